import PyProof.Rows.All
import Wide.All
import OpenK.AllK
import Wide.FinOn
import HandS.ForMost
import HandS.ForExc
import HandS.TryMany
import HandS.ExcInit
import HandS.ExcField
import HandS.Wide
import HandS.Zip
import HandS.Deep
import HandS.IsInst
import HandS.Property
import HandS.TupAny
import HandS.TupMul
import KE.KeyNested
import KE.GoesEnum
import HandS.Defaults
import HandS.CallSlots
import HandS.Style
import HandS.Flow
import HandS.Head0
import HandS.Head1
import HandS.Head2
import HandS.HeadEnd
import HandS.HeadHook1
import HandS.HeadHook2
import HandS.Codes
import HandS.Conv
import HandS.SetFor
import KE.KTupSum
import HandS.OwnEq
import KE.DataCmp
import HandS.Text
import HandS.FStr
import PyProof.StrBlock2
import PySem.Challenge.RW_turnedabout_k20_errors_are_apart
set_option Elab.async false
set_option linter.all false
set_option maxRecDepth 100000
set_option maxHeartbeats 2000000
namespace PL
open PySem PySem.Spec PyProof.Rows L2

inductive D where
  | non | bl (b : Bool) | int (i : Int) | str (x : Str)
  | tup (l : List D) | lst (l : List D) | fix (l : List D)
  | dct (l : List (D × D)) | obj (c : Str) (fs : List (Str × D))
  | cell (k : Nat) | fn (x : Str)

inductive Cell where
  | lst (l : List D) | dct (l : List (D × D)) | obj (c : Str) (fs : List (Str × D))
abbrev Sta := List Cell
structure Exn where
  c : Str
  fs : List (Str × D)
inductive Res (α : Type) where
  | ok (a : α) (st : Sta) | exc (e : Exn) (st : Sta) | bad
def M (α : Type) : Type := Sta → Res α
def M.pure {α : Type} (a : α) : M α := fun st => .ok a st
def Res.bind {α β : Type} (r : Res α) (k : α → M β) : Res β := match r with
  | .ok a st => k a st
  | .exc e st => .exc e st
  | .bad => .bad
def M.bind {α β : Type} (m : M α) (k : α → M β) : M β := fun st => (m st).bind k
instance : Monad M where
  pure := M.pure
  bind := M.bind
def M.bad {α : Type} : M α := fun _ => .bad
def M.of {α : Type} : Option α → M α
  | some a => M.pure a
  | none => M.bad
def Res.wp {α : Type} (r : Res α) (P : α → Sta → Prop) (X : Exn → Sta → Prop) : Prop := match r with
  | .ok a st => P a st
  | .exc e st => X e st
  | .bad => False
theorem SqT.mono {K : PySem.W.Frag} {F F' : Hp} {a : Addr} {xs : List V} (h : SqT K F a xs) (k : ∀ b o, F b = some o → F' b = some o) : SqT K F' a xs := by
  rcases h with (h | ⟨o, h⟩) | h
  · exact .inl (.inl (k _ _ h))
  · exact .inl (.inr ⟨o, k _ _ h⟩)
  · exact .inr h
theorem SqL.mono {K : PySem.W.Frag} {F F' : Hp} {a : Addr} {xs : List V} (h : SqL K F a xs) (k : ∀ b o, F b = some o → F' b = some o) : SqL K F' a xs := by
  rcases h with (h | ⟨o, h⟩) | h
  · exact .inl (.inl (k _ _ h))
  · exact .inl (.inr ⟨o, k _ _ h⟩)
  · exact .inr h
mutual
/-- a key, as the model tells keys apart: numbers (True is 1), None, tuples of such -/
def nkD : D → Option NestedKey
  | .non => some .none
  | .bl b => some (.num (if b = true then 1 else 0))
  | .int i => some (.num i)
  | .tup l => (nkDs l).map .tup
  | .str _ => none
  | .lst _ => none
  | .fix _ => none
  | .dct _ => none
  | .obj _ _ => none
  | .cell _ => none
  | .fn _ => none
def nkDs : List D → Option (List NestedKey)
  | [] => some []
  | d :: l => (nkD d).bind fun k => (nkDs l).map (k :: ·)
end
abbrev Ent := NestedKey × V × V
def DEnt (x : Ent) (e : DictEntry) : Prop := RelV x.2.1 e.key ∧ RelV x.2.2 e.val ∧ ∀ w : World, e.hash = x.1.hash w
def DRaw (a : Addr) (o : Obj) (l : List Ent) (h : Heap) : Prop := h.get? a = some o ∧ o.ExactDict ∧ (∃ es ep, o.data = .dict es ep ∧ Paired DEnt l es.toList) ∧ l.length ≤ sizeLine ∧ (a == sysModules) = false ∧ (l.map (·.1)).Nodup
def DO (a : Addr) (o : Obj) (l : List Ent) : HO := .ext (DRaw a o l)
section
variable (K : PySem.W.Frag) (mg : Str → Option Value) (F : Hp) (A : List Addr)
mutual
inductive Rep : V → D → Prop
  | non : Rep .non .non
  | bl (b : Bool) : Rep (.bl b) (.bl b)
  | int (i : Int) : Rep (.int i) (.int i)
  | str (x : Str) : Rep (.str x) (.str x)
  | tup {a : Addr} {vs : List V} {ds : List D} : SqT K F a vs → Reps vs ds → Rep (.ref a) (.tup ds)
  | lst {a : Addr} {vs : List V} {ds : List D} : F a = some (.lst vs) → Reps vs ds → Rep (.ref a) (.lst ds)
  | fix {a : Addr} {vs : List V} {ds : List D} : SqL K F a vs → Reps vs ds → Rep (.ref a) (.fix ds)
  | dct {a : Addr} {o : Obj} {l : List Ent} {ds : List (D × D)} : F a = some (DO a o l) → RepD l ds → Rep (.ref a) (.dct ds)
  | obj {a C dx : Addr} {c : Str} {l : List (Str × V)} {fs : List (Str × D)} : mg c = some (.ref C) → F a = some (.ins C dx l) → RepF l fs → Rep (.ref a) (.obj c fs)
  | cell {a : Addr} {k : Nat} : A[k]? = some a → Rep (.ref a) (.cell k)
  | fn {a : Addr} {x : Str} : mg x = some (.ref a) → Rep (.ref a) (.fn x)
inductive Reps : List V → List D → Prop
  | nil : Reps [] []
  | cons {v : V} {vs : List V} {d : D} {ds : List D} : Rep v d → Reps vs ds → Reps (v :: vs) (d :: ds)
inductive RepF : List (Str × V) → List (Str × D) → Prop
  | nil : RepF [] []
  | cons {x : Str} {v : V} {vs : List (Str × V)} {d : D} {ds : List (Str × D)} : Rep v d → RepF vs ds → RepF ((x, v) :: vs) ((x, d) :: ds)
inductive RepD : List Ent → List (D × D) → Prop
  | nil : RepD [] []
  | cons {n : NestedKey} {k v : V} {vs : List Ent} {q d : D} {ds : List (D × D)} : nkD q = some n → Rep k q → Rep v d → RepD vs ds → RepD ((n, k, v) :: vs) ((q, d) :: ds)
end
end
section
variable {K : PySem.W.Frag} {mg : Str → Option Value} {F F' : Hp} {A A' : List Addr}
mutual
theorem Rep.mono (kF : ∀ b o, F b = some o → F' b = some o) (kA : ∀ (k : Nat) (a : Addr), A[k]? = some a → A'[k]? = some a) : ∀ {v : V} {d : D}, Rep K mg F A v d → Rep K mg F' A' v d
  | _, _, .non => .non
  | _, _, .bl b => .bl b
  | _, _, .int i => .int i
  | _, _, .str x => .str x
  | _, _, .tup h r => .tup (SqT.mono h kF) (Reps.mono kF kA r)
  | _, _, .lst h r => .lst (kF _ _ h) (Reps.mono kF kA r)
  | _, _, .fix h r => .fix (SqL.mono h kF) (Reps.mono kF kA r)
  | _, _, .dct h r => .dct (kF _ _ h) (RepD.mono kF kA r)
  | _, _, .obj g h r => .obj g (kF _ _ h) (RepF.mono kF kA r)
  | _, _, .cell h => .cell (kA _ _ h)
  | _, _, .fn h => .fn h
theorem Reps.mono (kF : ∀ b o, F b = some o → F' b = some o) (kA : ∀ (k : Nat) (a : Addr), A[k]? = some a → A'[k]? = some a) : ∀ {v : List V} {d : List D}, Reps K mg F A v d → Reps K mg F' A' v d
  | _, _, .nil => .nil
  | _, _, .cons h r => .cons (Rep.mono kF kA h) (Reps.mono kF kA r)
theorem RepF.mono (kF : ∀ b o, F b = some o → F' b = some o) (kA : ∀ (k : Nat) (a : Addr), A[k]? = some a → A'[k]? = some a) : ∀ {v : List (Str × V)} {d : List (Str × D)}, RepF K mg F A v d → RepF K mg F' A' v d
  | _, _, .nil => .nil
  | _, _, .cons h r => .cons (Rep.mono kF kA h) (RepF.mono kF kA r)
theorem RepD.mono (kF : ∀ b o, F b = some o → F' b = some o) (kA : ∀ (k : Nat) (a : Addr), A[k]? = some a → A'[k]? = some a) : ∀ {v : List Ent} {d : List (D × D)}, RepD K mg F A v d → RepD K mg F' A' v d
  | _, _, .nil => .nil
  | _, _, .cons e q h r => .cons e (Rep.mono kF kA q) (Rep.mono kF kA h) (RepD.mono kF kA r)
end
theorem Reps.length : ∀ {vs : List V} {ds : List D}, Reps K mg F A vs ds → vs.length = ds.length
  | _, _, .nil => rfl
  | _, _, .cons _ r => congrArg (· + 1) (Reps.length r)
theorem Reps.drop : ∀ {vs : List V} {ds : List D} (n : Nat), Reps K mg F A vs ds → Reps K mg F A (vs.drop n) (ds.drop n)
  | _, _, 0, r => by simpa using r
  | _, _, _ + 1, .nil => by simpa using .nil
  | _, _, n + 1, .cons h r => by simpa using Reps.drop n r
theorem RepF.lookup {f : Str} : ∀ {vs : List (Str × V)} {ds : List (Str × D)} {d : D}, RepF K mg F A vs ds → ds.lookup f = some d → ∃ v, vs.lookup f = some v ∧ Rep K mg F A v d
  | _, _, _, .nil, e => by simp at e
  | _, _, d, .cons (x := x) h r, e => by
    rw [List.lookup_cons] at e ⊢
    cases q : (f == x) with
    | true =>
      rw [q] at e
      simp at e
      subst e
      exact ⟨_, rfl, h⟩
    | false =>
      rw [q] at e
      exact RepF.lookup r e
theorem RepD.length : ∀ {vs : List Ent} {ds : List (D × D)}, RepD K mg F A vs ds → vs.length = ds.length
  | _, _, .nil => rfl
  | _, _, .cons _ _ _ r => congrArg (· + 1) (RepD.length r)
theorem RepF.length : ∀ {vs : List (Str × V)} {ds : List (Str × D)}, RepF K mg F A vs ds → vs.length = ds.length
  | _, _, .nil => rfl
  | _, _, .cons _ r => congrArg (· + 1) (RepF.length r)
end

section
variable (K : PySem.W.Frag) (mg : Str → Option Value)
def CellAt (F : Hp) (A : List Addr) (H : Hp) (a : Addr) : Cell → Prop
  | .lst l => ∃ vs, H a = some (.lst vs) ∧ Reps K mg F A vs l
  | .dct l => ∃ o kvs, H a = some (DO a o kvs) ∧ RepD K mg F A kvs l
  | .obj c fs => ∃ C dx l, mg c = some (.ref C) ∧ H a = some (.ins C dx l) ∧ RepF K mg F A l fs
structure Good (F : Hp) (A : List Addr) (st : Sta) (H : Hp) : Prop where
  sub : ∀ b o, F b = some o → H b = some o
  len : A.length = st.length
  nd : A.Nodup
  off : ∀ a ∈ A, F a = none
  con : ∀ (k : Nat) a c, A[k]? = some a → st[k]? = some c → CellAt K mg F A H a c
end
structure Ext (F : Hp) (A : List Addr) (H F' : Hp) (A' : List Addr) (H' : Hp) : Prop where
  fro : ∀ b o, F b = some o → F' b = some o
  cel : ∀ (k : Nat) a, A[k]? = some a → A'[k]? = some a
  keep : ∀ b o, b ∉ A → H b = some o → H' b = some o
  there : ∀ b, H b ≠ none → H' b ≠ none
  newF : ∀ b, F' b ≠ none → F b ≠ none ∨ H b = none
  newA : ∀ b, b ∈ A' → b ∈ A ∨ H b = none
section
variable {K : PySem.W.Frag} {mg : Str → Option Value} {F F' F2 : Hp} {A A' A2 : List Addr} {H H' H2 : Hp} {st st' : Sta} {v : V} {d : D} {a : Addr} {c : Cell}
theorem Rep.ext (r : Rep K mg F A v d) (x : Ext F A H F' A' H') : Rep K mg F' A' v d := r.mono x.fro x.cel
theorem Reps.ext {vs : List V} {ds : List D} (r : Reps K mg F A vs ds) (x : Ext F A H F' A' H') : Reps K mg F' A' vs ds := r.mono x.fro x.cel
theorem RepF.ext {vs : List (Str × V)} {ds : List (Str × D)} (r : RepF K mg F A vs ds) (x : Ext F A H F' A' H') : RepF K mg F' A' vs ds := r.mono x.fro x.cel
theorem CellAt.mono (h : CellAt K mg F A H a c) (kF : ∀ b o, F b = some o → F' b = some o) (kA : ∀ (k : Nat) a, A[k]? = some a → A'[k]? = some a) (kH : ∀ o, H a = some o → H' a = some o) : CellAt K mg F' A' H' a c := by
  cases c with
  | lst l =>
    obtain ⟨vs, e, r⟩ := h
    exact ⟨vs, kH _ e, r.mono kF kA⟩
  | dct l =>
    obtain ⟨o, kvs, e, r⟩ := h
    exact ⟨o, kvs, kH _ e, r.mono kF kA⟩
  | obj c fs =>
    obtain ⟨C, dx, l, g, e, r⟩ := h
    exact ⟨C, dx, l, g, kH _ e, r.mono kF kA⟩
theorem CellAt.thr (h : CellAt K mg F A H a c) : ∃ o, H a = some o := by
  cases c with
  | lst l =>
    obtain ⟨vs, e, r⟩ := h
    exact ⟨_, e⟩
  | dct l =>
    obtain ⟨o, kvs, e, r⟩ := h
    exact ⟨_, e⟩
  | obj c fs =>
    obtain ⟨C, dx, l, g, e, r⟩ := h
    exact ⟨_, e⟩
theorem Good.there (G : Good K mg F A st H) (h : a ∈ A) : H a ≠ none := by
  obtain ⟨k, hk, e⟩ := List.mem_iff_getElem.mp h
  have hk' : k < st.length := by rw [← G.len]; exact hk
  obtain ⟨o, q⟩ := CellAt.thr (G.con k a _ (by rw [List.getElem?_eq_getElem hk, e]) (List.getElem?_eq_getElem hk'))
  rw [q]
  exact fun z => nomatch z
end

inductive SV where
  | fro (d : D) | own (c : Cell)
abbrev Env := List (Option SV)
structure Gh where
  F : Hp
  A : List Addr
  ow : Nat → Addr
structure Bs where
  F : Hp
  A : List Addr
  H : Hp
section
variable (K : PySem.W.Frag) (mg : Str → Option Value)
def SlotOk (B : Bs) (g : Gh) (σ : L2.St) (H : Hp) (i : Nat) : SV → Prop
  | .fro d => ∃ v, σ[i]? = some (some v) ∧ Rep K mg g.F g.A v d
  | .own c => σ[i]? = some (some (.ref (g.ow i))) ∧ CellAt K mg g.F g.A H (g.ow i) c ∧ g.F (g.ow i) = none ∧ g.ow i ∉ g.A ∧ B.H (g.ow i) = none
structure Rel (B : Bs) (g : Gh) (env : Env) (st : Sta) (σ : L2.St) (H : Hp) : Prop where
  ext : Ext B.F B.A B.H g.F g.A H
  good : Good K mg g.F g.A st H
  len : env.length = σ.length
  slot : ∀ (i : Nat) sv, env[i]? = some (some sv) → SlotOk K mg B g σ H i sv
  sep : ∀ (i j : Nat) c c', env[i]? = some (some (.own c)) → env[j]? = some (some (.own c')) → i ≠ j → g.ow i ≠ g.ow j
end
section
variable {K : PySem.W.Frag} {mg : Str → Option Value} {B : Bs} {g : Gh} {env : Env} {st st' : Sta} {σ : L2.St} {H H' : Hp} {F' : Hp} {A' : List Addr}
end
end PL
set_option Elab.async false
set_option linter.all false
set_option maxRecDepth 100000
set_option maxHeartbeats 2000000
namespace L2
open PySem PySem.Spec PyProof.Rows
section
variable {X : Cx} {e : Expr}
end
end L2
namespace PL
open PySem PySem.Spec PyProof.Rows L2

section
variable (K : PySem.W.Frag) (mg : Str → Option Value)
def ExnAt (F : Hp) (A : List Addr) (H : Hp) (cls : Value) (dd : Option Addr) (e : Exn) : Prop :=
  ∃ C : Addr, cls = .ref C ∧ mg e.c = some (.ref C) ∧ ((e.fs = [] ∧ dd = none) ∨ ∃ d l, dd = some d ∧ H d = some (.xd l) ∧ RepF K mg F A l e.fs)
def WPc {β : Type} (W : WX) (F : Hp) (A : List Addr) (σ : L2.St) (H : Hp) (r : Res β) (Post : β → Hp → List Addr → Hp → Prop) : Prop :=
  r.wp (fun b st' => ∀ F' A' H', Ext F A H F' A' H' → Good K mg F' A' st' H' → Post b F' A' H')
    (fun e st' => ∀ F' A' H' cls dd, Ext F A H F' A' H' → Good K mg F' A' st' H' → ExnAt K mg F' A' H' cls dd e → W cls dd σ H')
end
section
variable {K : PySem.W.Frag} {mg : Str → Option Value} {W : WX} {F F1 : Hp} {A A1 : List Addr} {σ : L2.St} {H H1 : Hp} {B : Bs} {g : Gh} {env : Env} {st : Sta} {α β : Type}
theorem WPc.bind {m : M α} {k : α → M β} {Post : β → Hp → List Addr → Hp → Prop} (h : WPc K mg W F A σ H ((m >>= k) st) Post) :
    WPc K mg W F A σ H (m st) (fun _ _ _ _ => True) ∨ True := .inr trivial
def M.rd {α : Type} (o : Sta → Option α) : M α := fun st => match o st with
  | some a => .ok a st
  | none => .bad
theorem WPc.rd {o : Sta → Option β} {Post : β → Hp → List Addr → Hp → Prop} (h : WPc K mg W F A σ H (M.rd o st) Post) :
    ∃ a, o st = some a ∧ ∀ F' A' H', Ext F A H F' A' H' → Good K mg F' A' st H' → Post a F' A' H' := by
  unfold WPc M.rd at h
  cases e : o st with
  | none =>
    rw [e] at h
    exact h.elim
  | some a =>
    rw [e] at h
    exact ⟨a, rfl, h⟩
end

section
variable (K : PySem.W.Frag) (mg : Str → Option Value)
end

section
variable {X : Cx} {B : Bs} {W : WX} {a b c : Expr} {pos : Pos} {f g h : Env → M D}
variable {tf tg : Env → M Bool} {rest : List Expr}
end
end PL
set_option Elab.async false
set_option linter.all false
set_option maxRecDepth 100000
set_option maxHeartbeats 2000000
namespace PL
open PySem PySem.Spec PyProof.Rows L2

mutual
def pd : D → PyData
  | .non => .none
  | .bl b => .bool b
  | .int i => .int i
  | .str x => .str x
  | .tup l => .tuple (pds l)
  | .lst l => .list (pds l)
  | .fix l => .list (pds l)
  | .dct _ => .dict []
  | .obj _ _ => .dict []
  | .cell _ => .dict []
  | .fn _ => .dict []
def pds : List D → List PyData
  | [] => []
  | d :: l => pd d :: pds l
end
def plain (d : D) : Bool := SeqAt.shaped (pd d)
section
variable {K : PySem.W.Frag} {mg : Str → Option Value} {F : Hp} {A : List Addr} {H : Hp}
mutual
theorem rep_dp (kH : ∀ b o, F b = some o → H b = some o) : ∀ {d : D} {v : V}, Rep K mg F A v d → (pd d).canLay0 = true → Dp K H v (pd d)
  | .non, _, r, _ => by cases r; unfold pd; exact .non
  | .bl b, _, r, _ => by cases r; unfold pd; exact .bl b
  | .int i, _, r, _ => by cases r; unfold pd; exact .int i
  | .str x, _, r, _ => by cases r; unfold pd; exact .str x
  | .tup l, _, r, h => by
    cases r with
    | tup s r => unfold pd at h ⊢; exact .tup (SqT.mono s kH) (reps_dp kH r (by simpa [PyData.canLay0] using h))
  | .lst l, _, r, h => by
    cases r with
    | lst s r => unfold pd at h ⊢; exact .lst (SqL.of (kH _ _ s)) (reps_dp kH r (by simpa [PyData.canLay0] using h))
  | .fix l, _, r, h => by
    cases r with
    | fix s r => unfold pd at h ⊢; exact .lst (SqL.mono s kH) (reps_dp kH r (by simpa [PyData.canLay0] using h))
  | .dct _, _, _, h => by unfold pd at h; simp [PyData.canLay0] at h
  | .obj _ _, _, _, h => by unfold pd at h; simp [PyData.canLay0] at h
  | .cell _, _, _, h => by unfold pd at h; simp [PyData.canLay0] at h
  | .fn _, _, _, h => by unfold pd at h; simp [PyData.canLay0] at h
theorem reps_dp (kH : ∀ b o, F b = some o → H b = some o) : ∀ {ds : List D} {vs : List V}, Reps K mg F A vs ds → PyData.canLayAll0 (pds ds) = true → DpAll K H vs (pds ds)
  | [], _, r, _ => by cases r; unfold pds; exact .nil
  | d :: ds, _, r, h => by
    cases r with
    | cons r1 r2 =>
      unfold pds at h ⊢
      have h' : (pd d).canLay0 = true ∧ PyData.canLayAll0 (pds ds) = true := by simpa [PyData.canLayAll0] using h
      exact .cons (rep_dp kH r1 h'.1) (reps_dp kH r2 h'.2)
end
end
section
variable {K : PySem.W.Frag} {mg : Str → Option Value} {F : Hp} {A : List Addr} {H : Hp}
end
section
variable (K : PySem.W.Frag) (mg : Str → Option Value)
end
section
variable {X : Cx} {B : Bs} {W : WX} {e a b : Expr} {lo hi : Option Expr} {pos p2 : Pos} {f : Env → M D} {l u : Env → M (Option Int)}
end
end PL
set_option Elab.async false
set_option linter.all false
set_option maxRecDepth 100000
set_option maxHeartbeats 2000000
namespace PL
open PySem PySem.Spec PyProof.Rows L2

inductive SR where
  | nx (env : Env) (st : Sta) | rt (d : D) (st : Sta) | bk (env : Env) (st : Sta) | ct (env : Env) (st : Sta) | exc (e : Exn) (env : Env) (st : Sta) | bad
abbrev SD := Env → Sta → SR
structure GExt (g g' : Gh) : Prop where
  fro : ∀ b o, g.F b = some o → g'.F b = some o
  cel : ∀ (k : Nat) (a : Addr), g.A[k]? = some a → g'.A[k]? = some a
theorem GExt.of {F F' : Hp} {A A' : List Addr} {H H' : Hp} {o o' : Nat → Addr} (x : Ext F A H F' A' H') : GExt ⟨F, A, o⟩ ⟨F', A', o'⟩ := ⟨x.fro, x.cel⟩
section
variable (K : PySem.W.Frag) (mg : Str → Option Value)
def WPs (B : Bs) (W : WX) (g : Gh) (E : Ends) : SR → Prop
  | .nx env st => ∀ g' σ H, GExt g g' → Rel K mg B g' env st σ H → E.nx σ H
  | .bk env st => ∀ g' σ H, GExt g g' → Rel K mg B g' env st σ H → E.bk σ H
  | .ct env st => ∀ g' σ H, GExt g g' → Rel K mg B g' env st σ H → E.ct σ H
  | .rt d st => ∀ F A H v, Ext B.F B.A B.H F A H → Good K mg F A st H → Rep K mg F A v d → E.rt v H
  | .exc e env st => ∀ g' σ H cls dd, GExt g g' → Rel K mg B g' env st σ H → ExnAt K mg g'.F g'.A H cls dd e → W cls dd σ H
  | .bad => False
end
section
variable {K : PySem.W.Frag} {mg : Str → Option Value} {B : Bs} {W : WX} {g g' : Gh} {E E' : Ends} {env : Env} {st : Sta} {σ : L2.St} {H : Hp}
end
section
variable {X : Cx} {B : Bs} {W : WX} {e c : Expr} {s : Stmt} {rest b1 b2 : List Stmt} {pos : Pos} {f : Env → M D} {t u : SD} {tc : Env → M Bool}
end

section
variable {X : Cx} {B : Bs} {W : WX} {e c : Expr} {s : Stmt} {rest b1 b2 : List Stmt} {pos : Pos} {f : Env → M D} {t u : SD} {tc : Env → M Bool} {g : Gh} {env : Env} {st : Sta} {σ : L2.St} {H : Hp}
section
variable (K : PySem.W.Frag) (mg : Str → Option Value)
end
end
end PL
set_option Elab.async false
set_option linter.all false
set_option maxRecDepth 100000
set_option maxHeartbeats 4000000
namespace PL
open PySem PySem.Spec PyProof.Rows L2

section
variable {prog : Program} {w : World} {A : Around} {E : Value → Shared → Prop} {s : Shared}
end
end PL
set_option Elab.async false
set_option linter.all false
set_option maxRecDepth 100000
set_option maxHeartbeats 2000000
namespace PL
open PySem PySem.Spec PyProof.Rows L2

section
variable (K : PySem.W.Frag) (mg : Str → Option Value)
def W0 : WX := fun _ _ _ _ => False
end
section
variable {K : PySem.W.Frag} {mg : Str → Option Value} {F : Hp} {A : List Addr}
end
section
variable {X : Cx} {B : Bs} {W : WX} {e e2 tg : Expr} {p pos tpos : Pos} {elts : List Expr} {kk : Nat} {f : Env → M D} {fs : Env → M (List D)}
end

section
variable {X : Cx} {B : Bs} {W : WX} {pos : Pos}
end

section
variable {X : Cx} {B : Bs} {W : WX} {pos : Pos}
end
end PL
set_option Elab.async false
set_option linter.all false
set_option maxRecDepth 100000
set_option maxHeartbeats 2000000
namespace PL
open PySem PySem.Spec PyProof.Rows L2

section
variable {K : PySem.W.Frag} {mg : Str → Option Value} {B : Bs} {g : Gh} {env : Env} {st : Sta} {σ : L2.St} {H : Hp}
end
section
variable {K : PySem.W.Frag} {mg : Str → Option Value} {W : WX}
structure Side (K : PySem.W.Frag) (mg : Str → Option Value) (B : Bs) (g : Gh) (env : Env) (H : Hp) (p : Addr) (l : List D) : Prop where
  at_ : ∃ vs, H p = some (.lst vs) ∧ Reps K mg g.F g.A vs l
  f : g.F p = none
  a : p ∉ g.A
  b : B.H p = none
  ne : ∀ (j : Nat) c, env[j]? = some (some (.own c)) → g.ow j ≠ p
theorem Side.ext {B : Bs} {g : Gh} {env : Env} {H H' : Hp} {p : Addr} {l : List D} {F' : Hp} {A' : List Addr} (s : Side K mg B g env H p l) (x : Ext g.F g.A H F' A' H') : Side K mg B ⟨F', A', g.ow⟩ env H' p l := by
  obtain ⟨vs, e, r⟩ := s.at_
  refine ⟨⟨vs, x.keep p _ s.a e, r.ext x⟩, ?_, fun m => ?_, s.b, s.ne⟩
  · show F' p = none
    exact Classical.byContradiction fun q => (x.newF p q).elim (fun z => z s.f) (fun z => by rw [e] at z; cases z)
  · exact (x.newA p m).elim s.a (fun z => by rw [e] at z; cases z)
end
section
variable {X : Cx} {B : Bs} {W : WX} {pos : Pos}
end
end PL
set_option Elab.async false
set_option linter.all false
set_option maxRecDepth 100000
set_option maxHeartbeats 2000000
namespace PL
open PySem PySem.Spec PyProof.Rows L2

section
variable {X : Cx} {B : Bs} {W : WX}
end

section
variable (K : PySem.W.Frag) (mg : Str → Option Value)
def spF (n : Nat) (f : List D → M D) : Sp := fun vs H Q E => ∃ F A st ds, Good K mg F A st H ∧ Reps K mg F A vs ds ∧ vs.length = n ∧
  (f ds st).wp (fun d st' => ∀ F' A' H' v, Ext F A H F' A' H' → Good K mg F' A' st' H' → Rep K mg F' A' v d → Q v H') (fun e st' => ∀ F' A' H' cls dd, Ext F A H F' A' H' → Good K mg F' A' st' H' → ExnAt K mg F' A' H' cls dd e → E cls dd H')
end
section
variable {K : PySem.W.Frag} {mg : Str → Option Value}
end
section
variable {X : Cx} {B : Bs} {W : WX} {e o : Expr} {es : List Expr} {x m : Str} {p pos apos : Pos} {k n : Nat} {f C : Addr} {fd : FuncData} {ps : List Str} {fs : Env → M (List D)} {F : List D → M D} {fo : Env → M D}
def argN (n : Nat) (F : List D → M D) : List D → M D := fun ds => if ds.length = n then F ds else M.bad
def isObj (c : Str) (d : D) (st : Sta) : Bool := match d with
  | .obj c' _ => c' == c
  | .cell k => (match st[k]? with
    | some (.obj c' _) => c' == c
    | _ => false)
  | _ => false
def noCell : Nat → D → Bool
  | 0, _ => false
  | n + 1, d => match d with
    | .cell _ => false
    | .tup l => l.all (noCell n)
    | .lst l => l.all (noCell n)
    | .fix l => l.all (noCell n)
    | .obj _ fs => fs.all fun p => noCell n p.2
    | .dct _ => false
    | _ => true
end
section
variable {K : PySem.W.Frag} {mg : Str → Option Value}
mutual
/-- a datum that was there before the cells grew -/
theorem Rep.down {F F' : Hp} {A A' : List Addr} (kA : ∀ (k : Nat) (a : Addr), A[k]? = some a → A'[k]? = some a) : ∀ {v0 v : V} {d : D}, Rep K mg F A v0 d → Rep K mg F' A' v d → Rep K mg F' A v d
  | _, _, _, .non, .non => .non
  | _, _, _, .bl b, .bl _ => .bl b
  | _, _, _, .int i, .int _ => .int i
  | _, _, _, .str x, .str _ => .str x
  | _, _, _, .tup _ r0, .tup s r => .tup s (Reps.down kA r0 r)
  | _, _, _, .lst _ r0, .lst s r => .lst s (Reps.down kA r0 r)
  | _, _, _, .fix _ r0, .fix s r => .fix s (Reps.down kA r0 r)
  | _, _, _, .dct _ r0, .dct s r => .dct s (RepD.down kA r0 r)
  | _, _, _, .obj _ _ r0, .obj g s r => .obj g s (RepF.down kA r0 r)
  | _, _, _, .cell h0, .cell h => by
    have e := kA _ _ h0
    rw [h] at e
    cases e
    exact .cell h0
  | _, _, _, .fn _, .fn g => .fn g
theorem Reps.down {F F' : Hp} {A A' : List Addr} (kA : ∀ (k : Nat) (a : Addr), A[k]? = some a → A'[k]? = some a) : ∀ {v0 v : List V} {d : List D}, Reps K mg F A v0 d → Reps K mg F' A' v d → Reps K mg F' A v d
  | _, _, _, .nil, .nil => .nil
  | _, _, _, .cons h0 r0, .cons h r => .cons (Rep.down kA h0 h) (Reps.down kA r0 r)
theorem RepF.down {F F' : Hp} {A A' : List Addr} (kA : ∀ (k : Nat) (a : Addr), A[k]? = some a → A'[k]? = some a) : ∀ {v0 v : List (Str × V)} {d : List (Str × D)}, RepF K mg F A v0 d → RepF K mg F' A' v d → RepF K mg F' A v d
  | _, _, _, .nil, .nil => .nil
  | _, _, _, .cons h0 r0, .cons h r => .cons (Rep.down kA h0 h) (RepF.down kA r0 r)
theorem RepD.down {F F' : Hp} {A A' : List Addr} (kA : ∀ (k : Nat) (a : Addr), A[k]? = some a → A'[k]? = some a) : ∀ {v0 v : List Ent} {d : List (D × D)}, RepD K mg F A v0 d → RepD K mg F' A' v d → RepD K mg F' A v d
  | _, _, _, .nil, .nil => .nil
  | _, _, _, .cons _ q0 h0 r0, .cons e q h r => .cons e (Rep.down kA q0 q) (Rep.down kA h0 h) (RepD.down kA r0 r)
end
abbrev Ini := List D → Option (Except Exn (List (Str × D)))
def okD (ds : List D) (d : D) : Prop := d ∈ ds ∨ noCell 8 d = true
structure IniOk (c : Str) (n : Nat) (F : List D → M D) (I : Ini) : Prop where
  eq : ∀ ds st r, I ds = some r → F (.cell st.length :: ds) (st ++ [.obj c []]) = (match r with
    | .ok fs => .ok .non (st ++ [.obj c fs])
    | .error e => .exc e (st ++ [.obj c []]))
  len : ∀ ds r, I ds = some r → ds.length = n
  ok : ∀ ds fs, I ds = some (.ok fs) → ∀ p ∈ fs, okD ds p.2
  no : ∀ ds e, I ds = some (.error e) → ∀ p ∈ e.fs, okD ds p.2
section
variable {X : Cx} {B : Bs} {W : WX} {e o : Expr} {es : List Expr} {x m : Str} {p pos apos : Pos} {k n : Nat} {f C : Addr} {fd : FuncData} {ps : List Str} {fs : Env → M (List D)} {F : List D → M D} {fo : Env → M D}
end
end
end PL
set_option Elab.async false
set_option linter.all false
set_option maxRecDepth 100000
set_option maxHeartbeats 4000000
namespace PL
open PySem PySem.Spec PyProof.Rows L2
structure OwnI (K : PySem.W.Frag) (CA : Addr) (mc : Value) : Prop where
  ga : PySem.W.specialIn K (.ref CA) "__getattribute__" = some (some (.builtin "type.__getattribute__"))
  rd : PySem.W.readsIn K CA mc = true
  at_ : PySem.W.findCls K (.ref CA) mc "__init__" = some (.val (.builtin "ValueError.__init__"))
section
variable {X : Cx} {o e : Expr} {es : List Expr} {to te : TE} {ta : TA} {f x : Str} {p p' p1 p2 pos : Pos} {CA : Addr} {mc : Value}
end
section
variable {X : Cx} {pins : List (Addr × Obj)} {σ : L2.St} {H1 : Hp}
end
section
variable {X : Cx} {e : Expr} {es : List Expr} {ta : TA} {x : Str} {p pos : Pos} {C fI : Addr} {k : Nat} {fd : FuncData} {ps : List Str} {names : List Str}
end
end PL
set_option Elab.async false
set_option linter.all false
set_option maxRecDepth 100000
set_option maxHeartbeats 4000000
namespace PL
open PySem PySem.Spec PyProof.Rows L2
section
variable {P : Program} {w : World} {K : PySem.W.Frag} {mg : Str → Option Value} {base : Heap} {x qual : Str} {params : Arguments} {body : List Stmt} {scope : Scope} {f C : Addr} {fd : FuncData} {k : Nat} {msg f1 f2 p1 p2 : Str}
end
section
variable {X : Cx} {B : Bs} {W : WX} {e : Expr} {es : List Expr} {c : Str} {p pos pos2 : Pos} {C fI : Addr} {k : Nat} {fd : FuncData} {ps : List Str} {names : List Str} {fs : Env → M (List D)}
end
end PL
set_option Elab.async false
set_option linter.all false
set_option maxRecDepth 100000
set_option maxHeartbeats 4000000
namespace PL
open PySem PySem.Spec PyProof.Rows L2
abbrev ClT := Value × Option Nat × (Addr → Value → Option Addr → TS)
inductive HdsA (X : Cx) : List ExceptHandler → List ClT → Prop
  | nil : HdsA X [] []
  | plain {x : Str} {c : Value} {ts : Addr → Value → Option Addr → TS} {b₀ : Stmt} {suite : List Stmt} {np pos' : Pos} {hds : List ExceptHandler} {l : List ClT} (hc : Names X x c)
      (hsu : ∀ (a : Addr) (oe : Obj) (cls : Value) (d : Option Addr) (pn : List (Addr × Obj)), Zc cls d oe → (∃ vs, oe.data = .fields vs) → PSs (X.suite a ((a, oe) :: pn)) (b₀ :: suite) (ts a cls d)) (r : HdsA X hds l) :
      HdsA X (.ExceptHandler (some (.Name x np)) none (b₀ :: suite) pos' :: hds) ((c, none, ts) :: l)
  | named {x n : Str} {i : Nat} {c : Value} {ts : Addr → Value → Option Addr → TS} {b₀ : Stmt} {suite : List Stmt} {np pos' : Pos} {hds : List ExceptHandler} {l : List ClT} (hc : Names X x c) (hi : X.N[i]? = some n) (hln : X.env.kindOf n = some .local)
      (hsu : ∀ (a : Addr) (oe : Obj) (cls : Value) (d : Option Addr) (pn : List (Addr × Obj)), Zc cls d oe → (∃ vs, oe.data = .fields vs) → PSs (X.suite a ((a, oe) :: pn)) (b₀ :: suite) (ts a cls d)) (r : HdsA X hds l) :
      HdsA X (.ExceptHandler (some (.Name x np)) (some n) (b₀ :: suite) pos' :: hds) ((c, some i, ts) :: l)
section
variable {X : Cx} {body : List Stmt} {h₀ : ExceptHandler} {hds : List ExceptHandler} {l : List ClT} {pos : Pos} {tb : WX → TS} {Wout : WX}
end
structure HdD where
  c : Str
  slot : Option Nat
  f : Exn → SD
def isSub (top c' c : Str) : Bool := c' == c || c == top
def ExM (K : PySem.W.Frag) (mg : Str → Option Value) (top : Str) (errs : List Str) (c : Str) (u : Value) : Prop := ∀ c' ∈ errs, ∀ C' : Addr, mg c' = some (.ref C') → PySem.W.exmOne K (.ref C') u = some (isSub top c' c)
def rSu (K : PySem.W.Frag) (mg : Str → Option Value) (B : Bs) (slot : Option Nat) (f : Exn → SD) (a : Addr) (cls : Value) (d : Option Addr) : TS := fun E σ H => ∃ g env st ex, Rel K mg B g env st σ H ∧ ExnAt K mg g.F g.A H cls d ex ∧
  (∀ i, slot = some i → σ[i]? = some (some (.ref a))) ∧ WPs K mg B W0 g E (f ex env st)
inductive HdsD (X : Cx) (B : Bs) (top : Str) (errs : List Str) : List ExceptHandler → List HdD → Prop
  | nil : HdsD X B top errs [] []
  | plain {x : Str} {C : Addr} {f : Exn → SD} {b₀ : Stmt} {suite : List Stmt} {np pos' : Pos} {hds : List ExceptHandler} {l : List HdD} (hg : Gl X x) (hm : X.mg x = some (.ref C)) (hx : ExM X.K X.mg top errs x (.ref C))
      (hsu : ∀ (a : Addr) (oe : Obj) (cls : Value) (d : Option Addr) (pn : List (Addr × Obj)), Zc cls d oe → (∃ vs, oe.data = .fields vs) → PSs (X.suite a ((a, oe) :: pn)) (b₀ :: suite) (rSu X.K X.mg B none f a cls d)) (r : HdsD X B top errs hds l) (hdb : (x == ("__debug__" : Str)) = false := by decide) :
      HdsD X B top errs (.ExceptHandler (some (.Name x np)) none (b₀ :: suite) pos' :: hds) (⟨x, none, f⟩ :: l)
  | named {x n : Str} {C : Addr} {i : Nat} {f : Exn → SD} {b₀ : Stmt} {suite : List Stmt} {np pos' : Pos} {hds : List ExceptHandler} {l : List HdD} (hg : Gl X x) (hm : X.mg x = some (.ref C)) (hx : ExM X.K X.mg top errs x (.ref C)) (hi : X.N[i]? = some n) (hln : X.env.kindOf n = some .local)
      (hsu : ∀ (a : Addr) (oe : Obj) (cls : Value) (d : Option Addr) (pn : List (Addr × Obj)), Zc cls d oe → (∃ vs, oe.data = .fields vs) → PSs (X.suite a ((a, oe) :: pn)) (b₀ :: suite) (rSu X.K X.mg B (some i) f a cls d)) (r : HdsD X B top errs hds l) (hdb : (x == ("__debug__" : Str)) = false := by decide) :
      HdsD X B top errs (.ExceptHandler (some (.Name x np)) (some n) (b₀ :: suite) pos' :: hds) (⟨x, some i, f⟩ :: l)
section
variable {X : Cx} {B : Bs} {W : WX} {body : List Stmt} {h₀ : ExceptHandler} {hds : List ExceptHandler} {pos : Pos} {t : SD} {top : Str} {errs : List Str}
section
variable {a : Addr} {oe : Obj} {cls : Value} {d : Option Addr} {pn : List (Addr × Obj)} {es : List Expr} {i : Nat} {r : Exn → Option (List D)}
end
end
end PL
set_option Elab.async false
set_option linter.all false
set_option maxRecDepth 100000
set_option maxHeartbeats 4000000
namespace PL
open PySem PySem.Spec PyProof.Rows L2
section
variable {X : Cx} {B : Bs} {W : WX}
theorem Side.there {B : Bs} {g : Gh} {env : Env} {H : Hp} {p : Addr} {l : List D} (s : Side X.K X.mg B g env H p l) : H p ≠ none := by
  obtain ⟨_, e, _⟩ := s.at_
  rw [e]
  exact fun z => nomatch z
variable {elt tg iter tg1 iter1 : Expr} {ifs ifs1 : List Expr} {scope : Scope} {own : List (Str × Nat)} {vs1 : List Nat} {pos spos : Pos} {it it1 : Env → M (List D)} {t t1 : TG} {bind bind1 : Bnd} {tst tst1 : Env → M Bool} {el : Env → M D}
end
end PL
set_option Elab.async false
set_option linter.all false
set_option maxRecDepth 100000
set_option maxHeartbeats 4000000
namespace PL
open PySem PySem.Spec PyProof.Rows L2
def tyNames : List String := ["NoneType", "bool", "int", "str", "tuple", "list", "dict"]
structure IsK (K : PySem.W.Frag) (mg : Str → Option Value) (cs : List Str) : Prop where
  hn : PySem.W.specialIn K (.builtin "object.__class__") "__get__" = some (some (.builtin "getset_descriptor.__get__"))
  htk : PySem.W.takesIn K (.builtin "object.__class__") = some true
  cls : ∀ c ∈ cs, ∀ C, mg c = some (.ref C) → Cls K C ∧ PySem.W.findIn K (.ref C) "__class__" = some (some (.builtin "object.__class__")) ∧ PySem.W.mroIn K C (.type "object") = some true
  ty : ∀ c ∈ cs, ∀ C, mg c = some (.ref C) → ∀ T ∈ ["tuple", "int", "bool"], PySem.W.kitOne K (.ref C) (.type T) = some false
  yt : ∀ c ∈ cs, ∀ C, mg c = some (.ref C) → ∀ T ∈ tyNames, PySem.W.kitOne K (.type T) (.ref C) = some false
  cc : ∀ c ∈ cs, ∀ C, mg c = some (.ref C) → ∀ c' ∈ cs, ∀ C', mg c' = some (.ref C') → PySem.W.kitOne K (.ref C) (.ref C') = some (c == c')
section
variable {K : PySem.W.Frag} {mg : Str → Option Value} {F : Hp} {A : List Addr} {st : Sta} {H : Hp} {v : V} {d : D}
end
section
variable {X : Cx} {B : Bs} {W : WX} {e : Expr} {f : Env → M D} {p p2 pos : Pos} {cs : List Str}
end
end PL
set_option Elab.async false
set_option linter.all false
set_option maxRecDepth 100000
set_option maxHeartbeats 4000000
namespace PL
open PySem PySem.Spec PyProof.Rows L2
abbrev Fr := PySem.W.Frag
def eqO (a b : Option (Option Value)) : Bool := decide (a = b)
def ga (x : Str) (K : Fr) : Addr := He.ga K x
def ma (C m : Str) (K : Fr) : Addr := He.ma K (He.ga K C) m
structure DefP where
  at_ : Fr → Addr
  name : Str
  qual : Str
  params : Arguments
  body : List Stmt
  scope : Scope
def fnP (K : Fr) (a : Addr) : He.FnW := match K.lookup a with
  | some ⟨_, _, .func fd, _⟩ => some (fd.name, fd.qualname, fd.params, fd.body, fd.scope, fd.globals, fd.closure, fd.builtins)
  | _ => none
def DefP.val (d : DefP) : He.FnW := some (d.name, d.qual, d.params, .stmts d.body, d.scope, mainGlobals, [], builtinsNs)
def DefP.ok (K : Fr) (d : DefP) : Bool := PySem.W.keepIn K (.ref (d.at_ K)) && (match K.lookup (d.at_ K) with
  | some ⟨_, _, .func fd, _⟩ => PySem.W.codeIn K fd.code d.qual && (He.dflB K fd.defaults [] && He.kwdB K fd.kwdefaults [])
  | _ => false)
abbrev Fa := Fr → Bool
abbrev AlP : Type := Bool × List He.FnW
def obsP (fa : List Fa) (fn : List DefP) (K : Fr) : AlP := ((fa.all fun f => f K) && fn.all fun d => d.ok K, fn.map fun d => fnP K (d.at_ K))
def valP (fn : List DefP) : AlP := (true, fn.map DefP.val)
def SaysP (fa : List Fa) (fn : List DefP) (K : Fr) : Prop := obsP fa fn K = valP fn
structure Txt (fa : List Fa) (fn : List DefP) (K : Fr) (mg : Str → Option Value) : Prop where
  at_ : ∃ h : Heap, K.In h ∧ h.Ns mainGlobals mg
  c : SaysP fa fn K
section
variable {fa : List Fa} {fn : List DefP} {K : Fr} {mg : Str → Option Value}
def fGlo (xs : List Str) : Fa := fun K => xs.all fun x => eqO (PySem.W.nsIn K mainGlobals x) (some (some (.ref (ga x K))))
def fFree (xs : List Str) : Fa := fun K => xs.all fun x => eqO (PySem.W.nsIn K mainGlobals x) (some none)
def fInt (x : Str) (i : Int) : Fa := fun K => (He.Fa.int x i).ok K
def fCls (C : Str) (fs : List Str) : Fa := fun K => (He.Fa.cls C).ok K && ((He.Fa.mkr C).ok K && fs.all fun f => eqO (PySem.W.findIn K (.ref (ga C K)) f) (some none))
def fMeth (C m : Str) : Fa := fun K => (He.Fa.meth C m).ok K
def fIs (cs : List Str) : Fa := fun K => eqO (PySem.W.specialIn K (.builtin "object.__class__") "__get__") (some (some (.builtin "getset_descriptor.__get__"))) && (decide (PySem.W.takesIn K (.builtin "object.__class__") = some true) && (cs.all fun c =>
  eqO (PySem.W.nsIn K mainGlobals c) (some (some (.ref (ga c K)))) && ((He.Fa.cls c).ok K && (eqO (PySem.W.findIn K (.ref (ga c K)) "__class__") (some (some (.builtin "object.__class__"))) && (decide (PySem.W.mroIn K (ga c K) (.type "object") = some true) && (
    (["tuple", "int", "bool"].all fun T => decide (PySem.W.kitOne K (.ref (ga c K)) (.type T) = some false)) && ((tyNames.all fun T => decide (PySem.W.kitOne K (.type T) (.ref (ga c K)) = some false)) &&
      cs.all fun c' => decide (PySem.W.kitOne K (.ref (ga c K)) (.ref (ga c' K)) = some (c == c')))))))))
def oexB (K : Fr) (C : Addr) : Bool := (match K.lookup C with
  | some ⟨.type "type", _, .cls cd, sl⟩ => (match cd.mro, sl.toList with
    | .ref C' :: bm, [_, _, _, _, some (.builtin n), _] => C' == C && (n == "ValueError.__new__" && (!cd.hasDel && (cd.hasDict && PySem.HandSPX.refsVE bm)))
    | _, _ => false)
  | _ => false) && (eqO (PySem.W.findIn K (.ref C) "__setattr__") (some (some (.builtin "object.__setattr__"))) && (decide (PySem.W.subIn K (.ref C) (.type "BaseException") = some true) && (decide (PySem.W.typeIn K (.ref C) = some (.type "type")) && PySem.W.keepIn K (.ref C))))
def fExc (C : Str) (fs : List Str) : Fa := fun K => oexB K (ga C K) && (eqO (PySem.W.findIn K (.ref (ga C K)) "__init__") (some (some (.ref (ma C "__init__" K)))) && (decide (PySem.W.typeIn K (.ref (ma C "__init__" K)) = some (.type "function")) && (fs.all (fun f => eqO (PySem.W.findIn K (.ref (ga C K)) f) (some none)) && xfB K (ga C K))))
def fExm (top : Str) (errs cs : List Str) : Fa := fun K => errs.all fun c' => eqO (PySem.W.nsIn K mainGlobals c') (some (some (.ref (ga c' K)))) && cs.all fun c => decide (PySem.W.exmOne K (.ref (ga c' K)) (.ref (ga c K)) = some (isSub top c' c))
def fTop (C : Str) : Fa := fun K => eqO (PySem.W.specialIn K (.ref (ga C K)) "__getattribute__") (some (some (.builtin "type.__getattribute__"))) && (PySem.W.readsIn K (ga C K) (.type "type") && (match PySem.W.findCls K (.ref (ga C K)) (.type "type") "__init__" with
  | some (.val (.builtin n)) => decide (n = "ValueError.__init__")
  | _ => false))
end
end PL
set_option Elab.async false
set_option linter.all false
set_option maxRecDepth 100000
set_option maxHeartbeats 4000000
namespace PL
open PySem PySem.Spec PyProof.Rows L2
section
variable {X : Cx} {B : Bs} {W : WX} {pos : Pos}
end
section
variable {fa : List Fa} {fn : List DefP} {K : Fr} {mg : Str → Option Value}
end
end PL
set_option Elab.async false
set_option linter.all false
set_option maxRecDepth 100000
set_option maxHeartbeats 4000000
namespace PL
open PySem PySem.Spec PyProof.Rows L2
section
variable {X : Cx} {B : Bs} {W : WX} {e : Expr} {pos : Pos}
end
end PL
set_option Elab.async false
set_option linter.all false
set_option maxRecDepth 100000
set_option maxHeartbeats 4000000
namespace PL
open PySem PySem.Spec PyProof.Rows L2
section
variable {X : Cx} {B : Bs} {W : WX} {e : Expr} {s : Stmt} {b : List Stmt}
end
section
variable {fa : List Fa} {fn : List DefP} {K : Fr} {mg : Str → Option Value}
end
section
variable {X : Cx} {B : Bs} {W : WX} {e a fe : Expr} {es : List Expr} {f : Env → M D} {fs : Env → M (List D)} {p p2 p3 pos : Pos} {k : Nat}
structure FnE (X : Cx) (k : Nat) (x : Str) (F : List D → M D) : Prop where
  ex : ∃ (ad : Addr) (fd : FuncData) (ps : List Str) (n : Nat) (F0 : List D → M D), X.mg x = some (.ref ad) ∧ PySem.W.keepIn X.K (.ref ad) = true ∧ Binds X.K fd ps [] ∧ FnOk X.prog X.w X.K X.mg X.base (L2.CX X.prog X.w) k ad fd ps (spF X.K X.mg n F0) ∧ F = argN n F0
inductive FnT (X : Cx) (k : Nat) : List (Str × (List D → M D)) → Prop
  | nil : FnT X k []
  | cons {x : Str} {F : List D → M D} {t : List (Str × (List D → M D))} : FnE X k x F → FnT X k t → FnT X k ((x, F) :: t)
end
end PL
set_option Elab.async false
set_option linter.all false
set_option maxRecDepth 100000
set_option maxHeartbeats 4000000
namespace PL
open PySem PySem.Spec PyProof.Rows L2
section
variable {X : Cx}
end
section
variable {X : Cx} {B : Bs} {W : WX} {e a : Expr} {f g : Env → M D} {apos cpos pos : Pos}
end
end PL
set_option Elab.async false
set_option linter.all false
set_option maxRecDepth 100000
set_option maxHeartbeats 4000000
namespace PL
open PySem PySem.Spec PyProof.Rows L2
section
variable {X : Cx} {B : Bs} {W : WX} {pos : Pos}
end
end PL
set_option Elab.async false
set_option linter.all false
set_option maxRecDepth 100000
set_option maxHeartbeats 4000000
namespace PL
open PySem PySem.Spec PyProof.Rows L2
section
variable {X : Cx} {B : Bs} {W : WX} {a b : Expr} {rest : List Expr} {f g : Env → M D} {pos : Pos}
end
end PL
set_option Elab.async false
set_option linter.all false
set_option maxRecDepth 100000
set_option maxHeartbeats 4000000
namespace PL
open PySem PySem.Spec PyProof.Rows L2
section
variable {prog : Program} {w : World} {A : Around} {E : Value → Shared → Prop} {s : Shared} {t : Addr} {xs : Array (Int × Tok)}
variable {its : List Value} {ns : List Int} {Q : Value → Shared → Prop}
end
section
variable {X : Cx}
end
end PL
set_option Elab.async false
set_option linter.all false
set_option maxRecDepth 100000
set_option maxHeartbeats 4000000
namespace PL
open PySem PySem.Spec PyProof.Rows L2
def kO2 (c : Str) (d : D) (st : Sta) : Bool := match d with
  | .int _ => true
  | .tup _ => true
  | d => isObj c d st
structure OwnOk (c : Str) (F : List D → M D) (o : D → D → Sta → Option D) : Prop where
  ok : ∀ x y st z, o x y st = some z → isObj c x st = true ∧ kO2 c y st = true ∧ ∃ b, z = .bl b ∧ F [x, y] st = .ok (.bl b) st
section
variable {X : Cx} {B : Bs} {W : WX} {a b : Expr} {pos : Pos} {k : Nat} {f C : Addr} {fd : FuncData} {ps : List Str} {F : List D → M D} {fa fb : Env → M D} {c : Str} {o : D → D → Sta → Option D}
end
section
variable {K : Fr} {C : Str}
end
end PL
set_option Elab.async false
set_option linter.all false
set_option maxRecDepth 100000
set_option maxHeartbeats 4000000
namespace PL
open PySem PySem.Spec PyProof.Rows L2
section
variable {prog : Program} {w : World} {A : Around} {E : Value → Shared → Prop} {s : Shared} {K : PySem.W.Frag} {x C f L : Addr} {h₀ : Heap} {m : Str → Option Value} {ox : Obj} {od : Option Obj} {name : Str} {b tb : Value}
open Builtin in
end
section
variable {X : Cx} {B : Bs} {W : WX} {a b : Expr} {pos : Pos} {k : Nat} {f C : Addr} {fd : FuncData} {ps : List Str} {F : List D → M D} {fa fb : Env → M D} {c : Str} {o : D → D → Sta → Option D}
end
section
variable {K : Fr} {C : Str}
end
end PL
set_option Elab.async false
set_option linter.all false
set_option maxRecDepth 100000
set_option maxHeartbeats 2000000
namespace PL
open PySem PySem.Spec PyProof.Rows L2
def frcN {α : Type} (n : Nat) (k : Nat → α) : α := match n with
  | 0 => k 0
  | m + 1 => k (m + 1)
def addR {β : Type} : List Addr → Nat → List Addr → (Nat → List Addr → β) → β
  | [], seen, new, k => k seen new
  | a :: r, seen, new, k => match (seen >>> a) % 2 with
    | 0 => frcN (seen ||| (1 <<< a)) fun s => addR r s (a :: new) k
    | _ + 1 => addR r seen new k
end PL
set_option Elab.async false
set_option linter.all false
set_option maxRecDepth 100000
set_option maxHeartbeats 4000000
namespace PL
open PySem PySem.Spec PyProof.Rows L2
def refsE (o : Obj) : List Addr := match o.data with
  | .fields vs => (match Nat.ble vs.size 8 with
    | true => He.refsD o
    | false => [])
  | _ => He.refsD o
def rndE {β : Type} (g : Addr → Option Obj) : List Addr → Nat → List Addr → (Nat → List Addr → β) → β
  | [], seen, new, k => k seen new
  | a :: r, seen, new, k => match g a with
    | some o => addR (refsE o) seen new fun s nw => rndE g r s nw k
    | none => rndE g r seen new k
def bfsE (g : Addr → Option Obj) : Nat → List Addr → Nat → List Addr → List Addr
  | 0, fr, _, acc => acc ++ fr
  | n + 1, fr, seen, acc => rndE g fr seen [] fun s nw => bfsE g n nw s (acc ++ fr)
def asE (g : Addr → Option Obj) (n : Nat) : List Addr := bfsE g n [mainGlobals] (1 <<< mainGlobals) []
def obsEG (n : Nat) (fa : List Fa) (fn : List DefP) (g : Addr → Option Obj) : AlP := obsP fa fn (He.frG g (cStatics :: asE g n))
def hookE (n : Nat) (fa : List Fa) (fn : List DefP) : PySem.W.Hook where
  α := AlP
  obs := fun s => obsEG n fa fn s.heap.get?
  val := fun _ => valP fn
  says := fun _ h => ∃ K : Fr, K.In h ∧ SaysP fa fn K
  of := fun _ _ e => ⟨_, He.frG_in, e⟩
  keeps := fun _ _ _ ⟨K, hK, c⟩ k => ⟨K, PySem.W.Frag.In.keeps hK k, c⟩
theorem obsEG_eq {n : Nat} {fa : List Fa} {fn : List DefP} {g : Addr → Option Obj} {s : Shared} (h : ∀ a, g a = s.heap.get? a) : obsEG n fa fn g = (hookE n fa fn).obs s := by
  have e : g = s.heap.get? := funext h
  rw [e] <;> rfl
end PL
namespace PL
open PySem PySem.Spec PyProof.Rows L2
def topS (i : Nat) : Stmt := PySem.Challenge.pw_turnedabout_k20_errors_are_apart.main.body.getD i (.Pass ⟨0, 0, 0, 0⟩)
def mkD (at_ : Fr → Addr) (name qual : Str) (s : Stmt) : DefP := ⟨at_, name, qual, defArgs s, defBody s, defScope s⟩
abbrev s_verdict_of : Stmt := (topS 31)
def d_verdict_of : DefP := mkD (ga "verdict_of") "verdict_of" "verdict_of" s_verdict_of
abbrev s_is_from : Stmt := (topS 23)
def d_is_from : DefP := mkD (ga "is_from") "is_from" "is_from" s_is_from
abbrev s_BadWay_init : Stmt := (inClass (topS 6) 0)
def d_BadWay_init : DefP := mkD (ma "BadWay" "__init__") "__init__" "BadWay.__init__" s_BadWay_init
abbrev s_need_two : Stmt := (topS 28)
def d_need_two : DefP := mkD (ga "need_two") "need_two" "need_two" s_need_two
abbrev s_is_cell : Stmt := (topS 24)
def d_is_cell : DefP := mkD (ga "is_cell") "is_cell" "is_cell" s_is_cell
abbrev s_is_group : Stmt := (topS 25)
def d_is_group : DefP := mkD (ga "is_group") "is_group" "is_group" s_is_group
abbrev s_BadGroup_init : Stmt := (inClass (topS 3) 0)
def d_BadGroup_init : DefP := mkD (ma "BadGroup" "__init__") "__init__" "BadGroup.__init__" s_BadGroup_init
abbrev s_verdict : Stmt := (topS 32)
def d_verdict : DefP := mkD (ga "verdict") "verdict" "verdict" s_verdict
abbrev s_BadGroups_init : Stmt := (inClass (topS 4) 0)
def d_BadGroups_init : DefP := mkD (ma "BadGroups" "__init__") "__init__" "BadGroups.__init__" s_BadGroups_init
abbrev s_Table_init : Stmt := (inClass (topS 26) 0)
def d_Table_init : DefP := mkD (ma "Table" "__init__") "__init__" "Table.__init__" s_Table_init
abbrev s_sums_of : Stmt := (topS 29)
def d_sums_of : DefP := mkD (ga "sums_of") "sums_of" "sums_of" s_sums_of
abbrev s_BadTable_init : Stmt := (inClass (topS 5) 0)
def d_BadTable_init : DefP := mkD (ma "BadTable" "__init__") "__init__" "BadTable.__init__" s_BadTable_init
abbrev s_need_table : Stmt := (topS 27)
def d_need_table : DefP := mkD (ga "need_table") "need_table" "need_table" s_need_table
abbrev s_totals : Stmt := (topS 30)
def d_totals : DefP := mkD (ga "totals") "totals" "totals" s_totals
abbrev s_is_turned : Stmt := (topS 33)
def d_is_turned : DefP := mkD (ga "is_turned") "is_turned" "is_turned" s_is_turned
abbrev s_turned : Stmt := (topS 34)
def d_turned : DefP := mkD (ga "turned") "turned" "turned" s_turned
abbrev s_room_of : Stmt := (topS 61)
def d_room_of : DefP := mkD (ga "room_of") "room_of" "room_of" s_room_of
abbrev s_BadNumber_init : Stmt := (inClass (topS 8) 0)
def d_BadNumber_init : DefP := mkD (ma "BadNumber" "__init__") "__init__" "BadNumber.__init__" s_BadNumber_init
abbrev s_BadWhole_init : Stmt := (inClass (topS 7) 0)
def d_BadWhole_init : DefP := mkD (ma "BadWhole" "__init__") "__init__" "BadWhole.__init__" s_BadWhole_init
abbrev s_need_whole : Stmt := (topS 60)
def d_need_whole : DefP := mkD (ga "need_whole") "need_whole" "need_whole" s_need_whole
abbrev s_need_both : Stmt := (topS 62)
def d_need_both : DefP := mkD (ga "need_both") "need_both" "need_both" s_need_both
abbrev s_bar : Stmt := (topS 63)
def d_bar : DefP := mkD (ga "bar") "bar" "bar" s_bar
abbrev s_BadLedger_init : Stmt := (inClass (topS 13) 0)
def d_BadLedger_init : DefP := mkD (ma "BadLedger" "__init__") "__init__" "BadLedger.__init__" s_BadLedger_init
abbrev s_need_ledger : Stmt := (topS 46)
def d_need_ledger : DefP := mkD (ga "need_ledger") "need_ledger" "need_ledger" s_need_ledger
abbrev s_turning : Stmt := (topS 50)
def d_turning : DefP := mkD (ga "turning") "turning" "turning" s_turning
abbrev s_Alone_init : Stmt := (inClass (topS 16) 0)
def d_Alone_init : DefP := mkD (ma "Alone" "__init__") "__init__" "Alone.__init__" s_Alone_init
abbrev s_Board_need_index : Stmt := (inClass (topS 38) 4)
def d_Board_need_index : DefP := mkD (ma "Board" "need_index") "need_index" "Board.need_index" s_Board_need_index
abbrev s_Board_drop_k14 : Stmt := (inClass (topS 38) 8)
def d_Board_drop_k14 : DefP := mkD (ma "Board" "drop") "drop" "Board.drop" s_Board_drop_k14
abbrev s_pairs_turned : Stmt := (topS 35)
def d_pairs_turned : DefP := mkD (ga "pairs_turned") "pairs_turned" "pairs_turned" s_pairs_turned
abbrev s_Board_init : Stmt := (inClass (topS 38) 0)
def d_Board_init : DefP := mkD (ma "Board" "__init__") "__init__" "Board.__init__" s_Board_init
abbrev s_law_early : Stmt := (topS 102)
def d_law_early : DefP := mkD (ga "_law_early") "_law_early" "_law_early" s_law_early
abbrev s_TooMany_init : Stmt := (inClass (topS 9) 0)
def d_TooMany_init : DefP := mkD (ma "TooMany" "__init__") "__init__" "TooMany.__init__" s_TooMany_init
abbrev s_widest : Stmt := (topS 65)
def d_widest : DefP := mkD (ga "widest") "widest" "widest" s_widest
abbrev s_NoTries_init : Stmt := (inClass (topS 10) 0)
def d_NoTries_init : DefP := mkD (ma "NoTries" "__init__") "__init__" "NoTries.__init__" s_NoTries_init
abbrev s_need_tries : Stmt := (topS 84)
def d_need_tries : DefP := mkD (ga "need_tries") "need_tries" "need_tries" s_need_tries
abbrev s_win : Stmt := (topS 98)
def d_win : DefP := mkD (ga "win") "win" "win" s_win
abbrev s_BadWeights_init : Stmt := (inClass (topS 11) 0)
def d_BadWeights_init : DefP := mkD (ma "BadWeights" "__init__") "__init__" "BadWeights.__init__" s_BadWeights_init
abbrev s_need_weights : Stmt := (topS 86)
def d_need_weights : DefP := mkD (ga "need_weights") "need_weights" "need_weights" s_need_weights
abbrev s_fair : Stmt := (topS 88)
def d_fair : DefP := mkD (ga "fair") "fair" "fair" s_fair
abbrev s_is_entry : Stmt := (topS 44)
def d_is_entry : DefP := mkD (ga "is_entry") "is_entry" "is_entry" s_is_entry
abbrev s_BadEntries_init : Stmt := (inClass (topS 12) 0)
def d_BadEntries_init : DefP := mkD (ma "BadEntries" "__init__") "__init__" "BadEntries.__init__" s_BadEntries_init
abbrev s_Ledger_init : Stmt := (inClass (topS 45) 0)
def d_Ledger_init : DefP := mkD (ma "Ledger" "__init__") "__init__" "Ledger.__init__" s_Ledger_init
abbrev s_BadMarks_init : Stmt := (inClass (topS 14) 0)
def d_BadMarks_init : DefP := mkD (ma "BadMarks" "__init__") "__init__" "BadMarks.__init__" s_BadMarks_init
abbrev s_need_marks : Stmt := (topS 47)
def d_need_marks : DefP := mkD (ga "need_marks") "need_marks" "need_marks" s_need_marks
abbrev s_by_marks : Stmt := (topS 49)
def d_by_marks : DefP := mkD (ga "by_marks") "by_marks" "by_marks" s_by_marks
abbrev s_BadUnread_init : Stmt := (inClass (topS 15) 0)
def d_BadUnread_init : DefP := mkD (ma "BadUnread" "__init__") "__init__" "BadUnread.__init__" s_BadUnread_init
abbrev s_need_unread : Stmt := (topS 76)
def d_need_unread : DefP := mkD (ga "need_unread") "need_unread" "need_unread" s_need_unread
abbrev s_how : Stmt := (topS 81)
def d_how : DefP := mkD (ga "how") "how" "how" s_how
abbrev s_Full_init : Stmt := (inClass (topS 17) 0)
def d_Full_init : DefP := mkD (ma "Full" "__init__") "__init__" "Full.__init__" s_Full_init
abbrev s_Board_need_group : Stmt := (inClass (topS 38) 5)
def d_Board_need_group : DefP := mkD (ma "Board" "need_group") "need_group" "Board.need_group" s_Board_need_group
abbrev s_Board_add_k14 : Stmt := (inClass (topS 38) 6)
def d_Board_add_k14 : DefP := mkD (ma "Board" "add") "add" "Board.add" s_Board_add_k14
abbrev s_InvalidText_init : Stmt := (inClass (topS 18) 0)
def d_InvalidText_init : DefP := mkD (ma "InvalidText" "__init__") "__init__" "InvalidText.__init__" s_InvalidText_init
abbrev s_number_in : Stmt := (topS 68)
def d_number_in : DefP := mkD (ga "number_in") "number_in" "number_in" s_number_in
abbrev s_cell_in : Stmt := (topS 69)
def d_cell_in : DefP := mkD (ga "cell_in") "cell_in" "cell_in" s_cell_in
abbrev s_group_in : Stmt := (topS 70)
def d_group_in : DefP := mkD (ga "group_in") "group_in" "group_in" s_group_in
abbrev s_read : Stmt := (topS 71)
def d_read : DefP := mkD (ga "read") "read" "read" s_read
abbrev s_law_call_k20 : Stmt := (topS 101)
def d_law_call_k20 : DefP := mkD (ga "_law_call") "_law_call" "_law_call" s_law_call_k20
abbrev s_law_second : Stmt := (topS 104)
def d_law_second : DefP := mkD (ga "_law_second") "_law_second" "_law_second" s_law_second
abbrev s_law_first : Stmt := (topS 103)
def d_law_first : DefP := mkD (ga "_law_first") "_law_first" "_law_first" s_law_first
abbrev s_law_taken : Stmt := (topS 100)
def d_law_taken : DefP := mkD (ga "_law_taken") "_law_taken" "_law_taken" s_law_taken
abbrev s_law_k20 : Stmt := (topS 105)
def d_law_k20 : DefP := mkD (ga "law") "law" "law" s_law_k20
def fn : List DefP := [d_verdict_of, d_is_from, d_BadWay_init, d_need_two, d_is_cell, d_is_group, d_BadGroup_init, d_verdict, d_BadGroups_init, d_Table_init, d_sums_of, d_BadTable_init, d_need_table, d_totals, d_is_turned, d_turned, d_room_of, d_BadNumber_init, d_BadWhole_init, d_need_whole, d_need_both, d_bar, d_BadLedger_init, d_need_ledger, d_turning, d_Alone_init, d_Board_need_index, d_Board_drop_k14, d_pairs_turned, d_Board_init, d_law_early, d_TooMany_init, d_widest, d_NoTries_init, d_need_tries, d_win, d_BadWeights_init, d_need_weights, d_fair, d_is_entry, d_BadEntries_init, d_Ledger_init, d_BadMarks_init, d_need_marks, d_by_marks, d_BadUnread_init, d_need_unread, d_how, d_Full_init, d_Board_need_group, d_Board_add_k14, d_InvalidText_init, d_number_in, d_cell_in, d_group_in, d_read, d_law_call_k20, d_law_second, d_law_first, d_law_taken, d_law_k20]
def fa : List Fa := [fGlo ["verdict_of", "is_from", "need_two", "is_cell", "is_group", "verdict", "sums_of", "need_table", "totals", "is_turned", "turned", "room_of", "need_whole", "need_both", "bar", "need_ledger", "turning", "pairs_turned", "_law_early", "widest"],
  fGlo ["need_tries", "win", "need_weights", "fair", "is_entry", "need_marks", "by_marks", "need_unread", "how", "number_in", "cell_in", "group_in", "read", "_law_call", "_law_second", "_law_first", "_law_taken", "law", "AboutError", "BadGroup"],
  fGlo ["BadGroups", "BadTable", "BadWay", "BadWhole", "BadNumber", "TooMany", "NoTries", "BadWeights", "BadEntries", "BadLedger", "BadMarks", "BadUnread", "Alone", "Full", "InvalidText", "Table", "Board", "Ledger", "Unread"],
  fFree ["all", "bool", "enumerate", "int", "isinstance", "len", "max", "min", "range", "sum", "tuple"],
  fInt "MOST_WAYS" (4),
  fInt "MOST_GROUPS" (8),
  fInt "MOST" (1000000000000000000000000000000),
  fInt "MOST_ENTRIES" (40),
  fInt "MOST_MARKS" (4),
  fInt "MOST_PARTED" (3),
  fInt "MOST_TIMES" (1000000000),
  fInt "MOST_TRIES_partings" (10),
  fInt "MOST_FIGURES" (31),
  fInt "MOST_TRIES_unread" (1000),
  fFree [],
  fIs ["Table", "Ledger", "Unread", "Board"],
  fCls "Table" ["rows"],
  fCls "Ledger" ["lines", "many"],
  fCls "Unread" [],
  fCls "Board" ["stood"],
  fMeth "Board" "need_index",
  fMeth "Board" "drop",
  fMeth "Board" "need_group",
  fMeth "Board" "add",
  fExc "BadGroup" [],
  fExc "BadGroups" ["index"],
  fExc "BadTable" [],
  fExc "BadWay" [],
  fExc "BadWhole" [],
  fExc "BadNumber" ["n"],
  fExc "TooMany" ["most"],
  fExc "NoTries" ["index"],
  fExc "BadWeights" [],
  fExc "BadEntries" ["index"],
  fExc "BadLedger" [],
  fExc "BadMarks" [],
  fExc "BadUnread" [],
  fExc "Alone" [],
  fExc "Full" [],
  fExc "InvalidText" ["line", "word"],
  fTop "AboutError",
  fExm "AboutError" ["BadGroup", "BadGroups", "BadTable", "BadWay", "BadWhole", "BadNumber", "TooMany", "NoTries", "BadWeights", "BadEntries", "BadLedger", "BadMarks", "BadUnread", "Alone", "Full", "InvalidText"] ["TooMany", "NoTries", "BadWeights", "BadEntries", "BadMarks", "BadUnread", "Full", "InvalidText", "AboutError", "BadGroup", "BadGroups", "BadTable", "BadWay", "BadWhole", "BadNumber", "BadLedger", "Alone"]]

abbrev R : PySem.W.OpenRow := PySem.W.OpenLaw.row PySem.Challenge.rw_turnedabout_k20_errors_are_apart
abbrev hk : PySem.W.Hook := hookE 5 fa fn
def ob (s : PySem.W.SharedT) : AlP := obsEG 5 fa fn (HandSHeadRun.getT s)
theorem ob_eq (s : PySem.W.SharedT) : ob s = hk.obs s.abs := obsEG_eq (HandSHeadRun.getT_eq s)
def loose : List Str := ((["_wall", "AboutError", "BadGroup", "BadGroups", "BadTable", "BadWay", "BadWhole", "BadNumber", "TooMany", "NoTries", "BadWeights", "BadEntries", "BadLedger", "BadMarks", "BadUnread", "Alone", "Full", "InvalidText", "MOST_WAYS", "MOST_GROUPS"] : List Str) ++ (["MOST", "is_from", "is_cell", "is_group", "Table", "need_table", "need_two", "sums_of", "totals", "verdict_of", "verdict", "is_turned", "turned", "pairs_turned", "subsets", "Board", "MOST_ENTRIES", "MOST_MARKS", "MOST_PARTED", "MOST_TIMES"] : List Str) ++ (["is_entry", "Ledger", "need_ledger", "need_marks", "rows_by", "by_marks", "turning", "common", "made", "plus", "times", "is_less", "sum_of", "MOST_TRIES_partings", "need_whole", "room_of", "need_both", "bar", "lead_in", "widest"] : List Str) ++ (["MOST_FIGURES", "number_in", "cell_in", "group_in", "read", "MOST_TRIES_unread", "is_span", "Unread", "need_unread", "tries_of", "best_in", "counts_of", "is_sure", "how", "NOUGHT", "need_tries", "need_way", "need_weights", "fair_of", "fair"] : List Str) ++ (["leads_of", "minor", "volume", "turned_rows", "spread", "least_lead", "greatest_lead", "kernel", "even_of", "win", "_law_taken", "_law_call", "_law_early", "_law_first", "_law_second"] : List Str))
theorem run (w : World) : HandSHeadRun.RunEq R (PySem.W.view R.prog [105]) hk ob 20000 loose w := by
  intro os
  kernel_rfl

end PL
set_option Elab.async false
set_option linter.all false
set_option maxRecDepth 100000
set_option maxHeartbeats 2000000
namespace PL
open PySem PySem.Spec PyProof.Rows L2

def Cell.toD : Cell → D
  | .lst l => .lst l
  | .dct l => .dct l
  | .obj c fs => .obj c fs
theorem Res.wp_mono {α : Type} {r : Res α} {P P' : α → Sta → Prop} {X X' : Exn → Sta → Prop} (h : r.wp P X) (hP : ∀ a st, P a st → P' a st) (hX : ∀ e st, X e st → X' e st) : r.wp P' X' := by
  cases r with
  | ok a st => exact hP a st h
  | exc e st => exact hX e st h
  | bad => exact h
theorem wp_bind {α β : Type} {m : M α} {k : α → M β} {st : Sta} {P : β → Sta → Prop} {X : Exn → Sta → Prop} (h : ((m >>= k) st).wp P X) : (m st).wp (fun a st' => (k a st').wp P X) X := by
  have h' : ((m st).bind k).wp P X := h
  cases e : m st with
  | ok a st' =>
    rw [e] at h'
    exact h'
  | exc e' st' =>
    rw [e] at h'
    exact h'
  | bad =>
    rw [e] at h'
    exact h'
section
variable (K : PySem.W.Frag) (mg : Str → Option Value) (F : Hp) (A : List Addr)
end
section
variable {K : PySem.W.Frag} {mg : Str → Option Value} {F F' : Hp} {A A' : List Addr}
theorem Reps.get : ∀ {vs : List V} {ds : List D} {i : Nat} {d : D}, Reps K mg F A vs ds → ds[i]? = some d → ∃ v, vs[i]? = some v ∧ Rep K mg F A v d
  | _, _, _, _, .nil, e => by simp at e
  | _, _, 0, _, .cons h _, e => by
    simp at e
    subst e
    exact ⟨_, rfl, h⟩
  | _, _, i + 1, d, .cons _ r, e => by
    obtain ⟨v, h1, h2⟩ := Reps.get (i := i) (d := d) r (by simpa using e)
    exact ⟨v, by simpa using h1, h2⟩
theorem Reps.app : ∀ {vs ws : List V} {ds es : List D}, Reps K mg F A vs ds → Reps K mg F A ws es → Reps K mg F A (vs ++ ws) (ds ++ es)
  | _, _, _, _, .nil, s => s
  | _, _, _, _, .cons h r, s => .cons h (Reps.app r s)
theorem Reps.set : ∀ {vs : List V} {ds : List D} {v : V} {d : D} (n : Nat), Rep K mg F A v d → Reps K mg F A vs ds → Reps K mg F A (vs.set n v) (ds.set n d)
  | _, _, _, _, _, _, .nil => .nil
  | _, _, _, _, 0, h, .cons _ r => .cons h r
  | _, _, _, _, n + 1, h, .cons q r => .cons q (Reps.set n h r)
theorem Reps.reverse {vs : List V} {ds : List D} (h : Reps K mg F A vs ds) : Reps K mg F A vs.reverse ds.reverse := by
  induction vs generalizing ds with
  | nil =>
    cases h
    exact .nil
  | cons v vs ih =>
    cases h with
    | cons h r =>
      rw [List.reverse_cons, List.reverse_cons]
      exact Reps.app (ih r) (.cons h .nil)
theorem Reps.rep {vs : List V} {ds : List D} (h : Reps K mg F A vs ds) : ∀ n : Nat, Reps K mg F A (List.replicate n vs).flatten (List.replicate n ds).flatten
  | 0 => .nil
  | n + 1 => by
    rw [List.replicate_succ, List.replicate_succ, List.flatten_cons, List.flatten_cons]
    exact Reps.app h (Reps.rep h n)
theorem RepF.names : ∀ {vs : List (Str × V)} {ds : List (Str × D)}, RepF K mg F A vs ds → vs.map (·.1) = ds.map (·.1)
  | _, _, .nil => rfl
  | _, _, .cons _ r => by
    rw [List.map_cons, List.map_cons, RepF.names r]
end

section
variable (K : PySem.W.Frag) (mg : Str → Option Value)
end
section
variable {K : PySem.W.Frag} {mg : Str → Option Value} {F F' F2 : Hp} {A A' A2 : List Addr} {H H' H2 : Hp} {st st' : Sta} {v : V} {d : D} {a : Addr} {c : Cell}
theorem Ext.refl : Ext F A H F A H := ⟨fun _ _ h => h, fun _ _ h => h, fun _ _ _ h => h, fun _ h => h, fun _ h => .inl h, fun _ h => .inl h⟩
theorem Ext.trans (x : Ext F A H F' A' H') (y : Ext F' A' H' F2 A2 H2) : Ext F A H F2 A2 H2 where
  fro := fun b o h => y.fro b o (x.fro b o h)
  cel := fun k a h => y.cel k a (x.cel k a h)
  keep := fun b o n h => y.keep b o (fun m => (x.newA b m).elim n (fun z => by rw [h] at z; cases z)) (x.keep b o n h)
  there := fun b h => y.there b (x.there b h)
  newF := fun b h => (y.newF b h).elim (x.newF b) (fun z => .inr (Classical.byContradiction fun q => x.there b q z))
  newA := fun b h => (y.newA b h).elim (x.newA b) (fun z => .inr (Classical.byContradiction fun q => x.there b q z))
theorem CellAt.rep {o : HO} (h : CellAt K mg F A H a c) (e : H a = some o) (kF : ∀ b o, F b = some o → F' b = some o) (ha : F' a = some o) : Rep K mg F' A (.ref a) c.toD := by
  cases c with
  | lst l =>
    obtain ⟨vs, e1, r⟩ := h
    rw [e] at e1; cases e1
    exact .lst ha (r.mono kF fun _ _ z => z)
  | dct l =>
    obtain ⟨od, kvs, e1, r⟩ := h
    rw [e] at e1
    have e2 : o = DO a od kvs := Option.some.inj e1
    subst e2
    exact .dct ha (r.mono kF fun _ _ z => z)
  | obj c fs =>
    obtain ⟨C, dx, l, g, e1, r⟩ := h
    rw [e] at e1; cases e1
    exact .obj g ha (r.mono kF fun _ _ z => z)
theorem nodup_get {l : List Addr} (n : l.Nodup) {i j : Nat} {x : Addr} (a : l[i]? = some x) (b : l[j]? = some x) : i = j := by
  obtain ⟨h1, e1⟩ := List.getElem?_eq_some_iff.mp a
  obtain ⟨h2, e2⟩ := List.getElem?_eq_some_iff.mp b
  exact (List.getElem_inj n).mp (e1.trans e2.symm)
theorem Good.addr (G : Good K mg F A st H) {k : Nat} (h : st[k]? = some c) : ∃ a, A[k]? = some a ∧ CellAt K mg F A H a c := by
  have hk : k < A.length := by
    rw [G.len]
    exact (List.getElem?_eq_some_iff.mp h).1
  exact ⟨A[k], List.getElem?_eq_getElem hk, G.con k _ c (List.getElem?_eq_getElem hk) h⟩
theorem Ext.alloc {o : HO} {p : Addr} (G : Good K mg F A st H) (hp : H p = none) : Ext F A H (upd F p o) A (upd H p o) ∧ Good K mg (upd F p o) A st (upd H p o) := by
  have fp : F p = none := by
    cases q : F p with
    | none => rfl
    | some u => rw [G.sub p u q] at hp; cases hp
  have ne : ∀ {b : Addr} {u : HO}, F b = some u → b ≠ p := fun {b u} e z => by subst z; rw [fp] at e; cases e
  have neH : ∀ {b : Addr} {u : HO}, H b = some u → b ≠ p := fun {b u} e z => by subst z; rw [hp] at e; cases e
  have kF : ∀ b u, F b = some u → upd F p o b = some u := fun b u e => by rw [upd_ne (ne e)]; exact e
  refine ⟨⟨kF, fun _ _ h => h, fun b u _ e => by rw [upd_ne (neH e)]; exact e, fun b h => ?_, fun b h => ?_, fun _ h => .inl h⟩, ⟨fun b u e => ?_, G.len, G.nd, fun a ha => ?_, fun k a c h1 h2 => ?_⟩⟩
  · by_cases q : b = p
    · rw [q, upd_same]; exact fun z => nomatch z
    · rw [upd_ne q]; exact h
  · by_cases q : b = p
    · rw [q]; exact .inr hp
    · rw [upd_ne q] at h; exact .inl h
  · by_cases q : b = p
    · subst q; rw [upd_same] at e ⊢; exact e
    · rw [upd_ne q] at e ⊢; exact G.sub b u e
  · have q : a ≠ p := fun z => G.there ha (z ▸ hp)
    rw [upd_ne q]; exact G.off a ha
  · have q : a ≠ p := fun z => G.there (List.mem_of_getElem? h1) (z ▸ hp)
    exact (G.con k a c h1 h2).mono kF (fun _ _ h => h) fun u e => by rw [upd_ne q]; exact e
theorem Ext.write {k : Nat} {p : Addr} {o : HO} (G : Good K mg F A st H) (hp : A[k]? = some p) (hc : CellAt K mg F A (upd H p o) p c) : Ext F A H F A (upd H p o) ∧ Good K mg F A (st.set k c) (upd H p o) := by
  have pA : p ∈ A := List.mem_of_getElem? hp
  refine ⟨⟨fun _ _ h => h, fun _ _ h => h, fun b u n e => by rw [upd_ne (fun z : b = p => n (by rw [z]; exact pA))]; exact e, fun b h => ?_, fun b h => .inl h, fun b h => .inl h⟩, ⟨fun b u e => ?_, by rw [List.length_set]; exact G.len, G.nd, G.off, fun j a c' h1 h2 => ?_⟩⟩
  · by_cases q : b = p
    · rw [q, upd_same]; exact fun z => nomatch z
    · rw [upd_ne q]; exact h
  · rw [upd_ne (fun z : b = p => by subst z; rw [G.off b pA] at e; cases e)]; exact G.sub b u e
  · by_cases q : j = k
    · subst q
      rw [hp] at h1; cases h1
      have hk : j < st.length := by rw [← G.len]; exact (List.getElem?_eq_some_iff.mp hp).1
      rw [List.getElem?_set_self hk] at h2
      cases h2
      exact hc
    · rw [List.getElem?_set_ne (Ne.symm q)] at h2
      exact (G.con j a c' h1 h2).mono (fun _ _ h => h) (fun _ _ h => h) fun u e => by rw [upd_ne (fun z : a = p => q (nodup_get G.nd (by rw [h1, z]) hp))]; exact e
theorem Ext.cellNew {p : Addr} {o : HO} (G : Good K mg F A st H) (hp : H p = none) (hc : CellAt K mg F (A ++ [p]) (upd H p o) p c) : Ext F A H F (A ++ [p]) (upd H p o) ∧ Good K mg F (A ++ [p]) (st ++ [c]) (upd H p o) := by
  have pA : p ∉ A := fun z => G.there z hp
  have fp : F p = none := by
    cases q : F p with
    | none => rfl
    | some u => rw [G.sub p u q] at hp; cases hp
  have neH : ∀ {b : Addr} {u : HO}, H b = some u → b ≠ p := fun {b u} e z => by subst z; rw [hp] at e; cases e
  have cel : ∀ (k : Nat) a, A[k]? = some a → (A ++ [p])[k]? = some a := fun k a h => by
    rw [List.getElem?_append_left (List.getElem?_eq_some_iff.mp h).1]; exact h
  refine ⟨⟨fun _ _ h => h, cel, fun b u n e => by rw [upd_ne (neH e)]; exact e, fun b h => ?_, fun b h => .inl h, fun b h => ?_⟩, ⟨fun b u e => ?_, by simp [G.len], ?_, fun a ha => ?_, fun j a c' h1 h2 => ?_⟩⟩
  · by_cases q : b = p
    · rw [q, upd_same]; exact fun z => nomatch z
    · rw [upd_ne q]; exact h
  · rcases List.mem_append.mp h with z | z
    · exact .inl z
    · simp at z; rw [z]; exact .inr hp
  · rw [upd_ne (neH (G.sub b u e))]; exact G.sub b u e
  · rw [List.nodup_append]
    exact ⟨G.nd, by simp, fun a ha b hb => by simp at hb; subst hb; exact fun z => pA (z ▸ ha)⟩
  · rcases List.mem_append.mp ha with z | z
    · exact G.off a z
    · simp at z; rw [z]; exact fp
  · by_cases hj : j < A.length
    · rw [List.getElem?_append_left hj] at h1
      rw [List.getElem?_append_left (by rw [← G.len]; exact hj)] at h2
      exact (G.con j a c' h1 h2).mono (fun _ _ h => h) cel fun u e => by rw [upd_ne (neH e)]; exact e
    · have e1 := (List.getElem?_eq_some_iff.mp h1).1
      rw [List.length_append, List.length_singleton] at e1
      have ej : j = A.length := by omega
      subst ej
      have h1' : a = p := by simpa using h1.symm
      subst h1'
      rw [G.len] at h2
      have h2' : c' = c := by simpa using h2.symm
      subst h2'
      exact hc
end

section
variable (K : PySem.W.Frag) (mg : Str → Option Value)
end
section
variable {K : PySem.W.Frag} {mg : Str → Option Value} {B : Bs} {g : Gh} {env : Env} {st st' : Sta} {σ : L2.St} {H H' : Hp} {F' : Hp} {A' : List Addr}
theorem Rel.step (R : Rel K mg B g env st σ H) (x : Ext g.F g.A H F' A' H') (G : Good K mg F' A' st' H') : Rel K mg B ⟨F', A', g.ow⟩ env st' σ H' where
  ext := R.ext.trans x
  good := G
  len := R.len
  slot := fun i sv e => by
    have h := R.slot i sv e
    cases sv with
    | fro d =>
      obtain ⟨v, e1, r⟩ := h
      exact ⟨v, e1, r.ext x⟩
    | own c =>
      obtain ⟨e1, r, f, n, b⟩ := h
      obtain ⟨o, ho⟩ := r.thr
      refine ⟨e1, r.mono x.fro x.cel fun o z => x.keep _ o n z, ?_, fun z => ?_, b⟩
      · show F' (g.ow i) = none
        exact Classical.byContradiction fun q => (x.newF _ q).elim (fun z => z f) (fun z => by rw [ho] at z; cases z)
      · exact (x.newA _ z).elim n (fun z => by rw [ho] at z; cases z)
  sep := R.sep
end
end PL
set_option Elab.async false
set_option linter.all false
set_option maxRecDepth 100000
set_option maxHeartbeats 2000000
namespace L2
open PySem PySem.Spec PyProof.Rows
section
variable {X : Cx} {e : Expr}
theorem PE.imp {t t' : TE} (h : PE X e t) (i : ∀ σ H Q, t' σ H Q → t σ H Q) : PE X e t' := ⟨fun pins s σ H Q I z => h.run pins s σ H Q I (i σ H Q z)⟩
theorem PT.imp {t t' : TT} (h : PT X e t) (i : ∀ σ H Q, t' σ H Q → t σ H Q) : PT X e t' := ⟨fun pins s σ H Q I z => h.run pins s σ H Q I (i σ H Q z)⟩
theorem PW.imp {e : Expr} {t t' : TT} (h : PW X e t) (i : ∀ σ H Q, t' σ H Q → t σ H Q) : PW X e t' := ⟨fun wh pins s σ H Q I z => h.run wh pins s σ H Q I (i σ H Q z)⟩
theorem PA.imp {es : List Expr} {t t' : TA} (h : PA X es t) (i : ∀ σ H Q, t' σ H Q → t σ H Q) : PA X es t' := ⟨fun pos pins s σ H Q I z => h.run pos pins s σ H Q I (i σ H Q z)⟩
theorem PS.imp {st : Stmt} {t t' : TS} (h : PS X st t) (i : ∀ D σ H, t' D σ H → t D σ H) : PS X st t' := ⟨fun pins s σ H D I z => h.run pins s σ H D I (i D σ H z)⟩
theorem PSs.imp {st : List Stmt} {t t' : TS} (h : PSs X st t) (i : ∀ D σ H, t' D σ H → t D σ H) : PSs X st t' := ⟨fun pins s σ H D I z => h.run pins s σ H D I (i D σ H z)⟩
end
end L2
namespace PL
open PySem PySem.Spec PyProof.Rows L2

section
variable (K : PySem.W.Frag) (mg : Str → Option Value)
def rE (B : Bs) (W : WX) (f : Env → M D) : TE := fun σ H Q => ∃ g env st, Rel K mg B g env st σ H ∧ WPc K mg W g.F g.A σ H (f env st) (fun d F' A' H' => ∀ v, Rep K mg F' A' v d → Q v H')
def rA (B : Bs) (W : WX) (f : Env → M (List D)) : TA := fun σ H Q => ∃ g env st, Rel K mg B g env st σ H ∧ WPc K mg W g.F g.A σ H (f env st) (fun ds F' A' H' => ∀ vs, Reps K mg F' A' vs ds → Q vs H')
def rT (B : Bs) (W : WX) (f : Env → M Bool) : TT := fun σ H Q => ∃ g env st, Rel K mg B g env st σ H ∧ WPc K mg W g.F g.A σ H (f env st) (fun b F' A' H' => Q b H')
end
section
variable {K : PySem.W.Frag} {mg : Str → Option Value} {W : WX} {F F1 : Hp} {A A1 : List Addr} {σ : L2.St} {H H1 : Hp} {B : Bs} {g : Gh} {env : Env} {st : Sta} {α β : Type}
theorem WPc.shift {r : Res β} {Post : β → Hp → List Addr → Hp → Prop} (h : WPc K mg W F A σ H r Post) (x : Ext F A H F1 A1 H1) : WPc K mg W F1 A1 σ H1 r Post :=
  Res.wp_mono h (fun _ _ z F' A' H' y => z F' A' H' (x.trans y)) fun _ _ z F' A' H' cls dd y => z F' A' H' cls dd (x.trans y)
theorem seqE {f : Env → M D} {k : D → M β} {Post : β → Hp → List Addr → Hp → Prop} {Q : VK} (R : Rel K mg B g env st σ H) (h : WPc K mg W g.F g.A σ H ((f env >>= k) st) Post)
    (cont : ∀ d st1 F1 A1 H1 v, Rel K mg B ⟨F1, A1, g.ow⟩ env st1 σ H1 → Ext g.F g.A H F1 A1 H1 → Rep K mg F1 A1 v d → WPc K mg W F1 A1 σ H1 (k d st1) Post → Q v H1) : rE K mg B W f σ H Q := by
  refine ⟨g, env, st, R, ?_⟩
  refine Res.wp_mono (wp_bind h) (fun d st1 z F1 A1 H1 x G v r => ?_) fun _ _ z => z
  exact cont d st1 F1 A1 H1 v (R.step x G) x r (WPc.shift z x)
theorem seqA {f : Env → M (List D)} {k : List D → M β} {Post : β → Hp → List Addr → Hp → Prop} {Q : List V → Hp → Prop} (R : Rel K mg B g env st σ H) (h : WPc K mg W g.F g.A σ H ((f env >>= k) st) Post)
    (cont : ∀ d st1 F1 A1 H1 v, Rel K mg B ⟨F1, A1, g.ow⟩ env st1 σ H1 → Ext g.F g.A H F1 A1 H1 → Reps K mg F1 A1 v d → WPc K mg W F1 A1 σ H1 (k d st1) Post → Q v H1) : rA K mg B W f σ H Q := by
  refine ⟨g, env, st, R, ?_⟩
  refine Res.wp_mono (wp_bind h) (fun d st1 z F1 A1 H1 x G v r => ?_) fun _ _ z => z
  exact cont d st1 F1 A1 H1 v (R.step x G) x r (WPc.shift z x)
theorem seqT {f : Env → M Bool} {k : Bool → M β} {Post : β → Hp → List Addr → Hp → Prop} {Q : Bool → Hp → Prop} (R : Rel K mg B g env st σ H) (h : WPc K mg W g.F g.A σ H ((f env >>= k) st) Post)
    (cont : ∀ d st1 F1 A1 H1, Rel K mg B ⟨F1, A1, g.ow⟩ env st1 σ H1 → Ext g.F g.A H F1 A1 H1 → WPc K mg W F1 A1 σ H1 (k d st1) Post → Q d H1) : rT K mg B W f σ H Q := by
  refine ⟨g, env, st, R, ?_⟩
  refine Res.wp_mono (wp_bind h) (fun d st1 z F1 A1 H1 x G => ?_) fun _ _ z => z
  exact cont d st1 F1 A1 H1 (R.step x G) x (WPc.shift z x)
theorem WPc.now {a : β} {Post : β → Hp → List Addr → Hp → Prop} (h : WPc K mg W F A σ H ((pure a : M β) st) Post) (G : Good K mg F A st H) : Post a F A H := h F A H Ext.refl G
end

def vr (i : Nat) : Env → M D := fun env => match env[i]? with
  | some (some (.fro d)) => M.pure d
  | _ => M.bad
def cn (d : D) : Env → M D := fun _ => pure d
def op2 (o : D → D → Sta → Option D) (f g : Env → M D) : Env → M D := fun env => f env >>= fun x => g env >>= fun y => M.rd (o x y)
def op1 (o : D → Sta → Option D) (f : Env → M D) : Env → M D := fun env => f env >>= fun x => M.rd (o x)
def args0 : Env → M (List D) := fun _ => pure []
def argsC (f : Env → M D) (fs : Env → M (List D)) : Env → M (List D) := fun env => f env >>= fun x => fs env >>= fun xs => pure (x :: xs)
def opN (o : List D → Sta → Option D) (fs : Env → M (List D)) : Env → M D := fun env => fs env >>= fun xs => M.rd (o xs)
def truth : D → Option Bool
  | .non => some false
  | .bl b => some b
  | .int i => some (i != 0)
  | _ => none
def tst (f : Env → M D) : Env → M Bool := fun env => f env >>= fun x => M.rd fun _ => truth x
def asB : D → Option Bool
  | .bl b => some b
  | _ => none
def tBool (f : Env → M D) : Env → M Bool := fun env => f env >>= fun x => M.rd fun _ => asB x
def mNot (f : Env → M Bool) : Env → M Bool := fun env => f env >>= fun b => pure (!b)
def mAnd (f g : Env → M Bool) : Env → M Bool := fun env => f env >>= fun b => if b then g env else pure false
def mOr (f g : Env → M Bool) : Env → M Bool := fun env => f env >>= fun b => if b then pure true else g env
def mIf {α : Type} (c : Env → M Bool) (f g : Env → M α) : Env → M α := fun env => c env >>= fun b => if b then f env else g env
section
variable (K : PySem.W.Frag) (mg : Str → Option Value)
def OpOk (r : R2) (o : D → D → Sta → Option D) : Prop := ∀ F A H st x y d e z (Q : VK), Good K mg F A st H → Rep K mg F A x d → Rep K mg F A y e → o d e st = some z →
  (∀ F' A' H' v, Ext F A H F' A' H' → Good K mg F' A' st H' → Rep K mg F' A' v z → Q v H') → r x y H Q
def UnOk (r : V → Hp → VK → Prop) (o : D → Sta → Option D) : Prop := ∀ F A H st x d z (Q : VK), Good K mg F A st H → Rep K mg F A x d → o d st = some z →
  (∀ F' A' H' v, Ext F A H F' A' H' → Good K mg F' A' st H' → Rep K mg F' A' v z → Q v H') → r x H Q
def CaOk (r : List V → Hp → VK → Prop) (o : List D → Sta → Option D) : Prop := ∀ F A H st xs ds z (Q : VK), Good K mg F A st H → Reps K mg F A xs ds → o ds st = some z →
  (∀ F' A' H' v, Ext F A H F' A' H' → Good K mg F' A' st H' → Rep K mg F' A' v z → Q v H') → r xs H Q
end

section
variable {X : Cx} {B : Bs} {W : WX} {a b c : Expr} {pos : Pos} {f g h : Env → M D}
theorem pp_var {i : Nat} {x : Str} (hN : X.N[i]? = some x) (hv : Vis X.env.scope x) (hd : (x == ("__debug__" : Str)) = false := by decide) (hcd : (x == ("__classdict__" : Str)) = false := by decide) : PE X (.Name x pos) (rE X.K X.mg B W (vr i)) := by
  refine (pe_var hN hv hd hcd).imp fun σ H Q z => ?_
  obtain ⟨gh, env, st, R, w⟩ := z
  unfold vr at w
  cases e : env[i]? with
  | none =>
    rw [e] at w
    exact w.elim
  | some o =>
    rw [e] at w
    cases o with
    | none => exact w.elim
    | some sv =>
      cases sv with
      | own c => exact w.elim
      | fro d =>
        obtain ⟨v, e1, r⟩ := R.slot i _ e
        exact ⟨v, e1, w _ _ _ Ext.refl R.good v r⟩
theorem pv2 (i : Nat) {x : Str} (hN : X.N[i]? = some x := by rfl) (hv : Vis X.env.scope x := by first | exact Or.inl rfl | exact Or.inr (Or.inl rfl) | exact Or.inr (Or.inr rfl)) (hd : (x == ("__debug__" : Str)) = false := by decide)
    (hcd : (x == ("__classdict__" : Str)) = false := by decide) : PE X (.Name x pos) (rE X.K X.mg B W (vr i)) := pp_var hN hv hd hcd
theorem pp_cn {e : Expr} {v : V} {d : D} (h : PE X e (tC v)) (r : ∀ F A, Rep X.K X.mg F A v d) : PE X e (rE X.K X.mg B W (cn d)) :=
  h.imp fun σ H Q ⟨gh, env, st, R, w⟩ => (w _ _ _ Ext.refl R.good v (r _ _) : Q v H)
theorem pp_int {i : Int} {j : Nat} : PE X (.Constant (.int i) j pos) (rE X.K X.mg B W (cn (.int i))) := pp_cn pe_int fun _ _ => .int i
theorem pp_bl {i : Bool} {j : Nat} : PE X (.Constant (.bool i) j pos) (rE X.K X.mg B W (cn (.bl i))) := pp_cn pe_bl fun _ _ => .bl i
theorem pp_non {j : Nat} : PE X (.Constant .none j pos) (rE X.K X.mg B W (cn .non)) := pp_cn pe_non fun _ _ => .non
theorem pp_str {x : Str} {j : Nat} : PE X (.Constant (.str x) j pos) (rE X.K X.mg B W (cn (.str x))) := pp_cn pe_str fun _ _ => .str x
theorem pp_gint {x : Str} {i : Int} (hg : Gl X x) (hm : ∃ t, X.mg x = some (.int i t)) (hd : (x == ("__debug__" : Str)) = false := by decide) : PE X (.Name x pos) (rE X.K X.mg B W (cn (.int i))) := by
  obtain ⟨t, hm⟩ := hm
  exact pp_cn (v := .int i) (pe_glob hg hm ⟨t, rfl⟩ hd) fun _ _ => .int i
theorem tOp_imp {r : R2} {o : D → D → Sta → Option D} (k : OpOk X.K X.mg r o) (σ : L2.St) (H : Hp) (Q : VK) (z : rE X.K X.mg B W (op2 o f g) σ H Q) : tOp r (rE X.K X.mg B W f) (rE X.K X.mg B W g) σ H Q := by
  obtain ⟨gh, env, st, R, w⟩ := z
  refine seqE R w fun d st1 F1 A1 H1 x R1 x1 r1 w1 => ?_
  refine seqE R1 w1 fun e st2 F2 A2 H2 y R2 x2 r2 w2 => ?_
  obtain ⟨u, eu, w3⟩ := WPc.rd w2
  exact k F2 A2 H2 st2 x y d e u Q R2.good (r1.ext x2) r2 eu fun F' A' H' v x' G' r' => w3 F' A' H' x' G' v r'
theorem pp_op {p : Operator} {r : R2} {o : D → D → Sta → Option D} (ho : OpR X (binaryOp p) r) (k : OpOk X.K X.mg r o) (ha : PE X a (rE X.K X.mg B W f)) (hb : PE X b (rE X.K X.mg B W g)) : PE X (.BinOp a p b pos) (rE X.K X.mg B W (op2 o f g)) :=
  (pe_op ho ha hb).imp fun σ H Q z => tOp_imp k σ H Q z
theorem pp_cmp {p : CmpOp} {r : R2} {o : D → D → Sta → Option D} (ho : OpR X (compareOp p) r) (k : OpOk X.K X.mg r o) (ha : PE X a (rE X.K X.mg B W f)) (hb : PE X b (rE X.K X.mg B W g)) (hm : behindInMarks p b = false) : PE X (.Compare a [p] [b] pos) (rE X.K X.mg B W (op2 o f g)) :=
  (pe_cmpR ho ha hb hm).imp fun σ H Q z => tOp_imp k σ H Q z
theorem pp_ix {r : R2} {o : D → D → Sta → Option D} (hr : IxR X r) (k : OpOk X.K X.mg r o) (ha : PE X a (rE X.K X.mg B W f)) (hb : PE X b (rE X.K X.mg B W g)) (hs : PlainIx b) : PE X (.Subscript a b pos) (rE X.K X.mg B W (op2 o f g)) :=
  (pe_ix hr ha hb hs).imp fun σ H Q z => tOp_imp k σ H Q z
theorem tUn_imp {r : V → Hp → VK → Prop} {o : D → Sta → Option D} (k : UnOk X.K X.mg r o) (σ : L2.St) (H : Hp) (Q : VK) (z : rE X.K X.mg B W (op1 o f) σ H Q) : tUn r (rE X.K X.mg B W f) σ H Q := by
  obtain ⟨gh, env, st, R, w⟩ := z
  refine seqE R w fun d st1 F1 A1 H1 x R1 x1 r1 w1 => ?_
  obtain ⟨u, eu, w3⟩ := WPc.rd w1
  exact k F1 A1 H1 st1 x d u Q R1.good r1 eu fun F' A' H' v x' G' r' => w3 F' A' H' x' G' v r'
theorem pp_un {p : UnaryOp} {r : V → Hp → VK → Prop} {o : D → Sta → Option D} (ho : UnR X (unaryOp p) r) (k : UnOk X.K X.mg r o) (ha : PE X a (rE X.K X.mg B W f)) : PE X (.UnaryOp p a pos) (rE X.K X.mg B W (op1 o f)) :=
  (pe_un ho ha).imp fun σ H Q z => tUn_imp k σ H Q z
theorem pp_nil : PA X [] (rA X.K X.mg B W args0) := pa_nil.imp fun σ H Q ⟨gh, env, st, R, w⟩ => WPc.now w R.good [] .nil
theorem pp_cons {es : List Expr} {fs : Env → M (List D)} (ha : PE X a (rE X.K X.mg B W f)) (hr : PA X es (rA X.K X.mg B W fs)) (hs : starEach (a :: es) X.env = (false, eval a X.env) :: starEach es X.env := by rfl) : PA X (a :: es) (rA X.K X.mg B W (argsC f fs)) := by
  refine (pa_cons ha hr hs).imp fun σ H Q z => ?_
  obtain ⟨gh, env, st, R, w⟩ := z
  refine seqE R w fun d st1 F1 A1 H1 x R1 x1 r1 w1 => ?_
  refine seqA R1 w1 fun ds st2 F2 A2 H2 xs R2 x2 r2 w2 => ?_
  exact WPc.now w2 R2.good (x :: xs) (.cons (r1.ext x2) r2)
theorem tCB_imp {fs : Env → M (List D)} {r : List V → Hp → VK → Prop} {o : List D → Sta → Option D} (k : CaOk X.K X.mg r o) (σ : L2.St) (H : Hp) (Q : VK) (z : rE X.K X.mg B W (opN o fs) σ H Q) : tCB r (rA X.K X.mg B W fs) σ H Q := by
  obtain ⟨gh, env, st, R, w⟩ := z
  refine seqA R w fun d st1 F1 A1 H1 x R1 x1 r1 w1 => ?_
  obtain ⟨u, eu, w3⟩ := WPc.rd w1
  exact k F1 A1 H1 st1 x d u Q R1.good r1 eu fun F' A' H' v x' G' r' => w3 F' A' H' x' G' v r'
theorem pp_callB {id : String} {x : Str} {p : Pos} {es : List Expr} {fs : Env → M (List D)} {r : List V → Hp → VK → Prop} {o : List D → Sta → Option D} (hc : CallR X (.builtin id) r) (k : CaOk X.K X.mg r o) (hg : Gl X x) (hm : X.mg x = none) (hv : bootBuiltins x = some (.builtin id)) (ha : PA X (a :: es) (rA X.K X.mg B W fs)) (hn : x ≠ "__name__" := by decide) (hdb : (x == ("__debug__" : Str)) = false := by decide)
    (he : starEach (a :: es) X.env = (false, eval a X.env) :: starEach es X.env := by rfl) (hpl : (backTo pos (starEach es X.env)).any (·.1) = false := by rfl) :
    PE X (.Call (.Name x p) (a :: es) [] pos) (rE X.K X.mg B W (opN o fs)) := (pe_callB hc hg hm hv ha hn hdb he hpl).imp fun σ H Q z => tCB_imp k σ H Q z
theorem pp_callTy {T : String} {x : Str} {p : Pos} {es : List Expr} {fs : Env → M (List D)} {r : List V → Hp → VK → Prop} {o : List D → Sta → Option D} (hc : CallR X (.type T) r) (k : CaOk X.K X.mg r o) (hg : Gl X x) (hm : X.mg x = none) (hv : bootBuiltins x = some (.type T)) (ha : PA X (a :: es) (rA X.K X.mg B W fs)) (hn : x ≠ "__name__" := by decide) (hdb : (x == ("__debug__" : Str)) = false := by decide)
    (he : starEach (a :: es) X.env = (false, eval a X.env) :: starEach es X.env := by rfl) (hpl : (backTo pos (starEach es X.env)).any (·.1) = false := by rfl) :
    PE X (.Call (.Name x p) (a :: es) [] pos) (rE X.K X.mg B W (opN o fs)) := (pe_callTy hc hg hm hv ha hn hdb he hpl).imp fun σ H Q z => tCB_imp k σ H Q z
def mkTup (ds : List D) (_ : Sta) : Option D := if ds.length ≤ sizeLine then some (.tup ds) else none
def mkLst (ds : List D) (_ : Sta) : Option D := if ds.length ≤ sizeLine then some (.lst ds) else none
theorem rep_tup_new {F : Hp} {A : List Addr} {p : Addr} {xs : List V} {ds : List D} (r : Reps X.K X.mg F A xs ds) (hp : F p = none) : Rep X.K X.mg (upd F p (.tup xs)) A (.ref p) (.tup ds) :=
  .tup (SqT.of upd_same) (r.mono (fun b o e => by rw [upd_ne (ne_of_none e hp)]; exact e) fun _ _ z => z)
theorem rep_lst_new {F : Hp} {A : List Addr} {p : Addr} {xs : List V} {ds : List D} (r : Reps X.K X.mg F A xs ds) (hp : F p = none) : Rep X.K X.mg (upd F p (.lst xs)) A (.ref p) (.lst ds) :=
  .lst upd_same (r.mono (fun b o e => by rw [upd_ne (ne_of_none e hp)]; exact e) fun _ _ z => z)
theorem Good.fnone {K : PySem.W.Frag} {mg : Str → Option Value} {F : Hp} {A : List Addr} {st : Sta} {H : Hp} (G : Good K mg F A st H) {p : Addr} (hp : H p = none) : F p = none := by
  cases q : F p with
  | none => rfl
  | some u => rw [G.sub p u q] at hp; cases hp
theorem pp_tup {es : List Expr} {fs : Env → M (List D)} {x1} (h : PA X es (rA X.K X.mg B W fs)) : PE X (.Tuple es x1 pos) (rE X.K X.mg B W (opN mkTup fs)) := by
  refine (pe_tup h).imp fun σ H Q z => ?_
  obtain ⟨gh, env, st, R, w⟩ := z
  refine seqA R w fun ds st1 F1 A1 H1 xs R1 x1 r1 w1 => ?_
  obtain ⟨u, eu, w3⟩ := WPc.rd w1
  unfold mkTup at eu
  split at eu
  · rename_i hl
    cases eu
    refine ⟨by rw [r1.length]; exact hl, fun p hp => ?_⟩
    obtain ⟨x2, G2⟩ := Ext.alloc (o := .tup xs) R1.good hp
    exact w3 _ _ _ x2 G2 _ (rep_tup_new r1 (R1.good.fnone hp))
  · cases eu
theorem pp_lst {es : List Expr} {fs : Env → M (List D)} (h : PA X es (rA X.K X.mg B W fs)) : PE X (.List es pos) (rE X.K X.mg B W (opN mkLst fs)) := by
  refine (pe_lst h).imp fun σ H Q z => ?_
  obtain ⟨gh, env, st, R, w⟩ := z
  refine seqA R w fun ds st1 F1 A1 H1 xs R1 x1 r1 w1 => ?_
  obtain ⟨u, eu, w3⟩ := WPc.rd w1
  unfold mkLst at eu
  split at eu
  · rename_i hl
    cases eu
    refine ⟨by rw [r1.length]; exact hl, fun p hp => ?_⟩
    obtain ⟨x2, G2⟩ := Ext.alloc (o := .lst xs) R1.good hp
    exact w3 _ _ _ x2 G2 _ (rep_lst_new r1 (R1.good.fnone hp))
  · cases eu
variable {tf tg : Env → M Bool} {rest : List Expr}
theorem tst_rep {F : Hp} {A : List Addr} {H : Hp} {v : V} {d : D} {k : Bool} (r : Rep X.K X.mg F A v d) (e : truth d = some k) : TruV X.K v H k := by
  cases r <;> simp [truth] at e
  · subst e; rfl
  · subst e; rfl
  · subst e; rfl
theorem pq_truth (ha : PE X a (rE X.K X.mg B W f)) (he : ∀ whole, isTrue a X.env whole = (do let v ← whole; standAt a.pos; holding [v] (truthy v)) := by intro _; rfl) : PT X a (rT X.K X.mg B W (tst f)) := by
  refine (pt_truth ha he).imp fun σ H Q z => ?_
  obtain ⟨gh, env, st, R, w⟩ := z
  refine seqE R w fun d st1 F1 A1 H1 x R1 x1 r1 w1 => ?_
  obtain ⟨u, eu, w3⟩ := WPc.rd w1
  exact ⟨u, tst_rep r1 eu, w3 _ _ _ Ext.refl R1.good⟩
theorem tBool_rep {d : D} {v : V} {F : Hp} {A : List Addr} {u : Bool} (r : Rep X.K X.mg F A v d) (e : asB d = some u) : v = .bl u := by
  cases d <;> first
    | (cases r
       cases e
       rfl)
    | cases e
theorem pq_cmp {p : CmpOp} {r : R2} {o : D → D → Sta → Option D} (ho : OpR X (compareOp p) r) (k : OpOk X.K X.mg r o) (ha : PE X a (rE X.K X.mg B W f)) (hb : PE X b (rE X.K X.mg B W g)) (hm : behindInMarks p b = false) : PT X (.Compare a [p] [b] pos) (rT X.K X.mg B W (tBool (op2 o f g))) := by
  refine (pt_cmpR ho ha hb hm).imp fun σ H Q z => ?_
  obtain ⟨gh, env, st, R, w⟩ := z
  refine tOp_imp k σ H _ ⟨gh, env, st, R, ?_⟩
  refine Res.wp_mono (wp_bind w) (fun d st1 y F' A' H' x G v r' => ?_) fun _ _ y => y
  obtain ⟨u, eu, w3⟩ := WPc.rd y
  exact ⟨u, tBool_rep r' eu, w3 F' A' H' x G⟩
theorem pq_not (ha : PT X a (rT X.K X.mg B W tf)) : PT X (.UnaryOp .Not a pos) (rT X.K X.mg B W (mNot tf)) := by
  refine (pt_not ha).imp fun σ H Q z => ?_
  obtain ⟨gh, env, st, R, w⟩ := z
  exact seqT R w fun d st1 F1 A1 H1 R1 x1 w1 => WPc.now w1 R1.good
theorem tAnd_imp (σ : L2.St) (H : Hp) (Q : Bool → Hp → Prop) (z : rT X.K X.mg B W (mAnd tf tg) σ H Q) : tAnd (rT X.K X.mg B W tf) (rT X.K X.mg B W tg) σ H Q := by
  obtain ⟨gh, env, st, R, w⟩ := z
  refine seqT R w fun d st1 F1 A1 H1 R1 x1 w1 => ?_
  cases d with
  | true =>
    rw [if_pos rfl]
    exact ⟨_, env, st1, R1, w1⟩
  | false =>
    rw [if_neg Bool.false_ne_true]
    exact WPc.now w1 R1.good
theorem tOr_imp (σ : L2.St) (H : Hp) (Q : Bool → Hp → Prop) (z : rT X.K X.mg B W (mOr tf tg) σ H Q) : tOr (rT X.K X.mg B W tf) (rT X.K X.mg B W tg) σ H Q := by
  obtain ⟨gh, env, st, R, w⟩ := z
  refine seqT R w fun d st1 F1 A1 H1 R1 x1 w1 => ?_
  cases d with
  | false =>
    rw [if_neg Bool.false_ne_true]
    exact ⟨_, env, st1, R1, w1⟩
  | true =>
    rw [if_pos rfl]
    exact WPc.now w1 R1.good
theorem pq_and1 (ha : PT X a (rT X.K X.mg B W tf)) : PW X (.BoolOp .And [a] pos) (rT X.K X.mg B W tf) := pw_and1 ha
theorem pq_or1 (ha : PT X a (rT X.K X.mg B W tf)) : PW X (.BoolOp .Or [a] pos) (rT X.K X.mg B W tf) := pw_or1 ha
theorem pq_and (ha : PT X a (rT X.K X.mg B W tf)) (hb : PW X (.BoolOp .And (b :: rest) pos) (rT X.K X.mg B W tg)) : PW X (.BoolOp .And (a :: b :: rest) pos) (rT X.K X.mg B W (mAnd tf tg)) := PW.imp (pw_and ha hb) fun σ H Q z => tAnd_imp σ H Q z
theorem pq_or (ha : PT X a (rT X.K X.mg B W tf)) (hb : PW X (.BoolOp .Or (b :: rest) pos) (rT X.K X.mg B W tg)) : PW X (.BoolOp .Or (a :: b :: rest) pos) (rT X.K X.mg B W (mOr tf tg)) := PW.imp (pw_or ha hb) fun σ H Q z => tOr_imp σ H Q z
def mAndV (f g : Env → M D) : Env → M D := fun env => tBool f env >>= fun b => if b then g env else pure (.bl false)
def mNotV (f : Env → M D) : Env → M D := fun env => tBool f env >>= fun b => pure (.bl (!b))
theorem seqB {f : Env → M D} {β : Type} {k : Bool → M β} {Post : β → Hp → List Addr → Hp → Prop} {Q : VK} {K : PySem.W.Frag} {mg : Str → Option Value} {σ : L2.St} {H : Hp} {g : Gh} {env : Env} {st : Sta} (R : Rel K mg B g env st σ H) (h : WPc K mg W g.F g.A σ H ((tBool f env >>= k) st) Post)
    (cont : ∀ b st1 F1 A1 H1, Rel K mg B ⟨F1, A1, g.ow⟩ env st1 σ H1 → Ext g.F g.A H F1 A1 H1 → WPc K mg W F1 A1 σ H1 (k b st1) Post → Q (.bl b) H1) : rE K mg B W f σ H Q := by
  have h2 : WPc K mg W g.F g.A σ H ((f env >>= fun x => (M.rd fun _ => asB x) >>= k) st) Post := by
    refine (congrArg (fun r => WPc K mg W g.F g.A σ H r Post) ?_).mp h
    show ((f env st).bind _).bind k = (f env st).bind _
    cases f env st <;> rfl
  refine seqE R h2 fun d st1 F1 A1 H1 x R1 x1 r1 w1 => ?_
  have w2 := wp_bind w1
  cases d <;> first
    | exact w2.elim
    | (cases r1
       exact cont _ st1 F1 A1 H1 R1 x1 w2)
theorem pp_one {op : BoolOp} (h : PE X a (rE X.K X.mg B W f)) : PE X (.BoolOp op [a] pos) (rE X.K X.mg B W f) := pe_one h
theorem pp_and (ha : PE X a (rE X.K X.mg B W f)) (hb : PE X (.BoolOp .And (b :: rest) pos) (rE X.K X.mg B W g)) : PE X (.BoolOp .And (a :: b :: rest) pos) (rE X.K X.mg B W (mAndV f g)) := by
  refine (pe_and ha hb).imp fun σ H Q z => ?_
  obtain ⟨gh, env, st, R, w⟩ := z
  refine seqB R w fun d st1 F1 A1 H1 R1 x1 w1 => ⟨d, rfl, ?_⟩
  cases d with
  | true =>
    rw [if_pos rfl]
    exact ⟨_, env, st1, R1, w1⟩
  | false =>
    rw [if_neg Bool.false_ne_true]
    exact WPc.now w1 R1.good _ (.bl false)
theorem pp_not (ha : PE X a (rE X.K X.mg B W f)) : PE X (.UnaryOp .Not a pos) (rE X.K X.mg B W (mNotV f)) := by
  refine (pe_not ha).imp fun σ H Q z => ?_
  obtain ⟨gh, env, st, R, w⟩ := z
  exact seqB R w fun d st1 F1 A1 H1 R1 x1 w1 => ⟨d, rfl, WPc.now w1 R1.good _ (.bl _)⟩
theorem pp_if (hc : PT X c (rT X.K X.mg B W tf)) (ha : PE X a (rE X.K X.mg B W f)) (hb : PE X b (rE X.K X.mg B W g)) : PE X (.IfExp c a b pos) (rE X.K X.mg B W (mIf tf f g)) := by
  refine (pe_ifExp hc ha hb).imp fun σ H Q z => ?_
  obtain ⟨gh, env, st, R, w⟩ := z
  refine seqT R w fun d st1 F1 A1 H1 R1 x1 w1 => ?_
  cases d with
  | true =>
    rw [if_pos rfl]
    exact ⟨_, env, st1, R1, w1⟩
  | false =>
    rw [if_neg Bool.false_ne_true]
    exact ⟨_, env, st1, R1, w1⟩
end
end PL
set_option Elab.async false
set_option linter.all false
set_option maxRecDepth 100000
set_option maxHeartbeats 2000000
namespace PL
open PySem PySem.Spec PyProof.Rows L2

def addD (x y : D) (_ : Sta) : Option D := match x, y with
  | .int i, .int j => some (.int (i + j))
  | .str i, .str j => if i.length + j.length ≤ sizeLine then some (.str (i ++ j)) else none
  | .tup i, .tup j => if i.length + j.length ≤ sizeLine then some (.tup (i ++ j)) else none
  | .lst i, .lst j => if i.length + j.length ≤ sizeLine then some (.lst (i ++ j)) else none
  | _, _ => none
def subD (x y : D) (_ : Sta) : Option D := match x, y with
  | .int i, .int j => some (.int (i - j))
  | _, _ => none
def mulOk (i j : Int) : Bool := decide (-(2 ^ 64) < i ∧ i < 2 ^ 64) || (decide (-(2 ^ 64) < j ∧ j < 2 ^ 64) || decide (i.natAbs.log2 + j.natAbs.log2 < 1000000))
def mulD (x y : D) (_ : Sta) : Option D := match x, y with
  | .int i, .int j => if mulOk i j then some (.int (i * j)) else none
  | .lst l, .int k => if -(2 ^ 63) ≤ k ∧ k < 2 ^ 63 ∧ l.length * k.toNat ≤ sizeLine then some (.lst (List.replicate k.toNat l).flatten) else none
  | .tup l, .int k => if l ≠ [] ∧ 0 ≤ k ∧ k ≤ 1000 ∧ l.length ≤ 1000 then some (.tup (List.replicate k.toNat l).flatten) else none
  | _, _ => none
def modD (x y : D) (_ : Sta) : Option D := match x, y with
  | .int i, .int j => if 0 < j then some (.int (i % j)) else none
  | _, _ => none
def fdvD (x y : D) (_ : Sta) : Option D := match x, y with
  | .int i, .int j => if 0 < j ∧ (j < 1073741824 ∨ j.natAbs.log2 < 9000) then some (.int (i / j)) else none
  | _, _ => none
def powD (x y : D) (_ : Sta) : Option D := match x, y with
  | .int i, .int j => if 0 ≤ j ∧ j ≤ 1000 ∧ i.natAbs < 2 ^ 64 then some (.int (i ^ j.toNat)) else none
  | _, _ => none
def negD (x : D) (_ : Sta) : Option D := match x with
  | .int i => some (.int (-i))
  | _ => none
def cmpD (p : Int → Int → Bool) (x y : D) (_ : Sta) : Option D := match x, y with
  | .int i, .int j => some (.bl (p i j))
  | _, _ => none
abbrev ltD := cmpD fun i j => decide (i < j)
abbrev leD := cmpD fun i j => decide (i ≤ j)
abbrev gtD := cmpD fun i j => decide (j < i)
abbrev geD := cmpD fun i j => decide (j ≤ i)
def eqB (x y : D) : Bool := PyData.eqv (pd x) (pd y)
def eqD (x y : D) (_ : Sta) : Option D := if plain x && plain y then some (.bl (eqB x y)) else none
def neD (x y : D) (_ : Sta) : Option D := if plain x && plain y then some (.bl (!eqB x y)) else none
def isNon : D → Bool
  | .non => true
  | _ => false
def isND (x y : D) (_ : Sta) : Option D := match y with
  | .non => some (.bl (isNon x))
  | _ => none
def isInt : D → Bool
  | .int _ => true
  | _ => false
def inD (x y : D) (_ : Sta) : Option D := match y with
  | .lst l => if plain x && plain (.lst l) then some (.bl (l.any fun z => eqB z x)) else none
  | .tup l => if isInt x && l.all isInt then some (.bl (l.any fun z => eqB z x)) else if isNon x && l.all isInt then some (.bl false) else none
  | .str z => (match x with
    | .str s => some (.bl (!(Builtin.Str.occurrences z s 0 z.length 1).isEmpty))
    | _ => none)
  | _ => none
def ixD (x y : D) (st : Sta) : Option D := match y with
  | .int i => (match x with
    | .lst l => atI l i
    | .tup l => atI l i
    | .fix l => atI l i
    | .str z => if z.length ≤ sizeLine then (atI z.cps.toList i).map fun c => .str ⟨#[c]⟩ else none
    | .cell k => (match st[k]? with
      | some (.lst l) => atI l i
      | _ => none)
    | _ => none)
  | _ => none
def lenD (xs : List D) (st : Sta) : Option D := match xs with
  | [.lst l] => some (.int l.length)
  | [.tup l] => some (.int l.length)
  | [.fix l] => some (.int l.length)
  | [.str z] => if z.length ≤ sizeLine then some (.int z.length) else none
  | [.cell k] => (match st[k]? with
    | some (.lst l) => some (.int l.length)
    | _ => none)
  | _ => none
def tupleD (xs : List D) (_ : Sta) : Option D := match xs with
  | [.lst l] => some (.tup l)
  | [.tup l] => some (.tup l)
  | _ => none
def intD (xs : List D) (_ : Sta) : Option D := match xs with
  | [.int i] => some (.int i)
  | [.bl b] => some (.int (if b then 1 else 0))
  | _ => none
def intsOf : List D → Option (List Int)
  | [] => some []
  | .int i :: r => (intsOf r).map (i :: ·)
  | _ :: _ => none
def blsOf : List D → Option (List Bool)
  | [] => some []
  | .bl i :: r => (blsOf r).map (i :: ·)
  | _ :: _ => none
def sumD (xs : List D) (_ : Sta) : Option D := match xs with
  | [.lst l] => (intsOf l).map fun ns => .int ns.sum
  | [.tup l] => (intsOf l).map fun ns => .int ns.sum
  | _ => none
def allD (xs : List D) (_ : Sta) : Option D := match xs with
  | [.lst l] => (blsOf l).map fun ns => .bl (ns.all id)
  | _ => none
def max2D (xs : List D) (_ : Sta) : Option D := match xs with
  | [.int i, .int j] => some (.int (if j > i then j else i))
  | _ => none
def min2D (xs : List D) (_ : Sta) : Option D := match xs with
  | [.int i, .int j] => some (.int (if j < i then j else i))
  | _ => none
section
variable {K : PySem.W.Frag} {mg : Str → Option Value} {F : Hp} {A : List Addr} {H : Hp}
theorem ok_int {p : Int → Int → Bool} {g : Int → Int → V} (hg : ∀ i j, g i j = .bl (p i j)) : OpOk K mg (rI0 g) (cmpD p) := by
  intro F A H st x y d e z Q G rx ry h q
  unfold cmpD at h
  split at h
  · cases rx; cases ry; cases h
    exact ⟨_, _, rfl, rfl, by rw [hg]; exact q _ _ _ _ Ext.refl G (.bl _)⟩
  · cases h
theorem ok_lt : OpOk K mg (rI0 fun i j => .bl (decide (i < j))) ltD := ok_int fun _ _ => rfl
theorem ok_le : OpOk K mg (rI0 fun i j => .bl (decide (i ≤ j))) leD := ok_int fun _ _ => rfl
theorem ok_gt : OpOk K mg (rI0 fun i j => .bl (decide (j < i))) gtD := ok_int fun _ _ => rfl
theorem ok_ge : OpOk K mg (rI0 fun i j => .bl (decide (j ≤ i))) geD := ok_int fun _ _ => rfl
abbrev rAddA (K : PySem.W.Frag) : R2 := fun x y H Q => rI0 (fun i j => .int (i + j)) x y H Q ∨ (rCatA K x y H Q ∨ (rCat x y H Q ∨ ∃ i j, x = .str i ∧ y = .str j ∧ i.length + j.length ≤ sizeLine ∧ Q (.str (i ++ j)) H))
theorem op_addA {X : Cx} : OpR X (binaryOp .Add) (rAddA X.K) := OpR.or op_add (OpR.or op_catA (OpR.or op_cat op_add_str))
theorem ok_add : OpOk K mg (rAddA K) addD := by
  intro F A H st x y d e z Q G rx ry h q
  unfold addD at h
  split at h
  · cases rx; cases ry; cases h
    exact .inl ⟨_, _, rfl, rfl, q _ _ _ _ Ext.refl G (.int _)⟩
  · split at h
    · rename_i hl
      cases rx; cases ry; cases h
      exact .inr (.inr (.inr ⟨_, _, rfl, rfl, hl, q _ _ _ _ Ext.refl G (.str _)⟩))
    · cases h
  · rename_i i j
    split at h
    · rename_i hl
      cases h
      cases rx with
      | @tup a vs _ s1 r1 => cases ry with
        | @tup b ws _ s2 r2 =>
          refine .inr (.inl ⟨a, b, vs, ws, rfl, rfl, SqT.mono s1 G.sub, SqT.mono s2 G.sub, by rw [r1.length, r2.length]; exact hl, fun e => ?_, fun _ e => ?_, fun _ _ p hp => ?_⟩)
          · subst e
            cases r1
            exact q _ _ _ _ Ext.refl G (.tup s2 r2)
          · subst e
            cases r2
            rw [List.append_nil] at q
            exact q _ _ _ _ Ext.refl G (.tup s1 r1)
          · obtain ⟨x2, G2⟩ := Ext.alloc (o := .tup (vs ++ ws)) G hp
            exact q _ _ _ _ x2 G2 (.tup (SqT.of upd_same) ((r1.app r2).ext x2))
    · cases h
  · rename_i i j
    split at h
    · rename_i hl
      cases h
      cases rx with
      | @lst a vs _ s1 r1 => cases ry with
        | @lst b ws _ s2 r2 =>
          refine .inr (.inr (.inl ⟨a, b, vs, ws, rfl, rfl, G.sub _ _ s1, G.sub _ _ s2, by rw [r1.length, r2.length]; exact hl, fun p hp => ?_⟩))
          obtain ⟨x2, G2⟩ := Ext.alloc (o := .lst (vs ++ ws)) G hp
          exact q _ _ _ _ x2 G2 (.lst upd_same ((r1.app r2).ext x2))
    · cases h
  · cases h
theorem ok_sub : OpOk K mg (rI0 fun i j => .int (i - j)) subD := by
  intro F A H st x y d e z Q G rx ry h q
  unfold subD at h
  split at h
  · cases rx; cases ry; cases h
    exact ⟨_, _, rfl, rfl, q _ _ _ _ Ext.refl G (.int _)⟩
  · cases h
theorem tuple_mul1 (l : Addr) (items : Array Value) (n : Nat) (dd : Option Addr) (sl : Array (Option Value)) (x : Int) (u : Tok) (K : List (Str × Value)) (hK : K.isEmpty = true) (hx : x = 1) :
    Meets (Builtin.«tuple.__mul__» { pos := [.ref l, .int x u], kw := K }) fun _ R s =>
      s.heap.get? l = some { cls := .type "tuple", dict := dd, data := .seq items n, slots := sl } ∧ R (.ok (.ret (.ref l))) s := by
  have c0 : (decide (x < -2 ^ 63) || decide (x ≥ 2 ^ 63)) = false := by rw [hx]; decide
  have c1 : (items.isEmpty || x == 1) = true := by rw [hx]; simp
  refine Meets.of_wp fun prog w A R s h => ?_
  obtain ⟨hl, h⟩ := h
  have f1 := AutoSeq1.idx_int
  refine wpAny_ite_false (by simp [hK]) ?_
  refine wpAny_bind ?_
  refine wpAny_bind ?_
  refine wpAny_pure ?_
  refine wpAny_pure ?_
  refine wpAny_ite_false (by simpa using c0) ?_
  refine wpAny_bind ?_
  refine wpAny_bind ?_
  refine wpAny_bind ?_
  refine wpAny_load' hl ?_
  refine wpAny_pure ?_
  refine wpAny_pure ?_
  refine wpAny_ite_true (by simpa using c1) ?_
  refine wpAny_bind ?_
  refine wpAny_bind ?_
  refine wpAny_bind ?_
  refine wpAny_load' hl ?_
  refine wpAny_pure ?_
  refine wpAny_pure ?_
  refine wpAny_ite_true (by simp) ?_
  refine wpAny_bind ?_
  refine wpAny_rule ?_
  refine wpAny_pure ?_
  exact ⟨_, rfl, h⟩
def rRep1 (K : PySem.W.Frag) : R2 := fun x y H Q => ∃ l xs, x = V.ref l ∧ y = V.int 1 ∧ SqT K H l xs ∧ Q (V.ref l) H
theorem op_repT1 {X : Cx} : OpR X (binaryOp .Mult) (rRep1 X.K) := by
  intro pins s σ H x y v u Q I rx ry h
  obtain ⟨l, xs, rfl, rfl, hT, q⟩ := h
  cases rx
  obtain ⟨t, rfl⟩ := ry
  obtain ⟨its, r, ⟨w, ho, hc, n, hd⟩, hs⟩ := I.tuple hT
  obtain ⟨cls, dd, data, sl⟩ := w
  dsimp only at hc hd
  subst hc hd
  refine wpAny_binaryOp_repeat_ref (by decide) ⟨_, ho, rfl⟩ (fun s' => typeIs_int s' 1 t) noFill_tuple_mul F.fills_int_mul F.slot_int_rmul repeat_tuple F.slot_int_index.lookup ?_
  refine call_meets F.slot_int_rmul (typeIs_int s 1 t) F.entry_int_rmul (F.args_int_rmul_2 (.int 1 t) (.ref l)) (int_rmul_tuple 1 t l its.toArray n dd sl) ?_
  refine ⟨ho, rfl, ⟨_, ho, rfl⟩, ?_⟩
  refine call_meets F.slot_tuple_mul ⟨_, ho, rfl⟩ F.entry_tuple_mul (F.args_tuple_mul_2 (.ref l) (.int 1 t)) (tuple_mul1 l its.toArray n dd sl 1 t [] rfl rfl) ?_
  exact ⟨ho, V.ref l, H, I, rfl, q⟩
theorem tuple_mul0 (l : Addr) (items : Array Value) (n : Nat) (dd : Option Addr) (sl : Array (Option Value)) (x : Int) (u : Tok) (hx : x = 0) (hi : items.isEmpty = false) :
    Meets (Builtin.«tuple.__mul__» ⟨[.ref l, .int x u], []⟩) (fun _ R s => s.heap.get? l = some { cls := .type "tuple", dict := dd, data := .seq items n, slots := sl } ∧
      R (.ok (.ret (Value.ref s.heap.objs.size))) { s with heap := s.heap.push { cls := Value.type "tuple", data := Data.seq #[] }, toks := s.toks }) :=
  .of_wp fun prog w A R s h => by
    have c0 : (decide (x < -(2 ^ 63)) || decide (x ≥ 2 ^ 63)) = false := by rw [hx]; decide
    have c1 : (items.isEmpty || x == 1) = false := by rw [hx, hi]; decide
    have c2 : (decide (x ≤ 0) || items.isEmpty) = true := by rw [hx]; rfl
    obtain ⟨hp, g, d, tk, os⟩ := s
    obtain ⟨hl, h⟩ := h
    have f1 := AutoSeq1.idx_int
    wp_walk using wpAny_loadPart' hl
    repeat (first
      | (refine wpAny_ite_false (decide_eq_false (by rw [c0]; exact Bool.false_ne_true)) ?_; wp_walk using wpAny_loadPart' hl)
      | (refine wpAny_ite_false (decide_eq_false (by rw [c1]; exact Bool.false_ne_true)) ?_; wp_walk using wpAny_loadPart' hl)
      | (refine wpAny_ite_true (decide_eq_true c2) ?_; wp_walk using wpAny_loadPart' hl))
    exact ⟨_, rfl, h⟩
def rRep0 (K : PySem.W.Frag) : R2 := fun x y H Q => ∃ l xs, x = V.ref l ∧ y = V.int 0 ∧ SqT K H l xs ∧ xs ≠ [] ∧ ∀ p, H p = none → Q (V.ref p) (upd H p (.tup []))
theorem op_repT0 {X : Cx} : OpR X (binaryOp .Mult) (rRep0 X.K) := by
  intro pins s σ H x y v u Q I rx ry h
  obtain ⟨l, xs, rfl, rfl, hT, hne, q⟩ := h
  cases rx
  obtain ⟨t, rfl⟩ := ry
  obtain ⟨its, r, ⟨⟨cls, dd, data, sl⟩, ho, hc, n, hd⟩, hs⟩ := I.tuple hT
  simp only at hc hd
  subst hc hd
  have hle : its.length = xs.length := r.length.symm
  have hi : its.toArray.isEmpty = false := by
    cases its with
    | nil => exact absurd (List.eq_nil_of_length_eq_zero hle.symm) hne
    | cons a b => rfl
  refine wpAny_binaryOp_repeat_ref (T := "tuple") (U := "int") (by decide) ⟨_, ho, rfl⟩ (fun s' => typeIs_int s' 0 t) noFill_tuple_mul F.fills_int_mul F.slot_int_rmul repeat_tuple F.slot_int_index.lookup
    (call_meets F.slot_int_rmul (typeIs_int s 0 t) F.entry_int_rmul (F.args_int_rmul_2 _ _) (int_rmul_tuple 0 t l its.toArray n dd sl)
      ⟨ho, rfl, ⟨_, ho, rfl⟩, call_meets F.slot_tuple_mul ⟨_, ho, rfl⟩ F.entry_tuple_mul (F.args_tuple_mul_2 _ _) (tuple_mul0 l its.toArray n dd sl 0 t rfl hi) ⟨ho, ?_⟩⟩)
  refine ⟨.ref s.heap.objs.size, _, I.laid (t' := s.toks) (o := .tup []) (fun b ob q => Heap.get?_push_of_some _ q) (Nat.le_refl _) ?_, rfl, q _ (I.hok.fresh (Nat.le_refl _))⟩
  exact ⟨by rw [sizeLine_eq]; exact Nat.zero_le _, [], .nil, IsTup.new _ _⟩
abbrev rMulA (K : PySem.W.Frag) : R2 := fun x y H Q => rI CMul (fun i j => .int (i * j)) x y H Q ∨ (rI CMulW (fun i j => .int (i * j)) x y H Q ∨ (rRep x y H Q ∨ (rRepT K x y H Q ∨ (rRep1 K x y H Q ∨ rRep0 K x y H Q))))
theorem op_mulA {X : Cx} : OpR X (binaryOp .Mult) (rMulA X.K) := OpR.or op_mul (OpR.or op_mulW (OpR.or op_rep (OpR.or op_repT (OpR.or op_repT1 op_repT0))))
theorem ok_mul : OpOk K mg (rMulA K) mulD := by
  intro F A H st x y d e z Q G rx ry h q
  unfold mulD at h
  split at h
  · rename_i i j
    split at h
    · rename_i hl
      cases rx; cases ry; cases h
      unfold mulOk at hl
      rw [Bool.or_eq_true, Bool.or_eq_true] at hl
      rcases hl with hl | hl | hl
      · exact .inl ⟨_, _, rfl, rfl, .inl (of_decide_eq_true hl), q _ _ _ _ Ext.refl G (.int _)⟩
      · exact .inl ⟨_, _, rfl, rfl, .inr (of_decide_eq_true hl), q _ _ _ _ Ext.refl G (.int _)⟩
      · have h3 : i.natAbs.log2 + j.natAbs.log2 < 1000000 := of_decide_eq_true hl
        exact .inr (.inl ⟨_, _, rfl, rfl, h3, q _ _ _ _ Ext.refl G (.int _)⟩)
    · cases h
  · split at h
    · rename_i hl
      obtain ⟨h1, h2, h3⟩ := hl
      cases h
      cases ry
      cases rx with
      | @lst a vs _ s1 r1 =>
        refine .inr (.inr (.inl ⟨a, _, vs, rfl, rfl, G.sub _ _ s1, h1, h2, by rw [r1.length]; exact h3, fun p hp => ?_⟩))
        obtain ⟨x2, G2⟩ := Ext.alloc G hp
        exact q _ _ _ _ x2 G2 (.lst upd_same ((r1.rep _).ext x2))
    · cases h
  · split at h
    · rename_i l k hl
      obtain ⟨h1, h2, h3, h4⟩ := hl
      cases h
      cases ry
      cases rx with
      | @tup a vs _ s1 r1 =>
        by_cases k1 : k = 1
        · subst k1
          have e : (List.replicate (1 : Int).toNat l).flatten = l := by simp
          rw [e] at q
          exact .inr (.inr (.inr (.inr (.inl ⟨a, vs, rfl, rfl, SqT.mono s1 G.sub, q _ _ _ _ Ext.refl G (.tup s1 r1)⟩))))
        by_cases k0 : k = 0
        · subst k0
          have e : (List.replicate (0 : Int).toNat l).flatten = [] := rfl
          rw [e] at q
          refine .inr (.inr (.inr (.inr (.inr ⟨a, vs, rfl, rfl, SqT.mono s1 G.sub, fun z => ?_, fun p hp => ?_⟩))))
          · subst z
            cases r1
            exact h1 rfl
          · obtain ⟨x2, G2⟩ := Ext.alloc G hp
            exact q _ _ _ _ x2 G2 (.tup (SqT.of upd_same) .nil)
        refine .inr (.inr (.inr (.inl ⟨a, _, vs, rfl, rfl, SqT.mono s1 G.sub, fun z => ?_, by omega, h3, by rw [r1.length]; exact h4, fun p hp => ?_⟩)))
        · subst z
          cases r1
          exact h1 rfl
        · obtain ⟨x2, G2⟩ := Ext.alloc G hp
          exact q _ _ _ _ x2 G2 (.tup (SqT.of upd_same) ((r1.rep _).ext x2))
    · cases h
  · cases h
theorem ok_mod : OpOk K mg (rI (fun _ j => 0 < j) fun i j => .int (i % j)) modD := by
  intro F A H st x y d e z Q G rx ry h q
  unfold modD at h
  split at h
  · split at h
    · rename_i hl
      cases rx; cases ry; cases h
      exact ⟨_, _, rfl, rfl, hl, q _ _ _ _ Ext.refl G (.int _)⟩
    · cases h
  · cases h
abbrev rFdv : R2 := fun x y H Q => rI CDiv (fun i j => .int (i / j)) x y H Q ∨ rI CDivW (fun i j => .int (i / j)) x y H Q
theorem op_fdvA {X : Cx} : OpR X (binaryOp .FloorDiv) rFdv := OpR.or op_fdiv op_fdivW
theorem ok_fdv : OpOk K mg rFdv fdvD := by
  intro F A H st x y d e z Q G rx ry h q
  unfold fdvD at h
  split at h
  · split at h
    · rename_i hl
      cases rx; cases ry; cases h
      rcases hl with ⟨h1, h2 | h2⟩
      · exact .inl ⟨_, _, rfl, rfl, ⟨h1, h2⟩, q _ _ _ _ Ext.refl G (.int _)⟩
      · exact .inr ⟨_, _, rfl, rfl, ⟨h1, h2⟩, q _ _ _ _ Ext.refl G (.int _)⟩
    · cases h
  · cases h
theorem ok_pow : OpOk K mg (rI CPow fun i j => .int (i ^ j.toNat)) powD := by
  intro F A H st x y d e z Q G rx ry h q
  unfold powD at h
  split at h
  · split at h
    · rename_i hl
      obtain ⟨h1, h2, h3⟩ := hl
      cases rx; cases ry; cases h
      exact ⟨_, _, rfl, rfl, ⟨h1, by omega, h3⟩, q _ _ _ _ Ext.refl G (.int _)⟩
    · cases h
  · cases h
theorem ok_neg : UnOk K mg (rU fun i => .int (-i)) negD := by
  intro F A H st x d z Q G rx h q
  unfold negD at h
  split at h
  · cases rx; cases h
    exact ⟨_, rfl, q _ _ _ _ Ext.refl G (.int _)⟩
  · cases h
theorem plain_dp {st : Sta} {d : D} {v : V} (G : Good K mg F A st H) (r : Rep K mg F A v d) (h : plain d = true) : Dp K H v (pd d) ∧ SeqAt.shaped (pd d) = true := ⟨rep_dp G.sub r (SeqAt.canLay_of_shaped h), h⟩
theorem ok_eq : OpOk K mg (rEqD K) eqD := by
  intro F A H st x y d e z Q G rx ry h q
  unfold eqD at h
  split at h
  · rename_i hl
    obtain ⟨h1, h2⟩ := Bool.and_eq_true_iff.mp hl
    cases h
    obtain ⟨p1, s1⟩ := plain_dp G rx h1
    obtain ⟨p2, s2⟩ := plain_dp G ry h2
    exact ⟨_, _, p1, p2, s1, s2, q _ _ _ _ Ext.refl G (.bl _)⟩
  · cases h
theorem ok_ne : OpOk K mg (rNeD K) neD := by
  intro F A H st x y d e z Q G rx ry h q
  unfold neD at h
  split at h
  · rename_i hl
    obtain ⟨h1, h2⟩ := Bool.and_eq_true_iff.mp hl
    cases h
    obtain ⟨p1, s1⟩ := plain_dp G rx h1
    obtain ⟨p2, s2⟩ := plain_dp G ry h2
    exact ⟨_, _, p1, p2, s1, s2, q _ _ _ _ Ext.refl G (.bl _)⟩
  · cases h
theorem rep_non {v : V} {d : D} (r : Rep K mg F A v d) : decide (v = .non) = isNon d := by
  cases r <;> rfl
theorem ok_isN : OpOk K mg (fun x y H Q => y = .non ∧ Q (.bl (decide (x = .non))) H) isND := by
  intro F A H st x y d e z Q G rx ry h q
  unfold isND at h
  split at h
  · cases ry; cases h
    refine ⟨rfl, q _ _ _ _ Ext.refl G ?_⟩
    rw [rep_non rx]
    exact .bl _
  · cases h
theorem eqB_int (i j : Int) : eqB (.int i) (.int j) = decide (i = j) := by
  simp only [eqB, pd, PyData.eqv]
  exact Bool.beq_eq_decide_eq ..
theorem isInt_eq {d : D} (h : isInt d = true) : ∃ i, d = .int i := by
  cases d <;> simp [isInt] at h
  exact ⟨_, rfl⟩
theorem inV_ints {i : Int} : ∀ {vs : List V} {l : List D}, Reps K mg F A vs l → l.all isInt = true → vs.all flatV = true ∧ inV (.int i) vs = l.any fun z => eqB z (.int i)
  | _, _, .nil, _ => ⟨rfl, rfl⟩
  | _, _, .cons (d := d) h r, e => by
    obtain ⟨e1, e2⟩ := Bool.and_eq_true_iff.mp (show (isInt d && List.all _ isInt) = true from e)
    obtain ⟨j, rfl⟩ := isInt_eq e1
    cases h
    obtain ⟨q1, q2⟩ := inV_ints (i := i) r e2
    refine ⟨?_, ?_⟩
    · rw [List.all_cons, q1]
      rfl
    · unfold inV at q2 ⊢
      rw [List.any_cons, List.any_cons, q2, eqB_int]
      congr 1
theorem any_pds (d : D) : ∀ l : List D, ((pds l).any fun z => PyData.eqv z (pd d)) = l.any fun z => eqB z d
  | [] => rfl
  | x :: l => by
    unfold pds
    rw [List.any_cons, List.any_cons, any_pds d l]
    rfl
theorem inV_non : ∀ {vs : List V} {l : List D}, Reps K mg F A vs l → l.all isInt = true → vs.all flatV = true ∧ inV .non vs = false
  | _, _, .nil, _ => ⟨rfl, rfl⟩
  | _, _, .cons (d := d) h r, e => by
    obtain ⟨e1, e2⟩ := Bool.and_eq_true_iff.mp (show (isInt d && List.all _ isInt) = true from e)
    obtain ⟨j, rfl⟩ := isInt_eq e1
    cases h
    obtain ⟨q1, q2⟩ := inV_non r e2
    refine ⟨?_, ?_⟩
    · rw [List.all_cons, q1]
      rfl
    · unfold inV at q2 ⊢
      rw [List.any_cons, q2]
      rfl
abbrev rInA (K : PySem.W.Frag) : R2 := fun x y H Q => rInD K x y H Q ∨ (rIn K false x y H Q ∨ ∃ i j, x = .str i ∧ y = .str j ∧ Q (.bl (!(Builtin.Str.occurrences j i 0 j.length 1).isEmpty)) H)
theorem op_inA {X : Cx} (hu : X.A.units + 65 < cLine) : OpR X (compareOp .In) (rInA X.K) := OpR.or (op_inD hu) (OpR.or op_in_seq op_in_str)
theorem ok_in : OpOk K mg (rInA K) inD := by
  intro F A H st x y d e z Q G rx ry h q
  unfold inD at h
  split at h
  · rename_i l
    split at h
    · rename_i hl
      obtain ⟨h1, h2⟩ := Bool.and_eq_true_iff.mp hl
      cases h
      obtain ⟨p1, s1⟩ := plain_dp G rx h1
      obtain ⟨p2, s2⟩ := plain_dp G ry h2
      refine .inl ⟨pd d, pds l, p1, ?_, s1, ?_, ?_⟩
      · unfold pd at p2; exact p2
      · unfold pd at s2; exact s2
      · rw [any_pds]
        exact q _ _ _ _ Ext.refl G (.bl _)
    · cases h
  · rename_i l
    split at h
    · rename_i hl
      obtain ⟨h1, h2⟩ := Bool.and_eq_true_iff.mp hl
      cases h
      obtain ⟨j, rfl⟩ := isInt_eq h1
      cases rx
      cases ry with
      | @tup a vs _ s r =>
        obtain ⟨q1, q2⟩ := inV_ints r h2
        refine .inr (.inl ⟨a, vs, rfl, .inr (SqT.mono s G.sub), rfl, q1, ?_⟩)
        rw [if_neg Bool.false_ne_true, q2]
        exact q _ _ _ _ Ext.refl G (.bl _)
    · split at h
      · rename_i hl
        obtain ⟨h1, h2⟩ := Bool.and_eq_true_iff.mp hl
        cases h
        cases d with
        | non =>
          cases rx
          cases ry with
          | @tup a vs _ s r =>
            obtain ⟨q1, q2⟩ := inV_non r h2
            refine .inr (.inl ⟨a, vs, rfl, .inr (SqT.mono s G.sub), rfl, q1, ?_⟩)
            rw [if_neg Bool.false_ne_true, q2]
            exact q _ _ _ _ Ext.refl G (.bl _)
        | _ => exact nomatch h1
      · cases h
  · split at h
    · cases rx; cases ry; cases h
      exact .inr (.inr ⟨_, _, rfl, rfl, q _ _ _ _ Ext.refl G (.bl _)⟩)
    · cases h
  · cases h
theorem atI_reps {vs : List V} {l : List D} {i : Int} {d : D} (r : Reps K mg F A vs l) (e : atI l i = some d) : ∃ v, atI vs i = some v ∧ Rep K mg F A v d := by
  unfold atI at e ⊢
  rw [r.length]
  cases q : ixN l.length i with
  | none => rw [q] at e; cases e
  | some j =>
    rw [q] at e
    exact r.get e
theorem ok_ix : OpOk K mg (rIx K) ixD := by
  intro F A H st x y d e z Q G rx ry h q
  unfold ixD at h
  split at h
  · cases ry
    split at h
    · cases rx with
      | @lst a vs _ s r =>
        obtain ⟨v, e1, r1⟩ := atI_reps r h
        exact .inl ⟨a, vs, _, v, rfl, rfl, SqL.of (G.sub _ _ s), e1, q _ _ _ _ Ext.refl G r1⟩
    · cases rx with
      | @tup a vs _ s r =>
        obtain ⟨v, e1, r1⟩ := atI_reps r h
        exact .inr (.inl ⟨a, vs, _, v, rfl, rfl, SqT.mono s G.sub, e1, q _ _ _ _ Ext.refl G r1⟩)
    · cases rx with
      | @fix a vs _ s r =>
        obtain ⟨v, e1, r1⟩ := atI_reps r h
        exact .inl ⟨a, vs, _, v, rfl, rfl, SqL.mono s G.sub, e1, q _ _ _ _ Ext.refl G r1⟩
    · split at h
      · rename_i hl
        cases rx
        obtain ⟨c, e1, e2⟩ := Option.map_eq_some_iff.mp h
        subst e2
        exact .inr (.inr ⟨_, _, c, rfl, rfl, hl, e1, q _ _ _ _ Ext.refl G (.str _)⟩)
      · cases h
    · split at h
      · rename_i e1
        cases rx with
        | @cell a k hk =>
          obtain ⟨a', h1, h2⟩ := G.addr e1
          rw [hk] at h1; cases h1
          obtain ⟨vs, s, r⟩ := h2
          obtain ⟨v, e2, r1⟩ := atI_reps r h
          exact .inl ⟨a, vs, _, v, rfl, rfl, SqL.of s, e2, q _ _ _ _ Ext.refl G r1⟩
      · cases h
    · cases h
  · cases h
theorem reps1 {xs : List V} {d : D} (r : Reps K mg F A xs [d]) : ∃ v, xs = [v] ∧ Rep K mg F A v d := by
  cases r with
  | cons h r =>
    cases r
    exact ⟨_, rfl, h⟩
theorem reps2 {xs : List V} {d e : D} (r : Reps K mg F A xs [d, e]) : ∃ v w, xs = [v, w] ∧ Rep K mg F A v d ∧ Rep K mg F A w e := by
  cases r with
  | cons h r =>
    obtain ⟨w, e, h2⟩ := reps1 r
    subst e
    exact ⟨_, _, rfl, h, h2⟩
theorem ok_len : CaOk K mg (fun xs H Q => ∃ x n, xs = [x] ∧ LenV K x H n ∧ Q (.int n) H) lenD := by
  intro F A H st xs ds z Q G rx h q
  unfold lenD at h
  split at h
  · obtain ⟨v, rfl, r⟩ := reps1 rx
    cases h
    cases r with
    | @lst a vs _ s r => exact ⟨_, _, rfl, .inl ⟨vs, SqL.of (G.sub _ _ s), r.length.symm⟩, q _ _ _ _ Ext.refl G (.int _)⟩
  · obtain ⟨v, rfl, r⟩ := reps1 rx
    cases h
    cases r with
    | @tup a vs _ s r => exact ⟨_, _, rfl, .inr ⟨vs, SqT.mono s G.sub, r.length.symm⟩, q _ _ _ _ Ext.refl G (.int _)⟩
  · obtain ⟨v, rfl, r⟩ := reps1 rx
    cases h
    cases r with
    | @fix a vs _ s r => exact ⟨_, _, rfl, .inl ⟨vs, SqL.mono s G.sub, r.length.symm⟩, q _ _ _ _ Ext.refl G (.int _)⟩
  · split at h
    · rename_i hl
      obtain ⟨v, rfl, r⟩ := reps1 rx
      cases h
      cases r
      exact ⟨_, _, rfl, ⟨hl, rfl⟩, q _ _ _ _ Ext.refl G (.int _)⟩
    · cases h
  · split at h
    · rename_i e1
      obtain ⟨v, rfl, r⟩ := reps1 rx
      cases h
      cases r with
      | @cell a k hk =>
        obtain ⟨a', h1, h2⟩ := G.addr e1
        rw [hk] at h1; cases h1
        obtain ⟨vs, s, r⟩ := h2
        exact ⟨_, _, rfl, .inl ⟨vs, SqL.of s, r.length.symm⟩, q _ _ _ _ Ext.refl G (.int _)⟩
    · cases h
  · cases h
theorem ok_tuple : CaOk K mg (fun xs H Q => ∃ p ys, xs = [.ref p] ∧ ((SqL K H p ys ∧ ∀ l, H l = none → Q (.ref l) (upd H l (.tup ys))) ∨ (SqT K H p ys ∧ Q (.ref p) H))) tupleD := by
  intro F A H st xs ds z Q G rx h q
  unfold tupleD at h
  split at h
  · obtain ⟨v, rfl, r⟩ := reps1 rx
    cases h
    cases r with
    | @lst a vs _ s r =>
      refine ⟨a, vs, rfl, .inl ⟨SqL.of (G.sub _ _ s), fun p hp => ?_⟩⟩
      obtain ⟨x2, G2⟩ := Ext.alloc (o := .tup vs) G hp
      exact q _ _ _ _ x2 G2 (.tup (SqT.of upd_same) (r.ext x2))
  · obtain ⟨v, rfl, r⟩ := reps1 rx
    cases h
    cases r with
    | @tup a vs _ s r => exact ⟨a, vs, rfl, .inr ⟨SqT.mono s G.sub, q _ _ _ _ Ext.refl G (.tup s r)⟩⟩
  · cases h
theorem ok_intc : CaOk K mg (fun xs H Q => (∃ i, xs = [.int i] ∧ Q (.int i) H) ∨ ∃ k, xs = [.bl k] ∧ Q (.int (if k then 1 else 0)) H) intD := by
  intro F A H st xs ds z Q G rx h q
  unfold intD at h
  split at h
  · obtain ⟨v, rfl, r⟩ := reps1 rx
    cases h
    cases r
    exact .inl ⟨_, rfl, q _ _ _ _ Ext.refl G (.int _)⟩
  · obtain ⟨v, rfl, r⟩ := reps1 rx
    cases h
    cases r
    exact .inr ⟨_, rfl, q _ _ _ _ Ext.refl G (.int _)⟩
  · cases h
theorem ok_max2 : CaOk K mg (fun xs H Q => ∃ i j, xs = [.int i, .int j] ∧ Q (.int (if j > i then j else i)) H) max2D := by
  intro F A H st xs ds z Q G rx h q
  unfold max2D at h
  split at h
  · obtain ⟨v, w, rfl, r, r2⟩ := reps2 rx
    cases h
    cases r; cases r2
    exact ⟨_, _, rfl, q _ _ _ _ Ext.refl G (.int _)⟩
  · cases h
theorem ok_min2 : CaOk K mg (fun xs H Q => ∃ i j, xs = [.int i, .int j] ∧ Q (.int (if j < i then j else i)) H) min2D := by
  intro F A H st xs ds z Q G rx h q
  unfold min2D at h
  split at h
  · obtain ⟨v, w, rfl, r, r2⟩ := reps2 rx
    cases h
    cases r; cases r2
    exact ⟨_, _, rfl, q _ _ _ _ Ext.refl G (.int _)⟩
  · cases h
theorem ints_reps : ∀ {l : List D} {ns : List Int} {vs : List V}, intsOf l = some ns → Reps K mg F A vs l → vs = ns.map V.int
  | [], ns, _, e, r => by
    cases r
    cases e
    rfl
  | d :: l, ns, _, e, r => by
    cases d <;> first
      | cases e
      | (cases r with
         | cons h r =>
           cases h
           obtain ⟨ms, e1, e2⟩ := Option.map_eq_some_iff.mp (show (intsOf l).map _ = some ns from e)
           subst e2
           rw [List.map_cons, ints_reps e1 r])
theorem bls_reps : ∀ {l : List D} {ns : List Bool} {vs : List V}, blsOf l = some ns → Reps K mg F A vs l → vs = ns.map V.bl
  | [], ns, _, e, r => by
    cases r
    cases e
    rfl
  | d :: l, ns, _, e, r => by
    cases d <;> first
      | cases e
      | (cases r with
         | cons h r =>
           cases h
           obtain ⟨ms, e1, e2⟩ := Option.map_eq_some_iff.mp (show (blsOf l).map _ = some ns from e)
           subst e2
           rw [List.map_cons, bls_reps e1 r])
def rSumA (K : PySem.W.Frag) : List V → Hp → VK → Prop := fun vs H Q => rSum K vs H Q ∨ ∃ (a : Addr) (ns : List Int), vs = [V.ref a] ∧ SqT K H a (ns.map V.int) ∧ Q (.int ns.sum) H
theorem ok_sum : CaOk K mg (rSumA K) sumD := by
  intro F A H st xs ds z Q G rx h q
  unfold sumD at h
  split at h
  · obtain ⟨v, rfl, r⟩ := reps1 rx
    obtain ⟨ns, e1, rfl⟩ := Option.map_eq_some_iff.mp h
    cases r with
    | @lst a vs _ s r =>
      have e := ints_reps e1 r
      subst e
      exact .inl ⟨a, ns, rfl, SqL.of (G.sub _ _ s), q _ _ _ _ Ext.refl G (.int _)⟩
  · obtain ⟨v, rfl, r⟩ := reps1 rx
    obtain ⟨ns, e1, rfl⟩ := Option.map_eq_some_iff.mp h
    cases r with
    | @tup a vs _ s r =>
      have e := ints_reps e1 r
      subst e
      exact .inr ⟨a, ns, rfl, SqT.mono s G.sub, q _ _ _ _ Ext.refl G (.int _)⟩
  · cases h
theorem ok_all : CaOk K mg (rAll K) allD := by
  intro F A H st xs ds z Q G rx h q
  unfold allD at h
  split at h
  · obtain ⟨v, rfl, r⟩ := reps1 rx
    obtain ⟨ns, e1, rfl⟩ := Option.map_eq_some_iff.mp h
    cases r with
    | @lst a vs _ s r =>
      have e := bls_reps e1 r
      subst e
      exact ⟨a, ns, rfl, SqL.of (G.sub _ _ s), q _ _ _ _ Ext.refl G (.bl _)⟩
  · cases h
end
section
variable {K : PySem.W.Frag} {mg : Str → Option Value} {F : Hp} {A : List Addr} {H : Hp}
end
section
variable (K : PySem.W.Frag) (mg : Str → Option Value)
end
section
variable {X : Cx} {B : Bs} {W : WX} {e a b : Expr} {lo hi : Option Expr} {pos p2 : Pos} {f : Env → M D} {l u : Env → M (Option Int)}
theorem PO.imp {e : Option Expr} {t t' : TO} (h : PO X e t) (i : ∀ σ H Q, t' σ H Q → t σ H Q) : PO X e t' := ⟨fun pins s σ H Q I z => h.run pins s σ H Q I (i σ H Q z)⟩
def mChain (o o' : D → D → Sta → Option D) (f g h : Env → M D) : Env → M D := fun env => f env >>= fun x => g env >>= fun y => (M.rd (o x y)) >>= fun z => (M.rd fun _ => asB z) >>= fun k => if k then h env >>= fun w => M.rd (o' y w) else pure (.bl false)
theorem chain_imp {g h : Env → M D} {r r' : R2} {o o' : D → D → Sta → Option D} (k : OpOk X.K X.mg r o) (k' : OpOk X.K X.mg r' o') (σ : L2.St) (H : Hp) (Q : VK) (z : rE X.K X.mg B W (mChain o o' f g h) σ H Q) :
    tChain r r' (rE X.K X.mg B W f) (rE X.K X.mg B W g) (rE X.K X.mg B W h) σ H Q := by
  obtain ⟨gh, env, st, R, w⟩ := z
  refine seqE R w fun d st1 F1 A1 H1 x R1 x1 r1 w1 => ?_
  refine seqE R1 w1 fun e st2 F2 A2 H2 y R2 x2 r2 w2 => ?_
  have w2' := wp_bind w2
  have w2'' : ∃ a, o d e st2 = some a ∧ WPc X.K X.mg W F2 A2 σ H2 (((M.rd fun _ => asB a) >>= fun k => if k then h env >>= fun w => M.rd (o' e w) else pure (.bl false)) st2) (fun d F' A' H' => ∀ v, Rep X.K X.mg F' A' v d → Q v H') := by
    unfold M.rd at w2'
    cases q : o d e st2 with
    | none =>
      rw [q] at w2'
      exact w2'.elim
    | some a =>
      rw [q] at w2'
      exact ⟨a, rfl, w2'⟩
  obtain ⟨a, ea, w3⟩ := w2''
  refine k F2 A2 H2 st2 x y d e a _ R2.good (r1.ext x2) r2 ea fun F3 A3 H3 v x3 G3 r3 => ?_
  have w4 := wp_bind (WPc.shift w3 x3)
  have w5 : ∃ b, asB a = some b ∧ WPc X.K X.mg W F3 A3 σ H3 ((if b = true then h env >>= fun w => M.rd (o' e w) else pure (.bl false) : M D) st2) (fun d F' A' H' => ∀ v, Rep X.K X.mg F' A' v d → Q v H') := by
    unfold M.rd at w4
    cases q : asB a with
    | none =>
      rw [q] at w4
      exact w4.elim
    | some b =>
      rw [q] at w4
      exact ⟨b, rfl, w4⟩
  obtain ⟨b, eb, w6⟩ := w5
  refine ⟨b, tBool_rep r3 eb, ?_⟩
  have R3 := R2.step x3 G3
  cases b with
  | true =>
    rw [if_pos rfl] at w6 ⊢
    refine seqE R3 w6 fun u st4 F4 A4 H4 t R4 x4 r4 w7 => ?_
    obtain ⟨c, ec, w8⟩ := WPc.rd w7
    exact k' F4 A4 H4 st4 y t e u c Q R4.good ((r2.ext x3).ext x4) r4 ec fun F' A' H' v x' G' r' => w8 F' A' H' x' G' v r'
  | false =>
    rw [if_neg Bool.false_ne_true] at w6 ⊢
    exact WPc.now w6 R3.good _ (.bl false)
theorem pp_chain {c : Expr} {g h : Env → M D} {op op' : CmpOp} {r r' : R2} {o o' : D → D → Sta → Option D} (ho : OpR X (compareOp op) r) (ho' : OpR X (compareOp op') r') (k : OpOk X.K X.mg r o) (k' : OpOk X.K X.mg r' o') (ha : PE X a (rE X.K X.mg B W f)) (hb : PE X b (rE X.K X.mg B W g)) (hc : PE X c (rE X.K X.mg B W h))
    (t : PE X (.Compare a [op, op'] [b, c] pos) (tChain r r' (rE X.K X.mg B W f) (rE X.K X.mg B W g) (rE X.K X.mg B W h))) : PE X (.Compare a [op, op'] [b, c] pos) (rE X.K X.mg B W (mChain o o' f g h)) :=
  t.imp fun σ H Q z => chain_imp k k' σ H Q z
theorem pq_chain {c : Expr} {g h : Env → M D} {op op' : CmpOp} {r r' : R2} {o o' : D → D → Sta → Option D} (k : OpOk X.K X.mg r o) (k' : OpOk X.K X.mg r' o')
    (t : PT X (.Compare a [op, op'] [b, c] pos) (tTest (tChain r r' (rE X.K X.mg B W f) (rE X.K X.mg B W g) (rE X.K X.mg B W h)))) : PT X (.Compare a [op, op'] [b, c] pos) (rT X.K X.mg B W (tBool (mChain o o' f g h))) := by
  refine t.imp fun σ H Q z => ?_
  obtain ⟨gh, env, st, R, w⟩ := z
  refine chain_imp k k' σ H _ ⟨gh, env, st, R, ?_⟩
  refine Res.wp_mono (wp_bind w) (fun d st1 y F' A' H' x G v r' => ?_) fun _ _ y => y
  obtain ⟨u, eu, w3⟩ := WPc.rd y
  exact ⟨u, tBool_rep r' eu, w3 F' A' H' x G⟩
end
end PL
set_option Elab.async false
set_option linter.all false
set_option maxRecDepth 100000
set_option maxHeartbeats 2000000
namespace PL
open PySem PySem.Spec PyProof.Rows L2

theorem GExt.refl {g : Gh} : GExt g g := ⟨fun _ _ h => h, fun _ _ h => h⟩
theorem GExt.trans {a b c : Gh} (x : GExt a b) (y : GExt b c) : GExt a c := ⟨fun p o h => y.fro p o (x.fro p o h), fun k p h => y.cel k p (x.cel k p h)⟩
section
variable (K : PySem.W.Frag) (mg : Str → Option Value)
def rS (B : Bs) (W : WX) (f : SD) : TS := fun E σ H => ∃ g env st, Rel K mg B g env st σ H ∧ WPs K mg B W g E (f env st)
end
section
variable {K : PySem.W.Frag} {mg : Str → Option Value} {B : Bs} {W : WX} {g g' : Gh} {E E' : Ends} {env : Env} {st : Sta} {σ : L2.St} {H : Hp}
theorem WPs.shift {r : SR} (h : WPs K mg B W g E r) (x : GExt g g') : WPs K mg B W g' E r := by
  cases r with
  | nx env st => exact fun g2 σ H y => h g2 σ H (x.trans y)
  | bk env st => exact fun g2 σ H y => h g2 σ H (x.trans y)
  | ct env st => exact fun g2 σ H y => h g2 σ H (x.trans y)
  | rt d st => exact h
  | exc e env st => exact fun g2 σ H cls dd y => h g2 σ H cls dd (x.trans y)
  | bad => exact h

def sNext : SD := fun env st => .nx env st
def sSeq (a b : SD) : SD := fun env st => match a env st with
  | .nx env' st' => b env' st'
  | r => r
def sE {α : Type} (f : Env → M α) (k : α → SD) : SD := fun env st => match f env st with
  | .ok d st' => k d env st'
  | .exc e st' => .exc e env st'
  | .bad => .bad
def sRet (f : Env → M D) : SD := sE f fun d _ st => .rt d st
def sDrop (f : Env → M D) : SD := sE f fun _ => sNext
def sIf (c : Env → M Bool) (a b : SD) : SD := sE c fun k => if k then a else b
def sSet (i : Nat) (f : Env → M D) : SD := sE f fun d env st => .nx (env.set i (some (.fro d))) st
theorem Rel.setFro {i : Nat} {d : D} {v : V} (R : Rel K mg B g env st σ H) (r : Rep K mg g.F g.A v d) : Rel K mg B g (env.set i (some (.fro d))) st (σ.set i (some v)) H where
  ext := R.ext
  good := R.good
  len := by rw [List.length_set, List.length_set]; exact R.len
  slot := fun j sv e => by
    by_cases q : j = i
    · subst q
      have hl : j < env.length := by
        have h1 := (List.getElem?_eq_some_iff.mp e).1
        rw [List.length_set] at h1
        exact h1
      rw [List.getElem?_set_self hl] at e
      cases e
      exact ⟨v, by rw [List.getElem?_set_self (by rw [← R.len]; exact hl)], r⟩
    · rw [List.getElem?_set_ne (Ne.symm q)] at e
      have h := R.slot j sv e
      cases sv with
      | fro d' =>
        obtain ⟨v', e1, r'⟩ := h
        exact ⟨v', by rw [List.getElem?_set_ne (Ne.symm q)]; exact e1, r'⟩
      | own c =>
        obtain ⟨e1, r'⟩ := h
        exact ⟨by rw [List.getElem?_set_ne (Ne.symm q)]; exact e1, r'⟩
  sep := fun j k c c' e1 e2 n => by
    have h1 : ∀ {j : Nat} {c : Cell}, (env.set i (some (.fro d)))[j]? = some (some (SV.own c)) → env[j]? = some (some (SV.own c)) := fun {j c} e => by
      by_cases q : j = i
      · subst q
        have hl : j < env.length := by
          have h1 := (List.getElem?_eq_some_iff.mp e).1
          rw [List.length_set] at h1
          exact h1
        rw [List.getElem?_set_self hl] at e
        cases e
      · rw [List.getElem?_set_ne (Ne.symm q)] at e
        exact e
    exact R.sep j k c c' (h1 e1) (h1 e2) n
theorem Rel.setNone {i : Nat} {o : Option V} (R : Rel K mg B g env st σ H) : Rel K mg B g (env.set i none) st (σ.set i o) H where
  ext := R.ext
  good := R.good
  len := by rw [List.length_set, List.length_set]; exact R.len
  slot := fun j sv e => by
    by_cases q : j = i
    · subst q
      have hl : j < env.length := by
        have h1 := (List.getElem?_eq_some_iff.mp e).1
        rw [List.length_set] at h1
        exact h1
      rw [List.getElem?_set_self hl] at e
      cases e
    · rw [List.getElem?_set_ne (Ne.symm q)] at e
      have h := R.slot j sv e
      cases sv with
      | fro d' =>
        obtain ⟨v', e1, r'⟩ := h
        exact ⟨v', by rw [List.getElem?_set_ne (Ne.symm q)]; exact e1, r'⟩
      | own c =>
        obtain ⟨e1, r'⟩ := h
        exact ⟨by rw [List.getElem?_set_ne (Ne.symm q)]; exact e1, r'⟩
  sep := fun j k c c' e1 e2 n => by
    have h1 : ∀ {j : Nat} {c : Cell}, (env.set i none)[j]? = some (some (SV.own c)) → env[j]? = some (some (SV.own c)) := fun {j c} e => by
      by_cases q : j = i
      · subst q
        have hl : j < env.length := by
          have h1 := (List.getElem?_eq_some_iff.mp e).1
          rw [List.length_set] at h1
          exact h1
        rw [List.getElem?_set_self hl] at e
        cases e
      · rw [List.getElem?_set_ne (Ne.symm q)] at e
        exact e
    exact R.sep j k c c' (h1 e1) (h1 e2) n
theorem Rel.setOwn {i : Nat} {c : Cell} {p : Addr} (R : Rel K mg B g env st σ H) (hc : CellAt K mg g.F g.A H p c) (hF : g.F p = none) (hA : p ∉ g.A) (hB : B.H p = none)
    (hs : ∀ (j : Nat) c', env[j]? = some (some (.own c')) → j ≠ i → g.ow j ≠ p) : Rel K mg B ⟨g.F, g.A, fun j => if j = i then p else g.ow j⟩ (env.set i (some (.own c))) st (σ.set i (some (.ref p))) H where
  ext := R.ext
  good := R.good
  len := by rw [List.length_set, List.length_set]; exact R.len
  slot := fun j sv e => by
    by_cases q : j = i
    · subst q
      have hl : j < env.length := by
        have h1 := (List.getElem?_eq_some_iff.mp e).1
        rw [List.length_set] at h1
        exact h1
      rw [List.getElem?_set_self hl] at e
      cases e
      show (σ.set j _)[j]? = some (some (.ref (if j = j then p else g.ow j))) ∧ CellAt K mg g.F g.A H (if j = j then p else g.ow j) c ∧ g.F (if j = j then p else g.ow j) = none ∧ (if j = j then p else g.ow j) ∉ g.A ∧ B.H (if j = j then p else g.ow j) = none
      rw [if_pos rfl]
      exact ⟨by rw [List.getElem?_set_self (by rw [← R.len]; exact hl)], hc, hF, hA, hB⟩
    · rw [List.getElem?_set_ne (Ne.symm q)] at e
      have h := R.slot j sv e
      cases sv with
      | fro d' =>
        obtain ⟨v', e1, r'⟩ := h
        exact ⟨v', by rw [List.getElem?_set_ne (Ne.symm q)]; exact e1, r'⟩
      | own c =>
        obtain ⟨e1, r'⟩ := h
        show (σ.set i _)[j]? = some (some (.ref (if j = i then p else g.ow j))) ∧ CellAt K mg g.F g.A H (if j = i then p else g.ow j) c ∧ g.F (if j = i then p else g.ow j) = none ∧ (if j = i then p else g.ow j) ∉ g.A ∧ B.H (if j = i then p else g.ow j) = none
        rw [if_neg q]
        exact ⟨by rw [List.getElem?_set_ne (Ne.symm q)]; exact e1, r'⟩
  sep := fun j k c1 c2 e1 e2 n => by
    show (if j = i then p else g.ow j) ≠ (if k = i then p else g.ow k)
    by_cases qj : j = i
    · subst qj
      have qk : k ≠ j := Ne.symm n
      rw [if_pos rfl, if_neg qk]
      rw [List.getElem?_set_ne (Ne.symm qk)] at e2
      exact Ne.symm (hs k _ e2 qk)
    · rw [List.getElem?_set_ne (Ne.symm qj)] at e1
      rw [if_neg qj]
      by_cases qk : k = i
      · subst qk
        rw [if_pos rfl]
        exact hs j _ e1 qj
      · rw [List.getElem?_set_ne (Ne.symm qk)] at e2
        rw [if_neg qk]
        exact R.sep j k _ _ e1 e2 n
theorem Rel.writeOwn {i : Nat} {c c' : Cell} {o : HO} (R : Rel K mg B g env st σ H) (e : env[i]? = some (some (.own c))) (hc : CellAt K mg g.F g.A (upd H (g.ow i) o) (g.ow i) c') : Rel K mg B g (env.set i (some (.own c'))) st σ (upd H (g.ow i) o) := by
  obtain ⟨s1, s2, s3, s4, s5⟩ := R.slot i _ e
  obtain ⟨u, hu⟩ := s2.thr
  have hi := (List.getElem?_eq_some_iff.mp e).1
  refine ⟨⟨R.ext.fro, R.ext.cel, fun b o n h => ?_, fun b h => ?_, R.ext.newF, R.ext.newA⟩, ⟨fun b o h => ?_, R.good.len, R.good.nd, R.good.off, fun k a c h1 h2 => ?_⟩, by rw [List.length_set]; exact R.len, fun j sv ej => ?_, fun j k c1 c2 e1 e2 n => ?_⟩
  · rw [upd_ne (fun z : b = g.ow i => by rw [z, s5] at h; cases h)]
    exact R.ext.keep b o n h
  · by_cases q : b = g.ow i
    · rw [q, upd_same]; exact fun z => nomatch z
    · rw [upd_ne q]; exact R.ext.there b h
  · rw [upd_ne (fun z : b = g.ow i => by rw [z, s3] at h; cases h)]
    exact R.good.sub b o h
  · exact (R.good.con k a c h1 h2).mono (fun _ _ z => z) (fun _ _ z => z) fun w z => by rw [upd_ne (fun y : a = g.ow i => s4 (by rw [← y]; exact List.mem_of_getElem? h1))]; exact z
  · by_cases q : j = i
    · subst q
      rw [List.getElem?_set_self hi] at ej
      cases ej
      exact ⟨s1, hc, s3, s4, s5⟩
    · rw [List.getElem?_set_ne (Ne.symm q)] at ej
      have h := R.slot j sv ej
      cases sv with
      | fro d' => exact h
      | own c2 =>
        obtain ⟨t1, t2, t3, t4, t5⟩ := h
        exact ⟨t1, t2.mono (fun _ _ z => z) (fun _ _ z => z) fun w z => by rw [upd_ne (R.sep j i _ _ ej e q)]; exact z, t3, t4, t5⟩
  · have h1 : ∀ {j : Nat} {c : Cell}, (env.set i (some (.own c')))[j]? = some (some (SV.own c)) → ∃ c, env[j]? = some (some (SV.own c)) := fun {j c0} e0 => by
      by_cases q : j = i
      · subst q; exact ⟨_, e⟩
      · rw [List.getElem?_set_ne (Ne.symm q)] at e0
        exact ⟨_, e0⟩
    obtain ⟨_, e1'⟩ := h1 e1
    obtain ⟨_, e2'⟩ := h1 e2
    exact R.sep j k _ _ e1' e2' n
def frz (i : Nat) (env : Env) : Env := match env[i]? with
  | some (some (.own c)) => env.set i (some (.fro c.toD))
  | _ => env
theorem Rel.freeze (R : Rel K mg B g env st σ H) (i : Nat) : ∃ F', (∀ b o, g.F b = some o → F' b = some o) ∧ Rel K mg B ⟨F', g.A, g.ow⟩ (frz i env) st σ H := by
  unfold frz
  split
  · rename_i c e
    obtain ⟨s1, s2, s3, s4, s5⟩ := R.slot i _ e
    obtain ⟨u, hu⟩ := s2.thr
    have hi := (List.getElem?_eq_some_iff.mp e).1
    have ne : ∀ {b : Addr} {w : HO}, g.F b = some w → b ≠ g.ow i := fun {b w} h z => by rw [z, s3] at h; cases h
    have kF : ∀ b w, g.F b = some w → upd g.F (g.ow i) u b = some w := fun b w h => by rw [upd_ne (ne h)]; exact h
    refine ⟨upd g.F (g.ow i) u, kF, ⟨fun b o h => kF b o (R.ext.fro b o h), R.ext.cel, R.ext.keep, R.ext.there, fun b h => ?_, R.ext.newA⟩, ⟨fun b o h => ?_, R.good.len, R.good.nd, fun a ha => ?_, fun k a c h1 h2 => ?_⟩, by rw [List.length_set]; exact R.len, fun j sv ej => ?_, fun j k c1 c2 e1 e2 n => ?_⟩
    · by_cases q : b = g.ow i
      · rw [q]; exact .inr s5
      · have h' : g.F b ≠ none := by
          have h2 : upd g.F (g.ow i) u b ≠ none := h
          rw [upd_ne q] at h2
          exact h2
        exact R.ext.newF b h'
    · by_cases q : b = g.ow i
      · have h2 : upd g.F (g.ow i) u b = some o := h
        rw [q, upd_same] at h2
        rw [q]
        cases h2
        exact hu
      · have h2 : upd g.F (g.ow i) u b = some o := h
        rw [upd_ne q] at h2
        exact R.good.sub b o h2
    · show upd g.F (g.ow i) u a = none
      rw [upd_ne (fun z : a = g.ow i => s4 (by rw [← z]; exact ha))]
      exact R.good.off a ha
    · exact (R.good.con k a c h1 h2).mono kF (fun _ _ z => z) fun _ z => z
    · by_cases q : j = i
      · subst q
        rw [List.getElem?_set_self hi] at ej
        cases ej
        exact ⟨_, s1, s2.rep hu kF upd_same⟩
      · rw [List.getElem?_set_ne (Ne.symm q)] at ej
        have h := R.slot j sv ej
        cases sv with
        | fro d' =>
          obtain ⟨v, e1, r⟩ := h
          exact ⟨v, e1, r.mono kF fun _ _ z => z⟩
        | own c2 =>
          obtain ⟨t1, t2, t3, t4, t5⟩ := h
          refine ⟨t1, t2.mono kF (fun _ _ z => z) fun _ z => z, ?_, t4, t5⟩
          show upd g.F (g.ow i) u (g.ow j) = none
          rw [upd_ne (R.sep j i _ _ ej e q)]
          exact t3
    · have h1 : ∀ {j : Nat} {c0 : Cell}, (env.set i (some (.fro c.toD)))[j]? = some (some (SV.own c0)) → env[j]? = some (some (SV.own c0)) := fun {j c0} e0 => by
        by_cases q : j = i
        · subst q
          rw [List.getElem?_set_self hi] at e0
          cases e0
        · rw [List.getElem?_set_ne (Ne.symm q)] at e0
          exact e0
      exact R.sep j k _ _ (h1 e1) (h1 e2) n
  · exact ⟨g.F, fun _ _ h => h, R⟩
theorem sE_wp {α : Type} {f : Env → M α} {k : α → SD} (h : WPs K mg B W g E (sE f k env st)) (R : Rel K mg B g env st σ H) :
    (f env st).wp (fun d st' => WPs K mg B W g E (k d env st')) (fun e st' => ∀ F' A' H' cls dd, Ext g.F g.A H F' A' H' → Good K mg F' A' st' H' → ExnAt K mg F' A' H' cls dd e → W cls dd σ H') := by
  unfold sE at h
  cases q : f env st with
  | ok d st' =>
    rw [q] at h
    exact h
  | exc e st' =>
    rw [q] at h
    exact fun F' A' H' cls dd x G y => h ⟨F', A', g.ow⟩ σ H' cls dd (GExt.of x) (R.step x G) y
  | bad =>
    rw [q] at h
    exact h
theorem seqSE {f : Env → M D} {k : D → SD} {Q : VK} (R : Rel K mg B g env st σ H) (h : WPs K mg B W g E (sE f k env st))
    (cont : ∀ d st1 F1 A1 H1 v, Rel K mg B ⟨F1, A1, g.ow⟩ env st1 σ H1 → Ext g.F g.A H F1 A1 H1 → Rep K mg F1 A1 v d → WPs K mg B W ⟨F1, A1, g.ow⟩ E (k d env st1) → Q v H1) : rE K mg B W f σ H Q := by
  refine ⟨g, env, st, R, ?_⟩
  exact Res.wp_mono (sE_wp h R) (fun d st1 z F1 A1 H1 x G v r => cont d st1 F1 A1 H1 v (R.step x G) x r (z.shift (GExt.of x))) fun _ _ z => z
theorem seqST {f : Env → M Bool} {k : Bool → SD} {Q : Bool → Hp → Prop} (R : Rel K mg B g env st σ H) (h : WPs K mg B W g E (sE f k env st))
    (cont : ∀ d st1 F1 A1 H1, Rel K mg B ⟨F1, A1, g.ow⟩ env st1 σ H1 → Ext g.F g.A H F1 A1 H1 → WPs K mg B W ⟨F1, A1, g.ow⟩ E (k d env st1) → Q d H1) : rT K mg B W f σ H Q := by
  refine ⟨g, env, st, R, ?_⟩
  exact Res.wp_mono (sE_wp h R) (fun d st1 z F1 A1 H1 x G => cont d st1 F1 A1 H1 (R.step x G) x (z.shift (GExt.of x))) fun _ _ z => z
theorem seqSA {f : Env → M (List D)} {k : List D → SD} {Q : List V → Hp → Prop} (R : Rel K mg B g env st σ H) (h : WPs K mg B W g E (sE f k env st))
    (cont : ∀ d st1 F1 A1 H1 v, Rel K mg B ⟨F1, A1, g.ow⟩ env st1 σ H1 → Ext g.F g.A H F1 A1 H1 → Reps K mg F1 A1 v d → WPs K mg B W ⟨F1, A1, g.ow⟩ E (k d env st1) → Q v H1) : rA K mg B W f σ H Q := by
  refine ⟨g, env, st, R, ?_⟩
  exact Res.wp_mono (sE_wp h R) (fun d st1 z F1 A1 H1 x G v r => cont d st1 F1 A1 H1 v (R.step x G) x r (z.shift (GExt.of x))) fun _ _ z => z
end
section
variable {X : Cx} {B : Bs} {W : WX} {e c : Expr} {s : Stmt} {rest b1 b2 : List Stmt} {pos : Pos} {f : Env → M D} {t u : SD} {tc : Env → M Bool}
theorem qs_nil : PSs X [] (rS X.K X.mg B W sNext) := pss_nil.imp fun E σ H ⟨g, env, st, R, w⟩ => w g σ H GExt.refl R
theorem qs_seq_imp {a : TS} {E : Ends} {σ : L2.St} {H : Hp} (z : rS X.K X.mg B W (sSeq t u) E σ H) : tSeq (rS X.K X.mg B W t) (rS X.K X.mg B W u) E σ H := by
  obtain ⟨g, env, st, R, w⟩ := z
  refine ⟨g, env, st, R, ?_⟩
  unfold sSeq at w
  cases q : t env st with
  | nx env' st' =>
    rw [q] at w
    exact fun g' σ' H' x R' => ⟨g', env', st', R', WPs.shift w x⟩
  | bk env' st' => rw [q] at w; exact w
  | ct env' st' => rw [q] at w; exact w
  | rt d st' => rw [q] at w; exact w
  | exc e' env' st' => rw [q] at w; exact w
  | bad => rw [q] at w; exact w
theorem qs_cons (h1 : PS X s (rS X.K X.mg B W t)) (h2 : PSs X rest (rS X.K X.mg B W u)) : PSs X (s :: rest) (rS X.K X.mg B W (sSeq t u)) := (pss_cons h1 h2).imp fun E σ H z => qs_seq_imp (a := tNext) z
theorem qs_one (h1 : PS X s (rS X.K X.mg B W t)) : PSs X [s] (rS X.K X.mg B W t) := pss_one h1
def sFrz (i : Nat) (t : SD) : SD := fun env st => t (frz i env) st
theorem qs_frz (i : Nat) (h : PSs X rest (rS X.K X.mg B W t)) : PSs X rest (rS X.K X.mg B W (sFrz i t)) := h.imp fun E σ H ⟨g, env, st, R, w⟩ => by
  obtain ⟨F', kF, R'⟩ := R.freeze i
  exact ⟨⟨F', g.A, g.ow⟩, frz i env, st, R', WPs.shift w ⟨kF, fun _ _ z => z⟩⟩
theorem qs_ret (he : PE X e (rE X.K X.mg B W f)) : PS X (.Return (some e) pos) (rS X.K X.mg B W (sRet f)) := by
  refine (ps_ret he).imp fun E σ H z => ?_
  obtain ⟨g, env, st, R, w⟩ := z
  exact seqSE R w fun d st1 F1 A1 H1 v R1 x1 r1 w1 => w1 _ _ _ v R1.ext R1.good r1
theorem qs_expr (he : PE X e (rE X.K X.mg B W f)) (hs : swapsWith e none pos.line X.env = pure false := by rfl) : PS X (.Expr e pos) (rS X.K X.mg B W (sDrop f)) := by
  refine (ps_expr he hs).imp fun E σ H z => ?_
  obtain ⟨g, env, st, R, w⟩ := z
  exact seqSE R w fun d st1 F1 A1 H1 v R1 x1 r1 w1 => w1 _ _ _ GExt.refl R1
theorem qs_if (hc : PT X c (rT X.K X.mg B W tc)) (h1 : PSs X b1 (rS X.K X.mg B W t)) (h2 : PSs X b2 (rS X.K X.mg B W u)) : PS X (.If c b1 b2 pos) (rS X.K X.mg B W (sIf tc t u)) := by
  refine (ps_if hc h1 h2).imp fun E σ H z => ?_
  obtain ⟨g, env, st, R, w⟩ := z
  refine seqST R w fun d st1 F1 A1 H1 R1 x1 w1 => ?_
  cases d with
  | true =>
    rw [if_pos rfl] at w1 ⊢
    exact ⟨_, env, st1, R1, w1⟩
  | false =>
    rw [if_neg Bool.false_ne_true] at w1 ⊢
    exact ⟨_, env, st1, R1, w1⟩
theorem qs_set {i : Nat} {x : Str} {pos' : Pos} (hN : X.N.Nodup) (hi : X.N[i]? = some x) (hx : Loc X.env.scope x) (he : PE X e (rE X.K X.mg B W f)) (hs : swapsWith e (some (.Name x pos')) pos.line X.env = pure false := by rfl) (hf : X.fn x = true ∨ X.env.scope.names.lookup x = some .local := by first | exact .inl rfl | exact .inr rfl | assumption) :
    PS X (.Assign [.Name x pos'] e pos) (rS X.K X.mg B W (sSet i f)) := by
  refine (ps_set hN hi hx he hs hf).imp fun E σ H z => ?_
  obtain ⟨g, env, st, R, w⟩ := z
  exact seqSE R w fun d st1 F1 A1 H1 v R1 x1 r1 w1 => w1 _ _ _ GExt.refl (R1.setFro r1)
end

section
variable {X : Cx} {B : Bs} {W : WX} {e c : Expr} {s : Stmt} {rest b1 b2 : List Stmt} {pos : Pos} {f : Env → M D} {t u : SD} {tc : Env → M Bool} {g : Gh} {env : Env} {st : Sta} {σ : L2.St} {H : Hp}
theorem Rel.pushH {o : HO} {p : Addr} (R : Rel X.K X.mg B g env st σ H) (hp : H p = none) : Rel X.K X.mg B g env st σ (upd H p o) := by
  have x : Ext g.F g.A H g.F g.A (upd H p o) := ⟨fun _ _ h => h, fun _ _ h => h, fun b u _ e => by rw [upd_ne (ne_of_none e hp)]; exact e, fun b h => by
    by_cases q : b = p
    · rw [q, upd_same]; exact fun z => nomatch z
    · rw [upd_ne q]; exact h, fun _ h => .inl h, fun _ h => .inl h⟩
  have G : Good X.K X.mg g.F g.A st (upd H p o) := ⟨fun b u e => by rw [upd_ne (ne_of_none (R.good.sub b u e) hp)]; exact R.good.sub b u e, R.good.len, R.good.nd, R.good.off, fun k a c h1 h2 => (R.good.con k a c h1 h2).mono (fun _ _ z => z) (fun _ _ z => z) fun u e => by rw [upd_ne (ne_of_none e hp)]; exact e⟩
  exact R.step x G
theorem Rel.bnone (R : Rel X.K X.mg B g env st σ H) {p : Addr} (hp : H p = none) : B.H p = none := Classical.byContradiction fun q => R.ext.there p q hp
theorem Rel.newOwn {i : Nat} {c : Cell} {o : HO} {p : Addr} (R : Rel X.K X.mg B g env st σ H) (hp : H p = none) (hc : CellAt X.K X.mg g.F g.A (upd H p o) p c) :
    ∃ ow, Rel X.K X.mg B ⟨g.F, g.A, ow⟩ (env.set i (some (.own c))) st (σ.set i (some (.ref p))) (upd H p o) := by
  refine ⟨_, (R.pushH hp).setOwn hc (R.good.fnone hp) (fun z => R.good.there z hp) (R.bnone hp) fun j c' e n z => ?_⟩
  obtain ⟨s1, s2, _⟩ := R.slot j _ e
  obtain ⟨u, hu⟩ := s2.thr
  rw [z, hp] at hu
  cases hu
def ownL (env : Env) (i : Nat) : Option (List D) := match env[i]? with
  | some (some (.own (.lst l))) => some l
  | _ => none
theorem ownL_at {env : Env} {i : Nat} {l : List D} (h : ownL env i = some l) : env[i]? = some (some (.own (.lst l))) := by
  unfold ownL at h
  split at h
  · cases h; assumption
  · cases h
theorem own_tyL {l : List D} {i : Nat} (R : Rel X.K X.mg B g env st σ H) (e : env[i]? = some (some (.own (.lst l)))) : ∃ vs, σ[i]? = some (some (.ref (g.ow i))) ∧ H (g.ow i) = some (.lst vs) ∧ Reps X.K X.mg g.F g.A vs l := by
  obtain ⟨s1, ⟨vs, s2, s3⟩, _⟩ := R.slot i _ e
  exact ⟨vs, s1, s2, s3⟩
theorem tyV_lst {p : Addr} {vs : List V} {K : PySem.W.Frag} {H : Hp} (h : H p = some (.lst vs)) : tyV K "list" (.ref p) H := Or.inl ⟨rfl, _, Or.inl (Or.inl h)⟩
def sAppO (i : Nat) (f : Env → M D) : SD := fun env st => match ownL env i with
  | some l => sE f (fun d env st => if l.length < sizeLine then .nx (env.set i (some (.own (.lst (l ++ [d]))))) st else .bad) env st
  | none => .bad
theorem append_imp {i : Nat} (E : Ends) (σ : L2.St) (H : Hp) (z : rS X.K X.mg B W (sAppO i f) E σ H) : tDrop (tBM X.K "list" rAppend (tVar i) (tCons (rE X.K X.mg B W f) tNil)) E σ H := by
  obtain ⟨g, env, st, R, w⟩ := z
  unfold sAppO at w
  split at w
  · rename_i l hl
    have hl := ownL_at hl
    obtain ⟨vs, e1, e2, r0⟩ := own_tyL R hl
    refine ⟨_, e1, tyV_lst e2, ?_⟩
    refine seqSE R w fun d st1 F1 A1 H1 v R1 x1 r1 w1 => ?_
    obtain ⟨vs1, e3, e4, r2⟩ := own_tyL R1 hl
    split at w1
    · rename_i hz
      refine ⟨g.ow i, vs1, v, rfl, rfl, e4, by rw [r2.length]; exact hz, ?_⟩
      exact w1 _ _ _ GExt.refl (R1.writeOwn hl (o := .lst (vs1 ++ [v])) ⟨_, upd_same, r2.app (.cons r1 .nil)⟩)
    · exact w1.elim
  · exact w.elim
section
variable (K : PySem.W.Frag) (mg : Str → Option Value)
def rL (B : Bs) (W : WX) (f : Env → M (List D)) : TE := fun σ H Q => ∃ g env st, Rel K mg B g env st σ H ∧ WPc K mg W g.F g.A σ H (f env st) (fun ds F' A' H' => ∀ p vs, H' p = none → ∀ H'', H'' = upd H' p (.lst vs) → Reps K mg F' A' vs ds → Q (.ref p) H'')
end
def lstF (f : Env → M (List D)) : Env → M D := fun env => f env >>= fun ds => pure (.lst ds)
theorem seqL {f : Env → M (List D)} {β : Type} {k : List D → M β} {Post : β → Hp → List Addr → Hp → Prop} {Q : VK} {K : PySem.W.Frag} {mg : Str → Option Value} (R : Rel K mg B g env st σ H) (h : WPc K mg W g.F g.A σ H ((f env >>= k) st) Post)
    (cont : ∀ d st1 F1 A1 H1 p vs, Rel K mg B ⟨F1, A1, g.ow⟩ env st1 σ H1 → Ext g.F g.A H F1 A1 H1 → H1 p = none → Reps K mg F1 A1 vs d → WPc K mg W F1 A1 σ H1 (k d st1) Post → Q (.ref p) (upd H1 p (.lst vs))) : rL K mg B W f σ H Q := by
  refine ⟨g, env, st, R, ?_⟩
  refine Res.wp_mono (wp_bind h) (fun d st1 z F1 A1 H1 x G p vs hp H'' e r => ?_) fun _ _ z => z
  rw [e]
  exact cont d st1 F1 A1 H1 p vs (R.step x G) x hp r (WPc.shift z x)
theorem rL_rE (σ : L2.St) (H : Hp) (Q : VK) {fs : Env → M (List D)} (z : rE X.K X.mg B W (lstF fs) σ H Q) : rL X.K X.mg B W fs σ H Q := by
  obtain ⟨g, env, st, R, w⟩ := z
  refine seqL R w fun ds st1 F1 A1 H1 p vs R1 x1 hp r1 w1 => ?_
  obtain ⟨x2, G2⟩ := Ext.alloc (o := .lst vs) R1.good hp
  exact w1 _ _ _ x2 G2 _ (rep_lst_new r1 (R1.good.fnone hp))
theorem pp_frz {fs : Env → M (List D)} (h : PE X e (rL X.K X.mg B W fs)) : PE X e (rE X.K X.mg B W (lstF fs)) := h.imp fun σ H Q z => rL_rE σ H Q z
def sOwn (i : Nat) (fs : Env → M (List D)) : SD := sE fs fun ds env st => .nx (env.set i (some (.own (.lst ds)))) st
theorem own_imp {i : Nat} {fs : Env → M (List D)} (E : Ends) (σ : L2.St) (H : Hp) (z : rS X.K X.mg B W (sOwn i fs) E σ H) : tAsg (rL X.K X.mg B W fs) (gName i) E σ H := by
  obtain ⟨g, env, st, R, w⟩ := z
  refine ⟨g, env, st, R, ?_⟩
  refine Res.wp_mono (sE_wp w R) (fun ds st1 z F1 A1 H1 x G p vs hp H'' e r => ?_) fun _ _ z => z
  rw [e]
  obtain ⟨ow, R2⟩ := (R.step x G).newOwn (i := i) (c := .lst ds) (o := .lst vs) hp ⟨vs, upd_same, r⟩
  exact z ⟨F1, A1, ow⟩ _ _ (GExt.of x) R2
theorem qs_own {i : Nat} {x : Str} {pos' : Pos} {fs : Env → M (List D)} (hN : X.N.Nodup) (hi : X.N[i]? = some x) (hx : Loc X.env.scope x) (he : PE X e (rL X.K X.mg B W fs)) (hs : swapsWith e (some (.Name x pos')) pos.line X.env = pure false := by rfl) (hf : X.fn x = true ∨ X.env.scope.names.lookup x = some .local := by first | exact .inl rfl | exact .inr rfl | assumption) :
    PS X (.Assign [.Name x pos'] e pos) (rS X.K X.mg B W (sOwn i fs)) := (ps_set hN hi hx he hs hf).imp own_imp
def dispL (fs : Env → M (List D)) : Env → M (List D) := fun env => fs env >>= fun ds => M.rd fun _ => if ds.length ≤ sizeLine then some ds else none
theorem pl_lst {es : List Expr} {fs : Env → M (List D)} (h : PA X es (rA X.K X.mg B W fs)) : PE X (.List es pos) (rL X.K X.mg B W (dispL fs)) := by
  refine (pe_lst h).imp fun σ H Q z => ?_
  obtain ⟨gh, env, st, R, w⟩ := z
  refine seqA R w fun ds st1 F1 A1 H1 xs R1 x1 r1 w1 => ?_
  obtain ⟨u, eu, w3⟩ := WPc.rd w1
  split at eu
  · rename_i hl
    cases eu
    exact ⟨by rw [r1.length]; exact hl, fun p hp => w3 _ _ _ Ext.refl R1.good p xs hp _ rfl r1⟩
  · cases eu
end
end PL
set_option Elab.async false
set_option linter.all false
set_option maxRecDepth 100000
set_option maxHeartbeats 4000000
namespace PL
open PySem PySem.Spec PyProof.Rows L2

theorem meets_enum1 {v : Value} {o : Obj} {H : Heap → Prop} (B : Begins v o H) :
    Meets (Builtin.«enumerate.__new__» ⟨[.type "enumerate", v], []⟩) (fun _ R s => H s.heap ∧
      R (.ok (.ret (.ref (s.heap.push o).objs.size))) { s with heap := (s.heap.push o).push { cls := .type "enumerate", data := .fields #[.none, .bool false, .ref s.heap.objs.size, rawInt 0, .none, .none] } }) :=
  .of_wp fun prog w A R s h => by
    obtain ⟨hp, g, d, tk, os⟩ := s; obtain ⟨h1, h⟩ := h
    have hsub := sub_enumerate
    have q1 : ∀ {A' : Around} {E : Value → Shared → Prop} {Q : Value → Shared → Prop}, Q (.ref hp.objs.size) ⟨hp.push o, g, d, tk, os⟩ → wpAny (model prog w) A' (pyIter v) Q E ⟨hp, g, d, tk, os⟩ :=
      fun q => B.iter prog w _ _ ⟨hp, g, d, tk, os⟩ _ h1 q
    wp_walk using q1
    refine wpAny_stack_any fun st => wpAny_pure ?_
    split
    · rename_i c _ _ _ _ _
      cases (c == Value.type "enumerate")
      · wp_walk using q1
        exact ⟨_, rfl, h⟩
      · wp_walk using q1
        exact ⟨_, rfl, h⟩
    · wp_walk using q1
      exact ⟨_, rfl, h⟩
section
variable {prog : Program} {w : World} {A : Around} {E : Value → Shared → Prop} {s : Shared}
theorem call_enum1 {v : Value} {o : Obj} {H : Heap → Prop} {Q : Value → Shared → Prop} (B : Begins v o H) (h1 : H s.heap)
    (h : ∀ h', IsEnum h' (s.heap.objs.size + 1) s.heap.objs.size 0 .none → h'.get? s.heap.objs.size = some o → h'.objs.size = s.heap.objs.size + 2 →
      (∀ b o, s.heap.get? b = some o → h'.get? b = some o) → Q (.ref (s.heap.objs.size + 1)) { s with heap := h' }) :
    wpAny (model prog w) A (call (.type "enumerate") [v]) Q E s := by
  refine callType_new F.called_enumerate (by decide) (F.typeCall_enumerate_1 _) (F.newCall_enumerate_1 _) (fun obj => F.args_object_init_2 obj _) F.entry_enumerate_new
    (meets_enum1 B) ⟨h1, ?_⟩
  have hz : (s.heap.push o).objs.size = s.heap.objs.size + 1 := Heap.size_push ..
  show _ ∧ _
  rw [hz]
  have he : IsEnum ((s.heap.push o).push { cls := .type "enumerate", data := .fields #[.none, .bool false, .ref s.heap.objs.size, rawInt 0, .none, .none] }) (s.heap.objs.size + 1) s.heap.objs.size 0 .none := by
    have := Heap.get?_push_size (s.heap.push o) (o := { cls := .type "enumerate", data := .fields #[.none, .bool false, .ref s.heap.objs.size, rawInt 0, .none, .none] }) rfl
    rw [hz] at this; exact this
  refine ⟨⟨_, he, rfl⟩, h _ he (Heap.get?_push_of_some _ (Heap.get?_push_size _ B.free)) (by rw [Heap.size_push, hz]) fun b o x => Heap.get?_push_of_some _ (Heap.get?_push_of_some _ x)⟩
end
def Iet (K : PySem.W.Frag) (a : Addr) : It :=
  ⟨fun i H => ∃ (xs : List V) (x : V), SqT K H a xs ∧ xs[i]? = some x, fun i H v H' => ∃ T x, v = .ref T ∧ H T = none ∧ H' = upd H T (.tup [.int (i : Nat), x]) ∧ ∀ xs, SqT K H a xs → xs[i]? = some x, fun i H => ∃ xs : List V, SqT K H a xs ∧ xs.length ≤ i⟩
theorem turn_enumT {P : Program} {w : World} {K : PySem.W.Frag} {elts : List Expr} {kk : Nat} {tpos : Pos} (a e it : Addr) (hait : a ≠ it) :
    Turn P w K (.Tuple elts kk tpos) (Iet K a) [e, it] e (fun i h => (∃ old, IsEnum h e it ((i : Nat) : Int) old) ∧ h.IsTupleIter it a i ∧ e ≠ it ∧ e ≠ a) where
  mem := by simp
  obj := fun i h st b hb => by
    obtain ⟨⟨old, he⟩, ⟨o, ho, hc, hd⟩, _⟩ := st
    have e' : b = e ∨ b = it := by simpa using hb
    rcases e' with z | z
    · rw [z]; exact ⟨_, he, fun v q => nomatch q⟩
    · rw [z]; exact ⟨o, ho, fun v q => by rw [hd] at q; cases q⟩
  keep := fun i h h' st k => let ⟨⟨old, he⟩, hi, hne, hea⟩ := st; ⟨⟨old, k e (by simp) _ he⟩, hi.at fun o q => k it (by simp) o q, hne, hea⟩
  item := by
    intro X hP hw hK hc i pins s σ H E I hf st hg
    subst hP hw hK
    obtain ⟨⟨old, he⟩, hit, hne, hea⟩ := st
    obtain ⟨xs, x, hq, hx⟩ := hg
    obtain ⟨its, rv, p, hz⟩ := I.tuple hq
    obtain ⟨u, hu, ru⟩ := rv.get hx
    have hel : e < s.heap.objs.size := Heap.lt_size he
    have hil : it < s.heap.objs.size := by obtain ⟨_, q, _⟩ := hit; exact Heap.lt_size q
    have hlt : i < its.toArray.size := by
      have h1 := (List.getElem?_eq_some_iff.mp hu).1
      simpa using h1
    have D : Draws X.prog X.w X.A.in1 it [it, a] its.toArray.size (fun i v => its.toArray[i]? = some v) (fun i h => h.IsTupleIter it a i ∧ h.IsTuple a its.toArray) := Draws.tuple (show X.A.in1.handled = none from I.ok.hd hc) it a hait its.toArray
    refine wpAny_pyNext_enum_itemC D he ⟨hit, p⟩ hlt hne (by simp [hne, hea]) fun y h' tk hy ho hit' hT hsz hk => ?_
    have ey : y = u := by
      have h2 : its.toArray[i]? = some u := by simpa using hu
      rw [h2] at hy
      exact (Option.some.inj hy).symm
    subst ey
    refine ⟨_, rfl, wpAny_letOwnedTupleGo_enum (s := { s with heap := h', toks := tk + 1 }) ho fun h'' he' sb => ?_⟩
    have hT2 : h''.get? s.heap.objs.size = some { cls := .type "tuple", data := .seq #[.int i tk, y] } := (sb.2 _ (Nat.ne_of_gt hel)).trans hT
    have new : ObjOk X.prog X.w (upd H s.heap.objs.size (.tup [.int (i : Nat), x])) h'' s.heap.objs.size (.tup [.int (i : Nat), x]) :=
      ⟨by show 2 ≤ sizeLine; decide, [.int i tk, y], .cons ⟨_, rfl⟩ (.cons ru .nil), ⟨_, hT2, rfl, _, rfl⟩⟩
    have I1 : Inv X pins σ (upd H s.heap.objs.size (.tup [.int (i : Nat), x])) { s with heap := h'', toks := tk + 1 } :=
      I.turnedNew (ch := [e, it]) (fun b ob hb q => (sb.2 b (fun z => hb (by simp [z]))).trans (hk b ob (fun z => hb (by simp [z])) (fun z => hb (by simp [z])) q)) hf (Nat.le_refl _) new
    refine ⟨.ref s.heap.objs.size, _, I1, rfl, ⟨_, x, rfl, I.hok.fresh (Nat.le_refl _), rfl, fun ys hy => by rw [I.tuple_inj hy hq]; exact hx⟩, ⟨⟨y, ?_⟩, hit'.1.at fun o q => (sb.2 it (Ne.symm hne)).trans q, hne, hea⟩, fun b hb => ?_⟩
    · have e1 : ((i + 1 : Nat) : Int) = (i : Int) + 1 := by omega
      rw [e1]; exact he'
    · have hb' : b < s.heap.objs.size := by
        have e' : b = e ∨ b = it := by simpa using hb
        rcases e' with z | z
        · rw [z]; exact hel
        · rw [z]; exact hil
      rw [upd_ne (Nat.ne_of_lt hb')]
      exact (hf b hb).1
  done := by
    intro X hP hw hK hc i pins s σ H E I hf st hg
    subst hP hw hK
    obtain ⟨⟨old, he⟩, hit, hne, hea⟩ := st
    obtain ⟨xs, hq, hx⟩ := hg
    obtain ⟨its, rv, p, hz⟩ := I.tuple hq
    obtain ⟨f0, f1, f2, f3, f4, f5⟩ := hf it (by simp)
    have hl := rv.length
    -- the iterator at i, past the end
    have D : Draws X.prog X.w X.A.in1 it [it, a] i (fun _ _ => True) (fun j h => h.IsTupleIter it a j ∧ h.IsTuple a its.toArray ∧ j = i) := {
      live := fun _ _ st => let ⟨o, ho, _⟩ := st.1; ⟨o, ho⟩
      frame := fun _ _ _ st hk => ⟨st.1.at fun o e => hk it (by simp) o e, st.2.1.at fun o e => hk a (by simp) o e, st.2.2⟩
      item := fun j s' Q E' hj st hQ => absurd st.2.2 (Nat.ne_of_lt hj)
      done := fun s' Q E' st hE => wpAny_nextOf_tuple_end (show X.A.in1.handled = none from I.ok.hd hc) st.1 st.2.1 (by simp; omega) hE }
    exact wpAny_pyNext_enum_endD D he ⟨hit, p, rfl⟩ fun h' eb => ⟨rfl, I.turned (t' := s.toks) (fun b o hb q => eb b o hb q) f0 f1 f3 f4 f5⟩
  self := fun A i s Q E st h => let ⟨⟨_, he⟩, _⟩ := st; wpAny_pyIter_enum he h
def iEnumA (K : PySem.W.Frag) (ta : TA) : TI := fun σ H R => ta σ H fun vs H1 => ∃ a xs, vs = [.ref a] ∧ ((SqL K H1 a xs ∧ R (Ite K a) H1) ∨ (SqT K H1 a xs ∧ R (Iet K a) H1))
theorem pi_enumA {X : Cx} {e : Expr} {ta : TA} {p pos tpos : Pos} {elts : List Expr} {kk : Nat} (hg : Gl X "enumerate") (hm : X.mg "enumerate" = none) (ha : PA X [e] ta) (hs : starEach [e] X.env = [(false, eval e X.env)] := by rfl) :
    PI X (.Tuple elts kk tpos) (.Call (.Name "enumerate" p) [e] [] pos) (iEnumA X.K ta) := by
  refine ⟨fun pins s σ H R I h => ?_⟩
  refine Call_ (ld_blt I hg hm boot_enumerate (PyProof.Rows.callWith_type1 (thn (ha.run pos pins s σ H _ I h) fun us s1 ⟨vs, H1, I1, r1, q1⟩ => ?_) hs rfl))
  obtain ⟨a, xs, ex, q1⟩ := q1
  subst ex
  cases r1 with
  | cons r rr =>
    cases rr
    cases r
    have two : ∀ b ∈ [s1.heap.objs.size + 1, s1.heap.objs.size], FpOk X pins H1 b := fun b hb => by
      have e' : b = s1.heap.objs.size + 1 ∨ b = s1.heap.objs.size := by simpa using hb
      have hle : s1.heap.objs.size ≤ b := by
        rcases e' with z | z
        · rw [z]; exact Nat.le_add_right _ _
        · rw [z]; exact Nat.le_refl _
      exact I1.fpOk hle (I1.hok.fresh hle)
    rcases q1 with ⟨hq, q⟩ | ⟨hq, q⟩
    · obtain ⟨its, rv, p', hz⟩ := I1.list hq
      refine call_enumerate_list p'.isList fun h' he hit hsz hk => wpAny_pyIter_enum he ?_
      have I2 : Inv X pins σ H1 { s1 with heap := h' } := I1.kept (t' := s1.toks) hk
      exact ⟨s1.heap.objs.size + 1, [s1.heap.objs.size + 1, s1.heap.objs.size], _, _, H1, rfl, I2, turn_enum a (s1.heap.objs.size + 1) s1.heap.objs.size, ⟨⟨.none, he⟩, hit, Nat.succ_ne_self _⟩, two, q⟩
    · obtain ⟨its, rv, p', hz⟩ := I1.tuple hq
      have hal : a < s1.heap.objs.size := p'.lt
      refine call_enum1 (begins_tuple a its.toArray) p' fun h' he hit hsz hk => wpAny_pyIter_enum he ?_
      have I2 : Inv X pins σ H1 { s1 with heap := h' } := I1.kept (t' := s1.toks) hk
      exact ⟨s1.heap.objs.size + 1, [s1.heap.objs.size + 1, s1.heap.objs.size], _, _, H1, rfl, I2, turn_enumT a (s1.heap.objs.size + 1) s1.heap.objs.size (Nat.ne_of_lt hal), ⟨⟨.none, he⟩, ⟨_, hit, rfl, rfl⟩, Nat.succ_ne_self _, Nat.ne_of_gt (Nat.lt_succ_of_lt hal)⟩, two, q⟩
def iSeq (K : PySem.W.Frag) (tl : TE) : TI := fun σ H R => tl σ H fun x H1 => ∃ a, x = .ref a ∧ (((∃ xs, SqL K H1 a xs) ∧ R (Itl K a) H1) ∨ ((∃ xs, SqT K H1 a xs) ∧ R (Itt K a) H1))
theorem pi_seq {X : Cx} {tg l : Expr} {tl : TE} (hl : PE X l tl) : PI X tg l (iSeq X.K tl) := by
  refine ⟨fun pins s σ H R I h => ?_⟩
  refine thn (hl.run pins s σ H _ I h) fun v s1 ⟨x, H1, I1, r1, q1⟩ => ?_
  obtain ⟨a, e, q⟩ := q1
  subst e
  cases r1
  rcases q with ⟨⟨xs, hq⟩, q⟩ | ⟨⟨xs, hq⟩, q⟩
  · obtain ⟨its, rv, p, hz⟩ := I1.list hq
    refine wpAny_pyIter_list p.isList ?_
    refine ⟨s1.heap.objs.size, [s1.heap.objs.size], _, _, H1, rfl, I1.kept (t' := s1.toks) fun b o e => Heap.get?_push_of_some _ e, turn_list a _, ⟨_, Heap.get?_push_size _ rfl, rfl, rfl⟩, fun b hb => ?_, q⟩
    have e : b = s1.heap.objs.size := by simpa using hb
    subst e
    exact I1.fpOk (Nat.le_refl _) (I1.hok.fresh (Nat.le_refl _))
  · obtain ⟨its, rv, p, hz⟩ := I1.tuple hq
    refine wpAny_pyIter_tuple (show s1.heap.IsTuple a its.toArray from p) ?_
    refine ⟨s1.heap.objs.size, [s1.heap.objs.size], _, _, H1, rfl, I1.kept (t' := s1.toks) fun b o e => Heap.get?_push_of_some _ e, turn_tuple a _, ⟨_, Heap.get?_push_size _ rfl, rfl, rfl⟩, fun b hb => ?_, q⟩
    have e : b = s1.heap.objs.size := by simpa using hb
    subst e
    exact I1.fpOk (Nat.le_refl _) (I1.hok.fresh (Nat.le_refl _))
end PL
set_option Elab.async false
set_option linter.all false
set_option maxRecDepth 100000
set_option maxHeartbeats 2000000
namespace PL
open PySem PySem.Spec PyProof.Rows L2

section
variable (K : PySem.W.Frag) (mg : Str → Option Value)
def ItOk (J : It) (F : Hp) (A : List Addr) (ds : List D) : Prop := ∀ (i : Nat) F' A' st H', (∀ b o, F b = some o → F' b = some o) → (∀ (k : Nat) (a : Addr), A[k]? = some a → A'[k]? = some a) → Good K mg F' A' st H' →
  (∀ d, ds[i]? = some d → J.go i H' ∧ ∀ x H'', J.yld i H' x H'' → ∃ F'', Ext F' A' H' F'' A' H'' ∧ Good K mg F'' A' st H'' ∧ Rep K mg F'' A' x d) ∧ (ds.length ≤ i → J.stop i H')
def rI (B : Bs) (W : WX) (f : Env → M (List D)) : TI := fun σ H R => ∃ g env st, Rel K mg B g env st σ H ∧ WPc K mg W g.F g.A σ H (f env st) (fun ds F' A' H' => ∀ J, ItOk K mg J F' A' ds → R J H')
def gA (B : Bs) (a : D → SD) : TG := fun v σ H Q => ∃ g env st d, Rel K mg B g env st σ H ∧ Rep K mg g.F g.A v d ∧ WPs K mg B W0 g ⟨Q, fun _ _ => False, fun _ _ => False, fun _ _ => False⟩ (a d env st)
def gAs (B : Bs) (a : List D → SD) : TGs := fun vs σ H Q => ∃ g env st ds, Rel K mg B g env st σ H ∧ Reps K mg g.F g.A vs ds ∧ WPs K mg B W0 g ⟨Q, fun _ _ => False, fun _ _ => False, fun _ _ => False⟩ (a ds env st)
end
def seqIt (d : D) (_ : Sta) : Option (List D) := match d with
  | .lst l => some l
  | .tup l => some l
  | .fix l => some l
  | _ => none
def rng (lo : Int) (n : Nat) : List D := (List.range n).map fun (i : Nat) => D.int (lo + (i : Int))
def rng1 (ds : List D) (_ : Sta) : Option (List D) := match ds with
  | [.int j] => if -(2 ^ 62) ≤ j ∧ j < 2 ^ 62 then some (rng 0 j.toNat) else none
  | _ => none
def enumFrom (l : List D) : List D := (l.zipIdx).map fun p => D.tup [.int (p.2 : Nat), p.1]
def enumD (ds : List D) (_ : Sta) : Option (List D) := match ds with
  | [.lst l] => some (enumFrom l)
  | [.tup l] => some (enumFrom l)
  | _ => none
def strD (d : D) (_ : Sta) : Option (List D) := match d with
  | .str x => some (x.cps.toList.map fun c => D.str ⟨#[c]⟩)
  | _ => none
def itO (o : D → Sta → Option (List D)) (f : Env → M D) : Env → M (List D) := fun env => f env >>= fun d => M.rd (o d)
def itN (o : List D → Sta → Option (List D)) (fs : Env → M (List D)) : Env → M (List D) := fun env => fs env >>= fun ds => M.rd (o ds)
section
variable {K : PySem.W.Frag} {mg : Str → Option Value} {F : Hp} {A : List Addr}
theorem rep_pair {F' : Hp} {A' : List Addr} {st : Sta} {H' : Hp} {T : Addr} {x y : V} {d e : D} (G : Good K mg F' A' st H') (hT : H' T = none) (rx : Rep K mg F' A' x d) (ry : Rep K mg F' A' y e) :
    Ext F' A' H' (upd F' T (.tup [x, y])) A' (upd H' T (.tup [x, y])) ∧ Good K mg (upd F' T (.tup [x, y])) A' st (upd H' T (.tup [x, y])) ∧ Rep K mg (upd F' T (.tup [x, y])) A' (.ref T) (.tup [d, e]) := by
  obtain ⟨x2, G2⟩ := Ext.alloc (o := .tup [x, y]) G hT
  exact ⟨x2, G2, .tup (SqT.of upd_same) (.cons (rx.ext x2) (.cons (ry.ext x2) .nil))⟩
theorem it_list {a : Addr} {vs : List V} {ds : List D} (s : SqL K F a vs) (r : Reps K mg F A vs ds) : ItOk K mg (Itl K a) F A ds := by
  intro i F' A' st H' kF kA G
  have s' : SqL K H' a vs := SqL.mono (SqL.mono s kF) G.sub
  refine ⟨fun d hd => ?_, fun h => ⟨vs, s', by rw [r.length]; exact h⟩⟩
  obtain ⟨v, hv, rv⟩ := (r.mono kF kA).get hd
  refine ⟨⟨vs, v, s', hv⟩, fun x H'' y => ?_⟩
  obtain ⟨e, y⟩ := y
  subst e
  have e2 := y vs s'
  rw [hv] at e2
  cases e2
  exact ⟨F', Ext.refl, G, rv⟩
theorem it_tup {a : Addr} {vs : List V} {ds : List D} (s : SqT K F a vs) (r : Reps K mg F A vs ds) : ItOk K mg (Itt K a) F A ds := by
  intro i F' A' st H' kF kA G
  have s' : SqT K H' a vs := SqT.mono (SqT.mono s kF) G.sub
  refine ⟨fun d hd => ?_, fun h => ⟨vs, s', by rw [r.length]; exact h⟩⟩
  obtain ⟨v, hv, rv⟩ := (r.mono kF kA).get hd
  refine ⟨⟨vs, v, s', hv⟩, fun x H'' y => ?_⟩
  obtain ⟨e, y⟩ := y
  subst e
  have e2 := y vs s'
  rw [hv] at e2
  cases e2
  exact ⟨F', Ext.refl, G, rv⟩
theorem it_rng {lo : Int} {n : Nat} : ItOk K mg (Itr lo n) F A (rng lo n) := by
  intro i F' A' st H' kF kA G
  refine ⟨fun d hd => ?_, fun h => ?_⟩
  · have hi : i < n := by
      have h1 := (List.getElem?_eq_some_iff.mp hd).1
      simpa [rng] using h1
    refine ⟨hi, fun x H'' y => ?_⟩
    obtain ⟨e, ex⟩ := y
    subst e ex
    have e2 : d = .int (lo + (i : Int)) := by
      simp [rng, hi] at hd
      exact hd.symm
    subst e2
    exact ⟨F', Ext.refl, G, .int _⟩
  · show n ≤ i
    simpa [rng] using h
theorem enum_get {l : List D} {i : Nat} {d : D} (h : (enumFrom l)[i]? = some d) : ∃ e, l[i]? = some e ∧ d = .tup [.int (i : Nat), e] := by
  unfold enumFrom at h
  rw [List.getElem?_map, List.getElem?_zipIdx] at h
  cases q : l[i]? with
  | none => rw [q] at h; cases h
  | some e =>
    rw [q] at h
    simp at h
    exact ⟨e, rfl, h.symm⟩
theorem it_enumL {a : Addr} {vs : List V} {ds : List D} (s : SqL K F a vs) (r : Reps K mg F A vs ds) : ItOk K mg (Ite K a) F A (enumFrom ds) := by
  intro i F' A' st H' kF kA G
  have s' : SqL K H' a vs := SqL.mono (SqL.mono s kF) G.sub
  refine ⟨fun d hd => ?_, fun h => ⟨vs, s', by rw [r.length]; simpa [enumFrom] using h⟩⟩
  obtain ⟨e, he, ed⟩ := enum_get hd
  subst ed
  obtain ⟨v, hv, rv⟩ := (r.mono kF kA).get he
  refine ⟨⟨vs, v, s', hv⟩, fun x H'' y => ?_⟩
  obtain ⟨T, x', ex, hT, eH, y⟩ := y
  subst ex eH
  have e2 := y vs s'
  rw [hv] at e2
  cases e2
  exact ⟨_, rep_pair G hT (.int _) rv⟩
theorem it_enumT {a : Addr} {vs : List V} {ds : List D} (s : SqT K F a vs) (r : Reps K mg F A vs ds) : ItOk K mg (Iet K a) F A (enumFrom ds) := by
  intro i F' A' st H' kF kA G
  have s' : SqT K H' a vs := SqT.mono (SqT.mono s kF) G.sub
  refine ⟨fun d hd => ?_, fun h => ⟨vs, s', by rw [r.length]; simpa [enumFrom] using h⟩⟩
  obtain ⟨e, he, ed⟩ := enum_get hd
  subst ed
  obtain ⟨v, hv, rv⟩ := (r.mono kF kA).get he
  refine ⟨⟨vs, v, s', hv⟩, fun x H'' y => ?_⟩
  obtain ⟨T, x', ex, hT, eH, y⟩ := y
  subst ex eH
  have e2 := y vs s'
  rw [hv] at e2
  cases e2
  exact ⟨_, rep_pair G hT (.int _) rv⟩
theorem it_str {x : Str} : ItOk K mg (Its x) F A (x.cps.toList.map fun c => D.str ⟨#[c]⟩) := by
  intro i F' A' st H' kF kA G
  refine ⟨fun d hd => ?_, fun h => ?_⟩
  · rw [List.getElem?_map] at hd
    obtain ⟨c, h1, h2⟩ := Option.map_eq_some_iff.mp hd
    have hi : i < x.cps.size := by
      have h3 := (List.getElem?_eq_some_iff.mp h1).1
      simpa using h3
    refine ⟨hi, fun v H'' y => ?_⟩
    obtain ⟨e, c', e2, e3⟩ := y
    subst e e3 h2
    have e4 : x.cps[i]? = some c := by simpa using h1
    rw [e2] at e4
    cases e4
    exact ⟨F', Ext.refl, G, .str _⟩
  · show x.cps.size ≤ i
    simpa using h
end
section
variable {X : Cx} {B : Bs} {W : WX} {e e2 tg : Expr} {p pos tpos : Pos} {elts : List Expr} {kk : Nat} {f : Env → M D} {fs : Env → M (List D)}
theorem PI.imp {tg iter : Expr} {t t' : TI} (h : PI X tg iter t) (i : ∀ σ H Q, t' σ H Q → t σ H Q) : PI X tg iter t' := ⟨fun pins s σ H R I z => h.run pins s σ H R I (i σ H R z)⟩
theorem qi_seq (he : PE X e (rE X.K X.mg B W f)) : PI X tg e (rI X.K X.mg B W (itO seqIt f)) := by
  refine PI.imp (pi_seq he) fun σ H Q z => ?_
  obtain ⟨g, env, st, R, w⟩ := z
  refine seqE R w fun d st1 F1 A1 H1 x R1 x1 r1 w1 => ?_
  obtain ⟨u, eu, w3⟩ := WPc.rd w1
  unfold seqIt at eu
  split at eu
  · cases eu
    cases r1 with
    | @lst a vs _ s r => exact ⟨a, rfl, .inl ⟨⟨vs, SqL.of (R1.good.sub _ _ s)⟩, w3 _ _ _ Ext.refl R1.good _ (it_list (SqL.of s) r)⟩⟩
  · cases eu
    cases r1 with
    | @tup a vs _ s r => exact ⟨a, rfl, .inr ⟨⟨vs, SqT.mono s R1.good.sub⟩, w3 _ _ _ Ext.refl R1.good _ (it_tup s r)⟩⟩
  · cases eu
    cases r1 with
    | @fix a vs _ s r => exact ⟨a, rfl, .inl ⟨⟨vs, SqL.mono s R1.good.sub⟩, w3 _ _ _ Ext.refl R1.good _ (it_list s r)⟩⟩
  · cases eu
theorem qi_str (he : PE X e (rE X.K X.mg B W f)) : PI X tg e (rI X.K X.mg B W (itO strD f)) := by
  refine PI.imp (pi_str he) fun σ H Q z => ?_
  obtain ⟨g, env, st, R, w⟩ := z
  refine seqE R w fun d st1 F1 A1 H1 x R1 x1 r1 w1 => ?_
  obtain ⟨u, eu, w3⟩ := WPc.rd w1
  unfold strD at eu
  split at eu
  · cases eu
    cases r1
    exact ⟨_, rfl, w3 _ _ _ Ext.refl R1.good _ it_str⟩
  · cases eu
theorem qi_range1 (hg : Gl X "range") (hm : X.mg "range" = none) (ha : PA X [e] (rA X.K X.mg B W fs)) (hs : starEach [e] X.env = [(false, eval e X.env)] := by rfl) : PI X tg (.Call (.Name "range" p) [e] [] pos) (rI X.K X.mg B W (itN rng1 fs)) := by
  refine PI.imp (pi_range1 hg hm ha hs) fun σ H Q z => ?_
  obtain ⟨g, env, st, R, w⟩ := z
  refine seqA R w fun d st1 F1 A1 H1 x R1 x1 r1 w1 => ?_
  obtain ⟨u, eu, w3⟩ := WPc.rd w1
  unfold rng1 at eu
  split at eu
  · split at eu
    · rename_i hl
      cases eu
      obtain ⟨v, rfl, r⟩ := reps1 r1
      cases r
      exact ⟨_, rfl, hl.1, hl.2, w3 _ _ _ Ext.refl R1.good _ it_rng⟩
    · cases eu
  · cases eu
theorem qi_enum (hg : Gl X "enumerate") (hm : X.mg "enumerate" = none) (ha : PA X [e] (rA X.K X.mg B W fs)) (hs : starEach [e] X.env = [(false, eval e X.env)] := by rfl) :
    PI X (.Tuple elts kk tpos) (.Call (.Name "enumerate" p) [e] [] pos) (rI X.K X.mg B W (itN enumD fs)) := by
  refine PI.imp (pi_enumA hg hm ha hs) fun σ H Q z => ?_
  obtain ⟨g, env, st, R, w⟩ := z
  refine seqA R w fun d st1 F1 A1 H1 x R1 x1 r1 w1 => ?_
  obtain ⟨u, eu, w3⟩ := WPc.rd w1
  unfold enumD at eu
  split at eu
  · cases eu
    obtain ⟨v, rfl, r⟩ := reps1 r1
    cases r with
    | @lst a vs _ s r => exact ⟨a, vs, rfl, .inl ⟨SqL.of (R1.good.sub _ _ s), w3 _ _ _ Ext.refl R1.good _ (it_enumL (SqL.of s) r)⟩⟩
  · cases eu
    obtain ⟨v, rfl, r⟩ := reps1 r1
    cases r with
    | @tup a vs _ s r => exact ⟨a, vs, rfl, .inr ⟨SqT.mono s R1.good.sub, w3 _ _ _ Ext.refl R1.good _ (it_enumT s r)⟩⟩
  · cases eu
end

def aName (i : Nat) : D → SD := fun d env st => .nx (env.set i (some (.fro d))) st
def aTup (n : Nat) (a : List D → SD) : D → SD := fun d => match d with
  | .tup ds => if ds.length = n then a ds else fun _ _ => .bad
  | _ => fun _ _ => .bad
def aNil : List D → SD := fun ds => match ds with
  | [] => sNext
  | _ => fun _ _ => .bad
def aCons (a : D → SD) (b : List D → SD) : List D → SD := fun ds => match ds with
  | d :: r => fun env st => match a d env st with
    | .nx env' st' => b r env' st'
    | _ => .bad
  | [] => fun _ _ => .bad
section
variable {X : Cx} {B : Bs} {W : WX} {pos : Pos}
theorem PG.imp {tg : Expr} {t t' : TG} (h : PG X tg t) (i : ∀ v σ H Q, t' v σ H Q → t v σ H Q) : PG X tg t' := ⟨fun pins s σ H v u Q I r z => h.run pins s σ H v u Q I r (i v σ H Q z)⟩
theorem PGs.imp {ts : List Expr} {t t' : TGs} (h : PGs X ts t) (i : ∀ v σ H Q, t' v σ H Q → t v σ H Q) : PGs X ts t' := ⟨fun pins s σ H v u Q I r z => h.run pins s σ H v u Q I r (i v σ H Q z)⟩
theorem qg_name {i : Nat} {x : Str} (hN : X.N.Nodup) (hi : X.N[i]? = some x) (hx : Loc X.env.scope x) (hf : X.fn x = true ∨ X.env.scope.names.lookup x = some .local := by first | exact .inl rfl | exact .inr rfl | assumption) : PG X (.Name x pos) (gA X.K X.mg B (aName i)) :=
  PG.imp (pg_name hN hi hx hf) fun v σ H Q ⟨g, env, st, d, R, r, w⟩ => w g _ H GExt.refl (R.setFro r)
theorem qgs_nil : PGs X [] (gAs X.K X.mg B aNil) := PGs.imp pgs_nil fun v σ H Q ⟨g, env, st, ds, R, r, w⟩ => by
  cases r with
  | nil => exact ⟨rfl, w g σ H GExt.refl R⟩
  | cons h r => exact w.elim
theorem qgs_cons {e : Expr} {es : List Expr} {a : D → SD} {b : List D → SD} (h1 : PG X e (gA X.K X.mg B a)) (h2 : PGs X es (gAs X.K X.mg B b))
    (hs : (assignEach (e :: es) X.env).map (·.2) = assign e X.env :: (assignEach es X.env).map (·.2) := by rfl) : PGs X (e :: es) (gAs X.K X.mg B (aCons a b)) := PGs.imp (pgs_cons h1 h2 hs) fun v σ H Q ⟨g, env, st, ds, R, r, w⟩ => by
  cases r with
  | nil => exact w.elim
  | @cons v vs d ds h r =>
    refine ⟨v, vs, rfl, g, env, st, d, R, h, ?_⟩
    have w' : WPs X.K X.mg B W0 g ⟨Q, fun _ _ => False, fun _ _ => False, fun _ _ => False⟩ (match a d env st with
      | .nx env' st' => b ds env' st'
      | _ => .bad) := w
    cases q : a d env st with
    | nx env' st' =>
      rw [q] at w'
      exact fun g' σ' H' x R' => ⟨g', env', st', ds, R', r.mono x.fro x.cel, WPs.shift w' x⟩
    | bk env' st' => rw [q] at w'; exact w'.elim
    | ct env' st' => rw [q] at w'; exact w'.elim
    | rt d st' => rw [q] at w'; exact w'.elim
    | exc e' env' st' => rw [q] at w'; exact w'.elim
    | bad => rw [q] at w'; exact w'.elim
theorem qg_tup {es : List Expr} {k : Nat} {a : List D → SD} {n : Nat} (hc : X.calm = true) (h : PGs X es (gAs X.K X.mg B a))
    (hn : (assignEach es X.env).length = n := by rfl) (hst : (assignEach es X.env).findIdx? (·.1) = none := by rfl) : PG X (.Tuple es k pos) (gA X.K X.mg B (aTup n a)) := PG.imp (pg_tup hc h hn hst) fun v σ H Q ⟨g, env, st, d, R, r, w⟩ => by
  unfold aTup at w
  split at w
  · rename_i ds
    split at w
    · rename_i hl
      cases r with
      | @tup p vs _ s r => exact ⟨p, vs, rfl, SqT.mono s R.good.sub, by rw [r.length]; exact hl, g, env, st, ds, R, r, w⟩
    · exact w.elim
  · exact w.elim
def sAsg (f : Env → M D) (a : D → SD) : SD := sE f fun d env st => match a d env st with
  | .nx env' st' => .nx env' st'
  | _ => .bad
theorem WPs.only {K : PySem.W.Frag} {mg : Str → Option Value} {W W' : WX} {g : Gh} {E : Ends} {r : SR} (h : WPs K mg B W g E (match r with
    | .nx env' st' => .nx env' st'
    | _ => .bad)) : WPs K mg B W' g ⟨E.nx, fun _ _ => False, fun _ _ => False, fun _ _ => False⟩ r := by
  cases r with
  | nx env st => exact h
  | bk env' st' => exact h.elim
  | ct env' st' => exact h.elim
  | rt d st' => exact h.elim
  | exc e' env' st' => exact h.elim
  | bad => exact h.elim
theorem qs_asg {tg e : Expr} {f : Env → M D} {a : D → SD} (he : PE X e (rE X.K X.mg B W f)) (hg : PG X tg (gA X.K X.mg B a)) (hs : swapsWithSole [tg] e pos.line X.env = pure false := by rfl) (hw : swappedStores [tg] e X.env = pure none := by rfl)
    (h1 : (assignEach [tg] X.env).map (·.2) = [assign tg X.env] := by rfl) : PS X (.Assign [tg] e pos) (rS X.K X.mg B W (sAsg f a)) := by
  refine (ps_asg he hg hs hw h1).imp fun E σ H z => ?_
  obtain ⟨g, env, st, R, w⟩ := z
  exact seqSE R w fun d st1 F1 A1 H1 v R1 x1 r1 w1 => ⟨_, env, st1, d, R1, r1, WPs.only w1⟩
def sPar (i j : Nat) (f h : Env → M D) : SD := sE f fun x => sE h fun y => fun env st => .nx ((env.set i (some (.fro x))).set j (some (.fro y))) st
theorem qs_par {i j : Nat} {x y : Str} {a b : Expr} {f h : Env → M D} {px py pt : Pos} {kt k2 pt2} (hc : X.calm = true) (hN : X.N.Nodup) (hi : X.N[i]? = some x) (hj : X.N[j]? = some y) (hij : i ≠ j)
    (hx : X.env.scope.names.lookup x = some .local) (hy : X.env.scope.names.lookup y = some .local) (ha : PE X a (rE X.K X.mg B W f)) (hb : PE X b (rE X.K X.mg B W h))
    (hw : swappedStores [.Tuple [.Name x px, .Name y py] kt pt] (.Tuple [a, b] k2 pt2) X.env = pure (some [x, y]))
    (hs : swapsWithSole [.Tuple [.Name x px, .Name y py] kt pt] (.Tuple [a, b] k2 pt2) pos.line X.env = pure false := by rfl)
    (he1 : starEach (a :: [b]) X.env = (false, eval a X.env) :: starEach [b] X.env := by rfl) (he2 : starEach (b :: []) X.env = (false, eval b X.env) :: starEach [] X.env := by rfl) :
    PS X (.Assign [.Tuple [.Name x px, .Name y py] kt pt] (.Tuple [a, b] k2 pt2) pos) (rS X.K X.mg B W (sPar i j f h)) := by
  refine (ps_par hc hN hi hj hij hx hy (pa_cons ha (pa_cons hb pa_nil he2) he1) hw hs).imp fun E σ H z => ?_
  obtain ⟨g, env, st, R, w⟩ := z
  refine seqSE R w fun d st1 F1 A1 H1 v R1 x1 r1 w1 => ?_
  refine seqSE R1 w1 fun d2 st2 F2 A2 H2 v2 R2 x2 r2 w2 => ?_
  exact ⟨v, v2, rfl, w2 _ _ _ GExt.refl ((R2.setFro (r1.ext x2)).setFro r2)⟩
def aSubC (cf : Env → M D) (ix : Env → M D) : D → SD := fun d => sE cf fun c => sE ix fun k env st => match c, k with
  | .cell n, .int z => (match st[n]? with
    | some (.lst l) => (match ixN l.length z with
      | some j => .nx env (st.set n (.lst (l.set j d)))
      | none => .bad)
    | _ => .bad)
  | _, _ => .bad
theorem qg_subC {o ie : Expr} {cf ix : Env → M D} (ho : PE X o (rE X.K X.mg B W0 cf)) (hi : PE X ie (rE X.K X.mg B W0 ix))
    (ha : ∀ v, assign (.Subscript o ie pos) X.env v = (do
      let ov ← holding [v] (eval o X.env)
      let iv ← holding [v, ov] (eval ie X.env)
      standAt pos
      holding [v, ov, iv] (setItem ov iv v)
      release [v, ov, iv] []) := by intro _; rfl) : PG X (.Subscript o ie pos) (gA X.K X.mg B (aSubC cf ix)) := PG.imp (pg_sub ho hi set_list ha) fun v σ H Q ⟨g, env, st, d, R, r, w⟩ => by
  refine seqSE R w fun c st1 F1 A1 H1 cv R1 x1 r1 w1 => ?_
  refine seqSE R1 w1 fun k st2 F2 A2 H2 kv R2 x2 r2 w2 => ?_
  split at w2
  · split at w2
    · split at w2
      · rename_i n z _ l hl _ j hj
        cases r2
        cases (r1.ext x2) with
        | @cell a k hk =>
          obtain ⟨a', h1, h2⟩ := R2.good.addr hl
          have h1' : A2[n]? = some a' := h1
          rw [hk] at h1'; cases h1'
          obtain ⟨vs, s, r3⟩ := h2
          refine ⟨a, vs, _, j, rfl, rfl, s, by rw [r3.length]; exact hj, ?_⟩
          obtain ⟨x3, G3⟩ := Ext.write (o := .lst (vs.set j v)) (c := .lst (l.set j d)) R2.good hk ⟨_, upd_same, r3.set j ((r.ext x1).ext x2)⟩
          exact w2 _ _ _ (GExt.of x3) (R2.step x3 G3)
      · exact w2.elim
    · exact w2.elim
  · exact w2.elim
theorem qs_store {tg e : Expr} {f : Env → M D} {a : D → SD} (he : PE X e (rE X.K X.mg B W f)) (hg : PG X tg (gA X.K X.mg B a)) (hs : swapsWithSole [tg] e pos.line X.env = pure false := by rfl) (hw : swappedStores [tg] e X.env = pure none := by rfl)
    (h1 : (assignEach [tg] X.env).map (·.2) = [assign tg X.env] := by rfl) : PS X (.Assign [tg] e pos) (rS X.K X.mg B W (sAsg f a)) := qs_asg he hg hs hw h1
end

def sLoop (a : D → SD) (body : SD) : List D → SD
  | [] => sNext
  | d :: ds => fun env st => match a d env st with
    | .nx env1 st1 => (match body env1 st1 with
      | .nx env2 st2 => sLoop a body ds env2 st2
      | .ct env2 st2 => sLoop a body ds env2 st2
      | .bk env2 st2 => .nx env2 st2
      | r => r)
    | _ => .bad
def sFor (it : Env → M (List D)) (a : D → SD) (body : SD) : SD := sE it fun ds => sLoop a body ds
section
variable {X : Cx} {B : Bs} {W : WX} {pos : Pos}
theorem qs_for {tg iter : Expr} {body : List Stmt} {f : Env → M (List D)} {a : D → SD} {b : SD} (hp : PassesOwn (model X.prog X.w) X.A X.env X.xe) (hc : X.calm = true) (hi : PI X tg iter (rI X.K X.mg B W f)) (hg : PG X tg (gA X.K X.mg B a)) (hb : PSs X body (rS X.K X.mg B W b))
    (hs : ∀ x, foldedSetIterable iter X.env x = pure x := by intro _; rfl) : PS X (.For tg iter body [] pos) (rS X.K X.mg B W (sFor f a b)) := by
  refine (ps_for hp hc hi hg hb hs).imp fun E σ H z => ?_
  obtain ⟨g0, env0, st0, R0, w0⟩ := z
  refine ⟨g0, env0, st0, R0, ?_⟩
  refine Res.wp_mono (sE_wp w0 R0) (fun ds st1 z F1 A1 H1 x1 G1 J hJ => ?_) fun _ _ z => z
  refine ⟨fun i m σ H => m = ds.length - i ∧ i ≤ ds.length ∧ ∃ g env st, GExt ⟨F1, A1, g0.ow⟩ g ∧ Rel X.K X.mg B g env st σ H ∧ WPs X.K X.mg B W g E (sLoop a b (ds.drop i) env st), ⟨ds.length, by omega, Nat.zero_le _, ⟨F1, A1, g0.ow⟩, env0, st1, GExt.refl, R0.step x1 G1, z.shift (GExt.of x1)⟩, ?_⟩
  rintro i m σ' H' ⟨rfl, hi, g, env, st, gx, R, w⟩
  obtain ⟨ji, js⟩ := hJ i g.F g.A st H' gx.fro gx.cel R.good
  by_cases hlt : i < ds.length
  · refine .inr ?_
    obtain ⟨jg, jy⟩ := ji ds[i] (List.getElem?_eq_getElem hlt)
    refine ⟨jg, fun σ2 H2 => ∃ g' env' st', GExt ⟨F1, A1, g0.ow⟩ g' ∧ Rel X.K X.mg B g' env' st' σ2 H2 ∧ WPs X.K X.mg B W g' E (sLoop a b (ds.drop (i + 1)) env' st'), fun σ2 H2 q => ⟨ds.length - (i + 1), by omega, rfl, hlt, q⟩, fun x H2 y => ?_⟩
    obtain ⟨F2, x2, G2, r2⟩ := jy x H2 y
    rw [List.drop_eq_getElem_cons hlt] at w
    refine ⟨⟨F2, g.A, g.ow⟩, env, st, ds[i], R.step x2 G2, r2, ?_⟩
    have w' : WPs X.K X.mg B W g E (match a ds[i] env st with
      | .nx env1 st1 => (match b env1 st1 with
        | .nx env2 st2 => sLoop a b (ds.drop (i + 1)) env2 st2
        | .ct env2 st2 => sLoop a b (ds.drop (i + 1)) env2 st2
        | .bk env2 st2 => .nx env2 st2
        | r => r)
      | _ => .bad) := w
    cases q : a ds[i] env st with
    | bk env' st' => rw [q] at w'; exact w'.elim
    | ct env' st' => rw [q] at w'; exact w'.elim
    | rt d st' => rw [q] at w'; exact w'.elim
    | exc e' env' st' => rw [q] at w'; exact w'.elim
    | bad => rw [q] at w'; exact w'.elim
    | nx env2 st2 =>
      rw [q] at w'
      intro g3 σ3 H3 x3 R3
      refine ⟨g3, env2, st2, R3, ?_⟩
      have gx3 : GExt g g3 := (GExt.of x2).trans x3
      have w2 : WPs X.K X.mg B W g E (match b env2 st2 with
        | .nx env2 st2 => sLoop a b (ds.drop (i + 1)) env2 st2
        | .ct env2 st2 => sLoop a b (ds.drop (i + 1)) env2 st2
        | .bk env2 st2 => .nx env2 st2
        | r => r) := w'
      have w3 := WPs.shift w2 gx3
      cases q2 : b env2 st2 with
      | nx env' st' =>
        rw [q2] at w3
        exact fun g4 σ4 H4 x4 R4 => ⟨g4, env', st', (gx.trans gx3).trans x4, R4, WPs.shift w3 x4⟩
      | ct env' st' =>
        rw [q2] at w3
        exact fun g4 σ4 H4 x4 R4 => ⟨g4, env', st', (gx.trans gx3).trans x4, R4, WPs.shift w3 x4⟩
      | bk env' st' => rw [q2] at w3; exact w3
      | rt d st' => rw [q2] at w3; exact w3
      | exc e' env' st' => rw [q2] at w3; exact w3
      | bad => rw [q2] at w3; exact w3.elim
  · have e : i = ds.length := by omega
    subst e
    refine .inl ⟨js (Nat.le_refl _), ?_⟩
    rw [List.drop_length] at w
    exact w g σ' H' GExt.refl R
end
end PL
set_option Elab.async false
set_option linter.all false
set_option maxRecDepth 100000
set_option maxHeartbeats 2000000
namespace PL
open PySem PySem.Spec PyProof.Rows L2

def wipeE (env : Env) : List Nat → Env
  | [] => env
  | v :: vs => (wipeE env vs).set v none
def noX {α : Type} (m : M α) : M α := fun st => match m st with
  | .exc _ _ => .bad
  | r => r
abbrev Bnd := D → Env → Option Env
def lcGo (vs : List Nat) (bind : Bnd) (test : Env → M Bool) (elt : Env → M D) (env : Env) : List D → List D → M (List D)
  | [], acc => pure acc
  | d :: ds, acc => match bind d (wipeE env vs) with
    | some env1 => noX (test env1) >>= fun b => if b then noX (elt env1) >>= fun y => if acc.length < sizeLine then lcGo vs bind test elt env ds (acc ++ [y]) else M.bad else lcGo vs bind test elt env ds acc
    | none => M.bad
def mLc (vs : List Nat) (bind : Bnd) (test : Env → M Bool) (elt : Env → M D) (it : Env → M (List D)) : Env → M (List D) := fun env => it env >>= fun ds => lcGo vs bind test elt env ds []
def bName (i : Nat) : Bnd := fun d env => some (env.set i (some (.fro d)))
def bSets : List Nat → List D → Env → Option Env
  | [], [], env => some env
  | i :: is, d :: ds, env => bSets is ds (env.set i (some (.fro d)))
  | _, _, _ => none
def bTup (is : List Nat) : Bnd := fun d env => match d with
  | .tup ds => bSets is ds env
  | _ => none
def yes : Env → M Bool := fun _ => pure true

section
variable {K : PySem.W.Frag} {mg : Str → Option Value} {B : Bs} {g : Gh} {env : Env} {st : Sta} {σ : L2.St} {H : Hp}
theorem Rel.wipe (R : Rel K mg B g env st σ H) : ∀ vs : List Nat, Rel K mg B g (wipeE env vs) st (wipe σ vs) H
  | [] => R
  | v :: vs => (Rel.wipe R vs).setNone
theorem wipe_set {i : Nat} {o : Option V} : ∀ {vs : List Nat} {σ : L2.St}, i ∈ vs → wipe (σ.set i o) vs = wipe σ vs
  | v :: vs, σ, h => by
    unfold L2.wipe
    by_cases q : i ∈ vs
    · rw [wipe_set q]
    · have e : i = v := by
        rcases List.mem_cons.mp h with e | m
        · exact e
        · exact absurd m q
      subst e
      have key : ∀ {vs : List Nat} {σ : L2.St}, wipe (σ.set i o) vs = (wipe σ vs).set i o ∨ wipe (σ.set i o) vs = wipe σ vs := by
        intro vs
        induction vs with
        | nil => intro σ; exact .inl rfl
        | cons w vs ih =>
          intro σ
          unfold L2.wipe
          by_cases e2 : w = i
          · subst e2
            rcases ih (σ := σ) with z | z
            · rw [z, List.set_set]; exact .inr rfl
            · rw [z]; exact .inr rfl
          · rcases ih (σ := σ) with z | z
            · rw [z, List.set_comm _ _ (Ne.symm e2)]; exact .inl rfl
            · rw [z]; exact .inr rfl
      rcases key (vs := vs) (σ := σ) with z | z
      · rw [z, List.set_set]
      · rw [z]
theorem wipe_wipe {σ : L2.St} : ∀ vs ws : List Nat, (∀ i ∈ vs, i ∈ ws) → wipe (wipe σ vs) ws = wipe σ ws
  | [], _, _ => rfl
  | v :: vs, ws, h => by
    show wipe ((wipe σ vs).set v none) ws = _
    rw [wipe_set (h v (List.mem_cons_self ..)), wipe_wipe vs ws fun i m => h i (List.mem_cons_of_mem _ m)]
end
section
variable {K : PySem.W.Frag} {mg : Str → Option Value} {W : WX}
def BndOk (K : PySem.W.Frag) (mg : Str → Option Value) (t : TG) (bind : Bnd) (vs : List Nat) : Prop := ∀ (B : Bs) (g : Gh) (env : Env) (st : Sta) (σ : L2.St) (H : Hp) (v : V) (d : D) (env1 : Env) (Q : L2.St → Hp → Prop),
  Rel K mg B g env st σ H → Rep K mg g.F g.A v d → bind d env = some env1 → (∀ σ2, wipe σ2 vs = wipe σ vs → Rel K mg B g env1 st σ2 H → Q σ2 H) → t v σ H Q
theorem bnd_name {i : Nat} {vs : List Nat} (hi : i ∈ vs) : BndOk K mg (gName i) (bName i) vs := by
  intro B g env st σ H v d env1 Q R r e q
  cases e
  exact q _ (wipe_set hi) (R.setFro r)
def gNames : List Nat → TGs
  | [] => gNil
  | i :: is => gCons (gName i) (gNames is)
theorem bnd_names : ∀ {is vs : List Nat}, (∀ i ∈ is, i ∈ vs) → ∀ (B : Bs) (g : Gh) (env : Env) (st : Sta) (σ : L2.St) (H : Hp) (xs : List V) (ds : List D) (env1 : Env) (Q : L2.St → Hp → Prop),
    Rel K mg B g env st σ H → Reps K mg g.F g.A xs ds → bSets is ds env = some env1 → (∀ σ2, wipe σ2 vs = wipe σ vs → Rel K mg B g env1 st σ2 H → Q σ2 H) → gNames is xs σ H Q
  | [], vs, _, B, g, env, st, σ, H, xs, ds, env1, Q, R, r, e, q => by
    cases r with
    | nil =>
      cases e
      exact ⟨rfl, q σ rfl R⟩
    | cons _ _ => cases e
  | i :: is, vs, hi, B, g, env, st, σ, H, xs, ds, env1, Q, R, r, e, q => by
    cases r with
    | nil => cases e
    | @cons v vs' d ds h r =>
      refine ⟨v, vs', rfl, ?_⟩
      refine bnd_names (vs := vs) (fun j m => hi j (List.mem_cons_of_mem _ m)) B g _ st _ H vs' ds env1 Q (R.setFro h) r e fun σ2 e2 R2 => q σ2 ?_ R2
      rw [e2, wipe_set (hi i (List.mem_cons_self ..))]
theorem bSets_len : ∀ {is : List Nat} {ds : List D} {env env1 : Env}, bSets is ds env = some env1 → ds.length = is.length
  | [], [], _, _, _ => rfl
  | [], _ :: _, _, _, e => by cases e
  | _ :: _, [], _, _, e => by cases e
  | i :: is, d :: ds, env, env1, e => by
    have e' : bSets is ds (env.set i (some (.fro d))) = some env1 := e
    rw [List.length_cons, List.length_cons, bSets_len e']
theorem bnd_tup {is vs : List Nat} {n : Nat} (hn : n = is.length) (hi : ∀ i ∈ is, i ∈ vs) : BndOk K mg (gTup K n (gNames is)) (bTup is) vs := by
  intro B g env st σ H v d env1 Q R r e q
  unfold bTup at e
  split at e
  · cases r with
    | @tup a xs _ s r => exact ⟨a, xs, rfl, SqT.mono s R.good.sub, by rw [r.length, bSets_len e, hn], bnd_names hi B g env st σ H xs _ env1 Q R r e q⟩
  · cases e
theorem wipeE_own {env : Env} {j : Nat} {c : Cell} : ∀ {vs : List Nat}, (wipeE env vs)[j]? = some (some (.own c)) → env[j]? = some (some (.own c))
  | [], e => e
  | v :: vs, e => by
    unfold wipeE at e
    by_cases q : j = v
    · subst q
      have hl : j < (wipeE env vs).length := by
        have h1 := (List.getElem?_eq_some_iff.mp e).1
        rw [List.length_set] at h1
        exact h1
      rw [List.getElem?_set_self hl] at e
      cases e
    · rw [List.getElem?_set_ne (Ne.symm q)] at e
      exact wipeE_own e
theorem Rel.grow {B : Bs} {g : Gh} {env : Env} {st : Sta} {σ : L2.St} {H : Hp} {p : Addr} {l m : List D} {ws : List V} (R : Rel K mg B g env st σ H) (s : Side K mg B g env H p l) (r : Reps K mg g.F g.A ws m) :
    Rel K mg B g env st σ (upd H p (.lst ws)) ∧ Side K mg B g env (upd H p (.lst ws)) p m := by
  obtain ⟨vs, e, _⟩ := s.at_
  have ne : ∀ {b : Addr} {w : HO}, g.F b = some w → b ≠ p := fun {b w} h z => by rw [z, s.f] at h; cases h
  refine ⟨⟨⟨R.ext.fro, R.ext.cel, fun b o n h => ?_, fun b h => ?_, R.ext.newF, R.ext.newA⟩, ⟨fun b o h => ?_, R.good.len, R.good.nd, R.good.off, fun k a c h1 h2 => ?_⟩, R.len, fun j sv ej => ?_, R.sep⟩, ⟨⟨ws, upd_same, r⟩, s.f, s.a, s.b, s.ne⟩⟩
  · rw [upd_ne (fun z : b = p => by rw [z, s.b] at h; cases h)]
    exact R.ext.keep b o n h
  · by_cases q : b = p
    · rw [q, upd_same]; exact fun z => nomatch z
    · rw [upd_ne q]; exact R.ext.there b h
  · rw [upd_ne (ne h)]
    exact R.good.sub b o h
  · exact (R.good.con k a c h1 h2).mono (fun _ _ z => z) (fun _ _ z => z) fun w z => by rw [upd_ne (fun y : a = p => s.a (by rw [← y]; exact List.mem_of_getElem? h1))]; exact z
  · have h := R.slot j sv ej
    cases sv with
    | fro d' => exact h
    | own c2 =>
      obtain ⟨t1, t2, t3, t4, t5⟩ := h
      exact ⟨t1, t2.mono (fun _ _ z => z) (fun _ _ z => z) fun w z => by rw [upd_ne (s.ne j c2 ej)]; exact z, t3, t4, t5⟩
theorem noX_wp {α : Type} {m : M α} {st : Sta} {P : α → Sta → Prop} {X X' : Exn → Sta → Prop} (h : (noX m st).wp P X) : (m st).wp P X' := by
  unfold noX at h
  cases q : m st with
  | ok a st' => rw [q] at h; exact h
  | exc e st' => rw [q] at h; exact h.elim
  | bad => rw [q] at h; exact h.elim
def BndOwn (bind : Bnd) : Prop := ∀ d env env1 (j : Nat) c, bind d env = some env1 → env1[j]? = some (some (.own c)) → env[j]? = some (some (.own c))
theorem set_own {env : Env} {i j : Nat} {d : D} {c : Cell} (e : (env.set i (some (.fro d)))[j]? = some (some (.own c))) : env[j]? = some (some (.own c)) := by
  by_cases q : j = i
  · subst q
    have hl : j < env.length := by
      have h1 := (List.getElem?_eq_some_iff.mp e).1
      rw [List.length_set] at h1
      exact h1
    rw [List.getElem?_set_self hl] at e
    cases e
  · rw [List.getElem?_set_ne (Ne.symm q)] at e
    exact e
theorem bown_name {i : Nat} : BndOwn (bName i) := fun d env env1 j c e h => by
  cases e
  exact set_own h
theorem bSets_own : ∀ {is : List Nat} {ds : List D} {env env1 : Env} {j : Nat} {c : Cell}, bSets is ds env = some env1 → env1[j]? = some (some (.own c)) → env[j]? = some (some (.own c))
  | [], [], env, env1, j, c, e, h => by
    cases e
    exact h
  | [], _ :: _, _, _, _, _, e, _ => by cases e
  | _ :: _, [], _, _, _, _, e, _ => by cases e
  | i :: is, d :: ds, env, env1, j, c, e, h => set_own (bSets_own (is := is) (ds := ds) (env := env.set i (some (.fro d))) e h)
theorem bown_tup {is : List Nat} : BndOwn (bTup is) := fun d env env1 j c e h => by
  unfold bTup at e
  split at e
  · exact bSets_own e h
  · cases e
end
section
variable {X : Cx} {B : Bs} {W : WX} {pos : Pos}
theorem lc_imp {it : Env → M (List D)} {t : TG} {bind : Bnd} {vs : List Nat} {tst : Env → M Bool} {elt : Env → M D} (hb : BndOk X.K X.mg t bind vs) (ho : BndOwn bind) (σ : L2.St) (H : Hp) (Q : VK) (z : rL X.K X.mg B W (mLc vs bind tst elt it) σ H Q) :
    tLc (rI X.K X.mg B W it) t (rT X.K X.mg B W0 tst) (rE X.K X.mg B W0 elt) vs σ H Q := by
  obtain ⟨g0, env, st0, R0, w0⟩ := z
  refine ⟨g0, env, st0, R0, ?_⟩
  refine Res.wp_mono (wp_bind w0) (fun ds st1 z F1 A1 H1 x1 G1 J hJ p hp => ?_) fun _ _ z => z
  have R1 := R0.step x1 G1
  have z1 := WPc.shift z x1
  have R1' := R1.pushH (o := .lst []) hp
  have s1 : Side X.K X.mg B ⟨F1, A1, g0.ow⟩ env (upd H1 p (.lst [])) p [] := ⟨⟨[], upd_same, .nil⟩, R1.good.fnone hp, fun m => R1.good.there m hp, R1.bnone hp, fun j c e q => by
    obtain ⟨t1, t2, _⟩ := R1.slot j _ e
    obtain ⟨u, hu⟩ := t2.thr
    rw [q, hp] at hu
    cases hu⟩
  -- what is left of the walk
  refine ⟨fun i m H => m = ds.length - i ∧ i ≤ ds.length ∧ ∃ g acc st, GExt ⟨F1, A1, g0.ow⟩ g ∧ (∀ F' A' H', Ext g.F g.A (fun b => if b = p then none else H b) F' A' H' → Ext F1 A1 H1 F' A' H') ∧ Rel X.K X.mg B g env st σ H ∧ Side X.K X.mg B g env H p acc ∧
    (lcGo vs bind tst elt env (ds.drop i) acc st).wp (fun b st' => ∀ F' A' H', Ext F1 A1 H1 F' A' H' → Good X.K X.mg F' A' st' H' → ∀ p vs, H' p = none → ∀ H'', H'' = upd H' p (.lst vs) → Reps X.K X.mg F' A' vs b → Q (.ref p) H'') (fun _ _ => True),
    ⟨ds.length, by omega, Nat.zero_le _, ⟨F1, A1, g0.ow⟩, [], st1, GExt.refl, ?_, R1', s1, Res.wp_mono z1 (fun _ _ h => h) fun _ _ _ => trivial⟩, ?_⟩
  · intro F' A' H' x
    have e : (fun b => if b = p then none else upd H1 p (.lst []) b) = H1 := by
      funext b
      by_cases q : b = p
      · rw [if_pos q, q, hp]
      · rw [if_neg q, upd_ne q]
    have x' : Ext F1 A1 (fun b => if b = p then none else upd H1 p (.lst []) b) F' A' H' := x
    rw [e] at x'
    exact x'
  · rintro i m H2 ⟨rfl, hi, g, acc, st, gx, xx, R, s, w⟩
    obtain ⟨ji, js⟩ := hJ i g.F g.A st H2 gx.fro gx.cel R.good
    by_cases hlt : i < ds.length
    · refine .inr ?_
      obtain ⟨jg, jy⟩ := ji ds[i] (List.getElem?_eq_getElem hlt)
      refine ⟨jg, fun H3 => ∃ g acc st, GExt ⟨F1, A1, g0.ow⟩ g ∧ (∀ F' A' H', Ext g.F g.A (fun b => if b = p then none else H3 b) F' A' H' → Ext F1 A1 H1 F' A' H') ∧ Rel X.K X.mg B g env st σ H3 ∧ Side X.K X.mg B g env H3 p acc ∧
        (lcGo vs bind tst elt env (ds.drop (i + 1)) acc st).wp (fun b st' => ∀ F' A' H', Ext F1 A1 H1 F' A' H' → Good X.K X.mg F' A' st' H' → ∀ p vs, H' p = none → ∀ H'', H'' = upd H' p (.lst vs) → Reps X.K X.mg F' A' vs b → Q (.ref p) H'') (fun _ _ => True), fun H3 q => ⟨ds.length - (i + 1), by omega, rfl, hlt, q⟩, fun x H3 y => ?_⟩
      obtain ⟨F3, x3, G3, r3⟩ := jy x H3 y
      rw [List.drop_eq_getElem_cons hlt] at w
      have R3 := R.step x3 G3
      have s3 := s.ext x3
      -- Ext without p
      have step : ∀ {F A H F' A' H'}, Ext F A H F' A' H' → F p = none → H p ≠ none → p ∉ A → Ext F A (fun b => if b = p then none else H b) F' A' (fun b => if b = p then none else H' b) := fun {F A H F' A' H'} x hf hh hA => by
        refine ⟨x.fro, x.cel, fun b o n h => ?_, fun b h => ?_, fun b h => ?_, fun b h => ?_⟩
        · by_cases q : b = p
          · simp [q] at h
          · simp only [if_neg q] at h ⊢
            exact x.keep b o n h
        · by_cases q : b = p
          · simp [q] at h
          · simp only [if_neg q] at h ⊢
            exact x.there b h
        · by_cases q : b = p
          · exact .inr (by simp [q])
          · rcases x.newF b h with z | z
            · exact .inl z
            · exact .inr (by simp [q, z])
        · by_cases q : b = p
          · exact .inr (by simp [q])
          · rcases x.newA b h with z | z
            · exact .inl z
            · exact .inr (by simp [q, z])
      have Hp2 : H2 p ≠ none := by
        obtain ⟨_, e, _⟩ := s.at_
        rw [e]; exact fun z => nomatch z
      have w' : ((match bind ds[i] (wipeE env vs) with
        | some env1 => noX (tst env1) >>= fun b => if b then noX (elt env1) >>= fun y => if acc.length < sizeLine then lcGo vs bind tst elt env (ds.drop (i + 1)) (acc ++ [y]) else M.bad else lcGo vs bind tst elt env (ds.drop (i + 1)) acc
        | none => M.bad : M (List D)) st).wp (fun b st' => ∀ F' A' H', Ext F1 A1 H1 F' A' H' → Good X.K X.mg F' A' st' H' → ∀ p vs, H' p = none → ∀ H'', H'' = upd H' p (.lst vs) → Reps X.K X.mg F' A' vs b → Q (.ref p) H'') (fun _ _ => True) := w
      cases q : bind ds[i] (wipeE env vs) with
      | none => rw [q] at w'; exact w'.elim
      | some env1 =>
        rw [q] at w'
        refine hb B ⟨F3, g.A, g.ow⟩ (wipeE env vs) st (wipe σ vs) H3 x ds[i] env1 _ (R3.wipe vs) r3 q fun σ2 e2 R4 => ⟨by rw [e2, wipe_wipe vs vs fun _ m => m], ?_⟩
        have w2 := wp_bind w'
        refine ⟨⟨F3, g.A, g.ow⟩, env1, st, R4, ?_⟩
        refine Res.wp_mono (noX_wp (X' := fun _ _ => False) w2) (fun b st4 w3 F4 A4 H4 x4 G4 => ?_) fun _ _ z => z.elim
        have R5 := R3.step x4 G4
        have s5 := s3.ext x4
        have x34 : Ext g.F g.A H2 F4 A4 H4 := x3.trans x4
        cases b with
        | false =>
          rw [if_neg Bool.false_ne_true] at w3
          show (if false = true then _ else _ : Prop)
          rw [if_neg Bool.false_ne_true]
          exact ⟨⟨F4, A4, g.ow⟩, acc, st4, gx.trans (GExt.of x34), fun F' A' H' y => xx F' A' H' ((step x34 s.f Hp2 s.a).trans y), R5, s5, w3⟩
        | true =>
          rw [if_pos rfl] at w3
          show (if true = true then _ else _ : Prop)
          rw [if_pos rfl]
          have w4 := wp_bind w3
          have R4' := R4.step x4 G4
          refine ⟨⟨F4, A4, g.ow⟩, env1, st4, R4', ?_⟩
          refine Res.wp_mono (noX_wp (X' := fun _ _ => False) w4) (fun y st6 w5 F6 A6 H6 x6 G6 v r6 => ?_) fun _ _ z => z.elim
          have R6 := R5.step x6 G6
          have s6 := s5.ext x6
          obtain ⟨ws, e6, r7⟩ := s6.at_
          split at w5
          · rename_i hz
            obtain ⟨R7, s7⟩ := R6.grow s6 (r7.app (.cons r6 .nil))
            have x36 := x34.trans x6
            refine ⟨ws, e6, by rw [r7.length]; exact hz, ⟨F6, A6, g.ow⟩, acc ++ [y], st6, gx.trans (GExt.of x36), fun F' A' H' y2 => xx F' A' H' ((step x36 s.f Hp2 s.a).trans ?_), R7, s7, w5⟩
            have e : (fun b => if b = p then none else upd H6 p (.lst (ws ++ [v])) b) = fun b => if b = p then none else H6 b := by
              funext b
              by_cases q : b = p
              · rw [if_pos q, if_pos q]
              · rw [if_neg q, if_neg q, upd_ne q]
            have y3 : Ext F6 A6 (fun b => if b = p then none else upd H6 p (.lst (ws ++ [v])) b) F' A' H' := y2
            rw [e] at y3
            exact y3
          · exact w5.elim
    · have e : i = ds.length := by omega
      subst e
      refine .inl ⟨js (Nat.le_refl _), ?_⟩
      rw [List.drop_length] at w
      obtain ⟨ws, e6, r7⟩ := s.at_
      have xe := xx g.F g.A (fun b => if b = p then none else H2 b) Ext.refl
      have G' : Good X.K X.mg g.F g.A st (fun b => if b = p then none else H2 b) := by
        have nF : ∀ {b : Addr} {o : HO}, g.F b = some o → b ≠ p := fun {b o} h z => by rw [z, s.f] at h; cases h
        refine ⟨fun b o h => by rw [if_neg (nF h)]; exact R.good.sub b o h, R.good.len, R.good.nd, R.good.off, fun k a c h1 h2 => ?_⟩
        exact (R.good.con k a c h1 h2).mono (fun _ _ z => z) (fun _ _ z => z) fun w z => by
          have na : a ≠ p := fun y => s.a (by rw [← y]; exact List.mem_of_getElem? h1)
          rw [if_neg na]; exact z
      refine w g.F g.A _ xe G' p ws (if_pos rfl) H2 ?_ r7
      funext b
      by_cases q : b = p
      · rw [q, upd_same, e6]
      · rw [upd_ne q, if_neg q]
end
end PL
set_option Elab.async false
set_option linter.all false
set_option maxRecDepth 100000
set_option maxHeartbeats 2000000
namespace PL
open PySem PySem.Spec PyProof.Rows L2

section
variable {X : Cx} {B : Bs} {W : WX}
theorem qt_yes : PTs X [] (rT X.K X.mg B W yes) := ⟨fun pins s σ H Q I z => pts_nil.run pins s σ H Q I (by
  obtain ⟨g, env, st, R, w⟩ := z
  exact WPc.now w R.good)⟩
theorem qt_one {c : Expr} {f : Env → M Bool} (h : PT X c (rT X.K X.mg B W f)) : PTs X [c] (rT X.K X.mg B W f) := pts_one h
theorem pl_lc {elt tg iter : Expr} {ifs : List Expr} {scope : Scope} {own : List (Str × Nat)} {pos : Pos} {it : Env → M (List D)} {t : TG} {bind : Bnd} {tst : Env → M Bool} {el : Env → M D} (hc : X.calm = true) (hN : X.N.Nodup) (hi : PI X tg iter (rI X.K X.mg B W it)) (ok : BlkOk X.N X.env.scope scope own)
    (hb : BndOk X.K X.mg t bind (own.map (·.2))) (ho : BndOwn bind)
    (hg : ∀ (s : Shared) (H : Hp) (C : Addr) (cl : List (Str × Addr)) (fp : List Addr), PG (X.blk s H scope (compEnvC scope cl C X.env) fp) tg t) (ht : ∀ (s : Shared) (H : Hp) (C : Addr) (cl : List (Str × Addr)) (fp : List Addr), PTs (X.blk s H scope (compEnvC scope cl C X.env) fp) ifs (rT X.K X.mg B W0 tst))
    (he : ∀ (s : Shared) (H : Hp) (C : Addr) (cl : List (Str × Addr)) (fp : List Addr), PE (X.blk s H scope (compEnvC scope cl C X.env) fp) elt (rE X.K X.mg B W0 el)) (hs : ∀ x, foldedSetIterable iter X.env x = pure x := by intro _; rfl) :
    PE X (.ListComp elt [⟨tg, iter, ifs, 0⟩] scope pos) (rL X.K X.mg B W (mLc (own.map (·.2)) bind tst el it)) :=
  (pe_lc hc hN hi ok hg ht he hs).imp fun σ H Q z => lc_imp hb ho σ H Q z
theorem own_frz {i : Nat} {fs : Env → M (List D)} (E : Ends) (σ : L2.St) (H : Hp) (z : rS X.K X.mg B W (sSet i (lstF fs)) E σ H) : rL X.K X.mg B W fs σ H (fun v H1 => gName i v σ H1 E.nx) := by
  obtain ⟨g, env, st, R, w⟩ := z
  refine rL_rE σ H _ ?_
  exact seqSE R w fun d st1 F1 A1 H1 v R1 x1 r1 w1 => w1 _ _ _ GExt.refl (R1.setFro r1)
theorem qs_setLc {i : Nat} {y : Str} {py : Pos} {elt tg iter : Expr} {ifs : List Expr} {scope : Scope} {own : List (Str × Nat)} {pos spos : Pos} {it : Env → M (List D)} {t : TG} {bind : Bnd} {tst : Env → M Bool} {el : Env → M D} (hc : X.calm = true) (hN : X.N.Nodup) (hy : X.N[i]? = some y) (hyl : X.env.scope.names.lookup y = some .local)
    (hsw : swapsWith (.ListComp elt [⟨tg, iter, ifs, 0⟩] scope pos) (some (.Name y py)) spos.line X.env = pure true) (hi : PI X tg iter (rI X.K X.mg B W it)) (ok : BlkOk X.N X.env.scope scope own)
    (hb : BndOk X.K X.mg t bind (own.map (·.2))) (ho : BndOwn bind)
    (hg : ∀ (s : Shared) (H : Hp) (C : Addr) (cl : List (Str × Addr)) (fp : List Addr), PG (X.blk s H scope (compEnvC scope cl C X.env) fp) tg t) (ht : ∀ (s : Shared) (H : Hp) (C : Addr) (cl : List (Str × Addr)) (fp : List Addr), PTs (X.blk s H scope (compEnvC scope cl C X.env) fp) ifs (rT X.K X.mg B W0 tst))
    (he : ∀ (s : Shared) (H : Hp) (C : Addr) (cl : List (Str × Addr)) (fp : List Addr), PE (X.blk s H scope (compEnvC scope cl C X.env) fp) elt (rE X.K X.mg B W0 el)) (hs : ∀ x, foldedSetIterable iter X.env x = pure x := by intro _; rfl) :
    PS X (.Assign [.Name y py] (.ListComp elt [⟨tg, iter, ifs, 0⟩] scope pos) spos) (rS X.K X.mg B W (sSet i (lstF (mLc (own.map (·.2)) bind tst el it)))) := by
  refine (ps_setLc hc hN hy hyl hsw hi ok hg ht he hs).imp fun E σ H z => ?_
  exact lc_imp hb ho σ H _ (own_frz E σ H z)
end

section
variable (K : PySem.W.Frag) (mg : Str → Option Value)
end
def env0 (n : Nat) (ds : List D) : Env := ds.map (fun d => some (SV.fro d)) ++ List.replicate (n - ds.length) none
def runB (n : Nat) (b : SD) (ds : List D) : M D := fun st => match b (env0 n ds) st with
  | .nx _ st' => .ok .non st'
  | .rt d st' => .ok d st'
  | .exc e _ st' => .exc e st'
  | _ => .bad
section
variable {K : PySem.W.Frag} {mg : Str → Option Value}
theorem rel_start {F : Hp} {A : List Addr} {st : Sta} {H : Hp} {vs : List V} {ds : List D} {N : List Str} (G : Good K mg F A st H) (r : Reps K mg F A vs ds) : Rel K mg ⟨F, A, H⟩ ⟨F, A, fun _ => 0⟩ (env0 N.length ds) st (L2.start N vs) H where
  ext := Ext.refl
  good := G
  len := by simp [env0, L2.start, r.length]
  slot := fun i sv e => by
    unfold env0 at e
    by_cases hi : i < ds.length
    · rw [List.getElem?_append_left (by simpa using hi), List.getElem?_map] at e
      rw [List.getElem?_eq_getElem hi] at e
      cases e
      obtain ⟨v, hv, rv⟩ := r.get (List.getElem?_eq_getElem hi)
      refine ⟨v, ?_, rv⟩
      unfold L2.start
      rw [List.getElem?_append_left (by simp [r.length]; exact hi), List.getElem?_map, hv]
      rfl
    · rw [List.getElem?_append_right (by simpa using hi)] at e
      rw [List.getElem?_replicate] at e
      split at e
      · cases e
      · cases e
  sep := fun i j c c' e _ _ => by
    unfold env0 at e
    by_cases hi : i < ds.length
    · rw [List.getElem?_append_left (by simpa using hi), List.getElem?_map] at e
      rw [List.getElem?_eq_getElem hi] at e
      cases e
    · rw [List.getElem?_append_right (by simpa using hi)] at e
      rw [List.getElem?_replicate] at e
      split at e
      · cases e
      · cases e
theorem fn_pure {P : Program} {w : World} {base : Heap} {x qual : Str} {params : Arguments} {body : List Stmt} {scope : Scope} {f : Addr} {fd : FuncData} {N ps : List Str} {k n : Nat} {b : SD}
    (F : FunD K x qual params body scope [] [] f fd) (S : FnScope N ps scope) (hn : ps.length = n)
    (hb : ∀ (cdv : Value) (A : Around) (outer : List PySem.Env) (s : Shared) (H : Hp) (E : XK) (B : Bs), Room k (A.deeper (envOfC qual scope s.heap.objs.size f cdv)) →
      PSs (cxOf (L2.CX P w) P w K mg base N qual scope f cdv A outer s H E) body (rS K mg B (fun cls d _ H => E cls d H) b)) :
    FnOk P w K mg base (L2.CX P w) (k + 1) f fd ps (spF K mg n (runB N.length b)) := by
  refine F.ok S (fun vs H Q E h => ?_) (fun cdv A outer s H vs Q E hr h => ?_)
  · obtain ⟨F, A, st, ds, G, r, hl, _⟩ := h
    rw [hl, hn]
  · obtain ⟨F, A', st, ds, G, r, hl, w⟩ := h
    refine ⟨_, hb cdv A outer s H E ⟨F, A', H⟩ hr, ⟨F, A', fun _ => 0⟩, env0 N.length ds, st, rel_start G r, ?_⟩
    unfold runB at w
    cases q : b (env0 N.length ds) st with
    | nx env' st' =>
      rw [q] at w
      exact fun g' σ' H' x R' => w g'.F g'.A H' .non R'.ext R'.good .non
    | rt d st' =>
      rw [q] at w
      exact fun F' A2 H' v x G' r' => w F' A2 H' v x G' r'
    | exc e env' st' =>
      rw [q] at w
      exact fun g' σ' H' cls dd x R' y => w g'.F g'.A H' cls dd R'.ext R'.good y
    | bk env' st' => rw [q] at w; exact w.elim
    | ct env' st' => rw [q] at w; exact w.elim
    | bad => rw [q] at w; exact w.elim
end
def mCall (fs : Env → M (List D)) (f : List D → M D) : Env → M D := fun env => fs env >>= f
section
variable {X : Cx} {B : Bs} {W : WX} {e o : Expr} {es : List Expr} {x m : Str} {p pos apos : Pos} {k n : Nat} {f C : Addr} {fd : FuncData} {ps : List Str} {fs : Env → M (List D)} {F : List D → M D} {fo : Env → M D}
theorem spF_of {g : Gh} {env : Env} {st : Sta} {σ : L2.St} {H : Hp} {vs : List V} {ds : List D} {Q : VK} (R : Rel X.K X.mg B g env st σ H) (r : Reps X.K X.mg g.F g.A vs ds) (hn : ds.length = n) (w : WPc X.K X.mg W g.F g.A σ H (F ds st) (fun d F' A' H' => ∀ v, Rep X.K X.mg F' A' v d → Q v H')) :
    spF X.K X.mg n F vs H Q (WE W σ) := ⟨g.F, g.A, st, ds, R.good, r, r.length.trans hn, Res.wp_mono w (fun d st' z F' A' H' v x G r' => z F' A' H' x G v r') fun e st' z F' A' H' cls dd x G y => z F' A' H' cls dd x G y⟩
theorem argN_wp {n : Nat} {ds : List D} {st : Sta} {W : WX} {F0 : Hp} {A : List Addr} {σ : L2.St} {H : Hp} {Post : D → Hp → List Addr → Hp → Prop} {K : PySem.W.Frag} {mg : Str → Option Value} (w : WPc K mg W F0 A σ H (argN n F ds st) Post) : ds.length = n ∧ WPc K mg W F0 A σ H (F ds st) Post := by
  unfold argN at w
  split at w
  · rename_i h
    exact ⟨h, w⟩
  · exact w.elim
theorem pp_call (G : FnOk X.prog X.w X.K X.mg X.base (L2.CX X.prog X.w) k f fd ps (spF X.K X.mg n F)) (hr : Room k X.A) (hg : Gl X x) (hm : X.mg x = some (.ref f)) (hk : PySem.W.keepIn X.K (.ref f) = true) (hb : Binds X.K fd ps []) (tk : Takes X W)
    (ha : PA X (e :: es) (rA X.K X.mg B W fs)) (hdb : (x == ("__debug__" : Str)) = false := by decide) (he : starEach (e :: es) X.env = (false, eval e X.env) :: starEach es X.env := by rfl) (hpl : (backTo pos (starEach es X.env)).any (·.1) = false := by rfl) :
    PE X (.Call (.Name x p) (e :: es) [] pos) (rE X.K X.mg B W (mCall fs (argN n F))) := by
  refine (pe_callS G hr hg hm hk hb (fun σ => passAt tk σ) ha hdb he hpl).imp fun σ H Q z => ?_
  obtain ⟨g, env, st, R, w⟩ := z
  refine seqA R w fun ds st1 F1 A1 H1 xs R1 x1 r1 w1 => ?_
  obtain ⟨h1, w2⟩ := argN_wp w1
  exact spF_of R1 r1 h1 w2
def fieldsOf (d : D) (st : Sta) : List (Str × D) := match d with
  | .obj _ fs => fs
  | .cell k => (match st[k]? with
    | some (.obj _ fs) => fs
    | _ => [])
  | _ => []
theorem isObj_rep {K : PySem.W.Frag} {mg : Str → Option Value} {F0 : Hp} {A : List Addr} {st : Sta} {H : Hp} {c : Str} {d : D} {v : V} {C : Addr} (G : Good K mg F0 A st H) (r : Rep K mg F0 A v d) (hm : mg c = some (.ref C)) (h : isObj c d st = true) :
    ∃ a dx l, v = .ref a ∧ H a = some (.ins C dx l) ∧ RepF K mg F0 A l (fieldsOf d st) := by
  unfold isObj at h
  split at h
  · have e := eq_of_beq h
    subst e
    cases r with
    | @obj a C' dx _ l _ g s r =>
      rw [hm] at g; cases g
      exact ⟨a, dx, l, rfl, G.sub _ _ s, r⟩
  · split at h
    · rename_i e1
      have e := eq_of_beq h
      subst e
      cases r with
      | @cell a k hk =>
        obtain ⟨a', h1, C', dx, l, g, s, r⟩ := G.addr e1
        rw [hk] at h1; cases h1
        rw [hm] at g; cases g
        exact ⟨a, dx, l, rfl, s, by unfold fieldsOf; simp only [e1]; exact r⟩
    · cases h
  · cases h
def lookupF (f : Str) (fs : List (Str × D)) : Option D := fs.lookup f
def fldD (c f : Str) (d : D) (st : Sta) : Option D := if isObj c d st then (fieldsOf d st).lookup f else none
theorem pp_fld {c fl : Str} (hm : X.mg c = some (.ref C)) (hc : Cls X.K C) (hn : NoAttr X.K C fl) (he : PE X e (rE X.K X.mg B W fo)) (hb : attributeBase e fl X.env (eval e X.env) = eval e X.env := by rfl) : PE X (.Attribute e fl pos) (rE X.K X.mg B W (op1 (fldD c fl) fo)) := by
  refine (pe_fld he hb).imp fun σ H Q z => ?_
  obtain ⟨g, env, st, R, w⟩ := z
  refine seqE R w fun d st1 F1 A1 H1 v R1 x1 r1 w1 => ?_
  obtain ⟨u, eu, w3⟩ := WPc.rd w1
  unfold fldD at eu
  split at eu
  · rename_i hi
    obtain ⟨a, dx, l, rfl, ea, rf⟩ := isObj_rep R1.good r1 hm hi
    obtain ⟨y, hy, ry⟩ := rf.lookup eu
    exact ⟨a, C, dx, l, y, rfl, ea, hc, hn, hy, w3 _ _ _ Ext.refl R1.good y ry⟩
  · cases eu
def putF (f : Str) (d : D) : List (Str × D) → List (Str × D)
  | [] => [(f, d)]
  | (g, e) :: r => if g = f then (g, d) :: r else (g, e) :: putF f d r
def sFldC (c f : Str) (fo fv : Env → M D) : SD := sE fv fun d => sE fo fun o env st => match o with
  | .cell k => (match st[k]? with
    | some (.obj c' fs) => if c' = c ∧ fs.length < 1000 then .nx env (st.set k (.obj c' (putF f d fs))) else .bad
    | _ => .bad)
  | _ => .bad
theorem repF_put {F0 : Hp} {A : List Addr} {y : V} {d : D} (f : Str) (r : Rep X.K X.mg F0 A y d) : ∀ {l : List (Str × V)} {fs : List (Str × D)}, RepF X.K X.mg F0 A l fs → RepF X.K X.mg F0 A (L2.putF f y l) (putF f d fs)
  | _, _, .nil => .cons r .nil
  | _, _, .cons (x := g) h t => by
    unfold L2.putF putF
    by_cases e : g = f
    · rw [if_pos e, if_pos e]
      exact .cons r t
    · rw [if_neg e, if_neg e]
      exact .cons h (repF_put f r t)
theorem qs_fld {c fl : Str} {value : Expr} {pos' : Pos} {fv : Env → M D} (hm : X.mg c = some (.ref C)) (hc : Cls X.K C) (hn : NoAttr X.K C fl) (ho : PE X o (rE X.K X.mg B W fo)) (hv : PE X value (rE X.K X.mg B W fv)) (hs : swapsWith value (some (.Attribute o fl pos')) pos.line X.env = pure false := by rfl) :
    PS X (.Assign [.Attribute o fl pos'] value pos) (rS X.K X.mg B W (sFldC c fl fo fv)) := by
  refine (ps_fld ho hv hs).imp fun E σ H z => ?_
  obtain ⟨g, env, st, R, w⟩ := z
  refine seqSE R w fun d st1 F1 A1 H1 v R1 x1 r1 w1 => ?_
  refine seqSE R1 w1 fun o st2 F2 A2 H2 u R2 x2 r2 w2 => ?_
  split at w2
  · split at w2
    · rename_i k _ c' fs e1
      split at w2
      · rename_i hl
        obtain ⟨hl1, hl2⟩ := hl
        subst hl1
        cases r2 with
        | @cell a k hk =>
          obtain ⟨a', h1, C', dx, l, gm, s, r⟩ := R2.good.addr e1
          have h1' : A2[k]? = some a' := h1
          rw [hk] at h1'; cases h1'
          rw [hm] at gm; cases gm
          refine ⟨a, C, dx, l, rfl, s, hc, hn, by rw [r.length]; exact hl2, ?_⟩
          obtain ⟨x3, G3⟩ := Ext.write (o := .ins C dx (L2.putF fl v l)) (c := .obj c' (putF fl d fs)) R2.good hk ⟨C, dx, _, hm, upd_same, repF_put fl (r1.ext x2) r⟩
          exact w2 _ _ _ (GExt.of x3) (R2.step x3 G3)
      · exact w2.elim
    · exact w2.elim
  · exact w2.elim
def chk (p : D → Sta → Bool) (d : D) : M D := fun st => if p d st then .ok d st else .bad
theorem chk_wp {β : Type} {q : D → Sta → Bool} {d : D} {k : D → M β} {st : Sta} {W : WX} {F0 : Hp} {A : List Addr} {σ : L2.St} {H : Hp} {Post : β → Hp → List Addr → Hp → Prop} {K : PySem.W.Frag} {mg : Str → Option Value} (w : WPc K mg W F0 A σ H ((chk q d >>= k) st) Post) : q d st = true ∧ WPc K mg W F0 A σ H (k d st) Post := by
  have w' : WPc K mg W F0 A σ H ((chk q d st).bind k) Post := w
  unfold chk at w'
  cases e : q d st with
  | true =>
    rw [e, if_pos rfl] at w'
    exact ⟨rfl, w'⟩
  | false =>
    rw [e, if_neg Bool.false_ne_true] at w'
    exact w'.elim
theorem look_none {F0 : Hp} {A : List Addr} {m : Str} {K : PySem.W.Frag} {mg : Str → Option Value} : ∀ {l : List (Str × V)} {fs : List (Str × D)}, RepF K mg F0 A l fs → fs.lookup m = none → l.lookup m = none
  | _, _, .nil, _ => rfl
  | _, _, .cons (x := x) h r, e => by
    rw [List.lookup_cons] at e ⊢
    cases q : (m == x) with
    | true => rw [q] at e; cases e
    | false =>
      rw [q] at e
      exact look_none r e
theorem run_meth {pl : Sem Bool} {n : Nat} (he : PE X o (rE X.K X.mg B W fo)) {c : Str} (hmc : X.mg c = some (.ref C)) (hc : Cls X.K C) (hm : Meth X.K C m f) (G : FnOk X.prog X.w X.K X.mg X.base (L2.CX X.prog X.w) k f fd ps (spF X.K X.mg (n + 1) F)) (hr : Room k X.A) (hb : Binds X.K fd ps []) (tk : Takes X W) (ha : PA X (e :: es) (rA X.K X.mg B W fs))
    (hst : starEach (e :: es) X.env = (false, eval e X.env) :: starEach es X.env := by rfl) (hpl : (backTo pos (starEach es X.env)).any (·.1) = false := by rfl)
    (ht : eval (.Call (.Attribute o m apos) (e :: es) [] pos) X.env = (do
      let ov ← eval o X.env
      standAt apos.atName
      let (f, first) ← holding [ov] (getMethod ov m pl)
      callWith pos f first (backTo pos (starEach (e :: es) X.env)) (backToKw pos (keywordEach [] X.env))) := by rfl) :
    PE X (.Call (.Attribute o m apos) (e :: es) [] pos) (rE X.K X.mg B W (fun env => fo env >>= fun d => chk (fun d st => isObj c d st && (lookupF m (fieldsOf d st)).isNone) d >>= fun d => fs env >>= fun ds => argN (n + 1) F (d :: ds))) := by
  refine ⟨fun pins s σ H Q I z => ?_⟩
  refine PySem.W.methodCall_KW (pl := pl) ?_ ht
  obtain ⟨g, env, st, R, w⟩ := z
  refine thn (he.run pins s σ H (fun v H1 => ∃ st1 F1 A1 a dx l d, v = .ref a ∧ Rel X.K X.mg B ⟨F1, A1, g.ow⟩ env st1 σ H1 ∧ Rep X.K X.mg F1 A1 v d ∧ H1 a = some (.ins C dx l) ∧ l.lookup m = none ∧
    WPc X.K X.mg W F1 A1 σ H1 ((fs env >>= fun ds => argN (n + 1) F (d :: ds)) st1) (fun d F' A' H' => ∀ v, Rep X.K X.mg F' A' v d → Q v H')) I ?_) ?_
  · refine seqE R w fun d st1 F1 A1 H1 v R1 x1 r1 w1 => ?_
    obtain ⟨hi, w2⟩ := chk_wp w1
    obtain ⟨hi1, hi2⟩ := Bool.and_eq_true_iff.mp hi
    obtain ⟨a, dx, l, rfl, ea, rf⟩ := isObj_rep R1.good r1 hmc hi1
    refine ⟨st1, F1, A1, a, dx, l, d, rfl, R1, r1, ea, look_none rf ?_, w2⟩
    unfold lookupF at hi2
    simpa using hi2
  · intro u s1 ⟨x, H1, I1, rx, st1, F1, A1, a, dx, l, d, ex, R1, r1, ea, hl, w1⟩
    subst ex
    obtain rfl : u = Value.ref a := rx
    refine getmeth_ok I1 ea hc hm hl ?_
    refine PySem.W.callWith_K (first := [.ref a]) (h₀ := X.base) I.ok.mod.kin hm.kp (thn (ha.run pos pins s1 σ H1 (fun vs H2 => spF X.K X.mg (n + 1) F (.ref a :: vs) H2 Q (WE W σ)) I1 ?_) fun us s2 ⟨vs, H2, I2, r, q2⟩ => ⟨I2.kIn, ?_⟩) hst hpl
    · refine seqA R1 w1 fun ds st2 F2 A2 H2 xs R2 x2 r2 w2 => ?_
      obtain ⟨h1, w3⟩ := argN_wp w2
      exact spF_of R2 (.cons (r1.ext x2) r2) h1 w3
    · exact run_fnS (us := .ref a :: us) (vs := .ref a :: vs) (E := WE W) G hr hb (passAt tk σ) I2 (.cons rfl r) q2
theorem noCell_rep {F0 : Hp} {A A' : List Addr} : ∀ {n : Nat} {d : D} {v : V}, Rep X.K X.mg F0 A v d → noCell n d = true → Rep X.K X.mg F0 A' v d := by
  intro n
  induction n with
  | zero => intro d v _ h; cases h
  | succ n ih =>
    have all : ∀ {ds : List D} {vs : List V}, Reps X.K X.mg F0 A vs ds → ds.all (noCell n) = true → Reps X.K X.mg F0 A' vs ds := by
      intro ds
      induction ds with
      | nil => intro vs r _; cases r; exact .nil
      | cons d ds ihd =>
        intro vs r h
        obtain ⟨h1, h2⟩ := Bool.and_eq_true_iff.mp (show (noCell n d && ds.all (noCell n)) = true from h)
        cases r with
        | cons r1 r2 => exact .cons (ih r1 h1) (ihd r2 h2)
    have allF : ∀ {ds : List (Str × D)} {vs : List (Str × V)}, RepF X.K X.mg F0 A vs ds → (ds.all fun p => noCell n p.2) = true → RepF X.K X.mg F0 A' vs ds := by
      intro ds
      induction ds with
      | nil => intro vs r _; cases r; exact .nil
      | cons d ds ihd =>
        intro vs r h
        obtain ⟨h1, h2⟩ := Bool.and_eq_true_iff.mp (show (noCell n d.2 && ds.all fun p => noCell n p.2) = true from h)
        cases r with
        | cons r1 r2 => exact .cons (ih r1 h1) (ihd r2 h2)
    intro d v r h
    cases r with
    | non => exact .non
    | bl b => exact .bl b
    | int i => exact .int i
    | str x => exact .str x
    | tup s r => exact .tup s (all r h)
    | lst s r => exact .lst s (all r h)
    | fix s r => exact .fix s (all r h)
    | dct _ _ => cases h
    | obj gm s r => exact .obj gm s (allF r h)
    | cell _ => cases h
    | fn gm => exact .fn gm
end
section
variable {K : PySem.W.Frag} {mg : Str → Option Value}
theorem ext_push {F : Hp} {A : List Addr} {st : Sta} {H : Hp} {p : Addr} {o : HO} (G : Good K mg F A st H) (hp : H p = none) : Ext F A H F A (upd H p o) ∧ Good K mg F A st (upd H p o) :=
  ⟨⟨fun _ _ h => h, fun _ _ h => h, fun b u _ e => by rw [upd_ne (ne_of_none e hp)]; exact e, fun b h => by
    by_cases q : b = p
    · rw [q, upd_same]; exact fun z => nomatch z
    · rw [upd_ne q]; exact h, fun _ h => .inl h, fun _ h => .inl h⟩,
   ⟨fun b u e => by rw [upd_ne (ne_of_none (G.sub b u e) hp)]; exact G.sub b u e, G.len, G.nd, G.off, fun k a c h1 h2 => (G.con k a c h1 h2).mono (fun _ _ z => z) (fun _ _ z => z) fun u e => by rw [upd_ne (ne_of_none e hp)]; exact e⟩⟩
def mkObj (c : Str) (I : Ini) : List D → M D := fun ds st => match I ds with
  | some (.ok fs) => .ok (.obj c fs) st
  | some (.error e) => .exc e st
  | none => .bad
theorem okD_rep {X : Cx} {F0 F' : Hp} {A A' : List Addr} {vs : List V} {ds : List D} (kA : ∀ (k : Nat) (a : Addr), A[k]? = some a → A'[k]? = some a) (r0 : Reps X.K X.mg F0 A vs ds) {d : D} {v : V} (r : Rep X.K X.mg F' A' v d) (h : okD ds d) : Rep X.K X.mg F' A v d := by
  rcases h with h | h
  · obtain ⟨i, hi, e⟩ := List.mem_iff_getElem.mp h
    obtain ⟨v0, _, r1⟩ := r0.get (by rw [List.getElem?_eq_getElem hi, e])
    exact Rep.down kA r1 r
  · exact noCell_rep r h
theorem okD_repF {X : Cx} {F0 F' : Hp} {A A' : List Addr} {vs : List V} {ds : List D} (kA : ∀ (k : Nat) (a : Addr), A[k]? = some a → A'[k]? = some a) (r0 : Reps X.K X.mg F0 A vs ds) : ∀ {l : List (Str × V)} {fs : List (Str × D)}, RepF X.K X.mg F' A' l fs → (∀ p ∈ fs, okD ds p.2) → RepF X.K X.mg F' A l fs
  | _, _, .nil, _ => .nil
  | _, _, .cons h r, q => .cons (okD_rep kA r0 h (q _ (List.mem_cons_self ..))) (okD_repF kA r0 r fun p m => q p (List.mem_cons_of_mem _ m))
section
variable {X : Cx} {B : Bs} {W : WX} {e o : Expr} {es : List Expr} {x m : Str} {p pos apos : Pos} {k n : Nat} {f C : Addr} {fd : FuncData} {ps : List Str} {fs : Env → M (List D)} {F : List D → M D} {fo : Env → M D}
theorem ini_good {F0 : Hp} {A : List Addr} {st : Sta} {H : Hp} {y dx : Addr} {c : Str} (G : Good X.K X.mg F0 A st H) (hm : X.mg c = some (.ref C)) (hy : H y = none) (hdx : H dx = none) (hne : dx ≠ y) :
    Good X.K X.mg F0 (A ++ [y]) (st ++ [.obj c []]) (upd (upd H dx (.own y)) y (.ins C dx [])) := by
  obtain ⟨x1, G1⟩ := ext_push (o := .own y) G hdx
  have hy1 : upd H dx (.own y) y = none := by rw [upd_ne (Ne.symm hne)]; exact hy
  exact (Ext.cellNew (c := .obj c []) (o := .ins C dx []) G1 hy1 ⟨C, dx, [], hm, upd_same, .nil⟩).2
theorem ini_rep {F0 : Hp} {A : List Addr} {st : Sta} {H : Hp} {y : Addr} {vs : List V} {ds : List D} (G : Good X.K X.mg F0 A st H) (r : Reps X.K X.mg F0 A vs ds) : Reps X.K X.mg F0 (A ++ [y]) (.ref y :: vs) (.cell st.length :: ds) :=
  .cons (.cell (by rw [← G.len]; simp)) (r.mono (fun _ _ h => h) fun k a h => by rw [List.getElem?_append_left (List.getElem?_eq_some_iff.mp h).1]; exact h)
theorem ini_ext {F0 F' : Hp} {A A' : List Addr} {st : Sta} {H H' : Hp} {y dx : Addr} {c : Cell} {o : HO} (G0 : Good X.K X.mg F0 A st H) (hy : H y = none) (hdx : H dx = none) (e : Ext F0 (A ++ [y]) (upd (upd H dx (.own y)) y (.ins C dx [])) F' A' H') (G : Good X.K X.mg F' A' (st ++ [c]) H') (ho : H' y = some o) :
    A' = A ++ [y] ∧ Ext F0 A H (upd F' y o) A H' ∧ Good X.K X.mg (upd F' y o) A st H' ∧ (∀ b w, F' b = some w → upd F' y o b = some w) := by
  have hA : A' = A ++ [y] := by
    have h1 : A'.length = A.length + 1 := by rw [G.len, List.length_append, ← G0.len]; rfl
    refine List.ext_getElem? fun i => ?_
    by_cases hi : i < (A ++ [y]).length
    · rw [e.cel i _ (List.getElem?_eq_getElem hi), List.getElem?_eq_getElem hi]
    · rw [List.getElem?_eq_none (by rw [h1]; simp at hi; omega), List.getElem?_eq_none (by omega)]
  subst hA
  have yA : y ∉ A := fun m => G0.there m hy
  have Fy : F' y = none := G.off y (by simp)
  have kF : ∀ b w, F' b = some w → upd F' y o b = some w := fun b w h => by rw [upd_ne (fun z : b = y => by rw [z, Fy] at h; cases h)]; exact h
  have up : ∀ {b : Addr}, b ≠ y → b ≠ dx → upd (upd H dx (.own y)) y (.ins C dx []) b = H b := fun {b} h1 h2 => by rw [upd_ne h1, upd_ne h2]
  have kA : ∀ (k : Nat) (a : Addr), A[k]? = some a → (A ++ [y])[k]? = some a := fun k a h => by rw [List.getElem?_append_left (List.getElem?_eq_some_iff.mp h).1]; exact h
  refine ⟨rfl, ⟨fun b w h => kF b w (e.fro b w h), fun _ _ h => h, fun b w n h => ?_, fun b h => ?_, fun b h => ?_, fun b h => .inl h⟩, ⟨fun b w h => ?_, G0.len, G0.nd, fun a ha => ?_, fun k a c' h1 h2 => ?_⟩, kF⟩
  · have by_ : b ≠ y := fun z => by rw [z, hy] at h; cases h
    have bd : b ≠ dx := fun z => by rw [z, hdx] at h; cases h
    exact e.keep b w (by simp [n, by_]) (by rw [up by_ bd]; exact h)
  · have by_ : b ≠ y := fun z => h (by rw [z]; exact hy)
    have bd : b ≠ dx := fun z => h (by rw [z]; exact hdx)
    exact e.there b (by rw [up by_ bd]; exact h)
  · by_cases by_ : b = y
    · rw [by_]; exact .inr hy
    · rw [upd_ne by_] at h
      rcases e.newF b h with z | z
      · exact .inl z
      · by_cases bd : b = dx
        · rw [bd]; exact .inr hdx
        · rw [up by_ bd] at z; exact .inr z
  · by_cases by_ : b = y
    · subst by_
      rw [upd_same] at h
      rw [ho]; exact h
    · rw [upd_ne by_] at h
      exact G.sub b w h
  · rw [upd_ne (fun z : a = y => yA (by rw [← z]; exact ha))]
    exact G.off a (List.mem_append_left _ ha)
  · have h1' := kA k a h1
    have h2' : (st ++ [c])[k]? = some c' := by rw [List.getElem?_append_left (List.getElem?_eq_some_iff.mp h2).1]; exact h2
    have q0 := G0.con k a c' h1 h2
    have q1 := G.con k a c' h1' h2'
    cases c' with
    | lst l =>
      obtain ⟨v0, _, r0⟩ := q0
      obtain ⟨v1, e1, r1⟩ := q1
      exact ⟨v1, e1, (Reps.down kA r0 r1).mono kF fun _ _ z => z⟩
    | dct l =>
      obtain ⟨_, v0, _, r0⟩ := q0
      obtain ⟨o1, v1, e1, r1⟩ := q1
      exact ⟨o1, v1, e1, (RepD.down kA r0 r1).mono kF fun _ _ z => z⟩
    | obj c fs =>
      obtain ⟨_, _, l0, _, _, r0⟩ := q0
      obtain ⟨C1, dx1, l1, g1, e1, r1⟩ := q1
      exact ⟨C1, dx1, l1, g1, e1, (RepF.down kA r0 r1).mono kF fun _ _ z => z⟩
theorem pp_make {c : Str} {I : Ini} (hI : IniOk c n F I) (Mk : Mk X.K C f) (G : FnOk X.prog X.w X.K X.mg X.base (L2.CX X.prog X.w) k f fd ps (spF X.K X.mg (n + 1) F)) (hr : Room (k + 1) X.A) (hg : Gl X c) (hm : X.mg c = some (.ref C)) (hb : Binds X.K fd ps []) (tk : Takes X W)
    (ha : PA X (e :: es) (rA X.K X.mg B W fs)) (hdb : (c == ("__debug__" : Str)) = false := by decide) (he : starEach (e :: es) X.env = (false, eval e X.env) :: starEach es X.env := by rfl) (hpl : (backTo pos (starEach es X.env)).any (·.1) = false := by rfl) :
    PE X (.Call (.Name c p) (e :: es) [] pos) (rE X.K X.mg B W (mCall fs (mkObj c I))) := by
  refine ⟨fun pins s σ H Q J z => ?_⟩
  obtain ⟨g, env, st, R, w⟩ := z
  refine wpAny_Call_Name_kw (ld_glob J hg hm ?_ hdb)
  refine PySem.W.callWith_K (h₀ := X.base) J.ok.mod.kin Mk.kp (thn (ha.run pos pins s σ H (fun vs H1 => ∀ x dx, H1 x = none → H1 dx = none → dx ≠ x → spF X.K X.mg (n + 1) F (.ref x :: vs) (upd (upd H1 dx (.own x)) x (.ins C dx [])) (fun v H2 => v = .non ∧ Q (.ref x) H2) (WE W σ)) J ?_) fun us s1 ⟨vs, H1, I1, r, q⟩ => ⟨I1.kIn, ?_⟩) he hpl
  · refine seqA R w fun ds st1 F1 A1 H1 vs R1 x1 r1 w1 => ?_
    intro y dx hy hdx hne
    have hk : ∃ r, I ds = some r := by
      unfold mkObj at w1
      cases q : I ds with
      | none => rw [q] at w1; exact w1.elim
      | some r => exact ⟨r, rfl⟩
    obtain ⟨r, hr'⟩ := hk
    have Gi := ini_good R1.good hm hy hdx hne
    refine ⟨F1, A1 ++ [y], st1 ++ [.obj c []], .cell st1.length :: ds, Gi, ini_rep R1.good r1, by rw [List.length_cons, r1.length, hI.len ds r hr'], ?_⟩
    rw [hI.eq ds st1 r hr']
    have w2 : WPc X.K X.mg W F1 A1 σ H1 (mkObj c I ds st1) (fun d F' A' H' => ∀ v, Rep X.K X.mg F' A' v d → Q v H') := w1
    unfold mkObj at w2
    rw [hr'] at w2
    cases r with
    | ok fs =>
      intro F' A' H' v x G' rv
      cases rv
      refine ⟨rfl, ?_⟩
      obtain ⟨a', ha', C', dx', l, gm, ea, rf⟩ := G'.addr (k := st1.length) (c := .obj c fs) (by simp)
      have hA' : A' = A1 ++ [y] := by
        have h1 : A'.length = A1.length + 1 := by rw [G'.len, List.length_append, ← R1.good.len]; rfl
        refine List.ext_getElem? fun i => ?_
        by_cases hi : i < (A1 ++ [y]).length
        · rw [x.cel i _ (List.getElem?_eq_getElem hi), List.getElem?_eq_getElem hi]
        · rw [List.getElem?_eq_none (by rw [h1]; simp at hi; omega), List.getElem?_eq_none (by omega)]
      have ey : a' = y := by
        rw [hA', ← R1.good.len] at ha'
        simpa using ha'.symm
      subst ey
      obtain ⟨_, e2, G2, kF⟩ := ini_ext R1.good hy hdx x G' ea
      have kA : ∀ (k : Nat) (a : Addr), A1[k]? = some a → A'[k]? = some a := fun k a h => by
        rw [hA', List.getElem?_append_left (List.getElem?_eq_some_iff.mp h).1]; exact h
      exact w2 _ _ _ e2 G2 _ (.obj gm upd_same ((okD_repF kA r1 rf (hI.ok ds fs hr')).mono kF fun _ _ z => z))
    | error ex =>
      intro F' A' H' cls dd x G' y2
      obtain ⟨a', ha', C', dx', l, gm, ea, rf⟩ := G'.addr (k := st1.length) (c := .obj c []) (by simp)
      have hA' : A' = A1 ++ [y] := by
        have h1 : A'.length = A1.length + 1 := by rw [G'.len, List.length_append, ← R1.good.len]; rfl
        refine List.ext_getElem? fun i => ?_
        by_cases hi : i < (A1 ++ [y]).length
        · rw [x.cel i _ (List.getElem?_eq_getElem hi), List.getElem?_eq_getElem hi]
        · rw [List.getElem?_eq_none (by rw [h1]; simp at hi; omega), List.getElem?_eq_none (by omega)]
      have ey : a' = y := by
        rw [hA', ← R1.good.len] at ha'
        simpa using ha'.symm
      subst ey
      obtain ⟨_, e2, G2, kF⟩ := ini_ext R1.good hy hdx x G' ea
      have kA : ∀ (k : Nat) (a : Addr), A1[k]? = some a → A'[k]? = some a := fun k a h => by
        rw [hA', List.getElem?_append_left (List.getElem?_eq_some_iff.mp h).1]; exact h
      refine w2 _ _ _ cls dd e2 G2 ?_
      obtain ⟨Ce, h1, h2, h3⟩ := y2
      refine ⟨Ce, h1, h2, ?_⟩
      rcases h3 with h3 | ⟨d, l, h4, h5, h6⟩
      · exact .inl h3
      · exact .inr ⟨d, l, h4, h5, (okD_repF kA r1 h6 (hI.no ds ex hr')).mono kF fun _ _ z => z⟩
  · show wpAny _ _ (call (.ref C) us) _ _ _
    have hq := q (s1.heap.objs.size + 1) s1.heap.objs.size (I1.hok.fresh (Nat.le_succ _)) (I1.hok.fresh (Nat.le_refl _)) (Nat.ne_of_lt (Nat.lt_succ_self _))
    have I2 := Inv.made (C := C) I1
    have r2 : Vals (V.ref (s1.heap.objs.size + 1) :: vs) (Value.ref (s1.heap.objs.size + 1) :: us) := .cons rfl r
    have hl : (Value.ref (s1.heap.objs.size + 1) :: us).length = ps.length := by
      have e := r2.length
      rw [G.len _ _ _ _ hq] at e
      exact e.symm
    have hb2 := hb _ (Value.ref (s1.heap.objs.size + 1) :: us) I2.kIn (by rw [List.append_nil]; exact hl)
    rw [List.append_nil] at hb2
    refine wpAny_call (make_map (f := f) I1.kIn Mk.makes Mk.init (beq_iff_eq.mp Mk.fn) (codeAny_mono (G.run _ X.stack _ _ ⟨Value.ref (s1.heap.objs.size + 1) :: us, []⟩ (Value.ref (s1.heap.objs.size + 1) :: us) _ _ (WE W σ) (hr.make C us [])
      (I2.env0.make C us []) hb2 r2 hq) fun r s' hq' => ?_))
    cases r with
    | error e => exact passAt tk σ pins _ _ e s' I2 hq'
    | ok fl =>
      cases fl with
      | ret u =>
        obtain ⟨v, H', I3, rv, ev, q3⟩ := I2.after hq'
        subst ev
        exact ⟨rv, ⟨V.ref (s1.heap.objs.size + 1), H', I3, rfl, q3⟩⟩
      | next => exact False.elim hq'
      | brk => exact False.elim hq'
      | cont => exact False.elim hq'
end
end
end PL
set_option Elab.async false
set_option linter.all false
set_option maxRecDepth 100000
set_option maxHeartbeats 4000000
namespace PL
open PySem PySem.Spec PyProof.Rows L2
section
variable {X : Cx} {o e : Expr} {es : List Expr} {to te : TE} {ta : TA} {f x : Str} {p p' p1 p2 pos : Pos} {CA : Addr} {mc : Value}
theorem pe_oinit {pl : Sem Bool} (hg : Gl X x) (hm : X.mg x = some (.ref CA)) (T : OwnI X.K CA mc) (ha : PA X (e :: es) ta) (hdb : (x == ("__debug__" : Str)) = false := by decide)
    (hc : eval (.Call (.Attribute (.Name x p1) "__init__" p2) (e :: es) [] pos) X.env = (do
      let ov ← eval (.Name x p1) X.env
      standAt p2.atName
      let (f, first) ← holding [ov] (getMethod ov "__init__" pl)
      callWith pos f first (backTo pos (starEach (e :: es) X.env)) (backToKw pos (keywordEach [] X.env))) := by rfl)
    (he : starEach (e :: es) X.env = (false, eval e X.env) :: starEach es X.env := by rfl) (hpl : (backTo pos (starEach es X.env)).any (·.1) = false := by rfl) :
    PE X (.Call (.Attribute (.Name x p1) "__init__" p2) (e :: es) [] pos) (tVeI X.K ta) := by
  refine ⟨fun pins s σ H Q I h => ?_⟩
  refine PySem.W.methodCall_KW (ld_glob I hg hm ?_ hdb) hc
  refine PySem.W.method_cls I.kIn T.ga (PySem.W.cls_value I.kIn T.rd T.at_ (by decide +kernel) ?_)
  show wpAny _ _ (callWith pos (Value.builtin "ValueError.__init__") [] (backTo pos (starEach (e :: es) X.env)) []) _ _ _
  refine PyProof.Rows.callWith_method1 (thn (ha.run pos pins _ σ H _ (I.tok _) h) fun us s1 ⟨vs, H1, I1, r1, a, C, ws, ev, hl, T, ea, q⟩ => ?_) he hpl
  subst ev
  cases r1 with
  | @cons _ u0 _ ur ra rw' =>
    obtain rfl : u0 = Value.ref a := ra
    have hlen : ur.length ≤ sizeLine := by
      rw [← Paired.length rw', sizeLine_eq]
      omega
    exact oinit_ok T I1 ea hlen fun s' J => ⟨.non, H1, J, rfl, q⟩
end
def IniEnd (H : Hp) (a C : Addr) (fs : List (Str × V)) (H' : Hp) : Prop :=
  (fs = [] ∧ H' = H) ∨ ∃ dx, fs ≠ [] ∧ H dx = none ∧ dx ≠ a ∧ H' a = some (exo a C (some dx)) ∧ H' dx = some (exd dx fs) ∧ ∀ b, b ≠ a → b ≠ dx → H' b = H b
def spI (C : Addr) (names : List Str) : Sp := fun vs H Q _ => ∃ a ws, vs = .ref a :: ws ∧ ws.length = names.length ∧ H a = some (exo a C none) ∧ ∀ H', IniEnd H a C ((names.zip ws).reverse) H' → Q .non H'
section
variable {X : Cx} {pins : List (Addr × Obj)} {σ : L2.St} {H1 : Hp}
theorem mk_endN {hp hp2 h2 : Heap} {g1 g2 : Array GenState} {d1 d2 : Drawn} {t1 t2 : Nat} {os1 os2 : OsState} {a C : Addr} (I1 : Inv X pins σ H1 ⟨hp, g1, d1, t1, os1⟩)
    (ha : hp.objs.size ≤ a) (k : ∀ b o, hp.get? b = some o → hp2.get? b = some o) (un : Un (frs X.stack) [] (upd H1 a (exo a C none)) (upd H1 a (exo a C none)) hp2 h2) (hok : HOk X.prog X.w (upd H1 a (exo a C none)) h2) (ho : os2 = os1) (hb : AllBare g2) :
    ∃ (t0 : Addr) (G : Heap), Inv X pins σ H1 ⟨G, g2, d2, t2, os2⟩ ∧ (∀ b o, G.get? b = some o → h2.get? b = some o) ∧ G.get? a = none ∧
      h2.get? a = some ({ cls := .ref C, dict := none, data := .fields #[.ref t0, .none, .none, .none, .bool false, .none] } : Obj) ∧ H1 a = none := by
  have ea : (upd H1 a (exo a C none)) a = some (exo a C none) := upd_same
  obtain ⟨t0, hoe⟩ := exo_at hok ea
  have hn : H1 a = none := I1.hok.fresh ha
  obtain ⟨G, g1', g2'⟩ := restrict h2 fun b => decide (b ≠ a)
  have gk : ∀ b, b ≠ a → G.get? b = h2.get? b := fun b hb => g1' b (decide_eq_true hb)
  have ge : G.get? a = none := g2' a (by simp)
  have nha : ∀ {b : Addr} {o : Obj}, hp.get? b = some o → b ≠ a := fun {b o} z => Nat.ne_of_lt (Nat.lt_of_lt_of_le (Heap.lt_size z) ha)
  have up : ∀ {b : Addr}, b ≠ a → H1 b = none → upd H1 a (exo a C none) b = none := fun {b} hb n => by rw [upd_ne hb]; exact n
  have U : Un (frs X.stack) [] H1 H1 hp G := {
    keep := fun b o z n hf hx => by
      rw [gk b (nha z)]
      exact un.keep b o (k b o z) (up (nha z) n) hf hx
    slot := fun b o z n hf hx => by
      rw [gk b (nha z)]
      exact un.slot b o (k b o z) (up (nha z) n) hf hx
    free := fun b o z n hx => n
    there := fun b o z hx => by
      rw [gk b (nha z)]
      exact un.there b o (k b o z) hx
    tups := fun b xs z => z
    frzs := fun b o v z => z
    tbls := fun b ps z => ⟨#[], by rw [z]; simp⟩ }
  have hok3 : HOk X.prog X.w H1 G := fun b o z => by
    have hba : b ≠ a := ne_of_none z hn
    have z2 : (upd H1 a (exo a C none)) b = some o := by rw [upd_ne hba]; exact z
    have noa : ∀ {c : Addr}, (upd H1 a (exo a C none)) c = some (.own b) → c ≠ a := fun {c} hc => at_ne ea hc exo_own
    exact (hok b o z2).stay (fun c v hc y => by
        have hca : c ≠ a := by
          rcases hc with hc | hc
          · rw [hc]
            exact hba
          · exact noa hc
        rw [gk c hca]
        exact y)
      (fun c hc => by rw [upd_ne (noa hc)] at hc; exact hc) (fun c xs hc => by rw [upd_ne (at_ne ea hc exo_tup)] at hc; exact hc)
  have J : Inv X pins σ H1 ⟨G, g2, d2, t2, os2⟩ := I1.call' (ch := []) ho U hok3 hb (fun b z => absurd z (by simp))
  refine ⟨t0, G, J, fun b o z => ?_, ge, hoe, hn⟩
  by_cases hba : b = a
  · rw [hba, ge] at z
    cases z
  · exact (gk b hba).symm.trans z
end
def tMkI (C : Addr) (names : List Str) (ta : TA) : L2.St → Hp → XK → Prop := fun σ H Q => ta σ H fun vs H1 => vs.length = names.length ∧ names.length ≤ 10 ∧
  (names = [] → Q (.ref C) none H1) ∧ (names ≠ [] → ∀ d, H1 d = none → Q (.ref C) (some d) (upd H1 d (.xd ((names.zip vs).reverse))))
section
variable {X : Cx} {e : Expr} {es : List Expr} {ta : TA} {x : Str} {p pos : Pos} {C fI : Addr} {k : Nat} {fd : FuncData} {ps : List Str} {names : List Str}
theorem pmk_call (T : OexC X.K C) (iC : PySem.W.findIn X.K (.ref C) "__init__" = some (some (.ref fI))) (tI : PySem.W.typeIn X.K (.ref fI) = some (.type "function"))
    (F1 : FnOk X.prog X.w X.K X.mg X.base (L2.CX X.prog X.w) k fI fd ps (spI C names)) (hr : Room (k + 1) X.A) (hb : Binds X.K fd ps []) {pins : List (Addr × Obj)} {σ : L2.St} {H1 : Hp} {Q : XK} {us : List Value} {vs : List V} {s1 : Shared}
    (I1 : Inv X pins σ H1 s1) (r1 : Vals vs us) (q1 : vs.length = names.length ∧ names.length ≤ 10 ∧ (names = [] → Q (.ref C) none H1) ∧ (names ≠ [] → ∀ d, H1 d = none → Q (.ref C) (some d) (upd H1 d (.xd ((names.zip vs).reverse))))) :
    wpAny (model X.prog X.w) X.A (call (.ref C) us) (MkP X pins σ Q) X.xe s1 := by
  obtain ⟨nm, q, N, bs, bm, sn, sub, ab, col, dd, k0, k1, k2, k3, k5, hC, hbm⟩ := T.cls
  obtain ⟨hp, g, dr, tk, os⟩ := s1
  obtain ⟨hl1, hl2, qn, qs⟩ := q1
  have hsz : hp.objs.size ≤ hp.objs.size + 1 := Nat.le_succ _
  have hn : H1 (hp.objs.size + 1) = none := I1.hok.fresh hsz
  have kk : ∀ b o, hp.get? b = some o → ((hp.push (PySem.W.kdv_tup us)).push (PySem.HandSPX.excO C hp.objs.size)).get? b = some o := fun b o e => Heap.get?_push_of_some _ (Heap.get?_push_of_some _ e)
  have hget : ((hp.push (PySem.W.kdv_tup us)).push (PySem.HandSPX.excO C hp.objs.size)).get? (hp.objs.size + 1) = some (PySem.HandSPX.excO C hp.objs.size) := by heap_get
  have I2 : Inv X pins σ (upd H1 (hp.objs.size + 1) (exo (hp.objs.size + 1) C none)) ⟨(hp.push (PySem.W.kdv_tup us)).push (PySem.HandSPX.excO C hp.objs.size), g, dr, tk, os⟩ :=
    I1.laid (t' := tk) (a := hp.objs.size + 1) (o := exo (hp.objs.size + 1) C none) (h' := (hp.push (PySem.W.kdv_tup us)).push (PySem.HandSPX.excO C hp.objs.size)) kk hsz (exo_ok hget)
  have r2 : Vals (V.ref (hp.objs.size + 1) :: vs) (Value.ref (hp.objs.size + 1) :: us) := .cons rfl r1
  have hq : spI C names (V.ref (hp.objs.size + 1) :: vs) (upd H1 (hp.objs.size + 1) (exo (hp.objs.size + 1) C none)) (fun v H2 => v = .non ∧ IniEnd (upd H1 (hp.objs.size + 1) (exo (hp.objs.size + 1) C none)) (hp.objs.size + 1) C ((names.zip vs).reverse) H2) (fun _ _ _ => False) :=
    ⟨_, _, rfl, hl1, upd_same, fun H' z => ⟨rfl, z⟩⟩
  have hl : (Value.ref (hp.objs.size + 1) :: us ++ []).length = ps.length := by
    have e := r2.length
    rw [F1.len _ _ _ _ hq] at e
    rw [List.append_nil]
    exact e.symm
  have hus : us.length ≤ sizeLine := by
    rw [← Paired.length r1, sizeLine_eq]
    omega
  have b2 := hb _ (Value.ref (hp.objs.size + 1) :: us) I2.kIn hl
  rw [List.append_nil] at b2
  refine wpAny_call (PySem.HandSPX.call_own F.excBase_ValueError (fun Y => PySem.HandSPX.refsVE_contains Y bm hbm) (I1.kIn _ _ hC) (PySem.W.looks_findIn I1.kIn iC) (fun self => PySem.W.bind_fn I1.kIn self tI) hus
    (codeAny_mono (F1.run _ X.stack _ _ ⟨Value.ref (hp.objs.size + 1) :: us, []⟩ (Value.ref (hp.objs.size + 1) :: us) _ _ (fun _ _ _ => False) (hr.make C us []) (I2.env0.make C us []) b2 r2 hq) fun r s' hq' => ?_))
  cases r with
  | error er => exact passes_call (W := fun _ _ _ _ => False) (E := fun _ _ _ => False) takes_none5 (fun _ _ _ _ h => h) pins σ _ _ er s' I2 hq'
  | ok fl =>
    cases fl with
    | ret u =>
      obtain ⟨v, H2, os2, bare2, un2, hok2, rv, ev, ie⟩ := hq'
      subst ev
      obtain ⟨h2, g2, d2, t2, os'⟩ := s'
      refine ⟨rv, ?_⟩
      rcases ie with ⟨e0, rfl⟩ | ⟨dx, n0, hdx, hda, ea, ed, rest⟩
      · obtain ⟨t0, G, J, kG, ge, hoe, na⟩ := mk_endN (d2 := d2) (t2 := t2) I1 hsz kk un2 hok2 os2 bare2
        have en : names = [] := by
          cases names with
          | nil => rfl
          | cons y ys =>
            cases vs with
            | nil => cases hl1
            | cons v vs => simp at e0
        exact ⟨_, _, _, ⟨G, g2, d2, t2, os'⟩, _, .ref C, none, rfl, J, kG, ge, hoe, ⟨rfl, rfl⟩, rfl, rfl, na, rfl, bare2, raises_own T.exC T.tyC, qn en⟩
      · have hd1 : H1 dx = none := by rw [upd_ne hda] at hdx; exact hdx
        have en : names ≠ [] := fun e => by
          subst e
          simp at n0
        have eH : upd (del H2 (hp.objs.size + 1)) dx (.xd ((names.zip vs).reverse)) = upd H1 dx (.xd ((names.zip vs).reverse)) := by
          funext b
          by_cases b1 : b = dx
          · rw [b1, upd_same, upd_same]
          · rw [upd_ne b1, upd_ne b1]
            by_cases b2 : b = hp.objs.size + 1
            · rw [b2, del_same, hn]
            · rw [del_ne b2, rest b b2 b1, upd_ne b2]
        exact mk_end (raises_own T.exC T.tyC) I1 hsz kk un2 hok2 os2 bare2 ea ed hd1 (by rw [eH]; exact qs en dx hd1)
    | next => exact False.elim hq'
    | brk => exact False.elim hq'
    | cont => exact False.elim hq'
theorem pmk_ini (T : OexC X.K C) (iC : PySem.W.findIn X.K (.ref C) "__init__" = some (some (.ref fI))) (tI : PySem.W.typeIn X.K (.ref fI) = some (.type "function"))
    (F1 : FnOk X.prog X.w X.K X.mg X.base (L2.CX X.prog X.w) k fI fd ps (spI C names)) (hr : Room (k + 1) X.A) (hb : Binds X.K fd ps []) (hg : Gl X x) (hm : X.mg x = some (.ref C)) (ha : PA X (e :: es) ta)
    (hdb : (x == ("__debug__" : Str)) = false := by decide) (he : starEach (e :: es) X.env = (false, eval e X.env) :: starEach es X.env := by rfl) (hpl : (backTo pos (starEach es X.env)).any (·.1) = false := by rfl) :
    PMk X (.Call (.Name x p) (e :: es) [] pos) (tMkI C names ta) := by
  intro pins s σ H Q I h
  refine wpAny_Call_Name_kw (ld_glob I hg hm ?_ hdb)
  exact PySem.W.callWith_K (h₀ := X.base) I.ok.mod.kin T.kC (thn (ha.run pos pins s σ H _ I h) fun us s1 ⟨vs, H1, I1, r1, q1⟩ => ⟨I1.kIn, pmk_call T iC tI F1 hr hb I1 r1 q1⟩) he hpl
theorem pmk_ini0 (T : OexC X.K C) (iC : PySem.W.findIn X.K (.ref C) "__init__" = some (some (.ref fI))) (tI : PySem.W.typeIn X.K (.ref fI) = some (.type "function"))
    (F1 : FnOk X.prog X.w X.K X.mg X.base (L2.CX X.prog X.w) k fI fd ps (spI C [])) (hr : Room (k + 1) X.A) (hb : Binds X.K fd ps []) (hg : Gl X x) (hm : X.mg x = some (.ref C))
    (hdb : (x == ("__debug__" : Str)) = false := by decide) :
    PMk X (.Call (.Name x p) [] [] pos) (fun σ H Q => Q (.ref C) none H) := by
  intro pins s σ H Q I h
  refine wpAny_Call_Name_kw (ld_glob I hg hm ?_ hdb)
  exact PySem.W.callWith_K0 I.kIn T.kC (pmk_call (us := []) (vs := []) T iC tI F1 hr hb I .nil ⟨rfl, by decide, fun _ => h, fun z => absurd rfl z⟩)
end
end PL
set_option Elab.async false
set_option linter.all false
set_option maxRecDepth 100000
set_option maxHeartbeats 4000000
namespace PL
open PySem PySem.Spec PyProof.Rows L2
section
variable {P : Program} {w : World} {K : PySem.W.Frag} {mg : Str → Option Value} {base : Heap} {x qual : Str} {params : Arguments} {body : List Stmt} {scope : Scope} {f C : Addr} {fd : FuncData} {k : Nat} {msg f1 f2 p1 p2 : Str}
abbrev tIni (K : PySem.W.Frag) (msg : Str) : TS := tDrop (tVeI K (tCons (tVar 0) (tCons (tC (.str msg)) tNil)))
theorem ini_fn0 (F : FunD K x qual params body scope [] [] f fd) (S : FnScope ["self"] ["self"] scope) (T : OexC K C)
    (hb : ∀ (cdv : Value) (A : Around) (outer : List PySem.Env) (s : Shared) (H : Hp) (E : XK), PSs (cxOf (L2.CX P w) P w K mg base ["self"] qual scope f cdv A outer s H E) body (tIni K msg)) :
    FnOk P w K mg base (L2.CX P w) (k + 1) f fd ["self"] (spI C []) := by
  refine F.ok S (fun vs H Q E h => ?_) (fun cdv A outer s H vs Q E hr h => ?_)
  · obtain ⟨a, ws, rfl, hl, _⟩ := h
    cases ws with
    | nil => rfl
    | cons _ _ => cases hl
  · obtain ⟨a, ws, rfl, hl, ea, q⟩ := h
    refine ⟨_, hb cdv A outer s H E, ?_⟩
    cases ws with
    | cons _ _ => cases hl
    | nil => exact ⟨.ref a, rfl, a, C, [.str msg], rfl, Nat.le_of_ble_eq_true rfl, T, ea, q H (.inl ⟨rfl, rfl⟩)⟩
theorem ini_fn1 (F : FunD K x qual params body scope [] [] f fd) (S : FnScope ["self", p1] ["self", p1] scope) (T : OexC K C) (h1 : PySem.W.findIn K (.ref C) f1 = some none)
    (hb : ∀ (cdv : Value) (A : Around) (outer : List PySem.Env) (s : Shared) (H : Hp) (E : XK), PSs (cxOf (L2.CX P w) P w K mg base ["self", p1] qual scope f cdv A outer s H E) body (tSeq (tIni K msg) (tOst K f1 (tVar 0) (tVar 1)))) :
    FnOk P w K mg base (L2.CX P w) (k + 1) f fd ["self", p1] (spI C [f1]) := by
  refine F.ok S (fun vs H Q E h => ?_) (fun cdv A outer s H vs Q E hr h => ?_)
  · obtain ⟨a, ws, rfl, hl, _⟩ := h
    rw [List.length_cons, hl]
    rfl
  · obtain ⟨a, ws, rfl, hl, ea, q⟩ := h
    refine ⟨_, hb cdv A outer s H E, ?_⟩
    cases ws with
    | nil => cases hl
    | cons y ys =>
      cases ys with
      | cons _ _ => cases hl
      | nil =>
        refine ⟨.ref a, rfl, a, C, [.str msg], rfl, Nat.le_of_ble_eq_true rfl, T, ea, y, rfl, .ref a, rfl, a, C, rfl, T, h1, .inl ⟨ea, fun dx hdx hne => ?_⟩⟩
        refine q _ (.inr ⟨dx, by simp, hdx, hne, upd_same, by rw [upd_ne hne, upd_same]; rfl, fun b h1 h2 => by rw [upd_ne h1, upd_ne h2]⟩)
theorem ini_fn2 (F : FunD K x qual params body scope [] [] f fd) (S : FnScope ["self", p1, p2] ["self", p1, p2] scope) (T : OexC K C) (h1 : PySem.W.findIn K (.ref C) f1 = some none) (h2 : PySem.W.findIn K (.ref C) f2 = some none)
    (hb : ∀ (cdv : Value) (A : Around) (outer : List PySem.Env) (s : Shared) (H : Hp) (E : XK), PSs (cxOf (L2.CX P w) P w K mg base ["self", p1, p2] qual scope f cdv A outer s H E) body (tSeq (tIni K msg) (tSeq (tOst K f1 (tVar 0) (tVar 1)) (tOst K f2 (tVar 0) (tVar 2))))) :
    FnOk P w K mg base (L2.CX P w) (k + 1) f fd ["self", p1, p2] (spI C [f1, f2]) := by
  refine F.ok S (fun vs H Q E h => ?_) (fun cdv A outer s H vs Q E hr h => ?_)
  · obtain ⟨a, ws, rfl, hl, _⟩ := h
    rw [List.length_cons, hl]
    rfl
  · obtain ⟨a, ws, rfl, hl, ea, q⟩ := h
    refine ⟨_, hb cdv A outer s H E, ?_⟩
    cases ws with
    | nil => cases hl
    | cons y ys =>
      cases ys with
      | nil => cases hl
      | cons z zs =>
        cases zs with
        | cons _ _ => cases hl
        | nil =>
          refine ⟨.ref a, rfl, a, C, [.str msg], rfl, Nat.le_of_ble_eq_true rfl, T, ea, y, rfl, .ref a, rfl, a, C, rfl, T, h1, .inl ⟨ea, fun dx hdx hne => ?_⟩⟩
          refine ⟨z, rfl, .ref a, rfl, a, C, rfl, T, h2, .inr ⟨dx, [(f1, y)], upd_same, by rw [upd_ne hne, upd_same], Nat.le_of_ble_eq_true rfl, ?_⟩⟩
          refine q _ (.inr ⟨dx, by simp, hdx, hne, by rw [upd_ne (Ne.symm hne), upd_same], by rw [upd_same]; rfl, fun b h1 h2 => by rw [upd_ne h2, upd_ne h1, upd_ne h2]⟩)
end
def sRaise (c : Str) (names : List Str) (fa : Env → M (List D)) : SD := sE fa fun ds env st => if ds.length = names.length then .exc ⟨c, (names.zip ds).reverse⟩ env st else .bad
def sRaise0 (c : Str) : SD := fun env st => .exc ⟨c, []⟩ env st
theorem repF_zip {K : PySem.W.Frag} {mg : Str → Option Value} {F : Hp} {A : List Addr} : ∀ {names : List Str} {vs : List V} {ds : List D}, Reps K mg F A vs ds → RepF K mg F A (names.zip vs) (names.zip ds)
  | [], _, _, _ => by
    rw [List.zip_nil_left, List.zip_nil_left]
    exact .nil
  | _ :: _, _, _, .nil => .nil
  | n :: names, _, _, .cons h r => .cons h (repF_zip r)
theorem repF_app {K : PySem.W.Frag} {mg : Str → Option Value} {F : Hp} {A : List Addr} : ∀ {l m : List (Str × V)} {l' m' : List (Str × D)}, RepF K mg F A l l' → RepF K mg F A m m' → RepF K mg F A (l ++ m) (l' ++ m')
  | _, _, _, _, .nil, s => s
  | _, _, _, _, .cons h r, s => .cons h (repF_app r s)
theorem repF_rev {K : PySem.W.Frag} {mg : Str → Option Value} {F : Hp} {A : List Addr} : ∀ {l : List (Str × V)} {l' : List (Str × D)}, RepF K mg F A l l' → RepF K mg F A l.reverse l'.reverse
  | _, _, .nil => .nil
  | _, _, .cons h r => by
    rw [List.reverse_cons, List.reverse_cons]
    exact repF_app (repF_rev r) (.cons h .nil)
section
variable {X : Cx} {B : Bs} {W : WX} {e : Expr} {es : List Expr} {c : Str} {p pos pos2 : Pos} {C fI : Addr} {k : Nat} {fd : FuncData} {ps : List Str} {names : List Str} {fs : Env → M (List D)}
theorem qs_raise (hc : X.calm = true) (tk : Takes X W) (T : OexC X.K C) (iC : PySem.W.findIn X.K (.ref C) "__init__" = some (some (.ref fI))) (tI : PySem.W.typeIn X.K (.ref fI) = some (.type "function"))
    (F1 : FnOk X.prog X.w X.K X.mg X.base (L2.CX X.prog X.w) k fI fd ps (spI C names)) (hr : Room (k + 1) X.A) (hb : Binds X.K fd ps []) (hg : Gl X c) (hm : X.mg c = some (.ref C)) (hn : names ≠ [] ∧ names.length ≤ 10) (ha : PA X (e :: es) (rA X.K X.mg B W fs))
    (hdb : (c == ("__debug__" : Str)) = false := by decide) (he : starEach (e :: es) X.env = (false, eval e X.env) :: starEach es X.env := by rfl) (hpl : (backTo pos (starEach es X.env)).any (·.1) = false := by rfl) :
    PS X (.Raise (some (.Call (.Name c p) (e :: es) [] pos)) none pos2) (rS X.K X.mg B W (sRaise c names fs)) := by
  refine (ps_raise hc tk (pmk_ini T iC tI F1 hr hb hg hm ha hdb he hpl)).imp fun E σ H ⟨g, env, st, R, w⟩ => ?_
  refine seqSA R w fun ds st1 F1 A1 H1 vs R1 x1 r1 w1 => ?_
  have w2 : WPs X.K X.mg B W ⟨F1, A1, g.ow⟩ E (if ds.length = names.length then SR.exc ⟨c, (names.zip ds).reverse⟩ env st1 else SR.bad) := w1
  by_cases hl : ds.length = names.length
  · rw [if_pos hl] at w2
    refine ⟨r1.length.trans hl, hn.2, fun z => absurd z hn.1, fun _ d hd => ?_⟩
    exact w2 _ σ _ _ _ GExt.refl (R1.pushH hd) ⟨C, rfl, hm, .inr ⟨d, _, rfl, upd_same, repF_rev (repF_zip r1)⟩⟩
  · rw [if_neg hl] at w2
    exact w2.elim
theorem qs_raise0 (hc : X.calm = true) (tk : Takes X W) (T : OexC X.K C) (iC : PySem.W.findIn X.K (.ref C) "__init__" = some (some (.ref fI))) (tI : PySem.W.typeIn X.K (.ref fI) = some (.type "function"))
    (F1 : FnOk X.prog X.w X.K X.mg X.base (L2.CX X.prog X.w) k fI fd ps (spI C [])) (hr : Room (k + 1) X.A) (hb : Binds X.K fd ps []) (hg : Gl X c) (hm : X.mg c = some (.ref C))
    (hdb : (c == ("__debug__" : Str)) = false := by decide) :
    PS X (.Raise (some (.Call (.Name c p) [] [] pos)) none pos2) (rS X.K X.mg B W (sRaise0 c)) := by
  refine (ps_raise hc tk (pmk_ini0 T iC tI F1 hr hb hg hm hdb)).imp fun E σ H ⟨g, env, st, R, w⟩ => ?_
  exact w _ σ _ _ _ GExt.refl R ⟨C, rfl, hm, .inl ⟨rfl, rfl⟩⟩
end
end PL
set_option Elab.async false
set_option linter.all false
set_option maxRecDepth 100000
set_option maxHeartbeats 4000000
namespace PL
open PySem PySem.Spec PyProof.Rows L2
def endsC (D : Ends) : Option Nat → Ends
  | none => D
  | some i => { nx := fun σ' H' => D.nx (σ'.set i none) H', rt := D.rt, bk := fun σ' H' => D.bk (σ'.set i none) H', ct := fun σ' H' => D.ct (σ'.set i none) H' }
def sigC (σ : L2.St) (a : Addr) : Option Nat → L2.St
  | none => σ
  | some i => σ.set i (some (.ref a))
def wAny (K : PySem.W.Frag) (Wout : WX) (D : Ends) : List ClT → WX
  | [] => Wout
  | (c, i, ts) :: r => fun cls d σ H => ∃ b, PySem.W.exmOne K cls c = some b ∧ (b = true → ∀ a, H a = none → ts a cls d (endsC D i) (sigC σ a i) H) ∧ (b = false → wAny K Wout D r cls d σ H)
section
variable {X : Cx} {body : List Stmt} {h₀ : ExceptHandler} {hds : List ExceptHandler} {l : List ClT} {pos : Pos} {tb : WX → TS} {Wout : WX}
theorem ps_try_any (hs : X.stack = X.env :: X.outer) (hf : X.env.frame = some X.env.locals) (hN : X.N.Nodup) (tk : Takes X Wout)
    (hb : ∀ (W : WX) (pn : List (Addr × Obj)) (xe : Value → Shared → Prop), Takes (X.tr pn xe) W → PassesOwn (model X.prog X.w) X.A X.env xe → PSs (X.tr pn xe) body (tb W))
    (hh : HdsA X (h₀ :: hds) l) : PS X (.Try body (h₀ :: hds) [] [] pos) (fun D σ H => tb (wAny X.K Wout D l) D σ H) := by
  refine ⟨fun pins s σ H D I h => ?_⟩
  have ok := I.ok
  have hfr : X.A.frames = some (X.env :: X.outer) := by rw [ok.frames, hs]
  refine wpAny_Try_except ?_
  refine wpAny_mono ((hb (wAny X.K Wout D l) (X.pn ++ pins) (fun e s₁ => wpAny (model X.prog X.w) X.A (noteFrame e X.env) (fun _ s₂ => wpAny (model X.prog X.w) X.A (setFlight e none) (fun _ s₃ =>
    wpAny (model X.prog X.w) X.A (handleBy e X.env (h₀ :: hds)) (SP X pins D) X.xe s₃) X.xe s₂) X.xe s₁) (fun u s' xx => ?_) PassesOwn.looking).run [] s σ H D (I.toTry _) h) (fun f s1 hsp => ?_) (fun e s1 he => he)
  · obtain ⟨a, B, sI, pins', σ', H', cls, d, rfl, J', nb, up, sky, na, os, ag, w⟩ := xx
    have J : Inv X pins σ' H' sI := J'.ofTry ok
    have sky' : Sky B (X.env :: X.outer) a (Zc cls d) X.env.locals s'.heap := by rw [← hs]; exact sky
    show wpAny (model X.prog X.w) X.A (noteFrame (.ref a) X.env) _ _ _
    refine Sky.land Zc.steady hfr hf sky' fun h3 fl3 up3 => ?_
    have J3 : Inv X pins σ' H' { s' with heap := h3 } := J.landed nb fl3.1 (up.trans up3) os ag
    obtain ⟨oe3, vs3, he3, hz3, hd3⟩ := fl3.there
    have notFr : ∀ {h : Heap} {o : Obj} {vs : Array Value}, h.FunFrames B (X.env :: X.outer) → h.get? a = some o → o.data = .fields vs → a ∉ frs (X.env :: X.outer) := fun {h o vs} ff e dd hm => by
      obtain ⟨_, o', e', hnf⟩ := ff.mem hm
      rw [e] at e'; cases e'
      exact hnf _ dd
    have nfr := notFr fl3.2.2.1 he3 hd3
    have nL : a ≠ X.env.locals := fun z => nfr (List.mem_filterMap.mpr ⟨X.env, List.mem_cons_self, by rw [hf, z]⟩)
    have nF : a ∉ X.fs := fun hm => by
      obtain ⟨e, he, q⟩ := List.mem_filterMap.mp hm
      exact nfr (List.mem_filterMap.mpr ⟨e, List.mem_cons_of_mem _ he, q⟩)
    have S3 := J3.suite he3 hd3 na nL nF
    have LT : PySem.W.Looks (model X.prog X.w) h3 (typeOf (.ref a)) cls := fun A Q E s k q => wpAny_typeOf_ref (k _ _ he3) (by rw [hz3.1]; exact q)
    have test : ∀ {x : Str} {c : Value} {np : Pos} {Q : Value → Shared → Prop} {E : Value → Shared → Prop}, Names X x c → Q c { s' with heap := h3 } → wpAny (model X.prog X.w) (X.A.mark (some (.ref a))) (eval (.Name x np) X.env) Q E { s' with heap := h3 } := fun {x c np Q E} hc q => by
      obtain ⟨hg, hdbg, hm | ⟨hm, hv, hnn⟩⟩ := hc
      · exact ld_glob (X := X.suite a ((a, oe3) :: (X.pn ++ pins))) S3 hg hm q hdbg
      · exact ld_blt (X := X.suite a ((a, oe3) :: (X.pn ++ pins))) S3 hg hm hv q hnn hdbg
    have go : ∀ {hds' : List ExceptHandler} {l' : List ClT}, HdsA X hds' l' → wAny X.K Wout D l' cls d σ' H' →
        wpAny (model X.prog X.w) X.A (handleBy (.ref a) X.env hds') (SP X pins D) X.xe { s' with heap := h3 } := by
      intro hds' l' hk
      induction hk with
      | nil =>
        intro w
        refine wpAny_handleBy_nil ?_
        obtain ⟨k1, k2, k3, oe, vs, T, oT, ts', he, hz, hd, h1, hr⟩ := id fl3
        unfold PySem.passOn
        refine wpAny_bind (wpAny_field he hd h1 ?_)
        rw [if_neg (show ¬ ((Value.ref T == Value.none) = true) from by simp)]
        have fin : wpAny (model X.prog X.w) X.A (setFlight (.ref a) X.env.frame) (fun _ s4 => wpAny (model X.prog X.w) X.A (throw (.ref a) : Sem Flow) (SP X pins D) X.xe s4) X.xe { s' with heap := h3 } := by
          rw [hf]
          refine HandSPX.setFlight_upZ fl3 fun h4 hh4 up4 => wpAny_throw (tk _ _ ?_)
          exact ⟨a, B, sI, pins, σ', H', cls, d, rfl, J, nb, (up.trans up3).trans up4, .inr (.inr (by rw [hs]; exact hh4)), na, os, ag, w⟩
        first
          | exact wpAny_bind (wpAny_pure (wpAny_bind fin))
          | exact wpAny_bind fin
      | @plain x c ts b₀ suite np pos' hds2 l2 hc hsu r ih =>
        intro w
        obtain ⟨b, hb1, hyes, hno⟩ := w
        refine wpAny_handleBy_cons (codeAny_handlers_test ?_) (by intro q; cases q)
        have LM := PySem.W.exm_one (M := model X.prog X.w) (J3.kIn) LT hb1
        refine test hc (LM.here ?_)
        cases b with
        | true =>
          refine codeAny_handlers_suite ?_
          refine HandSPX.lands_againZ fl3 fun h4 fl4 up4 => ?_
          have J4 : Inv X pins σ' H' { s' with heap := h4 } := J.landed nb fl4.1 ((up.trans up3).trans up4) os ag
          obtain ⟨oe4, vs4, he4, hz4, hd4⟩ := fl4.there
          have S4 := J4.suite he4 hd4 na nL nF
          refine wpAny_mono ((hsu a oe4 cls d (X.pn ++ pins) hz4 ⟨_, hd4⟩).run [] _ _ H' _ S4 (hyes rfl a na)) (fun f s6 hsp => ?_) (fun _ _ z => False.elim z)
          cases f with
          | next =>
            obtain ⟨σ6, H6, S6, q6⟩ := hsp
            exact ⟨_, _, S6.unsuite ok, q6⟩
          | brk =>
            obtain ⟨σ6, H6, S6, q6⟩ := hsp
            exact ⟨_, _, S6.unsuite ok, q6⟩
          | cont =>
            obtain ⟨σ6, H6, S6, q6⟩ := hsp
            exact ⟨_, _, S6.unsuite ok, q6⟩
          | ret u =>
            obtain ⟨v6, σ6, H6, S6, r6, q6⟩ := hsp
            exact ⟨_, _, _, S6.unsuite ok, r6, q6⟩
        | false =>
          show wpAny _ X.A (handleBy (.ref a) X.env hds2) _ _ _
          exact ih (hno rfl)
      | @named x n i c ts b₀ suite np pos' hds2 l2 hc hi hln hsu r ih =>
        intro w
        obtain ⟨b, hb1, hyes, hno⟩ := w
        have hloc : Loc X.env.scope n := .inl hln
        refine wpAny_handleBy_cons (codeAny_handlers_test ?_) (by intro q; cases q)
        have LM := PySem.W.exm_one (M := model X.prog X.w) (J3.kIn) LT hb1
        refine test hc (LM.here ?_)
        cases b with
        | true =>
          refine codeAny_handlers_suite_as ?_
          refine HandSPX.lands_againZ fl3 fun h4 fl4 up4 => ?_
          have J4 : Inv X pins σ' H' { s' with heap := h4 } := J.landed nb fl4.1 ((up.trans up3).trans up4) os ag
          obtain ⟨oe4, vs4, he4, hz4, hd4⟩ := fl4.there
          have S4 := J4.suite he4 hd4 na nL nF
          refine store_ok (X := X.suite a ((a, oe4) :: (X.pn ++ pins))) (v := .ref a) S4 hN hi hloc rfl (fun s5 S5 => ?_) (.inr hln)
          refine wpAny_mono ((hsu a oe4 cls d (X.pn ++ pins) hz4 ⟨_, hd4⟩).run [] s5 _ H' _ S5 (hyes rfl a na)) (fun f s6 hsp => ?_) (fun _ _ z => False.elim z)
          have end_ : ∀ {σ6 : L2.St} {H6 : Hp} {Q : Shared → Prop}, Inv (X.suite a ((a, oe4) :: (X.pn ++ pins))) [] σ6 H6 s6 → (∀ s7, Inv X pins (σ6.set i none) H6 s7 → Q s7) →
              wpAny (model X.prog X.w) X.A (do bindName X.env n .none; unbindBehindTheSuite X.env n pos') (fun _ s7 => Q s7) X.xe s6 := fun {σ6 H6 Q} S6 hq => gone_ok (S6.unsuite ok) hN hi hln hq
          cases f with
          | next =>
            obtain ⟨σ6, H6, S6, q6⟩ := hsp
            exact end_ S6 fun s7 J7 => ⟨_, _, J7, q6⟩
          | brk =>
            obtain ⟨σ6, H6, S6, q6⟩ := hsp
            exact end_ S6 fun s7 J7 => ⟨_, _, J7, q6⟩
          | cont =>
            obtain ⟨σ6, H6, S6, q6⟩ := hsp
            exact end_ S6 fun s7 J7 => ⟨_, _, J7, q6⟩
          | ret u =>
            obtain ⟨v6, σ6, H6, S6, r6, q6⟩ := hsp
            exact end_ S6 fun s7 J7 => ⟨_, _, _, J7, r6, q6⟩
        | false =>
          show wpAny _ X.A (handleBy (.ref a) X.env hds2) _ _ _
          exact ih (hno rfl)
    exact go hh w
  · cases f with
    | next =>
      obtain ⟨σ', H', J', q⟩ := hsp
      exact wpAny_execs_nil ⟨σ', H', J'.ofTry ok, q⟩
    | brk =>
      obtain ⟨σ', H', J', q⟩ := hsp
      exact ⟨σ', H', J'.ofTry ok, q⟩
    | cont =>
      obtain ⟨σ', H', J', q⟩ := hsp
      exact ⟨σ', H', J'.ofTry ok, q⟩
    | ret u =>
      obtain ⟨v, σ', H', J', r, q⟩ := hsp
      exact ⟨v, σ', H', J'.ofTry ok, r, q⟩
end
def clrE (env : Env) : Option Nat → Env
  | none => env
  | some i => env.set i none
def clrR (s : Option Nat) : SR → SR
  | .nx env st => .nx (clrE env s) st
  | .bk env st => .bk (clrE env s) st
  | .ct env st => .ct (clrE env s) st
  | .rt d st => .rt d st
  | .exc _ _ _ => .bad
  | .bad => .bad
def slotOk (s : Option Nat) (env : Env) : Bool := match s with
  | none => true
  | some i => decide (i < env.length)
def sHds (top : Str) (errs : List Str) (e : Exn) : List HdD → SD
  | [] => fun env st => .exc e env st
  | h :: r => fun env st => if errs.contains e.c then (if isSub top e.c h.c then (if slotOk h.slot env then clrR h.slot (h.f e (clrE env h.slot) st) else .bad) else sHds top errs e r env st) else .bad
def sTry (top : Str) (errs : List Str) (t : SD) (hs : List HdD) : SD := fun env st => match t env st with
  | .exc e env' st' => sHds top errs e hs env' st'
  | r => r
section
variable {X : Cx} {B : Bs} {W : WX} {body : List Stmt} {h₀ : ExceptHandler} {hds : List ExceptHandler} {pos : Pos} {t : SD} {top : Str} {errs : List Str}
theorem WPs.clr {K : PySem.W.Frag} {mg : Str → Option Value} {g : Gh} {E : Ends} {slot : Option Nat} : ∀ {r : SR}, WPs K mg B W g E (clrR slot r) → WPs K mg B W0 g (endsC E slot) r := by
  intro r h
  cases slot with
  | none =>
    cases r with
    | exc e env st => exact h.elim
    | bad => exact h.elim
    | rt d st => exact h
    | nx env st => exact h
    | bk env st => exact h
    | ct env st => exact h
  | some i =>
    cases r with
    | exc e env st => exact h.elim
    | bad => exact h.elim
    | rt d st => exact h
    | nx env st => exact fun g' σ H x R => h g' _ H x R.setNone
    | bk env st => exact fun g' σ H x R => h g' _ H x R.setNone
    | ct env st => exact fun g' σ H x R => h g' _ H x R.setNone
theorem hds_any {hd : List ExceptHandler} {l : List HdD} (h : HdsD X B top errs hd l) : ∃ l', HdsA X hd l' ∧ ∀ (D : Ends) (e : Exn) (env : Env) (st : Sta) (g : Gh) (σ : L2.St) (H : Hp) (cls : Value) (dd : Option Addr), Rel X.K X.mg B g env st σ H → ExnAt X.K X.mg g.F g.A H cls dd e →
    WPs X.K X.mg B W g D (sHds top errs e l env st) → wAny X.K W D l' cls dd σ H := by
  induction h with
  | nil => exact ⟨[], .nil, fun D e env st g σ H cls dd R x w => w g σ H cls dd GExt.refl R x⟩
  | @plain x C f b₀ suite np pos' hds l hg hm hx hsu r hdb ih =>
    obtain ⟨l', h1, h2⟩ := ih
    refine ⟨_, .plain ⟨hg, hdb, .inl hm⟩ hsu h1, fun D e env st g σ H cls dd R xa w => ?_⟩
    unfold sHds at w
    split at w
    · rename_i hc
      obtain ⟨C', rfl, hm', _⟩ := id xa
      refine ⟨isSub top e.c x, hx _ (List.contains_iff_mem.mp hc) C' hm', fun z a na => ?_, fun z => ?_⟩
      · rw [if_pos z] at w
        exact ⟨g, env, st, e, R, xa, fun i (z : (none : Option Nat) = some i) => (by cases z), WPs.clr (show WPs X.K X.mg B W g D (clrR none (f e env st)) from w)⟩
      · rw [if_neg (by rw [z]; decide)] at w
        exact h2 D e env st g σ H _ dd R xa w
    · exact w.elim
  | @named x n C i f b₀ suite np pos' hds l hg hm hx hi hln hsu r hdb ih =>
    obtain ⟨l', h1, h2⟩ := ih
    refine ⟨_, .named ⟨hg, hdb, .inl hm⟩ hi hln hsu h1, fun D e env st g σ H cls dd R xa w => ?_⟩
    unfold sHds at w
    split at w
    · rename_i hc
      obtain ⟨C', rfl, hm', _⟩ := id xa
      refine ⟨isSub top e.c x, hx _ (List.contains_iff_mem.mp hc) C' hm', fun z a na => ?_, fun z => ?_⟩
      · rw [if_pos z] at w
        have w2 : WPs X.K X.mg B W g D (if slotOk (some i) env then clrR (some i) (f e (env.set i none) st) else .bad) := w
        by_cases hsl : i < env.length
        · rw [if_pos (show slotOk (some i) env = true from decide_eq_true hsl)] at w2
          exact ⟨g, env.set i none, st, e, R.setNone, xa, fun j z => by
            cases z
            exact List.getElem?_set_self (by rw [← R.len]; exact hsl), WPs.clr w2⟩
        · rw [if_neg (show ¬ (slotOk (some i) env = true) from fun z => hsl (of_decide_eq_true z))] at w2
          exact w2.elim
      · rw [if_neg (by rw [z]; decide)] at w
        exact h2 D e env st g σ H _ dd R xa w
    · exact w.elim
theorem qs_try {l : List HdD} (hs : X.stack = X.env :: X.outer) (hf : X.env.frame = some X.env.locals) (hN : X.N.Nodup) (tk : Takes X W)
    (hb : ∀ (W : WX) (pn : List (Addr × Obj)) (xe : Value → Shared → Prop), Takes (X.tr pn xe) W → PassesOwn (model X.prog X.w) X.A X.env xe → PSs (X.tr pn xe) body (rS X.K X.mg B W t))
    (hh : HdsD X B top errs (h₀ :: hds) l) : PS X (.Try body (h₀ :: hds) [] [] pos) (rS X.K X.mg B W (sTry top errs t l)) := by
  obtain ⟨l', h1, h2⟩ := hds_any (W := W) hh
  refine (ps_try_any hs hf hN tk hb h1).imp fun E σ H ⟨g, env, st, R, w⟩ => ⟨g, env, st, R, ?_⟩
  unfold sTry at w
  cases q : t env st with
  | exc e env' st' =>
    rw [q] at w
    exact fun g' σ' H' cls dd x R' xa => h2 E e env' st' g' σ' H' cls dd R' xa (WPs.shift w x)
  | nx env' st' => rw [q] at w; exact w
  | rt d st' => rw [q] at w; exact w
  | bk env' st' => rw [q] at w; exact w
  | ct env' st' => rw [q] at w; exact w
  | bad => rw [q] at w; exact w
theorem qsu_plain {a : Addr} {oe : Obj} {cls : Value} {d : Option Addr} {pn : List (Addr × Obj)} {ss : List Stmt} {slot : Option Nat} {f : SD} (h : PSs (X.suite a ((a, oe) :: pn)) ss (rS X.K X.mg B W0 f)) :
    PSs (X.suite a ((a, oe) :: pn)) ss (rSu X.K X.mg B slot (fun _ => f) a cls d) := h.imp fun E σ H ⟨g, env, st, ex, R, xa, hs, w⟩ => ⟨g, env, st, R, w⟩
section
variable {a : Addr} {oe : Obj} {cls : Value} {d : Option Addr} {pn : List (Addr × Obj)} {es : List Expr} {i : Nat} {r : Exn → Option (List D)}
end
end
end PL
set_option Elab.async false
set_option linter.all false
set_option maxRecDepth 100000
set_option maxHeartbeats 4000000
namespace PL
open PySem PySem.Spec PyProof.Rows L2
def lcGo2 (vs vs1 : List Nat) (bind : Bnd) (test : Env → M Bool) (it1 : Env → M (List D)) (bind1 : Bnd) (test1 : Env → M Bool) (elt : Env → M D) (env : Env) : List D → List D → M (List D)
  | [], acc => pure acc
  | d :: ds, acc => match bind d (wipeE env vs) with
    | some env1 => noX (test env1) >>= fun b => if b then noX (it1 env1) >>= fun es => lcGo vs1 bind1 test1 elt env1 es acc >>= fun acc' => lcGo2 vs vs1 bind test it1 bind1 test1 elt env ds acc' else lcGo2 vs vs1 bind test it1 bind1 test1 elt env ds acc
    | none => M.bad
def mLc2 (vs vs1 : List Nat) (bind : Bnd) (test : Env → M Bool) (it1 : Env → M (List D)) (bind1 : Bnd) (test1 : Env → M Bool) (elt : Env → M D) (it : Env → M (List D)) : Env → M (List D) :=
  fun env => it env >>= fun ds => lcGo2 vs vs1 bind test it1 bind1 test1 elt env ds []
def wo (p : Addr) (H : Hp) : Hp := fun b => if b = p then none else H b
theorem wo_upd {p : Addr} {o : HO} {H : Hp} : wo p (upd H p o) = wo p H := by
  funext b
  unfold wo
  by_cases q : b = p
  · rw [if_pos q, if_pos q]
  · rw [if_neg q, if_neg q, upd_ne q]
theorem Ext.wo {p : Addr} {F F' : Hp} {A A' : List Addr} {H H' : Hp} (x : Ext F A H F' A' H') (hf : F p = none) (hh : H p ≠ none) (hA : p ∉ A) : Ext F A (wo p H) F' A' (wo p H') := by
  unfold PL.wo
  refine ⟨x.fro, x.cel, fun b o n h => ?_, fun b h => ?_, fun b h => ?_, fun b h => ?_⟩
  · by_cases q : b = p
    · simp [q] at h
    · simp only [if_neg q] at h ⊢
      exact x.keep b o n h
  · by_cases q : b = p
    · simp [q] at h
    · simp only [if_neg q] at h ⊢
      exact x.there b h
  · by_cases q : b = p
    · exact .inr (by simp [q])
    · rcases x.newF b h with z | z
      · exact .inl z
      · exact .inr (by simp [q, z])
  · by_cases q : b = p
    · exact .inr (by simp [q])
    · rcases x.newA b h with z | z
      · exact .inl z
      · exact .inr (by simp [q, z])
section
variable {X : Cx} {B : Bs} {W : WX}
theorem Side.less {B : Bs} {g : Gh} {env env1 : Env} {H : Hp} {p : Addr} {l : List D} (s : Side X.K X.mg B g env H p l) (h : ∀ (j : Nat) c, env1[j]? = some (some (.own c)) → env[j]? = some (some (.own c))) : Side X.K X.mg B g env1 H p l :=
  ⟨s.at_, s.f, s.a, s.b, fun j c e => s.ne j c (h j c e)⟩
theorem lc_loop {t : TG} {bind : Bnd} {vs : List Nat} {tst : Env → M Bool} {elt : Env → M D} (hb : BndOk X.K X.mg t bind vs) (ho : BndOwn bind) {J : It} {ds acc : List D} {g : Gh} {env : Env} {st : Sta} {σ : L2.St} {H : Hp} {p : Addr} {Post : List D → Sta → Gh → Hp → Prop}
    (R : Rel X.K X.mg B g env st σ H) (s : Side X.K X.mg B g env H p acc) (hJ : ItOk X.K X.mg J g.F g.A ds)
    (w : (lcGo vs bind tst elt env ds acc st).wp (fun acc' st' => ∀ F' A' H', Ext g.F g.A (wo p H) F' A' (wo p H') → Rel X.K X.mg B ⟨F', A', g.ow⟩ env st' σ H' → Side X.K X.mg B ⟨F', A', g.ow⟩ env H' p acc' → Post acc' st' ⟨F', A', g.ow⟩ H') (fun _ _ => True)) :
    ∃ W1 : Nat → Nat → Hp → Prop, (∃ m, W1 0 m H) ∧ ∀ j k H, W1 j k H →
      (J.stop j H ∧ ∃ acc' st' g', Post acc' st' g' H) ∨ (J.go j H ∧ ∃ Nx1 : Hp → Prop, (∀ H', Nx1 H' → ∃ k', k' < k ∧ W1 (j + 1) k' H') ∧ ∀ x H', J.yld j H x H' → t x (wipe σ vs) H' fun σ3 H5 => wipe σ3 vs = wipe σ vs ∧ rT X.K X.mg B W0 tst σ3 H5 fun b H6 =>
        if b = true then rE X.K X.mg B W0 elt σ3 H6 fun y H7 => ∃ acc, H7 p = some (.lst acc) ∧ acc.length < sizeLine ∧ Nx1 (upd H7 p (.lst (acc ++ [y]))) else Nx1 H6) := by
  have key : ∀ (i : Nat) (H2 : Hp), i ≤ ds.length → (∃ F2 A2 acc st, Ext g.F g.A (wo p H) F2 A2 (wo p H2) ∧ Rel X.K X.mg B ⟨F2, A2, g.ow⟩ env st σ H2 ∧ Side X.K X.mg B ⟨F2, A2, g.ow⟩ env H2 p acc ∧
    (lcGo vs bind tst elt env (ds.drop i) acc st).wp (fun acc' st' => ∀ F' A' H', Ext F2 A2 (wo p H2) F' A' (wo p H') → Rel X.K X.mg B ⟨F', A', g.ow⟩ env st' σ H' → Side X.K X.mg B ⟨F', A', g.ow⟩ env H' p acc' → Post acc' st' ⟨F', A', g.ow⟩ H') (fun _ _ => True)) →
      (J.stop i H2 ∧ ∃ acc' st' g', Post acc' st' g' H2) ∨ (J.go i H2 ∧ ∀ x H3, J.yld i H2 x H3 → t x (wipe σ vs) H3 fun σ3 H5 => wipe σ3 vs = wipe σ vs ∧ rT X.K X.mg B W0 tst σ3 H5 fun b H6 =>
        if b = true then rE X.K X.mg B W0 elt σ3 H6 fun y H7 => ∃ acc, H7 p = some (.lst acc) ∧ acc.length < sizeLine ∧ (i < ds.length ∧ ∃ F2 A2 acc2 st, Ext g.F g.A (wo p H) F2 A2 (wo p (upd H7 p (.lst (acc ++ [y])))) ∧ Rel X.K X.mg B ⟨F2, A2, g.ow⟩ env st σ (upd H7 p (.lst (acc ++ [y]))) ∧ Side X.K X.mg B ⟨F2, A2, g.ow⟩ env (upd H7 p (.lst (acc ++ [y]))) p acc2 ∧
    (lcGo vs bind tst elt env (ds.drop (i + 1)) acc2 st).wp (fun acc' st' => ∀ F' A' H', Ext F2 A2 (wo p (upd H7 p (.lst (acc ++ [y])))) F' A' (wo p H') → Rel X.K X.mg B ⟨F', A', g.ow⟩ env st' σ H' → Side X.K X.mg B ⟨F', A', g.ow⟩ env H' p acc' → Post acc' st' ⟨F', A', g.ow⟩ H') (fun _ _ => True))
        else (i < ds.length ∧ ∃ F2 A2 acc st, Ext g.F g.A (wo p H) F2 A2 (wo p H6) ∧ Rel X.K X.mg B ⟨F2, A2, g.ow⟩ env st σ H6 ∧ Side X.K X.mg B ⟨F2, A2, g.ow⟩ env H6 p acc ∧
    (lcGo vs bind tst elt env (ds.drop (i + 1)) acc st).wp (fun acc' st' => ∀ F' A' H', Ext F2 A2 (wo p H6) F' A' (wo p H') → Rel X.K X.mg B ⟨F', A', g.ow⟩ env st' σ H' → Side X.K X.mg B ⟨F', A', g.ow⟩ env H' p acc' → Post acc' st' ⟨F', A', g.ow⟩ H') (fun _ _ => True))) := by
    rintro i H2 hi ⟨F2, A2, acc, st, xx, R, s, w⟩
    obtain ⟨ji, js⟩ := hJ i F2 A2 st H2 xx.fro xx.cel R.good
    by_cases hlt : i < ds.length
    · refine .inr ?_
      obtain ⟨jg, jy⟩ := ji ds[i] (List.getElem?_eq_getElem hlt)
      refine ⟨jg, fun x H3 y => ?_⟩
      obtain ⟨F3, x3, G3, r3⟩ := jy x H3 y
      rw [List.drop_eq_getElem_cons hlt] at w
      have R3 := R.step x3 G3
      have s3 := s.ext x3
      have w' : ((match bind ds[i] (wipeE env vs) with
        | some env1 => noX (tst env1) >>= fun b => if b then noX (elt env1) >>= fun y => if acc.length < sizeLine then lcGo vs bind tst elt env (ds.drop (i + 1)) (acc ++ [y]) else M.bad else lcGo vs bind tst elt env (ds.drop (i + 1)) acc
        | none => M.bad : M (List D)) st).wp (fun acc' st' => ∀ F' A' H', Ext F2 A2 (wo p H2) F' A' (wo p H') → Rel X.K X.mg B ⟨F', A', g.ow⟩ env st' σ H' → Side X.K X.mg B ⟨F', A', g.ow⟩ env H' p acc' → Post acc' st' ⟨F', A', g.ow⟩ H') (fun _ _ => True) := w
      cases q : bind ds[i] (wipeE env vs) with
      | none => rw [q] at w'; exact w'.elim
      | some env1 =>
        rw [q] at w'
        refine hb B ⟨F3, A2, g.ow⟩ (wipeE env vs) st (wipe σ vs) H3 x ds[i] env1 _ (R3.wipe vs) r3 q fun σ2 e2 R4 => ⟨by rw [e2, wipe_wipe vs vs fun _ m => m], ?_⟩
        have w2 := wp_bind w'
        refine ⟨⟨F3, A2, g.ow⟩, env1, st, R4, ?_⟩
        refine Res.wp_mono (noX_wp (X' := fun _ _ => False) w2) (fun b st4 w3 F4 A4 H4 x4 G4 => ?_) fun _ _ z => z.elim
        have R5 := R3.step x4 G4
        have s5 := s3.ext x4
        have x34 : Ext F2 A2 H2 F4 A4 H4 := x3.trans x4
        have y34 := x34.wo s.f s.there s.a
        cases b with
        | false =>
          rw [if_neg Bool.false_ne_true] at w3
          show (if false = true then _ else _ : Prop)
          rw [if_neg Bool.false_ne_true]
          exact ⟨hlt, F4, A4, acc, st4, xx.trans y34, R5, s5, Res.wp_mono w3 (fun _ _ h F' A' H' y => h F' A' H' (y34.trans y)) fun _ _ h => h⟩
        | true =>
          rw [if_pos rfl] at w3
          show (if true = true then _ else _ : Prop)
          rw [if_pos rfl]
          have w4 := wp_bind w3
          have R4' := R4.step x4 G4
          refine ⟨⟨F4, A4, g.ow⟩, env1, st4, R4', ?_⟩
          refine Res.wp_mono (noX_wp (X' := fun _ _ => False) w4) (fun y st6 w5 F6 A6 H6 x6 G6 v r6 => ?_) fun _ _ z => z.elim
          have R6 := R5.step x6 G6
          have s6 := s5.ext x6
          obtain ⟨ws, e6, r7⟩ := s6.at_
          split at w5
          · rename_i hz
            obtain ⟨R7, s7⟩ := R6.grow s6 (r7.app (.cons r6 .nil))
            have y36 := (x34.trans x6).wo s.f s.there s.a
            refine ⟨ws, e6, by rw [r7.length]; exact hz, hlt, F6, A6, acc ++ [y], st6, by rw [wo_upd]; exact xx.trans y36, R7, s7, Res.wp_mono w5 (fun _ _ h F' A' H' y => h F' A' H' (by rw [wo_upd] at y; exact y36.trans y)) fun _ _ h => h⟩
          · exact w5.elim
    · have e : i = ds.length := by omega
      subst e
      refine .inl ⟨js (Nat.le_refl _), ?_⟩
      rw [List.drop_length] at w
      exact ⟨acc, st, ⟨F2, A2, g.ow⟩, w F2 A2 H2 Ext.refl R s⟩
  refine ⟨fun i m H2 => m = ds.length - i ∧ i ≤ ds.length ∧ ∃ F2 A2 acc st, Ext g.F g.A (wo p H) F2 A2 (wo p H2) ∧ Rel X.K X.mg B ⟨F2, A2, g.ow⟩ env st σ H2 ∧ Side X.K X.mg B ⟨F2, A2, g.ow⟩ env H2 p acc ∧
    (lcGo vs bind tst elt env (ds.drop i) acc st).wp (fun acc' st' => ∀ F' A' H', Ext F2 A2 (wo p H2) F' A' (wo p H') → Rel X.K X.mg B ⟨F', A', g.ow⟩ env st' σ H' → Side X.K X.mg B ⟨F', A', g.ow⟩ env H' p acc' → Post acc' st' ⟨F', A', g.ow⟩ H') (fun _ _ => True),
    ⟨ds.length, by omega, Nat.zero_le _, g.F, g.A, acc, st, Ext.refl, R, s, w⟩, ?_⟩
  rintro i m H2 ⟨rfl, hi, h⟩
  rcases key i H2 hi h with z | ⟨jg, z⟩
  · exact .inl z
  · exact .inr ⟨jg, fun H' => i < ds.length ∧ ∃ F2 A2 acc st, Ext g.F g.A (wo p H) F2 A2 (wo p H') ∧ Rel X.K X.mg B ⟨F2, A2, g.ow⟩ env st σ H' ∧ Side X.K X.mg B ⟨F2, A2, g.ow⟩ env H' p acc ∧
      (lcGo vs bind tst elt env (ds.drop (i + 1)) acc st).wp (fun acc' st' => ∀ F3 A3 H3, Ext F2 A2 (wo p H') F3 A3 (wo p H3) → Rel X.K X.mg B ⟨F3, A3, g.ow⟩ env st' σ H3 → Side X.K X.mg B ⟨F3, A3, g.ow⟩ env H3 p acc' → Post acc' st' ⟨F3, A3, g.ow⟩ H3) (fun _ _ => True),
      fun H' q => ⟨ds.length - (i + 1), by have := q.1; omega, rfl, q.1, q.2⟩, z⟩
theorem lc2_imp {it it1 : Env → M (List D)} {t t1 : TG} {bind bind1 : Bnd} {vs vs1 : List Nat} {tst tst1 : Env → M Bool} {elt : Env → M D} (hb : BndOk X.K X.mg t bind vs) (ho : BndOwn bind) (hb1 : BndOk X.K X.mg t1 bind1 vs1) (ho1 : BndOwn bind1) (σ : L2.St) (H : Hp) (Q : VK)
    (z : rL X.K X.mg B W (mLc2 vs vs1 bind tst it1 bind1 tst1 elt it) σ H Q) :
    tLc2 (rI X.K X.mg B W it) t (rT X.K X.mg B W0 tst) (rI X.K X.mg B W0 it1) t1 (rT X.K X.mg B W0 tst1) (rE X.K X.mg B W0 elt) vs vs1 σ H Q := by
  obtain ⟨g0, env, st0, R0, w0⟩ := z
  refine ⟨g0, env, st0, R0, ?_⟩
  refine Res.wp_mono (wp_bind w0) (fun ds st1 z F1 A1 H1 x1 G1 J hJ p hp => ?_) fun _ _ z => z
  have R1 := R0.step x1 G1
  have z1 := WPc.shift z x1
  have R1' := R1.pushH (o := .lst []) hp
  have s1 : Side X.K X.mg B ⟨F1, A1, g0.ow⟩ env (upd H1 p (.lst [])) p [] := ⟨⟨[], upd_same, .nil⟩, R1.good.fnone hp, fun m => R1.good.there m hp, R1.bnone hp, fun j c e q => by
    obtain ⟨t1, t2, _⟩ := R1.slot j _ e
    obtain ⟨u, hu⟩ := t2.thr
    rw [q, hp] at hu
    cases hu⟩
  have e1 : wo p (upd H1 p (.lst [])) = H1 := by
    rw [wo_upd]
    funext b
    unfold wo
    by_cases q : b = p
    · rw [if_pos q, q, hp]
    · rw [if_neg q]
  -- the invariant
  let St2 : Nat → Hp → Prop := fun i H => ∃ F2 A2 acc st, Ext F1 A1 H1 F2 A2 (wo p H) ∧ Rel X.K X.mg B ⟨F2, A2, g0.ow⟩ env st σ H ∧ Side X.K X.mg B ⟨F2, A2, g0.ow⟩ env H p acc ∧
    (lcGo2 vs vs1 bind tst it1 bind1 tst1 elt env (ds.drop i) acc st).wp (fun b st' => ∀ F' A' H', Ext F1 A1 H1 F' A' H' → Good X.K X.mg F' A' st' H' → ∀ p vs, H' p = none → ∀ H'', H'' = upd H' p (.lst vs) → Reps X.K X.mg F' A' vs b → Q (.ref p) H'') (fun _ _ => True)
  refine ⟨fun i m H => m = ds.length - i ∧ i ≤ ds.length ∧ St2 i H, ⟨ds.length, by omega, Nat.zero_le _, F1, A1, [], st1, by rw [e1]; exact Ext.refl, R1', s1, Res.wp_mono z1 (fun _ _ h => h) fun _ _ _ => trivial⟩, ?_⟩
  rintro i m H2 ⟨rfl, hi, F2, A2, acc, st, xx, R, s, w⟩
  obtain ⟨ji, js⟩ := hJ i F2 A2 st H2 xx.fro xx.cel R.good
  by_cases hlt : i < ds.length
  · refine .inr ?_
    obtain ⟨jg, jy⟩ := ji ds[i] (List.getElem?_eq_getElem hlt)
    refine ⟨jg, fun H3 => St2 (i + 1) H3, fun H3 q => ⟨ds.length - (i + 1), by omega, rfl, hlt, q⟩, fun x H3 y => ?_⟩
    obtain ⟨F3, x3, G3, r3⟩ := jy x H3 y
    rw [List.drop_eq_getElem_cons hlt] at w
    have R3 := R.step x3 G3
    have s3 := s.ext x3
    have w' : ((match bind ds[i] (wipeE env vs) with
      | some env1 => noX (tst env1) >>= fun b => if b then noX (it1 env1) >>= fun es => lcGo vs1 bind1 tst1 elt env1 es acc >>= fun acc' => lcGo2 vs vs1 bind tst it1 bind1 tst1 elt env (ds.drop (i + 1)) acc' else lcGo2 vs vs1 bind tst it1 bind1 tst1 elt env (ds.drop (i + 1)) acc
      | none => M.bad : M (List D)) st).wp (fun b st' => ∀ F' A' H', Ext F1 A1 H1 F' A' H' → Good X.K X.mg F' A' st' H' → ∀ p vs, H' p = none → ∀ H'', H'' = upd H' p (.lst vs) → Reps X.K X.mg F' A' vs b → Q (.ref p) H'') (fun _ _ => True) := w
    cases q : bind ds[i] (wipeE env vs) with
    | none => rw [q] at w'; exact w'.elim
    | some env1 =>
      rw [q] at w'
      refine hb B ⟨F3, A2, g0.ow⟩ (wipeE env vs) st (wipe σ vs) H3 x ds[i] env1 _ (R3.wipe vs) r3 q fun σ2 e2 R4 => ⟨by rw [e2, wipe_wipe vs vs fun _ m => m], ?_⟩
      have w2 := wp_bind w'
      refine ⟨⟨F3, A2, g0.ow⟩, env1, st, R4, ?_⟩
      refine Res.wp_mono (noX_wp (X' := fun _ _ => False) w2) (fun b st4 w3 F4 A4 H4 x4 G4 => ?_) fun _ _ z => z.elim
      have R5 := R3.step x4 G4
      have s5 := s3.ext x4
      have x34 : Ext F2 A2 H2 F4 A4 H4 := x3.trans x4
      have y34 := x34.wo s.f s.there s.a
      cases b with
      | false =>
        rw [if_neg Bool.false_ne_true] at w3
        show (if false = true then _ else _ : Prop)
        rw [if_neg Bool.false_ne_true]
        exact ⟨F4, A4, acc, st4, xx.trans y34, R5, s5, w3⟩
      | true =>
        rw [if_pos rfl] at w3
        show (if true = true then _ else _ : Prop)
        rw [if_pos rfl]
        have w4 := wp_bind w3
        have R4' := R4.step x4 G4
        refine ⟨⟨F4, A4, g0.ow⟩, env1, st4, R4', ?_⟩
        refine Res.wp_mono (noX_wp (X' := fun _ _ => False) w4) (fun es st6 w5 F6 A6 H6 x6 G6 J1 hJ1 => ?_) fun _ _ z => z.elim
        have R6 := R5.step x6 G6
        have s6 := s5.ext x6
        have R6' := R4'.step x6 G6
        have hless : ∀ (j : Nat) c, env1[j]? = some (some (.own c)) → env[j]? = some (some (.own c)) := fun j c h => wipeE_own (ho _ _ _ j c q h)
        have y46 := x6.wo s5.f s5.there s5.a
        obtain ⟨W1, hW0, hW1⟩ := lc_loop (Post := fun acc' st' g' H' => Ext F6 A6 (wo p H6) g'.F g'.A (wo p H') ∧ g'.ow = g0.ow ∧ Rel X.K X.mg B g' env1 st' σ2 H' ∧ Side X.K X.mg B g' env1 H' p acc' ∧
            (lcGo2 vs vs1 bind tst it1 bind1 tst1 elt env (ds.drop (i + 1)) acc' st').wp (fun b st' => ∀ F' A' H', Ext F1 A1 H1 F' A' H' → Good X.K X.mg F' A' st' H' → ∀ p vs, H' p = none → ∀ H'', H'' = upd H' p (.lst vs) → Reps X.K X.mg F' A' vs b → Q (.ref p) H'') (fun _ _ => True))
          hb1 ho1 R6' (s6.less hless) hJ1 (Res.wp_mono (wp_bind w5) (fun acc' st' h F' A' H' y r s => ⟨y, rfl, r, s, h⟩) fun _ _ h => h)
        refine ⟨W1, hW0, fun j k H8 hw => ?_⟩
        rcases hW1 j k H8 hw with ⟨j1, acc', st', g', y, eg, r8, s8, w8⟩ | j2
        · refine .inl ⟨j1, g'.F, g'.A, acc', st', xx.trans (y34.trans (y46.trans y)), ?_, ?_, w8⟩
          · -- the outer frame again
            refine ⟨?_, r8.good, R6.len, fun j sv e => ?_, R6.sep⟩
            · have h1 := R.ext
              -- the entry, by what is outside p
              have xo : Ext F2 A2 (wo p H2) g'.F g'.A (wo p H8) := y34.trans (y46.trans y)
              have hBp : B.H p = none := s.b
              refine ⟨fun b o h => xo.fro b o (h1.fro b o h), fun k a h => xo.cel k a (h1.cel k a h), fun b o n h => ?_, fun b h => ?_, fun b h => ?_, fun b h => ?_⟩
              · have nb : b ≠ p := fun z => by rw [z, hBp] at h; cases h
                have h2 := h1.keep b o n h
                have nA : b ∉ A2 := fun m => (h1.newA b m).elim n fun z => by rw [h] at z; cases z
                have h3 := xo.keep b o nA (by unfold wo; rw [if_neg nb]; exact h2)
                unfold wo at h3
                rw [if_neg nb] at h3
                exact h3
              · have nb : b ≠ p := fun z => h (by rw [z]; exact hBp)
                have h3 := xo.there b (by unfold wo; rw [if_neg nb]; exact h1.there b h)
                unfold wo at h3
                rw [if_neg nb] at h3
                exact h3
              · rcases xo.newF b h with z | z
                · exact h1.newF b z
                · unfold wo at z
                  by_cases nb : b = p
                  · exact .inr (by rw [nb]; exact hBp)
                  · rw [if_neg nb] at z
                    exact .inr (Classical.byContradiction fun q => h1.there b q z)
              · rcases xo.newA b h with z | z
                · exact h1.newA b z
                · unfold wo at z
                  by_cases nb : b = p
                  · exact .inr (by rw [nb]; exact hBp)
                  · rw [if_neg nb] at z
                    exact .inr (Classical.byContradiction fun q => h1.there b q z)
            · have h6 := R6.slot j sv e
              cases sv with
              | fro d =>
                obtain ⟨v, hv, rv⟩ := h6
                exact ⟨v, hv, rv.mono y.fro y.cel⟩
              | own c =>
                obtain ⟨hv, hc, hF, hA, hB⟩ := h6
                obtain ⟨o, ho'⟩ := hc.thr
                have np : g0.ow j ≠ p := s6.ne j c e
                have e8 : ∀ o, H6 (g0.ow j) = some o → H8 (g0.ow j) = some o := fun o z => by
                  have h3 := y.keep (g0.ow j) o hA (by unfold wo; rw [if_neg np]; exact z)
                  unfold wo at h3
                  rw [if_neg np] at h3
                  exact h3
                refine ⟨hv, ?_, ?_, ?_, hB⟩
                · exact hc.mono y.fro y.cel e8
                · refine Classical.byContradiction fun q => ?_
                  rcases y.newF _ q with z | z
                  · exact z hF
                  · unfold wo at z
                    rw [if_neg np, ho'] at z
                    cases z
                · refine fun m => ?_
                  rcases y.newA _ m with z | z
                  · exact hA z
                  · unfold wo at z
                    rw [if_neg np, ho'] at z
                    cases z
          · exact ⟨s8.at_, s8.f, s8.a, s8.b, fun j c e => s6.ne j c e⟩
        · exact .inr j2
  · have e : i = ds.length := by omega
    subst e
    refine .inl ⟨js (Nat.le_refl _), ?_⟩
    rw [List.drop_length] at w
    obtain ⟨ws, e6, r7⟩ := s.at_
    have G' : Good X.K X.mg F2 A2 st (wo p H2) := by
      have sF : F2 p = none := s.f
      have nF : ∀ {b : Addr} {o : HO}, F2 b = some o → b ≠ p := fun {b o} h z => by rw [z, sF] at h; cases h
      unfold wo
      refine ⟨fun b o h => by rw [if_neg (nF h)]; exact R.good.sub b o h, R.good.len, R.good.nd, R.good.off, fun k a c h1 h2 => ?_⟩
      exact (R.good.con k a c h1 h2).mono (fun _ _ z => z) (fun _ _ z => z) fun w z => by
        have na : a ≠ p := fun y => s.a (by rw [← y]; exact List.mem_of_getElem? h1)
        rw [if_neg na]; exact z
    refine w F2 A2 _ xx G' p ws (if_pos rfl) H2 ?_ r7
    funext b
    by_cases q : b = p
    · rw [q, upd_same, e6]
    · rw [upd_ne q]
      unfold wo
      rw [if_neg q]
variable {elt tg iter tg1 iter1 : Expr} {ifs ifs1 : List Expr} {scope : Scope} {own : List (Str × Nat)} {vs1 : List Nat} {pos spos : Pos} {it it1 : Env → M (List D)} {t t1 : TG} {bind bind1 : Bnd} {tst tst1 : Env → M Bool} {el : Env → M D}
theorem qs_setLc2 {i : Nat} {y : Str} {py : Pos} (hc : X.calm = true) (hN : X.N.Nodup) (hy : X.N[i]? = some y) (hyl : X.env.scope.names.lookup y = some .local)
    (hsw : swapsWith (.ListComp elt [⟨tg, iter, ifs, 0⟩, ⟨tg1, iter1, ifs1, 0⟩] scope pos) (some (.Name y py)) spos.line X.env = pure true) (hi : PI X tg iter (rI X.K X.mg B W it)) (ok : BlkOk X.N X.env.scope scope own) (hv : ∀ i ∈ vs1, i ∈ own.map (·.2))
    (hb : BndOk X.K X.mg t bind (own.map (·.2))) (ho : BndOwn bind) (hb1 : BndOk X.K X.mg t1 bind1 vs1) (ho1 : BndOwn bind1)
    (hg : ∀ (s : Shared) (H : Hp) (C : Addr) (cl : List (Str × Addr)) (fp : List Addr), PG (X.blk s H scope (compEnvC scope cl C X.env) fp) tg t) (ht : ∀ (s : Shared) (H : Hp) (C : Addr) (cl : List (Str × Addr)) (fp : List Addr), PTs (X.blk s H scope (compEnvC scope cl C X.env) fp) ifs (rT X.K X.mg B W0 tst))
    (hi1 : ∀ (s : Shared) (H : Hp) (C : Addr) (cl : List (Str × Addr)) (fp : List Addr), PI (X.blk s H scope (compEnvC scope cl C X.env) fp) tg1 iter1 (rI X.K X.mg B W0 it1))
    (hg1 : ∀ (s : Shared) (H : Hp) (C : Addr) (cl : List (Str × Addr)) (fp : List Addr), PG (X.blk s H scope (compEnvC scope cl C X.env) fp) tg1 t1) (ht1 : ∀ (s : Shared) (H : Hp) (C : Addr) (cl : List (Str × Addr)) (fp : List Addr), PTs (X.blk s H scope (compEnvC scope cl C X.env) fp) ifs1 (rT X.K X.mg B W0 tst1))
    (he : ∀ (s : Shared) (H : Hp) (C : Addr) (cl : List (Str × Addr)) (fp : List Addr), PE (X.blk s H scope (compEnvC scope cl C X.env) fp) elt (rE X.K X.mg B W0 el)) (hs : ∀ x, foldedSetIterable iter X.env x = pure x := by intro _; rfl) (hs1 : ∀ env x, foldedSetIterable iter1 env x = pure x := by intro _ _; rfl) :
    PS X (.Assign [.Name y py] (.ListComp elt [⟨tg, iter, ifs, 0⟩, ⟨tg1, iter1, ifs1, 0⟩] scope pos) spos) (rS X.K X.mg B W (sSet i (lstF (mLc2 (own.map (·.2)) vs1 bind tst it1 bind1 tst1 el it)))) :=
  (ps_setLc2 hc hN hy hyl hsw hi ok hv hg ht hi1 hg1 ht1 he hs hs1).imp fun E σ H z => lc2_imp hb ho hb1 ho1 σ H _ (own_frz E σ H z)
end
end PL
set_option Elab.async false
set_option linter.all false
set_option maxRecDepth 100000
set_option maxHeartbeats 4000000
namespace PL
open PySem PySem.Spec PyProof.Rows L2
def tyOf : D → Option String
  | .non => some "NoneType"
  | .bl _ => some "bool"
  | .int _ => some "int"
  | .str _ => some "str"
  | .tup _ => some "tuple"
  | .lst _ => some "list"
  | .fix _ => some "list"
  | .dct _ => some "dict"
  | _ => none
def clOf (d : D) (st : Sta) : Option Str := match d with
  | .obj c _ => some c
  | .cell k => (match st[k]? with
    | some (.obj c _) => some c
    | _ => none)
  | _ => none
def isiT (T : String) (cs : List Str) (d : D) (st : Sta) : Option D := match tyOf d with
  | some t => (kitB t T).map .bl
  | none => (match clOf d st with
    | some c => if cs.contains c then some (.bl false) else none
    | none => none)
def isiC (C : Str) (cs : List Str) (d : D) (st : Sta) : Option D := match tyOf d with
  | some _ => some (.bl false)
  | none => (match clOf d st with
    | some c => if cs.contains c then some (.bl (c == C)) else none
    | none => none)
def TyP (K : PySem.W.Frag) (H : Hp) (x : V) (t : Value) : Prop := TyX K H x t ∨ ∃ a o l, x = .ref a ∧ H a = some (DO a o l) ∧ t = .type "dict"
theorem kit_ofP {X : Cx} {pins : List (Addr × Obj)} {σ : L2.St} {H : Hp} {s : Shared} {x : V} {u t : Value} (I : Inv X pins σ H s) (rx : RelV x u) (ty : TyP X.K H x t) : ∃ P : Heap → Prop, PySem.W.KitX X.K u t P ∧ P s.heap ∧ u ≠ .builtin "__main__.__loader__#opaque" := by
  rcases ty with ty | ⟨a, o, l, rfl, ea, rfl⟩
  · exact kit_of I rx ty
  · cases (show u = Value.ref a from rx)
    obtain ⟨⟨h1, h2, _⟩, _⟩ := (show ObjOk X.prog X.w H s.heap a (DO a o l) from I.hok a _ ea)
    exact ⟨_, PySem.W.kitx_dict, ⟨o, h1, h2.1⟩, fun z => nomatch z⟩
def rIsiP (K : PySem.W.Frag) : List V → Hp → VK → Prop := fun xs H Q => ∃ (x c : V) (t u : Value) (b : Bool), xs = [x, c] ∧ ClsV c u ∧ TyP K H x t ∧ PySem.W.kitOne K t u = some b ∧ Q (.bl b) H
theorem call_isiP {X : Cx} : CallR X (.builtin "isinstance") (rIsiP X.K) := by
  intro pins s σ H xs us Q I r h
  obtain ⟨x, c, t, u, b, rfl, k, ty, e, q⟩ := h
  obtain ⟨u1, u2, rfl, r1, r2⟩ := vals2 r
  have e2 := k.eq r2
  subst e2
  obtain ⟨P, Z, p, hx⟩ := kit_ofP I r1 ty
  exact PySem.W.kia_one Z I.kIn p e hx fun tk => ⟨.bl b, H, I.tok tk, rfl, q⟩
section
variable {K : PySem.W.Frag} {mg : Str → Option Value} {F : Hp} {A : List Addr} {st : Sta} {H : Hp} {v : V} {d : D}
theorem tyOf_rep {t : String} (G : Good K mg F A st H) (r : Rep K mg F A v d) (h : tyOf d = some t) : TyP K H v (.type t) := by
  suffices (∃ l, d = .dct l) ∨ TyX K H v (.type t) from by
    rcases this with ⟨l, rfl⟩ | z
    · cases r with
      | @dct a o2 l2 _ e _ =>
        cases h
        exact .inr ⟨a, o2, l2, rfl, G.sub _ _ e, rfl⟩
    · exact .inl z
  by_cases hd : ∃ l, d = .dct l
  · exact .inl hd
  right
  cases r with
  | non => cases h; exact .base .non
  | bl b => cases h; exact .base (.bl b)
  | int i => cases h; exact .base (.int i)
  | str x => cases h; exact .base (.str x)
  | tup s _ =>
    cases h
    rcases SqT.mono s G.sub with (e | ⟨o, e⟩) | ⟨o, its, n, e, h1, h2, h3⟩
    · exact .base (.tup e)
    · exact .fTuple e
    · exact .kTuple e (by first | assumption | (simp_all))
  | lst e _ => cases h; exact .base (.lst (G.sub _ _ e))
  | fix s _ =>
    cases h
    rcases SqL.mono s G.sub with (e | ⟨o, e⟩) | ⟨o, its, n, e, h1, h2, h3⟩
    · exact .base (.lst e)
    · exact .base (.frz e)
    · exact .kList e (by first | assumption | (simp_all))
  | dct e _ => exact absurd ⟨_, rfl⟩ hd
  | obj _ _ _ => cases h
  | cell _ => cases h
  | fn _ => cases h
theorem tyOf_in {t : String} (h : tyOf d = some t) : t ∈ tyNames := by
  cases d <;> cases h <;> decide
theorem clOf_rep {c : Str} {cs : List Str} (I : IsK K mg cs) (G : Good K mg F A st H) (r : Rep K mg F A v d) (h : clOf d st = some c) (hc : c ∈ cs) : ∃ C, mg c = some (.ref C) ∧ TyX K H v (.ref C) := by
  cases r with
  | obj g e _ =>
    cases h
    obtain ⟨h1, h2, h3⟩ := I.cls _ hc _ g
    exact ⟨_, g, .base (.ins (G.sub _ _ e) h1 h2 I.hn I.htk h3)⟩
  | @cell a k e =>
    unfold clOf at h
    cases q : st[k]? with
    | none => simp only [q] at h; cases h
    | some z =>
      simp only [q] at h
      cases z with
      | obj c' fs =>
        cases h
        obtain ⟨C, dx, l, g, eh, _⟩ := G.con k a _ e q
        obtain ⟨h1, h2, h3⟩ := I.cls _ hc _ g
        exact ⟨_, g, .base (.ins eh h1 h2 I.hn I.htk h3)⟩
      | lst l => cases h
      | dct l => cases h
  | _ => cases h
end
section
variable {X : Cx} {B : Bs} {W : WX} {e : Expr} {f : Env → M D} {p p2 pos : Pos} {cs : List Str}
theorem isi_imp {y : V} {u : Value} {ty : TE} {o : D → Sta → Option D} (hy : ∀ σ H Q, Q y H → ty σ H Q) (cv : ClsV y u)
    (ho : ∀ F A H st v d z, Good X.K X.mg F A st H → Rep X.K X.mg F A v d → o d st = some z → ∃ t b, TyP X.K H v t ∧ PySem.W.kitOne X.K t u = some b ∧ z = .bl b) (σ : L2.St) (H : Hp) (Q : VK) (z : rE X.K X.mg B W (op1 o f) σ H Q) :
    tCB (rIsiP X.K) (tCons (rE X.K X.mg B W f) (tCons ty tNil)) σ H Q := by
  obtain ⟨g, env, st, R, w⟩ := z
  refine seqE R w fun d st1 F1 A1 H1 v R1 x1 r1 w1 => ?_
  obtain ⟨zz, ez, w2⟩ := WPc.rd w1
  obtain ⟨t, b, h1, h2, rfl⟩ := ho _ _ _ _ _ _ _ R1.good r1 ez
  exact hy σ H1 _ ⟨v, y, t, u, b, rfl, cv, h1, h2, w2 _ _ _ Ext.refl R1.good _ (.bl b)⟩
theorem pp_isiT {T : String} {x : Str} (I : IsK X.K X.mg cs) (hT : T ∈ ["tuple", "int", "bool"]) (hg : Gl X "isinstance") (hm : X.mg "isinstance" = none) (hgx : Gl X x) (hmx : X.mg x = none) (hv : bootBuiltins x = some (.type T)) (he : PE X e (rE X.K X.mg B W f)) (hb : bootBuiltins "isinstance" = some (.builtin "isinstance") := by rfl)
    (hn : x ≠ "__name__" := by decide) (hd : (x == ("__debug__" : Str)) = false := by decide)
    (hs1 : starEach [e, .Name x p2] X.env = (false, eval e X.env) :: starEach [.Name x p2] X.env := by rfl) (hs2 : starEach [.Name x p2] X.env = (false, eval (.Name x p2) X.env) :: starEach [] X.env := by rfl) (hpl : (backTo pos (starEach [.Name x p2] X.env)).any (·.1) = false := by rfl) :
    PE X (.Call (.Name "isinstance" p) [e, .Name x p2] [] pos) (rE X.K X.mg B W (op1 (isiT T cs) f)) := by
  have hx : PE X (.Name x p2) (tC (.ty T)) := ⟨fun pins s σ H Q J h => ld_blt J hgx hmx hv ⟨.ty T, H, J, rfl, h⟩ hn hd⟩
  refine (pe_callB call_isiP hg hm hb (pa_cons he (pa_cons hx pa_nil hs2) hs1) (he := hs1) (hpl := hpl)).imp fun σ H Q z => isi_imp (fun σ H Q q => q) (.ty T) (fun F A H st v d z G r ez => ?_) σ H Q z
  unfold isiT at ez
  cases q : tyOf d with
  | some t =>
    rw [q] at ez
    obtain ⟨b, hb', rfl⟩ := Option.map_eq_some_iff.mp ez
    exact ⟨_, b, tyOf_rep G r q, kit_ty hb', rfl⟩
  | none =>
    rw [q] at ez
    cases q2 : clOf d st with
    | none => simp only [q2] at ez; cases ez
    | some c =>
      simp only [q2] at ez
      split at ez
      · rename_i hc
        cases ez
        obtain ⟨C, g, ht⟩ := clOf_rep I G r q2 (List.contains_iff_mem.mp hc)
        exact ⟨_, false, .inl ht, I.ty _ (List.contains_iff_mem.mp hc) _ g T hT, rfl⟩
      · cases ez
theorem pp_isiC {c : Str} {C : Addr} (I : IsK X.K X.mg cs) (hcs : c ∈ cs) (hg : Gl X "isinstance") (hm : X.mg "isinstance" = none) (hgx : Gl X c) (hmx : X.mg c = some (.ref C)) (he : PE X e (rE X.K X.mg B W f)) (hb : bootBuiltins "isinstance" = some (.builtin "isinstance") := by rfl)
    (hd : (c == ("__debug__" : Str)) = false := by decide)
    (hs1 : starEach [e, .Name c p2] X.env = (false, eval e X.env) :: starEach [.Name c p2] X.env := by rfl) (hs2 : starEach [.Name c p2] X.env = (false, eval (.Name c p2) X.env) :: starEach [] X.env := by rfl) (hpl : (backTo pos (starEach [.Name c p2] X.env)).any (·.1) = false := by rfl) :
    PE X (.Call (.Name "isinstance" p) [e, .Name c p2] [] pos) (rE X.K X.mg B W (op1 (isiC c cs) f)) := by
  have hx : PE X (.Name c p2) (tC (.ref C)) := ⟨fun pins s σ H Q J h => ld_glob J hgx hmx ⟨.ref C, H, J, rfl, h⟩ hd⟩
  refine (pe_callB call_isiP hg hm hb (pa_cons he (pa_cons hx pa_nil hs2) hs1) (he := hs1) (hpl := hpl)).imp fun σ H Q z => isi_imp (fun σ H Q q => q) (.own C) (fun F A H st v d z G r ez => ?_) σ H Q z
  unfold isiC at ez
  cases q : tyOf d with
  | some t =>
    rw [q] at ez
    cases ez
    exact ⟨_, false, tyOf_rep G r q, I.yt c hcs C hmx t (tyOf_in q), rfl⟩
  | none =>
    rw [q] at ez
    cases q2 : clOf d st with
    | none => simp only [q2] at ez; cases ez
    | some c' =>
      simp only [q2] at ez
      split at ez
      · rename_i hc
        cases ez
        obtain ⟨C', g, ht⟩ := clOf_rep I G r q2 (List.contains_iff_mem.mp hc)
        exact ⟨_, _, .inl ht, I.cc _ (List.contains_iff_mem.mp hc) _ g _ hcs _ hmx, rfl⟩
      · cases ez
end
end PL
set_option Elab.async false
set_option linter.all false
set_option maxRecDepth 100000
set_option maxHeartbeats 4000000
namespace PL
open PySem PySem.Spec PyProof.Rows L2
def ba {a b : Bool} (h : (a && b) = true) : a = true ∧ b = true := Bool.and_eq_true_iff.mp h
theorem eqO_ok {a b : Option (Option Value)} (h : eqO a b = true) : a = b := of_decide_eq_true h
def fdOf (K : Fr) (a : Addr) : FuncData := match K.lookup a with
  | some ⟨_, _, .func fd, _⟩ => fd
  | _ => default
abbrev FnD' (K : Fr) (d : DefP) : Prop := FunD K d.name d.qual d.params d.body d.scope [] [] (d.at_ K) (fdOf K (d.at_ K))
theorem DefP.funD {K : Fr} {d : DefP} (e : fnP K (d.at_ K) = d.val) (c : d.ok K = true) : FnD' K d := by
  obtain ⟨kp, c2⟩ := ba c
  unfold fnP at e
  unfold FnD' fdOf
  cases q : K.lookup (d.at_ K) with
  | none =>
    rw [q] at c2
    cases c2
  | some o =>
    obtain ⟨oc, od, dt, osl⟩ := o
    rw [q] at c2 e
    cases dt with
    | func fd =>
      obtain ⟨n1, n2, n3, n4, n5, n6, n7, n8, n9, n10, n11, n12, n13, n14, n15⟩ := fd
      have e2 : (some (n1, n2, n3, n4, n5, n6, n7, n15) : He.FnW) = some (d.name, d.qual, d.params, .stmts d.body, d.scope, mainGlobals, [], builtinsNs) := e
      simp only [Option.some.injEq, Prod.mk.injEq] at e2
      obtain ⟨h1, h2, h3, h4, h5, h6, h7, h8⟩ := e2
      subst h1 h2 h3 h4 h5 h6 h7 h8
      have c3 : (PySem.W.codeIn K n13 d.qual && (He.dflB K n8 [] && He.kwdB K n9 [])) = true := c2
      obtain ⟨k1, k2⟩ := ba c3
      obtain ⟨k3, k4⟩ := ba k2
      exact ⟨⟨oc, od, n8, n9, n10, n11, n12, n13, n14, osl, rfl, q, k1, He.dflB_ok k3, He.kwdB_ok k4⟩, kp⟩
    | _ => cases c2
section
variable {fa : List Fa} {fn : List DefP} {K : Fr} {mg : Str → Option Value}
theorem Txt.fact (S : Txt fa fn K mg) (i : Nat) {f : Fa} (h : fa[i]? = some f := by rfl) : f K = true := by
  have c1 := (ba (show ((fa.all fun f => f K) && fn.all fun d => d.ok K) = true from congrArg (fun z : AlP => z.1) S.c)).1
  exact List.all_eq_true.mp c1 f (List.mem_of_getElem? h)
theorem Txt.def_ (S : Txt fa fn K mg) (i : Nat) {d : DefP} (h : fn[i]? = some d := by rfl) : FnD' K d := by
  have c2 := (ba (show ((fa.all fun f => f K) && fn.all fun d => d.ok K) = true from congrArg (fun z : AlP => z.1) S.c)).2
  have e : fn.map (fun d => fnP K (d.at_ K)) = fn.map DefP.val := congrArg (fun z : AlP => z.2) S.c
  have e2 : (fn.map fun d => fnP K (d.at_ K))[i]? = (fn.map DefP.val)[i]? := by rw [e]
  rw [List.getElem?_map, List.getElem?_map, h] at e2
  exact DefP.funD (Option.some.inj e2) (List.all_eq_true.mp c2 d (List.mem_of_getElem? h))
theorem glo_ok {xs : List Str} (S : Txt fa fn K mg) (c : fGlo xs K = true) (x : Str) (h : x ∈ xs := by decide) : mg x = some (.ref (ga x K)) := by
  obtain ⟨hp, X, G⟩ := S.at_
  exact PySem.W.mg_of X G (eqO_ok (List.all_eq_true.mp c x h))
theorem free_ok {xs : List Str} (S : Txt fa fn K mg) (c : fFree xs K = true) (x : Str) (h : x ∈ xs := by decide) : mg x = none := by
  obtain ⟨hp, X, G⟩ := S.at_
  exact PySem.W.mg_none_of X G (eqO_ok (List.all_eq_true.mp c x h))
theorem int_ok {x : Str} {i : Int} (S : Txt fa fn K mg) (c : fInt x i K = true) : ∃ t, mg x = some (.int i t) := by
  obtain ⟨hp, X, G⟩ := S.at_
  exact He.int_ok X G c
theorem cls_cls {C : Str} {fs : List Str} (c : fCls C fs K = true) : Cls K (ga C K) := He.cls_ok (ba c).1
theorem cls_mk {C : Str} {fs : List Str} (c : fCls C fs K = true) : Mk K (ga C K) (ma C "__init__" K) := He.mkr_ok (ba (ba c).2).1
theorem cls_no {C : Str} {fs : List Str} (c : fCls C fs K = true) (f : Str) (h : f ∈ fs := by decide) : NoAttr K (ga C K) f := eqO_ok (List.all_eq_true.mp (ba (ba c).2).2 f h)
theorem meth_ok {C m : Str} (c : fMeth C m K = true) : Meth K (ga C K) m (ma C m K) := He.meth_ok c
theorem is_ok {cs : List Str} (S : Txt fa fn K mg) (c : fIs cs K = true) : IsK K mg cs := by
  obtain ⟨hp, X, G⟩ := S.at_
  obtain ⟨c1, c⟩ := ba c
  obtain ⟨c2, c⟩ := ba c
  have mgC : ∀ {x : Str} {C : Addr}, x ∈ cs → mg x = some (.ref C) → C = ga x K := fun {x C} hx hm => by
    have h := List.all_eq_true.mp c x hx
    have := PySem.W.mg_of X G (eqO_ok (ba h).1)
    rw [hm] at this
    cases this
    rfl
  refine ⟨eqO_ok c1, of_decide_eq_true c2, fun x hx C hm => ?_, fun x hx C hm T hT => ?_, fun x hx C hm T hT => ?_, fun x hx C hm y hy C' hm' => ?_⟩
  all_goals
    have h := List.all_eq_true.mp c x hx
    have eC := mgC hx hm
    subst eC
    obtain ⟨a1, h⟩ := ba h
    obtain ⟨a2, h⟩ := ba h
    obtain ⟨a3, h⟩ := ba h
    obtain ⟨a4, h⟩ := ba h
    obtain ⟨a5, h⟩ := ba h
    obtain ⟨a6, a7⟩ := ba h
  · exact ⟨He.cls_ok a2, eqO_ok a3, of_decide_eq_true a4⟩
  · exact of_decide_eq_true (List.all_eq_true.mp a5 T hT)
  · exact of_decide_eq_true (List.all_eq_true.mp a6 T hT)
  · have eC := mgC hy hm'
    subst eC
    exact of_decide_eq_true (List.all_eq_true.mp a7 y hy)
theorem oexB_ok {C : Addr} (c : oexB K C = true) : OexC K C := by
  obtain ⟨c1, c⟩ := ba c
  obtain ⟨c2, c⟩ := ba c
  obtain ⟨c3, c⟩ := ba c
  obtain ⟨c4, c5⟩ := ba c
  refine ⟨?_, eqO_ok c2, of_decide_eq_true c3, of_decide_eq_true c4, c5⟩
  split at c1
  · rename_i dd cd sl ho
    split at c1
    · rename_i C' bm k0 k1 k2 k3 n k5 hm hs
      simp only [Bool.and_eq_true, beq_iff_eq, Bool.not_eq_true'] at c1
      obtain ⟨e1, e2, e3, e4, e5⟩ := c1
      subst e1 e2
      obtain ⟨sl⟩ := sl
      simp only at hs
      subst hs
      obtain ⟨nm, bs, mro, ns, qn, hd, sn, sb, ab, col, hdel⟩ := cd
      simp only at hm e3 e4
      subst hm e3 e4
      exact ⟨nm, qn, ns, bs, bm, sn, sb, ab, col, dd, k0, k1, k2, k3, k5, ho, e5⟩
    · cases c1
  · cases c1
theorem exc_oex {C : Str} {fs : List Str} (c : fExc C fs K = true) : OexC K (ga C K) := oexB_ok (ba c).1
theorem exc_in {C : Str} {fs : List Str} (c : fExc C fs K = true) : PySem.W.findIn K (.ref (ga C K)) "__init__" = some (some (.ref (ma C "__init__" K))) := eqO_ok (ba (ba c).2).1
theorem exc_ty {C : Str} {fs : List Str} (c : fExc C fs K = true) : PySem.W.typeIn K (.ref (ma C "__init__" K)) = some (.type "function") := of_decide_eq_true (ba (ba (ba c).2).2).1
theorem exc_no {C : Str} {fs : List Str} (c : fExc C fs K = true) (f : Str) (h : f ∈ fs := by decide) : PySem.W.findIn K (.ref (ga C K)) f = some none := eqO_ok (List.all_eq_true.mp (ba (ba (ba (ba c).2).2).2).1 f h)
theorem exm_ok {top : Str} {errs cs : List Str} (S : Txt fa fn K mg) (c : fExm top errs cs K = true) (x : Str) (h : x ∈ cs := by decide) : ExM K mg top errs x (.ref (ga x K)) := by
  intro c' hc' C' hm
  obtain ⟨hp, X, G⟩ := S.at_
  obtain ⟨a1, a2⟩ := ba (List.all_eq_true.mp c c' hc')
  have := PySem.W.mg_of X G (eqO_ok a1)
  rw [hm] at this
  cases this
  exact of_decide_eq_true (List.all_eq_true.mp a2 x h)
theorem top_ok {C : Str} (c : fTop C K = true) : OwnI K (ga C K) (.type "type") := by
  obtain ⟨c1, c⟩ := ba c
  obtain ⟨c2, c3⟩ := ba c
  refine ⟨eqO_ok c1, c2, ?_⟩
  split at c3
  · rename_i n q
    rw [q, of_decide_eq_true c3]
  · cases c3
end
def blkB (N : List Str) (sc scope : Scope) (own : List (Str × Nat)) : Bool := decide (scope.kind = .function) && ((scope.names.all fun y => decide (scope.names.lookup y.1 = some y.2)) && ((own.all fun p => decide (N[p.2]? = some p.1)) &&
  ((scope.names.all fun y => if y.2 = .free then decide (sc.names.lookup y.1 = some .cell ∨ sc.names.lookup y.1 = some .free) else true) && (scope.names.all fun y => if y.2 = .local ∨ y.2 = .cell then decide (y.1 ∈ own.map (·.1) ∨ y.1 ∉ N) else true))))
theorem blkB_ok {N : List Str} {sc scope : Scope} {own : List (Str × Nat)} (c : blkB N sc scope own = true) : BlkOk N sc scope own := by
  obtain ⟨c1, c⟩ := ba c
  obtain ⟨c2, c⟩ := ba c
  obtain ⟨c3, c⟩ := ba c
  obtain ⟨c4, c5⟩ := ba c
  refine ⟨of_decide_eq_true c1, fun y hy => of_decide_eq_true (List.all_eq_true.mp c2 y hy), fun p hp => of_decide_eq_true (List.all_eq_true.mp c3 p hp), fun y hy e => ?_, fun y hy e => ?_⟩
  · have h := List.all_eq_true.mp c4 y hy
    rw [if_pos e] at h
    exact of_decide_eq_true h
  · have h := List.all_eq_true.mp c5 y hy
    rw [if_pos e] at h
    exact of_decide_eq_true h
end PL
set_option Elab.async false
set_option linter.all false
set_option maxRecDepth 100000
set_option maxHeartbeats 4000000
namespace PL
open PySem PySem.Spec PyProof.Rows L2
section
variable {X : Cx} {B : Bs} {W : WX} {pos : Pos}
end
theorem hu65 {k : Nat} {A : Around} (r : Room k A) : A.units + 65 < cLine := by have := r.un; omega
def CS : List Str := ["Table", "Ledger", "Unread", "Board"]
def ERRS : List Str := ["BadGroup", "BadGroups", "BadTable", "BadWay", "BadWhole", "BadNumber", "TooMany", "NoTries", "BadWeights", "BadEntries", "BadLedger", "BadMarks", "BadUnread", "Alone", "Full", "InvalidText"]
section
variable {fa : List Fa} {fn : List DefP} {K : Fr} {mg : Str → Option Value}
theorem is_all {cs ab : List Str} (S : Txt fa fn K mg) (c : fIs cs K = true) (z : fFree ab K = true) (h : ∀ x ∈ CS, x ∈ cs ∨ x ∈ ab) : IsK K mg CS := by
  have I := is_ok S c
  have no : ∀ {x : Str} {C : Addr}, x ∈ CS → mg x = some (.ref C) → x ∈ cs := fun {x C} hx hm => (h x hx).elim id fun q => by
    have := free_ok S z x q
    rw [hm] at this
    cases this
  exact ⟨I.hn, I.htk, fun x hx C hm => I.cls x (no hx hm) C hm, fun x hx C hm => I.ty x (no hx hm) C hm, fun x hx C hm => I.yt x (no hx hm) C hm, fun x hx C hm y hy C' hm' => I.cc x (no hx hm) C hm y (no hy hm') C' hm'⟩
theorem exm_all {errs cs ab : List Str} (S : Txt fa fn K mg) (c : fExm "AboutError" errs cs K = true) (z : fFree ab K = true) (h : ∀ x ∈ ERRS, x ∈ errs ∨ x ∈ ab) (x : Str) (hx : x ∈ cs := by decide) : ExM K mg "AboutError" ERRS x (.ref (ga x K)) := by
  intro c' hc' C' hm
  refine exm_ok S c x hx c' ?_ C' hm
  exact (h c' hc').elim id fun q => by
    have := free_ok S z c' q
    rw [hm] at this
    cases this
end
theorem bt_len : bootBuiltins "len" = some (.builtin "len") := by decide +kernel
theorem bt_sum : bootBuiltins "sum" = some (.builtin "sum") := by decide +kernel
theorem bt_all : bootBuiltins "all" = some (.builtin "all") := by decide +kernel
theorem bt_max : bootBuiltins "max" = some (.builtin "max") := by decide +kernel
theorem bt_min : bootBuiltins "min" = some (.builtin "min") := by decide +kernel
theorem bt_tuple : bootBuiltins "tuple" = some (.type "tuple") := by decide +kernel
theorem bt_int : bootBuiltins "int" = some (.type "int") := by decide +kernel
theorem bt_bool : bootBuiltins "bool" = some (.type "bool") := by decide +kernel
end PL
set_option Elab.async false
set_option linter.all false
set_option maxRecDepth 100000
set_option maxHeartbeats 4000000
namespace PL
open PySem PySem.Spec PyProof.Rows L2
def spLaw (K : Fr) : Sp := fun vs H Q _ => ∃ (a : Addr) (ns : List Int), vs = [.ref a] ∧ ns.length ≤ 63 ∧ SqL K H a (ns.map V.int) ∧ ∀ H', Q (.bl true) H'
theorem reps_ints {K : Fr} {mg : Str → Option Value} {F : Hp} {A : List Addr} : ∀ ns : List Int, Reps K mg F A (ns.map V.int) (ns.map D.int)
  | [] => .nil
  | n :: ns => .cons (.int n) (reps_ints ns)
theorem law_fn {P : Program} {w : World} {K : Fr} {mg : Str → Option Value} {base : Heap} {k : Nat} {f : Addr} {fd : FuncData} {ps : List Str} {m : List D → M D} (F : FnOk P w K mg base (L2.CX P w) k f fd ps (spF K mg 1 m)) (hp : ps.length = 1)
    (law : ∀ ns : List Int, ns.length ≤ 63 → ∃ st, m [.fix (ns.map .int)] [] = .ok (.bl true) st) : FnOk P w K mg base CX0 k f fd ps (spLaw K) := by
  refine ⟨fun vs H Q E h => ?_, fun A outer s H args us vs Q E hr he hb hv h => ?_⟩
  · obtain ⟨a, ns, rfl, _⟩ := h
    rw [hp]
    rfl
  · obtain ⟨a, ns, rfl, hl, hS, q⟩ := h
    obtain ⟨st, e⟩ := law ns hl
    have hs : spF K mg 1 m [.ref a] H (fun v H' => Q v H') (fun _ _ _ => False) := by
      refine ⟨H, [], [], [.fix (ns.map .int)], ⟨fun _ _ z => z, rfl, List.nodup_nil, fun _ z => (by cases z), fun k a c z => (by cases z)⟩, .cons (.fix hS (reps_ints ns)) .nil, rfl, ?_⟩
      rw [e]
      intro F' A' H' v _ _ r
      cases r
      exact q H'
    refine codeAny_mono (F.run A outer s H args us [.ref a] _ _ hr he hb hv hs) fun r s' z => ?_
    cases r with
    | error er =>
      obtain ⟨_, _, _, _, _, _, _, _, _, _, _, _, y⟩ := z
      exact y.elim
    | ok fl =>
      cases fl with
      | ret u => exact z
      | next => exact z
      | brk => exact z
      | cont => exact z
theorem law_end {fa : List Fa} {fn : List DefP} {d : DefP} {P : Program} {w : World} {K : Fr} {h : Heap} {mg : Str → Option Value} {f : Addr} {k i : Nat} {m : List D → M D} {x : Str} (X : K.In h) (G : h.Ns mainGlobals mg) (c : SaysP fa fn K) (hfa : mg ("law" : Str) = some (.ref f))
    (hg : Txt fa fn K mg → mg ("law" : Str) = some (.ref (ga "law" K))) (hd : Txt fa fn K mg → ∀ (s : Shared) (us : List Value), us.length = ([x] : List Str).length → BindsTo s (fdOf K (ga "law" K)) ⟨us, []⟩ (([x] : List Str).zip us))
    (ok : Txt fa fn K mg → ∀ base, FnOk P w K mg base (L2.CX P w) k (ga "law" K) (fdOf K (ga "law" K)) [x] (spF K mg 1 m)) (law : ∀ ns : List Int, ns.length ≤ 63 → ∃ st, m [.fix (ns.map .int)] [] = .ok (.bl true) st) :
    ∃ (K : Fr) (fd : FuncData) (sp : Sp), K.In h ∧ (∀ (s : Shared) (u : Value), BindsTo s fd ⟨[u], []⟩ [(x, u)]) ∧
      (∀ (H : Hp) (a : Addr) (ns : List Int), ns.length ≤ 63 → Only H → SqL K H a (ns.map V.int) → sp [.ref a] H (fun v _ => v = .bl true) fun _ _ _ => False) ∧
      ∀ base : Heap, K.In base → base.Ns mainGlobals mg → FnOk P w K mg base CX0 k f fd [x] sp := by
  have S : Txt fa fn K mg := ⟨⟨h, X, G⟩, c⟩
  have e := hfa.symm.trans (hg S)
  cases e
  exact ⟨K, _, spLaw K, X, fun s u => hd S s [u] rfl, fun H a ns hl _ hS => ⟨a, ns, rfl, hl, hS, fun _ => rfl⟩, fun base _ _ => law_fn (ok S base) rfl law⟩
def sCell (i : Nat) (fs : Env → M (List D)) : SD := sE fs fun ds env st => .nx (env.set i (some (.fro (.cell st.length)))) (st ++ [.lst ds])
section
variable {X : Cx} {B : Bs} {W : WX} {e : Expr} {pos : Pos}
theorem qs_cell {i : Nat} {x : Str} {pos' : Pos} {fs : Env → M (List D)} (hN : X.N.Nodup) (hi : X.N[i]? = some x) (hx : Loc X.env.scope x) (he : PE X e (rL X.K X.mg B W fs)) (hs : swapsWith e (some (.Name x pos')) pos.line X.env = pure false := by rfl) (hf : X.fn x = true ∨ X.env.scope.names.lookup x = some .local := by first | exact .inl rfl | exact .inr rfl | assumption) :
    PS X (.Assign [.Name x pos'] e pos) (rS X.K X.mg B W (sCell i fs)) := by
  refine (ps_set hN hi hx he hs hf).imp fun E σ H ⟨g, env, st, R, w⟩ => ⟨g, env, st, R, ?_⟩
  refine Res.wp_mono (sE_wp w R) (fun ds st1 z F1 A1 H1 x G p vs hp H'' e r => ?_) fun _ _ z => z
  rw [e]
  have R1 := R.step x G
  obtain ⟨x2, G2⟩ := Ext.cellNew (o := .lst vs) (c := .lst ds) R1.good hp ⟨vs, upd_same, r.mono (fun _ _ z => z) fun k a z => by rw [List.getElem?_append_left (List.getElem?_eq_some_iff.mp z).1]; exact z⟩
  have R2 := R1.step x2 G2
  have hc : Rep X.K X.mg F1 (A1 ++ [p]) (.ref p) (.cell st1.length) := .cell (by
    have hl : A1.length = st1.length := G.len
    rw [← hl]
    simp)
  exact z ⟨F1, A1 ++ [p], g.ow⟩ _ _ (GExt.of (x.trans x2)) (R2.setFro (i := i) hc)
end
end PL
set_option Elab.async false
set_option linter.all false
set_option maxRecDepth 100000
set_option maxHeartbeats 4000000
namespace PL
open PySem PySem.Spec PyProof.Rows L2
def sBad : SD := fun _ _ => .bad
section
variable {X : Cx} {B : Bs} {W : WX} {e : Expr} {s : Stmt} {b : List Stmt}
theorem qs_bad : PS X s (rS X.K X.mg B W sBad) := ⟨fun pins s σ H D I ⟨g, env, st, R, w⟩ => w.elim⟩
end
section
variable {fa : List Fa} {fn : List DefP} {K : Fr} {mg : Str → Option Value}
end
section
variable {X : Cx} {B : Bs} {W : WX} {e a fe : Expr} {es : List Expr} {f : Env → M D} {fs : Env → M (List D)} {p p2 p3 pos : Pos} {k : Nat}
theorem FnT.get : ∀ {t : List (Str × (List D → M D))} {x : Str} {F : List D → M D}, FnT X k t → t.lookup x = some F → FnE X k x F
  | [], _, _, _, h => by cases h
  | (y, G) :: t, x, F, .cons h0 r, h => by
    rw [List.lookup_cons] at h
    cases q : (x == y) with
    | true =>
      rw [q] at h
      injection h with h
      subst h
      rw [eq_of_beq q]
      exact h0
    | false =>
      rw [q] at h
      exact FnT.get r h
end
end PL
set_option Elab.async false
set_option linter.all false
set_option maxRecDepth 100000
set_option maxHeartbeats 4000000
namespace PL
open PySem PySem.Spec PyProof.Rows L2
section
variable {X : Cx}
end
section
variable {X : Cx} {B : Bs} {W : WX} {e a : Expr} {f g : Env → M D} {apos cpos pos : Pos}
end
end PL
set_option Elab.async false
set_option linter.all false
set_option maxRecDepth 100000
set_option maxHeartbeats 4000000
namespace PL
open PySem PySem.Spec PyProof.Rows L2
section
variable {X : Cx} {B : Bs} {W : WX} {pos : Pos}
end
end PL
set_option Elab.async false
set_option linter.all false
set_option maxRecDepth 100000
set_option maxHeartbeats 4000000
namespace PL
open PySem PySem.Spec PyProof.Rows L2
section
variable {X : Cx} {B : Bs} {W : WX} {a b : Expr} {rest : List Expr} {f g : Env → M D} {pos : Pos}
end
end PL
set_option Elab.async false
set_option linter.all false
set_option maxRecDepth 100000
set_option maxHeartbeats 4000000
namespace PL
open PySem PySem.Spec PyProof.Rows L2
section
variable {prog : Program} {w : World} {A : Around} {E : Value → Shared → Prop} {s : Shared} {t : Addr} {xs : Array (Int × Tok)}
variable {its : List Value} {ns : List Int} {Q : Value → Shared → Prop}
theorem sum_tupR (hh : A.handled = none) (ht : s.heap.IsTuple t its.toArray) (hi : IntsAre its ns)
    (h : ∀ h' tk t', (∀ b o, s.heap.get? b = some o → h'.get? b = some o) → Q (.int ns.sum t') { s with heap := h', toks := tk }) : wpAny (model prog w) A (call (.builtin "sum") [.ref t]) Q E s := by
  obtain ⟨xs, e⟩ := hi.allInts.items
  have hn : numsOf (intItems xs).toList = ns := by rw [← e]; exact hi.numsOf
  rw [nums_intItems] at hn
  rw [e] at ht
  refine PySem.W.ktm_sumG hh ht fun h' tk t' hk => ?_
  have := h h' tk t' hk
  rw [preSum_eq, List.take_of_length_le (by simp), hn]; exact this
end
section
variable {X : Cx}
theorem cr_sumA (hc : X.calm = true) : CallR X (.builtin "sum") (rSumA X.K) := by
  intro pins s σ H vs us Q I r h
  rcases h with h | ⟨a, ns, rfl, hs, q⟩
  · exact cr_sum hc pins s σ H vs us Q I r h
  · obtain ⟨its, rv, hl, _⟩ := I.tuple hs
    rw [Vals.ref1 r]
    exact sum_tupR (I.ok.hd hc) hl rv.ints fun h' tk t' hk => ⟨.int _, H, I.kept hk, ⟨_, rfl⟩, q⟩
end
end PL
set_option Elab.async false
set_option linter.all false
set_option maxRecDepth 100000
set_option maxHeartbeats 4000000
namespace PL
open PySem PySem.Spec PyProof.Rows L2
def tyV (K : PySem.W.Frag) (C : Addr) (y : V) (H : Hp) : Prop := (∃ i, y = .int i) ∨ (∃ b xs, y = .ref b ∧ SqT K H b xs) ∨ (∃ b dx fs, y = .ref b ∧ H b = some (HO.ins C dx fs))
section
variable {X : Cx} {B : Bs} {W : WX} {a b : Expr} {pos : Pos} {k : Nat} {f C : Addr} {fd : FuncData} {ps : List Str} {F : List D → M D} {fa fb : Env → M D} {c : Str} {o : D → D → Sta → Option D}
end
section
variable {K : Fr} {C : Str}
end
end PL
set_option Elab.async false
set_option linter.all false
set_option maxRecDepth 100000
set_option maxHeartbeats 4000000
namespace PL
open PySem PySem.Spec PyProof.Rows L2
section
variable {prog : Program} {w : World} {A : Around} {E : Value → Shared → Prop} {s : Shared} {K : PySem.W.Frag} {x C f L : Addr} {h₀ : Heap} {m : Str → Option Value} {ox : Obj} {od : Option Obj} {name : Str} {b tb : Value}
open Builtin in
end
section
variable {X : Cx} {B : Bs} {W : WX} {a b : Expr} {pos : Pos} {k : Nat} {f C : Addr} {fd : FuncData} {ps : List Str} {F : List D → M D} {fa fb : Env → M D} {c : Str} {o : D → D → Sta → Option D}
end
section
variable {K : Fr} {C : Str}
end
end PL
set_option Elab.async false
set_option linter.all false
set_option maxRecDepth 100000
set_option maxHeartbeats 2000000
namespace PL
open PySem PySem.Spec PyProof.Rows L2
end PL
set_option Elab.async false
set_option linter.all false
set_option maxRecDepth 100000
set_option maxHeartbeats 4000000
namespace PL
open PySem PySem.Spec PyProof.Rows L2
end PL
set_option Elab.async false
set_option linter.all false
set_option maxRecDepth 100000
set_option maxHeartbeats 2000000
namespace PL
open PySem PySem.Spec PyProof.Rows L2
section
variable {K : PySem.W.Frag} {mg : Str → Option Value}
end
end PL
set_option Elab.async false
set_option linter.all false
set_option maxRecDepth 100000
set_option maxHeartbeats 4000000
namespace PL
open PySem PySem.Spec PyProof.Rows L2
section
variable {α β : Type} {st : Sta} {env : Env}
@[simp] theorem bind_st {m : M α} {k : α → M β} : (m >>= k) st = (m st).bind k := rfl
@[simp] theorem rb_ok {a : α} {k : α → M β} : (Res.ok a st).bind k = k a st := rfl
@[simp] theorem rb_exc {e : Exn} {k : α → M β} : (Res.exc e st : Res α).bind k = .exc e st := rfl
@[simp] theorem rb_bad {k : α → M β} : (Res.bad : Res α).bind k = .bad := rfl
@[simp] theorem rb_ok2 {a : α} {k : α → Sta → Res β} : (Res.bind (Res.ok a st) k : Res β) = k a st := rfl
@[simp] theorem rb_exc2 {e : Exn} {k : α → Sta → Res β} : (Res.bind (Res.exc e st : Res α) k : Res β) = .exc e st := rfl
@[simp] theorem rb_bad2 {k : α → Sta → Res β} : (Res.bind (Res.bad : Res α) k : Res β) = .bad := rfl
@[simp] theorem pure_st {a : α} : (pure a : M α) st = .ok a st := rfl
@[simp] theorem mpure_st {a : α} : (M.pure a : M α) st = .ok a st := rfl
@[simp] theorem mbad_st : (M.bad : M α) st = .bad := rfl
@[simp] theorem rd_st {o : Sta → Option α} : M.rd o st = match o st with
  | some a => .ok a st
  | none => .bad := rfl
@[simp] theorem vr_st {i : Nat} : vr i env st = (match env[i]? with
  | some (some (.fro d)) => .ok d st
  | _ => .bad) := by
  unfold vr
  cases env[i]? with
  | none => rfl
  | some o =>
    cases o with
    | none => rfl
    | some v => cases v <;> rfl
@[simp] theorem cn_st {d : D} : cn d env st = .ok d st := rfl
variable {f g : Env → M D} {fs : Env → M (List D)} {t u : Env → M Bool}
@[simp] theorem op2_st {o : D → D → Sta → Option D} : op2 o f g env st = (f env st).bind fun x => fun st => (g env st).bind fun y => M.rd (o x y) := rfl
@[simp] theorem op1_st {o : D → Sta → Option D} : op1 o f env st = (f env st).bind fun x => M.rd (o x) := rfl
@[simp] theorem opN_st {o : List D → Sta → Option D} : opN o fs env st = (fs env st).bind fun x => M.rd (o x) := rfl
@[simp] theorem args0_st : args0 env st = .ok [] st := rfl
@[simp] theorem argsC_st : argsC f fs env st = (f env st).bind fun x => fun st => (fs env st).bind fun xs => fun st => .ok (x :: xs) st := rfl
@[simp] theorem tst_st : tst f env st = (f env st).bind fun x => M.rd fun _ => truth x := rfl
@[simp] theorem tBool_st : tBool f env st = (f env st).bind fun x => M.rd fun _ => asB x := rfl
@[simp] theorem mNot_st : mNot t env st = (t env st).bind fun b => fun st => .ok (!b) st := rfl
@[simp] theorem mAnd_st : mAnd t u env st = (t env st).bind fun b => fun st => if b then u env st else .ok false st := by
  show (t env st).bind _ = _
  congr 1
  funext b st
  cases b <;> rfl
@[simp] theorem mOr_st : mOr t u env st = (t env st).bind fun b => fun st => if b then .ok true st else u env st := by
  show (t env st).bind _ = _
  congr 1
  funext b st
  cases b <;> rfl
@[simp] theorem mAndV_st : mAndV f g env st = (f env st).bind fun x => fun st => (M.rd (fun _ => asB x) st).bind fun b => fun st => if b then g env st else .ok (.bl false) st := by
  show ((f env st).bind _).bind _ = _
  cases (f env st) with
  | ok x st2 =>
    show (M.rd (fun _ => asB x) st2).bind _ = (M.rd (fun _ => asB x) st2).bind _
    congr 1
    funext b st
    cases b <;> rfl
  | exc _ _ => rfl
  | bad => rfl
@[simp] theorem mNotV_st : mNotV f env st = (f env st).bind fun x => fun st => (M.rd (fun _ => asB x) st).bind fun b => fun st => .ok (.bl (!b)) st := by
  show ((f env st).bind _).bind _ = _
  cases (f env st) with
  | ok x st2 => rfl
  | exc _ _ => rfl
  | bad => rfl
@[simp] theorem mIf_st {γ : Type} {f g : Env → M γ} : mIf t f g env st = (t env st).bind fun b => fun st => if b then f env st else g env st := by
  show (t env st).bind _ = _
  congr 1
  funext b st
  cases b <;> rfl
@[simp] theorem mCall_st {F : List D → M D} : mCall fs F env st = (fs env st).bind F := rfl
@[simp] theorem argN_st {n : Nat} {F : List D → M D} {ds : List D} (h : ds.length = n) : argN n F ds = F ds := by
  unfold argN
  rw [if_pos h]
@[simp] theorem mChain_st {o o' : D → D → Sta → Option D} {h : Env → M D} : mChain o o' f g h env st = (f env st).bind fun x => fun st => (g env st).bind fun y => fun st => (M.rd (o x y) st).bind fun z => fun st => (M.rd (fun _ => asB z) st).bind fun k => fun st => if k then (h env st).bind fun w => M.rd (o' y w) else .ok (.bl false) st := by
  show (f env st).bind _ = _
  congr 1
  funext x st
  show (g env st).bind _ = _
  congr 1
  funext y st
  show (M.rd (o x y) st).bind _ = _
  congr 1
  funext z st
  show (M.rd _ st).bind _ = _
  congr 1
  funext k st
  cases k <;> rfl
@[simp] theorem lstF_st : lstF fs env st = (fs env st).bind fun x => fun st => .ok (.lst x) st := rfl
@[simp] theorem yes_st : yes env st = .ok true st := rfl
theorem noX_ok {a : α} {m : M α} {st' : Sta} (h : m st = .ok a st') : noX m st = .ok a st' := by
  unfold noX
  rw [h]
@[simp] theorem noX_st {m : M α} : noX m st = (match m st with
  | .exc _ _ => .bad
  | r => r) := rfl
@[simp] theorem chk_st {p : D → Sta → Bool} {d : D} : chk p d st = if p d st then .ok d st else .bad := rfl
@[simp] theorem itO_st {o : D → Sta → Option (List D)} : itO o f env st = (f env st).bind fun x => M.rd (o x) := rfl
@[simp] theorem itN_st {o : List D → Sta → Option (List D)} : itN o fs env st = (fs env st).bind fun x => M.rd (o x) := rfl
@[simp] theorem dispL_st : dispL fs env st = (fs env st).bind fun ds => M.rd fun _ => if ds.length ≤ sizeLine then some ds else none := rfl
variable {a b : SD}
@[simp] theorem sE_st {f : Env → M α} {k : α → SD} : sE f k env st = match f env st with
  | .ok d st' => k d env st'
  | .exc e st' => .exc e env st'
  | .bad => .bad := rfl
@[simp] theorem sNext_st : sNext env st = .nx env st := rfl
@[simp] theorem sSeq_st : sSeq a b env st = match a env st with
  | .nx env' st' => b env' st'
  | r => r := rfl
@[simp] theorem sRet_st : sRet f env st = match f env st with
  | .ok d st' => .rt d st'
  | .exc e st' => .exc e env st'
  | .bad => .bad := by
  show sE f _ env st = _
  unfold sE
  cases f env st <;> rfl
@[simp] theorem sDrop_st : sDrop f env st = match f env st with
  | .ok d st' => .nx env st'
  | .exc e st' => .exc e env st'
  | .bad => .bad := by
  show sE f _ env st = _
  unfold sE
  cases f env st <;> rfl
@[simp] theorem sIf_st : sIf t a b env st = match t env st with
  | .ok k st' => if k then a env st' else b env st'
  | .exc e st' => .exc e env st'
  | .bad => .bad := by
  show sE t _ env st = _
  unfold sE
  cases t env st with
  | ok k st' => cases k <;> rfl
  | _ => rfl
@[simp] theorem sSet_st {i : Nat} : sSet i f env st = match f env st with
  | .ok d st' => .nx (env.set i (some (.fro d))) st'
  | .exc e st' => .exc e env st'
  | .bad => .bad := by
  show sE f _ env st = _
  unfold sE
  cases f env st <;> rfl
@[simp] theorem sOwn_st {i : Nat} : sOwn i fs env st = match fs env st with
  | .ok d st' => .nx (env.set i (some (.own (.lst d)))) st'
  | .exc e st' => .exc e env st'
  | .bad => .bad := by
  show sE fs _ env st = _
  unfold sE
  cases fs env st <;> rfl
@[simp] theorem sCell_st {i : Nat} : sCell i fs env st = match fs env st with
  | .ok d st' => .nx (env.set i (some (.fro (.cell st'.length)))) (st' ++ [.lst d])
  | .exc e st' => .exc e env st'
  | .bad => .bad := by
  show sE fs _ env st = _
  unfold sE
  cases fs env st <;> rfl
@[simp] theorem sFrz_st {i : Nat} : sFrz i a env st = a (frz i env) st := rfl
@[simp] theorem sAppO_st {i : Nat} : sAppO i f env st = match ownL env i with
  | some l => (match f env st with
    | .ok d st' => if l.length < sizeLine then .nx (env.set i (some (.own (.lst (l ++ [d]))))) st' else .bad
    | .exc e st' => .exc e env st'
    | .bad => .bad)
  | none => .bad := by
  unfold sAppO
  cases ownL env i with
  | none => rfl
  | some l =>
    show sE f _ env st = _
    unfold sE
    cases f env st <;> rfl
@[simp] theorem sAsg_st {c : D → SD} : sAsg f c env st = match f env st with
  | .ok d st' => (match c d env st' with
    | .nx env' st' => .nx env' st'
    | _ => .bad)
  | .exc e st' => .exc e env st'
  | .bad => .bad := by
  show sE f _ env st = _
  unfold sE
  cases f env st <;> rfl
@[simp] theorem sPar_st {i j : Nat} : sPar i j f g env st = match f env st with
  | .ok x st' => (match g env st' with
    | .ok y st' => .nx ((env.set i (some (.fro x))).set j (some (.fro y))) st'
    | .exc e st' => .exc e env st'
    | .bad => .bad)
  | .exc e st' => .exc e env st'
  | .bad => .bad := by
  show sE f _ env st = _
  unfold sE
  cases f env st with
  | ok x st' =>
    dsimp only
    cases g env st' <;> rfl
  | _ => rfl
@[simp] theorem sRaise0_st {c : Str} : sRaise0 c env st = .exc ⟨c, []⟩ env st := rfl
@[simp] theorem sRaise_st {c : Str} {names : List Str} : sRaise c names fs env st = match fs env st with
  | .ok ds st' => if ds.length = names.length then .exc ⟨c, (names.zip ds).reverse⟩ env st' else .bad
  | .exc e st' => .exc e env st'
  | .bad => .bad := by
  show sE fs _ env st = _
  unfold sE
  cases fs env st <;> rfl
@[simp] theorem sFor_st {it : Env → M (List D)} {c : D → SD} : sFor it c b env st = match it env st with
  | .ok ds st' => sLoop c b ds env st'
  | .exc e st' => .exc e env st'
  | .bad => .bad := by
  show sE it _ env st = _
  unfold sE
  cases it env st <;> rfl
@[simp] theorem aName_st {i : Nat} {d : D} : aName i d env st = .nx (env.set i (some (.fro d))) st := rfl
@[simp] theorem aNil_st : aNil [] = sNext := rfl
@[simp] theorem aCons_st {c : D → SD} {cs : List D → SD} {d : D} {ds : List D} : aCons c cs (d :: ds) env st = match c d env st with
  | .nx env' st' => cs ds env' st'
  | _ => .bad := rfl
@[simp] theorem aTup_st {n : Nat} {c : List D → SD} {ds : List D} : aTup n c (.tup ds) env st = if ds.length = n then c ds env st else .bad := by
  show (if ds.length = n then c ds else fun _ _ => .bad) env st = _
  split <;> rfl
@[simp] theorem aSubC_st {cf ix : Env → M D} {d : D} : aSubC cf ix d env st = match cf env st with
  | .ok c st' => (match ix env st' with
    | .ok k st' => (match c, k with
      | .cell n, .int z => (match st'[n]? with
        | some (.lst l) => (match ixN l.length z with
          | some j => .nx env (st'.set n (.lst (l.set j d)))
          | none => .bad)
        | _ => .bad)
      | _, _ => .bad)
    | .exc e st' => .exc e env st'
    | .bad => .bad)
  | .exc e st' => .exc e env st'
  | .bad => .bad := by
  show sE cf _ env st = _
  unfold sE
  cases cf env st with
  | ok c st' =>
    dsimp only
    cases ix env st' with
    | ok k st2 => cases c <;> cases k <;> rfl
    | _ => rfl
  | _ => rfl
@[simp] theorem ownL_st {i : Nat} : ownL env i = match env[i]? with
  | some (some (.own (.lst l))) => some l
  | _ => none := rfl
@[simp] theorem frz_st {i : Nat} : frz i env = match env[i]? with
  | some (some (.own c)) => env.set i (some (.fro c.toD))
  | _ => env := rfl
@[simp] theorem toD_lst {l : List D} : (Cell.lst l).toD = .lst l := rfl
end
section
variable {st : Sta}
@[simp] theorem addD_int {i j : Int} : addD (.int i) (.int j) st = some (.int (i + j)) := rfl
@[simp] theorem subD_int {i j : Int} : subD (.int i) (.int j) st = some (.int (i - j)) := rfl
theorem mulD_int {i j : Int} (h : mulOk i j = true) : mulD (.int i) (.int j) st = some (.int (i * j)) := by
  show (if mulOk i j then _ else _) = _
  rw [if_pos h]
@[simp] theorem modD_int {i j : Int} (h : 0 < j) : modD (.int i) (.int j) st = some (.int (i % j)) := by
  show (if 0 < j then _ else _) = _
  rw [if_pos h]
@[simp] theorem fdvD_int {i j : Int} (h : 0 < j) (h2 : j < 1073741824) : fdvD (.int i) (.int j) st = some (.int (i / j)) := by
  show (if 0 < j ∧ (j < 1073741824 ∨ _) then _ else _) = _
  rw [if_pos ⟨h, .inl h2⟩]
theorem powD_int {i j : Int} (h : 0 ≤ j ∧ j ≤ 1000 ∧ i.natAbs < 2 ^ 64) : powD (.int i) (.int j) st = some (.int (i ^ j.toNat)) := by
  show (if _ then _ else _) = _
  rw [if_pos h]
@[simp] theorem pow_6 : powD (.int 10) (.int 6) st = some (.int 1000000) := by rw [powD_int (by decide)]; rfl
@[simp] theorem pow_18 : powD (.int 10) (.int 18) st = some (.int 1000000000000000000) := by rw [powD_int (by decide)]; rfl
@[simp] theorem pow_23 : powD (.int 10) (.int 23) st = some (.int 100000000000000000000000) := by rw [powD_int (by decide)]; rfl
@[simp] theorem pow_30 : powD (.int 10) (.int 30) st = some (.int 1000000000000000000000000000000) := by rw [powD_int (by decide)]; rfl
@[simp] theorem negD_int {i : Int} : negD (.int i) st = some (.int (-i)) := rfl
@[simp] theorem cmpD_int {p : Int → Int → Bool} {i j : Int} : cmpD p (.int i) (.int j) st = some (.bl (p i j)) := rfl
@[simp] theorem truth_bl {b : Bool} : truth (.bl b) = some b := rfl
@[simp] theorem truth_int {i : Int} : truth (.int i) = some (i != 0) := rfl
@[simp] theorem asB_bl {b : Bool} : asB (.bl b) = some b := rfl
end
def pln : Nat → D → Bool
  | _, .non => true
  | _, .bl _ => true
  | _, .int _ => true
  | _, .str x => PyData.strOk x
  | n + 1, .tup l => l.all (pln n)
  | n + 1, .lst l => l.all (pln n)
  | n + 1, .fix l => l.all (pln n)
  | _, _ => false
mutual
theorem pln_ok : ∀ {n : Nat} {d : D}, pln n d = true → (pd d).canLay0 = true ∧ (pd d).depth ≤ n
  | _, .non, _ => ⟨rfl, Nat.zero_le _⟩
  | _, .bl _, _ => ⟨rfl, Nat.zero_le _⟩
  | _, .int _, _ => ⟨rfl, Nat.zero_le _⟩
  | n, .str x, h => by
    have h' : PyData.strOk x = true := by cases n <;> exact h
    unfold pd
    exact ⟨by unfold PyData.canLay0; exact h', Nat.zero_le _⟩
  | n + 1, .tup l, h => by
    obtain ⟨h1, h2⟩ := plns_ok (n := n) (l := l) (show l.all (pln n) = true from h)
    unfold pd
    exact ⟨by unfold PyData.canLay0; exact h1, by unfold PyData.depth; omega⟩
  | n + 1, .lst l, h => by
    obtain ⟨h1, h2⟩ := plns_ok (n := n) (l := l) (show l.all (pln n) = true from h)
    unfold pd
    exact ⟨by unfold PyData.canLay0; exact h1, by unfold PyData.depth; omega⟩
  | n + 1, .fix l, h => by
    obtain ⟨h1, h2⟩ := plns_ok (n := n) (l := l) (show l.all (pln n) = true from h)
    unfold pd
    exact ⟨by unfold PyData.canLay0; exact h1, by unfold PyData.depth; omega⟩
  | 0, .tup _, h => by cases h
  | 0, .lst _, h => by cases h
  | 0, .fix _, h => by cases h
  | 0, .dct _, h => by cases h
  | 0, .obj _ _, h => by cases h
  | 0, .cell _, h => by cases h
  | 0, .fn _, h => by cases h
  | n + 1, .dct _, h => by cases h
  | n + 1, .obj _ _, h => by cases h
  | n + 1, .cell _, h => by cases h
  | n + 1, .fn _, h => by cases h
theorem plns_ok : ∀ {n : Nat} {l : List D}, l.all (pln n) = true → PyData.canLayAll0 (pds l) = true ∧ PyData.depthAll (pds l) ≤ n
  | _, [], _ => ⟨rfl, Nat.zero_le _⟩
  | n, d :: l, h => by
    obtain ⟨h1, h2⟩ := Bool.and_eq_true_iff.mp (show (pln n d && l.all (pln n)) = true from h)
    obtain ⟨a1, a2⟩ := pln_ok h1
    obtain ⟨b1, b2⟩ := plns_ok h2
    unfold pds
    exact ⟨by unfold PyData.canLayAll0; rw [a1, b1]; rfl, by unfold PyData.depthAll; omega⟩
end
theorem plain_of {n : Nat} {d : D} (h : pln n d = true) (hn : n ≤ 64) : plain d = true := by
  obtain ⟨h1, h2⟩ := pln_ok h
  unfold plain SeqAt.shaped
  rw [h1, decide_eq_true (Nat.le_trans h2 hn)]
  rfl
section
variable {st : Sta} {d e : D}
theorem eqD_of {n : Nat} (hd : pln n d = true) (he : pln n e = true) (hn : n ≤ 64) : eqD d e st = some (.bl (eqB d e)) := by
  unfold eqD
  rw [plain_of hd hn, plain_of he hn]
  rfl
theorem neD_of {n : Nat} (hd : pln n d = true) (he : pln n e = true) (hn : n ≤ 64) : neD d e st = some (.bl (!eqB d e)) := by
  unfold neD
  rw [plain_of hd hn, plain_of he hn]
  rfl
@[simp] theorem eqD_int {i j : Int} : eqD (.int i) (.int j) st = some (.bl (decide (i = j))) := by
  rw [eqD_of (n := 0) rfl rfl (by decide), eqB_int]
@[simp] theorem neD_int {i j : Int} : neD (.int i) (.int j) st = some (.bl (!decide (i = j))) := by
  rw [neD_of (n := 0) rfl rfl (by decide), eqB_int]
@[simp] theorem eqD_nonint {j : Int} : eqD .non (.int j) st = some (.bl false) := by
  rw [eqD_of (n := 0) rfl rfl (by decide)]
  rfl
@[simp] theorem neD_nonint {j : Int} : neD .non (.int j) st = some (.bl true) := by
  rw [neD_of (n := 0) rfl rfl (by decide)]
  rfl
@[simp] theorem isND_non : isND .non .non st = some (.bl true) := rfl
@[simp] theorem isND_int {i : Int} : isND (.int i) .non st = some (.bl false) := rfl
@[simp] theorem lenD_tup {l : List D} : lenD [.tup l] st = some (.int l.length) := rfl
@[simp] theorem lenD_lst {l : List D} : lenD [.lst l] st = some (.int l.length) := rfl
@[simp] theorem lenD_fix {l : List D} : lenD [.fix l] st = some (.int l.length) := rfl
@[simp] theorem tupleD_lst {l : List D} : tupleD [.lst l] st = some (.tup l) := rfl
@[simp] theorem tupleD_tup {l : List D} : tupleD [.tup l] st = some (.tup l) := rfl
@[simp] theorem intD_int {i : Int} : intD [.int i] st = some (.int i) := rfl
@[simp] theorem intD_bl {b : Bool} : intD [.bl b] st = some (.int (if b then 1 else 0)) := rfl
@[simp] theorem ixD_tup {l : List D} {i : Int} : ixD (.tup l) (.int i) st = atI l i := rfl
@[simp] theorem ixD_lst {l : List D} {i : Int} : ixD (.lst l) (.int i) st = atI l i := rfl
@[simp] theorem ixD_fix {l : List D} {i : Int} : ixD (.fix l) (.int i) st = atI l i := rfl
@[simp] theorem seqIt_tup {l : List D} : seqIt (.tup l) st = some l := rfl
@[simp] theorem seqIt_lst {l : List D} : seqIt (.lst l) st = some l := rfl
@[simp] theorem isiT_int {i : Int} : isiT "int" CS (.int i) st = some (.bl true) := by
  show (kitB "int" "int").map D.bl = _
  rw [show kitB "int" "int" = some true from by decide +kernel]
  rfl
@[simp] theorem isiT_bool {i : Int} : isiT "bool" CS (.int i) st = some (.bl false) := by
  show (kitB "int" "bool").map D.bl = _
  rw [show kitB "int" "bool" = some false from by decide +kernel]
  rfl
@[simp] theorem isiT_intbl {b : Bool} : isiT "int" CS (.bl b) st = some (.bl true) := by
  show (kitB "bool" "int").map D.bl = _
  rw [show kitB "bool" "int" = some true from by decide +kernel]
  rfl
@[simp] theorem isiT_boolbl {b : Bool} : isiT "bool" CS (.bl b) st = some (.bl true) := by
  show (kitB "bool" "bool").map D.bl = _
  rw [show kitB "bool" "bool" = some true from by decide +kernel]
  rfl
@[simp] theorem isiT_intnon : isiT "int" CS .non st = some (.bl false) := by
  show (kitB "NoneType" "int").map D.bl = _
  rw [show kitB "NoneType" "int" = some false from by decide +kernel]
  rfl
@[simp] theorem isiT_boolnon : isiT "bool" CS .non st = some (.bl false) := by
  show (kitB "NoneType" "bool").map D.bl = _
  rw [show kitB "NoneType" "bool" = some false from by decide +kernel]
  rfl
@[simp] theorem isiT_intstr {x : Str} : isiT "int" CS (.str x) st = some (.bl false) := by
  show (kitB "str" "int").map D.bl = _
  rw [show kitB "str" "int" = some false from by decide +kernel]
  rfl
@[simp] theorem isiT_inttup {x : List D} : isiT "int" CS (.tup x) st = some (.bl false) := by
  show (kitB "tuple" "int").map D.bl = _
  rw [show kitB "tuple" "int" = some false from by decide +kernel]
  rfl
@[simp] theorem isiT_tup {l : List D} : isiT "tuple" CS (.tup l) st = some (.bl true) := by
  show (kitB "tuple" "tuple").map D.bl = _
  rw [show kitB "tuple" "tuple" = some true from by decide +kernel]
  rfl
@[simp] theorem isiC_obj {c C : Str} {fs : List (Str × D)} (h : CS.contains c = true) : isiC C CS (.obj c fs) st = some (.bl (c == C)) := by
  show (if CS.contains c then some (D.bl (c == C)) else none) = _
  rw [if_pos h]
theorem small_le {n : Nat} (h : n ≤ 1000) : n ≤ sizeLine := by rw [sizeLine_eq]; omega
@[simp] theorem mkTup_1 {a : D} : mkTup [a] st = some (.tup [a]) := by unfold mkTup; rw [if_pos (small_le (by simp))]
@[simp] theorem mkTup_2 {a b : D} : mkTup [a, b] st = some (.tup [a, b]) := by unfold mkTup; rw [if_pos (small_le (by simp))]
@[simp] theorem mkTup_3 {a b c : D} : mkTup [a, b, c] st = some (.tup [a, b, c]) := by unfold mkTup; rw [if_pos (small_le (by simp))]
@[simp] theorem mkTup_0 : mkTup [] st = some (.tup []) := by unfold mkTup; rw [if_pos (small_le (by simp))]
theorem mkLst_of {l : List D} (h : l.length ≤ 1000) : mkLst l st = some (.lst l) := by unfold mkLst; rw [if_pos (small_le h)]
@[simp] theorem mkLst_0 : mkLst [] st = some (.lst []) := mkLst_of (by simp)
@[simp] theorem mkLst_3 {a b c : D} : mkLst [a, b, c] st = some (.lst [a, b, c]) := mkLst_of (by simp)
@[simp] theorem mkLst_4 {a b c d : D} : mkLst [a, b, c, d] st = some (.lst [a, b, c, d]) := mkLst_of (by simp)
@[simp] theorem mkLst_6 {a b c d e f : D} : mkLst [a, b, c, d, e, f] st = some (.lst [a, b, c, d, e, f]) := mkLst_of (by simp)
end
theorem ixN_nat {n k : Nat} (h : k < n) : ixN n (k : Int) = some k := by
  unfold ixN
  rw [if_pos (Int.natCast_nonneg k), if_pos (by omega)]
  rfl
theorem atI_nat {α : Type} {l : List α} {k : Nat} (h : k < l.length) : atI l (k : Int) = some l[k] := by
  unfold atI
  rw [ixN_nat h, Option.bind_some, List.getElem?_eq_getElem h]
@[simp] theorem atI_zero {α : Type} {a : α} {l : List α} : atI (a :: l) 0 = some a := atI_nat (k := 0) (by simp)
@[simp] theorem atI_one {α : Type} {a b : α} {l : List α} : atI (a :: b :: l) 1 = some b := atI_nat (k := 1) (by simp)
@[simp] theorem atI_two {α : Type} {a b c : α} {l : List α} : atI (a :: b :: c :: l) 2 = some c := atI_nat (k := 2) (by simp)
@[simp] theorem atI_three {α : Type} {a b c d : α} {l : List α} : atI (a :: b :: c :: d :: l) 3 = some d := atI_nat (k := 3) (by simp)
theorem lcGo_ok {vs : List Nat} {bind : Bnd} {tst : Env → M Bool} {elt : Env → M D} {env : Env} {st : Sta} {e1 : D → Env} {p : D → Bool} {f : D → D} : ∀ {ds acc : List D}, (∀ d ∈ ds, bind d (wipeE env vs) = some (e1 d) ∧ tst (e1 d) st = .ok (p d) st ∧ (p d = true → elt (e1 d) st = .ok (f d) st)) → acc.length + ds.length ≤ sizeLine →
    lcGo vs bind tst elt env ds acc st = .ok (acc ++ (ds.filter p).map f) st
  | [], acc, _, _ => by
    show Res.ok acc st = _
    simp
  | d :: ds, acc, h, hl => by
    obtain ⟨h1, h2, h3⟩ := h d (List.mem_cons_self ..)
    have rec_ : ∀ acc' : List D, acc'.length + ds.length ≤ sizeLine → _ := fun acc' q => lcGo_ok (vs := vs) (bind := bind) (tst := tst) (elt := elt) (env := env) (st := st) (e1 := e1) (p := p) (f := f) (ds := ds) (acc := acc') (fun d m => h d (List.mem_cons_of_mem _ m)) q
    have hl' : acc.length + (ds.length + 1) ≤ sizeLine := hl
    unfold lcGo
    rw [h1]
    dsimp only
    rw [bind_st, noX_ok h2, rb_ok]
    cases q : p d with
    | false =>
      rw [if_neg Bool.false_ne_true, rec_ acc (by omega), List.filter_cons, if_neg (by rw [q]; exact Bool.false_ne_true)]
    | true =>
      rw [if_pos rfl, bind_st, noX_ok (h3 q), rb_ok, if_pos (by omega), rec_ (acc ++ [f d]) (by rw [List.length_append, List.length_singleton]; omega), List.filter_cons, if_pos q, List.map_cons, List.append_assoc]
      rfl
theorem mLc_ok {vs : List Nat} {bind : Bnd} {tst : Env → M Bool} {elt : Env → M D} {it : Env → M (List D)} {env : Env} {st : Sta} {ds : List D} {e1 : D → Env} {p : D → Bool} {f : D → D} (hi : it env st = .ok ds st) (h : ∀ d ∈ ds, bind d (wipeE env vs) = some (e1 d) ∧ tst (e1 d) st = .ok (p d) st ∧ (p d = true → elt (e1 d) st = .ok (f d) st)) (hl : ds.length ≤ sizeLine) :
    mLc vs bind tst elt it env st = .ok ((ds.filter p).map f) st := by
  unfold mLc
  rw [bind_st, hi, rb_ok, lcGo_ok h (by simpa using hl)]
  rfl
@[simp] theorem rng_len {lo : Int} {n : Nat} : (rng lo n).length = n := by simp [rng]
theorem rng_get {lo : Int} {n k : Nat} (h : k < (rng lo n).length) : (rng lo n)[k] = .int (lo + k) := by simp [rng]
theorem rng1_st {st : Sta} {j : Int} (h : 0 ≤ j) (h2 : j < 2 ^ 62) : rng1 [.int j] st = some (rng 0 j.toNat) := by
  show (if _ then _ else _) = _
  rw [if_pos ⟨by omega, h2⟩]
@[simp] theorem wipeE_nil {env : Env} : wipeE env [] = env := rfl
@[simp] theorem wipeE_cons {env : Env} {v : Nat} {vs : List Nat} : wipeE env (v :: vs) = (wipeE env vs).set v none := rfl
@[simp] theorem bName_st {i : Nat} {d : D} {env : Env} : bName i d env = some (env.set i (some (.fro d))) := rfl
@[simp] theorem bTup_2 {i j : Nat} {a b : D} {env : Env} : bTup [i, j] (.tup [a, b]) env = some ((env.set i (some (.fro a))).set j (some (.fro b))) := rfl
section
variable {a b body : SD} {c : D → SD} {env env1 : Env} {st st1 : Sta} {r : SR} {it fs : Env → M (List D)} {ds : List D} {f : Env → M D} {d : D} {t : Env → M Bool} {k : Bool} {n i : Nat}
theorem seq_nx (h : a env st = .nx env1 st1) (h2 : b env1 st1 = r) : sSeq a b env st = r := by
  rw [sSeq_st, h]
  exact h2
theorem seq_rt (h : a env st = .rt d st1) : sSeq a b env st = .rt d st1 := by rw [sSeq_st, h]
theorem seq_exc {e : Exn} (h : a env st = .exc e env1 st1) : sSeq a b env st = .exc e env1 st1 := by rw [sSeq_st, h]
theorem for_ok (h : it env st = .ok ds st1) (h2 : sLoop c body ds env st1 = r) : sFor it c body env st = r := by
  rw [sFor_st, h]
  exact h2
theorem set_ok (h : f env st = .ok d st1) (h2 : env.set i (some (.fro d)) = env1) : sSet i f env st = .nx env1 st1 := by rw [sSet_st, h, ← h2]
theorem ret_ok (h : f env st = .ok d st1) : sRet f env st = .rt d st1 := by rw [sRet_st, h]
theorem if_ok (h : t env st = .ok k st1) (h2 : (if k then a env st1 else b env st1) = r) : sIf t a b env st = r := by
  rw [sIf_st, h]
  exact h2
theorem if_yes (h : t env st = .ok true st1) (h2 : a env st1 = r) : sIf t a b env st = r := if_ok h h2
theorem if_no (h : t env st = .ok false st1) (h2 : b env st1 = r) : sIf t a b env st = r := if_ok h h2
theorem runB_rt (h : b (env0 n ds) st = .rt d st1) : runB n b ds st = .ok d st1 := by
  unfold runB
  rw [h]
theorem runB_nx (h : b (env0 n ds) st = .nx env1 st1) : runB n b ds st = .ok .non st1 := by
  unfold runB
  rw [h]
theorem runB_exc {e : Exn} (h : b (env0 n ds) st = .exc e env1 st1) : runB n b ds st = .exc e st1 := by
  unfold runB
  rw [h]
end
end PL
set_option Elab.async false
set_option linter.all false
set_option maxRecDepth 100000
set_option maxHeartbeats 4000000
namespace PL
open PySem PySem.Spec PyProof.Rows L2
section
variable {α β : Type}
@[irreducible] def evM (f : Env → M α) (env : Env) (st : Sta) (Q : Res α → Prop) : Prop := Q (f env st)
@[irreducible] def evS (b : SD) (env : Env) (st : Sta) (Q : SR → Prop) : Prop := Q (b env st)
@[irreducible] def evR (r : Res α) (Q : Res α → Prop) : Prop := Q r
@[irreducible] def evL (c : D → SD) (body : SD) (ds : List D) (env : Env) (st : Sta) (Q : SR → Prop) : Prop := Q (sLoop c body ds env st)
@[irreducible] def evC (vs : List Nat) (bind : Bnd) (t : Env → M Bool) (el : Env → M D) (env : Env) (ds acc : List D) (st : Sta) (Q : Res (List D) → Prop) : Prop := Q (lcGo vs bind t el env ds acc st)
@[irreducible] def evC2 (vs vs1 : List Nat) (bind : Bnd) (t : Env → M Bool) (it1 : Env → M (List D)) (bind1 : Bnd) (t1 : Env → M Bool) (el : Env → M D) (env : Env) (ds acc : List D) (st : Sta) (Q : Res (List D) → Prop) : Prop := Q (lcGo2 vs vs1 bind t it1 bind1 t1 el env ds acc st)
def qEq (v : Res α) (r : Res α) : Prop := r = v
theorem ev_run {r v : Res α} (h : evR r (qEq v)) : r = v := by with_unfolding_all exact h
theorem ev_out {r : Res α} {Q : Res α → Prop} (h : evR r Q) : Q r := by with_unfolding_all exact h
theorem ev_res {f : Env → M α} {env : Env} {st : Sta} {v : Res α} (h : evM f env st (qEq v)) : f env st = v := by with_unfolding_all exact h
theorem evM_of {f : Env → M α} {env : Env} {st : Sta} {v : Res α} (h : f env st = v) (Q : Res α → Prop) : evM f env st Q = Q v := by with_unfolding_all (unfold evM; rw [h])
theorem evS_of {b : SD} {env : Env} {st : Sta} {v : SR} (h : b env st = v) (Q : SR → Prop) : evS b env st Q = Q v := by with_unfolding_all (unfold evS; rw [h])
theorem evR_of {r v : Res α} (h : r = v) (Q : Res α → Prop) : evR r Q = Q v := by with_unfolding_all (unfold evR; rw [h])
variable {env env1 : Env} {st : Sta} {e : Exn} {a : α} {d : D}
@[simp] theorem qEq_ok {v : Res α} {a : α} : qEq v (.ok a st) = (Res.ok a st = v) := by with_unfolding_all exact id rfl
@[simp] theorem qEq_exc {v : Res α} : qEq v (.exc e st) = (Res.exc e st = v) := by with_unfolding_all exact id rfl
@[simp] theorem qEq_bad {v : Res α} : qEq v .bad = (Res.bad = v) := by with_unfolding_all exact id rfl
@[simp] theorem evR_ok {Q : Res α → Prop} : evR (.ok a st) Q = Q (.ok a st) := by with_unfolding_all exact id rfl
@[simp] theorem evR_exc {Q : Res α → Prop} : evR (.exc e st) Q = Q (.exc e st) := by with_unfolding_all exact id rfl
@[simp] theorem evR_bad {Q : Res α → Prop} : evR .bad Q = Q .bad := by with_unfolding_all exact id rfl
def kO (o : Option β) (st : Sta) (Q : Res β → Prop) : Prop := match o with
  | some z => Q (.ok z st)
  | none => Q .bad
@[simp] theorem kO_some {z : β} {Q : Res β → Prop} : kO (some z) st Q = Q (.ok z st) := by with_unfolding_all exact id rfl
@[simp] theorem kO_none {Q : Res β → Prop} : kO none st Q = Q .bad := by with_unfolding_all exact id rfl
@[simp] theorem kO_ite {c : Prop} [Decidable c] {x y : Option β} {Q : Res β → Prop} : kO (if c then x else y) st Q = if c then kO x st Q else kO y st Q := by with_unfolding_all (split <;> rfl)
def kOp1 (o : α → Sta → Option β) (Q : Res β → Prop) : Res α → Prop
  | .ok x st => kO (o x st) st Q
  | .exc e st => Q (.exc e st)
  | .bad => Q .bad
@[simp] theorem kOp1_ok {o : α → Sta → Option β} {Q : Res β → Prop} : kOp1 o Q (.ok a st) = kO (o a st) st Q := by with_unfolding_all exact id rfl
@[simp] theorem kOp1_exc {o : α → Sta → Option β} {Q : Res β → Prop} : kOp1 o Q (.exc e st) = Q (.exc e st) := by with_unfolding_all exact id rfl
@[simp] theorem kOp1_bad {o : α → Sta → Option β} {Q : Res β → Prop} : kOp1 o Q .bad = Q .bad := by with_unfolding_all exact id rfl
theorem evM_bind_rd {f : Env → M α} {o : α → Sta → Option β} {Q : Res β → Prop} : Q ((f env >>= fun x => M.rd (o x)) st) = evM f env st (kOp1 o Q) := by
  with_unfolding_all
    unfold evM
    rw [bind_st]
    cases f env st with
    | ok a st1 =>
      rw [rb_ok, rd_st, kOp1_ok]
      cases o a st1 <;> rfl
    | exc _ _ => rfl
    | bad => rfl
def kOp2a (o : D → D → Sta → Option D) (g : Env → M D) (env : Env) (Q : Res D → Prop) : Res D → Prop
  | .ok x st => evM g env st (kOp1 (o x) Q)
  | .exc e st => Q (.exc e st)
  | .bad => Q .bad
section
variable {o o' : D → D → Sta → Option D} {f g h : Env → M D} {Q : Res D → Prop} {fs : Env → M (List D)} {t u : Env → M Bool} {x : D} {QB : Res Bool → Prop} {QL : Res (List D) → Prop} {QO : Res (Option Int) → Prop} {b : Bool}
@[simp] theorem kOp2a_ok : kOp2a o g env Q (.ok x st) = evM g env st (kOp1 (o x) Q) := by with_unfolding_all exact id rfl
@[simp] theorem kOp2a_exc : kOp2a o g env Q (.exc e st) = Q (.exc e st) := by with_unfolding_all exact id rfl
@[simp] theorem kOp2a_bad : kOp2a o g env Q .bad = Q .bad := by with_unfolding_all exact id rfl
@[simp] theorem evM_op2 : evM (op2 o f g) env st Q = evM f env st (kOp2a o g env Q) := by
  with_unfolding_all
    show Q ((f env >>= fun x => g env >>= fun y => M.rd (o x y)) st) = _
    unfold evM
    rw [bind_st]
    cases f env st with
    | ok x st1 => exact evM_bind_rd (f := g) (o := o x)
    | exc _ _ => rfl
    | bad => rfl
@[simp] theorem evM_op1 {o : D → Sta → Option D} : evM (op1 o f) env st Q = evM f env st (kOp1 o Q) := by with_unfolding_all exact evM_bind_rd
@[simp] theorem evM_opN {o : List D → Sta → Option D} : evM (opN o fs) env st Q = evM fs env st (kOp1 o Q) := by with_unfolding_all exact evM_bind_rd
@[simp] theorem evM_itO {o : D → Sta → Option (List D)} : evM (itO o f) env st QL = evM f env st (kOp1 o QL) := by with_unfolding_all exact evM_bind_rd
@[simp] theorem evM_itN {o : List D → Sta → Option (List D)} : evM (itN o fs) env st QL = evM fs env st (kOp1 o QL) := by with_unfolding_all exact evM_bind_rd
def truthO (x : D) (_ : Sta) : Option Bool := truth x
def asBO (x : D) (_ : Sta) : Option Bool := asB x
def dispO (ds : List D) (_ : Sta) : Option (List D) := if ds.length ≤ sizeLine then some ds else none
@[simp] theorem truthO_eq : truthO x st = truth x := by with_unfolding_all exact id rfl
@[simp] theorem asBO_eq : asBO x st = asB x := by with_unfolding_all exact id rfl
@[simp] theorem dispO_nil : dispO [] st = some [] := if_pos (Nat.zero_le sizeLine)
theorem dispO_of {ds : List D} (h : ds.length ≤ 1000) : dispO ds st = some ds := by with_unfolding_all (unfold dispO; rw [if_pos (small_le h)])
@[simp] theorem dispO_1 {a : D} : dispO [a] st = some [a] := dispO_of (by simp)
@[simp] theorem dispO_2 {a b : D} : dispO [a, b] st = some [a, b] := dispO_of (by simp)
@[simp] theorem dispO_3 {a b c : D} : dispO [a, b, c] st = some [a, b, c] := dispO_of (by simp)
@[simp] theorem dispO_4 {a b c d : D} : dispO [a, b, c, d] st = some [a, b, c, d] := dispO_of (by simp)
@[simp] theorem evM_tst : evM (tst f) env st QB = evM f env st (kOp1 truthO QB) := by with_unfolding_all exact evM_bind_rd
@[simp] theorem evM_tBool : evM (tBool f) env st QB = evM f env st (kOp1 asBO QB) := by with_unfolding_all exact evM_bind_rd
@[simp] theorem evM_dispL : evM (dispL fs) env st QL = evM fs env st (kOp1 dispO QL) := by with_unfolding_all exact evM_bind_rd
@[simp] theorem evM_cn : evM (cn d) env st Q = Q (.ok d st) := by with_unfolding_all exact id rfl
def kV (o : Option (Option SV)) (st : Sta) (Q : Res D → Prop) : Prop := match o with
  | some (some (.fro d)) => Q (.ok d st)
  | _ => Q .bad
@[simp] theorem kV_fro : kV (some (some (.fro d))) st Q = Q (.ok d st) := by with_unfolding_all exact id rfl
@[simp] theorem kV_none : kV none st Q = Q .bad := by with_unfolding_all exact id rfl
@[simp] theorem kV_some_none : kV (some none) st Q = Q .bad := by with_unfolding_all exact id rfl
@[simp] theorem kV_own {c : Cell} : kV (some (some (.own c))) st Q = Q .bad := by with_unfolding_all exact id rfl
@[simp] theorem evM_vr {i : Nat} : evM (vr i) env st Q = kV env[i]? st Q := by
  with_unfolding_all
    unfold evM kV
    rw [vr_st]
    cases env[i]? with
    | none => rfl
    | some o => cases o with
      | none => rfl
      | some v => cases v <;> rfl
@[simp] theorem evM_yes : evM yes env st QB = QB (.ok true st) := by with_unfolding_all exact id rfl
@[simp] theorem evM_args0 : evM args0 env st QL = QL (.ok [] st) := by with_unfolding_all exact id rfl
def kArg2 (x : D) (Q : Res (List D) → Prop) : Res (List D) → Prop
  | .ok xs st => Q (.ok (x :: xs) st)
  | .exc e st => Q (.exc e st)
  | .bad => Q .bad
def kArg (fs : Env → M (List D)) (env : Env) (Q : Res (List D) → Prop) : Res D → Prop
  | .ok x st => evM fs env st (kArg2 x Q)
  | .exc e st => Q (.exc e st)
  | .bad => Q .bad
@[simp] theorem kArg2_ok {xs : List D} : kArg2 x QL (.ok xs st) = QL (.ok (x :: xs) st) := by with_unfolding_all exact id rfl
@[simp] theorem kArg2_exc : kArg2 x QL (.exc e st) = QL (.exc e st) := by with_unfolding_all exact id rfl
@[simp] theorem kArg2_bad : kArg2 x QL .bad = QL .bad := by with_unfolding_all exact id rfl
@[simp] theorem kArg_ok : kArg fs env QL (.ok x st) = evM fs env st (kArg2 x QL) := by with_unfolding_all exact id rfl
@[simp] theorem kArg_exc : kArg fs env QL (.exc e st) = QL (.exc e st) := by with_unfolding_all exact id rfl
@[simp] theorem kArg_bad : kArg fs env QL .bad = QL .bad := by with_unfolding_all exact id rfl
@[simp] theorem evM_argsC : evM (argsC f fs) env st QL = evM f env st (kArg fs env QL) := by
  with_unfolding_all
    unfold evM
    rw [argsC_st]
    cases f env st with
    | ok x st1 =>
      rw [rb_ok2, kArg_ok]
      unfold evM
      cases fs env st1 <;> rfl
    | exc _ _ => rfl
    | bad => rfl
def kNot (Q : Res Bool → Prop) : Res Bool → Prop
  | .ok b st => Q (.ok (!b) st)
  | .exc e st => Q (.exc e st)
  | .bad => Q .bad
@[simp] theorem kNot_ok : kNot QB (.ok b st) = QB (.ok (!b) st) := by with_unfolding_all exact id rfl
@[simp] theorem kNot_exc : kNot QB (.exc e st) = QB (.exc e st) := by with_unfolding_all exact id rfl
@[simp] theorem kNot_bad : kNot QB .bad = QB .bad := by with_unfolding_all exact id rfl
@[simp] theorem evM_mNot : evM (mNot t) env st QB = evM t env st (kNot QB) := by
  with_unfolding_all
    unfold evM
    rw [mNot_st]
    cases t env st <;> rfl
def kAnd (u : Env → M Bool) (env : Env) (Q : Res Bool → Prop) : Res Bool → Prop
  | .ok b st => if b = true then evM u env st Q else Q (.ok false st)
  | .exc e st => Q (.exc e st)
  | .bad => Q .bad
@[simp] theorem kAnd_ok : kAnd u env QB (.ok b st) = if b = true then evM u env st QB else QB (.ok false st) := by with_unfolding_all exact id rfl
@[simp] theorem kAnd_exc : kAnd u env QB (.exc e st) = QB (.exc e st) := by with_unfolding_all exact id rfl
@[simp] theorem kAnd_bad : kAnd u env QB .bad = QB .bad := by with_unfolding_all exact id rfl
@[simp] theorem evM_mAnd : evM (mAnd t u) env st QB = evM t env st (kAnd u env QB) := by
  with_unfolding_all
    unfold evM
    rw [mAnd_st]
    cases t env st with
    | ok b st1 => cases b <;> rfl
    | exc _ _ => rfl
    | bad => rfl
def kOr (u : Env → M Bool) (env : Env) (Q : Res Bool → Prop) : Res Bool → Prop
  | .ok b st => if b = true then Q (.ok true st) else evM u env st Q
  | .exc e st => Q (.exc e st)
  | .bad => Q .bad
@[simp] theorem kOr_ok : kOr u env QB (.ok b st) = if b = true then QB (.ok true st) else evM u env st QB := by with_unfolding_all exact id rfl
@[simp] theorem kOr_exc : kOr u env QB (.exc e st) = QB (.exc e st) := by with_unfolding_all exact id rfl
@[simp] theorem kOr_bad : kOr u env QB .bad = QB .bad := by with_unfolding_all exact id rfl
@[simp] theorem evM_mOr : evM (mOr t u) env st QB = evM t env st (kOr u env QB) := by
  with_unfolding_all
    unfold evM
    rw [mOr_st]
    cases t env st with
    | ok b st1 => cases b <;> rfl
    | exc _ _ => rfl
    | bad => rfl
def kAndV (g : Env → M D) (env : Env) (Q : Res D → Prop) : Res Bool → Prop
  | .ok b st => if b = true then evM g env st Q else Q (.ok (.bl false) st)
  | .exc e st => Q (.exc e st)
  | .bad => Q .bad
@[simp] theorem kAndV_ok : kAndV g env Q (.ok b st) = if b = true then evM g env st Q else Q (.ok (.bl false) st) := by with_unfolding_all exact id rfl
@[simp] theorem kAndV_exc : kAndV g env Q (.exc e st) = Q (.exc e st) := by with_unfolding_all exact id rfl
@[simp] theorem kAndV_bad : kAndV g env Q .bad = Q .bad := by with_unfolding_all exact id rfl
theorem evM_tB {k : Bool → M D} {K : Res Bool → Prop} (hk : ∀ b st, Q (k b st) = K (.ok b st)) (he : ∀ e st, Q (.exc e st) = K (.exc e st)) (hb : Q .bad = K .bad) : Q ((tBool f env >>= k) st) = evM f env st (kOp1 asBO K) := by
  with_unfolding_all
    rw [bind_st, tBool_st]
    unfold evM
    cases f env st with
    | ok x st1 =>
      rw [rb_ok, kOp1_ok, rd_st]
      show _ = kO (asB x) st1 K
      cases asB x with
      | none => exact hb
      | some b => exact hk b st1
    | exc e st1 => exact he e st1
    | bad => exact hb
@[simp] theorem evM_mAndV : evM (mAndV f g) env st Q = evM f env st (kOp1 asBO (kAndV g env Q)) := by with_unfolding_all exact evM_tB (fun b st => by cases b <;> rfl) (fun _ _ => rfl) rfl
def kNotV (Q : Res D → Prop) : Res Bool → Prop
  | .ok b st => Q (.ok (.bl (!b)) st)
  | .exc e st => Q (.exc e st)
  | .bad => Q .bad
@[simp] theorem kNotV_ok : kNotV Q (.ok b st) = Q (.ok (.bl (!b)) st) := by with_unfolding_all exact id rfl
@[simp] theorem kNotV_exc : kNotV Q (.exc e st) = Q (.exc e st) := by with_unfolding_all exact id rfl
@[simp] theorem kNotV_bad : kNotV Q .bad = Q .bad := by with_unfolding_all exact id rfl
@[simp] theorem evM_mNotV : evM (mNotV f) env st Q = evM f env st (kOp1 asBO (kNotV Q)) := by with_unfolding_all exact evM_tB (fun b st => rfl) (fun _ _ => rfl) rfl
def kIfE (f g : Env → M α) (env : Env) (Q : Res α → Prop) : Res Bool → Prop
  | .ok b st => if b = true then evM f env st Q else evM g env st Q
  | .exc e st => Q (.exc e st)
  | .bad => Q .bad
@[simp] theorem kIfE_ok {f g : Env → M α} {Q : Res α → Prop} : kIfE f g env Q (.ok b st) = if b = true then evM f env st Q else evM g env st Q := by with_unfolding_all exact id rfl
@[simp] theorem kIfE_exc {f g : Env → M α} {Q : Res α → Prop} : kIfE f g env Q (.exc e st) = Q (.exc e st) := by with_unfolding_all exact id rfl
@[simp] theorem kIfE_bad {f g : Env → M α} {Q : Res α → Prop} : kIfE f g env Q .bad = Q .bad := by with_unfolding_all exact id rfl
@[simp] theorem evM_mIf {f g : Env → M α} {Q : Res α → Prop} : evM (mIf t f g) env st Q = evM t env st (kIfE f g env Q) := by
  with_unfolding_all
    unfold evM
    rw [mIf_st]
    cases t env st with
    | ok b st1 => cases b <;> rfl
    | exc _ _ => rfl
    | bad => rfl
def kCh3 (o' : D → D → Sta → Option D) (y : D) (h : Env → M D) (env : Env) (Q : Res D → Prop) : Res Bool → Prop
  | .ok b st => if b = true then evM h env st (kOp1 (o' y) Q) else Q (.ok (.bl false) st)
  | .exc e st => Q (.exc e st)
  | .bad => Q .bad
def kCh2 (o o' : D → D → Sta → Option D) (x : D) (h : Env → M D) (env : Env) (Q : Res D → Prop) : Res D → Prop
  | .ok y st => kO (o x y st) st (kOp1 asBO (kCh3 o' y h env Q))
  | .exc e st => Q (.exc e st)
  | .bad => Q .bad
def kCh1 (o o' : D → D → Sta → Option D) (g h : Env → M D) (env : Env) (Q : Res D → Prop) : Res D → Prop
  | .ok x st => evM g env st (kCh2 o o' x h env Q)
  | .exc e st => Q (.exc e st)
  | .bad => Q .bad
@[simp] theorem kCh3_ok {y : D} : kCh3 o' y h env Q (.ok b st) = if b = true then evM h env st (kOp1 (o' y) Q) else Q (.ok (.bl false) st) := by with_unfolding_all exact id rfl
@[simp] theorem kCh3_exc {y : D} : kCh3 o' y h env Q (.exc e st) = Q (.exc e st) := by with_unfolding_all exact id rfl
@[simp] theorem kCh3_bad {y : D} : kCh3 o' y h env Q .bad = Q .bad := by with_unfolding_all exact id rfl
@[simp] theorem kCh2_ok {y : D} : kCh2 o o' x h env Q (.ok y st) = kO (o x y st) st (kOp1 asBO (kCh3 o' y h env Q)) := by with_unfolding_all exact id rfl
@[simp] theorem kCh2_exc : kCh2 o o' x h env Q (.exc e st) = Q (.exc e st) := by with_unfolding_all exact id rfl
@[simp] theorem kCh2_bad : kCh2 o o' x h env Q .bad = Q .bad := by with_unfolding_all exact id rfl
@[simp] theorem kCh1_ok : kCh1 o o' g h env Q (.ok x st) = evM g env st (kCh2 o o' x h env Q) := by with_unfolding_all exact id rfl
@[simp] theorem kCh1_exc : kCh1 o o' g h env Q (.exc e st) = Q (.exc e st) := by with_unfolding_all exact id rfl
@[simp] theorem kCh1_bad : kCh1 o o' g h env Q .bad = Q .bad := by with_unfolding_all exact id rfl
@[simp] theorem evM_mChain : evM (mChain o o' f g h) env st Q = evM f env st (kCh1 o o' g h env Q) := by
  with_unfolding_all
    unfold evM
    rw [mChain_st]
    cases f env st with
    | ok x st1 =>
      rw [rb_ok2, kCh1_ok]
      unfold evM
      cases g env st1 with
      | ok y st2 =>
        rw [rb_ok2, kCh2_ok, rd_st]
        cases o x y st2 with
        | none => rfl
        | some z =>
          rw [kO_some, kOp1_ok, asBO_eq, rb_ok2, rd_st]
          cases asB z with
          | none => rfl
          | some k =>
            rw [kO_some, kCh3_ok, rb_ok2]
            cases k with
            | false => rfl
            | true =>
              show Q ((h env st2).bind fun w => M.rd (o' y w)) = evM h env st2 (kOp1 (o' y) Q)
              exact evM_bind_rd
      | exc _ _ => rfl
      | bad => rfl
    | exc _ _ => rfl
    | bad => rfl
def kCall (F : List D → M D) (Q : Res D → Prop) : Res (List D) → Prop
  | .ok ds st => evR (F ds st) Q
  | .exc e st => Q (.exc e st)
  | .bad => Q .bad
@[simp] theorem kCall_ok {F : List D → M D} {ds : List D} : kCall F Q (.ok ds st) = evR (F ds st) Q := by with_unfolding_all exact id rfl
@[simp] theorem kCall_exc {F : List D → M D} : kCall F Q (.exc e st) = Q (.exc e st) := by with_unfolding_all exact id rfl
@[simp] theorem kCall_bad {F : List D → M D} : kCall F Q .bad = Q .bad := by with_unfolding_all exact id rfl
@[simp] theorem evM_mCall {F : List D → M D} : evM (mCall fs F) env st Q = evM fs env st (kCall F Q) := by
  with_unfolding_all
    unfold evM
    rw [mCall_st]
    cases fs env st <;> rfl
def kLstF (Q : Res D → Prop) : Res (List D) → Prop
  | .ok ds st => Q (.ok (.lst ds) st)
  | .exc e st => Q (.exc e st)
  | .bad => Q .bad
@[simp] theorem kLstF_ok {ds : List D} : kLstF Q (.ok ds st) = Q (.ok (.lst ds) st) := by with_unfolding_all exact id rfl
@[simp] theorem kLstF_exc : kLstF Q (.exc e st) = Q (.exc e st) := by with_unfolding_all exact id rfl
@[simp] theorem kLstF_bad : kLstF Q .bad = Q .bad := by with_unfolding_all exact id rfl
@[simp] theorem evM_lstF : evM (lstF fs) env st Q = evM fs env st (kLstF Q) := by
  with_unfolding_all
    unfold evM
    rw [lstF_st]
    cases fs env st <;> rfl
section
variable {lo hi : Env → M (Option Int)} {l u : Option Int}
end
section
variable {vs vs1 : List Nat} {bind bind1 : Bnd} {t1 : Env → M Bool} {el : Env → M D} {it it1 : Env → M (List D)} {ds acc : List D}
def kLc (vs : List Nat) (bind : Bnd) (t : Env → M Bool) (el : Env → M D) (env : Env) (Q : Res (List D) → Prop) : Res (List D) → Prop
  | .ok ds st => evC vs bind t el env ds [] st Q
  | .exc e st => Q (.exc e st)
  | .bad => Q .bad
@[simp] theorem kLc_ok : kLc vs bind t el env QL (.ok ds st) = evC vs bind t el env ds [] st QL := by with_unfolding_all exact id rfl
@[simp] theorem kLc_exc : kLc vs bind t el env QL (.exc e st) = QL (.exc e st) := by with_unfolding_all exact id rfl
@[simp] theorem kLc_bad : kLc vs bind t el env QL .bad = QL .bad := by with_unfolding_all exact id rfl
@[simp] theorem evM_mLc : evM (mLc vs bind t el it) env st QL = evM it env st (kLc vs bind t el env QL) := by
  with_unfolding_all
    show QL ((it env >>= _) st) = _
    unfold evM
    rw [bind_st]
    cases it env st <;> rfl
@[simp] theorem evC_nil : evC vs bind t el env [] acc st QL = QL (.ok acc st) := by with_unfolding_all exact id rfl
def kLcE (vs : List Nat) (bind : Bnd) (t : Env → M Bool) (el : Env → M D) (env : Env) (ds acc : List D) (Q : Res (List D) → Prop) : Res D → Prop
  | .ok y st => if acc.length < sizeLine then evC vs bind t el env ds (acc ++ [y]) st Q else Q .bad
  | _ => Q .bad
def kLcT (vs : List Nat) (bind : Bnd) (t : Env → M Bool) (el : Env → M D) (env env1 : Env) (ds acc : List D) (Q : Res (List D) → Prop) : Res Bool → Prop
  | .ok b st => if b = true then evM el env1 st (kLcE vs bind t el env ds acc Q) else evC vs bind t el env ds acc st Q
  | _ => Q .bad
@[simp] theorem kLcE_ok : kLcE vs bind t el env ds acc QL (.ok x st) = if acc.length < sizeLine then evC vs bind t el env ds (acc ++ [x]) st QL else QL .bad := by with_unfolding_all exact id rfl
@[simp] theorem kLcT_ok : kLcT vs bind t el env env1 ds acc QL (.ok b st) = if b = true then evM el env1 st (kLcE vs bind t el env ds acc QL) else evC vs bind t el env ds acc st QL := by with_unfolding_all exact id rfl
theorem evC_cons (h : bind x (wipeE env vs) = some env1) : evC vs bind t el env (x :: ds) acc st QL = evM t env1 st (kLcT vs bind t el env env1 ds acc QL) := by
  with_unfolding_all
    show QL (lcGo vs bind t el env (x :: ds) acc st) = _
    unfold lcGo
    rw [h]
    dsimp only
    rw [bind_st]
    unfold evM noX
    cases t env1 st with
    | ok b st1 =>
      dsimp only
      rw [rb_ok, kLcT_ok]
      cases b with
      | false => rfl
      | true =>
        rw [if_pos rfl, if_pos rfl]
        show QL ((noX (el env1) >>= fun y => if acc.length < sizeLine then lcGo vs bind t el env ds (acc ++ [y]) else M.bad) st1) = kLcE vs bind t el env ds acc QL (el env1 st1)
        rw [bind_st]
        unfold noX
        cases el env1 st1 with
        | ok y st2 =>
          dsimp only
          rw [rb_ok, kLcE_ok]
          split <;> rfl
        | exc _ _ => rfl
        | bad => rfl
    | exc _ _ => rfl
    | bad => rfl
theorem evC_map {α : Type} {enc : α → D} {l : List α} {e1 : α → Env} {fv : α → D} (h : ∀ a ∈ l, bind (enc a) (wipeE env vs) = some (e1 a) ∧ evM t (e1 a) st (qEq (.ok true st)) ∧ evM el (e1 a) st (qEq (.ok (fv a) st))) : ∀ {acc : List D}, acc.length + l.length ≤ sizeLine →
    evC vs bind t el env (l.map enc) acc st QL = QL (.ok (acc ++ l.map fv) st) := by
  induction l with
  | nil => intro acc _; simp
  | cons a l ih =>
    intro acc hl
    obtain ⟨h1, h2, h3⟩ := h a (List.mem_cons_self ..)
    rw [List.length_cons] at hl
    rw [List.map_cons, evC_cons h1, evM_of (ev_res h2), kLcT_ok, if_pos rfl, evM_of (ev_res h3), kLcE_ok, if_pos (by omega), ih (fun a m => h a (List.mem_cons_of_mem _ m)) (by rw [List.length_append, List.length_singleton]; omega), List.append_assoc]
    rfl
theorem evC_fmap {α : Type} {enc : α → D} {l : List α} {e1 : α → Env} {p : α → Bool} {fv : α → D} (h : ∀ a ∈ l, bind (enc a) (wipeE env vs) = some (e1 a) ∧ evM t (e1 a) st (qEq (.ok (p a) st)) ∧ (p a = true → evM el (e1 a) st (qEq (.ok (fv a) st)))) : ∀ {acc : List D}, acc.length + (l.filter p).length ≤ sizeLine →
    evC vs bind t el env (l.map enc) acc st QL = QL (.ok (acc ++ (l.filter p).map fv) st) := by
  induction l with
  | nil => intro acc _; simp
  | cons a l ih =>
    intro acc hl
    obtain ⟨h1, h2, h3⟩ := h a (List.mem_cons_self ..)
    have ih' := fun (acc : List D) (q : acc.length + (l.filter p).length ≤ sizeLine) => ih (fun a m => h a (List.mem_cons_of_mem _ m)) (acc := acc) q
    rw [List.map_cons, evC_cons h1, evM_of (ev_res h2), kLcT_ok]
    rw [List.filter_cons] at hl
    cases q : p a with
    | true =>
      rw [q, if_pos rfl, List.length_cons] at hl
      rw [if_pos rfl, evM_of (ev_res (h3 q)), kLcE_ok, if_pos (by omega), ih' _ (by rw [List.length_append, List.length_singleton]; omega), List.append_assoc, List.filter_cons, if_pos q]
      rfl
    | false =>
      rw [q, if_neg Bool.false_ne_true] at hl
      rw [if_neg Bool.false_ne_true, ih' _ hl, List.filter_cons, if_neg (by rw [q]; exact Bool.false_ne_true)]
theorem small_f {α : Type} {l : List α} {p : α → Bool} (h : l.length ≤ 1000) : ([] : List D).length + (l.filter p).length ≤ sizeLine := by
  rw [List.length_nil, Nat.zero_add]
  exact small_le (Nat.le_trans (List.length_filter_le p l) h)
theorem small_m {α : Type} {l : List α} (h : l.length ≤ 1000) : ([] : List D).length + l.length ≤ sizeLine := by
  rw [List.length_nil, Nat.zero_add]
  exact small_le h
def kLc2 (vs vs1 : List Nat) (bind : Bnd) (t : Env → M Bool) (it1 : Env → M (List D)) (bind1 : Bnd) (t1 : Env → M Bool) (el : Env → M D) (env : Env) (Q : Res (List D) → Prop) : Res (List D) → Prop
  | .ok ds st => evC2 vs vs1 bind t it1 bind1 t1 el env ds [] st Q
  | .exc e st => Q (.exc e st)
  | .bad => Q .bad
@[simp] theorem kLc2_ok : kLc2 vs vs1 bind t it1 bind1 t1 el env QL (.ok ds st) = evC2 vs vs1 bind t it1 bind1 t1 el env ds [] st QL := by with_unfolding_all exact id rfl
@[simp] theorem evM_mLc2 : evM (mLc2 vs vs1 bind t it1 bind1 t1 el it) env st QL = evM it env st (kLc2 vs vs1 bind t it1 bind1 t1 el env QL) := by
  with_unfolding_all
    show QL ((it env >>= _) st) = _
    unfold evM
    rw [bind_st]
    cases it env st <;> rfl
@[simp] theorem evC2_nil : evC2 vs vs1 bind t it1 bind1 t1 el env [] acc st QL = QL (.ok acc st) := by with_unfolding_all exact id rfl
theorem evC2_flat {α : Type} {enc : α → D} {l : List α} {e1 : α → Env} {es : α → List D} {gs : α → List D} (h : ∀ a ∈ l, bind (enc a) (wipeE env vs) = some (e1 a) ∧ evM t (e1 a) st (qEq (.ok true st)) ∧ evM it1 (e1 a) st (qEq (.ok (es a) st)) ∧
      ∀ acc : List D, acc.length + (gs a).length ≤ sizeLine → evC vs1 bind1 t1 el (e1 a) (es a) acc st (qEq (.ok (acc ++ gs a) st))) : ∀ {acc : List D}, acc.length + (l.flatMap gs).length ≤ sizeLine →
    evC2 vs vs1 bind t it1 bind1 t1 el env (l.map enc) acc st QL = QL (.ok (acc ++ l.flatMap gs) st) := by
  induction l with
  | nil => intro acc _; simp
  | cons a l ih =>
    intro acc hl
    obtain ⟨h1, h2, h3, h4⟩ := h a (List.mem_cons_self ..)
    rw [List.flatMap_cons, List.length_append] at hl
    have h4' : lcGo vs1 bind1 t1 el (e1 a) (es a) acc st = .ok (acc ++ gs a) st := by with_unfolding_all exact h4 acc (by omega)
    have ih' := ih (fun a m => h a (List.mem_cons_of_mem _ m)) (acc := acc ++ gs a) (by rw [List.length_append]; omega)
    rw [List.map_cons]
    with_unfolding_all show QL (lcGo2 vs vs1 bind t it1 bind1 t1 el env (enc a :: l.map enc) acc st) = _
    unfold lcGo2
    rw [h1]
    dsimp only
    rw [bind_st, noX_ok (ev_res h2), rb_ok, if_pos rfl, bind_st, noX_ok (ev_res h3), rb_ok, bind_st, h4', rb_ok]
    refine Eq.trans (by with_unfolding_all exact ih') ?_
    rw [List.flatMap_cons, List.append_assoc]
end
section
variable {a b c body : SD} {Q : SR → Prop} {d x : D} {i j n : Nat} {tg : D → SD} {tgs : List D → SD} {ds l : List D} {k : Bool} {f g : Env → M D}
def kSeq (b : SD) (Q : SR → Prop) : SR → Prop
  | .nx e s => evS b e s Q
  | r => Q r
@[simp] theorem kSeq_nx : kSeq b Q (.nx env st) = evS b env st Q := by with_unfolding_all exact id rfl
@[simp] theorem kSeq_bk : kSeq b Q (.bk env st) = Q (.bk env st) := by with_unfolding_all exact id rfl
@[simp] theorem kSeq_ct : kSeq b Q (.ct env st) = Q (.ct env st) := by with_unfolding_all exact id rfl
@[simp] theorem kSeq_rt : kSeq b Q (.rt d st) = Q (.rt d st) := by with_unfolding_all exact id rfl
@[simp] theorem kSeq_exc : kSeq b Q (.exc e env st) = Q (.exc e env st) := by with_unfolding_all exact id rfl
@[simp] theorem kSeq_bad : kSeq b Q .bad = Q .bad := by with_unfolding_all exact id rfl
@[simp] theorem evS_seq : evS (sSeq a b) env st Q = evS a env st (kSeq b Q) := by
  with_unfolding_all
    unfold evS
    rw [sSeq_st]
    cases a env st <;> rfl
@[simp] theorem evS_next : evS sNext env st Q = Q (.nx env st) := by with_unfolding_all exact id rfl
def kRet (env : Env) (Q : SR → Prop) : Res D → Prop
  | .ok d st => Q (.rt d st)
  | .exc e st => Q (.exc e env st)
  | .bad => Q .bad
@[simp] theorem kRet_ok : kRet env Q (.ok d st) = Q (.rt d st) := by with_unfolding_all exact id rfl
@[simp] theorem kRet_exc : kRet env Q (.exc e st) = Q (.exc e env st) := by with_unfolding_all exact id rfl
@[simp] theorem kRet_bad : kRet env Q .bad = Q .bad := by with_unfolding_all exact id rfl
@[simp] theorem evS_ret : evS (sRet f) env st Q = evM f env st (kRet env Q) := by
  with_unfolding_all
    show Q (sRet f env st) = kRet env Q (f env st)
    rw [sRet_st]
    cases f env st <;> rfl
def kDrop (env : Env) (Q : SR → Prop) : Res D → Prop
  | .ok _ st => Q (.nx env st)
  | .exc e st => Q (.exc e env st)
  | .bad => Q .bad
@[simp] theorem kDrop_ok : kDrop env Q (.ok d st) = Q (.nx env st) := by with_unfolding_all exact id rfl
@[simp] theorem kDrop_exc : kDrop env Q (.exc e st) = Q (.exc e env st) := by with_unfolding_all exact id rfl
@[simp] theorem kDrop_bad : kDrop env Q .bad = Q .bad := by with_unfolding_all exact id rfl
@[simp] theorem evS_drop : evS (sDrop f) env st Q = evM f env st (kDrop env Q) := by
  with_unfolding_all
    show Q (sDrop f env st) = kDrop env Q (f env st)
    rw [sDrop_st]
    cases f env st <;> rfl
def kSet (i : Nat) (env : Env) (Q : SR → Prop) : Res D → Prop
  | .ok d st => Q (.nx (env.set i (some (.fro d))) st)
  | .exc e st => Q (.exc e env st)
  | .bad => Q .bad
@[simp] theorem kSet_ok : kSet i env Q (.ok d st) = Q (.nx (env.set i (some (.fro d))) st) := by with_unfolding_all exact id rfl
@[simp] theorem kSet_exc : kSet i env Q (.exc e st) = Q (.exc e env st) := by with_unfolding_all exact id rfl
@[simp] theorem kSet_bad : kSet i env Q .bad = Q .bad := by with_unfolding_all exact id rfl
@[simp] theorem evS_set : evS (sSet i f) env st Q = evM f env st (kSet i env Q) := by
  with_unfolding_all
    show Q (sSet i f env st) = kSet i env Q (f env st)
    rw [sSet_st]
    cases f env st <;> rfl
def kIf (a b : SD) (env : Env) (Q : SR → Prop) : Res Bool → Prop
  | .ok k st => if k = true then evS a env st Q else evS b env st Q
  | .exc e st => Q (.exc e env st)
  | .bad => Q .bad
@[simp] theorem kIf_ok : kIf a b env Q (.ok k st) = if k = true then evS a env st Q else evS b env st Q := by with_unfolding_all exact id rfl
@[simp] theorem kIf_exc : kIf a b env Q (.exc e st) = Q (.exc e env st) := by with_unfolding_all exact id rfl
@[simp] theorem kIf_bad : kIf a b env Q .bad = Q .bad := by with_unfolding_all exact id rfl
@[simp] theorem evS_if : evS (sIf t a b) env st Q = evM t env st (kIf a b env Q) := by
  with_unfolding_all
    show Q (sIf t a b env st) = kIf a b env Q (t env st)
    rw [sIf_st]
    cases t env st with
    | ok k st1 => cases k <;> rfl
    | exc _ _ => rfl
    | bad => rfl
def kOwn (i : Nat) (env : Env) (Q : SR → Prop) : Res (List D) → Prop
  | .ok l st => Q (.nx (env.set i (some (.own (.lst l)))) st)
  | .exc e st => Q (.exc e env st)
  | .bad => Q .bad
@[simp] theorem kOwn_ok : kOwn i env Q (.ok l st) = Q (.nx (env.set i (some (.own (.lst l)))) st) := by with_unfolding_all exact id rfl
@[simp] theorem kOwn_exc : kOwn i env Q (.exc e st) = Q (.exc e env st) := by with_unfolding_all exact id rfl
@[simp] theorem kOwn_bad : kOwn i env Q .bad = Q .bad := by with_unfolding_all exact id rfl
@[simp] theorem evS_own : evS (sOwn i fs) env st Q = evM fs env st (kOwn i env Q) := by
  with_unfolding_all
    show Q (sOwn i fs env st) = kOwn i env Q (fs env st)
    rw [sOwn_st]
    cases fs env st <;> rfl
def kCell (i : Nat) (env : Env) (Q : SR → Prop) : Res (List D) → Prop
  | .ok l st => Q (.nx (env.set i (some (.fro (.cell st.length)))) (st ++ [.lst l]))
  | .exc e st => Q (.exc e env st)
  | .bad => Q .bad
@[simp] theorem kCell_ok : kCell i env Q (.ok l st) = Q (.nx (env.set i (some (.fro (.cell st.length)))) (st ++ [.lst l])) := by with_unfolding_all exact id rfl
@[simp] theorem kCell_exc : kCell i env Q (.exc e st) = Q (.exc e env st) := by with_unfolding_all exact id rfl
@[simp] theorem kCell_bad : kCell i env Q .bad = Q .bad := by with_unfolding_all exact id rfl
@[simp] theorem evS_cell : evS (sCell i fs) env st Q = evM fs env st (kCell i env Q) := by
  with_unfolding_all
    show Q (sCell i fs env st) = kCell i env Q (fs env st)
    rw [sCell_st]
    cases fs env st <;> rfl
@[simp] theorem evS_frz : evS (sFrz i a) env st Q = evS a (frz i env) st Q := by with_unfolding_all exact id rfl
def kApp (l : List D) (i : Nat) (env : Env) (Q : SR → Prop) : Res D → Prop
  | .ok d st => if l.length < sizeLine then Q (.nx (env.set i (some (.own (.lst (l ++ [d]))))) st) else Q .bad
  | .exc e st => Q (.exc e env st)
  | .bad => Q .bad
@[simp] theorem kApp_ok : kApp l i env Q (.ok d st) = if l.length < sizeLine then Q (.nx (env.set i (some (.own (.lst (l ++ [d]))))) st) else Q .bad := by with_unfolding_all exact id rfl
@[simp] theorem kApp_exc : kApp l i env Q (.exc e st) = Q (.exc e env st) := by with_unfolding_all exact id rfl
@[simp] theorem kApp_bad : kApp l i env Q .bad = Q .bad := by with_unfolding_all exact id rfl
def kAppO (o : Option (List D)) (i : Nat) (f : Env → M D) (env : Env) (st : Sta) (Q : SR → Prop) : Prop := match o with
  | some l => evM f env st (kApp l i env Q)
  | none => Q .bad
@[simp] theorem kAppO_some : kAppO (some l) i f env st Q = evM f env st (kApp l i env Q) := by with_unfolding_all exact id rfl
@[simp] theorem evS_app : evS (sAppO i f) env st Q = kAppO (ownL env i) i f env st Q := by
  with_unfolding_all
    show Q (sAppO i f env st) = _
    rw [sAppO_st]
    unfold kAppO
    cases ownL env i with
    | none => rfl
    | some l =>
      show _ = kApp l i env Q (f env st)
      cases f env st with
      | ok d st1 =>
        rw [kApp_ok]
        dsimp only
        split <;> rfl
      | exc _ _ => rfl
      | bad => rfl
def kTg (b : SD) (Q : SR → Prop) : SR → Prop
  | .nx e s => evS b e s Q
  | _ => Q .bad
@[simp] theorem kTg_nx : kTg b Q (.nx env st) = evS b env st Q := by with_unfolding_all exact id rfl
@[simp] theorem kTg_bad : kTg b Q .bad = Q .bad := by with_unfolding_all exact id rfl
@[simp] theorem evS_aName : evS (aName i d) env st Q = Q (.nx (env.set i (some (.fro d))) st) := by with_unfolding_all exact id rfl
@[simp] theorem evS_aTup : evS (aTup n tgs (.tup ds)) env st Q = if ds.length = n then evS (tgs ds) env st Q else Q .bad := by
  with_unfolding_all
    unfold evS
    rw [aTup_st]
    split <;> rfl
@[simp] theorem evS_aCons : evS (aCons tg tgs (d :: ds)) env st Q = evS (tg d) env st (kTg (tgs ds) Q) := by
  with_unfolding_all
    unfold evS
    rw [aCons_st]
    cases tg d env st <;> rfl
@[simp] theorem evS_aNil : evS (aNil []) env st Q = Q (.nx env st) := by with_unfolding_all exact id rfl
def kT1 (Q : SR → Prop) : SR → Prop
  | .nx e s => Q (.nx e s)
  | _ => Q .bad
@[simp] theorem kT1_nx : kT1 Q (.nx env st) = Q (.nx env st) := by with_unfolding_all exact id rfl
@[simp] theorem kT1_bad : kT1 Q .bad = Q .bad := by with_unfolding_all exact id rfl
def kAsg (c : D → SD) (env : Env) (Q : SR → Prop) : Res D → Prop
  | .ok d st => evS (c d) env st (kT1 Q)
  | .exc e st => Q (.exc e env st)
  | .bad => Q .bad
@[simp] theorem kAsg_ok : kAsg tg env Q (.ok d st) = evS (tg d) env st (kT1 Q) := by with_unfolding_all exact id rfl
@[simp] theorem kAsg_exc : kAsg tg env Q (.exc e st) = Q (.exc e env st) := by with_unfolding_all exact id rfl
@[simp] theorem kAsg_bad : kAsg tg env Q .bad = Q .bad := by with_unfolding_all exact id rfl
@[simp] theorem evS_asg : evS (sAsg f tg) env st Q = evM f env st (kAsg tg env Q) := by
  with_unfolding_all
    show Q (sAsg f tg env st) = kAsg tg env Q (f env st)
    rw [sAsg_st]
    cases f env st with
    | ok d st1 =>
      show Q (match tg d env st1 with
        | .nx env' st' => .nx env' st'
        | _ => .bad) = kT1 Q (tg d env st1)
      cases tg d env st1 <;> rfl
    | exc _ _ => rfl
    | bad => rfl
def kPar2 (i j : Nat) (x : D) (env : Env) (Q : SR → Prop) : Res D → Prop
  | .ok y st => Q (.nx ((env.set i (some (.fro x))).set j (some (.fro y))) st)
  | .exc e st => Q (.exc e env st)
  | .bad => Q .bad
def kPar (i j : Nat) (g : Env → M D) (env : Env) (Q : SR → Prop) : Res D → Prop
  | .ok x st => evM g env st (kPar2 i j x env Q)
  | .exc e st => Q (.exc e env st)
  | .bad => Q .bad
@[simp] theorem kPar2_ok : kPar2 i j x env Q (.ok d st) = Q (.nx ((env.set i (some (.fro x))).set j (some (.fro d))) st) := by with_unfolding_all exact id rfl
@[simp] theorem kPar2_exc : kPar2 i j x env Q (.exc e st) = Q (.exc e env st) := by with_unfolding_all exact id rfl
@[simp] theorem kPar2_bad : kPar2 i j x env Q .bad = Q .bad := by with_unfolding_all exact id rfl
@[simp] theorem kPar_ok : kPar i j g env Q (.ok x st) = evM g env st (kPar2 i j x env Q) := by with_unfolding_all exact id rfl
@[simp] theorem kPar_exc : kPar i j g env Q (.exc e st) = Q (.exc e env st) := by with_unfolding_all exact id rfl
@[simp] theorem kPar_bad : kPar i j g env Q .bad = Q .bad := by with_unfolding_all exact id rfl
@[simp] theorem evS_par : evS (sPar i j f g) env st Q = evM f env st (kPar i j g env Q) := by
  with_unfolding_all
    show Q (sPar i j f g env st) = kPar i j g env Q (f env st)
    rw [sPar_st]
    cases f env st with
    | ok x st1 =>
      show Q (match g env st1 with
        | .ok y st' => .nx ((env.set i (some (.fro x))).set j (some (.fro y))) st'
        | .exc e st' => .exc e env st'
        | .bad => .bad) = kPar2 i j x env Q (g env st1)
      cases g env st1 <;> rfl
    | exc _ _ => rfl
    | bad => rfl
def kSubC3 (c : Nat) (l : List D) (d : D) (o : Option Nat) (env : Env) (st : Sta) (Q : SR → Prop) : Prop := match o with
  | some j => Q (.nx env (st.set c (.lst (l.set j d))))
  | none => Q .bad
@[simp] theorem kSubC3_some {c : Nat} : kSubC3 c l d (some j) env st Q = Q (.nx env (st.set c (.lst (l.set j d)))) := by with_unfolding_all exact id rfl
def kSubC2 (c : Nat) (z : Int) (d : D) (o : Option Cell) (env : Env) (st : Sta) (Q : SR → Prop) : Prop := match o with
  | some (.lst l) => kSubC3 c l d (ixN l.length z) env st Q
  | _ => Q .bad
@[simp] theorem kSubC2_some {c : Nat} {z : Int} : kSubC2 c z d (some (.lst l)) env st Q = kSubC3 c l d (ixN l.length z) env st Q := by with_unfolding_all exact id rfl
def kSubC1 (c : D) (d : D) (env : Env) (Q : SR → Prop) : Res D → Prop
  | .ok k st => (match c, k with
    | .cell n, .int z => kSubC2 n z d st[n]? env st Q
    | _, _ => Q .bad)
  | .exc e st => Q (.exc e env st)
  | .bad => Q .bad
@[simp] theorem kSubC1_ok {z : Int} : kSubC1 (.cell n) d env Q (.ok (.int z) st) = kSubC2 n z d st[n]? env st Q := by with_unfolding_all exact id rfl
def kSubC (ix : Env → M D) (d : D) (env : Env) (Q : SR → Prop) : Res D → Prop
  | .ok c st => evM ix env st (kSubC1 c d env Q)
  | .exc e st => Q (.exc e env st)
  | .bad => Q .bad
@[simp] theorem kSubC_ok : kSubC f d env Q (.ok x st) = evM f env st (kSubC1 x d env Q) := by with_unfolding_all exact id rfl
@[simp] theorem evS_aSubC : evS (aSubC f g d) env st Q = evM f env st (kSubC g d env Q) := by
  with_unfolding_all
    show Q (aSubC f g d env st) = kSubC g d env Q (f env st)
    rw [aSubC_st]
    cases f env st with
    | ok c st1 =>
      show _ = kSubC1 c d env Q (g env st1)
      dsimp only
      cases g env st1 with
      | ok k st2 =>
        cases c with
        | cell n =>
          cases k with
          | int z =>
            rw [kSubC1_ok]
            unfold kSubC2
            dsimp only
            cases st2[n]? with
            | none => rfl
            | some cc => cases cc with
              | lst l =>
                dsimp only
                unfold kSubC3
                cases ixN l.length z <;> rfl
              | _ => rfl
          | _ => rfl
        | _ => rfl
      | exc _ _ => cases c <;> rfl
      | bad => cases c <;> rfl
    | exc _ _ => rfl
    | bad => rfl
@[simp] theorem evS_raise0 {c : Str} : evS (sRaise0 c) env st Q = Q (.exc ⟨c, []⟩ env st) := by with_unfolding_all exact id rfl
def kRaise (c : Str) (names : List Str) (env : Env) (Q : SR → Prop) : Res (List D) → Prop
  | .ok ds st => if ds.length = names.length then Q (.exc ⟨c, (names.zip ds).reverse⟩ env st) else Q .bad
  | .exc e st => Q (.exc e env st)
  | .bad => Q .bad
@[simp] theorem kRaise_ok {c : Str} {names : List Str} : kRaise c names env Q (.ok ds st) = if ds.length = names.length then Q (.exc ⟨c, (names.zip ds).reverse⟩ env st) else Q .bad := by with_unfolding_all exact id rfl
@[simp] theorem kRaise_exc {c : Str} {names : List Str} : kRaise c names env Q (.exc e st) = Q (.exc e env st) := by with_unfolding_all exact id rfl
@[simp] theorem kRaise_bad {c : Str} {names : List Str} : kRaise c names env Q .bad = Q .bad := by with_unfolding_all exact id rfl
@[simp] theorem evS_raise {c : Str} {names : List Str} : evS (sRaise c names fs) env st Q = evM fs env st (kRaise c names env Q) := by
  with_unfolding_all
    show Q (sRaise c names fs env st) = kRaise c names env Q (fs env st)
    rw [sRaise_st]
    cases fs env st with
    | ok ds st1 =>
      rw [kRaise_ok]
      dsimp only
      split <;> rfl
    | exc _ _ => rfl
    | bad => rfl
def kTry (top : Str) (errs : List Str) (hs : List HdD) (Q : SR → Prop) : SR → Prop
  | .exc e env st => evS (sHds top errs e hs) env st Q
  | r => Q r
section
variable {top : Str} {errs : List Str} {hs : List HdD} {hd : HdD}
@[simp] theorem kTry_nx : kTry top errs hs Q (.nx env st) = Q (.nx env st) := by with_unfolding_all exact id rfl
@[simp] theorem kTry_bk : kTry top errs hs Q (.bk env st) = Q (.bk env st) := by with_unfolding_all exact id rfl
@[simp] theorem kTry_ct : kTry top errs hs Q (.ct env st) = Q (.ct env st) := by with_unfolding_all exact id rfl
@[simp] theorem kTry_rt : kTry top errs hs Q (.rt d st) = Q (.rt d st) := by with_unfolding_all exact id rfl
@[simp] theorem kTry_bad : kTry top errs hs Q .bad = Q .bad := by with_unfolding_all exact id rfl
@[simp] theorem kTry_exc : kTry top errs hs Q (.exc e env st) = evS (sHds top errs e hs) env st Q := by with_unfolding_all exact id rfl
@[simp] theorem evS_try : evS (sTry top errs a hs) env st Q = evS a env st (kTry top errs hs Q) := by
  with_unfolding_all
    unfold evS sTry
    cases a env st <;> rfl
@[simp] theorem evS_hds_nil : evS (sHds top errs e []) env st Q = Q (.exc e env st) := by with_unfolding_all exact id rfl
def kClr (s : Option Nat) (Q : SR → Prop) (r : SR) : Prop := Q (clrR s r)
@[simp] theorem kClr_nx {s : Option Nat} : kClr s Q (.nx env st) = Q (.nx (clrE env s) st) := by with_unfolding_all exact id rfl
@[simp] theorem kClr_rt {s : Option Nat} : kClr s Q (.rt d st) = Q (.rt d st) := by with_unfolding_all exact id rfl
@[simp] theorem kClr_bad {s : Option Nat} : kClr s Q .bad = Q .bad := by with_unfolding_all exact id rfl
@[simp] theorem clrE_none : clrE env none = env := by with_unfolding_all exact id rfl
@[simp] theorem clrE_some : clrE env (some i) = env.set i none := by with_unfolding_all exact id rfl
@[simp] theorem evS_hds_cons : evS (sHds top errs e (hd :: hs)) env st Q = if errs.contains e.c = true then (if isSub top e.c hd.c = true then (if slotOk hd.slot env = true then evS (hd.f e) (clrE env hd.slot) st (kClr hd.slot Q) else Q .bad) else evS (sHds top errs e hs) env st Q) else Q .bad := by
  with_unfolding_all
    show Q (if errs.contains e.c then (if isSub top e.c hd.c then (if slotOk hd.slot env then clrR hd.slot (hd.f e (clrE env hd.slot) st) else .bad) else sHds top errs e hs env st) else .bad) = _
    split
    · split
      · split <;> rfl
      · rfl
    · rfl
end
@[simp] theorem slotOk_none : slotOk none env = true := by with_unfolding_all exact id rfl
@[simp] theorem slotOk_some : slotOk (some i) env = decide (i < env.length) := by with_unfolding_all exact id rfl
def kFor (tg : D → SD) (body : SD) (env : Env) (Q : SR → Prop) : Res (List D) → Prop
  | .ok ds st => evL tg body ds env st Q
  | .exc e st => Q (.exc e env st)
  | .bad => Q .bad
@[simp] theorem kFor_ok : kFor tg body env Q (.ok ds st) = evL tg body ds env st Q := by with_unfolding_all exact id rfl
@[simp] theorem kFor_exc : kFor tg body env Q (.exc e st) = Q (.exc e env st) := by with_unfolding_all exact id rfl
@[simp] theorem kFor_bad : kFor tg body env Q .bad = Q .bad := by with_unfolding_all exact id rfl
@[simp] theorem evS_for : evS (sFor fs tg body) env st Q = evM fs env st (kFor tg body env Q) := by
  with_unfolding_all
    show Q (sFor fs tg body env st) = kFor tg body env Q (fs env st)
    rw [sFor_st]
    cases fs env st <;> rfl
@[simp] theorem evL_nil : evL tg body [] env st Q = Q (.nx env st) := by with_unfolding_all exact id rfl
def kL2 (tg : D → SD) (body : SD) (ds : List D) (Q : SR → Prop) : SR → Prop
  | .nx e s => evL tg body ds e s Q
  | .ct e s => evL tg body ds e s Q
  | .bk e s => Q (.nx e s)
  | r => Q r
@[simp] theorem kL2_nx : kL2 tg body ds Q (.nx env st) = evL tg body ds env st Q := by with_unfolding_all exact id rfl
@[simp] theorem kL2_ct : kL2 tg body ds Q (.ct env st) = evL tg body ds env st Q := by with_unfolding_all exact id rfl
@[simp] theorem kL2_bk : kL2 tg body ds Q (.bk env st) = Q (.nx env st) := by with_unfolding_all exact id rfl
@[simp] theorem kL2_rt : kL2 tg body ds Q (.rt d st) = Q (.rt d st) := by with_unfolding_all exact id rfl
@[simp] theorem kL2_exc : kL2 tg body ds Q (.exc e env st) = Q (.exc e env st) := by with_unfolding_all exact id rfl
@[simp] theorem kL2_bad : kL2 tg body ds Q .bad = Q .bad := by with_unfolding_all exact id rfl
theorem evL_cons : evL tg body (x :: ds) env st Q = evS (tg x) env st (kTg body (kL2 tg body ds Q)) := by
  with_unfolding_all
    unfold evL evS
    show Q (match tg x env st with
      | .nx env1 st1 => (match body env1 st1 with
        | .nx env2 st2 => sLoop tg body ds env2 st2
        | .ct env2 st2 => sLoop tg body ds env2 st2
        | .bk env2 st2 => .nx env2 st2
        | r => r)
      | _ => .bad) = _
    cases tg x env st with
    | nx env1 st1 =>
      show _ = kL2 tg body ds Q (body env1 st1)
      dsimp only
      cases body env1 st1 <;> rfl
    | _ => rfl
def kI (I : Env → Sta → Prop) (Q : SR → Prop) : SR → Prop
  | .nx e s => I e s
  | .ct e s => I e s
  | .bk e s => Q (.nx e s)
  | r => Q r
section
variable {I : Env → Sta → Prop}
@[simp] theorem kI_nx : kI I Q (.nx env st) = I env st := by with_unfolding_all exact id rfl
@[simp] theorem kI_ct : kI I Q (.ct env st) = I env st := by with_unfolding_all exact id rfl
@[simp] theorem kI_bk : kI I Q (.bk env st) = Q (.nx env st) := by with_unfolding_all exact id rfl
@[simp] theorem kI_rt : kI I Q (.rt d st) = Q (.rt d st) := by with_unfolding_all exact id rfl
@[simp] theorem kI_exc : kI I Q (.exc e env st) = Q (.exc e env st) := by with_unfolding_all exact id rfl
@[simp] theorem kI_bad : kI I Q .bad = Q .bad := by with_unfolding_all exact id rfl
end
theorem evS_mono {Q Q' : SR → Prop} (h : evS a env st Q) (m : ∀ r, Q r → Q' r) : evS a env st Q' := by with_unfolding_all exact m _ h
theorem evL_num {body : SD} (I : Nat → Env → Sta → Prop) (hs : ∀ k (h : k < ds.length) env st, I k env st → evS (tg ds[k]) env st (kTg body (kI (I (k + 1)) Q))) (hq : ∀ env st, I ds.length env st → Q (.nx env st)) {env : Env} {st : Sta} (h : I 0 env st) : evL tg body ds env st Q := by
  induction ds generalizing I env st with
  | nil =>
    rw [evL_nil]
    exact hq env st h
  | cons d ds ih =>
    rw [evL_cons]
    refine evS_mono (hs 0 (by simp) env st h) fun r z => ?_
    have rec_ := fun e s q => @ih (fun k => I (k + 1)) (fun k h env st q => hs (k + 1) (by simpa using h) env st q) hq e s q
    cases r with
    | nx env1 st1 =>
      show evS body env1 st1 (kL2 tg body ds Q)
      refine evS_mono (a := body) (show evS body env1 st1 (kI (I 1) Q) from z) fun r z => ?_
      cases r with
      | nx e s => exact rec_ _ _ z
      | ct e s => exact rec_ _ _ z
      | _ => exact z
    | _ => exact z
theorem evL_rng {body : SD} {lo : Int} (I : Nat → Env → Sta → Prop) (hs : ∀ k, k < n → ∀ env st, I k env st → evS body (env.set i (some (.fro (.int (lo + (k : Nat)))))) st (kI (I (k + 1)) Q)) (hq : ∀ env st, I n env st → Q (.nx env st)) {env : Env} {st : Sta} (h : I 0 env st) : evL (aName i) body (rng lo n) env st Q := by
  refine evL_num I (fun k hk env st h => ?_) (fun env st h => hq env st (by rw [rng_len] at h; exact h)) h
  rw [rng_get hk, evS_aName, kTg_nx]
  exact hs k (by rw [rng_len] at hk; exact hk) env st h
def kRun (Q : Res D → Prop) : SR → Prop
  | .nx _ s => Q (.ok .non s)
  | .rt d s => Q (.ok d s)
  | .exc e _ s => Q (.exc e s)
  | _ => Q .bad
variable {QD : Res D → Prop}
@[simp] theorem kRun_nx : kRun QD (.nx env st) = QD (.ok .non st) := by with_unfolding_all exact id rfl
@[simp] theorem kRun_rt : kRun QD (.rt d st) = QD (.ok d st) := by with_unfolding_all exact id rfl
@[simp] theorem kRun_exc : kRun QD (.exc e env st) = QD (.exc e st) := by with_unfolding_all exact id rfl
@[simp] theorem kRun_bad : kRun QD .bad = QD .bad := by with_unfolding_all exact id rfl
@[simp] theorem evR_runB : evR (runB n a ds st) QD = evS a (env0 n ds) st (kRun QD) := by
  with_unfolding_all
    show QD (runB n a ds st) = _
    unfold runB evS
    cases a (env0 n ds) st <;> rfl
end
end
end
end PL
set_option Elab.async false
set_option linter.all false
set_option maxRecDepth 100000
set_option maxHeartbeats 4000000
namespace PL
open PySem PySem.Spec PyProof.Rows L2
section
variable {env env1 : Env} {st : Sta} {e : Exn} {d x : D} {f g h : Env → M D} {Q : Res D → Prop} {fs : Env → M (List D)} {QL : Res (List D) → Prop} {QS : SR → Prop}
@[simp] theorem truth_non : truth .non = some false := rfl
@[simp] theorem isObj_obj {c c' : Str} {l : List (Str × D)} : isObj c (.obj c' l) st = (c' == c) := rfl
@[simp] theorem evS_sBad : evS sBad env st QS = QS .bad := by with_unfolding_all exact id rfl
section
variable {i j k : Nat} {y : D} {z : List D} {l : Env → M (List D)}
end
end
section
variable {env : Env} {st : Sta} {e : Exn} {d : D} {Q : SR → Prop} {c : Env → M Bool} {body : SD} {n : Nat} {tg : D → SD}
end
section
variable {st : Sta} {i j : Int}
end
section
variable {env : Env} {st : Sta} {Q : SR → Prop} {j : Nat} {fs : Exn → Option (List D)} {ex : Exn} {ds : List D} {c f : Str} {x y : D}
end
end PL
set_option Elab.async false
set_option linter.all false
set_option maxRecDepth 100000
set_option maxHeartbeats 2000000
namespace PL
open PySem PySem.Spec PyProof.Rows L2
def strOf (d : D) (_ : Sta) : Option Str := match d with
  | .str a => some a
  | _ => none
def mStr (o : Str → D → Sta → Option D) (f g : Env → M D) : Env → M D := fun env => f env >>= fun d => M.rd (strOf d) >>= fun a => g env >>= fun e => M.rd (o a e)
def SmOk (K : PySem.W.Frag) (mg : Str → Option Value) (r : V → List V → Hp → VK → Prop) (o : Str → D → Sta → Option D) : Prop := ∀ F A H st a y e z (Q : VK), Good K mg F A st H → Rep K mg F A y e → o a e st = some z →
  (∀ F' A' H' v, Ext F A H F' A' H' → Good K mg F' A' st H' → Rep K mg F' A' v z → Q v H') → r (.str a) [y] H Q
section
variable {X : Cx} {B : Bs} {W : WX} {o e : Expr} {f g : Env → M D}
theorem pp_m1 {id : String} {name : Str} {apos pos : Pos} {r : V → List V → Hp → VK → Prop} {op : Str → D → Sta → Option D} (slot : PySem.Slot "str" name id) (ty : typeOf (.builtin id) = pure (.type "method_descriptor")) (rule : MtR X id r) (k : SmOk X.K X.mg r op) (ho : PE X o (rE X.K X.mg B W f)) (he : PE X e (rE X.K X.mg B W g))
    (hs : starEach [e] X.env = [(false, eval e X.env)] := by rfl) (hbase : attributeBase o name X.env (eval o X.env) = eval o X.env := by rfl) (hline : (apos.endLine == pos.line) = true := by rfl) :
    PE X (.Call (.Attribute o name apos) [e] [] pos) (rE X.K X.mg B W (mStr op f g)) := by
  refine (pe_m1 slot ty rule ho he hs hbase hline).imp fun σ H Q z => ?_
  obtain ⟨gh, env, st, R, w⟩ := z
  refine seqE R w fun d st1 F1 A1 H1 x R1 x1 r1 w1 => ?_
  cases q : strOf d st1 with
  | none =>
    have w2 : WPc X.K X.mg W F1 A1 σ H1 ((M.rd (strOf d) st1).bind fun a => g env >>= fun e => M.rd (op a e)) (fun d F' A' H' => ∀ v, Rep X.K X.mg F' A' v d → Q v H') := w1
    unfold M.rd at w2
    rw [q] at w2
    exact w2.elim
  | some a =>
    have w2 : WPc X.K X.mg W F1 A1 σ H1 ((M.rd (strOf d) st1).bind fun a => g env >>= fun e => M.rd (op a e)) (fun d F' A' H' => ∀ v, Rep X.K X.mg F' A' v d → Q v H') := w1
    unfold M.rd at w2
    rw [q] at w2
    cases d with
    | str y =>
      cases q
      cases r1
      refine ⟨⟨_, rfl⟩, ?_⟩
      refine seqE R1 w2 fun k2 st2 F2 A2 H2 y R2 x2 r2 w3 => ?_
      obtain ⟨u, eu, w4⟩ := WPc.rd w3
      exact k F2 A2 H2 st2 _ y k2 u Q R2.good r2 eu fun F' A' H' v x' G' r' => w4 F' A' H' x' G' v r'
    | _ => cases q
end
def splitO (a : Str) (e : D) (_ : Sta) : Option D := match e with
  | .str b => if (b.length == 0) = false ∧ a.length + 2 ≤ sizeLine then some (.lst ((Txt.split a b).map .str)) else none
  | _ => none
section
variable {K : PySem.W.Frag} {mg : Str → Option Value} {F : Hp} {A : List Addr} {X : Cx}
theorem reps_strs : ∀ ys : List Str, Reps K mg F A (ys.map V.str) (ys.map D.str)
  | [] => .nil
  | y :: ys => .cons (.str y) (reps_strs ys)
theorem sm_split : SmOk K mg (fun x xs H Q => ∃ a b, x = .str a ∧ xs = [.str b] ∧ (b.length == 0) = false ∧ a.length + 2 ≤ sizeLine ∧ rNewStrs (Txt.split a b) H Q) splitO := by
  intro F A H st a y e z Q G ry h q
  unfold splitO at h
  split at h
  · split at h
    · rename_i b hl
      cases ry
      cases h
      refine ⟨a, b, rfl, rfl, hl.1, hl.2, fun p hp => ?_⟩
      obtain ⟨x2, G2⟩ := Ext.alloc (o := .lst ((Txt.split a b).map V.str)) G hp
      exact q _ _ _ _ x2 G2 (.lst upd_same (reps_strs _))
    · cases h
  · cases h
def intA (xs : List D) (_ : Sta) : Option D := match xs with
  | [.int i] => some (.int i)
  | [.bl b] => some (.int (if b then 1 else 0))
  | [.str a] => if a.length ≤ 640 then (PySem.intText? a).map .int else none
  | _ => none
def rIntA : List V → Hp → VK → Prop := fun xs H Q => ((∃ i, xs = [.int i] ∧ Q (.int i) H) ∨ ∃ k, xs = [.bl k] ∧ Q (.int (if k then 1 else 0)) H) ∨ ∃ a n, xs = [.str a] ∧ PySem.intText? a = some n ∧ a.length ≤ 640 ∧ Q (.int n) H
theorem call_intA : CallR X (.type "int") rIntA := by
  intro pins s σ H xs us Q I r h
  rcases h with h | h
  · exact call_int1 pins s σ H xs us Q I r h
  · exact call_int_str pins s σ H xs us Q I r h
theorem ok_intA : CaOk K mg rIntA intA := by
  intro F A H st xs ds z Q G rx h q
  unfold intA at h
  split at h
  · obtain ⟨v, rfl, r⟩ := reps1 rx
    cases h
    cases r
    exact .inl (.inl ⟨_, rfl, q _ _ _ _ Ext.refl G (.int _)⟩)
  · obtain ⟨v, rfl, r⟩ := reps1 rx
    cases h
    cases r
    exact .inl (.inr ⟨_, rfl, q _ _ _ _ Ext.refl G (.int _)⟩)
  · split at h
    · rename_i a hl
      cases e1 : PySem.intText? a with
      | none => rw [e1] at h; cases h
      | some n =>
        rw [e1] at h
        obtain ⟨v, rfl, r⟩ := reps1 rx
        cases h
        cases r
        exact .inr ⟨a, n, rfl, e1, hl, q _ _ _ _ Ext.refl G (.int _)⟩
    · cases h
  · cases h
variable {B : Bs} {W : WX} {e : Expr} {f : Env → M D}
inductive PJd (X : Cx) (B : Bs) (W : WX) : List Expr → List (Env → M D) → Prop where
  | nil : PJd X B W [] []
  | cons {e : Expr} {f : Env → M D} {es : List Expr} {fs : List (Env → M D)} : PE X e (rE X.K X.mg B W f) → PJd X B W es fs → PJd X B W (e :: es) (f :: fs)
end
section
variable {f g : Env → M D} {env : Env} {st : Sta} {Q : Res D → Prop} {e : Exn} {d : D} {o : Str → D → Sta → Option D}
def kStr (o : Str → D → Sta → Option D) (g : Env → M D) (env : Env) (Q : Res D → Prop) : Res D → Prop
  | .ok (.str a) st => evM g env st (kOp1 (o a) Q)
  | .ok _ _ => Q .bad
  | .exc e st => Q (.exc e st)
  | .bad => Q .bad
@[simp] theorem kStr_ok {a : Str} : kStr o g env Q (.ok (.str a) st) = evM g env st (kOp1 (o a) Q) := by with_unfolding_all exact id rfl
@[simp] theorem kStr_exc : kStr o g env Q (.exc e st) = Q (.exc e st) := by with_unfolding_all exact id rfl
@[simp] theorem kStr_bad : kStr o g env Q .bad = Q .bad := by with_unfolding_all exact id rfl
@[simp] theorem evM_mStr : evM (mStr o f g) env st Q = evM f env st (kStr o g env Q) := by
  with_unfolding_all
    show Q ((f env >>= _) st) = _
    unfold evM
    rw [bind_st]
    cases f env st with
    | ok x st1 =>
      show Q (((M.rd (strOf x)) st1).bind _) = kStr o g env Q (.ok x st1)
      rw [rd_st]
      cases x with
      | str a =>
        show Q ((g env >>= fun k => M.rd (o a k)) st1) = evM g env st1 (kOp1 (o a) Q)
        exact evM_bind_rd
      | _ => rfl
    | exc _ _ => rfl
    | bad => rfl
end
end PL
set_option Elab.async false
set_option linter.all false
set_option maxRecDepth 100000
set_option maxHeartbeats 2000000
namespace PL
open PySem PySem.Spec PyProof.Rows L2
def mLenO (i : Nat) : Env → M D := fun env st => match ownL env i with
  | some l => .ok (.int l.length) st
  | none => .bad
def ixL (l : List D) (k : D) (_ : Sta) : Option D := match k with
  | .int z => atI l z
  | _ => none
def mOwnB (i : Nat) (o : List D → D → Sta → Option D) (f : Env → M D) : Env → M D := fun env st => match ownL env i with
  | some l => (f env >>= fun k => M.rd (o l k)) st
  | none => .bad
def mIxO (i : Nat) (f : Env → M D) : Env → M D := mOwnB i ixL f
def neL (l : List D) (e : D) (st : Sta) : Option D := neD (.lst l) e st
def mNeO (i : Nat) (f : Env → M D) : Env → M D := mOwnB i neL f
section
variable {X : Cx} {B : Bs} {W : WX} {f g : Env → M D} {a : Expr} {pos : Pos}
theorem pp_lenO {i : Nat} {x y : Str} {p p2 : Pos} (hg : Gl X x) (hm : X.mg x = none) (hv : bootBuiltins x = some (.builtin "len")) (hN : PE X (.Name y p2) (tVar i)) (hn : x ≠ "__name__" := by decide) (hdb : (x == ("__debug__" : Str)) = false := by decide)
    (he : starEach [.Name y p2] X.env = (false, eval (.Name y p2) X.env) :: starEach [] X.env := by rfl) (hpl : (backTo pos (starEach [] X.env)).any (·.1) = false := by rfl) : PE X (.Call (.Name x p) [.Name y p2] [] pos) (rE X.K X.mg B W (mLenO i)) := by
  refine (pe_callB call_len hg hm hv (pa_cons hN pa_nil) hn hdb he hpl).imp fun σ H Q z => ?_
  obtain ⟨gh, env, st, R, w⟩ := z
  unfold mLenO at w
  split at w
  · rename_i l hl
    obtain ⟨vs, e1, e2, r0⟩ := own_tyL R (ownL_at hl)
    exact ⟨_, e1, _, _, rfl, .inl ⟨vs, SqL.of e2, r0.length.symm⟩, w _ _ _ Ext.refl R.good _ (.int _)⟩
  · exact w.elim
theorem pp_ixO {i : Nat} {y : Str} {p2 : Pos} (hN : PE X (.Name y p2) (tVar i)) (hb : PE X a (rE X.K X.mg B W f)) (hs : PlainIx a) : PE X (.Subscript (.Name y p2) a pos) (rE X.K X.mg B W (mIxO i f)) := by
  refine (pe_ix ix_seq hN hb hs).imp fun σ H Q z => ?_
  obtain ⟨gh, env, st, R, w⟩ := z
  unfold mIxO mOwnB at w
  split at w
  · rename_i l hl
    obtain ⟨vs, e1, e2, r0⟩ := own_tyL R (ownL_at hl)
    refine ⟨_, e1, ?_⟩
    refine seqE R w fun k st1 F1 A1 H1 y R1 x1 r1 w1 => ?_
    obtain ⟨u, eu, w3⟩ := WPc.rd w1
    obtain ⟨vs1, e3, e4, r2⟩ := own_tyL R1 (ownL_at hl)
    unfold ixL at eu
    cases k with
    | int z =>
      cases r1
      obtain ⟨v, e5, r5⟩ := atI_reps r2 eu
      exact .inl ⟨_, vs1, _, v, rfl, rfl, SqL.of e4, e5, w3 _ _ _ Ext.refl R1.good v r5⟩
    | _ => cases eu
  · exact w.elim
theorem pq_neO {i : Nat} {y : Str} {p2 : Pos} (hu : X.A.units + 64 < cLine) (hN : PE X (.Name y p2) (tVar i)) (hb : PE X a (rE X.K X.mg B W f)) (hm : behindInMarks .NotEq a = false) : PT X (.Compare (.Name y p2) [.NotEq] [a] pos) (rT X.K X.mg B W (tBool (mNeO i f))) := by
  refine (pt_cmpR (op_neD hu) hN hb hm).imp fun σ H Q z => ?_
  obtain ⟨gh, env, st, R, w⟩ := z
  have w : WPc X.K X.mg W gh.F gh.A σ H (mNeO i f env st) (fun d F' A' H' => ∀ v, Rep X.K X.mg F' A' v d → ∃ k, v = .bl k ∧ Q k H') := by
    refine Res.wp_mono (wp_bind w) (fun d st1 y F' A' H' x G v r' => ?_) fun _ _ y => y
    obtain ⟨u, eu, w3⟩ := WPc.rd y
    exact ⟨u, tBool_rep r' eu, w3 F' A' H' x G⟩
  unfold mNeO mOwnB at w
  split at w
  · rename_i l hl
    obtain ⟨vs, e1, e2, r0⟩ := own_tyL R (ownL_at hl)
    refine ⟨_, e1, ?_⟩
    refine seqE R w fun k st1 F1 A1 H1 y R1 x1 r1 w1 => ?_
    obtain ⟨u, eu, w3⟩ := WPc.rd w1
    obtain ⟨vs1, e3, e4, r2⟩ := own_tyL R1 (ownL_at hl)
    unfold neL neD at eu
    split at eu
    · rename_i hp
      obtain ⟨h1, h2⟩ := Bool.and_eq_true_iff.mp hp
      cases eu
      obtain ⟨p2, s2⟩ := plain_dp R1.good r1 h2
      have c1 : (pd (.lst l)).canLay0 = true := SeqAt.canLay_of_shaped h1
      have d1 : Dp X.K H1 (.ref (gh.ow i)) (pd (.lst l)) := by
        unfold pd at c1 ⊢
        exact .lst (SqL.of e4) (reps_dp R1.good.sub r2 (by simpa [PyData.canLay0] using c1))
      exact ⟨_, _, d1, p2, h1, s2, w3 _ _ _ Ext.refl R1.good _ (.bl _)⟩
    · cases eu
  · exact w.elim
end
section
variable {f : Env → M D} {env : Env} {st : Sta} {Q : Res D → Prop} {l : List D} {i : Nat} {z : Int}
def kLenO (o : Option (List D)) (st : Sta) (Q : Res D → Prop) : Prop := match o with
  | some l => Q (.ok (.int l.length) st)
  | none => Q .bad
@[simp] theorem kLenO_some : kLenO (some l) st Q = Q (.ok (.int l.length) st) := by with_unfolding_all exact id rfl
@[simp] theorem evM_lenO : evM (mLenO i) env st Q = kLenO (ownL env i) st Q := by
  with_unfolding_all
    unfold evM mLenO kLenO
    cases ownL env i <;> rfl
def kOwnB (o : List D → D → Sta → Option D) (ol : Option (List D)) (f : Env → M D) (env : Env) (st : Sta) (Q : Res D → Prop) : Prop := match ol with
  | some l => evM f env st (kOp1 (o l) Q)
  | none => Q .bad
@[simp] theorem kOwnB_some {o : List D → D → Sta → Option D} : kOwnB o (some l) f env st Q = evM f env st (kOp1 (o l) Q) := by with_unfolding_all exact id rfl
theorem evM_ownB {o : List D → D → Sta → Option D} : evM (mOwnB i o f) env st Q = kOwnB o (ownL env i) f env st Q := by
  with_unfolding_all
    unfold mOwnB kOwnB
    show Q (match ownL env i with
      | some l => (f env >>= fun k => M.rd (o l k)) st
      | none => .bad) = _
    cases ownL env i with
    | none => rfl
    | some l => exact evM_bind_rd
@[simp] theorem evM_ixO : evM (mIxO i f) env st Q = kOwnB ixL (ownL env i) f env st Q := evM_ownB
@[simp] theorem evM_neO : evM (mNeO i f) env st Q = kOwnB neL (ownL env i) f env st Q := evM_ownB
@[simp] theorem ixL_int : ixL l (.int z) st = atI l z := rfl
@[simp] theorem neL_eq {e : D} : neL l e st = neD (.lst l) e st := rfl
end
end PL
set_option Elab.async false
set_option linter.all false
set_option maxRecDepth 100000
set_option maxHeartbeats 2000000
namespace PL
open PySem PySem.Spec PyProof.Rows L2
def hasM (c m : Str) (d : D) (st : Sta) : Bool := isObj c d st && (lookupF m (fieldsOf d st)).isNone
def mMeth (c m : Str) (n : Nat) (F : List D → M D) (fo : Env → M D) (fs : Env → M (List D)) : Env → M D := fun env => fo env >>= fun d => chk (hasM c m) d >>= fun d => fs env >>= fun ds => argN (n + 1) F (d :: ds)
section
variable {X : Cx} {B : Bs} {W : WX} {o e : Expr} {es : List Expr} {m : Str} {C f : Addr} {fd : FuncData} {ps : List Str} {k : Nat} {F : List D → M D} {fo : Env → M D} {fs : Env → M (List D)} {apos pos : Pos}
theorem pp_meth {pl : Sem Bool} {n : Nat} {c : Str} (G : FnOk X.prog X.w X.K X.mg X.base (L2.CX X.prog X.w) k f fd ps (spF X.K X.mg (n + 1) F)) (hr : Room k X.A) (hmc : X.mg c = some (.ref C)) (hc : Cls X.K C) (hm : Meth X.K C m f) (hb : Binds X.K fd ps []) (tk : Takes X W) (he : PE X o (rE X.K X.mg B W fo)) (ha : PA X (e :: es) (rA X.K X.mg B W fs))
    (hst : starEach (e :: es) X.env = (false, eval e X.env) :: starEach es X.env := by rfl) (hpl : (backTo pos (starEach es X.env)).any (·.1) = false := by rfl)
    (ht : eval (.Call (.Attribute o m apos) (e :: es) [] pos) X.env = (do
      let ov ← eval o X.env
      standAt apos.atName
      let (f, first) ← holding [ov] (getMethod ov m pl)
      callWith pos f first (backTo pos (starEach (e :: es) X.env)) (backToKw pos (keywordEach [] X.env))) := by rfl) :
    PE X (.Call (.Attribute o m apos) (e :: es) [] pos) (rE X.K X.mg B W (mMeth c m n F fo fs)) :=
  run_meth (pl := pl) he hmc hc hm G hr hb tk ha hst hpl ht
end
end PL
set_option Elab.async false
set_option linter.all false
set_option maxRecDepth 100000
set_option maxHeartbeats 4000000
namespace PL
open PySem PySem.Spec PyProof.Rows L2
def b_law_taken : SD := (sSeq (sIf (tBool (op2 gtD (op2 ixD (vr 0) (cn (.int 3))) (cn (.int 0)))) (sSeq (sSet 2 (op2 modD (opN intD (argsC (op2 ixD (vr 0) (cn (.int 3))) args0)) (vr 1))) (sSeq (sAsg (op2 fdvD (op2 ixD (vr 0) (cn (.int 3))) (vr 1)) (aSubC (vr 0) (cn (.int 3)))) (sRet (vr 2)))) sNext) (sSeq (sAsg (op2 addD (op2 ixD (vr 0) (cn (.int 1))) (cn (.int 1))) (aSubC (vr 0) (cn (.int 1)))) (sSeq (sIf (tBool (op2 gtD (op2 ixD (vr 0) (cn (.int 1))) (opN lenD (argsC (op2 ixD (vr 0) (cn (.int 0))) args0)))) (sSeq (sAsg (op2 modD (opN intD (argsC (op2 addD (op2 mulD (op2 ixD (vr 0) (cn (.int 2))) (cn (.int 48271))) (cn (.int 11))) args0)) (cn (.int 2147483647))) (aSubC (vr 0) (cn (.int 2)))) (sRet (op2 modD (opN intD (argsC (op2 fdvD (op2 ixD (vr 0) (cn (.int 2))) (cn (.int 7))) args0)) (vr 1)))) sNext) (sSeq (sSet 3 (op2 ixD (op2 ixD (vr 0) (cn (.int 0))) (op2 subD (op2 ixD (vr 0) (cn (.int 1))) (cn (.int 1))))) (sSeq (sAsg (op2 modD (opN intD (argsC (op2 addD (op2 addD (op2 mulD (op2 ixD (vr 0) (cn (.int 2))) (cn (.int 48271))) (vr 3)) (cn (.int 11))) args0)) (cn (.int 2147483647))) (aSubC (vr 0) (cn (.int 2)))) (sSeq (sIf (tBool (op2 geD (vr 3) (op2 powD (cn (.int 10)) (cn (.int 18))))) (sAsg (op2 fdvD (vr 3) (vr 1)) (aSubC (vr 0) (cn (.int 3)))) sNext) (sRet (op2 modD (opN intD (argsC (vr 3) args0)) (vr 1)))))))))
def m_law_taken : List D → M D := runB 4 b_law_taken

def RowOk (r : Cell) : Prop := ∃ (ns : List Int) (p s c : Int), r = .lst [.fix (ns.map .int), .int p, .int s, .int c] ∧ 0 ≤ p ∧ 0 ≤ c
@[simp] theorem env0_2 {n : Nat} {a b : D} : env0 (n + 2) [a, b] = some (.fro a) :: some (.fro b) :: List.replicate n none := rfl
@[simp] theorem ixD_c0 {i : Int} {rest : Sta} {l : List D} : ixD (.cell 0) (.int i) (.lst l :: rest) = atI l i := rfl
theorem log_many {many : Int} (h0 : 0 < many) (h1 : many ≤ 10 ^ 60) : many.natAbs.log2 < 9000 := by
  have h2 : many.natAbs < 2 ^ 200 := by omega
  have h3 : many.natAbs.log2 < 200 := (Nat.log2_lt (by omega)).mpr h2
  omega
theorem fdv_many {many : Int} (h0 : 0 < many) (h1 : many ≤ 10 ^ 60) (i : Int) (st : Sta) : fdvD (.int i) (.int many) st = some (.int (i / many)) := if_pos ⟨h0, .inr (log_many h0 h1)⟩
theorem mul_48271 {i : Int} {st : Sta} : mulD (.int i) (.int 48271) st = some (.int (i * 48271)) := mulD_int (by
  unfold mulOk
  simp)
theorem taken_ok {r : Cell} {rest : Sta} {many : Int} (hr : RowOk r) (h0 : 0 < many) (h1 : many ≤ 10 ^ 60) :
    ∃ (x : Int) (r' : Cell), m_law_taken [.cell 0, .int many] (r :: rest) = .ok (.int x) (r' :: rest) ∧ RowOk r' ∧ 0 ≤ x ∧ x < many := by
  obtain ⟨ns, p, s, c, rfl, hp, hc⟩ := hr
  have hdiv := fdv_many h0 h1
  have hm : ∀ i : Int, 0 ≤ i % many ∧ i % many < many := fun i => ⟨Int.emod_nonneg _ (by omega), Int.emod_lt_of_pos _ h0⟩
  by_cases c0 : c > 0
  · refine ⟨c % many, .lst [.fix (ns.map .int), .int p, .int s, .int (c / many)], ?_, ⟨ns, p, s, c / many, rfl, hp, Int.ediv_nonneg hc (by omega)⟩, hm _⟩
    unfold m_law_taken b_law_taken runB
    simp [c0, hdiv, h0, ixN]
  · by_cases p0 : (ns.length : Int) < p + 1
    · refine ⟨(s * 48271 + 11) % 2147483647 / 7 % many, .lst [.fix (ns.map .int), .int (p + 1), .int ((s * 48271 + 11) % 2147483647), .int c], ?_, ⟨ns, p + 1, _, c, rfl, by omega, hc⟩, hm _⟩
      unfold m_law_taken b_law_taken runB
      simp [c0, h0, ixN, p0, mul_48271]
    · obtain ⟨k, rfl⟩ := Int.eq_ofNat_of_zero_le hp
      have hk : k < ns.length := by omega
      have hat : atI (ns.map D.int) (k : Int) = some (.int ns[k]) := by
        rw [atI_nat (by simpa using hk)]
        simp
      by_cases n0 : 1000000000000000000 ≤ ns[k]
      · refine ⟨ns[k] % many, .lst [.fix (ns.map .int), .int (k + 1), .int ((s * 48271 + ns[k] + 11) % 2147483647), .int (ns[k] / many)], ?_, ⟨ns, k + 1, _, _, rfl, by omega, Int.ediv_nonneg (by omega) (by omega)⟩, hm _⟩
        unfold m_law_taken b_law_taken runB
        simp [c0, h0, ixN, p0, mul_48271, hat, n0, hdiv]
      · refine ⟨ns[k] % many, .lst [.fix (ns.map .int), .int (k + 1), .int ((s * 48271 + ns[k] + 11) % 2147483647), .int c], ?_, ⟨ns, k + 1, _, _, rfl, by omega, hc⟩, hm _⟩
        unfold m_law_taken b_law_taken runB
        simp [c0, h0, ixN, p0, mul_48271, hat, n0, hdiv]
def cellD (c : Int × Int) : D := .tup [.int c.1, .int c.2]
def rowD (r : List (Int × Int)) : D := .tup (r.map cellD)
def rowsD (rs : List (List (Int × Int))) : D := .tup (rs.map rowD)
@[simp] theorem env0_3 {n : Nat} {a b c : D} : env0 (n + 3) [a, b, c] = some (.fro a) :: some (.fro b) :: some (.fro c) :: List.replicate n none := rfl
@[simp] theorem env0_1 {n : Nat} {a : D} : env0 (n + 1) [a] = some (.fro a) :: List.replicate n none := rfl
@[simp] theorem env0_4 {n : Nat} {a b c d : D} : env0 (n + 4) [a, b, c, d] = some (.fro a) :: some (.fro b) :: some (.fro c) :: some (.fro d) :: List.replicate n none := rfl
end PL
set_option Elab.async false
set_option linter.all false
set_option maxRecDepth 100000
set_option maxHeartbeats 4000000
namespace PL
open PySem PySem.Spec PyProof.Rows L2
def b_is_from : SD := (sRet (mAndV (op1 (isiT "int" CS) (vr 0)) (mAndV (mNotV (op1 (isiT "bool" CS) (vr 0))) (mChain leD leD (vr 1) (vr 0) (vr 2)))))
def m_is_from : List D → M D := runB 3 b_is_from

def b_is_cell : SD := (sSeq (sIf (mOr (mNot (tst (op1 (isiT "tuple" CS) (vr 0)))) (mOr (tBool (op2 neD (opN lenD (argsC (vr 0) args0)) (cn (.int 2)))) (mNot (tst (mCall (argsC (op2 ixD (vr 0) (cn (.int 1))) (argsC (cn (.int 0)) (argsC (cn (.int (1000000000000000000000000000000))) args0))) (argN 3 m_is_from)))))) (sRet (cn (.bl false))) sNext) (sRet (mCall (argsC (op2 ixD (vr 0) (cn (.int 0))) (argsC (cn (.int 0)) (argsC (op2 ixD (vr 0) (cn (.int 1))) args0))) (argN 3 m_is_from))))
def m_is_cell : List D → M D := runB 1 b_is_cell

def c_is_group_1 : Env → M (List D) := (mLc [1] (bName 1) yes (mCall (argsC (vr 1) args0) (argN 1 m_is_cell)) (itO seqIt (vr 0)))
def b_is_group : SD := (sRet (mAndV (op1 (isiT "tuple" CS) (vr 0)) (mAndV (mChain leD leD (cn (.int 2)) (opN lenD (argsC (vr 0) args0)) (cn (.int (4)))) (opN allD (argsC (lstF c_is_group_1) args0)))))
def m_is_group : List D → M D := runB 2 b_is_group

def l_Table_init_1 : SD := (sIf (mOr (mNot (tst (mCall (argsC (vr 3) args0) (argN 1 m_is_group)))) (tBool (op2 neD (opN lenD (argsC (vr 3) args0)) (opN lenD (argsC (op2 ixD (vr 1) (cn (.int 0))) args0))))) (sRaise "BadGroups" ["index"] (argsC (vr 2) args0)) sNext)
def b_Table_init : SD := (sSeq (sIf (mOr (mNot (tst (op1 (isiT "tuple" CS) (vr 1)))) (mNot (tBool (mChain leD leD (cn (.int 1)) (opN lenD (argsC (vr 1) args0)) (cn (.int (8))))))) (sRaise "BadGroups" ["index"] (argsC (cn .non) args0)) sNext) (sSeq (sFor (itN enumD (argsC (vr 1) args0)) (aTup 2 (aCons (aName 2) (aCons (aName 3) aNil))) l_Table_init_1) (sFldC "Table" "rows" (vr 0) (vr 1))))
def m_Table_init : List D → M D := runB 4 b_Table_init

def kn : D → Bool
  | .fn _ => false
  | .cell _ => false
  | .obj c _ => CS.contains c
  | _ => true
def isI : D → Bool
  | .int _ => true
  | _ => false
def isBl : D → Bool
  | .bl _ => true
  | _ => false
def isTu : D → Bool
  | .tup _ => true
  | _ => false
theorem kinds : kitB "NoneType" "int" = some false ∧ kitB "bool" "int" = some true ∧ kitB "int" "int" = some true ∧ kitB "str" "int" = some false ∧ kitB "tuple" "int" = some false ∧ kitB "list" "int" = some false ∧ kitB "dict" "int" = some false ∧
    kitB "NoneType" "bool" = some false ∧ kitB "bool" "bool" = some true ∧ kitB "int" "bool" = some false ∧ kitB "str" "bool" = some false ∧ kitB "tuple" "bool" = some false ∧ kitB "list" "bool" = some false ∧ kitB "dict" "bool" = some false ∧
    kitB "NoneType" "tuple" = some false ∧ kitB "bool" "tuple" = some false ∧ kitB "int" "tuple" = some false ∧ kitB "str" "tuple" = some false ∧ kitB "tuple" "tuple" = some true ∧ kitB "list" "tuple" = some false ∧ kitB "dict" "tuple" = some false := by decide +kernel
theorem isiT_int_kn {d : D} {st : Sta} (h : kn d = true) : isiT "int" CS d st = some (.bl (isI d || isBl d)) := by
  obtain ⟨a1, a2, a3, a4, a5, a6, a7, _⟩ := kinds
  cases d with
  | non => show (kitB "NoneType" "int").map D.bl = _; rw [a1]; rfl
  | bl b => show (kitB "bool" "int").map D.bl = _; rw [a2]; rfl
  | int i => show (kitB "int" "int").map D.bl = _; rw [a3]; rfl
  | str x => show (kitB "str" "int").map D.bl = _; rw [a4]; rfl
  | tup l => show (kitB "tuple" "int").map D.bl = _; rw [a5]; rfl
  | lst l => show (kitB "list" "int").map D.bl = _; rw [a6]; rfl
  | fix l => show (kitB "list" "int").map D.bl = _; rw [a6]; rfl
  | dct l => show (kitB "dict" "int").map D.bl = _; rw [a7]; rfl
  | obj c fs =>
    have h' : CS.contains c = true := h
    show (if CS.contains c then some (D.bl false) else none) = _
    rw [if_pos h']
    rfl
  | cell k => cases h
  | fn x => cases h
theorem isiT_bool_kn {d : D} {st : Sta} (h : kn d = true) : isiT "bool" CS d st = some (.bl (isBl d)) := by
  obtain ⟨_, _, _, _, _, _, _, a1, a2, a3, a4, a5, a6, a7, _⟩ := kinds
  cases d with
  | non => show (kitB "NoneType" "bool").map D.bl = _; rw [a1]; rfl
  | bl b => show (kitB "bool" "bool").map D.bl = _; rw [a2]; rfl
  | int i => show (kitB "int" "bool").map D.bl = _; rw [a3]; rfl
  | str x => show (kitB "str" "bool").map D.bl = _; rw [a4]; rfl
  | tup l => show (kitB "tuple" "bool").map D.bl = _; rw [a5]; rfl
  | lst l => show (kitB "list" "bool").map D.bl = _; rw [a6]; rfl
  | fix l => show (kitB "list" "bool").map D.bl = _; rw [a6]; rfl
  | dct l => show (kitB "dict" "bool").map D.bl = _; rw [a7]; rfl
  | obj c fs =>
    have h' : CS.contains c = true := h
    show (if CS.contains c then some (D.bl false) else none) = _
    rw [if_pos h']
    rfl
  | cell k => cases h
  | fn x => cases h
theorem isiT_tup_kn {d : D} {st : Sta} (h : kn d = true) : isiT "tuple" CS d st = some (.bl (isTu d)) := by
  obtain ⟨_, _, _, _, _, _, _, _, _, _, _, _, _, _, a1, a2, a3, a4, a5, a6, a7⟩ := kinds
  cases d with
  | non => show (kitB "NoneType" "tuple").map D.bl = _; rw [a1]; rfl
  | bl b => show (kitB "bool" "tuple").map D.bl = _; rw [a2]; rfl
  | int i => show (kitB "int" "tuple").map D.bl = _; rw [a3]; rfl
  | str x => show (kitB "str" "tuple").map D.bl = _; rw [a4]; rfl
  | tup l => show (kitB "tuple" "tuple").map D.bl = _; rw [a5]; rfl
  | lst l => show (kitB "list" "tuple").map D.bl = _; rw [a6]; rfl
  | fix l => show (kitB "list" "tuple").map D.bl = _; rw [a6]; rfl
  | dct l => show (kitB "dict" "tuple").map D.bl = _; rw [a7]; rfl
  | obj c fs =>
    have h' : CS.contains c = true := h
    show (if CS.contains c then some (D.bl false) else none) = _
    rw [if_pos h']
    rfl
  | cell k => cases h
  | fn x => cases h
def isFromD (d : D) (lo hi : Int) : Bool := match d with
  | .int i => decide (lo ≤ i) && decide (i ≤ hi)
  | _ => false
theorem is_from_ok {d : D} {lo hi : Int} {st : Sta} (h : kn d = true) : m_is_from [d, .int lo, .int hi] st = .ok (.bl (isFromD d lo hi)) st := by
  have h1 := isiT_int_kn (st := st) h
  have h2 := isiT_bool_kn (st := st) h
  unfold m_is_from b_is_from
  refine runB_rt (ret_ok ?_)
  cases d with
  | int i =>
    by_cases c : lo ≤ i <;> simp [h1, h2, isI, isBl, isFromD, c]
  | bl b => simp [h1, h2, isI, isBl, isFromD]
  | _ => simp [h1, isI, isBl, isFromD]
def isCellD : D → Bool
  | .tup [a, .int t] => isFromD (.int t) 0 1000000000000000000000000000000 && isFromD a 0 t
  | _ => false
def kn2 (d : D) : Bool := kn d && match d with
  | .tup l => l.all kn
  | _ => true
theorem is_cell_ok {d : D} {st : Sta} (h : kn2 d = true) : m_is_cell [d] st = .ok (.bl (isCellD d)) st := by
  obtain ⟨hk, hl⟩ := Bool.and_eq_true_iff.mp h
  have h1 := isiT_tup_kn (st := st) hk
  unfold m_is_cell b_is_cell
  cases d with
  | tup l =>
    by_cases hn : (l.length : Int) = 2
    · match l, hn, hl with
      | [a, b], _, hl =>
        have ha : kn a = true := List.all_eq_true.mp hl a (by simp)
        have hb : kn b = true := List.all_eq_true.mp hl b (by simp)
        have fb := is_from_ok (lo := 0) (hi := 1000000000000000000000000000000) (st := st) hb
        cases e : isFromD b 0 1000000000000000000000000000000 with
        | true =>
          cases b with
          | int t =>
            have fa := is_from_ok (lo := 0) (hi := t) (st := st) ha
            refine runB_rt (seq_nx (env1 := [some (.fro (.tup [a, .int t]))]) (st1 := st) (if_no ?_ rfl) (ret_ok ?_))
            · simp [h1, isTu, fb, e]
            · simp [fa, isCellD, e]
          | _ => cases e
        | false =>
          refine runB_rt (seq_rt (if_yes (st1 := st) ?_ (ret_ok ?_)))
          · simp [h1, isTu, fb, e]
          · cases b with
            | int i => simp [isCellD, e]
            | _ => simp [isCellD]
    · refine runB_rt (seq_rt (if_yes (st1 := st) ?_ (ret_ok ?_)))
      · simp [h1, isTu, hn]
      · match l, hn with
        | [], _ => simp [isCellD]
        | [a], _ => simp [isCellD]
        | [a, b], hn => exact absurd rfl hn
        | a :: b :: c :: r, _ => simp [isCellD]
  | _ =>
    refine runB_rt (seq_rt (if_yes (st1 := st) ?_ (ret_ok ?_)))
    · simp [h1, isTu]
    · simp [isCellD]
def isGroupD : D → Bool
  | .tup l => decide (2 ≤ l.length) && (decide (l.length ≤ 4) && l.all isCellD)
  | _ => false
def kn3 (d : D) : Bool := kn d && match d with
  | .tup l => l.all kn2
  | _ => true
theorem blsOf_map {α : Type} (f : α → Bool) : ∀ l : List α, blsOf (l.map fun x => D.bl (f x)) = some (l.map f)
  | [] => rfl
  | x :: l => by
    show (blsOf (l.map fun x => D.bl (f x))).map (f x :: ·) = _
    rw [blsOf_map f l]
    rfl
@[simp] theorem allD_map {α : Type} {f : α → Bool} {l : List α} {st : Sta} : allD [.lst (l.map fun x => D.bl (f x))] st = some (.bl (l.all f)) := by
  show (blsOf _).map _ = _
  rw [blsOf_map]
  show some (D.bl ((l.map f).all id)) = _
  rw [List.all_map]
  rfl
theorem is_group_ok {d : D} {st : Sta} (h : kn3 d = true) : m_is_group [d] st = .ok (.bl (isGroupD d)) st := by
  obtain ⟨hk, hl⟩ := Bool.and_eq_true_iff.mp h
  have h1 := isiT_tup_kn (st := st) hk
  unfold m_is_group b_is_group
  refine runB_rt (ret_ok ?_)
  cases d with
  | tup l =>
    by_cases c2 : (2 : Int) ≤ l.length
    · by_cases c4 : (l.length : Int) ≤ 4
      · have e : c_is_group_1 [some (.fro (.tup l)), none] st = .ok ((l.filter fun _ => true).map fun d => .bl (isCellD d)) st := by
          refine mLc_ok (p := fun _ => true) (f := fun d => .bl (isCellD d)) (ds := l) (e1 := fun d => [some (.fro (.tup l)), some (.fro d)]) rfl (fun d hd => ⟨rfl, rfl, fun _ => ?_⟩) (small_le (by omega))
          have := is_cell_ok (st := st) (List.all_eq_true.mp hl d hd)
          simp [this]
        rw [show (l.filter fun _ => true) = l from List.filter_eq_self.mpr fun _ _ => rfl] at e
        have c2' : 2 ≤ l.length := by omega
        have c4' : l.length ≤ 4 := by omega
        simp [h1, isTu, c2, c4, e, allD_map, isGroupD, c2', c4']
      · have c4' : ¬ l.length ≤ 4 := by omega
        simp [h1, isTu, c2, c4, isGroupD, c4']
    · have c2' : ¬ 2 ≤ l.length := by omega
      simp [h1, isTu, c2, isGroupD, c2']
  | _ => simp [h1, isTu, isGroupD]
def tlen : D → Nat
  | .tup l => l.length
  | _ => 0
def badAt (l0 : D) : Nat → List D → Option Nat
  | _, [] => none
  | k, d :: r => if isGroupD d && decide (tlen d = tlen l0) then badAt l0 (k + 1) r else some k
theorem isGroup_tup {d : D} (h : isGroupD d = true) : ∃ l, d = .tup l := by
  cases d with
  | tup l => exact ⟨l, rfl⟩
  | _ => cases h
abbrev enumK (k : Nat) (ds : List D) : List D := (ds.zipIdx k).map fun p => D.tup [.int (p.2 : Nat), p.1]
theorem init_turn {k0 : Nat} {l0 : D} {l : List D} {st : Sta} {d : D} {k : Int} {x2 x3 : Option SV} (hd : kn3 d = true) (h0 : isGroupD d = true → isGroupD l0 = true) :
    l_Table_init_1 [some (.fro (.cell k0)), some (.fro (.tup (l0 :: l))), some (.fro (.int k)), some (.fro d)] st =
      if isGroupD d && decide (tlen d = tlen l0) then .nx [some (.fro (.cell k0)), some (.fro (.tup (l0 :: l))), some (.fro (.int k)), some (.fro d)] st
      else .exc ⟨"BadGroups", [("index", .int k)]⟩ [some (.fro (.cell k0)), some (.fro (.tup (l0 :: l))), some (.fro (.int k)), some (.fro d)] st := by
  have e := is_group_ok (st := st) hd
  unfold l_Table_init_1
  cases c : isGroupD d with
  | false =>
    refine if_yes (st1 := st) ?_ ?_
    · simp [e, c]
    · rfl
  | true =>
    obtain ⟨ld, rfl⟩ := isGroup_tup c
    obtain ⟨l0', rfl⟩ := isGroup_tup (h0 c)
    by_cases hn : ld.length = l0'.length
    · refine if_no (st1 := st) ?_ ?_
      · simp [e, c, hn]
      · simp [tlen, hn]
    · have hn' : ¬ ((ld.length : Int) = l0'.length) := by omega
      refine if_yes (st1 := st) ?_ ?_
      · simp [e, c, hn']
      · simp [tlen, hn]
theorem init_loop {k0 : Nat} {l0 : D} {l : List D} {st : Sta} : ∀ {ds : List D} {k : Nat} {x2 x3 : Option SV}, (∀ d ∈ ds, kn3 d = true) → (isGroupD l0 = true ∨ ∃ r, ds = l0 :: r) →
    ∃ y2 y3, sLoop (aTup 2 (aCons (aName 2) (aCons (aName 3) aNil))) l_Table_init_1 (enumK k ds) [some (.fro (.cell k0)), some (.fro (.tup (l0 :: l))), x2, x3] st =
      match badAt l0 k ds with
      | none => .nx [some (.fro (.cell k0)), some (.fro (.tup (l0 :: l))), y2, y3] st
      | some j => .exc ⟨"BadGroups", [("index", .int (j : Nat))]⟩ [some (.fro (.cell k0)), some (.fro (.tup (l0 :: l))), y2, y3] st
  | [], k, x2, x3, _, _ => ⟨x2, x3, rfl⟩
  | d :: ds, k, x2, x3, hk, h0 => by
    have h0' : isGroupD d = true → isGroupD l0 = true := fun z => by
      rcases h0 with h | ⟨r, h⟩
      · exact h
      · cases h
        exact z
    have t := init_turn (k0 := k0) (l0 := l0) (l := l) (st := st) (k := (k : Int)) (x2 := x2) (x3 := x3) (hk d (List.mem_cons_self ..)) h0'
    have e : sLoop (aTup 2 (aCons (aName 2) (aCons (aName 3) aNil))) l_Table_init_1 (enumK k (d :: ds)) [some (.fro (.cell k0)), some (.fro (.tup (l0 :: l))), x2, x3] st =
        (match l_Table_init_1 [some (.fro (.cell k0)), some (.fro (.tup (l0 :: l))), some (.fro (.int (k : Nat))), some (.fro d)] st with
        | .nx env2 st2 => sLoop (aTup 2 (aCons (aName 2) (aCons (aName 3) aNil))) l_Table_init_1 (enumK (k + 1) ds) env2 st2
        | .ct env2 st2 => sLoop (aTup 2 (aCons (aName 2) (aCons (aName 3) aNil))) l_Table_init_1 (enumK (k + 1) ds) env2 st2
        | .bk env2 st2 => .nx env2 st2
        | r => r) := rfl
    rw [e, t]
    unfold badAt
    cases c : (isGroupD d && decide (tlen d = tlen l0)) with
    | true =>
      rw [if_pos rfl, if_pos rfl]
      exact init_loop (ds := ds) (k := k + 1) (fun x hx => hk x (List.mem_cons_of_mem _ hx)) (.inl (h0' (Bool.and_eq_true_iff.mp c).1))
    | false =>
      rw [if_neg Bool.false_ne_true, if_neg Bool.false_ne_true]
      exact ⟨_, _, rfl⟩
def kn4 (d : D) : Bool := kn d && match d with
  | .tup l => l.all kn3
  | _ => true
def badGroups (d : D) : Exn := ⟨"BadGroups", [("index", d)]⟩
def tabI (d : D) : Except Exn (List (Str × D)) := match d with
  | .tup (l0 :: l) => if (l0 :: l).length ≤ 8 then (match badAt l0 0 (l0 :: l) with
    | some k => .error (badGroups (.int (k : Nat)))
    | none => .ok [("rows", d)]) else .error (badGroups .non)
  | _ => .error (badGroups .non)
theorem tabI_cons {l0 : D} {l : List D} : tabI (.tup (l0 :: l)) = if (l0 :: l).length ≤ 8 then (match badAt l0 0 (l0 :: l) with
    | some k => .error (badGroups (.int (k : Nat)))
    | none => .ok [("rows", .tup (l0 :: l))]) else .error (badGroups .non) := rfl
def ini_Table : Ini := fun ds => match ds with
  | [d] => if kn4 d then some (tabI d) else none
  | _ => none
theorem table_init {d : D} {st : Sta} (h : kn4 d = true) : m_Table_init [.cell st.length, d] (st ++ [.obj "Table" []]) = match tabI d with
  | .ok fs => .ok .non (st ++ [.obj "Table" fs])
  | .error e => .exc e (st ++ [.obj "Table" []]) := by
  obtain ⟨hk, hl⟩ := Bool.and_eq_true_iff.mp h
  have h1 := isiT_tup_kn (st := st ++ [.obj "Table" []]) hk
  unfold m_Table_init b_Table_init
  have no : ∀ t : Env → M Bool, t (env0 4 [.cell st.length, d]) (st ++ [.obj "Table" []]) = .ok true (st ++ [.obj "Table" []]) →
      runB 4 (sSeq (sIf t (sRaise "BadGroups" ["index"] (argsC (cn .non) args0)) sNext) (sSeq (sFor (itN enumD (argsC (vr 1) args0)) (aTup 2 (aCons (aName 2) (aCons (aName 3) aNil))) l_Table_init_1) (sFldC "Table" "rows" (vr 0) (vr 1)))) [.cell st.length, d] (st ++ [.obj "Table" []]) = .exc (badGroups .non) (st ++ [.obj "Table" []]) := fun t ht => runB_exc (seq_exc (if_yes ht rfl))
  cases d with
  | tup l =>
    cases l with
    | nil => exact no _ (by simp [h1, isTu])
    | cons l0 l =>
      by_cases hn : (l0 :: l).length ≤ 8
      · have hn' : ((l0 :: l).length : Int) ≤ 8 := by omega
        have hp : (1 : Int) ≤ ((l0 :: l).length : Int) := by rw [List.length_cons]; omega
        obtain ⟨y2, y3, e⟩ := init_loop (k0 := st.length) (l0 := l0) (l := l) (st := st ++ [.obj "Table" []]) (ds := l0 :: l) (k := 0) (x2 := none) (x3 := none) (fun x hx => List.all_eq_true.mp hl x hx) (.inr ⟨l, rfl⟩)
        have hif : ∀ {b : SD} {r : SR}, sNext (env0 4 [.cell st.length, .tup (l0 :: l)]) (st ++ [.obj "Table" []]) = r → sIf (mOr (mNot (tst (op1 (isiT "tuple" CS) (vr 1)))) (mNot (tBool (mChain leD leD (cn (.int 1)) (opN lenD (argsC (vr 1) args0)) (cn (.int (8))))))) b sNext (env0 4 [.cell st.length, .tup (l0 :: l)]) (st ++ [.obj "Table" []]) = r := fun {b r} hr => if_no (st1 := st ++ [.obj "Table" []]) (by
          have e0 : env0 4 [.cell st.length, .tup (l0 :: l)] = [some (.fro (.cell st.length)), some (.fro (.tup (l0 :: l))), none, none] := rfl
          rw [e0]
          simp only [mOr_st, mNot_st, tst_st, op1_st, vr_st, List.getElem?_cons_succ, List.getElem?_cons_zero, rb_ok, rb_ok2, rd_st, h1, isTu, truth_bl, Bool.not_true, tBool_st, mChain_st, cn_st, opN_st, argsC_st, args0_st, lenD_tup, cmpD_int, asB_bl, decide_eq_true hp, decide_eq_true hn', if_true, if_false, Bool.false_eq_true]) hr
        rw [tabI_cons, if_pos hn]
        cases c : badAt l0 0 (l0 :: l) with
        | some j =>
          rw [c] at e
          exact runB_exc (seq_nx (hif rfl) (seq_exc (for_ok (st1 := st ++ [.obj "Table" []]) rfl e)))
        | none =>
          rw [c] at e
          refine runB_nx (seq_nx (hif rfl) (seq_nx (for_ok (st1 := st ++ [.obj "Table" []]) rfl e) (?_ : _ = SR.nx [some (.fro (.cell st.length)), some (.fro (.tup (l0 :: l))), y2, y3] _)))
          unfold sFldC
          rw [sE_st]
          show (match (st ++ [Cell.obj "Table" []])[st.length]? with
            | some (.obj c' fs) => if c' = "Table" ∧ fs.length < 1000 then SR.nx _ ((st ++ [Cell.obj "Table" []]).set st.length (.obj c' (putF "rows" (.tup (l0 :: l)) fs))) else .bad
            | _ => .bad) = _
          rw [List.getElem?_append_right (Nat.le_refl _), Nat.sub_self]
          show (if ("Table" : Str) = "Table" ∧ ([] : List (Str × D)).length < 1000 then SR.nx _ ((st ++ [Cell.obj "Table" []]).set st.length (.obj "Table" (putF "rows" (.tup (l0 :: l)) []))) else .bad) = _
          rw [if_pos ⟨rfl, by decide⟩, List.set_append_right _ _ (Nat.le_refl _), Nat.sub_self]
          rfl
      · have hn' : ¬ ((l0 :: l).length : Int) ≤ 8 := by omega
        have hp : (1 : Int) ≤ ((l0 :: l).length : Int) := by rw [List.length_cons]; omega
        rw [tabI_cons, if_neg hn]
        refine no _ ?_
        have e0 : env0 4 [.cell st.length, .tup (l0 :: l)] = [some (.fro (.cell st.length)), some (.fro (.tup (l0 :: l))), none, none] := rfl
        rw [e0]
        simp only [mOr_st, mNot_st, tst_st, op1_st, vr_st, List.getElem?_cons_succ, List.getElem?_cons_zero, rb_ok, rb_ok2, rd_st, h1, isTu, truth_bl, Bool.not_true, Bool.not_false, tBool_st, mChain_st, cn_st, opN_st, argsC_st, args0_st, lenD_tup, cmpD_int, asB_bl, decide_eq_true hp, decide_eq_false hn', if_true, if_false, Bool.false_eq_true]
  | _ => exact no _ (by simp [h1, isTu])
theorem ini_eq {ds : List D} {r : Except Exn (List (Str × D))} (h : ini_Table ds = some r) : ∃ d, ds = [d] ∧ kn4 d = true ∧ r = tabI d := by
  match ds, h with
  | [d], h =>
    have h' : (if kn4 d then some (tabI d) else none) = some r := h
    by_cases hk : kn4 d = true
    · rw [if_pos hk] at h'
      exact ⟨d, rfl, hk, (Option.some.inj h').symm⟩
    · rw [if_neg hk] at h'
      cases h'
theorem tabI_ok {d : D} {fs : List (Str × D)} (h : tabI d = .ok fs) : fs = [(("rows" : Str), d)] := by
  unfold tabI at h
  split at h
  · split at h
    · split at h
      · cases h
      · cases h
        rfl
    · cases h
  · cases h
theorem tabI_err {d : D} {e : Exn} (h : tabI d = .error e) : ∃ x, e = badGroups x ∧ noCell 8 x = true := by
  unfold tabI at h
  split at h
  · split at h
    · split at h
      · cases h
        exact ⟨_, rfl, rfl⟩
      · cases h
    · cases h
      exact ⟨_, rfl, rfl⟩
  · cases h
    exact ⟨_, rfl, rfl⟩
theorem inik_Table : IniOk "Table" 1 m_Table_init ini_Table := by
  refine ⟨fun ds st r h => ?_, fun ds r h => ?_, fun ds fs h p hp => ?_, fun ds e h p hp => ?_⟩
  all_goals obtain ⟨d, rfl, hk, hr⟩ := ini_eq h
  · rw [hr]
    exact table_init hk
  · rfl
  · rw [tabI_ok hr.symm] at hp
    rw [List.mem_singleton.mp hp]
    exact .inl (List.mem_singleton.mpr rfl)
  · obtain ⟨x, rfl, hx⟩ := tabI_err hr.symm
    rw [List.mem_singleton.mp (show p ∈ [(("index" : Str), x)] from hp)]
    exact .inr hx
def b_verdict_of : SD := (sSeq (sAsg (op2 ixD (vr 0) (vr 1)) (aTup 2 (aCons (aName 3) (aCons (aName 4) aNil)))) (sSeq (sAsg (op2 ixD (vr 0) (vr 2)) (aTup 2 (aCons (aName 5) (aCons (aName 6) aNil)))) (sSeq (sIf (mOr (tBool (op2 eqD (vr 4) (cn (.int 0)))) (tBool (op2 eqD (vr 6) (cn (.int 0))))) (sRet (cn .non)) sNext) (sSeq (sSet 7 (op2 subD (op2 mulD (vr 3) (vr 6)) (op2 mulD (vr 5) (vr 4)))) (sRet (op2 subD (opN intD (argsC (op2 gtD (vr 7) (cn (.int 0))) args0)) (opN intD (argsC (op2 ltD (vr 7) (cn (.int 0))) args0))))))))
def m_verdict_of : List D → M D := runB 8 b_verdict_of

def c_sums_of_1 : Env → M (List D) := (mLc [3] (bName 3) yes (op2 ixD (op2 ixD (vr 3) (vr 2)) (cn (.int 1))) (itO seqIt (vr 0)))
def c_sums_of_2 : Env → M (List D) := (mLc [3] (bName 3) yes (op2 ixD (op2 ixD (vr 3) (vr 2)) (cn (.int 0))) (itO seqIt (vr 0)))
def l_sums_of_1 : SD := (sAppO 1 (opN mkTup (argsC (opN sumD (argsC (lstF c_sums_of_2) args0)) (argsC (opN sumD (argsC (lstF c_sums_of_1) args0)) args0))))
def b_sums_of : SD := (sSeq (sOwn 1 (dispL args0)) (sSeq (sFor (itN rng1 (argsC (opN lenD (argsC (op2 ixD (vr 0) (cn (.int 0))) args0)) args0)) (aName 2) l_sums_of_1) (sFrz 1 (sRet (opN tupleD (argsC (vr 1) args0))))))
def m_sums_of : List D → M D := runB 4 b_sums_of

def Bd (c : Int × Int) : Prop := 0 ≤ c.1 ∧ c.1 ≤ 10 ^ 40 ∧ 0 ≤ c.2 ∧ c.2 ≤ 10 ^ 40
def oiD : Option Int → D
  | none => .non
  | some i => .int i
def vd (a b : Int × Int) : Option Int := if a.2 = 0 ∨ b.2 = 0 then none else some (if b.1 * a.2 < a.1 * b.2 then 1 else if a.1 * b.2 < b.1 * a.2 then -1 else 0)
theorem log_40 {i : Int} (h0 : 0 ≤ i) (h1 : i ≤ 10 ^ 40) : i.natAbs.log2 < 200 := by
  by_cases z : i = 0
  · subst z
    decide
  · exact (Nat.log2_lt (by omega)).mpr (by omega)
theorem mul_bd {i j : Int} {st : Sta} (h0 : 0 ≤ i) (h1 : i ≤ 10 ^ 40) (h2 : 0 ≤ j) (h3 : j ≤ 10 ^ 40) : mulD (.int i) (.int j) st = some (.int (i * j)) := mulD_int (by
  unfold mulOk
  have a := log_40 h0 h1
  have b := log_40 h2 h3
  rw [decide_eq_true (show i.natAbs.log2 + j.natAbs.log2 < 1000000 by omega), Bool.or_true, Bool.or_true])
theorem atI_row {row : List (Int × Int)} {k : Nat} (h : k < row.length) : atI (row.map cellD) (k : Int) = some (cellD row[k]) := by
  rw [atI_nat (by simpa using h)]
  simp
theorem verdict_of_ok {row : List (Int × Int)} {i j : Nat} {st : Sta} (hi : i < row.length) (hj : j < row.length) (bi : Bd row[i]) (bj : Bd row[j]) : m_verdict_of [rowD row, .int i, .int j] st = .ok (oiD (vd row[i] row[j])) st := by
  have ei := atI_row hi
  have ej := atI_row hj
  obtain ⟨a1, a2, a3, a4⟩ := bi
  obtain ⟨b1, b2, b3, b4⟩ := bj
  have m1 : ∀ st, mulD (.int row[i].1) (.int row[j].2) st = some (.int (row[i].1 * row[j].2)) := fun st => mul_bd a1 a2 b3 b4
  have m2 : ∀ st, mulD (.int row[j].1) (.int row[i].2) st = some (.int (row[j].1 * row[i].2)) := fun st => mul_bd b1 b2 a3 a4
  unfold vd
  generalize row[i] = a at *
  generalize row[j] = b at *
  obtain ⟨g, t⟩ := a
  obtain ⟨mt, tn⟩ := b
  dsimp only at *
  have e0 : env0 8 [rowD row, .int i, .int j] = [some (.fro (rowD row)), some (.fro (.int i)), some (.fro (.int j)), none, none, none, none, none] := rfl
  unfold m_verdict_of b_verdict_of
  have s1 : sAsg (op2 ixD (vr 0) (vr 1)) (aTup 2 (aCons (aName 3) (aCons (aName 4) aNil))) (env0 8 [rowD row, .int i, .int j]) st = .nx [some (.fro (rowD row)), some (.fro (.int i)), some (.fro (.int j)), some (.fro (.int g)), some (.fro (.int t)), none, none, none] st := by
    rw [e0]
    simp [rowD, ei, cellD]
  have s2 : sAsg (op2 ixD (vr 0) (vr 2)) (aTup 2 (aCons (aName 5) (aCons (aName 6) aNil))) [some (.fro (rowD row)), some (.fro (.int i)), some (.fro (.int j)), some (.fro (.int g)), some (.fro (.int t)), none, none, none] st = .nx [some (.fro (rowD row)), some (.fro (.int i)), some (.fro (.int j)), some (.fro (.int g)), some (.fro (.int t)), some (.fro (.int mt)), some (.fro (.int tn)), none] st := by
    simp [rowD, ej, cellD]
  refine runB_rt (seq_nx s1 (seq_nx s2 ?_))
  by_cases z : t = 0 ∨ tn = 0
  · rw [if_pos z]
    refine seq_rt (if_yes (st1 := st) ?_ rfl)
    by_cases t0 : t = 0
    · simp [t0]
    · have z2 : tn = 0 := z.resolve_left t0
      simp [t0, z2]
  · rw [if_neg z]
    have t0 : ¬ t = 0 := fun h => z (.inl h)
    have z2 : ¬ tn = 0 := fun h => z (.inr h)
    refine seq_nx (env1 := [some (.fro (rowD row)), some (.fro (.int i)), some (.fro (.int j)), some (.fro (.int g)), some (.fro (.int t)), some (.fro (.int mt)), some (.fro (.int tn)), none]) (st1 := st) (if_no (st1 := st) ?_ rfl) (seq_nx (env1 := [some (.fro (rowD row)), some (.fro (.int i)), some (.fro (.int j)), some (.fro (.int g)), some (.fro (.int t)), some (.fro (.int mt)), some (.fro (.int tn)), some (.fro (.int (g * tn - mt * t)))]) (st1 := st) (set_ok (st1 := st) ?_ rfl) (ret_ok ?_))
    · simp [t0, z2]
    · simp [m1, m2]
    · rcases Int.lt_trichotomy (g * tn) (mt * t) with h | h | h
      · simp [oiD, show ¬ (0 < g * tn - mt * t) by omega, show g * tn - mt * t < 0 by omega, show ¬ (mt * t < g * tn) by omega, h]
      · simp [oiD, show ¬ (0 < g * tn - mt * t) by omega, show ¬ (g * tn - mt * t < 0) by omega, show ¬ (mt * t < g * tn) by omega, show ¬ (g * tn < mt * t) by omega]
      · simp [oiD, show (0 < g * tn - mt * t) by omega, show ¬ (g * tn - mt * t < 0) by omega, h]
end PL
set_option Elab.async false
set_option linter.all false
set_option maxRecDepth 100000
set_option maxHeartbeats 4000000
namespace PL
open PySem PySem.Spec PyProof.Rows L2
def c_is_turned_1 : Env → M (List D) := (mLc [3] (bName 3) yes (op2 eqD (mCall (argsC (vr 3) (argsC (vr 1) (argsC (vr 2) args0))) (argN 3 m_verdict_of)) (cn (.int 1))) (itO seqIt (vr 0)))
def b_is_turned : SD := (sSeq (sIf (mNot (tst (opN allD (argsC (lstF c_is_turned_1) args0)))) (sRet (cn (.bl false))) sNext) (sRet (op2 eqD (mCall (argsC (mCall (argsC (vr 0) args0) (argN 1 m_sums_of)) (argsC (vr 1) (argsC (vr 2) args0))) (argN 3 m_verdict_of)) (op1 negD (cn (.int 1))))))
def m_is_turned : List D → M D := runB 4 b_is_turned

def b_need_two : SD := (sIf (mOr (mNot (tst (mCall (argsC (vr 1) (argsC (cn (.int 0)) (argsC (op2 subD (vr 0) (cn (.int 1))) args0))) (argN 3 m_is_from)))) (mOr (mNot (tst (mCall (argsC (vr 2) (argsC (cn (.int 0)) (argsC (op2 subD (vr 0) (cn (.int 1))) args0))) (argN 3 m_is_from)))) (tBool (op2 eqD (vr 1) (vr 2))))) (sRaise0 "BadWay") sNext)
def m_need_two : List D → M D := runB 3 b_need_two

def b_need_table : SD := (sIf (mNot (tst (op1 (isiC "Table" CS) (vr 0)))) (sRaise0 "BadTable") sNext)
def m_need_table : List D → M D := runB 1 b_need_table

def b_turned : SD := (sSeq (sDrop (mCall (argsC (vr 0) args0) (argN 1 m_need_table))) (sSeq (sDrop (mCall (argsC (opN lenD (argsC (op2 ixD (op1 (fldD "Table" "rows") (vr 0)) (cn (.int 0))) args0)) (argsC (vr 1) (argsC (vr 2) args0))) (argN 3 m_need_two))) (sRet (mCall (argsC (op1 (fldD "Table" "rows") (vr 0)) (argsC (vr 1) (argsC (vr 2) args0))) (argN 3 m_is_turned)))))
def m_turned : List D → M D := runB 3 b_turned

def b_totals : SD := (sSeq (sDrop (mCall (argsC (vr 0) args0) (argN 1 m_need_table))) (sRet (mCall (argsC (op1 (fldD "Table" "rows") (vr 0)) args0) (argN 1 m_sums_of))))
def m_totals : List D → M D := runB 1 b_totals

def b_verdict : SD := (sSeq (sIf (mNot (tst (mCall (argsC (vr 0) args0) (argN 1 m_is_group)))) (sRaise0 "BadGroup") sNext) (sSeq (sDrop (mCall (argsC (opN lenD (argsC (vr 0) args0)) (argsC (vr 1) (argsC (vr 2) args0))) (argN 3 m_need_two))) (sRet (mCall (argsC (vr 0) (argsC (vr 1) (argsC (vr 2) args0))) (argN 3 m_verdict_of)))))
def m_verdict : List D → M D := runB 3 b_verdict

def c_pairs_turned_1 : Env → M (List D) := (mLc [3, 4] (bTup [3, 4]) (tst (mCall (argsC (vr 0) (argsC (vr 3) (argsC (vr 4) args0))) (argN 3 m_is_turned))) (opN mkTup (argsC (vr 3) (argsC (vr 4) args0))) (itO seqIt (vr 2)))
def c_pairs_turned_2 : Env → M (List D) := (mLc2 [3, 4] [4] (bName 3) yes (itN rng1 (argsC (vr 1) args0)) (bName 4) (tBool (op2 neD (vr 3) (vr 4))) (opN mkTup (argsC (vr 3) (argsC (vr 4) args0))) (itN rng1 (argsC (vr 1) args0)))
def b_pairs_turned : SD := (sSeq (sSet 1 (opN lenD (argsC (op2 ixD (vr 0) (cn (.int 0))) args0))) (sSeq (sSet 2 (lstF c_pairs_turned_2)) (sRet (lstF c_pairs_turned_1))))
def m_pairs_turned : List D → M D := runB 5 b_pairs_turned

inductive IsSeq : D → List D → Prop
  | tup (l : List D) : IsSeq (.tup l) l
  | lst (l : List D) : IsSeq (.lst l) l
section
variable {d : D} {l : List D} {st : Sta}
theorem IsSeq.it (h : IsSeq d l) : seqIt d st = some l := by cases h <;> rfl
theorem IsSeq.ix (h : IsSeq d l) {i : Int} : ixD d (.int i) st = atI l i := by cases h <;> rfl
theorem IsSeq.len (h : IsSeq d l) : lenD [d] st = some (.int l.length) := by cases h <;> rfl
end
theorem intsOf_map {α : Type} (f : α → Int) : ∀ l : List α, intsOf (l.map fun x => D.int (f x)) = some (l.map f)
  | [] => rfl
  | x :: l => by
    show (intsOf (l.map fun x => D.int (f x))).map (f x :: ·) = _
    rw [intsOf_map f l]
    rfl
@[simp] theorem sumD_map {α : Type} {f : α → Int} {l : List α} {st : Sta} : sumD [.lst (l.map fun x => D.int (f x))] st = some (.int (l.map f).sum) := by
  show (intsOf _).map _ = _
  rw [intsOf_map]
  rfl
def cl (r : List (Int × Int)) (k : Nat) : Int × Int := r.getD k (0, 0)
theorem cl_eq {r : List (Int × Int)} {k : Nat} (h : k < r.length) : cl r k = r[k] := by
  unfold cl
  rw [List.getD_eq_getElem?_getD, List.getElem?_eq_getElem h]
  rfl
theorem cl_mem {r : List (Int × Int)} {k : Nat} (h : k < r.length) : cl r k ∈ r := by
  rw [cl_eq h]
  exact List.getElem_mem h
theorem atI_cl {r : List (Int × Int)} {k : Nat} (h : k < r.length) : atI (r.map cellD) (k : Int) = some (cellD (cl r k)) := by rw [atI_row h, cl_eq h]
theorem verdict_cl {row : List (Int × Int)} {i j : Nat} {st : Sta} (hi : i < row.length) (hj : j < row.length) (bi : Bd (cl row i)) (bj : Bd (cl row j)) : m_verdict_of [rowD row, .int i, .int j] st = .ok (oiD (vd (cl row i) (cl row j))) st := by
  rw [cl_eq hi, cl_eq hj] at *
  exact verdict_of_ok hi hj bi bj
structure Fit (w : Nat) (rows : List (List (Int × Int))) : Prop where
  len : ∀ r ∈ rows, r.length = w
  bd : ∀ r ∈ rows, ∀ c ∈ r, 0 ≤ c.1 ∧ c.1 ≤ c.2 ∧ c.2 ≤ 10 ^ 30
  n : rows.length ≤ 1000
theorem Fit.cell {w : Nat} {rows : List (List (Int × Int))} (F : Fit w rows) {r : List (Int × Int)} (hr : r ∈ rows) {k : Nat} (hk : k < w) : 0 ≤ (cl r k).1 ∧ (cl r k).1 ≤ (cl r k).2 ∧ (cl r k).2 ≤ 10 ^ 30 := F.bd r hr _ (cl_mem (by rw [F.len r hr]; exact hk))
theorem Fit.Bd {w : Nat} {rows : List (List (Int × Int))} (F : Fit w rows) {r : List (Int × Int)} (hr : r ∈ rows) {k : Nat} (hk : k < w) : Bd (cl r k) := by
  obtain ⟨h1, h2, h3⟩ := F.cell hr hk
  unfold PL.Bd
  omega
def tot (rows : List (List (Int × Int))) (k : Nat) : Int × Int := ((rows.map fun r => (cl r k).1).sum, (rows.map fun r => (cl r k).2).sum)
def sumsC (rows : List (List (Int × Int))) (w : Nat) : List (Int × Int) := (List.range w).map (tot rows)
theorem sum_bd {α : Type} {f : α → Int} {b : Int} : ∀ {l : List α}, (∀ a ∈ l, 0 ≤ f a ∧ f a ≤ b) → 0 ≤ (l.map f).sum ∧ (l.map f).sum ≤ l.length * b
  | [], _ => by simp
  | a :: l, h => by
    have h1 := h a (List.mem_cons_self ..)
    have h2 := sum_bd (l := l) fun x m => h x (List.mem_cons_of_mem _ m)
    rw [List.map_cons, List.sum_cons, List.length_cons]
    have : ((l.length + 1 : Nat) : Int) * b = l.length * b + b := by
      rw [Int.natCast_add, Int.add_mul]
      simp
    omega
theorem tot_Bd {w : Nat} {rows : List (List (Int × Int))} (F : Fit w rows) {k : Nat} (hk : k < w) : Bd (tot rows k) := by
  have h1 := sum_bd (f := fun r : List (Int × Int) => (cl r k).1) (b := 10 ^ 30) (l := rows) fun r hr => by have := F.cell hr hk; omega
  have h2 := sum_bd (f := fun r : List (Int × Int) => (cl r k).2) (b := 10 ^ 30) (l := rows) fun r hr => by have := F.cell hr hk; omega
  have hn : (rows.length : Int) * 10 ^ 30 ≤ 1000 * 10 ^ 30 := Int.mul_le_mul_of_nonneg_right (by have := F.n; omega) (by decide)
  refine ⟨h1.1, ?_, h2.1, ?_⟩
  · exact Int.le_trans h1.2 (Int.le_trans hn (by decide))
  · exact Int.le_trans h2.2 (Int.le_trans hn (by decide))
theorem sums_len {rows : List (List (Int × Int))} {w : Nat} : (sumsC rows w).length = w := by simp [sumsC]
theorem sums_cl {rows : List (List (Int × Int))} {w k : Nat} (h : k < w) : cl (sumsC rows w) k = tot rows k := by
  rw [cl_eq (by rw [sums_len]; exact h)]
  simp [sumsC]
section
variable {rows : List (List (Int × Int))} {w : Nat} {d : D} {st : Sta}
theorem row0 (h0 : rows ≠ []) : ∃ r rs, rows = r :: rs := by
  cases rows with
  | nil => exact absurd rfl h0
  | cons a b => exact ⟨a, b, rfl⟩
theorem ix0 (hd : IsSeq d (rows.map rowD)) (h0 : rows ≠ []) (F : Fit w rows) : ∃ r, ixD d (.int 0) st = some (rowD r) ∧ r.length = w ∧ lenD [rowD r] st = some (.int w) := by
  obtain ⟨r, rs, rfl⟩ := row0 h0
  have hl := F.len r (List.mem_cons_self ..)
  refine ⟨r, ?_, hl, ?_⟩
  · rw [hd.ix]
    exact atI_zero
  · unfold rowD
    rw [lenD_tup, List.length_map, hl]
theorem sums_turn {k : Nat} {acc : List D} {x3 : Option SV} {Q : SR → Prop} (hd : IsSeq d (rows.map rowD)) (F : Fit w rows) (hk : k < w) (ha : acc.length ≤ 1000) :
    evS l_sums_of_1 [some (.fro d), some (.own (.lst acc)), some (.fro (.int k)), x3] st Q = Q (.nx [some (.fro d), some (.own (.lst (acc ++ [cellD (tot rows k)]))), some (.fro (.int k)), x3] st) := by
  have hs : acc.length < sizeLine := by rw [sizeLine_eq]; omega
  have hn := F.n
  have c1 : c_sums_of_1 [some (.fro d), some (.own (.lst acc)), some (.fro (.int k)), x3] st = .ok (rows.map fun r => .int (cl r k).2) st := by
    apply ev_res
    unfold c_sums_of_1
    simp [hd.it]
    rw [evC_map (e1 := fun r => [some (.fro d), some (.own (.lst acc)), some (.fro (.int k)), some (.fro (rowD r))]) (fv := fun r => .int (cl r k).2)]
    · simp
    · intro r hr
      have e := atI_cl (r := r) (k := k) (by rw [F.len r hr]; exact hk)
      exact ⟨rfl, by simp, by simp [rowD, e, cellD]⟩
    · exact small_le (by simpa using hn)
  have c2 : c_sums_of_2 [some (.fro d), some (.own (.lst acc)), some (.fro (.int k)), x3] st = .ok (rows.map fun r => .int (cl r k).1) st := by
    apply ev_res
    unfold c_sums_of_2
    simp [hd.it]
    rw [evC_map (e1 := fun r => [some (.fro d), some (.own (.lst acc)), some (.fro (.int k)), some (.fro (rowD r))]) (fv := fun r => .int (cl r k).1)]
    · simp
    · intro r hr
      have e := atI_cl (r := r) (k := k) (by rw [F.len r hr]; exact hk)
      exact ⟨rfl, by simp, by simp [rowD, e, cellD]⟩
    · exact small_le (by simpa using hn)
  unfold l_sums_of_1
  simp [evM_of c1, evM_of c2, hs, tot, cellD]
theorem sums_of_ok (hd : IsSeq d (rows.map rowD)) (h0 : rows ≠ []) (F : Fit w rows) (hw : w ≤ 1000) : m_sums_of [d] st = .ok (rowD (sumsC rows w)) st := by
  obtain ⟨r, e0, hl, e1⟩ := ix0 (st := st) hd h0 F
  apply ev_run
  unfold m_sums_of b_sums_of
  simp [e0, e1, rng1_st (show (0 : Int) ≤ w by omega) (show (w : Int) < 2 ^ 62 by omega)]
  refine evL_rng (fun k env st' => ∃ x2 x3, env = [some (.fro d), some (.own (.lst (((List.range k).map (tot rows)).map cellD))), x2, x3] ∧ st = st') ?_ ?_ ⟨_, _, rfl, rfl⟩
  · rintro k hk _ _ ⟨x2, x3, rfl, rfl⟩
    simp
    rw [sums_turn hd F hk (by simp; omega)]
    simp [List.range_succ]
  · rintro _ _ ⟨x2, x3, rfl, rfl⟩
    simp [rowD, sumsC]
@[simp] theorem eqD_oi {o : Option Int} {j : Int} : eqD (oiD o) (.int j) st = some (.bl (decide (o = some j))) := by
  cases o with
  | none => simp [oiD]
  | some i => simp [oiD]
@[simp] theorem neD_oi {o : Option Int} {j : Int} : neD (oiD o) (.int j) st = some (.bl (!decide (o = some j))) := by
  cases o with
  | none => simp [oiD]
  | some i => simp [oiD]
def abt (rows : List (List (Int × Int))) (i j : Nat) : Bool := rows.all (fun r => decide (vd (cl r i) (cl r j) = some 1)) && decide (vd (tot rows i) (tot rows j) = some (-1))
theorem is_turned_ok {i j : Nat} (hd : IsSeq d (rows.map rowD)) (h0 : rows ≠ []) (F : Fit w rows) (hw : w ≤ 1000) (hi : i < w) (hj : j < w) : m_is_turned [d, .int i, .int j] st = .ok (.bl (abt rows i j)) st := by
  have c1 : c_is_turned_1 [some (.fro d), some (.fro (.int i)), some (.fro (.int j)), none] st = .ok (rows.map fun r => .bl (decide (vd (cl r i) (cl r j) = some 1))) st := by
    apply ev_res
    unfold c_is_turned_1
    simp [hd.it]
    rw [evC_map (e1 := fun r => [some (.fro d), some (.fro (.int i)), some (.fro (.int j)), some (.fro (rowD r))]) (fv := fun r => .bl (decide (vd (cl r i) (cl r j) = some 1)))]
    · simp
    · intro r hr
      have e := verdict_cl (row := r) (i := i) (j := j) (st := st) (by rw [F.len r hr]; exact hi) (by rw [F.len r hr]; exact hj) (F.Bd hr hi) (F.Bd hr hj)
      exact ⟨rfl, by simp, by simp [e]⟩
    · exact small_le (by simpa using F.n)
  have e2 := sums_of_ok (st := st) hd h0 F hw
  have e3 := verdict_cl (row := sumsC rows w) (i := i) (j := j) (st := st) (by rw [sums_len]; exact hi) (by rw [sums_len]; exact hj) (by rw [sums_cl hi]; exact tot_Bd F hi) (by rw [sums_cl hj]; exact tot_Bd F hj)
  rw [sums_cl hi, sums_cl hj] at e3
  apply ev_run
  unfold m_is_turned b_is_turned abt
  simp only [evR_runB]
  cases q : rows.all (fun r => decide (vd (cl r i) (cl r j) = some 1)) with
  | false => simp [evM_of c1, allD_map, q]
  | true => simp [evM_of c1, allD_map, q, e2, e3]
end
end PL
set_option Elab.async false
set_option linter.all false
set_option maxRecDepth 100000
set_option maxHeartbeats 4000000
namespace PL
open PySem PySem.Spec PyProof.Rows L2
section
variable {st : Sta} {d e : D} {rows : List (List (Int × Int))} {w i j : Nat}
def two (w : Int) (a b : D) : Bool := match a, b with
  | .int i, .int j => decide (0 ≤ i ∧ i < w ∧ 0 ≤ j ∧ j < w ∧ i ≠ j)
  | _, _ => false
def tableD (rows : List (List (Int × Int))) : D := .obj "Table" [("rows", rowsD rows)]
@[simp] theorem isiC_table : isiC "Table" CS (tableD rows) st = some (.bl true) := by
  unfold tableD
  rw [isiC_obj (by decide)]
  rfl
@[simp] theorem fld_rows : fldD "Table" "rows" (tableD rows) st = some (rowsD rows) := by
  unfold tableD fldD isObj fieldsOf
  simp
theorem need_table_ok : m_need_table [tableD rows] st = .ok .non st := by
  apply ev_run
  unfold m_need_table b_need_table
  simp
theorem rowsD_seq : IsSeq (rowsD rows) (rows.map rowD) := .tup _
structure Tb (w : Nat) (rows : List (List (Int × Int))) : Prop where
  fit : Fit w rows
  n1 : 1 ≤ rows.length
  n8 : rows.length ≤ 8
  w2 : 2 ≤ w
  w4 : w ≤ 4
theorem Tb.ne (T : Tb w rows) : rows ≠ [] := fun h => by have := T.n1; rw [h] at this; cases this
theorem isGroup_row {r : List (Int × Int)} (h2 : 2 ≤ r.length) (h4 : r.length ≤ 4) (hc : ∀ c ∈ r, 0 ≤ c.1 ∧ c.1 ≤ c.2 ∧ c.2 ≤ 10 ^ 30) : isGroupD (rowD r) = true := by
  unfold rowD isGroupD
  simp [h2, h4, cellD, isCellD, isFromD]
  intro a b m
  have := hc _ m
  dsimp only at this
  omega
theorem Tb.group (T : Tb w rows) {r : List (Int × Int)} (hr : r ∈ rows) : isGroupD (rowD r) = true := isGroup_row (by rw [T.fit.len r hr]; exact T.w2) (by rw [T.fit.len r hr]; exact T.w4) (T.fit.bd r hr)
theorem ix0_rows (F : Fit w rows) (h0 : rows ≠ []) : ∃ r, r ∈ rows ∧ ixD (rowsD rows) (.int 0) st = some (rowD r) ∧ lenD [rowD r] st = some (.int w) ∧ r = rows.getD 0 [] := by
  obtain ⟨r, rs, rfl⟩ := row0 h0
  refine ⟨r, List.mem_cons_self .., ?_, ?_, rfl⟩
  · rw [rowsD_seq.ix]
    exact atI_zero
  · unfold rowD
    rw [lenD_tup, List.length_map, F.len r (List.mem_cons_self ..)]
def natD (i : Nat) : D := .int (i : Int)
theorem rng0 {n : Nat} : rng 0 n = (List.range n).map natD := by
  unfold rng natD
  simp
def prA (w i : Nat) : List (Nat × Nat) := ((List.range w).filter fun j => decide (i ≠ j)).map fun j => (i, j)
def prK (w k : Nat) : List (Nat × Nat) := (List.range k).flatMap (prA w)
def prs (w : Nat) : List (Nat × Nat) := prK w w
def prD (p : Nat × Nat) : D := .tup [natD p.1, natD p.2]
theorem prs_mem {p : Nat × Nat} : p ∈ prs w ↔ p.1 < w ∧ p.2 < w ∧ p.1 ≠ p.2 := by
  unfold prs prK prA
  simp only [List.mem_flatMap, List.mem_range, List.mem_map, List.mem_filter, decide_eq_true_eq]
  constructor
  · rintro ⟨a, ha, b, ⟨hb, hne⟩, rfl⟩
    exact ⟨ha, hb, hne⟩
  · rintro ⟨h1, h2, h3⟩
    exact ⟨p.1, h1, p.2, ⟨h2, h3⟩, rfl⟩
theorem prA_len {i : Nat} : (prA w i).length ≤ w := by
  unfold prA
  rw [List.length_map]
  have := List.length_filter_le (fun j => decide (i ≠ j)) (List.range w)
  rwa [List.length_range] at this
theorem prK_succ {k : Nat} : prK w (k + 1) = prK w k ++ prA w k := by simp [prK, List.range_succ]
theorem prK_len {k : Nat} : (prK w k).length ≤ k * w := by
  induction k with
  | zero => simp [prK]
  | succ k ih =>
    have := prA_len (w := w) (i := k)
    rw [prK_succ, List.length_append, Nat.succ_mul]
    omega
theorem prs_len : (prs w).length ≤ w * w := prK_len
theorem rng1_w (h : w ≤ 1000) : rng1 [.int (w : Int)] st = some ((List.range w).map natD) := by
  rw [rng1_st (by omega) (by omega), ← rng0]
  rfl
theorem pairs_turned_ok (T : Tb w rows) : m_pairs_turned [rowsD rows] st = .ok (.lst (((prs w).filter fun p => abt rows p.1 p.2).map prD)) st := by
  obtain ⟨r, hr, e0, e1, _⟩ := ix0_rows (st := st) T.fit T.ne
  have hw := T.w4
  have hl := prs_len (w := w)
  have hw2 : w * w ≤ 16 := Nat.mul_le_mul hw hw
  have c2 : c_pairs_turned_2 [some (.fro (rowsD rows)), some (.fro (.int w)), none, none, none] st = .ok ((prs w).map prD) st := by
    apply ev_res
    unfold c_pairs_turned_2
    simp [rng1_w (show w ≤ 1000 by omega)]
    rw [evC2_flat (e1 := fun i => [some (.fro (rowsD rows)), some (.fro (.int w)), none, some (.fro (natD i)), none]) (es := fun _ => (List.range w).map natD) (gs := fun i => (prA w i).map prD)]
    · simp [prs, prK, List.map_flatMap]
    · intro i hi
      refine ⟨rfl, by simp, by simp [rng1_w (show w ≤ 1000 by omega)], fun acc ha => ?_⟩
      rw [evC_fmap (e1 := fun j => [some (.fro (rowsD rows)), some (.fro (.int w)), none, some (.fro (natD i)), some (.fro (natD j))]) (p := fun j => decide (i ≠ j)) (fv := fun j => prD (i, j))]
      · simp [prA, Function.comp_def]
      · intro j hj
        exact ⟨rfl, by simp [natD]; omega, by simp [prD]⟩
      · simpa [prA] using ha
    · rw [← List.map_flatMap]
      exact small_m (by rw [List.length_map]; exact Nat.le_trans hl (by omega))
  apply ev_run
  unfold m_pairs_turned b_pairs_turned
  simp [e0, e1, evM_of c2]
  unfold c_pairs_turned_1
  simp
  rw [evC_fmap (e1 := fun p => [some (.fro (rowsD rows)), some (.fro (.int w)), some (.fro (.lst ((prs w).map prD))), some (.fro (natD p.1)), some (.fro (natD p.2))]) (p := fun p => abt rows p.1 p.2) (fv := prD)]
  · simp
  · intro p hp
    obtain ⟨h1, h2, h3⟩ := prs_mem.mp hp
    exact ⟨rfl, by simp [natD, is_turned_ok rowsD_seq T.ne T.fit (show w ≤ 1000 by omega) h1 h2], by simp [prD]⟩
  · exact small_f (by omega)
theorem taken_ev {r : Cell} {rest : Sta} {many : Int} {Q : Res D → Prop} (hr : RowOk r) (h0 : 0 < many) (h1 : many ≤ 10 ^ 60) (h : ∀ (x : Nat) r', RowOk r' → (x : Int) < many → Q (.ok (.int x) (r' :: rest))) : evR (m_law_taken [.cell 0, .int many] (r :: rest)) Q := by
  obtain ⟨x, r', e, h2, h3, h4⟩ := taken_ok (rest := rest) hr h0 h1
  rw [evR_of e]
  obtain ⟨k, rfl⟩ := Int.eq_ofNat_of_zero_le h3
  exact h k r' h2 h4
@[simp] theorem pln_oi {o : Option Int} : pln 8 (oiD o) = true := by cases o <;> rfl
@[simp] theorem pln_bl {n : Nat} {b : Bool} : pln n (.bl b) = true := by cases n <;> rfl
@[simp] theorem pln_int {n : Nat} {i : Int} : pln n (.int i) = true := by cases n <;> rfl
@[simp] theorem pln_cell {n : Nat} {c : Int × Int} : pln (n + 1) (cellD c) = true := by simp [cellD, pln]
@[simp] theorem pln_row {n : Nat} {r : List (Int × Int)} : pln (n + 2) (rowD r) = true := by simp [rowD, pln]
@[simp] theorem pln_rows {n : Nat} : pln (n + 3) (rowsD rows) = true := by simp [rowsD, pln]
@[simp] theorem pln_prD {n : Nat} {p : Nat × Nat} : pln (n + 1) (prD p) = true := by simp [prD, natD, pln]
@[simp] theorem pln_prs {n : Nat} {l : List (Nat × Nat)} : pln (n + 2) (.lst (l.map prD)) = true := by simp [pln]
@[simp] theorem kn_oi {o : Option Int} : kn (oiD o) = true := by cases o <;> rfl
@[simp] theorem isBl_oi {o : Option Int} : isBl (oiD o) = false := by cases o <;> rfl
@[simp] theorem isSub_self {t c : Str} : isSub t c c = true := by simp [isSub]
@[simp] theorem isSub_top {t c : Str} : isSub t c t = true := by simp [isSub]
end
end PL
set_option Elab.async false
set_option linter.all false
set_option maxRecDepth 100000
set_option maxHeartbeats 4000000
namespace PL
open PySem PySem.Spec PyProof.Rows L2
def b_need_whole : SD := (sIf (mOr (mNot (tst (mCall (argsC (vr 0) args0) (argN 1 m_is_group)))) (tBool (op2 neD (opN lenD (argsC (vr 0) args0)) (cn (.int 2))))) (sRaise0 "BadWhole") sNext)
def m_need_whole : List D → M D := runB 1 b_need_whole

def b_room_of : SD := (sRet (opN mkTup (argsC (op2 ixD (op2 ixD (vr 0) (cn (.int 0))) (cn (.int 0))) (argsC (op2 subD (op2 ixD (op2 ixD (vr 0) (cn (.int 1))) (cn (.int 1))) (op2 ixD (op2 ixD (vr 0) (cn (.int 1))) (cn (.int 0)))) args0))))
def m_room_of : List D → M D := runB 1 b_room_of

def b_need_both : SD := (sSeq (sDrop (mCall (argsC (vr 0) args0) (argN 1 m_need_whole))) (sIf (mNot (tst (mCall (argsC (vr 1) (argsC (cn (.int 2)) (argsC (cn (.int (8))) args0))) (argN 3 m_is_from)))) (sRaise "BadNumber" ["n"] (argsC (vr 1) args0)) sNext))
def m_need_both : List D → M D := runB 2 b_need_both

def b_bar : SD := (sSeq (sDrop (mCall (argsC (vr 0) (argsC (vr 1) args0)) (argN 2 m_need_both))) (sSeq (sAsg (mCall (argsC (vr 0) args0) (argN 1 m_room_of)) (aTup 2 (aCons (aName 2) (aCons (aName 3) aNil)))) (sSeq (sIf (tBool (op2 ltD (vr 2) (vr 1))) (sRet (cn (.str "good"))) sNext) (sRet (mIf (tBool (op2 ltD (vr 3) (vr 1))) (cn (.str "bad")) (cn .non))))))
def m_bar : List D → M D := runB 4 b_bar

section
variable {st : Sta} {d : D} {i j : Int}
@[simp] theorem isN_non : isNon .non = true := rfl
@[simp] theorem isN_table {rows : List (List (Int × Int))} : isNon (tableD rows) = false := rfl
@[simp] theorem isND_eq : isND d .non st = some (.bl (isNon d)) := rfl
def wD (c e : Int × Int) : D := rowD [c, e]
structure Wh (c e : Int × Int) : Prop where
  c0 : 0 ≤ c.1
  c1 : c.1 ≤ c.2
  c2 : c.2 ≤ 10 ^ 30
  e0 : 0 ≤ e.1
  e1 : e.1 ≤ e.2
  e2 : e.2 ≤ 10 ^ 30
variable {c e : Int × Int}
theorem Wh.group (W : Wh c e) : isGroupD (wD c e) = true := isGroup_row (by simp) (by simp) fun x hx => by
  simp at hx
  rcases hx with rfl | rfl
  · exact ⟨W.c0, W.c1, W.c2⟩
  · exact ⟨W.e0, W.e1, W.e2⟩
def low (c e : Int × Int) : Int := if e.2 - e.1 < c.1 then e.2 - e.1 else c.1
variable {k : Nat}
@[simp] theorem isObj_table {rows : List (List (Int × Int))} : isObj "Table" (tableD rows) st = true := rfl
end
end PL
set_option Elab.async false
set_option linter.all false
set_option maxRecDepth 100000
set_option maxHeartbeats 4000000
namespace PL
open PySem PySem.Spec PyProof.Rows L2
section
variable {rows : List (List (Int × Int))} {st : Sta}
end
def c_number_in_1 : Env → M (List D) := (mLc [1] (bName 1) yes (op2 inD (vr 1) (cn (.str "0123456789"))) (itO strD (vr 0)))
def b_number_in : SD := (sSeq (sIf (mOr (mNot (tBool (mChain leD leD (cn (.int 1)) (opN lenD (argsC (vr 0) args0)) (cn (.int (31)))))) (mNot (tst (opN allD (argsC (lstF c_number_in_1) args0))))) (sRet (op1 negD (cn (.int 1)))) sNext) (sSeq (sIf (mOr (mAnd (tBool (op2 eqD (op2 ixD (vr 0) (cn (.int 0))) (cn (.str "0")))) (tBool (op2 neD (vr 0) (cn (.str "0"))))) (tBool (op2 gtD (opN intA (argsC (vr 0) args0)) (cn (.int (1000000000000000000000000000000)))))) (sRet (op1 negD (cn (.int 1)))) sNext) (sRet (opN intA (argsC (vr 0) args0)))))
def m_number_in : List D → M D := runB 2 b_number_in

def b_cell_in : SD := (sSeq (sSet 1 (mStr splitO (vr 0) (cn (.str "/")))) (sSeq (sIf (tBool (op2 neD (opN lenD (argsC (vr 1) args0)) (cn (.int 2)))) (sRet (cn .non)) sNext) (sSeq (sPar 2 3 (mCall (argsC (op2 ixD (vr 1) (cn (.int 0))) args0) (argN 1 m_number_in)) (mCall (argsC (op2 ixD (vr 1) (cn (.int 1))) args0) (argN 1 m_number_in))) (sRet (mIf (tBool (mChain leD leD (cn (.int 0)) (vr 2) (vr 3))) (opN mkTup (argsC (vr 2) (argsC (vr 3) args0))) (cn .non))))))
def m_cell_in : List D → M D := runB 4 b_cell_in

def l_group_in_1 : SD := (sSeq (sSet 6 (mCall (argsC (vr 5) args0) (argN 1 m_cell_in))) (sSeq (sIf (mOr (tBool (op2 isND (vr 6) (cn .non))) (tBool (op2 eqD (mLenO 3) (mIf (tBool (op2 gtD (vr 2) (cn (.int 0)))) (vr 2) (cn (.int (4))))))) (sRaise "InvalidText" ["line", "word"] (argsC (vr 1) (argsC (op2 addD (vr 4) (cn (.int 1))) args0))) sNext) (sAppO 3 (vr 6))))
def b_group_in : SD := (sSeq (sOwn 3 (dispL args0)) (sSeq (sFor (itN enumD (argsC (vr 0) args0)) (aTup 2 (aCons (aName 4) (aCons (aName 5) aNil))) l_group_in_1) (sSeq (sIf (tBool (op2 ltD (mLenO 3) (opN max2D (argsC (cn (.int 2)) (argsC (vr 2) args0))))) (sRaise "InvalidText" ["line", "word"] (argsC (vr 1) (argsC (op2 addD (mLenO 3) (cn (.int 1))) args0))) sNext) (sFrz 3 (sRet (opN tupleD (argsC (vr 3) args0)))))))
def m_group_in : List D → M D := runB 7 b_group_in

def c_read_1 : Env → M (List D) := (mLc [5] (bName 5) (tBool (op2 neD (vr 5) (cn (.str "")))) (vr 5) (itO seqIt (mStr splitO (vr 3) (cn (.str " ")))))
def l_read_1 : SD := (sSeq (sSet 4 (lstF c_read_1)) (sSeq (sIf (tBool (op2 eqD (vr 2) (cn (.int (8))))) (sRaise "InvalidText" ["line", "word"] (argsC (op2 addD (vr 2) (cn (.int 1))) (argsC (cn (.int 1)) args0))) sNext) (sAppO 1 (mCall (argsC (vr 4) (argsC (op2 addD (vr 2) (cn (.int 1))) (argsC (mIf (tBool (mNeO 1 (opN mkLst args0))) (opN lenD (argsC (mIxO 1 (cn (.int 0))) args0)) (cn (.int 0))) args0))) (argN 3 m_group_in)))))
def b_read : SD := (sSeq (sOwn 1 (dispL args0)) (sSeq (sFor (itN enumD (argsC (mStr splitO (vr 0) (cn (.str "\n"))) args0)) (aTup 2 (aCons (aName 2) (aCons (aName 3) aNil))) l_read_1) (sFrz 1 (sRet (mCall (argsC (opN tupleD (argsC (vr 1) args0)) args0) (mkObj "Table" ini_Table))))))
def m_read : List D → M D := runB 6 b_read

end PL
set_option Elab.async false
set_option linter.all false
set_option maxRecDepth 100000
set_option maxHeartbeats 4000000
namespace PL
open PySem PySem.Spec PyProof.Rows L2
def b_need_ledger : SD := (sIf (mNot (tst (op1 (isiC "Ledger" CS) (vr 0)))) (sRaise0 "BadLedger") sNext)
def m_need_ledger : List D → M D := runB 1 b_need_ledger

def b_turning : SD := (sSeq (sDrop (mCall (argsC (vr 0) args0) (argN 1 m_need_ledger))) (sSeq sBad (sSeq sBad (sSeq sBad sBad))))
def m_turning : List D → M D := runB 7 b_turning

def b_Board_need_index : SD := (sIf (mNot (tst (mCall (argsC (vr 1) (argsC (cn (.int 0)) (argsC (op2 subD (opN lenD (argsC (op1 (fldD "Table" "rows") (op2 ixD (op2 ixD (op1 (fldD "Board" "stood") (vr 0)) (op1 negD (cn (.int 1)))) (cn (.int 0)))) args0)) (cn (.int 1))) args0))) (argN 3 m_is_from)))) (sRaise "BadNumber" ["n"] (argsC (vr 1) args0)) sNext)
def m_Board_need_index : List D → M D := runB 2 b_Board_need_index

def b_Board_drop_k14 : SD := (sSeq (sDrop (mMeth "Board" "need_index" 1 m_Board_need_index (vr 0) (argsC (vr 1) args0))) (sSeq (sSet 2 (op1 (fldD "Table" "rows") (op2 ixD (op2 ixD (op1 (fldD "Board" "stood") (vr 0)) (op1 negD (cn (.int 1)))) (cn (.int 0))))) (sSeq (sIf (tBool (op2 eqD (opN lenD (argsC (vr 2) args0)) (cn (.int 1)))) (sRaise0 "Alone") sNext) sBad)))
def m_Board_drop_k14 : List D → M D := runB 3 b_Board_drop_k14

def b_Board_init : SD := (sSeq (sDrop (mCall (argsC (vr 1) args0) (argN 1 m_need_table))) (sFldC "Board" "stood" (vr 0) (opN mkLst (argsC (opN mkTup (argsC (vr 1) (argsC (opN tupleD (argsC (mCall (argsC (op1 (fldD "Table" "rows") (vr 1)) args0) (argN 1 m_pairs_turned)) args0)) args0))) args0))))
def m_Board_init : List D → M D := runB 2 b_Board_init

def c_is_entry_1 : Env → M (List D) := (mLc [3] (bName 3) yes (op1 (isiT "bool" CS) (vr 3)) (itO seqIt (op2 ixD (vr 0) (cn (.int 2)))))
def b_is_entry : SD := (sSeq (sIf (mOr (mNot (tst (op1 (isiT "tuple" CS) (vr 0)))) (mOr (tBool (op2 neD (opN lenD (argsC (vr 0) args0)) (cn (.int 4)))) (mNot (tst (mCall (argsC (op2 ixD (vr 0) (cn (.int 0))) (argsC (cn (.int 0)) (argsC (op2 subD (vr 1) (cn (.int 1))) args0))) (argN 3 m_is_from)))))) (sRet (cn (.bl false))) sNext) (sSeq (sIf (mOr (mNot (tst (op1 (isiT "bool" CS) (op2 ixD (vr 0) (cn (.int 1)))))) (mOr (mNot (tst (op1 (isiT "tuple" CS) (op2 ixD (vr 0) (cn (.int 2)))))) (mNot (tst (mCall (argsC (op2 ixD (vr 0) (cn (.int 3))) (argsC (cn (.int 1)) (argsC (cn (.int (1000000000))) args0))) (argN 3 m_is_from)))))) (sRet (cn (.bl false))) sNext) (sSeq (sIf (mNot (tst (opN allD (argsC (lstF c_is_entry_1) args0)))) (sRet (cn (.bl false))) sNext) (sRet (mIf (tBool (op2 eqD (vr 2) (cn (.int 0)))) (mChain leD leD (cn (.int 1)) (opN lenD (argsC (op2 ixD (vr 0) (cn (.int 2))) args0)) (cn (.int (4)))) (op2 eqD (opN lenD (argsC (op2 ixD (vr 0) (cn (.int 2))) args0)) (vr 2)))))))
def m_is_entry : List D → M D := runB 4 b_is_entry

def l_Ledger_init_1 : SD := (sIf (mNot (tst (mCall (argsC (vr 4) (argsC (vr 2) (argsC (mIf (tBool (op2 eqD (vr 3) (cn (.int 0)))) (cn (.int 0)) (opN lenD (argsC (op2 ixD (op2 ixD (vr 1) (cn (.int 0))) (cn (.int 2))) args0))) args0))) (argN 3 m_is_entry)))) (sRaise "BadEntries" ["index"] (argsC (vr 3) args0)) sNext)
def b_Ledger_init : SD := (sSeq (sIf (mNot (tst (mCall (argsC (vr 2) (argsC (cn (.int 2)) (argsC (cn (.int (4))) args0))) (argN 3 m_is_from)))) (sRaise "BadNumber" ["n"] (argsC (vr 2) args0)) sNext) (sSeq (sIf (mOr (mNot (tst (op1 (isiT "tuple" CS) (vr 1)))) (mNot (tBool (mChain leD leD (cn (.int 1)) (opN lenD (argsC (vr 1) args0)) (cn (.int (40))))))) (sRaise "BadEntries" ["index"] (argsC (cn .non) args0)) sNext) (sSeq (sFor (itN enumD (argsC (vr 1) args0)) (aTup 2 (aCons (aName 3) (aCons (aName 4) aNil))) l_Ledger_init_1) (sSeq (sFldC "Ledger" "lines" (vr 0) (vr 1)) (sFldC "Ledger" "many" (vr 0) (vr 2))))))
def m_Ledger_init : List D → M D := runB 5 b_Ledger_init

def beD : Nat → D → D → Bool
  | 0, _, _ => false
  | n + 1, a, b => match a, b with
    | .int a, .int b => a == b
    | .bl a, .bl b => a == b
    | .tup l, .tup m => decide (l.length = m.length) && (l.zip m).all fun p => beD n p.1 p.2
    | .obj c [(f, x)], .obj d [(g, y)] => decide (c = d) && (decide (f = g) && beD n x y)
    | _, _ => false
theorem zip_same : ∀ {l m : List D}, l.length = m.length → (∀ p ∈ l.zip m, p.1 = p.2) → l = m
  | [], [], _, _ => rfl
  | [], _ :: _, h, _ => nomatch h
  | _ :: _, [], h, _ => nomatch h
  | a :: l, b :: m, h, q => by
    rw [show a = b from q (a, b) (by simp), zip_same (l := l) (m := m) (by simpa using h) fun p hp => q p (by simp [hp])]
theorem beD_ok : ∀ {n : Nat} {a b : D}, beD n a b = true → a = b := by
  intro n
  induction n with
  | zero => intro a b h; cases h
  | succ n ih =>
    intro a b h
    unfold beD at h
    split at h
    · rw [beq_iff_eq.mp h]
    · rw [beq_iff_eq.mp h]
    · obtain ⟨h1, h2⟩ := Bool.and_eq_true_iff.mp h
      rw [zip_same (of_decide_eq_true h1) fun p hp => ih (List.all_eq_true.mp h2 p hp)]
    · obtain ⟨h1, h2⟩ := Bool.and_eq_true_iff.mp h
      obtain ⟨h3, h4⟩ := Bool.and_eq_true_iff.mp h2
      rw [of_decide_eq_true h1, of_decide_eq_true h3, ih h4]
    · cases h
def T1 : List (List (Int × Int)) := [[(1, 2), (1, 3)]]
def T8 : List (List (Int × Int)) := [[(1, 2), (1, 3)], [(1, 2), (1, 3)], [(1, 2), (1, 3)], [(1, 2), (1, 3)], [(1, 2), (1, 3)], [(1, 2), (1, 3)], [(1, 2), (1, 3)], [(1, 2), (1, 3)]]
def stoodD (rows : List (List (Int × Int))) : D := .lst [.tup [tableD rows, .tup (((prs 2).filter fun p => abt rows p.1 p.2).map prD)]]
def ini_Board : Ini := fun ds => match ds with
  | [d] => if beD 9 d (tableD T1) then some (.ok [("stood", stoodD T1)]) else if beD 9 d (tableD T8) then some (.ok [("stood", stoodD T8)]) else none
  | _ => none
def ent : D := .tup [.tup [.int 0, .bl true, .tup [.bl true], .int 1]]
def ini_Ledger : Ini := fun ds => match ds with
  | [d, .int 2] => if beD 9 d (.tup []) then some (.error ⟨"BadEntries", [("index", .non)]⟩) else if beD 9 d ent then some (.ok [("lines", ent), ("many", .int 2)]) else none
  | _ => none
def b_law_early : SD := (sIf (tBool (op2 eqD (vr 0) (cn (.int 0)))) (sDrop (mCall (argsC (opN mkTup args0) (argsC (cn (.int 0)) (argsC (cn (.int 1)) args0))) (argN 3 m_verdict))) (sIf (tBool (op2 eqD (vr 0) (cn (.int 1)))) (sDrop (mCall (argsC (opN mkTup args0) args0) (mkObj "Table" ini_Table))) (sIf (tBool (op2 eqD (vr 0) (cn (.int 2)))) (sDrop (mCall (argsC (vr 1) args0) (argN 1 m_totals))) (sIf (tBool (op2 eqD (vr 0) (cn (.int 3)))) (sDrop (mCall (argsC (vr 2) (argsC (cn (.int 0)) (argsC (cn (.int 0)) args0))) (argN 3 m_turned))) (sIf (tBool (op2 eqD (vr 0) (cn (.int 4)))) (sDrop (mCall (argsC (opN mkTup (argsC (cn (.int 1)) (argsC (cn (.int 2)) args0))) (argsC (cn (.int 2)) args0)) (argN 2 m_bar))) (sIf (tBool (op2 eqD (vr 0) (cn (.int 5)))) (sDrop (mCall (argsC (op2 ixD (vr 1) (cn (.int 0))) (argsC (cn (.int 1)) args0)) (argN 2 m_bar))) (sIf (tBool (op2 eqD (vr 0) (cn (.int 6)))) (sDrop (mCall (argsC (vr 1) (argsC (cn (.int 0)) (argsC (cn (.int 1)) args0))) (argN 3 m_turning))) (sDrop (mMeth "Board" "drop" 1 m_Board_drop_k14 (mCall (argsC (vr 2) args0) (mkObj "Board" ini_Board)) (argsC (cn (.int 0)) args0))))))))))
def m_law_early : List D → M D := runB 3 b_law_early

def k_widest_1 : SD := sBad
def k_widest_2 : SD := (sSeq sBad k_widest_1)
def k_widest_3 : SD := (sSeq sBad k_widest_2)
def k_widest_4 : SD := (sSeq sBad k_widest_3)
def k_widest_5 : SD := (sSeq sBad k_widest_4)
def k_widest_6 : SD := (sSeq (sIf (mOr (tBool (op2 gtD (vr 2) (cn (.int (10))))) (tBool (op2 gtD (vr 4) (cn (.int (10)))))) (sRaise "TooMany" ["most"] (argsC (cn (.int (10))) args0)) sNext) k_widest_5)
def k_widest_7 : SD := (sSeq (sAsg (vr 0) (aTup 2 (aCons (aTup 2 (aCons (aName 1) (aCons (aName 2) aNil))) (aCons (aTup 2 (aCons (aName 3) (aCons (aName 4) aNil))) aNil)))) k_widest_6)
def b_widest : SD := (sSeq (sDrop (mCall (argsC (vr 0) args0) (argN 1 m_need_whole))) k_widest_7)
def m_widest : List D → M D := runB 14 b_widest

def c_need_tries_1 : Env → M (List D) := (mLc [3, 4] (bTup [3, 4]) yes (op2 gtD (vr 4) (cn (.int 0))) (itO seqIt (vr 2)))
def l_need_tries_1 : SD := (sIf (mNot (tst (opN allD (argsC (lstF c_need_tries_1) args0)))) (sRaise "NoTries" ["index"] (argsC (vr 1) args0)) sNext)
def b_need_tries : SD := (sFor (itN enumD (argsC (op1 (fldD "Table" "rows") (vr 0)) args0)) (aTup 2 (aCons (aName 1) (aCons (aName 2) aNil))) l_need_tries_1)
def m_need_tries : List D → M D := runB 5 b_need_tries

def b_win : SD := (sSeq (sDrop (mCall (argsC (vr 0) args0) (argN 1 m_need_table))) (sSeq (sDrop (mCall (argsC (vr 0) args0) (argN 1 m_need_tries))) (sSeq sBad (sSeq sBad (sSeq sBad sBad)))))
def m_win : List D → M D := runB 7 b_win

def c_need_weights_1 : Env → M (List D) := (mLc [2] (bName 2) yes (mCall (argsC (vr 2) (argsC (cn (.int 0)) (argsC (cn (.int (1000000000000000000000000000000))) args0))) (argN 3 m_is_from)) (itO seqIt (vr 1)))
def b_need_weights : SD := (sSeq (sIf (mOr (mNot (tst (op1 (isiT "tuple" CS) (vr 1)))) (tBool (op2 neD (opN lenD (argsC (vr 1) args0)) (opN lenD (argsC (op1 (fldD "Table" "rows") (vr 0)) args0))))) (sRaise0 "BadWeights") sNext) (sIf (mOr (mNot (tst (opN allD (argsC (lstF c_need_weights_1) args0)))) (tBool (op2 eqD (opN sumD (argsC (vr 1) args0)) (cn (.int 0))))) (sRaise0 "BadWeights") sNext))
def m_need_weights : List D → M D := runB 3 b_need_weights

def b_fair : SD := (sSeq (sDrop (mCall (argsC (vr 0) args0) (argN 1 m_need_table))) (sSeq (sDrop (mCall (argsC (vr 0) args0) (argN 1 m_need_tries))) (sSeq (sDrop (mCall (argsC (vr 0) (argsC (vr 1) args0)) (argN 2 m_need_weights))) (sSeq sBad sBad))))
def m_fair : List D → M D := runB 3 b_fair

def c_need_marks_1 : Env → M (List D) := (mLc [3] (bName 3) yes (op2 ltD (op2 ixD (vr 1) (vr 3)) (op2 ixD (vr 1) (op2 addD (vr 3) (cn (.int 1))))) (itN rng1 (argsC (op2 subD (opN lenD (argsC (vr 1) args0)) (cn (.int 1))) args0)))
def c_need_marks_2 : Env → M (List D) := (mLc [2] (bName 2) yes (mCall (argsC (vr 2) (argsC (cn (.int 0)) (argsC (op2 subD (opN lenD (argsC (op2 ixD (op2 ixD (op1 (fldD "Ledger" "lines") (vr 0)) (cn (.int 0))) (cn (.int 2))) args0)) (cn (.int 1))) args0))) (argN 3 m_is_from)) (itO seqIt (vr 1)))
def b_need_marks : SD := (sSeq (sIf (mOr (mNot (tst (op1 (isiT "tuple" CS) (vr 1)))) (tBool (op2 gtD (opN lenD (argsC (vr 1) args0)) (cn (.int (3)))))) (sRaise0 "BadMarks") sNext) (sSeq (sIf (mNot (tst (opN allD (argsC (lstF c_need_marks_2) args0)))) (sRaise0 "BadMarks") sNext) (sIf (mNot (tst (opN allD (argsC (lstF c_need_marks_1) args0)))) (sRaise0 "BadMarks") sNext)))
def m_need_marks : List D → M D := runB 4 b_need_marks

def b_by_marks : SD := (sSeq (sDrop (mCall (argsC (vr 0) args0) (argN 1 m_need_ledger))) (sSeq (sDrop (mCall (argsC (vr 0) (argsC (vr 1) args0)) (argN 2 m_need_marks))) sBad))
def m_by_marks : List D → M D := runB 2 b_by_marks

def b_need_unread : SD := (sIf (mNot (tst (op1 (isiC "Unread" CS) (vr 0)))) (sRaise0 "BadUnread") sNext)
def m_need_unread : List D → M D := runB 1 b_need_unread

def b_how : SD := (sSeq (sDrop (mCall (argsC (vr 0) args0) (argN 1 m_need_unread))) (sSeq sBad (sSeq sBad sBad)))
def m_how : List D → M D := runB 3 b_how

def b_Board_need_group : SD := (sIf (mOr (mNot (tst (mCall (argsC (vr 1) args0) (argN 1 m_is_group)))) (tBool (op2 neD (opN lenD (argsC (vr 1) args0)) (opN lenD (argsC (op2 ixD (op1 (fldD "Table" "rows") (op2 ixD (op2 ixD (op1 (fldD "Board" "stood") (vr 0)) (op1 negD (cn (.int 1)))) (cn (.int 0)))) (cn (.int 0))) args0))))) (sRaise0 "BadGroup") sNext)
def m_Board_need_group : List D → M D := runB 2 b_Board_need_group

def b_Board_add_k14 : SD := (sSeq (sDrop (mMeth "Board" "need_group" 1 m_Board_need_group (vr 0) (argsC (vr 1) args0))) (sSeq (sSet 2 (op1 (fldD "Table" "rows") (op2 ixD (op2 ixD (op1 (fldD "Board" "stood") (vr 0)) (op1 negD (cn (.int 1)))) (cn (.int 0))))) (sSeq (sIf (tBool (op2 eqD (opN lenD (argsC (vr 2) args0)) (cn (.int (8))))) (sRaise0 "Full") sNext) sBad)))
def m_Board_add_k14 : List D → M D := runB 3 b_Board_add_k14

def b_law_call_k20 : SD := (sSeq (sSet 1 (opN mkTup (argsC (opN mkTup (argsC (opN mkTup (argsC (cn (.int 1)) (argsC (cn (.int 2)) args0))) (argsC (opN mkTup (argsC (cn (.int 1)) (argsC (cn (.int 3)) args0))) args0))) args0))) (sSeq (sSet 2 (mCall (argsC (vr 1) args0) (mkObj "Table" ini_Table))) (sIf (tBool (op2 ltD (vr 0) (cn (.int 8)))) (sDrop (mCall (argsC (vr 0) (argsC (vr 1) (argsC (vr 2) args0))) (argN 3 m_law_early))) (sIf (tBool (op2 eqD (vr 0) (cn (.int 8)))) (sDrop (mCall (argsC (opN mkTup (argsC (opN mkTup (argsC (cn (.int 1)) (argsC (cn (.int 11)) args0))) (argsC (opN mkTup (argsC (cn (.int 0)) (argsC (cn (.int 1)) args0))) args0))) args0) (argN 1 m_widest))) (sIf (tBool (op2 eqD (vr 0) (cn (.int 9)))) (sDrop (mCall (argsC (mCall (argsC (opN mkTup (argsC (opN mkTup (argsC (opN mkTup (argsC (cn (.int 0)) (argsC (cn (.int 0)) args0))) (argsC (opN mkTup (argsC (cn (.int 1)) (argsC (cn (.int 3)) args0))) args0))) args0)) args0) (mkObj "Table" ini_Table)) (argsC (cn (.int 0)) args0)) (argN 2 m_win))) (sIf (tBool (op2 eqD (vr 0) (cn (.int 10)))) (sDrop (mCall (argsC (vr 2) (argsC (opN mkTup (argsC (cn (.int 0)) args0)) (argsC (cn (.int 0)) args0))) (argN 3 m_fair))) (sIf (tBool (op2 eqD (vr 0) (cn (.int 11)))) (sDrop (mCall (argsC (opN mkTup args0) (argsC (cn (.int 2)) args0)) (mkObj "Ledger" ini_Ledger))) (sIf (tBool (op2 eqD (vr 0) (cn (.int 12)))) (sDrop (mCall (argsC (mCall (argsC (opN mkTup (argsC (opN mkTup (argsC (cn (.int 0)) (argsC (cn (.bl true)) (argsC (opN mkTup (argsC (cn (.bl true)) args0)) (argsC (cn (.int 1)) args0))))) args0)) (argsC (cn (.int 2)) args0)) (mkObj "Ledger" ini_Ledger)) (argsC (opN mkTup (argsC (cn (.int 1)) args0)) args0)) (argN 2 m_by_marks))) (sIf (tBool (op2 eqD (vr 0) (cn (.int 13)))) (sDrop (mCall (argsC (vr 2) (argsC (cn (.int 0)) (argsC (cn (.int 1)) args0))) (argN 3 m_how))) (sIf (tBool (op2 eqD (vr 0) (cn (.int 14)))) (sDrop (mMeth "Board" "add" 1 m_Board_add_k14 (mCall (argsC (mCall (argsC (op2 mulD (vr 1) (cn (.int 8))) args0) (mkObj "Table" ini_Table)) args0) (mkObj "Board" ini_Board)) (argsC (op2 ixD (vr 1) (cn (.int 0))) args0))) (sDrop (mCall (argsC (cn (.str "2/1")) args0) (argN 1 m_read)))))))))))))
def m_law_call_k20 : List D → M D := runB 3 b_law_call_k20

def b_law_second : SD := (sSeq (sSet 1 (opN mkLst args0)) (sSeq (sTry "AboutError" ERRS (sDrop (mCall (argsC (vr 0) args0) (argN 1 m_law_call_k20))) (⟨"TooMany", none, fun _ => (sSet 1 (cn (.int 8)))⟩ :: (⟨"NoTries", none, fun _ => (sSet 1 (cn (.int 9)))⟩ :: (⟨"BadWeights", none, fun _ => (sSet 1 (cn (.int 10)))⟩ :: (⟨"BadEntries", none, fun _ => (sSet 1 (cn (.int 11)))⟩ :: (⟨"BadMarks", none, fun _ => (sSet 1 (cn (.int 12)))⟩ :: (⟨"BadUnread", none, fun _ => (sSet 1 (cn (.int 13)))⟩ :: (⟨"Full", none, fun _ => (sSet 1 (cn (.int 14)))⟩ :: (⟨"InvalidText", none, fun _ => (sSet 1 (cn (.int 15)))⟩ :: (⟨"AboutError", none, fun _ => (sSet 1 (cn (.int 0)))⟩ :: [])))))))))) (sRet (vr 1))))
def m_law_second : List D → M D := runB 2 b_law_second

def b_law_first : SD := (sSeq (sSet 1 (opN mkLst args0)) (sSeq (sTry "AboutError" ERRS (sDrop (mCall (argsC (vr 0) args0) (argN 1 m_law_call_k20))) (⟨"BadGroup", none, fun _ => (sSet 1 (cn (.int 0)))⟩ :: (⟨"BadGroups", none, fun _ => (sSet 1 (cn (.int 1)))⟩ :: (⟨"BadTable", none, fun _ => (sSet 1 (cn (.int 2)))⟩ :: (⟨"BadWay", none, fun _ => (sSet 1 (cn (.int 3)))⟩ :: (⟨"BadWhole", none, fun _ => (sSet 1 (cn (.int 4)))⟩ :: (⟨"BadNumber", none, fun _ => (sSet 1 (cn (.int 5)))⟩ :: (⟨"BadLedger", none, fun _ => (sSet 1 (cn (.int 6)))⟩ :: (⟨"Alone", none, fun _ => (sSet 1 (cn (.int 7)))⟩ :: (⟨"AboutError", none, fun _ => (sSet 1 (cn (.int 8)))⟩ :: [])))))))))) (sRet (vr 1))))
def m_law_first : List D → M D := runB 2 b_law_first

def k_law_k20_1 : SD := (sRet (cn (.bl true)))
def l_law_k20_1 : SD := (sSeq (sSet 3 (mCall (argsC (vr 1) (argsC (cn (.int 16)) args0)) (argN 2 m_law_taken))) (sIf (mOr (tBool (op2 neD (mCall (argsC (vr 3) args0) (argN 1 m_law_first)) (opN min2D (argsC (cn (.int 8)) (argsC (vr 3) args0))))) (tBool (op2 neD (mCall (argsC (vr 3) args0) (argN 1 m_law_second)) (mIf (tBool (op2 gtD (vr 3) (cn (.int 7)))) (vr 3) (cn (.int 0)))))) (sRet (cn (.bl false))) sNext))
def k_law_k20_2 : SD := (sSeq (sFor (itN rng1 (argsC (cn (.int 9)) args0)) (aName 2) l_law_k20_1) k_law_k20_1)
def b_law_k20 : SD := (sSeq (sCell 1 (dispL (argsC (vr 0) (argsC (cn (.int 0)) (argsC (cn (.int 820)) (argsC (cn (.int 0)) args0)))))) k_law_k20_2)
def m_law_k20 : List D → M D := runB 4 b_law_k20

section
variable {st : Sta}
theorem fldC_ok {c f : Str} {fs : List (Str × D)} {g : Env → M D} {env : Env} {v : D} (h0 : vr 0 env (st ++ [.obj c fs]) = .ok (.cell st.length) (st ++ [.obj c fs])) (hg : g env (st ++ [.obj c fs]) = .ok v (st ++ [.obj c fs])) (hl : fs.length < 1000) :
    sFldC c f (vr 0) g env (st ++ [.obj c fs]) = .nx env (st ++ [.obj c (putF f v fs)]) := by
  unfold sFldC
  rw [sE_st, hg]
  dsimp only
  rw [sE_st, h0]
  dsimp only
  rw [List.getElem?_append_right (Nat.le_refl _), Nat.sub_self]
  show (if c = c ∧ fs.length < 1000 then SR.nx _ ((st ++ [Cell.obj c fs]).set st.length (.obj c (putF f v fs))) else .bad) = _
  rw [if_pos ⟨rfl, hl⟩, List.set_append_right _ _ (Nat.le_refl _), Nat.sub_self]
  rfl
theorem first_0 : m_law_first [.int 0] st = .ok (.int 0) st := by kernel_rfl
theorem second_0 : m_law_second [.int 0] st = .ok (.int 0) st := by kernel_rfl
theorem first_1 : m_law_first [.int 1] st = .ok (.int 1) st := by kernel_rfl
theorem second_1 : m_law_second [.int 1] st = .ok (.int 0) st := by kernel_rfl
theorem first_2 : m_law_first [.int 2] st = .ok (.int 2) st := by kernel_rfl
theorem second_2 : m_law_second [.int 2] st = .ok (.int 0) st := by kernel_rfl
theorem first_3 : m_law_first [.int 3] st = .ok (.int 3) st := by kernel_rfl
theorem second_3 : m_law_second [.int 3] st = .ok (.int 0) st := by kernel_rfl
theorem first_4 : m_law_first [.int 4] st = .ok (.int 4) st := by kernel_rfl
theorem second_4 : m_law_second [.int 4] st = .ok (.int 0) st := by kernel_rfl
theorem first_5 : m_law_first [.int 5] st = .ok (.int 5) st := by kernel_rfl
theorem second_5 : m_law_second [.int 5] st = .ok (.int 0) st := by kernel_rfl
theorem first_6 : m_law_first [.int 6] st = .ok (.int 6) st := by kernel_rfl
theorem second_6 : m_law_second [.int 6] st = .ok (.int 0) st := by kernel_rfl
theorem first_7 : m_law_first [.int 7] st = .ok (.int 7) st := by kernel_rfl
theorem second_7 : m_law_second [.int 7] st = .ok (.int 0) st := by kernel_rfl
theorem first_8 : m_law_first [.int 8] st = .ok (.int 8) st := by kernel_rfl
theorem second_8 : m_law_second [.int 8] st = .ok (.int 8) st := by kernel_rfl
theorem first_9 : m_law_first [.int 9] st = .ok (.int 8) st := by kernel_rfl
theorem second_9 : m_law_second [.int 9] st = .ok (.int 9) st := by kernel_rfl
theorem first_10 : m_law_first [.int 10] st = .ok (.int 8) st := by kernel_rfl
theorem second_10 : m_law_second [.int 10] st = .ok (.int 10) st := by kernel_rfl
theorem first_11 : m_law_first [.int 11] st = .ok (.int 8) st := by kernel_rfl
theorem second_11 : m_law_second [.int 11] st = .ok (.int 11) st := by kernel_rfl
theorem first_12 : m_law_first [.int 12] st = .ok (.int 8) st := by kernel_rfl
theorem second_12 : m_law_second [.int 12] st = .ok (.int 12) st := by kernel_rfl
theorem first_13 : m_law_first [.int 13] st = .ok (.int 8) st := by kernel_rfl
theorem second_13 : m_law_second [.int 13] st = .ok (.int 13) st := by kernel_rfl
theorem first_14 : m_law_first [.int 14] st = .ok (.int 8) st := by kernel_rfl
theorem second_14 : m_law_second [.int 14] st = .ok (.int 14) st := by kernel_rfl
theorem first_15 : m_law_first [.int 15] st = .ok (.int 8) st := by kernel_rfl
theorem second_15 : m_law_second [.int 15] st = .ok (.int 15) st := by kernel_rfl
end
section
variable {st : Sta}
theorem tb1 : Tb 2 T1 := ⟨⟨by decide, by decide, by decide⟩, by decide, by decide, by decide, by decide⟩
theorem tb8 : Tb 2 T8 := ⟨⟨by decide, by decide, by decide⟩, by decide, by decide, by decide, by decide⟩
theorem board_init {rows : List (List (Int × Int))} (T : Tb 2 rows) : m_Board_init [.cell st.length, tableD rows] (st ++ [.obj "Board" []]) = .ok .non (st ++ [.obj "Board" [("stood", stoodD rows)]]) := by
  apply ev_run
  unfold m_Board_init b_Board_init
  simp [need_table_ok]
  rw [evS_of (fldC_ok (v := stoodD rows) rfl (by
    apply ev_res
    have pt := pairs_turned_ok (st := st ++ [.obj "Board" []]) T
    have tu : tupleD [.lst (((prs 2).filter fun p => abt rows p.1 p.2).map prD)] (st ++ [.obj "Board" []]) = some (.tup (((prs 2).filter fun p => abt rows p.1 p.2).map prD)) := rfl
    simp [pt, tu]
    rfl) (by decide))]
  simp [putF]
theorem noCell_stood {rows : List (List (Int × Int))} : noCell 8 (stoodD rows) = true := by
  simp [noCell, stoodD, tableD, rowsD, rowD, cellD, prD, natD]
theorem iniB {ds : List D} {r : Except Exn (List (Str × D))} (h : ini_Board ds = some r) : ∃ rows, ds = [tableD rows] ∧ Tb 2 rows ∧ r = .ok [("stood", stoodD rows)] := by
  match ds, h with
  | [d], h =>
    have h' : (if beD 9 d (tableD T1) then some (.ok [("stood", stoodD T1)]) else if beD 9 d (tableD T8) then some (.ok [("stood", stoodD T8)]) else none) = some r := h
    by_cases h1 : beD 9 d (tableD T1) = true
    · rw [if_pos h1] at h'
      exact ⟨T1, by rw [beD_ok h1], tb1, (Option.some.inj h').symm⟩
    · rw [if_neg h1] at h'
      by_cases h2 : beD 9 d (tableD T8) = true
      · rw [if_pos h2] at h'
        exact ⟨T8, by rw [beD_ok h2], tb8, (Option.some.inj h').symm⟩
      · rw [if_neg h2] at h'
        cases h'
theorem inik_Board : IniOk "Board" 1 m_Board_init ini_Board := by
  refine ⟨fun ds st r h => ?_, fun ds r h => ?_, fun ds fs h p hp => ?_, fun ds e h p hp => ?_⟩
  all_goals obtain ⟨rows, rfl, T, hr⟩ := iniB h
  · rw [hr]
    exact board_init T
  · rfl
  · cases hr
    rw [List.mem_singleton.mp hp]
    exact .inr noCell_stood
  · cases hr
theorem iniL {ds : List D} {r : Except Exn (List (Str × D))} (h : ini_Ledger ds = some r) : (ds = [.tup [], .int 2] ∧ r = .error ⟨"BadEntries", [("index", .non)]⟩) ∨ (ds = [ent, .int 2] ∧ r = .ok [("lines", ent), ("many", .int 2)]) := by
  unfold ini_Ledger at h
  split at h
  · rename_i d
    by_cases h1 : beD 9 d (.tup []) = true
    · rw [if_pos h1] at h
      exact .inl ⟨by rw [beD_ok h1], (Option.some.inj h).symm⟩
    · rw [if_neg h1] at h
      by_cases h2 : beD 9 d ent = true
      · rw [if_pos h2] at h
        exact .inr ⟨by rw [beD_ok h2], (Option.some.inj h).symm⟩
      · rw [if_neg h2] at h
        cases h
  · cases h
theorem ledger_bad : m_Ledger_init [.cell st.length, .tup [], .int 2] (st ++ [.obj "Ledger" []]) = .exc ⟨"BadEntries", [("index", .non)]⟩ (st ++ [.obj "Ledger" []]) := by kernel_rfl
theorem ledger_good : m_Ledger_init [.cell st.length, ent, .int 2] (st ++ [.obj "Ledger" []]) = .ok .non (st ++ [.obj "Ledger" [("lines", ent), ("many", .int 2)]]) := by
  have f1 : ∀ st, m_is_from [.int 2, .int 2, .int 4] st = .ok (.bl true) st := fun st => by kernel_rfl
  have f2 : ∀ st, m_is_entry [.tup [.int 0, .bl true, .tup [.bl true], .int 1], .int 2, .int 0] st = .ok (.bl true) st := fun st => by kernel_rfl
  have f3 : ∀ st, isiT "tuple" CS ent st = some (.bl true) := fun st => by kernel_rfl
  have f4 : ∀ st, lenD [ent] st = some (.int 1) := fun st => rfl
  have f5 : ∀ st, enumD [ent] st = some [.tup [.int 0, .tup [.int 0, .bl true, .tup [.bl true], .int 1]]] := fun st => rfl
  apply ev_run
  unfold m_Ledger_init b_Ledger_init
  simp [f1, f3, f4, f5, evL_cons]
  unfold l_Ledger_init_1
  simp [f2]
  rw [evS_of (fldC_ok (fs := []) (v := ent) rfl rfl (by decide))]
  simp
  have ne : ¬ (("lines" : Str) = ("many" : Str)) := by decide
  rw [evS_of (fldC_ok (v := .int 2) rfl rfl (by simp [putF]))]
  simp [putF, ne]
theorem inik_Ledger : IniOk "Ledger" 2 m_Ledger_init ini_Ledger := by
  refine ⟨fun ds st r h => ?_, fun ds r h => ?_, fun ds fs h p hp => ?_, fun ds e h p hp => ?_⟩
  all_goals rcases iniL h with ⟨rfl, hr⟩ | ⟨rfl, hr⟩
  · rw [hr]
    exact ledger_bad
  · rw [hr]
    exact ledger_good
  · rfl
  · rfl
  · cases hr
  · cases hr
    rcases List.mem_cons.mp hp with rfl | hp
    · exact .inl (by simp)
    · rw [List.mem_singleton.mp hp]
      exact .inl (by simp)
  · cases hr
    rw [List.mem_singleton.mp hp]
    exact .inr rfl
  · cases hr
end
def K20I (ns : List Int) (k : Nat) (env : Env) (st : Sta) : Prop := ∃ x2 x3 r, env = [some (.fro (.fix (ns.map .int))), some (.fro (.cell 0)), x2, x3] ∧ st = [r] ∧ RowOk r
theorem math_law : ∀ ns : List Int, ns.length ≤ 63 → ∃ st, m_law_k20 [.fix (ns.map .int)] [] = .ok (.bl true) st := by
  intro ns _
  refine ev_out (r := m_law_k20 [.fix (ns.map .int)] []) (Q := fun r => ∃ st, r = Res.ok (D.bl true) st) ?_
  have f : ∀ (k : Nat) st, k < 16 → m_law_first [.int k] st = .ok (.int (min 8 k : Nat)) st := fun k st hk => by
    match k, hk with
    | 0, _ => exact first_0
    | 1, _ => exact first_1
    | 2, _ => exact first_2
    | 3, _ => exact first_3
    | 4, _ => exact first_4
    | 5, _ => exact first_5
    | 6, _ => exact first_6
    | 7, _ => exact first_7
    | 8, _ => exact first_8
    | 9, _ => exact first_9
    | 10, _ => exact first_10
    | 11, _ => exact first_11
    | 12, _ => exact first_12
    | 13, _ => exact first_13
    | 14, _ => exact first_14
    | 15, _ => exact first_15
    | n + 16, h => exact absurd h (by omega)
  have s : ∀ (k : Nat) st, k < 16 → m_law_second [.int k] st = .ok (.int (if 7 < k then k else 0 : Nat)) st := fun k st hk => by
    match k, hk with
    | 0, _ => exact second_0
    | 1, _ => exact second_1
    | 2, _ => exact second_2
    | 3, _ => exact second_3
    | 4, _ => exact second_4
    | 5, _ => exact second_5
    | 6, _ => exact second_6
    | 7, _ => exact second_7
    | 8, _ => exact second_8
    | 9, _ => exact second_9
    | 10, _ => exact second_10
    | 11, _ => exact second_11
    | 12, _ => exact second_12
    | 13, _ => exact second_13
    | 14, _ => exact second_14
    | 15, _ => exact second_15
    | n + 16, h => exact absurd h (by omega)
  unfold m_law_k20 b_law_k20 k_law_k20_2
  simp [rng1_st]
  refine evL_rng (K20I ns) ?_ ?_ ⟨_, _, _, rfl, rfl, ⟨ns, 0, 820, 0, rfl, by decide, by decide⟩⟩
  · intro k hk env st hI
    obtain ⟨x2, x3, r, h1, h2, hr⟩ := hI
    subst h1 h2
    simp only [List.set_cons_succ, List.set_cons_zero]
    unfold l_law_k20_1
    simp
    refine taken_ev hr (by omega) (by omega) fun x r1 hr1 hx => ?_
    have mn : min2D [.int 8, .int x] [r1] = some (.int (min 8 x : Nat)) := by
      unfold min2D
      simp
      split <;> omega
    have f1 := f x [r1] (by omega)
    have s1 := s x [r1] (by omega)
    by_cases h7 : 7 < x
    · have h7' : (7 : Int) < x := by omega
      rw [if_pos h7] at s1
      generalize min 8 x = m at *
      simp [f1, s1, mn, h7']
      exact ⟨_, _, _, rfl, rfl, hr1⟩
    · have h7' : ¬ (7 : Int) < x := by omega
      rw [if_neg h7] at s1
      generalize min 8 x = m at *
      simp [f1, s1, mn, h7', h7]
      exact ⟨_, _, _, rfl, rfl, hr1⟩
  · intro env st hI
    obtain ⟨x2, x3, r, h1, h2, hr⟩ := hI
    subst h1 h2
    simp [k_law_k20_1]
end PL
namespace PL
open PySem PySem.Spec PyProof.Rows L2
section
variable {K : Fr} {mg : Str → Option Value}
theorem g_verdict_of (S : Txt fa fn K mg) : mg "verdict_of" = some (.ref (ga "verdict_of" K)) := glo_ok S (S.fact 0) "verdict_of"
theorem g_is_from (S : Txt fa fn K mg) : mg "is_from" = some (.ref (ga "is_from" K)) := glo_ok S (S.fact 0) "is_from"
theorem g_need_two (S : Txt fa fn K mg) : mg "need_two" = some (.ref (ga "need_two" K)) := glo_ok S (S.fact 0) "need_two"
theorem g_is_cell (S : Txt fa fn K mg) : mg "is_cell" = some (.ref (ga "is_cell" K)) := glo_ok S (S.fact 0) "is_cell"
theorem g_is_group (S : Txt fa fn K mg) : mg "is_group" = some (.ref (ga "is_group" K)) := glo_ok S (S.fact 0) "is_group"
theorem g_verdict (S : Txt fa fn K mg) : mg "verdict" = some (.ref (ga "verdict" K)) := glo_ok S (S.fact 0) "verdict"
theorem g_sums_of (S : Txt fa fn K mg) : mg "sums_of" = some (.ref (ga "sums_of" K)) := glo_ok S (S.fact 0) "sums_of"
theorem g_need_table (S : Txt fa fn K mg) : mg "need_table" = some (.ref (ga "need_table" K)) := glo_ok S (S.fact 0) "need_table"
theorem g_totals (S : Txt fa fn K mg) : mg "totals" = some (.ref (ga "totals" K)) := glo_ok S (S.fact 0) "totals"
theorem g_is_turned (S : Txt fa fn K mg) : mg "is_turned" = some (.ref (ga "is_turned" K)) := glo_ok S (S.fact 0) "is_turned"
theorem g_turned (S : Txt fa fn K mg) : mg "turned" = some (.ref (ga "turned" K)) := glo_ok S (S.fact 0) "turned"
theorem g_room_of (S : Txt fa fn K mg) : mg "room_of" = some (.ref (ga "room_of" K)) := glo_ok S (S.fact 0) "room_of"
theorem g_need_whole (S : Txt fa fn K mg) : mg "need_whole" = some (.ref (ga "need_whole" K)) := glo_ok S (S.fact 0) "need_whole"
theorem g_need_both (S : Txt fa fn K mg) : mg "need_both" = some (.ref (ga "need_both" K)) := glo_ok S (S.fact 0) "need_both"
theorem g_bar (S : Txt fa fn K mg) : mg "bar" = some (.ref (ga "bar" K)) := glo_ok S (S.fact 0) "bar"
theorem g_need_ledger (S : Txt fa fn K mg) : mg "need_ledger" = some (.ref (ga "need_ledger" K)) := glo_ok S (S.fact 0) "need_ledger"
theorem g_turning (S : Txt fa fn K mg) : mg "turning" = some (.ref (ga "turning" K)) := glo_ok S (S.fact 0) "turning"
theorem g_pairs_turned (S : Txt fa fn K mg) : mg "pairs_turned" = some (.ref (ga "pairs_turned" K)) := glo_ok S (S.fact 0) "pairs_turned"
theorem g__law_early (S : Txt fa fn K mg) : mg "_law_early" = some (.ref (ga "_law_early" K)) := glo_ok S (S.fact 0) "_law_early"
theorem g_widest (S : Txt fa fn K mg) : mg "widest" = some (.ref (ga "widest" K)) := glo_ok S (S.fact 0) "widest"
theorem g_need_tries (S : Txt fa fn K mg) : mg "need_tries" = some (.ref (ga "need_tries" K)) := glo_ok S (S.fact 1) "need_tries"
theorem g_win (S : Txt fa fn K mg) : mg "win" = some (.ref (ga "win" K)) := glo_ok S (S.fact 1) "win"
theorem g_need_weights (S : Txt fa fn K mg) : mg "need_weights" = some (.ref (ga "need_weights" K)) := glo_ok S (S.fact 1) "need_weights"
theorem g_fair (S : Txt fa fn K mg) : mg "fair" = some (.ref (ga "fair" K)) := glo_ok S (S.fact 1) "fair"
theorem g_is_entry (S : Txt fa fn K mg) : mg "is_entry" = some (.ref (ga "is_entry" K)) := glo_ok S (S.fact 1) "is_entry"
theorem g_need_marks (S : Txt fa fn K mg) : mg "need_marks" = some (.ref (ga "need_marks" K)) := glo_ok S (S.fact 1) "need_marks"
theorem g_by_marks (S : Txt fa fn K mg) : mg "by_marks" = some (.ref (ga "by_marks" K)) := glo_ok S (S.fact 1) "by_marks"
theorem g_need_unread (S : Txt fa fn K mg) : mg "need_unread" = some (.ref (ga "need_unread" K)) := glo_ok S (S.fact 1) "need_unread"
theorem g_how (S : Txt fa fn K mg) : mg "how" = some (.ref (ga "how" K)) := glo_ok S (S.fact 1) "how"
theorem g_number_in (S : Txt fa fn K mg) : mg "number_in" = some (.ref (ga "number_in" K)) := glo_ok S (S.fact 1) "number_in"
theorem g_cell_in (S : Txt fa fn K mg) : mg "cell_in" = some (.ref (ga "cell_in" K)) := glo_ok S (S.fact 1) "cell_in"
theorem g_group_in (S : Txt fa fn K mg) : mg "group_in" = some (.ref (ga "group_in" K)) := glo_ok S (S.fact 1) "group_in"
theorem g_read (S : Txt fa fn K mg) : mg "read" = some (.ref (ga "read" K)) := glo_ok S (S.fact 1) "read"
theorem g__law_call (S : Txt fa fn K mg) : mg "_law_call" = some (.ref (ga "_law_call" K)) := glo_ok S (S.fact 1) "_law_call"
theorem g__law_second (S : Txt fa fn K mg) : mg "_law_second" = some (.ref (ga "_law_second" K)) := glo_ok S (S.fact 1) "_law_second"
theorem g__law_first (S : Txt fa fn K mg) : mg "_law_first" = some (.ref (ga "_law_first" K)) := glo_ok S (S.fact 1) "_law_first"
theorem g__law_taken (S : Txt fa fn K mg) : mg "_law_taken" = some (.ref (ga "_law_taken" K)) := glo_ok S (S.fact 1) "_law_taken"
theorem g_law (S : Txt fa fn K mg) : mg "law" = some (.ref (ga "law" K)) := glo_ok S (S.fact 1) "law"
theorem g_AboutError (S : Txt fa fn K mg) : mg "AboutError" = some (.ref (ga "AboutError" K)) := glo_ok S (S.fact 1) "AboutError"
theorem g_BadGroup (S : Txt fa fn K mg) : mg "BadGroup" = some (.ref (ga "BadGroup" K)) := glo_ok S (S.fact 1) "BadGroup"
theorem g_BadGroups (S : Txt fa fn K mg) : mg "BadGroups" = some (.ref (ga "BadGroups" K)) := glo_ok S (S.fact 2) "BadGroups"
theorem g_BadTable (S : Txt fa fn K mg) : mg "BadTable" = some (.ref (ga "BadTable" K)) := glo_ok S (S.fact 2) "BadTable"
theorem g_BadWay (S : Txt fa fn K mg) : mg "BadWay" = some (.ref (ga "BadWay" K)) := glo_ok S (S.fact 2) "BadWay"
theorem g_BadWhole (S : Txt fa fn K mg) : mg "BadWhole" = some (.ref (ga "BadWhole" K)) := glo_ok S (S.fact 2) "BadWhole"
theorem g_BadNumber (S : Txt fa fn K mg) : mg "BadNumber" = some (.ref (ga "BadNumber" K)) := glo_ok S (S.fact 2) "BadNumber"
theorem g_TooMany (S : Txt fa fn K mg) : mg "TooMany" = some (.ref (ga "TooMany" K)) := glo_ok S (S.fact 2) "TooMany"
theorem g_NoTries (S : Txt fa fn K mg) : mg "NoTries" = some (.ref (ga "NoTries" K)) := glo_ok S (S.fact 2) "NoTries"
theorem g_BadWeights (S : Txt fa fn K mg) : mg "BadWeights" = some (.ref (ga "BadWeights" K)) := glo_ok S (S.fact 2) "BadWeights"
theorem g_BadEntries (S : Txt fa fn K mg) : mg "BadEntries" = some (.ref (ga "BadEntries" K)) := glo_ok S (S.fact 2) "BadEntries"
theorem g_BadLedger (S : Txt fa fn K mg) : mg "BadLedger" = some (.ref (ga "BadLedger" K)) := glo_ok S (S.fact 2) "BadLedger"
theorem g_BadMarks (S : Txt fa fn K mg) : mg "BadMarks" = some (.ref (ga "BadMarks" K)) := glo_ok S (S.fact 2) "BadMarks"
theorem g_BadUnread (S : Txt fa fn K mg) : mg "BadUnread" = some (.ref (ga "BadUnread" K)) := glo_ok S (S.fact 2) "BadUnread"
theorem g_Alone (S : Txt fa fn K mg) : mg "Alone" = some (.ref (ga "Alone" K)) := glo_ok S (S.fact 2) "Alone"
theorem g_Full (S : Txt fa fn K mg) : mg "Full" = some (.ref (ga "Full" K)) := glo_ok S (S.fact 2) "Full"
theorem g_InvalidText (S : Txt fa fn K mg) : mg "InvalidText" = some (.ref (ga "InvalidText" K)) := glo_ok S (S.fact 2) "InvalidText"
theorem g_Table (S : Txt fa fn K mg) : mg "Table" = some (.ref (ga "Table" K)) := glo_ok S (S.fact 2) "Table"
theorem g_Board (S : Txt fa fn K mg) : mg "Board" = some (.ref (ga "Board" K)) := glo_ok S (S.fact 2) "Board"
theorem g_Ledger (S : Txt fa fn K mg) : mg "Ledger" = some (.ref (ga "Ledger" K)) := glo_ok S (S.fact 2) "Ledger"
theorem g_Unread (S : Txt fa fn K mg) : mg "Unread" = some (.ref (ga "Unread" K)) := glo_ok S (S.fact 2) "Unread"
theorem z_all (S : Txt fa fn K mg) : mg "all" = none := free_ok S (S.fact 3) "all"
theorem z_bool (S : Txt fa fn K mg) : mg "bool" = none := free_ok S (S.fact 3) "bool"
theorem z_enumerate (S : Txt fa fn K mg) : mg "enumerate" = none := free_ok S (S.fact 3) "enumerate"
theorem z_int (S : Txt fa fn K mg) : mg "int" = none := free_ok S (S.fact 3) "int"
theorem z_isinstance (S : Txt fa fn K mg) : mg "isinstance" = none := free_ok S (S.fact 3) "isinstance"
theorem z_len (S : Txt fa fn K mg) : mg "len" = none := free_ok S (S.fact 3) "len"
theorem z_max (S : Txt fa fn K mg) : mg "max" = none := free_ok S (S.fact 3) "max"
theorem z_min (S : Txt fa fn K mg) : mg "min" = none := free_ok S (S.fact 3) "min"
theorem z_range (S : Txt fa fn K mg) : mg "range" = none := free_ok S (S.fact 3) "range"
theorem z_sum (S : Txt fa fn K mg) : mg "sum" = none := free_ok S (S.fact 3) "sum"
theorem z_tuple (S : Txt fa fn K mg) : mg "tuple" = none := free_ok S (S.fact 3) "tuple"
theorem i_MOST_WAYS (S : Txt fa fn K mg) : ∃ t, mg "MOST_WAYS" = some (.int (4) t) := int_ok S (S.fact 4)
theorem i_MOST_GROUPS (S : Txt fa fn K mg) : ∃ t, mg "MOST_GROUPS" = some (.int (8) t) := int_ok S (S.fact 5)
theorem i_MOST (S : Txt fa fn K mg) : ∃ t, mg "MOST" = some (.int (1000000000000000000000000000000) t) := int_ok S (S.fact 6)
theorem i_MOST_ENTRIES (S : Txt fa fn K mg) : ∃ t, mg "MOST_ENTRIES" = some (.int (40) t) := int_ok S (S.fact 7)
theorem i_MOST_MARKS (S : Txt fa fn K mg) : ∃ t, mg "MOST_MARKS" = some (.int (4) t) := int_ok S (S.fact 8)
theorem i_MOST_PARTED (S : Txt fa fn K mg) : ∃ t, mg "MOST_PARTED" = some (.int (3) t) := int_ok S (S.fact 9)
theorem i_MOST_TIMES (S : Txt fa fn K mg) : ∃ t, mg "MOST_TIMES" = some (.int (1000000000) t) := int_ok S (S.fact 10)
theorem i_MOST_TRIES_partings (S : Txt fa fn K mg) : ∃ t, mg "MOST_TRIES_partings" = some (.int (10) t) := int_ok S (S.fact 11)
theorem i_MOST_FIGURES (S : Txt fa fn K mg) : ∃ t, mg "MOST_FIGURES" = some (.int (31) t) := int_ok S (S.fact 12)
theorem is_ (S : Txt fa fn K mg) : IsK K mg CS := is_all (cs := ["Table", "Ledger", "Unread", "Board"]) (ab := []) S (S.fact 15) (S.fact 14) (by decide)
theorem x_Table (S : Txt fa fn K mg) : fCls "Table" ["rows"] K = true := S.fact 16
theorem x_Ledger (S : Txt fa fn K mg) : fCls "Ledger" ["lines", "many"] K = true := S.fact 17
theorem x_Board (S : Txt fa fn K mg) : fCls "Board" ["stood"] K = true := S.fact 19
theorem h_Board_need_index (S : Txt fa fn K mg) : fMeth "Board" "need_index" K = true := S.fact 20
theorem h_Board_drop_k14 (S : Txt fa fn K mg) : fMeth "Board" "drop" K = true := S.fact 21
theorem h_Board_need_group (S : Txt fa fn K mg) : fMeth "Board" "need_group" K = true := S.fact 22
theorem h_Board_add_k14 (S : Txt fa fn K mg) : fMeth "Board" "add" K = true := S.fact 23
theorem x_BadGroup (S : Txt fa fn K mg) : fExc "BadGroup" [] K = true := S.fact 24
theorem x_BadGroups (S : Txt fa fn K mg) : fExc "BadGroups" ["index"] K = true := S.fact 25
theorem x_BadTable (S : Txt fa fn K mg) : fExc "BadTable" [] K = true := S.fact 26
theorem x_BadWay (S : Txt fa fn K mg) : fExc "BadWay" [] K = true := S.fact 27
theorem x_BadWhole (S : Txt fa fn K mg) : fExc "BadWhole" [] K = true := S.fact 28
theorem x_BadNumber (S : Txt fa fn K mg) : fExc "BadNumber" ["n"] K = true := S.fact 29
theorem x_TooMany (S : Txt fa fn K mg) : fExc "TooMany" ["most"] K = true := S.fact 30
theorem x_NoTries (S : Txt fa fn K mg) : fExc "NoTries" ["index"] K = true := S.fact 31
theorem x_BadWeights (S : Txt fa fn K mg) : fExc "BadWeights" [] K = true := S.fact 32
theorem x_BadEntries (S : Txt fa fn K mg) : fExc "BadEntries" ["index"] K = true := S.fact 33
theorem x_BadLedger (S : Txt fa fn K mg) : fExc "BadLedger" [] K = true := S.fact 34
theorem x_BadMarks (S : Txt fa fn K mg) : fExc "BadMarks" [] K = true := S.fact 35
theorem x_BadUnread (S : Txt fa fn K mg) : fExc "BadUnread" [] K = true := S.fact 36
theorem x_Alone (S : Txt fa fn K mg) : fExc "Alone" [] K = true := S.fact 37
theorem x_Full (S : Txt fa fn K mg) : fExc "Full" [] K = true := S.fact 38
theorem x_InvalidText (S : Txt fa fn K mg) : fExc "InvalidText" ["line", "word"] K = true := S.fact 39
theorem top_ (S : Txt fa fn K mg) : OwnI K (ga "AboutError" K) (.type "type") := top_ok (S.fact 40)
theorem m_TooMany (S : Txt fa fn K mg) : ExM K mg "AboutError" ERRS "TooMany" (.ref (ga "TooMany" K)) := exm_all (errs := ["BadGroup", "BadGroups", "BadTable", "BadWay", "BadWhole", "BadNumber", "TooMany", "NoTries", "BadWeights", "BadEntries", "BadLedger", "BadMarks", "BadUnread", "Alone", "Full", "InvalidText"]) (cs := ["TooMany", "NoTries", "BadWeights", "BadEntries", "BadMarks", "BadUnread", "Full", "InvalidText", "AboutError", "BadGroup", "BadGroups", "BadTable", "BadWay", "BadWhole", "BadNumber", "BadLedger", "Alone"]) (ab := []) S (S.fact 41) (S.fact 14) (by decide) "TooMany"
theorem m_NoTries (S : Txt fa fn K mg) : ExM K mg "AboutError" ERRS "NoTries" (.ref (ga "NoTries" K)) := exm_all (errs := ["BadGroup", "BadGroups", "BadTable", "BadWay", "BadWhole", "BadNumber", "TooMany", "NoTries", "BadWeights", "BadEntries", "BadLedger", "BadMarks", "BadUnread", "Alone", "Full", "InvalidText"]) (cs := ["TooMany", "NoTries", "BadWeights", "BadEntries", "BadMarks", "BadUnread", "Full", "InvalidText", "AboutError", "BadGroup", "BadGroups", "BadTable", "BadWay", "BadWhole", "BadNumber", "BadLedger", "Alone"]) (ab := []) S (S.fact 41) (S.fact 14) (by decide) "NoTries"
theorem m_BadWeights (S : Txt fa fn K mg) : ExM K mg "AboutError" ERRS "BadWeights" (.ref (ga "BadWeights" K)) := exm_all (errs := ["BadGroup", "BadGroups", "BadTable", "BadWay", "BadWhole", "BadNumber", "TooMany", "NoTries", "BadWeights", "BadEntries", "BadLedger", "BadMarks", "BadUnread", "Alone", "Full", "InvalidText"]) (cs := ["TooMany", "NoTries", "BadWeights", "BadEntries", "BadMarks", "BadUnread", "Full", "InvalidText", "AboutError", "BadGroup", "BadGroups", "BadTable", "BadWay", "BadWhole", "BadNumber", "BadLedger", "Alone"]) (ab := []) S (S.fact 41) (S.fact 14) (by decide) "BadWeights"
theorem m_BadEntries (S : Txt fa fn K mg) : ExM K mg "AboutError" ERRS "BadEntries" (.ref (ga "BadEntries" K)) := exm_all (errs := ["BadGroup", "BadGroups", "BadTable", "BadWay", "BadWhole", "BadNumber", "TooMany", "NoTries", "BadWeights", "BadEntries", "BadLedger", "BadMarks", "BadUnread", "Alone", "Full", "InvalidText"]) (cs := ["TooMany", "NoTries", "BadWeights", "BadEntries", "BadMarks", "BadUnread", "Full", "InvalidText", "AboutError", "BadGroup", "BadGroups", "BadTable", "BadWay", "BadWhole", "BadNumber", "BadLedger", "Alone"]) (ab := []) S (S.fact 41) (S.fact 14) (by decide) "BadEntries"
theorem m_BadMarks (S : Txt fa fn K mg) : ExM K mg "AboutError" ERRS "BadMarks" (.ref (ga "BadMarks" K)) := exm_all (errs := ["BadGroup", "BadGroups", "BadTable", "BadWay", "BadWhole", "BadNumber", "TooMany", "NoTries", "BadWeights", "BadEntries", "BadLedger", "BadMarks", "BadUnread", "Alone", "Full", "InvalidText"]) (cs := ["TooMany", "NoTries", "BadWeights", "BadEntries", "BadMarks", "BadUnread", "Full", "InvalidText", "AboutError", "BadGroup", "BadGroups", "BadTable", "BadWay", "BadWhole", "BadNumber", "BadLedger", "Alone"]) (ab := []) S (S.fact 41) (S.fact 14) (by decide) "BadMarks"
theorem m_BadUnread (S : Txt fa fn K mg) : ExM K mg "AboutError" ERRS "BadUnread" (.ref (ga "BadUnread" K)) := exm_all (errs := ["BadGroup", "BadGroups", "BadTable", "BadWay", "BadWhole", "BadNumber", "TooMany", "NoTries", "BadWeights", "BadEntries", "BadLedger", "BadMarks", "BadUnread", "Alone", "Full", "InvalidText"]) (cs := ["TooMany", "NoTries", "BadWeights", "BadEntries", "BadMarks", "BadUnread", "Full", "InvalidText", "AboutError", "BadGroup", "BadGroups", "BadTable", "BadWay", "BadWhole", "BadNumber", "BadLedger", "Alone"]) (ab := []) S (S.fact 41) (S.fact 14) (by decide) "BadUnread"
theorem m_Full (S : Txt fa fn K mg) : ExM K mg "AboutError" ERRS "Full" (.ref (ga "Full" K)) := exm_all (errs := ["BadGroup", "BadGroups", "BadTable", "BadWay", "BadWhole", "BadNumber", "TooMany", "NoTries", "BadWeights", "BadEntries", "BadLedger", "BadMarks", "BadUnread", "Alone", "Full", "InvalidText"]) (cs := ["TooMany", "NoTries", "BadWeights", "BadEntries", "BadMarks", "BadUnread", "Full", "InvalidText", "AboutError", "BadGroup", "BadGroups", "BadTable", "BadWay", "BadWhole", "BadNumber", "BadLedger", "Alone"]) (ab := []) S (S.fact 41) (S.fact 14) (by decide) "Full"
theorem m_InvalidText (S : Txt fa fn K mg) : ExM K mg "AboutError" ERRS "InvalidText" (.ref (ga "InvalidText" K)) := exm_all (errs := ["BadGroup", "BadGroups", "BadTable", "BadWay", "BadWhole", "BadNumber", "TooMany", "NoTries", "BadWeights", "BadEntries", "BadLedger", "BadMarks", "BadUnread", "Alone", "Full", "InvalidText"]) (cs := ["TooMany", "NoTries", "BadWeights", "BadEntries", "BadMarks", "BadUnread", "Full", "InvalidText", "AboutError", "BadGroup", "BadGroups", "BadTable", "BadWay", "BadWhole", "BadNumber", "BadLedger", "Alone"]) (ab := []) S (S.fact 41) (S.fact 14) (by decide) "InvalidText"
theorem m_AboutError (S : Txt fa fn K mg) : ExM K mg "AboutError" ERRS "AboutError" (.ref (ga "AboutError" K)) := exm_all (errs := ["BadGroup", "BadGroups", "BadTable", "BadWay", "BadWhole", "BadNumber", "TooMany", "NoTries", "BadWeights", "BadEntries", "BadLedger", "BadMarks", "BadUnread", "Alone", "Full", "InvalidText"]) (cs := ["TooMany", "NoTries", "BadWeights", "BadEntries", "BadMarks", "BadUnread", "Full", "InvalidText", "AboutError", "BadGroup", "BadGroups", "BadTable", "BadWay", "BadWhole", "BadNumber", "BadLedger", "Alone"]) (ab := []) S (S.fact 41) (S.fact 14) (by decide) "AboutError"
theorem m_BadGroup (S : Txt fa fn K mg) : ExM K mg "AboutError" ERRS "BadGroup" (.ref (ga "BadGroup" K)) := exm_all (errs := ["BadGroup", "BadGroups", "BadTable", "BadWay", "BadWhole", "BadNumber", "TooMany", "NoTries", "BadWeights", "BadEntries", "BadLedger", "BadMarks", "BadUnread", "Alone", "Full", "InvalidText"]) (cs := ["TooMany", "NoTries", "BadWeights", "BadEntries", "BadMarks", "BadUnread", "Full", "InvalidText", "AboutError", "BadGroup", "BadGroups", "BadTable", "BadWay", "BadWhole", "BadNumber", "BadLedger", "Alone"]) (ab := []) S (S.fact 41) (S.fact 14) (by decide) "BadGroup"
theorem m_BadGroups (S : Txt fa fn K mg) : ExM K mg "AboutError" ERRS "BadGroups" (.ref (ga "BadGroups" K)) := exm_all (errs := ["BadGroup", "BadGroups", "BadTable", "BadWay", "BadWhole", "BadNumber", "TooMany", "NoTries", "BadWeights", "BadEntries", "BadLedger", "BadMarks", "BadUnread", "Alone", "Full", "InvalidText"]) (cs := ["TooMany", "NoTries", "BadWeights", "BadEntries", "BadMarks", "BadUnread", "Full", "InvalidText", "AboutError", "BadGroup", "BadGroups", "BadTable", "BadWay", "BadWhole", "BadNumber", "BadLedger", "Alone"]) (ab := []) S (S.fact 41) (S.fact 14) (by decide) "BadGroups"
theorem m_BadTable (S : Txt fa fn K mg) : ExM K mg "AboutError" ERRS "BadTable" (.ref (ga "BadTable" K)) := exm_all (errs := ["BadGroup", "BadGroups", "BadTable", "BadWay", "BadWhole", "BadNumber", "TooMany", "NoTries", "BadWeights", "BadEntries", "BadLedger", "BadMarks", "BadUnread", "Alone", "Full", "InvalidText"]) (cs := ["TooMany", "NoTries", "BadWeights", "BadEntries", "BadMarks", "BadUnread", "Full", "InvalidText", "AboutError", "BadGroup", "BadGroups", "BadTable", "BadWay", "BadWhole", "BadNumber", "BadLedger", "Alone"]) (ab := []) S (S.fact 41) (S.fact 14) (by decide) "BadTable"
theorem m_BadWay (S : Txt fa fn K mg) : ExM K mg "AboutError" ERRS "BadWay" (.ref (ga "BadWay" K)) := exm_all (errs := ["BadGroup", "BadGroups", "BadTable", "BadWay", "BadWhole", "BadNumber", "TooMany", "NoTries", "BadWeights", "BadEntries", "BadLedger", "BadMarks", "BadUnread", "Alone", "Full", "InvalidText"]) (cs := ["TooMany", "NoTries", "BadWeights", "BadEntries", "BadMarks", "BadUnread", "Full", "InvalidText", "AboutError", "BadGroup", "BadGroups", "BadTable", "BadWay", "BadWhole", "BadNumber", "BadLedger", "Alone"]) (ab := []) S (S.fact 41) (S.fact 14) (by decide) "BadWay"
theorem m_BadWhole (S : Txt fa fn K mg) : ExM K mg "AboutError" ERRS "BadWhole" (.ref (ga "BadWhole" K)) := exm_all (errs := ["BadGroup", "BadGroups", "BadTable", "BadWay", "BadWhole", "BadNumber", "TooMany", "NoTries", "BadWeights", "BadEntries", "BadLedger", "BadMarks", "BadUnread", "Alone", "Full", "InvalidText"]) (cs := ["TooMany", "NoTries", "BadWeights", "BadEntries", "BadMarks", "BadUnread", "Full", "InvalidText", "AboutError", "BadGroup", "BadGroups", "BadTable", "BadWay", "BadWhole", "BadNumber", "BadLedger", "Alone"]) (ab := []) S (S.fact 41) (S.fact 14) (by decide) "BadWhole"
theorem m_BadNumber (S : Txt fa fn K mg) : ExM K mg "AboutError" ERRS "BadNumber" (.ref (ga "BadNumber" K)) := exm_all (errs := ["BadGroup", "BadGroups", "BadTable", "BadWay", "BadWhole", "BadNumber", "TooMany", "NoTries", "BadWeights", "BadEntries", "BadLedger", "BadMarks", "BadUnread", "Alone", "Full", "InvalidText"]) (cs := ["TooMany", "NoTries", "BadWeights", "BadEntries", "BadMarks", "BadUnread", "Full", "InvalidText", "AboutError", "BadGroup", "BadGroups", "BadTable", "BadWay", "BadWhole", "BadNumber", "BadLedger", "Alone"]) (ab := []) S (S.fact 41) (S.fact 14) (by decide) "BadNumber"
theorem m_BadLedger (S : Txt fa fn K mg) : ExM K mg "AboutError" ERRS "BadLedger" (.ref (ga "BadLedger" K)) := exm_all (errs := ["BadGroup", "BadGroups", "BadTable", "BadWay", "BadWhole", "BadNumber", "TooMany", "NoTries", "BadWeights", "BadEntries", "BadLedger", "BadMarks", "BadUnread", "Alone", "Full", "InvalidText"]) (cs := ["TooMany", "NoTries", "BadWeights", "BadEntries", "BadMarks", "BadUnread", "Full", "InvalidText", "AboutError", "BadGroup", "BadGroups", "BadTable", "BadWay", "BadWhole", "BadNumber", "BadLedger", "Alone"]) (ab := []) S (S.fact 41) (S.fact 14) (by decide) "BadLedger"
theorem m_Alone (S : Txt fa fn K mg) : ExM K mg "AboutError" ERRS "Alone" (.ref (ga "Alone" K)) := exm_all (errs := ["BadGroup", "BadGroups", "BadTable", "BadWay", "BadWhole", "BadNumber", "TooMany", "NoTries", "BadWeights", "BadEntries", "BadLedger", "BadMarks", "BadUnread", "Alone", "Full", "InvalidText"]) (cs := ["TooMany", "NoTries", "BadWeights", "BadEntries", "BadMarks", "BadUnread", "Full", "InvalidText", "AboutError", "BadGroup", "BadGroups", "BadTable", "BadWay", "BadWhole", "BadNumber", "BadLedger", "Alone"]) (ab := []) S (S.fact 41) (S.fact 14) (by decide) "Alone"
theorem f_verdict_of (S : Txt fa fn K mg) : FnD' K d_verdict_of := S.def_ 0
theorem k_verdict_of (S : Txt fa fn K mg) : PySem.W.keepIn K (.ref ((ga "verdict_of") K)) = true := (f_verdict_of S).kp
theorem bd_verdict_of (S : Txt fa fn K mg) : Binds K (fdOf K ((ga "verdict_of") K)) ["row", "one", "other"] [] := (f_verdict_of S).bindsN fun _ _ _ _ _ _ us hl => match us, hl with | [_, _, _], _ => rfl
theorem f_is_from (S : Txt fa fn K mg) : FnD' K d_is_from := S.def_ 1
theorem k_is_from (S : Txt fa fn K mg) : PySem.W.keepIn K (.ref ((ga "is_from") K)) = true := (f_is_from S).kp
theorem bd_is_from (S : Txt fa fn K mg) : Binds K (fdOf K ((ga "is_from") K)) ["value", "low", "high"] [] := (f_is_from S).bindsN fun _ _ _ _ _ _ us hl => match us, hl with | [_, _, _], _ => rfl
theorem f_BadWay_init (S : Txt fa fn K mg) : FnD' K d_BadWay_init := S.def_ 2
theorem bd_BadWay_init (S : Txt fa fn K mg) : Binds K (fdOf K ((ma "BadWay" "__init__") K)) ["self"] [] := (f_BadWay_init S).bindsN fun _ _ _ _ _ _ us hl => match us, hl with | [_], _ => rfl
theorem f_need_two (S : Txt fa fn K mg) : FnD' K d_need_two := S.def_ 3
theorem k_need_two (S : Txt fa fn K mg) : PySem.W.keepIn K (.ref ((ga "need_two") K)) = true := (f_need_two S).kp
theorem bd_need_two (S : Txt fa fn K mg) : Binds K (fdOf K ((ga "need_two") K)) ["ways", "one", "other"] [] := (f_need_two S).bindsN fun _ _ _ _ _ _ us hl => match us, hl with | [_, _, _], _ => rfl
theorem f_is_cell (S : Txt fa fn K mg) : FnD' K d_is_cell := S.def_ 4
theorem k_is_cell (S : Txt fa fn K mg) : PySem.W.keepIn K (.ref ((ga "is_cell") K)) = true := (f_is_cell S).kp
theorem bd_is_cell (S : Txt fa fn K mg) : Binds K (fdOf K ((ga "is_cell") K)) ["value"] [] := (f_is_cell S).bindsN fun _ _ _ _ _ _ us hl => match us, hl with | [_], _ => rfl
theorem f_is_group (S : Txt fa fn K mg) : FnD' K d_is_group := S.def_ 5
theorem k_is_group (S : Txt fa fn K mg) : PySem.W.keepIn K (.ref ((ga "is_group") K)) = true := (f_is_group S).kp
theorem bd_is_group (S : Txt fa fn K mg) : Binds K (fdOf K ((ga "is_group") K)) ["value"] [] := (f_is_group S).bindsN fun _ _ _ _ _ _ us hl => match us, hl with | [_], _ => rfl
theorem f_BadGroup_init (S : Txt fa fn K mg) : FnD' K d_BadGroup_init := S.def_ 6
theorem bd_BadGroup_init (S : Txt fa fn K mg) : Binds K (fdOf K ((ma "BadGroup" "__init__") K)) ["self"] [] := (f_BadGroup_init S).bindsN fun _ _ _ _ _ _ us hl => match us, hl with | [_], _ => rfl
theorem f_verdict (S : Txt fa fn K mg) : FnD' K d_verdict := S.def_ 7
theorem k_verdict (S : Txt fa fn K mg) : PySem.W.keepIn K (.ref ((ga "verdict") K)) = true := (f_verdict S).kp
theorem bd_verdict (S : Txt fa fn K mg) : Binds K (fdOf K ((ga "verdict") K)) ["group", "one", "other"] [] := (f_verdict S).bindsN fun _ _ _ _ _ _ us hl => match us, hl with | [_, _, _], _ => rfl
theorem f_BadGroups_init (S : Txt fa fn K mg) : FnD' K d_BadGroups_init := S.def_ 8
theorem bd_BadGroups_init (S : Txt fa fn K mg) : Binds K (fdOf K ((ma "BadGroups" "__init__") K)) ["self", "index"] [] := (f_BadGroups_init S).bindsN fun _ _ _ _ _ _ us hl => match us, hl with | [_, _], _ => rfl
theorem f_Table_init (S : Txt fa fn K mg) : FnD' K d_Table_init := S.def_ 9
theorem bd_Table_init (S : Txt fa fn K mg) : Binds K (fdOf K ((ma "Table" "__init__") K)) ["self", "groups"] [] := (f_Table_init S).bindsN fun _ _ _ _ _ _ us hl => match us, hl with | [_, _], _ => rfl
theorem f_sums_of (S : Txt fa fn K mg) : FnD' K d_sums_of := S.def_ 10
theorem k_sums_of (S : Txt fa fn K mg) : PySem.W.keepIn K (.ref ((ga "sums_of") K)) = true := (f_sums_of S).kp
theorem bd_sums_of (S : Txt fa fn K mg) : Binds K (fdOf K ((ga "sums_of") K)) ["rows"] [] := (f_sums_of S).bindsN fun _ _ _ _ _ _ us hl => match us, hl with | [_], _ => rfl
theorem f_BadTable_init (S : Txt fa fn K mg) : FnD' K d_BadTable_init := S.def_ 11
theorem bd_BadTable_init (S : Txt fa fn K mg) : Binds K (fdOf K ((ma "BadTable" "__init__") K)) ["self"] [] := (f_BadTable_init S).bindsN fun _ _ _ _ _ _ us hl => match us, hl with | [_], _ => rfl
theorem f_need_table (S : Txt fa fn K mg) : FnD' K d_need_table := S.def_ 12
theorem k_need_table (S : Txt fa fn K mg) : PySem.W.keepIn K (.ref ((ga "need_table") K)) = true := (f_need_table S).kp
theorem bd_need_table (S : Txt fa fn K mg) : Binds K (fdOf K ((ga "need_table") K)) ["table"] [] := (f_need_table S).bindsN fun _ _ _ _ _ _ us hl => match us, hl with | [_], _ => rfl
theorem f_totals (S : Txt fa fn K mg) : FnD' K d_totals := S.def_ 13
theorem k_totals (S : Txt fa fn K mg) : PySem.W.keepIn K (.ref ((ga "totals") K)) = true := (f_totals S).kp
theorem bd_totals (S : Txt fa fn K mg) : Binds K (fdOf K ((ga "totals") K)) ["table"] [] := (f_totals S).bindsN fun _ _ _ _ _ _ us hl => match us, hl with | [_], _ => rfl
theorem f_is_turned (S : Txt fa fn K mg) : FnD' K d_is_turned := S.def_ 14
theorem k_is_turned (S : Txt fa fn K mg) : PySem.W.keepIn K (.ref ((ga "is_turned") K)) = true := (f_is_turned S).kp
theorem bd_is_turned (S : Txt fa fn K mg) : Binds K (fdOf K ((ga "is_turned") K)) ["rows", "one", "other"] [] := (f_is_turned S).bindsN fun _ _ _ _ _ _ us hl => match us, hl with | [_, _, _], _ => rfl
theorem f_turned (S : Txt fa fn K mg) : FnD' K d_turned := S.def_ 15
theorem k_turned (S : Txt fa fn K mg) : PySem.W.keepIn K (.ref ((ga "turned") K)) = true := (f_turned S).kp
theorem bd_turned (S : Txt fa fn K mg) : Binds K (fdOf K ((ga "turned") K)) ["table", "one", "other"] [] := (f_turned S).bindsN fun _ _ _ _ _ _ us hl => match us, hl with | [_, _, _], _ => rfl
theorem f_room_of (S : Txt fa fn K mg) : FnD' K d_room_of := S.def_ 16
theorem k_room_of (S : Txt fa fn K mg) : PySem.W.keepIn K (.ref ((ga "room_of") K)) = true := (f_room_of S).kp
theorem bd_room_of (S : Txt fa fn K mg) : Binds K (fdOf K ((ga "room_of") K)) ["whole"] [] := (f_room_of S).bindsN fun _ _ _ _ _ _ us hl => match us, hl with | [_], _ => rfl
theorem f_BadNumber_init (S : Txt fa fn K mg) : FnD' K d_BadNumber_init := S.def_ 17
theorem bd_BadNumber_init (S : Txt fa fn K mg) : Binds K (fdOf K ((ma "BadNumber" "__init__") K)) ["self", "n"] [] := (f_BadNumber_init S).bindsN fun _ _ _ _ _ _ us hl => match us, hl with | [_, _], _ => rfl
theorem f_BadWhole_init (S : Txt fa fn K mg) : FnD' K d_BadWhole_init := S.def_ 18
theorem bd_BadWhole_init (S : Txt fa fn K mg) : Binds K (fdOf K ((ma "BadWhole" "__init__") K)) ["self"] [] := (f_BadWhole_init S).bindsN fun _ _ _ _ _ _ us hl => match us, hl with | [_], _ => rfl
theorem f_need_whole (S : Txt fa fn K mg) : FnD' K d_need_whole := S.def_ 19
theorem k_need_whole (S : Txt fa fn K mg) : PySem.W.keepIn K (.ref ((ga "need_whole") K)) = true := (f_need_whole S).kp
theorem bd_need_whole (S : Txt fa fn K mg) : Binds K (fdOf K ((ga "need_whole") K)) ["whole"] [] := (f_need_whole S).bindsN fun _ _ _ _ _ _ us hl => match us, hl with | [_], _ => rfl
theorem f_need_both (S : Txt fa fn K mg) : FnD' K d_need_both := S.def_ 20
theorem k_need_both (S : Txt fa fn K mg) : PySem.W.keepIn K (.ref ((ga "need_both") K)) = true := (f_need_both S).kp
theorem bd_need_both (S : Txt fa fn K mg) : Binds K (fdOf K ((ga "need_both") K)) ["whole", "groups"] [] := (f_need_both S).bindsN fun _ _ _ _ _ _ us hl => match us, hl with | [_, _], _ => rfl
theorem f_bar (S : Txt fa fn K mg) : FnD' K d_bar := S.def_ 21
theorem k_bar (S : Txt fa fn K mg) : PySem.W.keepIn K (.ref ((ga "bar") K)) = true := (f_bar S).kp
theorem bd_bar (S : Txt fa fn K mg) : Binds K (fdOf K ((ga "bar") K)) ["whole", "groups"] [] := (f_bar S).bindsN fun _ _ _ _ _ _ us hl => match us, hl with | [_, _], _ => rfl
theorem f_BadLedger_init (S : Txt fa fn K mg) : FnD' K d_BadLedger_init := S.def_ 22
theorem bd_BadLedger_init (S : Txt fa fn K mg) : Binds K (fdOf K ((ma "BadLedger" "__init__") K)) ["self"] [] := (f_BadLedger_init S).bindsN fun _ _ _ _ _ _ us hl => match us, hl with | [_], _ => rfl
theorem f_need_ledger (S : Txt fa fn K mg) : FnD' K d_need_ledger := S.def_ 23
theorem k_need_ledger (S : Txt fa fn K mg) : PySem.W.keepIn K (.ref ((ga "need_ledger") K)) = true := (f_need_ledger S).kp
theorem bd_need_ledger (S : Txt fa fn K mg) : Binds K (fdOf K ((ga "need_ledger") K)) ["ledger"] [] := (f_need_ledger S).bindsN fun _ _ _ _ _ _ us hl => match us, hl with | [_], _ => rfl
theorem f_turning (S : Txt fa fn K mg) : FnD' K d_turning := S.def_ 24
theorem k_turning (S : Txt fa fn K mg) : PySem.W.keepIn K (.ref ((ga "turning") K)) = true := (f_turning S).kp
theorem bd_turning (S : Txt fa fn K mg) : Binds K (fdOf K ((ga "turning") K)) ["ledger", "one", "other"] [] := (f_turning S).bindsN fun _ _ _ _ _ _ us hl => match us, hl with | [_, _, _], _ => rfl
theorem f_Alone_init (S : Txt fa fn K mg) : FnD' K d_Alone_init := S.def_ 25
theorem bd_Alone_init (S : Txt fa fn K mg) : Binds K (fdOf K ((ma "Alone" "__init__") K)) ["self"] [] := (f_Alone_init S).bindsN fun _ _ _ _ _ _ us hl => match us, hl with | [_], _ => rfl
theorem f_Board_need_index (S : Txt fa fn K mg) : FnD' K d_Board_need_index := S.def_ 26
theorem bd_Board_need_index (S : Txt fa fn K mg) : Binds K (fdOf K ((ma "Board" "need_index") K)) ["self", "index"] [] := (f_Board_need_index S).bindsN fun _ _ _ _ _ _ us hl => match us, hl with | [_, _], _ => rfl
theorem f_Board_drop_k14 (S : Txt fa fn K mg) : FnD' K d_Board_drop_k14 := S.def_ 27
theorem bd_Board_drop_k14 (S : Txt fa fn K mg) : Binds K (fdOf K ((ma "Board" "drop") K)) ["self", "index"] [] := (f_Board_drop_k14 S).bindsN fun _ _ _ _ _ _ us hl => match us, hl with | [_, _], _ => rfl
theorem f_pairs_turned (S : Txt fa fn K mg) : FnD' K d_pairs_turned := S.def_ 28
theorem k_pairs_turned (S : Txt fa fn K mg) : PySem.W.keepIn K (.ref ((ga "pairs_turned") K)) = true := (f_pairs_turned S).kp
theorem bd_pairs_turned (S : Txt fa fn K mg) : Binds K (fdOf K ((ga "pairs_turned") K)) ["rows"] [] := (f_pairs_turned S).bindsN fun _ _ _ _ _ _ us hl => match us, hl with | [_], _ => rfl
theorem f_Board_init (S : Txt fa fn K mg) : FnD' K d_Board_init := S.def_ 29
theorem bd_Board_init (S : Txt fa fn K mg) : Binds K (fdOf K ((ma "Board" "__init__") K)) ["self", "table"] [] := (f_Board_init S).bindsN fun _ _ _ _ _ _ us hl => match us, hl with | [_, _], _ => rfl
theorem f_law_early (S : Txt fa fn K mg) : FnD' K d_law_early := S.def_ 30
theorem k_law_early (S : Txt fa fn K mg) : PySem.W.keepIn K (.ref ((ga "_law_early") K)) = true := (f_law_early S).kp
theorem bd_law_early (S : Txt fa fn K mg) : Binds K (fdOf K ((ga "_law_early") K)) ["_law_kind", "_law_rows", "_law_table"] [] := (f_law_early S).bindsN fun _ _ _ _ _ _ us hl => match us, hl with | [_, _, _], _ => rfl
theorem f_TooMany_init (S : Txt fa fn K mg) : FnD' K d_TooMany_init := S.def_ 31
theorem bd_TooMany_init (S : Txt fa fn K mg) : Binds K (fdOf K ((ma "TooMany" "__init__") K)) ["self", "most"] [] := (f_TooMany_init S).bindsN fun _ _ _ _ _ _ us hl => match us, hl with | [_, _], _ => rfl
theorem f_widest (S : Txt fa fn K mg) : FnD' K d_widest := S.def_ 32
theorem k_widest (S : Txt fa fn K mg) : PySem.W.keepIn K (.ref ((ga "widest") K)) = true := (f_widest S).kp
theorem bd_widest (S : Txt fa fn K mg) : Binds K (fdOf K ((ga "widest") K)) ["whole"] [] := (f_widest S).bindsN fun _ _ _ _ _ _ us hl => match us, hl with | [_], _ => rfl
theorem f_NoTries_init (S : Txt fa fn K mg) : FnD' K d_NoTries_init := S.def_ 33
theorem bd_NoTries_init (S : Txt fa fn K mg) : Binds K (fdOf K ((ma "NoTries" "__init__") K)) ["self", "index"] [] := (f_NoTries_init S).bindsN fun _ _ _ _ _ _ us hl => match us, hl with | [_, _], _ => rfl
theorem f_need_tries (S : Txt fa fn K mg) : FnD' K d_need_tries := S.def_ 34
theorem k_need_tries (S : Txt fa fn K mg) : PySem.W.keepIn K (.ref ((ga "need_tries") K)) = true := (f_need_tries S).kp
theorem bd_need_tries (S : Txt fa fn K mg) : Binds K (fdOf K ((ga "need_tries") K)) ["table"] [] := (f_need_tries S).bindsN fun _ _ _ _ _ _ us hl => match us, hl with | [_], _ => rfl
theorem f_win (S : Txt fa fn K mg) : FnD' K d_win := S.def_ 35
theorem k_win (S : Txt fa fn K mg) : PySem.W.keepIn K (.ref ((ga "win") K)) = true := (f_win S).kp
theorem bd_win (S : Txt fa fn K mg) : Binds K (fdOf K ((ga "win") K)) ["table", "way"] [] := (f_win S).bindsN fun _ _ _ _ _ _ us hl => match us, hl with | [_, _], _ => rfl
theorem f_BadWeights_init (S : Txt fa fn K mg) : FnD' K d_BadWeights_init := S.def_ 36
theorem bd_BadWeights_init (S : Txt fa fn K mg) : Binds K (fdOf K ((ma "BadWeights" "__init__") K)) ["self"] [] := (f_BadWeights_init S).bindsN fun _ _ _ _ _ _ us hl => match us, hl with | [_], _ => rfl
theorem f_need_weights (S : Txt fa fn K mg) : FnD' K d_need_weights := S.def_ 37
theorem k_need_weights (S : Txt fa fn K mg) : PySem.W.keepIn K (.ref ((ga "need_weights") K)) = true := (f_need_weights S).kp
theorem bd_need_weights (S : Txt fa fn K mg) : Binds K (fdOf K ((ga "need_weights") K)) ["table", "weights"] [] := (f_need_weights S).bindsN fun _ _ _ _ _ _ us hl => match us, hl with | [_, _], _ => rfl
theorem f_fair (S : Txt fa fn K mg) : FnD' K d_fair := S.def_ 38
theorem k_fair (S : Txt fa fn K mg) : PySem.W.keepIn K (.ref ((ga "fair") K)) = true := (f_fair S).kp
theorem bd_fair (S : Txt fa fn K mg) : Binds K (fdOf K ((ga "fair") K)) ["table", "weights", "way"] [] := (f_fair S).bindsN fun _ _ _ _ _ _ us hl => match us, hl with | [_, _, _], _ => rfl
theorem f_is_entry (S : Txt fa fn K mg) : FnD' K d_is_entry := S.def_ 39
theorem k_is_entry (S : Txt fa fn K mg) : PySem.W.keepIn K (.ref ((ga "is_entry") K)) = true := (f_is_entry S).kp
theorem bd_is_entry (S : Txt fa fn K mg) : Binds K (fdOf K ((ga "is_entry") K)) ["value", "ways", "many"] [] := (f_is_entry S).bindsN fun _ _ _ _ _ _ us hl => match us, hl with | [_, _, _], _ => rfl
theorem f_BadEntries_init (S : Txt fa fn K mg) : FnD' K d_BadEntries_init := S.def_ 40
theorem bd_BadEntries_init (S : Txt fa fn K mg) : Binds K (fdOf K ((ma "BadEntries" "__init__") K)) ["self", "index"] [] := (f_BadEntries_init S).bindsN fun _ _ _ _ _ _ us hl => match us, hl with | [_, _], _ => rfl
theorem f_Ledger_init (S : Txt fa fn K mg) : FnD' K d_Ledger_init := S.def_ 41
theorem bd_Ledger_init (S : Txt fa fn K mg) : Binds K (fdOf K ((ma "Ledger" "__init__") K)) ["self", "entries", "ways"] [] := (f_Ledger_init S).bindsN fun _ _ _ _ _ _ us hl => match us, hl with | [_, _, _], _ => rfl
theorem f_BadMarks_init (S : Txt fa fn K mg) : FnD' K d_BadMarks_init := S.def_ 42
theorem bd_BadMarks_init (S : Txt fa fn K mg) : Binds K (fdOf K ((ma "BadMarks" "__init__") K)) ["self"] [] := (f_BadMarks_init S).bindsN fun _ _ _ _ _ _ us hl => match us, hl with | [_], _ => rfl
theorem f_need_marks (S : Txt fa fn K mg) : FnD' K d_need_marks := S.def_ 43
theorem k_need_marks (S : Txt fa fn K mg) : PySem.W.keepIn K (.ref ((ga "need_marks") K)) = true := (f_need_marks S).kp
theorem bd_need_marks (S : Txt fa fn K mg) : Binds K (fdOf K ((ga "need_marks") K)) ["ledger", "marks"] [] := (f_need_marks S).bindsN fun _ _ _ _ _ _ us hl => match us, hl with | [_, _], _ => rfl
theorem f_by_marks (S : Txt fa fn K mg) : FnD' K d_by_marks := S.def_ 44
theorem k_by_marks (S : Txt fa fn K mg) : PySem.W.keepIn K (.ref ((ga "by_marks") K)) = true := (f_by_marks S).kp
theorem bd_by_marks (S : Txt fa fn K mg) : Binds K (fdOf K ((ga "by_marks") K)) ["ledger", "marks"] [] := (f_by_marks S).bindsN fun _ _ _ _ _ _ us hl => match us, hl with | [_, _], _ => rfl
theorem f_BadUnread_init (S : Txt fa fn K mg) : FnD' K d_BadUnread_init := S.def_ 45
theorem bd_BadUnread_init (S : Txt fa fn K mg) : Binds K (fdOf K ((ma "BadUnread" "__init__") K)) ["self"] [] := (f_BadUnread_init S).bindsN fun _ _ _ _ _ _ us hl => match us, hl with | [_], _ => rfl
theorem f_need_unread (S : Txt fa fn K mg) : FnD' K d_need_unread := S.def_ 46
theorem k_need_unread (S : Txt fa fn K mg) : PySem.W.keepIn K (.ref ((ga "need_unread") K)) = true := (f_need_unread S).kp
theorem bd_need_unread (S : Txt fa fn K mg) : Binds K (fdOf K ((ga "need_unread") K)) ["unread"] [] := (f_need_unread S).bindsN fun _ _ _ _ _ _ us hl => match us, hl with | [_], _ => rfl
theorem f_how (S : Txt fa fn K mg) : FnD' K d_how := S.def_ 47
theorem k_how (S : Txt fa fn K mg) : PySem.W.keepIn K (.ref ((ga "how") K)) = true := (f_how S).kp
theorem bd_how (S : Txt fa fn K mg) : Binds K (fdOf K ((ga "how") K)) ["unread", "one", "other"] [] := (f_how S).bindsN fun _ _ _ _ _ _ us hl => match us, hl with | [_, _, _], _ => rfl
theorem f_Full_init (S : Txt fa fn K mg) : FnD' K d_Full_init := S.def_ 48
theorem bd_Full_init (S : Txt fa fn K mg) : Binds K (fdOf K ((ma "Full" "__init__") K)) ["self"] [] := (f_Full_init S).bindsN fun _ _ _ _ _ _ us hl => match us, hl with | [_], _ => rfl
theorem f_Board_need_group (S : Txt fa fn K mg) : FnD' K d_Board_need_group := S.def_ 49
theorem bd_Board_need_group (S : Txt fa fn K mg) : Binds K (fdOf K ((ma "Board" "need_group") K)) ["self", "group"] [] := (f_Board_need_group S).bindsN fun _ _ _ _ _ _ us hl => match us, hl with | [_, _], _ => rfl
theorem f_Board_add_k14 (S : Txt fa fn K mg) : FnD' K d_Board_add_k14 := S.def_ 50
theorem bd_Board_add_k14 (S : Txt fa fn K mg) : Binds K (fdOf K ((ma "Board" "add") K)) ["self", "group"] [] := (f_Board_add_k14 S).bindsN fun _ _ _ _ _ _ us hl => match us, hl with | [_, _], _ => rfl
theorem f_InvalidText_init (S : Txt fa fn K mg) : FnD' K d_InvalidText_init := S.def_ 51
theorem bd_InvalidText_init (S : Txt fa fn K mg) : Binds K (fdOf K ((ma "InvalidText" "__init__") K)) ["self", "line", "word"] [] := (f_InvalidText_init S).bindsN fun _ _ _ _ _ _ us hl => match us, hl with | [_, _, _], _ => rfl
theorem f_number_in (S : Txt fa fn K mg) : FnD' K d_number_in := S.def_ 52
theorem k_number_in (S : Txt fa fn K mg) : PySem.W.keepIn K (.ref ((ga "number_in") K)) = true := (f_number_in S).kp
theorem bd_number_in (S : Txt fa fn K mg) : Binds K (fdOf K ((ga "number_in") K)) ["text"] [] := (f_number_in S).bindsN fun _ _ _ _ _ _ us hl => match us, hl with | [_], _ => rfl
theorem f_cell_in (S : Txt fa fn K mg) : FnD' K d_cell_in := S.def_ 53
theorem k_cell_in (S : Txt fa fn K mg) : PySem.W.keepIn K (.ref ((ga "cell_in") K)) = true := (f_cell_in S).kp
theorem bd_cell_in (S : Txt fa fn K mg) : Binds K (fdOf K ((ga "cell_in") K)) ["word"] [] := (f_cell_in S).bindsN fun _ _ _ _ _ _ us hl => match us, hl with | [_], _ => rfl
theorem f_group_in (S : Txt fa fn K mg) : FnD' K d_group_in := S.def_ 54
theorem k_group_in (S : Txt fa fn K mg) : PySem.W.keepIn K (.ref ((ga "group_in") K)) = true := (f_group_in S).kp
theorem bd_group_in (S : Txt fa fn K mg) : Binds K (fdOf K ((ga "group_in") K)) ["words", "line", "ways"] [] := (f_group_in S).bindsN fun _ _ _ _ _ _ us hl => match us, hl with | [_, _, _], _ => rfl
theorem f_read (S : Txt fa fn K mg) : FnD' K d_read := S.def_ 55
theorem k_read (S : Txt fa fn K mg) : PySem.W.keepIn K (.ref ((ga "read") K)) = true := (f_read S).kp
theorem bd_read (S : Txt fa fn K mg) : Binds K (fdOf K ((ga "read") K)) ["text"] [] := (f_read S).bindsN fun _ _ _ _ _ _ us hl => match us, hl with | [_], _ => rfl
theorem f_law_call_k20 (S : Txt fa fn K mg) : FnD' K d_law_call_k20 := S.def_ 56
theorem k_law_call_k20 (S : Txt fa fn K mg) : PySem.W.keepIn K (.ref ((ga "_law_call") K)) = true := (f_law_call_k20 S).kp
theorem bd_law_call_k20 (S : Txt fa fn K mg) : Binds K (fdOf K ((ga "_law_call") K)) ["_law_kind"] [] := (f_law_call_k20 S).bindsN fun _ _ _ _ _ _ us hl => match us, hl with | [_], _ => rfl
theorem f_law_second (S : Txt fa fn K mg) : FnD' K d_law_second := S.def_ 57
theorem k_law_second (S : Txt fa fn K mg) : PySem.W.keepIn K (.ref ((ga "_law_second") K)) = true := (f_law_second S).kp
theorem bd_law_second (S : Txt fa fn K mg) : Binds K (fdOf K ((ga "_law_second") K)) ["_law_kind"] [] := (f_law_second S).bindsN fun _ _ _ _ _ _ us hl => match us, hl with | [_], _ => rfl
theorem f_law_first (S : Txt fa fn K mg) : FnD' K d_law_first := S.def_ 58
theorem k_law_first (S : Txt fa fn K mg) : PySem.W.keepIn K (.ref ((ga "_law_first") K)) = true := (f_law_first S).kp
theorem bd_law_first (S : Txt fa fn K mg) : Binds K (fdOf K ((ga "_law_first") K)) ["_law_kind"] [] := (f_law_first S).bindsN fun _ _ _ _ _ _ us hl => match us, hl with | [_], _ => rfl
theorem f_law_taken (S : Txt fa fn K mg) : FnD' K d_law_taken := S.def_ 59
theorem k_law_taken (S : Txt fa fn K mg) : PySem.W.keepIn K (.ref ((ga "_law_taken") K)) = true := (f_law_taken S).kp
theorem bd_law_taken (S : Txt fa fn K mg) : Binds K (fdOf K ((ga "_law_taken") K)) ["_law_row", "_law_many"] [] := (f_law_taken S).bindsN fun _ _ _ _ _ _ us hl => match us, hl with | [_, _], _ => rfl
theorem f_law_k20 (S : Txt fa fn K mg) : FnD' K d_law_k20 := S.def_ 60
end
section
variable {P : Program} {w : World} {K : Fr} {mg : Str → Option Value} {base : Heap}
theorem sc_verdict_of : FnScope ["row", "one", "other", "good", "tries", "mate", "turns", "lead"] ["row", "one", "other"] (defScope s_verdict_of) := ⟨rfl, rfl, rfl, by decide +kernel, rfl, by decide +kernel, by decide +kernel⟩
theorem ok_verdict_of (S : Txt fa fn K mg) : FnOk P w K mg base (L2.CX P w) 1 ((ga "verdict_of") K) (fdOf K ((ga "verdict_of") K)) ["row", "one", "other"] (spF K mg 3 m_verdict_of) :=
  fn_pure (f_verdict_of S) sc_verdict_of rfl fun cdv A outer s H E B hr => (qs_cons (qs_asg (pp_ix ix_seq ok_ix (pv2 0) (pv2 1) (fun _ _ => rfl)) (qg_tup rfl (qgs_cons (qg_name sc_verdict_of.nd rfl (by first | exact Or.inl rfl | exact Or.inr rfl)) (qgs_cons (qg_name sc_verdict_of.nd rfl (by first | exact Or.inl rfl | exact Or.inr rfl)) qgs_nil)) rfl)) (qs_cons (qs_asg (pp_ix ix_seq ok_ix (pv2 0) (pv2 2) (fun _ _ => rfl)) (qg_tup rfl (qgs_cons (qg_name sc_verdict_of.nd rfl (by first | exact Or.inl rfl | exact Or.inr rfl)) (qgs_cons (qg_name sc_verdict_of.nd rfl (by first | exact Or.inl rfl | exact Or.inr rfl)) qgs_nil)) rfl)) (qs_cons (qs_if (PW.pt (pq_or (pq_cmp (op_eqD hr.units) ok_eq (pv2 4) pp_int (nomark _)) (pq_or1 (pq_cmp (op_eqD hr.units) ok_eq (pv2 6) pp_int (nomark _))))) (qs_one (qs_ret pp_non)) qs_nil) (qs_cons (qs_set (i := 7) sc_verdict_of.nd rfl (by first | exact Or.inl rfl | exact Or.inr rfl) (pp_op op_sub ok_sub (pp_op op_mulA ok_mul (pv2 3) (pv2 6)) (pp_op op_mulA ok_mul (pv2 5) (pv2 4)))) (qs_one (qs_ret (pp_op op_sub ok_sub (pp_callTy call_int1 ok_intc (by exact rfl) (z_int S) bt_int (pp_cons (pp_cmp op_gt ok_gt (pv2 7) pp_int (nomark _)) pp_nil)) (pp_callTy call_int1 ok_intc (by exact rfl) (z_int S) bt_int (pp_cons (pp_cmp op_lt ok_lt (pv2 7) pp_int (nomark _)) pp_nil)))))))))
theorem sc_is_from : FnScope ["value", "low", "high"] ["value", "low", "high"] (defScope s_is_from) := ⟨rfl, rfl, rfl, by decide +kernel, rfl, by decide +kernel, by decide +kernel⟩
theorem ok_is_from (S : Txt fa fn K mg) : FnOk P w K mg base (L2.CX P w) 1 ((ga "is_from") K) (fdOf K ((ga "is_from") K)) ["value", "low", "high"] (spF K mg 3 m_is_from) :=
  fn_pure (f_is_from S) sc_is_from rfl fun cdv A outer s H E B hr => (qs_one (qs_ret (pp_and (pp_isiT (is_ S) (by decide) (by exact rfl) (z_isinstance S) (by exact rfl) (z_int S) bt_int (pv2 0)) (pp_and (pp_not (pp_isiT (is_ S) (by decide) (by exact rfl) (z_isinstance S) (by exact rfl) (z_bool S) bt_bool (pv2 0))) (pp_one (pp_chain op_le op_le ok_le ok_le (pv2 1) (pv2 0) (pv2 2) (pe_chain op_le op_le (pv2 1) (pv2 0) (pv2 2))))))))
theorem sc_BadWay_init : FnScope ["self"] ["self"] (defScope s_BadWay_init) := ⟨rfl, rfl, rfl, by decide +kernel, rfl, by decide +kernel, by decide +kernel⟩
theorem ok_BadWay_init (S : Txt fa fn K mg) : FnOk P w K mg base (L2.CX P w) 1 ((ma "BadWay" "__init__") K) (fdOf K ((ma "BadWay" "__init__") K)) ["self"] (spI (ga "BadWay" K) []) :=
  ini_fn0 (f_BadWay_init S) sc_BadWay_init (exc_oex (x_BadWay S))  fun cdv A outer s H E => (pss_one (ps_expr (pe_oinit (by exact rfl) (g_AboutError S) (top_ S) (pa_cons (pv 0) (pa_cons pe_str pa_nil)))))
theorem sc_need_two : FnScope ["ways", "one", "other"] ["ways", "one", "other"] (defScope s_need_two) := ⟨rfl, rfl, rfl, by decide +kernel, rfl, by decide +kernel, by decide +kernel⟩
theorem ok_need_two (S : Txt fa fn K mg) : FnOk P w K mg base (L2.CX P w) 3 ((ga "need_two") K) (fdOf K ((ga "need_two") K)) ["ways", "one", "other"] (spF K mg 3 m_need_two) :=
  fn_pure (f_need_two S) sc_need_two rfl fun cdv A outer s H E B hr => (qs_one (qs_if (PW.pt (pq_or (pq_not (pq_truth (pp_call (FnOk.mono (ok_is_from S) (Nat.le_of_ble_eq_true rfl)) hr (by exact rfl) (g_is_from S) (k_is_from S) (bd_is_from S) (takes_of rfl rfl rfl rfl) (pp_cons (pv2 1) (pp_cons pp_int (pp_cons (pp_op op_sub ok_sub (pv2 0) pp_int) pp_nil)))) (by intro _; rfl))) (pq_or (pq_not (pq_truth (pp_call (FnOk.mono (ok_is_from S) (Nat.le_of_ble_eq_true rfl)) hr (by exact rfl) (g_is_from S) (k_is_from S) (bd_is_from S) (takes_of rfl rfl rfl rfl) (pp_cons (pv2 2) (pp_cons pp_int (pp_cons (pp_op op_sub ok_sub (pv2 0) pp_int) pp_nil)))) (by intro _; rfl))) (pq_or1 (pq_cmp (op_eqD hr.units) ok_eq (pv2 1) (pv2 2) (nomark _)))))) (qs_one (qs_raise0 rfl (takes_of rfl rfl rfl rfl) (exc_oex (x_BadWay S)) (exc_in (x_BadWay S)) (exc_ty (x_BadWay S)) (FnOk.mono (ok_BadWay_init S) (Nat.le_of_ble_eq_true rfl)) hr (bd_BadWay_init S) (by exact rfl) (g_BadWay S))) qs_nil))
theorem sc_is_cell : FnScope ["value"] ["value"] (defScope s_is_cell) := ⟨rfl, rfl, rfl, by decide +kernel, rfl, by decide +kernel, by decide +kernel⟩
theorem ok_is_cell (S : Txt fa fn K mg) : FnOk P w K mg base (L2.CX P w) 2 ((ga "is_cell") K) (fdOf K ((ga "is_cell") K)) ["value"] (spF K mg 1 m_is_cell) :=
  fn_pure (f_is_cell S) sc_is_cell rfl fun cdv A outer s H E B hr => (qs_cons (qs_if (PW.pt (pq_or (pq_not (pq_truth (pp_isiT (is_ S) (by decide) (by exact rfl) (z_isinstance S) (by exact rfl) (z_tuple S) bt_tuple (pv2 0)) (by intro _; rfl))) (pq_or (pq_cmp (op_neD hr.units) ok_ne (pp_callB call_len ok_len (by exact rfl) (z_len S) bt_len (pp_cons (pv2 0) pp_nil)) pp_int (nomark _)) (pq_or1 (pq_not (pq_truth (pp_call (FnOk.mono (ok_is_from S) (Nat.le_of_ble_eq_true rfl)) hr (by exact rfl) (g_is_from S) (k_is_from S) (bd_is_from S) (takes_of rfl rfl rfl rfl) (pp_cons (pp_ix ix_seq ok_ix (pv2 0) pp_int (fun _ _ => rfl)) (pp_cons pp_int (pp_cons (pp_gint (by exact rfl) (i_MOST S)) pp_nil)))) (by intro _; rfl))))))) (qs_one (qs_ret pp_bl)) qs_nil) (qs_one (qs_ret (pp_call (FnOk.mono (ok_is_from S) (Nat.le_of_ble_eq_true rfl)) hr (by exact rfl) (g_is_from S) (k_is_from S) (bd_is_from S) (takes_of rfl rfl rfl rfl) (pp_cons (pp_ix ix_seq ok_ix (pv2 0) pp_int (fun _ _ => rfl)) (pp_cons pp_int (pp_cons (pp_ix ix_seq ok_ix (pv2 0) pp_int (fun _ _ => rfl)) pp_nil)))))))
theorem sc_is_group : FnScope ["value", "cell"] ["value"] (defScope s_is_group) := ⟨rfl, rfl, rfl, by decide +kernel, rfl, by decide +kernel, by decide +kernel⟩
theorem ok_is_group (S : Txt fa fn K mg) : FnOk P w K mg base (L2.CX P w) 3 ((ga "is_group") K) (fdOf K ((ga "is_group") K)) ["value"] (spF K mg 1 m_is_group) :=
  fn_pure (f_is_group S) sc_is_group rfl fun cdv A outer s H E B hr => (qs_one (qs_ret (pp_and (pp_isiT (is_ S) (by decide) (by exact rfl) (z_isinstance S) (by exact rfl) (z_tuple S) bt_tuple (pv2 0)) (pp_and (pp_chain op_le op_le ok_le ok_le pp_int (pp_callB call_len ok_len (by exact rfl) (z_len S) bt_len (pp_cons (pv2 0) pp_nil)) (pp_gint (by exact rfl) (i_MOST_WAYS S)) (pe_chain op_le op_le pp_int (pp_callB call_len ok_len (by exact rfl) (z_len S) bt_len (pp_cons (pv2 0) pp_nil)) (pp_gint (by exact rfl) (i_MOST_WAYS S)))) (pp_one (pp_callB (cr_all (by exact rfl)) ok_all (by exact rfl) (z_all S) bt_all (pp_cons (pp_frz (pl_lc rfl sc_is_group.nd (qi_seq (pv2 0)) (blkB_ok (own := [("cell", 1)]) (by kernel_rfl)) (bnd_name (by decide)) bown_name (fun _ _ _ _ _ => (pg_name sc_is_group.nd rfl (by first | exact Or.inl rfl | exact Or.inr rfl))) (fun _ _ _ _ _ => qt_yes) (fun _ _ _ _ _ => (pp_call (FnOk.mono (ok_is_cell S) (Nat.le_of_ble_eq_true rfl)) hr (by exact rfl) (g_is_cell S) (k_is_cell S) (bd_is_cell S) takes_none5 (pp_cons (pv2 1) pp_nil))))) pp_nil)))))))
theorem sc_BadGroup_init : FnScope ["self"] ["self"] (defScope s_BadGroup_init) := ⟨rfl, rfl, rfl, by decide +kernel, rfl, by decide +kernel, by decide +kernel⟩
theorem ok_BadGroup_init (S : Txt fa fn K mg) : FnOk P w K mg base (L2.CX P w) 1 ((ma "BadGroup" "__init__") K) (fdOf K ((ma "BadGroup" "__init__") K)) ["self"] (spI (ga "BadGroup" K) []) :=
  ini_fn0 (f_BadGroup_init S) sc_BadGroup_init (exc_oex (x_BadGroup S))  fun cdv A outer s H E => (pss_one (ps_expr (pe_oinit (by exact rfl) (g_AboutError S) (top_ S) (pa_cons (pv 0) (pa_cons pe_str pa_nil)))))
theorem sc_verdict : FnScope ["group", "one", "other"] ["group", "one", "other"] (defScope s_verdict) := ⟨rfl, rfl, rfl, by decide +kernel, rfl, by decide +kernel, by decide +kernel⟩
theorem ok_verdict (S : Txt fa fn K mg) : FnOk P w K mg base (L2.CX P w) 4 ((ga "verdict") K) (fdOf K ((ga "verdict") K)) ["group", "one", "other"] (spF K mg 3 m_verdict) :=
  fn_pure (f_verdict S) sc_verdict rfl fun cdv A outer s H E B hr => (qs_cons (qs_if (pq_not (pq_truth (pp_call (FnOk.mono (ok_is_group S) (Nat.le_of_ble_eq_true rfl)) hr (by exact rfl) (g_is_group S) (k_is_group S) (bd_is_group S) (takes_of rfl rfl rfl rfl) (pp_cons (pv2 0) pp_nil)) (by intro _; rfl))) (qs_one (qs_raise0 rfl (takes_of rfl rfl rfl rfl) (exc_oex (x_BadGroup S)) (exc_in (x_BadGroup S)) (exc_ty (x_BadGroup S)) (FnOk.mono (ok_BadGroup_init S) (Nat.le_of_ble_eq_true rfl)) hr (bd_BadGroup_init S) (by exact rfl) (g_BadGroup S))) qs_nil) (qs_cons (qs_expr (pp_call (FnOk.mono (ok_need_two S) (Nat.le_of_ble_eq_true rfl)) hr (by exact rfl) (g_need_two S) (k_need_two S) (bd_need_two S) (takes_of rfl rfl rfl rfl) (pp_cons (pp_callB call_len ok_len (by exact rfl) (z_len S) bt_len (pp_cons (pv2 0) pp_nil)) (pp_cons (pv2 1) (pp_cons (pv2 2) pp_nil))))) (qs_one (qs_ret (pp_call (FnOk.mono (ok_verdict_of S) (Nat.le_of_ble_eq_true rfl)) hr (by exact rfl) (g_verdict_of S) (k_verdict_of S) (bd_verdict_of S) (takes_of rfl rfl rfl rfl) (pp_cons (pv2 0) (pp_cons (pv2 1) (pp_cons (pv2 2) pp_nil))))))))
theorem sc_BadGroups_init : FnScope ["self", "index"] ["self", "index"] (defScope s_BadGroups_init) := ⟨rfl, rfl, rfl, by decide +kernel, rfl, by decide +kernel, by decide +kernel⟩
theorem ok_BadGroups_init (S : Txt fa fn K mg) : FnOk P w K mg base (L2.CX P w) 1 ((ma "BadGroups" "__init__") K) (fdOf K ((ma "BadGroups" "__init__") K)) ["self", "index"] (spI (ga "BadGroups" K) ["index"]) :=
  ini_fn1 (f_BadGroups_init S) sc_BadGroups_init (exc_oex (x_BadGroups S)) (exc_no (x_BadGroups S) "index") fun cdv A outer s H E => (pss_cons (ps_expr (pe_oinit (by exact rfl) (g_AboutError S) (top_ S) (pa_cons (pv 0) (pa_cons pe_str pa_nil)))) (pss_one (ps_ost (pv 0) (pv 1))))
theorem sc_Table_init : FnScope ["self", "groups", "index", "group"] ["self", "groups"] (defScope s_Table_init) := ⟨rfl, rfl, rfl, by decide +kernel, rfl, by decide +kernel, by decide +kernel⟩
theorem ok_Table_init (S : Txt fa fn K mg) : FnOk P w K mg base (L2.CX P w) 4 ((ma "Table" "__init__") K) (fdOf K ((ma "Table" "__init__") K)) ["self", "groups"] (spF K mg 2 m_Table_init) :=
  fn_pure (f_Table_init S) sc_Table_init rfl fun cdv A outer s H E B hr => (qs_cons (qs_if (PW.pt (pq_or (pq_not (pq_truth (pp_isiT (is_ S) (by decide) (by exact rfl) (z_isinstance S) (by exact rfl) (z_tuple S) bt_tuple (pv2 1)) (by intro _; rfl))) (pq_or1 (pq_not (pq_chain ok_le ok_le (pt_chain op_le op_le pp_int (pp_callB call_len ok_len (by exact rfl) (z_len S) bt_len (pp_cons (pv2 1) pp_nil)) (pp_gint (by exact rfl) (i_MOST_GROUPS S)))))))) (qs_one (qs_raise rfl (takes_of rfl rfl rfl rfl) (exc_oex (x_BadGroups S)) (exc_in (x_BadGroups S)) (exc_ty (x_BadGroups S)) (FnOk.mono (ok_BadGroups_init S) (Nat.le_of_ble_eq_true rfl)) hr (bd_BadGroups_init S) (by exact rfl) (g_BadGroups S) (by decide) (pp_cons pp_non pp_nil))) qs_nil) (qs_cons (qs_for (passes_of rfl) rfl (qi_enum (by exact rfl) (z_enumerate S) (pp_cons (pv2 1) pp_nil)) (qg_tup rfl (qgs_cons (qg_name sc_Table_init.nd rfl (by first | exact Or.inl rfl | exact Or.inr rfl)) (qgs_cons (qg_name sc_Table_init.nd rfl (by first | exact Or.inl rfl | exact Or.inr rfl)) qgs_nil)) rfl) (qs_one (qs_if (PW.pt (pq_or (pq_not (pq_truth (pp_call (FnOk.mono (ok_is_group S) (Nat.le_of_ble_eq_true rfl)) hr (by exact rfl) (g_is_group S) (k_is_group S) (bd_is_group S) (takes_of rfl rfl rfl rfl) (pp_cons (pv2 3) pp_nil)) (by intro _; rfl))) (pq_or1 (pq_cmp (op_neD hr.units) ok_ne (pp_callB call_len ok_len (by exact rfl) (z_len S) bt_len (pp_cons (pv2 3) pp_nil)) (pp_callB call_len ok_len (by exact rfl) (z_len S) bt_len (pp_cons (pp_ix ix_seq ok_ix (pv2 1) pp_int (fun _ _ => rfl)) pp_nil)) (nomark _))))) (qs_one (qs_raise rfl (takes_of rfl rfl rfl rfl) (exc_oex (x_BadGroups S)) (exc_in (x_BadGroups S)) (exc_ty (x_BadGroups S)) (FnOk.mono (ok_BadGroups_init S) (Nat.le_of_ble_eq_true rfl)) hr (bd_BadGroups_init S) (by exact rfl) (g_BadGroups S) (by decide) (pp_cons (pv2 2) pp_nil))) qs_nil))) (qs_one (qs_fld (g_Table S) (cls_cls (x_Table S)) (cls_no (x_Table S) "rows") (pv2 0) (pv2 1)))))
theorem sc_sums_of : FnScope ["rows", "found", "way", "row"] ["rows"] (defScope s_sums_of) := ⟨rfl, rfl, rfl, by decide +kernel, rfl, by decide +kernel, by decide +kernel⟩
theorem ok_sums_of (S : Txt fa fn K mg) : FnOk P w K mg base (L2.CX P w) 1 ((ga "sums_of") K) (fdOf K ((ga "sums_of") K)) ["rows"] (spF K mg 1 m_sums_of) :=
  fn_pure (f_sums_of S) sc_sums_of rfl fun cdv A outer s H E B hr => (qs_cons (qs_own (i := 1) sc_sums_of.nd rfl (by first | exact Or.inl rfl | exact Or.inr rfl) (pl_lst pp_nil)) (qs_cons (qs_for (passes_of rfl) rfl (qi_range1 (by exact rfl) (z_range S) (pp_cons (pp_callB call_len ok_len (by exact rfl) (z_len S) bt_len (pp_cons (pp_ix ix_seq ok_ix (pv2 0) pp_int (fun _ _ => rfl)) pp_nil)) pp_nil)) (qg_name sc_sums_of.nd rfl (by first | exact Or.inl rfl | exact Or.inr rfl)) (qs_one ((ps_expr (pe_bm PySem.F.plainAttrs_list PySem.F.slot_list_append PySem.F.type_list_append mt_append (pv 1) (pa_cons (pp_tup (pp_cons (pp_callB (cr_sumA (by exact rfl)) ok_sum (by exact rfl) (z_sum S) bt_sum (pp_cons (pp_frz (pl_lc rfl sc_sums_of.nd (qi_seq (pv2 0)) (blkB_ok (own := [("row", 3)]) (by kernel_rfl)) (bnd_name (by decide)) bown_name (fun _ _ _ _ _ => (pg_name sc_sums_of.nd rfl (by first | exact Or.inl rfl | exact Or.inr rfl))) (fun _ _ _ _ _ => qt_yes) (fun _ _ _ _ _ => (pp_ix ix_seq ok_ix (pp_ix ix_seq ok_ix (pv2 3) (pv2 2) (fun _ _ => rfl)) pp_int (fun _ _ => rfl))))) pp_nil)) (pp_cons (pp_callB (cr_sumA (by exact rfl)) ok_sum (by exact rfl) (z_sum S) bt_sum (pp_cons (pp_frz (pl_lc rfl sc_sums_of.nd (qi_seq (pv2 0)) (blkB_ok (own := [("row", 3)]) (by kernel_rfl)) (bnd_name (by decide)) bown_name (fun _ _ _ _ _ => (pg_name sc_sums_of.nd rfl (by first | exact Or.inl rfl | exact Or.inr rfl))) (fun _ _ _ _ _ => qt_yes) (fun _ _ _ _ _ => (pp_ix ix_seq ok_ix (pp_ix ix_seq ok_ix (pv2 3) (pv2 2) (fun _ _ => rfl)) pp_int (fun _ _ => rfl))))) pp_nil)) pp_nil))) pa_nil))).imp append_imp))) (qs_frz 1 (qs_one (qs_ret (pp_callTy call_tuple_of ok_tuple (by exact rfl) (z_tuple S) bt_tuple (pp_cons (pv2 1) pp_nil)))))))
theorem sc_BadTable_init : FnScope ["self"] ["self"] (defScope s_BadTable_init) := ⟨rfl, rfl, rfl, by decide +kernel, rfl, by decide +kernel, by decide +kernel⟩
theorem ok_BadTable_init (S : Txt fa fn K mg) : FnOk P w K mg base (L2.CX P w) 1 ((ma "BadTable" "__init__") K) (fdOf K ((ma "BadTable" "__init__") K)) ["self"] (spI (ga "BadTable" K) []) :=
  ini_fn0 (f_BadTable_init S) sc_BadTable_init (exc_oex (x_BadTable S))  fun cdv A outer s H E => (pss_one (ps_expr (pe_oinit (by exact rfl) (g_AboutError S) (top_ S) (pa_cons (pv 0) (pa_cons pe_str pa_nil)))))
theorem sc_need_table : FnScope ["table"] ["table"] (defScope s_need_table) := ⟨rfl, rfl, rfl, by decide +kernel, rfl, by decide +kernel, by decide +kernel⟩
theorem ok_need_table (S : Txt fa fn K mg) : FnOk P w K mg base (L2.CX P w) 3 ((ga "need_table") K) (fdOf K ((ga "need_table") K)) ["table"] (spF K mg 1 m_need_table) :=
  fn_pure (f_need_table S) sc_need_table rfl fun cdv A outer s H E B hr => (qs_one (qs_if (pq_not (pq_truth (pp_isiC (is_ S) (by decide) (by exact rfl) (z_isinstance S) (by exact rfl) (g_Table S) (pv2 0)) (by intro _; rfl))) (qs_one (qs_raise0 rfl (takes_of rfl rfl rfl rfl) (exc_oex (x_BadTable S)) (exc_in (x_BadTable S)) (exc_ty (x_BadTable S)) (FnOk.mono (ok_BadTable_init S) (Nat.le_of_ble_eq_true rfl)) hr (bd_BadTable_init S) (by exact rfl) (g_BadTable S))) qs_nil))
theorem sc_totals : FnScope ["table"] ["table"] (defScope s_totals) := ⟨rfl, rfl, rfl, by decide +kernel, rfl, by decide +kernel, by decide +kernel⟩
theorem ok_totals (S : Txt fa fn K mg) : FnOk P w K mg base (L2.CX P w) 4 ((ga "totals") K) (fdOf K ((ga "totals") K)) ["table"] (spF K mg 1 m_totals) :=
  fn_pure (f_totals S) sc_totals rfl fun cdv A outer s H E B hr => (qs_cons (qs_expr (pp_call (FnOk.mono (ok_need_table S) (Nat.le_of_ble_eq_true rfl)) hr (by exact rfl) (g_need_table S) (k_need_table S) (bd_need_table S) (takes_of rfl rfl rfl rfl) (pp_cons (pv2 0) pp_nil))) (qs_one (qs_ret (pp_call (FnOk.mono (ok_sums_of S) (Nat.le_of_ble_eq_true rfl)) hr (by exact rfl) (g_sums_of S) (k_sums_of S) (bd_sums_of S) (takes_of rfl rfl rfl rfl) (pp_cons (pp_fld (g_Table S) (cls_cls (x_Table S)) (cls_no (x_Table S) "rows") (pv2 0)) pp_nil)))))
theorem sc_is_turned : FnScope ["rows", "one", "other", "row"] ["rows", "one", "other"] (defScope s_is_turned) := ⟨rfl, rfl, rfl, by decide +kernel, rfl, by decide +kernel, by decide +kernel⟩
theorem ok_is_turned (S : Txt fa fn K mg) : FnOk P w K mg base (L2.CX P w) 2 ((ga "is_turned") K) (fdOf K ((ga "is_turned") K)) ["rows", "one", "other"] (spF K mg 3 m_is_turned) :=
  fn_pure (f_is_turned S) sc_is_turned rfl fun cdv A outer s H E B hr => (qs_cons (qs_if (pq_not (pq_truth (pp_callB (cr_all (by exact rfl)) ok_all (by exact rfl) (z_all S) bt_all (pp_cons (pp_frz (pl_lc rfl sc_is_turned.nd (qi_seq (pv2 0)) (blkB_ok (own := [("row", 3)]) (by kernel_rfl)) (bnd_name (by decide)) bown_name (fun _ _ _ _ _ => (pg_name sc_is_turned.nd rfl (by first | exact Or.inl rfl | exact Or.inr rfl))) (fun _ _ _ _ _ => qt_yes) (fun _ _ _ _ _ => (pp_cmp (op_eqD hr.units) ok_eq (pp_call (FnOk.mono (ok_verdict_of S) (Nat.le_of_ble_eq_true rfl)) hr (by exact rfl) (g_verdict_of S) (k_verdict_of S) (bd_verdict_of S) takes_none5 (pp_cons (pv2 3) (pp_cons (pv2 1) (pp_cons (pv2 2) pp_nil)))) pp_int (nomark _))))) pp_nil)) (by intro _; rfl))) (qs_one (qs_ret pp_bl)) qs_nil) (qs_one (qs_ret (pp_cmp (op_eqD hr.units) ok_eq (pp_call (FnOk.mono (ok_verdict_of S) (Nat.le_of_ble_eq_true rfl)) hr (by exact rfl) (g_verdict_of S) (k_verdict_of S) (bd_verdict_of S) (takes_of rfl rfl rfl rfl) (pp_cons (pp_call (FnOk.mono (ok_sums_of S) (Nat.le_of_ble_eq_true rfl)) hr (by exact rfl) (g_sums_of S) (k_sums_of S) (bd_sums_of S) (takes_of rfl rfl rfl rfl) (pp_cons (pv2 0) pp_nil)) (pp_cons (pv2 1) (pp_cons (pv2 2) pp_nil)))) (pp_un un_neg ok_neg pp_int) (nomark _)))))
theorem sc_turned : FnScope ["table", "one", "other"] ["table", "one", "other"] (defScope s_turned) := ⟨rfl, rfl, rfl, by decide +kernel, rfl, by decide +kernel, by decide +kernel⟩
theorem ok_turned (S : Txt fa fn K mg) : FnOk P w K mg base (L2.CX P w) 4 ((ga "turned") K) (fdOf K ((ga "turned") K)) ["table", "one", "other"] (spF K mg 3 m_turned) :=
  fn_pure (f_turned S) sc_turned rfl fun cdv A outer s H E B hr => (qs_cons (qs_expr (pp_call (FnOk.mono (ok_need_table S) (Nat.le_of_ble_eq_true rfl)) hr (by exact rfl) (g_need_table S) (k_need_table S) (bd_need_table S) (takes_of rfl rfl rfl rfl) (pp_cons (pv2 0) pp_nil))) (qs_cons (qs_expr (pp_call (FnOk.mono (ok_need_two S) (Nat.le_of_ble_eq_true rfl)) hr (by exact rfl) (g_need_two S) (k_need_two S) (bd_need_two S) (takes_of rfl rfl rfl rfl) (pp_cons (pp_callB call_len ok_len (by exact rfl) (z_len S) bt_len (pp_cons (pp_ix ix_seq ok_ix (pp_fld (g_Table S) (cls_cls (x_Table S)) (cls_no (x_Table S) "rows") (pv2 0)) pp_int (fun _ _ => rfl)) pp_nil)) (pp_cons (pv2 1) (pp_cons (pv2 2) pp_nil))))) (qs_one (qs_ret (pp_call (FnOk.mono (ok_is_turned S) (Nat.le_of_ble_eq_true rfl)) hr (by exact rfl) (g_is_turned S) (k_is_turned S) (bd_is_turned S) (takes_of rfl rfl rfl rfl) (pp_cons (pp_fld (g_Table S) (cls_cls (x_Table S)) (cls_no (x_Table S) "rows") (pv2 0)) (pp_cons (pv2 1) (pp_cons (pv2 2) pp_nil))))))))
theorem sc_room_of : FnScope ["whole"] ["whole"] (defScope s_room_of) := ⟨rfl, rfl, rfl, by decide +kernel, rfl, by decide +kernel, by decide +kernel⟩
theorem ok_room_of (S : Txt fa fn K mg) : FnOk P w K mg base (L2.CX P w) 1 ((ga "room_of") K) (fdOf K ((ga "room_of") K)) ["whole"] (spF K mg 1 m_room_of) :=
  fn_pure (f_room_of S) sc_room_of rfl fun cdv A outer s H E B hr => (qs_one (qs_ret (pp_tup (pp_cons (pp_ix ix_seq ok_ix (pp_ix ix_seq ok_ix (pv2 0) pp_int (fun _ _ => rfl)) pp_int (fun _ _ => rfl)) (pp_cons (pp_op op_sub ok_sub (pp_ix ix_seq ok_ix (pp_ix ix_seq ok_ix (pv2 0) pp_int (fun _ _ => rfl)) pp_int (fun _ _ => rfl)) (pp_ix ix_seq ok_ix (pp_ix ix_seq ok_ix (pv2 0) pp_int (fun _ _ => rfl)) pp_int (fun _ _ => rfl))) pp_nil)))))
theorem sc_BadNumber_init : FnScope ["self", "n"] ["self", "n"] (defScope s_BadNumber_init) := ⟨rfl, rfl, rfl, by decide +kernel, rfl, by decide +kernel, by decide +kernel⟩
theorem ok_BadNumber_init (S : Txt fa fn K mg) : FnOk P w K mg base (L2.CX P w) 1 ((ma "BadNumber" "__init__") K) (fdOf K ((ma "BadNumber" "__init__") K)) ["self", "n"] (spI (ga "BadNumber" K) ["n"]) :=
  ini_fn1 (f_BadNumber_init S) sc_BadNumber_init (exc_oex (x_BadNumber S)) (exc_no (x_BadNumber S) "n") fun cdv A outer s H E => (pss_cons (ps_expr (pe_oinit (by exact rfl) (g_AboutError S) (top_ S) (pa_cons (pv 0) (pa_cons pe_str pa_nil)))) (pss_one (ps_ost (pv 0) (pv 1))))
theorem sc_BadWhole_init : FnScope ["self"] ["self"] (defScope s_BadWhole_init) := ⟨rfl, rfl, rfl, by decide +kernel, rfl, by decide +kernel, by decide +kernel⟩
theorem ok_BadWhole_init (S : Txt fa fn K mg) : FnOk P w K mg base (L2.CX P w) 1 ((ma "BadWhole" "__init__") K) (fdOf K ((ma "BadWhole" "__init__") K)) ["self"] (spI (ga "BadWhole" K) []) :=
  ini_fn0 (f_BadWhole_init S) sc_BadWhole_init (exc_oex (x_BadWhole S))  fun cdv A outer s H E => (pss_one (ps_expr (pe_oinit (by exact rfl) (g_AboutError S) (top_ S) (pa_cons (pv 0) (pa_cons pe_str pa_nil)))))
theorem sc_need_whole : FnScope ["whole"] ["whole"] (defScope s_need_whole) := ⟨rfl, rfl, rfl, by decide +kernel, rfl, by decide +kernel, by decide +kernel⟩
theorem ok_need_whole (S : Txt fa fn K mg) : FnOk P w K mg base (L2.CX P w) 4 ((ga "need_whole") K) (fdOf K ((ga "need_whole") K)) ["whole"] (spF K mg 1 m_need_whole) :=
  fn_pure (f_need_whole S) sc_need_whole rfl fun cdv A outer s H E B hr => (qs_one (qs_if (PW.pt (pq_or (pq_not (pq_truth (pp_call (FnOk.mono (ok_is_group S) (Nat.le_of_ble_eq_true rfl)) hr (by exact rfl) (g_is_group S) (k_is_group S) (bd_is_group S) (takes_of rfl rfl rfl rfl) (pp_cons (pv2 0) pp_nil)) (by intro _; rfl))) (pq_or1 (pq_cmp (op_neD hr.units) ok_ne (pp_callB call_len ok_len (by exact rfl) (z_len S) bt_len (pp_cons (pv2 0) pp_nil)) pp_int (nomark _))))) (qs_one (qs_raise0 rfl (takes_of rfl rfl rfl rfl) (exc_oex (x_BadWhole S)) (exc_in (x_BadWhole S)) (exc_ty (x_BadWhole S)) (FnOk.mono (ok_BadWhole_init S) (Nat.le_of_ble_eq_true rfl)) hr (bd_BadWhole_init S) (by exact rfl) (g_BadWhole S))) qs_nil))
theorem sc_need_both : FnScope ["whole", "groups"] ["whole", "groups"] (defScope s_need_both) := ⟨rfl, rfl, rfl, by decide +kernel, rfl, by decide +kernel, by decide +kernel⟩
theorem ok_need_both (S : Txt fa fn K mg) : FnOk P w K mg base (L2.CX P w) 5 ((ga "need_both") K) (fdOf K ((ga "need_both") K)) ["whole", "groups"] (spF K mg 2 m_need_both) :=
  fn_pure (f_need_both S) sc_need_both rfl fun cdv A outer s H E B hr => (qs_cons (qs_expr (pp_call (FnOk.mono (ok_need_whole S) (Nat.le_of_ble_eq_true rfl)) hr (by exact rfl) (g_need_whole S) (k_need_whole S) (bd_need_whole S) (takes_of rfl rfl rfl rfl) (pp_cons (pv2 0) pp_nil))) (qs_one (qs_if (pq_not (pq_truth (pp_call (FnOk.mono (ok_is_from S) (Nat.le_of_ble_eq_true rfl)) hr (by exact rfl) (g_is_from S) (k_is_from S) (bd_is_from S) (takes_of rfl rfl rfl rfl) (pp_cons (pv2 1) (pp_cons pp_int (pp_cons (pp_gint (by exact rfl) (i_MOST_GROUPS S)) pp_nil)))) (by intro _; rfl))) (qs_one (qs_raise rfl (takes_of rfl rfl rfl rfl) (exc_oex (x_BadNumber S)) (exc_in (x_BadNumber S)) (exc_ty (x_BadNumber S)) (FnOk.mono (ok_BadNumber_init S) (Nat.le_of_ble_eq_true rfl)) hr (bd_BadNumber_init S) (by exact rfl) (g_BadNumber S) (by decide) (pp_cons (pv2 1) pp_nil))) qs_nil)))
theorem sc_bar : FnScope ["whole", "groups", "good", "bad"] ["whole", "groups"] (defScope s_bar) := ⟨rfl, rfl, rfl, by decide +kernel, rfl, by decide +kernel, by decide +kernel⟩
theorem ok_bar (S : Txt fa fn K mg) : FnOk P w K mg base (L2.CX P w) 6 ((ga "bar") K) (fdOf K ((ga "bar") K)) ["whole", "groups"] (spF K mg 2 m_bar) :=
  fn_pure (f_bar S) sc_bar rfl fun cdv A outer s H E B hr => (qs_cons (qs_expr (pp_call (FnOk.mono (ok_need_both S) (Nat.le_of_ble_eq_true rfl)) hr (by exact rfl) (g_need_both S) (k_need_both S) (bd_need_both S) (takes_of rfl rfl rfl rfl) (pp_cons (pv2 0) (pp_cons (pv2 1) pp_nil)))) (qs_cons (qs_asg (pp_call (FnOk.mono (ok_room_of S) (Nat.le_of_ble_eq_true rfl)) hr (by exact rfl) (g_room_of S) (k_room_of S) (bd_room_of S) (takes_of rfl rfl rfl rfl) (pp_cons (pv2 0) pp_nil)) (qg_tup rfl (qgs_cons (qg_name sc_bar.nd rfl (by first | exact Or.inl rfl | exact Or.inr rfl)) (qgs_cons (qg_name sc_bar.nd rfl (by first | exact Or.inl rfl | exact Or.inr rfl)) qgs_nil)) rfl)) (qs_cons (qs_if (pq_cmp op_lt ok_lt (pv2 2) (pv2 1) (nomark _)) (qs_one (qs_ret pp_str)) qs_nil) (qs_one (qs_ret (pp_if (pq_cmp op_lt ok_lt (pv2 3) (pv2 1) (nomark _)) pp_str pp_non))))))
theorem sc_BadLedger_init : FnScope ["self"] ["self"] (defScope s_BadLedger_init) := ⟨rfl, rfl, rfl, by decide +kernel, rfl, by decide +kernel, by decide +kernel⟩
theorem ok_BadLedger_init (S : Txt fa fn K mg) : FnOk P w K mg base (L2.CX P w) 1 ((ma "BadLedger" "__init__") K) (fdOf K ((ma "BadLedger" "__init__") K)) ["self"] (spI (ga "BadLedger" K) []) :=
  ini_fn0 (f_BadLedger_init S) sc_BadLedger_init (exc_oex (x_BadLedger S))  fun cdv A outer s H E => (pss_one (ps_expr (pe_oinit (by exact rfl) (g_AboutError S) (top_ S) (pa_cons (pv 0) (pa_cons pe_str pa_nil)))))
theorem sc_need_ledger : FnScope ["ledger"] ["ledger"] (defScope s_need_ledger) := ⟨rfl, rfl, rfl, by decide +kernel, rfl, by decide +kernel, by decide +kernel⟩
theorem ok_need_ledger (S : Txt fa fn K mg) : FnOk P w K mg base (L2.CX P w) 3 ((ga "need_ledger") K) (fdOf K ((ga "need_ledger") K)) ["ledger"] (spF K mg 1 m_need_ledger) :=
  fn_pure (f_need_ledger S) sc_need_ledger rfl fun cdv A outer s H E B hr => (qs_one (qs_if (pq_not (pq_truth (pp_isiC (is_ S) (by decide) (by exact rfl) (z_isinstance S) (by exact rfl) (g_Ledger S) (pv2 0)) (by intro _; rfl))) (qs_one (qs_raise0 rfl (takes_of rfl rfl rfl rfl) (exc_oex (x_BadLedger S)) (exc_in (x_BadLedger S)) (exc_ty (x_BadLedger S)) (FnOk.mono (ok_BadLedger_init S) (Nat.le_of_ble_eq_true rfl)) hr (bd_BadLedger_init S) (by exact rfl) (g_BadLedger S))) qs_nil))
theorem sc_turning : FnScope ["ledger", "one", "other", "many", "size", "found", "marks"] ["ledger", "one", "other"] (defScope s_turning) := ⟨rfl, rfl, rfl, by decide +kernel, rfl, by decide +kernel, by decide +kernel⟩
theorem ok_turning (S : Txt fa fn K mg) : FnOk P w K mg base (L2.CX P w) 4 ((ga "turning") K) (fdOf K ((ga "turning") K)) ["ledger", "one", "other"] (spF K mg 3 m_turning) :=
  fn_pure (f_turning S) sc_turning rfl fun cdv A outer s H E B hr => (qs_cons (qs_expr (pp_call (FnOk.mono (ok_need_ledger S) (Nat.le_of_ble_eq_true rfl)) hr (by exact rfl) (g_need_ledger S) (k_need_ledger S) (bd_need_ledger S) (takes_of rfl rfl rfl rfl) (pp_cons (pv2 0) pp_nil))) (qs_cons qs_bad (qs_cons qs_bad (qs_cons qs_bad (qs_one qs_bad)))))
theorem sc_Alone_init : FnScope ["self"] ["self"] (defScope s_Alone_init) := ⟨rfl, rfl, rfl, by decide +kernel, rfl, by decide +kernel, by decide +kernel⟩
theorem ok_Alone_init (S : Txt fa fn K mg) : FnOk P w K mg base (L2.CX P w) 1 ((ma "Alone" "__init__") K) (fdOf K ((ma "Alone" "__init__") K)) ["self"] (spI (ga "Alone" K) []) :=
  ini_fn0 (f_Alone_init S) sc_Alone_init (exc_oex (x_Alone S))  fun cdv A outer s H E => (pss_one (ps_expr (pe_oinit (by exact rfl) (g_AboutError S) (top_ S) (pa_cons (pv 0) (pa_cons pe_str pa_nil)))))
theorem sc_Board_need_index : FnScope ["self", "index"] ["self", "index"] (defScope s_Board_need_index) := ⟨rfl, rfl, rfl, by decide +kernel, rfl, by decide +kernel, by decide +kernel⟩
theorem ok_Board_need_index (S : Txt fa fn K mg) : FnOk P w K mg base (L2.CX P w) 3 ((ma "Board" "need_index") K) (fdOf K ((ma "Board" "need_index") K)) ["self", "index"] (spF K mg 2 m_Board_need_index) :=
  fn_pure (f_Board_need_index S) sc_Board_need_index rfl fun cdv A outer s H E B hr => (qs_one (qs_if (pq_not (pq_truth (pp_call (FnOk.mono (ok_is_from S) (Nat.le_of_ble_eq_true rfl)) hr (by exact rfl) (g_is_from S) (k_is_from S) (bd_is_from S) (takes_of rfl rfl rfl rfl) (pp_cons (pv2 1) (pp_cons pp_int (pp_cons (pp_op op_sub ok_sub (pp_callB call_len ok_len (by exact rfl) (z_len S) bt_len (pp_cons (pp_fld (g_Table S) (cls_cls (x_Table S)) (cls_no (x_Table S) "rows") (pp_ix ix_seq ok_ix (pp_ix ix_seq ok_ix (pp_fld (g_Board S) (cls_cls (x_Board S)) (cls_no (x_Board S) "stood") (pv2 0)) (pp_un un_neg ok_neg pp_int) (fun _ _ => rfl)) pp_int (fun _ _ => rfl))) pp_nil)) pp_int) pp_nil)))) (by intro _; rfl))) (qs_one (qs_raise rfl (takes_of rfl rfl rfl rfl) (exc_oex (x_BadNumber S)) (exc_in (x_BadNumber S)) (exc_ty (x_BadNumber S)) (FnOk.mono (ok_BadNumber_init S) (Nat.le_of_ble_eq_true rfl)) hr (bd_BadNumber_init S) (by exact rfl) (g_BadNumber S) (by decide) (pp_cons (pv2 1) pp_nil))) qs_nil))
theorem sc_Board_drop_k14 : FnScope ["self", "index", "rows"] ["self", "index"] (defScope s_Board_drop_k14) := ⟨rfl, rfl, rfl, by decide +kernel, rfl, by decide +kernel, by decide +kernel⟩
theorem ok_Board_drop_k14 (S : Txt fa fn K mg) : FnOk P w K mg base (L2.CX P w) 4 ((ma "Board" "drop") K) (fdOf K ((ma "Board" "drop") K)) ["self", "index"] (spF K mg 2 m_Board_drop_k14) :=
  fn_pure (f_Board_drop_k14 S) sc_Board_drop_k14 rfl fun cdv A outer s H E B hr => (qs_cons (qs_expr (pp_meth (FnOk.mono (ok_Board_need_index S) (Nat.le_of_ble_eq_true rfl)) hr (g_Board S) (cls_cls (x_Board S)) (meth_ok (h_Board_need_index S)) (bd_Board_need_index S) (takes_of rfl rfl rfl rfl) (pv2 0) (pp_cons (pv2 1) pp_nil))) (qs_cons (qs_set (i := 2) sc_Board_drop_k14.nd rfl (by first | exact Or.inl rfl | exact Or.inr rfl) (pp_fld (g_Table S) (cls_cls (x_Table S)) (cls_no (x_Table S) "rows") (pp_ix ix_seq ok_ix (pp_ix ix_seq ok_ix (pp_fld (g_Board S) (cls_cls (x_Board S)) (cls_no (x_Board S) "stood") (pv2 0)) (pp_un un_neg ok_neg pp_int) (fun _ _ => rfl)) pp_int (fun _ _ => rfl)))) (qs_cons (qs_if (pq_cmp (op_eqD hr.units) ok_eq (pp_callB call_len ok_len (by exact rfl) (z_len S) bt_len (pp_cons (pv2 2) pp_nil)) pp_int (nomark _)) (qs_one (qs_raise0 rfl (takes_of rfl rfl rfl rfl) (exc_oex (x_Alone S)) (exc_in (x_Alone S)) (exc_ty (x_Alone S)) (FnOk.mono (ok_Alone_init S) (Nat.le_of_ble_eq_true rfl)) hr (bd_Alone_init S) (by exact rfl) (g_Alone S))) qs_nil) (qs_one qs_bad))))
theorem sc_pairs_turned : FnScope ["rows", "ways", "pairs", "one", "other"] ["rows"] (defScope s_pairs_turned) := ⟨rfl, rfl, rfl, by decide +kernel, rfl, by decide +kernel, by decide +kernel⟩
theorem ok_pairs_turned (S : Txt fa fn K mg) : FnOk P w K mg base (L2.CX P w) 3 ((ga "pairs_turned") K) (fdOf K ((ga "pairs_turned") K)) ["rows"] (spF K mg 1 m_pairs_turned) :=
  fn_pure (f_pairs_turned S) sc_pairs_turned rfl fun cdv A outer s H E B hr => (qs_cons (qs_set (i := 1) sc_pairs_turned.nd rfl (by first | exact Or.inl rfl | exact Or.inr rfl) (pp_callB call_len ok_len (by exact rfl) (z_len S) bt_len (pp_cons (pp_ix ix_seq ok_ix (pv2 0) pp_int (fun _ _ => rfl)) pp_nil))) (qs_cons (qs_setLc2 (i := 2) rfl sc_pairs_turned.nd rfl rfl (by rfl) (qi_range1 (by exact rfl) (z_range S) (pp_cons (pv2 1) pp_nil)) (blkB_ok (own := [("one", 3), ("other", 4)]) (by kernel_rfl)) (by decide) (bnd_name (by decide)) bown_name (bnd_name (by decide)) bown_name (fun _ _ _ _ _ => (pg_name sc_pairs_turned.nd rfl (by first | exact Or.inl rfl | exact Or.inr rfl))) (fun _ _ _ _ _ => qt_yes) (fun _ _ _ _ _ => (qi_range1 (by exact rfl) (z_range S) (pp_cons (pv2 1) pp_nil))) (fun _ _ _ _ _ => (pg_name sc_pairs_turned.nd rfl (by first | exact Or.inl rfl | exact Or.inr rfl))) (fun _ _ _ _ _ => (qt_one (pq_cmp (op_neD hr.units) ok_ne (pv2 3) (pv2 4) (nomark _)))) (fun _ _ _ _ _ => (pp_tup (pp_cons (pv2 3) (pp_cons (pv2 4) pp_nil))))) (qs_one (qs_ret (pp_frz (pl_lc rfl sc_pairs_turned.nd (qi_seq (pv2 2)) (blkB_ok (own := [("one", 3), ("other", 4)]) (by kernel_rfl)) (bnd_tup (n := 2) rfl (by decide)) bown_tup (fun _ _ _ _ _ => (pg_tup rfl (pgs_cons (pg_name sc_pairs_turned.nd rfl (by first | exact Or.inl rfl | exact Or.inr rfl)) (pgs_cons (pg_name sc_pairs_turned.nd rfl (by first | exact Or.inl rfl | exact Or.inr rfl)) pgs_nil)) rfl)) (fun _ _ _ _ _ => (qt_one (pq_truth (pp_call (FnOk.mono (ok_is_turned S) (Nat.le_of_ble_eq_true rfl)) hr (by exact rfl) (g_is_turned S) (k_is_turned S) (bd_is_turned S) takes_none5 (pp_cons (pv2 0) (pp_cons (pv2 3) (pp_cons (pv2 4) pp_nil)))) (by intro _; rfl)))) (fun _ _ _ _ _ => (pp_tup (pp_cons (pv2 3) (pp_cons (pv2 4) pp_nil))))))))))
theorem sc_Board_init : FnScope ["self", "table"] ["self", "table"] (defScope s_Board_init) := ⟨rfl, rfl, rfl, by decide +kernel, rfl, by decide +kernel, by decide +kernel⟩
theorem ok_Board_init (S : Txt fa fn K mg) : FnOk P w K mg base (L2.CX P w) 4 ((ma "Board" "__init__") K) (fdOf K ((ma "Board" "__init__") K)) ["self", "table"] (spF K mg 2 m_Board_init) :=
  fn_pure (f_Board_init S) sc_Board_init rfl fun cdv A outer s H E B hr => (qs_cons (qs_expr (pp_call (FnOk.mono (ok_need_table S) (Nat.le_of_ble_eq_true rfl)) hr (by exact rfl) (g_need_table S) (k_need_table S) (bd_need_table S) (takes_of rfl rfl rfl rfl) (pp_cons (pv2 1) pp_nil))) (qs_one (qs_fld (g_Board S) (cls_cls (x_Board S)) (cls_no (x_Board S) "stood") (pv2 0) (pp_lst (pp_cons (pp_tup (pp_cons (pv2 1) (pp_cons (pp_callTy call_tuple_of ok_tuple (by exact rfl) (z_tuple S) bt_tuple (pp_cons (pp_call (FnOk.mono (ok_pairs_turned S) (Nat.le_of_ble_eq_true rfl)) hr (by exact rfl) (g_pairs_turned S) (k_pairs_turned S) (bd_pairs_turned S) (takes_of rfl rfl rfl rfl) (pp_cons (pp_fld (g_Table S) (cls_cls (x_Table S)) (cls_no (x_Table S) "rows") (pv2 1)) pp_nil)) pp_nil)) pp_nil))) pp_nil)))))
theorem sc_law_early : FnScope ["_law_kind", "_law_rows", "_law_table"] ["_law_kind", "_law_rows", "_law_table"] (defScope s_law_early) := ⟨rfl, rfl, rfl, by decide +kernel, rfl, by decide +kernel, by decide +kernel⟩
theorem ok_law_early (S : Txt fa fn K mg) : FnOk P w K mg base (L2.CX P w) 7 ((ga "_law_early") K) (fdOf K ((ga "_law_early") K)) ["_law_kind", "_law_rows", "_law_table"] (spF K mg 3 m_law_early) :=
  fn_pure (f_law_early S) sc_law_early rfl fun cdv A outer s H E B hr => (qs_one (qs_if (pq_cmp (op_eqD hr.units) ok_eq (pv2 0) pp_int (nomark _)) (qs_one (qs_expr (pp_call (FnOk.mono (ok_verdict S) (Nat.le_of_ble_eq_true rfl)) hr (by exact rfl) (g_verdict S) (k_verdict S) (bd_verdict S) (takes_of rfl rfl rfl rfl) (pp_cons (pp_tup pp_nil) (pp_cons pp_int (pp_cons pp_int pp_nil)))))) (qs_one (qs_if (pq_cmp (op_eqD hr.units) ok_eq (pv2 0) pp_int (nomark _)) (qs_one (qs_expr (pp_make inik_Table (cls_mk (x_Table S)) (FnOk.mono (ok_Table_init S) (Nat.le_of_ble_eq_true rfl)) hr (by exact rfl) (g_Table S) (bd_Table_init S) (takes_of rfl rfl rfl rfl) (pp_cons (pp_tup pp_nil) pp_nil)))) (qs_one (qs_if (pq_cmp (op_eqD hr.units) ok_eq (pv2 0) pp_int (nomark _)) (qs_one (qs_expr (pp_call (FnOk.mono (ok_totals S) (Nat.le_of_ble_eq_true rfl)) hr (by exact rfl) (g_totals S) (k_totals S) (bd_totals S) (takes_of rfl rfl rfl rfl) (pp_cons (pv2 1) pp_nil)))) (qs_one (qs_if (pq_cmp (op_eqD hr.units) ok_eq (pv2 0) pp_int (nomark _)) (qs_one (qs_expr (pp_call (FnOk.mono (ok_turned S) (Nat.le_of_ble_eq_true rfl)) hr (by exact rfl) (g_turned S) (k_turned S) (bd_turned S) (takes_of rfl rfl rfl rfl) (pp_cons (pv2 2) (pp_cons pp_int (pp_cons pp_int pp_nil)))))) (qs_one (qs_if (pq_cmp (op_eqD hr.units) ok_eq (pv2 0) pp_int (nomark _)) (qs_one (qs_expr (pp_call (FnOk.mono (ok_bar S) (Nat.le_of_ble_eq_true rfl)) hr (by exact rfl) (g_bar S) (k_bar S) (bd_bar S) (takes_of rfl rfl rfl rfl) (pp_cons (pp_tup (pp_cons pp_int (pp_cons pp_int pp_nil))) (pp_cons pp_int pp_nil))))) (qs_one (qs_if (pq_cmp (op_eqD hr.units) ok_eq (pv2 0) pp_int (nomark _)) (qs_one (qs_expr (pp_call (FnOk.mono (ok_bar S) (Nat.le_of_ble_eq_true rfl)) hr (by exact rfl) (g_bar S) (k_bar S) (bd_bar S) (takes_of rfl rfl rfl rfl) (pp_cons (pp_ix ix_seq ok_ix (pv2 1) pp_int (fun _ _ => rfl)) (pp_cons pp_int pp_nil))))) (qs_one (qs_if (pq_cmp (op_eqD hr.units) ok_eq (pv2 0) pp_int (nomark _)) (qs_one (qs_expr (pp_call (FnOk.mono (ok_turning S) (Nat.le_of_ble_eq_true rfl)) hr (by exact rfl) (g_turning S) (k_turning S) (bd_turning S) (takes_of rfl rfl rfl rfl) (pp_cons (pv2 1) (pp_cons pp_int (pp_cons pp_int pp_nil)))))) (qs_one (qs_expr (pp_meth (FnOk.mono (ok_Board_drop_k14 S) (Nat.le_of_ble_eq_true rfl)) hr (g_Board S) (cls_cls (x_Board S)) (meth_ok (h_Board_drop_k14 S)) (bd_Board_drop_k14 S) (takes_of rfl rfl rfl rfl) (pp_make inik_Board (cls_mk (x_Board S)) (FnOk.mono (ok_Board_init S) (Nat.le_of_ble_eq_true rfl)) hr (by exact rfl) (g_Board S) (bd_Board_init S) (takes_of rfl rfl rfl rfl) (pp_cons (pv2 2) pp_nil)) (pp_cons pp_int pp_nil))))))))))))))))))
theorem sc_TooMany_init : FnScope ["self", "most"] ["self", "most"] (defScope s_TooMany_init) := ⟨rfl, rfl, rfl, by decide +kernel, rfl, by decide +kernel, by decide +kernel⟩
theorem ok_TooMany_init (S : Txt fa fn K mg) : FnOk P w K mg base (L2.CX P w) 1 ((ma "TooMany" "__init__") K) (fdOf K ((ma "TooMany" "__init__") K)) ["self", "most"] (spI (ga "TooMany" K) ["most"]) :=
  ini_fn1 (f_TooMany_init S) sc_TooMany_init (exc_oex (x_TooMany S)) (exc_no (x_TooMany S) "most") fun cdv A outer s H E => (pss_cons (ps_expr (pe_oinit (by exact rfl) (g_AboutError S) (top_ S) (pa_cons (pv 0) (pa_cons pe_str pa_nil)))) (pss_one (ps_ost (pv 0) (pv 1))))
theorem sc_widest : FnScope ["whole", "good", "tries", "mate", "turns", "cells", "others", "found", "a", "m", "b", "n", "rows", "least"] ["whole"] (defScope s_widest) := ⟨rfl, rfl, rfl, by decide +kernel, rfl, by decide +kernel, by decide +kernel⟩
theorem ok_widest (S : Txt fa fn K mg) : FnOk P w K mg base (L2.CX P w) 5 ((ga "widest") K) (fdOf K ((ga "widest") K)) ["whole"] (spF K mg 1 m_widest) :=
  fn_pure (f_widest S) sc_widest rfl fun cdv A outer s H E B hr => (qs_cons (qs_expr (pp_call (FnOk.mono (ok_need_whole S) (Nat.le_of_ble_eq_true rfl)) hr (by exact rfl) (g_need_whole S) (k_need_whole S) (bd_need_whole S) (takes_of rfl rfl rfl rfl) (pp_cons (pv2 0) pp_nil))) (qs_cons (qs_asg (pv2 0) (qg_tup rfl (qgs_cons (qg_tup rfl (qgs_cons (qg_name sc_widest.nd rfl (by first | exact Or.inl rfl | exact Or.inr rfl)) (qgs_cons (qg_name sc_widest.nd rfl (by first | exact Or.inl rfl | exact Or.inr rfl)) qgs_nil)) rfl) (qgs_cons (qg_tup rfl (qgs_cons (qg_name sc_widest.nd rfl (by first | exact Or.inl rfl | exact Or.inr rfl)) (qgs_cons (qg_name sc_widest.nd rfl (by first | exact Or.inl rfl | exact Or.inr rfl)) qgs_nil)) rfl) qgs_nil)) rfl)) (qs_cons (qs_if (PW.pt (pq_or (pq_cmp op_gt ok_gt (pv2 2) (pp_gint (by exact rfl) (i_MOST_TRIES_partings S)) (nomark _)) (pq_or1 (pq_cmp op_gt ok_gt (pv2 4) (pp_gint (by exact rfl) (i_MOST_TRIES_partings S)) (nomark _))))) (qs_one (qs_raise rfl (takes_of rfl rfl rfl rfl) (exc_oex (x_TooMany S)) (exc_in (x_TooMany S)) (exc_ty (x_TooMany S)) (FnOk.mono (ok_TooMany_init S) (Nat.le_of_ble_eq_true rfl)) hr (bd_TooMany_init S) (by exact rfl) (g_TooMany S) (by decide) (pp_cons (pp_gint (by exact rfl) (i_MOST_TRIES_partings S)) pp_nil))) qs_nil) (qs_cons qs_bad (qs_cons qs_bad (qs_cons qs_bad (qs_cons qs_bad (qs_one qs_bad))))))))
theorem sc_NoTries_init : FnScope ["self", "index"] ["self", "index"] (defScope s_NoTries_init) := ⟨rfl, rfl, rfl, by decide +kernel, rfl, by decide +kernel, by decide +kernel⟩
theorem ok_NoTries_init (S : Txt fa fn K mg) : FnOk P w K mg base (L2.CX P w) 1 ((ma "NoTries" "__init__") K) (fdOf K ((ma "NoTries" "__init__") K)) ["self", "index"] (spI (ga "NoTries" K) ["index"]) :=
  ini_fn1 (f_NoTries_init S) sc_NoTries_init (exc_oex (x_NoTries S)) (exc_no (x_NoTries S) "index") fun cdv A outer s H E => (pss_cons (ps_expr (pe_oinit (by exact rfl) (g_AboutError S) (top_ S) (pa_cons (pv 0) (pa_cons pe_str pa_nil)))) (pss_one (ps_ost (pv 0) (pv 1))))
theorem sc_need_tries : FnScope ["table", "index", "row", "good", "tries"] ["table"] (defScope s_need_tries) := ⟨rfl, rfl, rfl, by decide +kernel, rfl, by decide +kernel, by decide +kernel⟩
theorem ok_need_tries (S : Txt fa fn K mg) : FnOk P w K mg base (L2.CX P w) 3 ((ga "need_tries") K) (fdOf K ((ga "need_tries") K)) ["table"] (spF K mg 1 m_need_tries) :=
  fn_pure (f_need_tries S) sc_need_tries rfl fun cdv A outer s H E B hr => (qs_one (qs_for (passes_of rfl) rfl (qi_enum (by exact rfl) (z_enumerate S) (pp_cons (pp_fld (g_Table S) (cls_cls (x_Table S)) (cls_no (x_Table S) "rows") (pv2 0)) pp_nil)) (qg_tup rfl (qgs_cons (qg_name sc_need_tries.nd rfl (by first | exact Or.inl rfl | exact Or.inr rfl)) (qgs_cons (qg_name sc_need_tries.nd rfl (by first | exact Or.inl rfl | exact Or.inr rfl)) qgs_nil)) rfl) (qs_one (qs_if (pq_not (pq_truth (pp_callB (cr_all (by exact rfl)) ok_all (by exact rfl) (z_all S) bt_all (pp_cons (pp_frz (pl_lc rfl sc_need_tries.nd (qi_seq (pv2 2)) (blkB_ok (own := [("good", 3), ("tries", 4)]) (by kernel_rfl)) (bnd_tup (n := 2) rfl (by decide)) bown_tup (fun _ _ _ _ _ => (pg_tup rfl (pgs_cons (pg_name sc_need_tries.nd rfl (by first | exact Or.inl rfl | exact Or.inr rfl)) (pgs_cons (pg_name sc_need_tries.nd rfl (by first | exact Or.inl rfl | exact Or.inr rfl)) pgs_nil)) rfl)) (fun _ _ _ _ _ => qt_yes) (fun _ _ _ _ _ => (pp_cmp op_gt ok_gt (pv2 4) pp_int (nomark _))))) pp_nil)) (by intro _; rfl))) (qs_one (qs_raise rfl (takes_of rfl rfl rfl rfl) (exc_oex (x_NoTries S)) (exc_in (x_NoTries S)) (exc_ty (x_NoTries S)) (FnOk.mono (ok_NoTries_init S) (Nat.le_of_ble_eq_true rfl)) hr (bd_NoTries_init S) (by exact rfl) (g_NoTries S) (by decide) (pp_cons (pv2 1) pp_nil))) qs_nil))))
theorem sc_win : FnScope ["table", "way", "rows", "under", "weights", "mix", "lead"] ["table", "way"] (defScope s_win) := ⟨rfl, rfl, rfl, by decide +kernel, rfl, by decide +kernel, by decide +kernel⟩
theorem ok_win (S : Txt fa fn K mg) : FnOk P w K mg base (L2.CX P w) 4 ((ga "win") K) (fdOf K ((ga "win") K)) ["table", "way"] (spF K mg 2 m_win) :=
  fn_pure (f_win S) sc_win rfl fun cdv A outer s H E B hr => (qs_cons (qs_expr (pp_call (FnOk.mono (ok_need_table S) (Nat.le_of_ble_eq_true rfl)) hr (by exact rfl) (g_need_table S) (k_need_table S) (bd_need_table S) (takes_of rfl rfl rfl rfl) (pp_cons (pv2 0) pp_nil))) (qs_cons (qs_expr (pp_call (FnOk.mono (ok_need_tries S) (Nat.le_of_ble_eq_true rfl)) hr (by exact rfl) (g_need_tries S) (k_need_tries S) (bd_need_tries S) (takes_of rfl rfl rfl rfl) (pp_cons (pv2 0) pp_nil))) (qs_cons qs_bad (qs_cons qs_bad (qs_cons qs_bad (qs_one qs_bad))))))
theorem sc_BadWeights_init : FnScope ["self"] ["self"] (defScope s_BadWeights_init) := ⟨rfl, rfl, rfl, by decide +kernel, rfl, by decide +kernel, by decide +kernel⟩
theorem ok_BadWeights_init (S : Txt fa fn K mg) : FnOk P w K mg base (L2.CX P w) 1 ((ma "BadWeights" "__init__") K) (fdOf K ((ma "BadWeights" "__init__") K)) ["self"] (spI (ga "BadWeights" K) []) :=
  ini_fn0 (f_BadWeights_init S) sc_BadWeights_init (exc_oex (x_BadWeights S))  fun cdv A outer s H E => (pss_one (ps_expr (pe_oinit (by exact rfl) (g_AboutError S) (top_ S) (pa_cons (pv 0) (pa_cons pe_str pa_nil)))))
theorem sc_need_weights : FnScope ["table", "weights", "weight"] ["table", "weights"] (defScope s_need_weights) := ⟨rfl, rfl, rfl, by decide +kernel, rfl, by decide +kernel, by decide +kernel⟩
theorem ok_need_weights (S : Txt fa fn K mg) : FnOk P w K mg base (L2.CX P w) 3 ((ga "need_weights") K) (fdOf K ((ga "need_weights") K)) ["table", "weights"] (spF K mg 2 m_need_weights) :=
  fn_pure (f_need_weights S) sc_need_weights rfl fun cdv A outer s H E B hr => (qs_cons (qs_if (PW.pt (pq_or (pq_not (pq_truth (pp_isiT (is_ S) (by decide) (by exact rfl) (z_isinstance S) (by exact rfl) (z_tuple S) bt_tuple (pv2 1)) (by intro _; rfl))) (pq_or1 (pq_cmp (op_neD hr.units) ok_ne (pp_callB call_len ok_len (by exact rfl) (z_len S) bt_len (pp_cons (pv2 1) pp_nil)) (pp_callB call_len ok_len (by exact rfl) (z_len S) bt_len (pp_cons (pp_fld (g_Table S) (cls_cls (x_Table S)) (cls_no (x_Table S) "rows") (pv2 0)) pp_nil)) (nomark _))))) (qs_one (qs_raise0 rfl (takes_of rfl rfl rfl rfl) (exc_oex (x_BadWeights S)) (exc_in (x_BadWeights S)) (exc_ty (x_BadWeights S)) (FnOk.mono (ok_BadWeights_init S) (Nat.le_of_ble_eq_true rfl)) hr (bd_BadWeights_init S) (by exact rfl) (g_BadWeights S))) qs_nil) (qs_one (qs_if (PW.pt (pq_or (pq_not (pq_truth (pp_callB (cr_all (by exact rfl)) ok_all (by exact rfl) (z_all S) bt_all (pp_cons (pp_frz (pl_lc rfl sc_need_weights.nd (qi_seq (pv2 1)) (blkB_ok (own := [("weight", 2)]) (by kernel_rfl)) (bnd_name (by decide)) bown_name (fun _ _ _ _ _ => (pg_name sc_need_weights.nd rfl (by first | exact Or.inl rfl | exact Or.inr rfl))) (fun _ _ _ _ _ => qt_yes) (fun _ _ _ _ _ => (pp_call (FnOk.mono (ok_is_from S) (Nat.le_of_ble_eq_true rfl)) hr (by exact rfl) (g_is_from S) (k_is_from S) (bd_is_from S) takes_none5 (pp_cons (pv2 2) (pp_cons pp_int (pp_cons (pp_gint (by exact rfl) (i_MOST S)) pp_nil))))))) pp_nil)) (by intro _; rfl))) (pq_or1 (pq_cmp (op_eqD hr.units) ok_eq (pp_callB (cr_sumA (by exact rfl)) ok_sum (by exact rfl) (z_sum S) bt_sum (pp_cons (pv2 1) pp_nil)) pp_int (nomark _))))) (qs_one (qs_raise0 rfl (takes_of rfl rfl rfl rfl) (exc_oex (x_BadWeights S)) (exc_in (x_BadWeights S)) (exc_ty (x_BadWeights S)) (FnOk.mono (ok_BadWeights_init S) (Nat.le_of_ble_eq_true rfl)) hr (bd_BadWeights_init S) (by exact rfl) (g_BadWeights S))) qs_nil)))
theorem sc_fair : FnScope ["table", "weights", "way"] ["table", "weights", "way"] (defScope s_fair) := ⟨rfl, rfl, rfl, by decide +kernel, rfl, by decide +kernel, by decide +kernel⟩
theorem ok_fair (S : Txt fa fn K mg) : FnOk P w K mg base (L2.CX P w) 4 ((ga "fair") K) (fdOf K ((ga "fair") K)) ["table", "weights", "way"] (spF K mg 3 m_fair) :=
  fn_pure (f_fair S) sc_fair rfl fun cdv A outer s H E B hr => (qs_cons (qs_expr (pp_call (FnOk.mono (ok_need_table S) (Nat.le_of_ble_eq_true rfl)) hr (by exact rfl) (g_need_table S) (k_need_table S) (bd_need_table S) (takes_of rfl rfl rfl rfl) (pp_cons (pv2 0) pp_nil))) (qs_cons (qs_expr (pp_call (FnOk.mono (ok_need_tries S) (Nat.le_of_ble_eq_true rfl)) hr (by exact rfl) (g_need_tries S) (k_need_tries S) (bd_need_tries S) (takes_of rfl rfl rfl rfl) (pp_cons (pv2 0) pp_nil))) (qs_cons (qs_expr (pp_call (FnOk.mono (ok_need_weights S) (Nat.le_of_ble_eq_true rfl)) hr (by exact rfl) (g_need_weights S) (k_need_weights S) (bd_need_weights S) (takes_of rfl rfl rfl rfl) (pp_cons (pv2 0) (pp_cons (pv2 1) pp_nil)))) (qs_cons qs_bad (qs_one qs_bad)))))
theorem sc_is_entry : FnScope ["value", "ways", "many", "mark"] ["value", "ways", "many"] (defScope s_is_entry) := ⟨rfl, rfl, rfl, by decide +kernel, rfl, by decide +kernel, by decide +kernel⟩
theorem ok_is_entry (S : Txt fa fn K mg) : FnOk P w K mg base (L2.CX P w) 2 ((ga "is_entry") K) (fdOf K ((ga "is_entry") K)) ["value", "ways", "many"] (spF K mg 3 m_is_entry) :=
  fn_pure (f_is_entry S) sc_is_entry rfl fun cdv A outer s H E B hr => (qs_cons (qs_if (PW.pt (pq_or (pq_not (pq_truth (pp_isiT (is_ S) (by decide) (by exact rfl) (z_isinstance S) (by exact rfl) (z_tuple S) bt_tuple (pv2 0)) (by intro _; rfl))) (pq_or (pq_cmp (op_neD hr.units) ok_ne (pp_callB call_len ok_len (by exact rfl) (z_len S) bt_len (pp_cons (pv2 0) pp_nil)) pp_int (nomark _)) (pq_or1 (pq_not (pq_truth (pp_call (FnOk.mono (ok_is_from S) (Nat.le_of_ble_eq_true rfl)) hr (by exact rfl) (g_is_from S) (k_is_from S) (bd_is_from S) (takes_of rfl rfl rfl rfl) (pp_cons (pp_ix ix_seq ok_ix (pv2 0) pp_int (fun _ _ => rfl)) (pp_cons pp_int (pp_cons (pp_op op_sub ok_sub (pv2 1) pp_int) pp_nil)))) (by intro _; rfl))))))) (qs_one (qs_ret pp_bl)) qs_nil) (qs_cons (qs_if (PW.pt (pq_or (pq_not (pq_truth (pp_isiT (is_ S) (by decide) (by exact rfl) (z_isinstance S) (by exact rfl) (z_bool S) bt_bool (pp_ix ix_seq ok_ix (pv2 0) pp_int (fun _ _ => rfl))) (by intro _; rfl))) (pq_or (pq_not (pq_truth (pp_isiT (is_ S) (by decide) (by exact rfl) (z_isinstance S) (by exact rfl) (z_tuple S) bt_tuple (pp_ix ix_seq ok_ix (pv2 0) pp_int (fun _ _ => rfl))) (by intro _; rfl))) (pq_or1 (pq_not (pq_truth (pp_call (FnOk.mono (ok_is_from S) (Nat.le_of_ble_eq_true rfl)) hr (by exact rfl) (g_is_from S) (k_is_from S) (bd_is_from S) (takes_of rfl rfl rfl rfl) (pp_cons (pp_ix ix_seq ok_ix (pv2 0) pp_int (fun _ _ => rfl)) (pp_cons pp_int (pp_cons (pp_gint (by exact rfl) (i_MOST_TIMES S)) pp_nil)))) (by intro _; rfl))))))) (qs_one (qs_ret pp_bl)) qs_nil) (qs_cons (qs_if (pq_not (pq_truth (pp_callB (cr_all (by exact rfl)) ok_all (by exact rfl) (z_all S) bt_all (pp_cons (pp_frz (pl_lc rfl sc_is_entry.nd (qi_seq (pp_ix ix_seq ok_ix (pv2 0) pp_int (fun _ _ => rfl))) (blkB_ok (own := [("mark", 3)]) (by kernel_rfl)) (bnd_name (by decide)) bown_name (fun _ _ _ _ _ => (pg_name sc_is_entry.nd rfl (by first | exact Or.inl rfl | exact Or.inr rfl))) (fun _ _ _ _ _ => qt_yes) (fun _ _ _ _ _ => (pp_isiT (is_ S) (by decide) (by exact rfl) (z_isinstance S) (by exact rfl) (z_bool S) bt_bool (pv2 3))))) pp_nil)) (by intro _; rfl))) (qs_one (qs_ret pp_bl)) qs_nil) (qs_one (qs_ret (pp_if (pq_cmp (op_eqD hr.units) ok_eq (pv2 2) pp_int (nomark _)) (pp_chain op_le op_le ok_le ok_le pp_int (pp_callB call_len ok_len (by exact rfl) (z_len S) bt_len (pp_cons (pp_ix ix_seq ok_ix (pv2 0) pp_int (fun _ _ => rfl)) pp_nil)) (pp_gint (by exact rfl) (i_MOST_MARKS S)) (pe_chain op_le op_le pp_int (pp_callB call_len ok_len (by exact rfl) (z_len S) bt_len (pp_cons (pp_ix ix_seq ok_ix (pv2 0) pp_int (fun _ _ => rfl)) pp_nil)) (pp_gint (by exact rfl) (i_MOST_MARKS S)))) (pp_cmp (op_eqD hr.units) ok_eq (pp_callB call_len ok_len (by exact rfl) (z_len S) bt_len (pp_cons (pp_ix ix_seq ok_ix (pv2 0) pp_int (fun _ _ => rfl)) pp_nil)) (pv2 2) (nomark _))))))))
theorem sc_BadEntries_init : FnScope ["self", "index"] ["self", "index"] (defScope s_BadEntries_init) := ⟨rfl, rfl, rfl, by decide +kernel, rfl, by decide +kernel, by decide +kernel⟩
theorem ok_BadEntries_init (S : Txt fa fn K mg) : FnOk P w K mg base (L2.CX P w) 1 ((ma "BadEntries" "__init__") K) (fdOf K ((ma "BadEntries" "__init__") K)) ["self", "index"] (spI (ga "BadEntries" K) ["index"]) :=
  ini_fn1 (f_BadEntries_init S) sc_BadEntries_init (exc_oex (x_BadEntries S)) (exc_no (x_BadEntries S) "index") fun cdv A outer s H E => (pss_cons (ps_expr (pe_oinit (by exact rfl) (g_AboutError S) (top_ S) (pa_cons (pv 0) (pa_cons pe_str pa_nil)))) (pss_one (ps_ost (pv 0) (pv 1))))
theorem sc_Ledger_init : FnScope ["self", "entries", "ways", "index", "entry"] ["self", "entries", "ways"] (defScope s_Ledger_init) := ⟨rfl, rfl, rfl, by decide +kernel, rfl, by decide +kernel, by decide +kernel⟩
theorem ok_Ledger_init (S : Txt fa fn K mg) : FnOk P w K mg base (L2.CX P w) 3 ((ma "Ledger" "__init__") K) (fdOf K ((ma "Ledger" "__init__") K)) ["self", "entries", "ways"] (spF K mg 3 m_Ledger_init) :=
  fn_pure (f_Ledger_init S) sc_Ledger_init rfl fun cdv A outer s H E B hr => (qs_cons (qs_if (pq_not (pq_truth (pp_call (FnOk.mono (ok_is_from S) (Nat.le_of_ble_eq_true rfl)) hr (by exact rfl) (g_is_from S) (k_is_from S) (bd_is_from S) (takes_of rfl rfl rfl rfl) (pp_cons (pv2 2) (pp_cons pp_int (pp_cons (pp_gint (by exact rfl) (i_MOST_WAYS S)) pp_nil)))) (by intro _; rfl))) (qs_one (qs_raise rfl (takes_of rfl rfl rfl rfl) (exc_oex (x_BadNumber S)) (exc_in (x_BadNumber S)) (exc_ty (x_BadNumber S)) (FnOk.mono (ok_BadNumber_init S) (Nat.le_of_ble_eq_true rfl)) hr (bd_BadNumber_init S) (by exact rfl) (g_BadNumber S) (by decide) (pp_cons (pv2 2) pp_nil))) qs_nil) (qs_cons (qs_if (PW.pt (pq_or (pq_not (pq_truth (pp_isiT (is_ S) (by decide) (by exact rfl) (z_isinstance S) (by exact rfl) (z_tuple S) bt_tuple (pv2 1)) (by intro _; rfl))) (pq_or1 (pq_not (pq_chain ok_le ok_le (pt_chain op_le op_le pp_int (pp_callB call_len ok_len (by exact rfl) (z_len S) bt_len (pp_cons (pv2 1) pp_nil)) (pp_gint (by exact rfl) (i_MOST_ENTRIES S)))))))) (qs_one (qs_raise rfl (takes_of rfl rfl rfl rfl) (exc_oex (x_BadEntries S)) (exc_in (x_BadEntries S)) (exc_ty (x_BadEntries S)) (FnOk.mono (ok_BadEntries_init S) (Nat.le_of_ble_eq_true rfl)) hr (bd_BadEntries_init S) (by exact rfl) (g_BadEntries S) (by decide) (pp_cons pp_non pp_nil))) qs_nil) (qs_cons (qs_for (passes_of rfl) rfl (qi_enum (by exact rfl) (z_enumerate S) (pp_cons (pv2 1) pp_nil)) (qg_tup rfl (qgs_cons (qg_name sc_Ledger_init.nd rfl (by first | exact Or.inl rfl | exact Or.inr rfl)) (qgs_cons (qg_name sc_Ledger_init.nd rfl (by first | exact Or.inl rfl | exact Or.inr rfl)) qgs_nil)) rfl) (qs_one (qs_if (pq_not (pq_truth (pp_call (FnOk.mono (ok_is_entry S) (Nat.le_of_ble_eq_true rfl)) hr (by exact rfl) (g_is_entry S) (k_is_entry S) (bd_is_entry S) (takes_of rfl rfl rfl rfl) (pp_cons (pv2 4) (pp_cons (pv2 2) (pp_cons (pp_if (pq_cmp (op_eqD hr.units) ok_eq (pv2 3) pp_int (nomark _)) pp_int (pp_callB call_len ok_len (by exact rfl) (z_len S) bt_len (pp_cons (pp_ix ix_seq ok_ix (pp_ix ix_seq ok_ix (pv2 1) pp_int (fun _ _ => rfl)) pp_int (fun _ _ => rfl)) pp_nil))) pp_nil)))) (by intro _; rfl))) (qs_one (qs_raise rfl (takes_of rfl rfl rfl rfl) (exc_oex (x_BadEntries S)) (exc_in (x_BadEntries S)) (exc_ty (x_BadEntries S)) (FnOk.mono (ok_BadEntries_init S) (Nat.le_of_ble_eq_true rfl)) hr (bd_BadEntries_init S) (by exact rfl) (g_BadEntries S) (by decide) (pp_cons (pv2 3) pp_nil))) qs_nil))) (qs_cons (qs_fld (g_Ledger S) (cls_cls (x_Ledger S)) (cls_no (x_Ledger S) "lines") (pv2 0) (pv2 1)) (qs_one (qs_fld (g_Ledger S) (cls_cls (x_Ledger S)) (cls_no (x_Ledger S) "many") (pv2 0) (pv2 2)))))))
theorem sc_BadMarks_init : FnScope ["self"] ["self"] (defScope s_BadMarks_init) := ⟨rfl, rfl, rfl, by decide +kernel, rfl, by decide +kernel, by decide +kernel⟩
theorem ok_BadMarks_init (S : Txt fa fn K mg) : FnOk P w K mg base (L2.CX P w) 1 ((ma "BadMarks" "__init__") K) (fdOf K ((ma "BadMarks" "__init__") K)) ["self"] (spI (ga "BadMarks" K) []) :=
  ini_fn0 (f_BadMarks_init S) sc_BadMarks_init (exc_oex (x_BadMarks S))  fun cdv A outer s H E => (pss_one (ps_expr (pe_oinit (by exact rfl) (g_AboutError S) (top_ S) (pa_cons (pv 0) (pa_cons pe_str pa_nil)))))
theorem sc_need_marks : FnScope ["ledger", "marks", "mark", "at"] ["ledger", "marks"] (defScope s_need_marks) := ⟨rfl, rfl, rfl, by decide +kernel, rfl, by decide +kernel, by decide +kernel⟩
theorem ok_need_marks (S : Txt fa fn K mg) : FnOk P w K mg base (L2.CX P w) 3 ((ga "need_marks") K) (fdOf K ((ga "need_marks") K)) ["ledger", "marks"] (spF K mg 2 m_need_marks) :=
  fn_pure (f_need_marks S) sc_need_marks rfl fun cdv A outer s H E B hr => (qs_cons (qs_if (PW.pt (pq_or (pq_not (pq_truth (pp_isiT (is_ S) (by decide) (by exact rfl) (z_isinstance S) (by exact rfl) (z_tuple S) bt_tuple (pv2 1)) (by intro _; rfl))) (pq_or1 (pq_cmp op_gt ok_gt (pp_callB call_len ok_len (by exact rfl) (z_len S) bt_len (pp_cons (pv2 1) pp_nil)) (pp_gint (by exact rfl) (i_MOST_PARTED S)) (nomark _))))) (qs_one (qs_raise0 rfl (takes_of rfl rfl rfl rfl) (exc_oex (x_BadMarks S)) (exc_in (x_BadMarks S)) (exc_ty (x_BadMarks S)) (FnOk.mono (ok_BadMarks_init S) (Nat.le_of_ble_eq_true rfl)) hr (bd_BadMarks_init S) (by exact rfl) (g_BadMarks S))) qs_nil) (qs_cons (qs_if (pq_not (pq_truth (pp_callB (cr_all (by exact rfl)) ok_all (by exact rfl) (z_all S) bt_all (pp_cons (pp_frz (pl_lc rfl sc_need_marks.nd (qi_seq (pv2 1)) (blkB_ok (own := [("mark", 2)]) (by kernel_rfl)) (bnd_name (by decide)) bown_name (fun _ _ _ _ _ => (pg_name sc_need_marks.nd rfl (by first | exact Or.inl rfl | exact Or.inr rfl))) (fun _ _ _ _ _ => qt_yes) (fun _ _ _ _ _ => (pp_call (FnOk.mono (ok_is_from S) (Nat.le_of_ble_eq_true rfl)) hr (by exact rfl) (g_is_from S) (k_is_from S) (bd_is_from S) takes_none5 (pp_cons (pv2 2) (pp_cons pp_int (pp_cons (pp_op op_sub ok_sub (pp_callB call_len ok_len (by exact rfl) (z_len S) bt_len (pp_cons (pp_ix ix_seq ok_ix (pp_ix ix_seq ok_ix (pp_fld (g_Ledger S) (cls_cls (x_Ledger S)) (cls_no (x_Ledger S) "lines") (pv2 0)) pp_int (fun _ _ => rfl)) pp_int (fun _ _ => rfl)) pp_nil)) pp_int) pp_nil))))))) pp_nil)) (by intro _; rfl))) (qs_one (qs_raise0 rfl (takes_of rfl rfl rfl rfl) (exc_oex (x_BadMarks S)) (exc_in (x_BadMarks S)) (exc_ty (x_BadMarks S)) (FnOk.mono (ok_BadMarks_init S) (Nat.le_of_ble_eq_true rfl)) hr (bd_BadMarks_init S) (by exact rfl) (g_BadMarks S))) qs_nil) (qs_one (qs_if (pq_not (pq_truth (pp_callB (cr_all (by exact rfl)) ok_all (by exact rfl) (z_all S) bt_all (pp_cons (pp_frz (pl_lc rfl sc_need_marks.nd (qi_range1 (by exact rfl) (z_range S) (pp_cons (pp_op op_sub ok_sub (pp_callB call_len ok_len (by exact rfl) (z_len S) bt_len (pp_cons (pv2 1) pp_nil)) pp_int) pp_nil)) (blkB_ok (own := [("at", 3)]) (by kernel_rfl)) (bnd_name (by decide)) bown_name (fun _ _ _ _ _ => (pg_name sc_need_marks.nd rfl (by first | exact Or.inl rfl | exact Or.inr rfl))) (fun _ _ _ _ _ => qt_yes) (fun _ _ _ _ _ => (pp_cmp op_lt ok_lt (pp_ix ix_seq ok_ix (pv2 1) (pv2 3) (fun _ _ => rfl)) (pp_ix ix_seq ok_ix (pv2 1) (pp_op op_addA ok_add (pv2 3) pp_int) (fun _ _ => rfl)) (nomark _))))) pp_nil)) (by intro _; rfl))) (qs_one (qs_raise0 rfl (takes_of rfl rfl rfl rfl) (exc_oex (x_BadMarks S)) (exc_in (x_BadMarks S)) (exc_ty (x_BadMarks S)) (FnOk.mono (ok_BadMarks_init S) (Nat.le_of_ble_eq_true rfl)) hr (bd_BadMarks_init S) (by exact rfl) (g_BadMarks S))) qs_nil))))
theorem sc_by_marks : FnScope ["ledger", "marks"] ["ledger", "marks"] (defScope s_by_marks) := ⟨rfl, rfl, rfl, by decide +kernel, rfl, by decide +kernel, by decide +kernel⟩
theorem ok_by_marks (S : Txt fa fn K mg) : FnOk P w K mg base (L2.CX P w) 4 ((ga "by_marks") K) (fdOf K ((ga "by_marks") K)) ["ledger", "marks"] (spF K mg 2 m_by_marks) :=
  fn_pure (f_by_marks S) sc_by_marks rfl fun cdv A outer s H E B hr => (qs_cons (qs_expr (pp_call (FnOk.mono (ok_need_ledger S) (Nat.le_of_ble_eq_true rfl)) hr (by exact rfl) (g_need_ledger S) (k_need_ledger S) (bd_need_ledger S) (takes_of rfl rfl rfl rfl) (pp_cons (pv2 0) pp_nil))) (qs_cons (qs_expr (pp_call (FnOk.mono (ok_need_marks S) (Nat.le_of_ble_eq_true rfl)) hr (by exact rfl) (g_need_marks S) (k_need_marks S) (bd_need_marks S) (takes_of rfl rfl rfl rfl) (pp_cons (pv2 0) (pp_cons (pv2 1) pp_nil)))) (qs_one qs_bad)))
theorem sc_BadUnread_init : FnScope ["self"] ["self"] (defScope s_BadUnread_init) := ⟨rfl, rfl, rfl, by decide +kernel, rfl, by decide +kernel, by decide +kernel⟩
theorem ok_BadUnread_init (S : Txt fa fn K mg) : FnOk P w K mg base (L2.CX P w) 1 ((ma "BadUnread" "__init__") K) (fdOf K ((ma "BadUnread" "__init__") K)) ["self"] (spI (ga "BadUnread" K) []) :=
  ini_fn0 (f_BadUnread_init S) sc_BadUnread_init (exc_oex (x_BadUnread S))  fun cdv A outer s H E => (pss_one (ps_expr (pe_oinit (by exact rfl) (g_AboutError S) (top_ S) (pa_cons (pv 0) (pa_cons pe_str pa_nil)))))
theorem sc_need_unread : FnScope ["unread"] ["unread"] (defScope s_need_unread) := ⟨rfl, rfl, rfl, by decide +kernel, rfl, by decide +kernel, by decide +kernel⟩
theorem ok_need_unread (S : Txt fa fn K mg) : FnOk P w K mg base (L2.CX P w) 3 ((ga "need_unread") K) (fdOf K ((ga "need_unread") K)) ["unread"] (spF K mg 1 m_need_unread) :=
  fn_pure (f_need_unread S) sc_need_unread rfl fun cdv A outer s H E B hr => (qs_one (qs_if (pq_not (pq_truth (pp_isiC (is_ S) (by decide) (by exact rfl) (z_isinstance S) (by exact rfl) (g_Unread S) (pv2 0)) (by intro _; rfl))) (qs_one (qs_raise0 rfl (takes_of rfl rfl rfl rfl) (exc_oex (x_BadUnread S)) (exc_in (x_BadUnread S)) (exc_ty (x_BadUnread S)) (FnOk.mono (ok_BadUnread_init S) (Nat.le_of_ble_eq_true rfl)) hr (bd_BadUnread_init S) (by exact rfl) (g_BadUnread S))) qs_nil))
theorem sc_how : FnScope ["unread", "one", "other"] ["unread", "one", "other"] (defScope s_how) := ⟨rfl, rfl, rfl, by decide +kernel, rfl, by decide +kernel, by decide +kernel⟩
theorem ok_how (S : Txt fa fn K mg) : FnOk P w K mg base (L2.CX P w) 4 ((ga "how") K) (fdOf K ((ga "how") K)) ["unread", "one", "other"] (spF K mg 3 m_how) :=
  fn_pure (f_how S) sc_how rfl fun cdv A outer s H E B hr => (qs_cons (qs_expr (pp_call (FnOk.mono (ok_need_unread S) (Nat.le_of_ble_eq_true rfl)) hr (by exact rfl) (g_need_unread S) (k_need_unread S) (bd_need_unread S) (takes_of rfl rfl rfl rfl) (pp_cons (pv2 0) pp_nil))) (qs_cons qs_bad (qs_cons qs_bad (qs_one qs_bad))))
theorem sc_Full_init : FnScope ["self"] ["self"] (defScope s_Full_init) := ⟨rfl, rfl, rfl, by decide +kernel, rfl, by decide +kernel, by decide +kernel⟩
theorem ok_Full_init (S : Txt fa fn K mg) : FnOk P w K mg base (L2.CX P w) 1 ((ma "Full" "__init__") K) (fdOf K ((ma "Full" "__init__") K)) ["self"] (spI (ga "Full" K) []) :=
  ini_fn0 (f_Full_init S) sc_Full_init (exc_oex (x_Full S))  fun cdv A outer s H E => (pss_one (ps_expr (pe_oinit (by exact rfl) (g_AboutError S) (top_ S) (pa_cons (pv 0) (pa_cons pe_str pa_nil)))))
theorem sc_Board_need_group : FnScope ["self", "group"] ["self", "group"] (defScope s_Board_need_group) := ⟨rfl, rfl, rfl, by decide +kernel, rfl, by decide +kernel, by decide +kernel⟩
theorem ok_Board_need_group (S : Txt fa fn K mg) : FnOk P w K mg base (L2.CX P w) 4 ((ma "Board" "need_group") K) (fdOf K ((ma "Board" "need_group") K)) ["self", "group"] (spF K mg 2 m_Board_need_group) :=
  fn_pure (f_Board_need_group S) sc_Board_need_group rfl fun cdv A outer s H E B hr => (qs_one (qs_if (PW.pt (pq_or (pq_not (pq_truth (pp_call (FnOk.mono (ok_is_group S) (Nat.le_of_ble_eq_true rfl)) hr (by exact rfl) (g_is_group S) (k_is_group S) (bd_is_group S) (takes_of rfl rfl rfl rfl) (pp_cons (pv2 1) pp_nil)) (by intro _; rfl))) (pq_or1 (pq_cmp (op_neD hr.units) ok_ne (pp_callB call_len ok_len (by exact rfl) (z_len S) bt_len (pp_cons (pv2 1) pp_nil)) (pp_callB call_len ok_len (by exact rfl) (z_len S) bt_len (pp_cons (pp_ix ix_seq ok_ix (pp_fld (g_Table S) (cls_cls (x_Table S)) (cls_no (x_Table S) "rows") (pp_ix ix_seq ok_ix (pp_ix ix_seq ok_ix (pp_fld (g_Board S) (cls_cls (x_Board S)) (cls_no (x_Board S) "stood") (pv2 0)) (pp_un un_neg ok_neg pp_int) (fun _ _ => rfl)) pp_int (fun _ _ => rfl))) pp_int (fun _ _ => rfl)) pp_nil)) (nomark _))))) (qs_one (qs_raise0 rfl (takes_of rfl rfl rfl rfl) (exc_oex (x_BadGroup S)) (exc_in (x_BadGroup S)) (exc_ty (x_BadGroup S)) (FnOk.mono (ok_BadGroup_init S) (Nat.le_of_ble_eq_true rfl)) hr (bd_BadGroup_init S) (by exact rfl) (g_BadGroup S))) qs_nil))
theorem sc_Board_add_k14 : FnScope ["self", "group", "rows"] ["self", "group"] (defScope s_Board_add_k14) := ⟨rfl, rfl, rfl, by decide +kernel, rfl, by decide +kernel, by decide +kernel⟩
theorem ok_Board_add_k14 (S : Txt fa fn K mg) : FnOk P w K mg base (L2.CX P w) 5 ((ma "Board" "add") K) (fdOf K ((ma "Board" "add") K)) ["self", "group"] (spF K mg 2 m_Board_add_k14) :=
  fn_pure (f_Board_add_k14 S) sc_Board_add_k14 rfl fun cdv A outer s H E B hr => (qs_cons (qs_expr (pp_meth (FnOk.mono (ok_Board_need_group S) (Nat.le_of_ble_eq_true rfl)) hr (g_Board S) (cls_cls (x_Board S)) (meth_ok (h_Board_need_group S)) (bd_Board_need_group S) (takes_of rfl rfl rfl rfl) (pv2 0) (pp_cons (pv2 1) pp_nil))) (qs_cons (qs_set (i := 2) sc_Board_add_k14.nd rfl (by first | exact Or.inl rfl | exact Or.inr rfl) (pp_fld (g_Table S) (cls_cls (x_Table S)) (cls_no (x_Table S) "rows") (pp_ix ix_seq ok_ix (pp_ix ix_seq ok_ix (pp_fld (g_Board S) (cls_cls (x_Board S)) (cls_no (x_Board S) "stood") (pv2 0)) (pp_un un_neg ok_neg pp_int) (fun _ _ => rfl)) pp_int (fun _ _ => rfl)))) (qs_cons (qs_if (pq_cmp (op_eqD hr.units) ok_eq (pp_callB call_len ok_len (by exact rfl) (z_len S) bt_len (pp_cons (pv2 2) pp_nil)) (pp_gint (by exact rfl) (i_MOST_GROUPS S)) (nomark _)) (qs_one (qs_raise0 rfl (takes_of rfl rfl rfl rfl) (exc_oex (x_Full S)) (exc_in (x_Full S)) (exc_ty (x_Full S)) (FnOk.mono (ok_Full_init S) (Nat.le_of_ble_eq_true rfl)) hr (bd_Full_init S) (by exact rfl) (g_Full S))) qs_nil) (qs_one qs_bad))))
theorem sc_InvalidText_init : FnScope ["self", "line", "word"] ["self", "line", "word"] (defScope s_InvalidText_init) := ⟨rfl, rfl, rfl, by decide +kernel, rfl, by decide +kernel, by decide +kernel⟩
theorem ok_InvalidText_init (S : Txt fa fn K mg) : FnOk P w K mg base (L2.CX P w) 1 ((ma "InvalidText" "__init__") K) (fdOf K ((ma "InvalidText" "__init__") K)) ["self", "line", "word"] (spI (ga "InvalidText" K) ["line", "word"]) :=
  ini_fn2 (f_InvalidText_init S) sc_InvalidText_init (exc_oex (x_InvalidText S)) (exc_no (x_InvalidText S) "line") (exc_no (x_InvalidText S) "word") fun cdv A outer s H E => (pss_cons (ps_expr (pe_oinit (by exact rfl) (g_AboutError S) (top_ S) (pa_cons (pv 0) (pa_cons pe_str pa_nil)))) (pss_cons (ps_ost (pv 0) (pv 1)) (pss_one (ps_ost (pv 0) (pv 2)))))
theorem sc_number_in : FnScope ["text", "sign"] ["text"] (defScope s_number_in) := ⟨rfl, rfl, rfl, by decide +kernel, rfl, by decide +kernel, by decide +kernel⟩
theorem ok_number_in (S : Txt fa fn K mg) : FnOk P w K mg base (L2.CX P w) 1 ((ga "number_in") K) (fdOf K ((ga "number_in") K)) ["text"] (spF K mg 1 m_number_in) :=
  fn_pure (f_number_in S) sc_number_in rfl fun cdv A outer s H E B hr => (qs_cons (qs_if (PW.pt (pq_or (pq_not (pq_chain ok_le ok_le (pt_chain op_le op_le pp_int (pp_callB call_len ok_len (by exact rfl) (z_len S) bt_len (pp_cons (pv2 0) pp_nil)) (pp_gint (by exact rfl) (i_MOST_FIGURES S))))) (pq_or1 (pq_not (pq_truth (pp_callB (cr_all (by exact rfl)) ok_all (by exact rfl) (z_all S) bt_all (pp_cons (pp_frz (pl_lc rfl sc_number_in.nd (qi_str (pv2 0)) (blkB_ok (own := [("sign", 1)]) (by kernel_rfl)) (bnd_name (by decide)) bown_name (fun _ _ _ _ _ => (pg_name sc_number_in.nd rfl (by first | exact Or.inl rfl | exact Or.inr rfl))) (fun _ _ _ _ _ => qt_yes) (fun _ _ _ _ _ => (pp_cmp (op_inA (hu65 hr)) ok_in (pv2 1) pp_str rfl)))) pp_nil)) (by intro _; rfl)))))) (qs_one (qs_ret (pp_un un_neg ok_neg pp_int))) qs_nil) (qs_cons (qs_if (PW.pt (pq_or (PW.pt (pq_and (pq_cmp (op_eqD hr.units) ok_eq (pp_ix ix_seq ok_ix (pv2 0) pp_int (fun _ _ => rfl)) pp_str (nomark _)) (pq_and1 (pq_cmp (op_neD hr.units) ok_ne (pv2 0) pp_str (nomark _))))) (pq_or1 (pq_cmp op_gt ok_gt (pp_callTy call_intA ok_intA (by exact rfl) (z_int S) bt_int (pp_cons (pv2 0) pp_nil)) (pp_gint (by exact rfl) (i_MOST S)) (nomark _))))) (qs_one (qs_ret (pp_un un_neg ok_neg pp_int))) qs_nil) (qs_one (qs_ret (pp_callTy call_intA ok_intA (by exact rfl) (z_int S) bt_int (pp_cons (pv2 0) pp_nil))))))
theorem sc_cell_in : FnScope ["word", "parts", "good", "tries"] ["word"] (defScope s_cell_in) := ⟨rfl, rfl, rfl, by decide +kernel, rfl, by decide +kernel, by decide +kernel⟩
theorem ok_cell_in (S : Txt fa fn K mg) : FnOk P w K mg base (L2.CX P w) 2 ((ga "cell_in") K) (fdOf K ((ga "cell_in") K)) ["word"] (spF K mg 1 m_cell_in) :=
  fn_pure (f_cell_in S) sc_cell_in rfl fun cdv A outer s H E B hr => (qs_cons (qs_set (i := 1) sc_cell_in.nd rfl (by first | exact Or.inl rfl | exact Or.inr rfl) (pp_m1 PySem.F.slot_str_split PySem.F.type_str_split mt_split sm_split (pv2 0) pp_str)) (qs_cons (qs_if (pq_cmp (op_neD hr.units) ok_ne (pp_callB call_len ok_len (by exact rfl) (z_len S) bt_len (pp_cons (pv2 1) pp_nil)) pp_int (nomark _)) (qs_one (qs_ret pp_non)) qs_nil) (qs_cons (qs_par (i := 2) (j := 3) rfl sc_cell_in.nd rfl rfl (by decide) rfl rfl (pp_call (FnOk.mono (ok_number_in S) (Nat.le_of_ble_eq_true rfl)) hr (by exact rfl) (g_number_in S) (k_number_in S) (bd_number_in S) (takes_of rfl rfl rfl rfl) (pp_cons (pp_ix ix_seq ok_ix (pv2 1) pp_int (fun _ _ => rfl)) pp_nil)) (pp_call (FnOk.mono (ok_number_in S) (Nat.le_of_ble_eq_true rfl)) hr (by exact rfl) (g_number_in S) (k_number_in S) (bd_number_in S) (takes_of rfl rfl rfl rfl) (pp_cons (pp_ix ix_seq ok_ix (pv2 1) pp_int (fun _ _ => rfl)) pp_nil)) (by rfl)) (qs_one (qs_ret (pp_if (pq_chain ok_le ok_le (pt_chain op_le op_le pp_int (pv2 2) (pv2 3))) (pp_tup (pp_cons (pv2 2) (pp_cons (pv2 3) pp_nil))) pp_non))))))
theorem sc_group_in : FnScope ["words", "line", "ways", "found", "at", "word", "cell"] ["words", "line", "ways"] (defScope s_group_in) := ⟨rfl, rfl, rfl, by decide +kernel, rfl, by decide +kernel, by decide +kernel⟩
theorem ok_group_in (S : Txt fa fn K mg) : FnOk P w K mg base (L2.CX P w) 3 ((ga "group_in") K) (fdOf K ((ga "group_in") K)) ["words", "line", "ways"] (spF K mg 3 m_group_in) :=
  fn_pure (f_group_in S) sc_group_in rfl fun cdv A outer s H E B hr => (qs_cons (qs_own (i := 3) sc_group_in.nd rfl (by first | exact Or.inl rfl | exact Or.inr rfl) (pl_lst pp_nil)) (qs_cons (qs_for (passes_of rfl) rfl (qi_enum (by exact rfl) (z_enumerate S) (pp_cons (pv2 0) pp_nil)) (qg_tup rfl (qgs_cons (qg_name sc_group_in.nd rfl (by first | exact Or.inl rfl | exact Or.inr rfl)) (qgs_cons (qg_name sc_group_in.nd rfl (by first | exact Or.inl rfl | exact Or.inr rfl)) qgs_nil)) rfl) (qs_cons (qs_set (i := 6) sc_group_in.nd rfl (by first | exact Or.inl rfl | exact Or.inr rfl) (pp_call (FnOk.mono (ok_cell_in S) (Nat.le_of_ble_eq_true rfl)) hr (by exact rfl) (g_cell_in S) (k_cell_in S) (bd_cell_in S) (takes_of rfl rfl rfl rfl) (pp_cons (pv2 5) pp_nil))) (qs_cons (qs_if (PW.pt (pq_or (pq_cmp op_isN ok_isN (pv2 6) pp_non (nomark _)) (pq_or1 (pq_cmp (op_eqD hr.units) ok_eq (pp_lenO (by exact rfl) (z_len S) bt_len (pv 3)) (pp_if (pq_cmp op_gt ok_gt (pv2 2) pp_int (nomark _)) (pv2 2) (pp_gint (by exact rfl) (i_MOST_WAYS S))) (nomark _))))) (qs_one (qs_raise rfl (takes_of rfl rfl rfl rfl) (exc_oex (x_InvalidText S)) (exc_in (x_InvalidText S)) (exc_ty (x_InvalidText S)) (FnOk.mono (ok_InvalidText_init S) (Nat.le_of_ble_eq_true rfl)) hr (bd_InvalidText_init S) (by exact rfl) (g_InvalidText S) (by decide) (pp_cons (pv2 1) (pp_cons (pp_op op_addA ok_add (pv2 4) pp_int) pp_nil)))) qs_nil) (qs_one ((ps_expr (pe_bm PySem.F.plainAttrs_list PySem.F.slot_list_append PySem.F.type_list_append mt_append (pv 3) (pa_cons (pv2 6) pa_nil))).imp append_imp))))) (qs_cons (qs_if (pq_cmp op_lt ok_lt (pp_lenO (by exact rfl) (z_len S) bt_len (pv 3)) (pp_callB (call_max2 (by exact rfl)) ok_max2 (by exact rfl) (z_max S) bt_max (pp_cons pp_int (pp_cons (pv2 2) pp_nil))) (nomark _)) (qs_one (qs_raise rfl (takes_of rfl rfl rfl rfl) (exc_oex (x_InvalidText S)) (exc_in (x_InvalidText S)) (exc_ty (x_InvalidText S)) (FnOk.mono (ok_InvalidText_init S) (Nat.le_of_ble_eq_true rfl)) hr (bd_InvalidText_init S) (by exact rfl) (g_InvalidText S) (by decide) (pp_cons (pv2 1) (pp_cons (pp_op op_addA ok_add (pp_lenO (by exact rfl) (z_len S) bt_len (pv 3)) pp_int) pp_nil)))) qs_nil) (qs_frz 3 (qs_one (qs_ret (pp_callTy call_tuple_of ok_tuple (by exact rfl) (z_tuple S) bt_tuple (pp_cons (pv2 3) pp_nil))))))))
theorem sc_read : FnScope ["text", "found", "at", "line", "words", "word"] ["text"] (defScope s_read) := ⟨rfl, rfl, rfl, by decide +kernel, rfl, by decide +kernel, by decide +kernel⟩
theorem ok_read (S : Txt fa fn K mg) : FnOk P w K mg base (L2.CX P w) 6 ((ga "read") K) (fdOf K ((ga "read") K)) ["text"] (spF K mg 1 m_read) :=
  fn_pure (f_read S) sc_read rfl fun cdv A outer s H E B hr => (qs_cons (qs_own (i := 1) sc_read.nd rfl (by first | exact Or.inl rfl | exact Or.inr rfl) (pl_lst pp_nil)) (qs_cons (qs_for (passes_of rfl) rfl (qi_enum (by exact rfl) (z_enumerate S) (pp_cons (pp_m1 PySem.F.slot_str_split PySem.F.type_str_split mt_split sm_split (pv2 0) pp_str) pp_nil)) (qg_tup rfl (qgs_cons (qg_name sc_read.nd rfl (by first | exact Or.inl rfl | exact Or.inr rfl)) (qgs_cons (qg_name sc_read.nd rfl (by first | exact Or.inl rfl | exact Or.inr rfl)) qgs_nil)) rfl) (qs_cons (qs_setLc (i := 4) rfl sc_read.nd rfl rfl (by rfl) (qi_seq (pp_m1 PySem.F.slot_str_split PySem.F.type_str_split mt_split sm_split (pv2 3) pp_str)) (blkB_ok (own := [("word", 5)]) (by kernel_rfl)) (bnd_name (by decide)) bown_name (fun _ _ _ _ _ => (pg_name sc_read.nd rfl (by first | exact Or.inl rfl | exact Or.inr rfl))) (fun _ _ _ _ _ => (qt_one (pq_cmp (op_neD hr.units) ok_ne (pv2 5) pp_str (nomark _)))) (fun _ _ _ _ _ => (pv2 5))) (qs_cons (qs_if (pq_cmp (op_eqD hr.units) ok_eq (pv2 2) (pp_gint (by exact rfl) (i_MOST_GROUPS S)) (nomark _)) (qs_one (qs_raise rfl (takes_of rfl rfl rfl rfl) (exc_oex (x_InvalidText S)) (exc_in (x_InvalidText S)) (exc_ty (x_InvalidText S)) (FnOk.mono (ok_InvalidText_init S) (Nat.le_of_ble_eq_true rfl)) hr (bd_InvalidText_init S) (by exact rfl) (g_InvalidText S) (by decide) (pp_cons (pp_op op_addA ok_add (pv2 2) pp_int) (pp_cons pp_int pp_nil)))) qs_nil) (qs_one ((ps_expr (pe_bm PySem.F.plainAttrs_list PySem.F.slot_list_append PySem.F.type_list_append mt_append (pv 1) (pa_cons (pp_call (FnOk.mono (ok_group_in S) (Nat.le_of_ble_eq_true rfl)) hr (by exact rfl) (g_group_in S) (k_group_in S) (bd_group_in S) (takes_of rfl rfl rfl rfl) (pp_cons (pv2 4) (pp_cons (pp_op op_addA ok_add (pv2 2) pp_int) (pp_cons (pp_if (pq_neO hr.units (pv 1) (pp_lst pp_nil) (nomark _)) (pp_callB call_len ok_len (by exact rfl) (z_len S) bt_len (pp_cons (pp_ixO (pv 1) pp_int (fun _ _ => rfl)) pp_nil)) pp_int) pp_nil)))) pa_nil))).imp append_imp))))) (qs_frz 1 (qs_one (qs_ret (pp_make inik_Table (cls_mk (x_Table S)) (FnOk.mono (ok_Table_init S) (Nat.le_of_ble_eq_true rfl)) hr (by exact rfl) (g_Table S) (bd_Table_init S) (takes_of rfl rfl rfl rfl) (pp_cons (pp_callTy call_tuple_of ok_tuple (by exact rfl) (z_tuple S) bt_tuple (pp_cons (pv2 1) pp_nil)) pp_nil)))))))
theorem sc_law_call_k20 : FnScope ["_law_kind", "_law_rows", "_law_table"] ["_law_kind"] (defScope s_law_call_k20) := ⟨rfl, rfl, rfl, by decide +kernel, rfl, by decide +kernel, by decide +kernel⟩
theorem ok_law_call_k20 (S : Txt fa fn K mg) : FnOk P w K mg base (L2.CX P w) 8 ((ga "_law_call") K) (fdOf K ((ga "_law_call") K)) ["_law_kind"] (spF K mg 1 m_law_call_k20) :=
  fn_pure (f_law_call_k20 S) sc_law_call_k20 rfl fun cdv A outer s H E B hr => (qs_cons (qs_set (i := 1) sc_law_call_k20.nd rfl (by first | exact Or.inl rfl | exact Or.inr rfl) (pp_tup (pp_cons (pp_tup (pp_cons (pp_tup (pp_cons pp_int (pp_cons pp_int pp_nil))) (pp_cons (pp_tup (pp_cons pp_int (pp_cons pp_int pp_nil))) pp_nil))) pp_nil))) (qs_cons (qs_set (i := 2) sc_law_call_k20.nd rfl (by first | exact Or.inl rfl | exact Or.inr rfl) (pp_make inik_Table (cls_mk (x_Table S)) (FnOk.mono (ok_Table_init S) (Nat.le_of_ble_eq_true rfl)) hr (by exact rfl) (g_Table S) (bd_Table_init S) (takes_of rfl rfl rfl rfl) (pp_cons (pv2 1) pp_nil))) (qs_one (qs_if (pq_cmp op_lt ok_lt (pv2 0) pp_int (nomark _)) (qs_one (qs_expr (pp_call (FnOk.mono (ok_law_early S) (Nat.le_of_ble_eq_true rfl)) hr (by exact rfl) (g__law_early S) (k_law_early S) (bd_law_early S) (takes_of rfl rfl rfl rfl) (pp_cons (pv2 0) (pp_cons (pv2 1) (pp_cons (pv2 2) pp_nil)))))) (qs_one (qs_if (pq_cmp (op_eqD hr.units) ok_eq (pv2 0) pp_int (nomark _)) (qs_one (qs_expr (pp_call (FnOk.mono (ok_widest S) (Nat.le_of_ble_eq_true rfl)) hr (by exact rfl) (g_widest S) (k_widest S) (bd_widest S) (takes_of rfl rfl rfl rfl) (pp_cons (pp_tup (pp_cons (pp_tup (pp_cons pp_int (pp_cons pp_int pp_nil))) (pp_cons (pp_tup (pp_cons pp_int (pp_cons pp_int pp_nil))) pp_nil))) pp_nil)))) (qs_one (qs_if (pq_cmp (op_eqD hr.units) ok_eq (pv2 0) pp_int (nomark _)) (qs_one (qs_expr (pp_call (FnOk.mono (ok_win S) (Nat.le_of_ble_eq_true rfl)) hr (by exact rfl) (g_win S) (k_win S) (bd_win S) (takes_of rfl rfl rfl rfl) (pp_cons (pp_make inik_Table (cls_mk (x_Table S)) (FnOk.mono (ok_Table_init S) (Nat.le_of_ble_eq_true rfl)) hr (by exact rfl) (g_Table S) (bd_Table_init S) (takes_of rfl rfl rfl rfl) (pp_cons (pp_tup (pp_cons (pp_tup (pp_cons (pp_tup (pp_cons pp_int (pp_cons pp_int pp_nil))) (pp_cons (pp_tup (pp_cons pp_int (pp_cons pp_int pp_nil))) pp_nil))) pp_nil)) pp_nil)) (pp_cons pp_int pp_nil))))) (qs_one (qs_if (pq_cmp (op_eqD hr.units) ok_eq (pv2 0) pp_int (nomark _)) (qs_one (qs_expr (pp_call (FnOk.mono (ok_fair S) (Nat.le_of_ble_eq_true rfl)) hr (by exact rfl) (g_fair S) (k_fair S) (bd_fair S) (takes_of rfl rfl rfl rfl) (pp_cons (pv2 2) (pp_cons (pp_tup (pp_cons pp_int pp_nil)) (pp_cons pp_int pp_nil)))))) (qs_one (qs_if (pq_cmp (op_eqD hr.units) ok_eq (pv2 0) pp_int (nomark _)) (qs_one (qs_expr (pp_make inik_Ledger (cls_mk (x_Ledger S)) (FnOk.mono (ok_Ledger_init S) (Nat.le_of_ble_eq_true rfl)) hr (by exact rfl) (g_Ledger S) (bd_Ledger_init S) (takes_of rfl rfl rfl rfl) (pp_cons (pp_tup pp_nil) (pp_cons pp_int pp_nil))))) (qs_one (qs_if (pq_cmp (op_eqD hr.units) ok_eq (pv2 0) pp_int (nomark _)) (qs_one (qs_expr (pp_call (FnOk.mono (ok_by_marks S) (Nat.le_of_ble_eq_true rfl)) hr (by exact rfl) (g_by_marks S) (k_by_marks S) (bd_by_marks S) (takes_of rfl rfl rfl rfl) (pp_cons (pp_make inik_Ledger (cls_mk (x_Ledger S)) (FnOk.mono (ok_Ledger_init S) (Nat.le_of_ble_eq_true rfl)) hr (by exact rfl) (g_Ledger S) (bd_Ledger_init S) (takes_of rfl rfl rfl rfl) (pp_cons (pp_tup (pp_cons (pp_tup (pp_cons pp_int (pp_cons pp_bl (pp_cons (pp_tup (pp_cons pp_bl pp_nil)) (pp_cons pp_int pp_nil))))) pp_nil)) (pp_cons pp_int pp_nil))) (pp_cons (pp_tup (pp_cons pp_int pp_nil)) pp_nil))))) (qs_one (qs_if (pq_cmp (op_eqD hr.units) ok_eq (pv2 0) pp_int (nomark _)) (qs_one (qs_expr (pp_call (FnOk.mono (ok_how S) (Nat.le_of_ble_eq_true rfl)) hr (by exact rfl) (g_how S) (k_how S) (bd_how S) (takes_of rfl rfl rfl rfl) (pp_cons (pv2 2) (pp_cons pp_int (pp_cons pp_int pp_nil)))))) (qs_one (qs_if (pq_cmp (op_eqD hr.units) ok_eq (pv2 0) pp_int (nomark _)) (qs_one (qs_expr (pp_meth (FnOk.mono (ok_Board_add_k14 S) (Nat.le_of_ble_eq_true rfl)) hr (g_Board S) (cls_cls (x_Board S)) (meth_ok (h_Board_add_k14 S)) (bd_Board_add_k14 S) (takes_of rfl rfl rfl rfl) (pp_make inik_Board (cls_mk (x_Board S)) (FnOk.mono (ok_Board_init S) (Nat.le_of_ble_eq_true rfl)) hr (by exact rfl) (g_Board S) (bd_Board_init S) (takes_of rfl rfl rfl rfl) (pp_cons (pp_make inik_Table (cls_mk (x_Table S)) (FnOk.mono (ok_Table_init S) (Nat.le_of_ble_eq_true rfl)) hr (by exact rfl) (g_Table S) (bd_Table_init S) (takes_of rfl rfl rfl rfl) (pp_cons (pp_op op_mulA ok_mul (pv2 1) pp_int) pp_nil)) pp_nil)) (pp_cons (pp_ix ix_seq ok_ix (pv2 1) pp_int (fun _ _ => rfl)) pp_nil)))) (qs_one (qs_expr (pp_call (FnOk.mono (ok_read S) (Nat.le_of_ble_eq_true rfl)) hr (by exact rfl) (g_read S) (k_read S) (bd_read S) (takes_of rfl rfl rfl rfl) (pp_cons pp_str pp_nil))))))))))))))))))))))
theorem sc_law_second : FnScope ["_law_kind", "_law_raised"] ["_law_kind"] (defScope s_law_second) := ⟨rfl, rfl, rfl, by decide +kernel, rfl, by decide +kernel, by decide +kernel⟩
theorem ok_law_second (S : Txt fa fn K mg) : FnOk P w K mg base (L2.CX P w) 9 ((ga "_law_second") K) (fdOf K ((ga "_law_second") K)) ["_law_kind"] (spF K mg 1 m_law_second) :=
  fn_pure (f_law_second S) sc_law_second rfl fun cdv A outer s H E B hr => (qs_cons (qs_set (i := 1) sc_law_second.nd rfl (by first | exact Or.inl rfl | exact Or.inr rfl) (pp_lst pp_nil)) (qs_cons (qs_try rfl rfl sc_law_second.nd (takes_of rfl rfl rfl rfl) (fun _ _ _ tk hp => (qs_one (qs_expr (pp_call (FnOk.mono (ok_law_call_k20 S) (Nat.le_of_ble_eq_true rfl)) hr (by exact rfl) (g__law_call S) (k_law_call_k20 S) (bd_law_call_k20 S) tk (pp_cons (pv2 0) pp_nil))))) (.plain (by exact rfl) (g_TooMany S) (m_TooMany S) (fun _ _ _ _ _ _ _ => qsu_plain (qs_one (qs_set (i := 1) sc_law_second.nd rfl (by first | exact Or.inl rfl | exact Or.inr rfl) pp_int))) (.plain (by exact rfl) (g_NoTries S) (m_NoTries S) (fun _ _ _ _ _ _ _ => qsu_plain (qs_one (qs_set (i := 1) sc_law_second.nd rfl (by first | exact Or.inl rfl | exact Or.inr rfl) pp_int))) (.plain (by exact rfl) (g_BadWeights S) (m_BadWeights S) (fun _ _ _ _ _ _ _ => qsu_plain (qs_one (qs_set (i := 1) sc_law_second.nd rfl (by first | exact Or.inl rfl | exact Or.inr rfl) pp_int))) (.plain (by exact rfl) (g_BadEntries S) (m_BadEntries S) (fun _ _ _ _ _ _ _ => qsu_plain (qs_one (qs_set (i := 1) sc_law_second.nd rfl (by first | exact Or.inl rfl | exact Or.inr rfl) pp_int))) (.plain (by exact rfl) (g_BadMarks S) (m_BadMarks S) (fun _ _ _ _ _ _ _ => qsu_plain (qs_one (qs_set (i := 1) sc_law_second.nd rfl (by first | exact Or.inl rfl | exact Or.inr rfl) pp_int))) (.plain (by exact rfl) (g_BadUnread S) (m_BadUnread S) (fun _ _ _ _ _ _ _ => qsu_plain (qs_one (qs_set (i := 1) sc_law_second.nd rfl (by first | exact Or.inl rfl | exact Or.inr rfl) pp_int))) (.plain (by exact rfl) (g_Full S) (m_Full S) (fun _ _ _ _ _ _ _ => qsu_plain (qs_one (qs_set (i := 1) sc_law_second.nd rfl (by first | exact Or.inl rfl | exact Or.inr rfl) pp_int))) (.plain (by exact rfl) (g_InvalidText S) (m_InvalidText S) (fun _ _ _ _ _ _ _ => qsu_plain (qs_one (qs_set (i := 1) sc_law_second.nd rfl (by first | exact Or.inl rfl | exact Or.inr rfl) pp_int))) (.plain (by exact rfl) (g_AboutError S) (m_AboutError S) (fun _ _ _ _ _ _ _ => qsu_plain (qs_one (qs_set (i := 1) sc_law_second.nd rfl (by first | exact Or.inl rfl | exact Or.inr rfl) pp_int))) .nil)))))))))) (qs_one (qs_ret (pv2 1)))))
theorem sc_law_first : FnScope ["_law_kind", "_law_raised"] ["_law_kind"] (defScope s_law_first) := ⟨rfl, rfl, rfl, by decide +kernel, rfl, by decide +kernel, by decide +kernel⟩
theorem ok_law_first (S : Txt fa fn K mg) : FnOk P w K mg base (L2.CX P w) 9 ((ga "_law_first") K) (fdOf K ((ga "_law_first") K)) ["_law_kind"] (spF K mg 1 m_law_first) :=
  fn_pure (f_law_first S) sc_law_first rfl fun cdv A outer s H E B hr => (qs_cons (qs_set (i := 1) sc_law_first.nd rfl (by first | exact Or.inl rfl | exact Or.inr rfl) (pp_lst pp_nil)) (qs_cons (qs_try rfl rfl sc_law_first.nd (takes_of rfl rfl rfl rfl) (fun _ _ _ tk hp => (qs_one (qs_expr (pp_call (FnOk.mono (ok_law_call_k20 S) (Nat.le_of_ble_eq_true rfl)) hr (by exact rfl) (g__law_call S) (k_law_call_k20 S) (bd_law_call_k20 S) tk (pp_cons (pv2 0) pp_nil))))) (.plain (by exact rfl) (g_BadGroup S) (m_BadGroup S) (fun _ _ _ _ _ _ _ => qsu_plain (qs_one (qs_set (i := 1) sc_law_first.nd rfl (by first | exact Or.inl rfl | exact Or.inr rfl) pp_int))) (.plain (by exact rfl) (g_BadGroups S) (m_BadGroups S) (fun _ _ _ _ _ _ _ => qsu_plain (qs_one (qs_set (i := 1) sc_law_first.nd rfl (by first | exact Or.inl rfl | exact Or.inr rfl) pp_int))) (.plain (by exact rfl) (g_BadTable S) (m_BadTable S) (fun _ _ _ _ _ _ _ => qsu_plain (qs_one (qs_set (i := 1) sc_law_first.nd rfl (by first | exact Or.inl rfl | exact Or.inr rfl) pp_int))) (.plain (by exact rfl) (g_BadWay S) (m_BadWay S) (fun _ _ _ _ _ _ _ => qsu_plain (qs_one (qs_set (i := 1) sc_law_first.nd rfl (by first | exact Or.inl rfl | exact Or.inr rfl) pp_int))) (.plain (by exact rfl) (g_BadWhole S) (m_BadWhole S) (fun _ _ _ _ _ _ _ => qsu_plain (qs_one (qs_set (i := 1) sc_law_first.nd rfl (by first | exact Or.inl rfl | exact Or.inr rfl) pp_int))) (.plain (by exact rfl) (g_BadNumber S) (m_BadNumber S) (fun _ _ _ _ _ _ _ => qsu_plain (qs_one (qs_set (i := 1) sc_law_first.nd rfl (by first | exact Or.inl rfl | exact Or.inr rfl) pp_int))) (.plain (by exact rfl) (g_BadLedger S) (m_BadLedger S) (fun _ _ _ _ _ _ _ => qsu_plain (qs_one (qs_set (i := 1) sc_law_first.nd rfl (by first | exact Or.inl rfl | exact Or.inr rfl) pp_int))) (.plain (by exact rfl) (g_Alone S) (m_Alone S) (fun _ _ _ _ _ _ _ => qsu_plain (qs_one (qs_set (i := 1) sc_law_first.nd rfl (by first | exact Or.inl rfl | exact Or.inr rfl) pp_int))) (.plain (by exact rfl) (g_AboutError S) (m_AboutError S) (fun _ _ _ _ _ _ _ => qsu_plain (qs_one (qs_set (i := 1) sc_law_first.nd rfl (by first | exact Or.inl rfl | exact Or.inr rfl) pp_int))) .nil)))))))))) (qs_one (qs_ret (pv2 1)))))
theorem sc_law_taken : FnScope ["_law_row", "_law_many", "_law_found", "_law_cell"] ["_law_row", "_law_many"] (defScope s_law_taken) := ⟨rfl, rfl, rfl, by decide +kernel, rfl, by decide +kernel, by decide +kernel⟩
theorem ok_law_taken (S : Txt fa fn K mg) : FnOk P w K mg base (L2.CX P w) 1 ((ga "_law_taken") K) (fdOf K ((ga "_law_taken") K)) ["_law_row", "_law_many"] (spF K mg 2 m_law_taken) :=
  fn_pure (f_law_taken S) sc_law_taken rfl fun cdv A outer s H E B hr => (qs_cons (qs_if (pq_cmp op_gt ok_gt (pp_ix ix_seq ok_ix (pv2 0) pp_int (fun _ _ => rfl)) pp_int (nomark _)) (qs_cons (qs_set (i := 2) sc_law_taken.nd rfl (by first | exact Or.inl rfl | exact Or.inr rfl) (pp_op op_mod ok_mod (pp_callTy call_int1 ok_intc (by exact rfl) (z_int S) bt_int (pp_cons (pp_ix ix_seq ok_ix (pv2 0) pp_int (fun _ _ => rfl)) pp_nil)) (pv2 1))) (qs_cons (qs_store (pp_op op_fdvA ok_fdv (pp_ix ix_seq ok_ix (pv2 0) pp_int (fun _ _ => rfl)) (pv2 1)) (qg_subC (pv2 0) pp_int (by intro _; rfl))) (qs_one (qs_ret (pv2 2))))) qs_nil) (qs_cons (qs_store (pp_op op_addA ok_add (pp_ix ix_seq ok_ix (pv2 0) pp_int (fun _ _ => rfl)) pp_int) (qg_subC (pv2 0) pp_int (by intro _; rfl))) (qs_cons (qs_if (pq_cmp op_gt ok_gt (pp_ix ix_seq ok_ix (pv2 0) pp_int (fun _ _ => rfl)) (pp_callB call_len ok_len (by exact rfl) (z_len S) bt_len (pp_cons (pp_ix ix_seq ok_ix (pv2 0) pp_int (fun _ _ => rfl)) pp_nil)) (nomark _)) (qs_cons (qs_store (pp_op op_mod ok_mod (pp_callTy call_int1 ok_intc (by exact rfl) (z_int S) bt_int (pp_cons (pp_op op_addA ok_add (pp_op op_mulA ok_mul (pp_ix ix_seq ok_ix (pv2 0) pp_int (fun _ _ => rfl)) pp_int) pp_int) pp_nil)) pp_int) (qg_subC (pv2 0) pp_int (by intro _; rfl))) (qs_one (qs_ret (pp_op op_mod ok_mod (pp_callTy call_int1 ok_intc (by exact rfl) (z_int S) bt_int (pp_cons (pp_op op_fdvA ok_fdv (pp_ix ix_seq ok_ix (pv2 0) pp_int (fun _ _ => rfl)) pp_int) pp_nil)) (pv2 1))))) qs_nil) (qs_cons (qs_set (i := 3) sc_law_taken.nd rfl (by first | exact Or.inl rfl | exact Or.inr rfl) (pp_ix ix_seq ok_ix (pp_ix ix_seq ok_ix (pv2 0) pp_int (fun _ _ => rfl)) (pp_op op_sub ok_sub (pp_ix ix_seq ok_ix (pv2 0) pp_int (fun _ _ => rfl)) pp_int) (fun _ _ => rfl))) (qs_cons (qs_store (pp_op op_mod ok_mod (pp_callTy call_int1 ok_intc (by exact rfl) (z_int S) bt_int (pp_cons (pp_op op_addA ok_add (pp_op op_addA ok_add (pp_op op_mulA ok_mul (pp_ix ix_seq ok_ix (pv2 0) pp_int (fun _ _ => rfl)) pp_int) (pv2 3)) pp_int) pp_nil)) pp_int) (qg_subC (pv2 0) pp_int (by intro _; rfl))) (qs_cons (qs_if (pq_cmp op_ge ok_ge (pv2 3) (pp_op op_pow ok_pow pp_int pp_int) (nomark _)) (qs_one (qs_store (pp_op op_fdvA ok_fdv (pv2 3) (pv2 1)) (qg_subC (pv2 0) pp_int (by intro _; rfl)))) qs_nil) (qs_one (qs_ret (pp_op op_mod ok_mod (pp_callTy call_int1 ok_intc (by exact rfl) (z_int S) bt_int (pp_cons (pv2 3) pp_nil)) (pv2 1))))))))))
theorem sc_law_k20 : FnScope ["_law_script", "_law_row", "_law_turn", "_law_kind"] ["_law_script"] (defScope s_law_k20) := ⟨rfl, rfl, rfl, by decide +kernel, rfl, by decide +kernel, by decide +kernel⟩
theorem ok_law_k20 (S : Txt fa fn K mg) : FnOk P w K mg base (L2.CX P w) 10 ((ga "law") K) (fdOf K ((ga "law") K)) ["_law_script"] (spF K mg 1 m_law_k20) :=
  fn_pure (f_law_k20 S) sc_law_k20 rfl fun cdv A outer s H E B hr => (qs_cons (qs_cell (i := 1) sc_law_k20.nd rfl (by first | exact Or.inl rfl | exact Or.inr rfl) (pl_lst (pp_cons (pv2 0) (pp_cons pp_int (pp_cons pp_int (pp_cons pp_int pp_nil)))))) (qs_cons (qs_for (passes_of rfl) rfl (qi_range1 (by exact rfl) (z_range S) (pp_cons pp_int pp_nil)) (qg_name sc_law_k20.nd rfl (by first | exact Or.inl rfl | exact Or.inr rfl)) (qs_cons (qs_set (i := 3) sc_law_k20.nd rfl (by first | exact Or.inl rfl | exact Or.inr rfl) (pp_call (FnOk.mono (ok_law_taken S) (Nat.le_of_ble_eq_true rfl)) hr (by exact rfl) (g__law_taken S) (k_law_taken S) (bd_law_taken S) (takes_of rfl rfl rfl rfl) (pp_cons (pv2 1) (pp_cons pp_int pp_nil)))) (qs_one (qs_if (PW.pt (pq_or (pq_cmp (op_neD hr.units) ok_ne (pp_call (FnOk.mono (ok_law_first S) (Nat.le_of_ble_eq_true rfl)) hr (by exact rfl) (g__law_first S) (k_law_first S) (bd_law_first S) (takes_of rfl rfl rfl rfl) (pp_cons (pv2 3) pp_nil)) (pp_callB (call_min2 (by exact rfl)) ok_min2 (by exact rfl) (z_min S) bt_min (pp_cons pp_int (pp_cons (pv2 3) pp_nil))) (nomark _)) (pq_or1 (pq_cmp (op_neD hr.units) ok_ne (pp_call (FnOk.mono (ok_law_second S) (Nat.le_of_ble_eq_true rfl)) hr (by exact rfl) (g__law_second S) (k_law_second S) (bd_law_second S) (takes_of rfl rfl rfl rfl) (pp_cons (pv2 3) pp_nil)) (pp_if (pq_cmp op_gt ok_gt (pv2 3) pp_int (nomark _)) (pv2 3) pp_int) (nomark _))))) (qs_one (qs_ret pp_bl)) qs_nil)))) (qs_one (qs_ret pp_bl))))
end

end PL
open PySem PySem.W PySem.Calls PyProof.Rows
theorem PySem.Challenge.cw_turnedabout_k20_errors_are_apart_holds : PySem.Challenge.rw_turnedabout_k20_errors_are_apart.Holds := by
  w_on; o_law
  refine HandSHeadRun.head_any (r := OpenLaw.row PySem.Challenge.rw_turnedabout_k20_errors_are_apart) (q := view (OpenLaw.row PySem.Challenge.rw_turnedabout_k20_errors_are_apart).prog [105]) (H := PL.hk) (ob := PL.ob) (M := 20000) (loose := PL.loose) (d := HandSHeadRun.topDef (OpenLaw.row PySem.Challenge.rw_turnedabout_k20_errors_are_apart).prog 105) (kwd := []) PL.ob_eq
    (by kernel_rfl) (fun s => by kernel_rfl) PL.run (by kernel_rfl) (by kernel_rfl) (by kernel_rfl) (by rfl) (by first | assumption | decide +kernel) (by decide +kernel) ⟨rfl, rfl, rfl, rfl, rfl, by decide +kernel⟩ ?hw ?hc
  case hw => w_witness2
  case hc =>
    refine L2.walk_ofE (l := PySem.Challenge.rw_turnedabout_k20_errors_are_apart) (n := 63) (k := 10) (x := "_law_script") (CX := L2.CX0) rfl (by decide) (by kernel_rfl) ⟨rfl, by decide, by decide⟩ ?F (fun _ _ _ _ z => z)
    intro w mg fa h Y G hmg0
    obtain ⟨K, KX, c⟩ := Y
    have hmg : mg ("law" : PySem.Str) = some (.ref fa) := by
      have e : (HandSHeadRun.topDef (OpenLaw.row PySem.Challenge.rw_turnedabout_k20_errors_are_apart).prog 105).name = ("law" : PySem.Str) := by kernel_rfl
      rw [← e]
      exact hmg0
    exact PL.law_end (d := PL.d_law_k20) (i := 0) KX G c hmg PL.g_law (fun S => (PL.f_law_k20 S).bindsA fun _ _ _ _ _ _ us hl => match us, hl with | [_], _ => rfl) (fun S base => PL.ok_law_k20 S) PL.math_law


