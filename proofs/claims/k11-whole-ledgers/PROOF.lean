import PyProof.Rows.All
import Wide.All
import OpenK.AllK
import Wide.FinOn
import HandS.ForMost
import HandS.ForExc
import HandS.TryMany
import HandS.ExcInit
import HandS.ExcField
import HandS.Wide
import HandS.Zip
import HandS.Deep
import HandS.IsInst
import HandS.Property
import HandS.TupAny
import HandS.TupMul
import KE.KeyNested
import KE.GoesEnum
import HandS.Defaults
import HandS.CallSlots
import HandS.Style
import HandS.Flow
import HandS.Head0
import HandS.Head1
import HandS.Head2
import HandS.HeadEnd
import HandS.HeadHook1
import HandS.HeadHook2
import HandS.Codes
import HandS.Conv
import HandS.SetFor
import KE.KTupSum
import HandS.OwnEq
import KE.DataCmp
import HandS.Text
import HandS.FStr
import PyProof.StrBlock2
import OpenK.KMake
import PyProof.ListTruth
import PyProof.Rows.TupIter
import HandS.DictTup
import HandS.SetKeys
import KE.KDictKeyed
import KE.KDictDisplayH
import KE.KItemsList
import KE.SortData
import HandS.SortInts
import KE.KDictSum
import KE.SortCalls
import HandS.More
import PySem.SetOps
import HandS.TupSets
import PySem.Challenge.RW_turnedabout_k11_whole_ledgers
set_option Elab.async false
set_option linter.all false
set_option maxRecDepth 100000
set_option maxHeartbeats 2000000
namespace PL
open PySem PySem.Spec PyProof.Rows L2

inductive D where
  | non | bl (b : Bool) | int (i : Int) | str (x : Str)
  | tup (l : List D) | lst (l : List D) | fix (l : List D)
  | dct (l : List (D × D)) | obj (c : Str) (fs : List (Str × D))
  | cell (k : Nat) | fn (x : Str)

inductive Cell where
  | lst (l : List D) | dct (l : List (D × D)) | obj (c : Str) (fs : List (Str × D))
abbrev Sta := List Cell
structure Exn where
  c : Str
  fs : List (Str × D)
inductive Res (α : Type) where
  | ok (a : α) (st : Sta) | exc (e : Exn) (st : Sta) | bad
def M (α : Type) : Type := Sta → Res α
def M.pure {α : Type} (a : α) : M α := fun st => .ok a st
def Res.bind {α β : Type} (r : Res α) (k : α → M β) : Res β := match r with
  | .ok a st => k a st
  | .exc e st => .exc e st
  | .bad => .bad
def M.bind {α β : Type} (m : M α) (k : α → M β) : M β := fun st => (m st).bind k
instance : Monad M where
  pure := M.pure
  bind := M.bind
def M.bad {α : Type} : M α := fun _ => .bad
def M.of {α : Type} : Option α → M α
  | some a => M.pure a
  | none => M.bad
def Res.wp {α : Type} (r : Res α) (P : α → Sta → Prop) (X : Exn → Sta → Prop) : Prop := match r with
  | .ok a st => P a st
  | .exc e st => X e st
  | .bad => False
theorem SqT.mono {K : PySem.W.Frag} {F F' : Hp} {a : Addr} {xs : List V} (h : SqT K F a xs) (k : ∀ b o, F b = some o → F' b = some o) : SqT K F' a xs := by
  rcases h with (h | ⟨o, h⟩) | h
  · exact .inl (.inl (k _ _ h))
  · exact .inl (.inr ⟨o, k _ _ h⟩)
  · exact .inr h
theorem SqL.mono {K : PySem.W.Frag} {F F' : Hp} {a : Addr} {xs : List V} (h : SqL K F a xs) (k : ∀ b o, F b = some o → F' b = some o) : SqL K F' a xs := by
  rcases h with (h | ⟨o, h⟩) | h
  · exact .inl (.inl (k _ _ h))
  · exact .inl (.inr ⟨o, k _ _ h⟩)
  · exact .inr h
mutual
/-- a key, as the model tells keys apart: numbers (True is 1), None, tuples of such -/
def nkD : D → Option NestedKey
  | .non => some .none
  | .bl b => some (.num (if b = true then 1 else 0))
  | .int i => some (.num i)
  | .tup l => (nkDs l).map .tup
  | .str _ => none
  | .lst _ => none
  | .fix _ => none
  | .dct _ => none
  | .obj _ _ => none
  | .cell _ => none
  | .fn _ => none
def nkDs : List D → Option (List NestedKey)
  | [] => some []
  | d :: l => (nkD d).bind fun k => (nkDs l).map (k :: ·)
end
abbrev Ent := NestedKey × V × V
def DEnt (x : Ent) (e : DictEntry) : Prop := RelV x.2.1 e.key ∧ RelV x.2.2 e.val ∧ ∀ w : World, e.hash = x.1.hash w
def DRaw (a : Addr) (o : Obj) (l : List Ent) (h : Heap) : Prop := h.get? a = some o ∧ o.ExactDict ∧ (∃ es ep, o.data = .dict es ep ∧ Paired DEnt l es.toList) ∧ l.length ≤ sizeLine ∧ (a == sysModules) = false ∧ (l.map (·.1)).Nodup
def DO (a : Addr) (o : Obj) (l : List Ent) : HO := .ext (DRaw a o l)
section
variable (K : PySem.W.Frag) (mg : Str → Option Value) (F : Hp) (A : List Addr)
mutual
inductive Rep : V → D → Prop
  | non : Rep .non .non
  | bl (b : Bool) : Rep (.bl b) (.bl b)
  | int (i : Int) : Rep (.int i) (.int i)
  | str (x : Str) : Rep (.str x) (.str x)
  | tup {a : Addr} {vs : List V} {ds : List D} : SqT K F a vs → Reps vs ds → Rep (.ref a) (.tup ds)
  | lst {a : Addr} {vs : List V} {ds : List D} : F a = some (.lst vs) → Reps vs ds → Rep (.ref a) (.lst ds)
  | fix {a : Addr} {vs : List V} {ds : List D} : SqL K F a vs → Reps vs ds → Rep (.ref a) (.fix ds)
  | dct {a : Addr} {o : Obj} {l : List Ent} {ds : List (D × D)} : F a = some (DO a o l) → RepD l ds → Rep (.ref a) (.dct ds)
  | obj {a C dx : Addr} {c : Str} {l : List (Str × V)} {fs : List (Str × D)} : mg c = some (.ref C) → F a = some (.ins C dx l) → RepF l fs → Rep (.ref a) (.obj c fs)
  | cell {a : Addr} {k : Nat} : A[k]? = some a → Rep (.ref a) (.cell k)
  | fn {a : Addr} {x : Str} : mg x = some (.ref a) → Rep (.ref a) (.fn x)
inductive Reps : List V → List D → Prop
  | nil : Reps [] []
  | cons {v : V} {vs : List V} {d : D} {ds : List D} : Rep v d → Reps vs ds → Reps (v :: vs) (d :: ds)
inductive RepF : List (Str × V) → List (Str × D) → Prop
  | nil : RepF [] []
  | cons {x : Str} {v : V} {vs : List (Str × V)} {d : D} {ds : List (Str × D)} : Rep v d → RepF vs ds → RepF ((x, v) :: vs) ((x, d) :: ds)
inductive RepD : List Ent → List (D × D) → Prop
  | nil : RepD [] []
  | cons {n : NestedKey} {k v : V} {vs : List Ent} {q d : D} {ds : List (D × D)} : nkD q = some n → Rep k q → Rep v d → RepD vs ds → RepD ((n, k, v) :: vs) ((q, d) :: ds)
end
end
section
variable {K : PySem.W.Frag} {mg : Str → Option Value} {F F' : Hp} {A A' : List Addr}
mutual
theorem Rep.mono (kF : ∀ b o, F b = some o → F' b = some o) (kA : ∀ (k : Nat) (a : Addr), A[k]? = some a → A'[k]? = some a) : ∀ {v : V} {d : D}, Rep K mg F A v d → Rep K mg F' A' v d
  | _, _, .non => .non
  | _, _, .bl b => .bl b
  | _, _, .int i => .int i
  | _, _, .str x => .str x
  | _, _, .tup h r => .tup (SqT.mono h kF) (Reps.mono kF kA r)
  | _, _, .lst h r => .lst (kF _ _ h) (Reps.mono kF kA r)
  | _, _, .fix h r => .fix (SqL.mono h kF) (Reps.mono kF kA r)
  | _, _, .dct h r => .dct (kF _ _ h) (RepD.mono kF kA r)
  | _, _, .obj g h r => .obj g (kF _ _ h) (RepF.mono kF kA r)
  | _, _, .cell h => .cell (kA _ _ h)
  | _, _, .fn h => .fn h
theorem Reps.mono (kF : ∀ b o, F b = some o → F' b = some o) (kA : ∀ (k : Nat) (a : Addr), A[k]? = some a → A'[k]? = some a) : ∀ {v : List V} {d : List D}, Reps K mg F A v d → Reps K mg F' A' v d
  | _, _, .nil => .nil
  | _, _, .cons h r => .cons (Rep.mono kF kA h) (Reps.mono kF kA r)
theorem RepF.mono (kF : ∀ b o, F b = some o → F' b = some o) (kA : ∀ (k : Nat) (a : Addr), A[k]? = some a → A'[k]? = some a) : ∀ {v : List (Str × V)} {d : List (Str × D)}, RepF K mg F A v d → RepF K mg F' A' v d
  | _, _, .nil => .nil
  | _, _, .cons h r => .cons (Rep.mono kF kA h) (RepF.mono kF kA r)
theorem RepD.mono (kF : ∀ b o, F b = some o → F' b = some o) (kA : ∀ (k : Nat) (a : Addr), A[k]? = some a → A'[k]? = some a) : ∀ {v : List Ent} {d : List (D × D)}, RepD K mg F A v d → RepD K mg F' A' v d
  | _, _, .nil => .nil
  | _, _, .cons e q h r => .cons e (Rep.mono kF kA q) (Rep.mono kF kA h) (RepD.mono kF kA r)
end
theorem Reps.length : ∀ {vs : List V} {ds : List D}, Reps K mg F A vs ds → vs.length = ds.length
  | _, _, .nil => rfl
  | _, _, .cons _ r => congrArg (· + 1) (Reps.length r)
theorem Reps.set : ∀ {vs : List V} {ds : List D} {v : V} {d : D} (n : Nat), Rep K mg F A v d → Reps K mg F A vs ds → Reps K mg F A (vs.set n v) (ds.set n d)
  | _, _, _, _, _, _, .nil => .nil
  | _, _, _, _, 0, h, .cons _ r => .cons h r
  | _, _, _, _, n + 1, h, .cons q r => .cons q (Reps.set n h r)
theorem RepF.lookup {f : Str} : ∀ {vs : List (Str × V)} {ds : List (Str × D)} {d : D}, RepF K mg F A vs ds → ds.lookup f = some d → ∃ v, vs.lookup f = some v ∧ Rep K mg F A v d
  | _, _, _, .nil, e => by simp at e
  | _, _, d, .cons (x := x) h r, e => by
    rw [List.lookup_cons] at e ⊢
    cases q : (f == x) with
    | true =>
      rw [q] at e
      simp at e
      subst e
      exact ⟨_, rfl, h⟩
    | false =>
      rw [q] at e
      exact RepF.lookup r e
theorem RepD.length : ∀ {vs : List Ent} {ds : List (D × D)}, RepD K mg F A vs ds → vs.length = ds.length
  | _, _, .nil => rfl
  | _, _, .cons _ _ _ r => congrArg (· + 1) (RepD.length r)
theorem RepF.length : ∀ {vs : List (Str × V)} {ds : List (Str × D)}, RepF K mg F A vs ds → vs.length = ds.length
  | _, _, .nil => rfl
  | _, _, .cons _ r => congrArg (· + 1) (RepF.length r)
end

section
variable (K : PySem.W.Frag) (mg : Str → Option Value)
def CellAt (F : Hp) (A : List Addr) (H : Hp) (a : Addr) : Cell → Prop
  | .lst l => ∃ vs, H a = some (.lst vs) ∧ Reps K mg F A vs l
  | .dct l => ∃ o kvs, H a = some (DO a o kvs) ∧ RepD K mg F A kvs l
  | .obj c fs => ∃ C dx l, mg c = some (.ref C) ∧ H a = some (.ins C dx l) ∧ RepF K mg F A l fs
structure Good (F : Hp) (A : List Addr) (st : Sta) (H : Hp) : Prop where
  sub : ∀ b o, F b = some o → H b = some o
  len : A.length = st.length
  nd : A.Nodup
  off : ∀ a ∈ A, F a = none
  con : ∀ (k : Nat) a c, A[k]? = some a → st[k]? = some c → CellAt K mg F A H a c
end
structure Ext (F : Hp) (A : List Addr) (H F' : Hp) (A' : List Addr) (H' : Hp) : Prop where
  fro : ∀ b o, F b = some o → F' b = some o
  cel : ∀ (k : Nat) a, A[k]? = some a → A'[k]? = some a
  keep : ∀ b o, b ∉ A → H b = some o → H' b = some o
  there : ∀ b, H b ≠ none → H' b ≠ none
  newF : ∀ b, F' b ≠ none → F b ≠ none ∨ H b = none
  newA : ∀ b, b ∈ A' → b ∈ A ∨ H b = none
section
variable {K : PySem.W.Frag} {mg : Str → Option Value} {F F' F2 : Hp} {A A' A2 : List Addr} {H H' H2 : Hp} {st st' : Sta} {v : V} {d : D} {a : Addr} {c : Cell}
theorem Rep.ext (r : Rep K mg F A v d) (x : Ext F A H F' A' H') : Rep K mg F' A' v d := r.mono x.fro x.cel
theorem Reps.ext {vs : List V} {ds : List D} (r : Reps K mg F A vs ds) (x : Ext F A H F' A' H') : Reps K mg F' A' vs ds := r.mono x.fro x.cel
theorem RepF.ext {vs : List (Str × V)} {ds : List (Str × D)} (r : RepF K mg F A vs ds) (x : Ext F A H F' A' H') : RepF K mg F' A' vs ds := r.mono x.fro x.cel
theorem CellAt.mono (h : CellAt K mg F A H a c) (kF : ∀ b o, F b = some o → F' b = some o) (kA : ∀ (k : Nat) a, A[k]? = some a → A'[k]? = some a) (kH : ∀ o, H a = some o → H' a = some o) : CellAt K mg F' A' H' a c := by
  cases c with
  | lst l =>
    obtain ⟨vs, e, r⟩ := h
    exact ⟨vs, kH _ e, r.mono kF kA⟩
  | dct l =>
    obtain ⟨o, kvs, e, r⟩ := h
    exact ⟨o, kvs, kH _ e, r.mono kF kA⟩
  | obj c fs =>
    obtain ⟨C, dx, l, g, e, r⟩ := h
    exact ⟨C, dx, l, g, kH _ e, r.mono kF kA⟩
theorem CellAt.thr (h : CellAt K mg F A H a c) : ∃ o, H a = some o := by
  cases c with
  | lst l =>
    obtain ⟨vs, e, r⟩ := h
    exact ⟨_, e⟩
  | dct l =>
    obtain ⟨o, kvs, e, r⟩ := h
    exact ⟨_, e⟩
  | obj c fs =>
    obtain ⟨C, dx, l, g, e, r⟩ := h
    exact ⟨_, e⟩
theorem Good.there (G : Good K mg F A st H) (h : a ∈ A) : H a ≠ none := by
  obtain ⟨k, hk, e⟩ := List.mem_iff_getElem.mp h
  have hk' : k < st.length := by rw [← G.len]; exact hk
  obtain ⟨o, q⟩ := CellAt.thr (G.con k a _ (by rw [List.getElem?_eq_getElem hk, e]) (List.getElem?_eq_getElem hk'))
  rw [q]
  exact fun z => nomatch z
end

inductive SV where
  | fro (d : D) | own (c : Cell)
abbrev Env := List (Option SV)
structure Gh where
  F : Hp
  A : List Addr
  ow : Nat → Addr
structure Bs where
  F : Hp
  A : List Addr
  H : Hp
section
variable (K : PySem.W.Frag) (mg : Str → Option Value)
def SlotOk (B : Bs) (g : Gh) (σ : L2.St) (H : Hp) (i : Nat) : SV → Prop
  | .fro d => ∃ v, σ[i]? = some (some v) ∧ Rep K mg g.F g.A v d
  | .own c => σ[i]? = some (some (.ref (g.ow i))) ∧ CellAt K mg g.F g.A H (g.ow i) c ∧ g.F (g.ow i) = none ∧ g.ow i ∉ g.A ∧ B.H (g.ow i) = none
structure Rel (B : Bs) (g : Gh) (env : Env) (st : Sta) (σ : L2.St) (H : Hp) : Prop where
  ext : Ext B.F B.A B.H g.F g.A H
  good : Good K mg g.F g.A st H
  len : env.length = σ.length
  slot : ∀ (i : Nat) sv, env[i]? = some (some sv) → SlotOk K mg B g σ H i sv
  sep : ∀ (i j : Nat) c c', env[i]? = some (some (.own c)) → env[j]? = some (some (.own c')) → i ≠ j → g.ow i ≠ g.ow j
end
section
variable {K : PySem.W.Frag} {mg : Str → Option Value} {B : Bs} {g : Gh} {env : Env} {st st' : Sta} {σ : L2.St} {H H' : Hp} {F' : Hp} {A' : List Addr}
end
end PL
set_option Elab.async false
set_option linter.all false
set_option maxRecDepth 100000
set_option maxHeartbeats 2000000
namespace L2
open PySem PySem.Spec PyProof.Rows
section
variable {X : Cx} {e : Expr}
end
end L2
namespace PL
open PySem PySem.Spec PyProof.Rows L2

section
variable (K : PySem.W.Frag) (mg : Str → Option Value)
def ExnAt (F : Hp) (A : List Addr) (H : Hp) (cls : Value) (dd : Option Addr) (e : Exn) : Prop :=
  ∃ C : Addr, cls = .ref C ∧ mg e.c = some (.ref C) ∧ ((e.fs = [] ∧ dd = none) ∨ ∃ d l, dd = some d ∧ H d = some (.xd l) ∧ RepF K mg F A l e.fs)
def WPc {β : Type} (W : WX) (F : Hp) (A : List Addr) (σ : L2.St) (H : Hp) (r : Res β) (Post : β → Hp → List Addr → Hp → Prop) : Prop :=
  r.wp (fun b st' => ∀ F' A' H', Ext F A H F' A' H' → Good K mg F' A' st' H' → Post b F' A' H')
    (fun e st' => ∀ F' A' H' cls dd, Ext F A H F' A' H' → Good K mg F' A' st' H' → ExnAt K mg F' A' H' cls dd e → W cls dd σ H')
end
section
variable {K : PySem.W.Frag} {mg : Str → Option Value} {W : WX} {F F1 : Hp} {A A1 : List Addr} {σ : L2.St} {H H1 : Hp} {B : Bs} {g : Gh} {env : Env} {st : Sta} {α β : Type}
theorem WPc.bind {m : M α} {k : α → M β} {Post : β → Hp → List Addr → Hp → Prop} (h : WPc K mg W F A σ H ((m >>= k) st) Post) :
    WPc K mg W F A σ H (m st) (fun _ _ _ _ => True) ∨ True := .inr trivial
def M.rd {α : Type} (o : Sta → Option α) : M α := fun st => match o st with
  | some a => .ok a st
  | none => .bad
theorem WPc.rd {o : Sta → Option β} {Post : β → Hp → List Addr → Hp → Prop} (h : WPc K mg W F A σ H (M.rd o st) Post) :
    ∃ a, o st = some a ∧ ∀ F' A' H', Ext F A H F' A' H' → Good K mg F' A' st H' → Post a F' A' H' := by
  unfold WPc M.rd at h
  cases e : o st with
  | none =>
    rw [e] at h
    exact h.elim
  | some a =>
    rw [e] at h
    exact ⟨a, rfl, h⟩
end

section
variable (K : PySem.W.Frag) (mg : Str → Option Value)
end

section
variable {X : Cx} {B : Bs} {W : WX} {a b c : Expr} {pos : Pos} {f g h : Env → M D}
variable {tf tg : Env → M Bool} {rest : List Expr}
end
end PL
set_option Elab.async false
set_option linter.all false
set_option maxRecDepth 100000
set_option maxHeartbeats 2000000
namespace PL
open PySem PySem.Spec PyProof.Rows L2

mutual
def pd : D → PyData
  | .non => .none
  | .bl b => .bool b
  | .int i => .int i
  | .str x => .str x
  | .tup l => .tuple (pds l)
  | .lst l => .list (pds l)
  | .fix l => .list (pds l)
  | .dct _ => .dict []
  | .obj _ _ => .dict []
  | .cell _ => .dict []
  | .fn _ => .dict []
def pds : List D → List PyData
  | [] => []
  | d :: l => pd d :: pds l
end
def plain (d : D) : Bool := SeqAt.shaped (pd d)
section
variable {K : PySem.W.Frag} {mg : Str → Option Value} {F : Hp} {A : List Addr} {H : Hp}
mutual
theorem rep_dp (kH : ∀ b o, F b = some o → H b = some o) : ∀ {d : D} {v : V}, Rep K mg F A v d → (pd d).canLay0 = true → Dp K H v (pd d)
  | .non, _, r, _ => by cases r; unfold pd; exact .non
  | .bl b, _, r, _ => by cases r; unfold pd; exact .bl b
  | .int i, _, r, _ => by cases r; unfold pd; exact .int i
  | .str x, _, r, _ => by cases r; unfold pd; exact .str x
  | .tup l, _, r, h => by
    cases r with
    | tup s r => unfold pd at h ⊢; exact .tup (SqT.mono s kH) (reps_dp kH r (by simpa [PyData.canLay0] using h))
  | .lst l, _, r, h => by
    cases r with
    | lst s r => unfold pd at h ⊢; exact .lst (SqL.of (kH _ _ s)) (reps_dp kH r (by simpa [PyData.canLay0] using h))
  | .fix l, _, r, h => by
    cases r with
    | fix s r => unfold pd at h ⊢; exact .lst (SqL.mono s kH) (reps_dp kH r (by simpa [PyData.canLay0] using h))
  | .dct _, _, _, h => by unfold pd at h; simp [PyData.canLay0] at h
  | .obj _ _, _, _, h => by unfold pd at h; simp [PyData.canLay0] at h
  | .cell _, _, _, h => by unfold pd at h; simp [PyData.canLay0] at h
  | .fn _, _, _, h => by unfold pd at h; simp [PyData.canLay0] at h
theorem reps_dp (kH : ∀ b o, F b = some o → H b = some o) : ∀ {ds : List D} {vs : List V}, Reps K mg F A vs ds → PyData.canLayAll0 (pds ds) = true → DpAll K H vs (pds ds)
  | [], _, r, _ => by cases r; unfold pds; exact .nil
  | d :: ds, _, r, h => by
    cases r with
    | cons r1 r2 =>
      unfold pds at h ⊢
      have h' : (pd d).canLay0 = true ∧ PyData.canLayAll0 (pds ds) = true := by simpa [PyData.canLayAll0] using h
      exact .cons (rep_dp kH r1 h'.1) (reps_dp kH r2 h'.2)
end
end
section
variable {K : PySem.W.Frag} {mg : Str → Option Value} {F : Hp} {A : List Addr} {H : Hp}
end
section
variable (K : PySem.W.Frag) (mg : Str → Option Value)
end
section
variable {X : Cx} {B : Bs} {W : WX} {e a b : Expr} {lo hi : Option Expr} {pos p2 : Pos} {f : Env → M D} {l u : Env → M (Option Int)}
end
end PL
set_option Elab.async false
set_option linter.all false
set_option maxRecDepth 100000
set_option maxHeartbeats 2000000
namespace PL
open PySem PySem.Spec PyProof.Rows L2

inductive SR where
  | nx (env : Env) (st : Sta) | rt (d : D) (st : Sta) | bk (env : Env) (st : Sta) | ct (env : Env) (st : Sta) | exc (e : Exn) (env : Env) (st : Sta) | bad
abbrev SD := Env → Sta → SR
structure GExt (g g' : Gh) : Prop where
  fro : ∀ b o, g.F b = some o → g'.F b = some o
  cel : ∀ (k : Nat) (a : Addr), g.A[k]? = some a → g'.A[k]? = some a
theorem GExt.of {F F' : Hp} {A A' : List Addr} {H H' : Hp} {o o' : Nat → Addr} (x : Ext F A H F' A' H') : GExt ⟨F, A, o⟩ ⟨F', A', o'⟩ := ⟨x.fro, x.cel⟩
section
variable (K : PySem.W.Frag) (mg : Str → Option Value)
def WPs (B : Bs) (W : WX) (g : Gh) (E : Ends) : SR → Prop
  | .nx env st => ∀ g' σ H, GExt g g' → Rel K mg B g' env st σ H → E.nx σ H
  | .bk env st => ∀ g' σ H, GExt g g' → Rel K mg B g' env st σ H → E.bk σ H
  | .ct env st => ∀ g' σ H, GExt g g' → Rel K mg B g' env st σ H → E.ct σ H
  | .rt d st => ∀ F A H v, Ext B.F B.A B.H F A H → Good K mg F A st H → Rep K mg F A v d → E.rt v H
  | .exc e env st => ∀ g' σ H cls dd, GExt g g' → Rel K mg B g' env st σ H → ExnAt K mg g'.F g'.A H cls dd e → W cls dd σ H
  | .bad => False
end
section
variable {K : PySem.W.Frag} {mg : Str → Option Value} {B : Bs} {W : WX} {g g' : Gh} {E E' : Ends} {env : Env} {st : Sta} {σ : L2.St} {H : Hp}
end
section
variable {X : Cx} {B : Bs} {W : WX} {e c : Expr} {s : Stmt} {rest b1 b2 : List Stmt} {pos : Pos} {f : Env → M D} {t u : SD} {tc : Env → M Bool}
end

section
variable {X : Cx} {B : Bs} {W : WX} {e c : Expr} {s : Stmt} {rest b1 b2 : List Stmt} {pos : Pos} {f : Env → M D} {t u : SD} {tc : Env → M Bool} {g : Gh} {env : Env} {st : Sta} {σ : L2.St} {H : Hp}
section
variable (K : PySem.W.Frag) (mg : Str → Option Value)
end
end
end PL
set_option Elab.async false
set_option linter.all false
set_option maxRecDepth 100000
set_option maxHeartbeats 4000000
namespace PL
open PySem PySem.Spec PyProof.Rows L2

section
variable {prog : Program} {w : World} {A : Around} {E : Value → Shared → Prop} {s : Shared}
end
end PL
set_option Elab.async false
set_option linter.all false
set_option maxRecDepth 100000
set_option maxHeartbeats 2000000
namespace PL
open PySem PySem.Spec PyProof.Rows L2

section
variable (K : PySem.W.Frag) (mg : Str → Option Value)
def W0 : WX := fun _ _ _ _ => False
end
section
variable {K : PySem.W.Frag} {mg : Str → Option Value} {F : Hp} {A : List Addr}
end
section
variable {X : Cx} {B : Bs} {W : WX} {e e2 tg : Expr} {p pos tpos : Pos} {elts : List Expr} {kk : Nat} {f : Env → M D} {fs : Env → M (List D)}
end

section
variable {X : Cx} {B : Bs} {W : WX} {pos : Pos}
end

section
variable {X : Cx} {B : Bs} {W : WX} {pos : Pos}
end
end PL
set_option Elab.async false
set_option linter.all false
set_option maxRecDepth 100000
set_option maxHeartbeats 2000000
namespace PL
open PySem PySem.Spec PyProof.Rows L2

section
variable {K : PySem.W.Frag} {mg : Str → Option Value} {B : Bs} {g : Gh} {env : Env} {st : Sta} {σ : L2.St} {H : Hp}
end
section
variable {K : PySem.W.Frag} {mg : Str → Option Value} {W : WX}
structure Side (K : PySem.W.Frag) (mg : Str → Option Value) (B : Bs) (g : Gh) (env : Env) (H : Hp) (p : Addr) (l : List D) : Prop where
  at_ : ∃ vs, H p = some (.lst vs) ∧ Reps K mg g.F g.A vs l
  f : g.F p = none
  a : p ∉ g.A
  b : B.H p = none
  ne : ∀ (j : Nat) c, env[j]? = some (some (.own c)) → g.ow j ≠ p
theorem Side.ext {B : Bs} {g : Gh} {env : Env} {H H' : Hp} {p : Addr} {l : List D} {F' : Hp} {A' : List Addr} (s : Side K mg B g env H p l) (x : Ext g.F g.A H F' A' H') : Side K mg B ⟨F', A', g.ow⟩ env H' p l := by
  obtain ⟨vs, e, r⟩ := s.at_
  refine ⟨⟨vs, x.keep p _ s.a e, r.ext x⟩, ?_, fun m => ?_, s.b, s.ne⟩
  · show F' p = none
    exact Classical.byContradiction fun q => (x.newF p q).elim (fun z => z s.f) (fun z => by rw [e] at z; cases z)
  · exact (x.newA p m).elim s.a (fun z => by rw [e] at z; cases z)
end
section
variable {X : Cx} {B : Bs} {W : WX} {pos : Pos}
end
end PL
set_option Elab.async false
set_option linter.all false
set_option maxRecDepth 100000
set_option maxHeartbeats 2000000
namespace PL
open PySem PySem.Spec PyProof.Rows L2

section
variable {X : Cx} {B : Bs} {W : WX}
end

section
variable (K : PySem.W.Frag) (mg : Str → Option Value)
def spF (n : Nat) (f : List D → M D) : Sp := fun vs H Q E => ∃ F A st ds, Good K mg F A st H ∧ Reps K mg F A vs ds ∧ vs.length = n ∧
  (f ds st).wp (fun d st' => ∀ F' A' H' v, Ext F A H F' A' H' → Good K mg F' A' st' H' → Rep K mg F' A' v d → Q v H') (fun e st' => ∀ F' A' H' cls dd, Ext F A H F' A' H' → Good K mg F' A' st' H' → ExnAt K mg F' A' H' cls dd e → E cls dd H')
end
section
variable {K : PySem.W.Frag} {mg : Str → Option Value}
end
section
variable {X : Cx} {B : Bs} {W : WX} {e o : Expr} {es : List Expr} {x m : Str} {p pos apos : Pos} {k n : Nat} {f C : Addr} {fd : FuncData} {ps : List Str} {fs : Env → M (List D)} {F : List D → M D} {fo : Env → M D}
def argN (n : Nat) (F : List D → M D) : List D → M D := fun ds => if ds.length = n then F ds else M.bad
def isObj (c : Str) (d : D) (st : Sta) : Bool := match d with
  | .obj c' _ => c' == c
  | .cell k => (match st[k]? with
    | some (.obj c' _) => c' == c
    | _ => false)
  | _ => false
def noCell : Nat → D → Bool
  | 0, _ => false
  | n + 1, d => match d with
    | .cell _ => false
    | .tup l => l.all (noCell n)
    | .lst l => l.all (noCell n)
    | .fix l => l.all (noCell n)
    | .obj _ fs => fs.all fun p => noCell n p.2
    | .dct _ => false
    | _ => true
end
section
variable {K : PySem.W.Frag} {mg : Str → Option Value}
mutual
/-- a datum that was there before the cells grew -/
theorem Rep.down {F F' : Hp} {A A' : List Addr} (kA : ∀ (k : Nat) (a : Addr), A[k]? = some a → A'[k]? = some a) : ∀ {v0 v : V} {d : D}, Rep K mg F A v0 d → Rep K mg F' A' v d → Rep K mg F' A v d
  | _, _, _, .non, .non => .non
  | _, _, _, .bl b, .bl _ => .bl b
  | _, _, _, .int i, .int _ => .int i
  | _, _, _, .str x, .str _ => .str x
  | _, _, _, .tup _ r0, .tup s r => .tup s (Reps.down kA r0 r)
  | _, _, _, .lst _ r0, .lst s r => .lst s (Reps.down kA r0 r)
  | _, _, _, .fix _ r0, .fix s r => .fix s (Reps.down kA r0 r)
  | _, _, _, .dct _ r0, .dct s r => .dct s (RepD.down kA r0 r)
  | _, _, _, .obj _ _ r0, .obj g s r => .obj g s (RepF.down kA r0 r)
  | _, _, _, .cell h0, .cell h => by
    have e := kA _ _ h0
    rw [h] at e
    cases e
    exact .cell h0
  | _, _, _, .fn _, .fn g => .fn g
theorem Reps.down {F F' : Hp} {A A' : List Addr} (kA : ∀ (k : Nat) (a : Addr), A[k]? = some a → A'[k]? = some a) : ∀ {v0 v : List V} {d : List D}, Reps K mg F A v0 d → Reps K mg F' A' v d → Reps K mg F' A v d
  | _, _, _, .nil, .nil => .nil
  | _, _, _, .cons h0 r0, .cons h r => .cons (Rep.down kA h0 h) (Reps.down kA r0 r)
theorem RepF.down {F F' : Hp} {A A' : List Addr} (kA : ∀ (k : Nat) (a : Addr), A[k]? = some a → A'[k]? = some a) : ∀ {v0 v : List (Str × V)} {d : List (Str × D)}, RepF K mg F A v0 d → RepF K mg F' A' v d → RepF K mg F' A v d
  | _, _, _, .nil, .nil => .nil
  | _, _, _, .cons h0 r0, .cons h r => .cons (Rep.down kA h0 h) (RepF.down kA r0 r)
theorem RepD.down {F F' : Hp} {A A' : List Addr} (kA : ∀ (k : Nat) (a : Addr), A[k]? = some a → A'[k]? = some a) : ∀ {v0 v : List Ent} {d : List (D × D)}, RepD K mg F A v0 d → RepD K mg F' A' v d → RepD K mg F' A v d
  | _, _, _, .nil, .nil => .nil
  | _, _, _, .cons _ q0 h0 r0, .cons e q h r => .cons e (Rep.down kA q0 q) (Rep.down kA h0 h) (RepD.down kA r0 r)
end
abbrev Ini := List D → Option (Except Exn (List (Str × D)))
def okD (ds : List D) (d : D) : Prop := d ∈ ds ∨ noCell 8 d = true
structure IniOk (c : Str) (n : Nat) (F : List D → M D) (I : Ini) : Prop where
  eq : ∀ ds st r, I ds = some r → F (.cell st.length :: ds) (st ++ [.obj c []]) = (match r with
    | .ok fs => .ok .non (st ++ [.obj c fs])
    | .error e => .exc e (st ++ [.obj c []]))
  len : ∀ ds r, I ds = some r → ds.length = n
  ok : ∀ ds fs, I ds = some (.ok fs) → ∀ p ∈ fs, okD ds p.2
  no : ∀ ds e, I ds = some (.error e) → ∀ p ∈ e.fs, okD ds p.2
section
variable {X : Cx} {B : Bs} {W : WX} {e o : Expr} {es : List Expr} {x m : Str} {p pos apos : Pos} {k n : Nat} {f C : Addr} {fd : FuncData} {ps : List Str} {fs : Env → M (List D)} {F : List D → M D} {fo : Env → M D}
end
end
end PL
set_option Elab.async false
set_option linter.all false
set_option maxRecDepth 100000
set_option maxHeartbeats 4000000
namespace PL
open PySem PySem.Spec PyProof.Rows L2
structure OwnI (K : PySem.W.Frag) (CA : Addr) (mc : Value) : Prop where
  ga : PySem.W.specialIn K (.ref CA) "__getattribute__" = some (some (.builtin "type.__getattribute__"))
  rd : PySem.W.readsIn K CA mc = true
  at_ : PySem.W.findCls K (.ref CA) mc "__init__" = some (.val (.builtin "ValueError.__init__"))
section
variable {X : Cx} {o e : Expr} {es : List Expr} {to te : TE} {ta : TA} {f x : Str} {p p' p1 p2 pos : Pos} {CA : Addr} {mc : Value}
end
section
variable {X : Cx} {pins : List (Addr × Obj)} {σ : L2.St} {H1 : Hp}
end
section
variable {X : Cx} {e : Expr} {es : List Expr} {ta : TA} {x : Str} {p pos : Pos} {C fI : Addr} {k : Nat} {fd : FuncData} {ps : List Str} {names : List Str}
end
end PL
set_option Elab.async false
set_option linter.all false
set_option maxRecDepth 100000
set_option maxHeartbeats 4000000
namespace PL
open PySem PySem.Spec PyProof.Rows L2
section
variable {P : Program} {w : World} {K : PySem.W.Frag} {mg : Str → Option Value} {base : Heap} {x qual : Str} {params : Arguments} {body : List Stmt} {scope : Scope} {f C : Addr} {fd : FuncData} {k : Nat} {msg f1 f2 p1 p2 : Str}
end
section
variable {X : Cx} {B : Bs} {W : WX} {e : Expr} {es : List Expr} {c : Str} {p pos pos2 : Pos} {C fI : Addr} {k : Nat} {fd : FuncData} {ps : List Str} {names : List Str} {fs : Env → M (List D)}
end
end PL
set_option Elab.async false
set_option linter.all false
set_option maxRecDepth 100000
set_option maxHeartbeats 4000000
namespace PL
open PySem PySem.Spec PyProof.Rows L2
abbrev ClT := Value × Option Nat × (Addr → Value → Option Addr → TS)
inductive HdsA (X : Cx) : List ExceptHandler → List ClT → Prop
  | nil : HdsA X [] []
  | plain {x : Str} {c : Value} {ts : Addr → Value → Option Addr → TS} {b₀ : Stmt} {suite : List Stmt} {np pos' : Pos} {hds : List ExceptHandler} {l : List ClT} (hc : Names X x c)
      (hsu : ∀ (a : Addr) (oe : Obj) (cls : Value) (d : Option Addr) (pn : List (Addr × Obj)), Zc cls d oe → (∃ vs, oe.data = .fields vs) → PSs (X.suite a ((a, oe) :: pn)) (b₀ :: suite) (ts a cls d)) (r : HdsA X hds l) :
      HdsA X (.ExceptHandler (some (.Name x np)) none (b₀ :: suite) pos' :: hds) ((c, none, ts) :: l)
  | named {x n : Str} {i : Nat} {c : Value} {ts : Addr → Value → Option Addr → TS} {b₀ : Stmt} {suite : List Stmt} {np pos' : Pos} {hds : List ExceptHandler} {l : List ClT} (hc : Names X x c) (hi : X.N[i]? = some n) (hln : X.env.kindOf n = some .local)
      (hsu : ∀ (a : Addr) (oe : Obj) (cls : Value) (d : Option Addr) (pn : List (Addr × Obj)), Zc cls d oe → (∃ vs, oe.data = .fields vs) → PSs (X.suite a ((a, oe) :: pn)) (b₀ :: suite) (ts a cls d)) (r : HdsA X hds l) :
      HdsA X (.ExceptHandler (some (.Name x np)) (some n) (b₀ :: suite) pos' :: hds) ((c, some i, ts) :: l)
section
variable {X : Cx} {body : List Stmt} {h₀ : ExceptHandler} {hds : List ExceptHandler} {l : List ClT} {pos : Pos} {tb : WX → TS} {Wout : WX}
end
structure HdD where
  c : Str
  slot : Option Nat
  f : Exn → SD
def isSub (top c' c : Str) : Bool := c' == c || c == top
def ExM (K : PySem.W.Frag) (mg : Str → Option Value) (top : Str) (errs : List Str) (c : Str) (u : Value) : Prop := ∀ c' ∈ errs, ∀ C' : Addr, mg c' = some (.ref C') → PySem.W.exmOne K (.ref C') u = some (isSub top c' c)
def rSu (K : PySem.W.Frag) (mg : Str → Option Value) (B : Bs) (slot : Option Nat) (f : Exn → SD) (a : Addr) (cls : Value) (d : Option Addr) : TS := fun E σ H => ∃ g env st ex, Rel K mg B g env st σ H ∧ ExnAt K mg g.F g.A H cls d ex ∧
  (∀ i, slot = some i → σ[i]? = some (some (.ref a))) ∧ WPs K mg B W0 g E (f ex env st)
inductive HdsD (X : Cx) (B : Bs) (top : Str) (errs : List Str) : List ExceptHandler → List HdD → Prop
  | nil : HdsD X B top errs [] []
  | plain {x : Str} {C : Addr} {f : Exn → SD} {b₀ : Stmt} {suite : List Stmt} {np pos' : Pos} {hds : List ExceptHandler} {l : List HdD} (hg : Gl X x) (hm : X.mg x = some (.ref C)) (hx : ExM X.K X.mg top errs x (.ref C))
      (hsu : ∀ (a : Addr) (oe : Obj) (cls : Value) (d : Option Addr) (pn : List (Addr × Obj)), Zc cls d oe → (∃ vs, oe.data = .fields vs) → PSs (X.suite a ((a, oe) :: pn)) (b₀ :: suite) (rSu X.K X.mg B none f a cls d)) (r : HdsD X B top errs hds l) (hdb : (x == ("__debug__" : Str)) = false := by decide) :
      HdsD X B top errs (.ExceptHandler (some (.Name x np)) none (b₀ :: suite) pos' :: hds) (⟨x, none, f⟩ :: l)
  | named {x n : Str} {C : Addr} {i : Nat} {f : Exn → SD} {b₀ : Stmt} {suite : List Stmt} {np pos' : Pos} {hds : List ExceptHandler} {l : List HdD} (hg : Gl X x) (hm : X.mg x = some (.ref C)) (hx : ExM X.K X.mg top errs x (.ref C)) (hi : X.N[i]? = some n) (hln : X.env.kindOf n = some .local)
      (hsu : ∀ (a : Addr) (oe : Obj) (cls : Value) (d : Option Addr) (pn : List (Addr × Obj)), Zc cls d oe → (∃ vs, oe.data = .fields vs) → PSs (X.suite a ((a, oe) :: pn)) (b₀ :: suite) (rSu X.K X.mg B (some i) f a cls d)) (r : HdsD X B top errs hds l) (hdb : (x == ("__debug__" : Str)) = false := by decide) :
      HdsD X B top errs (.ExceptHandler (some (.Name x np)) (some n) (b₀ :: suite) pos' :: hds) (⟨x, some i, f⟩ :: l)
section
variable {X : Cx} {B : Bs} {W : WX} {body : List Stmt} {h₀ : ExceptHandler} {hds : List ExceptHandler} {pos : Pos} {t : SD} {top : Str} {errs : List Str}
section
variable {a : Addr} {oe : Obj} {cls : Value} {d : Option Addr} {pn : List (Addr × Obj)} {es : List Expr} {i : Nat} {r : Exn → Option (List D)}
end
end
end PL
set_option Elab.async false
set_option linter.all false
set_option maxRecDepth 100000
set_option maxHeartbeats 4000000
namespace PL
open PySem PySem.Spec PyProof.Rows L2
section
variable {X : Cx} {B : Bs} {W : WX}
theorem Side.there {B : Bs} {g : Gh} {env : Env} {H : Hp} {p : Addr} {l : List D} (s : Side X.K X.mg B g env H p l) : H p ≠ none := by
  obtain ⟨_, e, _⟩ := s.at_
  rw [e]
  exact fun z => nomatch z
variable {elt tg iter tg1 iter1 : Expr} {ifs ifs1 : List Expr} {scope : Scope} {own : List (Str × Nat)} {vs1 : List Nat} {pos spos : Pos} {it it1 : Env → M (List D)} {t t1 : TG} {bind bind1 : Bnd} {tst tst1 : Env → M Bool} {el : Env → M D}
end
end PL
set_option Elab.async false
set_option linter.all false
set_option maxRecDepth 100000
set_option maxHeartbeats 4000000
namespace PL
open PySem PySem.Spec PyProof.Rows L2
def tyNames : List String := ["NoneType", "bool", "int", "str", "tuple", "list", "dict"]
structure IsK (K : PySem.W.Frag) (mg : Str → Option Value) (cs : List Str) : Prop where
  hn : PySem.W.specialIn K (.builtin "object.__class__") "__get__" = some (some (.builtin "getset_descriptor.__get__"))
  htk : PySem.W.takesIn K (.builtin "object.__class__") = some true
  cls : ∀ c ∈ cs, ∀ C, mg c = some (.ref C) → Cls K C ∧ PySem.W.findIn K (.ref C) "__class__" = some (some (.builtin "object.__class__")) ∧ PySem.W.mroIn K C (.type "object") = some true
  ty : ∀ c ∈ cs, ∀ C, mg c = some (.ref C) → ∀ T ∈ ["tuple", "int", "bool"], PySem.W.kitOne K (.ref C) (.type T) = some false
  yt : ∀ c ∈ cs, ∀ C, mg c = some (.ref C) → ∀ T ∈ tyNames, PySem.W.kitOne K (.type T) (.ref C) = some false
  cc : ∀ c ∈ cs, ∀ C, mg c = some (.ref C) → ∀ c' ∈ cs, ∀ C', mg c' = some (.ref C') → PySem.W.kitOne K (.ref C) (.ref C') = some (c == c')
section
variable {K : PySem.W.Frag} {mg : Str → Option Value} {F : Hp} {A : List Addr} {st : Sta} {H : Hp} {v : V} {d : D}
end
section
variable {X : Cx} {B : Bs} {W : WX} {e : Expr} {f : Env → M D} {p p2 pos : Pos} {cs : List Str}
end
end PL
set_option Elab.async false
set_option linter.all false
set_option maxRecDepth 100000
set_option maxHeartbeats 4000000
namespace PL
open PySem PySem.Spec PyProof.Rows L2
abbrev Fr := PySem.W.Frag
def eqO (a b : Option (Option Value)) : Bool := decide (a = b)
def ga (x : Str) (K : Fr) : Addr := He.ga K x
def ma (C m : Str) (K : Fr) : Addr := He.ma K (He.ga K C) m
def pg (C m : Str) (K : Fr) : Addr := match PySem.W.recIn K (ma C m K) "property" with
  | some (.ref g :: _) => g
  | _ => 0
structure DefP where
  at_ : Fr → Addr
  name : Str
  qual : Str
  params : Arguments
  body : List Stmt
  scope : Scope
def fnP (K : Fr) (a : Addr) : He.FnW := match K.lookup a with
  | some ⟨_, _, .func fd, _⟩ => some (fd.name, fd.qualname, fd.params, fd.body, fd.scope, fd.globals, fd.closure, fd.builtins)
  | _ => none
def DefP.val (d : DefP) : He.FnW := some (d.name, d.qual, d.params, .stmts d.body, d.scope, mainGlobals, [], builtinsNs)
def DefP.ok (K : Fr) (d : DefP) : Bool := PySem.W.keepIn K (.ref (d.at_ K)) && (match K.lookup (d.at_ K) with
  | some ⟨_, _, .func fd, _⟩ => PySem.W.codeIn K fd.code d.qual && (He.dflB K fd.defaults [] && He.kwdB K fd.kwdefaults [])
  | _ => false)
abbrev Fa := Fr → Bool
abbrev AlP : Type := Bool × List He.FnW
def obsP (fa : List Fa) (fn : List DefP) (K : Fr) : AlP := ((fa.all fun f => f K) && fn.all fun d => d.ok K, fn.map fun d => fnP K (d.at_ K))
def valP (fn : List DefP) : AlP := (true, fn.map DefP.val)
def SaysP (fa : List Fa) (fn : List DefP) (K : Fr) : Prop := obsP fa fn K = valP fn
structure Txt (fa : List Fa) (fn : List DefP) (K : Fr) (mg : Str → Option Value) : Prop where
  at_ : ∃ h : Heap, K.In h ∧ h.Ns mainGlobals mg
  c : SaysP fa fn K
section
variable {fa : List Fa} {fn : List DefP} {K : Fr} {mg : Str → Option Value}
def fGlo (xs : List Str) : Fa := fun K => xs.all fun x => eqO (PySem.W.nsIn K mainGlobals x) (some (some (.ref (ga x K))))
def fFree (xs : List Str) : Fa := fun K => xs.all fun x => eqO (PySem.W.nsIn K mainGlobals x) (some none)
def fInt (x : Str) (i : Int) : Fa := fun K => (He.Fa.int x i).ok K
def fCls (C : Str) (fs : List Str) : Fa := fun K => (He.Fa.cls C).ok K && ((He.Fa.mkr C).ok K && fs.all fun f => eqO (PySem.W.findIn K (.ref (ga C K)) f) (some none))
def fProp (C f : Str) : Fa := fun K => eqO (PySem.W.findIn K (.ref (ga C K)) f) (some (some (.ref (ma C f K)))) && (eqO (PySem.W.specialIn K (.ref (ma C f K)) "__get__") (some (some (.builtin "property.__get__"))) && (decide (PySem.W.takesIn K (.ref (ma C f K)) = some true) && (match PySem.W.recIn K (ma C f K) "property" with
  | some (.ref g :: _) => true
  | _ => false)))
def fIs (cs : List Str) : Fa := fun K => eqO (PySem.W.specialIn K (.builtin "object.__class__") "__get__") (some (some (.builtin "getset_descriptor.__get__"))) && (decide (PySem.W.takesIn K (.builtin "object.__class__") = some true) && (cs.all fun c =>
  eqO (PySem.W.nsIn K mainGlobals c) (some (some (.ref (ga c K)))) && ((He.Fa.cls c).ok K && (eqO (PySem.W.findIn K (.ref (ga c K)) "__class__") (some (some (.builtin "object.__class__"))) && (decide (PySem.W.mroIn K (ga c K) (.type "object") = some true) && (
    (["tuple", "int", "bool"].all fun T => decide (PySem.W.kitOne K (.ref (ga c K)) (.type T) = some false)) && ((tyNames.all fun T => decide (PySem.W.kitOne K (.type T) (.ref (ga c K)) = some false)) &&
      cs.all fun c' => decide (PySem.W.kitOne K (.ref (ga c K)) (.ref (ga c' K)) = some (c == c')))))))))
def oexB (K : Fr) (C : Addr) : Bool := (match K.lookup C with
  | some ⟨.type "type", _, .cls cd, sl⟩ => (match cd.mro, sl.toList with
    | .ref C' :: bm, [_, _, _, _, some (.builtin n), _] => C' == C && (n == "ValueError.__new__" && (!cd.hasDel && (cd.hasDict && PySem.HandSPX.refsVE bm)))
    | _, _ => false)
  | _ => false) && (eqO (PySem.W.findIn K (.ref C) "__setattr__") (some (some (.builtin "object.__setattr__"))) && (decide (PySem.W.subIn K (.ref C) (.type "BaseException") = some true) && (decide (PySem.W.typeIn K (.ref C) = some (.type "type")) && PySem.W.keepIn K (.ref C))))
def fExc (C : Str) (fs : List Str) : Fa := fun K => oexB K (ga C K) && (eqO (PySem.W.findIn K (.ref (ga C K)) "__init__") (some (some (.ref (ma C "__init__" K)))) && (decide (PySem.W.typeIn K (.ref (ma C "__init__" K)) = some (.type "function")) && (fs.all (fun f => eqO (PySem.W.findIn K (.ref (ga C K)) f) (some none)) && xfB K (ga C K))))
def fExm (top : Str) (errs cs : List Str) : Fa := fun K => errs.all fun c' => eqO (PySem.W.nsIn K mainGlobals c') (some (some (.ref (ga c' K)))) && cs.all fun c => decide (PySem.W.exmOne K (.ref (ga c' K)) (.ref (ga c K)) = some (isSub top c' c))
def fTop (C : Str) : Fa := fun K => eqO (PySem.W.specialIn K (.ref (ga C K)) "__getattribute__") (some (some (.builtin "type.__getattribute__"))) && (PySem.W.readsIn K (ga C K) (.type "type") && (match PySem.W.findCls K (.ref (ga C K)) (.type "type") "__init__" with
  | some (.val (.builtin n)) => decide (n = "ValueError.__init__")
  | _ => false))
end
end PL
set_option Elab.async false
set_option linter.all false
set_option maxRecDepth 100000
set_option maxHeartbeats 4000000
namespace PL
open PySem PySem.Spec PyProof.Rows L2
section
variable {X : Cx} {B : Bs} {W : WX} {pos : Pos}
end
section
variable {fa : List Fa} {fn : List DefP} {K : Fr} {mg : Str → Option Value}
end
end PL
set_option Elab.async false
set_option linter.all false
set_option maxRecDepth 100000
set_option maxHeartbeats 4000000
namespace PL
open PySem PySem.Spec PyProof.Rows L2
section
variable {X : Cx} {B : Bs} {W : WX} {e : Expr} {pos : Pos}
end
end PL
set_option Elab.async false
set_option linter.all false
set_option maxRecDepth 100000
set_option maxHeartbeats 4000000
namespace PL
open PySem PySem.Spec PyProof.Rows L2
section
variable {X : Cx} {B : Bs} {W : WX} {e : Expr} {s : Stmt} {b : List Stmt}
end
section
variable {fa : List Fa} {fn : List DefP} {K : Fr} {mg : Str → Option Value}
end
section
variable {X : Cx} {B : Bs} {W : WX} {e a fe : Expr} {es : List Expr} {f : Env → M D} {fs : Env → M (List D)} {p p2 p3 pos : Pos} {k : Nat}
structure FnE (X : Cx) (k : Nat) (x : Str) (F : List D → M D) : Prop where
  ex : ∃ (ad : Addr) (fd : FuncData) (ps : List Str) (n : Nat) (F0 : List D → M D), X.mg x = some (.ref ad) ∧ PySem.W.keepIn X.K (.ref ad) = true ∧ Binds X.K fd ps [] ∧ FnOk X.prog X.w X.K X.mg X.base (L2.CX X.prog X.w) k ad fd ps (spF X.K X.mg n F0) ∧ F = argN n F0
inductive FnT (X : Cx) (k : Nat) : List (Str × (List D → M D)) → Prop
  | nil : FnT X k []
  | cons {x : Str} {F : List D → M D} {t : List (Str × (List D → M D))} : FnE X k x F → FnT X k t → FnT X k ((x, F) :: t)
end
end PL
set_option Elab.async false
set_option linter.all false
set_option maxRecDepth 100000
set_option maxHeartbeats 4000000
namespace PL
open PySem PySem.Spec PyProof.Rows L2
section
variable {X : Cx}
end
section
variable {X : Cx} {B : Bs} {W : WX} {e a : Expr} {f g : Env → M D} {apos cpos pos : Pos}
end
end PL
set_option Elab.async false
set_option linter.all false
set_option maxRecDepth 100000
set_option maxHeartbeats 4000000
namespace PL
open PySem PySem.Spec PyProof.Rows L2
section
variable {X : Cx} {B : Bs} {W : WX} {pos : Pos}
end
end PL
set_option Elab.async false
set_option linter.all false
set_option maxRecDepth 100000
set_option maxHeartbeats 4000000
namespace PL
open PySem PySem.Spec PyProof.Rows L2
section
variable {X : Cx} {B : Bs} {W : WX} {a b : Expr} {rest : List Expr} {f g : Env → M D} {pos : Pos}
end
end PL
set_option Elab.async false
set_option linter.all false
set_option maxRecDepth 100000
set_option maxHeartbeats 4000000
namespace PL
open PySem PySem.Spec PyProof.Rows L2
section
variable {prog : Program} {w : World} {A : Around} {E : Value → Shared → Prop} {s : Shared} {t : Addr} {xs : Array (Int × Tok)}
variable {its : List Value} {ns : List Int} {Q : Value → Shared → Prop}
end
section
variable {X : Cx}
end
end PL
set_option Elab.async false
set_option linter.all false
set_option maxRecDepth 100000
set_option maxHeartbeats 4000000
namespace PL
open PySem PySem.Spec PyProof.Rows L2
def kO2 (c : Str) (d : D) (st : Sta) : Bool := match d with
  | .int _ => true
  | .tup _ => true
  | d => isObj c d st
structure OwnOk (c : Str) (F : List D → M D) (o : D → D → Sta → Option D) : Prop where
  ok : ∀ x y st z, o x y st = some z → isObj c x st = true ∧ kO2 c y st = true ∧ ∃ b, z = .bl b ∧ F [x, y] st = .ok (.bl b) st
section
variable {X : Cx} {B : Bs} {W : WX} {a b : Expr} {pos : Pos} {k : Nat} {f C : Addr} {fd : FuncData} {ps : List Str} {F : List D → M D} {fa fb : Env → M D} {c : Str} {o : D → D → Sta → Option D}
end
def fEq (C : Str) : Fa := fun K => eqO (PySem.W.findIn K (.ref (ga C K)) (Str.ofString "__eq__")) (some (some (.ref (ma C "__eq__" K)))) && (PySem.W.isFn K (.ref (ma C "__eq__" K)) && (PySem.W.notFirst K (ga C K) (.type "int") && PySem.W.notFirst K (ga C K) (.type "tuple")))
section
variable {K : Fr} {C : Str}
end
end PL
set_option Elab.async false
set_option linter.all false
set_option maxRecDepth 100000
set_option maxHeartbeats 4000000
namespace PL
open PySem PySem.Spec PyProof.Rows L2
section
variable {prog : Program} {w : World} {A : Around} {E : Value → Shared → Prop} {s : Shared} {K : PySem.W.Frag} {x C f L : Addr} {h₀ : Heap} {m : Str → Option Value} {ox : Obj} {od : Option Obj} {name : Str} {b tb : Value}
open Builtin in
end
section
variable {X : Cx} {B : Bs} {W : WX} {a b : Expr} {pos : Pos} {k : Nat} {f C : Addr} {fd : FuncData} {ps : List Str} {F : List D → M D} {fa fb : Env → M D} {c : Str} {o : D → D → Sta → Option D}
end
def fNe (C : Str) : Fa := fun K => eqO (PySem.W.findIn K (.ref (ga C K)) (Str.ofString "__ne__")) (some (some (.builtin "object.__ne__"))) && (PySem.W.mroIn K (ga C K) (.type "object") == some true)
section
variable {K : Fr} {C : Str}
end
end PL
set_option Elab.async false
set_option linter.all false
set_option maxRecDepth 100000
set_option maxHeartbeats 2000000
namespace PL
open PySem PySem.Spec PyProof.Rows L2
def frcN {α : Type} (n : Nat) (k : Nat → α) : α := match n with
  | 0 => k 0
  | m + 1 => k (m + 1)
def addR {β : Type} : List Addr → Nat → List Addr → (Nat → List Addr → β) → β
  | [], seen, new, k => k seen new
  | a :: r, seen, new, k => match (seen >>> a) % 2 with
    | 0 => frcN (seen ||| (1 <<< a)) fun s => addR r s (a :: new) k
    | _ + 1 => addR r seen new k
end PL
set_option Elab.async false
set_option linter.all false
set_option maxRecDepth 100000
set_option maxHeartbeats 4000000
namespace PL
open PySem PySem.Spec PyProof.Rows L2
def refsE (o : Obj) : List Addr := match o.data with
  | .fields vs => (match Nat.ble vs.size 8 with
    | true => He.refsD o
    | false => [])
  | _ => He.refsD o
def rndE {β : Type} (g : Addr → Option Obj) : List Addr → Nat → List Addr → (Nat → List Addr → β) → β
  | [], seen, new, k => k seen new
  | a :: r, seen, new, k => match g a with
    | some o => addR (refsE o) seen new fun s nw => rndE g r s nw k
    | none => rndE g r seen new k
def bfsE (g : Addr → Option Obj) : Nat → List Addr → Nat → List Addr → List Addr
  | 0, fr, _, acc => acc ++ fr
  | n + 1, fr, seen, acc => rndE g fr seen [] fun s nw => bfsE g n nw s (acc ++ fr)
def asE (g : Addr → Option Obj) (n : Nat) : List Addr := bfsE g n [mainGlobals] (1 <<< mainGlobals) []
def obsEG (n : Nat) (fa : List Fa) (fn : List DefP) (g : Addr → Option Obj) : AlP := obsP fa fn (He.frG g (cStatics :: asE g n))
def hookE (n : Nat) (fa : List Fa) (fn : List DefP) : PySem.W.Hook where
  α := AlP
  obs := fun s => obsEG n fa fn s.heap.get?
  val := fun _ => valP fn
  says := fun _ h => ∃ K : Fr, K.In h ∧ SaysP fa fn K
  of := fun _ _ e => ⟨_, He.frG_in, e⟩
  keeps := fun _ _ _ ⟨K, hK, c⟩ k => ⟨K, PySem.W.Frag.In.keeps hK k, c⟩
theorem obsEG_eq {n : Nat} {fa : List Fa} {fn : List DefP} {g : Addr → Option Obj} {s : Shared} (h : ∀ a, g a = s.heap.get? a) : obsEG n fa fn g = (hookE n fa fn).obs s := by
  have e : g = s.heap.get? := funext h
  rw [e] <;> rfl
end PL
namespace PL
open PySem PySem.Spec PyProof.Rows L2
def topS (i : Nat) : Stmt := PySem.Challenge.pw_turnedabout_k11_whole_ledgers.main.body.getD i (.Pass ⟨0, 0, 0, 0⟩)
def mkD (at_ : Fr → Addr) (name qual : Str) (s : Stmt) : DefP := ⟨at_, name, qual, defArgs s, defBody s, defScope s⟩
abbrev s_is_from : Stmt := (topS 11)
def d_is_from : DefP := mkD (ga "is_from") "is_from" "is_from" s_is_from
abbrev s_is_entry : Stmt := (topS 20)
def d_is_entry : DefP := mkD (ga "is_entry") "is_entry" "is_entry" s_is_entry
abbrev s_BadEntries_init : Stmt := (inClass (topS 4) 0)
def d_BadEntries_init : DefP := mkD (ma "BadEntries" "__init__") "__init__" "BadEntries.__init__" s_BadEntries_init
abbrev s_BadNumber_init : Stmt := (inClass (topS 3) 0)
def d_BadNumber_init : DefP := mkD (ma "BadNumber" "__init__") "__init__" "BadNumber.__init__" s_BadNumber_init
abbrev s_Ledger_init : Stmt := (inClass (topS 21) 0)
def d_Ledger_init : DefP := mkD (ma "Ledger" "__init__") "__init__" "Ledger.__init__" s_Ledger_init
abbrev s_law_refused_k11 : Stmt := (topS 29)
def d_law_refused_k11 : DefP := mkD (ga "_law_refused") "_law_refused" "_law_refused" s_law_refused_k11
abbrev s_law_taken : Stmt := (topS 27)
def d_law_taken : DefP := mkD (ga "_law_taken") "_law_taken" "_law_taken" s_law_taken
abbrev s_law_wrong_k11 : Stmt := (topS 33)
def d_law_wrong_k11 : DefP := mkD (ga "_law_wrong") "_law_wrong" "_law_wrong" s_law_wrong_k11
abbrev s_is_cell : Stmt := (topS 12)
def d_is_cell : DefP := mkD (ga "is_cell") "is_cell" "is_cell" s_is_cell
abbrev s_is_group : Stmt := (topS 13)
def d_is_group : DefP := mkD (ga "is_group") "is_group" "is_group" s_is_group
abbrev s_BadGroups_init : Stmt := (inClass (topS 2) 0)
def d_BadGroups_init : DefP := mkD (ma "BadGroups" "__init__") "__init__" "BadGroups.__init__" s_BadGroups_init
abbrev s_Table_init : Stmt := (inClass (topS 14) 0)
def d_Table_init : DefP := mkD (ma "Table" "__init__") "__init__" "Table.__init__" s_Table_init
abbrev s_rows_by : Stmt := (topS 24)
def d_rows_by : DefP := mkD (ga "rows_by") "rows_by" "rows_by" s_rows_by
abbrev s_BadMarks_init : Stmt := (inClass (topS 6) 0)
def d_BadMarks_init : DefP := mkD (ma "BadMarks" "__init__") "__init__" "BadMarks.__init__" s_BadMarks_init
abbrev s_need_marks : Stmt := (topS 23)
def d_need_marks : DefP := mkD (ga "need_marks") "need_marks" "need_marks" s_need_marks
abbrev s_BadLedger_init : Stmt := (inClass (topS 5) 0)
def d_BadLedger_init : DefP := mkD (ma "BadLedger" "__init__") "__init__" "BadLedger.__init__" s_BadLedger_init
abbrev s_need_ledger : Stmt := (topS 22)
def d_need_ledger : DefP := mkD (ga "need_ledger") "need_ledger" "need_ledger" s_need_ledger
abbrev s_by_marks : Stmt := (topS 25)
def d_by_marks : DefP := mkD (ga "by_marks") "by_marks" "by_marks" s_by_marks
abbrev s_law_unmarked : Stmt := (topS 30)
def d_law_unmarked : DefP := mkD (ga "_law_unmarked") "_law_unmarked" "_law_unmarked" s_law_unmarked
abbrev s_Table_eq : Stmt := (inClass (topS 14) 3)
def d_Table_eq : DefP := mkD (ma "Table" "__eq__") "__eq__" "Table.__eq__" s_Table_eq
abbrev s_law_key : Stmt := (topS 31)
def d_law_key : DefP := mkD (ga "_law_key") "_law_key" "_law_key" s_law_key
abbrev s_law_by : Stmt := (topS 32)
def d_law_by : DefP := mkD (ga "_law_by") "_law_by" "_law_by" s_law_by
abbrev s_Ledger_eq : Stmt := (inClass (topS 21) 3)
def d_Ledger_eq : DefP := mkD (ma "Ledger" "__eq__") "__eq__" "Ledger.__eq__" s_Ledger_eq
abbrev s_Ledger_ways : Stmt := (inClass (topS 21) 2)
def d_Ledger_ways : DefP := mkD (pg "Ledger" "ways") "ways" "Ledger.ways" s_Ledger_ways
abbrev s_Ledger_entries : Stmt := (inClass (topS 21) 1)
def d_Ledger_entries : DefP := mkD (pg "Ledger" "entries") "entries" "Ledger.entries" s_Ledger_entries
abbrev s_law_made : Stmt := (topS 28)
def d_law_made : DefP := mkD (ga "_law_made") "_law_made" "_law_made" s_law_made
abbrev s_law_k11 : Stmt := (topS 34)
def d_law_k11 : DefP := mkD (ga "law") "law" "law" s_law_k11
def fn : List DefP := [d_is_from, d_is_entry, d_BadEntries_init, d_BadNumber_init, d_Ledger_init, d_law_refused_k11, d_law_taken, d_law_wrong_k11, d_is_cell, d_is_group, d_BadGroups_init, d_Table_init, d_rows_by, d_BadMarks_init, d_need_marks, d_BadLedger_init, d_need_ledger, d_by_marks, d_law_unmarked, d_Table_eq, d_law_key, d_law_by, d_Ledger_eq, d_Ledger_ways, d_Ledger_entries, d_law_made, d_law_k11]
def fa : List Fa := [fGlo ["is_from", "is_entry", "_law_refused", "_law_taken", "_law_wrong", "is_cell", "is_group", "rows_by", "need_marks", "need_ledger", "by_marks", "_law_unmarked", "_law_key", "_law_by", "_law_made", "law", "AboutError", "BadGroups", "BadNumber", "BadEntries"],
  fGlo ["BadLedger", "BadMarks", "Table", "Ledger"],
  fFree ["all", "bool", "enumerate", "int", "isinstance", "len", "list", "min", "range", "set", "sorted", "sum", "tuple"],
  fInt "MOST_WAYS" (4),
  fInt "MOST_GROUPS" (8),
  fInt "MOST" (1000000000000000000000000000000),
  fInt "MOST_ENTRIES" (40),
  fInt "MOST_MARKS" (4),
  fInt "MOST_PARTED" (3),
  fInt "MOST_TIMES" (1000000000),
  fFree ["Unread", "Board", "BadGroup", "BadTable", "BadWay", "BadWhole", "TooMany", "NoTries", "BadWeights", "BadUnread", "Alone", "Full", "InvalidText"],
  fIs ["Table", "Ledger"],
  fCls "Table" ["rows"],
  fCls "Ledger" ["lines", "many"],
  fEq "Ledger",
  fEq "Table",
  fNe "Table",
  fProp "Ledger" "ways",
  fProp "Ledger" "entries",
  fExc "BadGroups" ["index"],
  fExc "BadNumber" ["n"],
  fExc "BadEntries" ["index"],
  fExc "BadLedger" [],
  fExc "BadMarks" [],
  fTop "AboutError",
  fExm "AboutError" ["BadGroups", "BadNumber", "BadEntries", "BadLedger", "BadMarks"] ["BadNumber", "BadEntries", "BadLedger", "BadMarks"]]

abbrev R : PySem.W.OpenRow := PySem.W.OpenLaw.row PySem.Challenge.rw_turnedabout_k11_whole_ledgers
abbrev hk : PySem.W.Hook := hookE 5 fa fn
def ob (s : PySem.W.SharedT) : AlP := obsEG 5 fa fn (HandSHeadRun.getT s)
theorem ob_eq (s : PySem.W.SharedT) : ob s = hk.obs s.abs := obsEG_eq (HandSHeadRun.getT_eq s)
def loose : List Str := ((["AboutError", "BadGroups", "BadNumber", "BadEntries", "BadLedger", "BadMarks", "MOST_WAYS", "MOST_GROUPS", "MOST", "is_from", "is_cell", "is_group", "Table", "MOST_ENTRIES", "MOST_MARKS", "MOST_PARTED", "MOST_TIMES", "is_entry", "Ledger", "need_ledger"] : List Str) ++ (["need_marks", "rows_by", "by_marks", "_law_taken", "_law_made", "_law_refused", "_law_unmarked", "_law_key", "_law_by", "_law_wrong"] : List Str))
theorem run (w : World) : HandSHeadRun.RunEq R (PySem.W.view R.prog [34]) hk ob 20000 loose w := by
  intro os
  kernel_rfl

end PL
set_option Elab.async false
set_option linter.all false
set_option maxRecDepth 100000
set_option maxHeartbeats 2000000
namespace PL
open PySem PySem.Spec PyProof.Rows L2

def Cell.toD : Cell → D
  | .lst l => .lst l
  | .dct l => .dct l
  | .obj c fs => .obj c fs
theorem Res.wp_mono {α : Type} {r : Res α} {P P' : α → Sta → Prop} {X X' : Exn → Sta → Prop} (h : r.wp P X) (hP : ∀ a st, P a st → P' a st) (hX : ∀ e st, X e st → X' e st) : r.wp P' X' := by
  cases r with
  | ok a st => exact hP a st h
  | exc e st => exact hX e st h
  | bad => exact h
theorem wp_bind {α β : Type} {m : M α} {k : α → M β} {st : Sta} {P : β → Sta → Prop} {X : Exn → Sta → Prop} (h : ((m >>= k) st).wp P X) : (m st).wp (fun a st' => (k a st').wp P X) X := by
  have h' : ((m st).bind k).wp P X := h
  cases e : m st with
  | ok a st' =>
    rw [e] at h'
    exact h'
  | exc e' st' =>
    rw [e] at h'
    exact h'
  | bad =>
    rw [e] at h'
    exact h'
section
variable (K : PySem.W.Frag) (mg : Str → Option Value) (F : Hp) (A : List Addr)
end
section
variable {K : PySem.W.Frag} {mg : Str → Option Value} {F F' : Hp} {A A' : List Addr}
theorem Reps.get : ∀ {vs : List V} {ds : List D} {i : Nat} {d : D}, Reps K mg F A vs ds → ds[i]? = some d → ∃ v, vs[i]? = some v ∧ Rep K mg F A v d
  | _, _, _, _, .nil, e => by simp at e
  | _, _, 0, _, .cons h _, e => by
    simp at e
    subst e
    exact ⟨_, rfl, h⟩
  | _, _, i + 1, d, .cons _ r, e => by
    obtain ⟨v, h1, h2⟩ := Reps.get (i := i) (d := d) r (by simpa using e)
    exact ⟨v, by simpa using h1, h2⟩
theorem Reps.app : ∀ {vs ws : List V} {ds es : List D}, Reps K mg F A vs ds → Reps K mg F A ws es → Reps K mg F A (vs ++ ws) (ds ++ es)
  | _, _, _, _, .nil, s => s
  | _, _, _, _, .cons h r, s => .cons h (Reps.app r s)
theorem Reps.take : ∀ {vs : List V} {ds : List D} (n : Nat), Reps K mg F A vs ds → Reps K mg F A (vs.take n) (ds.take n)
  | _, _, 0, _ => by simpa using .nil
  | _, _, _ + 1, .nil => by simpa using .nil
  | _, _, n + 1, .cons h r => by simpa using .cons h (Reps.take n r)
theorem Reps.drop : ∀ {vs : List V} {ds : List D} (n : Nat), Reps K mg F A vs ds → Reps K mg F A (vs.drop n) (ds.drop n)
  | _, _, 0, r => by simpa using r
  | _, _, _ + 1, .nil => by simpa using .nil
  | _, _, n + 1, .cons h r => by simpa using Reps.drop n r
theorem Reps.reverse {vs : List V} {ds : List D} (h : Reps K mg F A vs ds) : Reps K mg F A vs.reverse ds.reverse := by
  induction vs generalizing ds with
  | nil =>
    cases h
    exact .nil
  | cons v vs ih =>
    cases h with
    | cons h r =>
      rw [List.reverse_cons, List.reverse_cons]
      exact Reps.app (ih r) (.cons h .nil)
theorem Reps.rep {vs : List V} {ds : List D} (h : Reps K mg F A vs ds) : ∀ n : Nat, Reps K mg F A (List.replicate n vs).flatten (List.replicate n ds).flatten
  | 0 => .nil
  | n + 1 => by
    rw [List.replicate_succ, List.replicate_succ, List.flatten_cons, List.flatten_cons]
    exact Reps.app h (Reps.rep h n)
theorem RepF.names : ∀ {vs : List (Str × V)} {ds : List (Str × D)}, RepF K mg F A vs ds → vs.map (·.1) = ds.map (·.1)
  | _, _, .nil => rfl
  | _, _, .cons _ r => by
    rw [List.map_cons, List.map_cons, RepF.names r]
end

section
variable (K : PySem.W.Frag) (mg : Str → Option Value)
end
section
variable {K : PySem.W.Frag} {mg : Str → Option Value} {F F' F2 : Hp} {A A' A2 : List Addr} {H H' H2 : Hp} {st st' : Sta} {v : V} {d : D} {a : Addr} {c : Cell}
theorem Ext.refl : Ext F A H F A H := ⟨fun _ _ h => h, fun _ _ h => h, fun _ _ _ h => h, fun _ h => h, fun _ h => .inl h, fun _ h => .inl h⟩
theorem Ext.trans (x : Ext F A H F' A' H') (y : Ext F' A' H' F2 A2 H2) : Ext F A H F2 A2 H2 where
  fro := fun b o h => y.fro b o (x.fro b o h)
  cel := fun k a h => y.cel k a (x.cel k a h)
  keep := fun b o n h => y.keep b o (fun m => (x.newA b m).elim n (fun z => by rw [h] at z; cases z)) (x.keep b o n h)
  there := fun b h => y.there b (x.there b h)
  newF := fun b h => (y.newF b h).elim (x.newF b) (fun z => .inr (Classical.byContradiction fun q => x.there b q z))
  newA := fun b h => (y.newA b h).elim (x.newA b) (fun z => .inr (Classical.byContradiction fun q => x.there b q z))
theorem CellAt.rep {o : HO} (h : CellAt K mg F A H a c) (e : H a = some o) (kF : ∀ b o, F b = some o → F' b = some o) (ha : F' a = some o) : Rep K mg F' A (.ref a) c.toD := by
  cases c with
  | lst l =>
    obtain ⟨vs, e1, r⟩ := h
    rw [e] at e1; cases e1
    exact .lst ha (r.mono kF fun _ _ z => z)
  | dct l =>
    obtain ⟨od, kvs, e1, r⟩ := h
    rw [e] at e1
    have e2 : o = DO a od kvs := Option.some.inj e1
    subst e2
    exact .dct ha (r.mono kF fun _ _ z => z)
  | obj c fs =>
    obtain ⟨C, dx, l, g, e1, r⟩ := h
    rw [e] at e1; cases e1
    exact .obj g ha (r.mono kF fun _ _ z => z)
theorem nodup_get {l : List Addr} (n : l.Nodup) {i j : Nat} {x : Addr} (a : l[i]? = some x) (b : l[j]? = some x) : i = j := by
  obtain ⟨h1, e1⟩ := List.getElem?_eq_some_iff.mp a
  obtain ⟨h2, e2⟩ := List.getElem?_eq_some_iff.mp b
  exact (List.getElem_inj n).mp (e1.trans e2.symm)
theorem Good.addr (G : Good K mg F A st H) {k : Nat} (h : st[k]? = some c) : ∃ a, A[k]? = some a ∧ CellAt K mg F A H a c := by
  have hk : k < A.length := by
    rw [G.len]
    exact (List.getElem?_eq_some_iff.mp h).1
  exact ⟨A[k], List.getElem?_eq_getElem hk, G.con k _ c (List.getElem?_eq_getElem hk) h⟩
theorem Ext.alloc {o : HO} {p : Addr} (G : Good K mg F A st H) (hp : H p = none) : Ext F A H (upd F p o) A (upd H p o) ∧ Good K mg (upd F p o) A st (upd H p o) := by
  have fp : F p = none := by
    cases q : F p with
    | none => rfl
    | some u => rw [G.sub p u q] at hp; cases hp
  have ne : ∀ {b : Addr} {u : HO}, F b = some u → b ≠ p := fun {b u} e z => by subst z; rw [fp] at e; cases e
  have neH : ∀ {b : Addr} {u : HO}, H b = some u → b ≠ p := fun {b u} e z => by subst z; rw [hp] at e; cases e
  have kF : ∀ b u, F b = some u → upd F p o b = some u := fun b u e => by rw [upd_ne (ne e)]; exact e
  refine ⟨⟨kF, fun _ _ h => h, fun b u _ e => by rw [upd_ne (neH e)]; exact e, fun b h => ?_, fun b h => ?_, fun _ h => .inl h⟩, ⟨fun b u e => ?_, G.len, G.nd, fun a ha => ?_, fun k a c h1 h2 => ?_⟩⟩
  · by_cases q : b = p
    · rw [q, upd_same]; exact fun z => nomatch z
    · rw [upd_ne q]; exact h
  · by_cases q : b = p
    · rw [q]; exact .inr hp
    · rw [upd_ne q] at h; exact .inl h
  · by_cases q : b = p
    · subst q; rw [upd_same] at e ⊢; exact e
    · rw [upd_ne q] at e ⊢; exact G.sub b u e
  · have q : a ≠ p := fun z => G.there ha (z ▸ hp)
    rw [upd_ne q]; exact G.off a ha
  · have q : a ≠ p := fun z => G.there (List.mem_of_getElem? h1) (z ▸ hp)
    exact (G.con k a c h1 h2).mono kF (fun _ _ h => h) fun u e => by rw [upd_ne q]; exact e
theorem Ext.write {k : Nat} {p : Addr} {o : HO} (G : Good K mg F A st H) (hp : A[k]? = some p) (hc : CellAt K mg F A (upd H p o) p c) : Ext F A H F A (upd H p o) ∧ Good K mg F A (st.set k c) (upd H p o) := by
  have pA : p ∈ A := List.mem_of_getElem? hp
  refine ⟨⟨fun _ _ h => h, fun _ _ h => h, fun b u n e => by rw [upd_ne (fun z : b = p => n (by rw [z]; exact pA))]; exact e, fun b h => ?_, fun b h => .inl h, fun b h => .inl h⟩, ⟨fun b u e => ?_, by rw [List.length_set]; exact G.len, G.nd, G.off, fun j a c' h1 h2 => ?_⟩⟩
  · by_cases q : b = p
    · rw [q, upd_same]; exact fun z => nomatch z
    · rw [upd_ne q]; exact h
  · rw [upd_ne (fun z : b = p => by subst z; rw [G.off b pA] at e; cases e)]; exact G.sub b u e
  · by_cases q : j = k
    · subst q
      rw [hp] at h1; cases h1
      have hk : j < st.length := by rw [← G.len]; exact (List.getElem?_eq_some_iff.mp hp).1
      rw [List.getElem?_set_self hk] at h2
      cases h2
      exact hc
    · rw [List.getElem?_set_ne (Ne.symm q)] at h2
      exact (G.con j a c' h1 h2).mono (fun _ _ h => h) (fun _ _ h => h) fun u e => by rw [upd_ne (fun z : a = p => q (nodup_get G.nd (by rw [h1, z]) hp))]; exact e
theorem Ext.cellNew {p : Addr} {o : HO} (G : Good K mg F A st H) (hp : H p = none) (hc : CellAt K mg F (A ++ [p]) (upd H p o) p c) : Ext F A H F (A ++ [p]) (upd H p o) ∧ Good K mg F (A ++ [p]) (st ++ [c]) (upd H p o) := by
  have pA : p ∉ A := fun z => G.there z hp
  have fp : F p = none := by
    cases q : F p with
    | none => rfl
    | some u => rw [G.sub p u q] at hp; cases hp
  have neH : ∀ {b : Addr} {u : HO}, H b = some u → b ≠ p := fun {b u} e z => by subst z; rw [hp] at e; cases e
  have cel : ∀ (k : Nat) a, A[k]? = some a → (A ++ [p])[k]? = some a := fun k a h => by
    rw [List.getElem?_append_left (List.getElem?_eq_some_iff.mp h).1]; exact h
  refine ⟨⟨fun _ _ h => h, cel, fun b u n e => by rw [upd_ne (neH e)]; exact e, fun b h => ?_, fun b h => .inl h, fun b h => ?_⟩, ⟨fun b u e => ?_, by simp [G.len], ?_, fun a ha => ?_, fun j a c' h1 h2 => ?_⟩⟩
  · by_cases q : b = p
    · rw [q, upd_same]; exact fun z => nomatch z
    · rw [upd_ne q]; exact h
  · rcases List.mem_append.mp h with z | z
    · exact .inl z
    · simp at z; rw [z]; exact .inr hp
  · rw [upd_ne (neH (G.sub b u e))]; exact G.sub b u e
  · rw [List.nodup_append]
    exact ⟨G.nd, by simp, fun a ha b hb => by simp at hb; subst hb; exact fun z => pA (z ▸ ha)⟩
  · rcases List.mem_append.mp ha with z | z
    · exact G.off a z
    · simp at z; rw [z]; exact fp
  · by_cases hj : j < A.length
    · rw [List.getElem?_append_left hj] at h1
      rw [List.getElem?_append_left (by rw [← G.len]; exact hj)] at h2
      exact (G.con j a c' h1 h2).mono (fun _ _ h => h) cel fun u e => by rw [upd_ne (neH e)]; exact e
    · have e1 := (List.getElem?_eq_some_iff.mp h1).1
      rw [List.length_append, List.length_singleton] at e1
      have ej : j = A.length := by omega
      subst ej
      have h1' : a = p := by simpa using h1.symm
      subst h1'
      rw [G.len] at h2
      have h2' : c' = c := by simpa using h2.symm
      subst h2'
      exact hc
end

section
variable (K : PySem.W.Frag) (mg : Str → Option Value)
end
section
variable {K : PySem.W.Frag} {mg : Str → Option Value} {B : Bs} {g : Gh} {env : Env} {st st' : Sta} {σ : L2.St} {H H' : Hp} {F' : Hp} {A' : List Addr}
theorem Rel.step (R : Rel K mg B g env st σ H) (x : Ext g.F g.A H F' A' H') (G : Good K mg F' A' st' H') : Rel K mg B ⟨F', A', g.ow⟩ env st' σ H' where
  ext := R.ext.trans x
  good := G
  len := R.len
  slot := fun i sv e => by
    have h := R.slot i sv e
    cases sv with
    | fro d =>
      obtain ⟨v, e1, r⟩ := h
      exact ⟨v, e1, r.ext x⟩
    | own c =>
      obtain ⟨e1, r, f, n, b⟩ := h
      obtain ⟨o, ho⟩ := r.thr
      refine ⟨e1, r.mono x.fro x.cel fun o z => x.keep _ o n z, ?_, fun z => ?_, b⟩
      · show F' (g.ow i) = none
        exact Classical.byContradiction fun q => (x.newF _ q).elim (fun z => z f) (fun z => by rw [ho] at z; cases z)
      · exact (x.newA _ z).elim n (fun z => by rw [ho] at z; cases z)
  sep := R.sep
end
end PL
set_option Elab.async false
set_option linter.all false
set_option maxRecDepth 100000
set_option maxHeartbeats 2000000
namespace L2
open PySem PySem.Spec PyProof.Rows
section
variable {X : Cx} {e : Expr}
theorem PE.imp {t t' : TE} (h : PE X e t) (i : ∀ σ H Q, t' σ H Q → t σ H Q) : PE X e t' := ⟨fun pins s σ H Q I z => h.run pins s σ H Q I (i σ H Q z)⟩
theorem PT.imp {t t' : TT} (h : PT X e t) (i : ∀ σ H Q, t' σ H Q → t σ H Q) : PT X e t' := ⟨fun pins s σ H Q I z => h.run pins s σ H Q I (i σ H Q z)⟩
theorem PW.imp {e : Expr} {t t' : TT} (h : PW X e t) (i : ∀ σ H Q, t' σ H Q → t σ H Q) : PW X e t' := ⟨fun wh pins s σ H Q I z => h.run wh pins s σ H Q I (i σ H Q z)⟩
theorem PA.imp {es : List Expr} {t t' : TA} (h : PA X es t) (i : ∀ σ H Q, t' σ H Q → t σ H Q) : PA X es t' := ⟨fun pos pins s σ H Q I z => h.run pos pins s σ H Q I (i σ H Q z)⟩
theorem PS.imp {st : Stmt} {t t' : TS} (h : PS X st t) (i : ∀ D σ H, t' D σ H → t D σ H) : PS X st t' := ⟨fun pins s σ H D I z => h.run pins s σ H D I (i D σ H z)⟩
theorem PSs.imp {st : List Stmt} {t t' : TS} (h : PSs X st t) (i : ∀ D σ H, t' D σ H → t D σ H) : PSs X st t' := ⟨fun pins s σ H D I z => h.run pins s σ H D I (i D σ H z)⟩
end
end L2
namespace PL
open PySem PySem.Spec PyProof.Rows L2

section
variable (K : PySem.W.Frag) (mg : Str → Option Value)
def rE (B : Bs) (W : WX) (f : Env → M D) : TE := fun σ H Q => ∃ g env st, Rel K mg B g env st σ H ∧ WPc K mg W g.F g.A σ H (f env st) (fun d F' A' H' => ∀ v, Rep K mg F' A' v d → Q v H')
def rA (B : Bs) (W : WX) (f : Env → M (List D)) : TA := fun σ H Q => ∃ g env st, Rel K mg B g env st σ H ∧ WPc K mg W g.F g.A σ H (f env st) (fun ds F' A' H' => ∀ vs, Reps K mg F' A' vs ds → Q vs H')
def rT (B : Bs) (W : WX) (f : Env → M Bool) : TT := fun σ H Q => ∃ g env st, Rel K mg B g env st σ H ∧ WPc K mg W g.F g.A σ H (f env st) (fun b F' A' H' => Q b H')
end
section
variable {K : PySem.W.Frag} {mg : Str → Option Value} {W : WX} {F F1 : Hp} {A A1 : List Addr} {σ : L2.St} {H H1 : Hp} {B : Bs} {g : Gh} {env : Env} {st : Sta} {α β : Type}
theorem WPc.shift {r : Res β} {Post : β → Hp → List Addr → Hp → Prop} (h : WPc K mg W F A σ H r Post) (x : Ext F A H F1 A1 H1) : WPc K mg W F1 A1 σ H1 r Post :=
  Res.wp_mono h (fun _ _ z F' A' H' y => z F' A' H' (x.trans y)) fun _ _ z F' A' H' cls dd y => z F' A' H' cls dd (x.trans y)
theorem seqE {f : Env → M D} {k : D → M β} {Post : β → Hp → List Addr → Hp → Prop} {Q : VK} (R : Rel K mg B g env st σ H) (h : WPc K mg W g.F g.A σ H ((f env >>= k) st) Post)
    (cont : ∀ d st1 F1 A1 H1 v, Rel K mg B ⟨F1, A1, g.ow⟩ env st1 σ H1 → Ext g.F g.A H F1 A1 H1 → Rep K mg F1 A1 v d → WPc K mg W F1 A1 σ H1 (k d st1) Post → Q v H1) : rE K mg B W f σ H Q := by
  refine ⟨g, env, st, R, ?_⟩
  refine Res.wp_mono (wp_bind h) (fun d st1 z F1 A1 H1 x G v r => ?_) fun _ _ z => z
  exact cont d st1 F1 A1 H1 v (R.step x G) x r (WPc.shift z x)
theorem seqA {f : Env → M (List D)} {k : List D → M β} {Post : β → Hp → List Addr → Hp → Prop} {Q : List V → Hp → Prop} (R : Rel K mg B g env st σ H) (h : WPc K mg W g.F g.A σ H ((f env >>= k) st) Post)
    (cont : ∀ d st1 F1 A1 H1 v, Rel K mg B ⟨F1, A1, g.ow⟩ env st1 σ H1 → Ext g.F g.A H F1 A1 H1 → Reps K mg F1 A1 v d → WPc K mg W F1 A1 σ H1 (k d st1) Post → Q v H1) : rA K mg B W f σ H Q := by
  refine ⟨g, env, st, R, ?_⟩
  refine Res.wp_mono (wp_bind h) (fun d st1 z F1 A1 H1 x G v r => ?_) fun _ _ z => z
  exact cont d st1 F1 A1 H1 v (R.step x G) x r (WPc.shift z x)
theorem seqT {f : Env → M Bool} {k : Bool → M β} {Post : β → Hp → List Addr → Hp → Prop} {Q : Bool → Hp → Prop} (R : Rel K mg B g env st σ H) (h : WPc K mg W g.F g.A σ H ((f env >>= k) st) Post)
    (cont : ∀ d st1 F1 A1 H1, Rel K mg B ⟨F1, A1, g.ow⟩ env st1 σ H1 → Ext g.F g.A H F1 A1 H1 → WPc K mg W F1 A1 σ H1 (k d st1) Post → Q d H1) : rT K mg B W f σ H Q := by
  refine ⟨g, env, st, R, ?_⟩
  refine Res.wp_mono (wp_bind h) (fun d st1 z F1 A1 H1 x G => ?_) fun _ _ z => z
  exact cont d st1 F1 A1 H1 (R.step x G) x (WPc.shift z x)
theorem WPc.now {a : β} {Post : β → Hp → List Addr → Hp → Prop} (h : WPc K mg W F A σ H ((pure a : M β) st) Post) (G : Good K mg F A st H) : Post a F A H := h F A H Ext.refl G
end

def vr (i : Nat) : Env → M D := fun env => match env[i]? with
  | some (some (.fro d)) => M.pure d
  | _ => M.bad
def cn (d : D) : Env → M D := fun _ => pure d
def op2 (o : D → D → Sta → Option D) (f g : Env → M D) : Env → M D := fun env => f env >>= fun x => g env >>= fun y => M.rd (o x y)
def op1 (o : D → Sta → Option D) (f : Env → M D) : Env → M D := fun env => f env >>= fun x => M.rd (o x)
def args0 : Env → M (List D) := fun _ => pure []
def argsC (f : Env → M D) (fs : Env → M (List D)) : Env → M (List D) := fun env => f env >>= fun x => fs env >>= fun xs => pure (x :: xs)
def opN (o : List D → Sta → Option D) (fs : Env → M (List D)) : Env → M D := fun env => fs env >>= fun xs => M.rd (o xs)
def truth : D → Option Bool
  | .non => some false
  | .bl b => some b
  | .int i => some (i != 0)
  | _ => none
def tst (f : Env → M D) : Env → M Bool := fun env => f env >>= fun x => M.rd fun _ => truth x
def asB : D → Option Bool
  | .bl b => some b
  | _ => none
def tBool (f : Env → M D) : Env → M Bool := fun env => f env >>= fun x => M.rd fun _ => asB x
def mNot (f : Env → M Bool) : Env → M Bool := fun env => f env >>= fun b => pure (!b)
def mAnd (f g : Env → M Bool) : Env → M Bool := fun env => f env >>= fun b => if b then g env else pure false
def mOr (f g : Env → M Bool) : Env → M Bool := fun env => f env >>= fun b => if b then pure true else g env
def mIf {α : Type} (c : Env → M Bool) (f g : Env → M α) : Env → M α := fun env => c env >>= fun b => if b then f env else g env
section
variable (K : PySem.W.Frag) (mg : Str → Option Value)
def OpOk (r : R2) (o : D → D → Sta → Option D) : Prop := ∀ F A H st x y d e z (Q : VK), Good K mg F A st H → Rep K mg F A x d → Rep K mg F A y e → o d e st = some z →
  (∀ F' A' H' v, Ext F A H F' A' H' → Good K mg F' A' st H' → Rep K mg F' A' v z → Q v H') → r x y H Q
def UnOk (r : V → Hp → VK → Prop) (o : D → Sta → Option D) : Prop := ∀ F A H st x d z (Q : VK), Good K mg F A st H → Rep K mg F A x d → o d st = some z →
  (∀ F' A' H' v, Ext F A H F' A' H' → Good K mg F' A' st H' → Rep K mg F' A' v z → Q v H') → r x H Q
def CaOk (r : List V → Hp → VK → Prop) (o : List D → Sta → Option D) : Prop := ∀ F A H st xs ds z (Q : VK), Good K mg F A st H → Reps K mg F A xs ds → o ds st = some z →
  (∀ F' A' H' v, Ext F A H F' A' H' → Good K mg F' A' st H' → Rep K mg F' A' v z → Q v H') → r xs H Q
end

section
variable {X : Cx} {B : Bs} {W : WX} {a b c : Expr} {pos : Pos} {f g h : Env → M D}
theorem pp_var {i : Nat} {x : Str} (hN : X.N[i]? = some x) (hv : Vis X.env.scope x) (hd : (x == ("__debug__" : Str)) = false := by decide) (hcd : (x == ("__classdict__" : Str)) = false := by decide) : PE X (.Name x pos) (rE X.K X.mg B W (vr i)) := by
  refine (pe_var hN hv hd hcd).imp fun σ H Q z => ?_
  obtain ⟨gh, env, st, R, w⟩ := z
  unfold vr at w
  cases e : env[i]? with
  | none =>
    rw [e] at w
    exact w.elim
  | some o =>
    rw [e] at w
    cases o with
    | none => exact w.elim
    | some sv =>
      cases sv with
      | own c => exact w.elim
      | fro d =>
        obtain ⟨v, e1, r⟩ := R.slot i _ e
        exact ⟨v, e1, w _ _ _ Ext.refl R.good v r⟩
theorem pv2 (i : Nat) {x : Str} (hN : X.N[i]? = some x := by rfl) (hv : Vis X.env.scope x := by first | exact Or.inl rfl | exact Or.inr (Or.inl rfl) | exact Or.inr (Or.inr rfl)) (hd : (x == ("__debug__" : Str)) = false := by decide)
    (hcd : (x == ("__classdict__" : Str)) = false := by decide) : PE X (.Name x pos) (rE X.K X.mg B W (vr i)) := pp_var hN hv hd hcd
theorem pp_cn {e : Expr} {v : V} {d : D} (h : PE X e (tC v)) (r : ∀ F A, Rep X.K X.mg F A v d) : PE X e (rE X.K X.mg B W (cn d)) :=
  h.imp fun σ H Q ⟨gh, env, st, R, w⟩ => (w _ _ _ Ext.refl R.good v (r _ _) : Q v H)
theorem pp_int {i : Int} {j : Nat} : PE X (.Constant (.int i) j pos) (rE X.K X.mg B W (cn (.int i))) := pp_cn pe_int fun _ _ => .int i
theorem pp_bl {i : Bool} {j : Nat} : PE X (.Constant (.bool i) j pos) (rE X.K X.mg B W (cn (.bl i))) := pp_cn pe_bl fun _ _ => .bl i
theorem pp_non {j : Nat} : PE X (.Constant .none j pos) (rE X.K X.mg B W (cn .non)) := pp_cn pe_non fun _ _ => .non
theorem pp_str {x : Str} {j : Nat} : PE X (.Constant (.str x) j pos) (rE X.K X.mg B W (cn (.str x))) := pp_cn pe_str fun _ _ => .str x
theorem pp_gint {x : Str} {i : Int} (hg : Gl X x) (hm : ∃ t, X.mg x = some (.int i t)) (hd : (x == ("__debug__" : Str)) = false := by decide) : PE X (.Name x pos) (rE X.K X.mg B W (cn (.int i))) := by
  obtain ⟨t, hm⟩ := hm
  exact pp_cn (v := .int i) (pe_glob hg hm ⟨t, rfl⟩ hd) fun _ _ => .int i
theorem tOp_imp {r : R2} {o : D → D → Sta → Option D} (k : OpOk X.K X.mg r o) (σ : L2.St) (H : Hp) (Q : VK) (z : rE X.K X.mg B W (op2 o f g) σ H Q) : tOp r (rE X.K X.mg B W f) (rE X.K X.mg B W g) σ H Q := by
  obtain ⟨gh, env, st, R, w⟩ := z
  refine seqE R w fun d st1 F1 A1 H1 x R1 x1 r1 w1 => ?_
  refine seqE R1 w1 fun e st2 F2 A2 H2 y R2 x2 r2 w2 => ?_
  obtain ⟨u, eu, w3⟩ := WPc.rd w2
  exact k F2 A2 H2 st2 x y d e u Q R2.good (r1.ext x2) r2 eu fun F' A' H' v x' G' r' => w3 F' A' H' x' G' v r'
theorem pp_op {p : Operator} {r : R2} {o : D → D → Sta → Option D} (ho : OpR X (binaryOp p) r) (k : OpOk X.K X.mg r o) (ha : PE X a (rE X.K X.mg B W f)) (hb : PE X b (rE X.K X.mg B W g)) : PE X (.BinOp a p b pos) (rE X.K X.mg B W (op2 o f g)) :=
  (pe_op ho ha hb).imp fun σ H Q z => tOp_imp k σ H Q z
theorem pp_cmp {p : CmpOp} {r : R2} {o : D → D → Sta → Option D} (ho : OpR X (compareOp p) r) (k : OpOk X.K X.mg r o) (ha : PE X a (rE X.K X.mg B W f)) (hb : PE X b (rE X.K X.mg B W g)) (hm : behindInMarks p b = false) : PE X (.Compare a [p] [b] pos) (rE X.K X.mg B W (op2 o f g)) :=
  (pe_cmpR ho ha hb hm).imp fun σ H Q z => tOp_imp k σ H Q z
theorem pp_ix {r : R2} {o : D → D → Sta → Option D} (hr : IxR X r) (k : OpOk X.K X.mg r o) (ha : PE X a (rE X.K X.mg B W f)) (hb : PE X b (rE X.K X.mg B W g)) (hs : PlainIx b) : PE X (.Subscript a b pos) (rE X.K X.mg B W (op2 o f g)) :=
  (pe_ix hr ha hb hs).imp fun σ H Q z => tOp_imp k σ H Q z
theorem tUn_imp {r : V → Hp → VK → Prop} {o : D → Sta → Option D} (k : UnOk X.K X.mg r o) (σ : L2.St) (H : Hp) (Q : VK) (z : rE X.K X.mg B W (op1 o f) σ H Q) : tUn r (rE X.K X.mg B W f) σ H Q := by
  obtain ⟨gh, env, st, R, w⟩ := z
  refine seqE R w fun d st1 F1 A1 H1 x R1 x1 r1 w1 => ?_
  obtain ⟨u, eu, w3⟩ := WPc.rd w1
  exact k F1 A1 H1 st1 x d u Q R1.good r1 eu fun F' A' H' v x' G' r' => w3 F' A' H' x' G' v r'
theorem pp_un {p : UnaryOp} {r : V → Hp → VK → Prop} {o : D → Sta → Option D} (ho : UnR X (unaryOp p) r) (k : UnOk X.K X.mg r o) (ha : PE X a (rE X.K X.mg B W f)) : PE X (.UnaryOp p a pos) (rE X.K X.mg B W (op1 o f)) :=
  (pe_un ho ha).imp fun σ H Q z => tUn_imp k σ H Q z
theorem pp_nil : PA X [] (rA X.K X.mg B W args0) := pa_nil.imp fun σ H Q ⟨gh, env, st, R, w⟩ => WPc.now w R.good [] .nil
theorem pp_cons {es : List Expr} {fs : Env → M (List D)} (ha : PE X a (rE X.K X.mg B W f)) (hr : PA X es (rA X.K X.mg B W fs)) (hs : starEach (a :: es) X.env = (false, eval a X.env) :: starEach es X.env := by rfl) : PA X (a :: es) (rA X.K X.mg B W (argsC f fs)) := by
  refine (pa_cons ha hr hs).imp fun σ H Q z => ?_
  obtain ⟨gh, env, st, R, w⟩ := z
  refine seqE R w fun d st1 F1 A1 H1 x R1 x1 r1 w1 => ?_
  refine seqA R1 w1 fun ds st2 F2 A2 H2 xs R2 x2 r2 w2 => ?_
  exact WPc.now w2 R2.good (x :: xs) (.cons (r1.ext x2) r2)
theorem tCB_imp {fs : Env → M (List D)} {r : List V → Hp → VK → Prop} {o : List D → Sta → Option D} (k : CaOk X.K X.mg r o) (σ : L2.St) (H : Hp) (Q : VK) (z : rE X.K X.mg B W (opN o fs) σ H Q) : tCB r (rA X.K X.mg B W fs) σ H Q := by
  obtain ⟨gh, env, st, R, w⟩ := z
  refine seqA R w fun d st1 F1 A1 H1 x R1 x1 r1 w1 => ?_
  obtain ⟨u, eu, w3⟩ := WPc.rd w1
  exact k F1 A1 H1 st1 x d u Q R1.good r1 eu fun F' A' H' v x' G' r' => w3 F' A' H' x' G' v r'
theorem pp_callB {id : String} {x : Str} {p : Pos} {es : List Expr} {fs : Env → M (List D)} {r : List V → Hp → VK → Prop} {o : List D → Sta → Option D} (hc : CallR X (.builtin id) r) (k : CaOk X.K X.mg r o) (hg : Gl X x) (hm : X.mg x = none) (hv : bootBuiltins x = some (.builtin id)) (ha : PA X (a :: es) (rA X.K X.mg B W fs)) (hn : x ≠ "__name__" := by decide) (hdb : (x == ("__debug__" : Str)) = false := by decide)
    (he : starEach (a :: es) X.env = (false, eval a X.env) :: starEach es X.env := by rfl) (hpl : (backTo pos (starEach es X.env)).any (·.1) = false := by rfl) :
    PE X (.Call (.Name x p) (a :: es) [] pos) (rE X.K X.mg B W (opN o fs)) := (pe_callB hc hg hm hv ha hn hdb he hpl).imp fun σ H Q z => tCB_imp k σ H Q z
theorem pp_callTy {T : String} {x : Str} {p : Pos} {es : List Expr} {fs : Env → M (List D)} {r : List V → Hp → VK → Prop} {o : List D → Sta → Option D} (hc : CallR X (.type T) r) (k : CaOk X.K X.mg r o) (hg : Gl X x) (hm : X.mg x = none) (hv : bootBuiltins x = some (.type T)) (ha : PA X (a :: es) (rA X.K X.mg B W fs)) (hn : x ≠ "__name__" := by decide) (hdb : (x == ("__debug__" : Str)) = false := by decide)
    (he : starEach (a :: es) X.env = (false, eval a X.env) :: starEach es X.env := by rfl) (hpl : (backTo pos (starEach es X.env)).any (·.1) = false := by rfl) :
    PE X (.Call (.Name x p) (a :: es) [] pos) (rE X.K X.mg B W (opN o fs)) := (pe_callTy hc hg hm hv ha hn hdb he hpl).imp fun σ H Q z => tCB_imp k σ H Q z
def mkTup (ds : List D) (_ : Sta) : Option D := if ds.length ≤ sizeLine then some (.tup ds) else none
def mkLst (ds : List D) (_ : Sta) : Option D := if ds.length ≤ sizeLine then some (.lst ds) else none
theorem rep_tup_new {F : Hp} {A : List Addr} {p : Addr} {xs : List V} {ds : List D} (r : Reps X.K X.mg F A xs ds) (hp : F p = none) : Rep X.K X.mg (upd F p (.tup xs)) A (.ref p) (.tup ds) :=
  .tup (SqT.of upd_same) (r.mono (fun b o e => by rw [upd_ne (ne_of_none e hp)]; exact e) fun _ _ z => z)
theorem rep_lst_new {F : Hp} {A : List Addr} {p : Addr} {xs : List V} {ds : List D} (r : Reps X.K X.mg F A xs ds) (hp : F p = none) : Rep X.K X.mg (upd F p (.lst xs)) A (.ref p) (.lst ds) :=
  .lst upd_same (r.mono (fun b o e => by rw [upd_ne (ne_of_none e hp)]; exact e) fun _ _ z => z)
theorem Good.fnone {K : PySem.W.Frag} {mg : Str → Option Value} {F : Hp} {A : List Addr} {st : Sta} {H : Hp} (G : Good K mg F A st H) {p : Addr} (hp : H p = none) : F p = none := by
  cases q : F p with
  | none => rfl
  | some u => rw [G.sub p u q] at hp; cases hp
theorem pp_tup {es : List Expr} {fs : Env → M (List D)} {x1} (h : PA X es (rA X.K X.mg B W fs)) : PE X (.Tuple es x1 pos) (rE X.K X.mg B W (opN mkTup fs)) := by
  refine (pe_tup h).imp fun σ H Q z => ?_
  obtain ⟨gh, env, st, R, w⟩ := z
  refine seqA R w fun ds st1 F1 A1 H1 xs R1 x1 r1 w1 => ?_
  obtain ⟨u, eu, w3⟩ := WPc.rd w1
  unfold mkTup at eu
  split at eu
  · rename_i hl
    cases eu
    refine ⟨by rw [r1.length]; exact hl, fun p hp => ?_⟩
    obtain ⟨x2, G2⟩ := Ext.alloc (o := .tup xs) R1.good hp
    exact w3 _ _ _ x2 G2 _ (rep_tup_new r1 (R1.good.fnone hp))
  · cases eu
theorem pp_lst {es : List Expr} {fs : Env → M (List D)} (h : PA X es (rA X.K X.mg B W fs)) : PE X (.List es pos) (rE X.K X.mg B W (opN mkLst fs)) := by
  refine (pe_lst h).imp fun σ H Q z => ?_
  obtain ⟨gh, env, st, R, w⟩ := z
  refine seqA R w fun ds st1 F1 A1 H1 xs R1 x1 r1 w1 => ?_
  obtain ⟨u, eu, w3⟩ := WPc.rd w1
  unfold mkLst at eu
  split at eu
  · rename_i hl
    cases eu
    refine ⟨by rw [r1.length]; exact hl, fun p hp => ?_⟩
    obtain ⟨x2, G2⟩ := Ext.alloc (o := .lst xs) R1.good hp
    exact w3 _ _ _ x2 G2 _ (rep_lst_new r1 (R1.good.fnone hp))
  · cases eu
variable {tf tg : Env → M Bool} {rest : List Expr}
theorem tst_rep {F : Hp} {A : List Addr} {H : Hp} {v : V} {d : D} {k : Bool} (r : Rep X.K X.mg F A v d) (e : truth d = some k) : TruV X.K v H k := by
  cases r <;> simp [truth] at e
  · subst e; rfl
  · subst e; rfl
  · subst e; rfl
theorem pq_truth (ha : PE X a (rE X.K X.mg B W f)) (he : ∀ whole, isTrue a X.env whole = (do let v ← whole; standAt a.pos; holding [v] (truthy v)) := by intro _; rfl) : PT X a (rT X.K X.mg B W (tst f)) := by
  refine (pt_truth ha he).imp fun σ H Q z => ?_
  obtain ⟨gh, env, st, R, w⟩ := z
  refine seqE R w fun d st1 F1 A1 H1 x R1 x1 r1 w1 => ?_
  obtain ⟨u, eu, w3⟩ := WPc.rd w1
  exact ⟨u, tst_rep r1 eu, w3 _ _ _ Ext.refl R1.good⟩
theorem tBool_rep {d : D} {v : V} {F : Hp} {A : List Addr} {u : Bool} (r : Rep X.K X.mg F A v d) (e : asB d = some u) : v = .bl u := by
  cases d <;> first
    | (cases r
       cases e
       rfl)
    | cases e
theorem pq_cmp {p : CmpOp} {r : R2} {o : D → D → Sta → Option D} (ho : OpR X (compareOp p) r) (k : OpOk X.K X.mg r o) (ha : PE X a (rE X.K X.mg B W f)) (hb : PE X b (rE X.K X.mg B W g)) (hm : behindInMarks p b = false) : PT X (.Compare a [p] [b] pos) (rT X.K X.mg B W (tBool (op2 o f g))) := by
  refine (pt_cmpR ho ha hb hm).imp fun σ H Q z => ?_
  obtain ⟨gh, env, st, R, w⟩ := z
  refine tOp_imp k σ H _ ⟨gh, env, st, R, ?_⟩
  refine Res.wp_mono (wp_bind w) (fun d st1 y F' A' H' x G v r' => ?_) fun _ _ y => y
  obtain ⟨u, eu, w3⟩ := WPc.rd y
  exact ⟨u, tBool_rep r' eu, w3 F' A' H' x G⟩
theorem pq_not (ha : PT X a (rT X.K X.mg B W tf)) : PT X (.UnaryOp .Not a pos) (rT X.K X.mg B W (mNot tf)) := by
  refine (pt_not ha).imp fun σ H Q z => ?_
  obtain ⟨gh, env, st, R, w⟩ := z
  exact seqT R w fun d st1 F1 A1 H1 R1 x1 w1 => WPc.now w1 R1.good
theorem tAnd_imp (σ : L2.St) (H : Hp) (Q : Bool → Hp → Prop) (z : rT X.K X.mg B W (mAnd tf tg) σ H Q) : tAnd (rT X.K X.mg B W tf) (rT X.K X.mg B W tg) σ H Q := by
  obtain ⟨gh, env, st, R, w⟩ := z
  refine seqT R w fun d st1 F1 A1 H1 R1 x1 w1 => ?_
  cases d with
  | true =>
    rw [if_pos rfl]
    exact ⟨_, env, st1, R1, w1⟩
  | false =>
    rw [if_neg Bool.false_ne_true]
    exact WPc.now w1 R1.good
theorem tOr_imp (σ : L2.St) (H : Hp) (Q : Bool → Hp → Prop) (z : rT X.K X.mg B W (mOr tf tg) σ H Q) : tOr (rT X.K X.mg B W tf) (rT X.K X.mg B W tg) σ H Q := by
  obtain ⟨gh, env, st, R, w⟩ := z
  refine seqT R w fun d st1 F1 A1 H1 R1 x1 w1 => ?_
  cases d with
  | false =>
    rw [if_neg Bool.false_ne_true]
    exact ⟨_, env, st1, R1, w1⟩
  | true =>
    rw [if_pos rfl]
    exact WPc.now w1 R1.good
theorem pq_and1 (ha : PT X a (rT X.K X.mg B W tf)) : PW X (.BoolOp .And [a] pos) (rT X.K X.mg B W tf) := pw_and1 ha
theorem pq_or1 (ha : PT X a (rT X.K X.mg B W tf)) : PW X (.BoolOp .Or [a] pos) (rT X.K X.mg B W tf) := pw_or1 ha
theorem pq_and (ha : PT X a (rT X.K X.mg B W tf)) (hb : PW X (.BoolOp .And (b :: rest) pos) (rT X.K X.mg B W tg)) : PW X (.BoolOp .And (a :: b :: rest) pos) (rT X.K X.mg B W (mAnd tf tg)) := PW.imp (pw_and ha hb) fun σ H Q z => tAnd_imp σ H Q z
theorem pq_or (ha : PT X a (rT X.K X.mg B W tf)) (hb : PW X (.BoolOp .Or (b :: rest) pos) (rT X.K X.mg B W tg)) : PW X (.BoolOp .Or (a :: b :: rest) pos) (rT X.K X.mg B W (mOr tf tg)) := PW.imp (pw_or ha hb) fun σ H Q z => tOr_imp σ H Q z
def mAndV (f g : Env → M D) : Env → M D := fun env => tBool f env >>= fun b => if b then g env else pure (.bl false)
def mNotV (f : Env → M D) : Env → M D := fun env => tBool f env >>= fun b => pure (.bl (!b))
theorem seqB {f : Env → M D} {β : Type} {k : Bool → M β} {Post : β → Hp → List Addr → Hp → Prop} {Q : VK} {K : PySem.W.Frag} {mg : Str → Option Value} {σ : L2.St} {H : Hp} {g : Gh} {env : Env} {st : Sta} (R : Rel K mg B g env st σ H) (h : WPc K mg W g.F g.A σ H ((tBool f env >>= k) st) Post)
    (cont : ∀ b st1 F1 A1 H1, Rel K mg B ⟨F1, A1, g.ow⟩ env st1 σ H1 → Ext g.F g.A H F1 A1 H1 → WPc K mg W F1 A1 σ H1 (k b st1) Post → Q (.bl b) H1) : rE K mg B W f σ H Q := by
  have h2 : WPc K mg W g.F g.A σ H ((f env >>= fun x => (M.rd fun _ => asB x) >>= k) st) Post := by
    refine (congrArg (fun r => WPc K mg W g.F g.A σ H r Post) ?_).mp h
    show ((f env st).bind _).bind k = (f env st).bind _
    cases f env st <;> rfl
  refine seqE R h2 fun d st1 F1 A1 H1 x R1 x1 r1 w1 => ?_
  have w2 := wp_bind w1
  cases d <;> first
    | exact w2.elim
    | (cases r1
       exact cont _ st1 F1 A1 H1 R1 x1 w2)
theorem pp_one {op : BoolOp} (h : PE X a (rE X.K X.mg B W f)) : PE X (.BoolOp op [a] pos) (rE X.K X.mg B W f) := pe_one h
theorem pp_and (ha : PE X a (rE X.K X.mg B W f)) (hb : PE X (.BoolOp .And (b :: rest) pos) (rE X.K X.mg B W g)) : PE X (.BoolOp .And (a :: b :: rest) pos) (rE X.K X.mg B W (mAndV f g)) := by
  refine (pe_and ha hb).imp fun σ H Q z => ?_
  obtain ⟨gh, env, st, R, w⟩ := z
  refine seqB R w fun d st1 F1 A1 H1 R1 x1 w1 => ⟨d, rfl, ?_⟩
  cases d with
  | true =>
    rw [if_pos rfl]
    exact ⟨_, env, st1, R1, w1⟩
  | false =>
    rw [if_neg Bool.false_ne_true]
    exact WPc.now w1 R1.good _ (.bl false)
theorem pp_not (ha : PE X a (rE X.K X.mg B W f)) : PE X (.UnaryOp .Not a pos) (rE X.K X.mg B W (mNotV f)) := by
  refine (pe_not ha).imp fun σ H Q z => ?_
  obtain ⟨gh, env, st, R, w⟩ := z
  exact seqB R w fun d st1 F1 A1 H1 R1 x1 w1 => ⟨d, rfl, WPc.now w1 R1.good _ (.bl _)⟩
theorem pp_if (hc : PT X c (rT X.K X.mg B W tf)) (ha : PE X a (rE X.K X.mg B W f)) (hb : PE X b (rE X.K X.mg B W g)) : PE X (.IfExp c a b pos) (rE X.K X.mg B W (mIf tf f g)) := by
  refine (pe_ifExp hc ha hb).imp fun σ H Q z => ?_
  obtain ⟨gh, env, st, R, w⟩ := z
  refine seqT R w fun d st1 F1 A1 H1 R1 x1 w1 => ?_
  cases d with
  | true =>
    rw [if_pos rfl]
    exact ⟨_, env, st1, R1, w1⟩
  | false =>
    rw [if_neg Bool.false_ne_true]
    exact ⟨_, env, st1, R1, w1⟩
end
end PL
set_option Elab.async false
set_option linter.all false
set_option maxRecDepth 100000
set_option maxHeartbeats 2000000
namespace PL
open PySem PySem.Spec PyProof.Rows L2

def addD (x y : D) (_ : Sta) : Option D := match x, y with
  | .int i, .int j => some (.int (i + j))
  | .str i, .str j => if i.length + j.length ≤ sizeLine then some (.str (i ++ j)) else none
  | .tup i, .tup j => if i.length + j.length ≤ sizeLine then some (.tup (i ++ j)) else none
  | .lst i, .lst j => if i.length + j.length ≤ sizeLine then some (.lst (i ++ j)) else none
  | _, _ => none
def subD (x y : D) (_ : Sta) : Option D := match x, y with
  | .int i, .int j => some (.int (i - j))
  | _, _ => none
def mulOk (i j : Int) : Bool := decide (-(2 ^ 64) < i ∧ i < 2 ^ 64) || (decide (-(2 ^ 64) < j ∧ j < 2 ^ 64) || decide (i.natAbs.log2 + j.natAbs.log2 < 1000000))
def mulD (x y : D) (_ : Sta) : Option D := match x, y with
  | .int i, .int j => if mulOk i j then some (.int (i * j)) else none
  | .lst l, .int k => if -(2 ^ 63) ≤ k ∧ k < 2 ^ 63 ∧ l.length * k.toNat ≤ sizeLine then some (.lst (List.replicate k.toNat l).flatten) else none
  | .tup l, .int k => if l ≠ [] ∧ 0 ≤ k ∧ k ≤ 1000 ∧ l.length ≤ 1000 then some (.tup (List.replicate k.toNat l).flatten) else none
  | _, _ => none
def modD (x y : D) (_ : Sta) : Option D := match x, y with
  | .int i, .int j => if 0 < j then some (.int (i % j)) else none
  | _, _ => none
def fdvD (x y : D) (_ : Sta) : Option D := match x, y with
  | .int i, .int j => if 0 < j ∧ (j < 1073741824 ∨ j.natAbs.log2 < 9000) then some (.int (i / j)) else none
  | _, _ => none
def powD (x y : D) (_ : Sta) : Option D := match x, y with
  | .int i, .int j => if 0 ≤ j ∧ j ≤ 1000 ∧ i.natAbs < 2 ^ 64 then some (.int (i ^ j.toNat)) else none
  | _, _ => none
def negD (x : D) (_ : Sta) : Option D := match x with
  | .int i => some (.int (-i))
  | _ => none
def cmpD (p : Int → Int → Bool) (x y : D) (_ : Sta) : Option D := match x, y with
  | .int i, .int j => some (.bl (p i j))
  | _, _ => none
abbrev ltD := cmpD fun i j => decide (i < j)
abbrev leD := cmpD fun i j => decide (i ≤ j)
abbrev gtD := cmpD fun i j => decide (j < i)
abbrev geD := cmpD fun i j => decide (j ≤ i)
def eqB (x y : D) : Bool := PyData.eqv (pd x) (pd y)
def eqD (x y : D) (_ : Sta) : Option D := if plain x && plain y then some (.bl (eqB x y)) else none
def neD (x y : D) (_ : Sta) : Option D := if plain x && plain y then some (.bl (!eqB x y)) else none
def isNon : D → Bool
  | .non => true
  | _ => false
def intOf : D → Option Int
  | .int i => some i
  | _ => none
def isInt : D → Bool
  | .int _ => true
  | _ => false
def ixD (x y : D) (st : Sta) : Option D := match y with
  | .int i => (match x with
    | .lst l => atI l i
    | .tup l => atI l i
    | .fix l => atI l i
    | .str z => if z.length ≤ sizeLine then (atI z.cps.toList i).map fun c => .str ⟨#[c]⟩ else none
    | .cell k => (match st[k]? with
      | some (.lst l) => atI l i
      | _ => none)
    | _ => none)
  | _ => none
def cutG {α : Type} (xs : List α) (lo hi : Option Int) : List α := (xs.drop (HT.sIx xs.length 0 lo)).take (HT.sIx xs.length xs.length hi - HT.sIx xs.length 0 lo)
def cutD (x : D) (lo hi : Option Int) (_ : Sta) : Option D := match x with
  | .lst l => some (.lst (cutG l lo hi))
  | .tup l => some (.tup (cutG l lo hi))
  | _ => none
def lenD (xs : List D) (st : Sta) : Option D := match xs with
  | [.lst l] => some (.int l.length)
  | [.tup l] => some (.int l.length)
  | [.fix l] => some (.int l.length)
  | [.str z] => if z.length ≤ sizeLine then some (.int z.length) else none
  | [.cell k] => (match st[k]? with
    | some (.lst l) => some (.int l.length)
    | _ => none)
  | _ => none
def tupleD (xs : List D) (_ : Sta) : Option D := match xs with
  | [.lst l] => some (.tup l)
  | [.tup l] => some (.tup l)
  | _ => none
def intD (xs : List D) (_ : Sta) : Option D := match xs with
  | [.int i] => some (.int i)
  | [.bl b] => some (.int (if b then 1 else 0))
  | _ => none
def intsOf : List D → Option (List Int)
  | [] => some []
  | .int i :: r => (intsOf r).map (i :: ·)
  | _ :: _ => none
def blsOf : List D → Option (List Bool)
  | [] => some []
  | .bl i :: r => (blsOf r).map (i :: ·)
  | _ :: _ => none
def sumD (xs : List D) (_ : Sta) : Option D := match xs with
  | [.lst l] => (intsOf l).map fun ns => .int ns.sum
  | [.tup l] => (intsOf l).map fun ns => .int ns.sum
  | _ => none
def allD (xs : List D) (_ : Sta) : Option D := match xs with
  | [.lst l] => (blsOf l).map fun ns => .bl (ns.all id)
  | _ => none
def min2D (xs : List D) (_ : Sta) : Option D := match xs with
  | [.int i, .int j] => some (.int (if j < i then j else i))
  | _ => none
section
variable {K : PySem.W.Frag} {mg : Str → Option Value} {F : Hp} {A : List Addr} {H : Hp}
theorem ok_int {p : Int → Int → Bool} {g : Int → Int → V} (hg : ∀ i j, g i j = .bl (p i j)) : OpOk K mg (rI0 g) (cmpD p) := by
  intro F A H st x y d e z Q G rx ry h q
  unfold cmpD at h
  split at h
  · cases rx; cases ry; cases h
    exact ⟨_, _, rfl, rfl, by rw [hg]; exact q _ _ _ _ Ext.refl G (.bl _)⟩
  · cases h
theorem ok_lt : OpOk K mg (rI0 fun i j => .bl (decide (i < j))) ltD := ok_int fun _ _ => rfl
theorem ok_le : OpOk K mg (rI0 fun i j => .bl (decide (i ≤ j))) leD := ok_int fun _ _ => rfl
theorem ok_gt : OpOk K mg (rI0 fun i j => .bl (decide (j < i))) gtD := ok_int fun _ _ => rfl
theorem ok_ge : OpOk K mg (rI0 fun i j => .bl (decide (j ≤ i))) geD := ok_int fun _ _ => rfl
abbrev rAddA (K : PySem.W.Frag) : R2 := fun x y H Q => rI0 (fun i j => .int (i + j)) x y H Q ∨ (rCatA K x y H Q ∨ (rCat x y H Q ∨ ∃ i j, x = .str i ∧ y = .str j ∧ i.length + j.length ≤ sizeLine ∧ Q (.str (i ++ j)) H))
theorem op_addA {X : Cx} : OpR X (binaryOp .Add) (rAddA X.K) := OpR.or op_add (OpR.or op_catA (OpR.or op_cat op_add_str))
theorem ok_add : OpOk K mg (rAddA K) addD := by
  intro F A H st x y d e z Q G rx ry h q
  unfold addD at h
  split at h
  · cases rx; cases ry; cases h
    exact .inl ⟨_, _, rfl, rfl, q _ _ _ _ Ext.refl G (.int _)⟩
  · split at h
    · rename_i hl
      cases rx; cases ry; cases h
      exact .inr (.inr (.inr ⟨_, _, rfl, rfl, hl, q _ _ _ _ Ext.refl G (.str _)⟩))
    · cases h
  · rename_i i j
    split at h
    · rename_i hl
      cases h
      cases rx with
      | @tup a vs _ s1 r1 => cases ry with
        | @tup b ws _ s2 r2 =>
          refine .inr (.inl ⟨a, b, vs, ws, rfl, rfl, SqT.mono s1 G.sub, SqT.mono s2 G.sub, by rw [r1.length, r2.length]; exact hl, fun e => ?_, fun _ e => ?_, fun _ _ p hp => ?_⟩)
          · subst e
            cases r1
            exact q _ _ _ _ Ext.refl G (.tup s2 r2)
          · subst e
            cases r2
            rw [List.append_nil] at q
            exact q _ _ _ _ Ext.refl G (.tup s1 r1)
          · obtain ⟨x2, G2⟩ := Ext.alloc (o := .tup (vs ++ ws)) G hp
            exact q _ _ _ _ x2 G2 (.tup (SqT.of upd_same) ((r1.app r2).ext x2))
    · cases h
  · rename_i i j
    split at h
    · rename_i hl
      cases h
      cases rx with
      | @lst a vs _ s1 r1 => cases ry with
        | @lst b ws _ s2 r2 =>
          refine .inr (.inr (.inl ⟨a, b, vs, ws, rfl, rfl, G.sub _ _ s1, G.sub _ _ s2, by rw [r1.length, r2.length]; exact hl, fun p hp => ?_⟩))
          obtain ⟨x2, G2⟩ := Ext.alloc (o := .lst (vs ++ ws)) G hp
          exact q _ _ _ _ x2 G2 (.lst upd_same ((r1.app r2).ext x2))
    · cases h
  · cases h
theorem ok_sub : OpOk K mg (rI0 fun i j => .int (i - j)) subD := by
  intro F A H st x y d e z Q G rx ry h q
  unfold subD at h
  split at h
  · cases rx; cases ry; cases h
    exact ⟨_, _, rfl, rfl, q _ _ _ _ Ext.refl G (.int _)⟩
  · cases h
theorem tuple_mul1 (l : Addr) (items : Array Value) (n : Nat) (dd : Option Addr) (sl : Array (Option Value)) (x : Int) (u : Tok) (K : List (Str × Value)) (hK : K.isEmpty = true) (hx : x = 1) :
    Meets (Builtin.«tuple.__mul__» { pos := [.ref l, .int x u], kw := K }) fun _ R s =>
      s.heap.get? l = some { cls := .type "tuple", dict := dd, data := .seq items n, slots := sl } ∧ R (.ok (.ret (.ref l))) s := by
  have c0 : (decide (x < -2 ^ 63) || decide (x ≥ 2 ^ 63)) = false := by rw [hx]; decide
  have c1 : (items.isEmpty || x == 1) = true := by rw [hx]; simp
  refine Meets.of_wp fun prog w A R s h => ?_
  obtain ⟨hl, h⟩ := h
  have f1 := AutoSeq1.idx_int
  refine wpAny_ite_false (by simp [hK]) ?_
  refine wpAny_bind ?_
  refine wpAny_bind ?_
  refine wpAny_pure ?_
  refine wpAny_pure ?_
  refine wpAny_ite_false (by simpa using c0) ?_
  refine wpAny_bind ?_
  refine wpAny_bind ?_
  refine wpAny_bind ?_
  refine wpAny_load' hl ?_
  refine wpAny_pure ?_
  refine wpAny_pure ?_
  refine wpAny_ite_true (by simpa using c1) ?_
  refine wpAny_bind ?_
  refine wpAny_bind ?_
  refine wpAny_bind ?_
  refine wpAny_load' hl ?_
  refine wpAny_pure ?_
  refine wpAny_pure ?_
  refine wpAny_ite_true (by simp) ?_
  refine wpAny_bind ?_
  refine wpAny_rule ?_
  refine wpAny_pure ?_
  exact ⟨_, rfl, h⟩
def rRep1 (K : PySem.W.Frag) : R2 := fun x y H Q => ∃ l xs, x = V.ref l ∧ y = V.int 1 ∧ SqT K H l xs ∧ Q (V.ref l) H
theorem op_repT1 {X : Cx} : OpR X (binaryOp .Mult) (rRep1 X.K) := by
  intro pins s σ H x y v u Q I rx ry h
  obtain ⟨l, xs, rfl, rfl, hT, q⟩ := h
  cases rx
  obtain ⟨t, rfl⟩ := ry
  obtain ⟨its, r, ⟨w, ho, hc, n, hd⟩, hs⟩ := I.tuple hT
  obtain ⟨cls, dd, data, sl⟩ := w
  dsimp only at hc hd
  subst hc hd
  refine wpAny_binaryOp_repeat_ref (by decide) ⟨_, ho, rfl⟩ (fun s' => typeIs_int s' 1 t) noFill_tuple_mul F.fills_int_mul F.slot_int_rmul repeat_tuple F.slot_int_index.lookup ?_
  refine call_meets F.slot_int_rmul (typeIs_int s 1 t) F.entry_int_rmul (F.args_int_rmul_2 (.int 1 t) (.ref l)) (int_rmul_tuple 1 t l its.toArray n dd sl) ?_
  refine ⟨ho, rfl, ⟨_, ho, rfl⟩, ?_⟩
  refine call_meets F.slot_tuple_mul ⟨_, ho, rfl⟩ F.entry_tuple_mul (F.args_tuple_mul_2 (.ref l) (.int 1 t)) (tuple_mul1 l its.toArray n dd sl 1 t [] rfl rfl) ?_
  exact ⟨ho, V.ref l, H, I, rfl, q⟩
theorem tuple_mul0 (l : Addr) (items : Array Value) (n : Nat) (dd : Option Addr) (sl : Array (Option Value)) (x : Int) (u : Tok) (hx : x = 0) (hi : items.isEmpty = false) :
    Meets (Builtin.«tuple.__mul__» ⟨[.ref l, .int x u], []⟩) (fun _ R s => s.heap.get? l = some { cls := .type "tuple", dict := dd, data := .seq items n, slots := sl } ∧
      R (.ok (.ret (Value.ref s.heap.objs.size))) { s with heap := s.heap.push { cls := Value.type "tuple", data := Data.seq #[] }, toks := s.toks }) :=
  .of_wp fun prog w A R s h => by
    have c0 : (decide (x < -(2 ^ 63)) || decide (x ≥ 2 ^ 63)) = false := by rw [hx]; decide
    have c1 : (items.isEmpty || x == 1) = false := by rw [hx, hi]; decide
    have c2 : (decide (x ≤ 0) || items.isEmpty) = true := by rw [hx]; rfl
    obtain ⟨hp, g, d, tk, os⟩ := s
    obtain ⟨hl, h⟩ := h
    have f1 := AutoSeq1.idx_int
    wp_walk using wpAny_loadPart' hl
    repeat (first
      | (refine wpAny_ite_false (decide_eq_false (by rw [c0]; exact Bool.false_ne_true)) ?_; wp_walk using wpAny_loadPart' hl)
      | (refine wpAny_ite_false (decide_eq_false (by rw [c1]; exact Bool.false_ne_true)) ?_; wp_walk using wpAny_loadPart' hl)
      | (refine wpAny_ite_true (decide_eq_true c2) ?_; wp_walk using wpAny_loadPart' hl))
    exact ⟨_, rfl, h⟩
def rRep0 (K : PySem.W.Frag) : R2 := fun x y H Q => ∃ l xs, x = V.ref l ∧ y = V.int 0 ∧ SqT K H l xs ∧ xs ≠ [] ∧ ∀ p, H p = none → Q (V.ref p) (upd H p (.tup []))
theorem op_repT0 {X : Cx} : OpR X (binaryOp .Mult) (rRep0 X.K) := by
  intro pins s σ H x y v u Q I rx ry h
  obtain ⟨l, xs, rfl, rfl, hT, hne, q⟩ := h
  cases rx
  obtain ⟨t, rfl⟩ := ry
  obtain ⟨its, r, ⟨⟨cls, dd, data, sl⟩, ho, hc, n, hd⟩, hs⟩ := I.tuple hT
  simp only at hc hd
  subst hc hd
  have hle : its.length = xs.length := r.length.symm
  have hi : its.toArray.isEmpty = false := by
    cases its with
    | nil => exact absurd (List.eq_nil_of_length_eq_zero hle.symm) hne
    | cons a b => rfl
  refine wpAny_binaryOp_repeat_ref (T := "tuple") (U := "int") (by decide) ⟨_, ho, rfl⟩ (fun s' => typeIs_int s' 0 t) noFill_tuple_mul F.fills_int_mul F.slot_int_rmul repeat_tuple F.slot_int_index.lookup
    (call_meets F.slot_int_rmul (typeIs_int s 0 t) F.entry_int_rmul (F.args_int_rmul_2 _ _) (int_rmul_tuple 0 t l its.toArray n dd sl)
      ⟨ho, rfl, ⟨_, ho, rfl⟩, call_meets F.slot_tuple_mul ⟨_, ho, rfl⟩ F.entry_tuple_mul (F.args_tuple_mul_2 _ _) (tuple_mul0 l its.toArray n dd sl 0 t rfl hi) ⟨ho, ?_⟩⟩)
  refine ⟨.ref s.heap.objs.size, _, I.laid (t' := s.toks) (o := .tup []) (fun b ob q => Heap.get?_push_of_some _ q) (Nat.le_refl _) ?_, rfl, q _ (I.hok.fresh (Nat.le_refl _))⟩
  exact ⟨by rw [sizeLine_eq]; exact Nat.zero_le _, [], .nil, IsTup.new _ _⟩
abbrev rMulA (K : PySem.W.Frag) : R2 := fun x y H Q => rI CMul (fun i j => .int (i * j)) x y H Q ∨ (rI CMulW (fun i j => .int (i * j)) x y H Q ∨ (rRep x y H Q ∨ (rRepT K x y H Q ∨ (rRep1 K x y H Q ∨ rRep0 K x y H Q))))
theorem op_mulA {X : Cx} : OpR X (binaryOp .Mult) (rMulA X.K) := OpR.or op_mul (OpR.or op_mulW (OpR.or op_rep (OpR.or op_repT (OpR.or op_repT1 op_repT0))))
theorem ok_mul : OpOk K mg (rMulA K) mulD := by
  intro F A H st x y d e z Q G rx ry h q
  unfold mulD at h
  split at h
  · rename_i i j
    split at h
    · rename_i hl
      cases rx; cases ry; cases h
      unfold mulOk at hl
      rw [Bool.or_eq_true, Bool.or_eq_true] at hl
      rcases hl with hl | hl | hl
      · exact .inl ⟨_, _, rfl, rfl, .inl (of_decide_eq_true hl), q _ _ _ _ Ext.refl G (.int _)⟩
      · exact .inl ⟨_, _, rfl, rfl, .inr (of_decide_eq_true hl), q _ _ _ _ Ext.refl G (.int _)⟩
      · have h3 : i.natAbs.log2 + j.natAbs.log2 < 1000000 := of_decide_eq_true hl
        exact .inr (.inl ⟨_, _, rfl, rfl, h3, q _ _ _ _ Ext.refl G (.int _)⟩)
    · cases h
  · split at h
    · rename_i hl
      obtain ⟨h1, h2, h3⟩ := hl
      cases h
      cases ry
      cases rx with
      | @lst a vs _ s1 r1 =>
        refine .inr (.inr (.inl ⟨a, _, vs, rfl, rfl, G.sub _ _ s1, h1, h2, by rw [r1.length]; exact h3, fun p hp => ?_⟩))
        obtain ⟨x2, G2⟩ := Ext.alloc G hp
        exact q _ _ _ _ x2 G2 (.lst upd_same ((r1.rep _).ext x2))
    · cases h
  · split at h
    · rename_i l k hl
      obtain ⟨h1, h2, h3, h4⟩ := hl
      cases h
      cases ry
      cases rx with
      | @tup a vs _ s1 r1 =>
        by_cases k1 : k = 1
        · subst k1
          have e : (List.replicate (1 : Int).toNat l).flatten = l := by simp
          rw [e] at q
          exact .inr (.inr (.inr (.inr (.inl ⟨a, vs, rfl, rfl, SqT.mono s1 G.sub, q _ _ _ _ Ext.refl G (.tup s1 r1)⟩))))
        by_cases k0 : k = 0
        · subst k0
          have e : (List.replicate (0 : Int).toNat l).flatten = [] := rfl
          rw [e] at q
          refine .inr (.inr (.inr (.inr (.inr ⟨a, vs, rfl, rfl, SqT.mono s1 G.sub, fun z => ?_, fun p hp => ?_⟩))))
          · subst z
            cases r1
            exact h1 rfl
          · obtain ⟨x2, G2⟩ := Ext.alloc G hp
            exact q _ _ _ _ x2 G2 (.tup (SqT.of upd_same) .nil)
        refine .inr (.inr (.inr (.inl ⟨a, _, vs, rfl, rfl, SqT.mono s1 G.sub, fun z => ?_, by omega, h3, by rw [r1.length]; exact h4, fun p hp => ?_⟩)))
        · subst z
          cases r1
          exact h1 rfl
        · obtain ⟨x2, G2⟩ := Ext.alloc G hp
          exact q _ _ _ _ x2 G2 (.tup (SqT.of upd_same) ((r1.rep _).ext x2))
    · cases h
  · cases h
theorem ok_mod : OpOk K mg (rI (fun _ j => 0 < j) fun i j => .int (i % j)) modD := by
  intro F A H st x y d e z Q G rx ry h q
  unfold modD at h
  split at h
  · split at h
    · rename_i hl
      cases rx; cases ry; cases h
      exact ⟨_, _, rfl, rfl, hl, q _ _ _ _ Ext.refl G (.int _)⟩
    · cases h
  · cases h
abbrev rFdv : R2 := fun x y H Q => rI CDiv (fun i j => .int (i / j)) x y H Q ∨ rI CDivW (fun i j => .int (i / j)) x y H Q
theorem op_fdvA {X : Cx} : OpR X (binaryOp .FloorDiv) rFdv := OpR.or op_fdiv op_fdivW
theorem ok_fdv : OpOk K mg rFdv fdvD := by
  intro F A H st x y d e z Q G rx ry h q
  unfold fdvD at h
  split at h
  · split at h
    · rename_i hl
      cases rx; cases ry; cases h
      rcases hl with ⟨h1, h2 | h2⟩
      · exact .inl ⟨_, _, rfl, rfl, ⟨h1, h2⟩, q _ _ _ _ Ext.refl G (.int _)⟩
      · exact .inr ⟨_, _, rfl, rfl, ⟨h1, h2⟩, q _ _ _ _ Ext.refl G (.int _)⟩
    · cases h
  · cases h
theorem ok_pow : OpOk K mg (rI CPow fun i j => .int (i ^ j.toNat)) powD := by
  intro F A H st x y d e z Q G rx ry h q
  unfold powD at h
  split at h
  · split at h
    · rename_i hl
      obtain ⟨h1, h2, h3⟩ := hl
      cases rx; cases ry; cases h
      exact ⟨_, _, rfl, rfl, ⟨h1, by omega, h3⟩, q _ _ _ _ Ext.refl G (.int _)⟩
    · cases h
  · cases h
theorem ok_neg : UnOk K mg (rU fun i => .int (-i)) negD := by
  intro F A H st x d z Q G rx h q
  unfold negD at h
  split at h
  · cases rx; cases h
    exact ⟨_, rfl, q _ _ _ _ Ext.refl G (.int _)⟩
  · cases h
theorem plain_dp {st : Sta} {d : D} {v : V} (G : Good K mg F A st H) (r : Rep K mg F A v d) (h : plain d = true) : Dp K H v (pd d) ∧ SeqAt.shaped (pd d) = true := ⟨rep_dp G.sub r (SeqAt.canLay_of_shaped h), h⟩
theorem ok_eq : OpOk K mg (rEqD K) eqD := by
  intro F A H st x y d e z Q G rx ry h q
  unfold eqD at h
  split at h
  · rename_i hl
    obtain ⟨h1, h2⟩ := Bool.and_eq_true_iff.mp hl
    cases h
    obtain ⟨p1, s1⟩ := plain_dp G rx h1
    obtain ⟨p2, s2⟩ := plain_dp G ry h2
    exact ⟨_, _, p1, p2, s1, s2, q _ _ _ _ Ext.refl G (.bl _)⟩
  · cases h
theorem ok_ne : OpOk K mg (rNeD K) neD := by
  intro F A H st x y d e z Q G rx ry h q
  unfold neD at h
  split at h
  · rename_i hl
    obtain ⟨h1, h2⟩ := Bool.and_eq_true_iff.mp hl
    cases h
    obtain ⟨p1, s1⟩ := plain_dp G rx h1
    obtain ⟨p2, s2⟩ := plain_dp G ry h2
    exact ⟨_, _, p1, p2, s1, s2, q _ _ _ _ Ext.refl G (.bl _)⟩
  · cases h
theorem eqB_int (i j : Int) : eqB (.int i) (.int j) = decide (i = j) := by
  simp only [eqB, pd, PyData.eqv]
  exact Bool.beq_eq_decide_eq ..
theorem intOf_eq {d : D} {i : Int} (h : intOf d = some i) : d = .int i := by
  cases d <;> simp [intOf] at h
  rw [h]
theorem atI_reps {vs : List V} {l : List D} {i : Int} {d : D} (r : Reps K mg F A vs l) (e : atI l i = some d) : ∃ v, atI vs i = some v ∧ Rep K mg F A v d := by
  unfold atI at e ⊢
  rw [r.length]
  cases q : ixN l.length i with
  | none => rw [q] at e; cases e
  | some j =>
    rw [q] at e
    exact r.get e
theorem ok_ix : OpOk K mg (rIx K) ixD := by
  intro F A H st x y d e z Q G rx ry h q
  unfold ixD at h
  split at h
  · cases ry
    split at h
    · cases rx with
      | @lst a vs _ s r =>
        obtain ⟨v, e1, r1⟩ := atI_reps r h
        exact .inl ⟨a, vs, _, v, rfl, rfl, SqL.of (G.sub _ _ s), e1, q _ _ _ _ Ext.refl G r1⟩
    · cases rx with
      | @tup a vs _ s r =>
        obtain ⟨v, e1, r1⟩ := atI_reps r h
        exact .inr (.inl ⟨a, vs, _, v, rfl, rfl, SqT.mono s G.sub, e1, q _ _ _ _ Ext.refl G r1⟩)
    · cases rx with
      | @fix a vs _ s r =>
        obtain ⟨v, e1, r1⟩ := atI_reps r h
        exact .inl ⟨a, vs, _, v, rfl, rfl, SqL.mono s G.sub, e1, q _ _ _ _ Ext.refl G r1⟩
    · split at h
      · rename_i hl
        cases rx
        obtain ⟨c, e1, e2⟩ := Option.map_eq_some_iff.mp h
        subst e2
        exact .inr (.inr ⟨_, _, c, rfl, rfl, hl, e1, q _ _ _ _ Ext.refl G (.str _)⟩)
      · cases h
    · split at h
      · rename_i e1
        cases rx with
        | @cell a k hk =>
          obtain ⟨a', h1, h2⟩ := G.addr e1
          rw [hk] at h1; cases h1
          obtain ⟨vs, s, r⟩ := h2
          obtain ⟨v, e2, r1⟩ := atI_reps r h
          exact .inl ⟨a, vs, _, v, rfl, rfl, SqL.of s, e2, q _ _ _ _ Ext.refl G r1⟩
      · cases h
    · cases h
  · cases h
theorem cut_reps {vs : List V} {l : List D} (r : Reps K mg F A vs l) (lo hi : Option Int) : Reps K mg F A (cutV vs lo hi) (cutG l lo hi) := by
  unfold cutV cutG
  rw [r.length]
  exact (r.drop _).take _
abbrev rSl (K : PySem.W.Frag) : V → Option Int → Option Int → Hp → VK → Prop := fun x lo hi H Q => rSlL K x lo hi H Q ∨ rSlA K x lo hi H Q
theorem sl_any {X : Cx} : SlR X (rSl X.K) := SlR.or sl_list sl_tupA
theorem sIx_whole {α : Type} {xs : List α} {lo hi : Option Int} (h : HT.sIx xs.length 0 lo = 0 ∧ HT.sIx xs.length xs.length hi = xs.length) : cutG xs lo hi = xs := by
  unfold cutG
  rw [h.1, h.2]
  simp
theorem ok_cut {st : Sta} {x : V} {d z : D} {lo hi : Option Int} {Q : VK} (G : Good K mg F A st H) (rx : Rep K mg F A x d) (h : cutD d lo hi st = some z)
    (q : ∀ F' A' H' v, Ext F A H F' A' H' → Good K mg F' A' st H' → Rep K mg F' A' v z → Q v H') : rSl K x lo hi H Q := by
  unfold cutD at h
  split at h
  · cases h
    cases rx with
    | @lst a vs _ s r =>
      refine .inl ⟨a, vs, rfl, SqL.of (G.sub _ _ s), fun p hp => ?_⟩
      obtain ⟨x2, G2⟩ := Ext.alloc (o := .lst (cutV vs lo hi)) G hp
      exact q _ _ _ _ x2 G2 (.lst upd_same ((cut_reps r lo hi).ext x2))
  · cases h
    cases rx with
    | @tup a vs l s r =>
      refine .inr ⟨a, vs, rfl, SqT.mono s G.sub, fun w => ?_, fun _ p hp => ?_⟩
      · rw [r.length] at w
        rw [sIx_whole w] at q
        exact q _ _ _ _ Ext.refl G (.tup s r)
      · obtain ⟨x2, G2⟩ := Ext.alloc (o := .tup (cutV vs lo hi)) G hp
        exact q _ _ _ _ x2 G2 (.tup (SqT.of upd_same) ((cut_reps r lo hi).ext x2))
  · cases h
theorem reps1 {xs : List V} {d : D} (r : Reps K mg F A xs [d]) : ∃ v, xs = [v] ∧ Rep K mg F A v d := by
  cases r with
  | cons h r =>
    cases r
    exact ⟨_, rfl, h⟩
theorem reps2 {xs : List V} {d e : D} (r : Reps K mg F A xs [d, e]) : ∃ v w, xs = [v, w] ∧ Rep K mg F A v d ∧ Rep K mg F A w e := by
  cases r with
  | cons h r =>
    obtain ⟨w, e, h2⟩ := reps1 r
    subst e
    exact ⟨_, _, rfl, h, h2⟩
theorem ok_len : CaOk K mg (fun xs H Q => ∃ x n, xs = [x] ∧ LenV K x H n ∧ Q (.int n) H) lenD := by
  intro F A H st xs ds z Q G rx h q
  unfold lenD at h
  split at h
  · obtain ⟨v, rfl, r⟩ := reps1 rx
    cases h
    cases r with
    | @lst a vs _ s r => exact ⟨_, _, rfl, .inl ⟨vs, SqL.of (G.sub _ _ s), r.length.symm⟩, q _ _ _ _ Ext.refl G (.int _)⟩
  · obtain ⟨v, rfl, r⟩ := reps1 rx
    cases h
    cases r with
    | @tup a vs _ s r => exact ⟨_, _, rfl, .inr ⟨vs, SqT.mono s G.sub, r.length.symm⟩, q _ _ _ _ Ext.refl G (.int _)⟩
  · obtain ⟨v, rfl, r⟩ := reps1 rx
    cases h
    cases r with
    | @fix a vs _ s r => exact ⟨_, _, rfl, .inl ⟨vs, SqL.mono s G.sub, r.length.symm⟩, q _ _ _ _ Ext.refl G (.int _)⟩
  · split at h
    · rename_i hl
      obtain ⟨v, rfl, r⟩ := reps1 rx
      cases h
      cases r
      exact ⟨_, _, rfl, ⟨hl, rfl⟩, q _ _ _ _ Ext.refl G (.int _)⟩
    · cases h
  · split at h
    · rename_i e1
      obtain ⟨v, rfl, r⟩ := reps1 rx
      cases h
      cases r with
      | @cell a k hk =>
        obtain ⟨a', h1, h2⟩ := G.addr e1
        rw [hk] at h1; cases h1
        obtain ⟨vs, s, r⟩ := h2
        exact ⟨_, _, rfl, .inl ⟨vs, SqL.of s, r.length.symm⟩, q _ _ _ _ Ext.refl G (.int _)⟩
    · cases h
  · cases h
theorem ok_tuple : CaOk K mg (fun xs H Q => ∃ p ys, xs = [.ref p] ∧ ((SqL K H p ys ∧ ∀ l, H l = none → Q (.ref l) (upd H l (.tup ys))) ∨ (SqT K H p ys ∧ Q (.ref p) H))) tupleD := by
  intro F A H st xs ds z Q G rx h q
  unfold tupleD at h
  split at h
  · obtain ⟨v, rfl, r⟩ := reps1 rx
    cases h
    cases r with
    | @lst a vs _ s r =>
      refine ⟨a, vs, rfl, .inl ⟨SqL.of (G.sub _ _ s), fun p hp => ?_⟩⟩
      obtain ⟨x2, G2⟩ := Ext.alloc (o := .tup vs) G hp
      exact q _ _ _ _ x2 G2 (.tup (SqT.of upd_same) (r.ext x2))
  · obtain ⟨v, rfl, r⟩ := reps1 rx
    cases h
    cases r with
    | @tup a vs _ s r => exact ⟨a, vs, rfl, .inr ⟨SqT.mono s G.sub, q _ _ _ _ Ext.refl G (.tup s r)⟩⟩
  · cases h
theorem ok_intc : CaOk K mg (fun xs H Q => (∃ i, xs = [.int i] ∧ Q (.int i) H) ∨ ∃ k, xs = [.bl k] ∧ Q (.int (if k then 1 else 0)) H) intD := by
  intro F A H st xs ds z Q G rx h q
  unfold intD at h
  split at h
  · obtain ⟨v, rfl, r⟩ := reps1 rx
    cases h
    cases r
    exact .inl ⟨_, rfl, q _ _ _ _ Ext.refl G (.int _)⟩
  · obtain ⟨v, rfl, r⟩ := reps1 rx
    cases h
    cases r
    exact .inr ⟨_, rfl, q _ _ _ _ Ext.refl G (.int _)⟩
  · cases h
theorem ok_min2 : CaOk K mg (fun xs H Q => ∃ i j, xs = [.int i, .int j] ∧ Q (.int (if j < i then j else i)) H) min2D := by
  intro F A H st xs ds z Q G rx h q
  unfold min2D at h
  split at h
  · obtain ⟨v, w, rfl, r, r2⟩ := reps2 rx
    cases h
    cases r; cases r2
    exact ⟨_, _, rfl, q _ _ _ _ Ext.refl G (.int _)⟩
  · cases h
theorem ints_reps : ∀ {l : List D} {ns : List Int} {vs : List V}, intsOf l = some ns → Reps K mg F A vs l → vs = ns.map V.int
  | [], ns, _, e, r => by
    cases r
    cases e
    rfl
  | d :: l, ns, _, e, r => by
    cases d <;> first
      | cases e
      | (cases r with
         | cons h r =>
           cases h
           obtain ⟨ms, e1, e2⟩ := Option.map_eq_some_iff.mp (show (intsOf l).map _ = some ns from e)
           subst e2
           rw [List.map_cons, ints_reps e1 r])
theorem bls_reps : ∀ {l : List D} {ns : List Bool} {vs : List V}, blsOf l = some ns → Reps K mg F A vs l → vs = ns.map V.bl
  | [], ns, _, e, r => by
    cases r
    cases e
    rfl
  | d :: l, ns, _, e, r => by
    cases d <;> first
      | cases e
      | (cases r with
         | cons h r =>
           cases h
           obtain ⟨ms, e1, e2⟩ := Option.map_eq_some_iff.mp (show (blsOf l).map _ = some ns from e)
           subst e2
           rw [List.map_cons, bls_reps e1 r])
def rSumA (K : PySem.W.Frag) : List V → Hp → VK → Prop := fun vs H Q => rSum K vs H Q ∨ ∃ (a : Addr) (ns : List Int), vs = [V.ref a] ∧ SqT K H a (ns.map V.int) ∧ Q (.int ns.sum) H
theorem ok_sum : CaOk K mg (rSumA K) sumD := by
  intro F A H st xs ds z Q G rx h q
  unfold sumD at h
  split at h
  · obtain ⟨v, rfl, r⟩ := reps1 rx
    obtain ⟨ns, e1, rfl⟩ := Option.map_eq_some_iff.mp h
    cases r with
    | @lst a vs _ s r =>
      have e := ints_reps e1 r
      subst e
      exact .inl ⟨a, ns, rfl, SqL.of (G.sub _ _ s), q _ _ _ _ Ext.refl G (.int _)⟩
  · obtain ⟨v, rfl, r⟩ := reps1 rx
    obtain ⟨ns, e1, rfl⟩ := Option.map_eq_some_iff.mp h
    cases r with
    | @tup a vs _ s r =>
      have e := ints_reps e1 r
      subst e
      exact .inr ⟨a, ns, rfl, SqT.mono s G.sub, q _ _ _ _ Ext.refl G (.int _)⟩
  · cases h
theorem ok_all : CaOk K mg (rAll K) allD := by
  intro F A H st xs ds z Q G rx h q
  unfold allD at h
  split at h
  · obtain ⟨v, rfl, r⟩ := reps1 rx
    obtain ⟨ns, e1, rfl⟩ := Option.map_eq_some_iff.mp h
    cases r with
    | @lst a vs _ s r =>
      have e := bls_reps e1 r
      subst e
      exact ⟨a, ns, rfl, SqL.of (G.sub _ _ s), q _ _ _ _ Ext.refl G (.bl _)⟩
  · cases h
end
section
variable {K : PySem.W.Frag} {mg : Str → Option Value} {F : Hp} {A : List Addr} {H : Hp}
end
def mSlice (f : Env → M D) (lo hi : Env → M (Option Int)) : Env → M D := fun env => f env >>= fun x => lo env >>= fun l => hi env >>= fun u => M.rd (cutD x l u)
def noP : Env → M (Option Int) := fun _ => pure none
def soP (f : Env → M D) : Env → M (Option Int) := fun env => f env >>= fun x => M.rd fun _ => (intOf x).map some
section
variable (K : PySem.W.Frag) (mg : Str → Option Value)
def rO (B : Bs) (W : WX) (f : Env → M (Option Int)) : TO := fun σ H Q => ∃ g env st, Rel K mg B g env st σ H ∧ WPc K mg W g.F g.A σ H (f env st) (fun d F' A' H' => Q d H')
end
section
variable {X : Cx} {B : Bs} {W : WX} {e a b : Expr} {lo hi : Option Expr} {pos p2 : Pos} {f : Env → M D} {l u : Env → M (Option Int)}
theorem PO.imp {e : Option Expr} {t t' : TO} (h : PO X e t) (i : ∀ σ H Q, t' σ H Q → t σ H Q) : PO X e t' := ⟨fun pins s σ H Q I z => h.run pins s σ H Q I (i σ H Q z)⟩
theorem po_no : PO X none (rO X.K X.mg B W noP) := PO.imp po_none fun σ H Q ⟨gh, env, st, R, w⟩ => WPc.now w R.good
theorem po_so (h : PE X e (rE X.K X.mg B W f)) : PO X (some e) (rO X.K X.mg B W (soP f)) := by
  refine PO.imp (po_some h) fun σ H Q z => ?_
  obtain ⟨gh, env, st, R, w⟩ := z
  refine seqE R w fun d st1 F1 A1 H1 x R1 x1 r1 w1 => ?_
  obtain ⟨o, eo, w3⟩ := WPc.rd w1
  obtain ⟨i, ei, rfl⟩ := Option.map_eq_some_iff.mp eo
  have ed := intOf_eq ei
  subst ed
  cases r1
  exact ⟨_, rfl, w3 _ _ _ Ext.refl R1.good⟩
theorem seqO {f : Env → M (Option Int)} {β : Type} {k : Option Int → M β} {Post : β → Hp → List Addr → Hp → Prop} {Q : Option Int → Hp → Prop} {K : PySem.W.Frag} {mg : Str → Option Value} {σ : L2.St} {H : Hp} {g : Gh} {env : Env} {st : Sta} (R : Rel K mg B g env st σ H) (h : WPc K mg W g.F g.A σ H ((f env >>= k) st) Post)
    (cont : ∀ d st1 F1 A1 H1, Rel K mg B ⟨F1, A1, g.ow⟩ env st1 σ H1 → Ext g.F g.A H F1 A1 H1 → WPc K mg W F1 A1 σ H1 (k d st1) Post → Q d H1) : rO K mg B W f σ H Q := by
  refine ⟨g, env, st, R, ?_⟩
  refine Res.wp_mono (wp_bind h) (fun d st1 z F1 A1 H1 x G => ?_) fun _ _ z => z
  exact cont d st1 F1 A1 H1 (R.step x G) x (WPc.shift z x)
theorem pp_slice (he : PE X e (rE X.K X.mg B W f)) (hl : PO X lo (rO X.K X.mg B W l)) (hu : PO X hi (rO X.K X.mg B W u)) : PE X (.Subscript e (.Slice lo hi none p2) pos) (rE X.K X.mg B W (mSlice f l u)) := by
  refine (pe_slice sl_any he hl hu).imp fun σ H Q z => ?_
  obtain ⟨gh, env, st, R, w⟩ := z
  refine seqE R w fun d st1 F1 A1 H1 x R1 x1 r1 w1 => ?_
  refine seqO R1 w1 fun l st2 F2 A2 H2 R2 x2 w2 => ?_
  refine seqO R2 w2 fun u st3 F3 A3 H3 R3 x3 w3 => ?_
  obtain ⟨o, eo, w4⟩ := WPc.rd w3
  exact ok_cut R3.good ((r1.ext x2).ext x3) eo fun F' A' H' v x' G' r' => w4 F' A' H' x' G' v r'
def mChain (o o' : D → D → Sta → Option D) (f g h : Env → M D) : Env → M D := fun env => f env >>= fun x => g env >>= fun y => (M.rd (o x y)) >>= fun z => (M.rd fun _ => asB z) >>= fun k => if k then h env >>= fun w => M.rd (o' y w) else pure (.bl false)
theorem chain_imp {g h : Env → M D} {r r' : R2} {o o' : D → D → Sta → Option D} (k : OpOk X.K X.mg r o) (k' : OpOk X.K X.mg r' o') (σ : L2.St) (H : Hp) (Q : VK) (z : rE X.K X.mg B W (mChain o o' f g h) σ H Q) :
    tChain r r' (rE X.K X.mg B W f) (rE X.K X.mg B W g) (rE X.K X.mg B W h) σ H Q := by
  obtain ⟨gh, env, st, R, w⟩ := z
  refine seqE R w fun d st1 F1 A1 H1 x R1 x1 r1 w1 => ?_
  refine seqE R1 w1 fun e st2 F2 A2 H2 y R2 x2 r2 w2 => ?_
  have w2' := wp_bind w2
  have w2'' : ∃ a, o d e st2 = some a ∧ WPc X.K X.mg W F2 A2 σ H2 (((M.rd fun _ => asB a) >>= fun k => if k then h env >>= fun w => M.rd (o' e w) else pure (.bl false)) st2) (fun d F' A' H' => ∀ v, Rep X.K X.mg F' A' v d → Q v H') := by
    unfold M.rd at w2'
    cases q : o d e st2 with
    | none =>
      rw [q] at w2'
      exact w2'.elim
    | some a =>
      rw [q] at w2'
      exact ⟨a, rfl, w2'⟩
  obtain ⟨a, ea, w3⟩ := w2''
  refine k F2 A2 H2 st2 x y d e a _ R2.good (r1.ext x2) r2 ea fun F3 A3 H3 v x3 G3 r3 => ?_
  have w4 := wp_bind (WPc.shift w3 x3)
  have w5 : ∃ b, asB a = some b ∧ WPc X.K X.mg W F3 A3 σ H3 ((if b = true then h env >>= fun w => M.rd (o' e w) else pure (.bl false) : M D) st2) (fun d F' A' H' => ∀ v, Rep X.K X.mg F' A' v d → Q v H') := by
    unfold M.rd at w4
    cases q : asB a with
    | none =>
      rw [q] at w4
      exact w4.elim
    | some b =>
      rw [q] at w4
      exact ⟨b, rfl, w4⟩
  obtain ⟨b, eb, w6⟩ := w5
  refine ⟨b, tBool_rep r3 eb, ?_⟩
  have R3 := R2.step x3 G3
  cases b with
  | true =>
    rw [if_pos rfl] at w6 ⊢
    refine seqE R3 w6 fun u st4 F4 A4 H4 t R4 x4 r4 w7 => ?_
    obtain ⟨c, ec, w8⟩ := WPc.rd w7
    exact k' F4 A4 H4 st4 y t e u c Q R4.good ((r2.ext x3).ext x4) r4 ec fun F' A' H' v x' G' r' => w8 F' A' H' x' G' v r'
  | false =>
    rw [if_neg Bool.false_ne_true] at w6 ⊢
    exact WPc.now w6 R3.good _ (.bl false)
theorem pp_chain {c : Expr} {g h : Env → M D} {op op' : CmpOp} {r r' : R2} {o o' : D → D → Sta → Option D} (ho : OpR X (compareOp op) r) (ho' : OpR X (compareOp op') r') (k : OpOk X.K X.mg r o) (k' : OpOk X.K X.mg r' o') (ha : PE X a (rE X.K X.mg B W f)) (hb : PE X b (rE X.K X.mg B W g)) (hc : PE X c (rE X.K X.mg B W h))
    (t : PE X (.Compare a [op, op'] [b, c] pos) (tChain r r' (rE X.K X.mg B W f) (rE X.K X.mg B W g) (rE X.K X.mg B W h))) : PE X (.Compare a [op, op'] [b, c] pos) (rE X.K X.mg B W (mChain o o' f g h)) :=
  t.imp fun σ H Q z => chain_imp k k' σ H Q z
theorem pq_chain {c : Expr} {g h : Env → M D} {op op' : CmpOp} {r r' : R2} {o o' : D → D → Sta → Option D} (k : OpOk X.K X.mg r o) (k' : OpOk X.K X.mg r' o')
    (t : PT X (.Compare a [op, op'] [b, c] pos) (tTest (tChain r r' (rE X.K X.mg B W f) (rE X.K X.mg B W g) (rE X.K X.mg B W h)))) : PT X (.Compare a [op, op'] [b, c] pos) (rT X.K X.mg B W (tBool (mChain o o' f g h))) := by
  refine t.imp fun σ H Q z => ?_
  obtain ⟨gh, env, st, R, w⟩ := z
  refine chain_imp k k' σ H _ ⟨gh, env, st, R, ?_⟩
  refine Res.wp_mono (wp_bind w) (fun d st1 y F' A' H' x G v r' => ?_) fun _ _ y => y
  obtain ⟨u, eu, w3⟩ := WPc.rd y
  exact ⟨u, tBool_rep r' eu, w3 F' A' H' x G⟩
end
end PL
set_option Elab.async false
set_option linter.all false
set_option maxRecDepth 100000
set_option maxHeartbeats 2000000
namespace PL
open PySem PySem.Spec PyProof.Rows L2

theorem GExt.refl {g : Gh} : GExt g g := ⟨fun _ _ h => h, fun _ _ h => h⟩
theorem GExt.trans {a b c : Gh} (x : GExt a b) (y : GExt b c) : GExt a c := ⟨fun p o h => y.fro p o (x.fro p o h), fun k p h => y.cel k p (x.cel k p h)⟩
section
variable (K : PySem.W.Frag) (mg : Str → Option Value)
def rS (B : Bs) (W : WX) (f : SD) : TS := fun E σ H => ∃ g env st, Rel K mg B g env st σ H ∧ WPs K mg B W g E (f env st)
end
section
variable {K : PySem.W.Frag} {mg : Str → Option Value} {B : Bs} {W : WX} {g g' : Gh} {E E' : Ends} {env : Env} {st : Sta} {σ : L2.St} {H : Hp}
theorem WPs.shift {r : SR} (h : WPs K mg B W g E r) (x : GExt g g') : WPs K mg B W g' E r := by
  cases r with
  | nx env st => exact fun g2 σ H y => h g2 σ H (x.trans y)
  | bk env st => exact fun g2 σ H y => h g2 σ H (x.trans y)
  | ct env st => exact fun g2 σ H y => h g2 σ H (x.trans y)
  | rt d st => exact h
  | exc e env st => exact fun g2 σ H cls dd y => h g2 σ H cls dd (x.trans y)
  | bad => exact h

def sNext : SD := fun env st => .nx env st
def sSeq (a b : SD) : SD := fun env st => match a env st with
  | .nx env' st' => b env' st'
  | r => r
def sE {α : Type} (f : Env → M α) (k : α → SD) : SD := fun env st => match f env st with
  | .ok d st' => k d env st'
  | .exc e st' => .exc e env st'
  | .bad => .bad
def sRet (f : Env → M D) : SD := sE f fun d _ st => .rt d st
def sDrop (f : Env → M D) : SD := sE f fun _ => sNext
def sIf (c : Env → M Bool) (a b : SD) : SD := sE c fun k => if k then a else b
def sSet (i : Nat) (f : Env → M D) : SD := sE f fun d env st => .nx (env.set i (some (.fro d))) st
theorem Rel.setFro {i : Nat} {d : D} {v : V} (R : Rel K mg B g env st σ H) (r : Rep K mg g.F g.A v d) : Rel K mg B g (env.set i (some (.fro d))) st (σ.set i (some v)) H where
  ext := R.ext
  good := R.good
  len := by rw [List.length_set, List.length_set]; exact R.len
  slot := fun j sv e => by
    by_cases q : j = i
    · subst q
      have hl : j < env.length := by
        have h1 := (List.getElem?_eq_some_iff.mp e).1
        rw [List.length_set] at h1
        exact h1
      rw [List.getElem?_set_self hl] at e
      cases e
      exact ⟨v, by rw [List.getElem?_set_self (by rw [← R.len]; exact hl)], r⟩
    · rw [List.getElem?_set_ne (Ne.symm q)] at e
      have h := R.slot j sv e
      cases sv with
      | fro d' =>
        obtain ⟨v', e1, r'⟩ := h
        exact ⟨v', by rw [List.getElem?_set_ne (Ne.symm q)]; exact e1, r'⟩
      | own c =>
        obtain ⟨e1, r'⟩ := h
        exact ⟨by rw [List.getElem?_set_ne (Ne.symm q)]; exact e1, r'⟩
  sep := fun j k c c' e1 e2 n => by
    have h1 : ∀ {j : Nat} {c : Cell}, (env.set i (some (.fro d)))[j]? = some (some (SV.own c)) → env[j]? = some (some (SV.own c)) := fun {j c} e => by
      by_cases q : j = i
      · subst q
        have hl : j < env.length := by
          have h1 := (List.getElem?_eq_some_iff.mp e).1
          rw [List.length_set] at h1
          exact h1
        rw [List.getElem?_set_self hl] at e
        cases e
      · rw [List.getElem?_set_ne (Ne.symm q)] at e
        exact e
    exact R.sep j k c c' (h1 e1) (h1 e2) n
theorem Rel.setNone {i : Nat} {o : Option V} (R : Rel K mg B g env st σ H) : Rel K mg B g (env.set i none) st (σ.set i o) H where
  ext := R.ext
  good := R.good
  len := by rw [List.length_set, List.length_set]; exact R.len
  slot := fun j sv e => by
    by_cases q : j = i
    · subst q
      have hl : j < env.length := by
        have h1 := (List.getElem?_eq_some_iff.mp e).1
        rw [List.length_set] at h1
        exact h1
      rw [List.getElem?_set_self hl] at e
      cases e
    · rw [List.getElem?_set_ne (Ne.symm q)] at e
      have h := R.slot j sv e
      cases sv with
      | fro d' =>
        obtain ⟨v', e1, r'⟩ := h
        exact ⟨v', by rw [List.getElem?_set_ne (Ne.symm q)]; exact e1, r'⟩
      | own c =>
        obtain ⟨e1, r'⟩ := h
        exact ⟨by rw [List.getElem?_set_ne (Ne.symm q)]; exact e1, r'⟩
  sep := fun j k c c' e1 e2 n => by
    have h1 : ∀ {j : Nat} {c : Cell}, (env.set i none)[j]? = some (some (SV.own c)) → env[j]? = some (some (SV.own c)) := fun {j c} e => by
      by_cases q : j = i
      · subst q
        have hl : j < env.length := by
          have h1 := (List.getElem?_eq_some_iff.mp e).1
          rw [List.length_set] at h1
          exact h1
        rw [List.getElem?_set_self hl] at e
        cases e
      · rw [List.getElem?_set_ne (Ne.symm q)] at e
        exact e
    exact R.sep j k c c' (h1 e1) (h1 e2) n
theorem Rel.setOwn {i : Nat} {c : Cell} {p : Addr} (R : Rel K mg B g env st σ H) (hc : CellAt K mg g.F g.A H p c) (hF : g.F p = none) (hA : p ∉ g.A) (hB : B.H p = none)
    (hs : ∀ (j : Nat) c', env[j]? = some (some (.own c')) → j ≠ i → g.ow j ≠ p) : Rel K mg B ⟨g.F, g.A, fun j => if j = i then p else g.ow j⟩ (env.set i (some (.own c))) st (σ.set i (some (.ref p))) H where
  ext := R.ext
  good := R.good
  len := by rw [List.length_set, List.length_set]; exact R.len
  slot := fun j sv e => by
    by_cases q : j = i
    · subst q
      have hl : j < env.length := by
        have h1 := (List.getElem?_eq_some_iff.mp e).1
        rw [List.length_set] at h1
        exact h1
      rw [List.getElem?_set_self hl] at e
      cases e
      show (σ.set j _)[j]? = some (some (.ref (if j = j then p else g.ow j))) ∧ CellAt K mg g.F g.A H (if j = j then p else g.ow j) c ∧ g.F (if j = j then p else g.ow j) = none ∧ (if j = j then p else g.ow j) ∉ g.A ∧ B.H (if j = j then p else g.ow j) = none
      rw [if_pos rfl]
      exact ⟨by rw [List.getElem?_set_self (by rw [← R.len]; exact hl)], hc, hF, hA, hB⟩
    · rw [List.getElem?_set_ne (Ne.symm q)] at e
      have h := R.slot j sv e
      cases sv with
      | fro d' =>
        obtain ⟨v', e1, r'⟩ := h
        exact ⟨v', by rw [List.getElem?_set_ne (Ne.symm q)]; exact e1, r'⟩
      | own c =>
        obtain ⟨e1, r'⟩ := h
        show (σ.set i _)[j]? = some (some (.ref (if j = i then p else g.ow j))) ∧ CellAt K mg g.F g.A H (if j = i then p else g.ow j) c ∧ g.F (if j = i then p else g.ow j) = none ∧ (if j = i then p else g.ow j) ∉ g.A ∧ B.H (if j = i then p else g.ow j) = none
        rw [if_neg q]
        exact ⟨by rw [List.getElem?_set_ne (Ne.symm q)]; exact e1, r'⟩
  sep := fun j k c1 c2 e1 e2 n => by
    show (if j = i then p else g.ow j) ≠ (if k = i then p else g.ow k)
    by_cases qj : j = i
    · subst qj
      have qk : k ≠ j := Ne.symm n
      rw [if_pos rfl, if_neg qk]
      rw [List.getElem?_set_ne (Ne.symm qk)] at e2
      exact Ne.symm (hs k _ e2 qk)
    · rw [List.getElem?_set_ne (Ne.symm qj)] at e1
      rw [if_neg qj]
      by_cases qk : k = i
      · subst qk
        rw [if_pos rfl]
        exact hs j _ e1 qj
      · rw [List.getElem?_set_ne (Ne.symm qk)] at e2
        rw [if_neg qk]
        exact R.sep j k _ _ e1 e2 n
theorem Rel.writeOwn {i : Nat} {c c' : Cell} {o : HO} (R : Rel K mg B g env st σ H) (e : env[i]? = some (some (.own c))) (hc : CellAt K mg g.F g.A (upd H (g.ow i) o) (g.ow i) c') : Rel K mg B g (env.set i (some (.own c'))) st σ (upd H (g.ow i) o) := by
  obtain ⟨s1, s2, s3, s4, s5⟩ := R.slot i _ e
  obtain ⟨u, hu⟩ := s2.thr
  have hi := (List.getElem?_eq_some_iff.mp e).1
  refine ⟨⟨R.ext.fro, R.ext.cel, fun b o n h => ?_, fun b h => ?_, R.ext.newF, R.ext.newA⟩, ⟨fun b o h => ?_, R.good.len, R.good.nd, R.good.off, fun k a c h1 h2 => ?_⟩, by rw [List.length_set]; exact R.len, fun j sv ej => ?_, fun j k c1 c2 e1 e2 n => ?_⟩
  · rw [upd_ne (fun z : b = g.ow i => by rw [z, s5] at h; cases h)]
    exact R.ext.keep b o n h
  · by_cases q : b = g.ow i
    · rw [q, upd_same]; exact fun z => nomatch z
    · rw [upd_ne q]; exact R.ext.there b h
  · rw [upd_ne (fun z : b = g.ow i => by rw [z, s3] at h; cases h)]
    exact R.good.sub b o h
  · exact (R.good.con k a c h1 h2).mono (fun _ _ z => z) (fun _ _ z => z) fun w z => by rw [upd_ne (fun y : a = g.ow i => s4 (by rw [← y]; exact List.mem_of_getElem? h1))]; exact z
  · by_cases q : j = i
    · subst q
      rw [List.getElem?_set_self hi] at ej
      cases ej
      exact ⟨s1, hc, s3, s4, s5⟩
    · rw [List.getElem?_set_ne (Ne.symm q)] at ej
      have h := R.slot j sv ej
      cases sv with
      | fro d' => exact h
      | own c2 =>
        obtain ⟨t1, t2, t3, t4, t5⟩ := h
        exact ⟨t1, t2.mono (fun _ _ z => z) (fun _ _ z => z) fun w z => by rw [upd_ne (R.sep j i _ _ ej e q)]; exact z, t3, t4, t5⟩
  · have h1 : ∀ {j : Nat} {c : Cell}, (env.set i (some (.own c')))[j]? = some (some (SV.own c)) → ∃ c, env[j]? = some (some (SV.own c)) := fun {j c0} e0 => by
      by_cases q : j = i
      · subst q; exact ⟨_, e⟩
      · rw [List.getElem?_set_ne (Ne.symm q)] at e0
        exact ⟨_, e0⟩
    obtain ⟨_, e1'⟩ := h1 e1
    obtain ⟨_, e2'⟩ := h1 e2
    exact R.sep j k _ _ e1' e2' n
def frz (i : Nat) (env : Env) : Env := match env[i]? with
  | some (some (.own c)) => env.set i (some (.fro c.toD))
  | _ => env
theorem Rel.freeze (R : Rel K mg B g env st σ H) (i : Nat) : ∃ F', (∀ b o, g.F b = some o → F' b = some o) ∧ Rel K mg B ⟨F', g.A, g.ow⟩ (frz i env) st σ H := by
  unfold frz
  split
  · rename_i c e
    obtain ⟨s1, s2, s3, s4, s5⟩ := R.slot i _ e
    obtain ⟨u, hu⟩ := s2.thr
    have hi := (List.getElem?_eq_some_iff.mp e).1
    have ne : ∀ {b : Addr} {w : HO}, g.F b = some w → b ≠ g.ow i := fun {b w} h z => by rw [z, s3] at h; cases h
    have kF : ∀ b w, g.F b = some w → upd g.F (g.ow i) u b = some w := fun b w h => by rw [upd_ne (ne h)]; exact h
    refine ⟨upd g.F (g.ow i) u, kF, ⟨fun b o h => kF b o (R.ext.fro b o h), R.ext.cel, R.ext.keep, R.ext.there, fun b h => ?_, R.ext.newA⟩, ⟨fun b o h => ?_, R.good.len, R.good.nd, fun a ha => ?_, fun k a c h1 h2 => ?_⟩, by rw [List.length_set]; exact R.len, fun j sv ej => ?_, fun j k c1 c2 e1 e2 n => ?_⟩
    · by_cases q : b = g.ow i
      · rw [q]; exact .inr s5
      · have h' : g.F b ≠ none := by
          have h2 : upd g.F (g.ow i) u b ≠ none := h
          rw [upd_ne q] at h2
          exact h2
        exact R.ext.newF b h'
    · by_cases q : b = g.ow i
      · have h2 : upd g.F (g.ow i) u b = some o := h
        rw [q, upd_same] at h2
        rw [q]
        cases h2
        exact hu
      · have h2 : upd g.F (g.ow i) u b = some o := h
        rw [upd_ne q] at h2
        exact R.good.sub b o h2
    · show upd g.F (g.ow i) u a = none
      rw [upd_ne (fun z : a = g.ow i => s4 (by rw [← z]; exact ha))]
      exact R.good.off a ha
    · exact (R.good.con k a c h1 h2).mono kF (fun _ _ z => z) fun _ z => z
    · by_cases q : j = i
      · subst q
        rw [List.getElem?_set_self hi] at ej
        cases ej
        exact ⟨_, s1, s2.rep hu kF upd_same⟩
      · rw [List.getElem?_set_ne (Ne.symm q)] at ej
        have h := R.slot j sv ej
        cases sv with
        | fro d' =>
          obtain ⟨v, e1, r⟩ := h
          exact ⟨v, e1, r.mono kF fun _ _ z => z⟩
        | own c2 =>
          obtain ⟨t1, t2, t3, t4, t5⟩ := h
          refine ⟨t1, t2.mono kF (fun _ _ z => z) fun _ z => z, ?_, t4, t5⟩
          show upd g.F (g.ow i) u (g.ow j) = none
          rw [upd_ne (R.sep j i _ _ ej e q)]
          exact t3
    · have h1 : ∀ {j : Nat} {c0 : Cell}, (env.set i (some (.fro c.toD)))[j]? = some (some (SV.own c0)) → env[j]? = some (some (SV.own c0)) := fun {j c0} e0 => by
        by_cases q : j = i
        · subst q
          rw [List.getElem?_set_self hi] at e0
          cases e0
        · rw [List.getElem?_set_ne (Ne.symm q)] at e0
          exact e0
      exact R.sep j k _ _ (h1 e1) (h1 e2) n
  · exact ⟨g.F, fun _ _ h => h, R⟩
theorem sE_wp {α : Type} {f : Env → M α} {k : α → SD} (h : WPs K mg B W g E (sE f k env st)) (R : Rel K mg B g env st σ H) :
    (f env st).wp (fun d st' => WPs K mg B W g E (k d env st')) (fun e st' => ∀ F' A' H' cls dd, Ext g.F g.A H F' A' H' → Good K mg F' A' st' H' → ExnAt K mg F' A' H' cls dd e → W cls dd σ H') := by
  unfold sE at h
  cases q : f env st with
  | ok d st' =>
    rw [q] at h
    exact h
  | exc e st' =>
    rw [q] at h
    exact fun F' A' H' cls dd x G y => h ⟨F', A', g.ow⟩ σ H' cls dd (GExt.of x) (R.step x G) y
  | bad =>
    rw [q] at h
    exact h
theorem seqSE {f : Env → M D} {k : D → SD} {Q : VK} (R : Rel K mg B g env st σ H) (h : WPs K mg B W g E (sE f k env st))
    (cont : ∀ d st1 F1 A1 H1 v, Rel K mg B ⟨F1, A1, g.ow⟩ env st1 σ H1 → Ext g.F g.A H F1 A1 H1 → Rep K mg F1 A1 v d → WPs K mg B W ⟨F1, A1, g.ow⟩ E (k d env st1) → Q v H1) : rE K mg B W f σ H Q := by
  refine ⟨g, env, st, R, ?_⟩
  exact Res.wp_mono (sE_wp h R) (fun d st1 z F1 A1 H1 x G v r => cont d st1 F1 A1 H1 v (R.step x G) x r (z.shift (GExt.of x))) fun _ _ z => z
theorem seqST {f : Env → M Bool} {k : Bool → SD} {Q : Bool → Hp → Prop} (R : Rel K mg B g env st σ H) (h : WPs K mg B W g E (sE f k env st))
    (cont : ∀ d st1 F1 A1 H1, Rel K mg B ⟨F1, A1, g.ow⟩ env st1 σ H1 → Ext g.F g.A H F1 A1 H1 → WPs K mg B W ⟨F1, A1, g.ow⟩ E (k d env st1) → Q d H1) : rT K mg B W f σ H Q := by
  refine ⟨g, env, st, R, ?_⟩
  exact Res.wp_mono (sE_wp h R) (fun d st1 z F1 A1 H1 x G => cont d st1 F1 A1 H1 (R.step x G) x (z.shift (GExt.of x))) fun _ _ z => z
theorem seqSA {f : Env → M (List D)} {k : List D → SD} {Q : List V → Hp → Prop} (R : Rel K mg B g env st σ H) (h : WPs K mg B W g E (sE f k env st))
    (cont : ∀ d st1 F1 A1 H1 v, Rel K mg B ⟨F1, A1, g.ow⟩ env st1 σ H1 → Ext g.F g.A H F1 A1 H1 → Reps K mg F1 A1 v d → WPs K mg B W ⟨F1, A1, g.ow⟩ E (k d env st1) → Q v H1) : rA K mg B W f σ H Q := by
  refine ⟨g, env, st, R, ?_⟩
  exact Res.wp_mono (sE_wp h R) (fun d st1 z F1 A1 H1 x G v r => cont d st1 F1 A1 H1 v (R.step x G) x r (z.shift (GExt.of x))) fun _ _ z => z
end
section
variable {X : Cx} {B : Bs} {W : WX} {e c : Expr} {s : Stmt} {rest b1 b2 : List Stmt} {pos : Pos} {f : Env → M D} {t u : SD} {tc : Env → M Bool}
theorem qs_nil : PSs X [] (rS X.K X.mg B W sNext) := pss_nil.imp fun E σ H ⟨g, env, st, R, w⟩ => w g σ H GExt.refl R
theorem qs_seq_imp {a : TS} {E : Ends} {σ : L2.St} {H : Hp} (z : rS X.K X.mg B W (sSeq t u) E σ H) : tSeq (rS X.K X.mg B W t) (rS X.K X.mg B W u) E σ H := by
  obtain ⟨g, env, st, R, w⟩ := z
  refine ⟨g, env, st, R, ?_⟩
  unfold sSeq at w
  cases q : t env st with
  | nx env' st' =>
    rw [q] at w
    exact fun g' σ' H' x R' => ⟨g', env', st', R', WPs.shift w x⟩
  | bk env' st' => rw [q] at w; exact w
  | ct env' st' => rw [q] at w; exact w
  | rt d st' => rw [q] at w; exact w
  | exc e' env' st' => rw [q] at w; exact w
  | bad => rw [q] at w; exact w
theorem qs_cons (h1 : PS X s (rS X.K X.mg B W t)) (h2 : PSs X rest (rS X.K X.mg B W u)) : PSs X (s :: rest) (rS X.K X.mg B W (sSeq t u)) := (pss_cons h1 h2).imp fun E σ H z => qs_seq_imp (a := tNext) z
theorem qs_one (h1 : PS X s (rS X.K X.mg B W t)) : PSs X [s] (rS X.K X.mg B W t) := pss_one h1
def sFrz (i : Nat) (t : SD) : SD := fun env st => t (frz i env) st
theorem qs_frz (i : Nat) (h : PSs X rest (rS X.K X.mg B W t)) : PSs X rest (rS X.K X.mg B W (sFrz i t)) := h.imp fun E σ H ⟨g, env, st, R, w⟩ => by
  obtain ⟨F', kF, R'⟩ := R.freeze i
  exact ⟨⟨F', g.A, g.ow⟩, frz i env, st, R', WPs.shift w ⟨kF, fun _ _ z => z⟩⟩
theorem qs_ret (he : PE X e (rE X.K X.mg B W f)) : PS X (.Return (some e) pos) (rS X.K X.mg B W (sRet f)) := by
  refine (ps_ret he).imp fun E σ H z => ?_
  obtain ⟨g, env, st, R, w⟩ := z
  exact seqSE R w fun d st1 F1 A1 H1 v R1 x1 r1 w1 => w1 _ _ _ v R1.ext R1.good r1
theorem qs_expr (he : PE X e (rE X.K X.mg B W f)) (hs : swapsWith e none pos.line X.env = pure false := by rfl) : PS X (.Expr e pos) (rS X.K X.mg B W (sDrop f)) := by
  refine (ps_expr he hs).imp fun E σ H z => ?_
  obtain ⟨g, env, st, R, w⟩ := z
  exact seqSE R w fun d st1 F1 A1 H1 v R1 x1 r1 w1 => w1 _ _ _ GExt.refl R1
theorem qs_if (hc : PT X c (rT X.K X.mg B W tc)) (h1 : PSs X b1 (rS X.K X.mg B W t)) (h2 : PSs X b2 (rS X.K X.mg B W u)) : PS X (.If c b1 b2 pos) (rS X.K X.mg B W (sIf tc t u)) := by
  refine (ps_if hc h1 h2).imp fun E σ H z => ?_
  obtain ⟨g, env, st, R, w⟩ := z
  refine seqST R w fun d st1 F1 A1 H1 R1 x1 w1 => ?_
  cases d with
  | true =>
    rw [if_pos rfl] at w1 ⊢
    exact ⟨_, env, st1, R1, w1⟩
  | false =>
    rw [if_neg Bool.false_ne_true] at w1 ⊢
    exact ⟨_, env, st1, R1, w1⟩
theorem qs_set {i : Nat} {x : Str} {pos' : Pos} (hN : X.N.Nodup) (hi : X.N[i]? = some x) (hx : Loc X.env.scope x) (he : PE X e (rE X.K X.mg B W f)) (hs : swapsWith e (some (.Name x pos')) pos.line X.env = pure false := by rfl) (hf : X.fn x = true ∨ X.env.scope.names.lookup x = some .local := by first | exact .inl rfl | exact .inr rfl | assumption) :
    PS X (.Assign [.Name x pos'] e pos) (rS X.K X.mg B W (sSet i f)) := by
  refine (ps_set hN hi hx he hs hf).imp fun E σ H z => ?_
  obtain ⟨g, env, st, R, w⟩ := z
  exact seqSE R w fun d st1 F1 A1 H1 v R1 x1 r1 w1 => w1 _ _ _ GExt.refl (R1.setFro r1)
end

section
variable {X : Cx} {B : Bs} {W : WX} {e c : Expr} {s : Stmt} {rest b1 b2 : List Stmt} {pos : Pos} {f : Env → M D} {t u : SD} {tc : Env → M Bool} {g : Gh} {env : Env} {st : Sta} {σ : L2.St} {H : Hp}
theorem Rel.pushH {o : HO} {p : Addr} (R : Rel X.K X.mg B g env st σ H) (hp : H p = none) : Rel X.K X.mg B g env st σ (upd H p o) := by
  have x : Ext g.F g.A H g.F g.A (upd H p o) := ⟨fun _ _ h => h, fun _ _ h => h, fun b u _ e => by rw [upd_ne (ne_of_none e hp)]; exact e, fun b h => by
    by_cases q : b = p
    · rw [q, upd_same]; exact fun z => nomatch z
    · rw [upd_ne q]; exact h, fun _ h => .inl h, fun _ h => .inl h⟩
  have G : Good X.K X.mg g.F g.A st (upd H p o) := ⟨fun b u e => by rw [upd_ne (ne_of_none (R.good.sub b u e) hp)]; exact R.good.sub b u e, R.good.len, R.good.nd, R.good.off, fun k a c h1 h2 => (R.good.con k a c h1 h2).mono (fun _ _ z => z) (fun _ _ z => z) fun u e => by rw [upd_ne (ne_of_none e hp)]; exact e⟩
  exact R.step x G
theorem Rel.bnone (R : Rel X.K X.mg B g env st σ H) {p : Addr} (hp : H p = none) : B.H p = none := Classical.byContradiction fun q => R.ext.there p q hp
theorem Rel.newOwn {i : Nat} {c : Cell} {o : HO} {p : Addr} (R : Rel X.K X.mg B g env st σ H) (hp : H p = none) (hc : CellAt X.K X.mg g.F g.A (upd H p o) p c) :
    ∃ ow, Rel X.K X.mg B ⟨g.F, g.A, ow⟩ (env.set i (some (.own c))) st (σ.set i (some (.ref p))) (upd H p o) := by
  refine ⟨_, (R.pushH hp).setOwn hc (R.good.fnone hp) (fun z => R.good.there z hp) (R.bnone hp) fun j c' e n z => ?_⟩
  obtain ⟨s1, s2, _⟩ := R.slot j _ e
  obtain ⟨u, hu⟩ := s2.thr
  rw [z, hp] at hu
  cases hu
def ownL (env : Env) (i : Nat) : Option (List D) := match env[i]? with
  | some (some (.own (.lst l))) => some l
  | _ => none
theorem ownL_at {env : Env} {i : Nat} {l : List D} (h : ownL env i = some l) : env[i]? = some (some (.own (.lst l))) := by
  unfold ownL at h
  split at h
  · cases h; assumption
  · cases h
theorem own_tyL {l : List D} {i : Nat} (R : Rel X.K X.mg B g env st σ H) (e : env[i]? = some (some (.own (.lst l)))) : ∃ vs, σ[i]? = some (some (.ref (g.ow i))) ∧ H (g.ow i) = some (.lst vs) ∧ Reps X.K X.mg g.F g.A vs l := by
  obtain ⟨s1, ⟨vs, s2, s3⟩, _⟩ := R.slot i _ e
  exact ⟨vs, s1, s2, s3⟩
theorem tyV_lst {p : Addr} {vs : List V} {K : PySem.W.Frag} {H : Hp} (h : H p = some (.lst vs)) : tyV K "list" (.ref p) H := Or.inl ⟨rfl, _, Or.inl (Or.inl h)⟩
def sAppO (i : Nat) (f : Env → M D) : SD := fun env st => match ownL env i with
  | some l => sE f (fun d env st => if l.length < sizeLine then .nx (env.set i (some (.own (.lst (l ++ [d]))))) st else .bad) env st
  | none => .bad
theorem append_imp {i : Nat} (E : Ends) (σ : L2.St) (H : Hp) (z : rS X.K X.mg B W (sAppO i f) E σ H) : tDrop (tBM X.K "list" rAppend (tVar i) (tCons (rE X.K X.mg B W f) tNil)) E σ H := by
  obtain ⟨g, env, st, R, w⟩ := z
  unfold sAppO at w
  split at w
  · rename_i l hl
    have hl := ownL_at hl
    obtain ⟨vs, e1, e2, r0⟩ := own_tyL R hl
    refine ⟨_, e1, tyV_lst e2, ?_⟩
    refine seqSE R w fun d st1 F1 A1 H1 v R1 x1 r1 w1 => ?_
    obtain ⟨vs1, e3, e4, r2⟩ := own_tyL R1 hl
    split at w1
    · rename_i hz
      refine ⟨g.ow i, vs1, v, rfl, rfl, e4, by rw [r2.length]; exact hz, ?_⟩
      exact w1 _ _ _ GExt.refl (R1.writeOwn hl (o := .lst (vs1 ++ [v])) ⟨_, upd_same, r2.app (.cons r1 .nil)⟩)
    · exact w1.elim
  · exact w.elim
section
variable (K : PySem.W.Frag) (mg : Str → Option Value)
def rL (B : Bs) (W : WX) (f : Env → M (List D)) : TE := fun σ H Q => ∃ g env st, Rel K mg B g env st σ H ∧ WPc K mg W g.F g.A σ H (f env st) (fun ds F' A' H' => ∀ p vs, H' p = none → ∀ H'', H'' = upd H' p (.lst vs) → Reps K mg F' A' vs ds → Q (.ref p) H'')
end
def lstF (f : Env → M (List D)) : Env → M D := fun env => f env >>= fun ds => pure (.lst ds)
theorem seqL {f : Env → M (List D)} {β : Type} {k : List D → M β} {Post : β → Hp → List Addr → Hp → Prop} {Q : VK} {K : PySem.W.Frag} {mg : Str → Option Value} (R : Rel K mg B g env st σ H) (h : WPc K mg W g.F g.A σ H ((f env >>= k) st) Post)
    (cont : ∀ d st1 F1 A1 H1 p vs, Rel K mg B ⟨F1, A1, g.ow⟩ env st1 σ H1 → Ext g.F g.A H F1 A1 H1 → H1 p = none → Reps K mg F1 A1 vs d → WPc K mg W F1 A1 σ H1 (k d st1) Post → Q (.ref p) (upd H1 p (.lst vs))) : rL K mg B W f σ H Q := by
  refine ⟨g, env, st, R, ?_⟩
  refine Res.wp_mono (wp_bind h) (fun d st1 z F1 A1 H1 x G p vs hp H'' e r => ?_) fun _ _ z => z
  rw [e]
  exact cont d st1 F1 A1 H1 p vs (R.step x G) x hp r (WPc.shift z x)
theorem rL_rE (σ : L2.St) (H : Hp) (Q : VK) {fs : Env → M (List D)} (z : rE X.K X.mg B W (lstF fs) σ H Q) : rL X.K X.mg B W fs σ H Q := by
  obtain ⟨g, env, st, R, w⟩ := z
  refine seqL R w fun ds st1 F1 A1 H1 p vs R1 x1 hp r1 w1 => ?_
  obtain ⟨x2, G2⟩ := Ext.alloc (o := .lst vs) R1.good hp
  exact w1 _ _ _ x2 G2 _ (rep_lst_new r1 (R1.good.fnone hp))
theorem pp_frz {fs : Env → M (List D)} (h : PE X e (rL X.K X.mg B W fs)) : PE X e (rE X.K X.mg B W (lstF fs)) := h.imp fun σ H Q z => rL_rE σ H Q z
def sOwn (i : Nat) (fs : Env → M (List D)) : SD := sE fs fun ds env st => .nx (env.set i (some (.own (.lst ds)))) st
theorem own_imp {i : Nat} {fs : Env → M (List D)} (E : Ends) (σ : L2.St) (H : Hp) (z : rS X.K X.mg B W (sOwn i fs) E σ H) : tAsg (rL X.K X.mg B W fs) (gName i) E σ H := by
  obtain ⟨g, env, st, R, w⟩ := z
  refine ⟨g, env, st, R, ?_⟩
  refine Res.wp_mono (sE_wp w R) (fun ds st1 z F1 A1 H1 x G p vs hp H'' e r => ?_) fun _ _ z => z
  rw [e]
  obtain ⟨ow, R2⟩ := (R.step x G).newOwn (i := i) (c := .lst ds) (o := .lst vs) hp ⟨vs, upd_same, r⟩
  exact z ⟨F1, A1, ow⟩ _ _ (GExt.of x) R2
theorem qs_own {i : Nat} {x : Str} {pos' : Pos} {fs : Env → M (List D)} (hN : X.N.Nodup) (hi : X.N[i]? = some x) (hx : Loc X.env.scope x) (he : PE X e (rL X.K X.mg B W fs)) (hs : swapsWith e (some (.Name x pos')) pos.line X.env = pure false := by rfl) (hf : X.fn x = true ∨ X.env.scope.names.lookup x = some .local := by first | exact .inl rfl | exact .inr rfl | assumption) :
    PS X (.Assign [.Name x pos'] e pos) (rS X.K X.mg B W (sOwn i fs)) := (ps_set hN hi hx he hs hf).imp own_imp
def dispL (fs : Env → M (List D)) : Env → M (List D) := fun env => fs env >>= fun ds => M.rd fun _ => if ds.length ≤ sizeLine then some ds else none
theorem pl_lst {es : List Expr} {fs : Env → M (List D)} (h : PA X es (rA X.K X.mg B W fs)) : PE X (.List es pos) (rL X.K X.mg B W (dispL fs)) := by
  refine (pe_lst h).imp fun σ H Q z => ?_
  obtain ⟨gh, env, st, R, w⟩ := z
  refine seqA R w fun ds st1 F1 A1 H1 xs R1 x1 r1 w1 => ?_
  obtain ⟨u, eu, w3⟩ := WPc.rd w1
  split at eu
  · rename_i hl
    cases eu
    exact ⟨by rw [r1.length]; exact hl, fun p hp => w3 _ _ _ Ext.refl R1.good p xs hp _ rfl r1⟩
  · cases eu
def seqOf (d : D) (st : Sta) : Option (List D) := match d with
  | .lst l => some l
  | .tup l => some l
  | .cell k => (match st[k]? with
    | some (.lst l) => some l
    | _ => none)
  | _ => none
def listL (fs : Env → M (List D)) : Env → M (List D) := fun env => fs env >>= fun ds => M.rd fun st => match ds with
  | [d] => seqOf d st
  | _ => none
theorem seqOf_rep {d : D} {l : List D} {v : V} {F : Hp} {A : List Addr} (G : Good X.K X.mg F A st H) (r : Rep X.K X.mg F A v d) (h : seqOf d st = some l) : ∃ p vs, v = .ref p ∧ (SqL X.K H p vs ∨ SqT X.K H p vs) ∧ Reps X.K X.mg F A vs l := by
  unfold seqOf at h
  split at h
  · cases h
    cases r with
    | @lst a vs _ s r => exact ⟨a, vs, rfl, .inl (SqL.of (G.sub _ _ s)), r⟩
  · cases h
    cases r with
    | @tup a vs _ s r => exact ⟨a, vs, rfl, .inr (SqT.mono s G.sub), r⟩
  · split at h
    · rename_i e1
      cases h
      cases r with
      | @cell a k hk =>
        obtain ⟨a', h1, h2⟩ := G.addr e1
        rw [hk] at h1; cases h1
        obtain ⟨vs, s, r⟩ := h2
        exact ⟨a, vs, rfl, .inl (SqL.of s), r⟩
    · cases h
  · cases h
theorem pl_list {p : Pos} {fs : Env → M (List D)} (hg : Gl X "list") (hm : X.mg "list" = none) (ha : PA X [e] (rA X.K X.mg B W fs)) (hv : bootBuiltins "list" = some (.type "list") := by decide +kernel)
    (he : starEach [e] X.env = (false, eval e X.env) :: starEach [] X.env := by rfl) : PE X (.Call (.Name "list" p) [e] [] pos) (rL X.K X.mg B W (listL fs)) := by
  refine (pe_callTy call_list_of hg hm hv ha (he := he)).imp fun σ H Q z => ?_
  obtain ⟨gh, env, st, R, w⟩ := z
  refine seqA R w fun ds st1 F1 A1 H1 xs R1 x1 r1 w1 => ?_
  obtain ⟨u, eu, w3⟩ := WPc.rd w1
  split at eu
  · obtain ⟨v, rfl, r⟩ := reps1 r1
    obtain ⟨p, vs, rfl, hs, r2⟩ := seqOf_rep R1.good r eu
    exact ⟨p, vs, rfl, hs, fun q hq => w3 _ _ _ Ext.refl R1.good q vs hq _ rfl r2⟩
  · cases eu
def repL (f g : Env → M D) : Env → M (List D) := fun env => f env >>= fun x => g env >>= fun y => M.rd fun _ => match x, y with
  | .lst l, .int k => if -(2 ^ 63) ≤ k ∧ k < 2 ^ 63 ∧ l.length * k.toNat ≤ sizeLine then some (List.replicate k.toNat l).flatten else none
  | _, _ => none
theorem pl_rep {a b : Expr} {f g : Env → M D} (ha : PE X a (rE X.K X.mg B W f)) (hb : PE X b (rE X.K X.mg B W g)) : PE X (.BinOp a .Mult b pos) (rL X.K X.mg B W (repL f g)) := by
  refine (pe_op op_rep ha hb).imp fun σ H Q z => ?_
  obtain ⟨gh, env, st, R, w⟩ := z
  refine seqE R w fun d st1 F1 A1 H1 x R1 x1 r1 w1 => ?_
  refine seqE R1 w1 fun k st2 F2 A2 H2 y R2 x2 r2 w2 => ?_
  obtain ⟨u, eu, w3⟩ := WPc.rd w2
  split at eu
  · split at eu
    · rename_i hl
      obtain ⟨h1, h2, h3⟩ := hl
      cases eu
      cases r2
      cases (r1.ext x2) with
      | @lst a vs _ s r => exact ⟨a, _, vs, rfl, rfl, R2.good.sub _ _ s, h1, h2, by rw [r.length]; exact h3, fun p hp => w3 _ _ _ Ext.refl R2.good p _ hp _ rfl (r.rep _)⟩
    · cases eu
  · cases eu
end
end PL
set_option Elab.async false
set_option linter.all false
set_option maxRecDepth 100000
set_option maxHeartbeats 4000000
namespace PL
open PySem PySem.Spec PyProof.Rows L2

theorem meets_enum1 {v : Value} {o : Obj} {H : Heap → Prop} (B : Begins v o H) :
    Meets (Builtin.«enumerate.__new__» ⟨[.type "enumerate", v], []⟩) (fun _ R s => H s.heap ∧
      R (.ok (.ret (.ref (s.heap.push o).objs.size))) { s with heap := (s.heap.push o).push { cls := .type "enumerate", data := .fields #[.none, .bool false, .ref s.heap.objs.size, rawInt 0, .none, .none] } }) :=
  .of_wp fun prog w A R s h => by
    obtain ⟨hp, g, d, tk, os⟩ := s; obtain ⟨h1, h⟩ := h
    have hsub := sub_enumerate
    have q1 : ∀ {A' : Around} {E : Value → Shared → Prop} {Q : Value → Shared → Prop}, Q (.ref hp.objs.size) ⟨hp.push o, g, d, tk, os⟩ → wpAny (model prog w) A' (pyIter v) Q E ⟨hp, g, d, tk, os⟩ :=
      fun q => B.iter prog w _ _ ⟨hp, g, d, tk, os⟩ _ h1 q
    wp_walk using q1
    refine wpAny_stack_any fun st => wpAny_pure ?_
    split
    · rename_i c _ _ _ _ _
      cases (c == Value.type "enumerate")
      · wp_walk using q1
        exact ⟨_, rfl, h⟩
      · wp_walk using q1
        exact ⟨_, rfl, h⟩
    · wp_walk using q1
      exact ⟨_, rfl, h⟩
section
variable {prog : Program} {w : World} {A : Around} {E : Value → Shared → Prop} {s : Shared}
theorem call_enum1 {v : Value} {o : Obj} {H : Heap → Prop} {Q : Value → Shared → Prop} (B : Begins v o H) (h1 : H s.heap)
    (h : ∀ h', IsEnum h' (s.heap.objs.size + 1) s.heap.objs.size 0 .none → h'.get? s.heap.objs.size = some o → h'.objs.size = s.heap.objs.size + 2 →
      (∀ b o, s.heap.get? b = some o → h'.get? b = some o) → Q (.ref (s.heap.objs.size + 1)) { s with heap := h' }) :
    wpAny (model prog w) A (call (.type "enumerate") [v]) Q E s := by
  refine callType_new F.called_enumerate (by decide) (F.typeCall_enumerate_1 _) (F.newCall_enumerate_1 _) (fun obj => F.args_object_init_2 obj _) F.entry_enumerate_new
    (meets_enum1 B) ⟨h1, ?_⟩
  have hz : (s.heap.push o).objs.size = s.heap.objs.size + 1 := Heap.size_push ..
  show _ ∧ _
  rw [hz]
  have he : IsEnum ((s.heap.push o).push { cls := .type "enumerate", data := .fields #[.none, .bool false, .ref s.heap.objs.size, rawInt 0, .none, .none] }) (s.heap.objs.size + 1) s.heap.objs.size 0 .none := by
    have := Heap.get?_push_size (s.heap.push o) (o := { cls := .type "enumerate", data := .fields #[.none, .bool false, .ref s.heap.objs.size, rawInt 0, .none, .none] }) rfl
    rw [hz] at this; exact this
  refine ⟨⟨_, he, rfl⟩, h _ he (Heap.get?_push_of_some _ (Heap.get?_push_size _ B.free)) (by rw [Heap.size_push, hz]) fun b o x => Heap.get?_push_of_some _ (Heap.get?_push_of_some _ x)⟩
end
def Iet (K : PySem.W.Frag) (a : Addr) : It :=
  ⟨fun i H => ∃ (xs : List V) (x : V), SqT K H a xs ∧ xs[i]? = some x, fun i H v H' => ∃ T x, v = .ref T ∧ H T = none ∧ H' = upd H T (.tup [.int (i : Nat), x]) ∧ ∀ xs, SqT K H a xs → xs[i]? = some x, fun i H => ∃ xs : List V, SqT K H a xs ∧ xs.length ≤ i⟩
theorem turn_enumT {P : Program} {w : World} {K : PySem.W.Frag} {elts : List Expr} {kk : Nat} {tpos : Pos} (a e it : Addr) (hait : a ≠ it) :
    Turn P w K (.Tuple elts kk tpos) (Iet K a) [e, it] e (fun i h => (∃ old, IsEnum h e it ((i : Nat) : Int) old) ∧ h.IsTupleIter it a i ∧ e ≠ it ∧ e ≠ a) where
  mem := by simp
  obj := fun i h st b hb => by
    obtain ⟨⟨old, he⟩, ⟨o, ho, hc, hd⟩, _⟩ := st
    have e' : b = e ∨ b = it := by simpa using hb
    rcases e' with z | z
    · rw [z]; exact ⟨_, he, fun v q => nomatch q⟩
    · rw [z]; exact ⟨o, ho, fun v q => by rw [hd] at q; cases q⟩
  keep := fun i h h' st k => let ⟨⟨old, he⟩, hi, hne, hea⟩ := st; ⟨⟨old, k e (by simp) _ he⟩, hi.at fun o q => k it (by simp) o q, hne, hea⟩
  item := by
    intro X hP hw hK hc i pins s σ H E I hf st hg
    subst hP hw hK
    obtain ⟨⟨old, he⟩, hit, hne, hea⟩ := st
    obtain ⟨xs, x, hq, hx⟩ := hg
    obtain ⟨its, rv, p, hz⟩ := I.tuple hq
    obtain ⟨u, hu, ru⟩ := rv.get hx
    have hel : e < s.heap.objs.size := Heap.lt_size he
    have hil : it < s.heap.objs.size := by obtain ⟨_, q, _⟩ := hit; exact Heap.lt_size q
    have hlt : i < its.toArray.size := by
      have h1 := (List.getElem?_eq_some_iff.mp hu).1
      simpa using h1
    have D : Draws X.prog X.w X.A.in1 it [it, a] its.toArray.size (fun i v => its.toArray[i]? = some v) (fun i h => h.IsTupleIter it a i ∧ h.IsTuple a its.toArray) := Draws.tuple (show X.A.in1.handled = none from I.ok.hd hc) it a hait its.toArray
    refine wpAny_pyNext_enum_itemC D he ⟨hit, p⟩ hlt hne (by simp [hne, hea]) fun y h' tk hy ho hit' hT hsz hk => ?_
    have ey : y = u := by
      have h2 : its.toArray[i]? = some u := by simpa using hu
      rw [h2] at hy
      exact (Option.some.inj hy).symm
    subst ey
    refine ⟨_, rfl, wpAny_letOwnedTupleGo_enum (s := { s with heap := h', toks := tk + 1 }) ho fun h'' he' sb => ?_⟩
    have hT2 : h''.get? s.heap.objs.size = some { cls := .type "tuple", data := .seq #[.int i tk, y] } := (sb.2 _ (Nat.ne_of_gt hel)).trans hT
    have new : ObjOk X.prog X.w (upd H s.heap.objs.size (.tup [.int (i : Nat), x])) h'' s.heap.objs.size (.tup [.int (i : Nat), x]) :=
      ⟨by show 2 ≤ sizeLine; decide, [.int i tk, y], .cons ⟨_, rfl⟩ (.cons ru .nil), ⟨_, hT2, rfl, _, rfl⟩⟩
    have I1 : Inv X pins σ (upd H s.heap.objs.size (.tup [.int (i : Nat), x])) { s with heap := h'', toks := tk + 1 } :=
      I.turnedNew (ch := [e, it]) (fun b ob hb q => (sb.2 b (fun z => hb (by simp [z]))).trans (hk b ob (fun z => hb (by simp [z])) (fun z => hb (by simp [z])) q)) hf (Nat.le_refl _) new
    refine ⟨.ref s.heap.objs.size, _, I1, rfl, ⟨_, x, rfl, I.hok.fresh (Nat.le_refl _), rfl, fun ys hy => by rw [I.tuple_inj hy hq]; exact hx⟩, ⟨⟨y, ?_⟩, hit'.1.at fun o q => (sb.2 it (Ne.symm hne)).trans q, hne, hea⟩, fun b hb => ?_⟩
    · have e1 : ((i + 1 : Nat) : Int) = (i : Int) + 1 := by omega
      rw [e1]; exact he'
    · have hb' : b < s.heap.objs.size := by
        have e' : b = e ∨ b = it := by simpa using hb
        rcases e' with z | z
        · rw [z]; exact hel
        · rw [z]; exact hil
      rw [upd_ne (Nat.ne_of_lt hb')]
      exact (hf b hb).1
  done := by
    intro X hP hw hK hc i pins s σ H E I hf st hg
    subst hP hw hK
    obtain ⟨⟨old, he⟩, hit, hne, hea⟩ := st
    obtain ⟨xs, hq, hx⟩ := hg
    obtain ⟨its, rv, p, hz⟩ := I.tuple hq
    obtain ⟨f0, f1, f2, f3, f4, f5⟩ := hf it (by simp)
    have hl := rv.length
    -- the iterator at i, past the end
    have D : Draws X.prog X.w X.A.in1 it [it, a] i (fun _ _ => True) (fun j h => h.IsTupleIter it a j ∧ h.IsTuple a its.toArray ∧ j = i) := {
      live := fun _ _ st => let ⟨o, ho, _⟩ := st.1; ⟨o, ho⟩
      frame := fun _ _ _ st hk => ⟨st.1.at fun o e => hk it (by simp) o e, st.2.1.at fun o e => hk a (by simp) o e, st.2.2⟩
      item := fun j s' Q E' hj st hQ => absurd st.2.2 (Nat.ne_of_lt hj)
      done := fun s' Q E' st hE => wpAny_nextOf_tuple_end (show X.A.in1.handled = none from I.ok.hd hc) st.1 st.2.1 (by simp; omega) hE }
    exact wpAny_pyNext_enum_endD D he ⟨hit, p, rfl⟩ fun h' eb => ⟨rfl, I.turned (t' := s.toks) (fun b o hb q => eb b o hb q) f0 f1 f3 f4 f5⟩
  self := fun A i s Q E st h => let ⟨⟨_, he⟩, _⟩ := st; wpAny_pyIter_enum he h
def iEnumA (K : PySem.W.Frag) (ta : TA) : TI := fun σ H R => ta σ H fun vs H1 => ∃ a xs, vs = [.ref a] ∧ ((SqL K H1 a xs ∧ R (Ite K a) H1) ∨ (SqT K H1 a xs ∧ R (Iet K a) H1))
theorem pi_enumA {X : Cx} {e : Expr} {ta : TA} {p pos tpos : Pos} {elts : List Expr} {kk : Nat} (hg : Gl X "enumerate") (hm : X.mg "enumerate" = none) (ha : PA X [e] ta) (hs : starEach [e] X.env = [(false, eval e X.env)] := by rfl) :
    PI X (.Tuple elts kk tpos) (.Call (.Name "enumerate" p) [e] [] pos) (iEnumA X.K ta) := by
  refine ⟨fun pins s σ H R I h => ?_⟩
  refine Call_ (ld_blt I hg hm boot_enumerate (PyProof.Rows.callWith_type1 (thn (ha.run pos pins s σ H _ I h) fun us s1 ⟨vs, H1, I1, r1, q1⟩ => ?_) hs rfl))
  obtain ⟨a, xs, ex, q1⟩ := q1
  subst ex
  cases r1 with
  | cons r rr =>
    cases rr
    cases r
    have two : ∀ b ∈ [s1.heap.objs.size + 1, s1.heap.objs.size], FpOk X pins H1 b := fun b hb => by
      have e' : b = s1.heap.objs.size + 1 ∨ b = s1.heap.objs.size := by simpa using hb
      have hle : s1.heap.objs.size ≤ b := by
        rcases e' with z | z
        · rw [z]; exact Nat.le_add_right _ _
        · rw [z]; exact Nat.le_refl _
      exact I1.fpOk hle (I1.hok.fresh hle)
    rcases q1 with ⟨hq, q⟩ | ⟨hq, q⟩
    · obtain ⟨its, rv, p', hz⟩ := I1.list hq
      refine call_enumerate_list p'.isList fun h' he hit hsz hk => wpAny_pyIter_enum he ?_
      have I2 : Inv X pins σ H1 { s1 with heap := h' } := I1.kept (t' := s1.toks) hk
      exact ⟨s1.heap.objs.size + 1, [s1.heap.objs.size + 1, s1.heap.objs.size], _, _, H1, rfl, I2, turn_enum a (s1.heap.objs.size + 1) s1.heap.objs.size, ⟨⟨.none, he⟩, hit, Nat.succ_ne_self _⟩, two, q⟩
    · obtain ⟨its, rv, p', hz⟩ := I1.tuple hq
      have hal : a < s1.heap.objs.size := p'.lt
      refine call_enum1 (begins_tuple a its.toArray) p' fun h' he hit hsz hk => wpAny_pyIter_enum he ?_
      have I2 : Inv X pins σ H1 { s1 with heap := h' } := I1.kept (t' := s1.toks) hk
      exact ⟨s1.heap.objs.size + 1, [s1.heap.objs.size + 1, s1.heap.objs.size], _, _, H1, rfl, I2, turn_enumT a (s1.heap.objs.size + 1) s1.heap.objs.size (Nat.ne_of_lt hal), ⟨⟨.none, he⟩, ⟨_, hit, rfl, rfl⟩, Nat.succ_ne_self _, Nat.ne_of_gt (Nat.lt_succ_of_lt hal)⟩, two, q⟩
def iSeq (K : PySem.W.Frag) (tl : TE) : TI := fun σ H R => tl σ H fun x H1 => ∃ a, x = .ref a ∧ (((∃ xs, SqL K H1 a xs) ∧ R (Itl K a) H1) ∨ ((∃ xs, SqT K H1 a xs) ∧ R (Itt K a) H1))
theorem pi_seq {X : Cx} {tg l : Expr} {tl : TE} (hl : PE X l tl) : PI X tg l (iSeq X.K tl) := by
  refine ⟨fun pins s σ H R I h => ?_⟩
  refine thn (hl.run pins s σ H _ I h) fun v s1 ⟨x, H1, I1, r1, q1⟩ => ?_
  obtain ⟨a, e, q⟩ := q1
  subst e
  cases r1
  rcases q with ⟨⟨xs, hq⟩, q⟩ | ⟨⟨xs, hq⟩, q⟩
  · obtain ⟨its, rv, p, hz⟩ := I1.list hq
    refine wpAny_pyIter_list p.isList ?_
    refine ⟨s1.heap.objs.size, [s1.heap.objs.size], _, _, H1, rfl, I1.kept (t' := s1.toks) fun b o e => Heap.get?_push_of_some _ e, turn_list a _, ⟨_, Heap.get?_push_size _ rfl, rfl, rfl⟩, fun b hb => ?_, q⟩
    have e : b = s1.heap.objs.size := by simpa using hb
    subst e
    exact I1.fpOk (Nat.le_refl _) (I1.hok.fresh (Nat.le_refl _))
  · obtain ⟨its, rv, p, hz⟩ := I1.tuple hq
    refine wpAny_pyIter_tuple (show s1.heap.IsTuple a its.toArray from p) ?_
    refine ⟨s1.heap.objs.size, [s1.heap.objs.size], _, _, H1, rfl, I1.kept (t' := s1.toks) fun b o e => Heap.get?_push_of_some _ e, turn_tuple a _, ⟨_, Heap.get?_push_size _ rfl, rfl, rfl⟩, fun b hb => ?_, q⟩
    have e : b = s1.heap.objs.size := by simpa using hb
    subst e
    exact I1.fpOk (Nat.le_refl _) (I1.hok.fresh (Nat.le_refl _))
end PL
set_option Elab.async false
set_option linter.all false
set_option maxRecDepth 100000
set_option maxHeartbeats 2000000
namespace PL
open PySem PySem.Spec PyProof.Rows L2

section
variable (K : PySem.W.Frag) (mg : Str → Option Value)
def ItOk (J : It) (F : Hp) (A : List Addr) (ds : List D) : Prop := ∀ (i : Nat) F' A' st H', (∀ b o, F b = some o → F' b = some o) → (∀ (k : Nat) (a : Addr), A[k]? = some a → A'[k]? = some a) → Good K mg F' A' st H' →
  (∀ d, ds[i]? = some d → J.go i H' ∧ ∀ x H'', J.yld i H' x H'' → ∃ F'', Ext F' A' H' F'' A' H'' ∧ Good K mg F'' A' st H'' ∧ Rep K mg F'' A' x d) ∧ (ds.length ≤ i → J.stop i H')
def rI (B : Bs) (W : WX) (f : Env → M (List D)) : TI := fun σ H R => ∃ g env st, Rel K mg B g env st σ H ∧ WPc K mg W g.F g.A σ H (f env st) (fun ds F' A' H' => ∀ J, ItOk K mg J F' A' ds → R J H')
def gA (B : Bs) (a : D → SD) : TG := fun v σ H Q => ∃ g env st d, Rel K mg B g env st σ H ∧ Rep K mg g.F g.A v d ∧ WPs K mg B W0 g ⟨Q, fun _ _ => False, fun _ _ => False, fun _ _ => False⟩ (a d env st)
def gAs (B : Bs) (a : List D → SD) : TGs := fun vs σ H Q => ∃ g env st ds, Rel K mg B g env st σ H ∧ Reps K mg g.F g.A vs ds ∧ WPs K mg B W0 g ⟨Q, fun _ _ => False, fun _ _ => False, fun _ _ => False⟩ (a ds env st)
end
def seqIt (d : D) (_ : Sta) : Option (List D) := match d with
  | .lst l => some l
  | .tup l => some l
  | .fix l => some l
  | _ => none
def rng (lo : Int) (n : Nat) : List D := (List.range n).map fun (i : Nat) => D.int (lo + (i : Int))
def rng1 (ds : List D) (_ : Sta) : Option (List D) := match ds with
  | [.int j] => if -(2 ^ 62) ≤ j ∧ j < 2 ^ 62 then some (rng 0 j.toNat) else none
  | _ => none
def enumFrom (l : List D) : List D := (l.zipIdx).map fun p => D.tup [.int (p.2 : Nat), p.1]
def enumD (ds : List D) (_ : Sta) : Option (List D) := match ds with
  | [.lst l] => some (enumFrom l)
  | [.tup l] => some (enumFrom l)
  | _ => none
def itO (o : D → Sta → Option (List D)) (f : Env → M D) : Env → M (List D) := fun env => f env >>= fun d => M.rd (o d)
def itN (o : List D → Sta → Option (List D)) (fs : Env → M (List D)) : Env → M (List D) := fun env => fs env >>= fun ds => M.rd (o ds)
section
variable {K : PySem.W.Frag} {mg : Str → Option Value} {F : Hp} {A : List Addr}
theorem rep_pair {F' : Hp} {A' : List Addr} {st : Sta} {H' : Hp} {T : Addr} {x y : V} {d e : D} (G : Good K mg F' A' st H') (hT : H' T = none) (rx : Rep K mg F' A' x d) (ry : Rep K mg F' A' y e) :
    Ext F' A' H' (upd F' T (.tup [x, y])) A' (upd H' T (.tup [x, y])) ∧ Good K mg (upd F' T (.tup [x, y])) A' st (upd H' T (.tup [x, y])) ∧ Rep K mg (upd F' T (.tup [x, y])) A' (.ref T) (.tup [d, e]) := by
  obtain ⟨x2, G2⟩ := Ext.alloc (o := .tup [x, y]) G hT
  exact ⟨x2, G2, .tup (SqT.of upd_same) (.cons (rx.ext x2) (.cons (ry.ext x2) .nil))⟩
theorem it_list {a : Addr} {vs : List V} {ds : List D} (s : SqL K F a vs) (r : Reps K mg F A vs ds) : ItOk K mg (Itl K a) F A ds := by
  intro i F' A' st H' kF kA G
  have s' : SqL K H' a vs := SqL.mono (SqL.mono s kF) G.sub
  refine ⟨fun d hd => ?_, fun h => ⟨vs, s', by rw [r.length]; exact h⟩⟩
  obtain ⟨v, hv, rv⟩ := (r.mono kF kA).get hd
  refine ⟨⟨vs, v, s', hv⟩, fun x H'' y => ?_⟩
  obtain ⟨e, y⟩ := y
  subst e
  have e2 := y vs s'
  rw [hv] at e2
  cases e2
  exact ⟨F', Ext.refl, G, rv⟩
theorem it_tup {a : Addr} {vs : List V} {ds : List D} (s : SqT K F a vs) (r : Reps K mg F A vs ds) : ItOk K mg (Itt K a) F A ds := by
  intro i F' A' st H' kF kA G
  have s' : SqT K H' a vs := SqT.mono (SqT.mono s kF) G.sub
  refine ⟨fun d hd => ?_, fun h => ⟨vs, s', by rw [r.length]; exact h⟩⟩
  obtain ⟨v, hv, rv⟩ := (r.mono kF kA).get hd
  refine ⟨⟨vs, v, s', hv⟩, fun x H'' y => ?_⟩
  obtain ⟨e, y⟩ := y
  subst e
  have e2 := y vs s'
  rw [hv] at e2
  cases e2
  exact ⟨F', Ext.refl, G, rv⟩
theorem it_rng {lo : Int} {n : Nat} : ItOk K mg (Itr lo n) F A (rng lo n) := by
  intro i F' A' st H' kF kA G
  refine ⟨fun d hd => ?_, fun h => ?_⟩
  · have hi : i < n := by
      have h1 := (List.getElem?_eq_some_iff.mp hd).1
      simpa [rng] using h1
    refine ⟨hi, fun x H'' y => ?_⟩
    obtain ⟨e, ex⟩ := y
    subst e ex
    have e2 : d = .int (lo + (i : Int)) := by
      simp [rng, hi] at hd
      exact hd.symm
    subst e2
    exact ⟨F', Ext.refl, G, .int _⟩
  · show n ≤ i
    simpa [rng] using h
theorem enum_get {l : List D} {i : Nat} {d : D} (h : (enumFrom l)[i]? = some d) : ∃ e, l[i]? = some e ∧ d = .tup [.int (i : Nat), e] := by
  unfold enumFrom at h
  rw [List.getElem?_map, List.getElem?_zipIdx] at h
  cases q : l[i]? with
  | none => rw [q] at h; cases h
  | some e =>
    rw [q] at h
    simp at h
    exact ⟨e, rfl, h.symm⟩
theorem it_enumL {a : Addr} {vs : List V} {ds : List D} (s : SqL K F a vs) (r : Reps K mg F A vs ds) : ItOk K mg (Ite K a) F A (enumFrom ds) := by
  intro i F' A' st H' kF kA G
  have s' : SqL K H' a vs := SqL.mono (SqL.mono s kF) G.sub
  refine ⟨fun d hd => ?_, fun h => ⟨vs, s', by rw [r.length]; simpa [enumFrom] using h⟩⟩
  obtain ⟨e, he, ed⟩ := enum_get hd
  subst ed
  obtain ⟨v, hv, rv⟩ := (r.mono kF kA).get he
  refine ⟨⟨vs, v, s', hv⟩, fun x H'' y => ?_⟩
  obtain ⟨T, x', ex, hT, eH, y⟩ := y
  subst ex eH
  have e2 := y vs s'
  rw [hv] at e2
  cases e2
  exact ⟨_, rep_pair G hT (.int _) rv⟩
theorem it_enumT {a : Addr} {vs : List V} {ds : List D} (s : SqT K F a vs) (r : Reps K mg F A vs ds) : ItOk K mg (Iet K a) F A (enumFrom ds) := by
  intro i F' A' st H' kF kA G
  have s' : SqT K H' a vs := SqT.mono (SqT.mono s kF) G.sub
  refine ⟨fun d hd => ?_, fun h => ⟨vs, s', by rw [r.length]; simpa [enumFrom] using h⟩⟩
  obtain ⟨e, he, ed⟩ := enum_get hd
  subst ed
  obtain ⟨v, hv, rv⟩ := (r.mono kF kA).get he
  refine ⟨⟨vs, v, s', hv⟩, fun x H'' y => ?_⟩
  obtain ⟨T, x', ex, hT, eH, y⟩ := y
  subst ex eH
  have e2 := y vs s'
  rw [hv] at e2
  cases e2
  exact ⟨_, rep_pair G hT (.int _) rv⟩
end
section
variable {X : Cx} {B : Bs} {W : WX} {e e2 tg : Expr} {p pos tpos : Pos} {elts : List Expr} {kk : Nat} {f : Env → M D} {fs : Env → M (List D)}
theorem PI.imp {tg iter : Expr} {t t' : TI} (h : PI X tg iter t) (i : ∀ σ H Q, t' σ H Q → t σ H Q) : PI X tg iter t' := ⟨fun pins s σ H R I z => h.run pins s σ H R I (i σ H R z)⟩
theorem qi_seq (he : PE X e (rE X.K X.mg B W f)) : PI X tg e (rI X.K X.mg B W (itO seqIt f)) := by
  refine PI.imp (pi_seq he) fun σ H Q z => ?_
  obtain ⟨g, env, st, R, w⟩ := z
  refine seqE R w fun d st1 F1 A1 H1 x R1 x1 r1 w1 => ?_
  obtain ⟨u, eu, w3⟩ := WPc.rd w1
  unfold seqIt at eu
  split at eu
  · cases eu
    cases r1 with
    | @lst a vs _ s r => exact ⟨a, rfl, .inl ⟨⟨vs, SqL.of (R1.good.sub _ _ s)⟩, w3 _ _ _ Ext.refl R1.good _ (it_list (SqL.of s) r)⟩⟩
  · cases eu
    cases r1 with
    | @tup a vs _ s r => exact ⟨a, rfl, .inr ⟨⟨vs, SqT.mono s R1.good.sub⟩, w3 _ _ _ Ext.refl R1.good _ (it_tup s r)⟩⟩
  · cases eu
    cases r1 with
    | @fix a vs _ s r => exact ⟨a, rfl, .inl ⟨⟨vs, SqL.mono s R1.good.sub⟩, w3 _ _ _ Ext.refl R1.good _ (it_list s r)⟩⟩
  · cases eu
theorem qi_range1 (hg : Gl X "range") (hm : X.mg "range" = none) (ha : PA X [e] (rA X.K X.mg B W fs)) (hs : starEach [e] X.env = [(false, eval e X.env)] := by rfl) : PI X tg (.Call (.Name "range" p) [e] [] pos) (rI X.K X.mg B W (itN rng1 fs)) := by
  refine PI.imp (pi_range1 hg hm ha hs) fun σ H Q z => ?_
  obtain ⟨g, env, st, R, w⟩ := z
  refine seqA R w fun d st1 F1 A1 H1 x R1 x1 r1 w1 => ?_
  obtain ⟨u, eu, w3⟩ := WPc.rd w1
  unfold rng1 at eu
  split at eu
  · split at eu
    · rename_i hl
      cases eu
      obtain ⟨v, rfl, r⟩ := reps1 r1
      cases r
      exact ⟨_, rfl, hl.1, hl.2, w3 _ _ _ Ext.refl R1.good _ it_rng⟩
    · cases eu
  · cases eu
theorem qi_enum (hg : Gl X "enumerate") (hm : X.mg "enumerate" = none) (ha : PA X [e] (rA X.K X.mg B W fs)) (hs : starEach [e] X.env = [(false, eval e X.env)] := by rfl) :
    PI X (.Tuple elts kk tpos) (.Call (.Name "enumerate" p) [e] [] pos) (rI X.K X.mg B W (itN enumD fs)) := by
  refine PI.imp (pi_enumA hg hm ha hs) fun σ H Q z => ?_
  obtain ⟨g, env, st, R, w⟩ := z
  refine seqA R w fun d st1 F1 A1 H1 x R1 x1 r1 w1 => ?_
  obtain ⟨u, eu, w3⟩ := WPc.rd w1
  unfold enumD at eu
  split at eu
  · cases eu
    obtain ⟨v, rfl, r⟩ := reps1 r1
    cases r with
    | @lst a vs _ s r => exact ⟨a, vs, rfl, .inl ⟨SqL.of (R1.good.sub _ _ s), w3 _ _ _ Ext.refl R1.good _ (it_enumL (SqL.of s) r)⟩⟩
  · cases eu
    obtain ⟨v, rfl, r⟩ := reps1 r1
    cases r with
    | @tup a vs _ s r => exact ⟨a, vs, rfl, .inr ⟨SqT.mono s R1.good.sub, w3 _ _ _ Ext.refl R1.good _ (it_enumT s r)⟩⟩
  · cases eu
end

def aName (i : Nat) : D → SD := fun d env st => .nx (env.set i (some (.fro d))) st
def aTup (n : Nat) (a : List D → SD) : D → SD := fun d => match d with
  | .tup ds => if ds.length = n then a ds else fun _ _ => .bad
  | _ => fun _ _ => .bad
def aNil : List D → SD := fun ds => match ds with
  | [] => sNext
  | _ => fun _ _ => .bad
def aCons (a : D → SD) (b : List D → SD) : List D → SD := fun ds => match ds with
  | d :: r => fun env st => match a d env st with
    | .nx env' st' => b r env' st'
    | _ => .bad
  | [] => fun _ _ => .bad
section
variable {X : Cx} {B : Bs} {W : WX} {pos : Pos}
theorem PG.imp {tg : Expr} {t t' : TG} (h : PG X tg t) (i : ∀ v σ H Q, t' v σ H Q → t v σ H Q) : PG X tg t' := ⟨fun pins s σ H v u Q I r z => h.run pins s σ H v u Q I r (i v σ H Q z)⟩
theorem PGs.imp {ts : List Expr} {t t' : TGs} (h : PGs X ts t) (i : ∀ v σ H Q, t' v σ H Q → t v σ H Q) : PGs X ts t' := ⟨fun pins s σ H v u Q I r z => h.run pins s σ H v u Q I r (i v σ H Q z)⟩
theorem qg_name {i : Nat} {x : Str} (hN : X.N.Nodup) (hi : X.N[i]? = some x) (hx : Loc X.env.scope x) (hf : X.fn x = true ∨ X.env.scope.names.lookup x = some .local := by first | exact .inl rfl | exact .inr rfl | assumption) : PG X (.Name x pos) (gA X.K X.mg B (aName i)) :=
  PG.imp (pg_name hN hi hx hf) fun v σ H Q ⟨g, env, st, d, R, r, w⟩ => w g _ H GExt.refl (R.setFro r)
theorem qgs_nil : PGs X [] (gAs X.K X.mg B aNil) := PGs.imp pgs_nil fun v σ H Q ⟨g, env, st, ds, R, r, w⟩ => by
  cases r with
  | nil => exact ⟨rfl, w g σ H GExt.refl R⟩
  | cons h r => exact w.elim
theorem qgs_cons {e : Expr} {es : List Expr} {a : D → SD} {b : List D → SD} (h1 : PG X e (gA X.K X.mg B a)) (h2 : PGs X es (gAs X.K X.mg B b))
    (hs : (assignEach (e :: es) X.env).map (·.2) = assign e X.env :: (assignEach es X.env).map (·.2) := by rfl) : PGs X (e :: es) (gAs X.K X.mg B (aCons a b)) := PGs.imp (pgs_cons h1 h2 hs) fun v σ H Q ⟨g, env, st, ds, R, r, w⟩ => by
  cases r with
  | nil => exact w.elim
  | @cons v vs d ds h r =>
    refine ⟨v, vs, rfl, g, env, st, d, R, h, ?_⟩
    have w' : WPs X.K X.mg B W0 g ⟨Q, fun _ _ => False, fun _ _ => False, fun _ _ => False⟩ (match a d env st with
      | .nx env' st' => b ds env' st'
      | _ => .bad) := w
    cases q : a d env st with
    | nx env' st' =>
      rw [q] at w'
      exact fun g' σ' H' x R' => ⟨g', env', st', ds, R', r.mono x.fro x.cel, WPs.shift w' x⟩
    | bk env' st' => rw [q] at w'; exact w'.elim
    | ct env' st' => rw [q] at w'; exact w'.elim
    | rt d st' => rw [q] at w'; exact w'.elim
    | exc e' env' st' => rw [q] at w'; exact w'.elim
    | bad => rw [q] at w'; exact w'.elim
theorem qg_tup {es : List Expr} {k : Nat} {a : List D → SD} {n : Nat} (hc : X.calm = true) (h : PGs X es (gAs X.K X.mg B a))
    (hn : (assignEach es X.env).length = n := by rfl) (hst : (assignEach es X.env).findIdx? (·.1) = none := by rfl) : PG X (.Tuple es k pos) (gA X.K X.mg B (aTup n a)) := PG.imp (pg_tup hc h hn hst) fun v σ H Q ⟨g, env, st, d, R, r, w⟩ => by
  unfold aTup at w
  split at w
  · rename_i ds
    split at w
    · rename_i hl
      cases r with
      | @tup p vs _ s r => exact ⟨p, vs, rfl, SqT.mono s R.good.sub, by rw [r.length]; exact hl, g, env, st, ds, R, r, w⟩
    · exact w.elim
  · exact w.elim
def sAsg (f : Env → M D) (a : D → SD) : SD := sE f fun d env st => match a d env st with
  | .nx env' st' => .nx env' st'
  | _ => .bad
theorem WPs.only {K : PySem.W.Frag} {mg : Str → Option Value} {W W' : WX} {g : Gh} {E : Ends} {r : SR} (h : WPs K mg B W g E (match r with
    | .nx env' st' => .nx env' st'
    | _ => .bad)) : WPs K mg B W' g ⟨E.nx, fun _ _ => False, fun _ _ => False, fun _ _ => False⟩ r := by
  cases r with
  | nx env st => exact h
  | bk env' st' => exact h.elim
  | ct env' st' => exact h.elim
  | rt d st' => exact h.elim
  | exc e' env' st' => exact h.elim
  | bad => exact h.elim
theorem qs_asg {tg e : Expr} {f : Env → M D} {a : D → SD} (he : PE X e (rE X.K X.mg B W f)) (hg : PG X tg (gA X.K X.mg B a)) (hs : swapsWithSole [tg] e pos.line X.env = pure false := by rfl) (hw : swappedStores [tg] e X.env = pure none := by rfl)
    (h1 : (assignEach [tg] X.env).map (·.2) = [assign tg X.env] := by rfl) : PS X (.Assign [tg] e pos) (rS X.K X.mg B W (sAsg f a)) := by
  refine (ps_asg he hg hs hw h1).imp fun E σ H z => ?_
  obtain ⟨g, env, st, R, w⟩ := z
  exact seqSE R w fun d st1 F1 A1 H1 v R1 x1 r1 w1 => ⟨_, env, st1, d, R1, r1, WPs.only w1⟩
def sPar (i j : Nat) (f h : Env → M D) : SD := sE f fun x => sE h fun y => fun env st => .nx ((env.set i (some (.fro x))).set j (some (.fro y))) st
theorem qs_par {i j : Nat} {x y : Str} {a b : Expr} {f h : Env → M D} {px py pt : Pos} {kt k2 pt2} (hc : X.calm = true) (hN : X.N.Nodup) (hi : X.N[i]? = some x) (hj : X.N[j]? = some y) (hij : i ≠ j)
    (hx : X.env.scope.names.lookup x = some .local) (hy : X.env.scope.names.lookup y = some .local) (ha : PE X a (rE X.K X.mg B W f)) (hb : PE X b (rE X.K X.mg B W h))
    (hw : swappedStores [.Tuple [.Name x px, .Name y py] kt pt] (.Tuple [a, b] k2 pt2) X.env = pure (some [x, y]))
    (hs : swapsWithSole [.Tuple [.Name x px, .Name y py] kt pt] (.Tuple [a, b] k2 pt2) pos.line X.env = pure false := by rfl)
    (he1 : starEach (a :: [b]) X.env = (false, eval a X.env) :: starEach [b] X.env := by rfl) (he2 : starEach (b :: []) X.env = (false, eval b X.env) :: starEach [] X.env := by rfl) :
    PS X (.Assign [.Tuple [.Name x px, .Name y py] kt pt] (.Tuple [a, b] k2 pt2) pos) (rS X.K X.mg B W (sPar i j f h)) := by
  refine (ps_par hc hN hi hj hij hx hy (pa_cons ha (pa_cons hb pa_nil he2) he1) hw hs).imp fun E σ H z => ?_
  obtain ⟨g, env, st, R, w⟩ := z
  refine seqSE R w fun d st1 F1 A1 H1 v R1 x1 r1 w1 => ?_
  refine seqSE R1 w1 fun d2 st2 F2 A2 H2 v2 R2 x2 r2 w2 => ?_
  exact ⟨v, v2, rfl, w2 _ _ _ GExt.refl ((R2.setFro (r1.ext x2)).setFro r2)⟩
def aSubC (cf : Env → M D) (ix : Env → M D) : D → SD := fun d => sE cf fun c => sE ix fun k env st => match c, k with
  | .cell n, .int z => (match st[n]? with
    | some (.lst l) => (match ixN l.length z with
      | some j => .nx env (st.set n (.lst (l.set j d)))
      | none => .bad)
    | _ => .bad)
  | _, _ => .bad
theorem qg_subC {o ie : Expr} {cf ix : Env → M D} (ho : PE X o (rE X.K X.mg B W0 cf)) (hi : PE X ie (rE X.K X.mg B W0 ix))
    (ha : ∀ v, assign (.Subscript o ie pos) X.env v = (do
      let ov ← holding [v] (eval o X.env)
      let iv ← holding [v, ov] (eval ie X.env)
      standAt pos
      holding [v, ov, iv] (setItem ov iv v)
      release [v, ov, iv] []) := by intro _; rfl) : PG X (.Subscript o ie pos) (gA X.K X.mg B (aSubC cf ix)) := PG.imp (pg_sub ho hi set_list ha) fun v σ H Q ⟨g, env, st, d, R, r, w⟩ => by
  refine seqSE R w fun c st1 F1 A1 H1 cv R1 x1 r1 w1 => ?_
  refine seqSE R1 w1 fun k st2 F2 A2 H2 kv R2 x2 r2 w2 => ?_
  split at w2
  · split at w2
    · split at w2
      · rename_i n z _ l hl _ j hj
        cases r2
        cases (r1.ext x2) with
        | @cell a k hk =>
          obtain ⟨a', h1, h2⟩ := R2.good.addr hl
          have h1' : A2[n]? = some a' := h1
          rw [hk] at h1'; cases h1'
          obtain ⟨vs, s, r3⟩ := h2
          refine ⟨a, vs, _, j, rfl, rfl, s, by rw [r3.length]; exact hj, ?_⟩
          obtain ⟨x3, G3⟩ := Ext.write (o := .lst (vs.set j v)) (c := .lst (l.set j d)) R2.good hk ⟨_, upd_same, r3.set j ((r.ext x1).ext x2)⟩
          exact w2 _ _ _ (GExt.of x3) (R2.step x3 G3)
      · exact w2.elim
    · exact w2.elim
  · exact w2.elim
theorem qs_store {tg e : Expr} {f : Env → M D} {a : D → SD} (he : PE X e (rE X.K X.mg B W f)) (hg : PG X tg (gA X.K X.mg B a)) (hs : swapsWithSole [tg] e pos.line X.env = pure false := by rfl) (hw : swappedStores [tg] e X.env = pure none := by rfl)
    (h1 : (assignEach [tg] X.env).map (·.2) = [assign tg X.env] := by rfl) : PS X (.Assign [tg] e pos) (rS X.K X.mg B W (sAsg f a)) := qs_asg he hg hs hw h1
end

def sLoop (a : D → SD) (body : SD) : List D → SD
  | [] => sNext
  | d :: ds => fun env st => match a d env st with
    | .nx env1 st1 => (match body env1 st1 with
      | .nx env2 st2 => sLoop a body ds env2 st2
      | .ct env2 st2 => sLoop a body ds env2 st2
      | .bk env2 st2 => .nx env2 st2
      | r => r)
    | _ => .bad
def sFor (it : Env → M (List D)) (a : D → SD) (body : SD) : SD := sE it fun ds => sLoop a body ds
section
variable {X : Cx} {B : Bs} {W : WX} {pos : Pos}
theorem qs_for {tg iter : Expr} {body : List Stmt} {f : Env → M (List D)} {a : D → SD} {b : SD} (hp : PassesOwn (model X.prog X.w) X.A X.env X.xe) (hc : X.calm = true) (hi : PI X tg iter (rI X.K X.mg B W f)) (hg : PG X tg (gA X.K X.mg B a)) (hb : PSs X body (rS X.K X.mg B W b))
    (hs : ∀ x, foldedSetIterable iter X.env x = pure x := by intro _; rfl) : PS X (.For tg iter body [] pos) (rS X.K X.mg B W (sFor f a b)) := by
  refine (ps_for hp hc hi hg hb hs).imp fun E σ H z => ?_
  obtain ⟨g0, env0, st0, R0, w0⟩ := z
  refine ⟨g0, env0, st0, R0, ?_⟩
  refine Res.wp_mono (sE_wp w0 R0) (fun ds st1 z F1 A1 H1 x1 G1 J hJ => ?_) fun _ _ z => z
  refine ⟨fun i m σ H => m = ds.length - i ∧ i ≤ ds.length ∧ ∃ g env st, GExt ⟨F1, A1, g0.ow⟩ g ∧ Rel X.K X.mg B g env st σ H ∧ WPs X.K X.mg B W g E (sLoop a b (ds.drop i) env st), ⟨ds.length, by omega, Nat.zero_le _, ⟨F1, A1, g0.ow⟩, env0, st1, GExt.refl, R0.step x1 G1, z.shift (GExt.of x1)⟩, ?_⟩
  rintro i m σ' H' ⟨rfl, hi, g, env, st, gx, R, w⟩
  obtain ⟨ji, js⟩ := hJ i g.F g.A st H' gx.fro gx.cel R.good
  by_cases hlt : i < ds.length
  · refine .inr ?_
    obtain ⟨jg, jy⟩ := ji ds[i] (List.getElem?_eq_getElem hlt)
    refine ⟨jg, fun σ2 H2 => ∃ g' env' st', GExt ⟨F1, A1, g0.ow⟩ g' ∧ Rel X.K X.mg B g' env' st' σ2 H2 ∧ WPs X.K X.mg B W g' E (sLoop a b (ds.drop (i + 1)) env' st'), fun σ2 H2 q => ⟨ds.length - (i + 1), by omega, rfl, hlt, q⟩, fun x H2 y => ?_⟩
    obtain ⟨F2, x2, G2, r2⟩ := jy x H2 y
    rw [List.drop_eq_getElem_cons hlt] at w
    refine ⟨⟨F2, g.A, g.ow⟩, env, st, ds[i], R.step x2 G2, r2, ?_⟩
    have w' : WPs X.K X.mg B W g E (match a ds[i] env st with
      | .nx env1 st1 => (match b env1 st1 with
        | .nx env2 st2 => sLoop a b (ds.drop (i + 1)) env2 st2
        | .ct env2 st2 => sLoop a b (ds.drop (i + 1)) env2 st2
        | .bk env2 st2 => .nx env2 st2
        | r => r)
      | _ => .bad) := w
    cases q : a ds[i] env st with
    | bk env' st' => rw [q] at w'; exact w'.elim
    | ct env' st' => rw [q] at w'; exact w'.elim
    | rt d st' => rw [q] at w'; exact w'.elim
    | exc e' env' st' => rw [q] at w'; exact w'.elim
    | bad => rw [q] at w'; exact w'.elim
    | nx env2 st2 =>
      rw [q] at w'
      intro g3 σ3 H3 x3 R3
      refine ⟨g3, env2, st2, R3, ?_⟩
      have gx3 : GExt g g3 := (GExt.of x2).trans x3
      have w2 : WPs X.K X.mg B W g E (match b env2 st2 with
        | .nx env2 st2 => sLoop a b (ds.drop (i + 1)) env2 st2
        | .ct env2 st2 => sLoop a b (ds.drop (i + 1)) env2 st2
        | .bk env2 st2 => .nx env2 st2
        | r => r) := w'
      have w3 := WPs.shift w2 gx3
      cases q2 : b env2 st2 with
      | nx env' st' =>
        rw [q2] at w3
        exact fun g4 σ4 H4 x4 R4 => ⟨g4, env', st', (gx.trans gx3).trans x4, R4, WPs.shift w3 x4⟩
      | ct env' st' =>
        rw [q2] at w3
        exact fun g4 σ4 H4 x4 R4 => ⟨g4, env', st', (gx.trans gx3).trans x4, R4, WPs.shift w3 x4⟩
      | bk env' st' => rw [q2] at w3; exact w3
      | rt d st' => rw [q2] at w3; exact w3
      | exc e' env' st' => rw [q2] at w3; exact w3
      | bad => rw [q2] at w3; exact w3.elim
  · have e : i = ds.length := by omega
    subst e
    refine .inl ⟨js (Nat.le_refl _), ?_⟩
    rw [List.drop_length] at w
    exact w g σ' H' GExt.refl R
end
end PL
set_option Elab.async false
set_option linter.all false
set_option maxRecDepth 100000
set_option maxHeartbeats 2000000
namespace PL
open PySem PySem.Spec PyProof.Rows L2

def wipeE (env : Env) : List Nat → Env
  | [] => env
  | v :: vs => (wipeE env vs).set v none
def noX {α : Type} (m : M α) : M α := fun st => match m st with
  | .exc _ _ => .bad
  | r => r
abbrev Bnd := D → Env → Option Env
def lcGo (vs : List Nat) (bind : Bnd) (test : Env → M Bool) (elt : Env → M D) (env : Env) : List D → List D → M (List D)
  | [], acc => pure acc
  | d :: ds, acc => match bind d (wipeE env vs) with
    | some env1 => noX (test env1) >>= fun b => if b then noX (elt env1) >>= fun y => if acc.length < sizeLine then lcGo vs bind test elt env ds (acc ++ [y]) else M.bad else lcGo vs bind test elt env ds acc
    | none => M.bad
def mLc (vs : List Nat) (bind : Bnd) (test : Env → M Bool) (elt : Env → M D) (it : Env → M (List D)) : Env → M (List D) := fun env => it env >>= fun ds => lcGo vs bind test elt env ds []
def bName (i : Nat) : Bnd := fun d env => some (env.set i (some (.fro d)))
def yes : Env → M Bool := fun _ => pure true

section
variable {K : PySem.W.Frag} {mg : Str → Option Value} {B : Bs} {g : Gh} {env : Env} {st : Sta} {σ : L2.St} {H : Hp}
theorem Rel.wipe (R : Rel K mg B g env st σ H) : ∀ vs : List Nat, Rel K mg B g (wipeE env vs) st (wipe σ vs) H
  | [] => R
  | v :: vs => (Rel.wipe R vs).setNone
theorem wipe_set {i : Nat} {o : Option V} : ∀ {vs : List Nat} {σ : L2.St}, i ∈ vs → wipe (σ.set i o) vs = wipe σ vs
  | v :: vs, σ, h => by
    unfold L2.wipe
    by_cases q : i ∈ vs
    · rw [wipe_set q]
    · have e : i = v := by
        rcases List.mem_cons.mp h with e | m
        · exact e
        · exact absurd m q
      subst e
      have key : ∀ {vs : List Nat} {σ : L2.St}, wipe (σ.set i o) vs = (wipe σ vs).set i o ∨ wipe (σ.set i o) vs = wipe σ vs := by
        intro vs
        induction vs with
        | nil => intro σ; exact .inl rfl
        | cons w vs ih =>
          intro σ
          unfold L2.wipe
          by_cases e2 : w = i
          · subst e2
            rcases ih (σ := σ) with z | z
            · rw [z, List.set_set]; exact .inr rfl
            · rw [z]; exact .inr rfl
          · rcases ih (σ := σ) with z | z
            · rw [z, List.set_comm _ _ (Ne.symm e2)]; exact .inl rfl
            · rw [z]; exact .inr rfl
      rcases key (vs := vs) (σ := σ) with z | z
      · rw [z, List.set_set]
      · rw [z]
theorem wipe_wipe {σ : L2.St} : ∀ vs ws : List Nat, (∀ i ∈ vs, i ∈ ws) → wipe (wipe σ vs) ws = wipe σ ws
  | [], _, _ => rfl
  | v :: vs, ws, h => by
    show wipe ((wipe σ vs).set v none) ws = _
    rw [wipe_set (h v (List.mem_cons_self ..)), wipe_wipe vs ws fun i m => h i (List.mem_cons_of_mem _ m)]
end
section
variable {K : PySem.W.Frag} {mg : Str → Option Value} {W : WX}
def BndOk (K : PySem.W.Frag) (mg : Str → Option Value) (t : TG) (bind : Bnd) (vs : List Nat) : Prop := ∀ (B : Bs) (g : Gh) (env : Env) (st : Sta) (σ : L2.St) (H : Hp) (v : V) (d : D) (env1 : Env) (Q : L2.St → Hp → Prop),
  Rel K mg B g env st σ H → Rep K mg g.F g.A v d → bind d env = some env1 → (∀ σ2, wipe σ2 vs = wipe σ vs → Rel K mg B g env1 st σ2 H → Q σ2 H) → t v σ H Q
theorem bnd_name {i : Nat} {vs : List Nat} (hi : i ∈ vs) : BndOk K mg (gName i) (bName i) vs := by
  intro B g env st σ H v d env1 Q R r e q
  cases e
  exact q _ (wipe_set hi) (R.setFro r)
theorem Rel.grow {B : Bs} {g : Gh} {env : Env} {st : Sta} {σ : L2.St} {H : Hp} {p : Addr} {l m : List D} {ws : List V} (R : Rel K mg B g env st σ H) (s : Side K mg B g env H p l) (r : Reps K mg g.F g.A ws m) :
    Rel K mg B g env st σ (upd H p (.lst ws)) ∧ Side K mg B g env (upd H p (.lst ws)) p m := by
  obtain ⟨vs, e, _⟩ := s.at_
  have ne : ∀ {b : Addr} {w : HO}, g.F b = some w → b ≠ p := fun {b w} h z => by rw [z, s.f] at h; cases h
  refine ⟨⟨⟨R.ext.fro, R.ext.cel, fun b o n h => ?_, fun b h => ?_, R.ext.newF, R.ext.newA⟩, ⟨fun b o h => ?_, R.good.len, R.good.nd, R.good.off, fun k a c h1 h2 => ?_⟩, R.len, fun j sv ej => ?_, R.sep⟩, ⟨⟨ws, upd_same, r⟩, s.f, s.a, s.b, s.ne⟩⟩
  · rw [upd_ne (fun z : b = p => by rw [z, s.b] at h; cases h)]
    exact R.ext.keep b o n h
  · by_cases q : b = p
    · rw [q, upd_same]; exact fun z => nomatch z
    · rw [upd_ne q]; exact R.ext.there b h
  · rw [upd_ne (ne h)]
    exact R.good.sub b o h
  · exact (R.good.con k a c h1 h2).mono (fun _ _ z => z) (fun _ _ z => z) fun w z => by rw [upd_ne (fun y : a = p => s.a (by rw [← y]; exact List.mem_of_getElem? h1))]; exact z
  · have h := R.slot j sv ej
    cases sv with
    | fro d' => exact h
    | own c2 =>
      obtain ⟨t1, t2, t3, t4, t5⟩ := h
      exact ⟨t1, t2.mono (fun _ _ z => z) (fun _ _ z => z) fun w z => by rw [upd_ne (s.ne j c2 ej)]; exact z, t3, t4, t5⟩
theorem noX_wp {α : Type} {m : M α} {st : Sta} {P : α → Sta → Prop} {X X' : Exn → Sta → Prop} (h : (noX m st).wp P X) : (m st).wp P X' := by
  unfold noX at h
  cases q : m st with
  | ok a st' => rw [q] at h; exact h
  | exc e st' => rw [q] at h; exact h.elim
  | bad => rw [q] at h; exact h.elim
def BndOwn (bind : Bnd) : Prop := ∀ d env env1 (j : Nat) c, bind d env = some env1 → env1[j]? = some (some (.own c)) → env[j]? = some (some (.own c))
theorem set_own {env : Env} {i j : Nat} {d : D} {c : Cell} (e : (env.set i (some (.fro d)))[j]? = some (some (.own c))) : env[j]? = some (some (.own c)) := by
  by_cases q : j = i
  · subst q
    have hl : j < env.length := by
      have h1 := (List.getElem?_eq_some_iff.mp e).1
      rw [List.length_set] at h1
      exact h1
    rw [List.getElem?_set_self hl] at e
    cases e
  · rw [List.getElem?_set_ne (Ne.symm q)] at e
    exact e
theorem bown_name {i : Nat} : BndOwn (bName i) := fun d env env1 j c e h => by
  cases e
  exact set_own h
end
section
variable {X : Cx} {B : Bs} {W : WX} {pos : Pos}
theorem lc_imp {it : Env → M (List D)} {t : TG} {bind : Bnd} {vs : List Nat} {tst : Env → M Bool} {elt : Env → M D} (hb : BndOk X.K X.mg t bind vs) (ho : BndOwn bind) (σ : L2.St) (H : Hp) (Q : VK) (z : rL X.K X.mg B W (mLc vs bind tst elt it) σ H Q) :
    tLc (rI X.K X.mg B W it) t (rT X.K X.mg B W0 tst) (rE X.K X.mg B W0 elt) vs σ H Q := by
  obtain ⟨g0, env, st0, R0, w0⟩ := z
  refine ⟨g0, env, st0, R0, ?_⟩
  refine Res.wp_mono (wp_bind w0) (fun ds st1 z F1 A1 H1 x1 G1 J hJ p hp => ?_) fun _ _ z => z
  have R1 := R0.step x1 G1
  have z1 := WPc.shift z x1
  have R1' := R1.pushH (o := .lst []) hp
  have s1 : Side X.K X.mg B ⟨F1, A1, g0.ow⟩ env (upd H1 p (.lst [])) p [] := ⟨⟨[], upd_same, .nil⟩, R1.good.fnone hp, fun m => R1.good.there m hp, R1.bnone hp, fun j c e q => by
    obtain ⟨t1, t2, _⟩ := R1.slot j _ e
    obtain ⟨u, hu⟩ := t2.thr
    rw [q, hp] at hu
    cases hu⟩
  -- what is left of the walk
  refine ⟨fun i m H => m = ds.length - i ∧ i ≤ ds.length ∧ ∃ g acc st, GExt ⟨F1, A1, g0.ow⟩ g ∧ (∀ F' A' H', Ext g.F g.A (fun b => if b = p then none else H b) F' A' H' → Ext F1 A1 H1 F' A' H') ∧ Rel X.K X.mg B g env st σ H ∧ Side X.K X.mg B g env H p acc ∧
    (lcGo vs bind tst elt env (ds.drop i) acc st).wp (fun b st' => ∀ F' A' H', Ext F1 A1 H1 F' A' H' → Good X.K X.mg F' A' st' H' → ∀ p vs, H' p = none → ∀ H'', H'' = upd H' p (.lst vs) → Reps X.K X.mg F' A' vs b → Q (.ref p) H'') (fun _ _ => True),
    ⟨ds.length, by omega, Nat.zero_le _, ⟨F1, A1, g0.ow⟩, [], st1, GExt.refl, ?_, R1', s1, Res.wp_mono z1 (fun _ _ h => h) fun _ _ _ => trivial⟩, ?_⟩
  · intro F' A' H' x
    have e : (fun b => if b = p then none else upd H1 p (.lst []) b) = H1 := by
      funext b
      by_cases q : b = p
      · rw [if_pos q, q, hp]
      · rw [if_neg q, upd_ne q]
    have x' : Ext F1 A1 (fun b => if b = p then none else upd H1 p (.lst []) b) F' A' H' := x
    rw [e] at x'
    exact x'
  · rintro i m H2 ⟨rfl, hi, g, acc, st, gx, xx, R, s, w⟩
    obtain ⟨ji, js⟩ := hJ i g.F g.A st H2 gx.fro gx.cel R.good
    by_cases hlt : i < ds.length
    · refine .inr ?_
      obtain ⟨jg, jy⟩ := ji ds[i] (List.getElem?_eq_getElem hlt)
      refine ⟨jg, fun H3 => ∃ g acc st, GExt ⟨F1, A1, g0.ow⟩ g ∧ (∀ F' A' H', Ext g.F g.A (fun b => if b = p then none else H3 b) F' A' H' → Ext F1 A1 H1 F' A' H') ∧ Rel X.K X.mg B g env st σ H3 ∧ Side X.K X.mg B g env H3 p acc ∧
        (lcGo vs bind tst elt env (ds.drop (i + 1)) acc st).wp (fun b st' => ∀ F' A' H', Ext F1 A1 H1 F' A' H' → Good X.K X.mg F' A' st' H' → ∀ p vs, H' p = none → ∀ H'', H'' = upd H' p (.lst vs) → Reps X.K X.mg F' A' vs b → Q (.ref p) H'') (fun _ _ => True), fun H3 q => ⟨ds.length - (i + 1), by omega, rfl, hlt, q⟩, fun x H3 y => ?_⟩
      obtain ⟨F3, x3, G3, r3⟩ := jy x H3 y
      rw [List.drop_eq_getElem_cons hlt] at w
      have R3 := R.step x3 G3
      have s3 := s.ext x3
      -- Ext without p
      have step : ∀ {F A H F' A' H'}, Ext F A H F' A' H' → F p = none → H p ≠ none → p ∉ A → Ext F A (fun b => if b = p then none else H b) F' A' (fun b => if b = p then none else H' b) := fun {F A H F' A' H'} x hf hh hA => by
        refine ⟨x.fro, x.cel, fun b o n h => ?_, fun b h => ?_, fun b h => ?_, fun b h => ?_⟩
        · by_cases q : b = p
          · simp [q] at h
          · simp only [if_neg q] at h ⊢
            exact x.keep b o n h
        · by_cases q : b = p
          · simp [q] at h
          · simp only [if_neg q] at h ⊢
            exact x.there b h
        · by_cases q : b = p
          · exact .inr (by simp [q])
          · rcases x.newF b h with z | z
            · exact .inl z
            · exact .inr (by simp [q, z])
        · by_cases q : b = p
          · exact .inr (by simp [q])
          · rcases x.newA b h with z | z
            · exact .inl z
            · exact .inr (by simp [q, z])
      have Hp2 : H2 p ≠ none := by
        obtain ⟨_, e, _⟩ := s.at_
        rw [e]; exact fun z => nomatch z
      have w' : ((match bind ds[i] (wipeE env vs) with
        | some env1 => noX (tst env1) >>= fun b => if b then noX (elt env1) >>= fun y => if acc.length < sizeLine then lcGo vs bind tst elt env (ds.drop (i + 1)) (acc ++ [y]) else M.bad else lcGo vs bind tst elt env (ds.drop (i + 1)) acc
        | none => M.bad : M (List D)) st).wp (fun b st' => ∀ F' A' H', Ext F1 A1 H1 F' A' H' → Good X.K X.mg F' A' st' H' → ∀ p vs, H' p = none → ∀ H'', H'' = upd H' p (.lst vs) → Reps X.K X.mg F' A' vs b → Q (.ref p) H'') (fun _ _ => True) := w
      cases q : bind ds[i] (wipeE env vs) with
      | none => rw [q] at w'; exact w'.elim
      | some env1 =>
        rw [q] at w'
        refine hb B ⟨F3, g.A, g.ow⟩ (wipeE env vs) st (wipe σ vs) H3 x ds[i] env1 _ (R3.wipe vs) r3 q fun σ2 e2 R4 => ⟨by rw [e2, wipe_wipe vs vs fun _ m => m], ?_⟩
        have w2 := wp_bind w'
        refine ⟨⟨F3, g.A, g.ow⟩, env1, st, R4, ?_⟩
        refine Res.wp_mono (noX_wp (X' := fun _ _ => False) w2) (fun b st4 w3 F4 A4 H4 x4 G4 => ?_) fun _ _ z => z.elim
        have R5 := R3.step x4 G4
        have s5 := s3.ext x4
        have x34 : Ext g.F g.A H2 F4 A4 H4 := x3.trans x4
        cases b with
        | false =>
          rw [if_neg Bool.false_ne_true] at w3
          show (if false = true then _ else _ : Prop)
          rw [if_neg Bool.false_ne_true]
          exact ⟨⟨F4, A4, g.ow⟩, acc, st4, gx.trans (GExt.of x34), fun F' A' H' y => xx F' A' H' ((step x34 s.f Hp2 s.a).trans y), R5, s5, w3⟩
        | true =>
          rw [if_pos rfl] at w3
          show (if true = true then _ else _ : Prop)
          rw [if_pos rfl]
          have w4 := wp_bind w3
          have R4' := R4.step x4 G4
          refine ⟨⟨F4, A4, g.ow⟩, env1, st4, R4', ?_⟩
          refine Res.wp_mono (noX_wp (X' := fun _ _ => False) w4) (fun y st6 w5 F6 A6 H6 x6 G6 v r6 => ?_) fun _ _ z => z.elim
          have R6 := R5.step x6 G6
          have s6 := s5.ext x6
          obtain ⟨ws, e6, r7⟩ := s6.at_
          split at w5
          · rename_i hz
            obtain ⟨R7, s7⟩ := R6.grow s6 (r7.app (.cons r6 .nil))
            have x36 := x34.trans x6
            refine ⟨ws, e6, by rw [r7.length]; exact hz, ⟨F6, A6, g.ow⟩, acc ++ [y], st6, gx.trans (GExt.of x36), fun F' A' H' y2 => xx F' A' H' ((step x36 s.f Hp2 s.a).trans ?_), R7, s7, w5⟩
            have e : (fun b => if b = p then none else upd H6 p (.lst (ws ++ [v])) b) = fun b => if b = p then none else H6 b := by
              funext b
              by_cases q : b = p
              · rw [if_pos q, if_pos q]
              · rw [if_neg q, if_neg q, upd_ne q]
            have y3 : Ext F6 A6 (fun b => if b = p then none else upd H6 p (.lst (ws ++ [v])) b) F' A' H' := y2
            rw [e] at y3
            exact y3
          · exact w5.elim
    · have e : i = ds.length := by omega
      subst e
      refine .inl ⟨js (Nat.le_refl _), ?_⟩
      rw [List.drop_length] at w
      obtain ⟨ws, e6, r7⟩ := s.at_
      have xe := xx g.F g.A (fun b => if b = p then none else H2 b) Ext.refl
      have G' : Good X.K X.mg g.F g.A st (fun b => if b = p then none else H2 b) := by
        have nF : ∀ {b : Addr} {o : HO}, g.F b = some o → b ≠ p := fun {b o} h z => by rw [z, s.f] at h; cases h
        refine ⟨fun b o h => by rw [if_neg (nF h)]; exact R.good.sub b o h, R.good.len, R.good.nd, R.good.off, fun k a c h1 h2 => ?_⟩
        exact (R.good.con k a c h1 h2).mono (fun _ _ z => z) (fun _ _ z => z) fun w z => by
          have na : a ≠ p := fun y => s.a (by rw [← y]; exact List.mem_of_getElem? h1)
          rw [if_neg na]; exact z
      refine w g.F g.A _ xe G' p ws (if_pos rfl) H2 ?_ r7
      funext b
      by_cases q : b = p
      · rw [q, upd_same, e6]
      · rw [upd_ne q, if_neg q]
end
end PL
set_option Elab.async false
set_option linter.all false
set_option maxRecDepth 100000
set_option maxHeartbeats 2000000
namespace PL
open PySem PySem.Spec PyProof.Rows L2

section
variable {X : Cx} {B : Bs} {W : WX}
theorem qt_yes : PTs X [] (rT X.K X.mg B W yes) := ⟨fun pins s σ H Q I z => pts_nil.run pins s σ H Q I (by
  obtain ⟨g, env, st, R, w⟩ := z
  exact WPc.now w R.good)⟩
theorem qt_one {c : Expr} {f : Env → M Bool} (h : PT X c (rT X.K X.mg B W f)) : PTs X [c] (rT X.K X.mg B W f) := pts_one h
theorem pl_lc {elt tg iter : Expr} {ifs : List Expr} {scope : Scope} {own : List (Str × Nat)} {pos : Pos} {it : Env → M (List D)} {t : TG} {bind : Bnd} {tst : Env → M Bool} {el : Env → M D} (hc : X.calm = true) (hN : X.N.Nodup) (hi : PI X tg iter (rI X.K X.mg B W it)) (ok : BlkOk X.N X.env.scope scope own)
    (hb : BndOk X.K X.mg t bind (own.map (·.2))) (ho : BndOwn bind)
    (hg : ∀ (s : Shared) (H : Hp) (C : Addr) (cl : List (Str × Addr)) (fp : List Addr), PG (X.blk s H scope (compEnvC scope cl C X.env) fp) tg t) (ht : ∀ (s : Shared) (H : Hp) (C : Addr) (cl : List (Str × Addr)) (fp : List Addr), PTs (X.blk s H scope (compEnvC scope cl C X.env) fp) ifs (rT X.K X.mg B W0 tst))
    (he : ∀ (s : Shared) (H : Hp) (C : Addr) (cl : List (Str × Addr)) (fp : List Addr), PE (X.blk s H scope (compEnvC scope cl C X.env) fp) elt (rE X.K X.mg B W0 el)) (hs : ∀ x, foldedSetIterable iter X.env x = pure x := by intro _; rfl) :
    PE X (.ListComp elt [⟨tg, iter, ifs, 0⟩] scope pos) (rL X.K X.mg B W (mLc (own.map (·.2)) bind tst el it)) :=
  (pe_lc hc hN hi ok hg ht he hs).imp fun σ H Q z => lc_imp hb ho σ H Q z
theorem own_frz {i : Nat} {fs : Env → M (List D)} (E : Ends) (σ : L2.St) (H : Hp) (z : rS X.K X.mg B W (sSet i (lstF fs)) E σ H) : rL X.K X.mg B W fs σ H (fun v H1 => gName i v σ H1 E.nx) := by
  obtain ⟨g, env, st, R, w⟩ := z
  refine rL_rE σ H _ ?_
  exact seqSE R w fun d st1 F1 A1 H1 v R1 x1 r1 w1 => w1 _ _ _ GExt.refl (R1.setFro r1)
theorem qs_setLc {i : Nat} {y : Str} {py : Pos} {elt tg iter : Expr} {ifs : List Expr} {scope : Scope} {own : List (Str × Nat)} {pos spos : Pos} {it : Env → M (List D)} {t : TG} {bind : Bnd} {tst : Env → M Bool} {el : Env → M D} (hc : X.calm = true) (hN : X.N.Nodup) (hy : X.N[i]? = some y) (hyl : X.env.scope.names.lookup y = some .local)
    (hsw : swapsWith (.ListComp elt [⟨tg, iter, ifs, 0⟩] scope pos) (some (.Name y py)) spos.line X.env = pure true) (hi : PI X tg iter (rI X.K X.mg B W it)) (ok : BlkOk X.N X.env.scope scope own)
    (hb : BndOk X.K X.mg t bind (own.map (·.2))) (ho : BndOwn bind)
    (hg : ∀ (s : Shared) (H : Hp) (C : Addr) (cl : List (Str × Addr)) (fp : List Addr), PG (X.blk s H scope (compEnvC scope cl C X.env) fp) tg t) (ht : ∀ (s : Shared) (H : Hp) (C : Addr) (cl : List (Str × Addr)) (fp : List Addr), PTs (X.blk s H scope (compEnvC scope cl C X.env) fp) ifs (rT X.K X.mg B W0 tst))
    (he : ∀ (s : Shared) (H : Hp) (C : Addr) (cl : List (Str × Addr)) (fp : List Addr), PE (X.blk s H scope (compEnvC scope cl C X.env) fp) elt (rE X.K X.mg B W0 el)) (hs : ∀ x, foldedSetIterable iter X.env x = pure x := by intro _; rfl) :
    PS X (.Assign [.Name y py] (.ListComp elt [⟨tg, iter, ifs, 0⟩] scope pos) spos) (rS X.K X.mg B W (sSet i (lstF (mLc (own.map (·.2)) bind tst el it)))) := by
  refine (ps_setLc hc hN hy hyl hsw hi ok hg ht he hs).imp fun E σ H z => ?_
  exact lc_imp hb ho σ H _ (own_frz E σ H z)
end

section
variable (K : PySem.W.Frag) (mg : Str → Option Value)
end
def env0 (n : Nat) (ds : List D) : Env := ds.map (fun d => some (SV.fro d)) ++ List.replicate (n - ds.length) none
def runB (n : Nat) (b : SD) (ds : List D) : M D := fun st => match b (env0 n ds) st with
  | .nx _ st' => .ok .non st'
  | .rt d st' => .ok d st'
  | .exc e _ st' => .exc e st'
  | _ => .bad
section
variable {K : PySem.W.Frag} {mg : Str → Option Value}
theorem rel_start {F : Hp} {A : List Addr} {st : Sta} {H : Hp} {vs : List V} {ds : List D} {N : List Str} (G : Good K mg F A st H) (r : Reps K mg F A vs ds) : Rel K mg ⟨F, A, H⟩ ⟨F, A, fun _ => 0⟩ (env0 N.length ds) st (L2.start N vs) H where
  ext := Ext.refl
  good := G
  len := by simp [env0, L2.start, r.length]
  slot := fun i sv e => by
    unfold env0 at e
    by_cases hi : i < ds.length
    · rw [List.getElem?_append_left (by simpa using hi), List.getElem?_map] at e
      rw [List.getElem?_eq_getElem hi] at e
      cases e
      obtain ⟨v, hv, rv⟩ := r.get (List.getElem?_eq_getElem hi)
      refine ⟨v, ?_, rv⟩
      unfold L2.start
      rw [List.getElem?_append_left (by simp [r.length]; exact hi), List.getElem?_map, hv]
      rfl
    · rw [List.getElem?_append_right (by simpa using hi)] at e
      rw [List.getElem?_replicate] at e
      split at e
      · cases e
      · cases e
  sep := fun i j c c' e _ _ => by
    unfold env0 at e
    by_cases hi : i < ds.length
    · rw [List.getElem?_append_left (by simpa using hi), List.getElem?_map] at e
      rw [List.getElem?_eq_getElem hi] at e
      cases e
    · rw [List.getElem?_append_right (by simpa using hi)] at e
      rw [List.getElem?_replicate] at e
      split at e
      · cases e
      · cases e
theorem fn_pure {P : Program} {w : World} {base : Heap} {x qual : Str} {params : Arguments} {body : List Stmt} {scope : Scope} {f : Addr} {fd : FuncData} {N ps : List Str} {k n : Nat} {b : SD}
    (F : FunD K x qual params body scope [] [] f fd) (S : FnScope N ps scope) (hn : ps.length = n)
    (hb : ∀ (cdv : Value) (A : Around) (outer : List PySem.Env) (s : Shared) (H : Hp) (E : XK) (B : Bs), Room k (A.deeper (envOfC qual scope s.heap.objs.size f cdv)) →
      PSs (cxOf (L2.CX P w) P w K mg base N qual scope f cdv A outer s H E) body (rS K mg B (fun cls d _ H => E cls d H) b)) :
    FnOk P w K mg base (L2.CX P w) (k + 1) f fd ps (spF K mg n (runB N.length b)) := by
  refine F.ok S (fun vs H Q E h => ?_) (fun cdv A outer s H vs Q E hr h => ?_)
  · obtain ⟨F, A, st, ds, G, r, hl, _⟩ := h
    rw [hl, hn]
  · obtain ⟨F, A', st, ds, G, r, hl, w⟩ := h
    refine ⟨_, hb cdv A outer s H E ⟨F, A', H⟩ hr, ⟨F, A', fun _ => 0⟩, env0 N.length ds, st, rel_start G r, ?_⟩
    unfold runB at w
    cases q : b (env0 N.length ds) st with
    | nx env' st' =>
      rw [q] at w
      exact fun g' σ' H' x R' => w g'.F g'.A H' .non R'.ext R'.good .non
    | rt d st' =>
      rw [q] at w
      exact fun F' A2 H' v x G' r' => w F' A2 H' v x G' r'
    | exc e env' st' =>
      rw [q] at w
      exact fun g' σ' H' cls dd x R' y => w g'.F g'.A H' cls dd R'.ext R'.good y
    | bk env' st' => rw [q] at w; exact w.elim
    | ct env' st' => rw [q] at w; exact w.elim
    | bad => rw [q] at w; exact w.elim
end
def mCall (fs : Env → M (List D)) (f : List D → M D) : Env → M D := fun env => fs env >>= f
section
variable {X : Cx} {B : Bs} {W : WX} {e o : Expr} {es : List Expr} {x m : Str} {p pos apos : Pos} {k n : Nat} {f C : Addr} {fd : FuncData} {ps : List Str} {fs : Env → M (List D)} {F : List D → M D} {fo : Env → M D}
theorem spF_of {g : Gh} {env : Env} {st : Sta} {σ : L2.St} {H : Hp} {vs : List V} {ds : List D} {Q : VK} (R : Rel X.K X.mg B g env st σ H) (r : Reps X.K X.mg g.F g.A vs ds) (hn : ds.length = n) (w : WPc X.K X.mg W g.F g.A σ H (F ds st) (fun d F' A' H' => ∀ v, Rep X.K X.mg F' A' v d → Q v H')) :
    spF X.K X.mg n F vs H Q (WE W σ) := ⟨g.F, g.A, st, ds, R.good, r, r.length.trans hn, Res.wp_mono w (fun d st' z F' A' H' v x G r' => z F' A' H' x G v r') fun e st' z F' A' H' cls dd x G y => z F' A' H' cls dd x G y⟩
theorem argN_wp {n : Nat} {ds : List D} {st : Sta} {W : WX} {F0 : Hp} {A : List Addr} {σ : L2.St} {H : Hp} {Post : D → Hp → List Addr → Hp → Prop} {K : PySem.W.Frag} {mg : Str → Option Value} (w : WPc K mg W F0 A σ H (argN n F ds st) Post) : ds.length = n ∧ WPc K mg W F0 A σ H (F ds st) Post := by
  unfold argN at w
  split at w
  · rename_i h
    exact ⟨h, w⟩
  · exact w.elim
theorem pp_call (G : FnOk X.prog X.w X.K X.mg X.base (L2.CX X.prog X.w) k f fd ps (spF X.K X.mg n F)) (hr : Room k X.A) (hg : Gl X x) (hm : X.mg x = some (.ref f)) (hk : PySem.W.keepIn X.K (.ref f) = true) (hb : Binds X.K fd ps []) (tk : Takes X W)
    (ha : PA X (e :: es) (rA X.K X.mg B W fs)) (hdb : (x == ("__debug__" : Str)) = false := by decide) (he : starEach (e :: es) X.env = (false, eval e X.env) :: starEach es X.env := by rfl) (hpl : (backTo pos (starEach es X.env)).any (·.1) = false := by rfl) :
    PE X (.Call (.Name x p) (e :: es) [] pos) (rE X.K X.mg B W (mCall fs (argN n F))) := by
  refine (pe_callS G hr hg hm hk hb (fun σ => passAt tk σ) ha hdb he hpl).imp fun σ H Q z => ?_
  obtain ⟨g, env, st, R, w⟩ := z
  refine seqA R w fun ds st1 F1 A1 H1 xs R1 x1 r1 w1 => ?_
  obtain ⟨h1, w2⟩ := argN_wp w1
  exact spF_of R1 r1 h1 w2
def fieldsOf (d : D) (st : Sta) : List (Str × D) := match d with
  | .obj _ fs => fs
  | .cell k => (match st[k]? with
    | some (.obj _ fs) => fs
    | _ => [])
  | _ => []
theorem isObj_rep {K : PySem.W.Frag} {mg : Str → Option Value} {F0 : Hp} {A : List Addr} {st : Sta} {H : Hp} {c : Str} {d : D} {v : V} {C : Addr} (G : Good K mg F0 A st H) (r : Rep K mg F0 A v d) (hm : mg c = some (.ref C)) (h : isObj c d st = true) :
    ∃ a dx l, v = .ref a ∧ H a = some (.ins C dx l) ∧ RepF K mg F0 A l (fieldsOf d st) := by
  unfold isObj at h
  split at h
  · have e := eq_of_beq h
    subst e
    cases r with
    | @obj a C' dx _ l _ g s r =>
      rw [hm] at g; cases g
      exact ⟨a, dx, l, rfl, G.sub _ _ s, r⟩
  · split at h
    · rename_i e1
      have e := eq_of_beq h
      subst e
      cases r with
      | @cell a k hk =>
        obtain ⟨a', h1, C', dx, l, g, s, r⟩ := G.addr e1
        rw [hk] at h1; cases h1
        rw [hm] at g; cases g
        exact ⟨a, dx, l, rfl, s, by unfold fieldsOf; simp only [e1]; exact r⟩
    · cases h
  · cases h
def fldD (c f : Str) (d : D) (st : Sta) : Option D := if isObj c d st then (fieldsOf d st).lookup f else none
theorem pp_fld {c fl : Str} (hm : X.mg c = some (.ref C)) (hc : Cls X.K C) (hn : NoAttr X.K C fl) (he : PE X e (rE X.K X.mg B W fo)) (hb : attributeBase e fl X.env (eval e X.env) = eval e X.env := by rfl) : PE X (.Attribute e fl pos) (rE X.K X.mg B W (op1 (fldD c fl) fo)) := by
  refine (pe_fld he hb).imp fun σ H Q z => ?_
  obtain ⟨g, env, st, R, w⟩ := z
  refine seqE R w fun d st1 F1 A1 H1 v R1 x1 r1 w1 => ?_
  obtain ⟨u, eu, w3⟩ := WPc.rd w1
  unfold fldD at eu
  split at eu
  · rename_i hi
    obtain ⟨a, dx, l, rfl, ea, rf⟩ := isObj_rep R1.good r1 hm hi
    obtain ⟨y, hy, ry⟩ := rf.lookup eu
    exact ⟨a, C, dx, l, y, rfl, ea, hc, hn, hy, w3 _ _ _ Ext.refl R1.good y ry⟩
  · cases eu
def putF (f : Str) (d : D) : List (Str × D) → List (Str × D)
  | [] => [(f, d)]
  | (g, e) :: r => if g = f then (g, d) :: r else (g, e) :: putF f d r
def sFldC (c f : Str) (fo fv : Env → M D) : SD := sE fv fun d => sE fo fun o env st => match o with
  | .cell k => (match st[k]? with
    | some (.obj c' fs) => if c' = c ∧ fs.length < 1000 then .nx env (st.set k (.obj c' (putF f d fs))) else .bad
    | _ => .bad)
  | _ => .bad
theorem repF_put {F0 : Hp} {A : List Addr} {y : V} {d : D} (f : Str) (r : Rep X.K X.mg F0 A y d) : ∀ {l : List (Str × V)} {fs : List (Str × D)}, RepF X.K X.mg F0 A l fs → RepF X.K X.mg F0 A (L2.putF f y l) (putF f d fs)
  | _, _, .nil => .cons r .nil
  | _, _, .cons (x := g) h t => by
    unfold L2.putF putF
    by_cases e : g = f
    · rw [if_pos e, if_pos e]
      exact .cons r t
    · rw [if_neg e, if_neg e]
      exact .cons h (repF_put f r t)
theorem qs_fld {c fl : Str} {value : Expr} {pos' : Pos} {fv : Env → M D} (hm : X.mg c = some (.ref C)) (hc : Cls X.K C) (hn : NoAttr X.K C fl) (ho : PE X o (rE X.K X.mg B W fo)) (hv : PE X value (rE X.K X.mg B W fv)) (hs : swapsWith value (some (.Attribute o fl pos')) pos.line X.env = pure false := by rfl) :
    PS X (.Assign [.Attribute o fl pos'] value pos) (rS X.K X.mg B W (sFldC c fl fo fv)) := by
  refine (ps_fld ho hv hs).imp fun E σ H z => ?_
  obtain ⟨g, env, st, R, w⟩ := z
  refine seqSE R w fun d st1 F1 A1 H1 v R1 x1 r1 w1 => ?_
  refine seqSE R1 w1 fun o st2 F2 A2 H2 u R2 x2 r2 w2 => ?_
  split at w2
  · split at w2
    · rename_i k _ c' fs e1
      split at w2
      · rename_i hl
        obtain ⟨hl1, hl2⟩ := hl
        subst hl1
        cases r2 with
        | @cell a k hk =>
          obtain ⟨a', h1, C', dx, l, gm, s, r⟩ := R2.good.addr e1
          have h1' : A2[k]? = some a' := h1
          rw [hk] at h1'; cases h1'
          rw [hm] at gm; cases gm
          refine ⟨a, C, dx, l, rfl, s, hc, hn, by rw [r.length]; exact hl2, ?_⟩
          obtain ⟨x3, G3⟩ := Ext.write (o := .ins C dx (L2.putF fl v l)) (c := .obj c' (putF fl d fs)) R2.good hk ⟨C, dx, _, hm, upd_same, repF_put fl (r1.ext x2) r⟩
          exact w2 _ _ _ (GExt.of x3) (R2.step x3 G3)
      · exact w2.elim
    · exact w2.elim
  · exact w2.elim
def chk (p : D → Sta → Bool) (d : D) : M D := fun st => if p d st then .ok d st else .bad
theorem chk_wp {β : Type} {q : D → Sta → Bool} {d : D} {k : D → M β} {st : Sta} {W : WX} {F0 : Hp} {A : List Addr} {σ : L2.St} {H : Hp} {Post : β → Hp → List Addr → Hp → Prop} {K : PySem.W.Frag} {mg : Str → Option Value} (w : WPc K mg W F0 A σ H ((chk q d >>= k) st) Post) : q d st = true ∧ WPc K mg W F0 A σ H (k d st) Post := by
  have w' : WPc K mg W F0 A σ H ((chk q d st).bind k) Post := w
  unfold chk at w'
  cases e : q d st with
  | true =>
    rw [e, if_pos rfl] at w'
    exact ⟨rfl, w'⟩
  | false =>
    rw [e, if_neg Bool.false_ne_true] at w'
    exact w'.elim
theorem pp_prop {c fl : Str} {pa ga : Addr} (hmc : X.mg c = some (.ref C)) (he : PE X e (rE X.K X.mg B W fo)) (hc : Cls X.K C) (hp : PropOf X.K C fl pa ga) (G : FnOk X.prog X.w X.K X.mg X.base (L2.CX X.prog X.w) k ga fd ps (spF X.K X.mg 1 F)) (hr : Room (k + 1) X.A) (hb : Binds X.K fd ps [])
    (hab : attributeBase e fl X.env (eval e X.env) = eval e X.env := by rfl) : PE X (.Attribute e fl pos) (rE X.K X.mg B W (fun env => fo env >>= fun d => chk (isObj c) d >>= fun d => noX (F [d]))) := by
  refine (pe_prop he hc hp G hr hb .nil (passL (X := X.nox)) hab).imp fun σ H Q z => ?_
  obtain ⟨g, env, st, R, w⟩ := z
  refine seqE R w fun d st1 F1 A1 H1 v R1 x1 r1 w1 => ?_
  obtain ⟨hi, w2⟩ := chk_wp w1
  obtain ⟨a, dx, l, rfl, ea, rf⟩ := isObj_rep R1.good r1 hmc hi
  refine ⟨a, dx, l, rfl, ea, ⟨F1, A1, st1, [d], R1.good, .cons r1 .nil, rfl, ?_⟩⟩
  exact Res.wp_mono (noX_wp (X' := fun _ _ => False) w2) (fun d' st' z F' A' H' v x G r' => z F' A' H' x G v r') fun e st' z => z.elim
theorem noCell_rep {F0 : Hp} {A A' : List Addr} : ∀ {n : Nat} {d : D} {v : V}, Rep X.K X.mg F0 A v d → noCell n d = true → Rep X.K X.mg F0 A' v d := by
  intro n
  induction n with
  | zero => intro d v _ h; cases h
  | succ n ih =>
    have all : ∀ {ds : List D} {vs : List V}, Reps X.K X.mg F0 A vs ds → ds.all (noCell n) = true → Reps X.K X.mg F0 A' vs ds := by
      intro ds
      induction ds with
      | nil => intro vs r _; cases r; exact .nil
      | cons d ds ihd =>
        intro vs r h
        obtain ⟨h1, h2⟩ := Bool.and_eq_true_iff.mp (show (noCell n d && ds.all (noCell n)) = true from h)
        cases r with
        | cons r1 r2 => exact .cons (ih r1 h1) (ihd r2 h2)
    have allF : ∀ {ds : List (Str × D)} {vs : List (Str × V)}, RepF X.K X.mg F0 A vs ds → (ds.all fun p => noCell n p.2) = true → RepF X.K X.mg F0 A' vs ds := by
      intro ds
      induction ds with
      | nil => intro vs r _; cases r; exact .nil
      | cons d ds ihd =>
        intro vs r h
        obtain ⟨h1, h2⟩ := Bool.and_eq_true_iff.mp (show (noCell n d.2 && ds.all fun p => noCell n p.2) = true from h)
        cases r with
        | cons r1 r2 => exact .cons (ih r1 h1) (ihd r2 h2)
    intro d v r h
    cases r with
    | non => exact .non
    | bl b => exact .bl b
    | int i => exact .int i
    | str x => exact .str x
    | tup s r => exact .tup s (all r h)
    | lst s r => exact .lst s (all r h)
    | fix s r => exact .fix s (all r h)
    | dct _ _ => cases h
    | obj gm s r => exact .obj gm s (allF r h)
    | cell _ => cases h
    | fn gm => exact .fn gm
end
section
variable {K : PySem.W.Frag} {mg : Str → Option Value}
theorem ext_push {F : Hp} {A : List Addr} {st : Sta} {H : Hp} {p : Addr} {o : HO} (G : Good K mg F A st H) (hp : H p = none) : Ext F A H F A (upd H p o) ∧ Good K mg F A st (upd H p o) :=
  ⟨⟨fun _ _ h => h, fun _ _ h => h, fun b u _ e => by rw [upd_ne (ne_of_none e hp)]; exact e, fun b h => by
    by_cases q : b = p
    · rw [q, upd_same]; exact fun z => nomatch z
    · rw [upd_ne q]; exact h, fun _ h => .inl h, fun _ h => .inl h⟩,
   ⟨fun b u e => by rw [upd_ne (ne_of_none (G.sub b u e) hp)]; exact G.sub b u e, G.len, G.nd, G.off, fun k a c h1 h2 => (G.con k a c h1 h2).mono (fun _ _ z => z) (fun _ _ z => z) fun u e => by rw [upd_ne (ne_of_none e hp)]; exact e⟩⟩
def mkObj (c : Str) (I : Ini) : List D → M D := fun ds st => match I ds with
  | some (.ok fs) => .ok (.obj c fs) st
  | some (.error e) => .exc e st
  | none => .bad
theorem okD_rep {X : Cx} {F0 F' : Hp} {A A' : List Addr} {vs : List V} {ds : List D} (kA : ∀ (k : Nat) (a : Addr), A[k]? = some a → A'[k]? = some a) (r0 : Reps X.K X.mg F0 A vs ds) {d : D} {v : V} (r : Rep X.K X.mg F' A' v d) (h : okD ds d) : Rep X.K X.mg F' A v d := by
  rcases h with h | h
  · obtain ⟨i, hi, e⟩ := List.mem_iff_getElem.mp h
    obtain ⟨v0, _, r1⟩ := r0.get (by rw [List.getElem?_eq_getElem hi, e])
    exact Rep.down kA r1 r
  · exact noCell_rep r h
theorem okD_repF {X : Cx} {F0 F' : Hp} {A A' : List Addr} {vs : List V} {ds : List D} (kA : ∀ (k : Nat) (a : Addr), A[k]? = some a → A'[k]? = some a) (r0 : Reps X.K X.mg F0 A vs ds) : ∀ {l : List (Str × V)} {fs : List (Str × D)}, RepF X.K X.mg F' A' l fs → (∀ p ∈ fs, okD ds p.2) → RepF X.K X.mg F' A l fs
  | _, _, .nil, _ => .nil
  | _, _, .cons h r, q => .cons (okD_rep kA r0 h (q _ (List.mem_cons_self ..))) (okD_repF kA r0 r fun p m => q p (List.mem_cons_of_mem _ m))
section
variable {X : Cx} {B : Bs} {W : WX} {e o : Expr} {es : List Expr} {x m : Str} {p pos apos : Pos} {k n : Nat} {f C : Addr} {fd : FuncData} {ps : List Str} {fs : Env → M (List D)} {F : List D → M D} {fo : Env → M D}
theorem ini_good {F0 : Hp} {A : List Addr} {st : Sta} {H : Hp} {y dx : Addr} {c : Str} (G : Good X.K X.mg F0 A st H) (hm : X.mg c = some (.ref C)) (hy : H y = none) (hdx : H dx = none) (hne : dx ≠ y) :
    Good X.K X.mg F0 (A ++ [y]) (st ++ [.obj c []]) (upd (upd H dx (.own y)) y (.ins C dx [])) := by
  obtain ⟨x1, G1⟩ := ext_push (o := .own y) G hdx
  have hy1 : upd H dx (.own y) y = none := by rw [upd_ne (Ne.symm hne)]; exact hy
  exact (Ext.cellNew (c := .obj c []) (o := .ins C dx []) G1 hy1 ⟨C, dx, [], hm, upd_same, .nil⟩).2
theorem ini_rep {F0 : Hp} {A : List Addr} {st : Sta} {H : Hp} {y : Addr} {vs : List V} {ds : List D} (G : Good X.K X.mg F0 A st H) (r : Reps X.K X.mg F0 A vs ds) : Reps X.K X.mg F0 (A ++ [y]) (.ref y :: vs) (.cell st.length :: ds) :=
  .cons (.cell (by rw [← G.len]; simp)) (r.mono (fun _ _ h => h) fun k a h => by rw [List.getElem?_append_left (List.getElem?_eq_some_iff.mp h).1]; exact h)
theorem ini_ext {F0 F' : Hp} {A A' : List Addr} {st : Sta} {H H' : Hp} {y dx : Addr} {c : Cell} {o : HO} (G0 : Good X.K X.mg F0 A st H) (hy : H y = none) (hdx : H dx = none) (e : Ext F0 (A ++ [y]) (upd (upd H dx (.own y)) y (.ins C dx [])) F' A' H') (G : Good X.K X.mg F' A' (st ++ [c]) H') (ho : H' y = some o) :
    A' = A ++ [y] ∧ Ext F0 A H (upd F' y o) A H' ∧ Good X.K X.mg (upd F' y o) A st H' ∧ (∀ b w, F' b = some w → upd F' y o b = some w) := by
  have hA : A' = A ++ [y] := by
    have h1 : A'.length = A.length + 1 := by rw [G.len, List.length_append, ← G0.len]; rfl
    refine List.ext_getElem? fun i => ?_
    by_cases hi : i < (A ++ [y]).length
    · rw [e.cel i _ (List.getElem?_eq_getElem hi), List.getElem?_eq_getElem hi]
    · rw [List.getElem?_eq_none (by rw [h1]; simp at hi; omega), List.getElem?_eq_none (by omega)]
  subst hA
  have yA : y ∉ A := fun m => G0.there m hy
  have Fy : F' y = none := G.off y (by simp)
  have kF : ∀ b w, F' b = some w → upd F' y o b = some w := fun b w h => by rw [upd_ne (fun z : b = y => by rw [z, Fy] at h; cases h)]; exact h
  have up : ∀ {b : Addr}, b ≠ y → b ≠ dx → upd (upd H dx (.own y)) y (.ins C dx []) b = H b := fun {b} h1 h2 => by rw [upd_ne h1, upd_ne h2]
  have kA : ∀ (k : Nat) (a : Addr), A[k]? = some a → (A ++ [y])[k]? = some a := fun k a h => by rw [List.getElem?_append_left (List.getElem?_eq_some_iff.mp h).1]; exact h
  refine ⟨rfl, ⟨fun b w h => kF b w (e.fro b w h), fun _ _ h => h, fun b w n h => ?_, fun b h => ?_, fun b h => ?_, fun b h => .inl h⟩, ⟨fun b w h => ?_, G0.len, G0.nd, fun a ha => ?_, fun k a c' h1 h2 => ?_⟩, kF⟩
  · have by_ : b ≠ y := fun z => by rw [z, hy] at h; cases h
    have bd : b ≠ dx := fun z => by rw [z, hdx] at h; cases h
    exact e.keep b w (by simp [n, by_]) (by rw [up by_ bd]; exact h)
  · have by_ : b ≠ y := fun z => h (by rw [z]; exact hy)
    have bd : b ≠ dx := fun z => h (by rw [z]; exact hdx)
    exact e.there b (by rw [up by_ bd]; exact h)
  · by_cases by_ : b = y
    · rw [by_]; exact .inr hy
    · rw [upd_ne by_] at h
      rcases e.newF b h with z | z
      · exact .inl z
      · by_cases bd : b = dx
        · rw [bd]; exact .inr hdx
        · rw [up by_ bd] at z; exact .inr z
  · by_cases by_ : b = y
    · subst by_
      rw [upd_same] at h
      rw [ho]; exact h
    · rw [upd_ne by_] at h
      exact G.sub b w h
  · rw [upd_ne (fun z : a = y => yA (by rw [← z]; exact ha))]
    exact G.off a (List.mem_append_left _ ha)
  · have h1' := kA k a h1
    have h2' : (st ++ [c])[k]? = some c' := by rw [List.getElem?_append_left (List.getElem?_eq_some_iff.mp h2).1]; exact h2
    have q0 := G0.con k a c' h1 h2
    have q1 := G.con k a c' h1' h2'
    cases c' with
    | lst l =>
      obtain ⟨v0, _, r0⟩ := q0
      obtain ⟨v1, e1, r1⟩ := q1
      exact ⟨v1, e1, (Reps.down kA r0 r1).mono kF fun _ _ z => z⟩
    | dct l =>
      obtain ⟨_, v0, _, r0⟩ := q0
      obtain ⟨o1, v1, e1, r1⟩ := q1
      exact ⟨o1, v1, e1, (RepD.down kA r0 r1).mono kF fun _ _ z => z⟩
    | obj c fs =>
      obtain ⟨_, _, l0, _, _, r0⟩ := q0
      obtain ⟨C1, dx1, l1, g1, e1, r1⟩ := q1
      exact ⟨C1, dx1, l1, g1, e1, (RepF.down kA r0 r1).mono kF fun _ _ z => z⟩
theorem pp_make {c : Str} {I : Ini} (hI : IniOk c n F I) (Mk : Mk X.K C f) (G : FnOk X.prog X.w X.K X.mg X.base (L2.CX X.prog X.w) k f fd ps (spF X.K X.mg (n + 1) F)) (hr : Room (k + 1) X.A) (hg : Gl X c) (hm : X.mg c = some (.ref C)) (hb : Binds X.K fd ps []) (tk : Takes X W)
    (ha : PA X (e :: es) (rA X.K X.mg B W fs)) (hdb : (c == ("__debug__" : Str)) = false := by decide) (he : starEach (e :: es) X.env = (false, eval e X.env) :: starEach es X.env := by rfl) (hpl : (backTo pos (starEach es X.env)).any (·.1) = false := by rfl) :
    PE X (.Call (.Name c p) (e :: es) [] pos) (rE X.K X.mg B W (mCall fs (mkObj c I))) := by
  refine ⟨fun pins s σ H Q J z => ?_⟩
  obtain ⟨g, env, st, R, w⟩ := z
  refine wpAny_Call_Name_kw (ld_glob J hg hm ?_ hdb)
  refine PySem.W.callWith_K (h₀ := X.base) J.ok.mod.kin Mk.kp (thn (ha.run pos pins s σ H (fun vs H1 => ∀ x dx, H1 x = none → H1 dx = none → dx ≠ x → spF X.K X.mg (n + 1) F (.ref x :: vs) (upd (upd H1 dx (.own x)) x (.ins C dx [])) (fun v H2 => v = .non ∧ Q (.ref x) H2) (WE W σ)) J ?_) fun us s1 ⟨vs, H1, I1, r, q⟩ => ⟨I1.kIn, ?_⟩) he hpl
  · refine seqA R w fun ds st1 F1 A1 H1 vs R1 x1 r1 w1 => ?_
    intro y dx hy hdx hne
    have hk : ∃ r, I ds = some r := by
      unfold mkObj at w1
      cases q : I ds with
      | none => rw [q] at w1; exact w1.elim
      | some r => exact ⟨r, rfl⟩
    obtain ⟨r, hr'⟩ := hk
    have Gi := ini_good R1.good hm hy hdx hne
    refine ⟨F1, A1 ++ [y], st1 ++ [.obj c []], .cell st1.length :: ds, Gi, ini_rep R1.good r1, by rw [List.length_cons, r1.length, hI.len ds r hr'], ?_⟩
    rw [hI.eq ds st1 r hr']
    have w2 : WPc X.K X.mg W F1 A1 σ H1 (mkObj c I ds st1) (fun d F' A' H' => ∀ v, Rep X.K X.mg F' A' v d → Q v H') := w1
    unfold mkObj at w2
    rw [hr'] at w2
    cases r with
    | ok fs =>
      intro F' A' H' v x G' rv
      cases rv
      refine ⟨rfl, ?_⟩
      obtain ⟨a', ha', C', dx', l, gm, ea, rf⟩ := G'.addr (k := st1.length) (c := .obj c fs) (by simp)
      have hA' : A' = A1 ++ [y] := by
        have h1 : A'.length = A1.length + 1 := by rw [G'.len, List.length_append, ← R1.good.len]; rfl
        refine List.ext_getElem? fun i => ?_
        by_cases hi : i < (A1 ++ [y]).length
        · rw [x.cel i _ (List.getElem?_eq_getElem hi), List.getElem?_eq_getElem hi]
        · rw [List.getElem?_eq_none (by rw [h1]; simp at hi; omega), List.getElem?_eq_none (by omega)]
      have ey : a' = y := by
        rw [hA', ← R1.good.len] at ha'
        simpa using ha'.symm
      subst ey
      obtain ⟨_, e2, G2, kF⟩ := ini_ext R1.good hy hdx x G' ea
      have kA : ∀ (k : Nat) (a : Addr), A1[k]? = some a → A'[k]? = some a := fun k a h => by
        rw [hA', List.getElem?_append_left (List.getElem?_eq_some_iff.mp h).1]; exact h
      exact w2 _ _ _ e2 G2 _ (.obj gm upd_same ((okD_repF kA r1 rf (hI.ok ds fs hr')).mono kF fun _ _ z => z))
    | error ex =>
      intro F' A' H' cls dd x G' y2
      obtain ⟨a', ha', C', dx', l, gm, ea, rf⟩ := G'.addr (k := st1.length) (c := .obj c []) (by simp)
      have hA' : A' = A1 ++ [y] := by
        have h1 : A'.length = A1.length + 1 := by rw [G'.len, List.length_append, ← R1.good.len]; rfl
        refine List.ext_getElem? fun i => ?_
        by_cases hi : i < (A1 ++ [y]).length
        · rw [x.cel i _ (List.getElem?_eq_getElem hi), List.getElem?_eq_getElem hi]
        · rw [List.getElem?_eq_none (by rw [h1]; simp at hi; omega), List.getElem?_eq_none (by omega)]
      have ey : a' = y := by
        rw [hA', ← R1.good.len] at ha'
        simpa using ha'.symm
      subst ey
      obtain ⟨_, e2, G2, kF⟩ := ini_ext R1.good hy hdx x G' ea
      have kA : ∀ (k : Nat) (a : Addr), A1[k]? = some a → A'[k]? = some a := fun k a h => by
        rw [hA', List.getElem?_append_left (List.getElem?_eq_some_iff.mp h).1]; exact h
      refine w2 _ _ _ cls dd e2 G2 ?_
      obtain ⟨Ce, h1, h2, h3⟩ := y2
      refine ⟨Ce, h1, h2, ?_⟩
      rcases h3 with h3 | ⟨d, l, h4, h5, h6⟩
      · exact .inl h3
      · exact .inr ⟨d, l, h4, h5, (okD_repF kA r1 h6 (hI.no ds ex hr')).mono kF fun _ _ z => z⟩
  · show wpAny _ _ (call (.ref C) us) _ _ _
    have hq := q (s1.heap.objs.size + 1) s1.heap.objs.size (I1.hok.fresh (Nat.le_succ _)) (I1.hok.fresh (Nat.le_refl _)) (Nat.ne_of_lt (Nat.lt_succ_self _))
    have I2 := Inv.made (C := C) I1
    have r2 : Vals (V.ref (s1.heap.objs.size + 1) :: vs) (Value.ref (s1.heap.objs.size + 1) :: us) := .cons rfl r
    have hl : (Value.ref (s1.heap.objs.size + 1) :: us).length = ps.length := by
      have e := r2.length
      rw [G.len _ _ _ _ hq] at e
      exact e.symm
    have hb2 := hb _ (Value.ref (s1.heap.objs.size + 1) :: us) I2.kIn (by rw [List.append_nil]; exact hl)
    rw [List.append_nil] at hb2
    refine wpAny_call (make_map (f := f) I1.kIn Mk.makes Mk.init (beq_iff_eq.mp Mk.fn) (codeAny_mono (G.run _ X.stack _ _ ⟨Value.ref (s1.heap.objs.size + 1) :: us, []⟩ (Value.ref (s1.heap.objs.size + 1) :: us) _ _ (WE W σ) (hr.make C us [])
      (I2.env0.make C us []) hb2 r2 hq) fun r s' hq' => ?_))
    cases r with
    | error e => exact passAt tk σ pins _ _ e s' I2 hq'
    | ok fl =>
      cases fl with
      | ret u =>
        obtain ⟨v, H', I3, rv, ev, q3⟩ := I2.after hq'
        subst ev
        exact ⟨rv, ⟨V.ref (s1.heap.objs.size + 1), H', I3, rfl, q3⟩⟩
      | next => exact False.elim hq'
      | brk => exact False.elim hq'
      | cont => exact False.elim hq'
end
end
end PL
set_option Elab.async false
set_option linter.all false
set_option maxRecDepth 100000
set_option maxHeartbeats 4000000
namespace PL
open PySem PySem.Spec PyProof.Rows L2
section
variable {X : Cx} {o e : Expr} {es : List Expr} {to te : TE} {ta : TA} {f x : Str} {p p' p1 p2 pos : Pos} {CA : Addr} {mc : Value}
theorem pe_oinit {pl : Sem Bool} (hg : Gl X x) (hm : X.mg x = some (.ref CA)) (T : OwnI X.K CA mc) (ha : PA X (e :: es) ta) (hdb : (x == ("__debug__" : Str)) = false := by decide)
    (hc : eval (.Call (.Attribute (.Name x p1) "__init__" p2) (e :: es) [] pos) X.env = (do
      let ov ← eval (.Name x p1) X.env
      standAt p2.atName
      let (f, first) ← holding [ov] (getMethod ov "__init__" pl)
      callWith pos f first (backTo pos (starEach (e :: es) X.env)) (backToKw pos (keywordEach [] X.env))) := by rfl)
    (he : starEach (e :: es) X.env = (false, eval e X.env) :: starEach es X.env := by rfl) (hpl : (backTo pos (starEach es X.env)).any (·.1) = false := by rfl) :
    PE X (.Call (.Attribute (.Name x p1) "__init__" p2) (e :: es) [] pos) (tVeI X.K ta) := by
  refine ⟨fun pins s σ H Q I h => ?_⟩
  refine PySem.W.methodCall_KW (ld_glob I hg hm ?_ hdb) hc
  refine PySem.W.method_cls I.kIn T.ga (PySem.W.cls_value I.kIn T.rd T.at_ (by decide +kernel) ?_)
  show wpAny _ _ (callWith pos (Value.builtin "ValueError.__init__") [] (backTo pos (starEach (e :: es) X.env)) []) _ _ _
  refine PyProof.Rows.callWith_method1 (thn (ha.run pos pins _ σ H _ (I.tok _) h) fun us s1 ⟨vs, H1, I1, r1, a, C, ws, ev, hl, T, ea, q⟩ => ?_) he hpl
  subst ev
  cases r1 with
  | @cons _ u0 _ ur ra rw' =>
    obtain rfl : u0 = Value.ref a := ra
    have hlen : ur.length ≤ sizeLine := by
      rw [← Paired.length rw', sizeLine_eq]
      omega
    exact oinit_ok T I1 ea hlen fun s' J => ⟨.non, H1, J, rfl, q⟩
end
def IniEnd (H : Hp) (a C : Addr) (fs : List (Str × V)) (H' : Hp) : Prop :=
  (fs = [] ∧ H' = H) ∨ ∃ dx, fs ≠ [] ∧ H dx = none ∧ dx ≠ a ∧ H' a = some (exo a C (some dx)) ∧ H' dx = some (exd dx fs) ∧ ∀ b, b ≠ a → b ≠ dx → H' b = H b
def spI (C : Addr) (names : List Str) : Sp := fun vs H Q _ => ∃ a ws, vs = .ref a :: ws ∧ ws.length = names.length ∧ H a = some (exo a C none) ∧ ∀ H', IniEnd H a C ((names.zip ws).reverse) H' → Q .non H'
section
variable {X : Cx} {pins : List (Addr × Obj)} {σ : L2.St} {H1 : Hp}
theorem mk_endN {hp hp2 h2 : Heap} {g1 g2 : Array GenState} {d1 d2 : Drawn} {t1 t2 : Nat} {os1 os2 : OsState} {a C : Addr} (I1 : Inv X pins σ H1 ⟨hp, g1, d1, t1, os1⟩)
    (ha : hp.objs.size ≤ a) (k : ∀ b o, hp.get? b = some o → hp2.get? b = some o) (un : Un (frs X.stack) [] (upd H1 a (exo a C none)) (upd H1 a (exo a C none)) hp2 h2) (hok : HOk X.prog X.w (upd H1 a (exo a C none)) h2) (ho : os2 = os1) (hb : AllBare g2) :
    ∃ (t0 : Addr) (G : Heap), Inv X pins σ H1 ⟨G, g2, d2, t2, os2⟩ ∧ (∀ b o, G.get? b = some o → h2.get? b = some o) ∧ G.get? a = none ∧
      h2.get? a = some ({ cls := .ref C, dict := none, data := .fields #[.ref t0, .none, .none, .none, .bool false, .none] } : Obj) ∧ H1 a = none := by
  have ea : (upd H1 a (exo a C none)) a = some (exo a C none) := upd_same
  obtain ⟨t0, hoe⟩ := exo_at hok ea
  have hn : H1 a = none := I1.hok.fresh ha
  obtain ⟨G, g1', g2'⟩ := restrict h2 fun b => decide (b ≠ a)
  have gk : ∀ b, b ≠ a → G.get? b = h2.get? b := fun b hb => g1' b (decide_eq_true hb)
  have ge : G.get? a = none := g2' a (by simp)
  have nha : ∀ {b : Addr} {o : Obj}, hp.get? b = some o → b ≠ a := fun {b o} z => Nat.ne_of_lt (Nat.lt_of_lt_of_le (Heap.lt_size z) ha)
  have up : ∀ {b : Addr}, b ≠ a → H1 b = none → upd H1 a (exo a C none) b = none := fun {b} hb n => by rw [upd_ne hb]; exact n
  have U : Un (frs X.stack) [] H1 H1 hp G := {
    keep := fun b o z n hf hx => by
      rw [gk b (nha z)]
      exact un.keep b o (k b o z) (up (nha z) n) hf hx
    slot := fun b o z n hf hx => by
      rw [gk b (nha z)]
      exact un.slot b o (k b o z) (up (nha z) n) hf hx
    free := fun b o z n hx => n
    there := fun b o z hx => by
      rw [gk b (nha z)]
      exact un.there b o (k b o z) hx
    tups := fun b xs z => z
    frzs := fun b o v z => z
    tbls := fun b ps z => ⟨#[], by rw [z]; simp⟩ }
  have hok3 : HOk X.prog X.w H1 G := fun b o z => by
    have hba : b ≠ a := ne_of_none z hn
    have z2 : (upd H1 a (exo a C none)) b = some o := by rw [upd_ne hba]; exact z
    have noa : ∀ {c : Addr}, (upd H1 a (exo a C none)) c = some (.own b) → c ≠ a := fun {c} hc => at_ne ea hc exo_own
    exact (hok b o z2).stay (fun c v hc y => by
        have hca : c ≠ a := by
          rcases hc with hc | hc
          · rw [hc]
            exact hba
          · exact noa hc
        rw [gk c hca]
        exact y)
      (fun c hc => by rw [upd_ne (noa hc)] at hc; exact hc) (fun c xs hc => by rw [upd_ne (at_ne ea hc exo_tup)] at hc; exact hc)
  have J : Inv X pins σ H1 ⟨G, g2, d2, t2, os2⟩ := I1.call' (ch := []) ho U hok3 hb (fun b z => absurd z (by simp))
  refine ⟨t0, G, J, fun b o z => ?_, ge, hoe, hn⟩
  by_cases hba : b = a
  · rw [hba, ge] at z
    cases z
  · exact (gk b hba).symm.trans z
end
def tMkI (C : Addr) (names : List Str) (ta : TA) : L2.St → Hp → XK → Prop := fun σ H Q => ta σ H fun vs H1 => vs.length = names.length ∧ names.length ≤ 10 ∧
  (names = [] → Q (.ref C) none H1) ∧ (names ≠ [] → ∀ d, H1 d = none → Q (.ref C) (some d) (upd H1 d (.xd ((names.zip vs).reverse))))
section
variable {X : Cx} {e : Expr} {es : List Expr} {ta : TA} {x : Str} {p pos : Pos} {C fI : Addr} {k : Nat} {fd : FuncData} {ps : List Str} {names : List Str}
theorem pmk_call (T : OexC X.K C) (iC : PySem.W.findIn X.K (.ref C) "__init__" = some (some (.ref fI))) (tI : PySem.W.typeIn X.K (.ref fI) = some (.type "function"))
    (F1 : FnOk X.prog X.w X.K X.mg X.base (L2.CX X.prog X.w) k fI fd ps (spI C names)) (hr : Room (k + 1) X.A) (hb : Binds X.K fd ps []) {pins : List (Addr × Obj)} {σ : L2.St} {H1 : Hp} {Q : XK} {us : List Value} {vs : List V} {s1 : Shared}
    (I1 : Inv X pins σ H1 s1) (r1 : Vals vs us) (q1 : vs.length = names.length ∧ names.length ≤ 10 ∧ (names = [] → Q (.ref C) none H1) ∧ (names ≠ [] → ∀ d, H1 d = none → Q (.ref C) (some d) (upd H1 d (.xd ((names.zip vs).reverse))))) :
    wpAny (model X.prog X.w) X.A (call (.ref C) us) (MkP X pins σ Q) X.xe s1 := by
  obtain ⟨nm, q, N, bs, bm, sn, sub, ab, col, dd, k0, k1, k2, k3, k5, hC, hbm⟩ := T.cls
  obtain ⟨hp, g, dr, tk, os⟩ := s1
  obtain ⟨hl1, hl2, qn, qs⟩ := q1
  have hsz : hp.objs.size ≤ hp.objs.size + 1 := Nat.le_succ _
  have hn : H1 (hp.objs.size + 1) = none := I1.hok.fresh hsz
  have kk : ∀ b o, hp.get? b = some o → ((hp.push (PySem.W.kdv_tup us)).push (PySem.HandSPX.excO C hp.objs.size)).get? b = some o := fun b o e => Heap.get?_push_of_some _ (Heap.get?_push_of_some _ e)
  have hget : ((hp.push (PySem.W.kdv_tup us)).push (PySem.HandSPX.excO C hp.objs.size)).get? (hp.objs.size + 1) = some (PySem.HandSPX.excO C hp.objs.size) := by heap_get
  have I2 : Inv X pins σ (upd H1 (hp.objs.size + 1) (exo (hp.objs.size + 1) C none)) ⟨(hp.push (PySem.W.kdv_tup us)).push (PySem.HandSPX.excO C hp.objs.size), g, dr, tk, os⟩ :=
    I1.laid (t' := tk) (a := hp.objs.size + 1) (o := exo (hp.objs.size + 1) C none) (h' := (hp.push (PySem.W.kdv_tup us)).push (PySem.HandSPX.excO C hp.objs.size)) kk hsz (exo_ok hget)
  have r2 : Vals (V.ref (hp.objs.size + 1) :: vs) (Value.ref (hp.objs.size + 1) :: us) := .cons rfl r1
  have hq : spI C names (V.ref (hp.objs.size + 1) :: vs) (upd H1 (hp.objs.size + 1) (exo (hp.objs.size + 1) C none)) (fun v H2 => v = .non ∧ IniEnd (upd H1 (hp.objs.size + 1) (exo (hp.objs.size + 1) C none)) (hp.objs.size + 1) C ((names.zip vs).reverse) H2) (fun _ _ _ => False) :=
    ⟨_, _, rfl, hl1, upd_same, fun H' z => ⟨rfl, z⟩⟩
  have hl : (Value.ref (hp.objs.size + 1) :: us ++ []).length = ps.length := by
    have e := r2.length
    rw [F1.len _ _ _ _ hq] at e
    rw [List.append_nil]
    exact e.symm
  have hus : us.length ≤ sizeLine := by
    rw [← Paired.length r1, sizeLine_eq]
    omega
  have b2 := hb _ (Value.ref (hp.objs.size + 1) :: us) I2.kIn hl
  rw [List.append_nil] at b2
  refine wpAny_call (PySem.HandSPX.call_own F.excBase_ValueError (fun Y => PySem.HandSPX.refsVE_contains Y bm hbm) (I1.kIn _ _ hC) (PySem.W.looks_findIn I1.kIn iC) (fun self => PySem.W.bind_fn I1.kIn self tI) hus
    (codeAny_mono (F1.run _ X.stack _ _ ⟨Value.ref (hp.objs.size + 1) :: us, []⟩ (Value.ref (hp.objs.size + 1) :: us) _ _ (fun _ _ _ => False) (hr.make C us []) (I2.env0.make C us []) b2 r2 hq) fun r s' hq' => ?_))
  cases r with
  | error er => exact passes_call (W := fun _ _ _ _ => False) (E := fun _ _ _ => False) takes_none5 (fun _ _ _ _ h => h) pins σ _ _ er s' I2 hq'
  | ok fl =>
    cases fl with
    | ret u =>
      obtain ⟨v, H2, os2, bare2, un2, hok2, rv, ev, ie⟩ := hq'
      subst ev
      obtain ⟨h2, g2, d2, t2, os'⟩ := s'
      refine ⟨rv, ?_⟩
      rcases ie with ⟨e0, rfl⟩ | ⟨dx, n0, hdx, hda, ea, ed, rest⟩
      · obtain ⟨t0, G, J, kG, ge, hoe, na⟩ := mk_endN (d2 := d2) (t2 := t2) I1 hsz kk un2 hok2 os2 bare2
        have en : names = [] := by
          cases names with
          | nil => rfl
          | cons y ys =>
            cases vs with
            | nil => cases hl1
            | cons v vs => simp at e0
        exact ⟨_, _, _, ⟨G, g2, d2, t2, os'⟩, _, .ref C, none, rfl, J, kG, ge, hoe, ⟨rfl, rfl⟩, rfl, rfl, na, rfl, bare2, raises_own T.exC T.tyC, qn en⟩
      · have hd1 : H1 dx = none := by rw [upd_ne hda] at hdx; exact hdx
        have en : names ≠ [] := fun e => by
          subst e
          simp at n0
        have eH : upd (del H2 (hp.objs.size + 1)) dx (.xd ((names.zip vs).reverse)) = upd H1 dx (.xd ((names.zip vs).reverse)) := by
          funext b
          by_cases b1 : b = dx
          · rw [b1, upd_same, upd_same]
          · rw [upd_ne b1, upd_ne b1]
            by_cases b2 : b = hp.objs.size + 1
            · rw [b2, del_same, hn]
            · rw [del_ne b2, rest b b2 b1, upd_ne b2]
        exact mk_end (raises_own T.exC T.tyC) I1 hsz kk un2 hok2 os2 bare2 ea ed hd1 (by rw [eH]; exact qs en dx hd1)
    | next => exact False.elim hq'
    | brk => exact False.elim hq'
    | cont => exact False.elim hq'
theorem pmk_ini (T : OexC X.K C) (iC : PySem.W.findIn X.K (.ref C) "__init__" = some (some (.ref fI))) (tI : PySem.W.typeIn X.K (.ref fI) = some (.type "function"))
    (F1 : FnOk X.prog X.w X.K X.mg X.base (L2.CX X.prog X.w) k fI fd ps (spI C names)) (hr : Room (k + 1) X.A) (hb : Binds X.K fd ps []) (hg : Gl X x) (hm : X.mg x = some (.ref C)) (ha : PA X (e :: es) ta)
    (hdb : (x == ("__debug__" : Str)) = false := by decide) (he : starEach (e :: es) X.env = (false, eval e X.env) :: starEach es X.env := by rfl) (hpl : (backTo pos (starEach es X.env)).any (·.1) = false := by rfl) :
    PMk X (.Call (.Name x p) (e :: es) [] pos) (tMkI C names ta) := by
  intro pins s σ H Q I h
  refine wpAny_Call_Name_kw (ld_glob I hg hm ?_ hdb)
  exact PySem.W.callWith_K (h₀ := X.base) I.ok.mod.kin T.kC (thn (ha.run pos pins s σ H _ I h) fun us s1 ⟨vs, H1, I1, r1, q1⟩ => ⟨I1.kIn, pmk_call T iC tI F1 hr hb I1 r1 q1⟩) he hpl
theorem pmk_ini0 (T : OexC X.K C) (iC : PySem.W.findIn X.K (.ref C) "__init__" = some (some (.ref fI))) (tI : PySem.W.typeIn X.K (.ref fI) = some (.type "function"))
    (F1 : FnOk X.prog X.w X.K X.mg X.base (L2.CX X.prog X.w) k fI fd ps (spI C [])) (hr : Room (k + 1) X.A) (hb : Binds X.K fd ps []) (hg : Gl X x) (hm : X.mg x = some (.ref C))
    (hdb : (x == ("__debug__" : Str)) = false := by decide) :
    PMk X (.Call (.Name x p) [] [] pos) (fun σ H Q => Q (.ref C) none H) := by
  intro pins s σ H Q I h
  refine wpAny_Call_Name_kw (ld_glob I hg hm ?_ hdb)
  exact PySem.W.callWith_K0 I.kIn T.kC (pmk_call (us := []) (vs := []) T iC tI F1 hr hb I .nil ⟨rfl, by decide, fun _ => h, fun z => absurd rfl z⟩)
end
end PL
set_option Elab.async false
set_option linter.all false
set_option maxRecDepth 100000
set_option maxHeartbeats 4000000
namespace PL
open PySem PySem.Spec PyProof.Rows L2
section
variable {P : Program} {w : World} {K : PySem.W.Frag} {mg : Str → Option Value} {base : Heap} {x qual : Str} {params : Arguments} {body : List Stmt} {scope : Scope} {f C : Addr} {fd : FuncData} {k : Nat} {msg f1 f2 p1 p2 : Str}
abbrev tIni (K : PySem.W.Frag) (msg : Str) : TS := tDrop (tVeI K (tCons (tVar 0) (tCons (tC (.str msg)) tNil)))
theorem ini_fn0 (F : FunD K x qual params body scope [] [] f fd) (S : FnScope ["self"] ["self"] scope) (T : OexC K C)
    (hb : ∀ (cdv : Value) (A : Around) (outer : List PySem.Env) (s : Shared) (H : Hp) (E : XK), PSs (cxOf (L2.CX P w) P w K mg base ["self"] qual scope f cdv A outer s H E) body (tIni K msg)) :
    FnOk P w K mg base (L2.CX P w) (k + 1) f fd ["self"] (spI C []) := by
  refine F.ok S (fun vs H Q E h => ?_) (fun cdv A outer s H vs Q E hr h => ?_)
  · obtain ⟨a, ws, rfl, hl, _⟩ := h
    cases ws with
    | nil => rfl
    | cons _ _ => cases hl
  · obtain ⟨a, ws, rfl, hl, ea, q⟩ := h
    refine ⟨_, hb cdv A outer s H E, ?_⟩
    cases ws with
    | cons _ _ => cases hl
    | nil => exact ⟨.ref a, rfl, a, C, [.str msg], rfl, Nat.le_of_ble_eq_true rfl, T, ea, q H (.inl ⟨rfl, rfl⟩)⟩
theorem ini_fn1 (F : FunD K x qual params body scope [] [] f fd) (S : FnScope ["self", p1] ["self", p1] scope) (T : OexC K C) (h1 : PySem.W.findIn K (.ref C) f1 = some none)
    (hb : ∀ (cdv : Value) (A : Around) (outer : List PySem.Env) (s : Shared) (H : Hp) (E : XK), PSs (cxOf (L2.CX P w) P w K mg base ["self", p1] qual scope f cdv A outer s H E) body (tSeq (tIni K msg) (tOst K f1 (tVar 0) (tVar 1)))) :
    FnOk P w K mg base (L2.CX P w) (k + 1) f fd ["self", p1] (spI C [f1]) := by
  refine F.ok S (fun vs H Q E h => ?_) (fun cdv A outer s H vs Q E hr h => ?_)
  · obtain ⟨a, ws, rfl, hl, _⟩ := h
    rw [List.length_cons, hl]
    rfl
  · obtain ⟨a, ws, rfl, hl, ea, q⟩ := h
    refine ⟨_, hb cdv A outer s H E, ?_⟩
    cases ws with
    | nil => cases hl
    | cons y ys =>
      cases ys with
      | cons _ _ => cases hl
      | nil =>
        refine ⟨.ref a, rfl, a, C, [.str msg], rfl, Nat.le_of_ble_eq_true rfl, T, ea, y, rfl, .ref a, rfl, a, C, rfl, T, h1, .inl ⟨ea, fun dx hdx hne => ?_⟩⟩
        refine q _ (.inr ⟨dx, by simp, hdx, hne, upd_same, by rw [upd_ne hne, upd_same]; rfl, fun b h1 h2 => by rw [upd_ne h1, upd_ne h2]⟩)
end
def sRaise (c : Str) (names : List Str) (fa : Env → M (List D)) : SD := sE fa fun ds env st => if ds.length = names.length then .exc ⟨c, (names.zip ds).reverse⟩ env st else .bad
def sRaise0 (c : Str) : SD := fun env st => .exc ⟨c, []⟩ env st
theorem repF_zip {K : PySem.W.Frag} {mg : Str → Option Value} {F : Hp} {A : List Addr} : ∀ {names : List Str} {vs : List V} {ds : List D}, Reps K mg F A vs ds → RepF K mg F A (names.zip vs) (names.zip ds)
  | [], _, _, _ => by
    rw [List.zip_nil_left, List.zip_nil_left]
    exact .nil
  | _ :: _, _, _, .nil => .nil
  | n :: names, _, _, .cons h r => .cons h (repF_zip r)
theorem repF_app {K : PySem.W.Frag} {mg : Str → Option Value} {F : Hp} {A : List Addr} : ∀ {l m : List (Str × V)} {l' m' : List (Str × D)}, RepF K mg F A l l' → RepF K mg F A m m' → RepF K mg F A (l ++ m) (l' ++ m')
  | _, _, _, _, .nil, s => s
  | _, _, _, _, .cons h r, s => .cons h (repF_app r s)
theorem repF_rev {K : PySem.W.Frag} {mg : Str → Option Value} {F : Hp} {A : List Addr} : ∀ {l : List (Str × V)} {l' : List (Str × D)}, RepF K mg F A l l' → RepF K mg F A l.reverse l'.reverse
  | _, _, .nil => .nil
  | _, _, .cons h r => by
    rw [List.reverse_cons, List.reverse_cons]
    exact repF_app (repF_rev r) (.cons h .nil)
section
variable {X : Cx} {B : Bs} {W : WX} {e : Expr} {es : List Expr} {c : Str} {p pos pos2 : Pos} {C fI : Addr} {k : Nat} {fd : FuncData} {ps : List Str} {names : List Str} {fs : Env → M (List D)}
theorem qs_raise (hc : X.calm = true) (tk : Takes X W) (T : OexC X.K C) (iC : PySem.W.findIn X.K (.ref C) "__init__" = some (some (.ref fI))) (tI : PySem.W.typeIn X.K (.ref fI) = some (.type "function"))
    (F1 : FnOk X.prog X.w X.K X.mg X.base (L2.CX X.prog X.w) k fI fd ps (spI C names)) (hr : Room (k + 1) X.A) (hb : Binds X.K fd ps []) (hg : Gl X c) (hm : X.mg c = some (.ref C)) (hn : names ≠ [] ∧ names.length ≤ 10) (ha : PA X (e :: es) (rA X.K X.mg B W fs))
    (hdb : (c == ("__debug__" : Str)) = false := by decide) (he : starEach (e :: es) X.env = (false, eval e X.env) :: starEach es X.env := by rfl) (hpl : (backTo pos (starEach es X.env)).any (·.1) = false := by rfl) :
    PS X (.Raise (some (.Call (.Name c p) (e :: es) [] pos)) none pos2) (rS X.K X.mg B W (sRaise c names fs)) := by
  refine (ps_raise hc tk (pmk_ini T iC tI F1 hr hb hg hm ha hdb he hpl)).imp fun E σ H ⟨g, env, st, R, w⟩ => ?_
  refine seqSA R w fun ds st1 F1 A1 H1 vs R1 x1 r1 w1 => ?_
  have w2 : WPs X.K X.mg B W ⟨F1, A1, g.ow⟩ E (if ds.length = names.length then SR.exc ⟨c, (names.zip ds).reverse⟩ env st1 else SR.bad) := w1
  by_cases hl : ds.length = names.length
  · rw [if_pos hl] at w2
    refine ⟨r1.length.trans hl, hn.2, fun z => absurd z hn.1, fun _ d hd => ?_⟩
    exact w2 _ σ _ _ _ GExt.refl (R1.pushH hd) ⟨C, rfl, hm, .inr ⟨d, _, rfl, upd_same, repF_rev (repF_zip r1)⟩⟩
  · rw [if_neg hl] at w2
    exact w2.elim
theorem qs_raise0 (hc : X.calm = true) (tk : Takes X W) (T : OexC X.K C) (iC : PySem.W.findIn X.K (.ref C) "__init__" = some (some (.ref fI))) (tI : PySem.W.typeIn X.K (.ref fI) = some (.type "function"))
    (F1 : FnOk X.prog X.w X.K X.mg X.base (L2.CX X.prog X.w) k fI fd ps (spI C [])) (hr : Room (k + 1) X.A) (hb : Binds X.K fd ps []) (hg : Gl X c) (hm : X.mg c = some (.ref C))
    (hdb : (c == ("__debug__" : Str)) = false := by decide) :
    PS X (.Raise (some (.Call (.Name c p) [] [] pos)) none pos2) (rS X.K X.mg B W (sRaise0 c)) := by
  refine (ps_raise hc tk (pmk_ini0 T iC tI F1 hr hb hg hm hdb)).imp fun E σ H ⟨g, env, st, R, w⟩ => ?_
  exact w _ σ _ _ _ GExt.refl R ⟨C, rfl, hm, .inl ⟨rfl, rfl⟩⟩
end
end PL
set_option Elab.async false
set_option linter.all false
set_option maxRecDepth 100000
set_option maxHeartbeats 4000000
namespace PL
open PySem PySem.Spec PyProof.Rows L2
def endsC (D : Ends) : Option Nat → Ends
  | none => D
  | some i => { nx := fun σ' H' => D.nx (σ'.set i none) H', rt := D.rt, bk := fun σ' H' => D.bk (σ'.set i none) H', ct := fun σ' H' => D.ct (σ'.set i none) H' }
def sigC (σ : L2.St) (a : Addr) : Option Nat → L2.St
  | none => σ
  | some i => σ.set i (some (.ref a))
def wAny (K : PySem.W.Frag) (Wout : WX) (D : Ends) : List ClT → WX
  | [] => Wout
  | (c, i, ts) :: r => fun cls d σ H => ∃ b, PySem.W.exmOne K cls c = some b ∧ (b = true → ∀ a, H a = none → ts a cls d (endsC D i) (sigC σ a i) H) ∧ (b = false → wAny K Wout D r cls d σ H)
section
variable {X : Cx} {body : List Stmt} {h₀ : ExceptHandler} {hds : List ExceptHandler} {l : List ClT} {pos : Pos} {tb : WX → TS} {Wout : WX}
theorem ps_try_any (hs : X.stack = X.env :: X.outer) (hf : X.env.frame = some X.env.locals) (hN : X.N.Nodup) (tk : Takes X Wout)
    (hb : ∀ (W : WX) (pn : List (Addr × Obj)) (xe : Value → Shared → Prop), Takes (X.tr pn xe) W → PassesOwn (model X.prog X.w) X.A X.env xe → PSs (X.tr pn xe) body (tb W))
    (hh : HdsA X (h₀ :: hds) l) : PS X (.Try body (h₀ :: hds) [] [] pos) (fun D σ H => tb (wAny X.K Wout D l) D σ H) := by
  refine ⟨fun pins s σ H D I h => ?_⟩
  have ok := I.ok
  have hfr : X.A.frames = some (X.env :: X.outer) := by rw [ok.frames, hs]
  refine wpAny_Try_except ?_
  refine wpAny_mono ((hb (wAny X.K Wout D l) (X.pn ++ pins) (fun e s₁ => wpAny (model X.prog X.w) X.A (noteFrame e X.env) (fun _ s₂ => wpAny (model X.prog X.w) X.A (setFlight e none) (fun _ s₃ =>
    wpAny (model X.prog X.w) X.A (handleBy e X.env (h₀ :: hds)) (SP X pins D) X.xe s₃) X.xe s₂) X.xe s₁) (fun u s' xx => ?_) PassesOwn.looking).run [] s σ H D (I.toTry _) h) (fun f s1 hsp => ?_) (fun e s1 he => he)
  · obtain ⟨a, B, sI, pins', σ', H', cls, d, rfl, J', nb, up, sky, na, os, ag, w⟩ := xx
    have J : Inv X pins σ' H' sI := J'.ofTry ok
    have sky' : Sky B (X.env :: X.outer) a (Zc cls d) X.env.locals s'.heap := by rw [← hs]; exact sky
    show wpAny (model X.prog X.w) X.A (noteFrame (.ref a) X.env) _ _ _
    refine Sky.land Zc.steady hfr hf sky' fun h3 fl3 up3 => ?_
    have J3 : Inv X pins σ' H' { s' with heap := h3 } := J.landed nb fl3.1 (up.trans up3) os ag
    obtain ⟨oe3, vs3, he3, hz3, hd3⟩ := fl3.there
    have notFr : ∀ {h : Heap} {o : Obj} {vs : Array Value}, h.FunFrames B (X.env :: X.outer) → h.get? a = some o → o.data = .fields vs → a ∉ frs (X.env :: X.outer) := fun {h o vs} ff e dd hm => by
      obtain ⟨_, o', e', hnf⟩ := ff.mem hm
      rw [e] at e'; cases e'
      exact hnf _ dd
    have nfr := notFr fl3.2.2.1 he3 hd3
    have nL : a ≠ X.env.locals := fun z => nfr (List.mem_filterMap.mpr ⟨X.env, List.mem_cons_self, by rw [hf, z]⟩)
    have nF : a ∉ X.fs := fun hm => by
      obtain ⟨e, he, q⟩ := List.mem_filterMap.mp hm
      exact nfr (List.mem_filterMap.mpr ⟨e, List.mem_cons_of_mem _ he, q⟩)
    have S3 := J3.suite he3 hd3 na nL nF
    have LT : PySem.W.Looks (model X.prog X.w) h3 (typeOf (.ref a)) cls := fun A Q E s k q => wpAny_typeOf_ref (k _ _ he3) (by rw [hz3.1]; exact q)
    have test : ∀ {x : Str} {c : Value} {np : Pos} {Q : Value → Shared → Prop} {E : Value → Shared → Prop}, Names X x c → Q c { s' with heap := h3 } → wpAny (model X.prog X.w) (X.A.mark (some (.ref a))) (eval (.Name x np) X.env) Q E { s' with heap := h3 } := fun {x c np Q E} hc q => by
      obtain ⟨hg, hdbg, hm | ⟨hm, hv, hnn⟩⟩ := hc
      · exact ld_glob (X := X.suite a ((a, oe3) :: (X.pn ++ pins))) S3 hg hm q hdbg
      · exact ld_blt (X := X.suite a ((a, oe3) :: (X.pn ++ pins))) S3 hg hm hv q hnn hdbg
    have go : ∀ {hds' : List ExceptHandler} {l' : List ClT}, HdsA X hds' l' → wAny X.K Wout D l' cls d σ' H' →
        wpAny (model X.prog X.w) X.A (handleBy (.ref a) X.env hds') (SP X pins D) X.xe { s' with heap := h3 } := by
      intro hds' l' hk
      induction hk with
      | nil =>
        intro w
        refine wpAny_handleBy_nil ?_
        obtain ⟨k1, k2, k3, oe, vs, T, oT, ts', he, hz, hd, h1, hr⟩ := id fl3
        unfold PySem.passOn
        refine wpAny_bind (wpAny_field he hd h1 ?_)
        rw [if_neg (show ¬ ((Value.ref T == Value.none) = true) from by simp)]
        have fin : wpAny (model X.prog X.w) X.A (setFlight (.ref a) X.env.frame) (fun _ s4 => wpAny (model X.prog X.w) X.A (throw (.ref a) : Sem Flow) (SP X pins D) X.xe s4) X.xe { s' with heap := h3 } := by
          rw [hf]
          refine HandSPX.setFlight_upZ fl3 fun h4 hh4 up4 => wpAny_throw (tk _ _ ?_)
          exact ⟨a, B, sI, pins, σ', H', cls, d, rfl, J, nb, (up.trans up3).trans up4, .inr (.inr (by rw [hs]; exact hh4)), na, os, ag, w⟩
        first
          | exact wpAny_bind (wpAny_pure (wpAny_bind fin))
          | exact wpAny_bind fin
      | @plain x c ts b₀ suite np pos' hds2 l2 hc hsu r ih =>
        intro w
        obtain ⟨b, hb1, hyes, hno⟩ := w
        refine wpAny_handleBy_cons (codeAny_handlers_test ?_) (by intro q; cases q)
        have LM := PySem.W.exm_one (M := model X.prog X.w) (J3.kIn) LT hb1
        refine test hc (LM.here ?_)
        cases b with
        | true =>
          refine codeAny_handlers_suite ?_
          refine HandSPX.lands_againZ fl3 fun h4 fl4 up4 => ?_
          have J4 : Inv X pins σ' H' { s' with heap := h4 } := J.landed nb fl4.1 ((up.trans up3).trans up4) os ag
          obtain ⟨oe4, vs4, he4, hz4, hd4⟩ := fl4.there
          have S4 := J4.suite he4 hd4 na nL nF
          refine wpAny_mono ((hsu a oe4 cls d (X.pn ++ pins) hz4 ⟨_, hd4⟩).run [] _ _ H' _ S4 (hyes rfl a na)) (fun f s6 hsp => ?_) (fun _ _ z => False.elim z)
          cases f with
          | next =>
            obtain ⟨σ6, H6, S6, q6⟩ := hsp
            exact ⟨_, _, S6.unsuite ok, q6⟩
          | brk =>
            obtain ⟨σ6, H6, S6, q6⟩ := hsp
            exact ⟨_, _, S6.unsuite ok, q6⟩
          | cont =>
            obtain ⟨σ6, H6, S6, q6⟩ := hsp
            exact ⟨_, _, S6.unsuite ok, q6⟩
          | ret u =>
            obtain ⟨v6, σ6, H6, S6, r6, q6⟩ := hsp
            exact ⟨_, _, _, S6.unsuite ok, r6, q6⟩
        | false =>
          show wpAny _ X.A (handleBy (.ref a) X.env hds2) _ _ _
          exact ih (hno rfl)
      | @named x n i c ts b₀ suite np pos' hds2 l2 hc hi hln hsu r ih =>
        intro w
        obtain ⟨b, hb1, hyes, hno⟩ := w
        have hloc : Loc X.env.scope n := .inl hln
        refine wpAny_handleBy_cons (codeAny_handlers_test ?_) (by intro q; cases q)
        have LM := PySem.W.exm_one (M := model X.prog X.w) (J3.kIn) LT hb1
        refine test hc (LM.here ?_)
        cases b with
        | true =>
          refine codeAny_handlers_suite_as ?_
          refine HandSPX.lands_againZ fl3 fun h4 fl4 up4 => ?_
          have J4 : Inv X pins σ' H' { s' with heap := h4 } := J.landed nb fl4.1 ((up.trans up3).trans up4) os ag
          obtain ⟨oe4, vs4, he4, hz4, hd4⟩ := fl4.there
          have S4 := J4.suite he4 hd4 na nL nF
          refine store_ok (X := X.suite a ((a, oe4) :: (X.pn ++ pins))) (v := .ref a) S4 hN hi hloc rfl (fun s5 S5 => ?_) (.inr hln)
          refine wpAny_mono ((hsu a oe4 cls d (X.pn ++ pins) hz4 ⟨_, hd4⟩).run [] s5 _ H' _ S5 (hyes rfl a na)) (fun f s6 hsp => ?_) (fun _ _ z => False.elim z)
          have end_ : ∀ {σ6 : L2.St} {H6 : Hp} {Q : Shared → Prop}, Inv (X.suite a ((a, oe4) :: (X.pn ++ pins))) [] σ6 H6 s6 → (∀ s7, Inv X pins (σ6.set i none) H6 s7 → Q s7) →
              wpAny (model X.prog X.w) X.A (do bindName X.env n .none; unbindBehindTheSuite X.env n pos') (fun _ s7 => Q s7) X.xe s6 := fun {σ6 H6 Q} S6 hq => gone_ok (S6.unsuite ok) hN hi hln hq
          cases f with
          | next =>
            obtain ⟨σ6, H6, S6, q6⟩ := hsp
            exact end_ S6 fun s7 J7 => ⟨_, _, J7, q6⟩
          | brk =>
            obtain ⟨σ6, H6, S6, q6⟩ := hsp
            exact end_ S6 fun s7 J7 => ⟨_, _, J7, q6⟩
          | cont =>
            obtain ⟨σ6, H6, S6, q6⟩ := hsp
            exact end_ S6 fun s7 J7 => ⟨_, _, J7, q6⟩
          | ret u =>
            obtain ⟨v6, σ6, H6, S6, r6, q6⟩ := hsp
            exact end_ S6 fun s7 J7 => ⟨_, _, _, J7, r6, q6⟩
        | false =>
          show wpAny _ X.A (handleBy (.ref a) X.env hds2) _ _ _
          exact ih (hno rfl)
    exact go hh w
  · cases f with
    | next =>
      obtain ⟨σ', H', J', q⟩ := hsp
      exact wpAny_execs_nil ⟨σ', H', J'.ofTry ok, q⟩
    | brk =>
      obtain ⟨σ', H', J', q⟩ := hsp
      exact ⟨σ', H', J'.ofTry ok, q⟩
    | cont =>
      obtain ⟨σ', H', J', q⟩ := hsp
      exact ⟨σ', H', J'.ofTry ok, q⟩
    | ret u =>
      obtain ⟨v, σ', H', J', r, q⟩ := hsp
      exact ⟨v, σ', H', J'.ofTry ok, r, q⟩
end
def clrE (env : Env) : Option Nat → Env
  | none => env
  | some i => env.set i none
def clrR (s : Option Nat) : SR → SR
  | .nx env st => .nx (clrE env s) st
  | .bk env st => .bk (clrE env s) st
  | .ct env st => .ct (clrE env s) st
  | .rt d st => .rt d st
  | .exc _ _ _ => .bad
  | .bad => .bad
def slotOk (s : Option Nat) (env : Env) : Bool := match s with
  | none => true
  | some i => decide (i < env.length)
def sHds (top : Str) (errs : List Str) (e : Exn) : List HdD → SD
  | [] => fun env st => .exc e env st
  | h :: r => fun env st => if errs.contains e.c then (if isSub top e.c h.c then (if slotOk h.slot env then clrR h.slot (h.f e (clrE env h.slot) st) else .bad) else sHds top errs e r env st) else .bad
def sTry (top : Str) (errs : List Str) (t : SD) (hs : List HdD) : SD := fun env st => match t env st with
  | .exc e env' st' => sHds top errs e hs env' st'
  | r => r
section
variable {X : Cx} {B : Bs} {W : WX} {body : List Stmt} {h₀ : ExceptHandler} {hds : List ExceptHandler} {pos : Pos} {t : SD} {top : Str} {errs : List Str}
theorem WPs.clr {K : PySem.W.Frag} {mg : Str → Option Value} {g : Gh} {E : Ends} {slot : Option Nat} : ∀ {r : SR}, WPs K mg B W g E (clrR slot r) → WPs K mg B W0 g (endsC E slot) r := by
  intro r h
  cases slot with
  | none =>
    cases r with
    | exc e env st => exact h.elim
    | bad => exact h.elim
    | rt d st => exact h
    | nx env st => exact h
    | bk env st => exact h
    | ct env st => exact h
  | some i =>
    cases r with
    | exc e env st => exact h.elim
    | bad => exact h.elim
    | rt d st => exact h
    | nx env st => exact fun g' σ H x R => h g' _ H x R.setNone
    | bk env st => exact fun g' σ H x R => h g' _ H x R.setNone
    | ct env st => exact fun g' σ H x R => h g' _ H x R.setNone
theorem hds_any {hd : List ExceptHandler} {l : List HdD} (h : HdsD X B top errs hd l) : ∃ l', HdsA X hd l' ∧ ∀ (D : Ends) (e : Exn) (env : Env) (st : Sta) (g : Gh) (σ : L2.St) (H : Hp) (cls : Value) (dd : Option Addr), Rel X.K X.mg B g env st σ H → ExnAt X.K X.mg g.F g.A H cls dd e →
    WPs X.K X.mg B W g D (sHds top errs e l env st) → wAny X.K W D l' cls dd σ H := by
  induction h with
  | nil => exact ⟨[], .nil, fun D e env st g σ H cls dd R x w => w g σ H cls dd GExt.refl R x⟩
  | @plain x C f b₀ suite np pos' hds l hg hm hx hsu r hdb ih =>
    obtain ⟨l', h1, h2⟩ := ih
    refine ⟨_, .plain ⟨hg, hdb, .inl hm⟩ hsu h1, fun D e env st g σ H cls dd R xa w => ?_⟩
    unfold sHds at w
    split at w
    · rename_i hc
      obtain ⟨C', rfl, hm', _⟩ := id xa
      refine ⟨isSub top e.c x, hx _ (List.contains_iff_mem.mp hc) C' hm', fun z a na => ?_, fun z => ?_⟩
      · rw [if_pos z] at w
        exact ⟨g, env, st, e, R, xa, fun i (z : (none : Option Nat) = some i) => (by cases z), WPs.clr (show WPs X.K X.mg B W g D (clrR none (f e env st)) from w)⟩
      · rw [if_neg (by rw [z]; decide)] at w
        exact h2 D e env st g σ H _ dd R xa w
    · exact w.elim
  | @named x n C i f b₀ suite np pos' hds l hg hm hx hi hln hsu r hdb ih =>
    obtain ⟨l', h1, h2⟩ := ih
    refine ⟨_, .named ⟨hg, hdb, .inl hm⟩ hi hln hsu h1, fun D e env st g σ H cls dd R xa w => ?_⟩
    unfold sHds at w
    split at w
    · rename_i hc
      obtain ⟨C', rfl, hm', _⟩ := id xa
      refine ⟨isSub top e.c x, hx _ (List.contains_iff_mem.mp hc) C' hm', fun z a na => ?_, fun z => ?_⟩
      · rw [if_pos z] at w
        have w2 : WPs X.K X.mg B W g D (if slotOk (some i) env then clrR (some i) (f e (env.set i none) st) else .bad) := w
        by_cases hsl : i < env.length
        · rw [if_pos (show slotOk (some i) env = true from decide_eq_true hsl)] at w2
          exact ⟨g, env.set i none, st, e, R.setNone, xa, fun j z => by
            cases z
            exact List.getElem?_set_self (by rw [← R.len]; exact hsl), WPs.clr w2⟩
        · rw [if_neg (show ¬ (slotOk (some i) env = true) from fun z => hsl (of_decide_eq_true z))] at w2
          exact w2.elim
      · rw [if_neg (by rw [z]; decide)] at w
        exact h2 D e env st g σ H _ dd R xa w
    · exact w.elim
theorem qs_try {l : List HdD} (hs : X.stack = X.env :: X.outer) (hf : X.env.frame = some X.env.locals) (hN : X.N.Nodup) (tk : Takes X W)
    (hb : ∀ (W : WX) (pn : List (Addr × Obj)) (xe : Value → Shared → Prop), Takes (X.tr pn xe) W → PassesOwn (model X.prog X.w) X.A X.env xe → PSs (X.tr pn xe) body (rS X.K X.mg B W t))
    (hh : HdsD X B top errs (h₀ :: hds) l) : PS X (.Try body (h₀ :: hds) [] [] pos) (rS X.K X.mg B W (sTry top errs t l)) := by
  obtain ⟨l', h1, h2⟩ := hds_any (W := W) hh
  refine (ps_try_any hs hf hN tk hb h1).imp fun E σ H ⟨g, env, st, R, w⟩ => ⟨g, env, st, R, ?_⟩
  unfold sTry at w
  cases q : t env st with
  | exc e env' st' =>
    rw [q] at w
    exact fun g' σ' H' cls dd x R' xa => h2 E e env' st' g' σ' H' cls dd R' xa (WPs.shift w x)
  | nx env' st' => rw [q] at w; exact w
  | rt d st' => rw [q] at w; exact w
  | bk env' st' => rw [q] at w; exact w
  | ct env' st' => rw [q] at w; exact w
  | bad => rw [q] at w; exact w
theorem qsu_plain {a : Addr} {oe : Obj} {cls : Value} {d : Option Addr} {pn : List (Addr × Obj)} {ss : List Stmt} {slot : Option Nat} {f : SD} (h : PSs (X.suite a ((a, oe) :: pn)) ss (rS X.K X.mg B W0 f)) :
    PSs (X.suite a ((a, oe) :: pn)) ss (rSu X.K X.mg B slot (fun _ => f) a cls d) := h.imp fun E σ H ⟨g, env, st, ex, R, xa, hs, w⟩ => ⟨g, env, st, R, w⟩
def rXA (K : PySem.W.Frag) (mg : Str → Option Value) (B : Bs) (i : Nat) (fs : Exn → Option (List D)) (a : Addr) (cls : Value) (d : Option Addr) : TA := fun σ H Q => ∃ g env st ex ds, Rel K mg B g env st σ H ∧ ExnAt K mg g.F g.A H cls d ex ∧ σ[i]? = some (some (.ref a)) ∧ fs ex = some ds ∧ ∀ vs, Reps K mg g.F g.A vs ds → Q vs H
def xNil : Exn → Option (List D) := fun _ => some []
def xCon (d : D) (r : Exn → Option (List D)) : Exn → Option (List D) := fun e => (r e).map (d :: ·)
def xFld (c f : Str) (r : Exn → Option (List D)) : Exn → Option (List D) := fun e => if e.c = c then (e.fs.lookup f).bind fun d => (r e).map (d :: ·) else none
section
variable {a : Addr} {oe : Obj} {cls : Value} {d : Option Addr} {pn : List (Addr × Obj)} {es : List Expr} {i : Nat} {r : Exn → Option (List D)}
theorem px_nil : PA (X.suite a ((a, oe) :: pn)) [] (rXA X.K X.mg B i xNil a cls d) := pa_nil.imp fun σ H Q ⟨g, env, st, ex, ds, R, xa, hs, e, q⟩ => by
  cases e
  exact q [] .nil
theorem px_con {e : Expr} {v : V} {dd : D} (he : PE (X.suite a ((a, oe) :: pn)) e (tC v)) (hr : ∀ F A, Rep X.K X.mg F A v dd) (h : PA (X.suite a ((a, oe) :: pn)) es (rXA X.K X.mg B i r a cls d))
    (hs : starEach (e :: es) X.env = (false, eval e X.env) :: starEach es X.env := by rfl) : PA (X.suite a ((a, oe) :: pn)) (e :: es) (rXA X.K X.mg B i (xCon dd r) a cls d) :=
  (pa_cons he h hs).imp fun σ H Q ⟨g, env, st, ex, ds, R, xa, hs, e, q⟩ => by
    unfold xCon at e
    obtain ⟨ds', e1, e2⟩ := Option.map_eq_some_iff.mp e
    subst e2
    exact ⟨g, env, st, ex, ds', R, xa, hs, e1, fun vs rv => q (_ :: vs) (.cons (hr _ _) rv)⟩
theorem px_fld {c f n : Str} {C : Addr} {p1 p2 : Pos} (hm : X.mg c = some (.ref C)) (T : XfC X.K C) (hno : PySem.W.findIn X.K (.ref C) f = some none) (hz : Zc cls d oe) (hf : ∃ vs, oe.data = .fields vs) (hn : X.N[i]? = some n) (hv : X.env.scope.names.lookup n = some .local)
    (h : PA (X.suite a ((a, oe) :: pn)) es (rXA X.K X.mg B i r a cls d)) (hb : attributeBase (.Name n p1) f X.env (eval (.Name n p1) X.env) = eval (.Name n p1) X.env := by rfl)
    (hs : starEach (.Attribute (.Name n p1) f p2 :: es) X.env = (false, eval (.Attribute (.Name n p1) f p2) X.env) :: starEach es X.env := by rfl) (hd : (n == ("__debug__" : Str)) = false := by decide) (hcd : (n == ("__classdict__" : Str)) = false := by decide) :
    PA (X.suite a ((a, oe) :: pn)) (.Attribute (.Name n p1) f p2 :: es) (rXA X.K X.mg B i (xFld c f r) a cls d) :=
  (pa_cons (pe_xf T hno hz hf (pe_var (X := X.suite a ((a, oe) :: pn)) (i := i) hn (.inl hv) hd hcd) hb) h hs).imp fun σ H Q ⟨g, env, st, ex, ds, R, xa, hs, e, q⟩ => by
    unfold xFld at e
    split at e
    · rename_i ec
      obtain ⟨dv, e1, e2⟩ := Option.bind_eq_some_iff.mp e
      obtain ⟨ds', e3, e4⟩ := Option.map_eq_some_iff.mp e2
      subst e4
      obtain ⟨C', hcls, hm', hfs⟩ := id xa
      rw [ec, hm] at hm'
      cases hm'
      rcases hfs with ⟨z, _⟩ | ⟨dd, l, hdd, hH, rf⟩
      · rw [z] at e1
        cases e1
      · obtain ⟨v, hl, rv⟩ := rf.lookup e1
        exact ⟨.ref a, hs, rfl, hcls, dd, l, v, hdd, hH, hl, ⟨g, env, st, ex, ds', R, xa, hs, e3, fun vs rvs => q (v :: vs) (.cons rv rvs)⟩⟩
    · cases e
def xSet (j : Nat) (fs : Exn → Option (List D)) : Exn → SD := fun e env st => match fs e with
  | some ds => if ds.length ≤ 1000 then .nx (env.set j (some (.fro (.lst ds)))) st else .bad
  | none => .bad
theorem qsu_set {j : Nat} {x : Str} {p1 p2 pos : Pos} {fs : Exn → Option (List D)} (hN : X.N.Nodup) (hj : X.N[j]? = some x) (hx : X.env.scope.names.lookup x = some .local) (h : PA (X.suite a ((a, oe) :: pn)) es (rXA X.K X.mg B i fs a cls d))
    (hs : swapsWith (.List es p2) (some (.Name x p1)) pos.line X.env = pure false := by rfl) :
    PSs (X.suite a ((a, oe) :: pn)) [.Assign [.Name x p1] (.List es p2) pos] (rSu X.K X.mg B (some i) (xSet j fs) a cls d) := by
  refine (pss_one (ps_set (X := X.suite a ((a, oe) :: pn)) hN hj (.inl hx) (pe_lst h) hs (.inr hx))).imp fun E σ H ⟨g, env, st, ex, R, xa, hsl, w⟩ => ?_
  unfold xSet at w
  cases q : fs ex with
  | none => rw [q] at w; exact w.elim
  | some ds =>
    rw [q] at w
    have w2 : WPs X.K X.mg B W0 g E (if ds.length ≤ 1000 then SR.nx (env.set j (some (.fro (.lst ds)))) st else .bad) := w
    by_cases hl : ds.length ≤ 1000
    · rw [if_pos hl] at w2
      refine ⟨g, env, st, ex, ds, R, xa, hsl i rfl, q, fun vs rv => ⟨by rw [rv.length, sizeLine_eq]; omega, fun p hp => ?_⟩⟩
      obtain ⟨x2, G2⟩ := Ext.alloc (o := .lst vs) R.good hp
      have R2 := R.step x2 G2
      exact w2 _ _ _ (GExt.of x2) (R2.setFro (.lst upd_same ((rv.ext x2))))
    · rw [if_neg hl] at w2
      exact w2.elim
end
end
end PL
set_option Elab.async false
set_option linter.all false
set_option maxRecDepth 100000
set_option maxHeartbeats 4000000
namespace PL
open PySem PySem.Spec PyProof.Rows L2
section
variable {X : Cx} {B : Bs} {W : WX}
variable {elt tg iter tg1 iter1 : Expr} {ifs ifs1 : List Expr} {scope : Scope} {own : List (Str × Nat)} {vs1 : List Nat} {pos spos : Pos} {it it1 : Env → M (List D)} {t t1 : TG} {bind bind1 : Bnd} {tst tst1 : Env → M Bool} {el : Env → M D}
end
end PL
set_option Elab.async false
set_option linter.all false
set_option maxRecDepth 100000
set_option maxHeartbeats 4000000
namespace PL
open PySem PySem.Spec PyProof.Rows L2
def tyOf : D → Option String
  | .non => some "NoneType"
  | .bl _ => some "bool"
  | .int _ => some "int"
  | .str _ => some "str"
  | .tup _ => some "tuple"
  | .lst _ => some "list"
  | .fix _ => some "list"
  | .dct _ => some "dict"
  | _ => none
def clOf (d : D) (st : Sta) : Option Str := match d with
  | .obj c _ => some c
  | .cell k => (match st[k]? with
    | some (.obj c _) => some c
    | _ => none)
  | _ => none
def isiT (T : String) (cs : List Str) (d : D) (st : Sta) : Option D := match tyOf d with
  | some t => (kitB t T).map .bl
  | none => (match clOf d st with
    | some c => if cs.contains c then some (.bl false) else none
    | none => none)
def isiC (C : Str) (cs : List Str) (d : D) (st : Sta) : Option D := match tyOf d with
  | some _ => some (.bl false)
  | none => (match clOf d st with
    | some c => if cs.contains c then some (.bl (c == C)) else none
    | none => none)
def TyP (K : PySem.W.Frag) (H : Hp) (x : V) (t : Value) : Prop := TyX K H x t ∨ ∃ a o l, x = .ref a ∧ H a = some (DO a o l) ∧ t = .type "dict"
theorem kit_ofP {X : Cx} {pins : List (Addr × Obj)} {σ : L2.St} {H : Hp} {s : Shared} {x : V} {u t : Value} (I : Inv X pins σ H s) (rx : RelV x u) (ty : TyP X.K H x t) : ∃ P : Heap → Prop, PySem.W.KitX X.K u t P ∧ P s.heap ∧ u ≠ .builtin "__main__.__loader__#opaque" := by
  rcases ty with ty | ⟨a, o, l, rfl, ea, rfl⟩
  · exact kit_of I rx ty
  · cases (show u = Value.ref a from rx)
    obtain ⟨⟨h1, h2, _⟩, _⟩ := (show ObjOk X.prog X.w H s.heap a (DO a o l) from I.hok a _ ea)
    exact ⟨_, PySem.W.kitx_dict, ⟨o, h1, h2.1⟩, fun z => nomatch z⟩
def rIsiP (K : PySem.W.Frag) : List V → Hp → VK → Prop := fun xs H Q => ∃ (x c : V) (t u : Value) (b : Bool), xs = [x, c] ∧ ClsV c u ∧ TyP K H x t ∧ PySem.W.kitOne K t u = some b ∧ Q (.bl b) H
theorem call_isiP {X : Cx} : CallR X (.builtin "isinstance") (rIsiP X.K) := by
  intro pins s σ H xs us Q I r h
  obtain ⟨x, c, t, u, b, rfl, k, ty, e, q⟩ := h
  obtain ⟨u1, u2, rfl, r1, r2⟩ := vals2 r
  have e2 := k.eq r2
  subst e2
  obtain ⟨P, Z, p, hx⟩ := kit_ofP I r1 ty
  exact PySem.W.kia_one Z I.kIn p e hx fun tk => ⟨.bl b, H, I.tok tk, rfl, q⟩
section
variable {K : PySem.W.Frag} {mg : Str → Option Value} {F : Hp} {A : List Addr} {st : Sta} {H : Hp} {v : V} {d : D}
theorem tyOf_rep {t : String} (G : Good K mg F A st H) (r : Rep K mg F A v d) (h : tyOf d = some t) : TyP K H v (.type t) := by
  suffices (∃ l, d = .dct l) ∨ TyX K H v (.type t) from by
    rcases this with ⟨l, rfl⟩ | z
    · cases r with
      | @dct a o2 l2 _ e _ =>
        cases h
        exact .inr ⟨a, o2, l2, rfl, G.sub _ _ e, rfl⟩
    · exact .inl z
  by_cases hd : ∃ l, d = .dct l
  · exact .inl hd
  right
  cases r with
  | non => cases h; exact .base .non
  | bl b => cases h; exact .base (.bl b)
  | int i => cases h; exact .base (.int i)
  | str x => cases h; exact .base (.str x)
  | tup s _ =>
    cases h
    rcases SqT.mono s G.sub with (e | ⟨o, e⟩) | ⟨o, its, n, e, h1, h2, h3⟩
    · exact .base (.tup e)
    · exact .fTuple e
    · exact .kTuple e (by first | assumption | (simp_all))
  | lst e _ => cases h; exact .base (.lst (G.sub _ _ e))
  | fix s _ =>
    cases h
    rcases SqL.mono s G.sub with (e | ⟨o, e⟩) | ⟨o, its, n, e, h1, h2, h3⟩
    · exact .base (.lst e)
    · exact .base (.frz e)
    · exact .kList e (by first | assumption | (simp_all))
  | dct e _ => exact absurd ⟨_, rfl⟩ hd
  | obj _ _ _ => cases h
  | cell _ => cases h
  | fn _ => cases h
theorem tyOf_in {t : String} (h : tyOf d = some t) : t ∈ tyNames := by
  cases d <;> cases h <;> decide
theorem clOf_rep {c : Str} {cs : List Str} (I : IsK K mg cs) (G : Good K mg F A st H) (r : Rep K mg F A v d) (h : clOf d st = some c) (hc : c ∈ cs) : ∃ C, mg c = some (.ref C) ∧ TyX K H v (.ref C) := by
  cases r with
  | obj g e _ =>
    cases h
    obtain ⟨h1, h2, h3⟩ := I.cls _ hc _ g
    exact ⟨_, g, .base (.ins (G.sub _ _ e) h1 h2 I.hn I.htk h3)⟩
  | @cell a k e =>
    unfold clOf at h
    cases q : st[k]? with
    | none => simp only [q] at h; cases h
    | some z =>
      simp only [q] at h
      cases z with
      | obj c' fs =>
        cases h
        obtain ⟨C, dx, l, g, eh, _⟩ := G.con k a _ e q
        obtain ⟨h1, h2, h3⟩ := I.cls _ hc _ g
        exact ⟨_, g, .base (.ins eh h1 h2 I.hn I.htk h3)⟩
      | lst l => cases h
      | dct l => cases h
  | _ => cases h
end
section
variable {X : Cx} {B : Bs} {W : WX} {e : Expr} {f : Env → M D} {p p2 pos : Pos} {cs : List Str}
theorem isi_imp {y : V} {u : Value} {ty : TE} {o : D → Sta → Option D} (hy : ∀ σ H Q, Q y H → ty σ H Q) (cv : ClsV y u)
    (ho : ∀ F A H st v d z, Good X.K X.mg F A st H → Rep X.K X.mg F A v d → o d st = some z → ∃ t b, TyP X.K H v t ∧ PySem.W.kitOne X.K t u = some b ∧ z = .bl b) (σ : L2.St) (H : Hp) (Q : VK) (z : rE X.K X.mg B W (op1 o f) σ H Q) :
    tCB (rIsiP X.K) (tCons (rE X.K X.mg B W f) (tCons ty tNil)) σ H Q := by
  obtain ⟨g, env, st, R, w⟩ := z
  refine seqE R w fun d st1 F1 A1 H1 v R1 x1 r1 w1 => ?_
  obtain ⟨zz, ez, w2⟩ := WPc.rd w1
  obtain ⟨t, b, h1, h2, rfl⟩ := ho _ _ _ _ _ _ _ R1.good r1 ez
  exact hy σ H1 _ ⟨v, y, t, u, b, rfl, cv, h1, h2, w2 _ _ _ Ext.refl R1.good _ (.bl b)⟩
theorem pp_isiT {T : String} {x : Str} (I : IsK X.K X.mg cs) (hT : T ∈ ["tuple", "int", "bool"]) (hg : Gl X "isinstance") (hm : X.mg "isinstance" = none) (hgx : Gl X x) (hmx : X.mg x = none) (hv : bootBuiltins x = some (.type T)) (he : PE X e (rE X.K X.mg B W f)) (hb : bootBuiltins "isinstance" = some (.builtin "isinstance") := by rfl)
    (hn : x ≠ "__name__" := by decide) (hd : (x == ("__debug__" : Str)) = false := by decide)
    (hs1 : starEach [e, .Name x p2] X.env = (false, eval e X.env) :: starEach [.Name x p2] X.env := by rfl) (hs2 : starEach [.Name x p2] X.env = (false, eval (.Name x p2) X.env) :: starEach [] X.env := by rfl) (hpl : (backTo pos (starEach [.Name x p2] X.env)).any (·.1) = false := by rfl) :
    PE X (.Call (.Name "isinstance" p) [e, .Name x p2] [] pos) (rE X.K X.mg B W (op1 (isiT T cs) f)) := by
  have hx : PE X (.Name x p2) (tC (.ty T)) := ⟨fun pins s σ H Q J h => ld_blt J hgx hmx hv ⟨.ty T, H, J, rfl, h⟩ hn hd⟩
  refine (pe_callB call_isiP hg hm hb (pa_cons he (pa_cons hx pa_nil hs2) hs1) (he := hs1) (hpl := hpl)).imp fun σ H Q z => isi_imp (fun σ H Q q => q) (.ty T) (fun F A H st v d z G r ez => ?_) σ H Q z
  unfold isiT at ez
  cases q : tyOf d with
  | some t =>
    rw [q] at ez
    obtain ⟨b, hb', rfl⟩ := Option.map_eq_some_iff.mp ez
    exact ⟨_, b, tyOf_rep G r q, kit_ty hb', rfl⟩
  | none =>
    rw [q] at ez
    cases q2 : clOf d st with
    | none => simp only [q2] at ez; cases ez
    | some c =>
      simp only [q2] at ez
      split at ez
      · rename_i hc
        cases ez
        obtain ⟨C, g, ht⟩ := clOf_rep I G r q2 (List.contains_iff_mem.mp hc)
        exact ⟨_, false, .inl ht, I.ty _ (List.contains_iff_mem.mp hc) _ g T hT, rfl⟩
      · cases ez
theorem pp_isiC {c : Str} {C : Addr} (I : IsK X.K X.mg cs) (hcs : c ∈ cs) (hg : Gl X "isinstance") (hm : X.mg "isinstance" = none) (hgx : Gl X c) (hmx : X.mg c = some (.ref C)) (he : PE X e (rE X.K X.mg B W f)) (hb : bootBuiltins "isinstance" = some (.builtin "isinstance") := by rfl)
    (hd : (c == ("__debug__" : Str)) = false := by decide)
    (hs1 : starEach [e, .Name c p2] X.env = (false, eval e X.env) :: starEach [.Name c p2] X.env := by rfl) (hs2 : starEach [.Name c p2] X.env = (false, eval (.Name c p2) X.env) :: starEach [] X.env := by rfl) (hpl : (backTo pos (starEach [.Name c p2] X.env)).any (·.1) = false := by rfl) :
    PE X (.Call (.Name "isinstance" p) [e, .Name c p2] [] pos) (rE X.K X.mg B W (op1 (isiC c cs) f)) := by
  have hx : PE X (.Name c p2) (tC (.ref C)) := ⟨fun pins s σ H Q J h => ld_glob J hgx hmx ⟨.ref C, H, J, rfl, h⟩ hd⟩
  refine (pe_callB call_isiP hg hm hb (pa_cons he (pa_cons hx pa_nil hs2) hs1) (he := hs1) (hpl := hpl)).imp fun σ H Q z => isi_imp (fun σ H Q q => q) (.own C) (fun F A H st v d z G r ez => ?_) σ H Q z
  unfold isiC at ez
  cases q : tyOf d with
  | some t =>
    rw [q] at ez
    cases ez
    exact ⟨_, false, tyOf_rep G r q, I.yt c hcs C hmx t (tyOf_in q), rfl⟩
  | none =>
    rw [q] at ez
    cases q2 : clOf d st with
    | none => simp only [q2] at ez; cases ez
    | some c' =>
      simp only [q2] at ez
      split at ez
      · rename_i hc
        cases ez
        obtain ⟨C', g, ht⟩ := clOf_rep I G r q2 (List.contains_iff_mem.mp hc)
        exact ⟨_, _, .inl ht, I.cc _ (List.contains_iff_mem.mp hc) _ g _ hcs _ hmx, rfl⟩
      · cases ez
end
end PL
set_option Elab.async false
set_option linter.all false
set_option maxRecDepth 100000
set_option maxHeartbeats 4000000
namespace PL
open PySem PySem.Spec PyProof.Rows L2
def ba {a b : Bool} (h : (a && b) = true) : a = true ∧ b = true := Bool.and_eq_true_iff.mp h
theorem eqO_ok {a b : Option (Option Value)} (h : eqO a b = true) : a = b := of_decide_eq_true h
def fdOf (K : Fr) (a : Addr) : FuncData := match K.lookup a with
  | some ⟨_, _, .func fd, _⟩ => fd
  | _ => default
abbrev FnD' (K : Fr) (d : DefP) : Prop := FunD K d.name d.qual d.params d.body d.scope [] [] (d.at_ K) (fdOf K (d.at_ K))
theorem DefP.funD {K : Fr} {d : DefP} (e : fnP K (d.at_ K) = d.val) (c : d.ok K = true) : FnD' K d := by
  obtain ⟨kp, c2⟩ := ba c
  unfold fnP at e
  unfold FnD' fdOf
  cases q : K.lookup (d.at_ K) with
  | none =>
    rw [q] at c2
    cases c2
  | some o =>
    obtain ⟨oc, od, dt, osl⟩ := o
    rw [q] at c2 e
    cases dt with
    | func fd =>
      obtain ⟨n1, n2, n3, n4, n5, n6, n7, n8, n9, n10, n11, n12, n13, n14, n15⟩ := fd
      have e2 : (some (n1, n2, n3, n4, n5, n6, n7, n15) : He.FnW) = some (d.name, d.qual, d.params, .stmts d.body, d.scope, mainGlobals, [], builtinsNs) := e
      simp only [Option.some.injEq, Prod.mk.injEq] at e2
      obtain ⟨h1, h2, h3, h4, h5, h6, h7, h8⟩ := e2
      subst h1 h2 h3 h4 h5 h6 h7 h8
      have c3 : (PySem.W.codeIn K n13 d.qual && (He.dflB K n8 [] && He.kwdB K n9 [])) = true := c2
      obtain ⟨k1, k2⟩ := ba c3
      obtain ⟨k3, k4⟩ := ba k2
      exact ⟨⟨oc, od, n8, n9, n10, n11, n12, n13, n14, osl, rfl, q, k1, He.dflB_ok k3, He.kwdB_ok k4⟩, kp⟩
    | _ => cases c2
section
variable {fa : List Fa} {fn : List DefP} {K : Fr} {mg : Str → Option Value}
theorem Txt.fact (S : Txt fa fn K mg) (i : Nat) {f : Fa} (h : fa[i]? = some f := by rfl) : f K = true := by
  have c1 := (ba (show ((fa.all fun f => f K) && fn.all fun d => d.ok K) = true from congrArg (fun z : AlP => z.1) S.c)).1
  exact List.all_eq_true.mp c1 f (List.mem_of_getElem? h)
theorem Txt.def_ (S : Txt fa fn K mg) (i : Nat) {d : DefP} (h : fn[i]? = some d := by rfl) : FnD' K d := by
  have c2 := (ba (show ((fa.all fun f => f K) && fn.all fun d => d.ok K) = true from congrArg (fun z : AlP => z.1) S.c)).2
  have e : fn.map (fun d => fnP K (d.at_ K)) = fn.map DefP.val := congrArg (fun z : AlP => z.2) S.c
  have e2 : (fn.map fun d => fnP K (d.at_ K))[i]? = (fn.map DefP.val)[i]? := by rw [e]
  rw [List.getElem?_map, List.getElem?_map, h] at e2
  exact DefP.funD (Option.some.inj e2) (List.all_eq_true.mp c2 d (List.mem_of_getElem? h))
theorem glo_ok {xs : List Str} (S : Txt fa fn K mg) (c : fGlo xs K = true) (x : Str) (h : x ∈ xs := by decide) : mg x = some (.ref (ga x K)) := by
  obtain ⟨hp, X, G⟩ := S.at_
  exact PySem.W.mg_of X G (eqO_ok (List.all_eq_true.mp c x h))
theorem free_ok {xs : List Str} (S : Txt fa fn K mg) (c : fFree xs K = true) (x : Str) (h : x ∈ xs := by decide) : mg x = none := by
  obtain ⟨hp, X, G⟩ := S.at_
  exact PySem.W.mg_none_of X G (eqO_ok (List.all_eq_true.mp c x h))
theorem int_ok {x : Str} {i : Int} (S : Txt fa fn K mg) (c : fInt x i K = true) : ∃ t, mg x = some (.int i t) := by
  obtain ⟨hp, X, G⟩ := S.at_
  exact He.int_ok X G c
theorem cls_cls {C : Str} {fs : List Str} (c : fCls C fs K = true) : Cls K (ga C K) := He.cls_ok (ba c).1
theorem cls_mk {C : Str} {fs : List Str} (c : fCls C fs K = true) : Mk K (ga C K) (ma C "__init__" K) := He.mkr_ok (ba (ba c).2).1
theorem cls_no {C : Str} {fs : List Str} (c : fCls C fs K = true) (f : Str) (h : f ∈ fs := by decide) : NoAttr K (ga C K) f := eqO_ok (List.all_eq_true.mp (ba (ba c).2).2 f h)
theorem prop_ok {C f : Str} (c : fProp C f K = true) : PropOf K (ga C K) f (ma C f K) (pg C f K) := by
  obtain ⟨c1, c⟩ := ba c
  obtain ⟨c2, c⟩ := ba c
  obtain ⟨c3, c4⟩ := ba c
  refine ⟨eqO_ok c1, eqO_ok c2, of_decide_eq_true c3, ?_⟩
  unfold pg
  split at c4
  · rename_i g r q
    rw [q]
    exact ⟨r, rfl⟩
  · cases c4
theorem is_ok {cs : List Str} (S : Txt fa fn K mg) (c : fIs cs K = true) : IsK K mg cs := by
  obtain ⟨hp, X, G⟩ := S.at_
  obtain ⟨c1, c⟩ := ba c
  obtain ⟨c2, c⟩ := ba c
  have mgC : ∀ {x : Str} {C : Addr}, x ∈ cs → mg x = some (.ref C) → C = ga x K := fun {x C} hx hm => by
    have h := List.all_eq_true.mp c x hx
    have := PySem.W.mg_of X G (eqO_ok (ba h).1)
    rw [hm] at this
    cases this
    rfl
  refine ⟨eqO_ok c1, of_decide_eq_true c2, fun x hx C hm => ?_, fun x hx C hm T hT => ?_, fun x hx C hm T hT => ?_, fun x hx C hm y hy C' hm' => ?_⟩
  all_goals
    have h := List.all_eq_true.mp c x hx
    have eC := mgC hx hm
    subst eC
    obtain ⟨a1, h⟩ := ba h
    obtain ⟨a2, h⟩ := ba h
    obtain ⟨a3, h⟩ := ba h
    obtain ⟨a4, h⟩ := ba h
    obtain ⟨a5, h⟩ := ba h
    obtain ⟨a6, a7⟩ := ba h
  · exact ⟨He.cls_ok a2, eqO_ok a3, of_decide_eq_true a4⟩
  · exact of_decide_eq_true (List.all_eq_true.mp a5 T hT)
  · exact of_decide_eq_true (List.all_eq_true.mp a6 T hT)
  · have eC := mgC hy hm'
    subst eC
    exact of_decide_eq_true (List.all_eq_true.mp a7 y hy)
theorem oexB_ok {C : Addr} (c : oexB K C = true) : OexC K C := by
  obtain ⟨c1, c⟩ := ba c
  obtain ⟨c2, c⟩ := ba c
  obtain ⟨c3, c⟩ := ba c
  obtain ⟨c4, c5⟩ := ba c
  refine ⟨?_, eqO_ok c2, of_decide_eq_true c3, of_decide_eq_true c4, c5⟩
  split at c1
  · rename_i dd cd sl ho
    split at c1
    · rename_i C' bm k0 k1 k2 k3 n k5 hm hs
      simp only [Bool.and_eq_true, beq_iff_eq, Bool.not_eq_true'] at c1
      obtain ⟨e1, e2, e3, e4, e5⟩ := c1
      subst e1 e2
      obtain ⟨sl⟩ := sl
      simp only at hs
      subst hs
      obtain ⟨nm, bs, mro, ns, qn, hd, sn, sb, ab, col, hdel⟩ := cd
      simp only at hm e3 e4
      subst hm e3 e4
      exact ⟨nm, qn, ns, bs, bm, sn, sb, ab, col, dd, k0, k1, k2, k3, k5, ho, e5⟩
    · cases c1
  · cases c1
theorem exc_oex {C : Str} {fs : List Str} (c : fExc C fs K = true) : OexC K (ga C K) := oexB_ok (ba c).1
theorem exc_in {C : Str} {fs : List Str} (c : fExc C fs K = true) : PySem.W.findIn K (.ref (ga C K)) "__init__" = some (some (.ref (ma C "__init__" K))) := eqO_ok (ba (ba c).2).1
theorem exc_ty {C : Str} {fs : List Str} (c : fExc C fs K = true) : PySem.W.typeIn K (.ref (ma C "__init__" K)) = some (.type "function") := of_decide_eq_true (ba (ba (ba c).2).2).1
theorem exc_no {C : Str} {fs : List Str} (c : fExc C fs K = true) (f : Str) (h : f ∈ fs := by decide) : PySem.W.findIn K (.ref (ga C K)) f = some none := eqO_ok (List.all_eq_true.mp (ba (ba (ba (ba c).2).2).2).1 f h)
theorem exc_xf {C : Str} {fs : List Str} (c : fExc C fs K = true) : XfC K (ga C K) := xfB_ok (ba (ba (ba (ba c).2).2).2).2
theorem exm_ok {top : Str} {errs cs : List Str} (S : Txt fa fn K mg) (c : fExm top errs cs K = true) (x : Str) (h : x ∈ cs := by decide) : ExM K mg top errs x (.ref (ga x K)) := by
  intro c' hc' C' hm
  obtain ⟨hp, X, G⟩ := S.at_
  obtain ⟨a1, a2⟩ := ba (List.all_eq_true.mp c c' hc')
  have := PySem.W.mg_of X G (eqO_ok a1)
  rw [hm] at this
  cases this
  exact of_decide_eq_true (List.all_eq_true.mp a2 x h)
theorem top_ok {C : Str} (c : fTop C K = true) : OwnI K (ga C K) (.type "type") := by
  obtain ⟨c1, c⟩ := ba c
  obtain ⟨c2, c3⟩ := ba c
  refine ⟨eqO_ok c1, c2, ?_⟩
  split at c3
  · rename_i n q
    rw [q, of_decide_eq_true c3]
  · cases c3
end
def blkB (N : List Str) (sc scope : Scope) (own : List (Str × Nat)) : Bool := decide (scope.kind = .function) && ((scope.names.all fun y => decide (scope.names.lookup y.1 = some y.2)) && ((own.all fun p => decide (N[p.2]? = some p.1)) &&
  ((scope.names.all fun y => if y.2 = .free then decide (sc.names.lookup y.1 = some .cell ∨ sc.names.lookup y.1 = some .free) else true) && (scope.names.all fun y => if y.2 = .local ∨ y.2 = .cell then decide (y.1 ∈ own.map (·.1) ∨ y.1 ∉ N) else true))))
theorem blkB_ok {N : List Str} {sc scope : Scope} {own : List (Str × Nat)} (c : blkB N sc scope own = true) : BlkOk N sc scope own := by
  obtain ⟨c1, c⟩ := ba c
  obtain ⟨c2, c⟩ := ba c
  obtain ⟨c3, c⟩ := ba c
  obtain ⟨c4, c5⟩ := ba c
  refine ⟨of_decide_eq_true c1, fun y hy => of_decide_eq_true (List.all_eq_true.mp c2 y hy), fun p hp => of_decide_eq_true (List.all_eq_true.mp c3 p hp), fun y hy e => ?_, fun y hy e => ?_⟩
  · have h := List.all_eq_true.mp c4 y hy
    rw [if_pos e] at h
    exact of_decide_eq_true h
  · have h := List.all_eq_true.mp c5 y hy
    rw [if_pos e] at h
    exact of_decide_eq_true h
end PL
set_option Elab.async false
set_option linter.all false
set_option maxRecDepth 100000
set_option maxHeartbeats 4000000
namespace PL
open PySem PySem.Spec PyProof.Rows L2
section
variable {X : Cx} {B : Bs} {W : WX} {pos : Pos}
end
def CS : List Str := ["Table", "Ledger", "Unread", "Board"]
def ERRS : List Str := ["BadGroup", "BadGroups", "BadTable", "BadWay", "BadWhole", "BadNumber", "TooMany", "NoTries", "BadWeights", "BadEntries", "BadLedger", "BadMarks", "BadUnread", "Alone", "Full", "InvalidText"]
def mProp (c : Str) (F : List D → M D) (fo : Env → M D) : Env → M D := fun env => fo env >>= fun d => chk (isObj c) d >>= fun d => noX (F [d])
section
variable {fa : List Fa} {fn : List DefP} {K : Fr} {mg : Str → Option Value}
theorem is_all {cs ab : List Str} (S : Txt fa fn K mg) (c : fIs cs K = true) (z : fFree ab K = true) (h : ∀ x ∈ CS, x ∈ cs ∨ x ∈ ab) : IsK K mg CS := by
  have I := is_ok S c
  have no : ∀ {x : Str} {C : Addr}, x ∈ CS → mg x = some (.ref C) → x ∈ cs := fun {x C} hx hm => (h x hx).elim id fun q => by
    have := free_ok S z x q
    rw [hm] at this
    cases this
  exact ⟨I.hn, I.htk, fun x hx C hm => I.cls x (no hx hm) C hm, fun x hx C hm => I.ty x (no hx hm) C hm, fun x hx C hm => I.yt x (no hx hm) C hm, fun x hx C hm y hy C' hm' => I.cc x (no hx hm) C hm y (no hy hm') C' hm'⟩
theorem exm_all {errs cs ab : List Str} (S : Txt fa fn K mg) (c : fExm "AboutError" errs cs K = true) (z : fFree ab K = true) (h : ∀ x ∈ ERRS, x ∈ errs ∨ x ∈ ab) (x : Str) (hx : x ∈ cs := by decide) : ExM K mg "AboutError" ERRS x (.ref (ga x K)) := by
  intro c' hc' C' hm
  refine exm_ok S c x hx c' ?_ C' hm
  exact (h c' hc').elim id fun q => by
    have := free_ok S z c' q
    rw [hm] at this
    cases this
end
theorem bt_len : bootBuiltins "len" = some (.builtin "len") := by decide +kernel
theorem bt_sum : bootBuiltins "sum" = some (.builtin "sum") := by decide +kernel
theorem bt_all : bootBuiltins "all" = some (.builtin "all") := by decide +kernel
theorem bt_min : bootBuiltins "min" = some (.builtin "min") := by decide +kernel
theorem bt_sorted : bootBuiltins "sorted" = some (.builtin "sorted") := by decide +kernel
theorem bt_tuple : bootBuiltins "tuple" = some (.type "tuple") := by decide +kernel
theorem bt_int : bootBuiltins "int" = some (.type "int") := by decide +kernel
theorem bt_bool : bootBuiltins "bool" = some (.type "bool") := by decide +kernel
end PL
set_option Elab.async false
set_option linter.all false
set_option maxRecDepth 100000
set_option maxHeartbeats 4000000
namespace PL
open PySem PySem.Spec PyProof.Rows L2
def spLaw (K : Fr) : Sp := fun vs H Q _ => ∃ (a : Addr) (ns : List Int), vs = [.ref a] ∧ ns.length ≤ 63 ∧ SqL K H a (ns.map V.int) ∧ ∀ H', Q (.bl true) H'
theorem reps_ints {K : Fr} {mg : Str → Option Value} {F : Hp} {A : List Addr} : ∀ ns : List Int, Reps K mg F A (ns.map V.int) (ns.map D.int)
  | [] => .nil
  | n :: ns => .cons (.int n) (reps_ints ns)
theorem law_fn {P : Program} {w : World} {K : Fr} {mg : Str → Option Value} {base : Heap} {k : Nat} {f : Addr} {fd : FuncData} {ps : List Str} {m : List D → M D} (F : FnOk P w K mg base (L2.CX P w) k f fd ps (spF K mg 1 m)) (hp : ps.length = 1)
    (law : ∀ ns : List Int, ns.length ≤ 63 → ∃ st, m [.fix (ns.map .int)] [] = .ok (.bl true) st) : FnOk P w K mg base CX0 k f fd ps (spLaw K) := by
  refine ⟨fun vs H Q E h => ?_, fun A outer s H args us vs Q E hr he hb hv h => ?_⟩
  · obtain ⟨a, ns, rfl, _⟩ := h
    rw [hp]
    rfl
  · obtain ⟨a, ns, rfl, hl, hS, q⟩ := h
    obtain ⟨st, e⟩ := law ns hl
    have hs : spF K mg 1 m [.ref a] H (fun v H' => Q v H') (fun _ _ _ => False) := by
      refine ⟨H, [], [], [.fix (ns.map .int)], ⟨fun _ _ z => z, rfl, List.nodup_nil, fun _ z => (by cases z), fun k a c z => (by cases z)⟩, .cons (.fix hS (reps_ints ns)) .nil, rfl, ?_⟩
      rw [e]
      intro F' A' H' v _ _ r
      cases r
      exact q H'
    refine codeAny_mono (F.run A outer s H args us [.ref a] _ _ hr he hb hv hs) fun r s' z => ?_
    cases r with
    | error er =>
      obtain ⟨_, _, _, _, _, _, _, _, _, _, _, _, y⟩ := z
      exact y.elim
    | ok fl =>
      cases fl with
      | ret u => exact z
      | next => exact z
      | brk => exact z
      | cont => exact z
theorem law_end {fa : List Fa} {fn : List DefP} {d : DefP} {P : Program} {w : World} {K : Fr} {h : Heap} {mg : Str → Option Value} {f : Addr} {k i : Nat} {m : List D → M D} {x : Str} (X : K.In h) (G : h.Ns mainGlobals mg) (c : SaysP fa fn K) (hfa : mg ("law" : Str) = some (.ref f))
    (hg : Txt fa fn K mg → mg ("law" : Str) = some (.ref (ga "law" K))) (hd : Txt fa fn K mg → ∀ (s : Shared) (us : List Value), us.length = ([x] : List Str).length → BindsTo s (fdOf K (ga "law" K)) ⟨us, []⟩ (([x] : List Str).zip us))
    (ok : Txt fa fn K mg → ∀ base, FnOk P w K mg base (L2.CX P w) k (ga "law" K) (fdOf K (ga "law" K)) [x] (spF K mg 1 m)) (law : ∀ ns : List Int, ns.length ≤ 63 → ∃ st, m [.fix (ns.map .int)] [] = .ok (.bl true) st) :
    ∃ (K : Fr) (fd : FuncData) (sp : Sp), K.In h ∧ (∀ (s : Shared) (u : Value), BindsTo s fd ⟨[u], []⟩ [(x, u)]) ∧
      (∀ (H : Hp) (a : Addr) (ns : List Int), ns.length ≤ 63 → Only H → SqL K H a (ns.map V.int) → sp [.ref a] H (fun v _ => v = .bl true) fun _ _ _ => False) ∧
      ∀ base : Heap, K.In base → base.Ns mainGlobals mg → FnOk P w K mg base CX0 k f fd [x] sp := by
  have S : Txt fa fn K mg := ⟨⟨h, X, G⟩, c⟩
  have e := hfa.symm.trans (hg S)
  cases e
  exact ⟨K, _, spLaw K, X, fun s u => hd S s [u] rfl, fun H a ns hl _ hS => ⟨a, ns, rfl, hl, hS, fun _ => rfl⟩, fun base _ _ => law_fn (ok S base) rfl law⟩
def sCell (i : Nat) (fs : Env → M (List D)) : SD := sE fs fun ds env st => .nx (env.set i (some (.fro (.cell st.length)))) (st ++ [.lst ds])
section
variable {X : Cx} {B : Bs} {W : WX} {e : Expr} {pos : Pos}
theorem qs_cell {i : Nat} {x : Str} {pos' : Pos} {fs : Env → M (List D)} (hN : X.N.Nodup) (hi : X.N[i]? = some x) (hx : Loc X.env.scope x) (he : PE X e (rL X.K X.mg B W fs)) (hs : swapsWith e (some (.Name x pos')) pos.line X.env = pure false := by rfl) (hf : X.fn x = true ∨ X.env.scope.names.lookup x = some .local := by first | exact .inl rfl | exact .inr rfl | assumption) :
    PS X (.Assign [.Name x pos'] e pos) (rS X.K X.mg B W (sCell i fs)) := by
  refine (ps_set hN hi hx he hs hf).imp fun E σ H ⟨g, env, st, R, w⟩ => ⟨g, env, st, R, ?_⟩
  refine Res.wp_mono (sE_wp w R) (fun ds st1 z F1 A1 H1 x G p vs hp H'' e r => ?_) fun _ _ z => z
  rw [e]
  have R1 := R.step x G
  obtain ⟨x2, G2⟩ := Ext.cellNew (o := .lst vs) (c := .lst ds) R1.good hp ⟨vs, upd_same, r.mono (fun _ _ z => z) fun k a z => by rw [List.getElem?_append_left (List.getElem?_eq_some_iff.mp z).1]; exact z⟩
  have R2 := R1.step x2 G2
  have hc : Rep X.K X.mg F1 (A1 ++ [p]) (.ref p) (.cell st1.length) := .cell (by
    have hl : A1.length = st1.length := G.len
    rw [← hl]
    simp)
  exact z ⟨F1, A1 ++ [p], g.ow⟩ _ _ (GExt.of (x.trans x2)) (R2.setFro (i := i) hc)
end
end PL
set_option Elab.async false
set_option linter.all false
set_option maxRecDepth 100000
set_option maxHeartbeats 4000000
namespace PL
open PySem PySem.Spec PyProof.Rows L2
section
variable {X : Cx} {B : Bs} {W : WX} {e : Expr} {s : Stmt} {b : List Stmt}
end
section
variable {fa : List Fa} {fn : List DefP} {K : Fr} {mg : Str → Option Value}
end
section
variable {X : Cx} {B : Bs} {W : WX} {e a fe : Expr} {es : List Expr} {f : Env → M D} {fs : Env → M (List D)} {p p2 p3 pos : Pos} {k : Nat}
theorem FnT.get : ∀ {t : List (Str × (List D → M D))} {x : Str} {F : List D → M D}, FnT X k t → t.lookup x = some F → FnE X k x F
  | [], _, _, _, h => by cases h
  | (y, G) :: t, x, F, .cons h0 r, h => by
    rw [List.lookup_cons] at h
    cases q : (x == y) with
    | true =>
      rw [q] at h
      injection h with h
      subst h
      rw [eq_of_beq q]
      exact h0
    | false =>
      rw [q] at h
      exact FnT.get r h
end
end PL
set_option Elab.async false
set_option linter.all false
set_option maxRecDepth 100000
set_option maxHeartbeats 4000000
namespace PL
open PySem PySem.Spec PyProof.Rows L2
section
variable {X : Cx}
end
section
variable {X : Cx} {B : Bs} {W : WX} {e a : Expr} {f g : Env → M D} {apos cpos pos : Pos}
def dict0 : Obj := { cls := .type "dict", data := .dict #[] }
theorem do_empty {P : Program} {w : World} {H : Hp} (h : Heap) (hb : sysModules < h.objs.size) : ObjOk P w H (h.push dict0) h.objs.size (DO h.objs.size dict0 []) :=
  ⟨⟨Heap.get?_push_size _ rfl, ⟨rfl, rfl, rfl⟩, ⟨#[], 0, rfl, .nil⟩, Nat.zero_le _, beq_eq_false_iff_ne.mpr (Ne.symm (Nat.ne_of_lt hb)), List.nodup_nil⟩, ⟨_, Heap.get?_push_size _ rfl⟩, fun h1 h2 ⟨e, r⟩ k => ⟨k _ e, r⟩⟩
def tDNew : TE := fun _ H Q => ∀ p, H p = none → Q (.ref p) (upd H p (DO p dict0 []))
theorem pe_dnew : PE X (.Dict [] [] pos) tDNew := ⟨fun pins s σ H Q I h =>
  wpAny_Dict_empty ⟨.ref s.heap.objs.size, _, I.laid (a := s.heap.objs.size) (o := DO s.heap.objs.size dict0 []) (t' := s.toks) (fun _ _ q => Heap.get?_push_of_some _ q) (Nat.le_refl _) (do_empty s.heap I.big), rfl, h _ (I.hok.fresh (Nat.le_refl _))⟩⟩
theorem pp_dict0 : PE X (.Dict [] [] pos) (rE X.K X.mg B W (cn (.dct []))) := pe_dnew.imp fun σ H Q z => by
  obtain ⟨gh, env, st, R, w⟩ := z
  intro p hp
  obtain ⟨x2, G2⟩ := Ext.alloc (o := DO p dict0 []) R.good hp
  exact w _ _ _ x2 G2 _ (.dct upd_same .nil)
end
end PL
set_option Elab.async false
set_option linter.all false
set_option maxRecDepth 100000
set_option maxHeartbeats 4000000
namespace PL
open PySem PySem.Spec PyProof.Rows L2
section
variable {X : Cx} {B : Bs} {W : WX} {pos : Pos}
end
end PL
set_option Elab.async false
set_option linter.all false
set_option maxRecDepth 100000
set_option maxHeartbeats 4000000
namespace PL
open PySem PySem.Spec PyProof.Rows L2
section
variable {X : Cx} {B : Bs} {W : WX} {a b : Expr} {rest : List Expr} {f g : Env → M D} {pos : Pos}
end
end PL
set_option Elab.async false
set_option linter.all false
set_option maxRecDepth 100000
set_option maxHeartbeats 4000000
namespace PL
open PySem PySem.Spec PyProof.Rows L2
section
variable {prog : Program} {w : World} {A : Around} {E : Value → Shared → Prop} {s : Shared} {t : Addr} {xs : Array (Int × Tok)}
variable {its : List Value} {ns : List Int} {Q : Value → Shared → Prop}
theorem sum_tupR (hh : A.handled = none) (ht : s.heap.IsTuple t its.toArray) (hi : IntsAre its ns)
    (h : ∀ h' tk t', (∀ b o, s.heap.get? b = some o → h'.get? b = some o) → Q (.int ns.sum t') { s with heap := h', toks := tk }) : wpAny (model prog w) A (call (.builtin "sum") [.ref t]) Q E s := by
  obtain ⟨xs, e⟩ := hi.allInts.items
  have hn : numsOf (intItems xs).toList = ns := by rw [← e]; exact hi.numsOf
  rw [nums_intItems] at hn
  rw [e] at ht
  refine PySem.W.ktm_sumG hh ht fun h' tk t' hk => ?_
  have := h h' tk t' hk
  rw [preSum_eq, List.take_of_length_le (by simp), hn]; exact this
end
section
variable {X : Cx}
theorem cr_sumA (hc : X.calm = true) : CallR X (.builtin "sum") (rSumA X.K) := by
  intro pins s σ H vs us Q I r h
  rcases h with h | ⟨a, ns, rfl, hs, q⟩
  · exact cr_sum hc pins s σ H vs us Q I r h
  · obtain ⟨its, rv, hl, _⟩ := I.tuple hs
    rw [Vals.ref1 r]
    exact sum_tupR (I.ok.hd hc) hl rv.ints fun h' tk t' hk => ⟨.int _, H, I.kept hk, ⟨_, rfl⟩, q⟩
end
end PL
set_option Elab.async false
set_option linter.all false
set_option maxRecDepth 100000
set_option maxHeartbeats 4000000
namespace PL
open PySem PySem.Spec PyProof.Rows L2
theorem op_ownE {X : Cx} {n : Nat} {CX : CXT} {C f : Addr} {fd : FuncData} {ps : List Str} {sp : Sp} {E : XK} {ty : V → Hp → Prop}
    (F : FnOk X.prog X.w X.K X.mg X.base CX n f fd ps sp) (hs : W.findIn X.K (Value.ref C) (Str.ofString "__eq__") = some (some (Value.ref f)))
    (hf : W.isFn X.K (Value.ref f) = true) (hb : L2.Binds X.K fd ps []) (hx : L2.Passes CX X E) (hR : L2.Room n X.A)
    (ht : ∀ pins σ H s y u, L2.Inv X pins σ H s → L2.RelV y u → ty y H → ∃ tb, W.Looks (model X.prog X.w) s.heap (typeOf u) tb ∧ W.notFirst X.K C tb = true) :
    OpR X (compareOp .Eq) (fun x y H Q => ∃ a dx fs, x = V.ref a ∧ H a = some (HO.ins C dx fs) ∧ ty y H ∧ sp [x, y] H (fun v H' => (∃ b, v = V.bl b) ∧ Q v H') E) := by
  intro pins s σ H x y u v Q I rx ry h
  obtain ⟨a, dx, fs, rfl, ha, hty, hsp⟩ := h
  cases rx
  obtain ⟨mA, J, -⟩ := ins_get I.hok ha
  obtain ⟨od, J, -⟩ := ObjM.look J
  obtain ⟨m, hF⟩ := I.fr
  obtain ⟨tb, l1, l2⟩ := ht pins σ H s y v I ry hty
  show wpAny _ _ (richCompare .Eq _ _) _ _ _
  refine W.cmp_K hR.units0 hF I.ok.mod.kin J l1 l2 hs hf ?_
  have hl := F.len _ _ _ _ hsp
  refine wpAny_call (codeAny_mono (F.run X.A X.stack s H { pos := [Value.ref a, v] } [Value.ref a, v] [V.ref a, y] _ E hR I.env0 ?_ (.cons rfl (.cons ry .nil)) hsp) fun r s' hq => ?_)
  · have := hb s [Value.ref a, v] I.kIn (by simpa using hl)
    simpa using this
  · match r, hq with
    | .error e, hq => exact hx pins σ H s e s' I hq
    | .ok (.ret w), hq =>
      obtain ⟨z, H', I', rz, ⟨b, rfl⟩, q⟩ := I.after hq
      cases rz
      exact ⟨V.bl b, H', I', rfl, q⟩
def tyV (K : PySem.W.Frag) (C : Addr) (y : V) (H : Hp) : Prop := (∃ i, y = .int i) ∨ (∃ b xs, y = .ref b ∧ SqT K H b xs) ∨ (∃ b dx fs, y = .ref b ∧ H b = some (HO.ins C dx fs))
theorem tyV_looks {X : Cx} {C : Addr} (h1 : W.notFirst X.K C (.type "int") = true) (h2 : W.notFirst X.K C (.type "tuple") = true) :
    ∀ pins σ H s y u, L2.Inv X pins σ H s → L2.RelV y u → tyV X.K C y H → ∃ tb, W.Looks (model X.prog X.w) s.heap (typeOf u) tb ∧ W.notFirst X.K C tb = true := by
  intro pins σ H s y u I ry h
  rcases h with ⟨i, rfl⟩ | ⟨b, xs, rfl, hT⟩ | ⟨b, dx, fs, rfl, hb⟩
  · obtain ⟨t, rfl⟩ := ry
    exact ⟨_, .of_pure rfl, h1⟩
  · cases ry
    obtain ⟨its, r, ⟨w, ho, hc, n, hd⟩, hs⟩ := I.tuple hT
    refine ⟨.type "tuple", ?_, h2⟩
    rw [← hc]
    exact .andThen (.ld ho) .now
  · cases ry
    obtain ⟨mA, J, -⟩ := ins_get I.hok hb
    obtain ⟨od, J, -⟩ := ObjM.look J
    exact ⟨_, J.type, by unfold W.notFirst; simp⟩
section
variable {X : Cx} {B : Bs} {W : WX} {a b : Expr} {pos : Pos} {k : Nat} {f C : Addr} {fd : FuncData} {ps : List Str} {F : List D → M D} {fa fb : Env → M D} {c : Str} {o : D → D → Sta → Option D}
theorem pq_ownE (G : FnOk X.prog X.w X.K X.mg X.base (L2.CX X.prog X.w) k f fd ps (spF X.K X.mg 2 F)) (hr : Room k X.A) (hmc : X.mg c = some (.ref C))
    (hs : PySem.W.findIn X.K (Value.ref C) (Str.ofString "__eq__") = some (some (Value.ref f))) (hf : PySem.W.isFn X.K (Value.ref f) = true) (hb : L2.Binds X.K fd ps [])
    (h1 : PySem.W.notFirst X.K C (.type "int") = true) (h2 : PySem.W.notFirst X.K C (.type "tuple") = true) (ok : OwnOk c F o)
    (ha : PE X a (rE X.K X.mg B W fa)) (hb' : PE X b (rE X.K X.mg B W fb)) (hm : behindInMarks .Eq b = false := by rfl) :
    PT X (.Compare a [.Eq] [b] pos) (rT X.K X.mg B W (tBool (op2 o fa fb))) := by
  refine pq_cmp (op_ownE (E := fun _ _ _ => False) G hs hf hb (fun pins σ H s e s' I z => ?_) hr (tyV_looks h1 h2)) ?_ ha hb' hm
  · obtain ⟨_, _, _, _, _, _, _, _, _, _, _, _, z⟩ := z
    exact z.elim
  · intro F0 A H st x y d e z Q Gd rx ry h q
    obtain ⟨g1, g2, bb, rfl, ee⟩ := ok.ok _ _ _ _ h
    obtain ⟨p, dx, l, rfl, ea, rf⟩ := isObj_rep Gd rx hmc g1
    refine ⟨p, dx, l, rfl, ea, ?_, F0, A, st, [d, e], Gd, .cons rx (.cons ry .nil), rfl, ?_⟩
    · unfold kO2 at g2
      split at g2
      · cases ry
        exact .inl ⟨_, rfl⟩
      · cases ry with
        | tup s1 r1 => exact .inr (.inl ⟨_, _, rfl, SqT.mono s1 Gd.sub⟩)
      · obtain ⟨p2, dx2, l2, rfl, eb, rf2⟩ := isObj_rep Gd ry hmc g2
        exact .inr (.inr ⟨_, _, _, rfl, eb⟩)
    · rw [ee]
      exact fun F' A' H' v x' G' r' => ⟨by cases r'; exact ⟨_, rfl⟩, q _ _ _ _ x' G' r'⟩
end
section
variable {K : Fr} {C : Str}
theorem eq_find (c : fEq C K = true) : PySem.W.findIn K (.ref (ga C K)) (Str.ofString "__eq__") = some (some (.ref (ma C "__eq__" K))) := eqO_ok (ba c).1
theorem eq_fn (c : fEq C K = true) : PySem.W.isFn K (.ref (ma C "__eq__" K)) = true := (ba (ba c).2).1
theorem eq_int (c : fEq C K = true) : PySem.W.notFirst K (ga C K) (.type "int") = true := (ba (ba (ba c).2).2).1
theorem eq_tup (c : fEq C K = true) : PySem.W.notFirst K (ga C K) (.type "tuple") = true := (ba (ba (ba c).2).2).2
end
end PL
set_option Elab.async false
set_option linter.all false
set_option maxRecDepth 100000
set_option maxHeartbeats 4000000
namespace PL
open PySem PySem.Spec PyProof.Rows L2
section
variable {prog : Program} {w : World} {A : Around} {E : Value → Shared → Prop} {s : Shared} {K : PySem.W.Frag} {x C f L : Addr} {h₀ : Heap} {m : Str → Option Value} {ox : Obj} {od : Option Obj} {name : Str} {b tb : Value}
theorem ifBound_B {M : Model} {id : String} {args : List Value} {Q : Option Value → Shared → Prop} (X : K.In s.heap) (I : PySem.W.InstAt s.heap x ox C od) (hs : PySem.W.findIn K (.ref C) name = some (some (.builtin id)))
    (hb : ∀ self, bindSpecial (.builtin id) self = pure (.builtin id, [self])) (h : wpAny M A (call (.builtin id) (.ref x :: args)) (fun v => Q (some v)) E s) : wpAny M A (callSpecialIfBound? (.ref x) name args) Q E s := by
  simp only [callSpecialIfBound?, bindSpecialIfBound?]
  refine wpAny_holding (wpAny_bind (wpAny_bind (wpAny_bind (I.type.here ((PySem.W.looks_findIn X hs).here ?_)))))
  refine wpAny_bind (wpAny_askSetting (wpAny_ite ?_))
  have fin : wpAny M A (call (.builtin id) ([.ref x] ++ args) >>= fun v => pure (some v)) Q E s := wpAny_bind (wpAny_mono h (fun v s' h' => wpAny_pure h') fun _ _ h' => h')
  split
  · exact wpAny_bind ((PySem.W.Looks.of_pure (hb _)).here (wpAny_pure (by exact fin)))
  · exact wpAny_tryCatch (wpAny_bind ((PySem.W.Looks.of_pure (hb _)).here (wpAny_pure (by exact fin))))
open Builtin in
theorem objNe_K (hu : A.units < cLine) (X : K.In s.heap) (I : PySem.W.InstAt s.heap x ox C od) (hs : PySem.W.findIn K (.ref C) (Str.ofString "__eq__") = some (some (.ref f))) (hf : PySem.W.isFn K (.ref f) = true) {Q : Fin → Shared → Prop}
    (hcall : wpAny (model prog w) A (call (.ref f) [.ref x, b]) (fun v s' => ∃ r, v = .bool r ∧ Q (.done (.ret (.bool (!r)))) s') E s) :
    wpAny (model prog w) A (Builtin.«object.__ne__» ⟨[.ref x, b], []⟩) Q E s := by
  unfold Builtin.«object.__ne__»
  refine wpAny_bind (m := slotArgs "__ne__" 1 _) (wpAny_pure ?_)
  refine wpAny_bind (m := cRoomFor _ _) (wpAny_cRoomFor hu ?_)
  refine wpAny_bind (m := callSpecialIfBound? (.ref x) (Str.ofString "__eq__") [b]) (PySem.W.ifBound_K X I hs hf (wpAny_mono hcall (fun v s' hv => ?_) fun _ _ e => e))
  obtain ⟨r, rfl, hq⟩ := hv
  exact wpAny_bind (wpAny_truthy_bool (wpAny_pure hq))
theorem ne_K {Q : Value → Shared → Prop} (hu : A.units < cLine) (hu1 : A.in1.units < cLine) (F : PyProof.Rows.Fr h₀ L s.heap m) (X₀ : K.In h₀) (I : PySem.W.InstAt s.heap x ox C od) (hb : PySem.W.Looks (model prog w) s.heap (typeOf b) tb) (hn : PySem.W.notFirst K C tb = true)
    (hne : PySem.W.findIn K (.ref C) (Str.ofString "__ne__") = some (some (.builtin "object.__ne__"))) (hm : PySem.W.mroIn K C (.type "object") = some true)
    (hs : PySem.W.findIn K (.ref C) (Str.ofString "__eq__") = some (some (.ref f))) (hf : PySem.W.isFn K (.ref f) = true)
    (h : wpAny (model prog w) A.in1 (call (.ref f) [.ref x, b]) (fun v s' => ∃ r, v = .bool r ∧ Q (.bool (!r)) s') E s) : wpAny (model prog w) A (richCompare .NotEq (.ref x) b) Q E s := by
  have X := X₀.keeps F.keep
  have one : wpAny (model prog w) A (tryCompare (.ref x) (Str.ofString "__ne__") b) (fun r s' => ∃ v, r = some v ∧ Q v s') E s := by
    unfold tryCompare
    refine wpAny_bind (ifBound_B X I hne PySem.F.cmp_object.ne.bind (wpAny_call (codeAny_call_builtin PySem.F.cmp_object.ne.plain PySem.F.cmpEntry_ne (PySem.W.check_slot (i := "object.__ne__") (owner := "object") (n := "__ne__") PySem.F.cmpKind_ne PySem.F.cmpSplit_ne (I.type.andThen (PySem.W.looks_mroIn X hm)) (PySem.F.cmpArgs_ne _ _) ?_))))
    refine objNe_K hu1 X I hs hf (wpAny_mono h (fun v s' hv => ?_) fun _ _ e => e)
    obtain ⟨r, rfl, hq⟩ := hv
    exact ⟨r, rfl, wpAny_pure ⟨_, rfl, hq⟩⟩
  unfold richCompare
  simp only [oneThing_ref]
  refine wpAny_holding (wpAny_bind (wpAny_cRoomFor hu ?_))
  refine wpAny_bind (I.type.here (wpAny_bind (hb.here ?_)))
  split
  · rename_i q
    have e : PySem.W.subIn K tb (.ref C) = some false := by
      rcases Bool.or_eq_true_iff.mp hn with e | e
      · rw [beq_iff_eq.mp e] at q; simp at q
      · exact beq_iff_eq.mp e
    refine wpAny_bind ((PySem.W.looks_subIn X e).here ?_)
    simp only [Bool.false_eq_true, if_false]
    refine wpAny_bind (wpAny_mono one (fun r s' z => ?_) fun _ _ e => e)
    obtain ⟨v, rfl, hq⟩ := z
    exact wpAny_pure hq
  · refine wpAny_bind (wpAny_pure ?_)
    simp only [Bool.false_eq_true, if_false]
    refine wpAny_bind (wpAny_mono one (fun r s' z => ?_) fun _ _ e => e)
    obtain ⟨v, rfl, hq⟩ := z
    exact wpAny_pure hq
end
theorem op_ownN {X : Cx} {n : Nat} {CX : CXT} {C f : Addr} {fd : FuncData} {ps : List Str} {sp : Sp} {E : XK} {ty : V → Hp → Prop}
    (F : FnOk X.prog X.w X.K X.mg X.base CX n f fd ps sp) (hs : W.findIn X.K (Value.ref C) (Str.ofString "__eq__") = some (some (Value.ref f)))
    (hne : W.findIn X.K (Value.ref C) (Str.ofString "__ne__") = some (some (Value.builtin "object.__ne__"))) (hmr : W.mroIn X.K C (.type "object") = some true)
    (hf : W.isFn X.K (Value.ref f) = true) (hb : L2.Binds X.K fd ps []) (hx : L2.Passes CX X E) (hR : L2.Room (n + 1) X.A)
    (ht : ∀ pins σ H s y u, L2.Inv X pins σ H s → L2.RelV y u → ty y H → ∃ tb, W.Looks (model X.prog X.w) s.heap (typeOf u) tb ∧ W.notFirst X.K C tb = true) :
    OpR X (compareOp .NotEq) (fun x y H Q => ∃ a dx fs, x = V.ref a ∧ H a = some (HO.ins C dx fs) ∧ ty y H ∧ sp [x, y] H (fun v H' => ∃ b, v = V.bl b ∧ Q (V.bl (!b)) H') E) := by
  intro pins s σ H x y u v Q I rx ry h
  obtain ⟨a, dx, fs, rfl, ha, hty, hsp⟩ := h
  cases rx
  obtain ⟨mA, J, -⟩ := ins_get I.hok ha
  obtain ⟨od, J, -⟩ := ObjM.look J
  obtain ⟨m, hF⟩ := I.fr
  obtain ⟨tb, l1, l2⟩ := ht pins σ H s y v I ry hty
  show wpAny _ _ (richCompare .NotEq _ _) _ _ _
  refine ne_K hR.units0 hR.in1.units0 hF I.ok.mod.kin J l1 l2 hne hmr hs hf ?_
  have hl := F.len _ _ _ _ hsp
  have e0 : Env0 X.prog X.w X.K X.mg X.base X.A.in1 X.stack s H := by
    have e := I.env0
    exact ⟨e.frames, e.mod, e.bs, e.bsz, e.funs, e.frf, e.hok, e.bare⟩
  refine wpAny_call (codeAny_mono (F.run X.A.in1 X.stack s H { pos := [Value.ref a, v] } [Value.ref a, v] [V.ref a, y] _ E hR.in1 e0 ?_ (.cons rfl (.cons ry .nil)) hsp) fun r s' hq => ?_)
  · have := hb s [Value.ref a, v] I.kIn (by simpa using hl)
    simpa using this
  · match r, hq with
    | .error e, hq => exact hx pins σ H s e s' I hq
    | .ok (.ret w), hq =>
      obtain ⟨z, H', I', rz, ⟨b, rfl, q⟩⟩ := I.after hq
      cases rz
      exact ⟨b, rfl, V.bl (!b), H', I', rfl, q⟩
def notO (o : D → D → Sta → Option D) : D → D → Sta → Option D := fun x y st => match o x y st with
  | some (.bl b) => some (.bl (!b))
  | _ => none
theorem notO_ok {o : D → D → Sta → Option D} {x y : D} {st : Sta} {b : Bool} (h : o x y st = some (.bl b)) : notO o x y st = some (.bl (!b)) := by
  unfold notO
  rw [h]
section
variable {X : Cx} {B : Bs} {W : WX} {a b : Expr} {pos : Pos} {k : Nat} {f C : Addr} {fd : FuncData} {ps : List Str} {F : List D → M D} {fa fb : Env → M D} {c : Str} {o : D → D → Sta → Option D}
theorem op_ownNo (G : FnOk X.prog X.w X.K X.mg X.base (L2.CX X.prog X.w) k f fd ps (spF X.K X.mg 2 F)) (hr : Room (k + 1) X.A)
    (hs : PySem.W.findIn X.K (Value.ref C) (Str.ofString "__eq__") = some (some (Value.ref f)))
    (hne : PySem.W.findIn X.K (Value.ref C) (Str.ofString "__ne__") = some (some (Value.builtin "object.__ne__"))) (hmr : PySem.W.mroIn X.K C (.type "object") = some true)
    (hf : PySem.W.isFn X.K (Value.ref f) = true) (hb : L2.Binds X.K fd ps [])
    (h1 : PySem.W.notFirst X.K C (.type "int") = true) (h2 : PySem.W.notFirst X.K C (.type "tuple") = true) :
    OpR X (compareOp .NotEq) (fun x y H Q => ∃ a dx fs, x = V.ref a ∧ H a = some (HO.ins C dx fs) ∧ tyV X.K C y H ∧ spF X.K X.mg 2 F [x, y] H (fun v H' => ∃ b, v = V.bl b ∧ Q (V.bl (!b)) H') (fun _ _ _ => False)) := by
  refine op_ownN (E := fun _ _ _ => False) G hs hne hmr hf hb (fun pins σ H s e s' I z => ?_) hr (tyV_looks h1 h2)
  obtain ⟨_, _, _, _, _, _, _, _, _, _, _, _, z⟩ := z
  exact z.elim
theorem notO_inv {x y z : D} {st : Sta} (h : notO o x y st = some z) : ∃ b, o x y st = some (.bl b) ∧ z = .bl (!b) := by
  unfold notO at h
  split at h
  · rename_i b e
    exact ⟨b, e, (Option.some.inj h).symm⟩
  · cases h
theorem opk_ownN (hmc : X.mg c = some (.ref C)) (ok : OwnOk c F o) : OpOk X.K X.mg (fun x y H Q => ∃ a dx fs, x = V.ref a ∧ H a = some (HO.ins C dx fs) ∧ tyV X.K C y H ∧ spF X.K X.mg 2 F [x, y] H (fun v H' => ∃ b, v = V.bl b ∧ Q (V.bl (!b)) H') (fun _ _ _ => False)) (notO o) := by
  intro F0 A H st x y d e z Q Gd rx ry h q
  obtain ⟨b0, h', rfl⟩ := notO_inv h
  obtain ⟨g1, g2, bb, ez, ee⟩ := ok.ok _ _ _ _ h'
  cases ez
  obtain ⟨p, dx, l, rfl, ea, rf⟩ := isObj_rep Gd rx hmc g1
  refine ⟨p, dx, l, rfl, ea, ?_, F0, A, st, [d, e], Gd, .cons rx (.cons ry .nil), rfl, ?_⟩
  · unfold kO2 at g2
    split at g2
    · cases ry
      exact .inl ⟨_, rfl⟩
    · cases ry with
      | tup s1 r1 => exact .inr (.inl ⟨_, _, rfl, SqT.mono s1 Gd.sub⟩)
    · obtain ⟨p2, dx2, l2, rfl, eb, rf2⟩ := isObj_rep Gd ry hmc g2
      exact .inr (.inr ⟨_, _, _, rfl, eb⟩)
  · rw [ee]
    exact fun F' A' H' v x' G' r' => ⟨b0, by cases r'; rfl, q _ _ _ _ x' G' (.bl _)⟩
theorem pq_ownN (G : FnOk X.prog X.w X.K X.mg X.base (L2.CX X.prog X.w) k f fd ps (spF X.K X.mg 2 F)) (hr : Room (k + 1) X.A) (hmc : X.mg c = some (.ref C))
    (hs : PySem.W.findIn X.K (Value.ref C) (Str.ofString "__eq__") = some (some (Value.ref f)))
    (hne : PySem.W.findIn X.K (Value.ref C) (Str.ofString "__ne__") = some (some (Value.builtin "object.__ne__"))) (hmr : PySem.W.mroIn X.K C (.type "object") = some true)
    (hf : PySem.W.isFn X.K (Value.ref f) = true) (hb : L2.Binds X.K fd ps [])
    (h1 : PySem.W.notFirst X.K C (.type "int") = true) (h2 : PySem.W.notFirst X.K C (.type "tuple") = true) (ok : OwnOk c F o)
    (ha : PE X a (rE X.K X.mg B W fa)) (hb' : PE X b (rE X.K X.mg B W fb)) (hm : behindInMarks .NotEq b = false := by rfl) :
    PT X (.Compare a [.NotEq] [b] pos) (rT X.K X.mg B W (tBool (op2 (notO o) fa fb))) :=
  pq_cmp (op_ownNo G hr hs hne hmr hf hb h1 h2) (opk_ownN hmc ok) ha hb' hm
end
section
variable {K : Fr} {C : Str}
theorem ne_find (c : fNe C K = true) : PySem.W.findIn K (.ref (ga C K)) (Str.ofString "__ne__") = some (some (.builtin "object.__ne__")) := eqO_ok (ba c).1
theorem ne_mro (c : fNe C K = true) : PySem.W.mroIn K (ga C K) (.type "object") = some true := beq_iff_eq.mp (ba c).2
end
end PL
set_option Elab.async false
set_option linter.all false
set_option maxRecDepth 100000
set_option maxHeartbeats 2000000
namespace PL
open PySem PySem.Spec PyProof.Rows L2
end PL
set_option Elab.async false
set_option linter.all false
set_option maxRecDepth 100000
set_option maxHeartbeats 4000000
namespace PL
open PySem PySem.Spec PyProof.Rows L2
end PL
set_option Elab.async false
set_option linter.all false
set_option maxRecDepth 100000
set_option maxHeartbeats 2000000
namespace PL
open PySem PySem.Spec PyProof.Rows L2
theorem pd_non {x : D} (h : isNon x = false) : pd x ≠ .none := by
  cases x with
  | non => cases h
  | _ => unfold pd; exact fun z => nomatch z
section
variable {K : PySem.W.Frag} {mg : Str → Option Value}
end
end PL
set_option Elab.async false
set_option linter.all false
set_option maxRecDepth 100000
set_option maxHeartbeats 4000000
namespace PL
open PySem PySem.Spec PyProof.Rows L2
section
variable {α β : Type} {st : Sta} {env : Env}
@[simp] theorem bind_st {m : M α} {k : α → M β} : (m >>= k) st = (m st).bind k := rfl
@[simp] theorem rb_ok {a : α} {k : α → M β} : (Res.ok a st).bind k = k a st := rfl
@[simp] theorem rb_exc {e : Exn} {k : α → M β} : (Res.exc e st : Res α).bind k = .exc e st := rfl
@[simp] theorem rb_bad {k : α → M β} : (Res.bad : Res α).bind k = .bad := rfl
@[simp] theorem rb_ok2 {a : α} {k : α → Sta → Res β} : (Res.bind (Res.ok a st) k : Res β) = k a st := rfl
@[simp] theorem rb_exc2 {e : Exn} {k : α → Sta → Res β} : (Res.bind (Res.exc e st : Res α) k : Res β) = .exc e st := rfl
@[simp] theorem rb_bad2 {k : α → Sta → Res β} : (Res.bind (Res.bad : Res α) k : Res β) = .bad := rfl
@[simp] theorem pure_st {a : α} : (pure a : M α) st = .ok a st := rfl
@[simp] theorem mpure_st {a : α} : (M.pure a : M α) st = .ok a st := rfl
@[simp] theorem mbad_st : (M.bad : M α) st = .bad := rfl
@[simp] theorem rd_st {o : Sta → Option α} : M.rd o st = match o st with
  | some a => .ok a st
  | none => .bad := rfl
theorem rd_some {o : Sta → Option α} {a : α} (h : o st = some a) : M.rd o st = .ok a st := by rw [rd_st, h]
@[simp] theorem vr_st {i : Nat} : vr i env st = (match env[i]? with
  | some (some (.fro d)) => .ok d st
  | _ => .bad) := by
  unfold vr
  cases env[i]? with
  | none => rfl
  | some o =>
    cases o with
    | none => rfl
    | some v => cases v <;> rfl
@[simp] theorem cn_st {d : D} : cn d env st = .ok d st := rfl
variable {f g : Env → M D} {fs : Env → M (List D)} {t u : Env → M Bool}
@[simp] theorem op2_st {o : D → D → Sta → Option D} : op2 o f g env st = (f env st).bind fun x => fun st => (g env st).bind fun y => M.rd (o x y) := rfl
@[simp] theorem op1_st {o : D → Sta → Option D} : op1 o f env st = (f env st).bind fun x => M.rd (o x) := rfl
@[simp] theorem opN_st {o : List D → Sta → Option D} : opN o fs env st = (fs env st).bind fun x => M.rd (o x) := rfl
@[simp] theorem args0_st : args0 env st = .ok [] st := rfl
@[simp] theorem argsC_st : argsC f fs env st = (f env st).bind fun x => fun st => (fs env st).bind fun xs => fun st => .ok (x :: xs) st := rfl
@[simp] theorem tst_st : tst f env st = (f env st).bind fun x => M.rd fun _ => truth x := rfl
@[simp] theorem tBool_st : tBool f env st = (f env st).bind fun x => M.rd fun _ => asB x := rfl
@[simp] theorem mNot_st : mNot t env st = (t env st).bind fun b => fun st => .ok (!b) st := rfl
@[simp] theorem mAnd_st : mAnd t u env st = (t env st).bind fun b => fun st => if b then u env st else .ok false st := by
  show (t env st).bind _ = _
  congr 1
  funext b st
  cases b <;> rfl
@[simp] theorem mOr_st : mOr t u env st = (t env st).bind fun b => fun st => if b then .ok true st else u env st := by
  show (t env st).bind _ = _
  congr 1
  funext b st
  cases b <;> rfl
@[simp] theorem mAndV_st : mAndV f g env st = (f env st).bind fun x => fun st => (M.rd (fun _ => asB x) st).bind fun b => fun st => if b then g env st else .ok (.bl false) st := by
  show ((f env st).bind _).bind _ = _
  cases (f env st) with
  | ok x st2 =>
    show (M.rd (fun _ => asB x) st2).bind _ = (M.rd (fun _ => asB x) st2).bind _
    congr 1
    funext b st
    cases b <;> rfl
  | exc _ _ => rfl
  | bad => rfl
@[simp] theorem mNotV_st : mNotV f env st = (f env st).bind fun x => fun st => (M.rd (fun _ => asB x) st).bind fun b => fun st => .ok (.bl (!b)) st := by
  show ((f env st).bind _).bind _ = _
  cases (f env st) with
  | ok x st2 => rfl
  | exc _ _ => rfl
  | bad => rfl
@[simp] theorem mIf_st {γ : Type} {f g : Env → M γ} : mIf t f g env st = (t env st).bind fun b => fun st => if b then f env st else g env st := by
  show (t env st).bind _ = _
  congr 1
  funext b st
  cases b <;> rfl
@[simp] theorem mCall_st {F : List D → M D} : mCall fs F env st = (fs env st).bind F := rfl
@[simp] theorem argN_st {n : Nat} {F : List D → M D} {ds : List D} (h : ds.length = n) : argN n F ds = F ds := by
  unfold argN
  rw [if_pos h]
@[simp] theorem mChain_st {o o' : D → D → Sta → Option D} {h : Env → M D} : mChain o o' f g h env st = (f env st).bind fun x => fun st => (g env st).bind fun y => fun st => (M.rd (o x y) st).bind fun z => fun st => (M.rd (fun _ => asB z) st).bind fun k => fun st => if k then (h env st).bind fun w => M.rd (o' y w) else .ok (.bl false) st := by
  show (f env st).bind _ = _
  congr 1
  funext x st
  show (g env st).bind _ = _
  congr 1
  funext y st
  show (M.rd (o x y) st).bind _ = _
  congr 1
  funext z st
  show (M.rd _ st).bind _ = _
  congr 1
  funext k st
  cases k <;> rfl
@[simp] theorem lstF_st : lstF fs env st = (fs env st).bind fun x => fun st => .ok (.lst x) st := rfl
@[simp] theorem yes_st : yes env st = .ok true st := rfl
theorem noX_ok {a : α} {m : M α} {st' : Sta} (h : m st = .ok a st') : noX m st = .ok a st' := by
  unfold noX
  rw [h]
@[simp] theorem noX_st {m : M α} : noX m st = (match m st with
  | .exc _ _ => .bad
  | r => r) := rfl
@[simp] theorem chk_st {p : D → Sta → Bool} {d : D} : chk p d st = if p d st then .ok d st else .bad := rfl
@[simp] theorem mSlice_st {lo hi : Env → M (Option Int)} : mSlice f lo hi env st = (f env st).bind fun x => fun st => (lo env st).bind fun l => fun st => (hi env st).bind fun u => M.rd (cutD x l u) := rfl
@[simp] theorem noP_st : noP env st = .ok none st := rfl
@[simp] theorem soP_st : soP f env st = (f env st).bind fun x => M.rd fun _ => (intOf x).map some := rfl
@[simp] theorem itO_st {o : D → Sta → Option (List D)} : itO o f env st = (f env st).bind fun x => M.rd (o x) := rfl
@[simp] theorem itN_st {o : List D → Sta → Option (List D)} : itN o fs env st = (fs env st).bind fun x => M.rd (o x) := rfl
@[simp] theorem dispL_st : dispL fs env st = (fs env st).bind fun ds => M.rd fun _ => if ds.length ≤ sizeLine then some ds else none := rfl
variable {a b : SD}
@[simp] theorem sE_st {f : Env → M α} {k : α → SD} : sE f k env st = match f env st with
  | .ok d st' => k d env st'
  | .exc e st' => .exc e env st'
  | .bad => .bad := rfl
@[simp] theorem sNext_st : sNext env st = .nx env st := rfl
@[simp] theorem sSeq_st : sSeq a b env st = match a env st with
  | .nx env' st' => b env' st'
  | r => r := rfl
@[simp] theorem sRet_st : sRet f env st = match f env st with
  | .ok d st' => .rt d st'
  | .exc e st' => .exc e env st'
  | .bad => .bad := by
  show sE f _ env st = _
  unfold sE
  cases f env st <;> rfl
@[simp] theorem sDrop_st : sDrop f env st = match f env st with
  | .ok d st' => .nx env st'
  | .exc e st' => .exc e env st'
  | .bad => .bad := by
  show sE f _ env st = _
  unfold sE
  cases f env st <;> rfl
@[simp] theorem sIf_st : sIf t a b env st = match t env st with
  | .ok k st' => if k then a env st' else b env st'
  | .exc e st' => .exc e env st'
  | .bad => .bad := by
  show sE t _ env st = _
  unfold sE
  cases t env st with
  | ok k st' => cases k <;> rfl
  | _ => rfl
@[simp] theorem sSet_st {i : Nat} : sSet i f env st = match f env st with
  | .ok d st' => .nx (env.set i (some (.fro d))) st'
  | .exc e st' => .exc e env st'
  | .bad => .bad := by
  show sE f _ env st = _
  unfold sE
  cases f env st <;> rfl
@[simp] theorem sOwn_st {i : Nat} : sOwn i fs env st = match fs env st with
  | .ok d st' => .nx (env.set i (some (.own (.lst d)))) st'
  | .exc e st' => .exc e env st'
  | .bad => .bad := by
  show sE fs _ env st = _
  unfold sE
  cases fs env st <;> rfl
@[simp] theorem sCell_st {i : Nat} : sCell i fs env st = match fs env st with
  | .ok d st' => .nx (env.set i (some (.fro (.cell st'.length)))) (st' ++ [.lst d])
  | .exc e st' => .exc e env st'
  | .bad => .bad := by
  show sE fs _ env st = _
  unfold sE
  cases fs env st <;> rfl
@[simp] theorem sFrz_st {i : Nat} : sFrz i a env st = a (frz i env) st := rfl
@[simp] theorem sAppO_st {i : Nat} : sAppO i f env st = match ownL env i with
  | some l => (match f env st with
    | .ok d st' => if l.length < sizeLine then .nx (env.set i (some (.own (.lst (l ++ [d]))))) st' else .bad
    | .exc e st' => .exc e env st'
    | .bad => .bad)
  | none => .bad := by
  unfold sAppO
  cases ownL env i with
  | none => rfl
  | some l =>
    show sE f _ env st = _
    unfold sE
    cases f env st <;> rfl
@[simp] theorem sAsg_st {c : D → SD} : sAsg f c env st = match f env st with
  | .ok d st' => (match c d env st' with
    | .nx env' st' => .nx env' st'
    | _ => .bad)
  | .exc e st' => .exc e env st'
  | .bad => .bad := by
  show sE f _ env st = _
  unfold sE
  cases f env st <;> rfl
@[simp] theorem sPar_st {i j : Nat} : sPar i j f g env st = match f env st with
  | .ok x st' => (match g env st' with
    | .ok y st' => .nx ((env.set i (some (.fro x))).set j (some (.fro y))) st'
    | .exc e st' => .exc e env st'
    | .bad => .bad)
  | .exc e st' => .exc e env st'
  | .bad => .bad := by
  show sE f _ env st = _
  unfold sE
  cases f env st with
  | ok x st' =>
    dsimp only
    cases g env st' <;> rfl
  | _ => rfl
@[simp] theorem sRaise0_st {c : Str} : sRaise0 c env st = .exc ⟨c, []⟩ env st := rfl
@[simp] theorem sRaise_st {c : Str} {names : List Str} : sRaise c names fs env st = match fs env st with
  | .ok ds st' => if ds.length = names.length then .exc ⟨c, (names.zip ds).reverse⟩ env st' else .bad
  | .exc e st' => .exc e env st'
  | .bad => .bad := by
  show sE fs _ env st = _
  unfold sE
  cases fs env st <;> rfl
@[simp] theorem sFor_st {it : Env → M (List D)} {c : D → SD} : sFor it c b env st = match it env st with
  | .ok ds st' => sLoop c b ds env st'
  | .exc e st' => .exc e env st'
  | .bad => .bad := by
  show sE it _ env st = _
  unfold sE
  cases it env st <;> rfl
@[simp] theorem aName_st {i : Nat} {d : D} : aName i d env st = .nx (env.set i (some (.fro d))) st := rfl
@[simp] theorem aNil_st : aNil [] = sNext := rfl
@[simp] theorem aCons_st {c : D → SD} {cs : List D → SD} {d : D} {ds : List D} : aCons c cs (d :: ds) env st = match c d env st with
  | .nx env' st' => cs ds env' st'
  | _ => .bad := rfl
@[simp] theorem aTup_st {n : Nat} {c : List D → SD} {ds : List D} : aTup n c (.tup ds) env st = if ds.length = n then c ds env st else .bad := by
  show (if ds.length = n then c ds else fun _ _ => .bad) env st = _
  split <;> rfl
@[simp] theorem aSubC_st {cf ix : Env → M D} {d : D} : aSubC cf ix d env st = match cf env st with
  | .ok c st' => (match ix env st' with
    | .ok k st' => (match c, k with
      | .cell n, .int z => (match st'[n]? with
        | some (.lst l) => (match ixN l.length z with
          | some j => .nx env (st'.set n (.lst (l.set j d)))
          | none => .bad)
        | _ => .bad)
      | _, _ => .bad)
    | .exc e st' => .exc e env st'
    | .bad => .bad)
  | .exc e st' => .exc e env st'
  | .bad => .bad := by
  show sE cf _ env st = _
  unfold sE
  cases cf env st with
  | ok c st' =>
    dsimp only
    cases ix env st' with
    | ok k st2 => cases c <;> cases k <;> rfl
    | _ => rfl
  | _ => rfl
@[simp] theorem ownL_st {i : Nat} : ownL env i = match env[i]? with
  | some (some (.own (.lst l))) => some l
  | _ => none := rfl
@[simp] theorem frz_st {i : Nat} : frz i env = match env[i]? with
  | some (some (.own c)) => env.set i (some (.fro c.toD))
  | _ => env := rfl
@[simp] theorem toD_lst {l : List D} : (Cell.lst l).toD = .lst l := rfl
end
section
variable {st : Sta}
@[simp] theorem addD_int {i j : Int} : addD (.int i) (.int j) st = some (.int (i + j)) := rfl
@[simp] theorem subD_int {i j : Int} : subD (.int i) (.int j) st = some (.int (i - j)) := rfl
theorem mulD_int {i j : Int} (h : mulOk i j = true) : mulD (.int i) (.int j) st = some (.int (i * j)) := by
  show (if mulOk i j then _ else _) = _
  rw [if_pos h]
@[simp] theorem modD_int {i j : Int} (h : 0 < j) : modD (.int i) (.int j) st = some (.int (i % j)) := by
  show (if 0 < j then _ else _) = _
  rw [if_pos h]
@[simp] theorem fdvD_int {i j : Int} (h : 0 < j) (h2 : j < 1073741824) : fdvD (.int i) (.int j) st = some (.int (i / j)) := by
  show (if 0 < j ∧ (j < 1073741824 ∨ _) then _ else _) = _
  rw [if_pos ⟨h, .inl h2⟩]
theorem powD_int {i j : Int} (h : 0 ≤ j ∧ j ≤ 1000 ∧ i.natAbs < 2 ^ 64) : powD (.int i) (.int j) st = some (.int (i ^ j.toNat)) := by
  show (if _ then _ else _) = _
  rw [if_pos h]
@[simp] theorem pow_6 : powD (.int 10) (.int 6) st = some (.int 1000000) := by rw [powD_int (by decide)]; rfl
@[simp] theorem pow_18 : powD (.int 10) (.int 18) st = some (.int 1000000000000000000) := by rw [powD_int (by decide)]; rfl
@[simp] theorem pow_23 : powD (.int 10) (.int 23) st = some (.int 100000000000000000000000) := by rw [powD_int (by decide)]; rfl
@[simp] theorem pow_30 : powD (.int 10) (.int 30) st = some (.int 1000000000000000000000000000000) := by rw [powD_int (by decide)]; rfl
@[simp] theorem negD_int {i : Int} : negD (.int i) st = some (.int (-i)) := rfl
@[simp] theorem cmpD_int {p : Int → Int → Bool} {i j : Int} : cmpD p (.int i) (.int j) st = some (.bl (p i j)) := rfl
@[simp] theorem truth_bl {b : Bool} : truth (.bl b) = some b := rfl
@[simp] theorem truth_int {i : Int} : truth (.int i) = some (i != 0) := rfl
@[simp] theorem asB_bl {b : Bool} : asB (.bl b) = some b := rfl
end
def pln : Nat → D → Bool
  | _, .non => true
  | _, .bl _ => true
  | _, .int _ => true
  | _, .str x => PyData.strOk x
  | n + 1, .tup l => l.all (pln n)
  | n + 1, .lst l => l.all (pln n)
  | n + 1, .fix l => l.all (pln n)
  | _, _ => false
mutual
theorem pln_ok : ∀ {n : Nat} {d : D}, pln n d = true → (pd d).canLay0 = true ∧ (pd d).depth ≤ n
  | _, .non, _ => ⟨rfl, Nat.zero_le _⟩
  | _, .bl _, _ => ⟨rfl, Nat.zero_le _⟩
  | _, .int _, _ => ⟨rfl, Nat.zero_le _⟩
  | n, .str x, h => by
    have h' : PyData.strOk x = true := by cases n <;> exact h
    unfold pd
    exact ⟨by unfold PyData.canLay0; exact h', Nat.zero_le _⟩
  | n + 1, .tup l, h => by
    obtain ⟨h1, h2⟩ := plns_ok (n := n) (l := l) (show l.all (pln n) = true from h)
    unfold pd
    exact ⟨by unfold PyData.canLay0; exact h1, by unfold PyData.depth; omega⟩
  | n + 1, .lst l, h => by
    obtain ⟨h1, h2⟩ := plns_ok (n := n) (l := l) (show l.all (pln n) = true from h)
    unfold pd
    exact ⟨by unfold PyData.canLay0; exact h1, by unfold PyData.depth; omega⟩
  | n + 1, .fix l, h => by
    obtain ⟨h1, h2⟩ := plns_ok (n := n) (l := l) (show l.all (pln n) = true from h)
    unfold pd
    exact ⟨by unfold PyData.canLay0; exact h1, by unfold PyData.depth; omega⟩
  | 0, .tup _, h => by cases h
  | 0, .lst _, h => by cases h
  | 0, .fix _, h => by cases h
  | 0, .dct _, h => by cases h
  | 0, .obj _ _, h => by cases h
  | 0, .cell _, h => by cases h
  | 0, .fn _, h => by cases h
  | n + 1, .dct _, h => by cases h
  | n + 1, .obj _ _, h => by cases h
  | n + 1, .cell _, h => by cases h
  | n + 1, .fn _, h => by cases h
theorem plns_ok : ∀ {n : Nat} {l : List D}, l.all (pln n) = true → PyData.canLayAll0 (pds l) = true ∧ PyData.depthAll (pds l) ≤ n
  | _, [], _ => ⟨rfl, Nat.zero_le _⟩
  | n, d :: l, h => by
    obtain ⟨h1, h2⟩ := Bool.and_eq_true_iff.mp (show (pln n d && l.all (pln n)) = true from h)
    obtain ⟨a1, a2⟩ := pln_ok h1
    obtain ⟨b1, b2⟩ := plns_ok h2
    unfold pds
    exact ⟨by unfold PyData.canLayAll0; rw [a1, b1]; rfl, by unfold PyData.depthAll; omega⟩
end
theorem plain_of {n : Nat} {d : D} (h : pln n d = true) (hn : n ≤ 64) : plain d = true := by
  obtain ⟨h1, h2⟩ := pln_ok h
  unfold plain SeqAt.shaped
  rw [h1, decide_eq_true (Nat.le_trans h2 hn)]
  rfl
section
variable {st : Sta} {d e : D}
theorem eqB_self {n : Nat} (h : pln n d = true) (hn : n ≤ 64) : eqB d d = true := SeqAt.eqv_refl _ (SeqAt.canLay_of_shaped (plain_of h hn))
theorem eqD_of {n : Nat} (hd : pln n d = true) (he : pln n e = true) (hn : n ≤ 64) : eqD d e st = some (.bl (eqB d e)) := by
  unfold eqD
  rw [plain_of hd hn, plain_of he hn]
  rfl
theorem neD_of {n : Nat} (hd : pln n d = true) (he : pln n e = true) (hn : n ≤ 64) : neD d e st = some (.bl (!eqB d e)) := by
  unfold neD
  rw [plain_of hd hn, plain_of he hn]
  rfl
theorem eqD_self {n : Nat} (hd : pln n d = true) (hn : n ≤ 64) : eqD d d st = some (.bl true) := by rw [eqD_of hd hd hn, eqB_self hd hn]
theorem neD_self {n : Nat} (hd : pln n d = true) (hn : n ≤ 64) : neD d d st = some (.bl false) := by rw [neD_of hd hd hn, eqB_self hd hn]; rfl
@[simp] theorem eqD_int {i j : Int} : eqD (.int i) (.int j) st = some (.bl (decide (i = j))) := by
  rw [eqD_of (n := 0) rfl rfl (by decide), eqB_int]
@[simp] theorem neD_int {i j : Int} : neD (.int i) (.int j) st = some (.bl (!decide (i = j))) := by
  rw [neD_of (n := 0) rfl rfl (by decide), eqB_int]
@[simp] theorem eqD_nonint {j : Int} : eqD .non (.int j) st = some (.bl false) := by
  rw [eqD_of (n := 0) rfl rfl (by decide)]
  rfl
@[simp] theorem neD_nonint {j : Int} : neD .non (.int j) st = some (.bl true) := by
  rw [neD_of (n := 0) rfl rfl (by decide)]
  rfl
@[simp] theorem lenD_tup {l : List D} : lenD [.tup l] st = some (.int l.length) := rfl
@[simp] theorem lenD_lst {l : List D} : lenD [.lst l] st = some (.int l.length) := rfl
@[simp] theorem lenD_fix {l : List D} : lenD [.fix l] st = some (.int l.length) := rfl
@[simp] theorem tupleD_lst {l : List D} : tupleD [.lst l] st = some (.tup l) := rfl
@[simp] theorem tupleD_tup {l : List D} : tupleD [.tup l] st = some (.tup l) := rfl
@[simp] theorem intD_int {i : Int} : intD [.int i] st = some (.int i) := rfl
@[simp] theorem intD_bl {b : Bool} : intD [.bl b] st = some (.int (if b then 1 else 0)) := rfl
@[simp] theorem ixD_tup {l : List D} {i : Int} : ixD (.tup l) (.int i) st = atI l i := rfl
@[simp] theorem ixD_lst {l : List D} {i : Int} : ixD (.lst l) (.int i) st = atI l i := rfl
@[simp] theorem ixD_fix {l : List D} {i : Int} : ixD (.fix l) (.int i) st = atI l i := rfl
@[simp] theorem seqIt_tup {l : List D} : seqIt (.tup l) st = some l := rfl
@[simp] theorem seqIt_lst {l : List D} : seqIt (.lst l) st = some l := rfl
@[simp] theorem isiT_int {i : Int} : isiT "int" CS (.int i) st = some (.bl true) := by
  show (kitB "int" "int").map D.bl = _
  rw [show kitB "int" "int" = some true from by decide +kernel]
  rfl
@[simp] theorem isiT_bool {i : Int} : isiT "bool" CS (.int i) st = some (.bl false) := by
  show (kitB "int" "bool").map D.bl = _
  rw [show kitB "int" "bool" = some false from by decide +kernel]
  rfl
@[simp] theorem isiT_intbl {b : Bool} : isiT "int" CS (.bl b) st = some (.bl true) := by
  show (kitB "bool" "int").map D.bl = _
  rw [show kitB "bool" "int" = some true from by decide +kernel]
  rfl
@[simp] theorem isiT_boolbl {b : Bool} : isiT "bool" CS (.bl b) st = some (.bl true) := by
  show (kitB "bool" "bool").map D.bl = _
  rw [show kitB "bool" "bool" = some true from by decide +kernel]
  rfl
@[simp] theorem isiT_intnon : isiT "int" CS .non st = some (.bl false) := by
  show (kitB "NoneType" "int").map D.bl = _
  rw [show kitB "NoneType" "int" = some false from by decide +kernel]
  rfl
@[simp] theorem isiT_boolnon : isiT "bool" CS .non st = some (.bl false) := by
  show (kitB "NoneType" "bool").map D.bl = _
  rw [show kitB "NoneType" "bool" = some false from by decide +kernel]
  rfl
@[simp] theorem isiT_intstr {x : Str} : isiT "int" CS (.str x) st = some (.bl false) := by
  show (kitB "str" "int").map D.bl = _
  rw [show kitB "str" "int" = some false from by decide +kernel]
  rfl
@[simp] theorem isiT_inttup {x : List D} : isiT "int" CS (.tup x) st = some (.bl false) := by
  show (kitB "tuple" "int").map D.bl = _
  rw [show kitB "tuple" "int" = some false from by decide +kernel]
  rfl
@[simp] theorem isiT_tup {l : List D} : isiT "tuple" CS (.tup l) st = some (.bl true) := by
  show (kitB "tuple" "tuple").map D.bl = _
  rw [show kitB "tuple" "tuple" = some true from by decide +kernel]
  rfl
@[simp] theorem isiC_obj {c C : Str} {fs : List (Str × D)} (h : CS.contains c = true) : isiC C CS (.obj c fs) st = some (.bl (c == C)) := by
  show (if CS.contains c then some (D.bl (c == C)) else none) = _
  rw [if_pos h]
theorem small_le {n : Nat} (h : n ≤ 1000) : n ≤ sizeLine := by rw [sizeLine_eq]; omega
@[simp] theorem mkTup_1 {a : D} : mkTup [a] st = some (.tup [a]) := by unfold mkTup; rw [if_pos (small_le (by simp))]
@[simp] theorem mkTup_2 {a b : D} : mkTup [a, b] st = some (.tup [a, b]) := by unfold mkTup; rw [if_pos (small_le (by simp))]
@[simp] theorem mkTup_3 {a b c : D} : mkTup [a, b, c] st = some (.tup [a, b, c]) := by unfold mkTup; rw [if_pos (small_le (by simp))]
@[simp] theorem mkTup_0 : mkTup [] st = some (.tup []) := by unfold mkTup; rw [if_pos (small_le (by simp))]
theorem mkLst_of {l : List D} (h : l.length ≤ 1000) : mkLst l st = some (.lst l) := by unfold mkLst; rw [if_pos (small_le h)]
@[simp] theorem mkLst_0 : mkLst [] st = some (.lst []) := mkLst_of (by simp)
@[simp] theorem mkLst_3 {a b c : D} : mkLst [a, b, c] st = some (.lst [a, b, c]) := mkLst_of (by simp)
@[simp] theorem mkLst_4 {a b c d : D} : mkLst [a, b, c, d] st = some (.lst [a, b, c, d]) := mkLst_of (by simp)
@[simp] theorem mkLst_6 {a b c d e f : D} : mkLst [a, b, c, d, e, f] st = some (.lst [a, b, c, d, e, f]) := mkLst_of (by simp)
end
theorem ixN_nat {n k : Nat} (h : k < n) : ixN n (k : Int) = some k := by
  unfold ixN
  rw [if_pos (Int.natCast_nonneg k), if_pos (by omega)]
  rfl
theorem atI_nat {α : Type} {l : List α} {k : Nat} (h : k < l.length) : atI l (k : Int) = some l[k] := by
  unfold atI
  rw [ixN_nat h, Option.bind_some, List.getElem?_eq_getElem h]
@[simp] theorem atI_zero {α : Type} {a : α} {l : List α} : atI (a :: l) 0 = some a := atI_nat (k := 0) (by simp)
@[simp] theorem atI_one {α : Type} {a b : α} {l : List α} : atI (a :: b :: l) 1 = some b := atI_nat (k := 1) (by simp)
@[simp] theorem atI_two {α : Type} {a b c : α} {l : List α} : atI (a :: b :: c :: l) 2 = some c := atI_nat (k := 2) (by simp)
@[simp] theorem atI_three {α : Type} {a b c d : α} {l : List α} : atI (a :: b :: c :: d :: l) 3 = some d := atI_nat (k := 3) (by simp)
theorem lcGo_ok {vs : List Nat} {bind : Bnd} {tst : Env → M Bool} {elt : Env → M D} {env : Env} {st : Sta} {e1 : D → Env} {p : D → Bool} {f : D → D} : ∀ {ds acc : List D}, (∀ d ∈ ds, bind d (wipeE env vs) = some (e1 d) ∧ tst (e1 d) st = .ok (p d) st ∧ (p d = true → elt (e1 d) st = .ok (f d) st)) → acc.length + ds.length ≤ sizeLine →
    lcGo vs bind tst elt env ds acc st = .ok (acc ++ (ds.filter p).map f) st
  | [], acc, _, _ => by
    show Res.ok acc st = _
    simp
  | d :: ds, acc, h, hl => by
    obtain ⟨h1, h2, h3⟩ := h d (List.mem_cons_self ..)
    have rec_ : ∀ acc' : List D, acc'.length + ds.length ≤ sizeLine → _ := fun acc' q => lcGo_ok (vs := vs) (bind := bind) (tst := tst) (elt := elt) (env := env) (st := st) (e1 := e1) (p := p) (f := f) (ds := ds) (acc := acc') (fun d m => h d (List.mem_cons_of_mem _ m)) q
    have hl' : acc.length + (ds.length + 1) ≤ sizeLine := hl
    unfold lcGo
    rw [h1]
    dsimp only
    rw [bind_st, noX_ok h2, rb_ok]
    cases q : p d with
    | false =>
      rw [if_neg Bool.false_ne_true, rec_ acc (by omega), List.filter_cons, if_neg (by rw [q]; exact Bool.false_ne_true)]
    | true =>
      rw [if_pos rfl, bind_st, noX_ok (h3 q), rb_ok, if_pos (by omega), rec_ (acc ++ [f d]) (by rw [List.length_append, List.length_singleton]; omega), List.filter_cons, if_pos q, List.map_cons, List.append_assoc]
      rfl
theorem mLc_ok {vs : List Nat} {bind : Bnd} {tst : Env → M Bool} {elt : Env → M D} {it : Env → M (List D)} {env : Env} {st : Sta} {ds : List D} {e1 : D → Env} {p : D → Bool} {f : D → D} (hi : it env st = .ok ds st) (h : ∀ d ∈ ds, bind d (wipeE env vs) = some (e1 d) ∧ tst (e1 d) st = .ok (p d) st ∧ (p d = true → elt (e1 d) st = .ok (f d) st)) (hl : ds.length ≤ sizeLine) :
    mLc vs bind tst elt it env st = .ok ((ds.filter p).map f) st := by
  unfold mLc
  rw [bind_st, hi, rb_ok, lcGo_ok h (by simpa using hl)]
  rfl
@[simp] theorem rng_len {lo : Int} {n : Nat} : (rng lo n).length = n := by simp [rng]
theorem rng1_st {st : Sta} {j : Int} (h : 0 ≤ j) (h2 : j < 2 ^ 62) : rng1 [.int j] st = some (rng 0 j.toNat) := by
  show (if _ then _ else _) = _
  rw [if_pos ⟨by omega, h2⟩]
@[simp] theorem wipeE_nil {env : Env} : wipeE env [] = env := rfl
@[simp] theorem wipeE_cons {env : Env} {v : Nat} {vs : List Nat} : wipeE env (v :: vs) = (wipeE env vs).set v none := rfl
@[simp] theorem bName_st {i : Nat} {d : D} {env : Env} : bName i d env = some (env.set i (some (.fro d))) := rfl
section
variable {a b body : SD} {c : D → SD} {env env1 : Env} {st st1 : Sta} {r : SR} {it fs : Env → M (List D)} {ds : List D} {f : Env → M D} {d : D} {t : Env → M Bool} {k : Bool} {n i : Nat}
theorem seq_nx (h : a env st = .nx env1 st1) (h2 : b env1 st1 = r) : sSeq a b env st = r := by
  rw [sSeq_st, h]
  exact h2
theorem seq_rt (h : a env st = .rt d st1) : sSeq a b env st = .rt d st1 := by rw [sSeq_st, h]
theorem seq_exc {e : Exn} (h : a env st = .exc e env1 st1) : sSeq a b env st = .exc e env1 st1 := by rw [sSeq_st, h]
theorem for_ok (h : it env st = .ok ds st1) (h2 : sLoop c body ds env st1 = r) : sFor it c body env st = r := by
  rw [sFor_st, h]
  exact h2
theorem ret_ok (h : f env st = .ok d st1) : sRet f env st = .rt d st1 := by rw [sRet_st, h]
theorem if_ok (h : t env st = .ok k st1) (h2 : (if k then a env st1 else b env st1) = r) : sIf t a b env st = r := by
  rw [sIf_st, h]
  exact h2
theorem if_yes (h : t env st = .ok true st1) (h2 : a env st1 = r) : sIf t a b env st = r := if_ok h h2
theorem if_no (h : t env st = .ok false st1) (h2 : b env st1 = r) : sIf t a b env st = r := if_ok h h2
theorem runB_rt (h : b (env0 n ds) st = .rt d st1) : runB n b ds st = .ok d st1 := by
  unfold runB
  rw [h]
theorem runB_nx (h : b (env0 n ds) st = .nx env1 st1) : runB n b ds st = .ok .non st1 := by
  unfold runB
  rw [h]
theorem runB_exc {e : Exn} (h : b (env0 n ds) st = .exc e env1 st1) : runB n b ds st = .exc e st1 := by
  unfold runB
  rw [h]
end
end PL
set_option Elab.async false
set_option linter.all false
set_option maxRecDepth 100000
set_option maxHeartbeats 4000000
namespace PL
open PySem PySem.Spec PyProof.Rows L2
section
variable {α β : Type}
@[irreducible] def evM (f : Env → M α) (env : Env) (st : Sta) (Q : Res α → Prop) : Prop := Q (f env st)
@[irreducible] def evS (b : SD) (env : Env) (st : Sta) (Q : SR → Prop) : Prop := Q (b env st)
@[irreducible] def evR (r : Res α) (Q : Res α → Prop) : Prop := Q r
@[irreducible] def evL (c : D → SD) (body : SD) (ds : List D) (env : Env) (st : Sta) (Q : SR → Prop) : Prop := Q (sLoop c body ds env st)
@[irreducible] def evC (vs : List Nat) (bind : Bnd) (t : Env → M Bool) (el : Env → M D) (env : Env) (ds acc : List D) (st : Sta) (Q : Res (List D) → Prop) : Prop := Q (lcGo vs bind t el env ds acc st)
def qEq (v : Res α) (r : Res α) : Prop := r = v
theorem ev_run {r v : Res α} (h : evR r (qEq v)) : r = v := by with_unfolding_all exact h
theorem ev_out {r : Res α} {Q : Res α → Prop} (h : evR r Q) : Q r := by with_unfolding_all exact h
theorem ev_res {f : Env → M α} {env : Env} {st : Sta} {v : Res α} (h : evM f env st (qEq v)) : f env st = v := by with_unfolding_all exact h
theorem evM_of {f : Env → M α} {env : Env} {st : Sta} {v : Res α} (h : f env st = v) (Q : Res α → Prop) : evM f env st Q = Q v := by with_unfolding_all (unfold evM; rw [h])
theorem evS_of {b : SD} {env : Env} {st : Sta} {v : SR} (h : b env st = v) (Q : SR → Prop) : evS b env st Q = Q v := by with_unfolding_all (unfold evS; rw [h])
theorem evR_of {r v : Res α} (h : r = v) (Q : Res α → Prop) : evR r Q = Q v := by with_unfolding_all (unfold evR; rw [h])
variable {env env1 : Env} {st : Sta} {e : Exn} {a : α} {d : D}
@[simp] theorem qEq_ok {v : Res α} {a : α} : qEq v (.ok a st) = (Res.ok a st = v) := by with_unfolding_all exact id rfl
@[simp] theorem qEq_exc {v : Res α} : qEq v (.exc e st) = (Res.exc e st = v) := by with_unfolding_all exact id rfl
@[simp] theorem qEq_bad {v : Res α} : qEq v .bad = (Res.bad = v) := by with_unfolding_all exact id rfl
@[simp] theorem evR_ok {Q : Res α → Prop} : evR (.ok a st) Q = Q (.ok a st) := by with_unfolding_all exact id rfl
@[simp] theorem evR_exc {Q : Res α → Prop} : evR (.exc e st) Q = Q (.exc e st) := by with_unfolding_all exact id rfl
@[simp] theorem evR_bad {Q : Res α → Prop} : evR .bad Q = Q .bad := by with_unfolding_all exact id rfl
def kO (o : Option β) (st : Sta) (Q : Res β → Prop) : Prop := match o with
  | some z => Q (.ok z st)
  | none => Q .bad
@[simp] theorem kO_some {z : β} {Q : Res β → Prop} : kO (some z) st Q = Q (.ok z st) := by with_unfolding_all exact id rfl
@[simp] theorem kO_none {Q : Res β → Prop} : kO none st Q = Q .bad := by with_unfolding_all exact id rfl
@[simp] theorem kO_ite {c : Prop} [Decidable c] {x y : Option β} {Q : Res β → Prop} : kO (if c then x else y) st Q = if c then kO x st Q else kO y st Q := by with_unfolding_all (split <;> rfl)
def kOp1 (o : α → Sta → Option β) (Q : Res β → Prop) : Res α → Prop
  | .ok x st => kO (o x st) st Q
  | .exc e st => Q (.exc e st)
  | .bad => Q .bad
@[simp] theorem kOp1_ok {o : α → Sta → Option β} {Q : Res β → Prop} : kOp1 o Q (.ok a st) = kO (o a st) st Q := by with_unfolding_all exact id rfl
@[simp] theorem kOp1_exc {o : α → Sta → Option β} {Q : Res β → Prop} : kOp1 o Q (.exc e st) = Q (.exc e st) := by with_unfolding_all exact id rfl
@[simp] theorem kOp1_bad {o : α → Sta → Option β} {Q : Res β → Prop} : kOp1 o Q .bad = Q .bad := by with_unfolding_all exact id rfl
theorem evM_bind_rd {f : Env → M α} {o : α → Sta → Option β} {Q : Res β → Prop} : Q ((f env >>= fun x => M.rd (o x)) st) = evM f env st (kOp1 o Q) := by
  with_unfolding_all
    unfold evM
    rw [bind_st]
    cases f env st with
    | ok a st1 =>
      rw [rb_ok, rd_st, kOp1_ok]
      cases o a st1 <;> rfl
    | exc _ _ => rfl
    | bad => rfl
def kOp2a (o : D → D → Sta → Option D) (g : Env → M D) (env : Env) (Q : Res D → Prop) : Res D → Prop
  | .ok x st => evM g env st (kOp1 (o x) Q)
  | .exc e st => Q (.exc e st)
  | .bad => Q .bad
section
variable {o o' : D → D → Sta → Option D} {f g h : Env → M D} {Q : Res D → Prop} {fs : Env → M (List D)} {t u : Env → M Bool} {x : D} {QB : Res Bool → Prop} {QL : Res (List D) → Prop} {QO : Res (Option Int) → Prop} {b : Bool}
@[simp] theorem kOp2a_ok : kOp2a o g env Q (.ok x st) = evM g env st (kOp1 (o x) Q) := by with_unfolding_all exact id rfl
@[simp] theorem kOp2a_exc : kOp2a o g env Q (.exc e st) = Q (.exc e st) := by with_unfolding_all exact id rfl
@[simp] theorem kOp2a_bad : kOp2a o g env Q .bad = Q .bad := by with_unfolding_all exact id rfl
@[simp] theorem evM_op2 : evM (op2 o f g) env st Q = evM f env st (kOp2a o g env Q) := by
  with_unfolding_all
    show Q ((f env >>= fun x => g env >>= fun y => M.rd (o x y)) st) = _
    unfold evM
    rw [bind_st]
    cases f env st with
    | ok x st1 => exact evM_bind_rd (f := g) (o := o x)
    | exc _ _ => rfl
    | bad => rfl
@[simp] theorem evM_op1 {o : D → Sta → Option D} : evM (op1 o f) env st Q = evM f env st (kOp1 o Q) := by with_unfolding_all exact evM_bind_rd
@[simp] theorem evM_opN {o : List D → Sta → Option D} : evM (opN o fs) env st Q = evM fs env st (kOp1 o Q) := by with_unfolding_all exact evM_bind_rd
@[simp] theorem evM_itO {o : D → Sta → Option (List D)} : evM (itO o f) env st QL = evM f env st (kOp1 o QL) := by with_unfolding_all exact evM_bind_rd
@[simp] theorem evM_itN {o : List D → Sta → Option (List D)} : evM (itN o fs) env st QL = evM fs env st (kOp1 o QL) := by with_unfolding_all exact evM_bind_rd
def truthO (x : D) (_ : Sta) : Option Bool := truth x
def asBO (x : D) (_ : Sta) : Option Bool := asB x
def soO (x : D) (_ : Sta) : Option (Option Int) := (intOf x).map some
def dispO (ds : List D) (_ : Sta) : Option (List D) := if ds.length ≤ sizeLine then some ds else none
@[simp] theorem truthO_eq : truthO x st = truth x := by with_unfolding_all exact id rfl
@[simp] theorem asBO_eq : asBO x st = asB x := by with_unfolding_all exact id rfl
@[simp] theorem soO_int {i : Int} : soO (.int i) st = some (some i) := by with_unfolding_all exact id rfl
@[simp] theorem dispO_nil : dispO [] st = some [] := if_pos (Nat.zero_le sizeLine)
theorem dispO_of {ds : List D} (h : ds.length ≤ 1000) : dispO ds st = some ds := by with_unfolding_all (unfold dispO; rw [if_pos (small_le h)])
@[simp] theorem dispO_1 {a : D} : dispO [a] st = some [a] := dispO_of (by simp)
@[simp] theorem dispO_2 {a b : D} : dispO [a, b] st = some [a, b] := dispO_of (by simp)
@[simp] theorem dispO_3 {a b c : D} : dispO [a, b, c] st = some [a, b, c] := dispO_of (by simp)
@[simp] theorem dispO_4 {a b c d : D} : dispO [a, b, c, d] st = some [a, b, c, d] := dispO_of (by simp)
@[simp] theorem evM_tst : evM (tst f) env st QB = evM f env st (kOp1 truthO QB) := by with_unfolding_all exact evM_bind_rd
@[simp] theorem evM_tBool : evM (tBool f) env st QB = evM f env st (kOp1 asBO QB) := by with_unfolding_all exact evM_bind_rd
@[simp] theorem evM_soP : evM (soP f) env st QO = evM f env st (kOp1 soO QO) := by with_unfolding_all exact evM_bind_rd
@[simp] theorem evM_noP : evM noP env st QO = QO (.ok none st) := by with_unfolding_all exact id rfl
@[simp] theorem evM_dispL : evM (dispL fs) env st QL = evM fs env st (kOp1 dispO QL) := by with_unfolding_all exact evM_bind_rd
def listO (ds : List D) (st : Sta) : Option (List D) := match ds with
  | [d] => seqOf d st
  | _ => none
@[simp] theorem listO_1 : listO [x] st = seqOf x st := by with_unfolding_all exact id rfl
@[simp] theorem evM_listL : evM (listL fs) env st QL = evM fs env st (kOp1 listO QL) := by with_unfolding_all exact evM_bind_rd
@[simp] theorem seqOf_tup {l : List D} : seqOf (.tup l) st = some l := by with_unfolding_all exact id rfl
@[simp] theorem seqOf_lst {l : List D} : seqOf (.lst l) st = some l := by with_unfolding_all exact id rfl
@[simp] theorem evM_cn : evM (cn d) env st Q = Q (.ok d st) := by with_unfolding_all exact id rfl
def kV (o : Option (Option SV)) (st : Sta) (Q : Res D → Prop) : Prop := match o with
  | some (some (.fro d)) => Q (.ok d st)
  | _ => Q .bad
@[simp] theorem kV_fro : kV (some (some (.fro d))) st Q = Q (.ok d st) := by with_unfolding_all exact id rfl
@[simp] theorem kV_none : kV none st Q = Q .bad := by with_unfolding_all exact id rfl
@[simp] theorem kV_some_none : kV (some none) st Q = Q .bad := by with_unfolding_all exact id rfl
@[simp] theorem kV_own {c : Cell} : kV (some (some (.own c))) st Q = Q .bad := by with_unfolding_all exact id rfl
@[simp] theorem evM_vr {i : Nat} : evM (vr i) env st Q = kV env[i]? st Q := by
  with_unfolding_all
    unfold evM kV
    rw [vr_st]
    cases env[i]? with
    | none => rfl
    | some o => cases o with
      | none => rfl
      | some v => cases v <;> rfl
@[simp] theorem evM_yes : evM yes env st QB = QB (.ok true st) := by with_unfolding_all exact id rfl
@[simp] theorem evM_args0 : evM args0 env st QL = QL (.ok [] st) := by with_unfolding_all exact id rfl
def kArg2 (x : D) (Q : Res (List D) → Prop) : Res (List D) → Prop
  | .ok xs st => Q (.ok (x :: xs) st)
  | .exc e st => Q (.exc e st)
  | .bad => Q .bad
def kArg (fs : Env → M (List D)) (env : Env) (Q : Res (List D) → Prop) : Res D → Prop
  | .ok x st => evM fs env st (kArg2 x Q)
  | .exc e st => Q (.exc e st)
  | .bad => Q .bad
@[simp] theorem kArg2_ok {xs : List D} : kArg2 x QL (.ok xs st) = QL (.ok (x :: xs) st) := by with_unfolding_all exact id rfl
@[simp] theorem kArg2_exc : kArg2 x QL (.exc e st) = QL (.exc e st) := by with_unfolding_all exact id rfl
@[simp] theorem kArg2_bad : kArg2 x QL .bad = QL .bad := by with_unfolding_all exact id rfl
@[simp] theorem kArg_ok : kArg fs env QL (.ok x st) = evM fs env st (kArg2 x QL) := by with_unfolding_all exact id rfl
@[simp] theorem kArg_exc : kArg fs env QL (.exc e st) = QL (.exc e st) := by with_unfolding_all exact id rfl
@[simp] theorem kArg_bad : kArg fs env QL .bad = QL .bad := by with_unfolding_all exact id rfl
@[simp] theorem evM_argsC : evM (argsC f fs) env st QL = evM f env st (kArg fs env QL) := by
  with_unfolding_all
    unfold evM
    rw [argsC_st]
    cases f env st with
    | ok x st1 =>
      rw [rb_ok2, kArg_ok]
      unfold evM
      cases fs env st1 <;> rfl
    | exc _ _ => rfl
    | bad => rfl
def kNot (Q : Res Bool → Prop) : Res Bool → Prop
  | .ok b st => Q (.ok (!b) st)
  | .exc e st => Q (.exc e st)
  | .bad => Q .bad
@[simp] theorem kNot_ok : kNot QB (.ok b st) = QB (.ok (!b) st) := by with_unfolding_all exact id rfl
@[simp] theorem kNot_exc : kNot QB (.exc e st) = QB (.exc e st) := by with_unfolding_all exact id rfl
@[simp] theorem kNot_bad : kNot QB .bad = QB .bad := by with_unfolding_all exact id rfl
@[simp] theorem evM_mNot : evM (mNot t) env st QB = evM t env st (kNot QB) := by
  with_unfolding_all
    unfold evM
    rw [mNot_st]
    cases t env st <;> rfl
def kAnd (u : Env → M Bool) (env : Env) (Q : Res Bool → Prop) : Res Bool → Prop
  | .ok b st => if b = true then evM u env st Q else Q (.ok false st)
  | .exc e st => Q (.exc e st)
  | .bad => Q .bad
@[simp] theorem kAnd_ok : kAnd u env QB (.ok b st) = if b = true then evM u env st QB else QB (.ok false st) := by with_unfolding_all exact id rfl
@[simp] theorem kAnd_exc : kAnd u env QB (.exc e st) = QB (.exc e st) := by with_unfolding_all exact id rfl
@[simp] theorem kAnd_bad : kAnd u env QB .bad = QB .bad := by with_unfolding_all exact id rfl
@[simp] theorem evM_mAnd : evM (mAnd t u) env st QB = evM t env st (kAnd u env QB) := by
  with_unfolding_all
    unfold evM
    rw [mAnd_st]
    cases t env st with
    | ok b st1 => cases b <;> rfl
    | exc _ _ => rfl
    | bad => rfl
def kOr (u : Env → M Bool) (env : Env) (Q : Res Bool → Prop) : Res Bool → Prop
  | .ok b st => if b = true then Q (.ok true st) else evM u env st Q
  | .exc e st => Q (.exc e st)
  | .bad => Q .bad
@[simp] theorem kOr_ok : kOr u env QB (.ok b st) = if b = true then QB (.ok true st) else evM u env st QB := by with_unfolding_all exact id rfl
@[simp] theorem kOr_exc : kOr u env QB (.exc e st) = QB (.exc e st) := by with_unfolding_all exact id rfl
@[simp] theorem kOr_bad : kOr u env QB .bad = QB .bad := by with_unfolding_all exact id rfl
@[simp] theorem evM_mOr : evM (mOr t u) env st QB = evM t env st (kOr u env QB) := by
  with_unfolding_all
    unfold evM
    rw [mOr_st]
    cases t env st with
    | ok b st1 => cases b <;> rfl
    | exc _ _ => rfl
    | bad => rfl
def kAndV (g : Env → M D) (env : Env) (Q : Res D → Prop) : Res Bool → Prop
  | .ok b st => if b = true then evM g env st Q else Q (.ok (.bl false) st)
  | .exc e st => Q (.exc e st)
  | .bad => Q .bad
@[simp] theorem kAndV_ok : kAndV g env Q (.ok b st) = if b = true then evM g env st Q else Q (.ok (.bl false) st) := by with_unfolding_all exact id rfl
@[simp] theorem kAndV_exc : kAndV g env Q (.exc e st) = Q (.exc e st) := by with_unfolding_all exact id rfl
@[simp] theorem kAndV_bad : kAndV g env Q .bad = Q .bad := by with_unfolding_all exact id rfl
theorem evM_tB {k : Bool → M D} {K : Res Bool → Prop} (hk : ∀ b st, Q (k b st) = K (.ok b st)) (he : ∀ e st, Q (.exc e st) = K (.exc e st)) (hb : Q .bad = K .bad) : Q ((tBool f env >>= k) st) = evM f env st (kOp1 asBO K) := by
  with_unfolding_all
    rw [bind_st, tBool_st]
    unfold evM
    cases f env st with
    | ok x st1 =>
      rw [rb_ok, kOp1_ok, rd_st]
      show _ = kO (asB x) st1 K
      cases asB x with
      | none => exact hb
      | some b => exact hk b st1
    | exc e st1 => exact he e st1
    | bad => exact hb
@[simp] theorem evM_mAndV : evM (mAndV f g) env st Q = evM f env st (kOp1 asBO (kAndV g env Q)) := by with_unfolding_all exact evM_tB (fun b st => by cases b <;> rfl) (fun _ _ => rfl) rfl
def kNotV (Q : Res D → Prop) : Res Bool → Prop
  | .ok b st => Q (.ok (.bl (!b)) st)
  | .exc e st => Q (.exc e st)
  | .bad => Q .bad
@[simp] theorem kNotV_ok : kNotV Q (.ok b st) = Q (.ok (.bl (!b)) st) := by with_unfolding_all exact id rfl
@[simp] theorem kNotV_exc : kNotV Q (.exc e st) = Q (.exc e st) := by with_unfolding_all exact id rfl
@[simp] theorem kNotV_bad : kNotV Q .bad = Q .bad := by with_unfolding_all exact id rfl
@[simp] theorem evM_mNotV : evM (mNotV f) env st Q = evM f env st (kOp1 asBO (kNotV Q)) := by with_unfolding_all exact evM_tB (fun b st => rfl) (fun _ _ => rfl) rfl
def kIfE (f g : Env → M α) (env : Env) (Q : Res α → Prop) : Res Bool → Prop
  | .ok b st => if b = true then evM f env st Q else evM g env st Q
  | .exc e st => Q (.exc e st)
  | .bad => Q .bad
@[simp] theorem kIfE_ok {f g : Env → M α} {Q : Res α → Prop} : kIfE f g env Q (.ok b st) = if b = true then evM f env st Q else evM g env st Q := by with_unfolding_all exact id rfl
@[simp] theorem kIfE_exc {f g : Env → M α} {Q : Res α → Prop} : kIfE f g env Q (.exc e st) = Q (.exc e st) := by with_unfolding_all exact id rfl
@[simp] theorem kIfE_bad {f g : Env → M α} {Q : Res α → Prop} : kIfE f g env Q .bad = Q .bad := by with_unfolding_all exact id rfl
@[simp] theorem evM_mIf {f g : Env → M α} {Q : Res α → Prop} : evM (mIf t f g) env st Q = evM t env st (kIfE f g env Q) := by
  with_unfolding_all
    unfold evM
    rw [mIf_st]
    cases t env st with
    | ok b st1 => cases b <;> rfl
    | exc _ _ => rfl
    | bad => rfl
def kCh3 (o' : D → D → Sta → Option D) (y : D) (h : Env → M D) (env : Env) (Q : Res D → Prop) : Res Bool → Prop
  | .ok b st => if b = true then evM h env st (kOp1 (o' y) Q) else Q (.ok (.bl false) st)
  | .exc e st => Q (.exc e st)
  | .bad => Q .bad
def kCh2 (o o' : D → D → Sta → Option D) (x : D) (h : Env → M D) (env : Env) (Q : Res D → Prop) : Res D → Prop
  | .ok y st => kO (o x y st) st (kOp1 asBO (kCh3 o' y h env Q))
  | .exc e st => Q (.exc e st)
  | .bad => Q .bad
def kCh1 (o o' : D → D → Sta → Option D) (g h : Env → M D) (env : Env) (Q : Res D → Prop) : Res D → Prop
  | .ok x st => evM g env st (kCh2 o o' x h env Q)
  | .exc e st => Q (.exc e st)
  | .bad => Q .bad
@[simp] theorem kCh3_ok {y : D} : kCh3 o' y h env Q (.ok b st) = if b = true then evM h env st (kOp1 (o' y) Q) else Q (.ok (.bl false) st) := by with_unfolding_all exact id rfl
@[simp] theorem kCh3_exc {y : D} : kCh3 o' y h env Q (.exc e st) = Q (.exc e st) := by with_unfolding_all exact id rfl
@[simp] theorem kCh3_bad {y : D} : kCh3 o' y h env Q .bad = Q .bad := by with_unfolding_all exact id rfl
@[simp] theorem kCh2_ok {y : D} : kCh2 o o' x h env Q (.ok y st) = kO (o x y st) st (kOp1 asBO (kCh3 o' y h env Q)) := by with_unfolding_all exact id rfl
@[simp] theorem kCh2_exc : kCh2 o o' x h env Q (.exc e st) = Q (.exc e st) := by with_unfolding_all exact id rfl
@[simp] theorem kCh2_bad : kCh2 o o' x h env Q .bad = Q .bad := by with_unfolding_all exact id rfl
@[simp] theorem kCh1_ok : kCh1 o o' g h env Q (.ok x st) = evM g env st (kCh2 o o' x h env Q) := by with_unfolding_all exact id rfl
@[simp] theorem kCh1_exc : kCh1 o o' g h env Q (.exc e st) = Q (.exc e st) := by with_unfolding_all exact id rfl
@[simp] theorem kCh1_bad : kCh1 o o' g h env Q .bad = Q .bad := by with_unfolding_all exact id rfl
@[simp] theorem evM_mChain : evM (mChain o o' f g h) env st Q = evM f env st (kCh1 o o' g h env Q) := by
  with_unfolding_all
    unfold evM
    rw [mChain_st]
    cases f env st with
    | ok x st1 =>
      rw [rb_ok2, kCh1_ok]
      unfold evM
      cases g env st1 with
      | ok y st2 =>
        rw [rb_ok2, kCh2_ok, rd_st]
        cases o x y st2 with
        | none => rfl
        | some z =>
          rw [kO_some, kOp1_ok, asBO_eq, rb_ok2, rd_st]
          cases asB z with
          | none => rfl
          | some k =>
            rw [kO_some, kCh3_ok, rb_ok2]
            cases k with
            | false => rfl
            | true =>
              show Q ((h env st2).bind fun w => M.rd (o' y w)) = evM h env st2 (kOp1 (o' y) Q)
              exact evM_bind_rd
      | exc _ _ => rfl
      | bad => rfl
    | exc _ _ => rfl
    | bad => rfl
def kCall (F : List D → M D) (Q : Res D → Prop) : Res (List D) → Prop
  | .ok ds st => evR (F ds st) Q
  | .exc e st => Q (.exc e st)
  | .bad => Q .bad
@[simp] theorem kCall_ok {F : List D → M D} {ds : List D} : kCall F Q (.ok ds st) = evR (F ds st) Q := by with_unfolding_all exact id rfl
@[simp] theorem kCall_exc {F : List D → M D} : kCall F Q (.exc e st) = Q (.exc e st) := by with_unfolding_all exact id rfl
@[simp] theorem kCall_bad {F : List D → M D} : kCall F Q .bad = Q .bad := by with_unfolding_all exact id rfl
@[simp] theorem evM_mCall {F : List D → M D} : evM (mCall fs F) env st Q = evM fs env st (kCall F Q) := by
  with_unfolding_all
    unfold evM
    rw [mCall_st]
    cases fs env st <;> rfl
def kNoX (Q : Res α → Prop) : Res α → Prop
  | .ok a st => Q (.ok a st)
  | .exc _ _ => Q .bad
  | .bad => Q .bad
@[simp] theorem kNoX_ok {Q : Res α → Prop} : kNoX Q (.ok a st) = Q (.ok a st) := by with_unfolding_all exact id rfl
@[simp] theorem kNoX_exc {Q : Res α → Prop} : kNoX Q (.exc e st) = Q .bad := by with_unfolding_all exact id rfl
@[simp] theorem kNoX_bad {Q : Res α → Prop} : kNoX Q .bad = Q .bad := by with_unfolding_all exact id rfl
def kLstF (Q : Res D → Prop) : Res (List D) → Prop
  | .ok ds st => Q (.ok (.lst ds) st)
  | .exc e st => Q (.exc e st)
  | .bad => Q .bad
@[simp] theorem kLstF_ok {ds : List D} : kLstF Q (.ok ds st) = Q (.ok (.lst ds) st) := by with_unfolding_all exact id rfl
@[simp] theorem kLstF_exc : kLstF Q (.exc e st) = Q (.exc e st) := by with_unfolding_all exact id rfl
@[simp] theorem kLstF_bad : kLstF Q .bad = Q .bad := by with_unfolding_all exact id rfl
@[simp] theorem evM_lstF : evM (lstF fs) env st Q = evM fs env st (kLstF Q) := by
  with_unfolding_all
    unfold evM
    rw [lstF_st]
    cases fs env st <;> rfl
def kSl3 (x : D) (l : Option Int) (Q : Res D → Prop) : Res (Option Int) → Prop
  | .ok u st => kO (cutD x l u st) st Q
  | .exc e st => Q (.exc e st)
  | .bad => Q .bad
def kSl2 (x : D) (hi : Env → M (Option Int)) (env : Env) (Q : Res D → Prop) : Res (Option Int) → Prop
  | .ok l st => evM hi env st (kSl3 x l Q)
  | .exc e st => Q (.exc e st)
  | .bad => Q .bad
def kSl1 (lo hi : Env → M (Option Int)) (env : Env) (Q : Res D → Prop) : Res D → Prop
  | .ok x st => evM lo env st (kSl2 x hi env Q)
  | .exc e st => Q (.exc e st)
  | .bad => Q .bad
section
variable {lo hi : Env → M (Option Int)} {l u : Option Int}
@[simp] theorem kSl3_ok : kSl3 x l Q (.ok u st) = kO (cutD x l u st) st Q := by with_unfolding_all exact id rfl
@[simp] theorem kSl3_exc : kSl3 x l Q (.exc e st) = Q (.exc e st) := by with_unfolding_all exact id rfl
@[simp] theorem kSl3_bad : kSl3 x l Q .bad = Q .bad := by with_unfolding_all exact id rfl
@[simp] theorem kSl2_ok : kSl2 x hi env Q (.ok l st) = evM hi env st (kSl3 x l Q) := by with_unfolding_all exact id rfl
@[simp] theorem kSl2_exc : kSl2 x hi env Q (.exc e st) = Q (.exc e st) := by with_unfolding_all exact id rfl
@[simp] theorem kSl2_bad : kSl2 x hi env Q .bad = Q .bad := by with_unfolding_all exact id rfl
@[simp] theorem kSl1_ok : kSl1 lo hi env Q (.ok x st) = evM lo env st (kSl2 x hi env Q) := by with_unfolding_all exact id rfl
@[simp] theorem kSl1_exc : kSl1 lo hi env Q (.exc e st) = Q (.exc e st) := by with_unfolding_all exact id rfl
@[simp] theorem kSl1_bad : kSl1 lo hi env Q .bad = Q .bad := by with_unfolding_all exact id rfl
@[simp] theorem evM_mSlice : evM (mSlice f lo hi) env st Q = evM f env st (kSl1 lo hi env Q) := by
  with_unfolding_all
    unfold evM
    rw [mSlice_st]
    cases f env st with
    | ok x st1 =>
      rw [rb_ok2, kSl1_ok]
      unfold evM
      cases lo env st1 with
      | ok l st2 =>
        rw [rb_ok2, kSl2_ok]
        show Q ((hi env st2).bind fun u => M.rd (cutD x l u)) = kSl3 x l Q (hi env st2)
        cases hi env st2 with
        | ok u st3 =>
          rw [rb_ok, rd_st, kSl3_ok]
          cases cutD x l u st3 <;> rfl
        | exc _ _ => rfl
        | bad => rfl
      | exc _ _ => rfl
      | bad => rfl
    | exc _ _ => rfl
    | bad => rfl
end
section
variable {vs vs1 : List Nat} {bind bind1 : Bnd} {t1 : Env → M Bool} {el : Env → M D} {it it1 : Env → M (List D)} {ds acc : List D}
def kLc (vs : List Nat) (bind : Bnd) (t : Env → M Bool) (el : Env → M D) (env : Env) (Q : Res (List D) → Prop) : Res (List D) → Prop
  | .ok ds st => evC vs bind t el env ds [] st Q
  | .exc e st => Q (.exc e st)
  | .bad => Q .bad
@[simp] theorem kLc_ok : kLc vs bind t el env QL (.ok ds st) = evC vs bind t el env ds [] st QL := by with_unfolding_all exact id rfl
@[simp] theorem kLc_exc : kLc vs bind t el env QL (.exc e st) = QL (.exc e st) := by with_unfolding_all exact id rfl
@[simp] theorem kLc_bad : kLc vs bind t el env QL .bad = QL .bad := by with_unfolding_all exact id rfl
@[simp] theorem evM_mLc : evM (mLc vs bind t el it) env st QL = evM it env st (kLc vs bind t el env QL) := by
  with_unfolding_all
    show QL ((it env >>= _) st) = _
    unfold evM
    rw [bind_st]
    cases it env st <;> rfl
@[simp] theorem evC_nil : evC vs bind t el env [] acc st QL = QL (.ok acc st) := by with_unfolding_all exact id rfl
def kLcE (vs : List Nat) (bind : Bnd) (t : Env → M Bool) (el : Env → M D) (env : Env) (ds acc : List D) (Q : Res (List D) → Prop) : Res D → Prop
  | .ok y st => if acc.length < sizeLine then evC vs bind t el env ds (acc ++ [y]) st Q else Q .bad
  | _ => Q .bad
def kLcT (vs : List Nat) (bind : Bnd) (t : Env → M Bool) (el : Env → M D) (env env1 : Env) (ds acc : List D) (Q : Res (List D) → Prop) : Res Bool → Prop
  | .ok b st => if b = true then evM el env1 st (kLcE vs bind t el env ds acc Q) else evC vs bind t el env ds acc st Q
  | _ => Q .bad
@[simp] theorem kLcE_ok : kLcE vs bind t el env ds acc QL (.ok x st) = if acc.length < sizeLine then evC vs bind t el env ds (acc ++ [x]) st QL else QL .bad := by with_unfolding_all exact id rfl
@[simp] theorem kLcT_ok : kLcT vs bind t el env env1 ds acc QL (.ok b st) = if b = true then evM el env1 st (kLcE vs bind t el env ds acc QL) else evC vs bind t el env ds acc st QL := by with_unfolding_all exact id rfl
theorem evC_cons (h : bind x (wipeE env vs) = some env1) : evC vs bind t el env (x :: ds) acc st QL = evM t env1 st (kLcT vs bind t el env env1 ds acc QL) := by
  with_unfolding_all
    show QL (lcGo vs bind t el env (x :: ds) acc st) = _
    unfold lcGo
    rw [h]
    dsimp only
    rw [bind_st]
    unfold evM noX
    cases t env1 st with
    | ok b st1 =>
      dsimp only
      rw [rb_ok, kLcT_ok]
      cases b with
      | false => rfl
      | true =>
        rw [if_pos rfl, if_pos rfl]
        show QL ((noX (el env1) >>= fun y => if acc.length < sizeLine then lcGo vs bind t el env ds (acc ++ [y]) else M.bad) st1) = kLcE vs bind t el env ds acc QL (el env1 st1)
        rw [bind_st]
        unfold noX
        cases el env1 st1 with
        | ok y st2 =>
          dsimp only
          rw [rb_ok, kLcE_ok]
          split <;> rfl
        | exc _ _ => rfl
        | bad => rfl
    | exc _ _ => rfl
    | bad => rfl
theorem evC_map {α : Type} {enc : α → D} {l : List α} {e1 : α → Env} {fv : α → D} (h : ∀ a ∈ l, bind (enc a) (wipeE env vs) = some (e1 a) ∧ evM t (e1 a) st (qEq (.ok true st)) ∧ evM el (e1 a) st (qEq (.ok (fv a) st))) : ∀ {acc : List D}, acc.length + l.length ≤ sizeLine →
    evC vs bind t el env (l.map enc) acc st QL = QL (.ok (acc ++ l.map fv) st) := by
  induction l with
  | nil => intro acc _; simp
  | cons a l ih =>
    intro acc hl
    obtain ⟨h1, h2, h3⟩ := h a (List.mem_cons_self ..)
    rw [List.length_cons] at hl
    rw [List.map_cons, evC_cons h1, evM_of (ev_res h2), kLcT_ok, if_pos rfl, evM_of (ev_res h3), kLcE_ok, if_pos (by omega), ih (fun a m => h a (List.mem_cons_of_mem _ m)) (by rw [List.length_append, List.length_singleton]; omega), List.append_assoc]
    rfl
theorem evC_fmap {α : Type} {enc : α → D} {l : List α} {e1 : α → Env} {p : α → Bool} {fv : α → D} (h : ∀ a ∈ l, bind (enc a) (wipeE env vs) = some (e1 a) ∧ evM t (e1 a) st (qEq (.ok (p a) st)) ∧ (p a = true → evM el (e1 a) st (qEq (.ok (fv a) st)))) : ∀ {acc : List D}, acc.length + (l.filter p).length ≤ sizeLine →
    evC vs bind t el env (l.map enc) acc st QL = QL (.ok (acc ++ (l.filter p).map fv) st) := by
  induction l with
  | nil => intro acc _; simp
  | cons a l ih =>
    intro acc hl
    obtain ⟨h1, h2, h3⟩ := h a (List.mem_cons_self ..)
    have ih' := fun (acc : List D) (q : acc.length + (l.filter p).length ≤ sizeLine) => ih (fun a m => h a (List.mem_cons_of_mem _ m)) (acc := acc) q
    rw [List.map_cons, evC_cons h1, evM_of (ev_res h2), kLcT_ok]
    rw [List.filter_cons] at hl
    cases q : p a with
    | true =>
      rw [q, if_pos rfl, List.length_cons] at hl
      rw [if_pos rfl, evM_of (ev_res (h3 q)), kLcE_ok, if_pos (by omega), ih' _ (by rw [List.length_append, List.length_singleton]; omega), List.append_assoc, List.filter_cons, if_pos q]
      rfl
    | false =>
      rw [q, if_neg Bool.false_ne_true] at hl
      rw [if_neg Bool.false_ne_true, ih' _ hl, List.filter_cons, if_neg (by rw [q]; exact Bool.false_ne_true)]
theorem small_f {α : Type} {l : List α} {p : α → Bool} (h : l.length ≤ 1000) : ([] : List D).length + (l.filter p).length ≤ sizeLine := by
  rw [List.length_nil, Nat.zero_add]
  exact small_le (Nat.le_trans (List.length_filter_le p l) h)
theorem small_m {α : Type} {l : List α} (h : l.length ≤ 1000) : ([] : List D).length + l.length ≤ sizeLine := by
  rw [List.length_nil, Nat.zero_add]
  exact small_le h
def kLcJ (I : List D → Sta → Prop) (acc : List D) : Res D → Prop
  | .ok y st => acc.length < sizeLine ∧ I (acc ++ [y]) st
  | _ => False
def kLcI (I : List D → Sta → Prop) (el : Env → M D) (env1 : Env) (acc : List D) : Res Bool → Prop
  | .ok b st => if b = true then evM el env1 st (kLcJ I acc) else I acc st
  | _ => False
theorem evC_inv {I : Nat → List D → Sta → Prop} (hs : ∀ k (h : k < ds.length) acc st, I k acc st → ∃ env1, bind ds[k] (wipeE env vs) = some env1 ∧ evM t env1 st (kLcI (fun acc st => I (k + 1) acc st) el env1 acc)) (h0 : I 0 acc st) (hq : ∀ acc' st', I ds.length acc' st' → QL (.ok acc' st')) :
    evC vs bind t el env ds acc st QL := by
  induction ds generalizing I acc st with
  | nil =>
    rw [evC_nil]
    exact hq _ _ h0
  | cons d ds ih =>
    obtain ⟨env1, e1, q⟩ := hs 0 (by simp) acc st h0
    have e1' : bind d (wipeE env vs) = some env1 := e1
    rw [evC_cons e1']
    have rec_ := fun acc st q => @ih acc st (fun k => I (k + 1)) (fun k h acc st q => hs (k + 1) (by simpa using h) acc st q) q hq
    revert q
    unfold evM
    cases t env1 st with
    | ok b st1 =>
      intro q
      rw [kLcT_ok]
      cases b with
      | false =>
        rw [if_neg Bool.false_ne_true]
        exact rec_ _ _ q
      | true =>
        rw [if_pos rfl]
        revert q
        unfold kLcI evM
        dsimp only
        rw [if_pos rfl]
        cases el env1 st1 with
        | ok y st2 =>
          intro q
          rw [kLcE_ok, if_pos q.1]
          exact rec_ _ _ q.2
        | exc _ _ => exact fun q => q.elim
        | bad => exact fun q => q.elim
    | exc _ _ => exact fun q => q.elim
    | bad => exact fun q => q.elim
@[simp] theorem kLcJ_ok {I : List D → Sta → Prop} : kLcJ I acc (.ok x st) = (acc.length < sizeLine ∧ I (acc ++ [x]) st) := by with_unfolding_all exact id rfl
@[simp] theorem kLcI_ok {I : List D → Sta → Prop} : kLcI I el env1 acc (.ok b st) = if b = true then evM el env1 st (kLcJ I acc) else I acc st := by with_unfolding_all exact id rfl
end
section
variable {a b c body : SD} {Q : SR → Prop} {d x : D} {i j n : Nat} {tg : D → SD} {tgs : List D → SD} {ds l : List D} {k : Bool} {f g : Env → M D}
def kSeq (b : SD) (Q : SR → Prop) : SR → Prop
  | .nx e s => evS b e s Q
  | r => Q r
@[simp] theorem kSeq_nx : kSeq b Q (.nx env st) = evS b env st Q := by with_unfolding_all exact id rfl
@[simp] theorem kSeq_bk : kSeq b Q (.bk env st) = Q (.bk env st) := by with_unfolding_all exact id rfl
@[simp] theorem kSeq_ct : kSeq b Q (.ct env st) = Q (.ct env st) := by with_unfolding_all exact id rfl
@[simp] theorem kSeq_rt : kSeq b Q (.rt d st) = Q (.rt d st) := by with_unfolding_all exact id rfl
@[simp] theorem kSeq_exc : kSeq b Q (.exc e env st) = Q (.exc e env st) := by with_unfolding_all exact id rfl
@[simp] theorem kSeq_bad : kSeq b Q .bad = Q .bad := by with_unfolding_all exact id rfl
@[simp] theorem evS_seq : evS (sSeq a b) env st Q = evS a env st (kSeq b Q) := by
  with_unfolding_all
    unfold evS
    rw [sSeq_st]
    cases a env st <;> rfl
@[simp] theorem evS_next : evS sNext env st Q = Q (.nx env st) := by with_unfolding_all exact id rfl
def kRet (env : Env) (Q : SR → Prop) : Res D → Prop
  | .ok d st => Q (.rt d st)
  | .exc e st => Q (.exc e env st)
  | .bad => Q .bad
@[simp] theorem kRet_ok : kRet env Q (.ok d st) = Q (.rt d st) := by with_unfolding_all exact id rfl
@[simp] theorem kRet_exc : kRet env Q (.exc e st) = Q (.exc e env st) := by with_unfolding_all exact id rfl
@[simp] theorem kRet_bad : kRet env Q .bad = Q .bad := by with_unfolding_all exact id rfl
@[simp] theorem evS_ret : evS (sRet f) env st Q = evM f env st (kRet env Q) := by
  with_unfolding_all
    show Q (sRet f env st) = kRet env Q (f env st)
    rw [sRet_st]
    cases f env st <;> rfl
def kDrop (env : Env) (Q : SR → Prop) : Res D → Prop
  | .ok _ st => Q (.nx env st)
  | .exc e st => Q (.exc e env st)
  | .bad => Q .bad
@[simp] theorem kDrop_ok : kDrop env Q (.ok d st) = Q (.nx env st) := by with_unfolding_all exact id rfl
@[simp] theorem kDrop_exc : kDrop env Q (.exc e st) = Q (.exc e env st) := by with_unfolding_all exact id rfl
@[simp] theorem kDrop_bad : kDrop env Q .bad = Q .bad := by with_unfolding_all exact id rfl
@[simp] theorem evS_drop : evS (sDrop f) env st Q = evM f env st (kDrop env Q) := by
  with_unfolding_all
    show Q (sDrop f env st) = kDrop env Q (f env st)
    rw [sDrop_st]
    cases f env st <;> rfl
def kSet (i : Nat) (env : Env) (Q : SR → Prop) : Res D → Prop
  | .ok d st => Q (.nx (env.set i (some (.fro d))) st)
  | .exc e st => Q (.exc e env st)
  | .bad => Q .bad
@[simp] theorem kSet_ok : kSet i env Q (.ok d st) = Q (.nx (env.set i (some (.fro d))) st) := by with_unfolding_all exact id rfl
@[simp] theorem kSet_exc : kSet i env Q (.exc e st) = Q (.exc e env st) := by with_unfolding_all exact id rfl
@[simp] theorem kSet_bad : kSet i env Q .bad = Q .bad := by with_unfolding_all exact id rfl
@[simp] theorem evS_set : evS (sSet i f) env st Q = evM f env st (kSet i env Q) := by
  with_unfolding_all
    show Q (sSet i f env st) = kSet i env Q (f env st)
    rw [sSet_st]
    cases f env st <;> rfl
def kIf (a b : SD) (env : Env) (Q : SR → Prop) : Res Bool → Prop
  | .ok k st => if k = true then evS a env st Q else evS b env st Q
  | .exc e st => Q (.exc e env st)
  | .bad => Q .bad
@[simp] theorem kIf_ok : kIf a b env Q (.ok k st) = if k = true then evS a env st Q else evS b env st Q := by with_unfolding_all exact id rfl
@[simp] theorem kIf_exc : kIf a b env Q (.exc e st) = Q (.exc e env st) := by with_unfolding_all exact id rfl
@[simp] theorem kIf_bad : kIf a b env Q .bad = Q .bad := by with_unfolding_all exact id rfl
@[simp] theorem evS_if : evS (sIf t a b) env st Q = evM t env st (kIf a b env Q) := by
  with_unfolding_all
    show Q (sIf t a b env st) = kIf a b env Q (t env st)
    rw [sIf_st]
    cases t env st with
    | ok k st1 => cases k <;> rfl
    | exc _ _ => rfl
    | bad => rfl
def kOwn (i : Nat) (env : Env) (Q : SR → Prop) : Res (List D) → Prop
  | .ok l st => Q (.nx (env.set i (some (.own (.lst l)))) st)
  | .exc e st => Q (.exc e env st)
  | .bad => Q .bad
@[simp] theorem kOwn_ok : kOwn i env Q (.ok l st) = Q (.nx (env.set i (some (.own (.lst l)))) st) := by with_unfolding_all exact id rfl
@[simp] theorem kOwn_exc : kOwn i env Q (.exc e st) = Q (.exc e env st) := by with_unfolding_all exact id rfl
@[simp] theorem kOwn_bad : kOwn i env Q .bad = Q .bad := by with_unfolding_all exact id rfl
@[simp] theorem evS_own : evS (sOwn i fs) env st Q = evM fs env st (kOwn i env Q) := by
  with_unfolding_all
    show Q (sOwn i fs env st) = kOwn i env Q (fs env st)
    rw [sOwn_st]
    cases fs env st <;> rfl
def kCell (i : Nat) (env : Env) (Q : SR → Prop) : Res (List D) → Prop
  | .ok l st => Q (.nx (env.set i (some (.fro (.cell st.length)))) (st ++ [.lst l]))
  | .exc e st => Q (.exc e env st)
  | .bad => Q .bad
@[simp] theorem kCell_ok : kCell i env Q (.ok l st) = Q (.nx (env.set i (some (.fro (.cell st.length)))) (st ++ [.lst l])) := by with_unfolding_all exact id rfl
@[simp] theorem kCell_exc : kCell i env Q (.exc e st) = Q (.exc e env st) := by with_unfolding_all exact id rfl
@[simp] theorem kCell_bad : kCell i env Q .bad = Q .bad := by with_unfolding_all exact id rfl
@[simp] theorem evS_cell : evS (sCell i fs) env st Q = evM fs env st (kCell i env Q) := by
  with_unfolding_all
    show Q (sCell i fs env st) = kCell i env Q (fs env st)
    rw [sCell_st]
    cases fs env st <;> rfl
@[simp] theorem evS_frz : evS (sFrz i a) env st Q = evS a (frz i env) st Q := by with_unfolding_all exact id rfl
def kApp (l : List D) (i : Nat) (env : Env) (Q : SR → Prop) : Res D → Prop
  | .ok d st => if l.length < sizeLine then Q (.nx (env.set i (some (.own (.lst (l ++ [d]))))) st) else Q .bad
  | .exc e st => Q (.exc e env st)
  | .bad => Q .bad
@[simp] theorem kApp_ok : kApp l i env Q (.ok d st) = if l.length < sizeLine then Q (.nx (env.set i (some (.own (.lst (l ++ [d]))))) st) else Q .bad := by with_unfolding_all exact id rfl
@[simp] theorem kApp_exc : kApp l i env Q (.exc e st) = Q (.exc e env st) := by with_unfolding_all exact id rfl
@[simp] theorem kApp_bad : kApp l i env Q .bad = Q .bad := by with_unfolding_all exact id rfl
def kAppO (o : Option (List D)) (i : Nat) (f : Env → M D) (env : Env) (st : Sta) (Q : SR → Prop) : Prop := match o with
  | some l => evM f env st (kApp l i env Q)
  | none => Q .bad
@[simp] theorem kAppO_some : kAppO (some l) i f env st Q = evM f env st (kApp l i env Q) := by with_unfolding_all exact id rfl
@[simp] theorem evS_app : evS (sAppO i f) env st Q = kAppO (ownL env i) i f env st Q := by
  with_unfolding_all
    show Q (sAppO i f env st) = _
    rw [sAppO_st]
    unfold kAppO
    cases ownL env i with
    | none => rfl
    | some l =>
      show _ = kApp l i env Q (f env st)
      cases f env st with
      | ok d st1 =>
        rw [kApp_ok]
        dsimp only
        split <;> rfl
      | exc _ _ => rfl
      | bad => rfl
def kTg (b : SD) (Q : SR → Prop) : SR → Prop
  | .nx e s => evS b e s Q
  | _ => Q .bad
@[simp] theorem kTg_nx : kTg b Q (.nx env st) = evS b env st Q := by with_unfolding_all exact id rfl
@[simp] theorem kTg_bad : kTg b Q .bad = Q .bad := by with_unfolding_all exact id rfl
@[simp] theorem evS_aName : evS (aName i d) env st Q = Q (.nx (env.set i (some (.fro d))) st) := by with_unfolding_all exact id rfl
@[simp] theorem evS_aTup : evS (aTup n tgs (.tup ds)) env st Q = if ds.length = n then evS (tgs ds) env st Q else Q .bad := by
  with_unfolding_all
    unfold evS
    rw [aTup_st]
    split <;> rfl
@[simp] theorem evS_aCons : evS (aCons tg tgs (d :: ds)) env st Q = evS (tg d) env st (kTg (tgs ds) Q) := by
  with_unfolding_all
    unfold evS
    rw [aCons_st]
    cases tg d env st <;> rfl
@[simp] theorem evS_aNil : evS (aNil []) env st Q = Q (.nx env st) := by with_unfolding_all exact id rfl
def kT1 (Q : SR → Prop) : SR → Prop
  | .nx e s => Q (.nx e s)
  | _ => Q .bad
@[simp] theorem kT1_nx : kT1 Q (.nx env st) = Q (.nx env st) := by with_unfolding_all exact id rfl
@[simp] theorem kT1_bad : kT1 Q .bad = Q .bad := by with_unfolding_all exact id rfl
def kAsg (c : D → SD) (env : Env) (Q : SR → Prop) : Res D → Prop
  | .ok d st => evS (c d) env st (kT1 Q)
  | .exc e st => Q (.exc e env st)
  | .bad => Q .bad
@[simp] theorem kAsg_ok : kAsg tg env Q (.ok d st) = evS (tg d) env st (kT1 Q) := by with_unfolding_all exact id rfl
@[simp] theorem kAsg_exc : kAsg tg env Q (.exc e st) = Q (.exc e env st) := by with_unfolding_all exact id rfl
@[simp] theorem kAsg_bad : kAsg tg env Q .bad = Q .bad := by with_unfolding_all exact id rfl
@[simp] theorem evS_asg : evS (sAsg f tg) env st Q = evM f env st (kAsg tg env Q) := by
  with_unfolding_all
    show Q (sAsg f tg env st) = kAsg tg env Q (f env st)
    rw [sAsg_st]
    cases f env st with
    | ok d st1 =>
      show Q (match tg d env st1 with
        | .nx env' st' => .nx env' st'
        | _ => .bad) = kT1 Q (tg d env st1)
      cases tg d env st1 <;> rfl
    | exc _ _ => rfl
    | bad => rfl
def kPar2 (i j : Nat) (x : D) (env : Env) (Q : SR → Prop) : Res D → Prop
  | .ok y st => Q (.nx ((env.set i (some (.fro x))).set j (some (.fro y))) st)
  | .exc e st => Q (.exc e env st)
  | .bad => Q .bad
def kPar (i j : Nat) (g : Env → M D) (env : Env) (Q : SR → Prop) : Res D → Prop
  | .ok x st => evM g env st (kPar2 i j x env Q)
  | .exc e st => Q (.exc e env st)
  | .bad => Q .bad
@[simp] theorem kPar2_ok : kPar2 i j x env Q (.ok d st) = Q (.nx ((env.set i (some (.fro x))).set j (some (.fro d))) st) := by with_unfolding_all exact id rfl
@[simp] theorem kPar2_exc : kPar2 i j x env Q (.exc e st) = Q (.exc e env st) := by with_unfolding_all exact id rfl
@[simp] theorem kPar2_bad : kPar2 i j x env Q .bad = Q .bad := by with_unfolding_all exact id rfl
@[simp] theorem kPar_ok : kPar i j g env Q (.ok x st) = evM g env st (kPar2 i j x env Q) := by with_unfolding_all exact id rfl
@[simp] theorem kPar_exc : kPar i j g env Q (.exc e st) = Q (.exc e env st) := by with_unfolding_all exact id rfl
@[simp] theorem kPar_bad : kPar i j g env Q .bad = Q .bad := by with_unfolding_all exact id rfl
@[simp] theorem evS_par : evS (sPar i j f g) env st Q = evM f env st (kPar i j g env Q) := by
  with_unfolding_all
    show Q (sPar i j f g env st) = kPar i j g env Q (f env st)
    rw [sPar_st]
    cases f env st with
    | ok x st1 =>
      show Q (match g env st1 with
        | .ok y st' => .nx ((env.set i (some (.fro x))).set j (some (.fro y))) st'
        | .exc e st' => .exc e env st'
        | .bad => .bad) = kPar2 i j x env Q (g env st1)
      cases g env st1 <;> rfl
    | exc _ _ => rfl
    | bad => rfl
def kSubC3 (c : Nat) (l : List D) (d : D) (o : Option Nat) (env : Env) (st : Sta) (Q : SR → Prop) : Prop := match o with
  | some j => Q (.nx env (st.set c (.lst (l.set j d))))
  | none => Q .bad
@[simp] theorem kSubC3_some {c : Nat} : kSubC3 c l d (some j) env st Q = Q (.nx env (st.set c (.lst (l.set j d)))) := by with_unfolding_all exact id rfl
def kSubC2 (c : Nat) (z : Int) (d : D) (o : Option Cell) (env : Env) (st : Sta) (Q : SR → Prop) : Prop := match o with
  | some (.lst l) => kSubC3 c l d (ixN l.length z) env st Q
  | _ => Q .bad
@[simp] theorem kSubC2_some {c : Nat} {z : Int} : kSubC2 c z d (some (.lst l)) env st Q = kSubC3 c l d (ixN l.length z) env st Q := by with_unfolding_all exact id rfl
def kSubC1 (c : D) (d : D) (env : Env) (Q : SR → Prop) : Res D → Prop
  | .ok k st => (match c, k with
    | .cell n, .int z => kSubC2 n z d st[n]? env st Q
    | _, _ => Q .bad)
  | .exc e st => Q (.exc e env st)
  | .bad => Q .bad
@[simp] theorem kSubC1_ok {z : Int} : kSubC1 (.cell n) d env Q (.ok (.int z) st) = kSubC2 n z d st[n]? env st Q := by with_unfolding_all exact id rfl
def kSubC (ix : Env → M D) (d : D) (env : Env) (Q : SR → Prop) : Res D → Prop
  | .ok c st => evM ix env st (kSubC1 c d env Q)
  | .exc e st => Q (.exc e env st)
  | .bad => Q .bad
@[simp] theorem kSubC_ok : kSubC f d env Q (.ok x st) = evM f env st (kSubC1 x d env Q) := by with_unfolding_all exact id rfl
@[simp] theorem evS_aSubC : evS (aSubC f g d) env st Q = evM f env st (kSubC g d env Q) := by
  with_unfolding_all
    show Q (aSubC f g d env st) = kSubC g d env Q (f env st)
    rw [aSubC_st]
    cases f env st with
    | ok c st1 =>
      show _ = kSubC1 c d env Q (g env st1)
      dsimp only
      cases g env st1 with
      | ok k st2 =>
        cases c with
        | cell n =>
          cases k with
          | int z =>
            rw [kSubC1_ok]
            unfold kSubC2
            dsimp only
            cases st2[n]? with
            | none => rfl
            | some cc => cases cc with
              | lst l =>
                dsimp only
                unfold kSubC3
                cases ixN l.length z <;> rfl
              | _ => rfl
          | _ => rfl
        | _ => rfl
      | exc _ _ => cases c <;> rfl
      | bad => cases c <;> rfl
    | exc _ _ => rfl
    | bad => rfl
@[simp] theorem evS_raise0 {c : Str} : evS (sRaise0 c) env st Q = Q (.exc ⟨c, []⟩ env st) := by with_unfolding_all exact id rfl
def kRaise (c : Str) (names : List Str) (env : Env) (Q : SR → Prop) : Res (List D) → Prop
  | .ok ds st => if ds.length = names.length then Q (.exc ⟨c, (names.zip ds).reverse⟩ env st) else Q .bad
  | .exc e st => Q (.exc e env st)
  | .bad => Q .bad
@[simp] theorem kRaise_ok {c : Str} {names : List Str} : kRaise c names env Q (.ok ds st) = if ds.length = names.length then Q (.exc ⟨c, (names.zip ds).reverse⟩ env st) else Q .bad := by with_unfolding_all exact id rfl
@[simp] theorem kRaise_exc {c : Str} {names : List Str} : kRaise c names env Q (.exc e st) = Q (.exc e env st) := by with_unfolding_all exact id rfl
@[simp] theorem kRaise_bad {c : Str} {names : List Str} : kRaise c names env Q .bad = Q .bad := by with_unfolding_all exact id rfl
@[simp] theorem evS_raise {c : Str} {names : List Str} : evS (sRaise c names fs) env st Q = evM fs env st (kRaise c names env Q) := by
  with_unfolding_all
    show Q (sRaise c names fs env st) = kRaise c names env Q (fs env st)
    rw [sRaise_st]
    cases fs env st with
    | ok ds st1 =>
      rw [kRaise_ok]
      dsimp only
      split <;> rfl
    | exc _ _ => rfl
    | bad => rfl
def kTry (top : Str) (errs : List Str) (hs : List HdD) (Q : SR → Prop) : SR → Prop
  | .exc e env st => evS (sHds top errs e hs) env st Q
  | r => Q r
section
variable {top : Str} {errs : List Str} {hs : List HdD} {hd : HdD}
@[simp] theorem kTry_nx : kTry top errs hs Q (.nx env st) = Q (.nx env st) := by with_unfolding_all exact id rfl
@[simp] theorem kTry_bk : kTry top errs hs Q (.bk env st) = Q (.bk env st) := by with_unfolding_all exact id rfl
@[simp] theorem kTry_ct : kTry top errs hs Q (.ct env st) = Q (.ct env st) := by with_unfolding_all exact id rfl
@[simp] theorem kTry_rt : kTry top errs hs Q (.rt d st) = Q (.rt d st) := by with_unfolding_all exact id rfl
@[simp] theorem kTry_bad : kTry top errs hs Q .bad = Q .bad := by with_unfolding_all exact id rfl
@[simp] theorem kTry_exc : kTry top errs hs Q (.exc e env st) = evS (sHds top errs e hs) env st Q := by with_unfolding_all exact id rfl
@[simp] theorem evS_try : evS (sTry top errs a hs) env st Q = evS a env st (kTry top errs hs Q) := by
  with_unfolding_all
    unfold evS sTry
    cases a env st <;> rfl
@[simp] theorem evS_hds_nil : evS (sHds top errs e []) env st Q = Q (.exc e env st) := by with_unfolding_all exact id rfl
def kClr (s : Option Nat) (Q : SR → Prop) (r : SR) : Prop := Q (clrR s r)
@[simp] theorem kClr_nx {s : Option Nat} : kClr s Q (.nx env st) = Q (.nx (clrE env s) st) := by with_unfolding_all exact id rfl
@[simp] theorem kClr_rt {s : Option Nat} : kClr s Q (.rt d st) = Q (.rt d st) := by with_unfolding_all exact id rfl
@[simp] theorem kClr_bad {s : Option Nat} : kClr s Q .bad = Q .bad := by with_unfolding_all exact id rfl
@[simp] theorem clrE_none : clrE env none = env := by with_unfolding_all exact id rfl
@[simp] theorem clrE_some : clrE env (some i) = env.set i none := by with_unfolding_all exact id rfl
@[simp] theorem evS_hds_cons : evS (sHds top errs e (hd :: hs)) env st Q = if errs.contains e.c = true then (if isSub top e.c hd.c = true then (if slotOk hd.slot env = true then evS (hd.f e) (clrE env hd.slot) st (kClr hd.slot Q) else Q .bad) else evS (sHds top errs e hs) env st Q) else Q .bad := by
  with_unfolding_all
    show Q (if errs.contains e.c then (if isSub top e.c hd.c then (if slotOk hd.slot env then clrR hd.slot (hd.f e (clrE env hd.slot) st) else .bad) else sHds top errs e hs env st) else .bad) = _
    split
    · split
      · split <;> rfl
      · rfl
    · rfl
end
@[simp] theorem slotOk_none : slotOk none env = true := by with_unfolding_all exact id rfl
@[simp] theorem slotOk_some : slotOk (some i) env = decide (i < env.length) := by with_unfolding_all exact id rfl
def kFor (tg : D → SD) (body : SD) (env : Env) (Q : SR → Prop) : Res (List D) → Prop
  | .ok ds st => evL tg body ds env st Q
  | .exc e st => Q (.exc e env st)
  | .bad => Q .bad
@[simp] theorem kFor_ok : kFor tg body env Q (.ok ds st) = evL tg body ds env st Q := by with_unfolding_all exact id rfl
@[simp] theorem kFor_exc : kFor tg body env Q (.exc e st) = Q (.exc e env st) := by with_unfolding_all exact id rfl
@[simp] theorem kFor_bad : kFor tg body env Q .bad = Q .bad := by with_unfolding_all exact id rfl
@[simp] theorem evS_for : evS (sFor fs tg body) env st Q = evM fs env st (kFor tg body env Q) := by
  with_unfolding_all
    show Q (sFor fs tg body env st) = kFor tg body env Q (fs env st)
    rw [sFor_st]
    cases fs env st <;> rfl
@[simp] theorem evL_nil : evL tg body [] env st Q = Q (.nx env st) := by with_unfolding_all exact id rfl
def kL2 (tg : D → SD) (body : SD) (ds : List D) (Q : SR → Prop) : SR → Prop
  | .nx e s => evL tg body ds e s Q
  | .ct e s => evL tg body ds e s Q
  | .bk e s => Q (.nx e s)
  | r => Q r
@[simp] theorem kL2_nx : kL2 tg body ds Q (.nx env st) = evL tg body ds env st Q := by with_unfolding_all exact id rfl
@[simp] theorem kL2_ct : kL2 tg body ds Q (.ct env st) = evL tg body ds env st Q := by with_unfolding_all exact id rfl
@[simp] theorem kL2_bk : kL2 tg body ds Q (.bk env st) = Q (.nx env st) := by with_unfolding_all exact id rfl
@[simp] theorem kL2_rt : kL2 tg body ds Q (.rt d st) = Q (.rt d st) := by with_unfolding_all exact id rfl
@[simp] theorem kL2_exc : kL2 tg body ds Q (.exc e env st) = Q (.exc e env st) := by with_unfolding_all exact id rfl
@[simp] theorem kL2_bad : kL2 tg body ds Q .bad = Q .bad := by with_unfolding_all exact id rfl
theorem evL_cons : evL tg body (x :: ds) env st Q = evS (tg x) env st (kTg body (kL2 tg body ds Q)) := by
  with_unfolding_all
    unfold evL evS
    show Q (match tg x env st with
      | .nx env1 st1 => (match body env1 st1 with
        | .nx env2 st2 => sLoop tg body ds env2 st2
        | .ct env2 st2 => sLoop tg body ds env2 st2
        | .bk env2 st2 => .nx env2 st2
        | r => r)
      | _ => .bad) = _
    cases tg x env st with
    | nx env1 st1 =>
      show _ = kL2 tg body ds Q (body env1 st1)
      dsimp only
      cases body env1 st1 <;> rfl
    | _ => rfl
def kI (I : Env → Sta → Prop) (Q : SR → Prop) : SR → Prop
  | .nx e s => I e s
  | .ct e s => I e s
  | .bk e s => Q (.nx e s)
  | r => Q r
section
variable {I : Env → Sta → Prop}
@[simp] theorem kI_nx : kI I Q (.nx env st) = I env st := by with_unfolding_all exact id rfl
@[simp] theorem kI_ct : kI I Q (.ct env st) = I env st := by with_unfolding_all exact id rfl
@[simp] theorem kI_bk : kI I Q (.bk env st) = Q (.nx env st) := by with_unfolding_all exact id rfl
@[simp] theorem kI_rt : kI I Q (.rt d st) = Q (.rt d st) := by with_unfolding_all exact id rfl
@[simp] theorem kI_exc : kI I Q (.exc e env st) = Q (.exc e env st) := by with_unfolding_all exact id rfl
@[simp] theorem kI_bad : kI I Q .bad = Q .bad := by with_unfolding_all exact id rfl
end
theorem evS_mono {Q Q' : SR → Prop} (h : evS a env st Q) (m : ∀ r, Q r → Q' r) : evS a env st Q' := by with_unfolding_all exact m _ h
theorem evL_inv {α : Type} {enc : α → D} {body : SD} (I : List α → Env → Sta → Prop) (hs : ∀ a l env st, I (a :: l) env st → evS (tg (enc a)) env st (kTg body (kI (I l) Q))) (hq : ∀ env st, I [] env st → Q (.nx env st)) : ∀ {l : List α} {env : Env} {st : Sta}, I l env st → evL tg body (l.map enc) env st Q
  | [], env, st, h => by
    rw [List.map_nil, evL_nil]
    exact hq env st h
  | a :: l, env, st, h => by
    rw [List.map_cons, evL_cons]
    refine evS_mono (hs a l env st h) fun r z => ?_
    cases r with
    | nx env1 st1 =>
      show evS body env1 st1 (kL2 tg body (l.map enc) Q)
      refine evS_mono (a := body) (show evS body env1 st1 (kI (I l) Q) from z) fun r z => ?_
      cases r with
      | nx e s => exact evL_inv I hs hq z
      | ct e s => exact evL_inv I hs hq z
      | _ => exact z
    | _ => exact z
theorem evL_num {body : SD} (I : Nat → Env → Sta → Prop) (hs : ∀ k (h : k < ds.length) env st, I k env st → evS (tg ds[k]) env st (kTg body (kI (I (k + 1)) Q))) (hq : ∀ env st, I ds.length env st → Q (.nx env st)) {env : Env} {st : Sta} (h : I 0 env st) : evL tg body ds env st Q := by
  induction ds generalizing I env st with
  | nil =>
    rw [evL_nil]
    exact hq env st h
  | cons d ds ih =>
    rw [evL_cons]
    refine evS_mono (hs 0 (by simp) env st h) fun r z => ?_
    have rec_ := fun e s q => @ih (fun k => I (k + 1)) (fun k h env st q => hs (k + 1) (by simpa using h) env st q) hq e s q
    cases r with
    | nx env1 st1 =>
      show evS body env1 st1 (kL2 tg body ds Q)
      refine evS_mono (a := body) (show evS body env1 st1 (kI (I 1) Q) from z) fun r z => ?_
      cases r with
      | nx e s => exact rec_ _ _ z
      | ct e s => exact rec_ _ _ z
      | _ => exact z
    | _ => exact z
def kRun (Q : Res D → Prop) : SR → Prop
  | .nx _ s => Q (.ok .non s)
  | .rt d s => Q (.ok d s)
  | .exc e _ s => Q (.exc e s)
  | _ => Q .bad
variable {QD : Res D → Prop}
@[simp] theorem kRun_nx : kRun QD (.nx env st) = QD (.ok .non st) := by with_unfolding_all exact id rfl
@[simp] theorem kRun_rt : kRun QD (.rt d st) = QD (.ok d st) := by with_unfolding_all exact id rfl
@[simp] theorem kRun_exc : kRun QD (.exc e env st) = QD (.exc e st) := by with_unfolding_all exact id rfl
@[simp] theorem kRun_bad : kRun QD .bad = QD .bad := by with_unfolding_all exact id rfl
@[simp] theorem evR_runB : evR (runB n a ds st) QD = evS a (env0 n ds) st (kRun QD) := by
  with_unfolding_all
    show QD (runB n a ds st) = _
    unfold runB evS
    cases a (env0 n ds) st <;> rfl
end
end
end
end PL
set_option Elab.async false
set_option linter.all false
set_option maxRecDepth 100000
set_option maxHeartbeats 4000000
namespace PL
open PySem PySem.Spec PyProof.Rows L2
section
variable {env env1 : Env} {st : Sta} {e : Exn} {d x : D} {f g h : Env → M D} {Q : Res D → Prop} {fs : Env → M (List D)} {QL : Res (List D) → Prop} {QS : SR → Prop}
@[simp] theorem truth_non : truth .non = some false := rfl
def kProp (c : Str) (F : List D → M D) (Q : Res D → Prop) : Res D → Prop
  | .ok x st => if isObj c x st = true then evR (F [x] st) (kNoX Q) else Q .bad
  | .exc e st => Q (.exc e st)
  | .bad => Q .bad
@[simp] theorem kProp_ok {c : Str} {F : List D → M D} : kProp c F Q (.ok x st) = if isObj c x st = true then evR (F [x] st) (kNoX Q) else Q .bad := by with_unfolding_all exact id rfl
@[simp] theorem kProp_exc {c : Str} {F : List D → M D} : kProp c F Q (.exc e st) = Q (.exc e st) := by with_unfolding_all exact id rfl
@[simp] theorem kProp_bad {c : Str} {F : List D → M D} : kProp c F Q .bad = Q .bad := by with_unfolding_all exact id rfl
@[simp] theorem evM_mProp {c : Str} {F : List D → M D} : evM (mProp c F f) env st Q = evM f env st (kProp c F Q) := by
  with_unfolding_all
    show Q ((f env >>= _) st) = _
    unfold evM
    rw [bind_st]
    cases f env st with
    | ok x st1 =>
      show Q ((chk (isObj c) x st1).bind _) = _
      rw [chk_st]
      show _ = (if isObj c x st1 = true then evR (F [x] st1) (kNoX Q) else Q .bad)
      split
      · show Q (noX (F [x]) st1) = _
        unfold noX evR
        cases F [x] st1 <;> rfl
      · rfl
    | exc _ _ => rfl
    | bad => rfl
@[simp] theorem isObj_obj {c c' : Str} {l : List (Str × D)} : isObj c (.obj c' l) st = (c' == c) := rfl
section
variable {i j k : Nat} {y : D} {z : List D} {l : Env → M (List D)}
end
end
section
variable {env : Env} {st : Sta} {e : Exn} {d : D} {Q : SR → Prop} {c : Env → M Bool} {body : SD} {n : Nat} {tg : D → SD}
theorem evL_upto {enc : Nat → D} (I : Nat → Env → Sta → Prop) (hs : ∀ k, k < n → ∀ env st, I k env st → evS (tg (enc k)) env st (kTg body (kI (I (k + 1)) Q))) (hq : ∀ env st, I n env st → Q (.nx env st)) {env : Env} {st : Sta} (h : I 0 env st) : evL tg body ((List.range n).map enc) env st Q := by
  refine evL_num I (fun k hk env st h => ?_) (fun env st h => hq env st (by simpa using h)) h
  have : ((List.range n).map enc)[k] = enc k := by simp
  rw [this]
  exact hs k (by simpa using hk) env st h
end
section
variable {st : Sta} {i j : Int}
theorem cut_from {l : List D} {k : Nat} (h : k ≤ l.length) : cutD (.tup l) (some (k : Int)) none st = some (.tup (l.drop k)) := by
  show some (D.tup (cutG l (some (k : Int)) none)) = _
  unfold cutG
  rw [HT.sIx_nat, HT.sIx_none, Nat.min_eq_left h, List.take_of_length_le (by rw [List.length_drop]; exact Nat.le_refl _)]
theorem cut_to {l : List D} {k : Nat} (h : k ≤ l.length) : cutD (.tup l) none (some (k : Int)) st = some (.tup (l.take k)) := by
  show some (D.tup (cutG l none (some (k : Int)))) = _
  unfold cutG
  rw [HT.sIx_nat, HT.sIx_none, Nat.min_eq_left h, List.drop_zero, Nat.sub_zero]
theorem cut_toL {l : List D} {k : Nat} : cutD (.lst l) none (some (k : Int)) st = some (.lst (l.take k)) := by
  show some (D.lst (cutG l none (some (k : Int)))) = _
  unfold cutG
  rw [HT.sIx_nat, HT.sIx_none, List.drop_zero, Nat.sub_zero]
  congr 2
  rw [List.take_eq_take_iff]
  omega
theorem rep_flat {α : Type} {a : α} : ∀ n : Nat, (List.replicate n [a]).flatten = List.replicate n a
  | 0 => rfl
  | n + 1 => by rw [List.replicate_succ, List.flatten_cons, rep_flat n]; rfl
end
section
variable {env : Env} {st : Sta} {Q : SR → Prop} {j : Nat} {fs : Exn → Option (List D)} {ex : Exn} {ds : List D} {c f : Str} {x y : D}
theorem evS_xSet (h : fs ex = some ds) (hl : ds.length ≤ 1000) : evS (xSet j fs ex) env st Q = Q (.nx (env.set j (some (.fro (.lst ds)))) st) := by
  with_unfolding_all
    show Q (xSet j fs ex env st) = _
    unfold xSet
    rw [h]
    dsimp only
    rw [if_pos hl]
@[simp] theorem xFld_1 : xFld c f xNil ⟨c, [(f, x)]⟩ = some [x] := by simp [xFld, xNil]
@[simp] theorem evS_xSet1 : evS (xSet j (xFld c f xNil) ⟨c, [(f, x)]⟩) env st Q = Q (.nx (env.set j (some (.fro (.lst [x])))) st) := evS_xSet xFld_1 (by simp)
end
end PL
set_option Elab.async false
set_option linter.all false
set_option maxRecDepth 100000
set_option maxHeartbeats 2000000
namespace PL
open PySem PySem.Spec PyProof.Rows L2
section
variable {X : Cx} {B : Bs} {W : WX} {o e : Expr} {f g : Env → M D}
end
section
variable {K : PySem.W.Frag} {mg : Str → Option Value} {F : Hp} {A : List Addr} {X : Cx}
variable {B : Bs} {W : WX} {e : Expr} {f : Env → M D}
inductive PJd (X : Cx) (B : Bs) (W : WX) : List Expr → List (Env → M D) → Prop where
  | nil : PJd X B W [] []
  | cons {e : Expr} {f : Env → M D} {es : List Expr} {fs : List (Env → M D)} : PE X e (rE X.K X.mg B W f) → PJd X B W es fs → PJd X B W (e :: es) (f :: fs)
end
section
variable {f g : Env → M D} {env : Env} {st : Sta} {Q : Res D → Prop} {e : Exn} {d : D} {o : Str → D → Sta → Option D}
end
end PL
set_option Elab.async false
set_option linter.all false
set_option maxRecDepth 100000
set_option maxHeartbeats 2000000
namespace PL
open PySem PySem.Spec PyProof.Rows L2
section
variable {X : Cx} {B : Bs} {W : WX} {f g : Env → M D} {a : Expr} {pos : Pos}
end
section
variable {f : Env → M D} {env : Env} {st : Sta} {Q : Res D → Prop} {l : List D} {i : Nat} {z : Int}
end
end PL
set_option Elab.async false
set_option linter.all false
set_option maxRecDepth 100000
set_option maxHeartbeats 2000000
namespace PL
open PySem PySem.Spec PyProof.Rows L2
section
variable {X : Cx} {B : Bs} {W : WX} {o e : Expr} {es : List Expr} {m : Str} {C f : Addr} {fd : FuncData} {ps : List Str} {k : Nat} {F : List D → M D} {fo : Env → M D} {fs : Env → M (List D)} {apos pos : Pos}
end
end PL
set_option Elab.async false
set_option linter.all false
set_option maxRecDepth 100000
set_option maxHeartbeats 4000000
namespace PL
open PySem PySem.Spec PyProof.Rows L2
def b_law_taken : SD := (sSeq (sIf (tBool (op2 gtD (op2 ixD (vr 0) (cn (.int 3))) (cn (.int 0)))) (sSeq (sSet 2 (op2 modD (opN intD (argsC (op2 ixD (vr 0) (cn (.int 3))) args0)) (vr 1))) (sSeq (sAsg (op2 fdvD (op2 ixD (vr 0) (cn (.int 3))) (vr 1)) (aSubC (vr 0) (cn (.int 3)))) (sRet (vr 2)))) sNext) (sSeq (sAsg (op2 addD (op2 ixD (vr 0) (cn (.int 1))) (cn (.int 1))) (aSubC (vr 0) (cn (.int 1)))) (sSeq (sIf (tBool (op2 gtD (op2 ixD (vr 0) (cn (.int 1))) (opN lenD (argsC (op2 ixD (vr 0) (cn (.int 0))) args0)))) (sSeq (sAsg (op2 modD (opN intD (argsC (op2 addD (op2 mulD (op2 ixD (vr 0) (cn (.int 2))) (cn (.int 48271))) (cn (.int 11))) args0)) (cn (.int 2147483647))) (aSubC (vr 0) (cn (.int 2)))) (sRet (op2 modD (opN intD (argsC (op2 fdvD (op2 ixD (vr 0) (cn (.int 2))) (cn (.int 7))) args0)) (vr 1)))) sNext) (sSeq (sSet 3 (op2 ixD (op2 ixD (vr 0) (cn (.int 0))) (op2 subD (op2 ixD (vr 0) (cn (.int 1))) (cn (.int 1))))) (sSeq (sAsg (op2 modD (opN intD (argsC (op2 addD (op2 addD (op2 mulD (op2 ixD (vr 0) (cn (.int 2))) (cn (.int 48271))) (vr 3)) (cn (.int 11))) args0)) (cn (.int 2147483647))) (aSubC (vr 0) (cn (.int 2)))) (sSeq (sIf (tBool (op2 geD (vr 3) (op2 powD (cn (.int 10)) (cn (.int 18))))) (sAsg (op2 fdvD (vr 3) (vr 1)) (aSubC (vr 0) (cn (.int 3)))) sNext) (sRet (op2 modD (opN intD (argsC (vr 3) args0)) (vr 1)))))))))
def m_law_taken : List D → M D := runB 4 b_law_taken

def RowOk (r : Cell) : Prop := ∃ (ns : List Int) (p s c : Int), r = .lst [.fix (ns.map .int), .int p, .int s, .int c] ∧ 0 ≤ p ∧ 0 ≤ c
@[simp] theorem env0_2 {n : Nat} {a b : D} : env0 (n + 2) [a, b] = some (.fro a) :: some (.fro b) :: List.replicate n none := rfl
@[simp] theorem ixD_c0 {i : Int} {rest : Sta} {l : List D} : ixD (.cell 0) (.int i) (.lst l :: rest) = atI l i := rfl
theorem log_many {many : Int} (h0 : 0 < many) (h1 : many ≤ 10 ^ 60) : many.natAbs.log2 < 9000 := by
  have h2 : many.natAbs < 2 ^ 200 := by omega
  have h3 : many.natAbs.log2 < 200 := (Nat.log2_lt (by omega)).mpr h2
  omega
theorem fdv_many {many : Int} (h0 : 0 < many) (h1 : many ≤ 10 ^ 60) (i : Int) (st : Sta) : fdvD (.int i) (.int many) st = some (.int (i / many)) := if_pos ⟨h0, .inr (log_many h0 h1)⟩
theorem mul_48271 {i : Int} {st : Sta} : mulD (.int i) (.int 48271) st = some (.int (i * 48271)) := mulD_int (by
  unfold mulOk
  simp)
theorem taken_ok {r : Cell} {rest : Sta} {many : Int} (hr : RowOk r) (h0 : 0 < many) (h1 : many ≤ 10 ^ 60) :
    ∃ (x : Int) (r' : Cell), m_law_taken [.cell 0, .int many] (r :: rest) = .ok (.int x) (r' :: rest) ∧ RowOk r' ∧ 0 ≤ x ∧ x < many := by
  obtain ⟨ns, p, s, c, rfl, hp, hc⟩ := hr
  have hdiv := fdv_many h0 h1
  have hm : ∀ i : Int, 0 ≤ i % many ∧ i % many < many := fun i => ⟨Int.emod_nonneg _ (by omega), Int.emod_lt_of_pos _ h0⟩
  by_cases c0 : c > 0
  · refine ⟨c % many, .lst [.fix (ns.map .int), .int p, .int s, .int (c / many)], ?_, ⟨ns, p, s, c / many, rfl, hp, Int.ediv_nonneg hc (by omega)⟩, hm _⟩
    unfold m_law_taken b_law_taken runB
    simp [c0, hdiv, h0, ixN]
  · by_cases p0 : (ns.length : Int) < p + 1
    · refine ⟨(s * 48271 + 11) % 2147483647 / 7 % many, .lst [.fix (ns.map .int), .int (p + 1), .int ((s * 48271 + 11) % 2147483647), .int c], ?_, ⟨ns, p + 1, _, c, rfl, by omega, hc⟩, hm _⟩
      unfold m_law_taken b_law_taken runB
      simp [c0, h0, ixN, p0, mul_48271]
    · obtain ⟨k, rfl⟩ := Int.eq_ofNat_of_zero_le hp
      have hk : k < ns.length := by omega
      have hat : atI (ns.map D.int) (k : Int) = some (.int ns[k]) := by
        rw [atI_nat (by simpa using hk)]
        simp
      by_cases n0 : 1000000000000000000 ≤ ns[k]
      · refine ⟨ns[k] % many, .lst [.fix (ns.map .int), .int (k + 1), .int ((s * 48271 + ns[k] + 11) % 2147483647), .int (ns[k] / many)], ?_, ⟨ns, k + 1, _, _, rfl, by omega, Int.ediv_nonneg (by omega) (by omega)⟩, hm _⟩
        unfold m_law_taken b_law_taken runB
        simp [c0, h0, ixN, p0, mul_48271, hat, n0, hdiv]
      · refine ⟨ns[k] % many, .lst [.fix (ns.map .int), .int (k + 1), .int ((s * 48271 + ns[k] + 11) % 2147483647), .int c], ?_, ⟨ns, k + 1, _, _, rfl, by omega, hc⟩, hm _⟩
        unfold m_law_taken b_law_taken runB
        simp [c0, h0, ixN, p0, mul_48271, hat, n0, hdiv]
def cellD (c : Int × Int) : D := .tup [.int c.1, .int c.2]
def rowD (r : List (Int × Int)) : D := .tup (r.map cellD)
def rowsD (rs : List (List (Int × Int))) : D := .tup (rs.map rowD)
@[simp] theorem env0_3 {n : Nat} {a b c : D} : env0 (n + 3) [a, b, c] = some (.fro a) :: some (.fro b) :: some (.fro c) :: List.replicate n none := rfl
@[simp] theorem env0_1 {n : Nat} {a : D} : env0 (n + 1) [a] = some (.fro a) :: List.replicate n none := rfl
@[simp] theorem env0_4 {n : Nat} {a b c d : D} : env0 (n + 4) [a, b, c, d] = some (.fro a) :: some (.fro b) :: some (.fro c) :: some (.fro d) :: List.replicate n none := rfl
end PL
set_option Elab.async false
set_option linter.all false
set_option maxRecDepth 100000
set_option maxHeartbeats 4000000
namespace PL
open PySem PySem.Spec PyProof.Rows L2
def b_is_from : SD := (sRet (mAndV (op1 (isiT "int" CS) (vr 0)) (mAndV (mNotV (op1 (isiT "bool" CS) (vr 0))) (mChain leD leD (vr 1) (vr 0) (vr 2)))))
def m_is_from : List D → M D := runB 3 b_is_from

def b_is_cell : SD := (sSeq (sIf (mOr (mNot (tst (op1 (isiT "tuple" CS) (vr 0)))) (mOr (tBool (op2 neD (opN lenD (argsC (vr 0) args0)) (cn (.int 2)))) (mNot (tst (mCall (argsC (op2 ixD (vr 0) (cn (.int 1))) (argsC (cn (.int 0)) (argsC (cn (.int (1000000000000000000000000000000))) args0))) (argN 3 m_is_from)))))) (sRet (cn (.bl false))) sNext) (sRet (mCall (argsC (op2 ixD (vr 0) (cn (.int 0))) (argsC (cn (.int 0)) (argsC (op2 ixD (vr 0) (cn (.int 1))) args0))) (argN 3 m_is_from))))
def m_is_cell : List D → M D := runB 1 b_is_cell

def c_is_group_1 : Env → M (List D) := (mLc [1] (bName 1) yes (mCall (argsC (vr 1) args0) (argN 1 m_is_cell)) (itO seqIt (vr 0)))
def b_is_group : SD := (sRet (mAndV (op1 (isiT "tuple" CS) (vr 0)) (mAndV (mChain leD leD (cn (.int 2)) (opN lenD (argsC (vr 0) args0)) (cn (.int (4)))) (opN allD (argsC (lstF c_is_group_1) args0)))))
def m_is_group : List D → M D := runB 2 b_is_group

def l_Table_init_1 : SD := (sIf (mOr (mNot (tst (mCall (argsC (vr 3) args0) (argN 1 m_is_group)))) (tBool (op2 neD (opN lenD (argsC (vr 3) args0)) (opN lenD (argsC (op2 ixD (vr 1) (cn (.int 0))) args0))))) (sRaise "BadGroups" ["index"] (argsC (vr 2) args0)) sNext)
def b_Table_init : SD := (sSeq (sIf (mOr (mNot (tst (op1 (isiT "tuple" CS) (vr 1)))) (mNot (tBool (mChain leD leD (cn (.int 1)) (opN lenD (argsC (vr 1) args0)) (cn (.int (8))))))) (sRaise "BadGroups" ["index"] (argsC (cn .non) args0)) sNext) (sSeq (sFor (itN enumD (argsC (vr 1) args0)) (aTup 2 (aCons (aName 2) (aCons (aName 3) aNil))) l_Table_init_1) (sFldC "Table" "rows" (vr 0) (vr 1))))
def m_Table_init : List D → M D := runB 4 b_Table_init

def kn : D → Bool
  | .fn _ => false
  | .cell _ => false
  | .obj c _ => CS.contains c
  | _ => true
def isI : D → Bool
  | .int _ => true
  | _ => false
def isBl : D → Bool
  | .bl _ => true
  | _ => false
def isTu : D → Bool
  | .tup _ => true
  | _ => false
theorem kinds : kitB "NoneType" "int" = some false ∧ kitB "bool" "int" = some true ∧ kitB "int" "int" = some true ∧ kitB "str" "int" = some false ∧ kitB "tuple" "int" = some false ∧ kitB "list" "int" = some false ∧ kitB "dict" "int" = some false ∧
    kitB "NoneType" "bool" = some false ∧ kitB "bool" "bool" = some true ∧ kitB "int" "bool" = some false ∧ kitB "str" "bool" = some false ∧ kitB "tuple" "bool" = some false ∧ kitB "list" "bool" = some false ∧ kitB "dict" "bool" = some false ∧
    kitB "NoneType" "tuple" = some false ∧ kitB "bool" "tuple" = some false ∧ kitB "int" "tuple" = some false ∧ kitB "str" "tuple" = some false ∧ kitB "tuple" "tuple" = some true ∧ kitB "list" "tuple" = some false ∧ kitB "dict" "tuple" = some false := by decide +kernel
theorem isiT_int_kn {d : D} {st : Sta} (h : kn d = true) : isiT "int" CS d st = some (.bl (isI d || isBl d)) := by
  obtain ⟨a1, a2, a3, a4, a5, a6, a7, _⟩ := kinds
  cases d with
  | non => show (kitB "NoneType" "int").map D.bl = _; rw [a1]; rfl
  | bl b => show (kitB "bool" "int").map D.bl = _; rw [a2]; rfl
  | int i => show (kitB "int" "int").map D.bl = _; rw [a3]; rfl
  | str x => show (kitB "str" "int").map D.bl = _; rw [a4]; rfl
  | tup l => show (kitB "tuple" "int").map D.bl = _; rw [a5]; rfl
  | lst l => show (kitB "list" "int").map D.bl = _; rw [a6]; rfl
  | fix l => show (kitB "list" "int").map D.bl = _; rw [a6]; rfl
  | dct l => show (kitB "dict" "int").map D.bl = _; rw [a7]; rfl
  | obj c fs =>
    have h' : CS.contains c = true := h
    show (if CS.contains c then some (D.bl false) else none) = _
    rw [if_pos h']
    rfl
  | cell k => cases h
  | fn x => cases h
theorem isiT_bool_kn {d : D} {st : Sta} (h : kn d = true) : isiT "bool" CS d st = some (.bl (isBl d)) := by
  obtain ⟨_, _, _, _, _, _, _, a1, a2, a3, a4, a5, a6, a7, _⟩ := kinds
  cases d with
  | non => show (kitB "NoneType" "bool").map D.bl = _; rw [a1]; rfl
  | bl b => show (kitB "bool" "bool").map D.bl = _; rw [a2]; rfl
  | int i => show (kitB "int" "bool").map D.bl = _; rw [a3]; rfl
  | str x => show (kitB "str" "bool").map D.bl = _; rw [a4]; rfl
  | tup l => show (kitB "tuple" "bool").map D.bl = _; rw [a5]; rfl
  | lst l => show (kitB "list" "bool").map D.bl = _; rw [a6]; rfl
  | fix l => show (kitB "list" "bool").map D.bl = _; rw [a6]; rfl
  | dct l => show (kitB "dict" "bool").map D.bl = _; rw [a7]; rfl
  | obj c fs =>
    have h' : CS.contains c = true := h
    show (if CS.contains c then some (D.bl false) else none) = _
    rw [if_pos h']
    rfl
  | cell k => cases h
  | fn x => cases h
theorem isiT_tup_kn {d : D} {st : Sta} (h : kn d = true) : isiT "tuple" CS d st = some (.bl (isTu d)) := by
  obtain ⟨_, _, _, _, _, _, _, _, _, _, _, _, _, _, a1, a2, a3, a4, a5, a6, a7⟩ := kinds
  cases d with
  | non => show (kitB "NoneType" "tuple").map D.bl = _; rw [a1]; rfl
  | bl b => show (kitB "bool" "tuple").map D.bl = _; rw [a2]; rfl
  | int i => show (kitB "int" "tuple").map D.bl = _; rw [a3]; rfl
  | str x => show (kitB "str" "tuple").map D.bl = _; rw [a4]; rfl
  | tup l => show (kitB "tuple" "tuple").map D.bl = _; rw [a5]; rfl
  | lst l => show (kitB "list" "tuple").map D.bl = _; rw [a6]; rfl
  | fix l => show (kitB "list" "tuple").map D.bl = _; rw [a6]; rfl
  | dct l => show (kitB "dict" "tuple").map D.bl = _; rw [a7]; rfl
  | obj c fs =>
    have h' : CS.contains c = true := h
    show (if CS.contains c then some (D.bl false) else none) = _
    rw [if_pos h']
    rfl
  | cell k => cases h
  | fn x => cases h
def isFromD (d : D) (lo hi : Int) : Bool := match d with
  | .int i => decide (lo ≤ i) && decide (i ≤ hi)
  | _ => false
theorem is_from_ok {d : D} {lo hi : Int} {st : Sta} (h : kn d = true) : m_is_from [d, .int lo, .int hi] st = .ok (.bl (isFromD d lo hi)) st := by
  have h1 := isiT_int_kn (st := st) h
  have h2 := isiT_bool_kn (st := st) h
  unfold m_is_from b_is_from
  refine runB_rt (ret_ok ?_)
  cases d with
  | int i =>
    by_cases c : lo ≤ i <;> simp [h1, h2, isI, isBl, isFromD, c]
  | bl b => simp [h1, h2, isI, isBl, isFromD]
  | _ => simp [h1, isI, isBl, isFromD]
def isCellD : D → Bool
  | .tup [a, .int t] => isFromD (.int t) 0 1000000000000000000000000000000 && isFromD a 0 t
  | _ => false
def kn2 (d : D) : Bool := kn d && match d with
  | .tup l => l.all kn
  | _ => true
theorem is_cell_ok {d : D} {st : Sta} (h : kn2 d = true) : m_is_cell [d] st = .ok (.bl (isCellD d)) st := by
  obtain ⟨hk, hl⟩ := Bool.and_eq_true_iff.mp h
  have h1 := isiT_tup_kn (st := st) hk
  unfold m_is_cell b_is_cell
  cases d with
  | tup l =>
    by_cases hn : (l.length : Int) = 2
    · match l, hn, hl with
      | [a, b], _, hl =>
        have ha : kn a = true := List.all_eq_true.mp hl a (by simp)
        have hb : kn b = true := List.all_eq_true.mp hl b (by simp)
        have fb := is_from_ok (lo := 0) (hi := 1000000000000000000000000000000) (st := st) hb
        cases e : isFromD b 0 1000000000000000000000000000000 with
        | true =>
          cases b with
          | int t =>
            have fa := is_from_ok (lo := 0) (hi := t) (st := st) ha
            refine runB_rt (seq_nx (env1 := [some (.fro (.tup [a, .int t]))]) (st1 := st) (if_no ?_ rfl) (ret_ok ?_))
            · simp [h1, isTu, fb, e]
            · simp [fa, isCellD, e]
          | _ => cases e
        | false =>
          refine runB_rt (seq_rt (if_yes (st1 := st) ?_ (ret_ok ?_)))
          · simp [h1, isTu, fb, e]
          · cases b with
            | int i => simp [isCellD, e]
            | _ => simp [isCellD]
    · refine runB_rt (seq_rt (if_yes (st1 := st) ?_ (ret_ok ?_)))
      · simp [h1, isTu, hn]
      · match l, hn with
        | [], _ => simp [isCellD]
        | [a], _ => simp [isCellD]
        | [a, b], hn => exact absurd rfl hn
        | a :: b :: c :: r, _ => simp [isCellD]
  | _ =>
    refine runB_rt (seq_rt (if_yes (st1 := st) ?_ (ret_ok ?_)))
    · simp [h1, isTu]
    · simp [isCellD]
def isGroupD : D → Bool
  | .tup l => decide (2 ≤ l.length) && (decide (l.length ≤ 4) && l.all isCellD)
  | _ => false
def kn3 (d : D) : Bool := kn d && match d with
  | .tup l => l.all kn2
  | _ => true
theorem blsOf_map {α : Type} (f : α → Bool) : ∀ l : List α, blsOf (l.map fun x => D.bl (f x)) = some (l.map f)
  | [] => rfl
  | x :: l => by
    show (blsOf (l.map fun x => D.bl (f x))).map (f x :: ·) = _
    rw [blsOf_map f l]
    rfl
@[simp] theorem allD_map {α : Type} {f : α → Bool} {l : List α} {st : Sta} : allD [.lst (l.map fun x => D.bl (f x))] st = some (.bl (l.all f)) := by
  show (blsOf _).map _ = _
  rw [blsOf_map]
  show some (D.bl ((l.map f).all id)) = _
  rw [List.all_map]
  rfl
theorem is_group_ok {d : D} {st : Sta} (h : kn3 d = true) : m_is_group [d] st = .ok (.bl (isGroupD d)) st := by
  obtain ⟨hk, hl⟩ := Bool.and_eq_true_iff.mp h
  have h1 := isiT_tup_kn (st := st) hk
  unfold m_is_group b_is_group
  refine runB_rt (ret_ok ?_)
  cases d with
  | tup l =>
    by_cases c2 : (2 : Int) ≤ l.length
    · by_cases c4 : (l.length : Int) ≤ 4
      · have e : c_is_group_1 [some (.fro (.tup l)), none] st = .ok ((l.filter fun _ => true).map fun d => .bl (isCellD d)) st := by
          refine mLc_ok (p := fun _ => true) (f := fun d => .bl (isCellD d)) (ds := l) (e1 := fun d => [some (.fro (.tup l)), some (.fro d)]) rfl (fun d hd => ⟨rfl, rfl, fun _ => ?_⟩) (small_le (by omega))
          have := is_cell_ok (st := st) (List.all_eq_true.mp hl d hd)
          simp [this]
        rw [show (l.filter fun _ => true) = l from List.filter_eq_self.mpr fun _ _ => rfl] at e
        have c2' : 2 ≤ l.length := by omega
        have c4' : l.length ≤ 4 := by omega
        simp [h1, isTu, c2, c4, e, allD_map, isGroupD, c2', c4']
      · have c4' : ¬ l.length ≤ 4 := by omega
        simp [h1, isTu, c2, c4, isGroupD, c4']
    · have c2' : ¬ 2 ≤ l.length := by omega
      simp [h1, isTu, c2, isGroupD, c2']
  | _ => simp [h1, isTu, isGroupD]
def tlen : D → Nat
  | .tup l => l.length
  | _ => 0
def badAt (l0 : D) : Nat → List D → Option Nat
  | _, [] => none
  | k, d :: r => if isGroupD d && decide (tlen d = tlen l0) then badAt l0 (k + 1) r else some k
theorem isGroup_tup {d : D} (h : isGroupD d = true) : ∃ l, d = .tup l := by
  cases d with
  | tup l => exact ⟨l, rfl⟩
  | _ => cases h
abbrev enumK (k : Nat) (ds : List D) : List D := (ds.zipIdx k).map fun p => D.tup [.int (p.2 : Nat), p.1]
theorem init_turn {k0 : Nat} {l0 : D} {l : List D} {st : Sta} {d : D} {k : Int} {x2 x3 : Option SV} (hd : kn3 d = true) (h0 : isGroupD d = true → isGroupD l0 = true) :
    l_Table_init_1 [some (.fro (.cell k0)), some (.fro (.tup (l0 :: l))), some (.fro (.int k)), some (.fro d)] st =
      if isGroupD d && decide (tlen d = tlen l0) then .nx [some (.fro (.cell k0)), some (.fro (.tup (l0 :: l))), some (.fro (.int k)), some (.fro d)] st
      else .exc ⟨"BadGroups", [("index", .int k)]⟩ [some (.fro (.cell k0)), some (.fro (.tup (l0 :: l))), some (.fro (.int k)), some (.fro d)] st := by
  have e := is_group_ok (st := st) hd
  unfold l_Table_init_1
  cases c : isGroupD d with
  | false =>
    refine if_yes (st1 := st) ?_ ?_
    · simp [e, c]
    · rfl
  | true =>
    obtain ⟨ld, rfl⟩ := isGroup_tup c
    obtain ⟨l0', rfl⟩ := isGroup_tup (h0 c)
    by_cases hn : ld.length = l0'.length
    · refine if_no (st1 := st) ?_ ?_
      · simp [e, c, hn]
      · simp [tlen, hn]
    · have hn' : ¬ ((ld.length : Int) = l0'.length) := by omega
      refine if_yes (st1 := st) ?_ ?_
      · simp [e, c, hn']
      · simp [tlen, hn]
theorem init_loop {k0 : Nat} {l0 : D} {l : List D} {st : Sta} : ∀ {ds : List D} {k : Nat} {x2 x3 : Option SV}, (∀ d ∈ ds, kn3 d = true) → (isGroupD l0 = true ∨ ∃ r, ds = l0 :: r) →
    ∃ y2 y3, sLoop (aTup 2 (aCons (aName 2) (aCons (aName 3) aNil))) l_Table_init_1 (enumK k ds) [some (.fro (.cell k0)), some (.fro (.tup (l0 :: l))), x2, x3] st =
      match badAt l0 k ds with
      | none => .nx [some (.fro (.cell k0)), some (.fro (.tup (l0 :: l))), y2, y3] st
      | some j => .exc ⟨"BadGroups", [("index", .int (j : Nat))]⟩ [some (.fro (.cell k0)), some (.fro (.tup (l0 :: l))), y2, y3] st
  | [], k, x2, x3, _, _ => ⟨x2, x3, rfl⟩
  | d :: ds, k, x2, x3, hk, h0 => by
    have h0' : isGroupD d = true → isGroupD l0 = true := fun z => by
      rcases h0 with h | ⟨r, h⟩
      · exact h
      · cases h
        exact z
    have t := init_turn (k0 := k0) (l0 := l0) (l := l) (st := st) (k := (k : Int)) (x2 := x2) (x3 := x3) (hk d (List.mem_cons_self ..)) h0'
    have e : sLoop (aTup 2 (aCons (aName 2) (aCons (aName 3) aNil))) l_Table_init_1 (enumK k (d :: ds)) [some (.fro (.cell k0)), some (.fro (.tup (l0 :: l))), x2, x3] st =
        (match l_Table_init_1 [some (.fro (.cell k0)), some (.fro (.tup (l0 :: l))), some (.fro (.int (k : Nat))), some (.fro d)] st with
        | .nx env2 st2 => sLoop (aTup 2 (aCons (aName 2) (aCons (aName 3) aNil))) l_Table_init_1 (enumK (k + 1) ds) env2 st2
        | .ct env2 st2 => sLoop (aTup 2 (aCons (aName 2) (aCons (aName 3) aNil))) l_Table_init_1 (enumK (k + 1) ds) env2 st2
        | .bk env2 st2 => .nx env2 st2
        | r => r) := rfl
    rw [e, t]
    unfold badAt
    cases c : (isGroupD d && decide (tlen d = tlen l0)) with
    | true =>
      rw [if_pos rfl, if_pos rfl]
      exact init_loop (ds := ds) (k := k + 1) (fun x hx => hk x (List.mem_cons_of_mem _ hx)) (.inl (h0' (Bool.and_eq_true_iff.mp c).1))
    | false =>
      rw [if_neg Bool.false_ne_true, if_neg Bool.false_ne_true]
      exact ⟨_, _, rfl⟩
def kn4 (d : D) : Bool := kn d && match d with
  | .tup l => l.all kn3
  | _ => true
def badGroups (d : D) : Exn := ⟨"BadGroups", [("index", d)]⟩
def tabI (d : D) : Except Exn (List (Str × D)) := match d with
  | .tup (l0 :: l) => if (l0 :: l).length ≤ 8 then (match badAt l0 0 (l0 :: l) with
    | some k => .error (badGroups (.int (k : Nat)))
    | none => .ok [("rows", d)]) else .error (badGroups .non)
  | _ => .error (badGroups .non)
theorem tabI_cons {l0 : D} {l : List D} : tabI (.tup (l0 :: l)) = if (l0 :: l).length ≤ 8 then (match badAt l0 0 (l0 :: l) with
    | some k => .error (badGroups (.int (k : Nat)))
    | none => .ok [("rows", .tup (l0 :: l))]) else .error (badGroups .non) := rfl
def ini_Table : Ini := fun ds => match ds with
  | [d] => if kn4 d then some (tabI d) else none
  | _ => none
theorem enumD_tup {l : List D} {st : Sta} : enumD [.tup l] st = some (enumK 0 l) := rfl
theorem table_init {d : D} {st : Sta} (h : kn4 d = true) : m_Table_init [.cell st.length, d] (st ++ [.obj "Table" []]) = match tabI d with
  | .ok fs => .ok .non (st ++ [.obj "Table" fs])
  | .error e => .exc e (st ++ [.obj "Table" []]) := by
  obtain ⟨hk, hl⟩ := Bool.and_eq_true_iff.mp h
  have h1 := isiT_tup_kn (st := st ++ [.obj "Table" []]) hk
  unfold m_Table_init b_Table_init
  have no : ∀ t : Env → M Bool, t (env0 4 [.cell st.length, d]) (st ++ [.obj "Table" []]) = .ok true (st ++ [.obj "Table" []]) →
      runB 4 (sSeq (sIf t (sRaise "BadGroups" ["index"] (argsC (cn .non) args0)) sNext) (sSeq (sFor (itN enumD (argsC (vr 1) args0)) (aTup 2 (aCons (aName 2) (aCons (aName 3) aNil))) l_Table_init_1) (sFldC "Table" "rows" (vr 0) (vr 1)))) [.cell st.length, d] (st ++ [.obj "Table" []]) = .exc (badGroups .non) (st ++ [.obj "Table" []]) := fun t ht => runB_exc (seq_exc (if_yes ht rfl))
  cases d with
  | tup l =>
    cases l with
    | nil => exact no _ (by simp [h1, isTu])
    | cons l0 l =>
      by_cases hn : (l0 :: l).length ≤ 8
      · have hn' : ((l0 :: l).length : Int) ≤ 8 := by omega
        have hp : (1 : Int) ≤ ((l0 :: l).length : Int) := by rw [List.length_cons]; omega
        obtain ⟨y2, y3, e⟩ := init_loop (k0 := st.length) (l0 := l0) (l := l) (st := st ++ [.obj "Table" []]) (ds := l0 :: l) (k := 0) (x2 := none) (x3 := none) (fun x hx => List.all_eq_true.mp hl x hx) (.inr ⟨l, rfl⟩)
        have hif : ∀ {b : SD} {r : SR}, sNext (env0 4 [.cell st.length, .tup (l0 :: l)]) (st ++ [.obj "Table" []]) = r → sIf (mOr (mNot (tst (op1 (isiT "tuple" CS) (vr 1)))) (mNot (tBool (mChain leD leD (cn (.int 1)) (opN lenD (argsC (vr 1) args0)) (cn (.int (8))))))) b sNext (env0 4 [.cell st.length, .tup (l0 :: l)]) (st ++ [.obj "Table" []]) = r := fun {b r} hr => if_no (st1 := st ++ [.obj "Table" []]) (by
          have e0 : env0 4 [.cell st.length, .tup (l0 :: l)] = [some (.fro (.cell st.length)), some (.fro (.tup (l0 :: l))), none, none] := rfl
          rw [e0]
          simp only [mOr_st, mNot_st, tst_st, op1_st, vr_st, List.getElem?_cons_succ, List.getElem?_cons_zero, rb_ok, rb_ok2, rd_st, h1, isTu, truth_bl, Bool.not_true, tBool_st, mChain_st, cn_st, opN_st, argsC_st, args0_st, lenD_tup, cmpD_int, asB_bl, decide_eq_true hp, decide_eq_true hn', if_true, if_false, Bool.false_eq_true]) hr
        rw [tabI_cons, if_pos hn]
        cases c : badAt l0 0 (l0 :: l) with
        | some j =>
          rw [c] at e
          exact runB_exc (seq_nx (hif rfl) (seq_exc (for_ok (st1 := st ++ [.obj "Table" []]) rfl e)))
        | none =>
          rw [c] at e
          refine runB_nx (seq_nx (hif rfl) (seq_nx (for_ok (st1 := st ++ [.obj "Table" []]) rfl e) (?_ : _ = SR.nx [some (.fro (.cell st.length)), some (.fro (.tup (l0 :: l))), y2, y3] _)))
          unfold sFldC
          rw [sE_st]
          show (match (st ++ [Cell.obj "Table" []])[st.length]? with
            | some (.obj c' fs) => if c' = "Table" ∧ fs.length < 1000 then SR.nx _ ((st ++ [Cell.obj "Table" []]).set st.length (.obj c' (putF "rows" (.tup (l0 :: l)) fs))) else .bad
            | _ => .bad) = _
          rw [List.getElem?_append_right (Nat.le_refl _), Nat.sub_self]
          show (if ("Table" : Str) = "Table" ∧ ([] : List (Str × D)).length < 1000 then SR.nx _ ((st ++ [Cell.obj "Table" []]).set st.length (.obj "Table" (putF "rows" (.tup (l0 :: l)) []))) else .bad) = _
          rw [if_pos ⟨rfl, by decide⟩, List.set_append_right _ _ (Nat.le_refl _), Nat.sub_self]
          rfl
      · have hn' : ¬ ((l0 :: l).length : Int) ≤ 8 := by omega
        have hp : (1 : Int) ≤ ((l0 :: l).length : Int) := by rw [List.length_cons]; omega
        rw [tabI_cons, if_neg hn]
        refine no _ ?_
        have e0 : env0 4 [.cell st.length, .tup (l0 :: l)] = [some (.fro (.cell st.length)), some (.fro (.tup (l0 :: l))), none, none] := rfl
        rw [e0]
        simp only [mOr_st, mNot_st, tst_st, op1_st, vr_st, List.getElem?_cons_succ, List.getElem?_cons_zero, rb_ok, rb_ok2, rd_st, h1, isTu, truth_bl, Bool.not_true, Bool.not_false, tBool_st, mChain_st, cn_st, opN_st, argsC_st, args0_st, lenD_tup, cmpD_int, asB_bl, decide_eq_true hp, decide_eq_false hn', if_true, if_false, Bool.false_eq_true]
  | _ => exact no _ (by simp [h1, isTu])
theorem ini_eq {ds : List D} {r : Except Exn (List (Str × D))} (h : ini_Table ds = some r) : ∃ d, ds = [d] ∧ kn4 d = true ∧ r = tabI d := by
  match ds, h with
  | [d], h =>
    have h' : (if kn4 d then some (tabI d) else none) = some r := h
    by_cases hk : kn4 d = true
    · rw [if_pos hk] at h'
      exact ⟨d, rfl, hk, (Option.some.inj h').symm⟩
    · rw [if_neg hk] at h'
      cases h'
theorem tabI_ok {d : D} {fs : List (Str × D)} (h : tabI d = .ok fs) : fs = [(("rows" : Str), d)] := by
  unfold tabI at h
  split at h
  · split at h
    · split at h
      · cases h
      · cases h
        rfl
    · cases h
  · cases h
theorem tabI_err {d : D} {e : Exn} (h : tabI d = .error e) : ∃ x, e = badGroups x ∧ noCell 8 x = true := by
  unfold tabI at h
  split at h
  · split at h
    · split at h
      · cases h
        exact ⟨_, rfl, rfl⟩
      · cases h
    · cases h
      exact ⟨_, rfl, rfl⟩
  · cases h
    exact ⟨_, rfl, rfl⟩
theorem inik_Table : IniOk "Table" 1 m_Table_init ini_Table := by
  refine ⟨fun ds st r h => ?_, fun ds r h => ?_, fun ds fs h p hp => ?_, fun ds e h p hp => ?_⟩
  all_goals obtain ⟨d, rfl, hk, hr⟩ := ini_eq h
  · rw [hr]
    exact table_init hk
  · rfl
  · rw [tabI_ok hr.symm] at hp
    rw [List.mem_singleton.mp hp]
    exact .inl (List.mem_singleton.mpr rfl)
  · obtain ⟨x, rfl, hx⟩ := tabI_err hr.symm
    rw [List.mem_singleton.mp (show p ∈ [(("index" : Str), x)] from hp)]
    exact .inr hx
end PL
set_option Elab.async false
set_option linter.all false
set_option maxRecDepth 100000
set_option maxHeartbeats 4000000
namespace PL
open PySem PySem.Spec PyProof.Rows L2
inductive IsSeq : D → List D → Prop
  | tup (l : List D) : IsSeq (.tup l) l
  | lst (l : List D) : IsSeq (.lst l) l
section
variable {d : D} {l : List D} {st : Sta}
theorem IsSeq.it (h : IsSeq d l) : seqIt d st = some l := by cases h <;> rfl
theorem IsSeq.ix (h : IsSeq d l) {i : Int} : ixD d (.int i) st = atI l i := by cases h <;> rfl
theorem IsSeq.len (h : IsSeq d l) : lenD [d] st = some (.int l.length) := by cases h <;> rfl
end
theorem intsOf_map {α : Type} (f : α → Int) : ∀ l : List α, intsOf (l.map fun x => D.int (f x)) = some (l.map f)
  | [] => rfl
  | x :: l => by
    show (intsOf (l.map fun x => D.int (f x))).map (f x :: ·) = _
    rw [intsOf_map f l]
    rfl
@[simp] theorem sumD_map {α : Type} {f : α → Int} {l : List α} {st : Sta} : sumD [.lst (l.map fun x => D.int (f x))] st = some (.int (l.map f).sum) := by
  show (intsOf _).map _ = _
  rw [intsOf_map]
  rfl
def cl (r : List (Int × Int)) (k : Nat) : Int × Int := r.getD k (0, 0)
theorem cl_eq {r : List (Int × Int)} {k : Nat} (h : k < r.length) : cl r k = r[k] := by
  unfold cl
  rw [List.getD_eq_getElem?_getD, List.getElem?_eq_getElem h]
  rfl
theorem cl_mem {r : List (Int × Int)} {k : Nat} (h : k < r.length) : cl r k ∈ r := by
  rw [cl_eq h]
  exact List.getElem_mem h
structure Fit (w : Nat) (rows : List (List (Int × Int))) : Prop where
  len : ∀ r ∈ rows, r.length = w
  bd : ∀ r ∈ rows, ∀ c ∈ r, 0 ≤ c.1 ∧ c.1 ≤ c.2 ∧ c.2 ≤ 10 ^ 30
  n : rows.length ≤ 1000
theorem Fit.cell {w : Nat} {rows : List (List (Int × Int))} (F : Fit w rows) {r : List (Int × Int)} (hr : r ∈ rows) {k : Nat} (hk : k < w) : 0 ≤ (cl r k).1 ∧ (cl r k).1 ≤ (cl r k).2 ∧ (cl r k).2 ≤ 10 ^ 30 := F.bd r hr _ (cl_mem (by rw [F.len r hr]; exact hk))
section
variable {rows : List (List (Int × Int))} {w : Nat} {d : D} {st : Sta}
theorem row0 (h0 : rows ≠ []) : ∃ r rs, rows = r :: rs := by
  cases rows with
  | nil => exact absurd rfl h0
  | cons a b => exact ⟨a, b, rfl⟩
end
end PL
set_option Elab.async false
set_option linter.all false
set_option maxRecDepth 100000
set_option maxHeartbeats 4000000
namespace PL
open PySem PySem.Spec PyProof.Rows L2
section
variable {st : Sta} {d e : D} {rows : List (List (Int × Int))} {w i j : Nat}
def two (w : Int) (a b : D) : Bool := match a, b with
  | .int i, .int j => decide (0 ≤ i ∧ i < w ∧ 0 ≤ j ∧ j < w ∧ i ≠ j)
  | _, _ => false
theorem isFrom_int {i lo hi : Int} : isFromD (.int i) lo hi = (decide (lo ≤ i) && decide (i ≤ hi)) := rfl
def tableD (rows : List (List (Int × Int))) : D := .obj "Table" [("rows", rowsD rows)]
@[simp] theorem isiC_table : isiC "Table" CS (tableD rows) st = some (.bl true) := by
  unfold tableD
  rw [isiC_obj (by decide)]
  rfl
@[simp] theorem fld_rows : fldD "Table" "rows" (tableD rows) st = some (rowsD rows) := by
  unfold tableD fldD isObj fieldsOf
  simp
structure Tb (w : Nat) (rows : List (List (Int × Int))) : Prop where
  fit : Fit w rows
  n1 : 1 ≤ rows.length
  n8 : rows.length ≤ 8
  w2 : 2 ≤ w
  w4 : w ≤ 4
theorem Tb.ne (T : Tb w rows) : rows ≠ [] := fun h => by have := T.n1; rw [h] at this; cases this
theorem kn3_row {r : List (Int × Int)} : kn3 (rowD r) = true := by
  unfold kn3 rowD kn
  simp [kn2, cellD, kn]
theorem kn4_rows : kn4 (rowsD rows) = true := by
  unfold kn4 rowsD kn
  simp [kn3_row]
theorem isGroup_row {r : List (Int × Int)} (h2 : 2 ≤ r.length) (h4 : r.length ≤ 4) (hc : ∀ c ∈ r, 0 ≤ c.1 ∧ c.1 ≤ c.2 ∧ c.2 ≤ 10 ^ 30) : isGroupD (rowD r) = true := by
  unfold rowD isGroupD
  simp [h2, h4, cellD, isCellD, isFromD]
  intro a b m
  have := hc _ m
  dsimp only at this
  omega
theorem Tb.group (T : Tb w rows) {r : List (Int × Int)} (hr : r ∈ rows) : isGroupD (rowD r) = true := isGroup_row (by rw [T.fit.len r hr]; exact T.w2) (by rw [T.fit.len r hr]; exact T.w4) (T.fit.bd r hr)
theorem badAt_none {l0 : D} : ∀ {l : List D} {k : Nat}, (∀ d ∈ l, isGroupD d = true ∧ tlen d = tlen l0) → badAt l0 k l = none
  | [], _, _ => rfl
  | d :: l, k, h => by
    obtain ⟨h1, h2⟩ := h d (List.mem_cons_self ..)
    unfold badAt
    rw [h1, decide_eq_true h2]
    exact badAt_none fun x m => h x (List.mem_cons_of_mem _ m)
theorem tlen_row {r : List (Int × Int)} : tlen (rowD r) = r.length := by simp [tlen, rowD]
theorem mk_table (T : Tb w rows) : mkObj "Table" ini_Table [rowsD rows] st = .ok (tableD rows) st := by
  obtain ⟨r, rs, rfl⟩ := row0 T.ne
  have hb : badAt (rowD r) 0 (rowD r :: rs.map rowD) = none := badAt_none fun d hd => by
    obtain ⟨r', hr', rfl⟩ : ∃ r', r' ∈ r :: rs ∧ rowD r' = d := by
      rcases List.mem_cons.mp hd with rfl | h
      · exact ⟨r, List.mem_cons_self .., rfl⟩
      · obtain ⟨r', h1, h2⟩ := List.mem_map.mp h
        exact ⟨r', List.mem_cons_of_mem _ h1, h2⟩
    exact ⟨T.group hr', by rw [tlen_row, tlen_row, T.fit.len r' hr', T.fit.len r (List.mem_cons_self ..)]⟩
  have hi : ini_Table [rowsD (r :: rs)] = some (.ok [("rows", rowsD (r :: rs))]) := by
    show (if kn4 (rowsD (r :: rs)) then some (tabI (rowsD (r :: rs))) else none) = _
    rw [if_pos kn4_rows]
    have hn : (rowD r :: rs.map rowD).length ≤ 8 := by have := T.n8; simpa using this
    show some (tabI (.tup (rowD r :: rs.map rowD))) = _
    rw [tabI_cons, if_pos hn, hb]
    rfl
  unfold mkObj
  rw [hi]
  rfl
def natD (i : Nat) : D := .int (i : Int)
theorem rng0 {n : Nat} : rng 0 n = (List.range n).map natD := by
  unfold rng natD
  simp
theorem rng1_w (h : w ≤ 1000) : rng1 [.int (w : Int)] st = some ((List.range w).map natD) := by
  rw [rng1_st (by omega) (by omega), ← rng0]
  rfl
theorem addD_lst {a b : List D} (h : a.length + b.length ≤ 1000) : addD (.lst a) (.lst b) st = some (.lst (a ++ b)) := if_pos (small_le h)
theorem addD_tup {a b : List D} (h : a.length + b.length ≤ 1000) : addD (.tup a) (.tup b) st = some (.tup (a ++ b)) := if_pos (small_le h)
theorem taken_ev {r : Cell} {rest : Sta} {many : Int} {Q : Res D → Prop} (hr : RowOk r) (h0 : 0 < many) (h1 : many ≤ 10 ^ 60) (h : ∀ (x : Nat) r', RowOk r' → (x : Int) < many → Q (.ok (.int x) (r' :: rest))) : evR (m_law_taken [.cell 0, .int many] (r :: rest)) Q := by
  obtain ⟨x, r', e, h2, h3, h4⟩ := taken_ok (rest := rest) hr h0 h1
  rw [evR_of e]
  obtain ⟨k, rfl⟩ := Int.eq_ofNat_of_zero_le h3
  exact h k r' h2 h4
theorem pick_ev {l : List D} {k : Nat} {Q : Res D → Prop} (hk : k < l.length) (h : ∀ x ∈ l, Q (.ok x st)) : kO (atI l (k : Int)) st Q := by
  rw [atI_nat hk, kO_some]
  exact h _ (List.getElem_mem hk)
theorem neD_refl {d : D} (h : pln 8 d = true) : neD d d st = some (.bl false) := neD_self h (by decide)
theorem eqD_refl {d : D} (h : pln 8 d = true) : eqD d d st = some (.bl true) := eqD_self h (by decide)
@[simp] theorem pln_bl {n : Nat} {b : Bool} : pln n (.bl b) = true := by cases n <;> rfl
@[simp] theorem pln_int {n : Nat} {i : Int} : pln n (.int i) = true := by cases n <;> rfl
@[simp] theorem pln_cell {n : Nat} {c : Int × Int} : pln (n + 1) (cellD c) = true := by simp [cellD, pln]
@[simp] theorem pln_row {n : Nat} {r : List (Int × Int)} : pln (n + 2) (rowD r) = true := by simp [rowD, pln]
@[simp] theorem pln_rows {n : Nat} : pln (n + 3) (rowsD rows) = true := by simp [rowsD, pln]
@[simp] theorem isSub_self {t c : Str} : isSub t c c = true := by simp [isSub]
@[simp] theorem isSub_top {t c : Str} : isSub t c t = true := by simp [isSub]
end
end PL
set_option Elab.async false
set_option linter.all false
set_option maxRecDepth 100000
set_option maxHeartbeats 4000000
namespace PL
open PySem PySem.Spec PyProof.Rows L2
def c_is_entry_1 : Env → M (List D) := (mLc [3] (bName 3) yes (op1 (isiT "bool" CS) (vr 3)) (itO seqIt (op2 ixD (vr 0) (cn (.int 2)))))
def b_is_entry : SD := (sSeq (sIf (mOr (mNot (tst (op1 (isiT "tuple" CS) (vr 0)))) (mOr (tBool (op2 neD (opN lenD (argsC (vr 0) args0)) (cn (.int 4)))) (mNot (tst (mCall (argsC (op2 ixD (vr 0) (cn (.int 0))) (argsC (cn (.int 0)) (argsC (op2 subD (vr 1) (cn (.int 1))) args0))) (argN 3 m_is_from)))))) (sRet (cn (.bl false))) sNext) (sSeq (sIf (mOr (mNot (tst (op1 (isiT "bool" CS) (op2 ixD (vr 0) (cn (.int 1)))))) (mOr (mNot (tst (op1 (isiT "tuple" CS) (op2 ixD (vr 0) (cn (.int 2)))))) (mNot (tst (mCall (argsC (op2 ixD (vr 0) (cn (.int 3))) (argsC (cn (.int 1)) (argsC (cn (.int (1000000000))) args0))) (argN 3 m_is_from)))))) (sRet (cn (.bl false))) sNext) (sSeq (sIf (mNot (tst (opN allD (argsC (lstF c_is_entry_1) args0)))) (sRet (cn (.bl false))) sNext) (sRet (mIf (tBool (op2 eqD (vr 2) (cn (.int 0)))) (mChain leD leD (cn (.int 1)) (opN lenD (argsC (op2 ixD (vr 0) (cn (.int 2))) args0)) (cn (.int (4)))) (op2 eqD (opN lenD (argsC (op2 ixD (vr 0) (cn (.int 2))) args0)) (vr 2)))))))
def m_is_entry : List D → M D := runB 4 b_is_entry
def l_Ledger_init_1 : SD := (sIf (mNot (tst (mCall (argsC (vr 4) (argsC (vr 2) (argsC (mIf (tBool (op2 eqD (vr 3) (cn (.int 0)))) (cn (.int 0)) (opN lenD (argsC (op2 ixD (op2 ixD (vr 1) (cn (.int 0))) (cn (.int 2))) args0))) args0))) (argN 3 m_is_entry)))) (sRaise "BadEntries" ["index"] (argsC (vr 3) args0)) sNext)
def b_Ledger_init : SD := (sSeq (sIf (mNot (tst (mCall (argsC (vr 2) (argsC (cn (.int 2)) (argsC (cn (.int (4))) args0))) (argN 3 m_is_from)))) (sRaise "BadNumber" ["n"] (argsC (vr 2) args0)) sNext) (sSeq (sIf (mOr (mNot (tst (op1 (isiT "tuple" CS) (vr 1)))) (mNot (tBool (mChain leD leD (cn (.int 1)) (opN lenD (argsC (vr 1) args0)) (cn (.int (40))))))) (sRaise "BadEntries" ["index"] (argsC (cn .non) args0)) sNext) (sSeq (sFor (itN enumD (argsC (vr 1) args0)) (aTup 2 (aCons (aName 3) (aCons (aName 4) aNil))) l_Ledger_init_1) (sSeq (sFldC "Ledger" "lines" (vr 0) (vr 1)) (sFldC "Ledger" "many" (vr 0) (vr 2))))))
def m_Ledger_init : List D → M D := runB 5 b_Ledger_init
def b_need_ledger : SD := (sIf (mNot (tst (op1 (isiC "Ledger" CS) (vr 0)))) (sRaise0 "BadLedger") sNext)
def m_need_ledger : List D → M D := runB 1 b_need_ledger
section
variable {st : Sta} {d v : D} {w : Int} {many : Nat} {QS : SR → Prop}
def knE (d : D) : Bool := kn d && match d with
  | .tup l => l.all fun x => kn x && match x with
    | .tup m => m.all kn && decide (m.length ≤ 1000)
    | _ => true
  | _ => true
def isEntD (w : Int) (many : Nat) (d : D) : Bool := match d with
  | .tup [a, b, .tup m, e] => isFromD a 0 (w - 1) && (isBl b && (isFromD e 1 1000000000 && (m.all isBl && (if many = 0 then decide (1 ≤ m.length ∧ m.length ≤ 4) else decide (m.length = many)))))
  | _ => false
theorem isEnt_len {l : List D} (h : l.length ≠ 4) : isEntD w many (.tup l) = false := by
  unfold isEntD
  split
  · rename_i e
    cases e
    exact absurd rfl h
  · rfl
theorem isEnt_4 {a b e : D} {m : List D} : isEntD w many (.tup [a, b, .tup m, e]) = (isFromD a 0 (w - 1) && (isBl b && (isFromD e 1 1000000000 && (m.all isBl && (if many = 0 then decide (1 ≤ m.length ∧ m.length ≤ 4) else decide (m.length = many)))))) := rfl
theorem isEnt_tup (h : isEntD w many d = true) : ∃ a b m e, d = .tup [a, b, .tup m, e] := by
  unfold isEntD at h
  split at h
  · exact ⟨_, _, _, _, rfl⟩
  · cases h
theorem len4 {l : List D} (h : l.length = 4) : ∃ a b c e, l = [a, b, c, e] := by
  match l, h with
  | [a, b, c, e], _ => exact ⟨a, b, c, e, rfl⟩
theorem entry_marks {a b e : D} {m : List D} (hm : m.all kn = true) (h1 : m.length ≤ 1000) :
    c_is_entry_1 [some (.fro (.tup [a, b, .tup m, e])), some (.fro (.int w)), some (.fro (.int many)), none] st = .ok (m.map fun x => .bl (isBl x)) st := by
  have ix : ixD (.tup [a, b, .tup m, e]) (.int 2) st = some (.tup m) := rfl
  have sq : seqIt (.tup m) st = some m := rfl
  apply ev_res
  unfold c_is_entry_1
  generalize D.tup [a, b, .tup m, e] = V at *
  simp [ix, sq]
  have ev := evC_map (vs := [3]) (bind := bName 3) (t := yes) (el := op1 (isiT "bool" CS) (vr 3)) (env := [some (.fro V), some (.fro (.int w)), some (.fro (.int many)), none]) (st := st) (QL := qEq (.ok (m.map fun x => .bl (isBl x)) st)) (enc := fun x : D => x) (l := m) (e1 := fun x => [some (.fro V), some (.fro (.int w)), some (.fro (.int many)), some (.fro x)]) (fv := fun x => .bl (isBl x)) (fun x hx => ⟨rfl, by simp, by simp [isiT_bool_kn (List.all_eq_true.mp hm x hx)]⟩) (acc := []) (small_m h1)
  rw [List.map_id'] at ev
  rw [ev]
  simp
theorem is_entry_ok (h : knE d = true) : m_is_entry [d, .int w, .int many] st = .ok (.bl (isEntD w many d)) st := by
  obtain ⟨hk, hp⟩ := Bool.and_eq_true_iff.mp h
  have h1 := isiT_tup_kn (st := st) hk
  apply ev_run
  unfold m_is_entry b_is_entry
  cases d with
  | tup l =>
    by_cases hn : l.length = 4
    · obtain ⟨a, b, c, e, rfl⟩ := len4 hn
      simp only [List.all_cons, List.all_nil, Bool.and_true, Bool.and_eq_true] at hp
      obtain ⟨⟨ka, _⟩, ⟨kb, _⟩, ⟨kc, kc2⟩, ⟨ke, _⟩⟩ := hp
      have f1 := is_from_ok (st := st) (lo := 0) (hi := w - 1) ka
      have f2 := is_from_ok (st := st) (lo := 1) (hi := 1000000000) ke
      have i1 := isiT_bool_kn (st := st) kb
      have i2 := isiT_tup_kn (st := st) kc
      have x0 : ixD (.tup [a, b, c, e]) (.int 0) st = some a := rfl
      have x1 : ixD (.tup [a, b, c, e]) (.int 1) st = some b := rfl
      have x2 : ixD (.tup [a, b, c, e]) (.int 2) st = some c := rfl
      have x3 : ixD (.tup [a, b, c, e]) (.int 3) st = some e := rfl
      have il : lenD [.tup [a, b, c, e]] st = some (.int 4) := rfl
      cases c with
      | tup m =>
        obtain ⟨kc2, hm⟩ := Bool.and_eq_true_iff.mp kc2
        have hm : m.length ≤ 1000 := by simpa using hm
        have cm := entry_marks (st := st) (w := w) (many := many) (a := a) (b := b) (e := e) kc2 hm
        have al : allD [.lst (m.map fun x => .bl (isBl x))] st = some (.bl (m.all isBl)) := allD_map
        have lm : lenD [.tup m] st = some (.int m.length) := rfl
        rw [isEnt_4]
        have h1 : isiT "tuple" CS (.tup [a, b, .tup m, e]) st = some (.bl true) := h1
        have i2 : isiT "tuple" CS (.tup m) st = some (.bl true) := i2
        clear hk h hn
        generalize D.tup [a, b, .tup m, e] = V at *
        cases c1 : isFromD a 0 (w - 1) with
        | false =>
          rw [c1] at f1
          simp [h1, il, x0, f1]
        | true =>
          rw [c1] at f1
          cases c2 : isBl b with
          | false =>
            rw [c2] at i1
            simp [h1, il, x0, f1, x1, i1]
          | true =>
            rw [c2] at i1
            cases c3 : isFromD e 1 1000000000 with
            | false =>
              rw [c3] at f2
              simp [h1, il, x0, f1, x1, i1, x2, i2, x3, f2]
            | true =>
              rw [c3] at f2
              cases c4 : m.all isBl with
              | false =>
                rw [c4] at al
                simp [h1, il, x0, f1, x1, i1, x2, i2, x3, f2, evM_of cm, al]
              | true =>
                rw [c4] at al
                by_cases c5 : many = 0
                · subst c5
                  rw [show ((0 : Nat) : Int) = 0 from rfl] at cm
                  by_cases c6 : 1 ≤ m.length
                  · have : (1 : Int) ≤ m.length := by omega
                    simp [h1, il, x0, f1, x1, i1, x2, i2, x3, f2, evM_of cm, al, lm, this, c6]
                    omega
                  · have : ¬ (1 : Int) ≤ m.length := by omega
                    simp [h1, il, x0, f1, x1, i1, x2, i2, x3, f2, evM_of cm, al, lm, this, c6]
                · have : ¬ (many : Int) = 0 := by omega
                  simp [h1, il, x0, f1, x1, i1, x2, i2, x3, f2, evM_of cm, al, lm, this, c5, eqD_int]
                  omega
      | _ =>
        simp only [isTu] at h1 i2
        simp only [isEntD]
        cases c1 : isFromD a 0 (w - 1) with
        | false =>
          rw [c1] at f1
          simp [h1, il, x0, f1]
        | true =>
          rw [c1] at f1
          cases c2 : isBl b with
          | false =>
            rw [c2] at i1
            simp [h1, il, x0, f1, x1, i1]
          | true =>
            rw [c2] at i1
            simp [h1, il, x0, f1, x1, i1, x2, i2]
    · have hn' : ¬ ((l.length : Int) = 4) := by omega
      have il : lenD [.tup l] st = some (.int l.length) := rfl
      rw [isEnt_len hn]
      simp only [isTu] at h1
      have nn : neD (.int (l.length : Nat)) (.int 4) st = some (.bl true) := by
        rw [neD_of (n := 8) pln_int pln_int (by decide), eqB_int]
        congr 2
        simp
        omega
      generalize D.tup l = V at *
      simp [h1, il, nn]
  | _ =>
    simp only [isTu] at h1
    simp [h1, isEntD]
def mlen (d : D) : Nat := match d with
  | .tup [_, _, .tup m, _] => m.length
  | _ => 0
def badEnt (w : Int) (l0 : D) : Nat → List D → Option Nat
  | _, [] => none
  | k, d :: r => if isEntD w (if k = 0 then 0 else mlen l0) d then badEnt w l0 (k + 1) r else some k
def badEntries (d : D) : Exn := ⟨"BadEntries", [("index", d)]⟩
abbrev LgE (x0 : Option SV) (l0 : D) (l : List D) (w : Int) (x3 x4 : Option SV) : Env := [x0, some (.fro (.tup (l0 :: l))), some (.fro (.int w)), x3, x4]
theorem e_turn {l0 : D} {l : List D} {x0 : Option SV} {k : Nat} (hk : knE d = true) (h0 : k ≠ 0 → isEntD w 0 l0 = true) (h1 : isEntD w (if k = 0 then 0 else mlen l0) d = true → QS (.nx (LgE x0 l0 l w (some (.fro (.int (k : Nat)))) (some (.fro d))) st))
    (h2 : isEntD w (if k = 0 then 0 else mlen l0) d = false → QS (.exc (badEntries (.int (k : Nat))) (LgE x0 l0 l w (some (.fro (.int (k : Nat)))) (some (.fro d))) st)) :
    evS l_Ledger_init_1 (LgE x0 l0 l w (some (.fro (.int (k : Nat)))) (some (.fro d))) st QS := by
  have e := is_entry_ok (st := st) (w := w) (many := if k = 0 then 0 else mlen l0) hk
  unfold l_Ledger_init_1
  by_cases c : k = 0
  · subst c
    rw [if_pos rfl] at e h1 h2
    have e' : m_is_entry [d, .int w, .int 0] st = .ok (.bl (isEntD w 0 d)) st := e
    cases hb : isEntD w 0 d with
    | true =>
      rw [hb] at e'
      have h1 := h1 hb
      simp [LgE, e']
      exact h1
    | false =>
      rw [hb] at e'
      have h2 := h2 hb
      simp [LgE, e']
      exact h2
  · rw [if_neg c] at e h1 h2
    obtain ⟨a, b, m, z, rfl⟩ := isEnt_tup (h0 c)
    have ml : mlen (.tup [a, b, .tup m, z]) = m.length := rfl
    rw [ml] at e h1 h2
    have c' : ¬ (k : Int) = 0 := by omega
    have i0 : ixD (.tup (.tup [a, b, .tup m, z] :: l)) (.int 0) st = some (.tup [a, b, .tup m, z]) := by
      show atI _ ((0 : Nat) : Int) = _
      rw [atI_nat (by simp)]
      rfl
    have i2 : ixD (.tup [a, b, .tup m, z]) (.int 2) st = some (.tup m) := rfl
    have lm : lenD [.tup m] st = some (.int m.length) := rfl
    cases hb : isEntD w m.length d with
    | true =>
      rw [hb] at e
      unfold LgE at h1 ⊢
      generalize D.tup (.tup [a, b, .tup m, z] :: l) = V at *
      generalize D.tup [a, b, .tup m, z] = V0 at *
      simp [eqD_int, c', c, i0, i2, lm, e]
      exact h1 hb
    | false =>
      rw [hb] at e
      unfold LgE at h2 ⊢
      generalize D.tup (.tup [a, b, .tup m, z] :: l) = V at *
      generalize D.tup [a, b, .tup m, z] = V0 at *
      simp [eqD_int, c', c, i0, i2, lm, e]
      exact h2 hb
theorem e_loop {l0 : D} {l : List D} {x0 : Option SV} : ∀ {ds : List D} {k : Nat} {x3 x4 : Option SV}, (∀ d ∈ ds, knE d = true) → ((k = 0 ∧ ∃ r, ds = l0 :: r) ∨ isEntD w 0 l0 = true) →
    (badEnt w l0 k ds = none → ∀ y3 y4, QS (.nx (LgE x0 l0 l w y3 y4) st)) →
    (∀ j, badEnt w l0 k ds = some j → ∀ y3 y4, QS (.exc (badEntries (.int (j : Nat))) (LgE x0 l0 l w y3 y4) st)) →
    evL (aTup 2 (aCons (aName 3) (aCons (aName 4) aNil))) l_Ledger_init_1 (enumK k ds) (LgE x0 l0 l w x3 x4) st QS
  | [], k, x3, x4, _, _, h1, _ => by
    show evL _ _ [] _ _ _
    rw [evL_nil]
    exact h1 rfl _ _
  | d :: ds, k, x3, x4, hk, h0, h1, h2 => by
    have e : enumK k (d :: ds) = D.tup [.int (k : Nat), d] :: enumK (k + 1) ds := by simp [enumK]
    rw [e, evL_cons]
    unfold LgE
    simp only [evS_aTup, List.length_cons, List.length_nil, if_true, evS_aCons, evS_aName, kTg_nx, evS_aNil, List.set_cons_succ, List.set_cons_zero]
    refine e_turn (hk d (List.mem_cons_self ..)) (fun c => ?_) (fun g => ?_) (fun g => ?_)
    · rcases h0 with ⟨h, _⟩ | h
      · exact absurd h c
      · exact h
    · rw [kL2_nx]
      refine e_loop (fun x hx => hk x (List.mem_cons_of_mem _ hx)) (.inr ?_) (fun q => h1 ?_) (fun j q => h2 j ?_)
      · rcases h0 with ⟨rfl, r, h⟩ | h
        · cases h
          rw [if_pos rfl] at g
          exact g
        · exact h
      · unfold badEnt
        rw [g]
        exact q
      · unfold badEnt
        rw [g]
        exact q
    · rw [kL2_exc]
      refine h2 k ?_ _ _
      unfold badEnt
      rw [g]
      rfl
theorem fldC_okB {c f : Str} {fs : List (Str × D)} {g : Env → M D} {env : Env} {v : D} (h0 : vr 0 env (st ++ [.obj c fs]) = .ok (.cell st.length) (st ++ [.obj c fs])) (hg : g env (st ++ [.obj c fs]) = .ok v (st ++ [.obj c fs])) (hl : fs.length < 1000) :
    sFldC c f (vr 0) g env (st ++ [.obj c fs]) = .nx env (st ++ [.obj c (putF f v fs)]) := by
  unfold sFldC
  rw [sE_st, hg]
  dsimp only
  rw [sE_st, h0]
  dsimp only
  rw [List.getElem?_append_right (Nat.le_refl _), Nat.sub_self]
  show (if c = c ∧ fs.length < 1000 then SR.nx _ ((st ++ [Cell.obj c fs]).set st.length (.obj c (putF f v fs))) else .bad) = _
  rw [if_pos ⟨rfl, hl⟩, List.set_append_right _ _ (Nat.le_refl _), Nat.sub_self]
  rfl
def knL (d : D) : Bool := kn d && match d with
  | .tup l => l.all knE
  | _ => true
def ledW (w : Int) (d : D) : Except Exn (List (Str × D)) := match d with
  | .tup (l0 :: l) => if (l0 :: l).length ≤ 40 then (match badEnt w l0 0 (l0 :: l) with
    | some k => .error (badEntries (.int (k : Nat)))
    | none => .ok [("lines", d), ("many", .int w)]) else .error (badEntries .non)
  | _ => .error (badEntries .non)
def ledI (d v : D) : Except Exn (List (Str × D)) := match v with
  | .int w => if decide (2 ≤ w) && decide (w ≤ 4) then ledW w d else .error ⟨"BadNumber", [("n", v)]⟩
  | _ => .error ⟨"BadNumber", [("n", v)]⟩
theorem ledI_int : ledI d (.int w) = if decide (2 ≤ w) && decide (w ≤ 4) then ledW w d else .error ⟨"BadNumber", [("n", .int w)]⟩ := rfl
theorem ledW_cons {l0 : D} {l : List D} : ledW w (.tup (l0 :: l)) = if (l0 :: l).length ≤ 40 then (match badEnt w l0 0 (l0 :: l) with
    | some k => .error (badEntries (.int (k : Nat)))
    | none => .ok [("lines", .tup (l0 :: l)), ("many", .int w)]) else .error (badEntries .non) := rfl
def resL (r : Except Exn (List (Str × D))) (st : Sta) : Res D := match r with
  | .ok fs => .ok .non (st ++ [.obj "Ledger" fs])
  | .error e => .exc e (st ++ [.obj "Ledger" []])
theorem ledger_init (h : knL d = true) (hv : kn v = true) : m_Ledger_init [.cell st.length, d, v] (st ++ [.obj "Ledger" []]) = resL (ledI d v) st := by
  obtain ⟨hk, hl⟩ := Bool.and_eq_true_iff.mp h
  have h1 := isiT_tup_kn (st := st ++ [.obj "Ledger" []]) hk
  have f := is_from_ok (st := st ++ [.obj "Ledger" []]) (lo := 2) (hi := 4) hv
  apply ev_run
  unfold m_Ledger_init b_Ledger_init
  have bad : isFromD v 2 4 = false → ledI d v = .error ⟨"BadNumber", [("n", v)]⟩ := fun z => by
    cases v with
    | int w =>
      rw [ledI_int]
      rw [isFrom_int] at z
      rw [z]
      rfl
    | _ => rfl
  cases c : isFromD v 2 4 with
  | false =>
    rw [c] at f
    rw [bad c]
    simp [f, resL]
  | true =>
    rw [c] at f
    obtain ⟨w, rfl⟩ : ∃ w, v = .int w := by
      cases v with
      | int w => exact ⟨w, rfl⟩
      | _ => cases c
    have e : ledI d (.int w) = ledW w d := by
      rw [ledI_int]
      rw [isFrom_int] at c
      rw [c]
      rfl
    rw [e]
    cases d with
    | tup l =>
      have h1 : isiT "tuple" CS (.tup l) (st ++ [.obj "Ledger" []]) = some (.bl true) := h1
      cases l with
      | nil =>
        have e : ledW w (.tup []) = .error (badEntries .non) := rfl
        rw [e]
        simp [f, h1, badEntries, resL]
      | cons l0 l =>
        rw [ledW_cons]
        by_cases hn : (l0 :: l).length ≤ 40
        · rw [if_pos hn]
          have hn' : (l.length : Int) + 1 ≤ 40 := by simp at hn; omega
          have hp : (1 : Int) ≤ (l.length : Int) + 1 := by omega
          simp [f, h1, hn', hp, enumD_tup, -List.map_cons]
          refine e_loop (k := 0) (ds := l0 :: l) (fun x hx => List.all_eq_true.mp hl x hx) (.inl ⟨rfl, l, rfl⟩) (fun q y2 y3 => ?_) (fun j q y2 y3 => ?_)
          · rw [q]
            have ne : ¬ (("lines" : Str) = ("many" : Str)) := by decide
            simp
            rw [evS_of (fldC_okB (fs := []) (v := .tup (l0 :: l)) rfl rfl (by decide))]
            simp
            rw [evS_of (fldC_okB (v := .int w) rfl rfl (by simp [putF]))]
            simp [putF, ne, resL]
          · rw [q]
            simp [resL]
        · rw [if_neg hn]
          have hn' : ¬ (l.length : Int) + 1 ≤ 40 := by simp at hn; omega
          have hp : (1 : Int) ≤ (l.length : Int) + 1 := by omega
          simp [f, h1, hn', hp, badEntries, resL]
    | _ =>
      simp only [isTu] at h1
      simp [f, h1, badEntries, ledW, resL]
def ini_Ledger : Ini := fun ds => match ds with
  | [d, v] => if knL d && kn v then some (ledI d v) else none
  | _ => none
theorem iniL_eq {ds : List D} {r : Except Exn (List (Str × D))} (h : ini_Ledger ds = some r) : ∃ d v, ds = [d, v] ∧ knL d = true ∧ kn v = true ∧ r = ledI d v := by
  match ds, h with
  | [d, v], h =>
    have h' : (if knL d && kn v then some (ledI d v) else none) = some r := h
    by_cases hk : (knL d && kn v) = true
    · rw [if_pos hk] at h'
      obtain ⟨a, b⟩ := Bool.and_eq_true_iff.mp hk
      exact ⟨d, v, rfl, a, b, (Option.some.inj h').symm⟩
    · rw [if_neg hk] at h'
      cases h'
theorem ledI_ok {fs : List (Str × D)} (h : ledI d v = .ok fs) : fs = [(("lines" : Str), d), ("many", v)] := by
  unfold ledI at h
  split at h
  · split at h
    · unfold ledW at h
      split at h
      · split at h
        · split at h
          · cases h
          · cases h
            rfl
        · cases h
      · cases h
    · cases h
  · cases h
theorem ledI_err {e : Exn} (h : ledI d v = .error e) : (∃ x, e = badEntries x ∧ noCell 8 x = true) ∨ e = ⟨"BadNumber", [("n", v)]⟩ := by
  unfold ledI at h
  split at h
  · split at h
    · unfold ledW at h
      split at h
      · split at h
        · split at h
          · cases h
            exact .inl ⟨_, rfl, rfl⟩
          · cases h
        · cases h
          exact .inl ⟨_, rfl, rfl⟩
      · cases h
        exact .inl ⟨_, rfl, rfl⟩
    · cases h
      exact .inr rfl
  · cases h
    exact .inr rfl
theorem inik_Ledger : IniOk "Ledger" 2 m_Ledger_init ini_Ledger := by
  refine ⟨fun ds st r h => ?_, fun ds r h => ?_, fun ds fs h p hp => ?_, fun ds e h p hp => ?_⟩
  all_goals obtain ⟨d, v, rfl, hk, hv, hr⟩ := iniL_eq h
  · rw [hr]
    exact ledger_init hk hv
  · rfl
  · rw [ledI_ok hr.symm] at hp
    rcases List.mem_cons.mp hp with rfl | hp
    · exact .inl (by simp)
    · rw [List.mem_singleton.mp hp]
      exact .inl (by simp)
  · rcases ledI_err hr.symm with ⟨x, rfl, hx⟩ | rfl
    · rw [List.mem_singleton.mp (show p ∈ [(("index" : Str), x)] from hp)]
      exact .inr hx
    · rw [List.mem_singleton.mp (show p ∈ [(("n" : Str), v)] from hp)]
      exact .inl (by simp)
end
end PL
set_option Elab.async false
set_option linter.all false
set_option maxRecDepth 100000
set_option maxHeartbeats 4000000
namespace PL
open PySem PySem.Spec PyProof.Rows L2
section
variable {st : Sta} {d : D} {rows : List (List (Int × Int))} {w n i j k : Nat} {l : List D}
def tpD (s : List Nat) : D := .tup (s.map natD)
@[simp] theorem pln_tp {m : Nat} {s : List Nat} : pln (m + 1) (tpD s) = true := by simp [tpD, natD, pln]
@[simp] theorem ixD_tp {s : List Nat} {i : Int} : ixD (tpD s) (.int i) st = atI (s.map natD) i := rfl
end
end PL
set_option Elab.async false
set_option linter.all false
set_option maxRecDepth 100000
set_option maxHeartbeats 4000000
namespace PL
open PySem PySem.Spec PyProof.Rows L2
section
variable {env : Env} {st : Sta} {Q : SR → Prop} {body : SD} {i j : Nat}
theorem evL_at {α : Type} {enc : α → D} {l : List α} {tg : D → SD} (I : Nat → Env → Sta → Prop)
    (hs : ∀ k (h : k < l.length) env st, I k env st → evS (tg (enc l[k])) env st (kTg body (kI (I (k + 1)) Q)))
    (hq : ∀ env st, I l.length env st → Q (.nx env st)) (h : I 0 env st) : evL tg body (l.map enc) env st Q := by
  refine evL_num I (fun k hk env st hI => ?_) (fun env st hI => hq env st ?_) h
  · have hk' : k < l.length := by simpa using hk
    have e : (l.map enc)[k] = enc l[k] := by simp
    rw [e]
    exact hs k hk' env st hI
  · simpa using hI
end
end PL
set_option Elab.async false
set_option linter.all false
set_option maxRecDepth 100000
set_option maxHeartbeats 2000000
namespace PL
open PySem PySem.Spec PyProof.Rows L2
def mCelL (fs : Env → M (List D)) : Env → M D := fun env => fs env >>= fun ds => fun st => .ok (.cell st.length) (st ++ [.lst ds])
section
variable {X : Cx} {B : Bs} {W : WX} {e o : Expr} {es : List Expr} {pos apos p2 : Pos} {f fo : Env → M D} {fs : Env → M (List D)} {lo hi : Option Expr} {l u : Env → M (Option Int)}
theorem pp_cel (h : PE X e (rL X.K X.mg B W fs)) : PE X e (rE X.K X.mg B W (mCelL fs)) := h.imp fun σ H Q z => by
  obtain ⟨g, env, st, R, w⟩ := z
  refine seqL R w fun ds st1 F1 A1 H1 p vs R1 x1 hp r1 w1 => ?_
  obtain ⟨x2, G2⟩ := Ext.cellNew (o := .lst vs) (c := .lst ds) R1.good hp ⟨vs, upd_same, r1.mono (fun _ _ z => z) fun k a z => by rw [List.getElem?_append_left (List.getElem?_eq_some_iff.mp z).1]; exact z⟩
  have hc : Rep X.K X.mg F1 (A1 ++ [p]) (.ref p) (.cell st1.length) := .cell (by
    have hl : A1.length = st1.length := R1.good.len
    rw [← hl]
    simp)
  have w2 : WPc X.K X.mg W F1 A1 σ H1 (Res.ok (D.cell st1.length) (st1 ++ [Cell.lst ds])) (fun d F' A' H' => ∀ v, Rep X.K X.mg F' A' v d → Q v H') := w1
  exact w2 _ _ _ x2 G2 _ hc
end
end PL
set_option Elab.async false
set_option linter.all false
set_option maxRecDepth 100000
set_option maxHeartbeats 2000000
namespace PL
open PySem PySem.Spec PyProof.Rows L2
section
variable {X : Cx} {B : Bs} {W : WX} {e : Expr} {x : Str} {p pos : Pos} {k : Nat} {f C : Addr} {fd : FuncData} {ps : List Str} {F : List D → M D} {fo : Env → M D} {c : Str}
end
end PL
set_option Elab.async false
set_option linter.all false
set_option maxRecDepth 100000
set_option maxHeartbeats 2000000
namespace PL
open PySem PySem.Spec PyProof.Rows L2
section
variable {prog : Program} {w : World} {A : Around} {E : Value → Shared → Prop} {s : Shared}
theorem draw_list {it t : Addr} {items : Array Value} (hne : t ≠ it) : ∀ (n i : Nat) (s : Shared) (Q : List Value → Shared → Prop), s.heap.IsListIter it t i → s.heap.IsList t items → i + n ≤ items.size →
    (∀ h', h'.IsListIter it t (i + n) → Heap.SameBut it s.heap h' → Q ((items.toList.drop i).take n) { s with heap := h' }) → wpAny (model prog w) A (draw (.ref it) n) Q E s
  | 0, i, s, Q, hit, _, _, hQ => by
    show wpAny _ _ (pure []) Q E s
    exact wpAny_pure (by simpa using hQ s.heap hit (Heap.SameBut.refl ..))
  | n + 1, i, s, Q, hit, ht, hle, hQ => by
    have hlt : i < items.size := by omega
    show wpAny _ _ (pyNext (.ref it) >>= _) Q E s
    refine wpAny_bind (wpAny_pyNext_list_item hit ht (x := items[i]) (by simp [hlt]) fun h₁ hit₁ hs₁ => ?_)
    refine wpAny_bind (wpAny_holding (draw_list hne n (i + 1) _ _ hit₁ (ht.extBut hs₁.extBut hne) (by omega) fun h₂ hit₂ hs₂ => wpAny_pure ?_))
    have hd : items.toList.drop i = items[i] :: items.toList.drop (i + 1) := by simp [List.drop_eq_getElem_cons, hlt]
    have := hQ h₂ (by rw [show i + (n + 1) = i + 1 + n by omega]; exact hit₂) (hs₁.trans hs₂)
    rw [hd, List.take_succ_cons] at this
    exact this
theorem unpackItems_list {t : Addr} {items : Array Value} {Q : List Value → Shared → Prop} (hh : A.handled = none) (ht : s.heap.IsList t items)
    (hQ : ∀ h', Heap.ExtBut s.heap.objs.size s.heap h' → Q items.toList { s with heap := h' }) : wpAny (model prog w) A (unpackItems (.ref t) items.size none) Q E s := by
  have hlt : t ≠ s.heap.objs.size := by obtain ⟨o, ho, _⟩ := ht; exact Nat.ne_of_lt (Heap.lt_size ho)
  unfold unpackItems
  refine wpAny_bind ?_
  · unfold notIterableAtAll
    refine wpAny_bind (wpAny_specialOf ht.typeIs slot_list_iter.lookup ?_)
    refine wpAny_pure ?_
    simp only [Bool.false_eq_true, if_false]
    refine wpAny_bind (wpAny_holding (wpAny_pyIter_list ht ?_))
    refine wpAny_bind (wpAny_holding (draw_list hlt items.size 0 _ _ ⟨_, Heap.get?_push_size _ rfl, rfl, rfl⟩ (ht.push _) (by omega) fun h₁ hit₁ hs₁ => ?_))
    have hall : List.take items.size (List.drop 0 items.toList) = items.toList := by
      rw [List.drop_zero]; exact List.take_of_length_le (by simp)
    rw [hall]
    rw [if_neg (by simp)]
    have ht₁ : h₁.IsList t items := (ht.push _).extBut hs₁.extBut hlt
    refine wpAny_bind (wpAny_holding (wpAny_pyNext_list_end hh hit₁ ht₁ (by simp) fun h₂ he₂ => ?_))
    simp only [Option.isSome_none, Bool.false_eq_true, if_false]
    refine wpAny_pure (hQ h₂ fun b o hb e => he₂ b o hb (hs₁.extBut b o hb (Heap.get?_push_of_some _ e)))
theorem unpack_list {t : Addr} {items : Array Value} {targets : List (Bool × (Value → Sem Unit))} {Q : Unit → Shared → Prop} (hh : A.handled = none) (ht : s.heap.IsList t items)
    (hn : targets.length = items.size) (hstar : targets.findIdx? (·.1) = none)
    (h : ∀ h', Heap.ExtBut s.heap.objs.size s.heap h' → wpAny (model prog w) A (assignInOrder (targets.map (·.2)) items.toList) Q E { s with heap := h' }) :
    wpAny (model prog w) A (unpack (.ref t) targets) Q E s := by
  unfold unpack
  rw [hn, hstar]
  exact wpAny_bind (wpAny_holding (unpackItems_list hh ht h))
theorem assign_Tuple_list {env : PySem.Env} {elts : List Expr} {x1} {pos : Pos} {t : Addr} {items : Array Value} {Q : Unit → Shared → Prop} (hh : A.handled = none) (ht : s.heap.IsList t items)
    (hn : (assignEach elts env).length = items.size) (hstar : (assignEach elts env).findIdx? (·.1) = none)
    (h : ∀ h', Heap.ExtBut s.heap.objs.size s.heap h' → wpAny (model prog w) A (assignInOrder ((assignEach elts env).map (·.2)) items.toList) Q E { s with heap := h' }) :
    wpAny (model prog w) A (assign (.Tuple elts x1 pos) env (.ref t)) Q E s := by
  rw [assign_Tuple]
  exact wpAny_bind (wpAny_standAt (unpack_list hh ht hn hstar h))
end
def aTupL (n : Nat) (a : List D → SD) : D → SD := fun d => match d with
  | .lst ds => if ds.length = n then a ds else fun _ _ => .bad
  | _ => fun _ _ => .bad
def gLst (K : PySem.W.Frag) (n : Nat) (t : TGs) : TG := fun v σ H Q => ∃ a xs, v = .ref a ∧ SqL K H a xs ∧ xs.length = n ∧ t xs σ H Q
section
variable {X : Cx} {B : Bs} {pos : Pos}
theorem pg_lst {es : List Expr} {k : Nat} {t : TGs} {n : Nat} (hc : X.calm = true) (h : PGs X es t)
    (hn : (assignEach es X.env).length = n := by rfl) (hst : (assignEach es X.env).findIdx? (·.1) = none := by rfl) : PG X (.Tuple es k pos) (gLst X.K n t) := by
  refine ⟨fun pins s σ H v u Q I r hw => ?_⟩
  obtain ⟨a, xs, e1, hq, hl, hw⟩ := hw
  subst e1
  cases r
  obtain ⟨its, rv, ht, hz⟩ := I.list hq
  refine assign_Tuple_list (I.ok.hd hc) ht.isList (by simp [hn, ← hl, rv.length]) hst fun h' hx => ?_
  have I1 : L2.Inv X pins σ H { s with heap := h' } := I.kept (t' := s.toks) fun b o e => hx b o (Nat.ne_of_lt (Heap.lt_size e)) e
  exact h.run pins _ σ H xs _ Q I1 (by simpa using rv) hw
theorem qg_tupL {es : List Expr} {k : Nat} {a : List D → SD} {n : Nat} (hc : X.calm = true) (h : PGs X es (gAs X.K X.mg B a))
    (hn : (assignEach es X.env).length = n := by rfl) (hst : (assignEach es X.env).findIdx? (·.1) = none := by rfl) : PG X (.Tuple es k pos) (gA X.K X.mg B (aTupL n a)) := PG.imp (pg_lst hc h hn hst) fun v σ H Q ⟨g, env, st, d, R, r, w⟩ => by
  unfold aTupL at w
  split at w
  · rename_i ds
    split at w
    · rename_i hl
      cases r with
      | @lst p vs _ s r => exact ⟨p, vs, rfl, SqL.of (R.good.sub _ _ s), by rw [r.length]; exact hl, g, env, st, ds, R, r, w⟩
    · exact w.elim
  · exact w.elim
end
end PL
set_option Elab.async false
set_option linter.all false
set_option maxRecDepth 100000
set_option maxHeartbeats 4000000
namespace PL
open PySem PySem.Spec PyProof.Rows L2
section
variable {env : Env} {st : Sta} {Q : Res D → Prop} {QS : SR → Prop} {f g : Env → M D} {fs : Env → M (List D)} {d : D} {ds : List D} {e : Exn}
def kCelL (Q : Res D → Prop) : Res (List D) → Prop
  | .ok ds st => Q (.ok (.cell st.length) (st ++ [.lst ds]))
  | .exc e st => Q (.exc e st)
  | .bad => Q .bad
@[simp] theorem kCelL_ok : kCelL Q (.ok ds st) = Q (.ok (.cell st.length) (st ++ [.lst ds])) := by with_unfolding_all exact id rfl
@[simp] theorem evM_mCelL : evM (mCelL fs) env st Q = evM fs env st (kCelL Q) := by
  with_unfolding_all
    unfold evM mCelL
    show Q ((fs env st).bind (fun ds => (fun st => Res.ok (D.cell st.length) (st ++ [Cell.lst ds]) : M D))) = kCelL Q (fs env st)
    cases fs env st <;> rfl
@[simp] theorem evS_aTupL {n : Nat} {tgs : List D → SD} : evS (aTupL n tgs (.lst ds)) env st QS = if ds.length = n then evS (tgs ds) env st QS else QS .bad := by
  with_unfolding_all
    show QS ((if ds.length = n then tgs ds else fun _ _ => SR.bad) env st) = _
    unfold evS
    by_cases h : ds.length = n
    · rw [if_pos h, if_pos h]
    · rw [if_neg h, if_neg h]
end
end PL
set_option Elab.async false
set_option linter.all false
set_option maxRecDepth 100000
set_option maxHeartbeats 2000000
namespace PL
open PySem PySem.Spec PyProof.Rows L2

def vget (l : List Ent) (n : NestedKey) : Option V := (l.find? fun x => decide (x.1 = n)).map (·.2.2)
def putE (l : List Ent) (n : NestedKey) (k v : V) : List Ent := if (l.any fun x => decide (x.1 = n)) = true then l.map (fun x => if x.1 = n then (x.1, x.2.1, v) else x) else l ++ [(n, k, v)]
theorem length_putE (l : List Ent) (n : NestedKey) (k v : V) : (putE l n k v).length ≤ l.length + 1 := by
  unfold putE
  split
  · rw [List.length_map]; omega
  · rw [List.length_append, List.length_cons, List.length_nil]; omega
theorem mem_putE {l : List Ent} {n : NestedKey} {k v : V} {x : Ent} (h : x ∈ putE l n k v) : (∃ y ∈ l, x.1 = y.1 ∧ x.2.1 = y.2.1) ∨ (x.1 = n ∧ x.2.1 = k) := by
  unfold putE at h
  split at h
  · obtain ⟨y, hy, e⟩ := List.mem_map.mp h
    subst e
    refine .inl ⟨y, hy, ?_⟩
    split <;> exact ⟨rfl, rfl⟩
  · rcases List.mem_append.mp h with z | z
    · exact .inl ⟨x, z, rfl, rfl⟩
    · simp at z; subst z; exact .inr ⟨rfl, rfl⟩

section
variable (K : PySem.W.Frag) (H : Hp)
mutual
inductive NkAt : V → NestedKey → Prop
  | non : NkAt .non .none
  | bl (b : Bool) : NkAt (.bl b) (.num (if b = true then 1 else 0))
  | int (i : Int) : NkAt (.int i) (.num i)
  | tup {a : Addr} {vs : List V} {ns : List NestedKey} : SqT K H a vs → NkAts vs ns → NkAt (.ref a) (.tup ns)
inductive NkAts : List V → List NestedKey → Prop
  | nil : NkAts [] []
  | cons {v : V} {n : NestedKey} {vs : List V} {ns : List NestedKey} : NkAt v n → NkAts vs ns → NkAts (v :: vs) (n :: ns)
end
end
section
variable {K : PySem.W.Frag} {mg : Str → Option Value} {F H H' : Hp} {A : List Addr}
mutual
theorem NkAt.mono (k : ∀ b o, H b = some o → H' b = some o) : ∀ {v : V} {n : NestedKey}, NkAt K H v n → NkAt K H' v n
  | _, _, .non => .non
  | _, _, .bl b => .bl b
  | _, _, .int i => .int i
  | _, _, .tup s r => .tup (SqT.mono s k) (NkAts.mono k r)
theorem NkAts.mono (k : ∀ b o, H b = some o → H' b = some o) : ∀ {v : List V} {n : List NestedKey}, NkAts K H v n → NkAts K H' v n
  | _, _, .nil => .nil
  | _, _, .cons h r => .cons (NkAt.mono k h) (NkAts.mono k r)
end
mutual
theorem nkAt_rep : ∀ {d : D} {v : V} {n : NestedKey}, Rep K mg F A v d → nkD d = some n → NkAt K F v n
  | .non, _, _, .non, e => by cases e; exact .non
  | .bl b, _, _, .bl _, e => by cases e; exact .bl b
  | .int i, _, _, .int _, e => by cases e; exact .int i
  | .tup l, _, _, .tup s r, e => by
    rw [nkD] at e
    obtain ⟨ns, e1, rfl⟩ := Option.map_eq_some_iff.mp e
    exact .tup s (nkAts_rep r e1)
  | .str _, _, _, _, e => by cases e
  | .lst _, _, _, _, e => by cases e
  | .fix _, _, _, _, e => by cases e
  | .dct _, _, _, _, e => by cases e
  | .obj _ _, _, _, _, e => by cases e
  | .cell _, _, _, _, e => by cases e
  | .fn _, _, _, _, e => by cases e
theorem nkAts_rep : ∀ {d : List D} {v : List V} {n : List NestedKey}, Reps K mg F A v d → nkDs d = some n → NkAts K F v n
  | [], _, _, .nil, e => by cases e; exact .nil
  | d :: l, _, _, .cons h r, e => by
    rw [nkDs] at e
    obtain ⟨n1, e1, e2⟩ := Option.bind_eq_some_iff.mp e
    obtain ⟨ns, e3, rfl⟩ := Option.map_eq_some_iff.mp e2
    exact .cons (nkAt_rep h e1) (nkAts_rep r e3)
end
mutual
theorem nk_hash (w w' : World) : ∀ {d : D} {n : NestedKey}, nkD d = some n → n.hash w = n.hash w'
  | .non, _, e => by cases e; rfl
  | .bl b, _, e => by cases e; rfl
  | .int i, _, e => by cases e; rfl
  | .tup l, _, e => by
    rw [nkD] at e
    obtain ⟨ns, e1, rfl⟩ := Option.map_eq_some_iff.mp e
    rw [NestedKey.hash, NestedKey.hash, nks_hash w w' e1]
  | .str _, _, e => by cases e
  | .lst _, _, e => by cases e
  | .fix _, _, e => by cases e
  | .dct _, _, e => by cases e
  | .obj _ _, _, e => by cases e
  | .cell _, _, e => by cases e
  | .fn _, _, e => by cases e
theorem nks_hash (w w' : World) : ∀ {d : List D} {n : List NestedKey}, nkDs d = some n → NestedKey.hashes w n = NestedKey.hashes w' n
  | [], _, e => by cases e; rfl
  | d :: l, _, e => by
    rw [nkDs] at e
    obtain ⟨n1, e1, e2⟩ := Option.bind_eq_some_iff.mp e
    obtain ⟨ns, e3, rfl⟩ := Option.map_eq_some_iff.mp e2
    rw [NestedKey.hashes, NestedKey.hashes, nk_hash w w' e1, nks_hash w w' e3]
end
end
section
variable {X : Cx} {pins : List (Addr × Obj)} {σ : L2.St} {H : Hp} {s : Shared}
mutual
theorem NkAt.is (I : Inv X pins σ H s) : ∀ {v : V} {n : NestedKey} {u : Value}, NkAt X.K H v n → RelV v u → NestedIs s.heap n u
  | _, _, u, .non, r => by
    cases (show u = Value.none from r)
    exact .none
  | _, _, u, .bl b, r => by
    cases (show u = Value.bool b from r)
    exact .bool rfl
  | _, _, u, .int i, r => by
    obtain ⟨t, e⟩ := (show ∃ t, u = Value.int i t from r)
    subst e
    exact .int i t
  | _, _, u, .tup (a := a) q rs, r => by
    cases (show u = Value.ref a from r)
    obtain ⟨its, rv, ⟨o, h1, h2, n, h3⟩, hz⟩ := I.tuple q
    exact .tup h1 h2 h3 (by simpa using NkAts.is I rs rv)
theorem NkAts.is (I : Inv X pins σ H s) : ∀ {v : List V} {n : List NestedKey} {u : List Value}, NkAts X.K H v n → Vals v u → NestedAll s.heap n u
  | _, _, _, .nil, .nil => .nil
  | _, _, _, .cons h rs, .cons r t => .cons (NkAt.is I h r) (NkAts.is I rs t)
end
end
def KInt (l : List Ent) : Prop := ∀ x ∈ l, ∃ i, x.1 = .num i ∧ x.2.1 = .int i
def KTup (K : PySem.W.Frag) (H : Hp) (l : List Ent) : Prop := ∀ x ∈ l, ∃ b, x.2.1 = .ref b ∧ NkAt K H x.2.1 x.1 ∧ x.1.depth ≤ 8
inductive KOk (K : PySem.W.Frag) (H : Hp) (l : List Ent) (y : V) (n : NestedKey) : Prop
  | int {i : Int} (ey : y = .int i) (en : n = .num i) (h : KInt l)
  | tup {b : Addr} (ey : y = .ref b) (a : NkAt K H y n) (d : n.depth ≤ 8) (h : KTup K H l)

abbrev EI (x : Ent) (kv : Int × Value) : Prop := x.1 = .num kv.1 ∧ x.2.1 = .int kv.1 ∧ RelV x.2.2 kv.2
abbrev ET (x : Ent) (y : NestedKey × Addr × Value) : Prop := x.1 = y.1 ∧ x.2.1 = .ref y.2.1 ∧ RelV x.2.2 y.2.2
theorem ei_keys {l : List Ent} {kvs : List (Int × Value)} (h : Paired EI l kvs) : l.map (·.1) = (kvs.map (·.1)).map .num := by
  induction h with
  | nil => rfl
  | cons r t ih => rw [List.map_cons, List.map_cons, List.map_cons, ih, r.1]
theorem et_keys {l : List Ent} {xs : List (NestedKey × Addr × Value)} (h : Paired ET l xs) : l.map (·.1) = xs.map (·.1) := by
  induction h with
  | nil => rfl
  | cons r t ih => rw [List.map_cons, List.map_cons, ih, r.1]
theorem nodup_num {l : List Int} (h : (l.map NestedKey.num).Nodup) : l.Nodup := by
  induction l with
  | nil => exact List.nodup_nil
  | cons a l ih =>
    rw [List.map_cons, List.nodup_cons] at h
    exact List.nodup_cons.mpr ⟨fun z => h.1 (List.mem_map_of_mem z), ih h.2⟩
section
variable {P : Program} {w : World} {h : Heap} {a : Addr} {o : Obj} {l : List Ent}
theorem ents_int : ∀ {l : List Ent} {es : List DictEntry}, Paired DEnt l es → KInt l → ∃ kvs, Pairs (PySem.intKind P w) es kvs ∧ Paired EI l kvs ∧ ∀ e ∈ es, ∃ k, (PySem.intKind P w).is k e.key = true ∧ e.hash = (PySem.intKind P w).hash k
  | _, _, .nil, _ => ⟨[], .nil, .nil, fun e he => nomatch he⟩
  | _, _, .cons (a := x) (b := e) r t, k => by
    obtain ⟨kvs, h1, h2, h3⟩ := ents_int t fun y hy => k y (List.mem_cons_of_mem _ hy)
    obtain ⟨i, e1, e2⟩ := k x (List.mem_cons_self ..)
    obtain ⟨r1, r2, r3⟩ := r
    rw [e2] at r1
    obtain ⟨tk, ek⟩ := (show ∃ t, e.key = Value.int i t from r1)
    have hi : (PySem.intKind P w).is i e.key = true := by
      rw [ek]
      show Value.isInt i (.int i tk) = true
      simp [Value.isInt]
    refine ⟨(i, e.val) :: kvs, .cons hi rfl h1, .cons ⟨e1, e2, r2⟩ h2, fun e' he => ?_⟩
    rcases List.mem_cons.mp he with z | z
    · subst z
      refine ⟨i, hi, ?_⟩
      have := r3 w
      rw [e1] at this
      exact this
    · exact h3 e' z
theorem raw_int (r : DRaw a o l h) (k : KInt l) : ∃ kvs, h.DictOf (PySem.intKind P w) a kvs ∧ Paired EI l kvs := by
  obtain ⟨h1, h2, ⟨es, ep, h3, h7⟩, h4, h5, h6⟩ := r
  obtain ⟨kvs, p1, p2, p3⟩ := ents_int (P := P) (w := w) h7 k
  refine ⟨kvs, ⟨o, es, ep, h1, h2, h3, fun e he => p3 e (by simpa using he), p1, nodup_num (by rw [← ei_keys p2]; exact h6)⟩, p2⟩
theorem ents_tup : ∀ {l : List Ent} {es : List DictEntry}, Paired DEnt l es → (∀ x ∈ l, ∃ b, x.2.1 = .ref b ∧ (nestedKind P w).is h x.1 b) → ∃ xs, es = xs.map (entryOfKey (nestedKind P w)) ∧ Paired ET l xs ∧ ∀ x ∈ xs, (nestedKind P w).is h x.1 x.2.1
  | _, _, .nil, _ => ⟨[], rfl, .nil, fun e he => nomatch he⟩
  | _, _, .cons (a := x) (b := e) r t, k => by
    obtain ⟨xs, h1, h2, h3⟩ := ents_tup t fun y hy => k y (List.mem_cons_of_mem _ hy)
    obtain ⟨b, e2, e3⟩ := k x (List.mem_cons_self ..)
    obtain ⟨r1, r2, r3⟩ := r
    rw [e2] at r1
    have ek : e.key = Value.ref b := r1
    refine ⟨(x.1, b, e.val) :: xs, ?_, .cons ⟨rfl, e2, r2⟩ h2, fun y hy => ?_⟩
    · rw [List.map_cons, ← h1]
      congr 1
      obtain ⟨eh, ekk, ev⟩ := e
      simp only at ek r3
      subst ek
      show DictEntry.mk eh (.ref b) ev = ⟨x.1.hash w, .ref b, ev⟩
      rw [r3 w]
    · rcases List.mem_cons.mp hy with z | z
      · subst z; exact e3
      · exact h3 y z
theorem raw_tup (r : DRaw a o l h) (k : ∀ x ∈ l, ∃ b, x.2.1 = .ref b ∧ (nestedKind P w).is h x.1 b) : ∃ xs, h.DictOfH (nestedKind P w) a xs ∧ Paired ET l xs := by
  obtain ⟨h1, h2, ⟨es, ep, h3, h7⟩, h4, h5, h6⟩ := r
  obtain ⟨xs, p1, p2, p3⟩ := ents_tup (P := P) (w := w) (h := h) h7 k
  exact ⟨xs, ⟨o, es, ep, h1, h2, h3, p1, p3, by rw [← et_keys p2]; exact h6⟩, p2⟩
theorem tup_ents : ∀ {l : List Ent} {xs : List (NestedKey × Addr × Value)}, Paired ET l xs → (∀ x ∈ l, ∀ w' : World, x.1.hash w = x.1.hash w') → Paired DEnt l (xs.map (entryOfKey (nestedKind P w)))
  | _, _, .nil, _ => .nil
  | _, _, .cons (a := x) (b := y) r t, k => by
    rw [List.map_cons]
    refine .cons ⟨?_, r.2.2, fun w' => ?_⟩ (tup_ents t fun z hz => k z (List.mem_cons_of_mem _ hz))
    · rw [r.2.1]; rfl
    · show y.1.hash w = _
      rw [← r.1]
      exact k x (List.mem_cons_self ..) w'
theorem tup_raw {xs : List (NestedKey × Addr × Value)} (d : h.DictOfH (nestedKind P w) a xs) (r : Paired ET l xs) (k : ∀ x ∈ l, ∀ w' : World, x.1.hash w = x.1.hash w') (hl : l.length ≤ sizeLine) (hs : (a == sysModules) = false) : ∃ o, DRaw a o l h := by
  obtain ⟨o, es, ep, h1, h2, h3, h4, h5, h6⟩ := d
  exact ⟨o, h1, h2, ⟨es, ep, h3, by rw [h4]; exact tup_ents r k⟩, hl, hs, by rw [et_keys r]; exact h6⟩
theorem ei_val {l : List Ent} {kvs : List (Int × Value)} (r : Paired EI l kvs) (i : Int) : RelO (vget l (.num i)) (valueAt kvs i) := by
  induction r with
  | nil => exact True.intro
  | @cons p q ps qs h t ih =>
    unfold vget valueAt at ih ⊢
    by_cases e : q.1 = i
    · have e1 : p.1 = .num i := by rw [h.1, e]
      simp only [List.find?_cons, e1, e, decide_true, Option.map_some]
      exact h.2.2
    · have e1 : ¬ p.1 = .num i := fun z => by rw [h.1] at z; cases z; exact e rfl
      simp only [List.find?_cons, e1, e, decide_false]
      exact ih
theorem et_val {l : List Ent} {xs : List (NestedKey × Addr × Value)} (r : Paired ET l xs) (n : NestedKey) : RelO (vget l n) (valueAt (pairsH xs) n) := by
  rw [valueAt_pairsH]
  induction r with
  | nil => exact True.intro
  | @cons p q ps qs h t ih =>
    unfold vget atKey at ih ⊢
    by_cases e : q.1 = n
    · have e1 : p.1 = n := by rw [h.1, e]
      simp only [List.find?_cons, e1, e, decide_true, Option.map_some]
      exact h.2.2
    · have e1 : ¬ p.1 = n := fun z => e (by rw [← h.1]; exact z)
      simp only [List.find?_cons, e1, e, decide_false]
      exact ih
theorem et_put {l : List Ent} {xs : List (NestedKey × Addr × Value)} (r : Paired ET l xs) (n : NestedKey) (b : Addr) {v : V} {u : Value} (rv : RelV v u) : Paired ET (putE l n (.ref b) v) (storedH xs n b u) := by
  have ha : (l.any fun x => decide (x.1 = n)) = (atKey xs n).isSome := by
    rw [← any_pairsH]
    induction r with
    | nil => rfl
    | @cons p q ps qs h t ih =>
      show (decide (p.1 = n) || _) = (decide (q.1 = n) || _)
      rw [ih, h.1]
      rfl
  unfold putE storedH
  rw [ha]
  split
  · rename_i hq
    clear hq ha
    induction r with
    | nil => exact .nil
    | @cons p q ps qs h t ih =>
      rw [List.map_cons, List.map_cons]
      refine .cons ?_ ih
      unfold putAt
      by_cases e : q.1 = n
      · have e1 : p.1 = n := by rw [h.1, e]
        rw [if_pos e, if_pos e1]
        exact ⟨h.1, h.2.1, rv⟩
      · have e1 : ¬ p.1 = n := fun z => e (by rw [← h.1]; exact z)
        rw [if_neg e, if_neg e1]
        exact h
  · exact Paired.snoc r ⟨rfl, rfl, rv⟩
end
theorem do_new {P : Program} {w : World} {H : Hp} {h : Heap} {a : Addr} {o : Obj} {l : List Ent} (r : DRaw a o l h) : ObjOk P w H h a (DO a o l) :=
  ⟨r, ⟨o, r.1⟩, fun h1 h2 ⟨e, r⟩ k => ⟨k _ e, r⟩⟩
end PL
set_option Elab.async false
set_option linter.all false
set_option maxRecDepth 100000
set_option maxHeartbeats 2000000
namespace PL
open PySem PySem.Spec PyProof.Rows L2
section
variable {X : Cx} {pins : List (Addr × Obj)} {σ : L2.St} {H : Hp} {s : Shared} {a : Addr} {o : Obj} {l : List Ent} {y v d : V} {n : NestedKey} {u r : Value} {A : Around} {E : Value → Shared → Prop}
theorem do_at (I : Inv X pins σ H s) (e : H a = some (DO a o l)) : DRaw a o l s.heap := (show ObjOk X.prog X.w H s.heap a (DO a o l) from I.hok a _ e).1
theorem ko_tup (I : Inv X pins σ H s) (h : KTup X.K H l) : ∀ x ∈ l, ∃ b, x.2.1 = .ref b ∧ (nestedKind X.prog X.w).is s.heap x.1 b := fun x hx => by
  obtain ⟨b, e, at1, dp⟩ := h x hx
  rw [e] at at1
  exact ⟨b, e, NkAt.is I at1 rfl, dp⟩
theorem room8 (hu : A.units + 64 < cLine) : (nestedKind X.prog X.w).room A.in1 := by
  show A.units + 1 + 8 < cLine
  omega
theorem isInt_of {i : Int} (ry : RelV (.int i) u) : (PySem.intKind X.prog X.w).is i u = true := by
  obtain ⟨t, e⟩ := (show ∃ t, u = Value.int i t from ry)
  subst e
  show Value.isInt i (.int i t) = true
  simp [Value.isInt]
theorem do_dict (I : Inv X pins σ H s) (e : H a = some (DO a o l)) : s.TypeIs (.ref a) "dict" ∧ (∀ b, Value.ref a = .ref b → ∃ ob, s.heap.get? b = some ob ∧ ob.dict = none) := by
  obtain ⟨h1, h2, _⟩ := do_at I e
  exact ⟨⟨o, h1, h2.1⟩, fun b q => by cases q; exact ⟨o, h1, h2.2.1⟩⟩
theorem d_getN {Q : Value → Shared → Prop} (hu : A.units + 64 < cLine) (I : Inv X pins σ H s) (e : H a = some (DO a o l)) (k : KOk X.K H l y n) (hv : vget l n = some v) (ry : RelV y u) (h : ∀ w' s', Inv X pins σ H s' → RelV v w' → Q w' s') :
    wpAny (model X.prog X.w) A (getItem (.ref a) u) Q E s := by
  have r := do_at I e
  cases k with
  | @int i ey en hk =>
    subst ey en
    obtain ⟨kvs, dd, pr⟩ := raw_int (P := X.prog) (w := X.w) r hk
    obtain ⟨w', hw, rw'⟩ := RelO.some_of (v := v) (o := valueAt kvs i) (by rw [← hv]; exact ei_val pr i)
    exact wpAny_getItem_of (isInt_of ry) dd.mapOf hw (h w' _ (I.tok _) rw')
  | @tup b ey at1 dp hk =>
    subst ey
    cases (show u = Value.ref b from ry)
    obtain ⟨xs, dd, pr⟩ := raw_tup (P := X.prog) (w := X.w) r (ko_tup I hk)
    obtain ⟨w', hw, rw'⟩ := RelO.some_of (v := v) (o := valueAt (pairsH xs) n) (by rw [← hv]; exact et_val pr n)
    exact getItem_keyed (room8 hu) ⟨NkAt.is I at1 rfl, dp⟩ ⟨xs, dd, rfl⟩ hw (h w' _ (I.tok _) rw')
def HNo (l : List Ent) (n : NestedKey) : Prop := (∀ x ∈ l, ∀ w w' : World, x.1.hash w = x.1.hash w') ∧ ∀ w w' : World, n.hash w = n.hash w'
theorem HNo.put {l : List Ent} {n : NestedKey} (h : HNo l n) (k v : V) (w : World) : ∀ x ∈ putE l n k v, ∀ w' : World, x.1.hash w = x.1.hash w' := fun x hx w' => by
  rcases mem_putE hx with ⟨z, hz, e, _⟩ | ⟨e, _⟩
  · rw [e]; exact h.1 z hz w w'
  · rw [e]; exact h.2 w w'
theorem d_setdN {b : Addr} {Q : Value → Shared → Prop} (hu : A.units + 64 < cLine) (I : Inv X pins σ H s) (e : H a = some (DO a o l)) (at1 : NkAt X.K H (.ref b) n) (dp : n.depth ≤ 8) (hk : KTup X.K H l) (hn : HNo l n) (hl : l.length < sizeLine) (rd : RelV d r)
    (h1 : ∀ v, vget l n = some v → ∀ w' s', Inv X pins σ H s' → RelV v w' → Q w' s') (h2 : vget l n = none → ∀ o' s', Inv X pins σ (upd H a (DO a o' (putE l n (.ref b) d))) s' → Q r s') : wpAny (model X.prog X.w) A (call (.builtin "dict.setdefault") [.ref a, .ref b, r]) Q E s := by
  have rr := do_at I e
  obtain ⟨_, _, _, hz0, hd, _⟩ := id rr
  have hl2 : (putE l n (.ref b) d).length ≤ sizeLine := by have := length_putE l n (.ref b) d; omega
  obtain ⟨xs, dd, pr⟩ := raw_tup (P := X.prog) (w := X.w) rr (ko_tup I hk)
  have hz : xs.length ≤ sizeLine := by rw [← Paired.length pr]; exact hz0
  have ev := et_val pr n
  rw [valueAt_pairsH] at ev
  refine call_setdefault_heap (hsz := hz) (room8 hu) (⟨NkAt.is I at1 rfl, dp⟩ : (nestedKind X.prog X.w).is s.heap n b) hd dd (fun p hp => ?_) fun hno h' dd' hs => ?_
  · rw [hp] at ev
    cases q : vget l n with
    | none => rw [q] at ev; exact (show False from ev).elim
    | some v0 =>
      rw [q] at ev
      exact h1 v0 q _ _ (I.tok _) ev
  · rw [hno] at ev
    cases q : vget l n with
    | some v0 => rw [q] at ev; exact (show False from ev).elim
    | none =>
      obtain ⟨o', ro⟩ := tup_raw dd' (et_put pr n b rd) (hn.put _ _ X.w) hl2 hd
      exact h2 q o' _ (d_write (t' := s.toks + _) I (by rw [e]; exact True.intro) hs ⟨o', ro.1⟩ (do_new ro))
end
def tDIx (K : PySem.W.Frag) (td ty : TE) : TE := fun σ H Q => td σ H fun x H1 => ty σ H1 fun y H2 => ∃ a o l n v, x = .ref a ∧ H2 a = some (DO a o l) ∧ KOk K H2 l y n ∧ vget l n = some v ∧ Q v H2
def tDSetN (K : PySem.W.Frag) (td ty tx : TE) : TE := fun σ H Q => td σ H fun x H1 => ∃ a, x = .ref a ∧ (∃ o l, H1 a = some (DO a o l)) ∧ ty σ H1 fun y H2 => tx σ H2 fun z H3 => ∃ b o l n, y = .ref b ∧ H3 a = some (DO a o l) ∧ NkAt K H3 y n ∧ n.depth ≤ 8 ∧ KTup K H3 l ∧ HNo l n ∧ l.length < sizeLine ∧
  (∀ v, vget l n = some v → Q v H3) ∧ (vget l n = none → ∀ o', Q z (upd H3 a (DO a o' (putE l n y z))))
section
variable {X : Cx} {o i e f : Expr} {pos apos cpos : Pos} {td ty tx : TE}
theorem pe_dix (hu : X.A.units + 64 < cLine) (ho : PE X o td) (hi : PE X i ty) (hs : NoSl i) : PE X (.Subscript o i pos) (tDIx X.K td ty) := by
  refine ⟨fun pins s σ H Q I h => ?_⟩
  refine subD_of PySem.F.slot_dict_getitem.lookup hs (thn (ho.run pins s σ H _ I h) fun u s1 ⟨x, H1, I1, rx, q1⟩ => thn (hi.run pins s1 σ H1 _ I1 q1) fun iv s2 ⟨y, H2, I2, ry, a, od, l, n, v, ex, e2, k, hv, q2⟩ => ?_)
  subst ex
  obtain rfl : u = Value.ref a := rx
  exact ⟨(do_dict I2 e2).1, d_getN hu I2 e2 k hv ry fun w' s3 I3 rw' => ⟨v, H2, I3, rw', q2⟩⟩
theorem pe_dsetN (hu : X.A.units + 64 < cLine) (ho : PE X o td) (he : PE X e ty) (hf : PE X f tx) (m : M2 X o "setdefault" apos e f cpos) : PE X (.Call (.Attribute o "setdefault" apos) [e, f] [] cpos) (tDSetN X.K td ty tx) := by
  refine ⟨fun pins s σ H Q I h => ?_⟩
  refine wpAny_Call_method m.base m.few m.line PySem.F.plainAttrs_dict PySem.F.slot_dict_setdefault PySem.F.type_dict_setdefault (thn (ho.run pins s σ H _ I h) fun u s1 ⟨x, H1, I1, rx, a, ex, ⟨od, l, ed⟩, q1⟩ => ?_)
  subst ex
  obtain rfl : u = Value.ref a := rx
  obtain ⟨t1, t2⟩ := do_dict I1 ed
  refine ⟨t1, t2, ?_⟩
  rw [m.trees]
  refine Calls.callWith_builtin rfl (Calls.evalArgs_plain (Calls.spliced_cons (thn (he.run pins s1 σ H1 _ I1 q1) fun iv s2 ⟨y, H2, I2, ry, q2⟩ =>
    Calls.spliced_cons (thn (hf.run pins s2 σ H2 _ I2 q2) fun fv s3 ⟨z, H3, I3, rz, b, o3, l3, n, ey, e3, at1, dp, hk, hn, hl, q3, q4⟩ => Calls.spliced_nil ?_))))
  subst ey
  cases (show iv = Value.ref b from ry)
  exact d_setdN hu I3 e3 at1 dp hk hn hl rz (fun v hv w' s4 I4 rw' => ⟨v, _, I4, rw', q3 v hv⟩) fun hn o' s4 I4 => ⟨z, _, I4, rz, q4 hn o'⟩
end
section
variable {X : Cx} {e : Expr} {td : TE} {apos cpos : Pos}
end
end PL
set_option Elab.async false
set_option linter.all false
set_option maxRecDepth 100000
set_option maxHeartbeats 2000000
namespace PL
open PySem PySem.Spec PyProof.Rows L2
def isIk : D → Bool
  | .int _ => true
  | _ => false
def isTk (d : D) : Bool := match d with
  | .tup _ => (match nkD d with
    | some n => decide (n.depth ≤ 8)
    | none => false)
  | _ => false
def dkey (l : List (D × D)) (k : D) : Bool := (isIk k && l.all fun p => isIk p.1) || (isTk k && l.all fun p => isTk p.1)
def dget (l : List (D × D)) (k : D) : Option D := (l.find? fun p => decide (nkD p.1 = nkD k)).map (·.2)
def dput (l : List (D × D)) (k v : D) : List (D × D) := if (l.any fun p => decide (nkD p.1 = nkD k)) = true then l.map (fun p => if nkD p.1 = nkD k then (p.1, v) else p) else l ++ [(k, v)]
def dctOf (d : D) (st : Sta) : Option (List (D × D)) := match d with
  | .dct l => some l
  | .cell k => (match st[k]? with
    | some (.dct l) => some l
    | _ => none)
  | _ => none
def ixDd (d k : D) (st : Sta) : Option D := (dctOf d st).bind fun l => if dkey l k then dget l k else none
def mCelD : Env → M D := fun _ st => .ok (.cell st.length) (st ++ [.dct []])
def setDk (d k x : D) : M D := fun st => match d with
  | .cell n => (match st[n]? with
    | some (.dct l) => if (isTk k && l.all fun p => isTk p.1) = true ∧ l.length < sizeLine then (match dget l k with
      | some y => .ok y st
      | none => .ok x (st.set n (.dct (dput l k x)))) else .bad
    | _ => .bad)
  | _ => .bad
def mSetD (f g h : Env → M D) : Env → M D := fun env => f env >>= fun d => M.rd (dctOf d) >>= fun _ => g env >>= fun k => h env >>= fun x => setDk d k x
section
variable {K : PySem.W.Frag} {mg : Str → Option Value} {F H : Hp} {A : List Addr} {st : Sta}
theorem KTup.mono {H' : Hp} {l : List Ent} (k : ∀ b o, H b = some o → H' b = some o) (h : KTup K H l) : KTup K H' l := fun x hx => let ⟨b, e, a, d⟩ := h x hx; ⟨b, e, a.mono k, d⟩
theorem KOk.mono {H' : Hp} {l : List Ent} {y : V} {n : NestedKey} (k : ∀ b o, H b = some o → H' b = some o) (h : KOk K H l y n) : KOk K H' l y n := by
  cases h with
  | int ey en h => exact .int ey en h
  | tup ey a d h => exact .tup ey (a.mono k) d (h.mono k)
theorem repD_int : ∀ {es : List Ent} {l : List (D × D)}, RepD K mg F A es l → (l.all fun p => isIk p.1) = true → KInt es
  | _, _, .nil, _ => fun x hx => nomatch hx
  | _, _, .cons (q := q) e rk rv r, h => by
    rw [List.all_cons, Bool.and_eq_true] at h
    intro x hx
    rcases List.mem_cons.mp hx with z | z
    · subst z
      cases q with
      | int i =>
        cases rk
        cases e
        exact ⟨i, rfl, rfl⟩
      | _ => exact absurd h.1 (by simp [isIk])
    · exact repD_int r h.2 x z
theorem isTk_rep {q : D} {k : V} {n : NestedKey} (h : isTk q = true) (e : nkD q = some n) (rk : Rep K mg F A k q) : ∃ b, k = .ref b ∧ NkAt K F k n ∧ n.depth ≤ 8 := by
  unfold isTk at h
  split at h
  · rw [e] at h
    have hd : n.depth ≤ 8 := by simpa using h
    have at1 := nkAt_rep rk e
    cases rk with
    | tup s r => exact ⟨_, rfl, at1, hd⟩
  · cases h
theorem repD_tup : ∀ {es : List Ent} {l : List (D × D)}, RepD K mg F A es l → (l.all fun p => isTk p.1) = true → KTup K F es
  | _, _, .nil, _ => fun x hx => nomatch hx
  | _, _, .cons (q := q) e rk rv r, h => by
    rw [List.all_cons, Bool.and_eq_true] at h
    intro x hx
    rcases List.mem_cons.mp hx with z | z
    · subst z
      obtain ⟨b, h1, h2, h3⟩ := isTk_rep h.1 e rk
      exact ⟨b, h1, h2, h3⟩
    · exact repD_tup r h.2 x z
theorem repD_hash : ∀ {es : List Ent} {l : List (D × D)}, RepD K mg F A es l → ∀ x ∈ es, ∀ w w' : World, x.1.hash w = x.1.hash w'
  | _, _, .nil => fun x hx => nomatch hx
  | _, _, .cons e rk rv r => fun x hx w w' => by
    rcases List.mem_cons.mp hx with z | z
    · subst z
      exact nk_hash w w' e
    · exact repD_hash r x z w w'
theorem repD_ok {es : List Ent} {l : List (D × D)} {k : D} {y : V} (r : RepD K mg F A es l) (rk : Rep K mg F A y k) (h : dkey l k = true) : ∃ n, nkD k = some n ∧ KOk K F es y n ∧ HNo es n := by
  unfold dkey at h
  rw [Bool.or_eq_true, Bool.and_eq_true, Bool.and_eq_true] at h
  rcases h with ⟨h1, h2⟩ | ⟨h1, h2⟩
  · cases k with
    | int i =>
      cases rk
      exact ⟨_, rfl, .int rfl rfl (repD_int r h2), repD_hash r, fun _ _ => rfl⟩
    | _ => exact absurd h1 (by simp [isIk])
  · have hn : ∃ n, nkD k = some n := by
      unfold isTk at h1
      split at h1
      · split at h1
        · rename_i n e
          exact ⟨n, e⟩
        · cases h1
      · cases h1
    obtain ⟨n, e⟩ := hn
    obtain ⟨b, q1, q2, q3⟩ := isTk_rep h1 e rk
    exact ⟨n, e, .tup q1 q2 q3 (repD_tup r h2), repD_hash r, fun w w' => nk_hash w w' e⟩
theorem repD_get {k : D} {n : NestedKey} (e : nkD k = some n) : ∀ {es : List Ent} {l : List (D × D)}, RepD K mg F A es l → (∀ d, dget l k = some d → ∃ v, vget es n = some v ∧ Rep K mg F A v d) ∧ (dget l k = none → vget es n = none)
  | _, _, .nil => ⟨fun d h => (by cases h), fun _ => rfl⟩
  | _, _, .cons (n := m) (q := q) (d := d0) (v := v0) (vs := vs) (ds := ds) (k := kv) e1 rk rv r => by
    obtain ⟨h1, h2⟩ := repD_get e r
    unfold dget vget at h1 h2 ⊢
    rw [List.find?_cons, List.find?_cons]
    by_cases z : m = n
    · have z1 : nkD q = nkD k := by rw [e1, e, z]
      simp only [z1, z, decide_true, Option.map_some]
      refine ⟨fun d h => ?_, fun h => (by cases h)⟩
      cases h
      exact ⟨v0, rfl, rv⟩
    · have z1 : ¬ nkD q = nkD k := by
        rw [e1, e]
        intro y
        cases y
        exact z rfl
      simp only [z1, z, decide_false]
      exact ⟨h1, h2⟩
theorem repD_app : ∀ {es : List Ent} {l : List (D × D)} {n : NestedKey} {k v : V} {q d : D}, RepD K mg F A es l → nkD q = some n → Rep K mg F A k q → Rep K mg F A v d → RepD K mg F A (es ++ [(n, k, v)]) (l ++ [(q, d)])
  | _, _, _, _, _, _, _, .nil, e, rk, rv => .cons e rk rv .nil
  | _, _, _, _, _, _, _, .cons e1 k1 v1 r, e, rk, rv => .cons e1 k1 v1 (repD_app r e rk rv)
theorem repD_put {n : NestedKey} {kv vv : V} {k d : D} (e : nkD k = some n) (rk : Rep K mg F A kv k) (rv : Rep K mg F A vv d) {es : List Ent} {l : List (D × D)} (r : RepD K mg F A es l) : RepD K mg F A (putE es n kv vv) (dput l k d) := by
  have ha : ∀ {es : List Ent} {l : List (D × D)}, RepD K mg F A es l → (es.any fun x => decide (x.1 = n)) = l.any fun p => decide (nkD p.1 = nkD k) := by
    intro es
    induction es with
    | nil => intro l r; cases r; rfl
    | cons x es ih =>
      intro l r
      cases r with
      | cons e1 k1 v1 r =>
        rw [List.any_cons, List.any_cons, ih r]
        congr 1
        simp only [e1, e, Option.some.injEq]
  unfold putE dput
  rw [ha r]
  split
  · rename_i hq
    clear hq ha
    induction es generalizing l with
    | nil => cases r; exact .nil
    | cons x es ih =>
      cases r with
      | @cons m k0 v0 _ q d0 ds e1 k1 v1 r =>
        rw [List.map_cons, List.map_cons]
        by_cases z : m = n
        · have z1 : nkD q = nkD k := by rw [e1, e, z]
          rw [if_pos z, if_pos z1]
          exact .cons e1 k1 rv (ih r)
        · have z1 : ¬ nkD q = nkD k := by
            rw [e1, e]
            intro y
            cases y
            exact z rfl
          rw [if_neg z, if_neg z1]
          exact .cons e1 k1 v1 (ih r)
  · exact repD_app r e rk rv
theorem dctOf_rep {d : D} {l : List (D × D)} {v : V} (G : Good K mg F A st H) (r : Rep K mg F A v d) (h : dctOf d st = some l) : ∃ a o es, v = .ref a ∧ H a = some (DO a o es) ∧ RepD K mg F A es l := by
  unfold dctOf at h
  split at h
  · cases h
    cases r with
    | @dct a o es _ e r => exact ⟨a, o, es, rfl, G.sub _ _ e, r⟩
  · split at h
    · rename_i e1
      cases h
      cases r with
      | @cell a _ hk =>
        obtain ⟨a', h1, h2⟩ := G.addr e1
        rw [hk] at h1
        cases h1
        obtain ⟨o, es, s, r⟩ := h2
        exact ⟨a, o, es, rfl, s, r⟩
    · cases h
  · cases h
end
section
variable {X : Cx} {B : Bs} {W : WX} {e i o a b : Expr} {pos apos cpos p2 : Pos} {f g h : Env → M D}
theorem pp_dix (hu : X.A.units + 64 < cLine) (ho : PE X o (rE X.K X.mg B W f)) (hi : PE X i (rE X.K X.mg B W g)) (hs : NoSl i) : PE X (.Subscript o i pos) (rE X.K X.mg B W (op2 ixDd f g)) := by
  refine (pe_dix hu ho hi hs).imp fun σ H Q z => ?_
  obtain ⟨gh, env, st, R, w⟩ := z
  refine seqE R w fun d st1 F1 A1 H1 x R1 x1 r1 w1 => ?_
  refine seqE R1 w1 fun k st2 F2 A2 H2 y R2 x2 r2 w2 => ?_
  obtain ⟨u, eu, w3⟩ := WPc.rd w2
  unfold ixDd at eu
  obtain ⟨l, e1, e2⟩ := Option.bind_eq_some_iff.mp eu
  split at e2
  · rename_i hk
    obtain ⟨a, od, es, rfl, s, rl⟩ := dctOf_rep R2.good (r1.ext x2) e1
    obtain ⟨n, en, ko, hno⟩ := repD_ok rl r2 hk
    obtain ⟨v, hv, rv⟩ := (repD_get en rl).1 _ e2
    exact ⟨a, od, es, n, v, rfl, s, ko.mono R2.good.sub, hv, w3 _ _ _ Ext.refl R2.good v rv⟩
  · cases e2
theorem seqRd {α β : Type} {K : PySem.W.Frag} {mg : Str → Option Value} {F : Hp} {A : List Addr} {σ : L2.St} {H : Hp} {st : Sta} {o : Sta → Option α} {k : α → M β} {Post : β → Hp → List Addr → Hp → Prop} (h : WPc K mg W F A σ H ((M.rd o >>= k) st) Post) : ∃ x, o st = some x ∧ WPc K mg W F A σ H (k x st) Post := by
  have h2 : WPc K mg W F A σ H ((M.rd o st).bind k) Post := h
  unfold M.rd at h2
  cases q : o st with
  | none => rw [q] at h2; exact h2.elim
  | some x => rw [q] at h2; exact ⟨x, rfl, h2⟩
theorem pp_dcel : PE X (.Dict [] [] pos) (rE X.K X.mg B W mCelD) := pe_dnew.imp fun σ H Q z => by
  obtain ⟨g, env, st, R, w⟩ := z
  intro p hp
  obtain ⟨x2, G2⟩ := Ext.cellNew (o := DO p dict0 []) (c := .dct []) R.good hp ⟨dict0, [], upd_same, .nil⟩
  have hc : Rep X.K X.mg g.F (g.A ++ [p]) (.ref p) (.cell st.length) := .cell (by
    have hl : g.A.length = st.length := R.good.len
    rw [← hl]
    simp)
  have w2 : WPc X.K X.mg W g.F g.A σ H (Res.ok (D.cell st.length) (st ++ [Cell.dct []])) (fun d F' A' H' => ∀ v, Rep X.K X.mg F' A' v d → Q v H') := w
  exact w2 _ _ _ x2 G2 _ hc
theorem pp_dsetN {e f0 : Expr} (hu : X.A.units + 64 < cLine) (ho : PE X o (rE X.K X.mg B W f)) (he : PE X e (rE X.K X.mg B W g)) (hf : PE X f0 (rE X.K X.mg B W h))
    (m1 : attributeBase o "setdefault" X.env (eval o X.env) = eval o X.env := by rfl)
    (m2 : ((backTo cpos (starEach [e, f0] X.env)).all (fun x => !x.1) && (backToKw cpos (keywordEach [] X.env)).all (fun x => x.1.isSome) && decide (([e, f0] : List Expr).length + ([] : List Keyword).length + (if ([] : List Keyword).isEmpty then 0 else 1) < 30)) = true := by rfl)
    (m3 : (apos.endLine == cpos.line) = true := by rfl) (m4 : backTo cpos (starEach [e, f0] X.env) = [(false, eval e X.env), (false, eval f0 X.env)] := by rfl) : PE X (.Call (.Attribute o "setdefault" apos) [e, f0] [] cpos) (rE X.K X.mg B W (mSetD f g h)) := by
  refine (pe_dsetN hu ho he hf ⟨m1, m2, m3, m4⟩).imp fun σ H Q z => ?_
  obtain ⟨gh, env, st, R, w⟩ := z
  refine seqE R w fun d st1 F1 A1 H1 x R1 x1 r1 w1 => ?_
  obtain ⟨l0, e0, w2⟩ := seqRd w1
  obtain ⟨a, od, es, rfl, s, rl⟩ := dctOf_rep R1.good r1 e0
  refine ⟨a, rfl, ⟨od, es, s⟩, ?_⟩
  refine seqE R1 w2 fun k st2 F2 A2 H2 y R2 x2 r2 w3 => ?_
  refine seqE R2 w3 fun xd st3 F3 A3 H3 xv R3 x3 r3 w4 => ?_
  have w5 : WPc X.K X.mg W F3 A3 σ H3 (match d with
    | .cell n => (match st3[n]? with
      | some (.dct l) => if (isTk k && l.all fun p => isTk p.1) = true ∧ l.length < sizeLine then (match dget l k with
        | some y => .ok y st3
        | none => .ok xd (st3.set n (.dct (dput l k xd)))) else .bad
      | _ => .bad)
    | _ => .bad) (fun d F' A' H' => ∀ v, Rep X.K X.mg F' A' v d → Q v H') := w4
  split at w5
  · split at w5
    · split at w5
      · rename_i m _ l hl hk
        obtain ⟨hk1, hk2⟩ := hk
        rw [Bool.and_eq_true] at hk1
        cases ((r1.ext x2).ext x3) with
        | @cell a _ hka =>
          obtain ⟨a', h1, h2⟩ := R3.good.addr hl
          have h1' : A3[m]? = some a' := h1
          rw [hka] at h1'
          cases h1'
          obtain ⟨od3, es3, s3, rl3⟩ := h2
          obtain ⟨n, en, ko, hno⟩ := repD_ok rl3 (r2.ext x3) (show dkey l k = true by unfold dkey; rw [hk1.1, hk1.2]; simp)
          obtain ⟨b, ey, at1, dp⟩ := isTk_rep hk1.1 en (r2.ext x3)
          obtain ⟨g1, g2⟩ := repD_get en rl3
          refine ⟨b, od3, es3, n, ey, s3, at1.mono R3.good.sub, dp, (repD_tup rl3 hk1.2).mono R3.good.sub, hno, by rw [rl3.length]; exact hk2, fun v hv => ?_, fun hv o' => ?_⟩
          · cases q : dget l k with
            | none => rw [g2 q] at hv; cases hv
            | some y0 =>
              rw [q] at w5
              obtain ⟨v1, hv1, rv1⟩ := g1 y0 q
              rw [hv] at hv1
              cases hv1
              exact w5 _ _ _ Ext.refl R3.good v rv1
          · cases q : dget l k with
            | some y0 =>
              obtain ⟨v1, hv1, rv1⟩ := g1 y0 q
              rw [hv] at hv1
              cases hv1
            | none =>
              rw [q] at w5
              obtain ⟨x4, G4⟩ := Ext.write (o := DO a o' (putE es3 n y xv)) (c := .dct (dput l k xd)) R3.good hka ⟨o', _, upd_same, repD_put en (r2.ext x3) r3 rl3⟩
              exact w5 _ _ _ x4 G4 xv (r3.ext x4)
      · exact w5.elim
    · exact w5.elim
  · exact w5.elim
end
end PL
set_option Elab.async false
set_option linter.all false
set_option maxRecDepth 100000
set_option maxHeartbeats 2000000
namespace PL
open PySem PySem.Spec PyProof.Rows L2
inductive PDs (X : Cx) (B : Bs) (W : WX) (pos : Pos) : List (Option Expr) → List Expr → (Env → M (List D)) → Prop
  | nil : PDs X B W pos [] [] args0
  | cons {k v : Expr} {ks : List (Option Expr)} {vs : List Expr} {f g : Env → M D} {fs : Env → M (List D)} : PE X k (rE X.K X.mg B W f) → PE X v (rE X.K X.mg B W g) → PDs X B W pos ks vs fs → PDs X B W pos (some k :: ks) (v :: vs) (argsC f (argsC g fs))
section
variable {X : Cx} {B : Bs} {W : WX} {pos : Pos}
end
end PL
set_option Elab.async false
set_option linter.all false
set_option maxRecDepth 100000
set_option maxHeartbeats 4000000
namespace PL
open PySem PySem.Spec PyProof.Rows L2
section
variable {env : Env} {st : Sta} {Q : Res D → Prop} {QS : SR → Prop} {f g h : Env → M D} {d x k : D} {l : List (D × D)} {e : Exn} {i n : Nat}
@[simp] theorem dctOf_dct : dctOf (.dct l) st = some l := rfl
def dctC : Option Cell → Option (List (D × D))
  | some (.dct l) => some l
  | _ => none
@[simp] theorem dctC_dct : dctC (some (.dct l)) = some l := rfl
@[simp] theorem dctOf_cell : dctOf (.cell n) st = dctC st[n]? := by
  show (match st[n]? with
    | some (.dct l) => some l
    | _ => none) = _
  unfold dctC
  rcases st[n]? with _ | (_ | _ | _) <;> rfl
@[simp] theorem evM_celD : evM mCelD env st Q = Q (.ok (.cell st.length) (st ++ [.dct []])) := by with_unfolding_all exact id rfl
def kSd4 (m : Nat) (k x : D) (l : List (D × D)) (st : Sta) (Q : Res D → Prop) : Option D → Prop
  | some y => Q (.ok y st)
  | none => Q (.ok x (st.set m (.dct (dput l k x))))
@[simp] theorem kSd4_some {y : D} : kSd4 n k x l st Q (some y) = Q (.ok y st) := by with_unfolding_all exact id rfl
@[simp] theorem kSd4_none : kSd4 n k x l st Q none = Q (.ok x (st.set n (.dct (dput l k x)))) := by with_unfolding_all exact id rfl
def kSd3b (m : Nat) (k x : D) (st : Sta) (Q : Res D → Prop) : Option Cell → Prop
  | some (.dct l) => if (isTk k && l.all fun p => isTk p.1) = true ∧ l.length < sizeLine then kSd4 m k x l st Q (dget l k) else Q .bad
  | _ => Q .bad
@[simp] theorem kSd3b_dct : kSd3b n k x st Q (some (.dct l)) = if (isTk k && l.all fun p => isTk p.1) = true ∧ l.length < sizeLine then kSd4 n k x l st Q (dget l k) else Q .bad := by with_unfolding_all exact id rfl
def kSd3 (d k : D) (Q : Res D → Prop) : Res D → Prop
  | .ok x st => (match d with
    | .cell m => kSd3b m k x st Q st[m]?
    | _ => Q .bad)
  | .exc e st => Q (.exc e st)
  | .bad => Q .bad
@[simp] theorem kSd3_ok : kSd3 (.cell n) k Q (.ok x st) = kSd3b n k x st Q st[n]? := by with_unfolding_all exact id rfl
def kSd2 (d : D) (h : Env → M D) (env : Env) (Q : Res D → Prop) : Res D → Prop
  | .ok k st => evM h env st (kSd3 d k Q)
  | .exc e st => Q (.exc e st)
  | .bad => Q .bad
@[simp] theorem kSd2_ok : kSd2 d h env Q (.ok k st) = evM h env st (kSd3 d k Q) := by with_unfolding_all exact id rfl
def kSd1b (d : D) (g h : Env → M D) (env : Env) (st : Sta) (Q : Res D → Prop) : Option (List (D × D)) → Prop
  | some _ => evM g env st (kSd2 d h env Q)
  | none => Q .bad
@[simp] theorem kSd1b_some : kSd1b d g h env st Q (some l) = evM g env st (kSd2 d h env Q) := by with_unfolding_all exact id rfl
def kSd1 (g h : Env → M D) (env : Env) (Q : Res D → Prop) : Res D → Prop
  | .ok d st => kSd1b d g h env st Q (dctOf d st)
  | .exc e st => Q (.exc e st)
  | .bad => Q .bad
@[simp] theorem kSd1_ok : kSd1 g h env Q (.ok d st) = kSd1b d g h env st Q (dctOf d st) := by with_unfolding_all exact id rfl
@[simp] theorem evM_setD : evM (mSetD f g h) env st Q = evM f env st (kSd1 g h env Q) := by
  with_unfolding_all
    show Q ((f env >>= _) st) = _
    unfold evM
    rw [bind_st]
    cases f env st with
    | ok d st1 =>
      show Q (((M.rd (dctOf d)) st1).bind _) = kSd1b d g h env st1 Q (dctOf d st1)
      rw [rd_st]
      cases dctOf d st1 with
      | none => rfl
      | some l =>
        show Q ((g env >>= fun k => h env >>= fun x => setDk d k x) st1) = kSd2 d h env Q (g env st1)
        rw [bind_st]
        cases g env st1 with
        | ok k st2 =>
          show Q ((h env >>= fun x => setDk d k x) st2) = kSd3 d k Q (h env st2)
          rw [bind_st]
          cases h env st2 with
          | ok x st3 =>
            show Q (setDk d k x st3) = _
            unfold setDk
            cases d with
            | cell m =>
              show Q (match st3[m]? with
                | some (.dct l) => if (isTk k && l.all fun p => isTk p.1) = true ∧ l.length < sizeLine then (match dget l k with
                  | some y => .ok y st3
                  | none => .ok x (st3.set m (.dct (dput l k x)))) else .bad
                | _ => .bad) = kSd3b m k x st3 Q st3[m]?
              rcases st3[m]? with _ | (_ | l | _)
              · rfl
              · rfl
              · rw [kSd3b_dct]
                dsimp only
                split
                · cases dget l k <;> rfl
                · rfl
              · rfl
            | _ => rfl
          | exc _ _ => rfl
          | bad => rfl
        | exc _ _ => rfl
        | bad => rfl
    | exc _ _ => rfl
    | bad => rfl
end
end PL
set_option Elab.async false
set_option linter.all false
set_option maxRecDepth 100000
set_option maxHeartbeats 4000000
namespace PL
open PySem PySem.Spec PyProof.Rows L2
section
variable {α β : Type} [DecidableEq α] {l : List (α × β)} {k j : α} {v : β}
def ag (l : List (α × β)) (k : α) : Option β := (l.find? fun p => decide (p.1 = k)).map (·.2)
def ap (l : List (α × β)) (k : α) (v : β) : List (α × β) := if (l.any fun p => decide (p.1 = k)) = true then l.map (fun p => if p.1 = k then (p.1, v) else p) else l ++ [(k, v)]
def Kd (l : List (α × β)) : Prop := (l.map (·.1)).Nodup
theorem kd_nil : Kd ([] : List (α × β)) := List.nodup_nil
theorem ap_keys : (ap l k v).map (·.1) = if (l.any fun p => decide (p.1 = k)) = true then l.map (·.1) else l.map (·.1) ++ [k] := by
  unfold ap
  split
  · rw [List.map_map]
    refine List.map_congr_left fun x _ => ?_
    show (if x.1 = k then (x.1, v) else x).1 = x.1
    split <;> rfl
  · rw [List.map_append]; rfl
theorem any_mem : (l.any fun p => decide (p.1 = k)) = true ↔ k ∈ l.map (·.1) := by
  simp only [List.any_eq_true, decide_eq_true_eq, List.mem_map]
theorem Kd.ap (h : Kd l) : Kd (ap l k v) := by
  unfold Kd
  rw [ap_keys]
  split
  · exact h
  · rename_i q
    rw [List.nodup_append]
    refine ⟨h, by simp, fun a ha b hb => ?_⟩
    rw [List.mem_singleton.mp hb]
    rintro rfl
    exact q (any_mem.mpr ha)
theorem ag_none (h : ag l k = none) : (l.any fun p => decide (p.1 = k)) = false := by
  unfold ag at h
  rw [Option.map_eq_none_iff, List.find?_eq_none] at h
  rw [Bool.eq_false_iff]
  intro z
  obtain ⟨x, hx, e⟩ := List.any_eq_true.mp z
  exact h x hx e
theorem ag_some {x : β} (h : ag l k = some x) : (k, x) ∈ l := by
  unfold ag at h
  obtain ⟨p, h1, h2⟩ := Option.map_eq_some_iff.mp h
  have h3 := List.find?_some h1
  have h4 := List.mem_of_find?_eq_some h1
  obtain ⟨a, b⟩ := p
  simp at h2 h3
  subst h2 h3
  exact h4
theorem ag_mem (h : Kd l) {x : β} (m : (k, x) ∈ l) : ag l k = some x := by
  induction l with
  | nil => cases m
  | cons p l ih =>
    unfold Kd at h
    rw [List.map_cons, List.nodup_cons] at h
    unfold ag
    rw [List.find?_cons]
    rcases List.mem_cons.mp m with e | m
    · subst e
      simp
    · have : ¬ p.1 = k := fun e => h.1 (by rw [e]; exact List.mem_map.mpr ⟨_, m, rfl⟩)
      simp only [this, decide_false]
      exact ih h.2 m
def eD (enc : α → D) (de : β → D) (l : List (α × β)) : List (D × D) := l.map fun p => (enc p.1, de p.2)
variable {enc : α → D} {de : β → D}
theorem eD_len : (eD enc de l).length = l.length := by simp [eD]
theorem dget_enc (inj : ∀ a b, nkD (enc a) = nkD (enc b) → a = b) : dget (eD enc de l) (enc k) = (ag l k).map de := by
  unfold dget eD ag
  induction l with
  | nil => rfl
  | cons p l ih =>
    rw [List.map_cons, List.find?_cons, List.find?_cons]
    by_cases e : p.1 = k
    · simp [e]
    · have e2 : ¬ nkD (enc p.1) = nkD (enc k) := fun z => e (inj _ _ z)
      simp only [e, e2, decide_false]
      exact ih
theorem dput_enc (inj : ∀ a b, nkD (enc a) = nkD (enc b) → a = b) : dput (eD enc de l) (enc k) (de v) = eD enc de (ap l k v) := by
  have ha : ((eD enc de l).any fun p => decide (nkD p.1 = nkD (enc k))) = l.any fun p => decide (p.1 = k) := by
    unfold eD
    rw [List.any_map]
    congr 1
    funext p
    show decide (nkD (enc p.1) = nkD (enc k)) = _
    by_cases e : p.1 = k
    · simp [e]
    · have e2 : ¬ nkD (enc p.1) = nkD (enc k) := fun z => e (inj _ _ z)
      simp [e, e2]
  unfold dput ap
  rw [ha]
  split
  · unfold eD
    rw [List.map_map, List.map_map]
    refine List.map_congr_left fun p _ => ?_
    show (if nkD (enc p.1) = nkD (enc k) then (enc p.1, de v) else (enc p.1, de p.2)) = (enc (if p.1 = k then (p.1, v) else p).1, de (if p.1 = k then (p.1, v) else p).2)
    by_cases e : p.1 = k
    · rw [if_pos (by rw [e]), if_pos e]
    · have e2 : ¬ nkD (enc p.1) = nkD (enc k) := fun z => e (inj _ _ z)
      rw [if_neg e2, if_neg e]
  · unfold eD
    rw [List.map_append]
    rfl
end
section
variable {β : Type} {l : List (Int × β)} {k : Int} {v : β} {de : β → D}
theorem int_inj (a b : Int) (h : nkD (.int a) = nkD (.int b)) : a = b := by
  rw [nkD, nkD] at h
  cases h
  rfl
@[simp] theorem dgetI : dget (eD .int de l) (.int k) = (ag l k).map de := dget_enc int_inj
@[simp] theorem dputI {x : β} : dput (eD .int de l) (.int k) (de x) = eD .int de (ap l k x) := dput_enc int_inj
end
section
variable {l : List (Int × Int)} {k x v : Int} {st : Sta}
end
end PL
set_option Elab.async false
set_option linter.all false
set_option maxRecDepth 100000
set_option maxHeartbeats 4000000
namespace PL
open PySem PySem.Spec PyProof.Rows L2

section
variable {prog : Program} {w : World} {A : Around} {E : Value → Shared → Prop} {s : Shared}
end
end PL
set_option Elab.async false
set_option linter.all false
set_option maxRecDepth 100000
set_option maxHeartbeats 2000000
namespace PL
open PySem PySem.Spec PyProof.Rows L2
section
variable {K : PySem.W.Frag} {mg : Str → Option Value} {F : Hp} {A : List Addr}
end
section
variable {X : Cx} {B : Bs} {W : WX} {e e2 tg : Expr} {p p2 pos pos2 tpos : Pos} {elts : List Expr} {kk : Nat} {f : Env → M D} {fs : Env → M (List D)}
end
end PL
namespace PL
open PySem PySem.Spec PyProof.Rows L2
def tupleC (xs : List D) (st : Sta) : Option D := match xs with
  | [.cell k] => (match st[k]? with
    | some (.lst l) => some (.tup l)
    | _ => none)
  | _ => none
section
variable {K : PySem.W.Frag} {mg : Str → Option Value} {F : Hp} {A : List Addr}
theorem ok_tupleC : CaOk K mg (fun xs H Q => ∃ p ys, xs = [.ref p] ∧ ((SqL K H p ys ∧ ∀ l, H l = none → Q (.ref l) (upd H l (.tup ys))) ∨ (SqT K H p ys ∧ Q (.ref p) H))) tupleC := by
  intro F A H st xs ds z Q G rx h q
  unfold tupleC at h
  split at h
  · split at h
    · rename_i e1
      obtain ⟨v, rfl, r⟩ := reps1 rx
      cases h
      cases r with
      | @cell a k hk =>
        obtain ⟨a', h1, h2⟩ := G.addr e1
        rw [hk] at h1; cases h1
        have h3 := G.con _ _ _ hk e1
        obtain ⟨vs, h4, r4⟩ := h3
        refine ⟨_, vs, rfl, .inl ⟨SqL.of h4, fun p hp => ?_⟩⟩
        obtain ⟨x2, G2⟩ := Ext.alloc (o := .tup vs) G hp
        exact q _ _ _ _ x2 G2 (.tup (SqT.of upd_same) (r4.ext x2))
    · cases h
  · cases h
end
def celT : Option Cell → Option D
  | some (.lst l) => some (.tup l)
  | _ => none
@[simp] theorem celT_lst {l : List D} : celT (some (.lst l)) = some (.tup l) := rfl
@[simp] theorem tupleC_cell {k : Nat} {st : Sta} : tupleC [.cell k] st = celT st[k]? := by
  show (match st[k]? with
    | some (.lst l) => some (.tup l)
    | _ => none) = celT st[k]?
  unfold celT
  rcases st[k]? with _ | (_ | _ | _) <;> rfl
end PL
set_option Elab.async false
set_option linter.all false
set_option maxRecDepth 100000
set_option maxHeartbeats 4000000
namespace PL
open PySem PySem.Spec PyProof.Rows L2
open PySem.W (EachIs AllAlike Sortable dataLe)
section
variable {X : Cx}
theorem each_zip : ∀ {bs : List (V × D)} {us : List Value}, Vals (bs.map (·.1)) us → EachIs (fun u (b : V × D) => RelV b.1 u) us bs
  | [], _, h => by cases h; exact .nil
  | b :: bs, _, h => by
    cases h with
    | cons r t => exact .cons r (each_zip t)
theorem vals_each : ∀ {bs : List (V × D)} {us : List Value}, EachIs (fun u (b : V × D) => RelV b.1 u) us bs → Vals (bs.map (·.1)) us
  | _, _, .nil => .nil
  | _, _, .cons r t => .cons r (vals_each t)
theorem each_reads {pins : List (Addr × Obj)} {σ : L2.St} {H : Hp} {s : Shared} (I : Inv X pins σ H s) : ∀ {bs : List (V × D)} {us : List Value}, (∀ b ∈ bs, Dp X.K H b.1 (pd b.2)) → Vals (bs.map (·.1)) us → EachIs (fun u (b : V × D) => ∃ as, Reads s.heap u (pd b.2) as) us bs
  | [], _, _, h => by cases h; exact .nil
  | b :: bs, _, hd, h => by
    cases h with
    | cons r t => exact .cons (Dp.reads I _ _ _ (hd b (List.mem_cons_self ..)) r) (each_reads I (fun b hb => hd b (List.mem_cons_of_mem _ hb)) t)
end
def leS (x y : D) : Bool := !PySem.W.dataLt (pd y) (pd x)
def tup1 : PyData → Bool
  | .tuple (_ :: _) => true
  | _ => false
section
variable {K : PySem.W.Frag} {mg : Str → Option Value}
theorem reps_zip {F : Hp} {A : List Addr} : ∀ {xs : List V} {ds : List D}, Reps K mg F A xs ds → (∀ p ∈ xs.zip ds, Rep K mg F A p.1 p.2) ∧ (xs.zip ds).map (·.1) = xs ∧ (xs.zip ds).map (·.2) = ds
  | _, _, .nil => ⟨(fun _ h => nomatch h), rfl, rfl⟩
  | _, _, .cons r t => by
    obtain ⟨h1, h2, h3⟩ := reps_zip t
    refine ⟨fun p hp => ?_, by simp [h2], by simp [h3]⟩
    rcases List.mem_cons.mp hp with rfl | hp
    · exact r
    · exact h1 p hp
theorem zip_reps {F : Hp} {A : List Addr} : ∀ {bs : List (V × D)}, (∀ p ∈ bs, Rep K mg F A p.1 p.2) → Reps K mg F A (bs.map (·.1)) (bs.map (·.2))
  | [], _ => .nil
  | b :: bs, h => .cons (h b (List.mem_cons_self ..)) (zip_reps fun p hp => h p (List.mem_cons_of_mem _ hp))
theorem tup1_of {x : PyData} (h : tup1 x = true) : ∃ y r, x = .tuple (y :: r) := by
  unfold tup1 at h
  split at h
  · exact ⟨_, _, rfl⟩
  · cases h
end
end PL
set_option Elab.async false
set_option linter.all false
set_option maxRecDepth 100000
set_option maxHeartbeats 4000000
namespace PL
open PySem PySem.Spec PyProof.Rows L2
theorem leS_trans (a b c : D) (h1 : leS a b = true) (h2 : leS b c = true) : leS a c = true := by
  unfold leS PySem.W.dataLt at *
  cases h : PyProof.Rows.lexLt itemOrd (PySem.W.keyToks (pd c)) (PySem.W.keyToks (pd a)) with
  | false => rfl
  | true =>
    rcases PyProof.Rows.lex_negTrans _ (PySem.W.keyToks (pd b)) _ h with z | z
    · rw [z] at h2
      cases h2
    · rw [z] at h1
      cases h1
theorem leS_total (a b : D) : (leS a b || leS b a) = true := by
  unfold leS PySem.W.dataLt
  cases h : PyProof.Rows.lexLt itemOrd (PySem.W.keyToks (pd b)) (PySem.W.keyToks (pd a)) with
  | false => rfl
  | true =>
    cases g : PyProof.Rows.lexLt itemOrd (PySem.W.keyToks (pd a)) (PySem.W.keyToks (pd b)) with
    | false => rfl
    | true =>
      have := PyProof.Rows.lex_trans _ _ _ h g
      rw [PyProof.Rows.lex_irrefl] at this
      cases this
theorem sorted_pw (l : List D) : (l.mergeSort leS).Pairwise fun a b => leS a b = true := List.pairwise_mergeSort leS_trans leS_total l
end PL
set_option Elab.async false
set_option linter.all false
set_option maxRecDepth 100000
set_option maxHeartbeats 4000000
namespace PL
open PySem PySem.Spec PyProof.Rows L2
open PySem.W (EachIs AllAlike Sortable dataLe)
section
variable {X : Cx}
theorem keyLt_general (x y : Value) : keyLt' general' x y = oneLt' false x y := rfl
theorem sorts_short {prog : Program} {w : World} {A : Around} {s : Shared} {vs : List Value} {ds : List PyData} (e : EachIs (fun v d => ∃ as, Reads s.heap v d as) vs ds) (hal : AllAlike ds) (hn : ∀ d ∈ ds, d ≠ .none)
    (hu : ∀ d ∈ ds, A.units + d.depth < cLine) (h1 : vs.length ≤ 1) : PySem.W.SortsAt prog w A s (PySem.W.dataKind s.heap ds) vs where
  keys := fun v hv => by
    obtain ⟨d, hd, as, r⟩ := PySem.W.EachIs.left e v hv
    exact ⟨_, PySem.W.dataKind_some hal hd r⟩
  kind := ⟨general', fun E x y a b Q ha hb hq => by
    obtain ⟨d, as, hd, ra, rfl⟩ := PySem.W.dataKind_inv ha
    obtain ⟨d', as', hd', rb, rfl⟩ := PySem.W.dataKind_inv hb
    rw [keyLt_general]
    exact PySem.W.oneLt_alike (f := false) (fun z => nomatch z) ra rb (hal d hd d' hd') (hn d hd) (Nat.lt_of_le_of_lt (Nat.add_le_add_left (Nat.min_le_left d.depth d'.depth) A.units) (hu d hd)) hq, fun h2 => absurd h2 (by omega)⟩
theorem src_raw {prog : Program} {w : World} {d : Addr} {es : Array DictEntry} {ep : Nat} (lo : (d == sysModules) = false) :
    PySem.W.KdlSrc prog w "dict" d d es.size (fun i v => ∃ hi : i < es.size, v = es[i].key) fun h => h.DictRaw d es ep where
  type := fun s ⟨o, h1, h2, h3⟩ => ⟨o, h1, h2.1⟩
  there := fun h ⟨o, h1, _, _⟩ => ⟨Heap.lt_size h1, Heap.lt_size h1⟩
  keep := fun h h' ⟨o, h1, h2, h3⟩ k => ⟨o, k d (.inl rfl) o h1, h2, h3⟩
  notList := by decide
  notTuple := by decide
  hint := fun A E s Q ⟨o, h1, h2, h3⟩ hq => PySem.W.kdl_hint_dict ⟨o, h1, h2.1⟩ hq
  iter := fun A s hh hm => by
    obtain ⟨o, h1, h2, h3⟩ := id hm
    exact ⟨_, _, fun E Q hq => wpAny_pyIter_dict_raw lo hm hq, Walks.rawKeys hh s.heap.objs.size d (Nat.ne_of_lt (Heap.lt_size h1)) es ep, ⟨_, Heap.get?_push_size s.heap rfl, rfl, rfl⟩, ⟨o, Heap.get?_push_of_some _ h1, h2, h3⟩⟩
def sortK (ds : List PyData) : Prop := Sortable ds ∨ (ds.length ≤ 1 ∧ ∀ d ∈ ds, d ≠ .none)
def rSortDct (K : PySem.W.Frag) : List V → Hp → VK → Prop := fun vs H Q => ∃ (a : Addr) (o : Obj) (es : List Ent) (bs : List (V × D)), vs = [V.ref a] ∧ H a = some (DO a o es) ∧ es.map (·.2.1) = bs.map (·.1) ∧ (∀ b ∈ bs, Dp K H b.1 (pd b.2)) ∧ AllAlike (bs.map fun b => pd b.2) ∧ sortK (bs.map fun b => pd b.2) ∧ (∀ b ∈ bs, (pd b.2).depth ≤ 60) ∧
  ∀ p, H p = none → Q (.ref p) (upd H p (.lst ((bs.mergeSort (dataLe false fun b => pd b.2)).map (·.1))))
theorem dents_keys : ∀ {es : List Ent} {ds : List DictEntry}, Paired DEnt es ds → Vals (es.map (·.2.1)) (ds.map (·.key))
  | [], _, h => by cases h; exact .nil
  | e :: es, _, h => by
    cases h with
    | cons r t => exact .cons r.1 (dents_keys t)
theorem items_all {es : Array DictEntry} {acc : Array Value} (h : ItemsOf (fun i v => ∃ hi : i < es.size, v = es[i].key) acc es.size) : acc.toList = es.toList.map (·.key) := by
  obtain ⟨h1, h2⟩ := h
  apply List.ext_getElem?
  intro i
  by_cases c : i < es.size
  · obtain ⟨hi, e⟩ := h2 i acc[i] (Array.getElem?_eq_getElem (by omega))
    rw [Array.getElem?_toList, Array.getElem?_eq_getElem (by omega), e, List.getElem?_map, Array.getElem?_toList, Array.getElem?_eq_getElem hi]
    rfl
  · rw [List.getElem?_eq_none (by simp; omega), List.getElem?_eq_none (by simp; omega)]
theorem cr_sortedDct (hu : X.A.units + 64 < cLine) (hc : X.calm = true) : CallR X (.builtin "sorted") (rSortDct X.K) := by
  intro pins s σ H vs us Q I r h
  obtain ⟨a, o, es, bs, rfl, ha, hm, hd, hal, hk, hdp, q⟩ := h
  obtain rfl := Vals.ref1 r
  obtain ⟨h1, h2, ⟨de, ep, h3, hp⟩, h4, lo, hn⟩ := do_at I ha
  have hz : de.size = es.length := by
    have := (dents_keys hp).length
    simpa using this.symm
  have hl : bs.length = es.length := by
    have := congrArg List.length hm
    simpa using this.symm
  refine Calls.call_function_entry kind_sorted plain_sorted entry_sorted (args_sorted1 _) ?_
  refine wpAny_bind (wpAny_pure (wpAny_bind ?_))
  refine PySem.W.kdu_collect (src_raw lo) (I.ok.hd hc) ⟨o, h1, h2, h3⟩ (by omega) fun h' tk acc hk' hacc => ?_
  have hv : Vals (bs.map (·.1)) acc.toList := by
    rw [items_all hacc, ← hm]
    exact dents_keys hp
  have hal' : acc.toList.length = bs.length := by
    have := hv.length
    simpa using this.symm
  have I1 := Inv.kept (t' := tk) I hk'
  refine wpAny_bind (wpAny_newList ?_ (by omega))
  have hoL : (h'.push (seqObj "list" acc.toList.toArray 0)).get? h'.objs.size = some (seqObj "list" acc.toList.toArray 0) := Heap.get?_push_size h' rfl
  have ee := each_zip hv
  have er : EachIs (fun u (b : V × D) => ∃ as, Reads h' u (pd b.2) as) acc.toList bs := each_reads I1 hd hv
  have er' : EachIs (fun u (b : V × D) => ∃ as, Reads (PySem.W.sortingHeap (h'.push (seqObj "list" acc.toList.toArray 0)) h'.objs.size acc.toList) u (pd b.2) as) acc.toList bs :=
    PySem.W.EachIs.mono (fun _ _ ⟨as, r⟩ => ⟨as, Reads.keeps (fun b u e => PySem.W.sortingHeap_old (Nat.ne_of_lt (Heap.lt_size e)) (Heap.get?_push_of_some _ e)) r⟩) er
  have so : PySem.W.SortsAt X.prog X.w X.A.in1.in1 { heap := PySem.W.sortingHeap (h'.push (seqObj "list" acc.toList.toArray 0)) h'.objs.size acc.toList, gens := s.gens, drawn := s.drawn, toks := tk, os := s.os } (PySem.W.dataKind (PySem.W.sortingHeap (h'.push (seqObj "list" acc.toList.toArray 0)) h'.objs.size acc.toList) (bs.map fun b => pd b.2)) acc.toList := by
    have bd : ∀ d ∈ bs.map (fun b => pd b.2), X.A.in1.in1.units + d.depth < cLine := fun d hd' => by
      obtain ⟨b, hb, rfl⟩ := List.mem_map.mp hd'
      have := hdp b hb
      show X.A.units + 1 + 1 + _ < _
      omega
    rcases hk with hk | ⟨hk, hk2⟩
    · exact PySem.W.SortsAt.data (PySem.W.each_map (fun b : V × D => pd b.2) er') hal hk bd
    · exact sorts_short (PySem.W.each_map (fun b : V × D => pd b.2) er') hal hk2 bd (by rw [hal']; simpa using hk)
  refine wpAny_bind (wpAny_holding ?_)
  refine wpAny_call_entry slot_list_sort ⟨_, hoL, rfl⟩ entry_list_sort ?_ (args_list_sort _)
  refine PySem.W.list_sort_vals hoL so (by omega) ?_
  refine ⟨.none, rfl, ?_⟩
  have eo := PySem.W.sortVals_data false ee er' hal
  obtain ⟨e', he'⟩ := sortedHeap_at (out := (PySem.W.sortVals (PySem.W.dataKind (PySem.W.sortingHeap (h'.push (seqObj "list" acc.toList.toArray 0)) h'.objs.size acc.toList) (bs.map fun b => pd b.2)) false acc.toList acc.toList).toArray) hoL
  refine wpAny_pure ⟨_, rfl, .ref h'.objs.size, upd H h'.objs.size (.lst ((bs.mergeSort (dataLe false fun b => pd b.2)).map (·.1))), ?_, rfl, q _ (I1.hok.fresh (Nat.le_refl _))⟩
  have hlen' : ((bs.mergeSort (dataLe false fun b => pd b.2)).map (·.1)).length ≤ sizeLine := by
    rw [List.length_map, List.length_mergeSort]
    omega
  refine Inv.laid (s := { heap := h', gens := s.gens, drawn := s.drawn, toks := tk, os := s.os }) (t' := tk) I1 (fun b u e => ?_) (Nat.le_refl _) ⟨hlen', _, e', vals_each eo, he'⟩
  have hb := Heap.lt_size e
  rw [sortedHeap_old (Nat.ne_of_lt hb) (by rw [size_push']; exact Nat.lt_succ_of_lt hb)]
  exact Heap.get?_push_of_some _ e
end
def sortOkD (l : List D) : Bool := (l.all (fun x => plain x && decide ((pd x).depth ≤ 60)) && l.all fun x => l.all fun y => PySem.W.alike (pd x) (pd y)) && (l.all (fun x => tup1 (pd x)) || (decide (l.length ≤ 1) && l.all fun x => !isNon x))
def sortedDD (ds : List D) (st : Sta) : Option D := match ds with
  | [d] => (dctOf d st).bind fun l => if sortOkD (l.map (·.1)) then some (.lst ((l.map (·.1)).mergeSort leS)) else none
  | _ => none
section
variable {K : PySem.W.Frag} {mg : Str → Option Value}
theorem repD_keys {F : Hp} {A : List Addr} : ∀ {es : List Ent} {l : List (D × D)}, RepD K mg F A es l → Reps K mg F A (es.map (·.2.1)) (l.map (·.1))
  | _, _, .nil => .nil
  | _, _, .cons _ k _ r => .cons k (repD_keys r)
theorem ok_sortedDct : CaOk K mg (rSortDct K) sortedDD := by
  intro F A H st xs ds z Q G rx h q
  unfold sortedDD at h
  split at h
  · rename_i d
    obtain ⟨v, rfl, r⟩ := reps1 rx
    cases hd : dctOf d st with
    | none =>
      rw [hd] at h
      cases h
    | some l =>
      rw [hd, Option.bind_some] at h
      split at h
      · rename_i hk
        cases h
        obtain ⟨a, o, es, rfl, ha, rd⟩ := dctOf_rep G r hd
        have rk := repD_keys rd
        unfold sortOkD at hk
        simp only [Bool.and_eq_true, Bool.or_eq_true, List.all_eq_true, decide_eq_true_eq, Bool.not_eq_true'] at hk
        obtain ⟨⟨h1, h2⟩, h3⟩ := hk
        obtain ⟨z1, z2, z3⟩ := reps_zip rk
        have md : ∀ b ∈ (es.map (·.2.1)).zip (l.map (·.1)), b.2 ∈ l.map (·.1) := fun b hb => (List.of_mem_zip hb).2
        have hln := congrArg List.length z3
        rw [List.length_map] at hln
        refine ⟨a, o, es, (es.map (·.2.1)).zip (l.map (·.1)), rfl, ha, z2.symm, fun b hb => (plain_dp G (z1 b hb) (h1 _ (md b hb)).1).1, ?_, ?_, fun b hb => (h1 _ (md b hb)).2, fun p hp => ?_⟩
        · intro d hd d' hd'
          obtain ⟨b, hb, rfl⟩ := List.mem_map.mp hd
          obtain ⟨b', hb', rfl⟩ := List.mem_map.mp hd'
          exact h2 _ (md b hb) _ (md b' hb')
        · rcases h3 with h3 | ⟨h3, h4⟩
          · refine .inl (.inl fun d hd => ?_)
            obtain ⟨b, hb, rfl⟩ := List.mem_map.mp hd
            exact tup1_of (h3 _ (md b hb))
          · refine .inr ⟨by rw [List.length_map, hln]; exact h3, fun d hd => ?_⟩
            obtain ⟨b, hb, rfl⟩ := List.mem_map.mp hd
            exact pd_non (h4 _ (md b hb))
        · have e : (((es.map (·.2.1)).zip (l.map (·.1))).mergeSort (dataLe false fun b => pd b.2)).map (·.2) = (l.map (·.1)).mergeSort leS := by
            rw [List.map_mergeSort (s := leS), z3]
            intro a _ b _
            rfl
          have rr : Reps K mg F A ((((es.map (·.2.1)).zip (l.map (·.1))).mergeSort (dataLe false fun b => pd b.2)).map (·.1)) ((l.map (·.1)).mergeSort leS) := by
            rw [← e]
            exact zip_reps fun p hp => z1 p (List.mem_mergeSort.mp hp)
          obtain ⟨x2, G2⟩ := Ext.alloc (o := .lst ((((es.map (·.2.1)).zip (l.map (·.1))).mergeSort (dataLe false fun b => pd b.2)).map (·.1))) G hp
          exact q _ _ _ _ x2 G2 (.lst upd_same (rr.ext x2))
      · cases h
  · cases h
end
end PL
set_option Elab.async false
set_option linter.all false
set_option maxRecDepth 100000
set_option maxHeartbeats 4000000
namespace PL
open PySem PySem.Spec PyProof.Rows L2
def c_rows_by_1 : Env → M (List D) := (mLc [9] (bName 9) yes (opN tupleC (argsC (op2 ixDd (vr 2) (vr 9)) args0)) (itO seqIt (opN sortedDD (argsC (vr 2) args0))))
def c_rows_by_2 : Env → M (List D) := (mLc [8] (bName 8) yes (op2 ixD (vr 5) (vr 8)) (itO seqIt (vr 1)))
def l_rows_by_1 : SD := (sSeq (sSet 7 (mSetD (vr 2) (opN tupleD (argsC (lstF c_rows_by_2) args0)) (mCelL (repL (opN mkLst (argsC (opN mkTup (argsC (cn (.int 0)) (argsC (cn (.int 0)) args0))) args0)) (op1 (fldD "Ledger" "many") (vr 0)))))) (sAsg (opN mkTup (argsC (op2 addD (op2 ixD (op2 ixD (vr 7) (vr 3)) (cn (.int 0))) (op2 mulD (vr 6) (opN intD (argsC (vr 4) args0)))) (argsC (op2 addD (op2 ixD (op2 ixD (vr 7) (vr 3)) (cn (.int 1))) (vr 6)) args0))) (aSubC (vr 7) (vr 3))))
def b_rows_by : SD := (sSeq (sSet 2 mCelD) (sSeq (sFor (itO seqIt (op1 (fldD "Ledger" "lines") (vr 0))) (aTup 4 (aCons (aName 3) (aCons (aName 4) (aCons (aName 5) (aCons (aName 6) aNil))))) l_rows_by_1) (sRet (lstF c_rows_by_1))))
def m_rows_by : List D → M D := runB 10 b_rows_by
structure Le where
  way : Nat
  good : Bool
  ms : List Bool
  n : Nat
def lgE (e : Le) : D := .tup [.int (e.way : Nat), .bl e.good, .tup (e.ms.map .bl), .int (e.n : Nat)]
structure LOk (w q : Nat) (e : Le) : Prop where
  way : e.way < w
  len : e.ms.length = q
  n0 : 1 ≤ e.n
  n1 : e.n ≤ 1000000000
structure Lg (w q : Nat) (es : List Le) : Prop where
  w2 : 2 ≤ w
  w4 : w ≤ 4
  q1 : 1 ≤ q
  q4 : q ≤ 4
  n1 : 1 ≤ es.length
  n40 : es.length ≤ 40
  ok : ∀ e ∈ es, LOk w q e
def linesD (es : List Le) : D := .tup (es.map lgE)
def ledgerD (es : List Le) (w : Nat) : D := .obj "Ledger" [("lines", linesD es), ("many", .int (w : Nat))]
section
variable {st : Sta} {QS : SR → Prop} {w q : Nat} {es done : List Le} {e : Le} {ms : List Nat} {k : List Bool}
@[simp] theorem isiC_ledger : isiC "Ledger" CS (ledgerD es w) st = some (.bl true) := by
  unfold ledgerD
  rw [isiC_obj (by decide)]
  rfl
@[simp] theorem fld_lines : fldD "Ledger" "lines" (ledgerD es w) st = some (linesD es) := by
  unfold ledgerD fldD isObj fieldsOf
  simp
@[simp] theorem fld_many : fldD "Ledger" "many" (ledgerD es w) st = some (.int (w : Nat)) := by
  have ne : (("many" : Str) == ("lines" : Str)) = false := by decide
  unfold ledgerD fldD isObj fieldsOf
  simp [ne, List.lookup]
theorem need_ledger_ok : m_need_ledger [ledgerD es w] st = .ok .non st := by
  apply ev_run
  unfold m_need_ledger b_need_ledger
  simp
theorem lgE_kn (h : LOk w q e) (q4 : q ≤ 4) : knE (lgE e) = true := by
  unfold knE lgE
  have := h.len
  simp [kn]
  omega
theorem lgE_ok (h : LOk w q e) (q1 : 1 ≤ q) (q4 : q ≤ 4) {m : Nat} (hm : m = 0 ∨ m = q) : isEntD (w : Int) m (lgE e) = true := by
  have h1 := h.way
  have h2 := h.len
  have h3 := h.n0
  have h4 := h.n1
  unfold lgE
  rw [isEnt_4, isFrom_int, isFrom_int]
  have a1 : (e.ms.map D.bl).all isBl = true := by simp [isBl]
  have a2 : isBl (.bl e.good) = true := rfl
  have a3 : (if m = 0 then decide (1 ≤ (e.ms.map D.bl).length ∧ (e.ms.map D.bl).length ≤ 4) else decide ((e.ms.map D.bl).length = m)) = true := by
    rw [List.length_map, h2]
    split
    · simp
      omega
    · simp
      omega
  rw [a1, a2, a3]
  simp
  omega
theorem badEnt_none {l0 : D} : ∀ {l : List D} {k : Nat}, (∀ d ∈ l, ∀ m, m = 0 ∨ m = q → isEntD (w : Int) m d = true) → mlen l0 = q → badEnt (w : Int) l0 k l = none
  | [], _, _, _ => rfl
  | d :: l, k, h, hm => by
    unfold badEnt
    rw [h d (List.mem_cons_self ..) _ (by split; exact .inl rfl; exact .inr hm), if_pos rfl]
    exact badEnt_none (fun d hd => h d (List.mem_cons_of_mem _ hd)) hm
theorem mk_ledger (L : Lg w q es) : mkObj "Ledger" ini_Ledger [linesD es, .int (w : Nat)] st = .ok (ledgerD es w) st := by
  have n1 := L.n1
  have n40 := L.n40
  have w2 := L.w2
  have w4 := L.w4
  have hi : ini_Ledger [linesD es, .int (w : Nat)] = some (.ok [("lines", linesD es), ("many", .int (w : Nat))]) := by
    show (if knL (linesD es) && kn (.int (w : Nat)) then some (ledI (linesD es) (.int (w : Nat))) else none) = _
    have k : (knL (linesD es) && kn (.int (w : Nat))) = true := by
      have : (es.map lgE).all knE = true := by
        rw [List.all_eq_true]
        intro d hd
        obtain ⟨e, he, rfl⟩ := List.mem_map.mp hd
        exact lgE_kn (L.ok e he) L.q4
      show ((true && (es.map lgE).all knE) && true) = true
      rw [this]
      rfl
    rw [if_pos k, ledI_int]
    rw [show (decide ((2 : Int) ≤ (w : Int)) && decide ((w : Int) ≤ 4)) = true by simp; omega, if_pos rfl]
    match es, n1 with
    | e0 :: es, _ =>
      unfold linesD
      rw [List.map_cons, ledW_cons, ← List.map_cons, if_pos (by simpa using n40), badEnt_none (q := q)]
      · intro d hd m hm
        obtain ⟨e, he, rfl⟩ := List.mem_map.mp hd
        exact lgE_ok (L.ok e he) L.q1 L.q4 hm
      · show (e0.ms.map D.bl).length = q
        rw [List.length_map]
        exact (L.ok e0 (List.mem_cons_self ..)).len
  unfold mkObj
  rw [hi]
  rfl
def kOf (ms : List Nat) (e : Le) : List Bool := ms.map fun m => e.ms.getD m false
def kbD (k : List Bool) : D := .tup (k.map .bl)
def cntE (ms : List Nat) (k : List Bool) (j : Nat) (es : List Le) : Int × Int := ((es.map fun e => if kOf ms e = k ∧ e.way = j ∧ e.good = true then (e.n : Int) else 0).sum, (es.map fun e => if kOf ms e = k ∧ e.way = j then (e.n : Int) else 0).sum)
def rowE (w : Nat) (ms : List Nat) (k : List Bool) (es : List Le) : List (Int × Int) := (List.range w).map fun j => cntE ms k j es
theorem rowE_len : (rowE w ms k es).length = w := by simp [rowE]
theorem cnt_snoc {j : Nat} : cntE ms k j (done ++ [e]) = if kOf ms e = k ∧ e.way = j then ((cntE ms k j done).1 + (if e.good = true then (e.n : Int) else 0), (cntE ms k j done).2 + e.n) else cntE ms k j done := by
  unfold cntE
  rw [List.map_append, List.map_append, List.sum_append, List.sum_append]
  by_cases c : kOf ms e = k ∧ e.way = j
  · rw [if_pos c]
    simp [c.1, c.2]
  · rw [if_neg c]
    have c2 : ¬ (kOf ms e = k ∧ e.way = j ∧ e.good = true) := fun z => c ⟨z.1, z.2.1⟩
    simp [c, c2]
theorem row_same : rowE w ms (kOf ms e) (done ++ [e]) = (rowE w ms (kOf ms e) done).set e.way ((cntE ms (kOf ms e) e.way done).1 + (if e.good = true then (e.n : Int) else 0), (cntE ms (kOf ms e) e.way done).2 + e.n) := by
  apply List.ext_getElem
  · simp [rowE]
  · intro i h1 h2
    have hi : i < w := by simpa [rowE] using h1
    rw [List.getElem_set]
    simp only [rowE, List.getElem_map, List.getElem_range]
    rw [cnt_snoc]
    by_cases c : e.way = i
    · subst c
      simp
    · simp [c]
theorem row_other (h : kOf ms e ≠ k) : rowE w ms k (done ++ [e]) = rowE w ms k done := by
  unfold rowE
  refine List.map_congr_left fun j _ => ?_
  rw [cnt_snoc, if_neg fun z => h z.1]
theorem sum_0 {α : Type} : ∀ {l : List α}, (l.map fun _ => (0 : Int)).sum = 0
  | [] => rfl
  | a :: l => by rw [List.map_cons, List.sum_cons, sum_0]; rfl
theorem row_none (h : ∀ e ∈ es, kOf ms e ≠ k) : rowE w ms k es = List.replicate w (0, 0) := by
  have : ∀ j, cntE ms k j es = (0, 0) := fun j => by
    unfold cntE
    have e1 : es.map (fun e => if kOf ms e = k ∧ e.way = j ∧ e.good = true then (e.n : Int) else 0) = es.map fun _ => 0 := List.map_congr_left fun e he => if_neg fun z => h e he z.1
    have e2 : es.map (fun e => if kOf ms e = k ∧ e.way = j then (e.n : Int) else 0) = es.map fun _ => 0 := List.map_congr_left fun e he => if_neg fun z => h e he z.1
    rw [e1, e2, sum_0]
  unfold rowE
  apply List.ext_getElem
  · simp
  · intro i h1 h2
    rw [List.getElem_map, List.getElem_replicate, this]
theorem nk_bl {k : List Bool} : nkDs (k.map D.bl) = some (k.map fun b => NestedKey.num (if b = true then 1 else 0)) := by
  induction k with
  | nil => rfl
  | cons b k ih =>
    rw [List.map_cons, nkDs, ih]
    rfl
theorem nk_kb {k : List Bool} : nkD (kbD k) = some (.tup (k.map fun b => NestedKey.num (if b = true then 1 else 0))) := by
  unfold kbD
  rw [nkD, nk_bl]
  rfl
theorem bl_inj : ∀ {a b : List Bool}, a.map (fun b => NestedKey.num (if b = true then 1 else 0)) = b.map (fun b => NestedKey.num (if b = true then 1 else 0)) → a = b
  | [], [], _ => rfl
  | [], _ :: _, h => nomatch h
  | _ :: _, [], h => nomatch h
  | a :: as, b :: bs, h => by
    rw [List.map_cons, List.map_cons, List.cons.injEq] at h
    have e := bl_inj h.2
    have h1 := NestedKey.num.inj h.1
    rw [e]
    cases a <;> cases b <;> first | rfl | (simp at h1)
theorem kb_inj (a b : List Bool) (h : nkD (kbD a) = nkD (kbD b)) : a = b := by
  rw [nk_kb, nk_kb] at h
  exact bl_inj (NestedKey.tup.inj (Option.some.inj h))
def allK : Nat → List (List Bool)
  | 0 => [[]]
  | n + 1 => (allK n).map (false :: ·) ++ (allK n).map (true :: ·)
theorem allK_mem : ∀ {k : List Bool}, k ∈ allK k.length
  | [] => List.mem_singleton.mpr rfl
  | b :: k => by
    show b :: k ∈ (allK k.length).map (false :: ·) ++ (allK k.length).map (true :: ·)
    have := allK_mem (k := k)
    cases b
    · exact List.mem_append_left _ (List.mem_map.mpr ⟨k, this, rfl⟩)
    · exact List.mem_append_right _ (List.mem_map.mpr ⟨k, this, rfl⟩)
theorem allK_pw : ∀ n, n ≤ 3 → (allK n).Pairwise fun a b => leS (kbD a) (kbD b) = true ∧ leS (kbD b) (kbD a) = false := by decide +kernel
theorem allK_nd : ∀ n, n ≤ 3 → (allK n).Nodup := by decide +kernel
theorem allK_le : ∀ n, n ≤ 3 → (allK n).length ≤ 8 := by decide +kernel
theorem allK_ok : ∀ n, n ≤ 3 → ∀ a ∈ allK n, (plain (kbD a) && decide ((pd (kbD a)).depth ≤ 60)) = true ∧ ((n = 0 ∨ tup1 (pd (kbD a)) = true)) ∧ isTk (kbD a) = true ∧ ∀ b ∈ allK n, PySem.W.alike (pd (kbD a)) (pd (kbD b)) = true := by decide +kernel
theorem allK_anti : ∀ n, n ≤ 3 → ∀ a ∈ allK n, ∀ b ∈ allK n, leS (kbD a) (kbD b) = true → leS (kbD b) (kbD a) = true → a = b := by decide +kernel
def keysE (ms : List Nat) (es : List Le) : List (List Bool) := (allK ms.length).filter fun k => es.any fun e => decide (kOf ms e = k)
def rbRows (w : Nat) (ms : List Nat) (es : List Le) : List (List (Int × Int)) := (keysE ms es).map fun k => rowE w ms k es
theorem kOf_len : (kOf ms e).length = ms.length := by simp [kOf]
theorem keysE_mem : k ∈ keysE ms es ↔ ∃ e ∈ es, kOf ms e = k := by
  unfold keysE
  rw [List.mem_filter, List.any_eq_true]
  constructor
  · rintro ⟨_, e, he, h⟩
    exact ⟨e, he, by simpa using h⟩
  · rintro ⟨e, he, rfl⟩
    refine ⟨?_, e, he, by simp⟩
    have := allK_mem (k := kOf ms e)
    rwa [kOf_len] at this
theorem nd_filter {α : Type} {p : α → Bool} : ∀ {l : List α}, l.Nodup → (l.filter p).Nodup := fun h => List.Pairwise.filter p h
theorem perm_keys {ks : List (List Bool)} (hm : ms.length ≤ 3) (nd : ks.Nodup) (h : ∀ k, k ∈ ks ↔ ∃ e ∈ es, kOf ms e = k) : ks.Perm (keysE ms es) := by
  have nk : (keysE ms es).Nodup := nd_filter (allK_nd _ hm)
  rw [List.perm_ext_iff_of_nodup nd nk]
  intro a
  rw [h, keysE_mem]
theorem sort_keys {ks : List (List Bool)} (hm : ms.length ≤ 3) (nd : ks.Nodup) (h : ∀ k, k ∈ ks ↔ ∃ e ∈ es, kOf ms e = k) : (ks.map kbD).mergeSort leS = (keysE ms es).map kbD := by
  have pk := perm_keys hm nd h
  refine List.Perm.eq_of_pairwise (le := fun a b => leS a b = true) ?_ (sorted_pw _) ?_ ((List.mergeSort_perm _ _).trans (pk.map kbD))
  · intro a b ha hb h1 h2
    obtain ⟨x, hx, rfl⟩ := List.mem_map.mp (List.mem_mergeSort.mp ha)
    obtain ⟨y, hy, rfl⟩ := List.mem_map.mp hb
    have hx' := (List.mem_filter.mp (pk.mem_iff.mp hx)).1
    have hy' := (List.mem_filter.mp hy).1
    rw [allK_anti _ hm x hx' y hy' h1 h2]
  · rw [List.pairwise_map]
    exact (List.Pairwise.filter _ (allK_pw _ hm)).imp fun z => z.1
def cD (s c : Nat) : D := .cell (s + 1 + c)
structure RbJ (w : Nat) (ms : List Nat) (done : List Le) (ps : List (List Bool × Nat)) (cs : List Cell) : Prop where
  kd : Kd ps
  inj : (ps.map (·.2)).Nodup
  at_ : ∀ p ∈ ps, cs[p.2]? = some (.lst ((rowE w ms p.1 done).map cellD))
  key : ∀ k, k ∈ ps.map (·.1) ↔ ∃ e ∈ done, kOf ms e = k
theorem nd_inj {α β : Type} {f : α → β} : ∀ {l : List α}, (l.map f).Nodup → ∀ {a b}, a ∈ l → b ∈ l → f a = f b → a = b
  | [], _, _, _, h, _, _ => nomatch h
  | x :: l, nd, a, b, ha, hb, e => by
    rw [List.map_cons, List.nodup_cons] at nd
    rcases List.mem_cons.mp ha with h1 | h1 <;> rcases List.mem_cons.mp hb with h2 | h2
    · rw [h1, h2]
    · subst h1
      exact (nd.1 (List.mem_map.mpr ⟨b, h2, e.symm⟩)).elim
    · subst h2
      exact (nd.1 (List.mem_map.mpr ⟨a, h1, e⟩)).elim
    · exact nd_inj nd.2 h1 h2 e
theorem rbj_put {ps : List (List Bool × Nat)} {cs : List Cell} {c : Nat} (kd : Kd ps) (inj : (ps.map (·.2)).Nodup) (at_ : ∀ p ∈ ps, cs[p.2]? = some (.lst ((rowE w ms p.1 done).map cellD)))
    (key : ∀ k, k ∈ ps.map (·.1) ↔ ∃ e' ∈ done ++ [e], kOf ms e' = k) (mem : (kOf ms e, c) ∈ ps) : RbJ w ms (done ++ [e]) ps (cs.set c (.lst ((rowE w ms (kOf ms e) (done ++ [e])).map cellD))) := by
  refine ⟨kd, inj, fun p hp => ?_, key⟩
  have hc : c < cs.length := (List.getElem?_eq_some_iff.mp (at_ _ mem)).1
  by_cases z : p.2 = c
  · have : p = (kOf ms e, c) := nd_inj inj hp mem z
    subst this
    rw [List.getElem?_set_self hc]
  · have : kOf ms e ≠ p.1 := fun y => z (by rw [nd_inj kd hp mem y.symm])
    rw [List.getElem?_set_ne (fun y => z y.symm), row_other this]
    exact at_ p hp
abbrev RbE (es : List Le) (w : Nat) (ms : List Nat) (c : Nat) (x3 x4 x5 x6 x7 x8 x9 : Option SV) : Env := [some (.fro (ledgerD es w)), some (.fro (tpD ms)), some (.fro (.cell c)), x3, x4, x5, x6, x7, x8, x9]
def RbI (es : List Le) (w : Nat) (ms : List Nat) (st : Sta) (n : Nat) (env : Env) (st' : Sta) : Prop := ∃ ps cs x3 x4 x5 x6 x7 x8 x9, env = RbE es w ms st.length x3 x4 x5 x6 x7 x8 x9 ∧ st ++ (.dct (eD kbD (cD st.length) ps) :: cs) = st' ∧ RbJ w ms (es.take n) ps cs ∧ cs.length = n ∧ ps.length ≤ n
theorem key_c {x3 x4 x6 x7 x9 : Option SV} {L : D} {c : Nat} {x8 : Option SV} (he : e.ms.length = q) (hm : ms.length ≤ 3) (hq : ∀ m ∈ ms, m < q) :
    c_rows_by_2 [some (.fro L), some (.fro (tpD ms)), some (.fro (.cell c)), x3, x4, some (.fro (.tup (e.ms.map .bl))), x6, x7, x8, x9] st = .ok ((kOf ms e).map .bl) st := by
  have sq : seqIt (tpD ms) st = some (ms.map natD) := rfl
  apply ev_res
  unfold c_rows_by_2
  simp [sq]
  rw [evC_map (enc := natD) (e1 := fun m => [some (.fro L), some (.fro (tpD ms)), some (.fro (.cell c)), x3, x4, some (.fro (.tup (e.ms.map .bl))), x6, x7, some (.fro (natD m)), x9]) (fv := fun m => .bl (e.ms.getD m false))]
  · simp [kOf]
  · intro m hm'
    have lt : m < e.ms.length := by rw [he]; exact hq m hm'
    have ix : ixD (.tup (e.ms.map D.bl)) (natD m) st = some (.bl (e.ms.getD m false)) := by
      show atI (e.ms.map D.bl) (m : Int) = _
      rw [atI_nat (by simpa using lt)]
      simp [List.getD_eq_getElem?_getD, List.getElem?_eq_getElem lt]
    refine ⟨rfl, by simp, ?_⟩
    generalize D.tup (e.ms.map D.bl) = V at *
    simp [ix]
  · exact small_m (by omega)
theorem kb_tk (hm : k.length ≤ 3) : isTk (kbD k) = true := (allK_ok _ hm k allK_mem).2.2.1
theorem all_tk {ps : List (List Bool × Nat)} {f : Nat → D} (h : ∀ p ∈ ps, p.1.length ≤ 3) : ((eD kbD f ps).all fun p => isTk p.1) = true := by
  rw [List.all_eq_true]
  intro p hp
  obtain ⟨x, hx, rfl⟩ := List.mem_map.mp hp
  exact kb_tk (h x hx)
theorem rep_okB {f g : Env → M D} {env : Env} {a : D} {n : Nat} (h1 : f env st = .ok (.lst [a]) st) (h2 : g env st = .ok (.int (n : Int)) st) (hn : n ≤ 1000) : repL f g env st = .ok (List.replicate n a) st := by
  unfold repL
  rw [bind_st, h1, rb_ok, bind_st, h2, rb_ok]
  refine rd_some ?_
  refine (if_pos ⟨by omega, by omega, ?_⟩).trans ?_
  · rw [Int.toNat_natCast, rep_flat]
  · rw [sizeLine_eq]
    simp
    omega
theorem rep_0 (hw : w ≤ 4) {c : Nat} {x3 x4 x5 x6 x7 x8 x9 : Option SV} : repL (opN mkLst (argsC (opN mkTup (argsC (cn (.int 0)) (argsC (cn (.int 0)) args0))) args0)) (op1 (fldD "Ledger" "many") (vr 0)) (RbE es w ms c x3 x4 x5 x6 x7 x8 x9) st = .ok ((List.replicate w ((0 : Int), (0 : Int))).map cellD) st := by
  unfold RbE
  rw [rep_okB (a := cellD (0, 0)) (n := w) (f := opN mkLst (argsC (opN mkTup (argsC (cn (.int 0)) (argsC (cn (.int 0)) args0))) args0)) (g := op1 (fldD "Ledger" "many") (vr 0)) ?_ ?_ (by omega)]
  · rw [List.map_replicate]
  · apply ev_res
    simp [mkLst_of, cellD]
  · apply ev_res
    simp
theorem ix_cell {l : List D} {c : Nat} {i : Int} (h : st[c]? = some (.lst l)) : ixD (.cell c) (.int i) st = atI l i := by
  show (match st[c]? with
      | some (.lst l) => atI l i
      | _ => none) = _
  rw [h]
theorem st_at {d : Cell} {cs : List Cell} {c : Nat} : (st ++ d :: cs)[st.length + 1 + c]? = cs[c]? := by
  rw [List.getElem?_append_right (by omega), show st.length + 1 + c - st.length = c + 1 by omega, List.getElem?_cons_succ]
theorem st_set {d x : Cell} {cs : List Cell} {c : Nat} : (st ++ d :: cs).set (st.length + 1 + c) x = st ++ d :: cs.set c x := by
  rw [List.set_append_right _ _ (by omega), show st.length + 1 + c - st.length = c + 1 by omega, List.set_cons_succ]
theorem st_dct {d : Cell} {cs : List Cell} : (st ++ d :: cs)[st.length]? = some d := by
  rw [List.getElem?_append_right (by omega), Nat.sub_self, List.getElem?_cons_zero]
theorem st_dset {d x : Cell} {cs : List Cell} : (st ++ d :: cs).set st.length x = st ++ x :: cs := by
  rw [List.set_append_right _ _ (by omega), Nat.sub_self, List.set_cons_zero]
theorem rb_store {L Ms : D} {c : Nat} {S : Sta} {row : List (Int × Int)} {g : Int × Int} {x2 x5 x8 x9 : Option SV} (hc : S[c]? = some (.lst (row.map cellD))) (hw : e.way < row.length) (hg : g = row[e.way])
    (hn : 0 ≤ e.n) (hQ : ∀ env', env' = [some (.fro L), some (.fro Ms), x2, some (.fro (.int (e.way : Nat))), some (.fro (.bl e.good)), x5, some (.fro (.int (e.n : Nat))), some (.fro (.cell c)), x8, x9] → QS (.nx env' (S.set c (.lst ((row.set e.way (g.1 + (if e.good = true then (e.n : Int) else 0), g.2 + e.n)).map cellD))))) :
    evS (sAsg (opN mkTup (argsC (op2 addD (op2 ixD (op2 ixD (vr 7) (vr 3)) (cn (.int 0))) (op2 mulD (vr 6) (opN intD (argsC (vr 4) args0)))) (argsC (op2 addD (op2 ixD (op2 ixD (vr 7) (vr 3)) (cn (.int 1))) (vr 6)) args0))) (aSubC (vr 7) (vr 3))) [some (.fro L), some (.fro Ms), x2, some (.fro (.int (e.way : Nat))), some (.fro (.bl e.good)), x5, some (.fro (.int (e.n : Nat))), some (.fro (.cell c)), x8, x9] S QS := by
  have hQ := hQ _ rfl
  have ix : ixD (.cell c) (.int (e.way : Nat)) S = some (cellD g) := by
    rw [ix_cell hc, atI_nat (by simpa using hw), hg]
    simp
  have i0 : ixD (cellD g) (.int 0) S = some (.int g.1) := rfl
  have i1 : ixD (cellD g) (.int 1) S = some (.int g.2) := rfl
  have ic : intD [.bl e.good] S = some (.int (if e.good = true then 1 else 0)) := rfl
  have ml : mulD (.int (e.n : Nat)) (.int (if e.good = true then 1 else 0)) S = some (.int (if e.good = true then (e.n : Int) else 0)) := by
    rw [mulD_int]
    · congr 2
      split <;> simp
    · unfold mulOk
      rw [Bool.or_eq_true, Bool.or_eq_true]
      refine .inr (.inl ?_)
      cases e.good <;> decide
  have ixn : ixN (row.map cellD).length (e.way : Int) = some e.way := ixN_nat (by simpa using hw)
  rw [List.map_set] at hQ
  have e3 : cellD (g.1 + (if e.good = true then (e.n : Int) else 0), g.2 + e.n) = .tup [.int (g.1 + (if e.good = true then (e.n : Int) else 0)), .int (g.2 + e.n)] := rfl
  rw [e3] at hQ
  generalize cellD g = G at *
  generalize row.map cellD = R at *
  generalize (if e.good = true then (1 : Int) else 0) = b1 at *
  generalize (if e.good = true then (e.n : Int) else 0) = b2 at *
  simp [ix, i0, i1, ic, ml, hc, ixn]
  exact hQ
theorem rb_turn (L : Lg w q es) (hm : ms.length ≤ 3) (hq : ∀ m ∈ ms, m < q) {n : Nat} (hn : n < es.length) {env : Env} {st' : Sta} (hI : RbI es w ms st n env st') :
    evS (aTup 4 (aCons (aName 3) (aCons (aName 4) (aCons (aName 5) (aCons (aName 6) aNil)))) (lgE es[n])) env st' (kTg l_rows_by_1 (kI (RbI es w ms st (n + 1)) QS)) := by
  obtain ⟨ps, cs, x3, x4, x5, x6, x7, x8, x9, e1, e2, J, cl, pl⟩ := hI
  have hE := L.ok _ (List.getElem_mem hn)
  have w4 := L.w4
  have n40 := L.n40
  have tk := List.take_succ_eq_append_getElem hn
  have hms := hE.len
  have hway := hE.way
  generalize es[n] = e at *
  subst e1 e2
  have kl : (kOf ms e).length ≤ 3 := by rw [kOf_len]; exact hm
  have pk : ∀ p ∈ ps, p.1.length ≤ 3 := fun p hp => by
    obtain ⟨e', _, h⟩ := (J.key p.1).mp (List.mem_map.mpr ⟨p, hp, rfl⟩)
    rw [← h, kOf_len]
    exact hm
  have kc := key_c (e := e) (q := q) (ms := ms) (L := ledgerD es w) (c := st.length) (x3 := some (.fro (.int (e.way : Nat)))) (x4 := some (.fro (.bl e.good))) (x6 := some (.fro (.int (e.n : Nat)))) (x7 := x7) (x8 := x8) (x9 := x9) (st := st ++ (.dct (eD kbD (cD st.length) ps) :: cs)) hms hm hq
  have z0 := rep_0 (es := es) (ms := ms) (w := w) (c := st.length) (x3 := some (.fro (.int (e.way : Nat)))) (x4 := some (.fro (.bl e.good))) (x5 := some (.fro (.tup (e.ms.map .bl)))) (x6 := some (.fro (.int (e.n : Nat)))) (x7 := x7) (x8 := x8) (x9 := x9) (st := st ++ (.dct (eD kbD (cD st.length) ps) :: cs)) w4
  have tl : ∀ S, tupleD [.lst ((kOf ms e).map .bl)] S = some (kbD (kOf ms e)) := fun S => rfl
  have d1 : dctOf (.cell st.length) (st ++ (.dct (eD kbD (cD st.length) ps) :: cs)) = some (eD kbD (cD st.length) ps) := by
    rw [dctOf_cell, st_dct]
    rfl
  have apc : ∀ x : Cell, (st ++ (.dct (eD kbD (cD st.length) ps) :: cs)) ++ [x] = st ++ (.dct (eD kbD (cD st.length) ps) :: (cs ++ [x])) := fun x => by simp
  have d2 : ∀ x : Cell, ((st ++ (.dct (eD kbD (cD st.length) ps) :: cs)) ++ [x])[st.length]? = some (.dct (eD kbD (cD st.length) ps)) := fun x => by
    rw [apc, st_dct]
  have nl : (st ++ (.dct (eD kbD (cD st.length) ps) :: cs)).length = st.length + 1 + cs.length := by simp; omega
  have tkk := kb_tk kl
  have all := all_tk (f := cD st.length) pk
  have dl : (eD kbD (cD st.length) ps).length < sizeLine := by
    rw [eD_len, sizeLine_eq]
    omega
  have dg : dget (eD kbD (cD st.length) ps) (kbD (kOf ms e)) = (ag ps (kOf ms e)).map (cD st.length) := dget_enc kb_inj
  have key' : ∀ ps1 : List (List Bool × Nat), (∀ k, k ∈ ps1.map (·.1) ↔ k ∈ ps.map (·.1) ∨ k = kOf ms e) → ∀ k, k ∈ ps1.map (·.1) ↔ ∃ e' ∈ es.take n ++ [e], kOf ms e' = k := fun ps1 h k => by
    rw [h, J.key]
    constructor
    · rintro (⟨e', h1, h2⟩ | rfl)
      · exact ⟨e', List.mem_append_left _ h1, h2⟩
      · exact ⟨e, List.mem_append_right _ (List.mem_singleton.mpr rfl), rfl⟩
    · rintro ⟨e', h1, h2⟩
      rcases List.mem_append.mp h1 with h1 | h1
      · exact .inl ⟨e', h1, h2⟩
      · rw [List.mem_singleton.mp h1] at h2
        exact .inr h2.symm
  -- what is left once the group is there
  have fin : ∀ (ps1 : List (List Bool × Nat)) (c : Nat), Kd ps1 → (ps1.map (·.2)).Nodup → (∀ p ∈ ps1, (cs ++ [.lst ((List.replicate w ((0 : Int), (0 : Int))).map cellD)])[p.2]? = some (.lst ((rowE w ms p.1 (es.take n)).map cellD))) → (∀ k, k ∈ ps1.map (·.1) ↔ k ∈ ps.map (·.1) ∨ k = kOf ms e) → (kOf ms e, c) ∈ ps1 → ps1.length ≤ n + 1 → ∀ x8 x9,
      evS (sAsg (opN mkTup (argsC (op2 addD (op2 ixD (op2 ixD (vr 7) (vr 3)) (cn (.int 0))) (op2 mulD (vr 6) (opN intD (argsC (vr 4) args0)))) (argsC (op2 addD (op2 ixD (op2 ixD (vr 7) (vr 3)) (cn (.int 1))) (vr 6)) args0))) (aSubC (vr 7) (vr 3)))
        (RbE es w ms st.length (some (.fro (.int (e.way : Nat)))) (some (.fro (.bl e.good))) (some (.fro (.tup (e.ms.map .bl)))) (some (.fro (.int (e.n : Nat)))) (some (.fro (cD st.length c))) x8 x9) (st ++ (.dct (eD kbD (cD st.length) ps1) :: (cs ++ [.lst ((List.replicate w ((0 : Int), (0 : Int))).map cellD)]))) (kI (RbI es w ms st (n + 1)) QS) := by
    intro ps1 c kd inj at1 keys mem pl1 x8 x9
    have ac := at1 _ mem
    refine rb_store (e := e) (c := st.length + 1 + c) (row := rowE w ms (kOf ms e) (es.take n)) (g := cntE ms (kOf ms e) e.way (es.take n)) (by rw [st_at]; exact ac) (by rw [rowE_len]; exact hway) (by simp [rowE]) (by omega) ?_
    intro env' he'
    subst he'
    rw [kI_nx, st_set, ← row_same, ← tk]
    have J2 := rbj_put (w := w) (e := e) kd inj at1 (key' ps1 keys) mem
    rw [← tk] at J2
    exact ⟨ps1, _, _, _, _, _, _, _, _, rfl, rfl, J2, by simp [cl], pl1⟩
  unfold lgE
  unfold RbE at z0
  simp
  unfold l_rows_by_1
  simp [d1, evM_of kc, tl]
  rw [evM_of z0]
  simp only [kCelL_ok, kSd3_ok, d2, kSd3b_dct, tkk, all, dl, Bool.and_self, and_self, if_true, dg, nl]
  cases hag : ag ps (kOf ms e) with
  | some c =>
    rw [Option.map_some, kSd4_some, apc]
    have mem := ag_some hag
    have hf := fin ps c J.kd J.inj (fun p hp => by
      have h := J.at_ p hp
      have hlt := (List.getElem?_eq_some_iff.mp h).1
      rw [List.getElem?_append_left hlt]
      exact h) (fun k => ⟨.inl, fun h => by
        rcases h with h | rfl
        · exact h
        · exact List.mem_map.mpr ⟨_, mem, rfl⟩⟩) mem (by omega) x8 x9
    simpa using hf
  | none =>
    have nk : kOf ms e ∉ ps.map (·.1) := fun h => by
      have := any_mem.mpr h
      rw [ag_none hag] at this
      cases this
    have hap : ap ps (kOf ms e) cs.length = ps ++ [(kOf ms e, cs.length)] := by
      unfold ap
      rw [ag_none hag]
      rfl
    have dp : dput (eD kbD (cD st.length) ps) (kbD (kOf ms e)) (.cell (st.length + 1 + cs.length)) = eD kbD (cD st.length) (ps ++ [(kOf ms e, cs.length)]) := by
      rw [← hap]
      exact dput_enc kb_inj
    rw [Option.map_none, kSd4_none, dp, apc, st_dset]
    have hf := fin (ps ++ [(kOf ms e, cs.length)]) cs.length (by rw [← hap]; exact J.kd.ap) (by
      rw [List.map_append, List.nodup_append]
      refine ⟨J.inj, by simp, fun a ha b hb => ?_⟩
      obtain ⟨p, hp, rfl⟩ := List.mem_map.mp ha
      have hlt := (List.getElem?_eq_some_iff.mp (J.at_ p hp)).1
      have : b = cs.length := by simpa using hb
      omega) (fun p hp => by
      rcases List.mem_append.mp hp with hp | hp
      · have h := J.at_ p hp
        have hlt := (List.getElem?_eq_some_iff.mp h).1
        rw [List.getElem?_append_left hlt]
        exact h
      · rw [List.mem_singleton.mp hp]
        rw [row_none (fun e' he' z => nk ((J.key _).mpr ⟨e', he', z⟩))]
        simp) (fun k => by simp) (List.mem_append_right _ (List.mem_singleton.mpr rfl)) (by simp; omega) x8 x9
    simpa [cD] using hf
end
end PL
set_option Elab.async false
set_option linter.all false
set_option maxRecDepth 100000
set_option maxHeartbeats 4000000
namespace PL
open PySem PySem.Spec PyProof.Rows L2
def c_need_marks_1 : Env → M (List D) := (mLc [3] (bName 3) yes (op2 ltD (op2 ixD (vr 1) (vr 3)) (op2 ixD (vr 1) (op2 addD (vr 3) (cn (.int 1))))) (itN rng1 (argsC (op2 subD (opN lenD (argsC (vr 1) args0)) (cn (.int 1))) args0)))
def c_need_marks_2 : Env → M (List D) := (mLc [2] (bName 2) yes (mCall (argsC (vr 2) (argsC (cn (.int 0)) (argsC (op2 subD (opN lenD (argsC (op2 ixD (op2 ixD (op1 (fldD "Ledger" "lines") (vr 0)) (cn (.int 0))) (cn (.int 2))) args0)) (cn (.int 1))) args0))) (argN 3 m_is_from)) (itO seqIt (vr 1)))
def b_need_marks : SD := (sSeq (sIf (mOr (mNot (tst (op1 (isiT "tuple" CS) (vr 1)))) (tBool (op2 gtD (opN lenD (argsC (vr 1) args0)) (cn (.int (3)))))) (sRaise0 "BadMarks") sNext) (sSeq (sIf (mNot (tst (opN allD (argsC (lstF c_need_marks_2) args0)))) (sRaise0 "BadMarks") sNext) (sIf (mNot (tst (opN allD (argsC (lstF c_need_marks_1) args0)))) (sRaise0 "BadMarks") sNext)))
def m_need_marks : List D → M D := runB 4 b_need_marks
def b_by_marks : SD := (sSeq (sDrop (mCall (argsC (vr 0) args0) (argN 1 m_need_ledger))) (sSeq (sDrop (mCall (argsC (vr 0) (argsC (vr 1) args0)) (argN 2 m_need_marks))) (sRet (mCall (argsC (opN tupleD (argsC (mCall (argsC (vr 0) (argsC (vr 1) args0)) (argN 2 m_rows_by)) args0)) args0) (mkObj "Table" ini_Table)))))
def m_by_marks : List D → M D := runB 2 b_by_marks
section
variable {st : Sta} {QS : SR → Prop} {w q : Nat} {es : List Le} {e : Le} {ms : List Nat} {k : List Bool}
theorem sortok_keys {ks : List (List Bool)} {n : Nat} (hn : n ≤ 3) (nd : ks.Nodup) (h : ∀ k ∈ ks, k.length = n) : sortOkD (ks.map kbD) = true := by
  have mk : ∀ k ∈ ks, k ∈ allK n := fun k hk => by
    rw [← h k hk]
    exact allK_mem
  unfold sortOkD
  rw [Bool.and_eq_true, Bool.and_eq_true, Bool.or_eq_true]
  refine ⟨⟨?_, ?_⟩, ?_⟩
  · rw [List.all_eq_true]
    intro d hd
    obtain ⟨k, hk, rfl⟩ := List.mem_map.mp hd
    exact (allK_ok n hn k (mk k hk)).1
  · rw [List.all_eq_true]
    intro d hd
    obtain ⟨k, hk, rfl⟩ := List.mem_map.mp hd
    rw [List.all_eq_true]
    intro d' hd'
    obtain ⟨k', hk', rfl⟩ := List.mem_map.mp hd'
    exact (allK_ok n hn k (mk k hk)).2.2.2 k' (mk k' hk')
  · by_cases c : n = 0
    · subst c
      refine .inr ?_
      rw [Bool.and_eq_true, decide_eq_true_eq, List.all_eq_true, List.length_map]
      have z : ∀ k ∈ ks, k = [] := fun k hk => List.length_eq_zero_iff.mp (h k hk)
      refine ⟨?_, fun d hd => ?_⟩
      · match ks, nd, z with
        | [], _, _ => simp
        | [_], _, _ => simp
        | a :: b :: r, nd, z =>
          rw [List.nodup_cons] at nd
          refine absurd ?_ nd.1
          rw [z a (by simp), z b (by simp)]
          exact List.mem_cons_self ..
      · obtain ⟨k, hk, rfl⟩ := List.mem_map.mp hd
        rfl
    · refine .inl ?_
      rw [List.all_eq_true]
      intro d hd
      obtain ⟨k, hk, rfl⟩ := List.mem_map.mp hd
      rcases (allK_ok n hn k (mk k hk)).2.1 with z | z
      · exact absurd z c
      · exact z
theorem rows_by_ok (L : Lg w q es) (hm : ms.length ≤ 3) (hq : ∀ m ∈ ms, m < q) : ∃ ex, m_rows_by [ledgerD es w, tpD ms] st = .ok (.lst ((rbRows w ms es).map rowD)) (st ++ ex) := by
  refine ev_out (r := m_rows_by [ledgerD es w, tpD ms] st) (Q := fun r => ∃ ex, r = .ok (.lst ((rbRows w ms es).map rowD)) (st ++ ex)) ?_
  have sq : ∀ S, seqIt (linesD es) S = some (es.map lgE) := fun S => rfl
  unfold m_rows_by b_rows_by
  simp [sq]
  refine evL_at (RbI es w ms st) (fun n hn env st' hI => rb_turn L hm hq hn hI) ?_ ⟨[], [], _, _, _, _, _, _, _, rfl, rfl, ⟨kd_nil, List.nodup_nil, fun _ h => (nomatch h), fun k => ⟨fun h => (nomatch h), fun ⟨e, h, _⟩ => (by simp at h)⟩⟩, rfl, Nat.le_refl _⟩
  intro env st' hI
  obtain ⟨ps, cs, x3, x4, x5, x6, x7, x8, x9, e1, e2, J, cl, pl⟩ := hI
  rw [List.take_of_length_le (Nat.le_refl _)] at J
  subst e1 e2
  have kl : ∀ k ∈ ps.map (·.1), k.length = ms.length := fun k hk => by
    obtain ⟨e', _, h⟩ := (J.key k).mp hk
    rw [← h, kOf_len]
  have n40 := L.n40
  have kn : (keysE ms es).length ≤ 8 := by
    refine Nat.le_trans (List.length_filter_le _ _) (allK_le _ hm)
  have d1 : dctOf (.cell st.length) (st ++ (.dct (eD kbD (cD st.length) ps) :: cs)) = some (eD kbD (cD st.length) ps) := by
    rw [dctOf_cell, st_dct]
    rfl
  have mf : (eD kbD (cD st.length) ps).map (·.1) = (ps.map (·.1)).map kbD := by
    unfold eD
    rw [List.map_map, List.map_map]
    rfl
  have so : sortedDD [.cell st.length] (st ++ (.dct (eD kbD (cD st.length) ps) :: cs)) = some (.lst ((keysE ms es).map kbD)) := by
    show ((dctOf (.cell st.length) _).bind _) = _
    rw [d1, Option.bind_some, mf, if_pos (sortok_keys hm J.kd kl), sort_keys hm J.kd J.key]
  have sq2 : ∀ S, seqIt (.lst ((keysE ms es).map kbD)) S = some ((keysE ms es).map kbD) := fun S => rfl
  have ix : ∀ k ∈ keysE ms es, ∃ c, ixDd (.cell st.length) (kbD k) (st ++ (.dct (eD kbD (cD st.length) ps) :: cs)) = some (.cell c) ∧ (st ++ (.dct (eD kbD (cD st.length) ps) :: cs))[c]? = some (.lst ((rowE w ms k es).map cellD)) := fun k hk => by
    have hk' := (J.key k).mpr (keysE_mem.mp hk)
    obtain ⟨p, hp, rfl⟩ := List.mem_map.mp hk'
    have at1 := J.at_ p hp
    refine ⟨st.length + 1 + p.2, ?_, by rw [st_at]; exact at1⟩
    unfold ixDd
    have dk : dkey (eD kbD (cD st.length) ps) (kbD p.1) = true := by
      unfold dkey
      rw [kb_tk (by rw [kl _ hk']; exact hm), all_tk (fun p hp => by rw [kl _ (List.mem_map.mpr ⟨p, hp, rfl⟩)]; exact hm)]
      simp
    rw [d1, Option.bind_some, if_pos dk, dget_enc kb_inj, ag_mem J.kd hp]
    rfl
  generalize hS : st ++ (Cell.dct (eD kbD (cD st.length) ps) :: cs) = S at *
  have rt : ∀ k, D.tup ((rowE w ms k es).map cellD) = rowD (rowE w ms k es) := fun _ => rfl
  have cc : c_rows_by_1 (RbE es w ms st.length x3 x4 x5 x6 x7 x8 x9) S = .ok ((rbRows w ms es).map rowD) S := by
    apply ev_res
    unfold c_rows_by_1 RbE
    simp [so, sq2]
    rw [evC_map (enc := kbD) (e1 := fun k => [some (.fro (ledgerD es w)), some (.fro (tpD ms)), some (.fro (.cell st.length)), x3, x4, x5, x6, x7, x8, some (.fro (kbD k))]) (fv := fun k => rowD (rowE w ms k es))]
    · simp [rbRows]
    · intro k hk
      obtain ⟨c, h1, h2⟩ := ix k hk
      refine ⟨rfl, by simp, ?_⟩
      simp [h1, h2, rt]
    · exact small_m (by omega)
  unfold RbE at cc
  simp
  rw [evM_of cc]
  simp
  exact ⟨_, hS.symm⟩
end
end PL
set_option Elab.async false
set_option linter.all false
set_option maxRecDepth 100000
set_option maxHeartbeats 4000000
namespace PL
open PySem PySem.Spec PyProof.Rows L2
section
variable {st : Sta} {QS : SR → Prop} {w q i j : Nat} {es : List Le} {e : Le} {ms : List Nat} {k : List Bool}
theorem cnt_bd (hes : ∀ e ∈ es, e.n ≤ 1000000000) : 0 ≤ (cntE ms k i es).1 ∧ (cntE ms k i es).1 ≤ (cntE ms k i es).2 ∧ (cntE ms k i es).2 ≤ es.length * 1000000000 := by
  unfold cntE
  induction es with
  | nil => simp
  | cons e es ih =>
    obtain ⟨h1, h2, h3⟩ := ih fun e he => hes e (List.mem_cons_of_mem _ he)
    have h4 := hes e (List.mem_cons_self ..)
    dsimp only at h1 h2 h3 ⊢
    rw [List.map_cons, List.map_cons, List.sum_cons, List.sum_cons, List.length_cons]
    have a : (0 : Int) ≤ (if kOf ms e = k ∧ e.way = i ∧ e.good = true then (e.n : Int) else 0) ∧ (if kOf ms e = k ∧ e.way = i ∧ e.good = true then (e.n : Int) else 0) ≤ (if kOf ms e = k ∧ e.way = i then (e.n : Int) else 0) ∧ (if kOf ms e = k ∧ e.way = i then (e.n : Int) else 0) ≤ 1000000000 := by
      by_cases c : kOf ms e = k ∧ e.way = i
      · by_cases g : e.good = true
        · rw [if_pos ⟨c.1, c.2, g⟩, if_pos c]
          omega
        · rw [if_neg fun z => g z.2.2, if_pos c]
          omega
      · rw [if_neg fun z => c ⟨z.1, z.2.1⟩, if_neg c]
        omega
    omega
theorem rb_tb (L : Lg w q es) (hm : ms.length ≤ 3) : Tb w (rbRows w ms es) := by
  have n1 := L.n1
  have n40 := L.n40
  have kn : (keysE ms es).length ≤ 8 := Nat.le_trans (List.length_filter_le _ _) (allK_le _ hm)
  have rl : (rbRows w ms es).length = (keysE ms es).length := by simp [rbRows]
  refine ⟨⟨fun r hr => ?_, fun r hr c hc => ?_, by omega⟩, ?_, by omega, L.w2, L.w4⟩
  · obtain ⟨k, _, rfl⟩ := List.mem_map.mp hr
    exact rowE_len
  · obtain ⟨k, _, rfl⟩ := List.mem_map.mp hr
    obtain ⟨j, _, rfl⟩ := List.mem_map.mp hc
    obtain ⟨h1, h2, h3⟩ := cnt_bd (ms := ms) (k := k) (i := j) fun e he => (L.ok e he).n1
    omega
  · rw [rl]
    match es, n1 with
    | e :: es, _ => exact List.length_pos_of_mem (keysE_mem.mpr ⟨e, List.mem_cons_self .., rfl⟩)
theorem marks_len (L : Lg w q es) : ∃ e0, ixD (linesD es) (.int 0) st = some (lgE e0) ∧ ixD (lgE e0) (.int 2) st = some (.tup (e0.ms.map .bl)) ∧ lenD [.tup (e0.ms.map .bl)] st = some (.int (q : Nat)) := by
  have n1 := L.n1
  have ok := L.ok
  match es, n1 with
  | e0 :: es, _ =>
    refine ⟨e0, ?_, rfl, ?_⟩
    · show atI _ ((0 : Nat) : Int) = _
      rw [atI_nat (by simp)]
      rfl
    · show some (D.int (((e0.ms.map D.bl).length : Nat) : Int)) = _
      rw [List.length_map, (ok e0 (List.mem_cons_self ..)).len]
theorem need_marks_ok (L : Lg w q es) (hm : ms.length ≤ 3) (hq : ∀ m ∈ ms, m < q) (asc : ms.Pairwise (· < ·)) : m_need_marks [ledgerD es w, tpD ms] st = .ok .non st := by
  obtain ⟨e0, i0, i2, il⟩ := marks_len (st := st) L
  have it : isiT "tuple" CS (tpD ms) st = some (.bl true) := isiT_tup_kn rfl
  have lm : lenD [tpD ms] st = some (.int (ms.length : Nat)) := by
    show some (D.int (((ms.map natD).length : Nat) : Int)) = _
    rw [List.length_map]
  have sq : seqIt (tpD ms) st = some (ms.map natD) := rfl
  have c2 : c_need_marks_2 [some (.fro (ledgerD es w)), some (.fro (tpD ms)), none, none] st = .ok (ms.map fun _ => .bl true) st := by
    apply ev_res
    unfold c_need_marks_2
    simp [sq]
    rw [evC_map (enc := natD) (e1 := fun m => [some (.fro (ledgerD es w)), some (.fro (tpD ms)), some (.fro (natD m)), none]) (fv := fun _ => .bl true)]
    · simp
    · intro m hm'
      have f := is_from_ok (st := st) (d := natD m) (lo := 0) (hi := (q : Int) - 1) rfl
      have fv : isFromD (natD m) 0 ((q : Int) - 1) = true := by
        have := hq m hm'
        show isFromD (.int (m : Int)) _ _ = true
        rw [isFrom_int]
        simp
        omega
      rw [fv] at f
      exact ⟨rfl, by simp, by simp [i0, i2, il, f]⟩
    · exact small_m (by omega)
  have a2 : allD [.lst (ms.map fun _ => .bl true)] st = some (.bl true) := by
    have e := allD_map (f := fun b : Nat => true) (l := ms) (st := st)
    refine Eq.trans e ?_
    simp
  have rg : rng1 [.int ((ms.length : Int) - 1)] st = some ((List.range (ms.length - 1)).map natD) := by
    match ms with
    | [] => rfl
    | m :: ms =>
      rw [show (((m :: ms).length : Nat) : Int) - 1 = (((m :: ms).length - 1 : Nat) : Int) by simp]
      exact rng1_w (by simp at hm ⊢; omega)
  have c1 : c_need_marks_1 [some (.fro (ledgerD es w)), some (.fro (tpD ms)), none, none] st = .ok ((List.range (ms.length - 1)).map fun _ => .bl true) st := by
    apply ev_res
    unfold c_need_marks_1
    simp [lm, rg]
    rw [evC_map (enc := natD) (e1 := fun m => [some (.fro (ledgerD es w)), some (.fro (tpD ms)), none, some (.fro (natD m))]) (fv := fun _ => .bl true)]
    · simp
    · intro m hm'
      have lt : m + 1 < ms.length := by
        have := List.mem_range.mp hm'
        omega
      have x1 : atI (ms.map natD) (m : Int) = some (natD ms[m]) := by
        rw [atI_nat (by simp; omega)]
        simp
      have x2 : atI (ms.map natD) ((m : Int) + 1) = some (natD ms[m + 1]) := by
        rw [show (m : Int) + 1 = ((m + 1 : Nat) : Int) by omega, atI_nat (by simpa using lt)]
        simp
      have le : ms[m] < ms[m + 1] := List.pairwise_iff_getElem.mp asc m (m + 1) (by omega) lt (by omega)
      refine ⟨rfl, by simp, ?_⟩
      generalize ms[m] = a at *
      generalize ms[m + 1] = b at *
      simp [natD, x1, x2]
      omega
    · exact small_m (by simp; omega)
  have a1 : allD [.lst ((List.range (ms.length - 1)).map fun _ => .bl true)] st = some (.bl true) := by
    have e := allD_map (f := fun b : Nat => true) (l := List.range (ms.length - 1)) (st := st)
    refine Eq.trans e ?_
    simp
  have g3 : ¬ (3 : Int) < (ms.length : Int) := by omega
  generalize tpD ms = V at *
  apply ev_run
  unfold m_need_marks b_need_marks
  simp [it, lm, g3, evM_of c2, a2, evM_of c1, a1]
theorem by_marks_ok (L : Lg w q es) (hm : ms.length ≤ 3) (hq : ∀ m ∈ ms, m < q) (asc : ms.Pairwise (· < ·)) : ∃ ex, m_by_marks [ledgerD es w, tpD ms] st = .ok (tableD (rbRows w ms es)) (st ++ ex) := by
  obtain ⟨ex, r⟩ := rows_by_ok (st := st) L hm hq
  have T := rb_tb (ms := ms) L hm
  have mk := mk_table (st := st ++ ex) T
  have nm := need_marks_ok (st := st) L hm hq asc
  have tl : tupleD [.lst ((rbRows w ms es).map rowD)] (st ++ ex) = some (rowsD (rbRows w ms es)) := rfl
  refine ⟨ex, ?_⟩
  apply ev_run
  unfold m_by_marks b_by_marks
  simp [need_ledger_ok, nm, r, tl, mk]
end
end PL
set_option Elab.async false
set_option linter.all false
set_option maxRecDepth 100000
set_option maxHeartbeats 4000000
namespace PL
open PySem PySem.Spec PyProof.Rows L2
def b_Table_eq : SD := (sRet (mAndV (op1 (isiC "Table" CS) (vr 1)) (op2 eqD (op1 (fldD "Table" "rows") (vr 0)) (op1 (fldD "Table" "rows") (vr 1)))))
def m_Table_eq : List D → M D := runB 2 b_Table_eq

def own_Table_eq (x y : D) (st : Sta) : Option D := match fldD "Table" "rows" x st with
  | none => none
  | some a => (match y with
    | .int _ => some (.bl false)
    | .tup _ => some (.bl false)
    | .obj c fs => (match fldD "Table" "rows" (.obj c fs) st with
      | some b => eqD a b st
      | none => none)
    | _ => none)
theorem fld_obj {x a : D} {st : Sta} (h : fldD "Table" "rows" x st = some a) : isObj "Table" x st = true := by
  unfold fldD at h
  split at h
  · assumption
  · cases h
theorem ownk_Table_eq : OwnOk "Table" m_Table_eq own_Table_eq := by
  refine ⟨fun x y st z h => ?_⟩
  unfold own_Table_eq at h
  cases e : fldD "Table" "rows" x st with
  | none => rw [e] at h; cases h
  | some a =>
    rw [e] at h
    dsimp only at h
    cases y with
    | int i =>
      cases h
      refine ⟨fld_obj e, rfl, _, rfl, ?_⟩
      have ii : isiC "Table" CS (.int i) st = some (.bl false) := rfl
      apply ev_run
      unfold m_Table_eq b_Table_eq
      simp [ii]
    | tup l =>
      cases h
      refine ⟨fld_obj e, rfl, _, rfl, ?_⟩
      have ii : isiC "Table" CS (.tup l) st = some (.bl false) := rfl
      apply ev_run
      unfold m_Table_eq b_Table_eq
      simp [ii]
    | obj c fs =>
      dsimp only at h
      cases e2 : fldD "Table" "rows" (.obj c fs) st with
      | none => rw [e2] at h; cases h
      | some b =>
        rw [e2] at h
        dsimp only at h
        have ho := fld_obj e2
        have hc : (c == ("Table" : Str)) = true := ho
        have hc' : c = ("Table" : Str) := by simpa using hc
        have ii : isiC "Table" CS (.obj c fs) st = some (.bl true) := by
          rw [hc', isiC_obj (by decide)]
          rfl
        obtain ⟨bb, rfl⟩ : ∃ bb, z = .bl bb := by
          unfold eqD at h
          split at h
          · cases h
            exact ⟨_, rfl⟩
          · cases h
        refine ⟨fld_obj e, ho, bb, rfl, ?_⟩
        apply ev_run
        unfold m_Table_eq b_Table_eq
        simp [ii, e, e2, h]
    | _ => cases h
section
variable {rows : List (List (Int × Int))} {st : Sta}
theorem own_tab {rows2 : List (List (Int × Int))} : own_Table_eq (tableD rows) (tableD rows2) st = eqD (rowsD rows) (rowsD rows2) st := by
  have e1 := fld_rows (rows := rows) (st := st)
  have e2 := fld_rows (rows := rows2) (st := st)
  unfold own_Table_eq
  rw [e1]
  unfold tableD at e2 ⊢
  dsimp only
  rw [e2]
end
end PL
set_option Elab.async false
set_option linter.all false
set_option maxRecDepth 100000
set_option maxHeartbeats 4000000
namespace PL
open PySem
def hashK (k : List Bool) : Int := reduceHash (Builtin.Tuple.tupleHashOf (k.map fun b => hashInt (if b = true then 1 else 0)))
structure StB where
  t : SetTable
  ks : List (List Bool)
  deriving DecidableEq
def seekB (t : SetTable) (ks : List (List Bool)) (k : List Bool) : Nat → Option SetTable.Probe → Option (Option Nat)
  | 0, _ => none
  | f + 1, stand => match t.probe (fun i => (ks[i]?.map hashK).getD 0) (hashK k) (stand.getD (t.probeStart (hashK k))) with
    | some (.empty j none) => some (some j)
    | some (.candidate j i next) => match ks[i]? with
      | some k' => if k' = k then some none else (match t.slot j with
        | .live i' => if i' = i then seekB t ks k f (some next) else none
        | _ => none)
      | none => none
    | _ => none
def addB (s : StB) (k : List Bool) : Option StB := match seekB s.t s.ks k 40 none with
  | none => none
  | some none => some s
  | some (some j) =>
    let ks := s.ks.take (s.t.put j).2 ++ k :: s.ks.drop (s.t.put j).2
    if (s.t.put j).1.tooFull = true then (match (s.t.put j).1.relaid (ks.map hashK).toArray (SetTable.grown ks.length) with
      | some (t', order) => some ⟨t', order.toList.filterMap (ks[·]?)⟩
      | none => none)
    else some ⟨(s.t.put j).1, ks⟩
def keysB : Nat → List (List Bool)
  | 0 => [[]]
  | n + 1 => (keysB n).map (false :: ·) ++ (keysB n).map (true :: ·)
def levB (led : Bool) (d : Nat) : Nat → List StB
  | 0 => [⟨.fresh 0 0 led, []⟩]
  | n + 1 => ((levB led d n).flatMap fun s => (keysB d).filterMap fun k => if s.ks.contains k then none else addB s k).eraseDups
def fitB (led : Bool) (s : StB) : Bool := s.t.place.size == s.ks.length && (s.t.dummies.isEmpty && (s.t.plain && (s.t.led == led && (s.t.mask % 2 == 1 && decide (s.t.fill ≤ s.t.mask)))))
def okB (led : Bool) (d n : Nat) : Bool := (levB led d n).all fun s => fitB led s && (keysB d).all fun k => match addB s k with
  | some s' => if s.ks.contains k then decide (s' = s) else (levB led d (n + 1)).contains s' && s'.ks.isPerm (k :: s.ks)
  | none => false
theorem okB_t : ∀ d, d ≤ 2 → ∀ n, n ≤ 4 → okB true d n = true := by decide +kernel
theorem okB_f : ∀ d, d ≤ 2 → ∀ n, n ≤ 4 → okB false d n = true := by decide +kernel
end PL
set_option Elab.async false
set_option linter.all false
set_option maxRecDepth 100000
set_option maxHeartbeats 4000000
namespace PL
open PySem PySem.Spec PyProof.Rows
def IsB (h : Heap) (k : List Bool) (b : Addr) : Prop := ∃ (o : Obj) (items : Array Value) (n : Nat), h.get? b = some o ∧ o.cls = .type "tuple" ∧ o.data = .seq items n ∧ items.toList = k.map Value.bool
def nkB (k : List Bool) : NestedKey := .tup (k.map fun b => .num (if b = true then 1 else 0))
theorem nkB_all {h : Heap} : ∀ k : List Bool, NestedAll h (k.map fun b => .num (if b = true then 1 else 0)) (k.map Value.bool)
  | [] => .nil
  | b :: k => .cons (.bool rfl) (nkB_all k)
theorem IsB.key {h : Heap} {k : List Bool} {b : Addr} (x : IsB h k b) : NestedIs h (nkB k) (.ref b) := by
  obtain ⟨o, items, n, h1, h2, h3, h4⟩ := x
  exact .tup h1 h2 h3 (by rw [h4]; exact nkB_all k)
theorem nkB_depths : ∀ k : List Bool, NestedKey.depthAll (k.map fun b => .num (if b = true then 1 else 0)) = 0
  | [] => rfl
  | b :: k => by
    show max 0 (NestedKey.depthAll (k.map fun b => .num (if b = true then 1 else 0))) = 0
    rw [nkB_depths k]
    rfl
theorem nkB_depth {k : List Bool} : (nkB k).depth = 1 := by
  show NestedKey.depthAll _ + 1 = 1
  rw [nkB_depths]
theorem nkB_hashes {w : World} : ∀ k : List Bool, NestedKey.hashes w (k.map fun b => .num (if b = true then 1 else 0)) = k.map fun b => hashInt (if b = true then 1 else 0)
  | [] => rfl
  | b :: k => by
    show _ :: NestedKey.hashes w (k.map fun b => .num (if b = true then 1 else 0)) = _
    rw [nkB_hashes k]
    rfl
theorem nkB_hash {w : World} {k : List Bool} : (nkB k).hash w = hashK k := by
  show reduceHash (Builtin.Tuple.tupleHashOf (NestedKey.hashes w _)) = _
  rw [nkB_hashes]
  rfl
theorem nkB_inj : ∀ {k l : List Bool}, nkB k = nkB l → k = l := by
  intro k l e
  have e2 : (k.map fun b => NestedKey.num (if b = true then 1 else 0)) = l.map fun b => .num (if b = true then 1 else 0) := by
    injection e
  induction k generalizing l with
  | nil =>
    cases l with
    | nil => rfl
    | cons b l => cases e2
  | cons a k ih =>
    cases l with
    | nil => cases e2
    | cons b l =>
      injection e2 with h1 h2
      have h3 : a = b := by
        cases a <;> cases b <;> first | rfl | (simp at h1)
      rw [h3, ih (l := l) (by unfold nkB; rw [h2]) h2]
end PL
set_option Elab.async false
set_option linter.all false
set_option maxRecDepth 100000
set_option maxHeartbeats 4000000
namespace PL
open PySem PySem.Spec PyProof.Rows
section
variable {P : Program} {w : World} {A : Around} {E : Value → Shared → Prop} {s : Shared} {k l : List Bool} {b c : Addr}
theorem IsB.ty (x : IsB s.heap k b) : s.TypeIs (.ref b) "tuple" := by
  obtain ⟨o, items, n, h1, h2, _⟩ := x
  exact ⟨o, h1, h2⟩
theorem IsB.kind (x : IsB s.heap k b) : (nestedKind P w).is s.heap (nkB k) b := ⟨x.key, by rw [nkB_depth]; decide⟩
theorem isB_eq {Q : Bool → Shared → Prop} (hu : A.units + 8 < cLine) (x : IsB s.heap k b) (y : IsB s.heap l c) (h : Q (decide (k = l)) s) : wpAny (model P w) A (eqBool (.ref b) (.ref c)) Q E s := by
  refine (nestedKind P w).eqBool hu x.kind y.kind ?_
  have e : decide (nkB k = nkB l) = decide (k = l) := by
    by_cases q : k = l
    · subst q; simp
    · rw [decide_eq_false q, decide_eq_false fun z => q (nkB_inj z)]
  rw [e]
  exact h
theorem isB_hash {Q : Int → Shared → Prop} (hu : A.units + 8 < cLine) (x : IsB s.heap k b) (h : ∀ t, s.toks ≤ t → Q (hashK k) { s with toks := t }) : wpAny (model P w) A (pyHash (.ref b)) Q E s := by
  refine pyHash_key (nkB k) _ A s Q x.key (by rw [nkB_depth]; omega) ?_
  rw [nkB_hash]
  exact h _ (Nat.le_add_right ..)
theorem isB_quiet {Q : Bool → Shared → Prop} (x : IsB s.heap k b) (h : Q true s) : wpAny (model P w) A (eqIsQuiet 8 (.ref b)) Q E s := (nestedKind P w).quiet x.kind h
theorem isB_keep {h h' : Heap} (x : IsB h k b) (hk : ∀ a o vs n, h.get? a = some o → o.data = .seq vs n → h'.get? a = some o) : IsB h' k b := by
  obtain ⟨o, items, n, h1, h2, h3, h4⟩ := x
  exact ⟨o, items, n, hk _ _ _ _ h1 h3, h2, h3, h4⟩
theorem isB_hashBy {Q : Bool → Shared → Prop} (x : IsB s.heap k b) (h : Q true s) : wpAny (model P w) A (hashByValue 8 (.ref b)) Q E s := by
  have hT := x.ty
  obtain ⟨o, items, n, ho, _, hd, hi⟩ := x
  unfold hashByValue
  refine wpAny_bind (wpAny_specialOf hT F.slot_tuple_hash.lookup ?_)
  show wpAny _ _ (seqItems? (.ref b) >>= _) _ _ s
  refine wpAny_bind (wpAny_seqItems ho hd ?_)
  refine wpAny_bind ?_
  show wpAny _ _ (forIn items _ _) _ _ s
  rw [← Array.forIn_toList, hi]
  refine wpAny_forIn_list _ (fun rest r s' => r.1 = none ∧ s' = s ∧ ∃ l : List Bool, rest = l.map Value.bool) _ ?_ ?_ _ _ ⟨rfl, rfl, k, rfl⟩
  · rintro v rest r s' ⟨hr, rfl, l, hl⟩
    cases l with
    | nil => cases hl
    | cons a l =>
      injection hl with h1 h2
      subst h1
      refine wpAny_bind (m := hashByValue 7 (.bool a)) (wpAny_pure ?_)
      exact wpAny_pure ⟨rfl, rfl, l, h2⟩
  · rintro ⟨r1, r2⟩ s' ⟨hr, rfl, _⟩
    simp only at hr
    subst hr
    exact wpAny_pure h
end
end PL
set_option Elab.async false
set_option linter.all false
set_option maxRecDepth 100000
set_option maxHeartbeats 4000000
namespace PL
open PySem PySem.Spec PyProof.Rows L2
section
variable {P : Program} {w : World} {A : Around} {E : Value → Shared → Prop} {s : Shared} {k l : List Bool} {b c : Addr}
theorem isB_noClass {Q : Bool → Shared → Prop} (x : IsB s.heap k b) (h : Q false s) : wpAny (model P w) A (ofAClassStatement 8 (.ref b)) Q E s := by
  have hT := x.ty
  obtain ⟨o, items, n, ho, _, hd, hi⟩ := x
  unfold ofAClassStatement
  refine wpAny_bind (wpAny_typeOf hT ?_)
  dsimp only
  rw [if_pos (show (("tuple" : String) == "tuple") = true by decide)]
  refine wpAny_bind (wpAny_pure ?_)
  simp only [Bool.not_true, Bool.false_eq_true, if_false]
  refine wpAny_bind (m := seqItems? (.ref b)) (wpAny_seqItems ho hd ?_)
  dsimp only
  refine wpAny_bind ?_
  show wpAny _ _ (forIn items _ _) _ _ s
  rw [← Array.forIn_toList, hi]
  refine wpAny_forIn_list _ (fun rest r s' => r.1 = none ∧ s' = s ∧ ∃ l : List Bool, rest = l.map Value.bool) _ ?_ ?_ _ _ ⟨rfl, rfl, k, rfl⟩
  · rintro v rest r s' ⟨hr, rfl, l, hl⟩
    cases l with
    | nil => cases hl
    | cons a l =>
      injection hl with h1 h2
      subst h1
      refine wpAny_bind (m := ofAClassStatement 7 (.bool a)) (wpAny_pure ?_)
      exact wpAny_pure ⟨rfl, rfl, l, h2⟩
  · rintro ⟨r1, r2⟩ s' ⟨hr, rfl, _⟩
    simp only at hr
    subst hr
    exact wpAny_pure h
theorem isB_seen {Q : Bool → Shared → Prop} (x : IsB s.heap k b) {ys : List Value} (hy : ∀ y ∈ ys, ∃ l c, y = Value.ref c ∧ IsB s.heap l c) (h : Q false s) : wpAny (model P w) A (searchCouldBeSeen (.ref b) ys) Q E s := by
  unfold searchCouldBeSeen
  refine wpAny_bind ?_
  refine wpAny_forIn_list _ (fun rest r s' => r.1 = none ∧ s' = s ∧ ∀ y ∈ rest, ∃ l c, y = Value.ref c ∧ IsB s.heap l c) _ ?_ ?_ _ _ ⟨rfl, rfl, hy⟩
  · rintro v rest r s' ⟨hr, rfl, hall⟩
    obtain ⟨l, c, rfl, hc⟩ := hall v List.mem_cons_self

    dsimp only
    by_cases hv : (b == c || (carriedByValue (.ref b) && carriedByValue (.ref c))) = true
    · refine wp_if_pos hv ?_
      exact wpAny_pure ⟨rfl, rfl, fun y hy' => hall y (List.mem_cons_of_mem _ hy')⟩
    · refine wp_if_neg hv ?_
      refine wpAny_bind (isB_quiet x ?_)
      simp only [Bool.not_true, Bool.false_eq_true, if_false]
      refine wpAny_bind (isB_quiet hc ?_)
      simp only [Bool.not_true, Bool.false_eq_true, if_false]
      refine wpAny_bind (isB_noClass x ?_)
      simp only [Bool.false_eq_true, if_false]
      refine wpAny_bind (isB_noClass hc ?_)
      simp only [Bool.false_eq_true, if_false]
      exact wpAny_pure ⟨rfl, rfl, fun y hy' => hall y (List.mem_cons_of_mem _ hy')⟩
  · rintro ⟨r1, r2⟩ s' ⟨hr, rfl, _⟩
    simp only at hr
    subst hr
    exact wpAny_pure h
end
end PL
set_option Elab.async false
set_option linter.all false
set_option maxRecDepth 100000
set_option maxHeartbeats 4000000
namespace PL
open PySem PySem.Spec PyProof.Rows L2
def rowsB (L : List (Addr × List Bool)) : List (Int × Value) := L.map fun p => (hashK p.2, Value.ref p.1)
structure SetB (w : World) (h : Heap) (a : Addr) (L : List (Addr × List Bool)) (es : Array (Int × Value)) (ep : Nat) (t : SetTable) : Prop where
  ob : ∃ o, h.get? a = some o ∧ o.ExactSet ∧ o.data = .set es ep t
  rows : es.toList = rowsB L
  tup : ∀ p ∈ L, IsB h p.2 p.1
  fit : fitB t.led ⟨t, L.map (·.2)⟩ = true
  led : w.params.followText "set-order" = true ∨ t.led = true
section
variable {P : Program} {w : World} {A : Around} {E : Value → Shared → Prop} {s : Shared} {a x : Addr} {k : List Bool} {L : List (Addr × List Bool)} {es : Array (Int × Value)} {ep : Nat} {t : SetTable}
theorem SetB.size (R : SetB w s.heap a L es ep t) : es.size = L.length := by
  have h := congrArg List.length R.rows
  unfold rowsB at h
  rw [Array.length_toList, List.length_map] at h
  exact h
theorem SetB.fits (R : SetB w s.heap a L es ep t) : t.fits es.size = true := by
  have h := R.fit
  have hs := R.size
  simp only [fitB, Bool.and_eq_true, beq_iff_eq, List.length_map, decide_eq_true_eq] at h
  unfold SetTable.fits
  rw [Bool.and_eq_true, beq_iff_eq, decide_eq_true_eq]
  exact ⟨by rw [hs]; exact h.1, h.2.2.2.2.2⟩
theorem SetB.gw (R : SetB w s.heap a L es ep t) : ¬ t.gaveWay = true := by
  have h := R.fit
  simp only [fitB, Bool.and_eq_true, beq_iff_eq] at h
  unfold SetTable.gaveWay
  rw [h.2.2.2.2.1]
  decide
theorem SetB.entry (R : SetB w s.heap a L es ep t) {i : Nat} {p : Addr × List Bool} (h : L[i]? = some p) : es[i]? = some (hashK p.2, Value.ref p.1) := by
  rw [← Array.getElem?_toList, R.rows]
  unfold rowsB
  rw [List.getElem?_map, h] <;> rfl
theorem SetB.hashes (R : SetB w s.heap a L es ep t) : (fun i : Nat => (es[i]?.map Prod.fst).getD (0 : Int)) = fun i : Nat => ((L.map (·.2))[i]?.map hashK).getD 0 := by
  funext i
  rw [← Array.getElem?_toList, R.rows]
  unfold rowsB
  rw [List.getElem?_map, List.getElem?_map]
  cases L[i]? <;> rfl
end
end PL
set_option Elab.async false
set_option linter.all false
set_option maxRecDepth 100000
set_option maxHeartbeats 4000000
namespace PL
open PySem PySem.Spec PyProof.Rows L2
section
variable {P : Program} {w : World} {A : Around} {E : Value → Shared → Prop} {s : Shared} {a x : Addr} {k : List Bool} {L : List (Addr × List Bool)} {es : Array (Int × Value)} {ep : Nat} {t : SetTable}
def foundB : Option Nat → SetFound
  | none => .there none
  | some j => .free j false
theorem seek_ok (R : SetB w s.heap a L es ep t) (hx : IsB s.heap k x) (hu : A.units + 8 < cLine) {r : Option Nat} {Q : SetFound → Shared → Prop} (hq : Q (foundB r) s) :
    ∀ (f g : Nat) (stand : Option SetTable.Probe), seekB t (L.map (·.2)) k f stand = some r → wpAny (model P w) A (setSearchFrom a (.ref x) (hashK k) true (f + g) stand) Q E s
  | 0, _, _, e => by
    unfold seekB at e
    cases e
  | f + 1, g, stand, e => by
    obtain ⟨o, ho, hex, hd⟩ := R.ob
    have hS := fun (Q' : Array (Int × Value) × Nat × SetTable → Shared → Prop) (h : Q' (es, ep, t) s) => wpAny_setState_of (prog := P) (w := w) (A := A) (E := E) ho hd R.fits h
    rw [show f + 1 + g = f + g + 1 by omega, setSearchFrom_succ]
    refine wpAny_bind (hS _ ?_)
    dsimp only
    refine wp_if_neg R.gw ?_
    try refine wpAny_bind (wpAny_pure ?_)
    unfold seekB at e
    have hh := R.hashes
    simp only [hh]
    cases q : t.probe (fun i => ((L.map (·.2))[i]?.map hashK).getD 0) (hashK k) (stand.getD (t.probeStart (hashK k))) with
    | none => rw [q] at e; cases e
    | some met =>
      rw [q] at e
      dsimp only
      cases met with
      | empty j dm =>
        cases dm with
        | some d => cases e
        | none =>
          cases e
          exact wpAny_pure hq
      | candidate j i next =>
        dsimp only at e ⊢
        cases hi : L[i]? with
        | none => rw [List.getElem?_map, hi] at e; cases e
        | some p =>
          rw [List.getElem?_map, hi] at e
          have hmem := List.mem_of_getElem? hi
          have hpt := R.tup p hmem
          have rest : wpAny (model P w) A (searchRest a (.ref x) (hashK k) true (f + g) es t j i next) Q E s := by
            unfold searchRest
            rw [R.entry hi]
            dsimp only
            refine wpAny_bind (wpAny_holding (isB_eq hu hpt hx ?_))
            refine wpAny_bind (hS _ ?_)
            dsimp only
            by_cases hkk : p.2 = k
            · have e2 : (some none : Option (Option Nat)) = some r := by
                simpa [hkk] using e
              cases e2
              refine wp_if_pos (by simp [hkk]) ?_
              exact wpAny_pure hq
            · refine wp_if_neg (by simp [hkk]) ?_
              try refine wpAny_bind (wpAny_pure ?_)
              rw [sameMem]
              dsimp only
              simp only [Option.map_some, hkk, if_false] at e
              cases hsl : t.slot j with
              | empty => rw [hsl] at e; cases e
              | dummy => rw [hsl] at e; cases e
              | live i' =>
                rw [hsl] at e
                by_cases hii : i' = i
                · subst hii
                  simp only [if_true] at e ⊢
                  simp only [hsl, R.entry hi]
                  refine wpAny_bind (wpAny_isSame_ref_self (wpAny_bind (wpAny_pure ?_)))
                  simp only [if_true]
                  refine wp_if_neg (by simp [hkk]) ?_
                  exact seek_ok R hx hu hq f g (some next) e
                · simp only [hii, if_false] at e
                  cases e
          by_cases hl : t.led = true
          · refine wp_if_neg (by simp [hl]) ?_
            try refine wpAny_bind (wpAny_pure ?_)
            exact rest
          · refine wp_if_pos (by simp [hl]) ?_
            refine wpAny_bind (isB_seen hx (fun y hy => ?_) ?_)
            · obtain ⟨e1, he, ee⟩ := List.mem_map.mp hy
              have he1 : e1 ∈ es ∧ e1.1 = hashK k := by simpa using he
              have he2 : e1 ∈ es.toList := by simpa using he1.1
              rw [R.rows] at he2
              obtain ⟨p2, hp2, e3⟩ := List.mem_map.mp he2
              exact ⟨p2.2, p2.1, by rw [← ee, ← e3], R.tup p2 hp2⟩
            · refine wp_if_neg (by decide) ?_
              try refine wpAny_bind (wpAny_pure ?_)
              exact rest
end
end PL
set_option Elab.async false
set_option linter.all false
set_option maxRecDepth 100000
set_option maxHeartbeats 4000000
namespace PL
open PySem PySem.Spec PyProof.Rows L2
section
variable {P : Program} {w : World} {A : Around} {E : Value → Shared → Prop} {s : Shared} {a x : Addr} {k : List Bool} {L : List (Addr × List Bool)} {es : Array (Int × Value)} {ep : Nat} {t : SetTable}
theorem IsB.same {h h' : Heap} {b : Addr} {o : Obj} (y : IsB h k b) (ho : h.get? a = some o) (hd : o.data = .set es ep t) (hs : Heap.SameBut a h h') : IsB h' k b := by
  obtain ⟨o', items, n, h1, h2, h3, h4⟩ := y
  have hne : b ≠ a := by
    rintro rfl
    rw [h1] at ho
    cases ho
    rw [hd] at h3
    cases h3
  exact ⟨o', items, n, (hs.2 b hne).trans h1, h2, h3, h4⟩
theorem rowsB_put (p : Nat) : rowsB (L.take p ++ (x, k) :: L.drop p) = (rowsB L).take p ++ (hashK k, Value.ref x) :: (rowsB L).drop p := by
  unfold rowsB
  rw [List.map_append, List.map_cons, List.map_take, List.map_drop]
theorem pick_rows (hr : es.toList = rowsB L) : ∀ l : List Nat, ∃ L2 : List (Addr × List Bool), l.filterMap (fun i => es[i]?) = rowsB L2 ∧ L2 = l.filterMap (fun i => L[i]?) ∧ L2.map (·.2) = l.filterMap (fun i => (L.map (·.2))[i]?)
  | [] => ⟨[], rfl, rfl, rfl⟩
  | i :: l => by
    obtain ⟨L2, e1, e2, e3⟩ := pick_rows hr l
    have en : es[i]? = (L[i]?).map fun p => (hashK p.2, Value.ref p.1) := by
      rw [← Array.getElem?_toList, hr]
      unfold rowsB
      rw [List.getElem?_map]
    cases hi : L[i]? with
    | none =>
      refine ⟨L2, ?_, ?_, ?_⟩
      · rw [List.filterMap_cons_none (by rw [en, hi]; rfl), e1]
      · rw [List.filterMap_cons_none hi, e2]
      · rw [List.filterMap_cons_none (by rw [List.getElem?_map, hi]; rfl), e3]
    | some p =>
      refine ⟨p :: L2, ?_, ?_, ?_⟩
      · rw [List.filterMap_cons_some (b := (hashK p.2, Value.ref p.1)) (by rw [en, hi]; rfl), e1]; rfl
      · rw [List.filterMap_cons_some hi, e2]
      · rw [List.filterMap_cons_some (b := p.2) (by rw [List.getElem?_map, hi]; rfl), List.map_cons, e3]
end
end PL
set_option Elab.async false
set_option linter.all false
set_option maxRecDepth 100000
set_option maxHeartbeats 4000000
namespace PL
open PySem PySem.Spec PyProof.Rows L2
section
variable {P : Program} {w : World} {A : Around} {E : Value → Shared → Prop} {s : Shared} {a x : Addr} {k : List Bool} {L : List (Addr × List Bool)} {es : Array (Int × Value)} {ep : Nat} {t t' : SetTable} {order : Array Nat}
theorem hashes_arr (hr : es.toList = rowsB L) : es.map (·.1) = ((L.map (·.2)).map hashK).toArray := by
  apply Array.toList_inj.mp
  rw [Array.toList_map, hr]
  unfold rowsB
  simp
theorem relay_ok {o : Obj} (ho : s.heap.get? a = some o) (hd : o.data = .set es ep t) (hr : es.toList = rowsB L) (hf : t.fits es.size = true) {wanted : Nat} (e : t.relaid ((L.map (·.2)).map hashK).toArray wanted = some (t', order))
    (hl : (order.toList.filterMap fun i => (L.map (·.2))[i]?).length = L.length) (h1 : L.length ≤ 1000) (hw : SetTable.sizeAbove wanted ≤ 1000) {Q : Unit → Shared → Prop}
    (hQ : ∀ h' L2 es2, Heap.SameBut a s.heap h' → h'.get? a = some { o with data := .set es2 (ep + 1) t' } → es2.toList = rowsB L2 → L2 = order.toList.filterMap (fun i => L[i]?) → L2.map (·.2) = order.toList.filterMap (fun i => (L.map (·.2))[i]?) → Q () { s with heap := h' }) : wpAny (model P w) A (setRelay a wanted) Q E s := by
  obtain ⟨L2, p1, p2, p3⟩ := pick_rows hr order.toList
  have hsz : es.size = L.length := by
    have h := congrArg List.length hr
    unfold rowsB at h
    rw [Array.length_toList, List.length_map] at h
    exact h
  have hf2 : (order.filterMap (es[·]?)).toList = rowsB L2 := by
    rw [Array.toList_filterMap]
    exact p1
  have h2 : (order.filterMap (es[·]?)).size = es.size := by
    have h := congrArg List.length hf2
    unfold rowsB at h
    rw [Array.length_toList, List.length_map] at h
    rw [h, hsz, ← hl, ← p3, List.length_map]
  rw [setRelay_eq]
  refine wpAny_bind (wpAny_setState_of ho hd hf ?_)
  dsimp only
  refine wp_if_neg (by rw [sizeLine_eq]; omega) ?_
  try refine wpAny_bind (wpAny_pure ?_)
  rw [hashes_arr hr, e]
  dsimp only
  refine wpAny_bind ?_
  refine wp_if_neg (by rw [h2]; simp) ?_
  try refine wpAny_bind (wpAny_pure ?_)
  refine wpAny_pure ?_
  dsimp only
  refine wpAny_storeSet_of ho hd ?_ (by rw [h2, hsz, sizeLine_eq]; omega)
  exact hQ _ L2 _ (Heap.SameBut.update ..) (store_at ho hd) hf2 p2 p3
end
end PL
set_option Elab.async false
set_option linter.all false
set_option maxRecDepth 100000
set_option maxHeartbeats 4000000
namespace PL
open PySem PySem.Spec PyProof.Rows L2
section
variable {P : Program} {w : World} {A : Around} {E : Value → Shared → Prop} {s : Shared} {a x : Addr} {k : List Bool} {L : List (Addr × List Bool)} {es : Array (Int × Value)} {ep : Nat} {t : SetTable}
theorem add_ok (R : SetB w s.heap a L es ep t) (hx : IsB s.heap k x) (hu : A.units + 8 < cLine) (h8 : L.length ≤ 20) {s2 : StB} (e : addB ⟨t, L.map (·.2)⟩ k = some s2) (f2 : fitB s2.t.led s2 = true) (ld : w.params.followText "set-order" = true ∨ s2.t.led = true)
    (hm : L.length + 1 ≤ t.mask) (hl2 : ∀ j, seekB t (L.map (·.2)) k 40 none = some (some j) → s2.ks.length = L.length + 1) (hw : SetTable.sizeAbove (SetTable.grown (L.length + 1)) ≤ 1000) {Q : Bool → Shared → Prop}
    (hQ : ∀ b h' L' es' ep', Heap.SameBut a s.heap h' → SetB w h' a L' es' ep' s2.t → L'.map (·.2) = s2.ks → (∀ p ∈ L', p = (x, k) ∨ p ∈ L) → Q b { s with heap := h' }) : wpAny (model P w) A (setAddHashed a (.ref x) (hashK k)) Q E s := by
  obtain ⟨o, ho, hex, hd⟩ := R.ob
  have hsl := R.size
  unfold setAddHashed
  refine wpAny_holding ?_
  rw [show (100000 : Nat) = 99999 + 1 from rfl, setAddHashedIn_succ]
  refine wpAny_bind (wpAny_setState_of ho hd R.fits ?_)
  dsimp only
  refine wp_if_neg (by simp [byScan, Value.scannable]) ?_
  try refine wpAny_bind (wpAny_pure ?_)
  unfold addB at e
  dsimp only at e
  cases q : seekB t (L.map (·.2)) k 40 none with
  | none => rw [q] at e; cases e
  | some r =>
    rw [q] at e
    have sk := fun Q' h => seek_ok (P := P) (E := E) R hx hu (r := r) (Q := Q') h 40 99960 none q
    unfold setSearch
    cases r with
    | none =>
      cases e
      refine wpAny_bind (sk _ ?_)
      dsimp only [foundB]
      exact wpAny_pure (hQ false s.heap L es ep (Heap.SameBut.refl a s.heap) R rfl fun p hp => .inr hp)
    | some j =>
      refine wpAny_bind (sk _ ?_)
      dsimp only [foundB]
      refine wpAny_bind (wpAny_setState_of ho hd R.fits ?_)
      dsimp only at e ⊢
      have hf0 := R.fit
      simp only [fitB, Bool.and_eq_true, beq_iff_eq] at hf0
      have hp1 : (t.put j).1.plain = true := hf0.2.2.1
      have hled : (t.put j).1.led = t.led := rfl
      have hl2 := hl2 j q
      have hfit : (t.put j).1.fits (L.length + 1) = true := by
        have hd0 : t.dummies = #[] := by
          have := hf0.2.1
          simpa using this
        have hps : (t.put j).1.place.size = L.length + 1 := by
          have h1 : t.place.size = L.length := by simpa using hf0.1
          show (SetTable.insertAt t.place _ j).size = _
          rw [← Array.length_toList, SetTable.toList_insertAt, List.length_append, List.length_cons, List.length_take, List.length_drop, Array.length_toList]
          omega
        have hds : (t.put j).1.dummies = #[] := by
          show (if SetTable.has t.dummies j = true then _ else t.dummies) = #[]
          rw [hd0, L2.has_none]
          rfl
        unfold SetTable.fits SetTable.fill
        rw [hps, hds, Bool.and_eq_true, beq_iff_eq, decide_eq_true_eq]
        exact ⟨rfl, hm⟩
      generalize hpt : t.put j = pt at e hp1 hled hfit ⊢
      obtain ⟨t1, p⟩ := pt
      dsimp only at e hp1 hled hfit ⊢
      first
        | (refine wpAny_bind ?_; refine wp_if_pos hp1 ?_; refine isB_hashBy hx ?_)
        | refine wp_if_pos hp1 (wpAny_bind (isB_hashBy hx ?_))
      simp only [if_true]
      have hin : (SetTable.insertAt es p (hashK k, Value.ref x)).toList = rowsB (L.take p ++ (x, k) :: L.drop p) := by
        rw [SetTable.toList_insertAt, rowsB_put, R.rows]
      have hmem : ∀ y ∈ L.take p ++ (x, k) :: L.drop p, y = (x, k) ∨ y ∈ L := fun y hy => by
        rcases List.mem_append.mp hy with z | z
        · exact .inr (List.mem_of_mem_take z)
        · rcases List.mem_cons.mp z with z | z
          · exact .inl z
          · exact .inr (List.mem_of_mem_drop z)
      have hks : (L.take p ++ (x, k) :: L.drop p).map (·.2) = (L.map (·.2)).take p ++ k :: (L.map (·.2)).drop p := by
        rw [List.map_append, List.map_cons, List.map_take, List.map_drop]
      have hlen : (L.take p ++ (x, k) :: L.drop p).length = L.length + 1 := by
        rw [List.length_append, List.length_cons, List.length_take, List.length_drop]
        omega
      rw [← hks] at e
      generalize SetTable.insertAt es p (hashK k, Value.ref x) = es1 at hin ⊢
      generalize L.take p ++ (x, k) :: L.drop p = L1 at hin hmem hks hlen e
      have hes : es1.size = L.length + 1 := by
        have h := congrArg List.length hin
        unfold rowsB at h
        rw [Array.length_toList, List.length_map, hlen] at h
        exact h
      refine wpAny_bind (wpAny_storeSet_of ho hd ?_ (by rw [hes, sizeLine_eq]; omega))
      have sb : Heap.SameBut a s.heap (s.heap.update a (Obj.putSet es1 t1)) := Heap.SameBut.update ..
      have ho1 := store_at (es' := es1) (t' := t1) ho hd
      generalize s.heap.update a (Obj.putSet es1 t1) = h1 at sb ho1 ⊢
      have tup1 : ∀ y ∈ L1, IsB h1 y.2 y.1 := fun y hy => by
        rcases hmem y hy with z | z
        · rw [z]; exact hx.same ho hd sb
        · exact (R.tup y z).same ho hd sb
      by_cases hf : t1.tooFull = true
      · rw [if_pos hf] at e
        first
          | (refine wpAny_bind ?_; refine wp_if_pos (by simp [hf]) ?_)
          | (refine wp_if_pos (by simp [hf]) ?_; refine wpAny_bind ?_)
        rw [hsl]
        have eg : (L1.map (·.2)).length = L.length + 1 := by rw [List.length_map, hlen]
        rw [eg] at e
        cases er : t1.relaid ((L1.map (·.2)).map hashK).toArray (SetTable.grown (L.length + 1)) with
        | none => rw [er] at e; cases e
        | some to =>
          obtain ⟨t2, order⟩ := to
          rw [er] at e
          cases e
          refine relay_ok (s := { s with heap := h1 }) ho1 rfl hin (by rw [hes]; exact hfit) er (by rw [hlen]; exact hl2) (by omega) hw ?_
          intro h2 L2 es2 sb2 hob hr2 hp2 hk2
          refine wpAny_pure (hQ true h2 L2 es2 _ (sb.trans sb2) ⟨⟨_, hob, ⟨hex.1, hex.2.1, hex.2.2⟩, rfl⟩, hr2, fun y hy => ?_, ?_, ld⟩ hk2 fun y hy => ?_)
          · rw [hp2] at hy
            obtain ⟨i, _, hi⟩ := List.mem_filterMap.mp hy
            exact (tup1 y (List.mem_of_getElem? hi)).same ho1 rfl sb2
          · rw [hk2]; exact f2
          · rw [hp2] at hy
            obtain ⟨i, _, hi⟩ := List.mem_filterMap.mp hy
            exact hmem y (List.mem_of_getElem? hi)
      · rw [if_neg hf] at e
        cases e
        first
          | refine wp_if_neg (by simp [hf]) ?_
          | (refine wpAny_bind ?_; refine wp_if_neg (by simp [hf]) ?_; refine wpAny_pure ?_)
        exact wpAny_pure (hQ true h1 L1 es1 _ sb ⟨⟨_, ho1, ⟨hex.1, hex.2.1, hex.2.2⟩, rfl⟩, hin, tup1, f2, ld⟩ rfl hmem)
end
end PL
set_option Elab.async false
set_option linter.all false
set_option maxRecDepth 100000
set_option maxHeartbeats 4000000
namespace PL
open PySem
abbrev RowB := Nat × List Nat × List Nat × List Nat
def keyB (i : Nat) : List Bool := (keysB 3).getD i []
def mkB (led : Bool) (x : RowB) : StB := ⟨⟨x.1, x.2.1.toArray, #[], 0, led, if x.1 = 7 then 0 else 1, true⟩, x.2.2.1.map keyB⟩
def tabB_0 : List RowB := [(7, [], [], [0, 1, 2, 3, 4, 5, 6, 7])]
def tabB_1 : List RowB := [(7, [2], [0], [0, 0, 1, 2, 3, 4, 5, 6]),
  (7, [4], [1], [0, 1, 7, 8, 9, 10, 11, 12]),
  (7, [6], [2], [1, 7, 2, 13, 14, 15, 16, 17]),
  (7, [7], [3], [2, 8, 13, 3, 18, 19, 20, 21]),
  (7, [0], [4], [3, 9, 14, 18, 4, 22, 23, 24]),
  (7, [2], [5], [25, 10, 15, 19, 22, 5, 26, 27]),
  (7, [4], [6], [5, 28, 16, 20, 23, 26, 6, 29]),
  (7, [5], [7], [6, 12, 17, 21, 24, 27, 29, 7])]
def tabB_2 : List RowB := [(7, [2, 4], [0, 1], [0, 0, 0, 1, 2, 3, 4, 5]),
  (7, [2, 6], [0, 2], [1, 0, 1, 6, 7, 8, 9, 10]),
  (7, [2, 7], [0, 3], [2, 1, 6, 2, 11, 12, 13, 14]),
  (7, [0, 2], [4, 0], [3, 2, 7, 11, 3, 15, 16, 17]),
  (7, [2, 4], [0, 5], [4, 18, 8, 12, 15, 4, 19, 20]),
  (7, [2, 4], [0, 6], [5, 21, 9, 13, 16, 22, 5, 23]),
  (7, [2, 5], [0, 7], [6, 5, 10, 14, 17, 20, 23, 6]),
  (7, [4, 6], [1, 2], [0, 7, 7, 24, 25, 26, 27, 28]),
  (7, [4, 7], [1, 3], [1, 8, 24, 8, 29, 30, 31, 32]),
  (7, [0, 4], [4, 1], [2, 9, 25, 29, 9, 33, 34, 35]),
  (7, [2, 4], [5, 1], [36, 10, 26, 30, 33, 10, 37, 38]),
  (7, [4, 6], [1, 6], [4, 11, 39, 31, 34, 37, 11, 40]),
  (7, [4, 5], [1, 7], [5, 12, 28, 32, 35, 38, 40, 12]),
  (7, [6, 7], [2, 3], [6, 24, 13, 13, 41, 42, 43, 44]),
  (7, [0, 6], [4, 2], [7, 25, 14, 41, 14, 45, 46, 47]),
  (7, [2, 6], [5, 2], [48, 26, 15, 42, 45, 15, 49, 50]),
  (7, [4, 6], [6, 2], [9, 51, 16, 43, 46, 49, 16, 52]),
  (7, [5, 6], [7, 2], [10, 28, 17, 44, 47, 50, 52, 17]),
  (7, [0, 7], [4, 3], [11, 29, 41, 18, 18, 53, 54, 55]),
  (7, [2, 7], [5, 3], [56, 30, 42, 19, 53, 19, 57, 58]),
  (7, [4, 7], [6, 3], [13, 59, 43, 20, 54, 57, 20, 60]),
  (7, [5, 7], [7, 3], [14, 32, 44, 21, 55, 58, 60, 21]),
  (7, [0, 2], [4, 5], [61, 33, 45, 53, 22, 22, 62, 63]),
  (7, [0, 4], [4, 6], [16, 64, 46, 54, 23, 62, 23, 65]),
  (7, [0, 5], [4, 7], [17, 35, 47, 55, 24, 63, 65, 24]),
  (7, [2, 5], [5, 0], [25, 36, 48, 56, 61, 25, 66, 67]),
  (7, [2, 4], [5, 6], [66, 68, 49, 57, 62, 26, 26, 69]),
  (7, [2, 5], [5, 7], [70, 38, 50, 58, 63, 27, 69, 27]),
  (7, [4, 5], [6, 1], [21, 28, 51, 59, 64, 68, 28, 71]),
  (7, [4, 5], [6, 7], [23, 72, 52, 60, 65, 69, 29, 29])]
def tabB_3 : List RowB := [(7, [2, 4, 6], [0, 1, 2], [0, 0, 0, 0, 1, 2, 3, 4]),
  (7, [2, 4, 7], [0, 1, 3], [1, 1, 0, 1, 5, 6, 7, 8]),
  (7, [0, 2, 4], [4, 0, 1], [2, 2, 1, 5, 2, 9, 10, 11]),
  (7, [2, 4, 7], [0, 1, 5], [3, 3, 2, 12, 9, 3, 13, 14]),
  (7, [2, 4, 6], [0, 1, 6], [4, 4, 15, 7, 10, 13, 4, 16]),
  (7, [2, 4, 5], [0, 1, 7], [5, 5, 4, 8, 11, 14, 16, 5]),
  (7, [2, 6, 7], [0, 2, 3], [6, 0, 6, 6, 17, 18, 19, 20]),
  (7, [0, 2, 6], [4, 0, 2], [7, 1, 7, 17, 7, 21, 22, 23]),
  (7, [2, 4, 6], [0, 5, 2], [8, 24, 8, 18, 21, 8, 25, 26]),
  (7, [2, 4, 6], [0, 6, 2], [9, 27, 9, 19, 22, 28, 9, 29]),
  (7, [2, 5, 6], [0, 7, 2], [10, 4, 10, 20, 23, 26, 29, 10]),
  (7, [0, 2, 7], [4, 0, 3], [11, 5, 17, 11, 11, 30, 31, 32]),
  (7, [2, 4, 7], [0, 5, 3], [12, 33, 18, 12, 30, 12, 34, 35]),
  (7, [2, 4, 7], [0, 6, 3], [13, 36, 19, 13, 31, 37, 13, 38]),
  (7, [2, 5, 7], [0, 7, 3], [14, 8, 20, 14, 32, 35, 38, 14]),
  (7, [0, 2, 4], [4, 0, 5], [15, 39, 21, 30, 15, 15, 40, 41]),
  (7, [0, 2, 4], [4, 0, 6], [16, 42, 22, 31, 16, 43, 16, 44]),
  (7, [0, 2, 5], [4, 0, 7], [17, 11, 23, 32, 17, 41, 44, 17]),
  (7, [2, 4, 5], [0, 5, 1], [18, 18, 24, 33, 39, 18, 45, 46]),
  (7, [2, 4, 6], [0, 5, 6], [19, 45, 47, 34, 40, 19, 19, 48]),
  (7, [2, 4, 5], [0, 5, 7], [20, 49, 26, 35, 41, 20, 48, 20]),
  (7, [2, 4, 5], [0, 6, 1], [21, 21, 27, 36, 42, 50, 21, 51]),
  (7, [2, 4, 7], [0, 6, 5], [22, 50, 28, 52, 43, 22, 22, 53]),
  (7, [2, 4, 5], [0, 6, 7], [23, 54, 29, 38, 44, 53, 23, 23]),
  (7, [4, 6, 7], [1, 2, 3], [0, 24, 24, 24, 55, 56, 57, 58]),
  (7, [0, 4, 6], [4, 1, 2], [1, 25, 25, 55, 25, 59, 60, 61]),
  (7, [2, 4, 6], [5, 1, 2], [62, 26, 26, 56, 59, 26, 63, 64]),
  (7, [3, 4, 6], [6, 1, 2], [3, 27, 27, 57, 60, 63, 27, 65]),
  (7, [4, 5, 6], [1, 7, 2], [4, 28, 28, 58, 61, 64, 65, 28]),
  (7, [0, 4, 7], [4, 1, 3], [5, 29, 55, 29, 29, 66, 67, 68]),
  (7, [2, 4, 7], [5, 1, 3], [69, 30, 56, 30, 66, 30, 70, 71]),
  (7, [4, 6, 7], [1, 6, 3], [7, 31, 72, 31, 67, 70, 31, 73]),
  (7, [4, 5, 7], [1, 7, 3], [8, 32, 58, 32, 68, 71, 73, 32]),
  (7, [0, 2, 4], [4, 5, 1], [74, 33, 59, 66, 33, 33, 75, 76]),
  (7, [0, 4, 6], [4, 1, 6], [10, 34, 77, 67, 34, 75, 34, 78]),
  (7, [0, 4, 5], [4, 1, 7], [11, 35, 61, 68, 35, 76, 78, 35]),
  (7, [2, 4, 5], [5, 1, 0], [36, 36, 62, 69, 74, 36, 79, 80]),
  (7, [2, 4, 6], [5, 1, 6], [79, 37, 81, 70, 75, 37, 37, 82]),
  (7, [2, 4, 5], [5, 1, 7], [83, 38, 64, 71, 76, 38, 82, 38]),
  (7, [4, 6, 7], [1, 6, 2], [15, 39, 39, 84, 77, 81, 39, 85]),
  (7, [4, 5, 6], [1, 7, 6], [16, 40, 85, 73, 78, 82, 40, 40]),
  (7, [0, 6, 7], [4, 2, 3], [17, 55, 41, 41, 41, 86, 87, 88]),
  (7, [2, 6, 7], [5, 2, 3], [89, 56, 42, 42, 86, 42, 90, 91]),
  (7, [4, 6, 7], [6, 2, 3], [19, 92, 43, 43, 87, 90, 43, 93]),
  (7, [5, 6, 7], [7, 2, 3], [20, 58, 44, 44, 88, 91, 93, 44]),
  (7, [0, 2, 6], [4, 5, 2], [94, 59, 45, 86, 45, 45, 95, 96]),
  (7, [0, 4, 6], [4, 6, 2], [22, 97, 46, 87, 46, 95, 46, 98]),
  (7, [0, 5, 6], [4, 7, 2], [23, 61, 47, 88, 47, 96, 98, 47]),
  (7, [2, 5, 6], [5, 0, 2], [48, 62, 48, 89, 94, 48, 99, 100]),
  (7, [2, 4, 6], [5, 6, 2], [99, 101, 49, 90, 95, 49, 49, 102]),
  (7, [2, 5, 6], [5, 7, 2], [103, 64, 50, 91, 96, 50, 102, 50]),
  (7, [4, 5, 6], [6, 1, 2], [27, 51, 51, 92, 97, 101, 51, 104]),
  (7, [4, 5, 6], [6, 7, 2], [29, 105, 52, 93, 98, 102, 52, 52]),
  (7, [0, 2, 7], [4, 5, 3], [106, 66, 86, 53, 53, 53, 107, 108]),
  (7, [0, 4, 7], [4, 6, 3], [31, 109, 87, 54, 54, 107, 54, 110]),
  (7, [0, 5, 7], [4, 7, 3], [32, 68, 88, 55, 55, 108, 110, 55]),
  (7, [2, 5, 7], [5, 0, 3], [56, 69, 89, 56, 106, 56, 111, 112]),
  (7, [2, 4, 7], [5, 6, 3], [111, 113, 90, 57, 107, 57, 57, 114]),
  (7, [2, 5, 7], [5, 7, 3], [115, 71, 91, 58, 108, 58, 114, 58]),
  (7, [4, 5, 7], [6, 1, 3], [36, 59, 92, 59, 109, 113, 59, 116]),
  (7, [4, 5, 7], [6, 7, 3], [38, 117, 93, 60, 110, 114, 60, 60]),
  (7, [0, 2, 5], [4, 5, 0], [61, 74, 94, 106, 61, 61, 118, 119]),
  (7, [0, 2, 4], [4, 5, 6], [118, 120, 95, 107, 62, 62, 62, 121]),
  (7, [0, 2, 5], [4, 5, 7], [122, 76, 96, 108, 63, 63, 121, 63]),
  (7, [0, 4, 5], [4, 6, 1], [42, 64, 97, 109, 64, 120, 64, 123]),
  (7, [0, 4, 5], [4, 6, 7], [44, 124, 98, 110, 65, 121, 65, 65]),
  (7, [2, 4, 5], [5, 6, 0], [66, 125, 99, 111, 118, 66, 66, 126]),
  (7, [2, 3, 5], [5, 7, 0], [67, 80, 100, 112, 119, 67, 126, 67]),
  (7, [2, 4, 5], [5, 6, 1], [127, 68, 101, 113, 120, 68, 68, 128]),
  (7, [2, 4, 5], [5, 6, 7], [129, 130, 102, 114, 121, 69, 69, 69]),
  (7, [2, 3, 5], [5, 0, 7], [70, 83, 103, 115, 122, 70, 129, 70]),
  (7, [3, 4, 5], [7, 6, 1], [51, 71, 104, 116, 123, 128, 71, 71]),
  (7, [2, 4, 5], [1, 6, 7], [131, 72, 105, 117, 124, 132, 72, 72])]
def tabB_4 : List RowB := [(7, [2, 4, 6, 7], [0, 1, 2, 3], [0, 0, 0, 0, 0, 1, 2, 3]),
  (7, [0, 2, 4, 6], [4, 0, 1, 2], [1, 1, 1, 0, 1, 4, 5, 6]),
  (7, [2, 4, 6, 7], [0, 1, 2, 5], [2, 2, 2, 1, 4, 2, 7, 8]),
  (7, [2, 3, 4, 6], [0, 6, 1, 2], [3, 3, 3, 2, 5, 7, 3, 9]),
  (7, [2, 4, 5, 6], [0, 1, 7, 2], [4, 4, 4, 3, 6, 8, 9, 4]),
  (7, [0, 2, 4, 7], [4, 0, 1, 3], [5, 5, 0, 5, 5, 10, 11, 12]),
  (7, [2, 4, 6, 7], [0, 1, 5, 3], [6, 6, 1, 6, 10, 6, 13, 14]),
  (7, [2, 4, 6, 7], [0, 1, 6, 3], [7, 7, 2, 7, 11, 13, 7, 15]),
  (7, [2, 4, 5, 7], [0, 1, 7, 3], [8, 8, 3, 8, 12, 14, 15, 8]),
  (7, [0, 2, 4, 7], [4, 0, 1, 5], [9, 9, 4, 10, 9, 9, 16, 17]),
  (7, [0, 2, 4, 6], [4, 0, 1, 6], [10, 10, 5, 11, 10, 16, 10, 18]),
  (7, [0, 2, 4, 5], [4, 0, 1, 7], [11, 11, 6, 12, 11, 17, 18, 11]),
  (7, [2, 4, 6, 7], [0, 1, 3, 5], [12, 12, 1, 12, 10, 12, 13, 14]),
  (7, [2, 4, 6, 7], [0, 1, 6, 5], [13, 13, 7, 13, 16, 13, 13, 19]),
  (7, [2, 4, 5, 7], [0, 1, 7, 5], [14, 14, 8, 14, 17, 14, 19, 14]),
  (7, [2, 4, 6, 7], [0, 1, 6, 2], [15, 15, 15, 2, 5, 7, 15, 9]),
  (7, [2, 4, 5, 6], [0, 1, 7, 6], [16, 16, 9, 15, 18, 19, 16, 16]),
  (7, [0, 2, 6, 7], [4, 0, 2, 3], [17, 0, 17, 17, 17, 20, 21, 22]),
  (7, [2, 4, 6, 7], [0, 5, 2, 3], [18, 1, 18, 18, 20, 18, 23, 24]),
  (7, [2, 4, 6, 7], [0, 6, 2, 3], [19, 2, 19, 19, 21, 23, 19, 25]),
  (7, [2, 5, 6, 7], [0, 7, 2, 3], [20, 3, 20, 20, 22, 24, 25, 20]),
  (7, [0, 2, 4, 6], [4, 0, 5, 2], [21, 4, 21, 20, 21, 21, 26, 27]),
  (7, [0, 2, 4, 6], [4, 0, 6, 2], [22, 5, 22, 21, 22, 26, 22, 28]),
  (7, [0, 2, 5, 6], [4, 0, 7, 2], [23, 6, 23, 22, 23, 27, 28, 23]),
  (7, [2, 4, 5, 6], [0, 5, 1, 2], [24, 24, 24, 1, 4, 24, 7, 8]),
  (7, [2, 3, 4, 6], [0, 6, 5, 2], [25, 7, 25, 23, 26, 25, 25, 29]),
  (7, [2, 4, 5, 6], [0, 5, 7, 2], [26, 8, 26, 24, 27, 26, 29, 26]),
  (7, [2, 4, 5, 6], [0, 6, 1, 2], [27, 27, 27, 2, 5, 7, 27, 9]),
  (7, [2, 4, 6, 7], [0, 6, 2, 5], [28, 7, 28, 23, 26, 28, 28, 29]),
  (7, [2, 4, 5, 6], [0, 6, 7, 2], [29, 9, 29, 25, 28, 29, 29, 29]),
  (7, [0, 2, 4, 7], [4, 0, 5, 3], [30, 10, 20, 30, 30, 30, 30, 31]),
  (7, [0, 2, 4, 7], [4, 0, 6, 3], [31, 11, 21, 31, 31, 30, 31, 32]),
  (7, [0, 2, 5, 7], [4, 0, 7, 3], [32, 12, 22, 32, 32, 31, 32, 32]),
  (7, [2, 4, 5, 7], [0, 5, 1, 3], [33, 33, 1, 33, 10, 33, 13, 14]),
  (7, [2, 4, 6, 7], [0, 5, 6, 3], [34, 13, 23, 34, 30, 34, 34, 33]),
  (7, [2, 4, 5, 7], [0, 5, 7, 3], [35, 14, 24, 35, 31, 35, 33, 35]),
  (7, [2, 4, 5, 7], [0, 6, 1, 3], [36, 36, 2, 36, 11, 13, 36, 15]),
  (7, [2, 4, 6, 7], [0, 6, 5, 3], [37, 13, 23, 37, 30, 37, 37, 33]),
  (7, [2, 4, 5, 7], [0, 6, 7, 3], [38, 15, 25, 38, 32, 33, 38, 38]),
  (7, [0, 2, 4, 5], [4, 0, 5, 1], [39, 39, 4, 10, 39, 39, 16, 17]),
  (7, [0, 2, 4, 6], [4, 0, 5, 6], [40, 16, 26, 30, 40, 40, 40, 34]),
  (7, [0, 2, 4, 5], [4, 0, 5, 7], [41, 17, 27, 31, 41, 41, 34, 41]),
  (7, [0, 2, 4, 5], [4, 0, 6, 1], [42, 42, 5, 11, 42, 16, 42, 18]),
  (7, [0, 2, 4, 7], [4, 0, 6, 5], [43, 16, 26, 30, 43, 43, 43, 34]),
  (7, [0, 2, 4, 5], [4, 0, 6, 7], [44, 18, 28, 32, 44, 34, 44, 44]),
  (7, [2, 4, 5, 6], [0, 5, 1, 6], [45, 45, 7, 13, 16, 45, 45, 19]),
  (7, [2, 3, 4, 5], [0, 7, 5, 1], [46, 46, 8, 14, 17, 46, 19, 46]),
  (7, [2, 4, 6, 7], [0, 5, 6, 2], [47, 7, 47, 23, 26, 47, 47, 29]),
  (7, [2, 4, 5, 6], [0, 5, 7, 6], [48, 19, 29, 33, 34, 48, 48, 48]),
  (7, [2, 3, 4, 5], [0, 1, 5, 7], [49, 49, 8, 14, 17, 49, 19, 49]),
  (7, [2, 4, 5, 7], [0, 6, 1, 5], [50, 50, 7, 13, 16, 50, 50, 19]),
  (7, [2, 3, 4, 5], [0, 7, 6, 1], [51, 51, 9, 15, 18, 19, 51, 51]),
  (7, [2, 4, 6, 7], [0, 6, 3, 5], [52, 13, 23, 52, 30, 52, 52, 33]),
  (7, [2, 4, 5, 7], [0, 6, 7, 5], [53, 19, 29, 33, 34, 53, 53, 53]),
  (7, [2, 3, 4, 5], [0, 1, 6, 7], [54, 54, 9, 15, 18, 19, 54, 54]),
  (7, [0, 4, 6, 7], [4, 1, 2, 3], [0, 55, 55, 55, 55, 35, 36, 37]),
  (7, [2, 4, 6, 7], [5, 1, 2, 3], [1, 56, 56, 56, 35, 56, 38, 39]),
  (7, [3, 4, 6, 7], [6, 1, 2, 3], [2, 57, 57, 57, 36, 38, 57, 40]),
  (7, [4, 5, 6, 7], [1, 7, 2, 3], [3, 58, 58, 58, 37, 39, 40, 58]),
  (7, [0, 2, 4, 6], [4, 5, 1, 2], [4, 59, 59, 35, 59, 59, 41, 42]),
  (7, [0, 3, 4, 6], [4, 6, 1, 2], [5, 60, 60, 36, 60, 41, 60, 43]),
  (7, [0, 4, 5, 6], [4, 1, 7, 2], [6, 61, 61, 37, 61, 42, 43, 61]),
  (7, [2, 4, 5, 6], [5, 1, 0, 2], [62, 62, 62, 1, 4, 62, 7, 8]),
  (7, [2, 3, 4, 6], [5, 6, 1, 2], [7, 63, 63, 38, 41, 63, 63, 44]),
  (7, [2, 4, 5, 6], [5, 1, 7, 2], [8, 64, 64, 39, 42, 64, 44, 64]),
  (7, [3, 4, 5, 6], [6, 1, 7, 2], [9, 65, 65, 40, 43, 44, 65, 65]),
  (7, [0, 2, 4, 7], [4, 5, 1, 3], [10, 66, 35, 66, 66, 66, 45, 46]),
  (7, [0, 4, 6, 7], [4, 1, 6, 3], [11, 67, 36, 67, 67, 45, 67, 47]),
  (7, [0, 4, 5, 7], [4, 1, 7, 3], [12, 68, 37, 68, 68, 46, 47, 68]),
  (7, [2, 4, 5, 7], [5, 1, 0, 3], [69, 69, 1, 69, 10, 69, 13, 14]),
  (7, [2, 4, 6, 7], [5, 1, 6, 3], [13, 70, 38, 70, 45, 70, 70, 48]),
  (7, [2, 4, 5, 7], [5, 1, 7, 3], [14, 71, 39, 71, 46, 71, 48, 71]),
  (7, [3, 4, 6, 7], [2, 1, 6, 3], [2, 72, 72, 72, 36, 38, 72, 40]),
  (7, [4, 5, 6, 7], [1, 7, 6, 3], [15, 73, 40, 73, 47, 48, 73, 73]),
  (7, [0, 2, 4, 5], [4, 5, 1, 0], [74, 74, 4, 10, 74, 74, 16, 17]),
  (7, [0, 2, 4, 6], [4, 5, 1, 6], [16, 75, 41, 45, 75, 75, 75, 49]),
  (7, [0, 2, 4, 5], [4, 5, 1, 7], [17, 76, 42, 46, 76, 76, 49, 76]),
  (7, [0, 4, 6, 7], [4, 1, 6, 2], [5, 77, 77, 36, 77, 41, 77, 43]),
  (7, [0, 4, 5, 6], [4, 1, 7, 6], [18, 78, 43, 47, 78, 49, 78, 78]),
  (7, [2, 4, 5, 6], [5, 1, 0, 6], [79, 79, 7, 13, 16, 79, 79, 19]),
  (7, [2, 3, 4, 5], [5, 7, 1, 0], [80, 80, 8, 14, 17, 80, 19, 80]),
  (7, [2, 4, 6, 7], [5, 1, 6, 2], [7, 81, 81, 38, 41, 81, 81, 44]),
  (7, [2, 4, 5, 6], [5, 1, 7, 6], [19, 82, 44, 48, 49, 82, 82, 82]),
  (7, [2, 3, 4, 5], [5, 0, 1, 7], [83, 83, 8, 14, 17, 83, 19, 83]),
  (7, [0, 4, 6, 7], [3, 1, 6, 2], [2, 84, 84, 84, 36, 38, 84, 40]),
  (7, [4, 5, 6, 7], [1, 7, 6, 2], [9, 85, 85, 40, 43, 44, 85, 85]),
  (7, [0, 2, 6, 7], [4, 5, 2, 3], [20, 35, 86, 86, 86, 86, 50, 51]),
  (7, [0, 4, 6, 7], [4, 6, 2, 3], [21, 36, 87, 87, 87, 50, 87, 52]),
  (7, [0, 5, 6, 7], [4, 7, 2, 3], [22, 37, 88, 88, 88, 51, 52, 88]),
  (7, [2, 5, 6, 7], [5, 0, 2, 3], [89, 1, 89, 89, 20, 89, 23, 24]),
  (7, [2, 4, 6, 7], [5, 6, 2, 3], [23, 38, 90, 90, 50, 90, 90, 53]),
  (7, [2, 5, 6, 7], [5, 7, 2, 3], [24, 39, 91, 91, 51, 91, 53, 91]),
  (7, [4, 5, 6, 7], [6, 1, 2, 3], [2, 92, 92, 92, 36, 38, 92, 40]),
  (7, [4, 5, 6, 7], [6, 7, 2, 3], [25, 40, 93, 93, 52, 53, 93, 93]),
  (7, [0, 2, 5, 6], [4, 5, 0, 2], [94, 4, 94, 20, 94, 94, 26, 27]),
  (7, [0, 2, 4, 6], [4, 5, 6, 2], [26, 41, 95, 50, 95, 95, 95, 54]),
  (7, [0, 2, 5, 6], [4, 5, 7, 2], [27, 42, 96, 51, 96, 96, 54, 96]),
  (7, [0, 4, 5, 6], [4, 6, 1, 2], [5, 97, 97, 36, 97, 41, 97, 43]),
  (7, [0, 4, 5, 6], [4, 6, 7, 2], [28, 43, 98, 52, 98, 54, 98, 98]),
  (7, [2, 4, 5, 6], [5, 6, 0, 2], [99, 7, 99, 23, 26, 99, 99, 29]),
  (7, [2, 3, 5, 6], [5, 7, 0, 2], [100, 8, 100, 24, 27, 100, 29, 100]),
  (7, [2, 4, 5, 6], [5, 6, 1, 2], [7, 101, 101, 38, 41, 101, 101, 44]),
  (7, [2, 4, 5, 6], [5, 6, 7, 2], [29, 44, 102, 53, 54, 102, 102, 102]),
  (7, [2, 3, 5, 6], [5, 0, 7, 2], [103, 8, 103, 24, 27, 103, 29, 103]),
  (7, [3, 4, 5, 6], [7, 6, 1, 2], [9, 104, 104, 40, 43, 44, 104, 104]),
  (7, [2, 4, 5, 6], [1, 6, 7, 2], [9, 105, 105, 40, 43, 44, 105, 105]),
  (7, [0, 2, 5, 7], [4, 5, 0, 3], [106, 10, 20, 106, 106, 106, 30, 31]),
  (7, [0, 2, 4, 7], [4, 5, 6, 3], [30, 45, 50, 107, 107, 107, 107, 55]),
  (7, [0, 2, 5, 7], [4, 5, 7, 3], [31, 46, 51, 108, 108, 108, 55, 108]),
  (7, [0, 4, 5, 7], [4, 6, 1, 3], [11, 109, 36, 109, 109, 45, 109, 47]),
  (7, [0, 4, 5, 7], [4, 6, 7, 3], [32, 47, 52, 110, 110, 55, 110, 110]),
  (7, [2, 4, 5, 7], [5, 6, 0, 3], [111, 13, 23, 111, 30, 111, 111, 33]),
  (7, [2, 3, 5, 7], [5, 7, 0, 3], [112, 14, 24, 112, 31, 112, 33, 112]),
  (7, [2, 4, 5, 7], [5, 6, 1, 3], [13, 113, 38, 113, 45, 113, 113, 48]),
  (7, [2, 4, 5, 7], [5, 6, 7, 3], [33, 48, 53, 114, 55, 114, 114, 114]),
  (7, [2, 3, 5, 7], [5, 0, 7, 3], [115, 14, 24, 115, 31, 115, 33, 115]),
  (7, [3, 4, 5, 7], [7, 6, 1, 3], [15, 116, 40, 116, 47, 48, 116, 116]),
  (7, [2, 4, 5, 7], [1, 6, 7, 3], [15, 117, 40, 117, 47, 48, 117, 117]),
  (7, [0, 2, 4, 5], [4, 5, 6, 0], [118, 16, 26, 30, 118, 118, 118, 34]),
  (7, [0, 2, 3, 5], [4, 5, 7, 0], [119, 17, 27, 31, 119, 119, 34, 119]),
  (7, [0, 2, 4, 5], [4, 5, 6, 1], [16, 120, 41, 45, 120, 120, 120, 49]),
  (7, [0, 2, 4, 5], [4, 5, 6, 7], [34, 49, 54, 55, 121, 121, 121, 121]),
  (7, [0, 2, 3, 5], [4, 5, 0, 7], [122, 17, 27, 31, 122, 122, 34, 122]),
  (7, [0, 3, 4, 5], [4, 7, 6, 1], [18, 123, 43, 47, 123, 49, 123, 123]),
  (7, [0, 2, 4, 5], [4, 1, 6, 7], [18, 124, 43, 47, 124, 49, 124, 124]),
  (7, [2, 3, 4, 5], [5, 1, 6, 0], [125, 125, 7, 13, 16, 125, 125, 19]),
  (7, [2, 3, 4, 5], [5, 7, 6, 0], [126, 19, 29, 33, 34, 126, 126, 126]),
  (7, [2, 3, 4, 5], [5, 0, 6, 1], [127, 127, 7, 13, 16, 127, 127, 19]),
  (7, [2, 3, 4, 5], [5, 7, 6, 1], [19, 128, 44, 48, 49, 128, 128, 128]),
  (7, [2, 3, 4, 5], [5, 0, 6, 7], [129, 19, 29, 33, 34, 129, 129, 129]),
  (7, [2, 3, 4, 5], [5, 1, 6, 7], [19, 130, 44, 48, 49, 130, 130, 130]),
  (7, [2, 3, 4, 5], [1, 0, 6, 7], [131, 131, 9, 15, 18, 19, 131, 131]),
  (7, [2, 4, 5, 7], [1, 6, 7, 5], [19, 132, 44, 48, 49, 132, 132, 132])]
def tabB_5 : List RowB := [(31, [6, 10, 16, 28, 31], [2, 0, 4, 1, 3], [0, 0, 0, 0, 0, 0, 1, 2]),
  (31, [2, 6, 10, 28, 31], [5, 2, 0, 1, 3], [1, 1, 1, 1, 0, 1, 3, 4]),
  (31, [4, 6, 10, 28, 31], [6, 2, 0, 1, 3], [2, 2, 2, 2, 1, 3, 2, 5]),
  (31, [6, 10, 28, 29, 31], [2, 0, 1, 7, 3], [3, 3, 3, 3, 2, 4, 5, 3]),
  (31, [2, 6, 10, 16, 28], [5, 2, 0, 4, 1], [4, 4, 4, 0, 4, 4, 6, 7]),
  (31, [4, 6, 10, 16, 28], [6, 2, 0, 4, 1], [5, 5, 5, 1, 5, 6, 5, 8]),
  (31, [6, 10, 16, 28, 29], [2, 0, 4, 1, 7], [6, 6, 6, 2, 6, 7, 8, 6]),
  (31, [2, 4, 6, 10, 28], [5, 6, 2, 0, 1], [7, 7, 7, 3, 6, 7, 7, 9]),
  (31, [2, 6, 10, 28, 29], [5, 2, 0, 1, 7], [8, 8, 8, 4, 7, 8, 9, 8]),
  (31, [4, 6, 10, 28, 29], [6, 2, 0, 1, 7], [9, 9, 9, 5, 8, 9, 9, 9]),
  (31, [2, 10, 16, 28, 31], [5, 0, 4, 1, 3], [10, 10, 0, 10, 10, 10, 10, 11]),
  (31, [4, 10, 16, 28, 31], [6, 0, 4, 1, 3], [11, 11, 1, 11, 11, 10, 11, 12]),
  (31, [10, 16, 28, 29, 31], [0, 4, 1, 7, 3], [12, 12, 2, 12, 12, 11, 12, 12]),
  (31, [2, 4, 10, 28, 31], [5, 6, 0, 1, 3], [13, 13, 3, 13, 10, 13, 13, 13]),
  (31, [2, 10, 28, 29, 31], [5, 0, 1, 7, 3], [14, 14, 4, 14, 11, 14, 13, 14]),
  (31, [4, 10, 28, 29, 31], [6, 0, 1, 7, 3], [15, 15, 5, 15, 12, 13, 15, 15]),
  (31, [2, 4, 10, 16, 28], [5, 6, 0, 4, 1], [16, 16, 6, 10, 16, 16, 16, 14]),
  (31, [2, 10, 16, 28, 29], [5, 0, 4, 1, 7], [17, 17, 7, 11, 17, 17, 14, 17]),
  (31, [4, 10, 16, 28, 29], [6, 0, 4, 1, 7], [18, 18, 8, 12, 18, 14, 18, 18]),
  (31, [2, 4, 10, 28, 29], [5, 6, 0, 1, 7], [19, 19, 9, 13, 14, 19, 19, 19]),
  (31, [2, 6, 10, 16, 31], [5, 2, 0, 4, 3], [20, 0, 20, 20, 20, 20, 15, 16]),
  (31, [4, 6, 10, 16, 31], [6, 2, 0, 4, 3], [21, 1, 21, 21, 21, 15, 21, 17]),
  (31, [6, 10, 16, 29, 31], [2, 0, 4, 7, 3], [22, 2, 22, 22, 22, 16, 17, 22]),
  (31, [2, 4, 6, 10, 31], [5, 6, 2, 0, 3], [23, 3, 23, 23, 15, 23, 23, 18]),
  (31, [2, 6, 10, 29, 31], [5, 2, 0, 7, 3], [24, 4, 24, 24, 16, 24, 18, 24]),
  (31, [4, 6, 10, 29, 31], [6, 2, 0, 7, 3], [25, 5, 25, 25, 17, 18, 25, 25]),
  (31, [2, 4, 6, 10, 16], [5, 6, 2, 0, 4], [26, 6, 26, 15, 26, 26, 26, 19]),
  (31, [2, 6, 10, 16, 29], [5, 2, 0, 4, 7], [27, 7, 27, 16, 27, 27, 19, 27]),
  (31, [4, 6, 10, 16, 29], [6, 2, 0, 4, 7], [28, 8, 28, 17, 28, 19, 28, 28]),
  (31, [2, 4, 6, 10, 29], [5, 6, 2, 0, 7], [29, 9, 29, 18, 19, 29, 29, 29]),
  (31, [2, 4, 10, 16, 31], [5, 6, 0, 4, 3], [30, 10, 15, 30, 30, 30, 30, 20]),
  (31, [2, 10, 16, 29, 31], [5, 0, 4, 7, 3], [31, 11, 16, 31, 31, 31, 20, 31]),
  (31, [4, 10, 16, 29, 31], [6, 0, 4, 7, 3], [32, 12, 17, 32, 32, 20, 32, 32]),
  (31, [2, 4, 10, 29, 31], [5, 6, 0, 7, 3], [33, 13, 18, 33, 20, 33, 33, 33]),
  (31, [2, 4, 10, 16, 29], [5, 6, 0, 4, 7], [34, 14, 19, 20, 34, 34, 34, 34]),
  (31, [2, 6, 16, 28, 31], [5, 2, 4, 1, 3], [0, 35, 35, 35, 35, 35, 21, 22]),
  (31, [4, 6, 16, 28, 31], [6, 2, 4, 1, 3], [1, 36, 36, 36, 36, 21, 36, 23]),
  (31, [6, 16, 28, 29, 31], [2, 4, 1, 7, 3], [2, 37, 37, 37, 37, 22, 23, 37]),
  (31, [2, 4, 6, 28, 31], [5, 6, 2, 1, 3], [3, 38, 38, 38, 21, 38, 38, 24]),
  (31, [2, 6, 28, 29, 31], [5, 2, 1, 7, 3], [4, 39, 39, 39, 22, 39, 24, 39]),
  (31, [4, 6, 28, 29, 31], [6, 2, 1, 7, 3], [5, 40, 40, 40, 23, 24, 40, 40]),
  (31, [2, 4, 6, 16, 28], [5, 6, 2, 4, 1], [6, 41, 41, 21, 41, 41, 41, 25]),
  (31, [2, 6, 16, 28, 29], [5, 2, 4, 1, 7], [7, 42, 42, 22, 42, 42, 25, 42]),
  (31, [4, 6, 16, 28, 29], [6, 2, 4, 1, 7], [8, 43, 43, 23, 43, 25, 43, 43]),
  (31, [2, 4, 6, 28, 29], [5, 6, 2, 1, 7], [9, 44, 44, 24, 25, 44, 44, 44]),
  (31, [2, 4, 16, 28, 31], [5, 6, 4, 1, 3], [10, 45, 21, 45, 45, 45, 45, 26]),
  (31, [2, 16, 28, 29, 31], [5, 4, 1, 7, 3], [11, 46, 22, 46, 46, 46, 26, 46]),
  (31, [4, 16, 28, 29, 31], [6, 4, 1, 7, 3], [12, 47, 23, 47, 47, 26, 47, 47]),
  (31, [2, 4, 28, 29, 31], [5, 6, 1, 7, 3], [13, 48, 24, 48, 26, 48, 48, 48]),
  (31, [2, 4, 16, 28, 29], [5, 6, 4, 1, 7], [14, 49, 25, 26, 49, 49, 49, 49]),
  (31, [2, 4, 6, 16, 31], [5, 6, 2, 4, 3], [15, 21, 50, 50, 50, 50, 50, 27]),
  (31, [2, 6, 16, 29, 31], [5, 2, 4, 7, 3], [16, 22, 51, 51, 51, 51, 27, 51]),
  (31, [4, 6, 16, 29, 31], [6, 2, 4, 7, 3], [17, 23, 52, 52, 52, 27, 52, 52]),
  (31, [2, 4, 6, 29, 31], [5, 6, 2, 7, 3], [18, 24, 53, 53, 27, 53, 53, 53]),
  (31, [2, 4, 6, 16, 29], [5, 6, 2, 4, 7], [19, 25, 54, 27, 54, 54, 54, 54]),
  (31, [2, 4, 16, 29, 31], [5, 6, 4, 7, 3], [20, 26, 27, 55, 55, 55, 55, 55])]
def tabB_6 : List RowB := [(31, [2, 6, 10, 16, 28, 31], [5, 2, 0, 4, 1, 3], [0, 0, 0, 0, 0, 0, 0, 1]),
  (31, [4, 6, 10, 16, 28, 31], [6, 2, 0, 4, 1, 3], [1, 1, 1, 1, 1, 0, 1, 2]),
  (31, [6, 10, 16, 28, 29, 31], [2, 0, 4, 1, 7, 3], [2, 2, 2, 2, 2, 1, 2, 2]),
  (31, [2, 4, 6, 10, 28, 31], [5, 6, 2, 0, 1, 3], [3, 3, 3, 3, 0, 3, 3, 3]),
  (31, [2, 6, 10, 28, 29, 31], [5, 2, 0, 1, 7, 3], [4, 4, 4, 4, 1, 4, 3, 4]),
  (31, [4, 6, 10, 28, 29, 31], [6, 2, 0, 1, 7, 3], [5, 5, 5, 5, 2, 3, 5, 5]),
  (31, [2, 4, 6, 10, 16, 28], [5, 6, 2, 0, 4, 1], [6, 6, 6, 0, 6, 6, 6, 4]),
  (31, [2, 6, 10, 16, 28, 29], [5, 2, 0, 4, 1, 7], [7, 7, 7, 1, 7, 7, 4, 7]),
  (31, [4, 6, 10, 16, 28, 29], [6, 2, 0, 4, 1, 7], [8, 8, 8, 2, 8, 4, 8, 8]),
  (31, [2, 4, 6, 10, 28, 29], [5, 6, 2, 0, 1, 7], [9, 9, 9, 3, 4, 9, 9, 9]),
  (31, [2, 4, 10, 16, 28, 31], [5, 6, 0, 4, 1, 3], [10, 10, 0, 10, 10, 10, 10, 5]),
  (31, [2, 10, 16, 28, 29, 31], [5, 0, 4, 1, 7, 3], [11, 11, 1, 11, 11, 11, 5, 11]),
  (31, [4, 10, 16, 28, 29, 31], [6, 0, 4, 1, 7, 3], [12, 12, 2, 12, 12, 5, 12, 12]),
  (31, [2, 4, 10, 28, 29, 31], [5, 6, 0, 1, 7, 3], [13, 13, 3, 13, 5, 13, 13, 13]),
  (31, [2, 4, 10, 16, 28, 29], [5, 6, 0, 4, 1, 7], [14, 14, 4, 5, 14, 14, 14, 14]),
  (31, [2, 4, 6, 10, 16, 31], [5, 6, 2, 0, 4, 3], [15, 0, 15, 15, 15, 15, 15, 6]),
  (31, [2, 6, 10, 16, 29, 31], [5, 2, 0, 4, 7, 3], [16, 1, 16, 16, 16, 16, 6, 16]),
  (31, [4, 6, 10, 16, 29, 31], [6, 2, 0, 4, 7, 3], [17, 2, 17, 17, 17, 6, 17, 17]),
  (31, [2, 4, 6, 10, 29, 31], [5, 6, 2, 0, 7, 3], [18, 3, 18, 18, 6, 18, 18, 18]),
  (31, [2, 4, 6, 10, 16, 29], [5, 6, 2, 0, 4, 7], [19, 4, 19, 6, 19, 19, 19, 19]),
  (31, [2, 4, 10, 16, 29, 31], [5, 6, 0, 4, 7, 3], [20, 5, 6, 20, 20, 20, 20, 20]),
  (31, [2, 4, 6, 16, 28, 31], [5, 6, 2, 4, 1, 3], [0, 21, 21, 21, 21, 21, 21, 7]),
  (31, [2, 6, 16, 28, 29, 31], [5, 2, 4, 1, 7, 3], [1, 22, 22, 22, 22, 22, 7, 22]),
  (31, [4, 6, 16, 28, 29, 31], [6, 2, 4, 1, 7, 3], [2, 23, 23, 23, 23, 7, 23, 23]),
  (31, [2, 4, 6, 28, 29, 31], [5, 6, 2, 1, 7, 3], [3, 24, 24, 24, 7, 24, 24, 24]),
  (31, [2, 4, 6, 16, 28, 29], [5, 6, 2, 4, 1, 7], [4, 25, 25, 7, 25, 25, 25, 25]),
  (31, [2, 4, 16, 28, 29, 31], [5, 6, 4, 1, 7, 3], [5, 26, 7, 26, 26, 26, 26, 26]),
  (31, [2, 4, 6, 16, 29, 31], [5, 6, 2, 4, 7, 3], [6, 7, 27, 27, 27, 27, 27, 27])]
def tabB_7 : List RowB := [(31, [2, 4, 6, 10, 16, 28, 31], [5, 6, 2, 0, 4, 1, 3], [0, 0, 0, 0, 0, 0, 0, 0]),
  (31, [2, 6, 10, 16, 28, 29, 31], [5, 2, 0, 4, 1, 7, 3], [1, 1, 1, 1, 1, 1, 0, 1]),
  (31, [4, 6, 10, 16, 28, 29, 31], [6, 2, 0, 4, 1, 7, 3], [2, 2, 2, 2, 2, 0, 2, 2]),
  (31, [2, 4, 6, 10, 28, 29, 31], [5, 6, 2, 0, 1, 7, 3], [3, 3, 3, 3, 0, 3, 3, 3]),
  (31, [2, 4, 6, 10, 16, 28, 29], [5, 6, 2, 0, 4, 1, 7], [4, 4, 4, 0, 4, 4, 4, 4]),
  (31, [2, 4, 10, 16, 28, 29, 31], [5, 6, 0, 4, 1, 7, 3], [5, 5, 0, 5, 5, 5, 5, 5]),
  (31, [2, 4, 6, 10, 16, 29, 31], [5, 6, 2, 0, 4, 7, 3], [6, 0, 6, 6, 6, 6, 6, 6]),
  (31, [2, 4, 6, 16, 28, 29, 31], [5, 6, 2, 4, 1, 7, 3], [0, 7, 7, 7, 7, 7, 7, 7])]
def tabB_8 : List RowB := [(31, [2, 4, 6, 10, 16, 28, 29, 31], [5, 6, 2, 0, 4, 1, 7, 3], [0, 0, 0, 0, 0, 0, 0, 0])]
def tabB : List (List RowB) := [tabB_0, tabB_1, tabB_2, tabB_3, tabB_4, tabB_5, tabB_6, tabB_7, tabB_8]
def putB (s : StB) (k : List Bool) (j : Nat) : Option StB :=
  if (s.t.put j).1.tooFull = true then (match (s.t.put j).1.relaid ((s.ks.take (s.t.put j).2 ++ k :: s.ks.drop (s.t.put j).2).map hashK).toArray (SetTable.grown (s.ks.take (s.t.put j).2 ++ k :: s.ks.drop (s.t.put j).2).length) with
      | some (t', order) => some ⟨t', order.toList.filterMap ((s.ks.take (s.t.put j).2 ++ k :: s.ks.drop (s.t.put j).2)[·]?)⟩
      | none => none)
    else some ⟨(s.t.put j).1, s.ks.take (s.t.put j).2 ++ k :: s.ks.drop (s.t.put j).2⟩
def oneB (led : Bool) (s : StB) : Bool := fitB led s && (decide (s.t.place.toList.Pairwise (· < ·)) && (decide s.ks.Nodup && (decide (s.ks.length ≤ 8) && ((s.ks.all fun k => (keysB 3).contains k) && decide (s.ks.length + 1 ≤ s.t.mask)))))
def keyC (led : Bool) (nxt : List RowB) (x : RowB) (s : StB) (i : Nat) : Bool := match seekB s.t s.ks (keyB i) 40 none with
  | some none => x.2.2.1.contains i
  | some (some j) => (match nxt[x.2.2.2.getD i 0]? with
    | some y => decide (putB s (keyB i) j = some (mkB led y)) && y.2.2.1.isPerm (i :: x.2.2.1)
    | none => false)
  | none => false
def rowC (led : Bool) (nxt : List RowB) (x : RowB) : Bool := oneB led (mkB led x) && (List.range 8).all fun i => keyC led nxt x (mkB led x) i
def pieceC (led : Bool) (n i : Nat) : Bool := (((tabB.getD n []).drop (8 * i)).take 8).all fun x => rowC led (tabB.getD (n + 1) []) x
theorem pc_t0_0 : pieceC true 0 0 = true := by decide +kernel
theorem pc_t1_0 : pieceC true 1 0 = true := by decide +kernel
theorem pc_t2_0 : pieceC true 2 0 = true := by decide +kernel
theorem pc_t2_1 : pieceC true 2 1 = true := by decide +kernel
theorem pc_t2_2 : pieceC true 2 2 = true := by decide +kernel
theorem pc_t2_3 : pieceC true 2 3 = true := by decide +kernel
theorem pc_t3_0 : pieceC true 3 0 = true := by decide +kernel
theorem pc_t3_1 : pieceC true 3 1 = true := by decide +kernel
theorem pc_t3_2 : pieceC true 3 2 = true := by decide +kernel
theorem pc_t3_3 : pieceC true 3 3 = true := by decide +kernel
theorem pc_t3_4 : pieceC true 3 4 = true := by decide +kernel
theorem pc_t3_5 : pieceC true 3 5 = true := by decide +kernel
theorem pc_t3_6 : pieceC true 3 6 = true := by decide +kernel
theorem pc_t3_7 : pieceC true 3 7 = true := by decide +kernel
theorem pc_t3_8 : pieceC true 3 8 = true := by decide +kernel
theorem pc_t3_9 : pieceC true 3 9 = true := by decide +kernel
theorem pc_t4_0 : pieceC true 4 0 = true := by decide +kernel
theorem pc_t4_1 : pieceC true 4 1 = true := by decide +kernel
theorem pc_t4_2 : pieceC true 4 2 = true := by decide +kernel
theorem pc_t4_3 : pieceC true 4 3 = true := by decide +kernel
theorem pc_t4_4 : pieceC true 4 4 = true := by decide +kernel
theorem pc_t4_5 : pieceC true 4 5 = true := by decide +kernel
theorem pc_t4_6 : pieceC true 4 6 = true := by decide +kernel
theorem pc_t4_7 : pieceC true 4 7 = true := by decide +kernel
theorem pc_t4_8 : pieceC true 4 8 = true := by decide +kernel
theorem pc_t4_9 : pieceC true 4 9 = true := by decide +kernel
theorem pc_t4_10 : pieceC true 4 10 = true := by decide +kernel
theorem pc_t4_11 : pieceC true 4 11 = true := by decide +kernel
theorem pc_t4_12 : pieceC true 4 12 = true := by decide +kernel
theorem pc_t4_13 : pieceC true 4 13 = true := by decide +kernel
theorem pc_t4_14 : pieceC true 4 14 = true := by decide +kernel
theorem pc_t4_15 : pieceC true 4 15 = true := by decide +kernel
theorem pc_t4_16 : pieceC true 4 16 = true := by decide +kernel
theorem pc_t5_0 : pieceC true 5 0 = true := by decide +kernel
theorem pc_t5_1 : pieceC true 5 1 = true := by decide +kernel
theorem pc_t5_2 : pieceC true 5 2 = true := by decide +kernel
theorem pc_t5_3 : pieceC true 5 3 = true := by decide +kernel
theorem pc_t5_4 : pieceC true 5 4 = true := by decide +kernel
theorem pc_t5_5 : pieceC true 5 5 = true := by decide +kernel
theorem pc_t5_6 : pieceC true 5 6 = true := by decide +kernel
theorem pc_t6_0 : pieceC true 6 0 = true := by decide +kernel
theorem pc_t6_1 : pieceC true 6 1 = true := by decide +kernel
theorem pc_t6_2 : pieceC true 6 2 = true := by decide +kernel
theorem pc_t6_3 : pieceC true 6 3 = true := by decide +kernel
theorem pc_t7_0 : pieceC true 7 0 = true := by decide +kernel
theorem pc_t8_0 : pieceC true 8 0 = true := by decide +kernel
theorem pc_f0_0 : pieceC false 0 0 = true := by decide +kernel
theorem pc_f1_0 : pieceC false 1 0 = true := by decide +kernel
theorem pc_f2_0 : pieceC false 2 0 = true := by decide +kernel
theorem pc_f2_1 : pieceC false 2 1 = true := by decide +kernel
theorem pc_f2_2 : pieceC false 2 2 = true := by decide +kernel
theorem pc_f2_3 : pieceC false 2 3 = true := by decide +kernel
theorem pc_f3_0 : pieceC false 3 0 = true := by decide +kernel
theorem pc_f3_1 : pieceC false 3 1 = true := by decide +kernel
theorem pc_f3_2 : pieceC false 3 2 = true := by decide +kernel
theorem pc_f3_3 : pieceC false 3 3 = true := by decide +kernel
theorem pc_f3_4 : pieceC false 3 4 = true := by decide +kernel
theorem pc_f3_5 : pieceC false 3 5 = true := by decide +kernel
theorem pc_f3_6 : pieceC false 3 6 = true := by decide +kernel
theorem pc_f3_7 : pieceC false 3 7 = true := by decide +kernel
theorem pc_f3_8 : pieceC false 3 8 = true := by decide +kernel
theorem pc_f3_9 : pieceC false 3 9 = true := by decide +kernel
theorem pc_f4_0 : pieceC false 4 0 = true := by decide +kernel
theorem pc_f4_1 : pieceC false 4 1 = true := by decide +kernel
theorem pc_f4_2 : pieceC false 4 2 = true := by decide +kernel
theorem pc_f4_3 : pieceC false 4 3 = true := by decide +kernel
theorem pc_f4_4 : pieceC false 4 4 = true := by decide +kernel
theorem pc_f4_5 : pieceC false 4 5 = true := by decide +kernel
theorem pc_f4_6 : pieceC false 4 6 = true := by decide +kernel
theorem pc_f4_7 : pieceC false 4 7 = true := by decide +kernel
theorem pc_f4_8 : pieceC false 4 8 = true := by decide +kernel
theorem pc_f4_9 : pieceC false 4 9 = true := by decide +kernel
theorem pc_f4_10 : pieceC false 4 10 = true := by decide +kernel
theorem pc_f4_11 : pieceC false 4 11 = true := by decide +kernel
theorem pc_f4_12 : pieceC false 4 12 = true := by decide +kernel
theorem pc_f4_13 : pieceC false 4 13 = true := by decide +kernel
theorem pc_f4_14 : pieceC false 4 14 = true := by decide +kernel
theorem pc_f4_15 : pieceC false 4 15 = true := by decide +kernel
theorem pc_f4_16 : pieceC false 4 16 = true := by decide +kernel
theorem pc_f5_0 : pieceC false 5 0 = true := by decide +kernel
theorem pc_f5_1 : pieceC false 5 1 = true := by decide +kernel
theorem pc_f5_2 : pieceC false 5 2 = true := by decide +kernel
theorem pc_f5_3 : pieceC false 5 3 = true := by decide +kernel
theorem pc_f5_4 : pieceC false 5 4 = true := by decide +kernel
theorem pc_f5_5 : pieceC false 5 5 = true := by decide +kernel
theorem pc_f5_6 : pieceC false 5 6 = true := by decide +kernel
theorem pc_f6_0 : pieceC false 6 0 = true := by decide +kernel
theorem pc_f6_1 : pieceC false 6 1 = true := by decide +kernel
theorem pc_f6_2 : pieceC false 6 2 = true := by decide +kernel
theorem pc_f6_3 : pieceC false 6 3 = true := by decide +kernel
theorem pc_f7_0 : pieceC false 7 0 = true := by decide +kernel
theorem pc_f8_0 : pieceC false 8 0 = true := by decide +kernel
theorem all_pieces {α : Type} {p : α → Bool} {l : List α} {c m : Nat} (hc : 0 < c) (h : ∀ i, i < m → ((l.drop (c * i)).take c).all p = true) (hl : l.length ≤ c * m) : l.all p = true := by
  rw [List.all_eq_true]
  intro x hx
  obtain ⟨j, hj, rfl⟩ := List.mem_iff_getElem.mp hx
  have hi : j / c < m := (Nat.div_lt_iff_lt_mul hc).mpr (by rw [Nat.mul_comm]; omega)
  refine List.all_eq_true.mp (h (j / c) hi) _ ?_
  have e : j = c * (j / c) + j % c := (Nat.div_add_mod j c).symm
  have hr : j % c < c := Nat.mod_lt _ hc
  rw [List.mem_iff_getElem?]
  refine ⟨j % c, ?_⟩
  rw [List.getElem?_take_of_lt hr, List.getElem?_drop, ← e, List.getElem?_eq_getElem hj]
theorem lv_t0 : ∀ i, i < 1 → pieceC true 0 i = true
  | 0, _ => pc_t0_0
  | i + 1, h => absurd h (by omega)
theorem lv_t1 : ∀ i, i < 1 → pieceC true 1 i = true
  | 0, _ => pc_t1_0
  | i + 1, h => absurd h (by omega)
theorem lv_t2 : ∀ i, i < 4 → pieceC true 2 i = true
  | 0, _ => pc_t2_0
  | 1, _ => pc_t2_1
  | 2, _ => pc_t2_2
  | 3, _ => pc_t2_3
  | i + 4, h => absurd h (by omega)
theorem lv_t3 : ∀ i, i < 10 → pieceC true 3 i = true
  | 0, _ => pc_t3_0
  | 1, _ => pc_t3_1
  | 2, _ => pc_t3_2
  | 3, _ => pc_t3_3
  | 4, _ => pc_t3_4
  | 5, _ => pc_t3_5
  | 6, _ => pc_t3_6
  | 7, _ => pc_t3_7
  | 8, _ => pc_t3_8
  | 9, _ => pc_t3_9
  | i + 10, h => absurd h (by omega)
theorem lv_t4 : ∀ i, i < 17 → pieceC true 4 i = true
  | 0, _ => pc_t4_0
  | 1, _ => pc_t4_1
  | 2, _ => pc_t4_2
  | 3, _ => pc_t4_3
  | 4, _ => pc_t4_4
  | 5, _ => pc_t4_5
  | 6, _ => pc_t4_6
  | 7, _ => pc_t4_7
  | 8, _ => pc_t4_8
  | 9, _ => pc_t4_9
  | 10, _ => pc_t4_10
  | 11, _ => pc_t4_11
  | 12, _ => pc_t4_12
  | 13, _ => pc_t4_13
  | 14, _ => pc_t4_14
  | 15, _ => pc_t4_15
  | 16, _ => pc_t4_16
  | i + 17, h => absurd h (by omega)
theorem lv_t5 : ∀ i, i < 7 → pieceC true 5 i = true
  | 0, _ => pc_t5_0
  | 1, _ => pc_t5_1
  | 2, _ => pc_t5_2
  | 3, _ => pc_t5_3
  | 4, _ => pc_t5_4
  | 5, _ => pc_t5_5
  | 6, _ => pc_t5_6
  | i + 7, h => absurd h (by omega)
theorem lv_t6 : ∀ i, i < 4 → pieceC true 6 i = true
  | 0, _ => pc_t6_0
  | 1, _ => pc_t6_1
  | 2, _ => pc_t6_2
  | 3, _ => pc_t6_3
  | i + 4, h => absurd h (by omega)
theorem lv_t7 : ∀ i, i < 1 → pieceC true 7 i = true
  | 0, _ => pc_t7_0
  | i + 1, h => absurd h (by omega)
theorem lv_t8 : ∀ i, i < 1 → pieceC true 8 i = true
  | 0, _ => pc_t8_0
  | i + 1, h => absurd h (by omega)
theorem lev_t : ∀ n, n ≤ 8 → ((tabB.getD n []).all fun x => rowC true (tabB.getD (n + 1) []) x) = true
  | 0, _ => all_pieces (c := 8) (m := 1) (by decide) lv_t0 (by decide)
  | 1, _ => all_pieces (c := 8) (m := 1) (by decide) lv_t1 (by decide)
  | 2, _ => all_pieces (c := 8) (m := 4) (by decide) lv_t2 (by decide)
  | 3, _ => all_pieces (c := 8) (m := 10) (by decide) lv_t3 (by decide)
  | 4, _ => all_pieces (c := 8) (m := 17) (by decide) lv_t4 (by decide)
  | 5, _ => all_pieces (c := 8) (m := 7) (by decide) lv_t5 (by decide)
  | 6, _ => all_pieces (c := 8) (m := 4) (by decide) lv_t6 (by decide)
  | 7, _ => all_pieces (c := 8) (m := 1) (by decide) lv_t7 (by decide)
  | 8, _ => all_pieces (c := 8) (m := 1) (by decide) lv_t8 (by decide)
  | n + 9, h => absurd h (by omega)
theorem lv_f0 : ∀ i, i < 1 → pieceC false 0 i = true
  | 0, _ => pc_f0_0
  | i + 1, h => absurd h (by omega)
theorem lv_f1 : ∀ i, i < 1 → pieceC false 1 i = true
  | 0, _ => pc_f1_0
  | i + 1, h => absurd h (by omega)
theorem lv_f2 : ∀ i, i < 4 → pieceC false 2 i = true
  | 0, _ => pc_f2_0
  | 1, _ => pc_f2_1
  | 2, _ => pc_f2_2
  | 3, _ => pc_f2_3
  | i + 4, h => absurd h (by omega)
theorem lv_f3 : ∀ i, i < 10 → pieceC false 3 i = true
  | 0, _ => pc_f3_0
  | 1, _ => pc_f3_1
  | 2, _ => pc_f3_2
  | 3, _ => pc_f3_3
  | 4, _ => pc_f3_4
  | 5, _ => pc_f3_5
  | 6, _ => pc_f3_6
  | 7, _ => pc_f3_7
  | 8, _ => pc_f3_8
  | 9, _ => pc_f3_9
  | i + 10, h => absurd h (by omega)
theorem lv_f4 : ∀ i, i < 17 → pieceC false 4 i = true
  | 0, _ => pc_f4_0
  | 1, _ => pc_f4_1
  | 2, _ => pc_f4_2
  | 3, _ => pc_f4_3
  | 4, _ => pc_f4_4
  | 5, _ => pc_f4_5
  | 6, _ => pc_f4_6
  | 7, _ => pc_f4_7
  | 8, _ => pc_f4_8
  | 9, _ => pc_f4_9
  | 10, _ => pc_f4_10
  | 11, _ => pc_f4_11
  | 12, _ => pc_f4_12
  | 13, _ => pc_f4_13
  | 14, _ => pc_f4_14
  | 15, _ => pc_f4_15
  | 16, _ => pc_f4_16
  | i + 17, h => absurd h (by omega)
theorem lv_f5 : ∀ i, i < 7 → pieceC false 5 i = true
  | 0, _ => pc_f5_0
  | 1, _ => pc_f5_1
  | 2, _ => pc_f5_2
  | 3, _ => pc_f5_3
  | 4, _ => pc_f5_4
  | 5, _ => pc_f5_5
  | 6, _ => pc_f5_6
  | i + 7, h => absurd h (by omega)
theorem lv_f6 : ∀ i, i < 4 → pieceC false 6 i = true
  | 0, _ => pc_f6_0
  | 1, _ => pc_f6_1
  | 2, _ => pc_f6_2
  | 3, _ => pc_f6_3
  | i + 4, h => absurd h (by omega)
theorem lv_f7 : ∀ i, i < 1 → pieceC false 7 i = true
  | 0, _ => pc_f7_0
  | i + 1, h => absurd h (by omega)
theorem lv_f8 : ∀ i, i < 1 → pieceC false 8 i = true
  | 0, _ => pc_f8_0
  | i + 1, h => absurd h (by omega)
theorem lev_f : ∀ n, n ≤ 8 → ((tabB.getD n []).all fun x => rowC false (tabB.getD (n + 1) []) x) = true
  | 0, _ => all_pieces (c := 8) (m := 1) (by decide) lv_f0 (by decide)
  | 1, _ => all_pieces (c := 8) (m := 1) (by decide) lv_f1 (by decide)
  | 2, _ => all_pieces (c := 8) (m := 4) (by decide) lv_f2 (by decide)
  | 3, _ => all_pieces (c := 8) (m := 10) (by decide) lv_f3 (by decide)
  | 4, _ => all_pieces (c := 8) (m := 17) (by decide) lv_f4 (by decide)
  | 5, _ => all_pieces (c := 8) (m := 7) (by decide) lv_f5 (by decide)
  | 6, _ => all_pieces (c := 8) (m := 4) (by decide) lv_f6 (by decide)
  | 7, _ => all_pieces (c := 8) (m := 1) (by decide) lv_f7 (by decide)
  | 8, _ => all_pieces (c := 8) (m := 1) (by decide) lv_f8 (by decide)
  | n + 9, h => absurd h (by omega)
theorem lev_any : ∀ led n, n ≤ 8 → ((tabB.getD n []).all fun x => rowC led (tabB.getD (n + 1) []) x) = true
  | true => lev_t
  | false => lev_f
end PL
set_option Elab.async false
set_option linter.all false
set_option maxRecDepth 100000
set_option maxHeartbeats 4000000
namespace PL
open PySem
def moreB (s : StB) (k : List Bool) : Bool := match seekB s.t s.ks k 40 none with
  | some (some _) => (match addB s k with
    | some s2 => decide (s2.ks.length = s.ks.length + 1)
    | none => false)
  | _ => true
def perB (led : Bool) (d : Nat) (s : StB) : Bool := fitB led s && (decide (s.t.place.toList.Pairwise (· < ·)) && (decide s.ks.Nodup && (decide (s.ks.length ≤ 8) && ((s.ks.all fun k => (keysB d).contains k) && decide (s.ks.length + 1 ≤ s.t.mask)))))
theorem per_2 : ∀ led, ∀ d, d ≤ 2 → ∀ n, n ≤ 4 → ((levB led d n).all fun s => perB led d s && (keysB d).all fun k => moreB s k) = true := by decide +kernel
theorem lev_5 : ∀ led, ∀ d, d ≤ 2 → levB led d 5 = [] := by decide +kernel
theorem size_8 : ∀ n, n ≤ 8 → SetTable.sizeAbove (SetTable.grown (n + 1)) ≤ 1000 := by decide +kernel
theorem keys_3 : ∀ k ∈ keysB 3, ∃ i, i < 8 ∧ keyB i = k := by decide +kernel
theorem mem_keys : ∀ {d : Nat} {k : List Bool}, k.length = d → k ∈ keysB d
  | 0, [], _ => List.mem_singleton.mpr rfl
  | 0, _ :: _, h => nomatch h
  | d + 1, [], h => nomatch h
  | d + 1, b :: k, h => by
    have ih := mem_keys (d := d) (k := k) (by simpa using h)
    unfold keysB
    rw [List.mem_append]
    cases b
    · exact .inl (List.mem_map.mpr ⟨k, ih, rfl⟩)
    · exact .inr (List.mem_map.mpr ⟨k, ih, rfl⟩)
def StOk (led : Bool) (d n : Nat) (s : StB) : Prop := (d ≤ 2 ∧ n ≤ 4 ∧ s ∈ levB led d n) ∨ (d = 3 ∧ n ≤ 8 ∧ ∃ x ∈ tabB.getD n [], s = mkB led x)
theorem st_zero (led : Bool) {d : Nat} (h : d ≤ 3) : StOk led d 0 ⟨.fresh 0 0 led, []⟩ := by
  by_cases c : d ≤ 2
  · exact .inl ⟨c, by omega, List.mem_singleton.mpr rfl⟩
  · refine .inr ⟨by omega, by omega, (7, [], [], [0, 1, 2, 3, 4, 5, 6, 7]), List.mem_singleton.mpr rfl, ?_⟩
    cases led <;> rfl
theorem st_per {led : Bool} {d n : Nat} {s : StB} (h : StOk led d n s) : perB led d s = true := by
  rcases h with ⟨h1, h2, h3⟩ | ⟨h1, h2, x, h3, h4⟩
  · exact (Bool.and_eq_true_iff.mp (List.all_eq_true.mp (per_2 led d h1 n h2) s h3)).1
  · subst h1 h4
    exact (Bool.and_eq_true_iff.mp (List.all_eq_true.mp (lev_any led n h2) x h3)).1
theorem addB_there {s : StB} {k : List Bool} (h : seekB s.t s.ks k 40 none = some none) : addB s k = some s := by
  unfold addB
  rw [h]
theorem addB_put {s : StB} {k : List Bool} {j : Nat} (h : seekB s.t s.ks k 40 none = some (some j)) : addB s k = putB s k j := by
  unfold addB
  rw [h]
  rfl
theorem st_step {led : Bool} {d n : Nat} {s : StB} (h : StOk led d n s) {k : List Bool} (hk : k.length = d) : ∃ s2, addB s k = some s2 ∧ ((k ∈ s.ks ∧ s2 = s) ∨ (StOk led d (n + 1) s2 ∧ s2.ks.Perm (k :: s.ks))) ∧
    ∀ j, seekB s.t s.ks k 40 none = some (some j) → s2.ks.length = s.ks.length + 1 := by
  have mk := mem_keys hk
  rcases h with ⟨h1, h2, h3⟩ | ⟨h1, h2, x, h3, h4⟩
  · have hh : okB led d n = true := by
      cases led
      · exact okB_f d h1 n h2
      · exact okB_t d h1 n h2
    unfold okB at hh
    have h4 := List.all_eq_true.mp hh s h3
    rw [Bool.and_eq_true] at h4
    have h5 := List.all_eq_true.mp h4.2 k mk
    have m := List.all_eq_true.mp (Bool.and_eq_true_iff.mp (List.all_eq_true.mp (per_2 led d h1 n h2) s h3)).2 k mk
    cases e : addB s k with
    | none => rw [e] at h5; cases h5
    | some s2 =>
      rw [e] at h5
      dsimp only at h5
      refine ⟨s2, rfl, ?_, fun j q => ?_⟩
      · by_cases c : s.ks.contains k = true
        · rw [if_pos c] at h5
          exact .inl ⟨List.contains_iff_mem.mp c, of_decide_eq_true h5⟩
        · rw [if_neg c, Bool.and_eq_true] at h5
          have h6 := List.contains_iff_mem.mp h5.1
          refine .inr ⟨.inl ⟨h1, ?_, h6⟩, List.isPerm_iff.mp h5.2⟩
          by_cases z : n = 4
          · subst z
            rw [lev_5 led d h1] at h6
            cases h6
          · omega
      · unfold moreB at m
        rw [q] at m
        dsimp only at m
        rw [e] at m
        exact of_decide_eq_true m
  · subst h1 h4
    have hh := (Bool.and_eq_true_iff.mp (List.all_eq_true.mp (lev_any led n h2) x h3)).2
    obtain ⟨i, hi, rfl⟩ := keys_3 k mk
    have h5 := List.all_eq_true.mp hh i (List.mem_range.mpr hi)
    unfold keyC at h5
    cases q : seekB (mkB led x).t (mkB led x).ks (keyB i) 40 none with
    | none => rw [q] at h5; cases h5
    | some r =>
      rw [q] at h5
      cases r with
      | none =>
        exact ⟨_, addB_there q, .inl ⟨List.mem_map.mpr ⟨i, List.contains_iff_mem.mp h5, rfl⟩, rfl⟩, fun j z => nomatch z⟩
      | some j =>
        dsimp only at h5
        cases e : (tabB.getD (n + 1) [])[x.2.2.2.getD i 0]? with
        | none => rw [e] at h5; cases h5
        | some y =>
          rw [e] at h5
          dsimp only at h5
          rw [Bool.and_eq_true] at h5
          have my := List.mem_of_getElem? e
          have pm : (mkB led y).ks.Perm (keyB i :: (mkB led x).ks) := (List.isPerm_iff.mp h5.2).map keyB
          refine ⟨mkB led y, by rw [addB_put q]; exact of_decide_eq_true h5.1, .inr ⟨.inr ⟨rfl, ?_, y, my, rfl⟩, pm⟩, fun _ _ => by rw [pm.length_eq, List.length_cons]⟩
          by_cases z : n = 8
          · subst z
            cases my
          · omega
end PL
set_option Elab.async false
set_option linter.all false
set_option maxRecDepth 100000
set_option maxHeartbeats 4000000
namespace PL
open PySem PySem.Spec PyProof.Rows L2
def GotB (w : World) (h : Heap) (a : Addr) (ks : List (Addr × List Bool)) (d i : Nat) : Prop := ∃ (L : List (Addr × List Bool)) (es : Array (Int × Value)) (ep : Nat) (t : SetTable) (m : Nat), SetB w h a L es ep t ∧ StOk t.led d m ⟨t, L.map (·.2)⟩ ∧ (∀ p ∈ L, p ∈ ks) ∧ (∀ p ∈ ks.take i, p.2 ∈ L.map (·.2))
theorem GotB.keep {w : World} {h h' : Heap} {a : Addr} {ks : List (Addr × List Bool)} {d i : Nat} (g : GotB w h a ks d i) (k1 : ∀ o, h.get? a = some o → h'.get? a = some o) (k2 : ∀ p ∈ ks, IsB h' p.2 p.1) : GotB w h' a ks d i := by
  obtain ⟨L, es, ep, t, m, R, st, sub, all⟩ := g
  obtain ⟨o, ho, r⟩ := R.ob
  exact ⟨L, es, ep, t, m, ⟨⟨o, k1 o ho, r⟩, R.rows, fun p hp => k2 p (sub p hp), R.fit, R.led⟩, st, sub, all⟩
section
variable {P : Program} {w : World} {A : Around} {E : Value → Shared → Prop} {s : Shared} {a x : Addr} {k : List Bool}
theorem got_add {ks : List (Addr × List Bool)} {d i : Nat} (hd : d ≤ 3) (hu : A.units + 8 < cLine) (g : GotB w s.heap a ks d i) {p : Addr × List Bool} (hp : ks[i]? = some p) (hx : IsB s.heap p.2 p.1) (hk : p.2.length = d) {Q : Bool → Shared → Prop}
    (hQ : ∀ b h', Heap.SameBut a s.heap h' → GotB w h' a ks d (i + 1) → Q b { s with heap := h' }) : wpAny (model P w) A (setAddHashed a (.ref p.1) (hashK p.2)) Q E s := by
  obtain ⟨L, es, ep, t, m, R, st, sub, all⟩ := g
  obtain ⟨s2, e, c, gr⟩ := st_step st hk
  have pe := st_per st
  unfold perB at pe
  simp only [Bool.and_eq_true] at pe
  obtain ⟨f1, r1, n1, l1, k1, m1⟩ := pe
  have l2 := of_decide_eq_true l1
  rw [List.length_map] at l2
  have m3 := of_decide_eq_true m1
  rw [List.length_map] at m3
  have m4 := size_8 _ l2
  have f2 : fitB t.led s2 = true := by
    rcases c with ⟨_, rfl⟩ | ⟨c, _⟩
    · exact R.fit
    · have := st_per c
      unfold perB at this
      simp only [Bool.and_eq_true] at this
      exact this.1
  have eL : s2.t.led = t.led := by
    unfold fitB at f2
    simp only [Bool.and_eq_true, beq_iff_eq] at f2
    exact f2.2.2.2.1
  refine add_ok R hx hu (by omega) e (by rw [eL]; exact f2) (by rw [eL]; exact R.led) m3 (fun j q => ?_) m4 ?_
  · have := gr j q
    rw [List.length_map] at this
    exact this
  · intro b h' L' es' ep' sb R' eK sub'
    refine hQ b h' sb ⟨L', es', ep', s2.t, (if s2 = ⟨t, L.map (·.2)⟩ then m else m + 1), R', ?_, fun q hq => ?_, fun q hq => ?_⟩
    · have es : (⟨s2.t, L'.map (·.2)⟩ : StB) = s2 := by rw [eK]
      rw [es, eL]
      rcases c with ⟨_, c⟩ | ⟨c, pm⟩
      · rw [if_pos c, c]
        exact st
      · rw [if_neg]
        · exact c
        · intro z
          have := pm.length_eq
          rw [z] at this
          simp at this
    · rcases sub' q hq with z | z
      · rw [z]
        exact List.mem_of_getElem? hp
      · exact sub q z
    · rw [eK]
      rw [List.take_succ, hp] at hq
      rcases List.mem_append.mp hq with z | z
      · have := all q z
        rcases c with ⟨_, rfl⟩ | ⟨_, pm⟩
        · exact this
        · exact pm.mem_iff.mpr (List.mem_cons_of_mem _ this)
      · rw [show q = p by simpa using z]
        rcases c with ⟨h1, rfl⟩ | ⟨_, pm⟩
        · exact h1
        · exact pm.mem_iff.mpr List.mem_cons_self
theorem set_loopB {I : Addr} {fp wr : List Addr} {G : Array GenState → Array GenState → Prop} {n : Nat} {Pv : Nat → Value → Prop} {St : Nat → Shared → Prop} {R : Result → Shared → Prop}
    (W : WalksS P w A.in1 I fp wr G n Pv St) (hSf : a ∉ fp) (ks : List (Addr × List Bool)) {d : Nat} (hd : d ≤ 3) (hkd : ∀ p ∈ ks, p.2.length = d) (hval : ∀ i v, Pv i v → ∃ p, ks[i]? = some p ∧ v = Value.ref p.1)
    (h0 : Heap) (hk : ∀ p ∈ ks, IsB h0 p.2 p.1) (hS0 : h0.get? a = none) (hw0 : ∀ b ∈ wr, h0.get? b = none) (hu : A.in1.units + 8 < cLine) :
    ∀ (j i : Nat) (s : Shared), i + j = n → St i s → (∀ b o, h0.get? b = some o → s.heap.get? b = some o) → GotB w s.heap a ks d i →
      (∀ s', Moved (a :: wr) G s s' → GotB w s'.heap a ks d n → (∀ b o, h0.get? b = some o → s'.heap.get? b = some o) → R (.ok (.ret .none)) s') →
      codeAny (model P w) A (.builtin "set.update.loop" ⟨[.ref a, .ref I], []⟩) R s := by
  have hSw : a ∉ wr := fun h => hSf (W.sub _ h)
  have hsub : ∀ b ∈ wr, b ∈ a :: wr := fun b hb => .tail _ hb
  have keepM : ∀ {s s' : Shared}, Moved wr G s s' → (∀ b o, h0.get? b = some o → s.heap.get? b = some o) → ∀ b o, h0.get? b = some o → s'.heap.get? b = some o := by
    intro s s' hm hkp b o e
    exact hm.heap b o (fun hb => by rw [hw0 b hb] at e; cases e) (hkp b o e)
  intro j
  induction j with
  | zero =>
    intro i s hi hst hkp g hR
    cases hi
    refine codeAny_builtin PyProof.Rows.F.entry_set_update_loop ?_
    rw [Around.under_plainId PyProof.Rows.F.plain_set_update_loop _]
    refine wpAny_bind (m := pyNext (.ref I)) (W.done s _ _ hst fun s' hm => ?_)
    refine wpAny_pure (hR s' (hm.mono hsub) ?_ (keepM hm hkp))
    exact g.keep (fun o e => hm.heap a o hSw e) fun p hp => isB_keep (hk p hp) fun b o _ _ e _ => keepM hm hkp b o e
  | succ j ih =>
    intro i s hi hst hkp g hR
    refine codeAny_builtin PyProof.Rows.F.entry_set_update_loop ?_
    rw [Around.under_plainId PyProof.Rows.F.plain_set_update_loop _]
    refine wpAny_bind (m := pyNext (.ref I)) (W.item i s _ _ (by omega) hst fun v s' hP hst' hm => ?_)
    obtain ⟨p, hp, rfl⟩ := hval i v hP
    have hkp' := keepM hm hkp
    have hall : ∀ q ∈ ks, IsB s'.heap q.2 q.1 := fun q hq => isB_keep (hk q hq) fun b o _ _ e _ => hkp' b o e
    have mp := List.mem_of_getElem? hp
    have g' : GotB w s'.heap a ks d i := g.keep (fun o e => hm.heap a o hSw e) hall
    refine wpAny_bind (m := holding [Value.ref p.1] (setAdd a (.ref p.1))) (wpAny_holding ?_)
    unfold setAdd
    refine wpAny_holding (wpAny_bind (isB_hash hu (hall p mp) fun tk htk => ?_))
    refine got_add (s := { s' with toks := tk }) hd hu g' hp (hall p mp) (hkd p mp) fun b h' hsb g2 => ?_
    have hkp2 : ∀ b o, h0.get? b = some o → h'.get? b = some o := fun b o e => (hsb.2 b (fun z => by rw [z, hS0] at e; cases e)).trans (hkp' b o e)
    refine wpAny_pure ⟨plainId_quiet PyProof.Rows.F.plain_set_update_loop _, ih (i + 1) _ (by omega) (W.frame _ s' _ _ hst' htk fun b hb o e => ?_) hkp2 g2 fun s'' hm'' g'' hkp'' => ?_⟩
    · rw [hsb.2 b fun z : b = a => hSf (z ▸ hb)]
      exact e
    · refine hR s'' (Moved.trans W.gtrans ((hm.mono hsub).then_heap htk fun b o hb e => ?_) hm'') g'' hkp''
      rw [hsb.2 b fun z : b = a => hb (z ▸ .head _)]
      exact e
end
end PL
set_option Elab.async false
set_option linter.all false
set_option maxRecDepth 100000
set_option maxHeartbeats 4000000
namespace PL
open PySem PySem.Spec PyProof.Rows L2
abbrev obB (w : World) : Obj := { cls := .type "set", dict := none, data := .set #[] 0 (.fresh 0 0 (!w.params.followText "set-order")) }
section
variable {P : Program} {w : World} {A : Around} {E : Value → Shared → Prop} {s : Shared}
theorem got_fresh {h : Heap} {a : Addr} (ks : List (Addr × List Bool)) {d : Nat} (hd : d ≤ 3) (ho : h.get? a = some (obB w)) : GotB w h a ks d 0 := by
  have hf : ∀ led, fitB led ⟨.fresh 0 0 led, []⟩ = true := by decide +kernel
  refine ⟨[], #[], 0, .fresh 0 0 (!w.params.followText "set-order"), 0, ⟨⟨_, ho, ⟨rfl, rfl, rfl⟩, rfl⟩, rfl, (fun p hp => nomatch hp), hf _, ?_⟩, st_zero _ hd, (fun p hp => nomatch hp), fun p hp => ?_⟩
  · show _ ∨ (!w.params.followText "set-order") = true
    cases w.params.followText "set-order"
    · exact .inr rfl
    · exact .inl rfl
  · rw [List.take_zero] at hp
    cases hp
theorem none_above {h : Heap} {b : Addr} (hb : h.objs.size ≤ b) : h.get? b = none := by
  cases q : h.get? b with
  | none => rfl
  | some o => exact absurd (Nat.lt_of_lt_of_le (Heap.lt_size q) hb) (Nat.lt_irrefl _)
set_option maxHeartbeats 8000000 in
theorem call_setB {l : Addr} {items : Array Value} (ks : List (Addr × List Bool)) {d : Nat} (hd : d ≤ 3) (hkd : ∀ p ∈ ks, p.2.length = d) {Q : Value → Shared → Prop} (hh : A.handled = none) (hl : s.heap.IsList l items) (hit : items.toList = ks.map fun p => Value.ref p.1)
    (hk : ∀ p ∈ ks, IsB s.heap p.2 p.1) (hu : A.units + 16 < cLine)
    (h : ∀ (h' : Heap) (tk : Nat), GotB w h' s.heap.objs.size ks d ks.length → (∀ b o, s.heap.get? b = some o → h'.get? b = some o) → Q (.ref s.heap.objs.size) { s with heap := h', toks := tk }) :
    wpAny (model P w) A (call (.type "set") [.ref l]) Q E s := by
  have hisz : items.size = ks.length := by
    have q := congrArg List.length hit
    simpa using q
  have TC := F.called_set
  obtain ⟨c, tl, hmro⟩ := TC.mro
  have hmade := TC.made
  have hsub := TC.sub
  refine wpAny_call (codeAny_of_tree (wpAny_pure ⟨Code.quiet_builtin _ (by decide +kernel), codeAny_builtin F.entry_type_call ?_⟩))
  rw [Around.under_plain (weight_type_call_type "set" [.ref l] []) rfl]
  have h1 := TC.notType
  have h2 := TC.canCreate
  have hct := F.typeCall_set_1 (.ref l)
  repeat (any_goals (first | assumption | wp_step))
  refine codeAny_mono (code_set_led1 (.ref l) (E := E) (Q₁ := fun obj s₁ => obj = .ref s.heap.objs.size ∧ s₁ = { s with heap := s.heap.push (obB w) }) ⟨rfl, rfl⟩) fun r s₁ hr => ?_
  cases r with
  | error e => exact hr
  | ok fl =>
   cases fl with
   | ret obj =>
     obtain ⟨rfl, rfl⟩ := hr
     have hS : (s.heap.push (obB w)).get? s.heap.objs.size = some (obB w) := Heap.get?_push_size _ rfl
     have hT : Shared.TypeIs { s with heap := s.heap.push (obB w) } (.ref s.heap.objs.size) "set" := ⟨_, hS, rfl⟩
     have hli := TC.init.lookup
     have hbi := TC.init.bind (.ref s.heap.objs.size)
     repeat (any_goals (first | assumption | wp_step))
     refine codeAny_mono (codeAny_call_builtin (R := wants (fun r s₂ => r = .none ∧ ∃ h' tk, s₂ = { s with heap := h', toks := tk } ∧ GotB w h' s.heap.objs.size ks d ks.length ∧ ∀ b o, s.heap.get? b = some o → h'.get? b = some o) E)
       TC.init.plain F.entry_set_init (check_set_init_1 hT ?_)) fun r₂ s₂ hr₂ => ?_
     · obtain ⟨ol, hol, hcl, nl, hdl⟩ := hl
       obtain ⟨ocls, odict, odata, oslots⟩ := ol
       simp only at hcl hdl
       subst hcl hdl
       have hol' : (s.heap.push (obB w)).get? l = some { cls := .type "list", dict := odict, data := .seq items nl, slots := oslots } := Heap.get?_push_of_some _ hol
       have hsls := F.sub_list_set
       have hslf := F.sub_list_frozenset
       have hne : (Value.type "list" == Value.type "dict") = false := by decide
       have hl1 : (s.heap.push (obB w)).IsList l items := ⟨_, hol', rfl, nl, rfl⟩
       unfold Builtin.«set.__init__» noKeywords Builtin.Frozenset.updateFrom
       generalize hPI : pyIter = PI
       wp_walk
       subst hPI
       refine wpAny_pyIter_list hl1 (wpAny_bind (wpAny_runValue ?_))
       have hlS : l < s.heap.objs.size := Heap.lt_size hol
       have hh3 : A.in1.in1.in1.handled = none := by simp [hh]
       have hsz : (s.heap.push (obB w)).objs.size = s.heap.objs.size + 1 := Heap.size_push ..
       have hneI : l ≠ (s.heap.push (obB w)).objs.size := Nat.ne_of_lt (by rw [hsz]; exact Nat.lt_succ_of_lt hlS)
       have hSf : s.heap.objs.size ∉ [(s.heap.push (obB w)).objs.size, l] := by
         simp only [List.mem_cons, List.not_mem_nil, or_false, not_or]
         exact ⟨Nat.ne_of_lt (by rw [hsz]; exact Nat.lt_succ_self _), Nat.ne_of_gt hlS⟩
       refine set_loopB ((Walks.list hh3 _ l hneI items).toS) hSf ks hd hkd (fun i v hv => ?_) s.heap hk (none_above (Nat.le_refl _)) (fun b hb => none_above (by
           rw [List.mem_singleton.mp hb, hsz]
           exact Nat.le_succ _)) (by simp only [Around.in1_units]; omega) items.size 0 _ (by omega) ⟨⟨_, Heap.get?_push_size _ rfl, rfl, rfl⟩, (hl1.push _)⟩ (fun b o e => Heap.get?_push_of_some _ (Heap.get?_push_of_some _ e)) (got_fresh ks hd (Heap.get?_push_of_some _ hS)) ?_
       · have q : items.toList[i]? = some v := by
           rw [Array.getElem?_toList]
           exact hv
         rw [hit, List.getElem?_map] at q
         cases hq : ks[i]? with
         | none => rw [hq] at q; cases q
         | some p =>
           rw [hq] at q
           exact ⟨p, rfl, (Option.some.inj q).symm⟩
       · intro s' hm g' hkp
         obtain ⟨h', g2, d', tk', os'⟩ := s'
         obtain rfl : g2 = s.gens := hm.gens
         obtain rfl : d' = s.drawn := hm.drawn
         obtain rfl : os' = s.os := hm.os
         rw [hisz] at g'
         exact wpAny_pure (wpAny_pure ⟨rfl, h', tk', rfl, g', hkp⟩)
     · cases r₂ with
       | error e => exact hr₂
       | ok fl₂ =>
        cases fl₂ with
        | ret r =>
          obtain ⟨rfl, h', tk, rfl, g', hk'⟩ := hr₂
          repeat (any_goals (first | assumption | wp_step))
          exact h _ _ g' hk'
        | _ => exact hr₂.elim
   | _ => exact hr.elim
end
end PL
set_option Elab.async false
set_option linter.all false
set_option maxRecDepth 100000
set_option maxHeartbeats 4000000
namespace PL
open PySem PySem.Spec PyProof.Rows L2
def tupB (k : List Bool) : D := .tup (k.map D.bl)
theorem tupB_alike : ∀ d, d ≤ 3 → ∀ k ∈ keysB d, ∀ l ∈ keysB d, PySem.W.alike (pd (tupB k)) (pd (tupB l)) = true := by decide +kernel
theorem tupB_depth : ∀ d, d ≤ 3 → ∀ k ∈ keysB d, (pd (tupB k)).depth ≤ 60 := by decide +kernel
theorem tupB_anti : ∀ d, d ≤ 3 → ∀ k ∈ keysB d, ∀ l ∈ keysB d, leS (tupB k) (tupB l) = true → leS (tupB l) (tupB k) = true → k = l := by decide +kernel
theorem keys_pw : ∀ d, d ≤ 3 → (keysB d).Pairwise fun k l => leS (tupB k) (tupB l) = true := by decide +kernel
theorem keys_nd : ∀ d, d ≤ 3 → (keysB d).Nodup := by decide +kernel
theorem tupB_tup1 : ∀ d, d ≤ 3 → 1 ≤ d → ∀ k ∈ keysB d, tup1 (pd (tupB k)) = true := by decide +kernel
theorem sorted_uniq {α : Type} {R : α → α → Prop} : ∀ {l m : List α}, l.Perm m → l.Pairwise R → m.Pairwise R → (∀ a ∈ l, ∀ b ∈ l, R a b → R b a → a = b) → l = m
  | [], m, p, _, _, _ => p.nil_eq
  | a :: l, [], p, _, _, _ => absurd p.length_eq (by simp)
  | a :: l, b :: m, p, h1, h2, h => by
    have e : a = b := by
      have ma : a ∈ b :: m := p.mem_iff.mp (.head _)
      have mb : b ∈ a :: l := p.mem_iff.mpr (.head _)
      rcases List.mem_cons.mp ma with e | ma
      · exact e
      · rcases List.mem_cons.mp mb with e | mb'
        · exact e.symm
        · exact h a (.head _) b mb ((List.pairwise_cons.mp h1).1 b mb') ((List.pairwise_cons.mp h2).1 a ma)
    subst e
    rw [sorted_uniq (p.cons_inv) (List.pairwise_cons.mp h1).2 (List.pairwise_cons.mp h2).2 fun x hx y hy => h x (.tail _ hx) y (.tail _ hy)]
theorem pick_keys {d : Nat} (hd : d ≤ 3) {l : List (List Bool)} (h1 : l.Pairwise fun k l => leS (tupB k) (tupB l) = true) (h2 : l.Nodup) (h3 : ∀ k ∈ l, k ∈ keysB d) : l = (keysB d).filter fun k => l.contains k := by
  refine sorted_uniq ((List.perm_ext_iff_of_nodup h2 ((keys_nd d hd).filter _)).mpr fun k => ?_) h1 ((keys_pw d hd).filter _) fun a ha b hb => tupB_anti d hd a (h3 a ha) b (h3 b hb)
  rw [List.mem_filter, List.contains_iff_mem]
  exact ⟨fun h => ⟨h3 k h, h⟩, fun h => h.2⟩
theorem perm_map_ex {α β : Type} {f : α → β} {vs ws : List β} (h : vs.Perm ws) : ∀ l : List α, ws = l.map f → ∃ l1 : List α, l1.Perm l ∧ vs = l1.map f := by
  induction h with
  | nil =>
    intro l e
    exact ⟨l, .refl _, e⟩
  | cons x _ ih =>
    intro l e
    cases l with
    | nil => cases e
    | cons y l =>
      injection e with e1 e2
      obtain ⟨l1, p, e3⟩ := ih l e2
      exact ⟨y :: l1, p.cons y, by rw [List.map_cons, e1, e3]⟩
  | swap x y r =>
    intro l e
    cases l with
    | nil => cases e
    | cons a l =>
      cases l with
      | nil => injection e with e1 e2; cases e2
      | cons b l =>
        injection e with e1 e2
        injection e2 with e2 e3
        exact ⟨b :: a :: l, List.Perm.swap a b l, by rw [List.map_cons, List.map_cons, e1, e2, e3]⟩
  | trans _ _ ih1 ih2 =>
    intro l e
    obtain ⟨l2, p2, e2⟩ := ih2 l e
    obtain ⟨l1, p1, e1⟩ := ih1 l2 e2
    exact ⟨l1, p1.trans p2, e1⟩
end PL
set_option Elab.async false
set_option linter.all false
set_option maxRecDepth 100000
set_option maxHeartbeats 4000000
namespace PL
open PySem PySem.Spec PyProof.Rows L2
open PySem.W (EachIs AllAlike Sortable dataLe)
def SetB0 (w : World) (h : Heap) (a : Addr) (L : List (Addr × List Bool)) (d : Nat) : Prop := ∃ (es : Array (Int × Value)) (ep : Nat) (t : SetTable) (m : Nat), (∃ o, h.get? a = some o ∧ o.ExactSet ∧ o.data = .set es ep t) ∧ es.toList = rowsB L ∧ StOk t.led d m ⟨t, L.map (·.2)⟩ ∧ (w.params.followText "set-order" = true ∨ t.led = true)
def SetBO (w : World) (a : Addr) (L : List (Addr × List Bool)) (d : Nat) : HO := .ext fun h => SetB0 w h a L d
theorem setBO_new {w : World} {H : Hp} {h : Heap} {a : Addr} {L : List (Addr × List Bool)} {d : Nat} (R : SetB0 w h a L d) : ObjOk P w H h a (SetBO w a L d) := by
  have ⟨es, ep, t, m, ⟨o, ho, r⟩, q⟩ := id R
  refine ⟨R, ⟨o, ho⟩, fun h1 h2 p k => ?_⟩
  have ⟨es', ep', t', m', ⟨o', ho', r'⟩, q'⟩ : SetB0 w h1 a L d := p
  exact ⟨es', ep', t', m', ⟨o', k o' ho', r'⟩, q'⟩
theorem bools_of_vals : ∀ {k : List Bool} {us : List Value}, Vals (k.map V.bl) us → us = k.map Value.bool
  | [], _, .nil => rfl
  | b :: k, _, .cons r t => by
    cases r
    rw [bools_of_vals t]
    rfl
theorem addrs_of_vals : ∀ {ks : List (Addr × List Bool)} {us : List Value}, Vals (ks.map fun p => V.ref p.1) us → us = ks.map fun p => Value.ref p.1
  | [], _, .nil => rfl
  | p :: ks, _, .cons r t => by
    cases r
    rw [addrs_of_vals t]
    rfl
theorem vals_of_addrs : ∀ ks : List (Addr × List Bool), Vals (ks.map fun p => V.ref p.1) (ks.map fun p => Value.ref p.1)
  | [] => .nil
  | p :: ks => .cons rfl (vals_of_addrs ks)
def rSetOfB (K : PySem.W.Frag) (w : World) : List V → Hp → VK → Prop := fun xs H Q => ∃ (l : Addr) (ks : List (Addr × List Bool)) (d : Nat), xs = [V.ref l] ∧ SqL K H l (ks.map fun p => V.ref p.1) ∧ (∀ p ∈ ks, SqT K H p.1 (p.2.map V.bl)) ∧ d ≤ 3 ∧ (∀ p ∈ ks, p.2.length = d) ∧
  ∀ a L, H a = none → (∀ p ∈ L, p ∈ ks) → (∀ p ∈ ks, p.2 ∈ L.map (·.2)) → Q (.ref a) (upd H a (SetBO w a L d))
section
variable {X : Cx}
theorem Inv.isB {pins : List (Addr × Obj)} {σ : L2.St} {H : Hp} {s : Shared} {b : Addr} {k : List Bool} (I : Inv X pins σ H s) (h : SqT X.K H b (k.map V.bl)) : IsB s.heap k b := by
  obtain ⟨its, r, ⟨o, ho, hc, n, hd⟩, _⟩ := I.tuple h
  exact ⟨o, its.toArray, n, ho, hc, hd, by simpa using bools_of_vals r⟩
theorem cr_setOfB (hc : X.calm = true) (hu : X.A.units + 64 < cLine) : CallR X (.type "set") (rSetOfB X.K X.w) := by
  intro pins s σ H xs us Q I r h
  obtain ⟨l, ks, d, rfl, hl, hk, hd, hkd, q⟩ := h
  obtain rfl := Vals.ref1 r
  obtain ⟨its, rv, pl, hz⟩ := I.list hl
  refine call_setB (P := X.prog) (w := X.w) ks hd hkd (I.ok.hd hc) pl.isList (by simpa using addrs_of_vals rv) (fun p hp => Inv.isB I (hk p hp)) (by omega) fun h' tk g k => ?_
  obtain ⟨L, es, ep, t, m, R, st, sub, all⟩ := g
  refine ⟨.ref s.heap.objs.size, upd H s.heap.objs.size (SetBO X.w s.heap.objs.size L d), I.laid (t' := tk) k (Nat.le_refl _) (setBO_new ⟨es, ep, t, m, R.ob, R.rows, st, R.led⟩), rfl, q _ L (I.hok.fresh (Nat.le_refl _)) sub fun p hp => ?_⟩
  exact all p (by rw [List.take_length]; exact hp)
def rSortedB (K : PySem.W.Frag) (w : World) : List V → Hp → VK → Prop := fun vs H Q => ∃ (a : Addr) (L : List (Addr × List Bool)) (d : Nat), vs = [V.ref a] ∧ H a = some (SetBO w a L d) ∧ (∀ p ∈ L, Dp K H (V.ref p.1) (pd (tupB p.2))) ∧ d ≤ 3 ∧
  ∀ (L' : List (Addr × List Bool)) (p : Addr), L'.map (·.2) = ((keysB d).filter fun k => (L.map (·.2)).contains k) → (∀ q ∈ L', q ∈ L) → H p = none → Q (.ref p) (upd H p (.lst (L'.map fun q => V.ref q.1)))
def encB (q : Addr × List Bool) : PyData := pd (tupB q.2)
theorem each_refs : ∀ L : List (Addr × List Bool), EachIs (fun u (q : Addr × List Bool) => u = Value.ref q.1) (L.map fun q => Value.ref q.1) L
  | [] => .nil
  | q :: L => .cons rfl (each_refs L)
theorem refs_each : ∀ {us : List Value} {L : List (Addr × List Bool)}, EachIs (fun u (q : Addr × List Bool) => u = Value.ref q.1) us L → us = L.map fun q => Value.ref q.1
  | _, _, .nil => rfl
  | _, _, .cons r t => by rw [r, refs_each t]; rfl
theorem each_tells {pins : List (Addr × Obj)} {σ : L2.St} {H : Hp} {s : Shared} (I : Inv X pins σ H s) : ∀ L : List (Addr × List Bool), (∀ p ∈ L, Dp X.K H (V.ref p.1) (pd (tupB p.2))) → EachIs (fun u (q : Addr × List Bool) => ∃ as, Reads s.heap u (encB q) as) (L.map fun q => Value.ref q.1) L
  | [], _ => .nil
  | q :: L, h => .cons (Dp.reads I _ _ _ (h q (.head _)) rfl) (each_tells I L fun p hp => h p (.tail _ hp))
theorem len1 {l : List (List Bool)} (n : l.Nodup) (h : ∀ k ∈ l, k ∈ keysB 0) : l.length ≤ 1 := by
  match l, n, h with
  | [], _, _ => decide
  | [_], _, _ => exact Nat.le_refl _
  | a :: b :: l, n, h =>
    have e1 := List.mem_singleton.mp (h a (.head _))
    have e2 := List.mem_singleton.mp (h b (.tail _ (.head _)))
    exact absurd (e1.trans e2.symm) fun z => (List.nodup_cons.mp n).1 (z ▸ .head _)
theorem cr_sortedB (hu : X.A.units + 64 < cLine) (hc : X.calm = true) : CallR X (.builtin "sorted") (rSortedB X.K X.w) := by
  intro pins s σ H vs us Q I r h
  obtain ⟨a, L, d, rfl, ha, hdp, hd, q⟩ := h
  obtain rfl := Vals.ref1 r
  obtain ⟨es, ep, t, m, ⟨o, ho, hex, hdat⟩, hrows, st, hled⟩ : SetB0 X.w s.heap a L d := (I.hok a _ ha).1
  have pe := st_per st
  unfold perB at pe
  simp only [Bool.and_eq_true] at pe
  obtain ⟨f1, r1, n1, l1, k1, m1⟩ := pe
  have f1' := f1
  unfold fitB at f1'
  simp only [Bool.and_eq_true, beq_iff_eq, decide_eq_true_eq] at f1'
  have n1 := of_decide_eq_true n1
  have l1 := of_decide_eq_true l1
  have r1 := of_decide_eq_true r1
  rw [List.length_map] at l1
  have hsz : es.size = L.length := by
    have h := congrArg List.length hrows
    unfold rowsB at h
    simpa using h
  have hfit : t.fits es.size = true := by
    unfold SetTable.fits
    rw [Bool.and_eq_true, beq_iff_eq, decide_eq_true_eq, hsz]
    exact ⟨by have := f1'.1; simpa using this, f1'.2.2.2.2.2⟩
  have hkey : ∀ q ∈ L, q.2 ∈ keysB d := fun q hq => List.contains_iff_mem.mp (List.all_eq_true.mp k1 q.2 (List.mem_map.mpr ⟨q, hq, rfl⟩))
  refine Calls.call_function_entry kind_sorted plain_sorted entry_sorted (args_sorted1 _) ?_
  refine wpAny_bind (wpAny_pure (wpAny_bind ?_))
  refine collect_set (A := X.A.in1) (I.ok.hd hc) ⟨o, ho, hex.1, hdat⟩ hfit (by unfold scanBound; omega) r1 hled fun s1 vs kp hz g1 o1 pm => ?_
  have hes : es.toList.map (·.2) = L.map fun q => Value.ref q.1 := by
    rw [hrows]
    unfold rowsB
    rw [List.map_map]
    rfl
  rw [hes] at pm
  obtain ⟨L1, pL, rfl⟩ := perm_map_ex pm L rfl
  have hlen : L1.length = L.length := pL.length_eq
  have hdp1 : ∀ p ∈ L1, Dp X.K H (V.ref p.1) (pd (tupB p.2)) := fun p hp => hdp p (pL.mem_iff.mp hp)
  have hkey1 : ∀ q ∈ L1, q.2 ∈ keysB d := fun q hq => hkey q (pL.mem_iff.mp hq)
  have I1 : Inv X pins σ H { s with heap := s1.heap, gens := s1.gens, drawn := s1.drawn, toks := s1.toks } :=
    Inv.call (ch := []) I (Un.kept kp) (I.hok.kept kp) (by rw [g1]; exact I.bare) fun _ z => nomatch z
  have es1 : s1 = { s with heap := s1.heap, gens := s1.gens, drawn := s1.drawn, toks := s1.toks } := by
    obtain ⟨_, _, _, _, _⟩ := s1
    obtain rfl := o1
    rfl
  rw [← es1] at I1
  have hal : AllAlike (L1.map encB) := fun x hx y hy => by
    obtain ⟨b, hb, rfl⟩ := List.mem_map.mp hx
    obtain ⟨c, hc, rfl⟩ := List.mem_map.mp hy
    exact tupB_alike d hd _ (hkey1 b hb) _ (hkey1 c hc)
  generalize hvl : (L1.map fun q => Value.ref q.1) = vl at *
  have hvn : vl.length = L1.length := by rw [← hvl, List.length_map]
  refine wpAny_bind (wpAny_newList ?_ (by rw [sizeLine_eq]; omega))
  have hoL : (s1.heap.push (seqObj "list" vl.toArray 0)).get? s1.heap.objs.size = some (seqObj "list" vl.toArray 0) := Heap.get?_push_size _ rfl
  have ee : EachIs (fun u (q : Addr × List Bool) => u = Value.ref q.1) vl L1 := hvl ▸ each_refs L1
  have er : EachIs (fun u (q : Addr × List Bool) => ∃ as, Reads s1.heap u (encB q) as) vl L1 := hvl ▸ each_tells I1 L1 hdp1
  have er' : EachIs (fun u (q : Addr × List Bool) => ∃ as, Reads (PySem.W.sortingHeap (s1.heap.push (seqObj "list" vl.toArray 0)) s1.heap.objs.size vl) u (encB q) as) vl L1 :=
    PySem.W.EachIs.mono (fun _ _ ⟨as, r⟩ => ⟨as, Reads.keeps (fun b u e => PySem.W.sortingHeap_old (Nat.ne_of_lt (Heap.lt_size e)) (Heap.get?_push_of_some _ e)) r⟩) er
  have so : PySem.W.SortsAt X.prog X.w X.A.in1.in1 { s1 with heap := PySem.W.sortingHeap (s1.heap.push (seqObj "list" vl.toArray 0)) s1.heap.objs.size vl } (PySem.W.dataKind (PySem.W.sortingHeap (s1.heap.push (seqObj "list" vl.toArray 0)) s1.heap.objs.size vl) (L1.map encB)) vl := by
    have bd : ∀ x ∈ L1.map encB, X.A.in1.in1.units + x.depth < cLine := fun x hx => by
      obtain ⟨b, hb, rfl⟩ := List.mem_map.mp hx
      have := tupB_depth d hd _ (hkey1 b hb)
      show X.A.units + 1 + 1 + (pd (tupB b.2)).depth < _
      omega
    by_cases hd1 : 1 ≤ d
    · refine PySem.W.SortsAt.data (PySem.W.each_map encB er') hal (.inl fun x hx => ?_) bd
      obtain ⟨b, hb, rfl⟩ := List.mem_map.mp hx
      exact tup1_of (tupB_tup1 d hd hd1 _ (hkey1 b hb))
    · refine sorts_short (PySem.W.each_map encB er') hal (fun x hx => ?_) bd ?_
      · obtain ⟨b, hb, rfl⟩ := List.mem_map.mp hx
        exact fun z => nomatch z
      · have d0 : d = 0 := by omega
        subst d0
        have := len1 n1 fun k hk => by
          obtain ⟨q, hq, rfl⟩ := List.mem_map.mp hk
          exact hkey q hq
        rw [List.length_map] at this
        omega
  refine wpAny_bind (wpAny_holding ?_)
  refine wpAny_call_entry slot_list_sort ⟨_, hoL, rfl⟩ entry_list_sort ?_ (args_list_sort _)
  refine PySem.W.list_sort_vals hoL so (by rw [sizeLine_eq]; omega) ?_
  refine ⟨.none, rfl, ?_⟩
  have eo := PySem.W.sortVals_data false ee er' hal
  obtain ⟨e', he'⟩ := sortedHeap_at (out := (PySem.W.sortVals (PySem.W.dataKind (PySem.W.sortingHeap (s1.heap.push (seqObj "list" vl.toArray 0)) s1.heap.objs.size vl) (L1.map encB)) false vl vl).toArray) hoL
  have hpn : H s1.heap.objs.size = none := I1.hok.fresh (Nat.le_refl _)
  have pm2 : (L1.mergeSort (dataLe false encB)).Perm L1 := List.mergeSort_perm ..
  have hz2 : ((L1.mergeSort (dataLe false encB)).map fun q => V.ref q.1).length ≤ sizeLine := by
    rw [List.length_map, List.length_mergeSort, sizeLine_eq]
    omega
  refine wpAny_pure ⟨_, rfl, .ref s1.heap.objs.size, upd H s1.heap.objs.size (.lst ((L1.mergeSort (dataLe false encB)).map fun q => V.ref q.1)), ?_, rfl, q _ _ ?_ (fun p hp => pL.mem_iff.mp (pm2.mem_iff.mp hp)) hpn⟩
  · refine Inv.laid (s := s1) (t' := s1.toks) I1 (fun b u e => ?_) (Nat.le_refl _) ⟨hz2, _, e', ?_, he'⟩
    · have hb := Heap.lt_size e
      rw [sortedHeap_old (Nat.ne_of_lt hb) (by rw [size_push']; exact Nat.lt_succ_of_lt hb)]
      exact Heap.get?_push_of_some _ e
    · rw [refs_each eo]
      exact vals_of_addrs _
  · have e1 : (L1.mergeSort (dataLe false encB)).map (·.2) = (L1.map (·.2)).mergeSort fun k l => leS (tupB k) (tupB l) := by
      rw [List.map_mergeSort]
      intro a _ b _
      rfl
    rw [e1]
    have n2 : (L1.map (·.2)).Nodup := (pL.map _).nodup_iff.mpr n1
    have pm3 : ((L1.map (·.2)).mergeSort fun k l => leS (tupB k) (tupB l)).Perm (L1.map (·.2)) := List.mergeSort_perm ..
    rw [pick_keys hd (l := (L1.map (·.2)).mergeSort fun k l => leS (tupB k) (tupB l)) (List.pairwise_mergeSort (fun a b c => leS_trans (tupB a) (tupB b) (tupB c)) (fun a b => leS_total (tupB a) (tupB b)) _) (pm3.nodup_iff.mpr n2) fun k hk => ?_]
    · refine List.filter_congr fun k _ => ?_
      rw [Bool.eq_iff_iff, List.contains_iff_mem, List.contains_iff_mem]
      exact (pm3.trans (pL.map _)).mem_iff
    · obtain ⟨q, hq, rfl⟩ := List.mem_map.mp (pm3.mem_iff.mp hk)
      exact hkey1 q hq
end
end PL
set_option Elab.async false
set_option linter.all false
set_option maxRecDepth 100000
set_option maxHeartbeats 4000000
namespace PL
open PySem PySem.Spec PyProof.Rows L2
def blsD : List D → Option (List Bool)
  | [] => some []
  | .bl b :: l => (blsD l).map (b :: ·)
  | _ => none
def keyD : D → Option (List Bool)
  | .tup l => blsD l
  | _ => none
def keysD : List D → Option (List (List Bool))
  | [] => some []
  | d :: l => (keyD d).bind fun k => (keysD l).map (k :: ·)
theorem blsD_eq : ∀ {l : List D} {k : List Bool}, blsD l = some k → l = k.map D.bl
  | [], k, h => by cases h; rfl
  | .bl b :: l, k, h => by
    unfold blsD at h
    cases e : blsD l with
    | none => rw [e] at h; cases h
    | some k' =>
      rw [e] at h
      cases h
      rw [blsD_eq e]
      rfl
  | .non :: _, _, h => nomatch h
  | .int _ :: _, _, h => nomatch h
  | .str _ :: _, _, h => nomatch h
  | .tup _ :: _, _, h => nomatch h
  | .lst _ :: _, _, h => nomatch h
  | .fix _ :: _, _, h => nomatch h
  | .dct _ :: _, _, h => nomatch h
  | .obj _ _ :: _, _, h => nomatch h
  | .cell _ :: _, _, h => nomatch h
  | .fn _ :: _, _, h => nomatch h
theorem blsD_map : ∀ k : List Bool, blsD (k.map D.bl) = some k
  | [] => rfl
  | b :: k => by
    show (blsD (k.map D.bl)).map (b :: ·) = _
    rw [blsD_map k]
    rfl
theorem keyD_eq {d : D} {k : List Bool} (h : keyD d = some k) : d = tupB k := by
  unfold keyD at h
  split at h
  · rw [blsD_eq h]; rfl
  · cases h
theorem keysD_eq : ∀ {l : List D} {ks : List (List Bool)}, keysD l = some ks → l = ks.map tupB
  | [], ks, h => by cases h; rfl
  | d :: l, ks, h => by
    unfold keysD at h
    cases e : keyD d with
    | none => rw [e] at h; cases h
    | some k =>
      rw [e, Option.bind_some] at h
      cases e2 : keysD l with
      | none => rw [e2] at h; cases h
      | some ks' =>
        rw [e2] at h
        cases h
        rw [keyD_eq e, keysD_eq e2]
        rfl
theorem keysD_map : ∀ ks : List (List Bool), keysD (ks.map tupB) = some ks
  | [] => rfl
  | k :: ks => by
    show (blsD (k.map D.bl)).bind (fun k => (keysD (ks.map tupB)).map (k :: ·)) = _
    rw [blsD_map, keysD_map ks]
    rfl
def sameLen (ks : List (List Bool)) : Bool := decide ((ks.headD []).length ≤ 3) && ks.all fun k => decide (k.length = (ks.headD []).length)
def sortedSetD (ds : List D) (_ : Sta) : Option D := match ds with
  | [.lst l] => (keysD l).bind fun ks => if sameLen ks = true then some (.lst (((keysB (ks.headD []).length).filter fun k => ks.contains k).map tupB)) else none
  | _ => none
theorem sortedSet_ok {ks : List (List Bool)} {d : Nat} {st : Sta} (hd : d ≤ 3) (hne : ks ≠ []) (h : ∀ k ∈ ks, k.length = d) : sortedSetD [.lst (ks.map tupB)] st = some (.lst (((keysB d).filter fun k => ks.contains k).map tupB)) := by
  cases ks with
  | nil => exact absurd rfl hne
  | cons k0 r =>
    have e0 : k0.length = d := h k0 (.head _)
    have hs : sameLen (k0 :: r) = true := by
      unfold sameLen
      rw [Bool.and_eq_true, List.all_eq_true]
      refine ⟨decide_eq_true (by show k0.length ≤ 3; omega), fun k hk => decide_eq_true ?_⟩
      show k.length = k0.length
      rw [h k hk, e0]
    unfold sortedSetD
    dsimp only
    rw [keysD_map, Option.bind_some, if_pos hs]
    show some (D.lst (((keysB k0.length).filter _).map tupB)) = _
    rw [e0]
section
variable {K : PySem.W.Frag} {mg : Str → Option Value} {F : Hp} {A : List Addr}
theorem reps_bls : ∀ {k : List Bool} {vs : List V}, Reps K mg F A vs (k.map D.bl) → vs = k.map V.bl
  | [], _, h => by cases h; rfl
  | b :: k, _, h => by
    cases h with
    | cons r t =>
      cases r
      rw [reps_bls t]
      rfl
theorem rep_tupB {v : V} {k : List Bool} (h : Rep K mg F A v (tupB k)) : ∃ a, v = .ref a ∧ SqT K F a (k.map V.bl) := by
  unfold tupB at h
  cases h with
  | tup s r =>
    rw [reps_bls r] at s
    exact ⟨_, rfl, s⟩
theorem tupB_rep : ∀ k : List Bool, Reps K mg F A (k.map V.bl) (k.map D.bl)
  | [] => .nil
  | b :: k => .cons (.bl b) (tupB_rep k)
theorem reps_keys : ∀ {ks : List (List Bool)} {vs : List V}, Reps K mg F A vs (ks.map tupB) → ∃ L : List (Addr × List Bool), vs = L.map (fun p => V.ref p.1) ∧ L.map (·.2) = ks ∧ ∀ p ∈ L, SqT K F p.1 (p.2.map V.bl)
  | [], _, h => by cases h; exact ⟨[], rfl, rfl, fun _ z => nomatch z⟩
  | k :: ks, _, h => by
    cases h with
    | cons r t =>
      obtain ⟨a, rfl, s⟩ := rep_tupB r
      obtain ⟨L, e1, e2, e3⟩ := reps_keys t
      refine ⟨(a, k) :: L, by rw [e1]; rfl, by rw [List.map_cons, e2], fun p hp => ?_⟩
      rcases List.mem_cons.mp hp with rfl | hp
      · exact s
      · exact e3 p hp
theorem keys_reps : ∀ {L : List (Addr × List Bool)}, (∀ p ∈ L, SqT K F p.1 (p.2.map V.bl)) → Reps K mg F A (L.map fun p => V.ref p.1) ((L.map (·.2)).map tupB)
  | [], _ => .nil
  | p :: L, h => .cons (.tup (h p (.head _)) (tupB_rep _)) (keys_reps fun q hq => h q (.tail _ hq))
theorem dp_bls : ∀ k : List Bool, DpAll K F (k.map V.bl) (pds (k.map D.bl))
  | [] => .nil
  | b :: k => .cons (.bl b) (dp_bls k)
end
section
variable {X : Cx} {B : Bs} {W : WX} {e : Expr} {fs : Env → M (List D)} {p p2 pos pos2 : Pos}
theorem pp_sortedSet (hu : X.A.units + 64 < cLine) (hc : X.calm = true) (hg : Gl X "sorted") (hm : X.mg "sorted" = none) (hg2 : Gl X "set") (hm2 : X.mg "set" = none) (ha : PA X [e] (rA X.K X.mg B W fs))
    (s1 : starEach [e] X.env = (false, eval e X.env) :: starEach [] X.env := by rfl) (s2 : (backTo pos2 (starEach [] X.env)).any (·.1) = false := by rfl)
    (s3 : starEach [.Call (.Name "set" p2) [e] [] pos2] X.env = (false, eval (.Call (.Name "set" p2) [e] [] pos2) X.env) :: starEach [] X.env := by rfl) (s4 : (backTo pos (starEach [] X.env)).any (·.1) = false := by rfl) :
    PE X (.Call (.Name "sorted" p) [.Call (.Name "set" p2) [e] [] pos2] [] pos) (rE X.K X.mg B W (opN sortedSetD fs)) := by
  refine (pe_callB (cr_sortedB hu hc) hg hm bt_sorted (pa_cons (pe_callTy (cr_setOfB hc hu) hg2 hm2 PyProof.Rows.boot_set ha (by decide) (by decide) s1 s2) pa_nil s3) (by decide) (by decide) s3 s4).imp fun σ H Q z => ?_
  obtain ⟨gh, env, st, R, w⟩ := z
  refine seqA R w fun ds st1 F1 A1 H1 xs R1 x1 r1 w1 => ?_
  obtain ⟨u, eu, w3⟩ := WPc.rd w1
  have G := R1.good
  unfold sortedSetD at eu
  split at eu
  · rename_i l
    obtain ⟨v, rfl, r⟩ := reps1 r1
    cases hk : keysD l with
    | none => rw [hk] at eu; cases eu
    | some ks =>
      rw [hk, Option.bind_some] at eu
      split at eu
      · rename_i hs
        cases eu
        have el := keysD_eq hk
        subst el
        unfold sameLen at hs
        rw [Bool.and_eq_true, List.all_eq_true] at hs
        have hd := of_decide_eq_true hs.1
        have hall : ∀ k ∈ ks, k.length = (ks.headD []).length := fun k hk => of_decide_eq_true (hs.2 k hk)
        generalize (ks.headD []).length = d at hd hall w3
        cases r with
        | lst s rs =>
          obtain ⟨L0, e1, e2, e3⟩ := reps_keys rs
          subst e1 e2
          have up : ∀ {H' : Hp}, (∀ b o, F1 b = some o → H' b = some o) → ∀ q ∈ L0, SqT X.K H' q.1 (q.2.map V.bl) := fun k q hq => SqT.mono (e3 q hq) k
          refine ⟨_, L0, d, rfl, SqL.of (G.sub _ _ s), up G.sub, hd, fun q hq => hall _ (List.mem_map.mpr ⟨q, hq, rfl⟩), fun a L hn sub all => ?_⟩
          obtain ⟨x2, G2⟩ := Ext.alloc (o := SetBO X.w a L d) G hn
          refine ⟨a, L, d, rfl, upd_same, fun q hq => .tup (up (fun b o h => G2.sub b o (x2.fro b o h)) q (sub q hq)) (dp_bls _), hd, fun L' p' eL' sub' hp' => ?_⟩
          obtain ⟨x3, G3⟩ := Ext.alloc (o := .lst (L'.map fun q => V.ref q.1)) G2 hp'
          refine w3 _ _ _ (x2.trans x3) G3 _ (.lst upd_same ?_)
          have ef : ((keysB d).filter fun k => (L0.map (·.2)).contains k) = L'.map (·.2) := by
            rw [eL']
            refine List.filter_congr fun k _ => ?_
            rw [Bool.eq_iff_iff, List.contains_iff_mem, List.contains_iff_mem]
            refine ⟨fun h => ?_, fun h => ?_⟩
            · obtain ⟨q, hq, rfl⟩ := List.mem_map.mp h
              exact all q hq
            · obtain ⟨q, hq, rfl⟩ := List.mem_map.mp h
              exact List.mem_map.mpr ⟨q, sub q hq, rfl⟩
          rw [ef]
          exact keys_reps fun q hq => up (fun b o h => (x2.trans x3).fro b o h) q (sub q (sub' q hq))
      · cases eu
  · cases eu
end
end PL
set_option Elab.async false
set_option linter.all false
set_option maxRecDepth 100000
set_option maxHeartbeats 4000000
namespace PL
open PySem PySem.Spec PyProof.Rows L2
def c_law_key_1 : Env → M (List D) := (mLc [2] (bName 2) yes (op2 ixD (op2 ixD (vr 0) (cn (.int 2))) (vr 2)) (itO seqIt (vr 1)))
def b_law_key : SD := (sRet (opN tupleD (argsC (lstF c_law_key_1) args0)))
def m_law_key : List D → M D := runB 3 b_law_key

def c_law_by_1 : Env → M (List D) := (mLc [10] (bName 10) yes (op2 ixD (vr 10) (cn (.int 3))) (itO seqIt (vr 8)))
def c_law_by_2 : Env → M (List D) := (mLc [10] (bName 10) (tst (op2 ixD (vr 10) (cn (.int 1)))) (op2 ixD (vr 10) (cn (.int 3))) (itO seqIt (vr 8)))
def c_law_by_3 : Env → M (List D) := (mLc [10] (bName 10) (mAnd (tBool (op2 eqD (op2 ixD (vr 10) (cn (.int 0))) (vr 7))) (tBool (op2 eqD (mCall (argsC (vr 10) (argsC (vr 2) args0)) (argN 2 m_law_key)) (vr 5)))) (vr 10) (itO seqIt (vr 0)))
def l_law_by_1 : SD := (sSeq (sSet 8 (lstF c_law_by_3)) (sSeq (sSet 9 (opN sumD (argsC (lstF c_law_by_2) args0))) (sAppO 6 (opN mkTup (argsC (vr 9) (argsC (opN sumD (argsC (lstF c_law_by_1) args0)) args0))))))
def l_law_by_2 : SD := (sSeq (sOwn 6 (dispL args0)) (sSeq (sFor (itN rng1 (argsC (vr 1) args0)) (aName 7) l_law_by_1) (sFrz 6 (sAppO 4 (opN tupleD (argsC (vr 6) args0))))))
def c_law_by_4 : Env → M (List D) := (mLc [10] (bName 10) yes (mCall (argsC (vr 10) (argsC (vr 2) args0)) (argN 2 m_law_key)) (itO seqIt (vr 0)))
def b_law_by : SD := (sSeq (sSet 3 (opN sortedSetD (argsC (lstF c_law_by_4) args0))) (sSeq (sOwn 4 (dispL args0)) (sSeq (sFor (itO seqIt (vr 3)) (aName 5) l_law_by_2) (sFrz 4 (sRet (opN tupleD (argsC (vr 4) args0)))))))
def m_law_by : List D → M D := runB 11 b_law_by
def b_Ledger_eq : SD := (sRet (mAndV (op1 (isiC "Ledger" CS) (vr 1)) (mAndV (op2 eqD (op1 (fldD "Ledger" "lines") (vr 0)) (op1 (fldD "Ledger" "lines") (vr 1))) (op2 eqD (op1 (fldD "Ledger" "many") (vr 0)) (op1 (fldD "Ledger" "many") (vr 1))))))
def m_Ledger_eq : List D → M D := runB 2 b_Ledger_eq
section
variable {st : Sta} {QS : SR → Prop} {w q : Nat} {es : List Le} {e : Le} {ms : List Nat} {k : List Bool}
theorem law_key_ok (he : e.ms.length = q) (hm : ms.length ≤ 3) (hq : ∀ m ∈ ms, m < q) : m_law_key [lgE e, tpD ms] st = .ok (kbD (kOf ms e)) st := by
  have sq : seqIt (tpD ms) st = some (ms.map natD) := rfl
  have i2 : ixD (lgE e) (.int 2) st = some (.tup (e.ms.map .bl)) := rfl
  have cc : c_law_key_1 [some (.fro (lgE e)), some (.fro (tpD ms)), none] st = .ok ((kOf ms e).map .bl) st := by
    apply ev_res
    unfold c_law_key_1
    generalize lgE e = E at *
    generalize hT : tpD ms = T at *
    simp [sq]
    rw [evC_map (enc := natD) (e1 := fun m => [some (.fro E), some (.fro T), some (.fro (natD m))]) (fv := fun m => .bl (e.ms.getD m false))]
    · simp [kOf]
    · intro m hm'
      have lt := hq m hm'
      have x1 : ixD (.tup (e.ms.map D.bl)) (natD m) st = some (.bl (e.ms.getD m false)) := by
        show atI (e.ms.map D.bl) (m : Int) = _
        rw [atI_nat (by simp; omega)]
        simp [List.getD_eq_getElem?_getD, List.getElem?_eq_getElem (show m < e.ms.length by omega)]
      refine ⟨rfl, by simp, ?_⟩
      generalize D.tup (e.ms.map D.bl) = B at *
      generalize natD m = N at *
      simp [i2, x1]
    · exact small_m (by omega)
  have tl : tupleD [.lst ((kOf ms e).map .bl)] st = some (kbD (kOf ms e)) := rfl
  apply ev_run
  unfold m_law_key b_law_key
  generalize lgE e = E at *
  generalize tpD ms = T at *
  generalize (kOf ms e).map D.bl = B at *
  simp [evM_of cc, tl]
theorem eqB_bls : ∀ k l : List Bool, eqB (.tup (k.map .bl)) (.tup (l.map .bl)) = decide (k = l)
  | [], [] => rfl
  | [], b :: l => rfl
  | a :: k, [] => rfl
  | a :: k, b :: l => by
    have h : eqB (.tup ((a :: k).map .bl)) (.tup ((b :: l).map .bl)) = (eqB (.bl a) (.bl b) && eqB (.tup (k.map .bl)) (.tup (l.map .bl))) := rfl
    rw [h, eqB_bls k l]
    have h2 : eqB (.bl a) (.bl b) = decide (a = b) := by cases a <;> cases b <;> rfl
    rw [h2]
    by_cases c : a = b
    · subst c
      simp
    · simp [c]
theorem eqD_kb {k l : List Bool} : eqD (kbD k) (kbD l) st = some (.bl (decide (k = l))) := by
  unfold kbD
  rw [eqD_of (n := 4) (by simp [pln]) (by simp [pln]) (by decide), eqB_bls]
def selE (ms : List Nat) (k : List Bool) (j : Nat) (es : List Le) : List Le := es.filter fun e => decide (e.way = j) && decide (kOf ms e = k)
theorem sel_sum : ∀ es : List Le, ((selE ms k j es).map fun e => (e.n : Int)).sum = (cntE ms k j es).2
  | [] => rfl
  | e :: es => by
    have ih : ((selE ms k j es).map fun e => (e.n : Int)).sum = (cntE ms k j es).2 := sel_sum es
    unfold cntE at ih ⊢
    dsimp only at ih ⊢
    rw [List.map_cons, List.sum_cons, ← ih]
    unfold selE
    by_cases c : kOf ms e = k ∧ e.way = j
    · rw [List.filter_cons_of_pos (by simp [c.1, c.2]), List.map_cons, List.sum_cons, if_pos c]
    · rw [List.filter_cons_of_neg (by simp; intro h1 h2; exact c ⟨h2, h1⟩), if_neg c]
      omega
theorem sel_good : ∀ es : List Le, (((selE ms k j es).filter fun e => e.good).map fun e => (e.n : Int)).sum = (cntE ms k j es).1
  | [] => rfl
  | e :: es => by
    have ih : (((selE ms k j es).filter fun e => e.good).map fun e => (e.n : Int)).sum = (cntE ms k j es).1 := sel_good es
    unfold cntE at ih ⊢
    dsimp only at ih ⊢
    rw [List.map_cons, List.sum_cons, ← ih]
    unfold selE
    by_cases c : kOf ms e = k ∧ e.way = j
    · rw [List.filter_cons_of_pos (by simp [c.1, c.2])]
      by_cases g : e.good = true
      · rw [List.filter_cons_of_pos (by simpa using g), List.map_cons, List.sum_cons, if_pos ⟨c.1, c.2, g⟩]
      · rw [List.filter_cons_of_neg (by simpa using g), if_neg fun z => g z.2.2]
        omega
    · rw [List.filter_cons_of_neg (by simp; intro h1 h2; exact c ⟨h2, h1⟩), if_neg fun z => c ⟨z.1, z.2.1⟩]
      omega
abbrev LbE (es : List Le) (w : Nat) (ms : List Nat) (x3 x4 x5 x6 x7 x8 x9 x10 : Option SV) : Env := [some (.fro (linesD es)), some (.fro (.int (w : Nat))), some (.fro (tpD ms)), x3, x4, x5, x6, x7, x8, x9, x10]
theorem lb_3 {x3 x4 x6 x8 x9 x10 : Option SV} {j : Nat} (L : Lg w q es) (hm : ms.length ≤ 3) (hq : ∀ m ∈ ms, m < q) : c_law_by_3 (LbE es w ms x3 x4 (some (.fro (kbD k))) x6 (some (.fro (natD j))) x8 x9 x10) st = .ok ((selE ms k j es).map lgE) st := by
  have n40 := L.n40
  have sq : seqIt (linesD es) st = some (es.map lgE) := rfl
  apply ev_res
  unfold c_law_by_3 LbE
  generalize hT : linesD es = T at *
  generalize hK : kbD k = KD at *
  simp [sq]
  rw [evC_fmap (enc := lgE) (e1 := fun e => [some (.fro T), some (.fro (.int (w : Nat))), some (.fro (tpD ms)), x3, x4, some (.fro KD), x6, some (.fro (natD j)), x8, x9, some (.fro (lgE e))]) (p := fun e => decide (e.way = j) && decide (kOf ms e = k)) (fv := lgE)]
  · simp [selE]
  · intro e he
    have hE := L.ok e he
    have i0 : ixD (lgE e) (.int 0) st = some (.int (e.way : Nat)) := rfl
    have ky := law_key_ok (st := st) (e := e) hE.len hm hq
    have eq := eqD_kb (st := st) (k := kOf ms e) (l := k)
    rw [hK] at eq
    generalize lgE e = E at *
    generalize tpD ms = T2 at *
    generalize kbD (kOf ms e) = K2 at *
    refine ⟨rfl, ?_, fun _ => by simp⟩
    by_cases c : e.way = j
    · subst c
      simp [i0, natD, ky, eq, eqD_int]
    · have c' : ¬ (e.way : Int) = (j : Int) := by omega
      simp [i0, natD, ky, eq, eqD_int, c, c']
  · exact small_f (by omega)
theorem lb_1 {x0 x1 x2 x3 x4 x5 x6 x7 x9 x10 : Option SV} {l : List Le} (hl : l.length ≤ 40) : c_law_by_1 [x0, x1, x2, x3, x4, x5, x6, x7, some (.fro (.lst (l.map lgE))), x9, x10] st = .ok (l.map fun e => .int (e.n : Int)) st := by
  have sq : seqIt (.lst (l.map lgE)) st = some (l.map lgE) := rfl
  apply ev_res
  unfold c_law_by_1
  generalize hA : D.lst (l.map lgE) = A at *
  simp [sq]
  rw [evC_map (enc := lgE) (e1 := fun e => [x0, x1, x2, x3, x4, x5, x6, x7, some (.fro A), x9, some (.fro (lgE e))]) (fv := fun e => .int (e.n : Int))]
  · simp
  · intro e _
    have i3 : ixD (lgE e) (.int 3) st = some (.int (e.n : Nat)) := rfl
    generalize lgE e = E at *
    exact ⟨rfl, by simp, by simp [i3]⟩
  · exact small_m (by omega)
theorem lb_2 {x0 x1 x2 x3 x4 x5 x6 x7 x9 x10 : Option SV} {l : List Le} (hl : l.length ≤ 40) : c_law_by_2 [x0, x1, x2, x3, x4, x5, x6, x7, some (.fro (.lst (l.map lgE))), x9, x10] st = .ok ((l.filter fun e => e.good).map fun e => .int (e.n : Int)) st := by
  have sq : seqIt (.lst (l.map lgE)) st = some (l.map lgE) := rfl
  apply ev_res
  unfold c_law_by_2
  generalize hA : D.lst (l.map lgE) = A at *
  simp [sq]
  rw [evC_fmap (enc := lgE) (e1 := fun e => [x0, x1, x2, x3, x4, x5, x6, x7, some (.fro A), x9, some (.fro (lgE e))]) (p := fun e => e.good) (fv := fun e => .int (e.n : Int))]
  · simp
  · intro e _
    have i3 : ixD (lgE e) (.int 3) st = some (.int (e.n : Nat)) := rfl
    have i1 : ixD (lgE e) (.int 1) st = some (.bl e.good) := rfl
    generalize lgE e = E at *
    exact ⟨rfl, by simp [i1], fun _ => by simp [i3]⟩
  · exact small_f (by omega)
end
end PL
set_option Elab.async false
set_option linter.all false
set_option maxRecDepth 100000
set_option maxHeartbeats 4000000
namespace PL
open PySem PySem.Spec PyProof.Rows L2
section
variable {st : Sta} {QS : SR → Prop} {w q : Nat} {es : List Le} {e : Le} {ms : List Nat} {k : List Bool} {x3 x4 x5 x6 x7 x8 x9 x10 : Option SV}
def LwI (es : List Le) (w : Nat) (ms : List Nat) (k : List Bool) (x3 x4 : Option SV) (st : Sta) (n : Nat) (env : Env) (st' : Sta) : Prop :=
  ∃ x7 x8 x9 x10, env = LbE es w ms x3 x4 (some (.fro (kbD k))) (some (.own (.lst (((List.range n).map fun j => cntE ms k j es).map cellD)))) x7 x8 x9 x10 ∧ st = st'
theorem lb_way (L : Lg w q es) (hm : ms.length ≤ 3) (hq : ∀ m ∈ ms, m < q) {n : Nat} (hn : n < w) {env : Env} {st' : Sta} (hI : LwI es w ms k x3 x4 st n env st') :
    evS (aName 7 (natD n)) env st' (kTg l_law_by_1 (kI (LwI es w ms k x3 x4 st (n + 1)) QS)) := by
  obtain ⟨x7, x8, x9, x10, e1, e2⟩ := hI
  subst e1 e2
  have w4 := L.w4
  have n40 := L.n40
  have c3 := lb_3 (st := st) (x3 := x3) (x4 := x4) (x6 := some (.own (.lst (((List.range n).map fun j => cntE ms k j es).map cellD)))) (x8 := x8) (x9 := x9) (x10 := x10) (k := k) (j := n) L hm hq
  have sl : (selE ms k n es).length ≤ 40 := Nat.le_trans (List.length_filter_le _ _) n40
  have c2 := fun y9 => lb_2 (st := st) (x0 := some (.fro (linesD es))) (x1 := some (.fro (.int (w : Nat)))) (x2 := some (.fro (tpD ms))) (x3 := x3) (x4 := x4) (x5 := some (.fro (kbD k))) (x6 := some (.own (.lst (((List.range n).map fun j => cntE ms k j es).map cellD)))) (x7 := some (.fro (natD n))) (x9 := y9) (x10 := x10) sl
  have c1 := fun y9 => lb_1 (st := st) (x0 := some (.fro (linesD es))) (x1 := some (.fro (.int (w : Nat)))) (x2 := some (.fro (tpD ms))) (x3 := x3) (x4 := x4) (x5 := some (.fro (kbD k))) (x6 := some (.own (.lst (((List.range n).map fun j => cntE ms k j es).map cellD)))) (x7 := some (.fro (natD n))) (x9 := y9) (x10 := x10) sl
  have s1 : sumD [.lst ((selE ms k n es).map fun e => D.int (e.n : Int))] st = some (.int (cntE ms k n es).2) := by rw [sumD_map, sel_sum]
  have s2 : sumD [.lst (((selE ms k n es).filter fun e => e.good).map fun e => D.int (e.n : Int))] st = some (.int (cntE ms k n es).1) := by rw [sumD_map, sel_good]
  have nx : LwI es w ms k x3 x4 st (n + 1) (LbE es w ms x3 x4 (some (.fro (kbD k))) (some (.own (.lst ((((List.range n).map fun j => cntE ms k j es).map cellD) ++ [.tup [.int (cntE ms k n es).1, .int (cntE ms k n es).2]])))) (some (.fro (natD n))) (some (.fro (.lst ((selE ms k n es).map lgE)))) (some (.fro (.int (cntE ms k n es).1))) x10) st :=
    ⟨_, _, _, _, by rw [List.range_succ, List.map_append, List.map_append]; rfl, rfl⟩
  have sz : (((List.range n).map fun j => cntE ms k j es).map cellD).length < sizeLine := by
    rw [sizeLine_eq]
    simp
    omega
  unfold LbE at c3 nx ⊢
  simp only [evS_aName, kTg_nx, List.set_cons_succ, List.set_cons_zero]
  unfold l_law_by_1
  generalize (((List.range n).map fun j => cntE ms k j es).map cellD) = A at *
  generalize (selE ms k n es).map (fun e => D.int (e.n : Int)) = B at *
  generalize ((selE ms k n es).filter fun e => e.good).map (fun e => D.int (e.n : Int)) = C at *
  generalize (selE ms k n es).map lgE = F at *
  generalize linesD es = LD at *
  generalize tpD ms = T at *
  generalize kbD k = KD at *
  simp [evM_of c3, evM_of (c2 _), evM_of (c1 _), s1, s2, sz]
  exact nx
theorem ks_filter : ((keysB ms.length).filter fun k => (es.map (kOf ms)).contains k) = keysE ms es := by
  have ek : ∀ n, keysB n = allK n := fun n => by
    induction n with
    | zero => rfl
    | succ n ih =>
      show (keysB n).map (false :: ·) ++ (keysB n).map (true :: ·) = _
      rw [ih]
      rfl
  unfold keysE
  rw [ek]
  refine List.filter_congr fun k _ => ?_
  rw [Bool.eq_iff_iff, List.contains_iff_mem, List.mem_map, List.any_eq_true]
  simp
def LkI (es : List Le) (w : Nat) (ms : List Nat) (x3 : Option SV) (st : Sta) (l : List (List Bool)) (env : Env) (st' : Sta) : Prop :=
  ∃ done x5 x6 x7 x8 x9 x10, keysE ms es = done ++ l ∧ env = LbE es w ms x3 (some (.own (.lst ((done.map fun k => rowE w ms k es).map rowD)))) x5 x6 x7 x8 x9 x10 ∧ st = st'
theorem lb_key (L : Lg w q es) (hm : ms.length ≤ 3) (hq : ∀ m ∈ ms, m < q) {l : List (List Bool)} {env : Env} {st' : Sta} (hI : LkI es w ms x3 st (k :: l) env st') :
    evS (aName 5 (kbD k)) env st' (kTg l_law_by_2 (kI (LkI es w ms x3 st l) QS)) := by
  obtain ⟨done, x5, x6, x7, x8, x9, x10, e0, e1, e2⟩ := hI
  subst e1 e2
  have w4 := L.w4
  have kn : (keysE ms es).length ≤ 8 := Nat.le_trans (List.length_filter_le _ _) (allK_le _ hm)
  have sz : ((done.map fun k => rowE w ms k es).map rowD).length < sizeLine := by
    rw [e0] at kn
    rw [sizeLine_eq]
    simp at kn ⊢
    omega
  unfold LbE
  simp only [evS_aName, kTg_nx, List.set_cons_succ, List.set_cons_zero]
  unfold l_law_by_2
  simp [rng1_w (show w ≤ 1000 by omega), -List.map_map]
  refine evL_upto (fun n => LwI es w ms k x3 (some (.own (.lst ((done.map fun k => rowE w ms k es).map rowD)))) st n) (fun n hn env st' hI => lb_way L hm hq hn hI) ?_ ⟨_, _, _, _, rfl, rfl⟩
  intro env st' hI
  obtain ⟨y7, y8, y9, y10, e1, e2⟩ := hI
  subst e1 e2
  have tl : tupleD [.lst (((List.range w).map fun j => cntE ms k j es).map cellD)] st = some (rowD (rowE w ms k es)) := rfl
  have nx : ∀ z6, LkI es w ms x3 st l (LbE es w ms x3 (some (.own (.lst (((done.map fun k => rowE w ms k es).map rowD) ++ [rowD (rowE w ms k es)])))) (some (.fro (kbD k))) z6 y7 y8 y9 y10) st := fun z6 =>
    ⟨done ++ [k], _, _, _, _, _, _, by rw [e0, List.append_assoc]; rfl, by rw [List.map_append, List.map_append]; rfl, rfl⟩
  unfold LbE at nx ⊢
  generalize (done.map fun k => rowE w ms k es).map rowD = A at *
  generalize ((List.range w).map fun j => cntE ms k j es).map cellD = B at *
  generalize rowD (rowE w ms k es) = R at *
  simp [tl, sz]
  exact nx _
theorem law_by_ok (L : Lg w q es) (hm : ms.length ≤ 3) (hq : ∀ m ∈ ms, m < q) : m_law_by [linesD es, .int (w : Nat), tpD ms] st = .ok (rowsD (rbRows w ms es)) st := by
  have n40 := L.n40
  have n1 := L.n1
  have sq : seqIt (linesD es) st = some (es.map lgE) := rfl
  have c4 : c_law_by_4 (LbE es w ms none none none none none none none none) st = .ok ((es.map (kOf ms)).map tupB) st := by
    apply ev_res
    unfold c_law_by_4 LbE
    generalize hT : linesD es = T at *
    simp [sq]
    rw [evC_map (enc := lgE) (e1 := fun e => [some (.fro T), some (.fro (.int (w : Nat))), some (.fro (tpD ms)), none, none, none, none, none, none, none, some (.fro (lgE e))]) (fv := fun e => kbD (kOf ms e))]
    · simp [Function.comp_def]
      intros
      rfl
    · intro e he
      have ky := law_key_ok (st := st) (e := e) (L.ok e he).len hm hq
      generalize lgE e = E at *
      generalize tpD ms = T2 at *
      exact ⟨rfl, by simp, by simp [ky]⟩
    · exact small_m (by omega)
  have so := sortedSet_ok (ks := es.map (kOf ms)) (d := ms.length) (st := st) hm (by
    intro z
    rw [List.map_eq_nil_iff] at z
    rw [z] at n1
    simp at n1) (fun k hk => by
    obtain ⟨e, _, rfl⟩ := List.mem_map.mp hk
    exact kOf_len)
  rw [ks_filter] at so
  have sq2 : seqIt (.lst ((keysE ms es).map tupB)) st = some ((keysE ms es).map kbD) := rfl
  apply ev_run
  unfold m_law_by b_law_by
  unfold LbE at c4
  have fin : evL (aName 5) l_law_by_2 ((keysE ms es).map kbD) (LbE es w ms (some (.fro (.lst ((keysE ms es).map tupB)))) (some (.own (.lst []))) none none none none none none) st (kSeq (sFrz 4 (sRet (opN tupleD (argsC (vr 4) args0)))) (kRun (qEq (.ok (rowsD (rbRows w ms es)) st)))) := by
    refine evL_inv (LkI es w ms (some (.fro (.lst ((keysE ms es).map tupB)))) st) (fun k l env st' hI => lb_key L hm hq hI) ?_ ⟨[], _, _, _, _, _, _, rfl, rfl, rfl⟩
    intro env st' hI
    obtain ⟨done, x5, x6, x7, x8, x9, x10, e0, e1, e2⟩ := hI
    rw [List.append_nil] at e0
    subst e1 e2
    have tl : tupleD [.lst ((done.map fun k => rowE w ms k es).map rowD)] st = some (rowsD (rbRows w ms es)) := by
      unfold rbRows
      rw [e0]
      rfl
    unfold LbE
    generalize (done.map fun k => rowE w ms k es).map rowD = A at *
    generalize rowsD (rbRows w ms es) = R at *
    simp [tl]
  unfold LbE at fin
  generalize (es.map (kOf ms)).map tupB = A at *
  generalize hB : (keysE ms es).map tupB = B at *
  generalize linesD es = T at *
  generalize tpD ms = T2 at *
  simp [evM_of c4, so, sq2]
  exact fin
end
def own_Ledger_eq (x y : D) (st : Sta) : Option D := match fldD "Ledger" "lines" x st, fldD "Ledger" "many" x st with
  | some a, some c => (match y with
    | .tup _ => some (.bl false)
    | .obj n fs => (match fldD "Ledger" "lines" (.obj n fs) st, fldD "Ledger" "many" (.obj n fs) st with
      | some b, some d => (match eqD a b st with
        | some (.bl true) => eqD c d st
        | some (.bl false) => some (.bl false)
        | _ => none)
      | _, _ => none)
    | _ => none)
  | _, _ => none
theorem fld_objL {f : Str} {x a : D} {st : Sta} (h : fldD "Ledger" f x st = some a) : isObj "Ledger" x st = true := by
  unfold fldD at h
  split at h
  · assumption
  · cases h
theorem eqD_bl {a b z : D} {st : Sta} (h : eqD a b st = some z) : ∃ c, z = .bl c := by
  unfold eqD at h
  split at h
  · cases h
    exact ⟨_, rfl⟩
  · cases h
theorem ownk_Ledger_eq : OwnOk "Ledger" m_Ledger_eq own_Ledger_eq := by
  refine ⟨fun x y st z h => ?_⟩
  unfold own_Ledger_eq at h
  cases e : fldD "Ledger" "lines" x st with
  | none => rw [e] at h; cases h
  | some a =>
    cases e' : fldD "Ledger" "many" x st with
    | none => rw [e, e'] at h; cases h
    | some c =>
      rw [e, e'] at h
      dsimp only at h
      cases y with
      | tup l =>
        cases h
        refine ⟨fld_objL e, rfl, _, rfl, ?_⟩
        have ii : isiC "Ledger" CS (.tup l) st = some (.bl false) := rfl
        apply ev_run
        unfold m_Ledger_eq b_Ledger_eq
        simp [ii]
      | obj n fs =>
        dsimp only at h
        cases e2 : fldD "Ledger" "lines" (.obj n fs) st with
        | none => rw [e2] at h; cases h
        | some b =>
          cases e3 : fldD "Ledger" "many" (.obj n fs) st with
          | none => rw [e2, e3] at h; cases h
          | some d =>
            rw [e2, e3] at h
            dsimp only at h
            have ho := fld_objL e2
            have hc : (n == ("Ledger" : Str)) = true := ho
            have hc' : n = ("Ledger" : Str) := by simpa using hc
            have ii : isiC "Ledger" CS (.obj n fs) st = some (.bl true) := by
              rw [hc', isiC_obj (by decide)]
              rfl
            cases e4 : eqD a b st with
            | none => rw [e4] at h; cases h
            | some v =>
              obtain ⟨c4, rfl⟩ := eqD_bl e4
              rw [e4] at h
              cases c4 with
              | false =>
                cases h
                refine ⟨fld_objL e, ho, false, rfl, ?_⟩
                apply ev_run
                unfold m_Ledger_eq b_Ledger_eq
                simp [ii, e, e2, e4]
              | true =>
                dsimp only at h
                obtain ⟨c5, rfl⟩ := eqD_bl h
                refine ⟨fld_objL e, ho, c5, rfl, ?_⟩
                apply ev_run
                unfold m_Ledger_eq b_Ledger_eq
                simp [ii, e, e', e2, e3, e4, h]
      | _ => cases h
section
variable {st : Sta} {w q v : Nat} {es fs : List Le}
theorem own_led_tup {l : List D} : own_Ledger_eq (ledgerD es w) (.tup l) st = some (.bl false) := by
  have e1 := fld_lines (st := st) (es := es) (w := w)
  have e2 := fld_many (st := st) (es := es) (w := w)
  unfold own_Ledger_eq
  rw [e1, e2]
theorem own_led : own_Ledger_eq (ledgerD es w) (ledgerD fs v) st = (match eqD (linesD es) (linesD fs) st with
    | some (.bl true) => some (.bl (decide ((w : Int) = (v : Int))))
    | some (.bl false) => some (.bl false)
    | _ => none) := by
  have e1 := fld_lines (st := st) (es := es) (w := w)
  have e2 := fld_many (st := st) (es := es) (w := w)
  have e3 := fld_lines (st := st) (es := fs) (w := v)
  have e4 := fld_many (st := st) (es := fs) (w := v)
  unfold own_Ledger_eq
  rw [e1, e2]
  unfold ledgerD at e3 e4 ⊢
  dsimp only
  rw [e3, e4]
  dsimp only
  rw [eqD_int]
end
end PL
set_option Elab.async false
set_option linter.all false
set_option maxRecDepth 100000
set_option maxHeartbeats 4000000
namespace PL
open PySem PySem.Spec PyProof.Rows L2
def b_law_refused_k11 : SD := (sSeq (sSet 2 (cn .non)) (sSeq (sTry "AboutError" ERRS (sDrop (mCall (argsC (vr 0) (argsC (vr 1) args0)) (mkObj "Ledger" ini_Ledger))) (⟨"BadNumber", some 3, xSet 2 (xFld "BadNumber" "n" xNil)⟩ :: (⟨"BadEntries", some 3, xSet 2 (xCon (.str "entries") (xFld "BadEntries" "index" xNil))⟩ :: []))) (sRet (vr 2))))
def m_law_refused_k11 : List D → M D := runB 4 b_law_refused_k11
def b_law_unmarked : SD := (sSeq (sSet 2 (cn .non)) (sSeq (sTry "AboutError" ERRS (sDrop (mCall (argsC (vr 0) (argsC (vr 1) args0)) (argN 2 m_by_marks))) (⟨"BadLedger", none, fun _ => (sSet 2 (cn (.str "ledger")))⟩ :: (⟨"BadMarks", none, fun _ => (sSet 2 (cn (.str "marks")))⟩ :: []))) (sRet (vr 2))))
def m_law_unmarked : List D → M D := runB 3 b_law_unmarked
section
variable {st : Sta} {QS : SR → Prop} {w q : Nat} {es : List Le} {e : Le} {ms : List Nat} {k : List Bool}
theorem nm_no {v : D} (hk : kn v = true) (h : isTu v = false) : m_need_marks [ledgerD es w, v] st = .exc ⟨"BadMarks", []⟩ st := by
  have it := isiT_tup_kn (st := st) hk
  rw [h] at it
  apply ev_run
  unfold m_need_marks b_need_marks
  simp [it]
theorem nm_long {l : List D} (h : 3 < l.length) : m_need_marks [ledgerD es w, .tup l] st = .exc ⟨"BadMarks", []⟩ st := by
  have it : isiT "tuple" CS (.tup l) st = some (.bl true) := isiT_tup_kn rfl
  have lm : lenD [.tup l] st = some (.int (l.length : Nat)) := rfl
  have g : (3 : Int) < (l.length : Int) := by omega
  generalize D.tup l = V at *
  apply ev_run
  unfold m_need_marks b_need_marks
  simp [it, lm, g]
theorem nm_c2 {l : List D} (L : Lg w q es) (hk : ∀ d ∈ l, kn d = true) (h3 : l.length ≤ 3) : c_need_marks_2 [some (.fro (ledgerD es w)), some (.fro (.tup l)), none, none] st = .ok (l.map fun d => .bl (isFromD d 0 ((q : Int) - 1))) st := by
  obtain ⟨e0, i0, i2, il⟩ := marks_len (st := st) L
  have sq : seqIt (.tup l) st = some l := rfl
  apply ev_res
  unfold c_need_marks_2
  generalize D.tup l = V at *
  simp [sq]
  have ev := evC_map (vs := [2]) (bind := bName 2) (t := yes) (el := mCall (argsC (vr 2) (argsC (cn (.int 0)) (argsC (op2 subD (opN lenD (argsC (op2 ixD (op2 ixD (op1 (fldD "Ledger" "lines") (vr 0)) (cn (.int 0))) (cn (.int 2))) args0)) (cn (.int 1))) args0))) (argN 3 m_is_from)) (env := [some (.fro (ledgerD es w)), some (.fro V), none, none]) (st := st) (QL := qEq (.ok (l.map fun d => .bl (isFromD d 0 ((q : Int) - 1))) st)) (enc := fun x : D => x) (l := l) (e1 := fun m => [some (.fro (ledgerD es w)), some (.fro V), some (.fro m), none]) (fv := fun d => .bl (isFromD d 0 ((q : Int) - 1))) (fun d hd => ⟨rfl, by simp, by
    have f := is_from_ok (st := st) (lo := 0) (hi := (q : Int) - 1) (hk d hd)
    simp [i0, i2, il, f]⟩) (acc := []) (small_m (by omega))
  rw [List.map_id'] at ev
  rw [ev]
  simp
theorem nm_out {l : List D} (L : Lg w q es) (hk : ∀ d ∈ l, kn d = true) (h3 : l.length ≤ 3) (h : l.all (fun d => isFromD d 0 ((q : Int) - 1)) = false) : m_need_marks [ledgerD es w, .tup l] st = .exc ⟨"BadMarks", []⟩ st := by
  have it : isiT "tuple" CS (.tup l) st = some (.bl true) := isiT_tup_kn rfl
  have lm : lenD [.tup l] st = some (.int (l.length : Nat)) := rfl
  have g : ¬ (3 : Int) < (l.length : Int) := by omega
  have c2 := nm_c2 (st := st) L hk h3
  have a2 : allD [.lst (l.map fun d => .bl (isFromD d 0 ((q : Int) - 1)))] st = some (.bl (l.all fun d => isFromD d 0 ((q : Int) - 1))) := allD_map
  rw [h] at a2
  generalize D.tup l = V at *
  apply ev_run
  unfold m_need_marks b_need_marks
  simp [it, lm, g, evM_of c2, a2]
theorem nm_00 (L : Lg w q es) : m_need_marks [ledgerD es w, .tup [.int 0, .int 0]] st = .exc ⟨"BadMarks", []⟩ st := by
  have q1 := L.q1
  have it : isiT "tuple" CS (.tup [.int 0, .int 0]) st = some (.bl true) := isiT_tup_kn rfl
  have lm : lenD [.tup [.int 0, .int 0]] st = some (.int 2) := rfl
  have c2 := nm_c2 (st := st) (l := [.int 0, .int 0]) L (fun d hd => by
    have : d = .int 0 := by simpa using hd
    rw [this]
    rfl) (by decide)
  have f0 : isFromD (.int 0) 0 ((q : Int) - 1) = true := by
    rw [isFrom_int]
    simp
    omega
  simp only [List.map_cons, List.map_nil, f0] at c2
  have a2 : allD [.lst [.bl true, .bl true]] st = some (.bl true) := rfl
  have x0 : ixD (.tup [.int 0, .int 0]) (.int 0) st = some (.int 0) := rfl
  have x1 : ixD (.tup [.int 0, .int 0]) (.int 1) st = some (.int 0) := rfl
  have rg : rng1 [.int 1] st = some [.int 0] := rfl
  have a1 : allD [.lst [.bl false]] st = some (.bl false) := rfl
  generalize D.tup [.int 0, .int 0] = V at *
  have c1 : c_need_marks_1 [some (.fro (ledgerD es w)), some (.fro V), none, none] st = .ok [.bl false] st := by
    apply ev_res
    unfold c_need_marks_1
    simp [lm, rg]
    have ev := evC_map (vs := [3]) (bind := bName 3) (t := yes) (el := op2 ltD (op2 ixD (vr 1) (vr 3)) (op2 ixD (vr 1) (op2 addD (vr 3) (cn (.int 1))))) (env := [some (.fro (ledgerD es w)), some (.fro V), none, none]) (st := st) (QL := qEq (.ok [.bl false] st)) (enc := fun x : D => x) (l := [.int 0]) (e1 := fun m => [some (.fro (ledgerD es w)), some (.fro V), none, some (.fro m)]) (fv := fun _ => .bl false) (fun d hd => ⟨rfl, by simp, by
      have : d = .int 0 := by simpa using hd
      subst this
      simp [x0, x1]⟩) (acc := []) (small_m (by decide))
    rw [List.map_id'] at ev
    rw [ev]
    simp
  apply ev_run
  unfold m_need_marks b_need_marks
  simp [it, lm, evM_of c2, a2, evM_of c1, a1]
theorem um_marks {v : D} (h : m_need_marks [ledgerD es w, v] st = .exc ⟨"BadMarks", []⟩ st) : m_law_unmarked [ledgerD es w, v] st = .ok (.str "marks") st := by
  have m : ("BadMarks" : Str) ∈ ERRS := by decide
  have n1 : isSub "AboutError" "BadMarks" "BadLedger" = false := by decide
  have b : m_by_marks [ledgerD es w, v] st = .exc ⟨"BadMarks", []⟩ st := by
    apply ev_run
    unfold m_by_marks b_by_marks
    simp [need_ledger_ok, h]
  apply ev_run
  unfold m_law_unmarked b_law_unmarked
  simp [b, m, n1]
theorem um_led {v : D} (h : isiC "Ledger" CS v st = some (.bl false)) : m_law_unmarked [v, .non] st = .ok (.str "ledger") st := by
  have m : ("BadLedger" : Str) ∈ ERRS := by decide
  have b : m_by_marks [v, .non] st = .exc ⟨"BadLedger", []⟩ st := by
    apply ev_run
    unfold m_by_marks b_by_marks m_need_ledger b_need_ledger
    simp [h]
  apply ev_run
  unfold m_law_unmarked b_law_unmarked
  simp [b, m]
def oddM (q : Nat) : List D := [.non, .tup [.int (q : Nat)], .tup [.int 0, .int 0], .tup [.int (-1)], .lst [.int 0], .tup [.bl true], .tup [.str "0"], .int 0, .tup [.int 0, .int 1, .int 2, .int 3], .dct []]
theorem odd_marks (L : Lg w q es) {v : D} (hv : v ∈ oddM q) : m_law_unmarked [ledgerD es w, v] st = .ok (.str "marks") st := by
  refine um_marks ?_
  have one : ∀ d : D, kn d = true → isFromD d 0 ((q : Int) - 1) = false → m_need_marks [ledgerD es w, .tup [d]] st = .exc ⟨"BadMarks", []⟩ st := fun d h1 h2 =>
    nm_out L (fun x hx => by rw [show x = d by simpa using hx]; exact h1) (by simp) (by simp [h2])
  unfold oddM at hv
  simp only [List.mem_cons, List.not_mem_nil, or_false] at hv
  rcases hv with rfl | rfl | rfl | rfl | rfl | rfl | rfl | rfl | rfl | rfl
  · exact nm_no rfl rfl
  · refine one _ rfl ?_
    rw [isFrom_int]
    simp
    omega
  · exact nm_00 L
  · exact one _ rfl rfl
  · exact nm_no rfl rfl
  · exact one _ rfl rfl
  · exact one _ rfl rfl
  · exact nm_no rfl rfl
  · exact nm_long (by decide)
  · exact nm_no rfl rfl
theorem rf_num {d v : D} (hd : knL d = true) (hv : kn v = true) (h : ledI d v = .error ⟨"BadNumber", [("n", v)]⟩) : m_law_refused_k11 [d, v] st = .ok (.lst [v]) st := by
  have m : ("BadNumber" : Str) ∈ ERRS := by decide
  have i : ini_Ledger [d, v] = some (ledI d v) := by
    show (if knL d && kn v then some (ledI d v) else none) = _
    rw [hd, hv]
    rfl
  rw [h] at i
  have mk : mkObj "Ledger" ini_Ledger [d, v] st = .exc ⟨"BadNumber", [("n", v)]⟩ st := by
    unfold mkObj
    rw [i]
  apply ev_run
  unfold m_law_refused_k11 b_law_refused_k11
  simp [mk, m]
theorem rf_ent {d x : D} (hd : knL d = true) (w2 : 2 ≤ w) (w4 : w ≤ 4) (h : ledW w d = .error (badEntries x)) : m_law_refused_k11 [d, .int (w : Nat)] st = .ok (.lst [.str "entries", x]) st := by
  have m : ("BadEntries" : Str) ∈ ERRS := by decide
  have n1 : isSub "AboutError" "BadEntries" "BadNumber" = false := by decide
  have i : ini_Ledger [d, .int (w : Nat)] = some (ledI d (.int (w : Nat))) := by
    show (if knL d && true then some (ledI d (.int (w : Nat))) else none) = _
    rw [hd]
    rfl
  rw [ledI_int, show (decide ((2 : Int) ≤ (w : Int)) && decide ((w : Int) ≤ 4)) = true by simp; omega, if_pos rfl, h] at i
  have mk : mkObj "Ledger" ini_Ledger [d, .int (w : Nat)] st = .exc (badEntries x) st := by
    unfold mkObj
    rw [i]
  unfold badEntries at mk
  apply ev_run
  unfold m_law_refused_k11 b_law_refused_k11
  have xf : (xCon (.str "entries") (xFld "BadEntries" "index" xNil)) ⟨"BadEntries", [("index", x)]⟩ = some [.str "entries", x] := by
    unfold xCon
    rw [xFld_1]
    rfl
  simp [mk, m, n1, evS_xSet xf]
end
end PL
set_option Elab.async false
set_option linter.all false
set_option maxRecDepth 100000
set_option maxHeartbeats 4000000
namespace PL
open PySem PySem.Spec PyProof.Rows L2
def c_law_made_1 : Env → M (List D) := (mLc [7] (bName 7) yes (op2 eqD (mCall (argsC (vr 0) (argsC (cn (.int 2)) args0)) (argN 2 m_law_taken)) (cn (.int 0))) (itN rng1 (argsC (vr 2) args0)))
def l_law_made_1 : SD := (sSeq (sSet 5 (opN tupleD (argsC (lstF c_law_made_1) args0))) (sSeq (sSet 6 (op2 addD (cn (.int 1)) (mCall (argsC (vr 0) (argsC (op2 ixD (opN mkLst (argsC (cn (.int 3)) (argsC (op2 powD (cn (.int 10)) (cn (.int 9))) args0))) (mCall (argsC (vr 0) (argsC (cn (.int 2)) args0)) (argN 2 m_law_taken))) args0)) (argN 2 m_law_taken)))) (sAppO 3 (opN mkTup (argsC (mCall (argsC (vr 0) (argsC (vr 1) args0)) (argN 2 m_law_taken)) (argsC (op2 eqD (mCall (argsC (vr 0) (argsC (cn (.int 2)) args0)) (argN 2 m_law_taken)) (cn (.int 0))) (argsC (vr 5) (argsC (vr 6) args0))))))))
def b_law_made : SD := (sSeq (sPar 1 2 (op2 addD (cn (.int 2)) (mCall (argsC (vr 0) (argsC (cn (.int 3)) args0)) (argN 2 m_law_taken))) (op2 addD (cn (.int 1)) (mCall (argsC (vr 0) (argsC (cn (.int 4)) args0)) (argN 2 m_law_taken)))) (sSeq (sOwn 3 (dispL args0)) (sSeq (sFor (itN rng1 (argsC (op2 addD (cn (.int 1)) (mCall (argsC (vr 0) (argsC (op2 ixD (opN mkLst (argsC (cn (.int 12)) (argsC (cn (.int 12)) (argsC (cn (.int 40)) args0)))) (mCall (argsC (vr 0) (argsC (cn (.int 3)) args0)) (argN 2 m_law_taken))) args0)) (argN 2 m_law_taken))) args0)) (aName 4) l_law_made_1) (sFrz 3 (sRet (opN mkLst (argsC (opN tupleD (argsC (vr 3) args0)) (argsC (vr 1) args0))))))))
def m_law_made : List D → M D := runB 8 b_law_made
section
variable {st rest : Sta} {QS : SR → Prop} {w q : Nat} {es : List Le} {x4 x5 x6 x7 : Option SV}
theorem mkTup_4G {a b c d : D} : mkTup [a, b, c, d] st = some (.tup [a, b, c, d]) := by unfold mkTup; rw [if_pos (small_le (by simp))]
abbrev MdE (w q : Nat) (es : List Le) (x4 x5 x6 x7 : Option SV) : Env := [some (.fro (.cell 0)), some (.fro (.int (w : Nat))), some (.fro (.int (q : Nat))), some (.own (.lst (es.map lgE))), x4, x5, x6, x7]
def MdI (w q : Nat) (rest : Sta) (k : Nat) (env : Env) (st' : Sta) : Prop := ∃ (es : List Le) (r : Cell) (x4 x5 x6 x7 : Option SV), env = MdE w q es x4 x5 x6 x7 ∧ r :: rest = st' ∧ RowOk r ∧ es.length = k ∧ ∀ e ∈ es, LOk w q e
theorem md_turn (hw : 2 ≤ w ∧ w ≤ 4) (hq : 1 ≤ q ∧ q ≤ 4) {k : Nat} (hk : k < 40) {env : Env} {st' : Sta} (hI : MdI w q rest k env st') : evS (aName 4 (natD k)) env st' (kTg l_law_made_1 (kI (MdI w q rest (k + 1)) QS)) := by
  obtain ⟨es, r, x4, x5, x6, x7, e1, e2, hr, hl, ok⟩ := hI
  subst e1 e2
  have sl : (es.map lgE).length < sizeLine := by
    rw [sizeLine_eq, List.length_map]
    omega
  have pw : ∀ S, powD (.int 10) (.int 9) S = some (.int 1000000000) := fun S => rfl
  simp only [evS_aName, kTg_nx, List.set_cons_succ, List.set_cons_zero]
  unfold l_law_made_1 c_law_made_1
  simp [rng1_w (show q ≤ 1000 by omega)]
  refine evC_inv (I := fun k acc st' => ∃ (bs : List Bool) (r' : Cell), acc = bs.map .bl ∧ r' :: rest = st' ∧ RowOk r' ∧ bs.length = k) ?_ ⟨[], r, rfl, rfl, hr, rfl⟩ ?_
  · intro c hc acc st' hI
    obtain ⟨bs, r2, e1, e2, hr2, hl2⟩ := hI
    subst e1 e2
    have hc' : c < q := by simpa using hc
    refine ⟨_, rfl, ?_⟩
    simp
    refine taken_ev hr2 (by omega) (by omega) fun y r3 hr3 hy => ?_
    simp [eqD_int]
    exact ⟨by rw [sizeLine_eq]; omega, bs ++ [decide (y = 0)], by simp, hr3, by simp [hl2]⟩
  · intro acc st' hI
    obtain ⟨bs, r2, e1, e2, hr2, hl2⟩ := hI
    have hl' : bs.length = q := by simpa using hl2
    subst e1 e2
    have tl : ∀ S, tupleD [.lst (bs.map .bl)] S = some (.tup (bs.map .bl)) := fun S => rfl
    have fin : ∀ (y g v : Nat) (r5 : Cell), RowOk r5 → y < w → 1 + v ≤ 1000000000 → MdI w q rest (k + 1) (MdE w q (es ++ [⟨y, decide (g = 0), bs, 1 + v⟩]) (some (.fro (natD k))) (some (.fro (.tup (bs.map .bl)))) (some (.fro (.int ((1 + v : Nat) : Int)))) x7) (r5 :: rest) := fun y g v r5 hr5 h1 h2 =>
      ⟨_, r5, _, _, _, _, rfl, rfl, hr5, by simp [hl], fun e he => by
        rcases List.mem_append.mp he with he | he
        · exact ok e he
        · rw [List.mem_singleton.mp he]
          exact ⟨h1, hl', Nat.le_add_right 1 v, h2⟩⟩
    have many : ∀ (x : D) (r6 : Cell), (x = .int 3 ∨ x = .int 1000000000) → RowOk r6 → ∃ m : Nat, x = .int (m : Nat) ∧ 1 ≤ m ∧ m ≤ 1000000000 := fun x _ h _ => by
      rcases h with rfl | rfl
      · exact ⟨3, rfl, by omega, by omega⟩
      · exact ⟨1000000000, rfl, by omega, by omega⟩
    unfold MdE at fin
    generalize hA : es.map lgE = A at *
    simp [tl, pw, mkLst_of]
    refine taken_ev hr2 (by omega) (by omega) fun t r3 hr3 ht => ?_
    simp
    refine pick_ev (by simp; omega) fun x hx => ?_
    obtain ⟨m, rfl, m1, m2⟩ := many x r3 (by simpa using hx) hr3
    simp
    refine taken_ev hr3 (by omega) (by omega) fun v r4 hr4 hv => ?_
    simp
    refine taken_ev hr4 (by omega) (by omega) fun y r5 hr5 hy => ?_
    simp
    refine taken_ev hr5 (by omega) (by omega) fun g r6 hr6 hg => ?_
    have f := fin y g v r6 hr6 (by omega) (by omega)
    rw [List.map_append, hA] at f
    simp [eqD_int, sl, mkTup_4G]
    simpa [lgE] using f
theorem made_ev {r : Cell} {Q : Res D → Prop} (hr : RowOk r) (h : ∀ es w q r', RowOk r' → Lg w q es → Q (.ok (.lst [linesD es, .int (w : Nat)]) (r' :: rest))) : evR (m_law_made [.cell 0] (r :: rest)) Q := by
  unfold m_law_made b_law_made
  simp [mkLst_of]
  refine taken_ev hr (by omega) (by omega) fun w r1 hr1 hw => ?_
  simp
  refine taken_ev hr1 (by omega) (by omega) fun q r2 hr2 hq => ?_
  simp
  refine taken_ev hr2 (by omega) (by omega) fun t r3 hr3 ht => ?_
  simp
  refine pick_ev (by simp; omega) fun x hx => ?_
  obtain ⟨m, rfl, m1, m2⟩ : ∃ m : Nat, x = .int (m : Nat) ∧ 1 ≤ m ∧ m ≤ 40 := by
    have : x = .int 12 ∨ x = .int 40 := by simpa using hx
    rcases this with rfl | rfl
    · exact ⟨12, rfl, by omega, by omega⟩
    · exact ⟨40, rfl, by omega, by omega⟩
  simp
  refine taken_ev hr3 (by omega) (by omega) fun n r4 hr4 hn => ?_
  simp
  rw [show (2 : Int) + w = ((2 + w : Nat) : Int) by omega, show (1 : Int) + q = ((1 + q : Nat) : Int) by omega, show (1 : Int) + n = ((1 + n : Nat) : Int) by omega]
  have hw' : 2 ≤ 2 + w ∧ 2 + w ≤ 4 := by omega
  have hq' : 1 ≤ 1 + q ∧ 1 + q ≤ 4 := by omega
  have hn' : 1 ≤ 1 + n ∧ 1 + n ≤ 40 := by omega
  generalize 2 + w = w at *
  generalize 1 + q = q at *
  generalize 1 + n = n at *
  simp [rng1_w (show n ≤ 1000 by omega)]
  refine evL_upto (n := n) (MdI w q rest) (fun k hk env st' hI => md_turn hw' hq' (by omega) hI) ?_ ⟨[], r4, _, _, _, _, rfl, rfl, hr4, rfl, fun _ z => nomatch z⟩
  intro env st' hI
  obtain ⟨es, r5, x4, x5, x6, x7, e1, e2, hr5, hl, ok⟩ := hI
  subst e1 e2
  have L : Lg w q es := ⟨hw'.1, hw'.2, hq'.1, hq'.2, by omega, by omega, ok⟩
  have tl : ∀ S, tupleD [.lst (es.map lgE)] S = some (linesD es) := fun S => rfl
  have fin := h es w q r5 hr5 L
  unfold MdE
  generalize es.map lgE = A at *
  generalize linesD es = T at *
  simp [tl, mkLst_of]
  exact fin
end
end PL
set_option Elab.async false
set_option linter.all false
set_option maxRecDepth 100000
set_option maxHeartbeats 4000000
namespace PL
open PySem PySem.Spec PyProof.Rows L2
section
variable {st rest : Sta} {QS : SR → Prop} {w q : Nat} {es : List Le} {e : Le}
def oddE (e : Le) (w q : Nat) : List D := [.non, .tup [.int (e.way : Nat), .bl e.good, .tup (e.ms.map .bl)], .tup [.int (w : Nat), .bl e.good, .tup (e.ms.map .bl), .int (e.n : Nat)], .tup [.int (e.way : Nat), .int 1, .tup (e.ms.map .bl), .int (e.n : Nat)],
  .tup [.int (e.way : Nat), .bl e.good, .tup (e.ms.map .bl), .int 0], .tup [.int (e.way : Nat), .bl e.good, .tup (e.ms.map .bl ++ [.bl true]), .int (e.n : Nat)], .tup [.int (e.way : Nat), .bl e.good, .tup (e.ms.map .bl), .int 1000000001], .tup [.bl true, .bl e.good, .tup (e.ms.map .bl), .int 1],
  .tup [.int (e.way : Nat), .bl e.good, .tup (List.replicate q (.int 0)), .int (e.n : Nat)], .tup [.int (e.way : Nat), .bl e.good, .lst (e.ms.map .bl), .int (e.n : Nat)], .tup [.int (e.way : Nat), .bl e.good, .tup (e.ms.map .bl), .bl true], .lst [.int (e.way : Nat), .bl e.good, .tup (e.ms.map .bl), .int (e.n : Nat)]]
theorem kn_bls {l : List Bool} : (l.map D.bl).all kn = true := by simp [kn]
theorem odd_e (h : LOk w q e) (q1 : 1 ≤ q) (q4 : q ≤ 4) {d : D} (hd : d ∈ oddE e w q) : knE d = true ∧ isEntD (w : Int) q d = false := by
  have l1 := h.len
  have kb : (e.ms.map D.bl).all kn = true := kn_bls
  have kl : decide ((e.ms.map D.bl).length ≤ 1000) = true := by rw [List.length_map]; simp; omega
  have t4 : ∀ a b m z, isEntD (w : Int) q (.tup [a, b, .tup m, z]) = (isFromD a 0 ((w : Int) - 1) && (isBl b && (isFromD z 1 1000000000 && (m.all isBl && (if q = 0 then decide (1 ≤ m.length ∧ m.length ≤ 4) else decide (m.length = q)))))) := fun _ _ _ _ => isEnt_4
  unfold oddE at hd
  simp only [List.mem_cons, List.not_mem_nil, or_false] at hd
  rcases hd with rfl | rfl | rfl | rfl | rfl | rfl | rfl | rfl | rfl | rfl | rfl | rfl
  · exact ⟨rfl, rfl⟩
  · exact ⟨by simp [knE, kn, kb]; omega, isEnt_len (by simp)⟩
  · refine ⟨by simp [knE, kn]; omega, ?_⟩
    rw [t4, isFrom_int]
    have : decide ((w : Int) ≤ (w : Int) - 1) = false := by simp; omega
    rw [this, Bool.and_false, Bool.false_and]
  · refine ⟨by simp [knE, kn]; omega, ?_⟩
    rw [t4]
    simp [isBl]
  · refine ⟨by simp [knE, kn]; omega, ?_⟩
    rw [t4, isFrom_int (i := 0)]
    simp
  · refine ⟨by simp [knE, kn]; omega, ?_⟩
    rw [t4]
    have : ¬ (e.ms.map D.bl ++ [D.bl true]).length = q := by simp; omega
    rw [if_neg (show ¬ q = 0 by omega), decide_eq_false this]
    simp
  · refine ⟨by simp [knE, kn]; omega, ?_⟩
    rw [t4, isFrom_int (i := 1000000001)]
    simp
  · refine ⟨by simp [knE, kn]; omega, ?_⟩
    rw [t4]
    rfl
  · refine ⟨by simp [knE, kn]; omega, ?_⟩
    rw [t4]
    have : (List.replicate q (D.int 0)).all isBl = false := by
      cases q with
      | zero => omega
      | succ q => rw [List.replicate_succ, List.all_cons]; rfl
    rw [this]
    simp
  · refine ⟨by simp [knE, kn], ?_⟩
    unfold isEntD
    rfl
  · refine ⟨by simp [knE, kn]; omega, ?_⟩
    rw [t4]
    have : isFromD (.bl true) 1 1000000000 = false := rfl
    rw [this]
    simp
  · exact ⟨rfl, rfl⟩
theorem badEnt_at {l0 d : D} {r : List D} (hb : isEntD (w : Int) q d = false) (hm : mlen l0 = q) : ∀ {l : List D} {k : Nat}, (∀ x ∈ l, ∀ m, m = 0 ∨ m = q → isEntD (w : Int) m x = true) → k + l.length ≠ 0 → badEnt (w : Int) l0 k (l ++ d :: r) = some (k + l.length)
  | [], k, _, hk => by
    rw [List.nil_append]
    unfold badEnt
    have : ¬ k = 0 := by simpa using hk
    rw [if_neg this, hm, hb]
    rfl
  | x :: l, k, h, _ => by
    rw [List.cons_append]
    unfold badEnt
    rw [h x (List.mem_cons_self ..) _ (by split; exact .inl rfl; exact .inr hm), if_pos rfl, badEnt_at hb hm (fun y hy => h y (List.mem_cons_of_mem _ hy)) (by omega)]
    simp
    omega
theorem ledW_odd (L : Lg w q es) {a : Nat} (a1 : 1 ≤ a) (ha : a ≤ es.length) (a39 : a ≤ 39) {d : D} (hk : knE d = true) (hb : isEntD (w : Int) q d = false) :
    m_law_refused_k11 [.tup (((es.take a).map lgE ++ [d] ++ (es.drop a).map lgE).take 40), .int (w : Nat)] st = .ok (.lst [.str "entries", .int (a : Nat)]) st := by
  have n40 := L.n40
  have la : ((es.take a).map lgE).length = a := by simp; omega
  have e1 : ((es.take a).map lgE ++ [d] ++ (es.drop a).map lgE).take 40 = (es.take a).map lgE ++ d :: ((es.drop a).map lgE).take (39 - a) := by
    rw [List.append_assoc, List.take_append, la, List.take_of_length_le (by omega)]
    rw [show 40 - a = (39 - a) + 1 by omega]
    rfl
  rw [e1]
  have kall : ((es.take a).map lgE ++ d :: ((es.drop a).map lgE).take (39 - a)).all knE = true := by
    rw [List.all_eq_true]
    intro x hx
    rcases List.mem_append.mp hx with hx | hx
    · obtain ⟨e, he, rfl⟩ := List.mem_map.mp hx
      exact lgE_kn (L.ok e (List.mem_of_mem_take he)) L.q4
    · rcases List.mem_cons.mp hx with rfl | hx
      · exact hk
      · obtain ⟨e, he, rfl⟩ := List.mem_map.mp (List.mem_of_mem_take hx)
        exact lgE_kn (L.ok e (List.mem_of_mem_drop he)) L.q4
  refine rf_ent (x := .int (a : Nat)) ?_ L.w2 L.w4 ?_
  · show (true && _) = true
    rw [Bool.true_and]
    exact kall
  · have n1 := L.n1
    match hes : es, n1 with
    | e0 :: r, _ =>
      obtain ⟨a', rfl⟩ : ∃ a', a = a' + 1 := ⟨a - 1, by omega⟩
      rw [List.take_succ_cons, List.map_cons, List.cons_append, ledW_cons, ← List.cons_append, ← List.map_cons, ← List.take_succ_cons]
      have hm : mlen (lgE e0) = q := by
        show (e0.ms.map D.bl).length = q
        rw [List.length_map]
        exact (L.ok e0 (List.mem_cons_self ..)).len
      rw [if_pos (by
        rw [List.length_append, la, List.length_cons, List.length_take]
        omega), badEnt_at hb hm]
      · dsimp only
        rw [la, Nat.zero_add]
      · intro x hx m hm'
        obtain ⟨e, he, rfl⟩ := List.mem_map.mp hx
        exact lgE_ok (L.ok e (List.mem_of_mem_take he)) L.q1 L.q4 hm'
      · omega
end
end PL
set_option Elab.async false
set_option linter.all false
set_option maxRecDepth 100000
set_option maxHeartbeats 4000000
namespace PL
open PySem PySem.Spec PyProof.Rows L2
def k_law_wrong_k11_1 : SD := (sRet (op2 eqD (mCall (argsC (vr 10) (argsC (vr 2) args0)) (argN 2 m_law_refused_k11)) (opN mkLst (argsC (cn (.str "entries")) (argsC (vr 9) args0)))))
def k_law_wrong_k11_2 : SD := (sSeq (sSet 10 (mSlice (op2 addD (op2 addD (mSlice (vr 1) noP (soP (vr 9))) (opN mkTup (argsC (op2 ixD (vr 8) (mCall (argsC (vr 0) (argsC (opN lenD (argsC (vr 8) args0)) args0)) (argN 2 m_law_taken))) args0))) (mSlice (vr 1) (soP (vr 9)) noP)) noP (soP (cn (.int 40))))) k_law_wrong_k11_1)
def k_law_wrong_k11_3 : SD := (sSeq (sSet 9 (opN min2D (argsC (op2 addD (cn (.int 1)) (mCall (argsC (vr 0) (argsC (opN lenD (argsC (vr 1) args0)) args0)) (argN 2 m_law_taken))) (argsC (cn (.int 39)) args0)))) k_law_wrong_k11_2)
def k_law_wrong_k11_4 : SD := (sSeq (sSet 8 (op2 addD (vr 8) (opN mkLst (argsC (opN mkTup (argsC (vr 4) (argsC (vr 5) (argsC (vr 6) (argsC (cn (.bl true)) args0))))) (argsC (opN mkLst (argsC (vr 4) (argsC (vr 5) (argsC (vr 6) (argsC (vr 7) args0))))) args0))))) k_law_wrong_k11_3)
def k_law_wrong_k11_5 : SD := (sSeq (sSet 8 (op2 addD (vr 8) (opN mkLst (argsC (opN mkTup (argsC (vr 4) (argsC (vr 5) (argsC (op2 mulD (opN mkTup (argsC (cn (.int 0)) args0)) (vr 3)) (argsC (vr 7) args0))))) (argsC (opN mkTup (argsC (vr 4) (argsC (vr 5) (argsC (lstF (listL (argsC (vr 6) args0))) (argsC (vr 7) args0))))) args0))))) k_law_wrong_k11_4)
def k_law_wrong_k11_6 : SD := (sSeq (sSet 8 (op2 addD (vr 8) (opN mkLst (argsC (opN mkTup (argsC (vr 4) (argsC (vr 5) (argsC (op2 addD (vr 6) (opN mkTup (argsC (cn (.bl true)) args0))) (argsC (vr 7) args0))))) (argsC (opN mkTup (argsC (vr 4) (argsC (vr 5) (argsC (vr 6) (argsC (op2 addD (op2 powD (cn (.int 10)) (cn (.int 9))) (cn (.int 1))) args0))))) (argsC (opN mkTup (argsC (cn (.bl true)) (argsC (vr 5) (argsC (vr 6) (argsC (cn (.int 1)) args0))))) args0)))))) k_law_wrong_k11_5)
def k_law_wrong_k11_7 : SD := (sSeq (sSet 8 (opN mkLst (argsC (cn .non) (argsC (opN mkTup (argsC (vr 4) (argsC (vr 5) (argsC (vr 6) args0)))) (argsC (opN mkTup (argsC (vr 2) (argsC (vr 5) (argsC (vr 6) (argsC (vr 7) args0))))) (argsC (opN mkTup (argsC (vr 4) (argsC (cn (.int 1)) (argsC (vr 6) (argsC (vr 7) args0))))) (argsC (opN mkTup (argsC (vr 4) (argsC (vr 5) (argsC (vr 6) (argsC (cn (.int 0)) args0))))) args0))))))) k_law_wrong_k11_6)
def k_law_wrong_k11_8 : SD := (sSeq (sAsg (op2 ixD (vr 1) (cn (.int 0))) (aTup 4 (aCons (aName 4) (aCons (aName 5) (aCons (aName 6) (aCons (aName 7) aNil)))))) k_law_wrong_k11_7)
def b_law_wrong_k11 : SD := (sSeq (sSet 3 (opN lenD (argsC (op2 ixD (op2 ixD (vr 1) (cn (.int 0))) (cn (.int 2))) args0))) k_law_wrong_k11_8)
def m_law_wrong_k11 : List D → M D := runB 11 b_law_wrong_k11
section
variable {st rest : Sta} {QS : SR → Prop} {w q : Nat} {es : List Le} {e : Le}
theorem cut_toG {l : List D} {k : Nat} : cutD (.tup l) none (some (k : Int)) st = some (.tup (l.take k)) := by
  show some (D.tup (cutG l none (some (k : Int)))) = _
  unfold cutG
  rw [HT.sIx_nat, HT.sIx_none, List.drop_zero, Nat.sub_zero]
  by_cases c : k ≤ l.length
  · rw [Nat.min_eq_left c]
  · rw [Nat.min_eq_right (by omega), List.take_of_length_le (Nat.le_refl _), List.take_of_length_le (by omega)]
theorem mul_0s (h : q ≤ 4) : mulD (.tup [.int 0]) (.int (q : Nat)) st = some (.tup (List.replicate q (.int 0))) := by
  have : q = 0 ∨ q = 1 ∨ q = 2 ∨ q = 3 ∨ q = 4 := by omega
  rcases this with rfl | rfl | rfl | rfl | rfl <;> rfl
theorem wrong_end {r : Cell} {x3 x4 x5 x6 x7 : Option SV} {Q : SR → Prop} (hr : RowOk r) (L : Lg w q es) (he : e ∈ es) (h : ∀ r', RowOk r' → Q (.rt (.bl true) (r' :: rest))) :
    evS k_law_wrong_k11_3 [some (.fro (.cell 0)), some (.fro (linesD es)), some (.fro (.int (w : Nat))), x3, x4, x5, x6, x7, some (.fro (.lst (oddE e w q))), none, none] (r :: rest) Q := by
  have n1 := L.n1
  have n40 := L.n40
  have ll : ∀ S, lenD [linesD es] S = some (.int (es.length : Nat)) := fun S => by
    show some (D.int (((es.map lgE).length : Nat) : Int)) = _
    rw [List.length_map]
  have lo : ∀ S, lenD [.lst (oddE e w q)] S = some (.int 12) := fun S => rfl
  unfold k_law_wrong_k11_3
  generalize hO : D.lst (oddE e w q) = O at *
  simp [ll]
  refine taken_ev hr (by omega) (by omega) fun t r1 hr1 ht => ?_
  obtain ⟨a, ha1, ha2, ha3, ea⟩ : ∃ a : Nat, 1 ≤ a ∧ a ≤ es.length ∧ a ≤ 39 ∧ (if (39 : Int) < 1 + (t : Int) then (39 : Int) else 1 + (t : Int)) = (a : Int) := by
    split
    · exact ⟨39, by omega, by omega, by omega, rfl⟩
    · exact ⟨1 + t, by omega, by omega, by omega, by omega⟩
  have c1 : ∀ S, cutD (linesD es) none (some (a : Int)) S = some (.tup ((es.take a).map lgE)) := fun S => by
    unfold linesD
    rw [cut_to (by simpa using ha2), List.map_take]
  have c2 : ∀ S, cutD (linesD es) (some (a : Int)) none S = some (.tup ((es.drop a).map lgE)) := fun S => by
    unfold linesD
    rw [cut_from (by simpa using ha2), List.map_drop]
  have hE := L.ok e he
  have fin : ∀ d ∈ oddE e w q, ∀ S, m_law_refused_k11 [.tup (((es.take a).map lgE ++ [d] ++ (es.drop a).map lgE).take 40), .int (w : Nat)] S = .ok (.lst [.str "entries", .int (a : Nat)]) S := fun d hd S => by
    obtain ⟨h1, h2⟩ := odd_e hE L.q1 L.q4 hd
    exact ledW_odd L ha1 ha2 ha3 h1 h2
  have la : ((es.take a).map lgE).length + ((es.drop a).map lgE).length ≤ 40 := by
    simp
    omega
  have mn : ∀ S, min2D [.int (1 + (t : Int)), .int 39] S = some (.int (a : Nat)) := fun S => by
    rw [← ea]
    rfl
  unfold k_law_wrong_k11_2
  generalize (es.take a).map lgE = A1 at *
  generalize (es.drop a).map lgE = A2 at *
  simp [mn, c1, c2, lo]
  refine taken_ev hr1 (by omega) (by omega) fun k r2 hr2 hk => ?_
  have hk' : k < (oddE e w q).length := by
    show k < 12
    omega
  have ix : ∀ S, ixD O (.int (k : Nat)) S = some (oddE e w q)[k] := fun S => by
    rw [← hO]
    show atI _ _ = _
    rw [atI_nat hk']
  have f := fin _ (List.getElem_mem hk')
  generalize (oddE e w q)[k] = d at *
  have a1 : ∀ S, addD (.tup A1) (.tup [d]) S = some (.tup (A1 ++ [d])) := fun S => addD_tup (by simp; omega)
  have a2 : ∀ S, addD (.tup (A1 ++ [d])) (.tup A2) S = some (.tup (A1 ++ [d] ++ A2)) := fun S => addD_tup (by simp; omega)
  have c3 : ∀ S, cutD (.tup (A1 ++ [d] ++ A2)) none (some 40) S = some (.tup ((A1 ++ [d] ++ A2).take 40)) := fun S => cut_toG (k := 40)
  have eq : ∀ S, eqD (.lst [.str "entries", .int (a : Nat)]) (.lst [.str "entries", .int (a : Nat)]) S = some (.bl true) := fun S => eqD_refl (by simp [pln]; decide +kernel)
  unfold k_law_wrong_k11_1
  generalize hB : A1 ++ [d] = B at *
  generalize hC : B ++ A2 = C at *
  generalize hD : C.take 40 = F at *
  simp [ix, a1, a2, c3, c2, f, eq, mkLst_of]
  exact h _ hr2
theorem wrong_ev {r : Cell} {Q : Res D → Prop} (hr : RowOk r) (L : Lg w q es) (h : ∀ r', RowOk r' → Q (.ok (.bl true) (r' :: rest))) : evR (m_law_wrong_k11 [.cell 0, linesD es, .int (w : Nat)] (r :: rest)) Q := by
  have n1 := L.n1
  have q4 := L.q4
  obtain ⟨e0, he, i0⟩ : ∃ e0 ∈ es, ∀ S, ixD (linesD es) (.int 0) S = some (lgE e0) := by
    match es, n1 with
    | e0 :: es, _ =>
      refine ⟨e0, List.mem_cons_self .., fun S => ?_⟩
      show atI _ ((0 : Nat) : Int) = _
      rw [atI_nat (by simp)]
      rfl
  have hE := L.ok e0 he
  have i2 : ∀ S, ixD (lgE e0) (.int 2) S = some (.tup (e0.ms.map .bl)) := fun S => rfl
  have il : ∀ S, lenD [.tup (e0.ms.map .bl)] S = some (.int (q : Nat)) := fun S => by
    show some (D.int (((e0.ms.map D.bl).length : Nat) : Int)) = _
    rw [List.length_map, hE.len]
  have m0 : ∀ S, mulD (.tup [.int 0]) (.int (q : Nat)) S = some (.tup (List.replicate q (.int 0))) := fun S => mul_0s q4
  have pw : ∀ S, powD (.int 10) (.int 9) S = some (.int 1000000000) := fun S => rfl
  have at_ : ∀ S, addD (.tup (e0.ms.map .bl)) (.tup [.bl true]) S = some (.tup (e0.ms.map .bl ++ [.bl true])) := fun S => addD_tup (by have := hE.len; simp; omega)
  have li : ∀ S, listO [.tup (e0.ms.map .bl)] S = some (e0.ms.map .bl) := fun S => rfl
  have fin := fun x3 x4 x5 x6 x7 => wrong_end (rest := rest) (r := r) (x3 := x3) (x4 := x4) (x5 := x5) (x6 := x6) (x7 := x7) (Q := kRun Q) hr L he (fun r' hr' => by
    rw [kRun_rt]
    exact h r' hr')
  unfold m_law_wrong_k11 b_law_wrong_k11
  simp [i0, i2, il]
  unfold k_law_wrong_k11_8
  have t4 : lgE e0 = .tup [.int (e0.way : Nat), .bl e0.good, .tup (e0.ms.map .bl), .int (e0.n : Nat)] := rfl
  simp [i0]
  rw [t4]
  unfold oddE at fin
  have ap : ∀ (a b : List D) S, a.length + b.length ≤ 1000 → addD (.lst a) (.lst b) S = some (.lst (a ++ b)) := fun a b S hl => addD_lst hl
  generalize hM : e0.ms.map D.bl = M at *
  simp
  unfold k_law_wrong_k11_7
  simp [mkTup_4G, mkLst_of]
  unfold k_law_wrong_k11_6
  simp [mkTup_4G, mkLst_of, at_, pw, ap]
  unfold k_law_wrong_k11_5
  simp [mkTup_4G, mkLst_of, m0, li, ap]
  unfold k_law_wrong_k11_4
  simp [mkTup_4G, mkLst_of, ap]
  exact fin _ _ _ _ _
end
end PL
set_option Elab.async false
set_option linter.all false
set_option maxRecDepth 100000
set_option maxHeartbeats 4000000
namespace PL
open PySem PySem.Spec PyProof.Rows L2
def b_Ledger_ways : SD := (sRet (op1 (fldD "Ledger" "many") (vr 0)))
def m_Ledger_ways : List D → M D := runB 1 b_Ledger_ways

def b_Ledger_entries : SD := (sRet (op1 (fldD "Ledger" "lines") (vr 0)))
def m_Ledger_entries : List D → M D := runB 1 b_Ledger_entries
def k_law_k11_1 : SD := (sRet (op2 eqD (mCall (argsC (opN mkTup (argsC (opN mkTup (argsC (cn (.int 0)) (argsC (cn (.bl true)) (argsC (opN mkTup args0) (argsC (cn (.int 1)) args0))))) (argsC (cn .non) (argsC (op2 ixD (vr 2) (cn (.int 0))) args0)))) (argsC (vr 3) args0)) (argN 2 m_law_refused_k11)) (opN mkLst (argsC (cn (.str "entries")) (argsC (cn (.int 0)) args0)))))
def k_law_k11_2 : SD := (sSeq (sIf (tBool (op2 neD (mCall (argsC (vr 10) (argsC (vr 3) args0)) (argN 2 m_law_refused_k11)) (opN mkLst (argsC (cn (.str "entries")) (argsC (cn .non) args0))))) (sRet (cn (.bl false))) sNext) k_law_k11_1)
def k_law_k11_3 : SD := (sSeq (sSet 10 (op2 ixD (opN mkLst (argsC (cn .non) (argsC (opN mkTup args0) (argsC (lstF (listL (argsC (vr 2) args0))) (argsC (mSlice (op2 mulD (vr 2) (cn (.int 41))) noP (soP (cn (.int 41)))) (argsC (cn (.int 0)) (argsC (cn (.dct [])) args0))))))) (mCall (argsC (vr 1) (argsC (cn (.int 6)) args0)) (argN 2 m_law_taken)))) k_law_k11_2)
def k_law_k11_4 : SD := (sSeq (sIf (mNot (tst (mCall (argsC (vr 1) (argsC (vr 2) (argsC (vr 3) args0))) (argN 3 m_law_wrong_k11)))) (sRet (cn (.bl false))) sNext) k_law_k11_3)
def k_law_k11_5 : SD := (sSeq (sIf (tBool (op2 neD (mCall (argsC (cn .non) (argsC (vr 9) args0)) (argN 2 m_law_refused_k11)) (opN mkLst (argsC (vr 9) args0)))) (sRet (cn (.bl false))) sNext) k_law_k11_4)
def k_law_k11_6 : SD := (sSeq (sSet 9 (op2 ixD (opN mkLst (argsC (cn .non) (argsC (cn (.int 1)) (argsC (cn (.int 5)) (argsC (cn (.bl true)) (argsC (cn (.str "2")) args0)))))) (mCall (argsC (vr 1) (argsC (cn (.int 5)) args0)) (argN 2 m_law_taken)))) k_law_k11_5)
def k_law_k11_7 : SD := (sSeq (sIf (tBool (op2 neD (mCall (argsC (op2 ixD (opN mkLst (argsC (cn .non) (argsC (vr 2) (argsC (cn (.int 0)) (argsC (opN mkTup args0) args0))))) (mCall (argsC (vr 1) (argsC (cn (.int 4)) args0)) (argN 2 m_law_taken))) (argsC (cn .non) args0)) (argN 2 m_law_unmarked)) (cn (.str "ledger")))) (sRet (cn (.bl false))) sNext) k_law_k11_6)
def k_law_k11_8 : SD := (sSeq (sIf (tBool (op2 neD (mCall (argsC (vr 4) (argsC (op2 ixD (vr 8) (mCall (argsC (vr 1) (argsC (opN lenD (argsC (vr 8) args0)) args0)) (argN 2 m_law_taken))) args0)) (argN 2 m_law_unmarked)) (cn (.str "marks")))) (sRet (cn (.bl false))) sNext) k_law_k11_7)
def k_law_k11_9 : SD := (sSeq (sSet 8 (opN mkLst (argsC (cn .non) (argsC (opN mkTup (argsC (vr 5) args0)) (argsC (opN mkTup (argsC (cn (.int 0)) (argsC (cn (.int 0)) args0))) (argsC (opN mkTup (argsC (op1 negD (cn (.int 1))) args0)) (argsC (opN mkLst (argsC (cn (.int 0)) args0)) (argsC (opN mkTup (argsC (cn (.bl true)) args0)) (argsC (opN mkTup (argsC (cn (.str "0")) args0)) (argsC (cn (.int 0)) (argsC (opN mkTup (argsC (cn (.int 0)) (argsC (cn (.int 1)) (argsC (cn (.int 2)) (argsC (cn (.int 3)) args0))))) (argsC (cn (.dct [])) args0)))))))))))) k_law_k11_8)
def c_law_k11_1 : Env → M (List D) := (mLc [11] (bName 11) (tBool (op2 eqD (mCall (argsC (vr 1) (argsC (cn (.int 2)) args0)) (argN 2 m_law_taken)) (cn (.int 0)))) (vr 11) (itN rng1 (argsC (vr 5) args0)))
def l_law_k11_1 : SD := (sSeq (sSet 7 (opN tupleD (argsC (mSlice (lstF c_law_k11_1) noP (soP (cn (.int 3)))) args0))) (sIf (tBool (op2 (notO own_Table_eq) (mCall (argsC (vr 4) (argsC (vr 7) args0)) (argN 2 m_by_marks)) (mCall (argsC (mCall (argsC (vr 2) (argsC (vr 3) (argsC (vr 7) args0))) (argN 3 m_law_by)) args0) (mkObj "Table" ini_Table)))) (sRet (cn (.bl false))) sNext))
def k_law_k11_10 : SD := (sSeq (sFor (itN rng1 (argsC (cn (.int 4)) args0)) (aName 6) l_law_k11_1) k_law_k11_9)
def k_law_k11_11 : SD := (sSeq (sIf (mAnd (tBool (op2 gtD (opN lenD (argsC (vr 2) args0)) (cn (.int 1)))) (tBool (op2 own_Ledger_eq (vr 4) (mCall (argsC (mSlice (vr 2) (soP (cn (.int 1))) noP) (argsC (vr 3) args0)) (mkObj "Ledger" ini_Ledger))))) (sRet (cn (.bl false))) sNext) k_law_k11_10)
def k_law_k11_12 : SD := (sSeq (sIf (mAnd (tBool (op2 ltD (vr 3) (cn (.int 4)))) (tBool (op2 own_Ledger_eq (vr 4) (mCall (argsC (vr 2) (argsC (op2 addD (vr 3) (cn (.int 1))) args0)) (mkObj "Ledger" ini_Ledger))))) (sRet (cn (.bl false))) sNext) k_law_k11_11)
def k_law_k11_13 : SD := (sSeq (sIf (mNot (tBool (op2 own_Ledger_eq (vr 4) (mCall (argsC (vr 2) (argsC (vr 3) args0)) (mkObj "Ledger" ini_Ledger))))) (sRet (cn (.bl false))) sNext) k_law_k11_12)
def k_law_k11_14 : SD := (sSeq (sIf (mOr (tBool (op2 neD (mProp "Ledger" m_Ledger_entries (vr 4)) (vr 2))) (mOr (tBool (op2 neD (mProp "Ledger" m_Ledger_ways (vr 4)) (vr 3))) (tBool (op2 own_Ledger_eq (vr 4) (vr 2))))) (sRet (cn (.bl false))) sNext) k_law_k11_13)
def k_law_k11_15 : SD := (sSeq (sPar 4 5 (mCall (argsC (vr 2) (argsC (vr 3) args0)) (mkObj "Ledger" ini_Ledger)) (opN lenD (argsC (op2 ixD (op2 ixD (vr 2) (cn (.int 0))) (cn (.int 2))) args0))) k_law_k11_14)
def k_law_k11_16 : SD := (sSeq (sAsg (mCall (argsC (vr 1) args0) (argN 1 m_law_made)) (aTupL 2 (aCons (aName 2) (aCons (aName 3) aNil)))) k_law_k11_15)
def b_law_k11 : SD := (sSeq (sCell 1 (dispL (argsC (vr 0) (argsC (cn (.int 0)) (argsC (cn (.int 811)) (argsC (cn (.int 0)) args0)))))) k_law_k11_16)
def m_law_k11 : List D → M D := runB 12 b_law_k11

section
variable {st rest : Sta} {Q : SR → Prop} {w q v : Nat} {es fs : List Le} {e : Le} {ms : List Nat} {x0 x6 x7 x8 x9 x10 x11 : Option SV}
theorem eqE {x : D} (h : pln 7 x = true) : eqD (.lst [.str "entries", x]) (.lst [.str "entries", x]) st = some (.bl true) := by
  refine eqD_refl ?_
  have s : pln 7 (.str "entries") = true := by decide +kernel
  show ([D.str "entries", x].all (pln 7)) = true
  simp [s, h]
theorem neE {x : D} (h : pln 7 x = true) : neD (.lst [.str "entries", x]) (.lst [.str "entries", x]) st = some (.bl false) := by
  refine neD_refl ?_
  have s : pln 7 (.str "entries") = true := by decide +kernel
  show ([D.str "entries", x].all (pln 7)) = true
  simp [s, h]
abbrev E11 (x0 : Option SV) (es : List Le) (w q : Nat) (x6 x7 x8 x9 x10 x11 : Option SV) : Env := [x0, some (.fro (.cell 0)), some (.fro (linesD es)), some (.fro (.int (w : Nat))), some (.fro (ledgerD es w)), some (.fro (.int (q : Nat))), x6, x7, x8, x9, x10, x11]
theorem ent0 (L : Lg w q es) : ∃ e0 ∈ es, ∀ S, ixD (linesD es) (.int 0) S = some (lgE e0) := by
  have n1 := L.n1
  match es, n1 with
  | e0 :: es, _ =>
    refine ⟨e0, List.mem_cons_self .., fun S => ?_⟩
    show atI _ ((0 : Nat) : Int) = _
    rw [atI_nat (by simp)]
    rfl
theorem k11_1 {r : Cell} (L : Lg w q es) (hq : ∀ st', Q (.rt (.bl true) st')) : evS k_law_k11_1 (E11 x0 es w q x6 x7 x8 x9 x10 x11) (r :: rest) Q := by
  obtain ⟨e0, he, i0⟩ := ent0 L
  have hk := lgE_kn (L.ok e0 he) L.q4
  have lw : ledW (w : Int) (.tup [.tup [.int 0, .bl true, .tup [], .int 1], .non, lgE e0]) = .error (badEntries (.int 0)) := by
    rw [ledW_cons, if_pos (by simp)]
    have b : isEntD (w : Int) 0 (.tup [.int 0, .bl true, .tup [], .int 1]) = false := by
      rw [isEnt_4]
      simp
    unfold badEnt
    rw [if_pos rfl, b]
    rfl
  have rf := fun S => rf_ent (st := S) (w := w) (x := .int 0) (d := .tup [.tup [.int 0, .bl true, .tup [], .int 1], .non, lgE e0]) (by
    show (true && [D.tup [.int 0, .bl true, .tup [], .int 1], .non, lgE e0].all knE) = true
    simp only [List.all_cons, List.all_nil, hk]
    rfl) L.w2 L.w4 lw
  have eq := fun S => eqE (st := S) (x := .int 0) rfl
  unfold k_law_k11_1
  generalize lgE e0 = E at *
  simp [i0, mkTup_4G, mkLst_of, rf, eq]
  exact hq _
def noneL (es : List Le) : List D := [.non, .tup [], .lst (es.map lgE), .tup ((List.replicate 41 (es.map lgE)).flatten.take 41), .int 0, .dct []]
theorem none_led (L : Lg w q es) {d : D} (hd : d ∈ noneL es) : knL d = true ∧ ledW (w : Int) d = .error (badEntries .non) := by
  have n1 := L.n1
  unfold noneL at hd
  simp only [List.mem_cons, List.not_mem_nil, or_false] at hd
  rcases hd with rfl | rfl | rfl | rfl | rfl | rfl
  · exact ⟨rfl, rfl⟩
  · exact ⟨rfl, rfl⟩
  · exact ⟨rfl, rfl⟩
  · refine ⟨?_, ?_⟩
    · show (true && _) = true
      rw [Bool.true_and, List.all_eq_true]
      intro x hx
      have hx := List.mem_of_mem_take hx
      rw [List.mem_flatten] at hx
      obtain ⟨l, hl, hx⟩ := hx
      rw [List.eq_of_mem_replicate hl] at hx
      obtain ⟨e, he, rfl⟩ := List.mem_map.mp hx
      exact lgE_kn (L.ok e he) L.q4
    · have hl : ((List.replicate 41 (es.map lgE)).flatten.take 41).length = 41 := by
        rw [List.length_take, List.length_flatten, List.map_replicate, List.length_map, List.sum_replicate_nat]
        omega
      match h : (List.replicate 41 (es.map lgE)).flatten.take 41, hl with
      | a :: l, hl =>
        rw [ledW_cons, if_neg (by omega)]
  · exact ⟨rfl, rfl⟩
  · exact ⟨rfl, rfl⟩
theorem k11_3 {r : Cell} (hr : RowOk r) (L : Lg w q es) (hq : ∀ st', Q (.rt (.bl true) st')) : evS k_law_k11_3 (E11 x0 es w q x6 x7 x8 x9 x10 x11) (r :: rest) Q := by
  have n1 := L.n1
  have n40 := L.n40
  have li : ∀ S, listO [linesD es] S = some (es.map lgE) := fun S => rfl
  have ml : ∀ S, mulD (linesD es) (.int 41) S = some (.tup (List.replicate 41 (es.map lgE)).flatten) := fun S => by
    refine if_pos ⟨?_, by decide, by decide, by rw [List.length_map]; omega⟩
    intro z
    rw [List.map_eq_nil_iff] at z
    rw [z] at n1
    simp at n1
  have ct : ∀ S, cutD (.tup (List.replicate 41 (es.map lgE)).flatten) none (some 41) S = some (.tup ((List.replicate 41 (es.map lgE)).flatten.take 41)) := fun S => cut_toG (k := 41)
  have k1 := fun r (hr : RowOk r) x10 => k11_1 (r := r) (rest := rest) (x0 := x0) (x6 := x6) (x7 := x7) (x8 := x8) (x9 := x9) (x10 := x10) (x11 := x11) L hq
  have no := fun d hd => none_led (d := d) L hd
  have w2 := L.w2
  have w4 := L.w4
  have ne := fun S => neE (st := S) (x := .non) rfl
  unfold k_law_k11_3
  unfold E11 at k1 ⊢
  unfold noneL at no
  generalize (List.replicate 41 (es.map lgE)).flatten.take 41 = A41 at *
  generalize (List.replicate 41 (es.map lgE)).flatten = A at *
  generalize es.map lgE = A1 at *
  simp [li, ml, ct, mkLst_of]
  refine taken_ev hr (by omega) (by omega) fun k r1 hr1 hk => ?_
  simp
  refine pick_ev (by simp; omega) fun d hd => ?_
  obtain ⟨h1, h2⟩ := no d hd
  have rf := fun S => rf_ent (st := S) h1 w2 w4 h2
  unfold k_law_k11_2
  simp [rf, ne, mkLst_of]
  exact k1 r1 hr1 _
theorem k11_4 {r : Cell} (hr : RowOk r) (L : Lg w q es) (hq : ∀ st', Q (.rt (.bl true) st')) : evS k_law_k11_4 (E11 x0 es w q x6 x7 x8 x9 x10 x11) (r :: rest) Q := by
  unfold k_law_k11_4
  simp
  refine wrong_ev hr L fun r1 hr1 => ?_
  simp
  exact k11_3 hr1 L hq
theorem k11_6 {r : Cell} (hr : RowOk r) (L : Lg w q es) (hq : ∀ st', Q (.rt (.bl true) st')) : evS k_law_k11_6 (E11 x0 es w q x6 x7 x8 x9 x10 x11) (r :: rest) Q := by
  have k4 := fun r (hr : RowOk r) x9 => k11_4 (r := r) (rest := rest) (x0 := x0) (x6 := x6) (x7 := x7) (x8 := x8) (x9 := x9) (x10 := x10) (x11 := x11) hr L hq
  unfold k_law_k11_6
  unfold E11 at k4 ⊢
  simp [mkLst_of]
  refine taken_ev hr (by omega) (by omega) fun k r1 hr1 hk => ?_
  simp
  refine pick_ev (by simp; omega) fun d hd => ?_
  have hd' : d = .non ∨ d = .int 1 ∨ d = .int 5 ∨ d = .bl true ∨ d = .str "2" := by simpa using hd
  have h : kn d = true ∧ ledI .non d = .error ⟨"BadNumber", [("n", d)]⟩ ∧ pln 7 d = true := by
    rcases hd' with rfl | rfl | rfl | rfl | rfl
    · exact ⟨rfl, rfl, rfl⟩
    · exact ⟨rfl, rfl, rfl⟩
    · exact ⟨rfl, rfl, rfl⟩
    · exact ⟨rfl, rfl, rfl⟩
    · exact ⟨rfl, rfl, by decide +kernel⟩
  have rf := fun S => rf_num (st := S) (d := .non) rfl h.1 h.2.1
  have ne : ∀ S, neD (.lst [d]) (.lst [d]) S = some (.bl false) := fun S => neD_refl (by
    show ([d].all (pln 7)) = true
    simp [h.2.2])
  unfold k_law_k11_5
  simp [rf, ne, mkLst_of]
  exact k4 r1 hr1 _
theorem k11_7 {r : Cell} (hr : RowOk r) (L : Lg w q es) (hq : ∀ st', Q (.rt (.bl true) st')) : evS k_law_k11_7 (E11 x0 es w q x6 x7 x8 x9 x10 x11) (r :: rest) Q := by
  have k6 := fun r (hr : RowOk r) => k11_6 (r := r) (rest := rest) (x0 := x0) (x6 := x6) (x7 := x7) (x8 := x8) (x9 := x9) (x10 := x10) (x11 := x11) hr L hq
  have ne : ∀ S, neD (.str "ledger") (.str "ledger") S = some (.bl false) := fun S => neD_refl (show pln 8 (.str "ledger") = true by decide +kernel)
  have lt : ∀ S, isiC "Ledger" CS (linesD es) S = some (.bl false) := fun S => rfl
  unfold k_law_k11_7
  unfold E11 at k6 ⊢
  generalize linesD es = T at *
  simp [mkLst_of]
  refine taken_ev hr (by omega) (by omega) fun k r1 hr1 hk => ?_
  simp
  refine pick_ev (by simp; omega) fun d hd => ?_
  have hd' : d = .non ∨ d = T ∨ d = .int 0 ∨ d = .tup [] := by simpa using hd
  have h : ∀ S, isiC "Ledger" CS d S = some (.bl false) := fun S => by
    rcases hd' with rfl | rfl | rfl | rfl
    · rfl
    · exact lt S
    · rfl
    · rfl
  have um := fun S => um_led (h S)
  simp [um, ne]
  exact k6 r1 hr1
theorem k11_9 {r : Cell} (hr : RowOk r) (L : Lg w q es) (hq : ∀ st', Q (.rt (.bl true) st')) : evS k_law_k11_9 (E11 x0 es w q x6 x7 x8 x9 x10 x11) (r :: rest) Q := by
  have k7 := fun r (hr : RowOk r) x8 => k11_7 (r := r) (rest := rest) (x0 := x0) (x6 := x6) (x7 := x7) (x8 := x8) (x9 := x9) (x10 := x10) (x11 := x11) hr L hq
  have ng : ∀ st, negD (.int 1) st = some (.int (-1)) := fun _ => rfl
  have ne : ∀ S, neD (.str "marks") (.str "marks") S = some (.bl false) := fun S => neD_refl (show pln 8 (.str "marks") = true by decide +kernel)
  have od := fun d (hd : d ∈ oddM q) S => odd_marks (st := S) L hd
  have lo : ∀ S, lenD [.lst (oddM q)] S = some (.int 10) := fun S => rfl
  have hO : D.lst (oddM q) = .lst (oddM q) := rfl
  have ix : ∀ (k : Nat) S, k < 10 → ∃ d ∈ oddM q, ixD (.lst (oddM q)) (.int (k : Nat)) S = some d := fun k S hk => by
    have hk' : k < (oddM q).length := hk
    refine ⟨(oddM q)[k], List.getElem_mem hk', ?_⟩
    show atI _ _ = _
    rw [atI_nat hk']
  unfold k_law_k11_9
  unfold E11 at k7 ⊢
  have e : D.lst [.non, .tup [.int (q : Nat)], .tup [.int 0, .int 0], .tup [.int (-1)], .lst [.int 0], .tup [.bl true], .tup [.str "0"], .int 0, .tup [.int 0, .int 1, .int 2, .int 3], .dct []] = .lst (oddM q) := rfl
  simp [mkLst_of, mkTup_4G, ng]
  rw [e]
  generalize D.lst (oddM q) = O at *
  unfold k_law_k11_8
  simp [lo]
  refine taken_ev hr (by omega) (by omega) fun k r1 hr1 hk => ?_
  obtain ⟨d, hd, hx⟩ := ix k (r1 :: rest) (by omega)
  have od := od d hd
  simp [hx, od, ne]
  exact k7 r1 hr1 _
def R11 (x0 : Option SV) (es : List Le) (w q : Nat) (x8 x9 x10 : Option SV) (env : Env) (st' : Sta) : Prop := ∃ x6 x7 x11 r ex, env = E11 x0 es w q x6 x7 x8 x9 x10 x11 ∧ r :: ex = st' ∧ RowOk r
theorem k11_turn (L : Lg w q es) {k : Nat} {env : Env} {st' : Sta} (hI : R11 x0 es w q x8 x9 x10 env st') (hR : ∀ env st', R11 x0 es w q x8 x9 x10 env st' → Q (.nx env st')) : evS (aName 6 (natD k)) env st' (kTg l_law_k11_1 Q) := by
  obtain ⟨x6, x7, x11, r, ex, e1, e2, hr⟩ := hI
  subst e1 e2
  have q4 := L.q4
  unfold E11
  simp only [evS_aName, kTg_nx, List.set_cons_succ, List.set_cons_zero]
  unfold l_law_k11_1 c_law_k11_1
  simp [rng1_w (show q ≤ 1000 by omega)]
  refine evC_inv (I := fun c acc st' => ∃ (ms : List Nat) (r' : Cell), acc = ms.map natD ∧ r' :: ex = st' ∧ RowOk r' ∧ ms.Pairwise (· < ·) ∧ ms.length ≤ c ∧ ∀ m ∈ ms, m < c) ?_ ⟨[], r, rfl, rfl, hr, List.Pairwise.nil, Nat.le_refl _, fun _ h => nomatch h⟩ ?_
  · intro c hc acc st' hI
    obtain ⟨ms, r2, e1, e2, hr2, h1, h2, h3⟩ := hI
    subst e1 e2
    have hc' : c < q := by simpa using hc
    have ec : ((List.range q).map natD)[c] = natD c := by simp
    rw [ec]
    have sl : (ms.map natD).length < sizeLine := by
      rw [sizeLine_eq, List.length_map]
      omega
    have yes_ : ∃ ms2 : List Nat, ms.map natD ++ [natD c] = ms2.map natD ∧ ms2.Pairwise (· < ·) ∧ ms2.length ≤ c + 1 ∧ ∀ m ∈ ms2, m < c + 1 := by
      refine ⟨ms ++ [c], by simp, ?_, by simp; omega, fun m hm => ?_⟩
      · rw [List.pairwise_append]
        exact ⟨h1, List.pairwise_singleton .., fun a ha b hb => by rw [List.mem_singleton.mp hb]; exact h3 a ha⟩
      · rcases List.mem_append.mp hm with h | h
        · have := h3 m h
          omega
        · have := List.mem_singleton.mp h
          omega
    have no_ : ∃ ms2 : List Nat, ms.map natD = ms2.map natD ∧ ms2.Pairwise (· < ·) ∧ ms2.length ≤ c + 1 ∧ ∀ m ∈ ms2, m < c + 1 := ⟨ms, rfl, h1, by omega, fun m hm => by have := h3 m hm; omega⟩
    generalize ms.map natD = A at *
    generalize natD c = C at *
    refine ⟨_, rfl, ?_⟩
    simp
    refine taken_ev hr2 (by omega) (by omega) fun y r3 hr3 hy => ?_
    obtain ⟨ms2, a1, a2, a3, a4⟩ := yes_
    obtain ⟨ms3, b1, b2, b3, b4⟩ := no_
    by_cases cy : y = 0
    · subst cy
      simp [sl]
      exact ⟨ms2, a1, hr3, a2, a3, a4⟩
    · have cy' : ¬ (y : Int) = 0 := by omega
      simp [cy, cy']
      exact ⟨ms3, b1, hr3, b2, b3, b4⟩
  · intro acc st' hI
    obtain ⟨ms0, r2, e1, e2, hr2, h1, h2, h3⟩ := hI
    subst e1 e2
    rw [List.length_map, List.length_range] at h3
    have ct : ∀ S, cutD (.lst (ms0.map natD)) none (some 3) S = some (.lst ((ms0.take 3).map natD)) := fun S => by
      rw [List.map_take]
      exact cut_toL (k := 3)
    have tl : ∀ S, tupleD [.lst ((ms0.take 3).map natD)] S = some (tpD (ms0.take 3)) := fun S => rfl
    have hm : (ms0.take 3).length ≤ 3 := by simp; omega
    have hq : ∀ m ∈ ms0.take 3, m < q := fun m hm => h3 m (List.mem_of_mem_take hm)
    have asc : (ms0.take 3).Pairwise (· < ·) := h1.sublist (List.take_sublist _ _)
    generalize ms0.take 3 = ms at *
    obtain ⟨ex2, bm⟩ := by_marks_ok (st := r2 :: ex) L hm hq asc
    have lb := law_by_ok (st := r2 :: ex ++ ex2) L hm hq
    have T := rb_tb (ms := ms) L hm
    have mk := mk_table (st := r2 :: ex ++ ex2) T
    have ow : notO own_Table_eq (tableD (rbRows w ms es)) (tableD (rbRows w ms es)) (r2 :: ex ++ ex2) = some (.bl false) := notO_ok (b := true) (by rw [own_tab]; exact eqD_refl pln_rows)
    have fin : ∀ x11, R11 x0 es w q x8 x9 x10 (E11 x0 es w q (some (.fro (natD k))) (some (.fro (tpD ms))) x8 x9 x10 x11) (r2 :: (ex ++ ex2)) := fun x11 => ⟨_, _, _, _, _, rfl, rfl, hr2⟩
    have fin := fun x11 => hR _ _ (fin x11)
    unfold E11 at fin
    generalize ms0.map natD = A0 at *
    generalize ms.map natD = A at *
    generalize tpD ms = M at *
    generalize linesD es = LD at *
    generalize tableD (rbRows w ms es) = TD at *
    generalize rowsD (rbRows w ms es) = RD at *
    simp at bm lb mk ow
    simp [ct, tl, bm, lb, mk, ow]
    exact fin _
theorem k11_10 {r : Cell} (hr : RowOk r) (L : Lg w q es) (hq : ∀ st', Q (.rt (.bl true) st')) : evS k_law_k11_10 (E11 x0 es w q x6 x7 x8 x9 x10 x11) (r :: rest) Q := by
  have rg : ∀ S, rng1 [.int 4] S = some ((List.range 4).map natD) := fun S => rng1_w (w := 4) (by omega)
  unfold k_law_k11_10
  simp [rg]
  refine evL_upto (n := 4) (fun _ => R11 x0 es w q x8 x9 x10) (fun k hk env st' hI => k11_turn L hI fun env st' h => by rw [kI_nx]; exact h) ?_ ⟨_, _, _, _, _, rfl, rfl, hr⟩
  intro env st' hI
  obtain ⟨y6, y7, y11, r2, ex, e1, e2, hr2⟩ := hI
  subst e1 e2
  rw [kSeq_nx]
  exact k11_9 hr2 L hq
theorem eqB_len : ∀ {l m : List D}, l.length ≠ m.length → eqB (.tup l) (.tup m) = false
  | [], [], h => absurd rfl h
  | [], _ :: _, _ => rfl
  | _ :: _, [], _ => rfl
  | a :: l, b :: m, h => by
    have e : eqB (.tup (a :: l)) (.tup (b :: m)) = (eqB a b && eqB (.tup l) (.tup m)) := rfl
    rw [e, eqB_len (l := l) (m := m) (by simpa using h), Bool.and_false]
theorem pln_lgE {n : Nat} : pln (n + 2) (lgE e) = true := by simp [lgE, pln]
theorem pln_lines : pln 8 (linesD es) = true := by
  show (es.map lgE).all (pln 7) = true
  rw [List.all_map, List.all_eq_true]
  intro e _
  exact pln_lgE (n := 5)
theorem Lg.more (L : Lg w q es) (h : w < 4) : Lg (w + 1) q es := ⟨by have := L.w2; omega, by omega, L.q1, L.q4, L.n1, L.n40, fun e he => ⟨by have := (L.ok e he).way; omega, (L.ok e he).len, (L.ok e he).n0, (L.ok e he).n1⟩⟩
theorem Lg.tl (L : Lg w q es) (h : 1 < es.length) : Lg w q (es.drop 1) := ⟨L.w2, L.w4, L.q1, L.q4, by rw [List.length_drop]; omega, by have := L.n40; rw [List.length_drop]; omega, fun e he => L.ok e (List.mem_of_mem_drop he)⟩
theorem k11_13 {r : Cell} (hr : RowOk r) (L : Lg w q es) (hq : ∀ st', Q (.rt (.bl true) st')) : evS k_law_k11_13 (E11 x0 es w q x6 x7 x8 x9 x10 x11) (r :: rest) Q := by
  have n1 := L.n1
  have k10 := k11_10 (rest := rest) (x0 := x0) (x6 := x6) (x7 := x7) (x8 := x8) (x9 := x9) (x10 := x10) (x11 := x11) hr L hq
  have mk := mk_ledger (st := r :: rest) L
  have o1 : own_Ledger_eq (ledgerD es w) (ledgerD es w) (r :: rest) = some (.bl true) := by
    rw [own_led, eqD_refl pln_lines]
    simp
  have ll : lenD [linesD es] (r :: rest) = some (.int (es.length : Nat)) := by
    show some (D.int (((es.map lgE).length : Nat) : Int)) = _
    rw [List.length_map]
  have s11 : evS k_law_k11_11 (E11 x0 es w q x6 x7 x8 x9 x10 x11) (r :: rest) Q := by
    unfold k_law_k11_11
    unfold E11 at k10 ⊢
    by_cases c : 1 < es.length
    · have c' : (1 : Int) < (es.length : Int) := by omega
      have ct : cutD (linesD es) (some 1) none (r :: rest) = some (linesD (es.drop 1)) := by
        unfold linesD
        rw [List.map_drop]
        exact cut_from (k := 1) (by rw [List.length_map]; omega)
      have mk2 := mk_ledger (st := r :: rest) (L.tl c)
      have o2 : own_Ledger_eq (ledgerD es w) (ledgerD (es.drop 1) w) (r :: rest) = some (.bl false) := by
        rw [own_led, eqD_of (n := 8) pln_lines pln_lines (by decide)]
        have : eqB (linesD es) (linesD (es.drop 1)) = false := eqB_len (by simp; omega)
        rw [this]
      generalize linesD (es.drop 1) = L2 at *
      generalize ledgerD (es.drop 1) w = G2 at *
      generalize linesD es = L1 at *
      generalize ledgerD es w = G1 at *
      simp [ll, c', ct, mk2, o2]
      exact k10
    · have c' : ¬ (1 : Int) < (es.length : Int) := by omega
      generalize linesD es = L1 at *
      generalize ledgerD es w = G1 at *
      simp [ll, c']
      exact k10
  have s12 : evS k_law_k11_12 (E11 x0 es w q x6 x7 x8 x9 x10 x11) (r :: rest) Q := by
    unfold k_law_k11_12
    unfold E11 at s11 ⊢
    by_cases c : w < 4
    · have c' : (w : Int) < 4 := by omega
      have mk2 := mk_ledger (st := r :: rest) (L.more c)
      have o2 : own_Ledger_eq (ledgerD es w) (ledgerD es (w + 1)) (r :: rest) = some (.bl false) := by
        rw [own_led, eqD_refl pln_lines]
        simp
        omega
      rw [show (((w + 1 : Nat)) : Int) = (w : Int) + 1 by omega] at mk2
      generalize ledgerD es (w + 1) = G2 at *
      generalize linesD es = L1 at *
      generalize ledgerD es w = G1 at *
      simp [c', mk2, o2]
      exact s11
    · have c' : ¬ (w : Int) < 4 := by omega
      generalize linesD es = L1 at *
      generalize ledgerD es w = G1 at *
      simp [c']
      exact s11
  unfold k_law_k11_13
  unfold E11 at s12 ⊢
  generalize linesD es = L1 at *
  generalize ledgerD es w = G1 at *
  simp [mk, o1]
  exact s12
theorem k11_14 {r : Cell} (hr : RowOk r) (L : Lg w q es) (hq : ∀ st', Q (.rt (.bl true) st')) : evS k_law_k11_14 (E11 x0 es w q x6 x7 x8 x9 x10 x11) (r :: rest) Q := by
  have k13 := k11_13 (rest := rest) (x0 := x0) (x6 := x6) (x7 := x7) (x8 := x8) (x9 := x9) (x10 := x10) (x11 := x11) hr L hq
  have p1 : m_Ledger_entries [ledgerD es w] (r :: rest) = .ok (linesD es) (r :: rest) := by
    apply ev_run
    unfold m_Ledger_entries b_Ledger_entries
    simp
  have p2 : m_Ledger_ways [ledgerD es w] (r :: rest) = .ok (.int (w : Nat)) (r :: rest) := by
    apply ev_run
    unfold m_Ledger_ways b_Ledger_ways
    simp
  have io : isObj "Ledger" (ledgerD es w) (r :: rest) = true := rfl
  have o1 : own_Ledger_eq (ledgerD es w) (linesD es) (r :: rest) = some (.bl false) := own_led_tup
  have n1 : neD (linesD es) (linesD es) (r :: rest) = some (.bl false) := neD_refl pln_lines
  unfold k_law_k11_14
  unfold E11 at k13 ⊢
  generalize linesD es = L1 at *
  generalize ledgerD es w = G1 at *
  simp [p1, p2, io, o1, n1]
  exact k13
theorem math_law : ∀ ns : List Int, ns.length ≤ 63 → ∃ st, m_law_k11 [.fix (ns.map .int)] [] = .ok (.bl true) st := by
  intro ns _
  refine ev_out (r := m_law_k11 [.fix (ns.map .int)] []) (Q := fun r => ∃ st, r = Res.ok (D.bl true) st) ?_
  unfold m_law_k11 b_law_k11 k_law_k11_16
  simp [mkLst_of]
  refine made_ev (rest := []) ⟨ns, 0, 811, 0, rfl, by decide, by decide⟩ fun es w q r hr L => ?_
  have n1 := L.n1
  obtain ⟨e0, he, i0⟩ := ent0 L
  have i2 : ∀ S, ixD (lgE e0) (.int 2) S = some (.tup (e0.ms.map .bl)) := fun S => rfl
  have il : ∀ S, lenD [.tup (e0.ms.map .bl)] S = some (.int (q : Nat)) := fun S => by
    show some (D.int (((e0.ms.map D.bl).length : Nat) : Int)) = _
    rw [List.length_map, (L.ok e0 he).len]
  have mk := mk_ledger (st := [r]) L
  have fin := k11_14 (rest := []) (x0 := some (.fro (.fix (ns.map .int)))) (x6 := none) (x7 := none) (x8 := none) (x9 := none) (x10 := none) (x11 := none) (Q := kRun fun r => ∃ st, r = Res.ok (D.bl true) st) hr L (fun st' => by
    rw [kRun_rt]
    exact ⟨_, rfl⟩)
  unfold E11 at fin
  generalize linesD es = L1 at *
  generalize ledgerD es w = G1 at *
  simp
  unfold k_law_k11_15
  simp [mk, i0, i2, il]
  exact fin
end
end PL
namespace PL
open PySem PySem.Spec PyProof.Rows L2
section
variable {K : Fr} {mg : Str → Option Value}
theorem g_is_from (S : Txt fa fn K mg) : mg "is_from" = some (.ref (ga "is_from" K)) := glo_ok S (S.fact 0) "is_from"
theorem g_is_entry (S : Txt fa fn K mg) : mg "is_entry" = some (.ref (ga "is_entry" K)) := glo_ok S (S.fact 0) "is_entry"
theorem g__law_refused (S : Txt fa fn K mg) : mg "_law_refused" = some (.ref (ga "_law_refused" K)) := glo_ok S (S.fact 0) "_law_refused"
theorem g__law_taken (S : Txt fa fn K mg) : mg "_law_taken" = some (.ref (ga "_law_taken" K)) := glo_ok S (S.fact 0) "_law_taken"
theorem g__law_wrong (S : Txt fa fn K mg) : mg "_law_wrong" = some (.ref (ga "_law_wrong" K)) := glo_ok S (S.fact 0) "_law_wrong"
theorem g_is_cell (S : Txt fa fn K mg) : mg "is_cell" = some (.ref (ga "is_cell" K)) := glo_ok S (S.fact 0) "is_cell"
theorem g_is_group (S : Txt fa fn K mg) : mg "is_group" = some (.ref (ga "is_group" K)) := glo_ok S (S.fact 0) "is_group"
theorem g_rows_by (S : Txt fa fn K mg) : mg "rows_by" = some (.ref (ga "rows_by" K)) := glo_ok S (S.fact 0) "rows_by"
theorem g_need_marks (S : Txt fa fn K mg) : mg "need_marks" = some (.ref (ga "need_marks" K)) := glo_ok S (S.fact 0) "need_marks"
theorem g_need_ledger (S : Txt fa fn K mg) : mg "need_ledger" = some (.ref (ga "need_ledger" K)) := glo_ok S (S.fact 0) "need_ledger"
theorem g_by_marks (S : Txt fa fn K mg) : mg "by_marks" = some (.ref (ga "by_marks" K)) := glo_ok S (S.fact 0) "by_marks"
theorem g__law_unmarked (S : Txt fa fn K mg) : mg "_law_unmarked" = some (.ref (ga "_law_unmarked" K)) := glo_ok S (S.fact 0) "_law_unmarked"
theorem g__law_key (S : Txt fa fn K mg) : mg "_law_key" = some (.ref (ga "_law_key" K)) := glo_ok S (S.fact 0) "_law_key"
theorem g__law_by (S : Txt fa fn K mg) : mg "_law_by" = some (.ref (ga "_law_by" K)) := glo_ok S (S.fact 0) "_law_by"
theorem g__law_made (S : Txt fa fn K mg) : mg "_law_made" = some (.ref (ga "_law_made" K)) := glo_ok S (S.fact 0) "_law_made"
theorem g_law (S : Txt fa fn K mg) : mg "law" = some (.ref (ga "law" K)) := glo_ok S (S.fact 0) "law"
theorem g_AboutError (S : Txt fa fn K mg) : mg "AboutError" = some (.ref (ga "AboutError" K)) := glo_ok S (S.fact 0) "AboutError"
theorem g_BadGroups (S : Txt fa fn K mg) : mg "BadGroups" = some (.ref (ga "BadGroups" K)) := glo_ok S (S.fact 0) "BadGroups"
theorem g_BadNumber (S : Txt fa fn K mg) : mg "BadNumber" = some (.ref (ga "BadNumber" K)) := glo_ok S (S.fact 0) "BadNumber"
theorem g_BadEntries (S : Txt fa fn K mg) : mg "BadEntries" = some (.ref (ga "BadEntries" K)) := glo_ok S (S.fact 0) "BadEntries"
theorem g_BadLedger (S : Txt fa fn K mg) : mg "BadLedger" = some (.ref (ga "BadLedger" K)) := glo_ok S (S.fact 1) "BadLedger"
theorem g_BadMarks (S : Txt fa fn K mg) : mg "BadMarks" = some (.ref (ga "BadMarks" K)) := glo_ok S (S.fact 1) "BadMarks"
theorem g_Table (S : Txt fa fn K mg) : mg "Table" = some (.ref (ga "Table" K)) := glo_ok S (S.fact 1) "Table"
theorem g_Ledger (S : Txt fa fn K mg) : mg "Ledger" = some (.ref (ga "Ledger" K)) := glo_ok S (S.fact 1) "Ledger"
theorem z_all (S : Txt fa fn K mg) : mg "all" = none := free_ok S (S.fact 2) "all"
theorem z_bool (S : Txt fa fn K mg) : mg "bool" = none := free_ok S (S.fact 2) "bool"
theorem z_enumerate (S : Txt fa fn K mg) : mg "enumerate" = none := free_ok S (S.fact 2) "enumerate"
theorem z_int (S : Txt fa fn K mg) : mg "int" = none := free_ok S (S.fact 2) "int"
theorem z_isinstance (S : Txt fa fn K mg) : mg "isinstance" = none := free_ok S (S.fact 2) "isinstance"
theorem z_len (S : Txt fa fn K mg) : mg "len" = none := free_ok S (S.fact 2) "len"
theorem z_list (S : Txt fa fn K mg) : mg "list" = none := free_ok S (S.fact 2) "list"
theorem z_min (S : Txt fa fn K mg) : mg "min" = none := free_ok S (S.fact 2) "min"
theorem z_range (S : Txt fa fn K mg) : mg "range" = none := free_ok S (S.fact 2) "range"
theorem z_set (S : Txt fa fn K mg) : mg "set" = none := free_ok S (S.fact 2) "set"
theorem z_sorted (S : Txt fa fn K mg) : mg "sorted" = none := free_ok S (S.fact 2) "sorted"
theorem z_sum (S : Txt fa fn K mg) : mg "sum" = none := free_ok S (S.fact 2) "sum"
theorem z_tuple (S : Txt fa fn K mg) : mg "tuple" = none := free_ok S (S.fact 2) "tuple"
theorem i_MOST_WAYS (S : Txt fa fn K mg) : ∃ t, mg "MOST_WAYS" = some (.int (4) t) := int_ok S (S.fact 3)
theorem i_MOST_GROUPS (S : Txt fa fn K mg) : ∃ t, mg "MOST_GROUPS" = some (.int (8) t) := int_ok S (S.fact 4)
theorem i_MOST (S : Txt fa fn K mg) : ∃ t, mg "MOST" = some (.int (1000000000000000000000000000000) t) := int_ok S (S.fact 5)
theorem i_MOST_ENTRIES (S : Txt fa fn K mg) : ∃ t, mg "MOST_ENTRIES" = some (.int (40) t) := int_ok S (S.fact 6)
theorem i_MOST_MARKS (S : Txt fa fn K mg) : ∃ t, mg "MOST_MARKS" = some (.int (4) t) := int_ok S (S.fact 7)
theorem i_MOST_PARTED (S : Txt fa fn K mg) : ∃ t, mg "MOST_PARTED" = some (.int (3) t) := int_ok S (S.fact 8)
theorem i_MOST_TIMES (S : Txt fa fn K mg) : ∃ t, mg "MOST_TIMES" = some (.int (1000000000) t) := int_ok S (S.fact 9)
theorem is_ (S : Txt fa fn K mg) : IsK K mg CS := is_all (cs := ["Table", "Ledger"]) (ab := ["Unread", "Board", "BadGroup", "BadTable", "BadWay", "BadWhole", "TooMany", "NoTries", "BadWeights", "BadUnread", "Alone", "Full", "InvalidText"]) S (S.fact 11) (S.fact 10) (by decide)
theorem x_Table (S : Txt fa fn K mg) : fCls "Table" ["rows"] K = true := S.fact 12
theorem x_Ledger (S : Txt fa fn K mg) : fCls "Ledger" ["lines", "many"] K = true := S.fact 13
theorem e_Ledger (S : Txt fa fn K mg) : fEq "Ledger" K = true := S.fact 14
theorem e_Table (S : Txt fa fn K mg) : fEq "Table" K = true := S.fact 15
theorem n_Table (S : Txt fa fn K mg) : fNe "Table" K = true := S.fact 16
theorem p_Ledger_ways (S : Txt fa fn K mg) : fProp "Ledger" "ways" K = true := S.fact 17
theorem p_Ledger_entries (S : Txt fa fn K mg) : fProp "Ledger" "entries" K = true := S.fact 18
theorem x_BadGroups (S : Txt fa fn K mg) : fExc "BadGroups" ["index"] K = true := S.fact 19
theorem x_BadNumber (S : Txt fa fn K mg) : fExc "BadNumber" ["n"] K = true := S.fact 20
theorem x_BadEntries (S : Txt fa fn K mg) : fExc "BadEntries" ["index"] K = true := S.fact 21
theorem x_BadLedger (S : Txt fa fn K mg) : fExc "BadLedger" [] K = true := S.fact 22
theorem x_BadMarks (S : Txt fa fn K mg) : fExc "BadMarks" [] K = true := S.fact 23
theorem top_ (S : Txt fa fn K mg) : OwnI K (ga "AboutError" K) (.type "type") := top_ok (S.fact 24)
theorem m_BadNumber (S : Txt fa fn K mg) : ExM K mg "AboutError" ERRS "BadNumber" (.ref (ga "BadNumber" K)) := exm_all (errs := ["BadGroups", "BadNumber", "BadEntries", "BadLedger", "BadMarks"]) (cs := ["BadNumber", "BadEntries", "BadLedger", "BadMarks"]) (ab := ["Unread", "Board", "BadGroup", "BadTable", "BadWay", "BadWhole", "TooMany", "NoTries", "BadWeights", "BadUnread", "Alone", "Full", "InvalidText"]) S (S.fact 25) (S.fact 10) (by decide) "BadNumber"
theorem m_BadEntries (S : Txt fa fn K mg) : ExM K mg "AboutError" ERRS "BadEntries" (.ref (ga "BadEntries" K)) := exm_all (errs := ["BadGroups", "BadNumber", "BadEntries", "BadLedger", "BadMarks"]) (cs := ["BadNumber", "BadEntries", "BadLedger", "BadMarks"]) (ab := ["Unread", "Board", "BadGroup", "BadTable", "BadWay", "BadWhole", "TooMany", "NoTries", "BadWeights", "BadUnread", "Alone", "Full", "InvalidText"]) S (S.fact 25) (S.fact 10) (by decide) "BadEntries"
theorem m_BadLedger (S : Txt fa fn K mg) : ExM K mg "AboutError" ERRS "BadLedger" (.ref (ga "BadLedger" K)) := exm_all (errs := ["BadGroups", "BadNumber", "BadEntries", "BadLedger", "BadMarks"]) (cs := ["BadNumber", "BadEntries", "BadLedger", "BadMarks"]) (ab := ["Unread", "Board", "BadGroup", "BadTable", "BadWay", "BadWhole", "TooMany", "NoTries", "BadWeights", "BadUnread", "Alone", "Full", "InvalidText"]) S (S.fact 25) (S.fact 10) (by decide) "BadLedger"
theorem m_BadMarks (S : Txt fa fn K mg) : ExM K mg "AboutError" ERRS "BadMarks" (.ref (ga "BadMarks" K)) := exm_all (errs := ["BadGroups", "BadNumber", "BadEntries", "BadLedger", "BadMarks"]) (cs := ["BadNumber", "BadEntries", "BadLedger", "BadMarks"]) (ab := ["Unread", "Board", "BadGroup", "BadTable", "BadWay", "BadWhole", "TooMany", "NoTries", "BadWeights", "BadUnread", "Alone", "Full", "InvalidText"]) S (S.fact 25) (S.fact 10) (by decide) "BadMarks"
theorem f_is_from (S : Txt fa fn K mg) : FnD' K d_is_from := S.def_ 0
theorem k_is_from (S : Txt fa fn K mg) : PySem.W.keepIn K (.ref ((ga "is_from") K)) = true := (f_is_from S).kp
theorem bd_is_from (S : Txt fa fn K mg) : Binds K (fdOf K ((ga "is_from") K)) ["value", "low", "high"] [] := (f_is_from S).bindsN fun _ _ _ _ _ _ us hl => match us, hl with | [_, _, _], _ => rfl
theorem f_is_entry (S : Txt fa fn K mg) : FnD' K d_is_entry := S.def_ 1
theorem k_is_entry (S : Txt fa fn K mg) : PySem.W.keepIn K (.ref ((ga "is_entry") K)) = true := (f_is_entry S).kp
theorem bd_is_entry (S : Txt fa fn K mg) : Binds K (fdOf K ((ga "is_entry") K)) ["value", "ways", "many"] [] := (f_is_entry S).bindsN fun _ _ _ _ _ _ us hl => match us, hl with | [_, _, _], _ => rfl
theorem f_BadEntries_init (S : Txt fa fn K mg) : FnD' K d_BadEntries_init := S.def_ 2
theorem bd_BadEntries_init (S : Txt fa fn K mg) : Binds K (fdOf K ((ma "BadEntries" "__init__") K)) ["self", "index"] [] := (f_BadEntries_init S).bindsN fun _ _ _ _ _ _ us hl => match us, hl with | [_, _], _ => rfl
theorem f_BadNumber_init (S : Txt fa fn K mg) : FnD' K d_BadNumber_init := S.def_ 3
theorem bd_BadNumber_init (S : Txt fa fn K mg) : Binds K (fdOf K ((ma "BadNumber" "__init__") K)) ["self", "n"] [] := (f_BadNumber_init S).bindsN fun _ _ _ _ _ _ us hl => match us, hl with | [_, _], _ => rfl
theorem f_Ledger_init (S : Txt fa fn K mg) : FnD' K d_Ledger_init := S.def_ 4
theorem bd_Ledger_init (S : Txt fa fn K mg) : Binds K (fdOf K ((ma "Ledger" "__init__") K)) ["self", "entries", "ways"] [] := (f_Ledger_init S).bindsN fun _ _ _ _ _ _ us hl => match us, hl with | [_, _, _], _ => rfl
theorem f_law_refused_k11 (S : Txt fa fn K mg) : FnD' K d_law_refused_k11 := S.def_ 5
theorem k_law_refused_k11 (S : Txt fa fn K mg) : PySem.W.keepIn K (.ref ((ga "_law_refused") K)) = true := (f_law_refused_k11 S).kp
theorem bd_law_refused_k11 (S : Txt fa fn K mg) : Binds K (fdOf K ((ga "_law_refused") K)) ["_law_entries", "_law_ways"] [] := (f_law_refused_k11 S).bindsN fun _ _ _ _ _ _ us hl => match us, hl with | [_, _], _ => rfl
theorem f_law_taken (S : Txt fa fn K mg) : FnD' K d_law_taken := S.def_ 6
theorem k_law_taken (S : Txt fa fn K mg) : PySem.W.keepIn K (.ref ((ga "_law_taken") K)) = true := (f_law_taken S).kp
theorem bd_law_taken (S : Txt fa fn K mg) : Binds K (fdOf K ((ga "_law_taken") K)) ["_law_row", "_law_many"] [] := (f_law_taken S).bindsN fun _ _ _ _ _ _ us hl => match us, hl with | [_, _], _ => rfl
theorem f_law_wrong_k11 (S : Txt fa fn K mg) : FnD' K d_law_wrong_k11 := S.def_ 7
theorem k_law_wrong_k11 (S : Txt fa fn K mg) : PySem.W.keepIn K (.ref ((ga "_law_wrong") K)) = true := (f_law_wrong_k11 S).kp
theorem bd_law_wrong_k11 (S : Txt fa fn K mg) : Binds K (fdOf K ((ga "_law_wrong") K)) ["_law_row", "_law_entries", "_law_ways"] [] := (f_law_wrong_k11 S).bindsN fun _ _ _ _ _ _ us hl => match us, hl with | [_, _, _], _ => rfl
theorem f_is_cell (S : Txt fa fn K mg) : FnD' K d_is_cell := S.def_ 8
theorem k_is_cell (S : Txt fa fn K mg) : PySem.W.keepIn K (.ref ((ga "is_cell") K)) = true := (f_is_cell S).kp
theorem bd_is_cell (S : Txt fa fn K mg) : Binds K (fdOf K ((ga "is_cell") K)) ["value"] [] := (f_is_cell S).bindsN fun _ _ _ _ _ _ us hl => match us, hl with | [_], _ => rfl
theorem f_is_group (S : Txt fa fn K mg) : FnD' K d_is_group := S.def_ 9
theorem k_is_group (S : Txt fa fn K mg) : PySem.W.keepIn K (.ref ((ga "is_group") K)) = true := (f_is_group S).kp
theorem bd_is_group (S : Txt fa fn K mg) : Binds K (fdOf K ((ga "is_group") K)) ["value"] [] := (f_is_group S).bindsN fun _ _ _ _ _ _ us hl => match us, hl with | [_], _ => rfl
theorem f_BadGroups_init (S : Txt fa fn K mg) : FnD' K d_BadGroups_init := S.def_ 10
theorem bd_BadGroups_init (S : Txt fa fn K mg) : Binds K (fdOf K ((ma "BadGroups" "__init__") K)) ["self", "index"] [] := (f_BadGroups_init S).bindsN fun _ _ _ _ _ _ us hl => match us, hl with | [_, _], _ => rfl
theorem f_Table_init (S : Txt fa fn K mg) : FnD' K d_Table_init := S.def_ 11
theorem bd_Table_init (S : Txt fa fn K mg) : Binds K (fdOf K ((ma "Table" "__init__") K)) ["self", "groups"] [] := (f_Table_init S).bindsN fun _ _ _ _ _ _ us hl => match us, hl with | [_, _], _ => rfl
theorem f_rows_by (S : Txt fa fn K mg) : FnD' K d_rows_by := S.def_ 12
theorem k_rows_by (S : Txt fa fn K mg) : PySem.W.keepIn K (.ref ((ga "rows_by") K)) = true := (f_rows_by S).kp
theorem bd_rows_by (S : Txt fa fn K mg) : Binds K (fdOf K ((ga "rows_by") K)) ["ledger", "marks"] [] := (f_rows_by S).bindsN fun _ _ _ _ _ _ us hl => match us, hl with | [_, _], _ => rfl
theorem f_BadMarks_init (S : Txt fa fn K mg) : FnD' K d_BadMarks_init := S.def_ 13
theorem bd_BadMarks_init (S : Txt fa fn K mg) : Binds K (fdOf K ((ma "BadMarks" "__init__") K)) ["self"] [] := (f_BadMarks_init S).bindsN fun _ _ _ _ _ _ us hl => match us, hl with | [_], _ => rfl
theorem f_need_marks (S : Txt fa fn K mg) : FnD' K d_need_marks := S.def_ 14
theorem k_need_marks (S : Txt fa fn K mg) : PySem.W.keepIn K (.ref ((ga "need_marks") K)) = true := (f_need_marks S).kp
theorem bd_need_marks (S : Txt fa fn K mg) : Binds K (fdOf K ((ga "need_marks") K)) ["ledger", "marks"] [] := (f_need_marks S).bindsN fun _ _ _ _ _ _ us hl => match us, hl with | [_, _], _ => rfl
theorem f_BadLedger_init (S : Txt fa fn K mg) : FnD' K d_BadLedger_init := S.def_ 15
theorem bd_BadLedger_init (S : Txt fa fn K mg) : Binds K (fdOf K ((ma "BadLedger" "__init__") K)) ["self"] [] := (f_BadLedger_init S).bindsN fun _ _ _ _ _ _ us hl => match us, hl with | [_], _ => rfl
theorem f_need_ledger (S : Txt fa fn K mg) : FnD' K d_need_ledger := S.def_ 16
theorem k_need_ledger (S : Txt fa fn K mg) : PySem.W.keepIn K (.ref ((ga "need_ledger") K)) = true := (f_need_ledger S).kp
theorem bd_need_ledger (S : Txt fa fn K mg) : Binds K (fdOf K ((ga "need_ledger") K)) ["ledger"] [] := (f_need_ledger S).bindsN fun _ _ _ _ _ _ us hl => match us, hl with | [_], _ => rfl
theorem f_by_marks (S : Txt fa fn K mg) : FnD' K d_by_marks := S.def_ 17
theorem k_by_marks (S : Txt fa fn K mg) : PySem.W.keepIn K (.ref ((ga "by_marks") K)) = true := (f_by_marks S).kp
theorem bd_by_marks (S : Txt fa fn K mg) : Binds K (fdOf K ((ga "by_marks") K)) ["ledger", "marks"] [] := (f_by_marks S).bindsN fun _ _ _ _ _ _ us hl => match us, hl with | [_, _], _ => rfl
theorem f_law_unmarked (S : Txt fa fn K mg) : FnD' K d_law_unmarked := S.def_ 18
theorem k_law_unmarked (S : Txt fa fn K mg) : PySem.W.keepIn K (.ref ((ga "_law_unmarked") K)) = true := (f_law_unmarked S).kp
theorem bd_law_unmarked (S : Txt fa fn K mg) : Binds K (fdOf K ((ga "_law_unmarked") K)) ["_law_ledger", "_law_marks"] [] := (f_law_unmarked S).bindsN fun _ _ _ _ _ _ us hl => match us, hl with | [_, _], _ => rfl
theorem f_Table_eq (S : Txt fa fn K mg) : FnD' K d_Table_eq := S.def_ 19
theorem bd_Table_eq (S : Txt fa fn K mg) : Binds K (fdOf K ((ma "Table" "__eq__") K)) ["self", "other"] [] := (f_Table_eq S).bindsN fun _ _ _ _ _ _ us hl => match us, hl with | [_, _], _ => rfl
theorem f_law_key (S : Txt fa fn K mg) : FnD' K d_law_key := S.def_ 20
theorem k_law_key (S : Txt fa fn K mg) : PySem.W.keepIn K (.ref ((ga "_law_key") K)) = true := (f_law_key S).kp
theorem bd_law_key (S : Txt fa fn K mg) : Binds K (fdOf K ((ga "_law_key") K)) ["_law_entry", "_law_marks"] [] := (f_law_key S).bindsN fun _ _ _ _ _ _ us hl => match us, hl with | [_, _], _ => rfl
theorem f_law_by (S : Txt fa fn K mg) : FnD' K d_law_by := S.def_ 21
theorem k_law_by (S : Txt fa fn K mg) : PySem.W.keepIn K (.ref ((ga "_law_by") K)) = true := (f_law_by S).kp
theorem bd_law_by (S : Txt fa fn K mg) : Binds K (fdOf K ((ga "_law_by") K)) ["_law_entries", "_law_ways", "_law_marks"] [] := (f_law_by S).bindsN fun _ _ _ _ _ _ us hl => match us, hl with | [_, _, _], _ => rfl
theorem f_Ledger_eq (S : Txt fa fn K mg) : FnD' K d_Ledger_eq := S.def_ 22
theorem bd_Ledger_eq (S : Txt fa fn K mg) : Binds K (fdOf K ((ma "Ledger" "__eq__") K)) ["self", "other"] [] := (f_Ledger_eq S).bindsN fun _ _ _ _ _ _ us hl => match us, hl with | [_, _], _ => rfl
theorem f_Ledger_ways (S : Txt fa fn K mg) : FnD' K d_Ledger_ways := S.def_ 23
theorem bd_Ledger_ways (S : Txt fa fn K mg) : Binds K (fdOf K ((pg "Ledger" "ways") K)) ["self"] [] := (f_Ledger_ways S).bindsN fun _ _ _ _ _ _ us hl => match us, hl with | [_], _ => rfl
theorem f_Ledger_entries (S : Txt fa fn K mg) : FnD' K d_Ledger_entries := S.def_ 24
theorem bd_Ledger_entries (S : Txt fa fn K mg) : Binds K (fdOf K ((pg "Ledger" "entries") K)) ["self"] [] := (f_Ledger_entries S).bindsN fun _ _ _ _ _ _ us hl => match us, hl with | [_], _ => rfl
theorem f_law_made (S : Txt fa fn K mg) : FnD' K d_law_made := S.def_ 25
theorem k_law_made (S : Txt fa fn K mg) : PySem.W.keepIn K (.ref ((ga "_law_made") K)) = true := (f_law_made S).kp
theorem bd_law_made (S : Txt fa fn K mg) : Binds K (fdOf K ((ga "_law_made") K)) ["_law_row"] [] := (f_law_made S).bindsN fun _ _ _ _ _ _ us hl => match us, hl with | [_], _ => rfl
theorem f_law_k11 (S : Txt fa fn K mg) : FnD' K d_law_k11 := S.def_ 26
end
section
variable {P : Program} {w : World} {K : Fr} {mg : Str → Option Value} {base : Heap}
theorem sc_is_from : FnScope ["value", "low", "high"] ["value", "low", "high"] (defScope s_is_from) := ⟨rfl, rfl, rfl, by decide +kernel, rfl, by decide +kernel, by decide +kernel⟩
theorem ok_is_from (S : Txt fa fn K mg) : FnOk P w K mg base (L2.CX P w) 1 ((ga "is_from") K) (fdOf K ((ga "is_from") K)) ["value", "low", "high"] (spF K mg 3 m_is_from) :=
  fn_pure (f_is_from S) sc_is_from rfl fun cdv A outer s H E B hr => (qs_one (qs_ret (pp_and (pp_isiT (is_ S) (by decide) (by exact rfl) (z_isinstance S) (by exact rfl) (z_int S) bt_int (pv2 0)) (pp_and (pp_not (pp_isiT (is_ S) (by decide) (by exact rfl) (z_isinstance S) (by exact rfl) (z_bool S) bt_bool (pv2 0))) (pp_one (pp_chain op_le op_le ok_le ok_le (pv2 1) (pv2 0) (pv2 2) (pe_chain op_le op_le (pv2 1) (pv2 0) (pv2 2))))))))
theorem sc_is_entry : FnScope ["value", "ways", "many", "mark"] ["value", "ways", "many"] (defScope s_is_entry) := ⟨rfl, rfl, rfl, by decide +kernel, rfl, by decide +kernel, by decide +kernel⟩
theorem ok_is_entry (S : Txt fa fn K mg) : FnOk P w K mg base (L2.CX P w) 2 ((ga "is_entry") K) (fdOf K ((ga "is_entry") K)) ["value", "ways", "many"] (spF K mg 3 m_is_entry) :=
  fn_pure (f_is_entry S) sc_is_entry rfl fun cdv A outer s H E B hr => (qs_cons (qs_if (PW.pt (pq_or (pq_not (pq_truth (pp_isiT (is_ S) (by decide) (by exact rfl) (z_isinstance S) (by exact rfl) (z_tuple S) bt_tuple (pv2 0)) (by intro _; rfl))) (pq_or (pq_cmp (op_neD hr.units) ok_ne (pp_callB call_len ok_len (by exact rfl) (z_len S) bt_len (pp_cons (pv2 0) pp_nil)) pp_int (nomark _)) (pq_or1 (pq_not (pq_truth (pp_call (FnOk.mono (ok_is_from S) (Nat.le_of_ble_eq_true rfl)) hr (by exact rfl) (g_is_from S) (k_is_from S) (bd_is_from S) (takes_of rfl rfl rfl rfl) (pp_cons (pp_ix ix_seq ok_ix (pv2 0) pp_int (fun _ _ => rfl)) (pp_cons pp_int (pp_cons (pp_op op_sub ok_sub (pv2 1) pp_int) pp_nil)))) (by intro _; rfl))))))) (qs_one (qs_ret pp_bl)) qs_nil) (qs_cons (qs_if (PW.pt (pq_or (pq_not (pq_truth (pp_isiT (is_ S) (by decide) (by exact rfl) (z_isinstance S) (by exact rfl) (z_bool S) bt_bool (pp_ix ix_seq ok_ix (pv2 0) pp_int (fun _ _ => rfl))) (by intro _; rfl))) (pq_or (pq_not (pq_truth (pp_isiT (is_ S) (by decide) (by exact rfl) (z_isinstance S) (by exact rfl) (z_tuple S) bt_tuple (pp_ix ix_seq ok_ix (pv2 0) pp_int (fun _ _ => rfl))) (by intro _; rfl))) (pq_or1 (pq_not (pq_truth (pp_call (FnOk.mono (ok_is_from S) (Nat.le_of_ble_eq_true rfl)) hr (by exact rfl) (g_is_from S) (k_is_from S) (bd_is_from S) (takes_of rfl rfl rfl rfl) (pp_cons (pp_ix ix_seq ok_ix (pv2 0) pp_int (fun _ _ => rfl)) (pp_cons pp_int (pp_cons (pp_gint (by exact rfl) (i_MOST_TIMES S)) pp_nil)))) (by intro _; rfl))))))) (qs_one (qs_ret pp_bl)) qs_nil) (qs_cons (qs_if (pq_not (pq_truth (pp_callB (cr_all (by exact rfl)) ok_all (by exact rfl) (z_all S) bt_all (pp_cons (pp_frz (pl_lc rfl sc_is_entry.nd (qi_seq (pp_ix ix_seq ok_ix (pv2 0) pp_int (fun _ _ => rfl))) (blkB_ok (own := [("mark", 3)]) (by kernel_rfl)) (bnd_name (by decide)) bown_name (fun _ _ _ _ _ => (pg_name sc_is_entry.nd rfl (by first | exact Or.inl rfl | exact Or.inr rfl))) (fun _ _ _ _ _ => qt_yes) (fun _ _ _ _ _ => (pp_isiT (is_ S) (by decide) (by exact rfl) (z_isinstance S) (by exact rfl) (z_bool S) bt_bool (pv2 3))))) pp_nil)) (by intro _; rfl))) (qs_one (qs_ret pp_bl)) qs_nil) (qs_one (qs_ret (pp_if (pq_cmp (op_eqD hr.units) ok_eq (pv2 2) pp_int (nomark _)) (pp_chain op_le op_le ok_le ok_le pp_int (pp_callB call_len ok_len (by exact rfl) (z_len S) bt_len (pp_cons (pp_ix ix_seq ok_ix (pv2 0) pp_int (fun _ _ => rfl)) pp_nil)) (pp_gint (by exact rfl) (i_MOST_MARKS S)) (pe_chain op_le op_le pp_int (pp_callB call_len ok_len (by exact rfl) (z_len S) bt_len (pp_cons (pp_ix ix_seq ok_ix (pv2 0) pp_int (fun _ _ => rfl)) pp_nil)) (pp_gint (by exact rfl) (i_MOST_MARKS S)))) (pp_cmp (op_eqD hr.units) ok_eq (pp_callB call_len ok_len (by exact rfl) (z_len S) bt_len (pp_cons (pp_ix ix_seq ok_ix (pv2 0) pp_int (fun _ _ => rfl)) pp_nil)) (pv2 2) (nomark _))))))))
theorem sc_BadEntries_init : FnScope ["self", "index"] ["self", "index"] (defScope s_BadEntries_init) := ⟨rfl, rfl, rfl, by decide +kernel, rfl, by decide +kernel, by decide +kernel⟩
theorem ok_BadEntries_init (S : Txt fa fn K mg) : FnOk P w K mg base (L2.CX P w) 1 ((ma "BadEntries" "__init__") K) (fdOf K ((ma "BadEntries" "__init__") K)) ["self", "index"] (spI (ga "BadEntries" K) ["index"]) :=
  ini_fn1 (f_BadEntries_init S) sc_BadEntries_init (exc_oex (x_BadEntries S)) (exc_no (x_BadEntries S) "index") fun cdv A outer s H E => (pss_cons (ps_expr (pe_oinit (by exact rfl) (g_AboutError S) (top_ S) (pa_cons (pv 0) (pa_cons pe_str pa_nil)))) (pss_one (ps_ost (pv 0) (pv 1))))
theorem sc_BadNumber_init : FnScope ["self", "n"] ["self", "n"] (defScope s_BadNumber_init) := ⟨rfl, rfl, rfl, by decide +kernel, rfl, by decide +kernel, by decide +kernel⟩
theorem ok_BadNumber_init (S : Txt fa fn K mg) : FnOk P w K mg base (L2.CX P w) 1 ((ma "BadNumber" "__init__") K) (fdOf K ((ma "BadNumber" "__init__") K)) ["self", "n"] (spI (ga "BadNumber" K) ["n"]) :=
  ini_fn1 (f_BadNumber_init S) sc_BadNumber_init (exc_oex (x_BadNumber S)) (exc_no (x_BadNumber S) "n") fun cdv A outer s H E => (pss_cons (ps_expr (pe_oinit (by exact rfl) (g_AboutError S) (top_ S) (pa_cons (pv 0) (pa_cons pe_str pa_nil)))) (pss_one (ps_ost (pv 0) (pv 1))))
theorem sc_Ledger_init : FnScope ["self", "entries", "ways", "index", "entry"] ["self", "entries", "ways"] (defScope s_Ledger_init) := ⟨rfl, rfl, rfl, by decide +kernel, rfl, by decide +kernel, by decide +kernel⟩
theorem ok_Ledger_init (S : Txt fa fn K mg) : FnOk P w K mg base (L2.CX P w) 3 ((ma "Ledger" "__init__") K) (fdOf K ((ma "Ledger" "__init__") K)) ["self", "entries", "ways"] (spF K mg 3 m_Ledger_init) :=
  fn_pure (f_Ledger_init S) sc_Ledger_init rfl fun cdv A outer s H E B hr => (qs_cons (qs_if (pq_not (pq_truth (pp_call (FnOk.mono (ok_is_from S) (Nat.le_of_ble_eq_true rfl)) hr (by exact rfl) (g_is_from S) (k_is_from S) (bd_is_from S) (takes_of rfl rfl rfl rfl) (pp_cons (pv2 2) (pp_cons pp_int (pp_cons (pp_gint (by exact rfl) (i_MOST_WAYS S)) pp_nil)))) (by intro _; rfl))) (qs_one (qs_raise rfl (takes_of rfl rfl rfl rfl) (exc_oex (x_BadNumber S)) (exc_in (x_BadNumber S)) (exc_ty (x_BadNumber S)) (FnOk.mono (ok_BadNumber_init S) (Nat.le_of_ble_eq_true rfl)) hr (bd_BadNumber_init S) (by exact rfl) (g_BadNumber S) (by decide) (pp_cons (pv2 2) pp_nil))) qs_nil) (qs_cons (qs_if (PW.pt (pq_or (pq_not (pq_truth (pp_isiT (is_ S) (by decide) (by exact rfl) (z_isinstance S) (by exact rfl) (z_tuple S) bt_tuple (pv2 1)) (by intro _; rfl))) (pq_or1 (pq_not (pq_chain ok_le ok_le (pt_chain op_le op_le pp_int (pp_callB call_len ok_len (by exact rfl) (z_len S) bt_len (pp_cons (pv2 1) pp_nil)) (pp_gint (by exact rfl) (i_MOST_ENTRIES S)))))))) (qs_one (qs_raise rfl (takes_of rfl rfl rfl rfl) (exc_oex (x_BadEntries S)) (exc_in (x_BadEntries S)) (exc_ty (x_BadEntries S)) (FnOk.mono (ok_BadEntries_init S) (Nat.le_of_ble_eq_true rfl)) hr (bd_BadEntries_init S) (by exact rfl) (g_BadEntries S) (by decide) (pp_cons pp_non pp_nil))) qs_nil) (qs_cons (qs_for (passes_of rfl) rfl (qi_enum (by exact rfl) (z_enumerate S) (pp_cons (pv2 1) pp_nil)) (qg_tup rfl (qgs_cons (qg_name sc_Ledger_init.nd rfl (by first | exact Or.inl rfl | exact Or.inr rfl)) (qgs_cons (qg_name sc_Ledger_init.nd rfl (by first | exact Or.inl rfl | exact Or.inr rfl)) qgs_nil)) rfl) (qs_one (qs_if (pq_not (pq_truth (pp_call (FnOk.mono (ok_is_entry S) (Nat.le_of_ble_eq_true rfl)) hr (by exact rfl) (g_is_entry S) (k_is_entry S) (bd_is_entry S) (takes_of rfl rfl rfl rfl) (pp_cons (pv2 4) (pp_cons (pv2 2) (pp_cons (pp_if (pq_cmp (op_eqD hr.units) ok_eq (pv2 3) pp_int (nomark _)) pp_int (pp_callB call_len ok_len (by exact rfl) (z_len S) bt_len (pp_cons (pp_ix ix_seq ok_ix (pp_ix ix_seq ok_ix (pv2 1) pp_int (fun _ _ => rfl)) pp_int (fun _ _ => rfl)) pp_nil))) pp_nil)))) (by intro _; rfl))) (qs_one (qs_raise rfl (takes_of rfl rfl rfl rfl) (exc_oex (x_BadEntries S)) (exc_in (x_BadEntries S)) (exc_ty (x_BadEntries S)) (FnOk.mono (ok_BadEntries_init S) (Nat.le_of_ble_eq_true rfl)) hr (bd_BadEntries_init S) (by exact rfl) (g_BadEntries S) (by decide) (pp_cons (pv2 3) pp_nil))) qs_nil))) (qs_cons (qs_fld (g_Ledger S) (cls_cls (x_Ledger S)) (cls_no (x_Ledger S) "lines") (pv2 0) (pv2 1)) (qs_one (qs_fld (g_Ledger S) (cls_cls (x_Ledger S)) (cls_no (x_Ledger S) "many") (pv2 0) (pv2 2)))))))
theorem sc_law_refused_k11 : FnScope ["_law_entries", "_law_ways", "_law_found", "e"] ["_law_entries", "_law_ways"] (defScope s_law_refused_k11) := ⟨rfl, rfl, rfl, by decide +kernel, rfl, by decide +kernel, by decide +kernel⟩
theorem ok_law_refused_k11 (S : Txt fa fn K mg) : FnOk P w K mg base (L2.CX P w) 5 ((ga "_law_refused") K) (fdOf K ((ga "_law_refused") K)) ["_law_entries", "_law_ways"] (spF K mg 2 m_law_refused_k11) :=
  fn_pure (f_law_refused_k11 S) sc_law_refused_k11 rfl fun cdv A outer s H E B hr => (qs_cons (qs_set (i := 2) sc_law_refused_k11.nd rfl (by first | exact Or.inl rfl | exact Or.inr rfl) pp_non) (qs_cons (qs_try rfl rfl sc_law_refused_k11.nd (takes_of rfl rfl rfl rfl) (fun _ _ _ tk hp => (qs_one (qs_expr (pp_make inik_Ledger (cls_mk (x_Ledger S)) (FnOk.mono (ok_Ledger_init S) (Nat.le_of_ble_eq_true rfl)) hr (by exact rfl) (g_Ledger S) (bd_Ledger_init S) tk (pp_cons (pv2 0) (pp_cons (pv2 1) pp_nil)))))) (.named (i := 3) (by exact rfl) (g_BadNumber S) (m_BadNumber S) rfl rfl (fun _ _ _ _ _ hz hf => qsu_set sc_law_refused_k11.nd rfl rfl (px_fld (g_BadNumber S) (exc_xf (x_BadNumber S)) (exc_no (x_BadNumber S) "n") hz hf rfl rfl px_nil)) (.named (i := 3) (by exact rfl) (g_BadEntries S) (m_BadEntries S) rfl rfl (fun _ _ _ _ _ hz hf => qsu_set sc_law_refused_k11.nd rfl rfl (px_con pe_str (fun _ _ => .str _) (px_fld (g_BadEntries S) (exc_xf (x_BadEntries S)) (exc_no (x_BadEntries S) "index") hz hf rfl rfl px_nil))) .nil))) (qs_one (qs_ret (pv2 2)))))
theorem sc_law_taken : FnScope ["_law_row", "_law_many", "_law_found", "_law_cell"] ["_law_row", "_law_many"] (defScope s_law_taken) := ⟨rfl, rfl, rfl, by decide +kernel, rfl, by decide +kernel, by decide +kernel⟩
theorem ok_law_taken (S : Txt fa fn K mg) : FnOk P w K mg base (L2.CX P w) 1 ((ga "_law_taken") K) (fdOf K ((ga "_law_taken") K)) ["_law_row", "_law_many"] (spF K mg 2 m_law_taken) :=
  fn_pure (f_law_taken S) sc_law_taken rfl fun cdv A outer s H E B hr => (qs_cons (qs_if (pq_cmp op_gt ok_gt (pp_ix ix_seq ok_ix (pv2 0) pp_int (fun _ _ => rfl)) pp_int (nomark _)) (qs_cons (qs_set (i := 2) sc_law_taken.nd rfl (by first | exact Or.inl rfl | exact Or.inr rfl) (pp_op op_mod ok_mod (pp_callTy call_int1 ok_intc (by exact rfl) (z_int S) bt_int (pp_cons (pp_ix ix_seq ok_ix (pv2 0) pp_int (fun _ _ => rfl)) pp_nil)) (pv2 1))) (qs_cons (qs_store (pp_op op_fdvA ok_fdv (pp_ix ix_seq ok_ix (pv2 0) pp_int (fun _ _ => rfl)) (pv2 1)) (qg_subC (pv2 0) pp_int (by intro _; rfl))) (qs_one (qs_ret (pv2 2))))) qs_nil) (qs_cons (qs_store (pp_op op_addA ok_add (pp_ix ix_seq ok_ix (pv2 0) pp_int (fun _ _ => rfl)) pp_int) (qg_subC (pv2 0) pp_int (by intro _; rfl))) (qs_cons (qs_if (pq_cmp op_gt ok_gt (pp_ix ix_seq ok_ix (pv2 0) pp_int (fun _ _ => rfl)) (pp_callB call_len ok_len (by exact rfl) (z_len S) bt_len (pp_cons (pp_ix ix_seq ok_ix (pv2 0) pp_int (fun _ _ => rfl)) pp_nil)) (nomark _)) (qs_cons (qs_store (pp_op op_mod ok_mod (pp_callTy call_int1 ok_intc (by exact rfl) (z_int S) bt_int (pp_cons (pp_op op_addA ok_add (pp_op op_mulA ok_mul (pp_ix ix_seq ok_ix (pv2 0) pp_int (fun _ _ => rfl)) pp_int) pp_int) pp_nil)) pp_int) (qg_subC (pv2 0) pp_int (by intro _; rfl))) (qs_one (qs_ret (pp_op op_mod ok_mod (pp_callTy call_int1 ok_intc (by exact rfl) (z_int S) bt_int (pp_cons (pp_op op_fdvA ok_fdv (pp_ix ix_seq ok_ix (pv2 0) pp_int (fun _ _ => rfl)) pp_int) pp_nil)) (pv2 1))))) qs_nil) (qs_cons (qs_set (i := 3) sc_law_taken.nd rfl (by first | exact Or.inl rfl | exact Or.inr rfl) (pp_ix ix_seq ok_ix (pp_ix ix_seq ok_ix (pv2 0) pp_int (fun _ _ => rfl)) (pp_op op_sub ok_sub (pp_ix ix_seq ok_ix (pv2 0) pp_int (fun _ _ => rfl)) pp_int) (fun _ _ => rfl))) (qs_cons (qs_store (pp_op op_mod ok_mod (pp_callTy call_int1 ok_intc (by exact rfl) (z_int S) bt_int (pp_cons (pp_op op_addA ok_add (pp_op op_addA ok_add (pp_op op_mulA ok_mul (pp_ix ix_seq ok_ix (pv2 0) pp_int (fun _ _ => rfl)) pp_int) (pv2 3)) pp_int) pp_nil)) pp_int) (qg_subC (pv2 0) pp_int (by intro _; rfl))) (qs_cons (qs_if (pq_cmp op_ge ok_ge (pv2 3) (pp_op op_pow ok_pow pp_int pp_int) (nomark _)) (qs_one (qs_store (pp_op op_fdvA ok_fdv (pv2 3) (pv2 1)) (qg_subC (pv2 0) pp_int (by intro _; rfl)))) qs_nil) (qs_one (qs_ret (pp_op op_mod ok_mod (pp_callTy call_int1 ok_intc (by exact rfl) (z_int S) bt_int (pp_cons (pv2 3) pp_nil)) (pv2 1))))))))))
theorem sc_law_wrong_k11 : FnScope ["_law_row", "_law_entries", "_law_ways", "_law_many", "_law_way", "_law_good", "_law_marks", "_law_often", "_law_odd", "_law_at", "_law_some"] ["_law_row", "_law_entries", "_law_ways"] (defScope s_law_wrong_k11) := ⟨rfl, rfl, rfl, by decide +kernel, rfl, by decide +kernel, by decide +kernel⟩
theorem ok_law_wrong_k11 (S : Txt fa fn K mg) : FnOk P w K mg base (L2.CX P w) 6 ((ga "_law_wrong") K) (fdOf K ((ga "_law_wrong") K)) ["_law_row", "_law_entries", "_law_ways"] (spF K mg 3 m_law_wrong_k11) :=
  fn_pure (f_law_wrong_k11 S) sc_law_wrong_k11 rfl fun cdv A outer s H E B hr => (qs_cons (qs_set (i := 3) sc_law_wrong_k11.nd rfl (by first | exact Or.inl rfl | exact Or.inr rfl) (pp_callB call_len ok_len (by exact rfl) (z_len S) bt_len (pp_cons (pp_ix ix_seq ok_ix (pp_ix ix_seq ok_ix (pv2 1) pp_int (fun _ _ => rfl)) pp_int (fun _ _ => rfl)) pp_nil))) (qs_cons (qs_asg (pp_ix ix_seq ok_ix (pv2 1) pp_int (fun _ _ => rfl)) (qg_tup rfl (qgs_cons (qg_name sc_law_wrong_k11.nd rfl (by first | exact Or.inl rfl | exact Or.inr rfl)) (qgs_cons (qg_name sc_law_wrong_k11.nd rfl (by first | exact Or.inl rfl | exact Or.inr rfl)) (qgs_cons (qg_name sc_law_wrong_k11.nd rfl (by first | exact Or.inl rfl | exact Or.inr rfl)) (qgs_cons (qg_name sc_law_wrong_k11.nd rfl (by first | exact Or.inl rfl | exact Or.inr rfl)) qgs_nil)))) rfl)) (qs_cons (qs_set (i := 8) sc_law_wrong_k11.nd rfl (by first | exact Or.inl rfl | exact Or.inr rfl) (pp_lst (pp_cons pp_non (pp_cons (pp_tup (pp_cons (pv2 4) (pp_cons (pv2 5) (pp_cons (pv2 6) pp_nil)))) (pp_cons (pp_tup (pp_cons (pv2 2) (pp_cons (pv2 5) (pp_cons (pv2 6) (pp_cons (pv2 7) pp_nil))))) (pp_cons (pp_tup (pp_cons (pv2 4) (pp_cons pp_int (pp_cons (pv2 6) (pp_cons (pv2 7) pp_nil))))) (pp_cons (pp_tup (pp_cons (pv2 4) (pp_cons (pv2 5) (pp_cons (pv2 6) (pp_cons pp_int pp_nil))))) pp_nil))))))) (qs_cons (qs_set (i := 8) sc_law_wrong_k11.nd rfl (by first | exact Or.inl rfl | exact Or.inr rfl) (pp_op op_addA ok_add (pv2 8) (pp_lst (pp_cons (pp_tup (pp_cons (pv2 4) (pp_cons (pv2 5) (pp_cons (pp_op op_addA ok_add (pv2 6) (pp_tup (pp_cons pp_bl pp_nil))) (pp_cons (pv2 7) pp_nil))))) (pp_cons (pp_tup (pp_cons (pv2 4) (pp_cons (pv2 5) (pp_cons (pv2 6) (pp_cons (pp_op op_addA ok_add (pp_op op_pow ok_pow pp_int pp_int) pp_int) pp_nil))))) (pp_cons (pp_tup (pp_cons pp_bl (pp_cons (pv2 5) (pp_cons (pv2 6) (pp_cons pp_int pp_nil))))) pp_nil)))))) (qs_cons (qs_set (i := 8) sc_law_wrong_k11.nd rfl (by first | exact Or.inl rfl | exact Or.inr rfl) (pp_op op_addA ok_add (pv2 8) (pp_lst (pp_cons (pp_tup (pp_cons (pv2 4) (pp_cons (pv2 5) (pp_cons (pp_op op_mulA ok_mul (pp_tup (pp_cons pp_int pp_nil)) (pv2 3)) (pp_cons (pv2 7) pp_nil))))) (pp_cons (pp_tup (pp_cons (pv2 4) (pp_cons (pv2 5) (pp_cons (pp_frz (pl_list (by exact rfl) (z_list S) (pp_cons (pv2 6) pp_nil))) (pp_cons (pv2 7) pp_nil))))) pp_nil))))) (qs_cons (qs_set (i := 8) sc_law_wrong_k11.nd rfl (by first | exact Or.inl rfl | exact Or.inr rfl) (pp_op op_addA ok_add (pv2 8) (pp_lst (pp_cons (pp_tup (pp_cons (pv2 4) (pp_cons (pv2 5) (pp_cons (pv2 6) (pp_cons pp_bl pp_nil))))) (pp_cons (pp_lst (pp_cons (pv2 4) (pp_cons (pv2 5) (pp_cons (pv2 6) (pp_cons (pv2 7) pp_nil))))) pp_nil))))) (qs_cons (qs_set (i := 9) sc_law_wrong_k11.nd rfl (by first | exact Or.inl rfl | exact Or.inr rfl) (pp_callB (call_min2 (by exact rfl)) ok_min2 (by exact rfl) (z_min S) bt_min (pp_cons (pp_op op_addA ok_add pp_int (pp_call (FnOk.mono (ok_law_taken S) (Nat.le_of_ble_eq_true rfl)) hr (by exact rfl) (g__law_taken S) (k_law_taken S) (bd_law_taken S) (takes_of rfl rfl rfl rfl) (pp_cons (pv2 0) (pp_cons (pp_callB call_len ok_len (by exact rfl) (z_len S) bt_len (pp_cons (pv2 1) pp_nil)) pp_nil)))) (pp_cons pp_int pp_nil)))) (qs_cons (qs_set (i := 10) sc_law_wrong_k11.nd rfl (by first | exact Or.inl rfl | exact Or.inr rfl) (pp_slice (pp_op op_addA ok_add (pp_op op_addA ok_add (pp_slice (pv2 1) po_no (po_so (pv2 9))) (pp_tup (pp_cons (pp_ix ix_seq ok_ix (pv2 8) (pp_call (FnOk.mono (ok_law_taken S) (Nat.le_of_ble_eq_true rfl)) hr (by exact rfl) (g__law_taken S) (k_law_taken S) (bd_law_taken S) (takes_of rfl rfl rfl rfl) (pp_cons (pv2 0) (pp_cons (pp_callB call_len ok_len (by exact rfl) (z_len S) bt_len (pp_cons (pv2 8) pp_nil)) pp_nil))) (fun _ _ => rfl)) pp_nil))) (pp_slice (pv2 1) (po_so (pv2 9)) po_no)) po_no (po_so pp_int))) (qs_one (qs_ret (pp_cmp (op_eqD hr.units) ok_eq (pp_call (FnOk.mono (ok_law_refused_k11 S) (Nat.le_of_ble_eq_true rfl)) hr (by exact rfl) (g__law_refused S) (k_law_refused_k11 S) (bd_law_refused_k11 S) (takes_of rfl rfl rfl rfl) (pp_cons (pv2 10) (pp_cons (pv2 2) pp_nil))) (pp_lst (pp_cons pp_str (pp_cons (pv2 9) pp_nil))) (nomark _))))))))))))
theorem sc_is_cell : FnScope ["value"] ["value"] (defScope s_is_cell) := ⟨rfl, rfl, rfl, by decide +kernel, rfl, by decide +kernel, by decide +kernel⟩
theorem ok_is_cell (S : Txt fa fn K mg) : FnOk P w K mg base (L2.CX P w) 2 ((ga "is_cell") K) (fdOf K ((ga "is_cell") K)) ["value"] (spF K mg 1 m_is_cell) :=
  fn_pure (f_is_cell S) sc_is_cell rfl fun cdv A outer s H E B hr => (qs_cons (qs_if (PW.pt (pq_or (pq_not (pq_truth (pp_isiT (is_ S) (by decide) (by exact rfl) (z_isinstance S) (by exact rfl) (z_tuple S) bt_tuple (pv2 0)) (by intro _; rfl))) (pq_or (pq_cmp (op_neD hr.units) ok_ne (pp_callB call_len ok_len (by exact rfl) (z_len S) bt_len (pp_cons (pv2 0) pp_nil)) pp_int (nomark _)) (pq_or1 (pq_not (pq_truth (pp_call (FnOk.mono (ok_is_from S) (Nat.le_of_ble_eq_true rfl)) hr (by exact rfl) (g_is_from S) (k_is_from S) (bd_is_from S) (takes_of rfl rfl rfl rfl) (pp_cons (pp_ix ix_seq ok_ix (pv2 0) pp_int (fun _ _ => rfl)) (pp_cons pp_int (pp_cons (pp_gint (by exact rfl) (i_MOST S)) pp_nil)))) (by intro _; rfl))))))) (qs_one (qs_ret pp_bl)) qs_nil) (qs_one (qs_ret (pp_call (FnOk.mono (ok_is_from S) (Nat.le_of_ble_eq_true rfl)) hr (by exact rfl) (g_is_from S) (k_is_from S) (bd_is_from S) (takes_of rfl rfl rfl rfl) (pp_cons (pp_ix ix_seq ok_ix (pv2 0) pp_int (fun _ _ => rfl)) (pp_cons pp_int (pp_cons (pp_ix ix_seq ok_ix (pv2 0) pp_int (fun _ _ => rfl)) pp_nil)))))))
theorem sc_is_group : FnScope ["value", "cell"] ["value"] (defScope s_is_group) := ⟨rfl, rfl, rfl, by decide +kernel, rfl, by decide +kernel, by decide +kernel⟩
theorem ok_is_group (S : Txt fa fn K mg) : FnOk P w K mg base (L2.CX P w) 3 ((ga "is_group") K) (fdOf K ((ga "is_group") K)) ["value"] (spF K mg 1 m_is_group) :=
  fn_pure (f_is_group S) sc_is_group rfl fun cdv A outer s H E B hr => (qs_one (qs_ret (pp_and (pp_isiT (is_ S) (by decide) (by exact rfl) (z_isinstance S) (by exact rfl) (z_tuple S) bt_tuple (pv2 0)) (pp_and (pp_chain op_le op_le ok_le ok_le pp_int (pp_callB call_len ok_len (by exact rfl) (z_len S) bt_len (pp_cons (pv2 0) pp_nil)) (pp_gint (by exact rfl) (i_MOST_WAYS S)) (pe_chain op_le op_le pp_int (pp_callB call_len ok_len (by exact rfl) (z_len S) bt_len (pp_cons (pv2 0) pp_nil)) (pp_gint (by exact rfl) (i_MOST_WAYS S)))) (pp_one (pp_callB (cr_all (by exact rfl)) ok_all (by exact rfl) (z_all S) bt_all (pp_cons (pp_frz (pl_lc rfl sc_is_group.nd (qi_seq (pv2 0)) (blkB_ok (own := [("cell", 1)]) (by kernel_rfl)) (bnd_name (by decide)) bown_name (fun _ _ _ _ _ => (pg_name sc_is_group.nd rfl (by first | exact Or.inl rfl | exact Or.inr rfl))) (fun _ _ _ _ _ => qt_yes) (fun _ _ _ _ _ => (pp_call (FnOk.mono (ok_is_cell S) (Nat.le_of_ble_eq_true rfl)) hr (by exact rfl) (g_is_cell S) (k_is_cell S) (bd_is_cell S) takes_none5 (pp_cons (pv2 1) pp_nil))))) pp_nil)))))))
theorem sc_BadGroups_init : FnScope ["self", "index"] ["self", "index"] (defScope s_BadGroups_init) := ⟨rfl, rfl, rfl, by decide +kernel, rfl, by decide +kernel, by decide +kernel⟩
theorem ok_BadGroups_init (S : Txt fa fn K mg) : FnOk P w K mg base (L2.CX P w) 1 ((ma "BadGroups" "__init__") K) (fdOf K ((ma "BadGroups" "__init__") K)) ["self", "index"] (spI (ga "BadGroups" K) ["index"]) :=
  ini_fn1 (f_BadGroups_init S) sc_BadGroups_init (exc_oex (x_BadGroups S)) (exc_no (x_BadGroups S) "index") fun cdv A outer s H E => (pss_cons (ps_expr (pe_oinit (by exact rfl) (g_AboutError S) (top_ S) (pa_cons (pv 0) (pa_cons pe_str pa_nil)))) (pss_one (ps_ost (pv 0) (pv 1))))
theorem sc_Table_init : FnScope ["self", "groups", "index", "group"] ["self", "groups"] (defScope s_Table_init) := ⟨rfl, rfl, rfl, by decide +kernel, rfl, by decide +kernel, by decide +kernel⟩
theorem ok_Table_init (S : Txt fa fn K mg) : FnOk P w K mg base (L2.CX P w) 4 ((ma "Table" "__init__") K) (fdOf K ((ma "Table" "__init__") K)) ["self", "groups"] (spF K mg 2 m_Table_init) :=
  fn_pure (f_Table_init S) sc_Table_init rfl fun cdv A outer s H E B hr => (qs_cons (qs_if (PW.pt (pq_or (pq_not (pq_truth (pp_isiT (is_ S) (by decide) (by exact rfl) (z_isinstance S) (by exact rfl) (z_tuple S) bt_tuple (pv2 1)) (by intro _; rfl))) (pq_or1 (pq_not (pq_chain ok_le ok_le (pt_chain op_le op_le pp_int (pp_callB call_len ok_len (by exact rfl) (z_len S) bt_len (pp_cons (pv2 1) pp_nil)) (pp_gint (by exact rfl) (i_MOST_GROUPS S)))))))) (qs_one (qs_raise rfl (takes_of rfl rfl rfl rfl) (exc_oex (x_BadGroups S)) (exc_in (x_BadGroups S)) (exc_ty (x_BadGroups S)) (FnOk.mono (ok_BadGroups_init S) (Nat.le_of_ble_eq_true rfl)) hr (bd_BadGroups_init S) (by exact rfl) (g_BadGroups S) (by decide) (pp_cons pp_non pp_nil))) qs_nil) (qs_cons (qs_for (passes_of rfl) rfl (qi_enum (by exact rfl) (z_enumerate S) (pp_cons (pv2 1) pp_nil)) (qg_tup rfl (qgs_cons (qg_name sc_Table_init.nd rfl (by first | exact Or.inl rfl | exact Or.inr rfl)) (qgs_cons (qg_name sc_Table_init.nd rfl (by first | exact Or.inl rfl | exact Or.inr rfl)) qgs_nil)) rfl) (qs_one (qs_if (PW.pt (pq_or (pq_not (pq_truth (pp_call (FnOk.mono (ok_is_group S) (Nat.le_of_ble_eq_true rfl)) hr (by exact rfl) (g_is_group S) (k_is_group S) (bd_is_group S) (takes_of rfl rfl rfl rfl) (pp_cons (pv2 3) pp_nil)) (by intro _; rfl))) (pq_or1 (pq_cmp (op_neD hr.units) ok_ne (pp_callB call_len ok_len (by exact rfl) (z_len S) bt_len (pp_cons (pv2 3) pp_nil)) (pp_callB call_len ok_len (by exact rfl) (z_len S) bt_len (pp_cons (pp_ix ix_seq ok_ix (pv2 1) pp_int (fun _ _ => rfl)) pp_nil)) (nomark _))))) (qs_one (qs_raise rfl (takes_of rfl rfl rfl rfl) (exc_oex (x_BadGroups S)) (exc_in (x_BadGroups S)) (exc_ty (x_BadGroups S)) (FnOk.mono (ok_BadGroups_init S) (Nat.le_of_ble_eq_true rfl)) hr (bd_BadGroups_init S) (by exact rfl) (g_BadGroups S) (by decide) (pp_cons (pv2 2) pp_nil))) qs_nil))) (qs_one (qs_fld (g_Table S) (cls_cls (x_Table S)) (cls_no (x_Table S) "rows") (pv2 0) (pv2 1)))))
theorem sc_rows_by : FnScope ["ledger", "marks", "found", "way", "good", "told", "times", "row", "mark", "key"] ["ledger", "marks"] (defScope s_rows_by) := ⟨rfl, rfl, rfl, by decide +kernel, rfl, by decide +kernel, by decide +kernel⟩
theorem ok_rows_by (S : Txt fa fn K mg) : FnOk P w K mg base (L2.CX P w) 1 ((ga "rows_by") K) (fdOf K ((ga "rows_by") K)) ["ledger", "marks"] (spF K mg 2 m_rows_by) :=
  fn_pure (f_rows_by S) sc_rows_by rfl fun cdv A outer s H E B hr => (qs_cons (qs_set (i := 2) sc_rows_by.nd rfl (by first | exact Or.inl rfl | exact Or.inr rfl) pp_dcel) (qs_cons (qs_for (passes_of rfl) rfl (qi_seq (pp_fld (g_Ledger S) (cls_cls (x_Ledger S)) (cls_no (x_Ledger S) "lines") (pv2 0))) (qg_tup rfl (qgs_cons (qg_name sc_rows_by.nd rfl (by first | exact Or.inl rfl | exact Or.inr rfl)) (qgs_cons (qg_name sc_rows_by.nd rfl (by first | exact Or.inl rfl | exact Or.inr rfl)) (qgs_cons (qg_name sc_rows_by.nd rfl (by first | exact Or.inl rfl | exact Or.inr rfl)) (qgs_cons (qg_name sc_rows_by.nd rfl (by first | exact Or.inl rfl | exact Or.inr rfl)) qgs_nil)))) rfl) (qs_cons (qs_set (i := 7) sc_rows_by.nd rfl (by first | exact Or.inl rfl | exact Or.inr rfl) (pp_dsetN hr.units (pv2 2) (pp_callTy call_tuple_of ok_tuple (by exact rfl) (z_tuple S) bt_tuple (pp_cons (pp_frz (pl_lc rfl sc_rows_by.nd (qi_seq (pv2 1)) (blkB_ok (own := [("mark", 8)]) (by kernel_rfl)) (bnd_name (by decide)) bown_name (fun _ _ _ _ _ => (pg_name sc_rows_by.nd rfl (by first | exact Or.inl rfl | exact Or.inr rfl))) (fun _ _ _ _ _ => qt_yes) (fun _ _ _ _ _ => (pp_ix ix_seq ok_ix (pv2 5) (pv2 8) (fun _ _ => rfl))))) pp_nil)) (pp_cel (pl_rep (pp_lst (pp_cons (pp_tup (pp_cons pp_int (pp_cons pp_int pp_nil))) pp_nil)) (pp_fld (g_Ledger S) (cls_cls (x_Ledger S)) (cls_no (x_Ledger S) "many") (pv2 0)))))) (qs_one (qs_store (pp_tup (pp_cons (pp_op op_addA ok_add (pp_ix ix_seq ok_ix (pp_ix ix_seq ok_ix (pv2 7) (pv2 3) (fun _ _ => rfl)) pp_int (fun _ _ => rfl)) (pp_op op_mulA ok_mul (pv2 6) (pp_callTy call_int1 ok_intc (by exact rfl) (z_int S) bt_int (pp_cons (pv2 4) pp_nil)))) (pp_cons (pp_op op_addA ok_add (pp_ix ix_seq ok_ix (pp_ix ix_seq ok_ix (pv2 7) (pv2 3) (fun _ _ => rfl)) pp_int (fun _ _ => rfl)) (pv2 6)) pp_nil))) (qg_subC (pv2 7) (pv2 3) (by intro _; rfl)))))) (qs_one (qs_ret (pp_frz (pl_lc rfl sc_rows_by.nd (qi_seq (pp_callB (cr_sortedDct hr.units (by exact rfl)) ok_sortedDct (by exact rfl) (z_sorted S) bt_sorted (pp_cons (pv2 2) pp_nil))) (blkB_ok (own := [("key", 9)]) (by kernel_rfl)) (bnd_name (by decide)) bown_name (fun _ _ _ _ _ => (pg_name sc_rows_by.nd rfl (by first | exact Or.inl rfl | exact Or.inr rfl))) (fun _ _ _ _ _ => qt_yes) (fun _ _ _ _ _ => (pp_callTy call_tuple_of ok_tupleC (by exact rfl) (z_tuple S) bt_tuple (pp_cons (pp_dix hr.units (pv2 2) (pv2 9) (fun _ _ => rfl)) pp_nil)))))))))
theorem sc_BadMarks_init : FnScope ["self"] ["self"] (defScope s_BadMarks_init) := ⟨rfl, rfl, rfl, by decide +kernel, rfl, by decide +kernel, by decide +kernel⟩
theorem ok_BadMarks_init (S : Txt fa fn K mg) : FnOk P w K mg base (L2.CX P w) 1 ((ma "BadMarks" "__init__") K) (fdOf K ((ma "BadMarks" "__init__") K)) ["self"] (spI (ga "BadMarks" K) []) :=
  ini_fn0 (f_BadMarks_init S) sc_BadMarks_init (exc_oex (x_BadMarks S))  fun cdv A outer s H E => (pss_one (ps_expr (pe_oinit (by exact rfl) (g_AboutError S) (top_ S) (pa_cons (pv 0) (pa_cons pe_str pa_nil)))))
theorem sc_need_marks : FnScope ["ledger", "marks", "mark", "at"] ["ledger", "marks"] (defScope s_need_marks) := ⟨rfl, rfl, rfl, by decide +kernel, rfl, by decide +kernel, by decide +kernel⟩
theorem ok_need_marks (S : Txt fa fn K mg) : FnOk P w K mg base (L2.CX P w) 3 ((ga "need_marks") K) (fdOf K ((ga "need_marks") K)) ["ledger", "marks"] (spF K mg 2 m_need_marks) :=
  fn_pure (f_need_marks S) sc_need_marks rfl fun cdv A outer s H E B hr => (qs_cons (qs_if (PW.pt (pq_or (pq_not (pq_truth (pp_isiT (is_ S) (by decide) (by exact rfl) (z_isinstance S) (by exact rfl) (z_tuple S) bt_tuple (pv2 1)) (by intro _; rfl))) (pq_or1 (pq_cmp op_gt ok_gt (pp_callB call_len ok_len (by exact rfl) (z_len S) bt_len (pp_cons (pv2 1) pp_nil)) (pp_gint (by exact rfl) (i_MOST_PARTED S)) (nomark _))))) (qs_one (qs_raise0 rfl (takes_of rfl rfl rfl rfl) (exc_oex (x_BadMarks S)) (exc_in (x_BadMarks S)) (exc_ty (x_BadMarks S)) (FnOk.mono (ok_BadMarks_init S) (Nat.le_of_ble_eq_true rfl)) hr (bd_BadMarks_init S) (by exact rfl) (g_BadMarks S))) qs_nil) (qs_cons (qs_if (pq_not (pq_truth (pp_callB (cr_all (by exact rfl)) ok_all (by exact rfl) (z_all S) bt_all (pp_cons (pp_frz (pl_lc rfl sc_need_marks.nd (qi_seq (pv2 1)) (blkB_ok (own := [("mark", 2)]) (by kernel_rfl)) (bnd_name (by decide)) bown_name (fun _ _ _ _ _ => (pg_name sc_need_marks.nd rfl (by first | exact Or.inl rfl | exact Or.inr rfl))) (fun _ _ _ _ _ => qt_yes) (fun _ _ _ _ _ => (pp_call (FnOk.mono (ok_is_from S) (Nat.le_of_ble_eq_true rfl)) hr (by exact rfl) (g_is_from S) (k_is_from S) (bd_is_from S) takes_none5 (pp_cons (pv2 2) (pp_cons pp_int (pp_cons (pp_op op_sub ok_sub (pp_callB call_len ok_len (by exact rfl) (z_len S) bt_len (pp_cons (pp_ix ix_seq ok_ix (pp_ix ix_seq ok_ix (pp_fld (g_Ledger S) (cls_cls (x_Ledger S)) (cls_no (x_Ledger S) "lines") (pv2 0)) pp_int (fun _ _ => rfl)) pp_int (fun _ _ => rfl)) pp_nil)) pp_int) pp_nil))))))) pp_nil)) (by intro _; rfl))) (qs_one (qs_raise0 rfl (takes_of rfl rfl rfl rfl) (exc_oex (x_BadMarks S)) (exc_in (x_BadMarks S)) (exc_ty (x_BadMarks S)) (FnOk.mono (ok_BadMarks_init S) (Nat.le_of_ble_eq_true rfl)) hr (bd_BadMarks_init S) (by exact rfl) (g_BadMarks S))) qs_nil) (qs_one (qs_if (pq_not (pq_truth (pp_callB (cr_all (by exact rfl)) ok_all (by exact rfl) (z_all S) bt_all (pp_cons (pp_frz (pl_lc rfl sc_need_marks.nd (qi_range1 (by exact rfl) (z_range S) (pp_cons (pp_op op_sub ok_sub (pp_callB call_len ok_len (by exact rfl) (z_len S) bt_len (pp_cons (pv2 1) pp_nil)) pp_int) pp_nil)) (blkB_ok (own := [("at", 3)]) (by kernel_rfl)) (bnd_name (by decide)) bown_name (fun _ _ _ _ _ => (pg_name sc_need_marks.nd rfl (by first | exact Or.inl rfl | exact Or.inr rfl))) (fun _ _ _ _ _ => qt_yes) (fun _ _ _ _ _ => (pp_cmp op_lt ok_lt (pp_ix ix_seq ok_ix (pv2 1) (pv2 3) (fun _ _ => rfl)) (pp_ix ix_seq ok_ix (pv2 1) (pp_op op_addA ok_add (pv2 3) pp_int) (fun _ _ => rfl)) (nomark _))))) pp_nil)) (by intro _; rfl))) (qs_one (qs_raise0 rfl (takes_of rfl rfl rfl rfl) (exc_oex (x_BadMarks S)) (exc_in (x_BadMarks S)) (exc_ty (x_BadMarks S)) (FnOk.mono (ok_BadMarks_init S) (Nat.le_of_ble_eq_true rfl)) hr (bd_BadMarks_init S) (by exact rfl) (g_BadMarks S))) qs_nil))))
theorem sc_BadLedger_init : FnScope ["self"] ["self"] (defScope s_BadLedger_init) := ⟨rfl, rfl, rfl, by decide +kernel, rfl, by decide +kernel, by decide +kernel⟩
theorem ok_BadLedger_init (S : Txt fa fn K mg) : FnOk P w K mg base (L2.CX P w) 1 ((ma "BadLedger" "__init__") K) (fdOf K ((ma "BadLedger" "__init__") K)) ["self"] (spI (ga "BadLedger" K) []) :=
  ini_fn0 (f_BadLedger_init S) sc_BadLedger_init (exc_oex (x_BadLedger S))  fun cdv A outer s H E => (pss_one (ps_expr (pe_oinit (by exact rfl) (g_AboutError S) (top_ S) (pa_cons (pv 0) (pa_cons pe_str pa_nil)))))
theorem sc_need_ledger : FnScope ["ledger"] ["ledger"] (defScope s_need_ledger) := ⟨rfl, rfl, rfl, by decide +kernel, rfl, by decide +kernel, by decide +kernel⟩
theorem ok_need_ledger (S : Txt fa fn K mg) : FnOk P w K mg base (L2.CX P w) 3 ((ga "need_ledger") K) (fdOf K ((ga "need_ledger") K)) ["ledger"] (spF K mg 1 m_need_ledger) :=
  fn_pure (f_need_ledger S) sc_need_ledger rfl fun cdv A outer s H E B hr => (qs_one (qs_if (pq_not (pq_truth (pp_isiC (is_ S) (by decide) (by exact rfl) (z_isinstance S) (by exact rfl) (g_Ledger S) (pv2 0)) (by intro _; rfl))) (qs_one (qs_raise0 rfl (takes_of rfl rfl rfl rfl) (exc_oex (x_BadLedger S)) (exc_in (x_BadLedger S)) (exc_ty (x_BadLedger S)) (FnOk.mono (ok_BadLedger_init S) (Nat.le_of_ble_eq_true rfl)) hr (bd_BadLedger_init S) (by exact rfl) (g_BadLedger S))) qs_nil))
theorem sc_by_marks : FnScope ["ledger", "marks"] ["ledger", "marks"] (defScope s_by_marks) := ⟨rfl, rfl, rfl, by decide +kernel, rfl, by decide +kernel, by decide +kernel⟩
theorem ok_by_marks (S : Txt fa fn K mg) : FnOk P w K mg base (L2.CX P w) 6 ((ga "by_marks") K) (fdOf K ((ga "by_marks") K)) ["ledger", "marks"] (spF K mg 2 m_by_marks) :=
  fn_pure (f_by_marks S) sc_by_marks rfl fun cdv A outer s H E B hr => (qs_cons (qs_expr (pp_call (FnOk.mono (ok_need_ledger S) (Nat.le_of_ble_eq_true rfl)) hr (by exact rfl) (g_need_ledger S) (k_need_ledger S) (bd_need_ledger S) (takes_of rfl rfl rfl rfl) (pp_cons (pv2 0) pp_nil))) (qs_cons (qs_expr (pp_call (FnOk.mono (ok_need_marks S) (Nat.le_of_ble_eq_true rfl)) hr (by exact rfl) (g_need_marks S) (k_need_marks S) (bd_need_marks S) (takes_of rfl rfl rfl rfl) (pp_cons (pv2 0) (pp_cons (pv2 1) pp_nil)))) (qs_one (qs_ret (pp_make inik_Table (cls_mk (x_Table S)) (FnOk.mono (ok_Table_init S) (Nat.le_of_ble_eq_true rfl)) hr (by exact rfl) (g_Table S) (bd_Table_init S) (takes_of rfl rfl rfl rfl) (pp_cons (pp_callTy call_tuple_of ok_tuple (by exact rfl) (z_tuple S) bt_tuple (pp_cons (pp_call (FnOk.mono (ok_rows_by S) (Nat.le_of_ble_eq_true rfl)) hr (by exact rfl) (g_rows_by S) (k_rows_by S) (bd_rows_by S) (takes_of rfl rfl rfl rfl) (pp_cons (pv2 0) (pp_cons (pv2 1) pp_nil))) pp_nil)) pp_nil))))))
theorem sc_law_unmarked : FnScope ["_law_ledger", "_law_marks", "_law_found"] ["_law_ledger", "_law_marks"] (defScope s_law_unmarked) := ⟨rfl, rfl, rfl, by decide +kernel, rfl, by decide +kernel, by decide +kernel⟩
theorem ok_law_unmarked (S : Txt fa fn K mg) : FnOk P w K mg base (L2.CX P w) 7 ((ga "_law_unmarked") K) (fdOf K ((ga "_law_unmarked") K)) ["_law_ledger", "_law_marks"] (spF K mg 2 m_law_unmarked) :=
  fn_pure (f_law_unmarked S) sc_law_unmarked rfl fun cdv A outer s H E B hr => (qs_cons (qs_set (i := 2) sc_law_unmarked.nd rfl (by first | exact Or.inl rfl | exact Or.inr rfl) pp_non) (qs_cons (qs_try rfl rfl sc_law_unmarked.nd (takes_of rfl rfl rfl rfl) (fun _ _ _ tk hp => (qs_one (qs_expr (pp_call (FnOk.mono (ok_by_marks S) (Nat.le_of_ble_eq_true rfl)) hr (by exact rfl) (g_by_marks S) (k_by_marks S) (bd_by_marks S) tk (pp_cons (pv2 0) (pp_cons (pv2 1) pp_nil)))))) (.plain (by exact rfl) (g_BadLedger S) (m_BadLedger S) (fun _ _ _ _ _ _ _ => qsu_plain (qs_one (qs_set (i := 2) sc_law_unmarked.nd rfl (by first | exact Or.inl rfl | exact Or.inr rfl) pp_str))) (.plain (by exact rfl) (g_BadMarks S) (m_BadMarks S) (fun _ _ _ _ _ _ _ => qsu_plain (qs_one (qs_set (i := 2) sc_law_unmarked.nd rfl (by first | exact Or.inl rfl | exact Or.inr rfl) pp_str))) .nil))) (qs_one (qs_ret (pv2 2)))))
theorem sc_Table_eq : FnScope ["self", "other"] ["self", "other"] (defScope s_Table_eq) := ⟨rfl, rfl, rfl, by decide +kernel, rfl, by decide +kernel, by decide +kernel⟩
theorem ok_Table_eq (S : Txt fa fn K mg) : FnOk P w K mg base (L2.CX P w) 1 ((ma "Table" "__eq__") K) (fdOf K ((ma "Table" "__eq__") K)) ["self", "other"] (spF K mg 2 m_Table_eq) :=
  fn_pure (f_Table_eq S) sc_Table_eq rfl fun cdv A outer s H E B hr => (qs_one (qs_ret (pp_and (pp_isiC (is_ S) (by decide) (by exact rfl) (z_isinstance S) (by exact rfl) (g_Table S) (pv2 1)) (pp_one (pp_cmp (op_eqD hr.units) ok_eq (pp_fld (g_Table S) (cls_cls (x_Table S)) (cls_no (x_Table S) "rows") (pv2 0)) (pp_fld (g_Table S) (cls_cls (x_Table S)) (cls_no (x_Table S) "rows") (pv2 1)) (nomark _))))))
theorem sc_law_key : FnScope ["_law_entry", "_law_marks", "_law_mark"] ["_law_entry", "_law_marks"] (defScope s_law_key) := ⟨rfl, rfl, rfl, by decide +kernel, rfl, by decide +kernel, by decide +kernel⟩
theorem ok_law_key (S : Txt fa fn K mg) : FnOk P w K mg base (L2.CX P w) 1 ((ga "_law_key") K) (fdOf K ((ga "_law_key") K)) ["_law_entry", "_law_marks"] (spF K mg 2 m_law_key) :=
  fn_pure (f_law_key S) sc_law_key rfl fun cdv A outer s H E B hr => (qs_one (qs_ret (pp_callTy call_tuple_of ok_tuple (by exact rfl) (z_tuple S) bt_tuple (pp_cons (pp_frz (pl_lc rfl sc_law_key.nd (qi_seq (pv2 1)) (blkB_ok (own := [("_law_mark", 2)]) (by kernel_rfl)) (bnd_name (by decide)) bown_name (fun _ _ _ _ _ => (pg_name sc_law_key.nd rfl (by first | exact Or.inl rfl | exact Or.inr rfl))) (fun _ _ _ _ _ => qt_yes) (fun _ _ _ _ _ => (pp_ix ix_seq ok_ix (pp_ix ix_seq ok_ix (pv2 0) pp_int (fun _ _ => rfl)) (pv2 2) (fun _ _ => rfl))))) pp_nil))))
theorem sc_law_by : FnScope ["_law_entries", "_law_ways", "_law_marks", "_law_keys", "_law_found", "_law_key_here", "_law_cells", "_law_way", "_law_some", "_law_good", "_law_entry"] ["_law_entries", "_law_ways", "_law_marks"] (defScope s_law_by) := ⟨rfl, rfl, rfl, by decide +kernel, rfl, by decide +kernel, by decide +kernel⟩
theorem ok_law_by (S : Txt fa fn K mg) : FnOk P w K mg base (L2.CX P w) 2 ((ga "_law_by") K) (fdOf K ((ga "_law_by") K)) ["_law_entries", "_law_ways", "_law_marks"] (spF K mg 3 m_law_by) :=
  fn_pure (f_law_by S) sc_law_by rfl fun cdv A outer s H E B hr => (qs_cons (qs_set (i := 3) sc_law_by.nd rfl (by first | exact Or.inl rfl | exact Or.inr rfl) (pp_sortedSet hr.units (by exact rfl) (by exact rfl) (z_sorted S) (by exact rfl) (z_set S) (pp_cons (pp_frz (pl_lc rfl sc_law_by.nd (qi_seq (pv2 0)) (blkB_ok (own := [("_law_entry", 10)]) (by kernel_rfl)) (bnd_name (by decide)) bown_name (fun _ _ _ _ _ => (pg_name sc_law_by.nd rfl (by first | exact Or.inl rfl | exact Or.inr rfl))) (fun _ _ _ _ _ => qt_yes) (fun _ _ _ _ _ => (pp_call (FnOk.mono (ok_law_key S) (Nat.le_of_ble_eq_true rfl)) hr (by exact rfl) (g__law_key S) (k_law_key S) (bd_law_key S) takes_none5 (pp_cons (pv2 10) (pp_cons (pv2 2) pp_nil)))))) pp_nil))) (qs_cons (qs_own (i := 4) sc_law_by.nd rfl (by first | exact Or.inl rfl | exact Or.inr rfl) (pl_lst pp_nil)) (qs_cons (qs_for (passes_of rfl) rfl (qi_seq (pv2 3)) (qg_name sc_law_by.nd rfl (by first | exact Or.inl rfl | exact Or.inr rfl)) (qs_cons (qs_own (i := 6) sc_law_by.nd rfl (by first | exact Or.inl rfl | exact Or.inr rfl) (pl_lst pp_nil)) (qs_cons (qs_for (passes_of rfl) rfl (qi_range1 (by exact rfl) (z_range S) (pp_cons (pv2 1) pp_nil)) (qg_name sc_law_by.nd rfl (by first | exact Or.inl rfl | exact Or.inr rfl)) (qs_cons (qs_setLc (i := 8) rfl sc_law_by.nd rfl rfl (by rfl) (qi_seq (pv2 0)) (blkB_ok (own := [("_law_entry", 10)]) (by kernel_rfl)) (bnd_name (by decide)) bown_name (fun _ _ _ _ _ => (pg_name sc_law_by.nd rfl (by first | exact Or.inl rfl | exact Or.inr rfl))) (fun _ _ _ _ _ => (qt_one (PW.pt (pq_and (pq_cmp (op_eqD hr.units) ok_eq (pp_ix ix_seq ok_ix (pv2 10) pp_int (fun _ _ => rfl)) (pv2 7) (nomark _)) (pq_and1 (pq_cmp (op_eqD hr.units) ok_eq (pp_call (FnOk.mono (ok_law_key S) (Nat.le_of_ble_eq_true rfl)) hr (by exact rfl) (g__law_key S) (k_law_key S) (bd_law_key S) takes_none5 (pp_cons (pv2 10) (pp_cons (pv2 2) pp_nil))) (pv2 5) (nomark _))))))) (fun _ _ _ _ _ => (pv2 10))) (qs_cons (qs_set (i := 9) sc_law_by.nd rfl (by first | exact Or.inl rfl | exact Or.inr rfl) (pp_callB (cr_sumA (by exact rfl)) ok_sum (by exact rfl) (z_sum S) bt_sum (pp_cons (pp_frz (pl_lc rfl sc_law_by.nd (qi_seq (pv2 8)) (blkB_ok (own := [("_law_entry", 10)]) (by kernel_rfl)) (bnd_name (by decide)) bown_name (fun _ _ _ _ _ => (pg_name sc_law_by.nd rfl (by first | exact Or.inl rfl | exact Or.inr rfl))) (fun _ _ _ _ _ => (qt_one (pq_truth (pp_ix ix_seq ok_ix (pv2 10) pp_int (fun _ _ => rfl)) (by intro _; rfl)))) (fun _ _ _ _ _ => (pp_ix ix_seq ok_ix (pv2 10) pp_int (fun _ _ => rfl))))) pp_nil))) (qs_one ((ps_expr (pe_bm PySem.F.plainAttrs_list PySem.F.slot_list_append PySem.F.type_list_append mt_append (pv 6) (pa_cons (pp_tup (pp_cons (pv2 9) (pp_cons (pp_callB (cr_sumA (by exact rfl)) ok_sum (by exact rfl) (z_sum S) bt_sum (pp_cons (pp_frz (pl_lc rfl sc_law_by.nd (qi_seq (pv2 8)) (blkB_ok (own := [("_law_entry", 10)]) (by kernel_rfl)) (bnd_name (by decide)) bown_name (fun _ _ _ _ _ => (pg_name sc_law_by.nd rfl (by first | exact Or.inl rfl | exact Or.inr rfl))) (fun _ _ _ _ _ => qt_yes) (fun _ _ _ _ _ => (pp_ix ix_seq ok_ix (pv2 10) pp_int (fun _ _ => rfl))))) pp_nil)) pp_nil))) pa_nil))).imp append_imp))))) (qs_frz 6 (qs_one ((ps_expr (pe_bm PySem.F.plainAttrs_list PySem.F.slot_list_append PySem.F.type_list_append mt_append (pv 4) (pa_cons (pp_callTy call_tuple_of ok_tuple (by exact rfl) (z_tuple S) bt_tuple (pp_cons (pv2 6) pp_nil)) pa_nil))).imp append_imp)))))) (qs_frz 4 (qs_one (qs_ret (pp_callTy call_tuple_of ok_tuple (by exact rfl) (z_tuple S) bt_tuple (pp_cons (pv2 4) pp_nil))))))))
theorem sc_Ledger_eq : FnScope ["self", "other"] ["self", "other"] (defScope s_Ledger_eq) := ⟨rfl, rfl, rfl, by decide +kernel, rfl, by decide +kernel, by decide +kernel⟩
theorem ok_Ledger_eq (S : Txt fa fn K mg) : FnOk P w K mg base (L2.CX P w) 1 ((ma "Ledger" "__eq__") K) (fdOf K ((ma "Ledger" "__eq__") K)) ["self", "other"] (spF K mg 2 m_Ledger_eq) :=
  fn_pure (f_Ledger_eq S) sc_Ledger_eq rfl fun cdv A outer s H E B hr => (qs_one (qs_ret (pp_and (pp_isiC (is_ S) (by decide) (by exact rfl) (z_isinstance S) (by exact rfl) (g_Ledger S) (pv2 1)) (pp_and (pp_cmp (op_eqD hr.units) ok_eq (pp_fld (g_Ledger S) (cls_cls (x_Ledger S)) (cls_no (x_Ledger S) "lines") (pv2 0)) (pp_fld (g_Ledger S) (cls_cls (x_Ledger S)) (cls_no (x_Ledger S) "lines") (pv2 1)) (nomark _)) (pp_one (pp_cmp (op_eqD hr.units) ok_eq (pp_fld (g_Ledger S) (cls_cls (x_Ledger S)) (cls_no (x_Ledger S) "many") (pv2 0)) (pp_fld (g_Ledger S) (cls_cls (x_Ledger S)) (cls_no (x_Ledger S) "many") (pv2 1)) (nomark _)))))))
theorem sc_Ledger_ways : FnScope ["self"] ["self"] (defScope s_Ledger_ways) := ⟨rfl, rfl, rfl, by decide +kernel, rfl, by decide +kernel, by decide +kernel⟩
theorem ok_Ledger_ways (S : Txt fa fn K mg) : FnOk P w K mg base (L2.CX P w) 1 ((pg "Ledger" "ways") K) (fdOf K ((pg "Ledger" "ways") K)) ["self"] (spF K mg 1 m_Ledger_ways) :=
  fn_pure (f_Ledger_ways S) sc_Ledger_ways rfl fun cdv A outer s H E B hr => (qs_one (qs_ret (pp_fld (g_Ledger S) (cls_cls (x_Ledger S)) (cls_no (x_Ledger S) "many") (pv2 0))))
theorem sc_Ledger_entries : FnScope ["self"] ["self"] (defScope s_Ledger_entries) := ⟨rfl, rfl, rfl, by decide +kernel, rfl, by decide +kernel, by decide +kernel⟩
theorem ok_Ledger_entries (S : Txt fa fn K mg) : FnOk P w K mg base (L2.CX P w) 1 ((pg "Ledger" "entries") K) (fdOf K ((pg "Ledger" "entries") K)) ["self"] (spF K mg 1 m_Ledger_entries) :=
  fn_pure (f_Ledger_entries S) sc_Ledger_entries rfl fun cdv A outer s H E B hr => (qs_one (qs_ret (pp_fld (g_Ledger S) (cls_cls (x_Ledger S)) (cls_no (x_Ledger S) "lines") (pv2 0))))
theorem sc_law_made : FnScope ["_law_row", "_law_ways", "_law_many", "_law_found", "_law_k", "_law_marks", "_law_often", "_law_mark"] ["_law_row"] (defScope s_law_made) := ⟨rfl, rfl, rfl, by decide +kernel, rfl, by decide +kernel, by decide +kernel⟩
theorem ok_law_made (S : Txt fa fn K mg) : FnOk P w K mg base (L2.CX P w) 2 ((ga "_law_made") K) (fdOf K ((ga "_law_made") K)) ["_law_row"] (spF K mg 1 m_law_made) :=
  fn_pure (f_law_made S) sc_law_made rfl fun cdv A outer s H E B hr => (qs_cons (qs_par (i := 1) (j := 2) rfl sc_law_made.nd rfl rfl (by decide) rfl rfl (pp_op op_addA ok_add pp_int (pp_call (FnOk.mono (ok_law_taken S) (Nat.le_of_ble_eq_true rfl)) hr (by exact rfl) (g__law_taken S) (k_law_taken S) (bd_law_taken S) (takes_of rfl rfl rfl rfl) (pp_cons (pv2 0) (pp_cons pp_int pp_nil)))) (pp_op op_addA ok_add pp_int (pp_call (FnOk.mono (ok_law_taken S) (Nat.le_of_ble_eq_true rfl)) hr (by exact rfl) (g__law_taken S) (k_law_taken S) (bd_law_taken S) (takes_of rfl rfl rfl rfl) (pp_cons (pv2 0) (pp_cons pp_int pp_nil)))) (by rfl)) (qs_cons (qs_own (i := 3) sc_law_made.nd rfl (by first | exact Or.inl rfl | exact Or.inr rfl) (pl_lst pp_nil)) (qs_cons (qs_for (passes_of rfl) rfl (qi_range1 (by exact rfl) (z_range S) (pp_cons (pp_op op_addA ok_add pp_int (pp_call (FnOk.mono (ok_law_taken S) (Nat.le_of_ble_eq_true rfl)) hr (by exact rfl) (g__law_taken S) (k_law_taken S) (bd_law_taken S) (takes_of rfl rfl rfl rfl) (pp_cons (pv2 0) (pp_cons (pp_ix ix_seq ok_ix (pp_lst (pp_cons pp_int (pp_cons pp_int (pp_cons pp_int pp_nil)))) (pp_call (FnOk.mono (ok_law_taken S) (Nat.le_of_ble_eq_true rfl)) hr (by exact rfl) (g__law_taken S) (k_law_taken S) (bd_law_taken S) (takes_of rfl rfl rfl rfl) (pp_cons (pv2 0) (pp_cons pp_int pp_nil))) (fun _ _ => rfl)) pp_nil)))) pp_nil)) (qg_name sc_law_made.nd rfl (by first | exact Or.inl rfl | exact Or.inr rfl)) (qs_cons (qs_set (i := 5) sc_law_made.nd rfl (by first | exact Or.inl rfl | exact Or.inr rfl) (pp_callTy call_tuple_of ok_tuple (by exact rfl) (z_tuple S) bt_tuple (pp_cons (pp_frz (pl_lc rfl sc_law_made.nd (qi_range1 (by exact rfl) (z_range S) (pp_cons (pv2 2) pp_nil)) (blkB_ok (own := [("_law_mark", 7)]) (by kernel_rfl)) (bnd_name (by decide)) bown_name (fun _ _ _ _ _ => (pg_name sc_law_made.nd rfl (by first | exact Or.inl rfl | exact Or.inr rfl))) (fun _ _ _ _ _ => qt_yes) (fun _ _ _ _ _ => (pp_cmp (op_eqD hr.units) ok_eq (pp_call (FnOk.mono (ok_law_taken S) (Nat.le_of_ble_eq_true rfl)) hr (by exact rfl) (g__law_taken S) (k_law_taken S) (bd_law_taken S) takes_none5 (pp_cons (pv2 0) (pp_cons pp_int pp_nil))) pp_int (nomark _))))) pp_nil))) (qs_cons (qs_set (i := 6) sc_law_made.nd rfl (by first | exact Or.inl rfl | exact Or.inr rfl) (pp_op op_addA ok_add pp_int (pp_call (FnOk.mono (ok_law_taken S) (Nat.le_of_ble_eq_true rfl)) hr (by exact rfl) (g__law_taken S) (k_law_taken S) (bd_law_taken S) (takes_of rfl rfl rfl rfl) (pp_cons (pv2 0) (pp_cons (pp_ix ix_seq ok_ix (pp_lst (pp_cons pp_int (pp_cons (pp_op op_pow ok_pow pp_int pp_int) pp_nil))) (pp_call (FnOk.mono (ok_law_taken S) (Nat.le_of_ble_eq_true rfl)) hr (by exact rfl) (g__law_taken S) (k_law_taken S) (bd_law_taken S) (takes_of rfl rfl rfl rfl) (pp_cons (pv2 0) (pp_cons pp_int pp_nil))) (fun _ _ => rfl)) pp_nil))))) (qs_one ((ps_expr (pe_bm PySem.F.plainAttrs_list PySem.F.slot_list_append PySem.F.type_list_append mt_append (pv 3) (pa_cons (pp_tup (pp_cons (pp_call (FnOk.mono (ok_law_taken S) (Nat.le_of_ble_eq_true rfl)) hr (by exact rfl) (g__law_taken S) (k_law_taken S) (bd_law_taken S) (takes_of rfl rfl rfl rfl) (pp_cons (pv2 0) (pp_cons (pv2 1) pp_nil))) (pp_cons (pp_cmp (op_eqD hr.units) ok_eq (pp_call (FnOk.mono (ok_law_taken S) (Nat.le_of_ble_eq_true rfl)) hr (by exact rfl) (g__law_taken S) (k_law_taken S) (bd_law_taken S) (takes_of rfl rfl rfl rfl) (pp_cons (pv2 0) (pp_cons pp_int pp_nil))) pp_int (nomark _)) (pp_cons (pv2 5) (pp_cons (pv2 6) pp_nil))))) pa_nil))).imp append_imp))))) (qs_frz 3 (qs_one (qs_ret (pp_lst (pp_cons (pp_callTy call_tuple_of ok_tuple (by exact rfl) (z_tuple S) bt_tuple (pp_cons (pv2 3) pp_nil)) (pp_cons (pv2 1) pp_nil)))))))))
theorem sc_law_k11 : FnScope ["_law_script", "_law_row", "_law_entries", "_law_ways", "_law_ledger", "_law_many", "_law_k", "_law_marks", "_law_odd", "_law_wrong_here", "_law_none", "_law_mark"] ["_law_script"] (defScope s_law_k11) := ⟨rfl, rfl, rfl, by decide +kernel, rfl, by decide +kernel, by decide +kernel⟩
theorem ok_law_k11 (S : Txt fa fn K mg) : FnOk P w K mg base (L2.CX P w) 8 ((ga "law") K) (fdOf K ((ga "law") K)) ["_law_script"] (spF K mg 1 m_law_k11) :=
  fn_pure (f_law_k11 S) sc_law_k11 rfl fun cdv A outer s H E B hr => (qs_cons (qs_cell (i := 1) sc_law_k11.nd rfl (by first | exact Or.inl rfl | exact Or.inr rfl) (pl_lst (pp_cons (pv2 0) (pp_cons pp_int (pp_cons pp_int (pp_cons pp_int pp_nil)))))) (qs_cons (qs_asg (pp_call (FnOk.mono (ok_law_made S) (Nat.le_of_ble_eq_true rfl)) hr (by exact rfl) (g__law_made S) (k_law_made S) (bd_law_made S) (takes_of rfl rfl rfl rfl) (pp_cons (pv2 1) pp_nil)) (qg_tupL rfl (qgs_cons (qg_name sc_law_k11.nd rfl (by first | exact Or.inl rfl | exact Or.inr rfl)) (qgs_cons (qg_name sc_law_k11.nd rfl (by first | exact Or.inl rfl | exact Or.inr rfl)) qgs_nil)) rfl)) (qs_cons (qs_par (i := 4) (j := 5) rfl sc_law_k11.nd rfl rfl (by decide) rfl rfl (pp_make inik_Ledger (cls_mk (x_Ledger S)) (FnOk.mono (ok_Ledger_init S) (Nat.le_of_ble_eq_true rfl)) hr (by exact rfl) (g_Ledger S) (bd_Ledger_init S) (takes_of rfl rfl rfl rfl) (pp_cons (pv2 2) (pp_cons (pv2 3) pp_nil))) (pp_callB call_len ok_len (by exact rfl) (z_len S) bt_len (pp_cons (pp_ix ix_seq ok_ix (pp_ix ix_seq ok_ix (pv2 2) pp_int (fun _ _ => rfl)) pp_int (fun _ _ => rfl)) pp_nil)) (by rfl)) (qs_cons (qs_if (PW.pt (pq_or (pq_cmp (op_neD hr.units) ok_ne (pp_prop (g_Ledger S) (pv2 4) (cls_cls (x_Ledger S)) (prop_ok (p_Ledger_entries S)) (FnOk.mono (ok_Ledger_entries S) (Nat.le_of_ble_eq_true rfl)) hr (bd_Ledger_entries S)) (pv2 2) (nomark _)) (pq_or (pq_cmp (op_neD hr.units) ok_ne (pp_prop (g_Ledger S) (pv2 4) (cls_cls (x_Ledger S)) (prop_ok (p_Ledger_ways S)) (FnOk.mono (ok_Ledger_ways S) (Nat.le_of_ble_eq_true rfl)) hr (bd_Ledger_ways S)) (pv2 3) (nomark _)) (pq_or1 (pq_ownE (FnOk.mono (ok_Ledger_eq S) (Nat.le_of_ble_eq_true rfl)) hr (g_Ledger S) (eq_find (e_Ledger S)) (eq_fn (e_Ledger S)) (bd_Ledger_eq S) (eq_int (e_Ledger S)) (eq_tup (e_Ledger S)) ownk_Ledger_eq (pv2 4) (pv2 2)))))) (qs_one (qs_ret pp_bl)) qs_nil) (qs_cons (qs_if (pq_not (pq_ownE (FnOk.mono (ok_Ledger_eq S) (Nat.le_of_ble_eq_true rfl)) hr (g_Ledger S) (eq_find (e_Ledger S)) (eq_fn (e_Ledger S)) (bd_Ledger_eq S) (eq_int (e_Ledger S)) (eq_tup (e_Ledger S)) ownk_Ledger_eq (pv2 4) (pp_make inik_Ledger (cls_mk (x_Ledger S)) (FnOk.mono (ok_Ledger_init S) (Nat.le_of_ble_eq_true rfl)) hr (by exact rfl) (g_Ledger S) (bd_Ledger_init S) (takes_of rfl rfl rfl rfl) (pp_cons (pv2 2) (pp_cons (pv2 3) pp_nil))))) (qs_one (qs_ret pp_bl)) qs_nil) (qs_cons (qs_if (PW.pt (pq_and (pq_cmp op_lt ok_lt (pv2 3) pp_int (nomark _)) (pq_and1 (pq_ownE (FnOk.mono (ok_Ledger_eq S) (Nat.le_of_ble_eq_true rfl)) hr (g_Ledger S) (eq_find (e_Ledger S)) (eq_fn (e_Ledger S)) (bd_Ledger_eq S) (eq_int (e_Ledger S)) (eq_tup (e_Ledger S)) ownk_Ledger_eq (pv2 4) (pp_make inik_Ledger (cls_mk (x_Ledger S)) (FnOk.mono (ok_Ledger_init S) (Nat.le_of_ble_eq_true rfl)) hr (by exact rfl) (g_Ledger S) (bd_Ledger_init S) (takes_of rfl rfl rfl rfl) (pp_cons (pv2 2) (pp_cons (pp_op op_addA ok_add (pv2 3) pp_int) pp_nil))))))) (qs_one (qs_ret pp_bl)) qs_nil) (qs_cons (qs_if (PW.pt (pq_and (pq_cmp op_gt ok_gt (pp_callB call_len ok_len (by exact rfl) (z_len S) bt_len (pp_cons (pv2 2) pp_nil)) pp_int (nomark _)) (pq_and1 (pq_ownE (FnOk.mono (ok_Ledger_eq S) (Nat.le_of_ble_eq_true rfl)) hr (g_Ledger S) (eq_find (e_Ledger S)) (eq_fn (e_Ledger S)) (bd_Ledger_eq S) (eq_int (e_Ledger S)) (eq_tup (e_Ledger S)) ownk_Ledger_eq (pv2 4) (pp_make inik_Ledger (cls_mk (x_Ledger S)) (FnOk.mono (ok_Ledger_init S) (Nat.le_of_ble_eq_true rfl)) hr (by exact rfl) (g_Ledger S) (bd_Ledger_init S) (takes_of rfl rfl rfl rfl) (pp_cons (pp_slice (pv2 2) (po_so pp_int) po_no) (pp_cons (pv2 3) pp_nil))))))) (qs_one (qs_ret pp_bl)) qs_nil) (qs_cons (qs_for (passes_of rfl) rfl (qi_range1 (by exact rfl) (z_range S) (pp_cons pp_int pp_nil)) (qg_name sc_law_k11.nd rfl (by first | exact Or.inl rfl | exact Or.inr rfl)) (qs_cons (qs_set (i := 7) sc_law_k11.nd rfl (by first | exact Or.inl rfl | exact Or.inr rfl) (pp_callTy call_tuple_of ok_tuple (by exact rfl) (z_tuple S) bt_tuple (pp_cons (pp_slice (pp_frz (pl_lc rfl sc_law_k11.nd (qi_range1 (by exact rfl) (z_range S) (pp_cons (pv2 5) pp_nil)) (blkB_ok (own := [("_law_mark", 11)]) (by kernel_rfl)) (bnd_name (by decide)) bown_name (fun _ _ _ _ _ => (pg_name sc_law_k11.nd rfl (by first | exact Or.inl rfl | exact Or.inr rfl))) (fun _ _ _ _ _ => (qt_one (pq_cmp (op_eqD hr.units) ok_eq (pp_call (FnOk.mono (ok_law_taken S) (Nat.le_of_ble_eq_true rfl)) hr (by exact rfl) (g__law_taken S) (k_law_taken S) (bd_law_taken S) takes_none5 (pp_cons (pv2 1) (pp_cons pp_int pp_nil))) pp_int (nomark _)))) (fun _ _ _ _ _ => (pv2 11)))) po_no (po_so pp_int)) pp_nil))) (qs_one (qs_if (pq_ownN (FnOk.mono (ok_Table_eq S) (Nat.le_of_ble_eq_true rfl)) hr (g_Table S) (eq_find (e_Table S)) (ne_find (n_Table S)) (ne_mro (n_Table S)) (eq_fn (e_Table S)) (bd_Table_eq S) (eq_int (e_Table S)) (eq_tup (e_Table S)) ownk_Table_eq (pp_call (FnOk.mono (ok_by_marks S) (Nat.le_of_ble_eq_true rfl)) hr (by exact rfl) (g_by_marks S) (k_by_marks S) (bd_by_marks S) (takes_of rfl rfl rfl rfl) (pp_cons (pv2 4) (pp_cons (pv2 7) pp_nil))) (pp_make inik_Table (cls_mk (x_Table S)) (FnOk.mono (ok_Table_init S) (Nat.le_of_ble_eq_true rfl)) hr (by exact rfl) (g_Table S) (bd_Table_init S) (takes_of rfl rfl rfl rfl) (pp_cons (pp_call (FnOk.mono (ok_law_by S) (Nat.le_of_ble_eq_true rfl)) hr (by exact rfl) (g__law_by S) (k_law_by S) (bd_law_by S) (takes_of rfl rfl rfl rfl) (pp_cons (pv2 2) (pp_cons (pv2 3) (pp_cons (pv2 7) pp_nil)))) pp_nil))) (qs_one (qs_ret pp_bl)) qs_nil)))) (qs_cons (qs_set (i := 8) sc_law_k11.nd rfl (by first | exact Or.inl rfl | exact Or.inr rfl) (pp_lst (pp_cons pp_non (pp_cons (pp_tup (pp_cons (pv2 5) pp_nil)) (pp_cons (pp_tup (pp_cons pp_int (pp_cons pp_int pp_nil))) (pp_cons (pp_tup (pp_cons (pp_un un_neg ok_neg pp_int) pp_nil)) (pp_cons (pp_lst (pp_cons pp_int pp_nil)) (pp_cons (pp_tup (pp_cons pp_bl pp_nil)) (pp_cons (pp_tup (pp_cons pp_str pp_nil)) (pp_cons pp_int (pp_cons (pp_tup (pp_cons pp_int (pp_cons pp_int (pp_cons pp_int (pp_cons pp_int pp_nil))))) (pp_cons pp_dict0 pp_nil)))))))))))) (qs_cons (qs_if (pq_cmp (op_neD hr.units) ok_ne (pp_call (FnOk.mono (ok_law_unmarked S) (Nat.le_of_ble_eq_true rfl)) hr (by exact rfl) (g__law_unmarked S) (k_law_unmarked S) (bd_law_unmarked S) (takes_of rfl rfl rfl rfl) (pp_cons (pv2 4) (pp_cons (pp_ix ix_seq ok_ix (pv2 8) (pp_call (FnOk.mono (ok_law_taken S) (Nat.le_of_ble_eq_true rfl)) hr (by exact rfl) (g__law_taken S) (k_law_taken S) (bd_law_taken S) (takes_of rfl rfl rfl rfl) (pp_cons (pv2 1) (pp_cons (pp_callB call_len ok_len (by exact rfl) (z_len S) bt_len (pp_cons (pv2 8) pp_nil)) pp_nil))) (fun _ _ => rfl)) pp_nil))) pp_str (nomark _)) (qs_one (qs_ret pp_bl)) qs_nil) (qs_cons (qs_if (pq_cmp (op_neD hr.units) ok_ne (pp_call (FnOk.mono (ok_law_unmarked S) (Nat.le_of_ble_eq_true rfl)) hr (by exact rfl) (g__law_unmarked S) (k_law_unmarked S) (bd_law_unmarked S) (takes_of rfl rfl rfl rfl) (pp_cons (pp_ix ix_seq ok_ix (pp_lst (pp_cons pp_non (pp_cons (pv2 2) (pp_cons pp_int (pp_cons (pp_tup pp_nil) pp_nil))))) (pp_call (FnOk.mono (ok_law_taken S) (Nat.le_of_ble_eq_true rfl)) hr (by exact rfl) (g__law_taken S) (k_law_taken S) (bd_law_taken S) (takes_of rfl rfl rfl rfl) (pp_cons (pv2 1) (pp_cons pp_int pp_nil))) (fun _ _ => rfl)) (pp_cons pp_non pp_nil))) pp_str (nomark _)) (qs_one (qs_ret pp_bl)) qs_nil) (qs_cons (qs_set (i := 9) sc_law_k11.nd rfl (by first | exact Or.inl rfl | exact Or.inr rfl) (pp_ix ix_seq ok_ix (pp_lst (pp_cons pp_non (pp_cons pp_int (pp_cons pp_int (pp_cons pp_bl (pp_cons pp_str pp_nil)))))) (pp_call (FnOk.mono (ok_law_taken S) (Nat.le_of_ble_eq_true rfl)) hr (by exact rfl) (g__law_taken S) (k_law_taken S) (bd_law_taken S) (takes_of rfl rfl rfl rfl) (pp_cons (pv2 1) (pp_cons pp_int pp_nil))) (fun _ _ => rfl))) (qs_cons (qs_if (pq_cmp (op_neD hr.units) ok_ne (pp_call (FnOk.mono (ok_law_refused_k11 S) (Nat.le_of_ble_eq_true rfl)) hr (by exact rfl) (g__law_refused S) (k_law_refused_k11 S) (bd_law_refused_k11 S) (takes_of rfl rfl rfl rfl) (pp_cons pp_non (pp_cons (pv2 9) pp_nil))) (pp_lst (pp_cons (pv2 9) pp_nil)) (nomark _)) (qs_one (qs_ret pp_bl)) qs_nil) (qs_cons (qs_if (pq_not (pq_truth (pp_call (FnOk.mono (ok_law_wrong_k11 S) (Nat.le_of_ble_eq_true rfl)) hr (by exact rfl) (g__law_wrong S) (k_law_wrong_k11 S) (bd_law_wrong_k11 S) (takes_of rfl rfl rfl rfl) (pp_cons (pv2 1) (pp_cons (pv2 2) (pp_cons (pv2 3) pp_nil)))) (by intro _; rfl))) (qs_one (qs_ret pp_bl)) qs_nil) (qs_cons (qs_set (i := 10) sc_law_k11.nd rfl (by first | exact Or.inl rfl | exact Or.inr rfl) (pp_ix ix_seq ok_ix (pp_lst (pp_cons pp_non (pp_cons (pp_tup pp_nil) (pp_cons (pp_frz (pl_list (by exact rfl) (z_list S) (pp_cons (pv2 2) pp_nil))) (pp_cons (pp_slice (pp_op op_mulA ok_mul (pv2 2) pp_int) po_no (po_so pp_int)) (pp_cons pp_int (pp_cons pp_dict0 pp_nil))))))) (pp_call (FnOk.mono (ok_law_taken S) (Nat.le_of_ble_eq_true rfl)) hr (by exact rfl) (g__law_taken S) (k_law_taken S) (bd_law_taken S) (takes_of rfl rfl rfl rfl) (pp_cons (pv2 1) (pp_cons pp_int pp_nil))) (fun _ _ => rfl))) (qs_cons (qs_if (pq_cmp (op_neD hr.units) ok_ne (pp_call (FnOk.mono (ok_law_refused_k11 S) (Nat.le_of_ble_eq_true rfl)) hr (by exact rfl) (g__law_refused S) (k_law_refused_k11 S) (bd_law_refused_k11 S) (takes_of rfl rfl rfl rfl) (pp_cons (pv2 10) (pp_cons (pv2 3) pp_nil))) (pp_lst (pp_cons pp_str (pp_cons pp_non pp_nil))) (nomark _)) (qs_one (qs_ret pp_bl)) qs_nil) (qs_one (qs_ret (pp_cmp (op_eqD hr.units) ok_eq (pp_call (FnOk.mono (ok_law_refused_k11 S) (Nat.le_of_ble_eq_true rfl)) hr (by exact rfl) (g__law_refused S) (k_law_refused_k11 S) (bd_law_refused_k11 S) (takes_of rfl rfl rfl rfl) (pp_cons (pp_tup (pp_cons (pp_tup (pp_cons pp_int (pp_cons pp_bl (pp_cons (pp_tup pp_nil) (pp_cons pp_int pp_nil))))) (pp_cons pp_non (pp_cons (pp_ix ix_seq ok_ix (pv2 2) pp_int (fun _ _ => rfl)) pp_nil)))) (pp_cons (pv2 3) pp_nil))) (pp_lst (pp_cons pp_str (pp_cons pp_int pp_nil))) (nomark _))))))))))))))))))))
end

end PL
open PySem PySem.W PySem.Calls PyProof.Rows
theorem PySem.Challenge.cw_turnedabout_k11_whole_ledgers_holds : PySem.Challenge.rw_turnedabout_k11_whole_ledgers.Holds := by
  w_on; o_law
  refine HandSHeadRun.head_any (r := OpenLaw.row PySem.Challenge.rw_turnedabout_k11_whole_ledgers) (q := view (OpenLaw.row PySem.Challenge.rw_turnedabout_k11_whole_ledgers).prog [34]) (H := PL.hk) (ob := PL.ob) (M := 20000) (loose := PL.loose) (d := HandSHeadRun.topDef (OpenLaw.row PySem.Challenge.rw_turnedabout_k11_whole_ledgers).prog 34) (kwd := []) PL.ob_eq
    (by kernel_rfl) (fun s => by kernel_rfl) PL.run (by kernel_rfl) (by kernel_rfl) (by kernel_rfl) (by rfl) (by first | assumption | decide +kernel) (by decide +kernel) ⟨rfl, rfl, rfl, rfl, rfl, by decide +kernel⟩ ?hw ?hc
  case hw => w_witness2
  case hc =>
    refine L2.walk_ofE (l := PySem.Challenge.rw_turnedabout_k11_whole_ledgers) (n := 63) (k := 8) (x := "_law_script") (CX := L2.CX0) rfl (by decide) (by kernel_rfl) ⟨rfl, by decide, by decide⟩ ?F (fun _ _ _ _ z => z)
    intro w mg fa h Y G hmg0
    obtain ⟨K, KX, c⟩ := Y
    have hmg : mg ("law" : PySem.Str) = some (.ref fa) := by
      have e : (HandSHeadRun.topDef (OpenLaw.row PySem.Challenge.rw_turnedabout_k11_whole_ledgers).prog 34).name = ("law" : PySem.Str) := by kernel_rfl
      rw [← e]
      exact hmg0
    exact PL.law_end (d := PL.d_law_k11) (i := 0) KX G c hmg PL.g_law (fun S => (PL.f_law_k11 S).bindsA fun _ _ _ _ _ _ us hl => match us, hl with | [_], _ => rfl) (fun S base => PL.ok_law_k11 S) PL.math_law


