import PyProof.Rows.All
import Wide.All
import OpenK.AllK
import Wide.FinOn
import HandS.ForMost
import HandS.ForExc
import HandS.Wide
import HandS.TupAny
import HandS.Style
import HandS.TupMul
import HandS.Deep
import HandS.IsInst
import HandS.RaiseMore
import HandS.Text
import PyProof.StrBlock2
import HandS.StrMore
import KE.KExcIs
import HandS.Flt
import HandS.SortInts
import HandS.FStr
import HandS.Flow
import HandS.CallSlots
import HandS.SetFor
import HandS.More
import HandS.Strs
import HandS.TupSets
import HandS.SortRule
import KE.DataFind
import HandS.Zip
import HandS.NoneIn
import HandS.Iter
import KE.GoesEnum
import HandS.Exc
import HandS.ExcOwn
import HandS.HotCalls
import HandS.ExcInit
import HandS.ExcField
import HandS.Defaults
import HandS.TryOnly
import HandS.Codes
import HandS.Ends
import HandS.EndBits
import HandS.HeadHook2
import HandS.Head2
import HandS.HeadEnd
import KE.KStateDown
import PySem.Challenge.RW_brineways_k83_brines_written
set_option Elab.async false
set_option linter.all false
set_option maxRecDepth 100000
set_option maxHeartbeats 2000000
/-! TL0: values as trees, the relation to the layer's abstract heap, the judgements. -/
namespace TL
open PySem PySem.Spec PyProof.Rows L2

/-- a value as a tree; ref: a thing that may change (it stands in the store) -/
inductive T where
  | non | bl (b : Bool) | int (i : Int) | str (x : Str) | tup (l : List T) | lst (l : List T) | ref (a : Addr) | dic | exc (c : Str) (f : Option (Str × Int)) | ty (n : String) | cls (c : Str)

/-- what an address holds that never changes -/
inductive FO where
  | tup (vs : List V) | lst (vs : List V) | flst (vs : List V) | dic | exc (C : Addr) (d : Option Addr) | xd (n : Str) (i : Int)

/-- the store: what may change -/
inductive SO where
  | lst (l : List T) | ins (c : Str) (fs : List (Str × T))

abbrev St := L2.St
set_option autoImplicit false
abbrev FF := Addr → Option FO
abbrev SS := Addr → Option SO
abbrev Sg := List (Option T)
abbrev KQ := T → SS → Prop

def supd (S : SS) (a : Addr) (o : SO) : SS := fun b => if b = a then some o else S b
theorem supd_same {S : SS} {a : Addr} {o : SO} : supd S a o a = some o := if_pos rfl
theorem supd_ne {S : SS} {a b : Addr} {o : SO} (h : b ≠ a) : supd S a o b = S b := if_neg h
theorem supd_supd {S : SS} {a : Addr} {o u : SO} : supd (supd S a o) a u = supd S a u := by
  funext b; unfold supd; split <;> rfl
def fupd (F : FF) (a : Addr) (o : FO) : FF := fun b => if b = a then some o else F b
theorem fupd_same {F : FF} {a : Addr} {o : FO} : fupd F a o a = some o := if_pos rfl
theorem fupd_ne {F : FF} {a b : Addr} {o : FO} (h : b ≠ a) : fupd F a o b = F b := if_neg h

def FF.le (F F' : FF) : Prop := ∀ a o, F a = some o → F' a = some o
theorem FF.le.refl {F : FF} : F.le F := fun _ _ h => h
theorem FF.le.trans {F F' F'' : FF} (h : F.le F') (h' : F'.le F'') : F.le F'' := fun a o e => h' a o (h a o e)
theorem fupd_le {F : FF} {a : Addr} {o : FO} (h : F a = none) : F.le (fupd F a o) := fun b u e => by
  rw [fupd_ne (fun z => by rw [z, h] at e; cases e)]; exact e

def KT (K : PySem.W.Frag) (a : Addr) (xs : List V) : Prop :=
  ∃ (o : Obj) (its : Array Value) (n : Nat), K.lookup a = some o ∧ o.cls = .type "tuple" ∧ o.data = .seq its n ∧ its.size ≤ sizeLine ∧ Vals xs its.toList

/-- a list of the written part -/
def KL (K : PySem.W.Frag) (a : Addr) (xs : List V) : Prop :=
  ∃ (its : Array Value) (n : Nat), K.lookup a = some { cls := .type "list", data := .seq its n } ∧ its.size ≤ sizeLine ∧ Vals xs its.toList
/-- what is fixed through a law: constants, classes -/
structure Ct where
  K : PySem.W.Frag
  mg : Str → Option Value
  glo : Str → Option T
  tc : Str → Option Addr
  ic : Str → Option Addr

mutual
inductive TR (c : Ct) (F : FF) : T → V → Prop
  | non : TR c F .non .non
  | bl (b : Bool) : TR c F (.bl b) (.bl b)
  | int (i : Int) : TR c F (.int i) (.int i)
  | str (x : Str) : TR c F (.str x) (.str x)
  | tup {a : Addr} {vs : List V} {ts : List T} : F a = some (.tup vs) → TRs c F ts vs → TR c F (.tup ts) (.ref a)
  | lst {a : Addr} {vs : List V} {ts : List T} : F a = some (.lst vs) → TRs c F ts vs → TR c F (.lst ts) (.ref a)
  | flst {a : Addr} {vs : List V} {ts : List T} : F a = some (.flst vs) → TRs c F ts vs → TR c F (.lst ts) (.ref a)
  | ref (a : Addr) : TR c F (.ref a) (.ref a)
  | dic {a : Addr} : F a = some .dic → TR c F .dic (.ref a)
  | exc0 {a C : Addr} {n : Str} : c.tc n = some C → F a = some (.exc C none) → TR c F (.exc n none) (.ref a)
  | ktup {a : Addr} {vs : List V} {ts : List T} : KT c.K a vs → TRs c F ts vs → TR c F (.tup ts) (.ref a)
  | klst {a : Addr} {vs : List V} {ts : List T} : KL c.K a vs → TRs c F ts vs → TR c F (.lst ts) (.ref a)
  | exc1 {a C d : Addr} {m n : Str} {i : Int} : c.tc m = some C → F a = some (.exc C (some d)) → F d = some (.xd n i) → TR c F (.exc m (some (n, i))) (.ref a)
  | ty (n : String) : TR c F (.ty n) (.ty n)
  | cls {n : Str} {C : Addr} : c.tc n = some C → TR c F (.cls n) (.ref C)
inductive TRs (c : Ct) (F : FF) : List T → List V → Prop
  | nil : TRs c F [] []
  | cons {t : T} {v : V} {ts : List T} {vs : List V} : TR c F t v → TRs c F ts vs → TRs c F (t :: ts) (v :: vs)
end

section
variable {c : Ct} {F F' : FF}
mutual
theorem TR.mono (h : F.le F') : ∀ {t : T} {v : V}, TR c F t v → TR c F' t v
  | _, _, .non => .non
  | _, _, .bl b => .bl b
  | _, _, .int i => .int i
  | _, _, .str x => .str x
  | _, _, .tup e r => .tup (h _ _ e) (TRs.mono h r)
  | _, _, .lst e r => .lst (h _ _ e) (TRs.mono h r)
  | _, _, .flst e r => .flst (h _ _ e) (TRs.mono h r)
  | _, _, .ref a => .ref a
  | _, _, .dic e => .dic (h _ _ e)
  | _, _, .exc0 k e => .exc0 k (h _ _ e)
  | _, _, .exc1 k e e' => .exc1 k (h _ _ e) (h _ _ e')
  | _, _, .ktup e r => .ktup e (TRs.mono h r)
  | _, _, .klst e r => .klst e (TRs.mono h r)
  | _, _, .ty n => .ty n
  | _, _, .cls k => .cls k
theorem TRs.mono (h : F.le F') : ∀ {ts : List T} {vs : List V}, TRs c F ts vs → TRs c F' ts vs
  | _, _, .nil => .nil
  | _, _, .cons r rs => .cons (TR.mono h r) (TRs.mono h rs)
end
theorem TRs.length : ∀ {ts : List T} {vs : List V}, TRs c F ts vs → ts.length = vs.length
  | _, _, .nil => rfl
  | _, _, .cons _ rs => by simp [TRs.length rs]
theorem TRs.get : ∀ {ts : List T} {vs : List V} {i : Nat} {t : T}, TRs c F ts vs → ts[i]? = some t → ∃ v, vs[i]? = some v ∧ TR c F t v
  | _, _, _, _, .nil, e => by simp at e
  | _, _, 0, _, .cons r _, e => by simp at e; subst e; exact ⟨_, rfl, r⟩
  | _, _, i + 1, _, .cons _ rs, e => by
    obtain ⟨v, h1, h2⟩ := TRs.get (i := i) rs (by simpa using e)
    exact ⟨v, by simpa using h1, h2⟩
theorem TRs.getV : ∀ {ts : List T} {vs : List V} {i : Nat} {v : V}, TRs c F ts vs → vs[i]? = some v → ∃ t, ts[i]? = some t ∧ TR c F t v
  | _, _, _, _, .nil, e => by simp at e
  | _, _, 0, _, .cons r _, e => by simp at e; subst e; exact ⟨_, rfl, r⟩
  | _, _, i + 1, _, .cons _ rs, e => by
    obtain ⟨v, h1, h2⟩ := TRs.getV (i := i) rs (by simpa using e)
    exact ⟨v, by simpa using h1, h2⟩
theorem TRs.append : ∀ {ts : List T} {vs : List V} {ts' : List T} {vs' : List V}, TRs c F ts vs → TRs c F ts' vs' → TRs c F (ts ++ ts') (vs ++ vs')
  | _, _, _, _, .nil, s => s
  | _, _, _, _, .cons r rs, s => .cons r (TRs.append rs s)
theorem TRs.drop : ∀ {ts : List T} {vs : List V} (n : Nat), TRs c F ts vs → TRs c F (ts.drop n) (vs.drop n)
  | _, _, 0, r => r
  | _, _, _ + 1, .nil => .nil
  | _, _, n + 1, .cons _ rs => TRs.drop n rs
theorem TRs.take : ∀ {ts : List T} {vs : List V} (n : Nat), TRs c F ts vs → TRs c F (ts.take n) (vs.take n)
  | _, _, 0, _ => .nil
  | _, _, _ + 1, .nil => .nil
  | _, _, n + 1, .cons r rs => .cons r (TRs.take n rs)
theorem TRs.reverse {ts : List T} {vs : List V} (r : TRs c F ts vs) : TRs c F ts.reverse vs.reverse := by
  induction ts generalizing vs with
  | nil => cases r; exact .nil
  | cons t ts ih =>
    cases r with
    | cons r rs =>
      rw [List.reverse_cons, List.reverse_cons]
      exact (ih rs).append (.cons r .nil)
theorem TRs.set : ∀ {ts : List T} {vs : List V} {t : T} {v : V} (i : Nat), TR c F t v → TRs c F ts vs → TRs c F (ts.set i t) (vs.set i v)
  | _, _, _, _, _, _, .nil => .nil
  | _, _, _, _, 0, h, .cons _ rs => .cons h rs
  | _, _, _, _, i + 1, h, .cons r rs => .cons r (TRs.set i h rs)
theorem TRs.eraseIdx : ∀ {ts : List T} {vs : List V} (i : Nat), TRs c F ts vs → TRs c F (ts.eraseIdx i) (vs.eraseIdx i)
  | _, _, _, .nil => .nil
  | _, _, 0, .cons _ rs => rs
  | _, _, i + 1, .cons r rs => .cons r (TRs.eraseIdx i rs)
theorem TRs.dropLast {ts : List T} {vs : List V} (r : TRs c F ts vs) : TRs c F ts.dropLast vs.dropLast := by
  rw [List.dropLast_eq_take, List.dropLast_eq_take, ← r.length]
  exact r.take _
theorem TRs.replicate {t : T} {v : V} (r : TR c F t v) : ∀ n : Nat, TRs c F (List.replicate n t) (List.replicate n v)
  | 0 => .nil
  | n + 1 => .cons r (TRs.replicate r n)
theorem TRs.flat {ts : List T} {vs : List V} (r : TRs c F ts vs) : ∀ k : Nat, TRs c F (List.replicate k ts).flatten (List.replicate k vs).flatten
  | 0 => .nil
  | k + 1 => by simpa [List.replicate_succ] using r.append (TRs.flat r k)
end

/-- an exception object of the class at C, its own dict d -/
def ExV (C : Addr) (d : Option Addr) (a : Addr) : HO := .ext fun h => ∃ (oe : Obj) (vs : Array Value), h.get? a = some oe ∧ Zc (.ref C) d oe ∧ oe.data = .fields vs

/-- the frozen thing at a, in the abstract heap -/
def FOk (H : Hp) (a : Addr) : FO → Prop
  | .tup vs => H a = some (.tup vs)
  | .lst vs => H a = some (.lst vs)
  | .flst vs => ∃ o, H a = some (.frz o (.lst vs))
  | .dic => H a = some (.dK [])
  | .exc C d => H a = some (ExV C d a)
  | .xd n i => H a = some (.xd [(n, .int i)])
/-- attributes -/
inductive FsR (c : Ct) (F : FF) : List (Str × T) → List (Str × V) → Prop
  | nil : FsR c F [] []
  | cons {n : Str} {t : T} {v : V} {ts : List (Str × T)} {vs : List (Str × V)} : TR c F t v → FsR c F ts vs → FsR c F ((n, t) :: ts) ((n, v) :: vs)
theorem FsR.mono {c : Ct} {F F' : FF} (h : F.le F') : ∀ {ts : List (Str × T)} {vs : List (Str × V)}, FsR c F ts vs → FsR c F' ts vs
  | _, _, .nil => .nil
  | _, _, .cons r rs => .cons (r.mono h) (FsR.mono h rs)
def SOk (c : Ct) (F : FF) (H : Hp) (a : Addr) : SO → Prop
  | .lst ts => ∃ vs, H a = some (.lst vs) ∧ TRs c F ts vs
  | .ins n fs => ∃ C dx vfs, c.ic n = some C ∧ H a = some (.ins C dx vfs) ∧ FsR c F fs vfs

/-- the store and the frozen things as the abstract heap has them -/
structure HRel (c : Ct) (F : FF) (S : SS) (H : Hp) : Prop where
  fr : ∀ a o, F a = some o → FOk H a o
  st : ∀ a o, S a = some o → F a = none ∧ SOk c F H a o
  glo : ∀ x t, c.glo x = some t → ∃ v u, c.mg x = some u ∧ RelV v u ∧ TR c F t v

section
variable {c : Ct} {F F' : FF} {S S' : SS} {H H' : Hp} {a p : Addr}
theorem SOk.mono {o : SO} (h : F.le F') (x : SOk c F H a o) : SOk c F' H a o := by
  cases o with
  | lst ts => obtain ⟨vs, e, r⟩ := x; exact ⟨vs, e, r.mono h⟩
  | ins cc fs => obtain ⟨C, dx, vfs, e0, e, r⟩ := x; exact ⟨C, dx, vfs, e0, e, r.mono h⟩
theorem SOk.at {o : SO} (x : SOk c F H a o) (h : ∀ u, H a = some u → H' a = some u) : SOk c F H' a o := by
  cases o with
  | lst ts => obtain ⟨vs, e, r⟩ := x; exact ⟨vs, h _ e, r⟩
  | ins cc fs => obtain ⟨C, dx, vfs, e0, e, r⟩ := x; exact ⟨C, dx, vfs, e0, h _ e, r⟩
theorem SOk.there {o : SO} (x : SOk c F H a o) : ∃ u, H a = some u := by
  cases o with
  | lst ts => obtain ⟨vs, e, r⟩ := x; exact ⟨_, e⟩
  | ins cc fs => obtain ⟨C, dx, vfs, e0, e, r⟩ := x; exact ⟨_, e⟩
theorem FOk.at {o : FO} (x : FOk H a o) (h : ∀ u, H a = some u → H' a = some u) : FOk H' a o := by
  cases o with
  | tup vs => exact h _ x
  | lst vs => exact h _ x
  | flst vs => obtain ⟨o, x⟩ := x; exact ⟨o, h _ x⟩
  | dic => exact h _ x
  | exc C d => exact h _ x
  | xd n i => exact h _ x
theorem FOk.there {o : FO} (x : FOk H a o) : ∃ u, H a = some u := by
  cases o with
  | flst vs => obtain ⟨o, x⟩ := x; exact ⟨_, x⟩
  | _ => exact ⟨_, x⟩
theorem HRel.fnone (h : HRel c F S H) (hp : H p = none) : F p = none := by
  cases e : F p with
  | none => rfl
  | some o =>
    obtain ⟨u, q⟩ := (h.fr p o e).there
    rw [hp] at q; cases q
theorem HRel.snone (h : HRel c F S H) (hp : H p = none) : S p = none := by
  cases e : S p with
  | none => rfl
  | some o =>
    obtain ⟨u, q⟩ := (h.st p o e).2.there
    rw [hp] at q; cases q
/-- more is tracked, nothing that we know is changed -/
theorem HRel.grow (h : HRel c F S H) (k : ∀ a u, H a = some u → H' a = some u) : HRel c F S H' where
  fr := fun a o e => (h.fr a o e).at (k a)
  st := fun a o e => ⟨(h.st a o e).1, (h.st a o e).2.at (k a)⟩
  glo := h.glo
/-- a new frozen thing -/
theorem HRel.newF {o : FO} {u : HO} (h : HRel c F S H) (hp : H p = none) (ho : FOk (upd H p u) p o) : HRel c (fupd F p o) S (upd H p u) ∧ F.le (fupd F p o) := by
  have hf := h.fnone hp
  have le : F.le (fupd F p o) := fupd_le hf
  have k : ∀ a x, H a = some x → upd H p u a = some x := fun a x e => by rw [upd_ne (ne_of_none e hp)]; exact e
  refine ⟨⟨fun a x e => ?_, fun a x e => ?_, fun x t e => ?_⟩, le⟩
  · by_cases q : a = p
    · subst q; rw [fupd_same] at e; cases e; exact ho
    · rw [fupd_ne q] at e; exact (h.fr a x e).at (k a)
  · have q : a ≠ p := fun z => by rw [z, h.snone hp] at e; cases e
    exact ⟨by rw [fupd_ne q]; exact (h.st a x e).1, ((h.st a x e).2.mono le).at (k a)⟩
  · obtain ⟨v, w, e1, e2, e3⟩ := h.glo x t e
    exact ⟨v, w, e1, e2, e3.mono le⟩
/-- a new thing of the store -/
theorem HRel.newS {o : SO} {u : HO} (h : HRel c F S H) (hp : H p = none) (ho : SOk c F (upd H p u) p o) : HRel c F (supd S p o) (upd H p u) := by
  have k : ∀ a x, H a = some x → upd H p u a = some x := fun a x e => by rw [upd_ne (ne_of_none e hp)]; exact e
  refine ⟨fun a x e => (h.fr a x e).at (k a), fun a x e => ?_, h.glo⟩
  by_cases q : a = p
  · subst q; rw [supd_same] at e; cases e; exact ⟨h.fnone hp, ho⟩
  · rw [supd_ne q] at e; exact ⟨(h.st a x e).1, (h.st a x e).2.at (k a)⟩
/-- a thing of the store is changed -/
theorem HRel.write {o o' : SO} {u : HO} (h : HRel c F S H) (hs : S p = some o) (ho : SOk c F (upd H p u) p o') : HRel c F (supd S p o') (upd H p u) := by
  have hf := (h.st p o hs).1
  refine ⟨fun a x e => ?_, fun a x e => ?_, h.glo⟩
  · have q : a ≠ p := fun z => by rw [z, hf] at e; cases e
    exact (h.fr a x e).at fun w r => by rw [upd_ne q]; exact r
  · by_cases q : a = p
    · subst q; rw [supd_same] at e; cases e; exact ⟨hf, ho⟩
    · rw [supd_ne q] at e; exact ⟨(h.st a x e).1, (h.st a x e).2.at fun w r => by rw [upd_ne q]; exact r⟩
/-- something is forgotten -/
theorem HRel.weak (h : HRel c F S H) (w : ∀ a o, S' a = some o → S a = some o) : HRel c F S' H :=
  ⟨h.fr, fun a o e => h.st a o (w a o e), h.glo⟩
end

/-- slots -/
structure SRel (c : Ct) (F : FF) (τ : Sg) (σ : St) : Prop where
  len : τ.length = σ.length
  at_ : ∀ (i : Nat) (t : T), τ[i]? = some (some t) → ∃ v, σ[i]? = some (some v) ∧ TR c F t v
section
variable {c : Ct} {F F' : FF} {τ : Sg} {σ : St}
theorem SRel.mono (h : F.le F') (r : SRel c F τ σ) : SRel c F' τ σ := ⟨r.len, fun i t e => let ⟨v, a, b⟩ := r.at_ i t e; ⟨v, a, b.mono h⟩⟩
theorem SRel.set {t : T} {v : V} (r : SRel c F τ σ) (i : Nat) (h : TR c F t v) : SRel c F (τ.set i (some t)) (σ.set i (some v)) := by
  refine ⟨by simp [r.len], fun j u e => ?_⟩
  by_cases q : j = i
  · subst q
    by_cases l : j < τ.length
    · rw [List.getElem?_set_self l] at e
      cases e
      exact ⟨v, by rw [List.getElem?_set_self (by rw [← r.len]; exact l)], h⟩
    · rw [List.getElem?_eq_none (by simpa using l)] at e; cases e
  · rw [List.getElem?_set_ne (Ne.symm q)] at e
    obtain ⟨w, a, b⟩ := r.at_ j u e
    exact ⟨w, by rw [List.getElem?_set_ne (Ne.symm q)]; exact a, b⟩
theorem SRel.none (r : SRel c F τ σ) (i : Nat) : SRel c F (τ.set i none) (σ.set i none) := by
  refine ⟨by simp [r.len], fun j u e => ?_⟩
  by_cases q : j = i
  · subst q
    by_cases l : j < τ.length
    · rw [List.getElem?_set_self l] at e; cases e
    · rw [List.getElem?_eq_none (by simpa using l)] at e; cases e
  · rw [List.getElem?_set_ne (Ne.symm q)] at e
    obtain ⟨w, a, b⟩ := r.at_ j u e
    exact ⟨w, by rw [List.getElem?_set_ne (Ne.symm q)]; exact a, b⟩
/-- the block's own slots forgotten -/
def twipe (τ : Sg) : List Nat → Sg
  | [] => τ
  | v :: vs => (twipe τ vs).set v none
theorem SRel.wipe (r : SRel c F τ σ) : ∀ vs : List Nat, SRel c F (twipe τ vs) (wipe σ vs)
  | [] => r
  | v :: vs => (SRel.wipe r vs).none v
end

/-- an exception: its class, its own number if it bears one -/
structure Exn where
  cls : Str
  fld : Option (Str × Int)
abbrev XW := Exn → Sg → SS → Prop
def XRel (tc : Str → Option Addr) (F : FF) (x : Exn) (cls : Value) (d : Option Addr) : Prop :=
  ∃ C, tc x.cls = some C ∧ cls = .ref C ∧ match x.fld with
    | none => d = none
    | some (n, i) => ∃ dd, d = some dd ∧ F dd = some (.xd n i)

/-- a context serves the constants -/
structure Sv (c : Ct) (X : Cx) : Prop where
  K : X.K = c.K
  mg : X.mg = c.mg
  py : ∀ A' : Around, A'.frames = X.A.frames → A'.depth = X.A.depth → ∀ s : Shared, (∀ b o, X.base.get? b = some o → s.heap.get? b = some o) → PySem.PylongRoom (model X.prog X.w) A' s
  sm : ∃ mm, X.base.Ns sysModules mm

/-- a world: what is frozen, the store, the abstract heap -/
structure Wd where
  F : FF
  S : SS
  H : Hp
/-- a later world: what was frozen is frozen; what stands in neither part is as it was -/
structure Wd.le (A B : Wd) : Prop where
  fr : A.F.le B.F
  out : ∀ a u, A.H a = some u → A.F a = none → A.S a = none → B.H a = some u ∧ B.F a = none ∧ B.S a = none
def Wd.bot : Wd := ⟨fun _ => none, fun _ => none, fun _ => none⟩
theorem Wd.bot_le {A : Wd} : Wd.bot.le A := ⟨fun _ _ h => (nomatch h), fun _ _ h => (nomatch h)⟩
theorem Wd.le.refl {A : Wd} : A.le A := ⟨FF.le.refl, fun _ _ h a b => ⟨h, a, b⟩⟩
theorem Wd.le.trans {A B C : Wd} (h : A.le B) (k : B.le C) : A.le C := ⟨h.fr.trans k.fr, fun a u e1 e2 e3 =>
  let ⟨x, y, z⟩ := h.out a u e1 e2 e3
  k.out a u x y z⟩

section
variable {c : Ct} {F F' : FF} {S S' : SS} {H H' : Hp} {p : Addr}
theorem HRel.newF_le {o : FO} {u : HO} (hp : H p = none) : Wd.le ⟨F, S, H⟩ ⟨fupd F p o, S, upd H p u⟩ → Wd.le ⟨F, S, H⟩ ⟨fupd F p o, S, upd H p u⟩ := id
theorem le_newF {o : FO} {u : HO} (h : HRel c F S H) (hp : H p = none) : Wd.le ⟨F, S, H⟩ ⟨fupd F p o, S, upd H p u⟩ :=
  ⟨fupd_le (h.fnone hp), fun a x e1 e2 e3 => by
    have q : a ≠ p := ne_of_none e1 hp
    exact ⟨by show upd H p u a = _; rw [upd_ne q]; exact e1, by show fupd F p o a = _; rw [fupd_ne q]; exact e2, e3⟩⟩
theorem le_newS {o : SO} {u : HO} (hp : H p = none) : Wd.le ⟨F, S, H⟩ ⟨F, supd S p o, upd H p u⟩ :=
  ⟨FF.le.refl, fun a x e1 e2 e3 => by
    have q : a ≠ p := ne_of_none e1 hp
    exact ⟨by show upd H p u a = _; rw [upd_ne q]; exact e1, e2, by show supd S p o a = _; rw [supd_ne q]; exact e3⟩⟩
theorem le_write {o o' : SO} {u : HO} (hs : S p = some o) : Wd.le ⟨F, S, H⟩ ⟨F, supd S p o', upd H p u⟩ :=
  ⟨FF.le.refl, fun a x e1 e2 e3 => by
    have q : a ≠ p := fun z => by rw [z] at e3; rw [show S p = none from e3] at hs; cases hs
    exact ⟨by show upd H p u a = _; rw [upd_ne q]; exact e1, e2, by show supd S p o' a = _; rw [supd_ne q]; exact e3⟩⟩
end

abbrev DE := Sg → SS → KQ → Prop
abbrev DT := Sg → SS → (Bool → SS → Prop) → Prop
abbrev DA := Sg → SS → (List T → SS → Prop) → Prop
structure Ends' where
  nx : Sg → SS → Prop
  rt : T → SS → Prop
  bk : Sg → SS → Prop := fun _ _ => False
  ct : Sg → SS → Prop := fun _ _ => False
abbrev DS := Ends' → Sg → SS → Prop

theorem mn {α : Type} {t : Sem α} {Q Q' : α → Shared → Prop} {M : Model} {A : Around} {E : Value → Shared → Prop} {s : Shared} (h : wpAny M A t Q E s) (hQ : ∀ a s, Q a s → Q' a s) : wpAny M A t Q' E s := wpAny_mono h hQ fun _ _ x => x

/-! ### trees' readings as the layer's -/
section
variable (c : Ct)
/-- what comes of it -/
def out (F : FF) (S : SS) (H : Hp) (P : KQ) : VK := fun v H' => ∃ F' t S', Wd.le ⟨F, S, H⟩ ⟨F', S', H'⟩ ∧ HRel c F' S' H' ∧ TR c F' t v ∧ P t S'
def outT (F : FF) (S : SS) (H : Hp) (P : Bool → SS → Prop) : Bool → Hp → Prop := fun b H' => ∃ F' S', Wd.le ⟨F, S, H⟩ ⟨F', S', H'⟩ ∧ HRel c F' S' H' ∧ P b S'
def outA (F : FF) (S : SS) (H : Hp) (P : List T → SS → Prop) : List V → Hp → Prop := fun vs H' => ∃ F' ts S', Wd.le ⟨F, S, H⟩ ⟨F', S', H'⟩ ∧ HRel c F' S' H' ∧ TRs c F' ts vs ∧ P ts S'
def outG (F : FF) (S : SS) (H : Hp) (P : Sg → SS → Prop) : St → Hp → Prop := fun σ' H' => ∃ F' τ' S', Wd.le ⟨F, S, H⟩ ⟨F', S', H'⟩ ∧ HRel c F' S' H' ∧ SRel c F' τ' σ' ∧ P τ' S'
def outS (F : FF) (S : SS) (H : Hp) (D : Ends') : Ends := { nx := outG c F S H D.nx, rt := out c F S H D.rt, bk := outG c F S H D.bk, ct := outG c F S H D.ct }
def lift (B : Wd) (d : DE) : TE := fun σ H Q => ∃ F τ S P, B.le ⟨F, S, H⟩ ∧ HRel c F S H ∧ SRel c F τ σ ∧ d τ S P ∧ ∀ v H', out c F S H P v H' → Q v H'
def liftT (B : Wd) (d : DT) : TT := fun σ H Q => ∃ F τ S P, B.le ⟨F, S, H⟩ ∧ HRel c F S H ∧ SRel c F τ σ ∧ d τ S P ∧ ∀ v H', outT c F S H P v H' → Q v H'
def liftA (B : Wd) (d : DA) : TA := fun σ H Q => ∃ F τ S P, B.le ⟨F, S, H⟩ ∧ HRel c F S H ∧ SRel c F τ σ ∧ d τ S P ∧ ∀ v H', outA c F S H P v H' → Q v H'
def liftS (B : Wd) (d : DS) : TS := fun D σ H => ∃ F τ S D', B.le ⟨F, S, H⟩ ∧ HRel c F S H ∧ SRel c F τ σ ∧ d D' τ S ∧ (∀ σ' H', outG c F S H D'.nx σ' H' → D.nx σ' H') ∧ (∀ v H', out c F S H D'.rt v H' → D.rt v H') ∧
  (∀ σ' H', outG c F S H D'.bk σ' H' → D.bk σ' H') ∧ (∀ σ' H', outG c F S H D'.ct σ' H' → D.ct σ' H')
def liftX (B : Wd) (W : XW) : WX := fun cls d σ H => ∃ F τ S x, B.le ⟨F, S, H⟩ ∧ HRel c F S H ∧ SRel c F τ σ ∧ XRel c.tc F x cls d ∧ W x τ S
end
section
variable {c : Ct} {B : Wd} {X : Cx} {F F1 : FF} {S S1 : SS} {H H1 : Hp}
theorem out.mono {P : KQ} {v : V} {H' : Hp} (le : Wd.le ⟨F, S, H⟩ ⟨F1, S1, H1⟩) (h : out c F1 S1 H1 P v H') : out c F S H P v H' := by
  obtain ⟨F', t, S', l, hr, tr, p⟩ := h
  exact ⟨F', t, S', le.trans l, hr, tr, p⟩
theorem outT.mono {P : Bool → SS → Prop} {v : Bool} {H' : Hp} (le : Wd.le ⟨F, S, H⟩ ⟨F1, S1, H1⟩) (h : outT c F1 S1 H1 P v H') : outT c F S H P v H' := by
  obtain ⟨F', S', l, hr, p⟩ := h
  exact ⟨F', S', le.trans l, hr, p⟩
theorem outA.mono {P : List T → SS → Prop} {v : List V} {H' : Hp} (le : Wd.le ⟨F, S, H⟩ ⟨F1, S1, H1⟩) (h : outA c F1 S1 H1 P v H') : outA c F S H P v H' := by
  obtain ⟨F', t, S', l, hr, tr, p⟩ := h
  exact ⟨F', t, S', le.trans l, hr, tr, p⟩
theorem outG.mono {P : Sg → SS → Prop} {v : St} {H' : Hp} (le : Wd.le ⟨F, S, H⟩ ⟨F1, S1, H1⟩) (h : outG c F1 S1 H1 P v H') : outG c F S H P v H' := by
  obtain ⟨F', t, S', l, hr, tr, p⟩ := h
  exact ⟨F', t, S', le.trans l, hr, tr, p⟩
/-- from a rule of the layer -/
theorem toL {e : Expr} {t : TE} {d : DE} (h : PE X e t) (k : ∀ σ H F τ S P, B.le ⟨F, S, H⟩ → HRel c F S H → SRel c F τ σ → d τ S P → t σ H (out c F S H P)) : PE X e (lift c B d) :=
  ⟨fun pins s σ H Q I ⟨F, τ, S, P, l, hr, sr, hd, q⟩ => mn (h.run pins s σ H _ I (k σ H F τ S P l hr sr hd)) fun u s' ⟨v, H', I', r, o⟩ => ⟨v, H', I', r, q v H' o⟩⟩
theorem toLT {e : Expr} {t : TT} {d : DT} (h : PT X e t) (k : ∀ σ H F τ S P, B.le ⟨F, S, H⟩ → HRel c F S H → SRel c F τ σ → d τ S P → t σ H (outT c F S H P)) : PT X e (liftT c B d) :=
  ⟨fun pins s σ H Q I ⟨F, τ, S, P, l, hr, sr, hd, q⟩ => mn (h.run pins s σ H _ I (k σ H F τ S P l hr sr hd)) fun u s' ⟨H', I', o⟩ => ⟨H', I', q u H' o⟩⟩
theorem toLW {e : Expr} {t : TT} {d : DT} (h : PW X e t) (k : ∀ σ H F τ S P, B.le ⟨F, S, H⟩ → HRel c F S H → SRel c F τ σ → d τ S P → t σ H (outT c F S H P)) : PW X e (liftT c B d) :=
  ⟨fun w pins s σ H Q I ⟨F, τ, S, P, l, hr, sr, hd, q⟩ => mn (h.run w pins s σ H _ I (k σ H F τ S P l hr sr hd)) fun u s' ⟨H', I', o⟩ => ⟨H', I', q u H' o⟩⟩
theorem toLA {es : List Expr} {t : TA} {d : DA} (h : PA X es t) (k : ∀ σ H F τ S P, B.le ⟨F, S, H⟩ → HRel c F S H → SRel c F τ σ → d τ S P → t σ H (outA c F S H P)) : PA X es (liftA c B d) :=
  ⟨fun pos pins s σ H Q I ⟨F, τ, S, P, l, hr, sr, hd, q⟩ => mn (h.run pos pins s σ H _ I (k σ H F τ S P l hr sr hd)) fun u s' ⟨v, H', I', r, o⟩ => ⟨v, H', I', r, q v H' o⟩⟩
theorem SP.imp {pins : List (Addr × Obj)} {D D' : Ends} {f : Flow} {s : Shared} (h : SP X pins D f s) (h1 : ∀ σ' H', D.nx σ' H' → D'.nx σ' H') (h2 : ∀ v H', D.rt v H' → D'.rt v H') (h3 : ∀ σ' H', D.bk σ' H' → D'.bk σ' H') (h4 : ∀ σ' H', D.ct σ' H' → D'.ct σ' H') : SP X pins D' f s := by
  cases f with
  | next => obtain ⟨σ', H', I, q⟩ := h; exact ⟨σ', H', I, h1 _ _ q⟩
  | ret u => obtain ⟨v, σ', H', I, r, q⟩ := h; exact ⟨v, σ', H', I, r, h2 _ _ q⟩
  | brk => obtain ⟨σ', H', I, q⟩ := h; exact ⟨σ', H', I, h3 _ _ q⟩
  | cont => obtain ⟨σ', H', I, q⟩ := h; exact ⟨σ', H', I, h4 _ _ q⟩
theorem toLS {st : Stmt} {t : TS} {d : DS} (h : PS X st t) (k : ∀ σ H F τ S D, B.le ⟨F, S, H⟩ → HRel c F S H → SRel c F τ σ → d D τ S → t (outS c F S H D) σ H) : PS X st (liftS c B d) :=
  ⟨fun pins s σ H D I ⟨F, τ, S, D', l, hr, sr, hd, q1, q2, q3, q4⟩ => mn (h.run pins s σ H _ I (k σ H F τ S D' l hr sr hd)) fun _ _ o => SP.imp o q1 q2 q3 q4⟩
theorem toLSs {st : List Stmt} {t : TS} {d : DS} (h : PSs X st t) (k : ∀ σ H F τ S D, B.le ⟨F, S, H⟩ → HRel c F S H → SRel c F τ σ → d D τ S → t (outS c F S H D) σ H) : PSs X st (liftS c B d) :=
  ⟨fun pins s σ H D I ⟨F, τ, S, D', l, hr, sr, hd, q1, q2, q3, q4⟩ => mn (h.run pins s σ H _ I (k σ H F τ S D' l hr sr hd)) fun _ _ o => SP.imp o q1 q2 q3 q4⟩
end
end TL

set_option Elab.async false
set_option linter.all false
set_option maxRecDepth 100000
set_option maxHeartbeats 2000000
set_option autoImplicit false
/-! TL1: operations on trees, by values. -/
namespace TL
open PySem PySem.Spec PyProof.Rows L2

/-! ### data -/
mutual
def T.toD : T → PyData
  | .non => .none
  | .bl b => .bool b
  | .int i => .int i
  | .str x => .str x
  | .tup l => .tuple (T.toDs l)
  | .lst l => .list (T.toDs l)
  | .dic => .dict []
  | _ => .none
def T.toDs : List T → List PyData
  | [] => []
  | t :: ts => t.toD :: T.toDs ts
end
mutual
/-- plain data without dicts, texts layable, of depth at most n -/
def T.shp : Nat → T → Bool
  | _, .non => true
  | _, .bl _ => true
  | _, .int _ => true
  | _, .str x => PyData.strOk x
  | n + 1, .tup l => T.shps n l
  | n + 1, .lst l => T.shps n l
  | _, _ => false
def T.shps : Nat → List T → Bool
  | _, [] => true
  | n, t :: ts => T.shp n t && T.shps n ts
end
mutual
theorem T.shp_lay : ∀ (n : Nat) (t : T), t.shp n = true → t.toD.canLay0 = true ∧ t.toD.depth ≤ n
  | n, .non, _ => ⟨by simp [T.toD, PyData.canLay0], by simp [T.toD, PyData.depth]⟩
  | n, .bl _, _ => ⟨by simp [T.toD, PyData.canLay0], by simp [T.toD, PyData.depth]⟩
  | n, .int _, _ => ⟨by simp [T.toD, PyData.canLay0], by simp [T.toD, PyData.depth]⟩
  | n, .str x, h => ⟨by simpa [T.toD, PyData.canLay0, T.shp] using h, by simp [T.toD, PyData.depth]⟩
  | n + 1, .tup l, h => by
    obtain ⟨h1, h2⟩ := T.shps_lay n l (by simpa [T.shp] using h)
    exact ⟨by simpa [T.toD, PyData.canLay0] using h1, by simp only [T.toD, PyData.depth]; omega⟩
  | n + 1, .lst l, h => by
    obtain ⟨h1, h2⟩ := T.shps_lay n l (by simpa [T.shp] using h)
    exact ⟨by simpa [T.toD, PyData.canLay0] using h1, by simp only [T.toD, PyData.depth]; omega⟩
  | 0, .tup _, h => by simp [T.shp] at h
  | 0, .lst _, h => by simp [T.shp] at h
  | _, .ref _, h => by simp [T.shp] at h
  | _, .dic, h => by simp [T.shp] at h
  | _, .exc _ _, h => by simp [T.shp] at h
  | _, .ty _, h => by simp [T.shp] at h
  | _, .cls _, h => by simp [T.shp] at h
theorem T.shps_lay : ∀ (n : Nat) (ts : List T), T.shps n ts = true → PyData.canLayAll0 (T.toDs ts) = true ∧ PyData.depthAll (T.toDs ts) ≤ n
  | n, [], _ => ⟨by simp [T.toDs, PyData.canLayAll0], by simp [T.toDs, PyData.depthAll]⟩
  | n, t :: ts, h => by
    have h' : t.shp n = true ∧ T.shps n ts = true := by simpa [T.shps] using h
    obtain ⟨a1, a2⟩ := T.shp_lay n t h'.1
    obtain ⟨b1, b2⟩ := T.shps_lay n ts h'.2
    exact ⟨by simp [T.toDs, PyData.canLayAll0, a1, b1], by simp only [T.toDs, PyData.depthAll]; omega⟩
end
theorem T.shp_shaped {t : T} (h : t.shp 60 = true) : SeqAt.shaped t.toD = true := by
  obtain ⟨h1, h2⟩ := T.shp_lay 60 t h
  unfold SeqAt.shaped
  rw [h1, Bool.true_and, decide_eq_true]
  omega
mutual
def T.plain : T → Bool
  | .non => true
  | .bl _ => true
  | .int _ => true
  | .str _ => true
  | .tup l => T.plains l
  | .lst l => T.plains l
  | _ => false
def T.plains : List T → Bool
  | [] => true
  | t :: ts => T.plain t && T.plains ts
end
mutual
theorem T.plain_of : ∀ (n : Nat) (t : T), t.shp n = true → t.plain = true
  | n, .non, _ => rfl
  | n, .bl _, _ => rfl
  | n, .int _, _ => rfl
  | n, .str x, h => rfl
  | n + 1, .tup l, h => by simp only [T.plain]; exact T.plains_of n l (by simpa [T.shp] using h)
  | n + 1, .lst l, h => by simp only [T.plain]; exact T.plains_of n l (by simpa [T.shp] using h)
  | 0, .tup _, h => by simp [T.shp] at h
  | 0, .lst _, h => by simp [T.shp] at h
  | _, .ref _, h => by simp [T.shp] at h
  | _, .dic, h => by simp [T.shp] at h
  | _, .exc _ _, h => by simp [T.shp] at h
  | _, .ty _, h => by simp [T.shp] at h
  | _, .cls _, h => by simp [T.shp] at h
theorem T.plains_of : ∀ (n : Nat) (ts : List T), T.shps n ts = true → T.plains ts = true
  | n, [], _ => rfl
  | n, t :: ts, h => by
    have h' : t.shp n = true ∧ T.shps n ts = true := by simpa [T.shps] using h
    simp only [T.plains, T.plain_of n t h'.1, T.plains_of n ts h'.2, Bool.and_self]
end

/-- one step off the store -/
def deref (S : SS) : T → T
  | .ref a => match S a with
    | some (.lst l) => .lst l
    | _ => .ref a
  | t => t
/-- the list that a value is -/
def lsOf (S : SS) : T → Option (List T)
  | .lst l => some l
  | .ref a => match S a with
    | some (.lst l) => some l
    | _ => none
  | _ => none
/-- a list or a tuple -/
def sqOf (S : SS) : T → Option (List T)
  | .tup l => some l
  | .lst l => some l
  | .ref a => match S a with
    | some (.lst l) => some l
    | _ => none
  | _ => none
/-- a new list, in the store or frozen -/
def newL (mu : Bool) (l : List T) (S : SS) (Q : KQ) : Prop :=
  match mu with
  | true => ∀ p, S p = none → Q (.ref p) (supd S p (.lst l))
  | false => Q (.lst l) S

section
variable {c : Ct} {X : Cx} {pins : List (Addr × Obj)} {σ : St} {H : Hp} {s : Shared} {F : FF} {S : SS}
theorem fin0 {Q : KQ} {t : T} {v : V} (hr : HRel c F S H) (tr : TR c F t v) (q : Q t S) : out c F S H Q v H := ⟨F, t, S, Wd.le.refl, hr, tr, q⟩
theorem finL {Q : KQ} {mu : Bool} {ts : List T} {vs : List V} (sv : Sv c X) (hr : HRel c F S H) (tr : TRs c F ts vs) (q : newL mu ts S Q) : ∀ p, H p = none → out c F S H Q (.ref p) (upd H p (.lst vs)) := fun p hp => by
  cases mu with
  | true => exact ⟨F, .ref p, _, le_newS hp, hr.newS (o := .lst ts) hp ⟨vs, upd_same, tr⟩, .ref p, q p (hr.snone hp)⟩
  | false =>
    obtain ⟨h1, h2⟩ := hr.newF (o := .lst vs) hp upd_same
    exact ⟨_, .lst ts, S, le_newF hr hp, h1, .lst fupd_same (tr.mono h2), q⟩
theorem finT {Q : KQ} {ts : List T} {vs : List V} (sv : Sv c X) (hr : HRel c F S H) (tr : TRs c F ts vs) (q : Q (.tup ts) S) : ∀ p, H p = none → out c F S H Q (.ref p) (upd H p (.tup vs)) := fun p hp => by
  obtain ⟨h1, h2⟩ := hr.newF (o := .tup vs) hp upd_same
  exact ⟨_, .tup ts, S, le_newF hr hp, h1, .tup fupd_same (tr.mono h2), q⟩
theorem kt_sq (sv : Sv c X) {a : Addr} {vs : List V} (h : KT c.K a vs) : SqT X.K H a vs := by
  rw [sv.K]
  exact .inr h
theorem TR.tupI (sv : Sv c X) (hr : HRel c F S H) {ts : List T} {v : V} (h : TR c F (.tup ts) v) : ∃ a vs, v = .ref a ∧ SqT X.K H a vs ∧ TRs c F ts vs := by
  cases h with
  | tup e r => exact ⟨_, _, rfl, .inl (.inl (hr.fr _ _ e)), r⟩
  | ktup e r => exact ⟨_, _, rfl, kt_sq sv e, r⟩
/-- a list that is read, its object without slots -/
def RdL (K : PySem.W.Frag) (H : Hp) (a : Addr) (xs : List V) : Prop := Rd H a (.lst xs) ∨ KL K a xs
theorem RdL.sq (sv : Sv c X) {a : Addr} {xs : List V} (h : RdL c.K H a xs) : SqL X.K H a xs := by
  rw [sv.K]
  rcases h with h | ⟨its, n, e, z, r⟩
  · exact .inl h
  · exact .inr ⟨_, its, n, e, rfl, rfl, rfl, z, r⟩
theorem RdL.ok (sv : Sv c X) {a : Addr} {xs : List V} (h : RdL c.K H a xs) (I : Inv X pins σ H s) : xs.length ≤ sizeLine ∧ ∃ (its : List Value) (n : Nat), Vals xs its ∧ s.heap.get? a = some { cls := .type "list", data := .seq its.toArray n } := by
  rcases h with h | ⟨its, n, e, z, r⟩
  · exact h.ok I.hok
  · have l : xs.length = its.size := by rw [r.length, Array.length_toList]
    exact ⟨by omega, its.toList, n, r, I.kIn a _ (by rw [sv.K]; simpa using e)⟩
theorem lsOfI (sv : Sv c X) (hr : HRel c F S H) {t : T} {ts : List T} {v : V} (h : TR c F t v) (e : lsOf S t = some ts) : ∃ a vs, v = .ref a ∧ RdL c.K H a vs ∧ TRs c F ts vs := by
  cases h with
  | lst e' r =>
    simp only [lsOf, Option.some.injEq] at e; subst e
    exact ⟨_, _, rfl, .inl (.inl (hr.fr _ _ e')), r⟩
  | flst e' r =>
    simp only [lsOf, Option.some.injEq] at e; subst e
    exact ⟨_, _, rfl, .inl (.inr (hr.fr _ _ e')), r⟩
  | klst e' r =>
    simp only [lsOf, Option.some.injEq] at e; subst e
    exact ⟨_, _, rfl, .inr e', r⟩
  | ref a =>
    simp only [lsOf] at e
    cases q : S a with
    | none => rw [q] at e; cases e
    | some o =>
      rw [q] at e
      cases o with
      | ins _ _ => cases e
      | lst l =>
        simp only [Option.some.injEq] at e; subst e
        obtain ⟨vs, h1, h2⟩ := (hr.st a _ q).2
        exact ⟨_, _, rfl, .inl (.inl h1), h2⟩
  | _ => simp [lsOf] at e
theorem sqOfI (sv : Sv c X) (hr : HRel c F S H) {t : T} {ts : List T} {v : V} (h : TR c F t v) (e : sqOf S t = some ts) : ∃ a vs, v = .ref a ∧ (SqL X.K H a vs ∨ SqT X.K H a vs) ∧ TRs c F ts vs := by
  cases t with
  | tup l =>
    simp only [sqOf, Option.some.injEq] at e; subst e
    obtain ⟨a, vs, e1, h1, h2⟩ := TR.tupI sv hr h
    exact ⟨a, vs, e1, .inr h1, h2⟩
  | lst l =>
    obtain ⟨a, vs, e1, h1, h2⟩ := lsOfI sv hr h (show lsOf S (.lst l) = some ts from e)
    exact ⟨a, vs, e1, .inl (h1.sq sv), h2⟩
  | ref a =>
    obtain ⟨a, vs, e1, h1, h2⟩ := lsOfI sv hr h (show lsOf S (.ref a) = some ts from e)
    exact ⟨a, vs, e1, .inl (h1.sq sv), h2⟩
  | _ => simp [sqOf] at e
theorem TR.intI {i : Int} {v : V} (h : TR c F (.int i) v) : v = .int i := by cases h; rfl
theorem TR.blI {b : Bool} {v : V} (h : TR c F (.bl b) v) : v = .bl b := by cases h; rfl
theorem TR.strI {x : Str} {v : V} (h : TR c F (.str x) v) : v = .str x := by cases h; rfl
theorem TR.nonI {v : V} (h : TR c F .non v) : v = .non := by cases h; rfl
mutual
theorem TR.dp (sv : Sv c X) (hr : HRel c F S H) : ∀ {t : T} {v : V}, TR c F t v → t.plain = true → Dp X.K H v t.toD
  | _, _, .non, _ => by simp only [T.toD]; exact .non
  | _, _, .bl b, _ => by simp only [T.toD]; exact .bl b
  | _, _, .int i, _ => by simp only [T.toD]; exact .int i
  | _, _, .str x, _ => by simp only [T.toD]; exact .str x
  | _, _, .tup e r, h => by simp only [T.toD]; exact .tup (.inl (.inl (hr.fr _ _ e))) (TRs.dp sv hr r (by simpa [T.plain] using h))
  | _, _, .ktup e r, h => by simp only [T.toD]; exact .tup (kt_sq sv e) (TRs.dp sv hr r (by simpa [T.plain] using h))
  | _, _, .klst e r, h => by simp only [T.toD]; exact .lst (RdL.sq sv (.inr e)) (TRs.dp sv hr r (by simpa [T.plain] using h))
  | _, _, .lst e r, h => by simp only [T.toD]; exact .lst (.inl (.inl (hr.fr _ _ e))) (TRs.dp sv hr r (by simpa [T.plain] using h))
  | _, _, .flst e r, h => by simp only [T.toD]; exact .lst (.inl (.inr (hr.fr _ _ e))) (TRs.dp sv hr r (by simpa [T.plain] using h))
  | _, _, .ref a, h => by simp [T.plain] at h
  | _, _, .dic e, h => by simp [T.plain] at h
  | _, _, .exc0 _ e, h => by simp [T.plain] at h
  | _, _, .exc1 _ e e', h => by simp [T.plain] at h
  | _, _, .ty _, h => by simp [T.plain] at h
  | _, _, .cls _, h => by simp [T.plain] at h
theorem TRs.dp (sv : Sv c X) (hr : HRel c F S H) : ∀ {ts : List T} {vs : List V}, TRs c F ts vs → T.plains ts = true → DpAll X.K H vs (T.toDs ts)
  | _, _, .nil, _ => by simp only [T.toDs]; exact .nil
  | _, _, .cons r rs, h => by
    have h' := h
    simp only [T.plains, Bool.and_eq_true] at h'
    simp only [T.toDs]
    exact .cons (TR.dp sv hr r h'.1) (TRs.dp sv hr rs h'.2)
end
theorem deref_dp (sv : Sv c X) (hr : HRel c F S H) {t : T} {v : V} (h : TR c F t v) (hp : (deref S t).plain = true) : Dp X.K H v (deref S t).toD := by
  cases t with
  | ref a =>
    cases q : S a with
    | none => simp [deref, q, T.plain] at hp
    | some o =>
      cases o with
      | ins _ _ => simp [deref, q, T.plain] at hp
      | lst l =>
        simp only [deref, q] at hp ⊢
        obtain ⟨a', vs, e1, h1, h2⟩ := lsOfI sv hr h (show lsOf S (.ref a) = some l by simp [lsOf, q])
        subst e1
        simp only [T.toD]
        exact .lst (h1.sq sv) (TRs.dp sv hr h2 (by simpa [T.plain] using hp))
  | _ => exact TR.dp sv hr h hp

end
/-! ### data with empty dicts, for repr -/
mutual
inductive Dq (K : PySem.W.Frag) (H : Hp) : V → PyData → Prop
  | non : Dq K H .non .none
  | bl (b : Bool) : Dq K H (.bl b) (.bool b)
  | int (i : Int) : Dq K H (.int i) (.int i)
  | str (x : Str) : Dq K H (.str x) (.str x)
  | lst {a : Addr} {xs : List V} {ds : List PyData} : SqL K H a xs → DqAll K H xs ds → Dq K H (.ref a) (.list ds)
  | tup {a : Addr} {xs : List V} {ds : List PyData} : SqT K H a xs → DqAll K H xs ds → Dq K H (.ref a) (.tuple ds)
  | dic {a : Addr} : H a = some (.dK []) → Dq K H (.ref a) (.dict [])
inductive DqAll (K : PySem.W.Frag) (H : Hp) : List V → List PyData → Prop
  | nil : DqAll K H [] []
  | cons {v : V} {vs : List V} {d : PyData} {ds : List PyData} : Dq K H v d → DqAll K H vs ds → DqAll K H (v :: vs) (d :: ds)
end
section
variable {X : Cx} {pins : List (Addr × Obj)} {σ : St} {H : Hp} {s : Shared}
mutual
theorem Dq.reads (I : Inv X pins σ H s) (sm : ∃ mm, X.base.Ns sysModules mm) : ∀ (d : PyData) (v : V) (u : Value), Dq X.K H v d → RelV v u → ∃ as, Reads s.heap u d as ∧ sysModules ∉ as
  | .none, _, _, h, r => by
    cases h
    cases r
    exact ⟨_, Reads.none, by simp⟩
  | .bool b, _, _, h, r => by
    cases h
    cases r
    exact ⟨_, Reads.bool b, by simp⟩
  | .int i, _, _, h, r => by
    cases h
    obtain ⟨t, rfl⟩ := r
    exact ⟨_, Reads.int i t, by simp⟩
  | .str x, _, _, h, r => by
    cases h
    obtain ⟨t, rfl⟩ := r
    exact ⟨_, Reads.str x t, by simp⟩
  | .list ds, _, _, h, r => by
    cases h with
    | lst hs ha =>
      cases r
      obtain ⟨its, rv, ⟨o, n, ho, hc, _, hd⟩, _⟩ := I.list hs
      obtain ⟨as, hr, hn⟩ := Dq.readsAll I sm ds _ its ha rv
      refine ⟨_, Reads.list ho hc hd hr, fun z => ?_⟩
      rcases List.mem_cons.mp z with e | z
      · obtain ⟨mm, o', es, ep, e', hd', _⟩ := sm
        have e2 := I.bk _ _ e'
        rw [e, ho] at e2
        cases e2
        rw [hd] at hd'; cases hd'
      · exact hn z
  | .tuple ds, _, _, h, r => by
    cases h with
    | tup hs ha =>
      cases r
      obtain ⟨its, rv, ⟨o, ho, hc, n, hd⟩, _⟩ := I.tuple hs
      obtain ⟨as, hr, hn⟩ := Dq.readsAll I sm ds _ its ha rv
      exact ⟨_, Reads.tuple ho hc hd hr, hn⟩
  | .dict kvs, _, _, h, r => by
    cases h with
    | dic e =>
      cases r
      obtain ⟨_, hne, vs, kv, o, es, ep, ho, hx, hdat, _, hp, _⟩ := dk_of I.hok e
      cases kv
      have e0 : es.toList = [] := by cases hq : es.toList with
        | nil => rfl
        | cons x l => rw [hq] at hp; cases hp
      refine ⟨_, Reads.dict (kvs := []) (as := []) (bs := []) ho hx.1 hdat (by rw [e0]; exact .nil) (by rw [e0]; exact .nil), fun z => ?_⟩
      rcases List.mem_cons.mp z with e2 | z
      · rw [← e2] at hne
        simp at hne
      · simp at z
theorem Dq.readsAll (I : Inv X pins σ H s) (sm : ∃ mm, X.base.Ns sysModules mm) : ∀ (ds : List PyData) (vs : List V) (us : List Value), DqAll X.K H vs ds → Vals vs us → ∃ as, ReadsAll s.heap us ds as ∧ sysModules ∉ as
  | [], _, _, h, r => by
    cases h
    cases r
    exact ⟨_, ReadsAll.nil, by simp⟩
  | d :: ds, _, _, h, r => by
    cases h with
    | cons h1 h2 =>
      cases r with
      | cons r1 r2 =>
        obtain ⟨as, q1, n1⟩ := Dq.reads I sm d _ _ h1 r1
        obtain ⟨bs, q2, n2⟩ := Dq.readsAll I sm ds _ _ h2 r2
        exact ⟨_, ReadsAll.cons q1 q2, fun z => (List.mem_append.mp z).elim n1 n2⟩
end
end
mutual
/-- plain, empty dicts among it -/
def T.plainD : T → Bool
  | .non => true
  | .bl _ => true
  | .int _ => true
  | .str _ => true
  | .tup l => T.plainsD l
  | .lst l => T.plainsD l
  | .dic => true
  | _ => false
def T.plainsD : List T → Bool
  | [] => true
  | t :: ts => T.plainD t && T.plainsD ts
end
section
variable {c : Ct} {X : Cx} {pins : List (Addr × Obj)} {σ : St} {H : Hp} {s : Shared} {F : FF} {S : SS}
mutual
theorem TR.dq (sv : Sv c X) (hr : HRel c F S H) : ∀ {t : T} {v : V}, TR c F t v → t.plainD = true → Dq X.K H v t.toD
  | _, _, .non, _ => by simp only [T.toD]; exact .non
  | _, _, .bl b, _ => by simp only [T.toD]; exact .bl b
  | _, _, .int i, _ => by simp only [T.toD]; exact .int i
  | _, _, .str x, _ => by simp only [T.toD]; exact .str x
  | _, _, .tup e r, h => by simp only [T.toD]; exact .tup (.inl (.inl (hr.fr _ _ e))) (TRs.dq sv hr r (by simpa [T.plainD] using h))
  | _, _, .ktup e r, h => by simp only [T.toD]; exact .tup (kt_sq sv e) (TRs.dq sv hr r (by simpa [T.plainD] using h))
  | _, _, .klst e r, h => by simp only [T.toD]; exact .lst (RdL.sq sv (.inr e)) (TRs.dq sv hr r (by simpa [T.plainD] using h))
  | _, _, .lst e r, h => by simp only [T.toD]; exact .lst (.inl (.inl (hr.fr _ _ e))) (TRs.dq sv hr r (by simpa [T.plainD] using h))
  | _, _, .flst e r, h => by simp only [T.toD]; exact .lst (.inl (.inr (hr.fr _ _ e))) (TRs.dq sv hr r (by simpa [T.plainD] using h))
  | _, _, .ref a, h => by simp [T.plainD] at h
  | _, _, .dic e, _ => by simp only [T.toD]; exact .dic (hr.fr _ _ e)
  | _, _, .exc0 _ e, h => by simp [T.plainD] at h
  | _, _, .exc1 _ e e', h => by simp [T.plainD] at h
  | _, _, .ty _, h => by simp [T.plainD] at h
  | _, _, .cls _, h => by simp [T.plainD] at h
theorem TRs.dq (sv : Sv c X) (hr : HRel c F S H) : ∀ {ts : List T} {vs : List V}, TRs c F ts vs → T.plainsD ts = true → DqAll X.K H vs (T.toDs ts)
  | _, _, .nil, _ => by simp only [T.toDs]; exact .nil
  | _, _, .cons r rs, h => by
    have h' := h
    simp only [T.plainsD, Bool.and_eq_true] at h'
    simp only [T.toDs]
    exact .cons (TR.dq sv hr r h'.1) (TRs.dq sv hr rs h'.2)
end
theorem deref_dq (sv : Sv c X) (hr : HRel c F S H) {t : T} {v : V} (h : TR c F t v) (hp : (deref S t).plainD = true) : Dq X.K H v (deref S t).toD := by
  cases t with
  | ref a =>
    cases q : S a with
    | none => simp [deref, q, T.plainD] at hp
    | some o =>
      cases o with
      | ins _ _ => simp [deref, q, T.plainD] at hp
      | lst l =>
        simp only [deref, q] at hp ⊢
        obtain ⟨a', vs, e1, h1, h2⟩ := lsOfI sv hr h (show lsOf S (.ref a) = some l by simp [lsOf, q])
        subst e1
        simp only [T.toD]
        exact .lst (h1.sq sv) (TRs.dq sv hr h2 (by simpa [T.plainD] using hp))
  | _ => exact TR.dq sv hr h hp
end
section
variable {c : Ct} {X : Cx} {pins : List (Addr × Obj)} {σ : St} {H : Hp} {s : Shared} {F : FF} {S : SS}
/-! ### two-place operations -/
def BinOk (c : Ct) (X : Cx) (f : Value → Value → Sem Value) (r : T → T → SS → KQ → Prop) : Prop :=
  ∀ (pins : List (Addr × Obj)) (s : Shared) (σ : St) (H : Hp) (F : FF) (S : SS) (x y : V) (v u : Value) (t1 t2 : T) (Q : KQ), Inv X pins σ H s → HRel c F S H → RelV x v → RelV y u → TR c F t1 x → TR c F t2 y → r t1 t2 S Q →
    wpAny (model X.prog X.w) X.A (f v u) (EP X pins σ (out c F S H Q)) X.xe s
theorem BinOk.of {f : Value → Value → Sem Value} {r : T → T → SS → KQ → Prop} {r2 : R2} (ho : OpR X f r2)
    (k : ∀ (pins : List (Addr × Obj)) (s : Shared) (σ : St) (H : Hp) (F : FF) (S : SS) (x y : V) (t1 t2 : T) (Q : KQ), Inv X pins σ H s → HRel c F S H → TR c F t1 x → TR c F t2 y → r t1 t2 S Q → r2 x y H (out c F S H Q)) : BinOk c X f r := by
  intro pins s σ H F S x y v u t1 t2 Q I hr rx ry tx ty h
  exact mn (ho pins s σ H x y v u _ I rx ry (k pins s σ H F S x y t1 t2 Q I hr tx ty h)) fun _ _ q => q
/-- two ways -/
theorem BinOk.or {f : Value → Value → Sem Value} {r r1 r2 : T → T → SS → KQ → Prop} (h1 : BinOk c X f r1) (h2 : BinOk c X f r2) (h : ∀ t1 t2 S Q, r t1 t2 S Q → r1 t1 t2 S Q ∨ r2 t1 t2 S Q) : BinOk c X f r := by
  intro pins s σ H F S x y v u t1 t2 Q I hr rx ry tx ty q
  rcases h _ _ _ _ q with q | q
  · exact h1 pins s σ H F S x y v u t1 t2 Q I hr rx ry tx ty q
  · exact h2 pins s σ H F S x y v u t1 t2 Q I hr rx ry tx ty q

/-- list + list, frozen ones too -/
theorem op_catL (sv : Sv c X) : OpR X (binaryOp .Add) (fun x y H Q => ∃ l b xs zs, x = .ref l ∧ y = .ref b ∧ RdL c.K H l xs ∧ RdL c.K H b zs ∧ xs.length + zs.length ≤ sizeLine ∧ ∀ p, H p = none → Q (.ref p) (upd H p (.lst (xs ++ zs)))) := by
  intro pins s σ H x y v u Q I rx ry h
  obtain ⟨l, b, xs, zs, rfl, rfl, hH, hB, hz, q⟩ := h
  cases rx
  cases ry
  obtain ⟨z, its, n, r, e⟩ := hH.ok sv I
  obtain ⟨z2, its2, n2, r2, e2⟩ := hB.ok sv I
  have l1 := r.length
  have l2 := r2.length
  refine PySem.P.add_list e e2 ?_ (by rw [List.size_toArray, List.size_toArray]; omega)
  have ea : its.toArray ++ its2.toArray = (its ++ its2).toArray := by simp
  rw [ea]
  exact ⟨.ref _, _, I.lnew (t' := s.toks) (r.append r2) (by rw [List.length_append]; omega), rfl, q _ I.fresh⟩
end
end TL

set_option Elab.async false
set_option linter.all false
set_option maxRecDepth 100000
set_option maxHeartbeats 4000000
set_option autoImplicit false
/-! TL1M: a tuple so many times, once, never. -/
namespace TL
open PySem PySem.Spec PyProof.Rows L2
theorem tuple_mul1 (l : Addr) (items : Array Value) (n : Nat) (sl : Array (Option Value)) (dd : Option Addr) (u : Tok) :
    Meets (Builtin.«tuple.__mul__» ⟨[.ref l, .int 1 u], []⟩) (fun _ R s => s.heap.get? l = some { cls := .type "tuple", dict := dd, data := .seq items n, slots := sl } ∧ R (.ok (.ret (Value.ref l))) s) :=
  .of_wp fun prog w A R s h => by
    obtain ⟨hp, g, d, tk, os⟩ := s
    obtain ⟨hl, h⟩ := h
    have f1 := AutoSeq1.idx_int
    have c1 : (items.isEmpty || (1 : Int) == 1) = true := by simp
    wp_walk using wpAny_loadPart' hl
    exact ⟨_, rfl, h⟩
theorem tuple_mul0 (l : Addr) (items : Array Value) (n : Nat) (dd : Option Addr) (sl : Array (Option Value)) (x : Int) (u : Tok) (c0 : (decide (x < -(2 ^ 63)) || decide (x ≥ 2 ^ 63)) = false) (c1 : (items.isEmpty || x == 1) = false) (c2 : (decide (x ≤ 0) || items.isEmpty) = true) :
    Meets (Builtin.«tuple.__mul__» ⟨[.ref l, .int x u], []⟩) (fun _ R s => s.heap.get? l = some { cls := .type "tuple", dict := dd, data := .seq items n, slots := sl } ∧
      R (.ok (.ret (Value.ref s.heap.objs.size))) { s with heap := s.heap.push { cls := Value.type "tuple", data := Data.seq #[] } }) :=
  .of_wp fun prog w A R s h => by
    obtain ⟨hp, g, d, tk, os⟩ := s
    obtain ⟨hl, h⟩ := h
    have f1 := AutoSeq1.idx_int
    wp_walk using wpAny_loadPart' hl
    repeat (first
      | (refine wpAny_ite_false (decide_eq_false (by rw [c0]; exact Bool.false_ne_true)) ?_; wp_walk using wpAny_loadPart' hl)
      | (refine wpAny_ite_false (decide_eq_false (by rw [c1]; exact Bool.false_ne_true)) ?_; wp_walk using wpAny_loadPart' hl))
    exact ⟨_, rfl, h⟩
section
variable {X : Cx}
def rRep1 (K : PySem.W.Frag) : R2 := fun x y H Q => ∃ l xs, x = .ref l ∧ y = .int 1 ∧ SqT K H l xs ∧ Q (.ref l) H
def rRep0 (K : PySem.W.Frag) : R2 := fun x y H Q => ∃ l k xs, x = .ref l ∧ y = .int k ∧ SqT K H l xs ∧ xs ≠ [] ∧ k ≤ 0 ∧ -1000 ≤ k ∧ ∀ p, H p = none → Q (.ref p) (upd H p (.tup []))
theorem op_rep1 : OpR X (binaryOp .Mult) (rRep1 X.K) := by
  intro pins s σ H x y v u Q I rx ry h
  obtain ⟨l, xs, rfl, rfl, hT, q⟩ := h
  cases rx
  obtain ⟨t, rfl⟩ := ry
  obtain ⟨its, r, ⟨⟨cls, dd, data, sl⟩, ho, hc, n, hd⟩, hs⟩ := I.tuple hT
  simp only at hc hd
  subst hc hd
  exact wpAny_binaryOp_repeat_ref (T := "tuple") (U := "int") (by decide) ⟨_, ho, rfl⟩ (fun s' => typeIs_int s' 1 t) noFill_tuple_mul F.fills_int_mul F.slot_int_rmul repeat_tuple F.slot_int_index.lookup
    (call_meets F.slot_int_rmul (typeIs_int s 1 t) F.entry_int_rmul (F.args_int_rmul_2 _ _) (int_rmul_tuple 1 t l its.toArray n dd sl)
      ⟨ho, rfl, ⟨_, ho, rfl⟩, call_meets F.slot_tuple_mul ⟨_, ho, rfl⟩ F.entry_tuple_mul (F.args_tuple_mul_2 _ _) (tuple_mul1 l its.toArray n sl dd t) ⟨ho, ⟨.ref l, H, I, rfl, q⟩⟩⟩)
theorem op_rep0 : OpR X (binaryOp .Mult) (rRep0 X.K) := by
  intro pins s σ H x y v u Q I rx ry h
  obtain ⟨l, k, xs, rfl, rfl, hT, hne, h1, h2, q⟩ := h
  cases rx
  obtain ⟨t, rfl⟩ := ry
  obtain ⟨its, r, ⟨⟨cls, dd, data, sl⟩, ho, hc, n, hd⟩, hs⟩ := I.tuple hT
  simp only at hc hd
  subst hc hd
  have hle : its.length = xs.length := r.length.symm
  have hn : its ≠ [] := fun e => hne (by
    rw [e] at hle
    exact List.eq_nil_of_length_eq_zero hle.symm)
  have hi : its.toArray.isEmpty = false := by
    cases its with
    | nil => exact absurd rfl hn
    | cons a b => rfl
  have c0 : (decide (k < -(2 ^ 63)) || decide (k ≥ 2 ^ 63)) = false := by
    rw [decide_eq_false (by omega), decide_eq_false (by omega)] <;> rfl
  have c1 : (its.toArray.isEmpty || k == 1) = false := by
    rw [hi, Bool.false_or]
    exact beq_eq_false_iff_ne.mpr (by omega)
  have c2 : (decide (k ≤ 0) || its.toArray.isEmpty) = true := by
    rw [decide_eq_true h1]; rfl
  refine wpAny_binaryOp_repeat_ref (T := "tuple") (U := "int") (by decide) ⟨_, ho, rfl⟩ (fun s' => typeIs_int s' k t) noFill_tuple_mul F.fills_int_mul F.slot_int_rmul repeat_tuple F.slot_int_index.lookup
    (call_meets F.slot_int_rmul (typeIs_int s k t) F.entry_int_rmul (F.args_int_rmul_2 _ _) (int_rmul_tuple k t l its.toArray n dd sl)
      ⟨ho, rfl, ⟨_, ho, rfl⟩, call_meets F.slot_tuple_mul ⟨_, ho, rfl⟩ F.entry_tuple_mul (F.args_tuple_mul_2 _ _) (tuple_mul0 l its.toArray n dd sl k t c0 c1 c2) ⟨ho, ?_⟩⟩)
  refine ⟨.ref s.heap.objs.size, _, I.laid (t' := s.toks) (o := .tup []) (fun b ob q => Heap.get?_push_of_some _ q) (Nat.le_refl _) ?_, rfl, q _ (I.hok.fresh (Nat.le_refl _))⟩
  exact ⟨by simp, _, .nil, IsTup.new _ _⟩
end
end TL

set_option Elab.async false
set_option linter.all false
set_option maxRecDepth 100000
set_option maxHeartbeats 2000000
set_option autoImplicit false
/-! TL1D: a text beside an empty dict, by ==. -/
namespace TL
open PySem PySem.Spec PySem.SeqAt PyProof.Rows L2
theorem str_eq_declines_dic (b : Str) (u : Tok) (l : Addr) (es : Array DictEntry) (n : Nat) (dd : Option Addr) (sl : Array (Option Value)) :
    Meets (Builtin.«str.__eq__» ⟨[.str b u, .ref l], []⟩) (fun _ R s => s.heap.get? l = some { cls := .type "dict", dict := dd, data := .dict es n, slots := sl } ∧ R (.ok (.ret .notImplemented)) s) :=
  .of_wp fun prog w A R s h => by obtain ⟨hp, g, d, tk, os⟩ := s; obtain ⟨hl, h⟩ := h; wp_walk using wpAny_loadPart' hl, wpAny_load hl; exact ⟨_, rfl, h⟩
theorem dic_eq_declines_str (b : Str) (u : Tok) (l : Addr) (es : Array DictEntry) (n : Nat) (dd : Option Addr) (sl : Array (Option Value)) :
    Meets (Builtin.«dict.__eq__» ⟨[.ref l, .str b u], []⟩) (fun _ R s => s.heap.get? l = some { cls := .type "dict", dict := dd, data := .dict es n, slots := sl } ∧ R (.ok (.ret .notImplemented)) s) :=
  .of_wp fun prog w A R s h => by
    obtain ⟨hp, g, d, tk, os⟩ := s; obtain ⟨hl, h⟩ := h
    have f1 := F.sub_str_dict
    show wpAny _ _ (Builtin.Dict.dictSlotArgs "__eq__" ⟨[.ref l, .str b u], []⟩ >>= _) _ _ _
    refine wpAny_bind ?_
    unfold Builtin.Dict.dictSlotArgs
    refine wpAny_bind (wpAny_notOrdered_dict ⟨_, hl, rfl⟩ ?_)
    show wpAny _ _ (pure (Value.ref l, Value.str b u)) _ _ _
    refine wpAny_pure ?_
    refine wpAny_bind (wpAny_isInstance (T := "str") (typeIs_str _ b u) PySem.F.sub_str_dict ?_)
    wp_walk
    exact ⟨_, rfl, h⟩
section
variable {A : Around} {s : Shared}
theorem rcStrDic {l : Addr} {o : Obj} {es : Array DictEntry} {n : Nat} (b : Str) (u : Tok) (ho : s.heap.get? l = some o) (hc : o.cls = .type "dict") (hd : o.data = .dict es n) (hu : A.units < cLine) : RcAt A s (.str b u) (.ref l) false := fun prog w E Q h => by
  obtain ⟨cls, dd, data, sl⟩ := o
  simp only at hc hd
  subst hc hd
  exact rc_eq_decline_or (k := false) (typeIs_str s b u) ⟨_, ho, rfl⟩ (by decide) F.sub_dict_str F.slot_str_eq F.slot_dict_eq_refl
    (fun _ hq => call_meets F.slot_str_eq (typeIs_str s b u) F.entry_str_eq (F.args_str_eq_2 _ _) (str_eq_declines_dic b u l es n dd sl) ⟨ho, hq⟩)
    (fun _ hq => call_meets F.slot_dict_eq_refl ⟨_, ho, rfl⟩ F.entry_dict_eq (F.args_dict_eq_2 _ _) (dic_eq_declines_str b u l es n dd sl) ⟨ho, hq⟩)
    (fun _ hq => wpAny_of_eq (rfl : isSame (.str b u) (.ref l) = pure false) hq) (.inr hu) h
theorem eqStrDic {l : Addr} {o : Obj} {es : Array DictEntry} {n : Nat} (b : Str) (u : Tok) (ho : s.heap.get? l = some o) (hc : o.cls = .type "dict") (hd : o.data = .dict es n) (hu : A.units < cLine) : EqAt A s (.str b u) (.ref l) false := fun prog w E Q h => by
  unfold eqBool
  refine wpAny_holding ?_
  refine wpAny_ite_split (fun hab => absurd (eq_of_beq hab) nofun) (fun _ => ?_)
  exact wpAny_bind (rcStrDic b u ho hc hd hu prog w E _ (wpAny_truthy_bool h))
end
end TL

set_option Elab.async false
set_option linter.all false
set_option maxRecDepth 100000
set_option maxHeartbeats 2000000
set_option autoImplicit false
/-! TL2: the operators, subscripts, built-ins, on trees. -/
namespace TL
open PySem PySem.Spec PyProof.Rows L2

/-! ### what they do -/
/-- * of two factors of together less than some 2 ^ 27 bits -/
structure CMulW (i j : Int) : Prop where
  ok : IntMulOk i j
theorem CMulW.lg {i j : Int} (h3 : i.natAbs.log2 + j.natAbs.log2 < 134217000) : CMulW i j := by
  have b : ∀ x : Int, Builtin.Int.intBits x ≤ x.natAbs.log2 + 1 := fun x => by
    unfold Builtin.Int.intBits
    split <;> omega
  have h1 := b i
  have h2 := b j
  have e : bitsLine = 134217728 := by decide
  refine ⟨?_⟩
  unfold IntMulOk
  intro z
  rw [Bool.and_eq_true] at z
  have z2 := z.2
  unfold Builtin.Int.intTooBig at z2
  have z3 := of_decide_eq_true z2
  rw [e] at z3
  omega
theorem op_mulX {X : Cx} : OpR X (binaryOp .Mult) (rI CMulW fun i j => .int (i * j)) := opI fun _ _ _ _ _ _ _ hc q => mul_int q hc.ok
def addR (mu : Bool) (x y : T) (S : SS) (Q : KQ) : Prop :=
  match x, y with
  | .int i, .int j => Q (.int (i + j)) S
  | .str a, .str b => a.length + b.length ≤ sizeLine ∧ Q (.str (a ++ b)) S
  | .tup a, .tup b => a.length + b.length ≤ sizeLine ∧ Q (.tup (a ++ b)) S
  | x, y => match lsOf S x, lsOf S y with
    | some a, some b => a.length + b.length ≤ sizeLine ∧ newL mu (a ++ b) S Q
    | _, _ => False
def subR (x y : T) (S : SS) (Q : KQ) : Prop :=
  match x, y with
  | .int i, .int j => Q (.int (i - j)) S
  | _, _ => False
def mulR (mu : Bool) (x y : T) (S : SS) (Q : KQ) : Prop :=
  match x, y with
  | .int i, .int j => CMulW i j ∧ Q (.int (i * j)) S
  | .tup a, .int k => (a ≠ [] ∧ -1000 ≤ k ∧ k ≤ 1000 ∧ a.length ≤ 1000) ∧ Q (.tup (List.replicate k.toNat a).flatten) S
  | .lst a, .int k => (-(2 ^ 63) ≤ k ∧ k < 2 ^ 63 ∧ a.length * k.toNat ≤ sizeLine) ∧ newL mu (List.replicate k.toNat a).flatten S Q
  | .ref p, .int k => (match S p with
    | some (.lst a) => (-(2 ^ 63) ≤ k ∧ k < 2 ^ 63 ∧ a.length * k.toNat ≤ sizeLine) ∧ newL mu (List.replicate k.toNat a).flatten S Q
    | _ => False)
  | .str a, .int k => PySem.MulOk a k ∧ Q (.str (Txt.mul a k)) S
  | _, _ => False
structure CDivA (j : Int) : Prop where
  ne : j ≠ 0
def fdivR (x y : T) (S : SS) (Q : KQ) : Prop :=
  match x, y with
  | .int i, .int j => CDivA j ∧ Q (.int (i.fdiv j)) S
  | _, _ => False
def modR (x y : T) (S : SS) (Q : KQ) : Prop :=
  match x, y with
  | .int i, .int j => j ≠ 0 ∧ Q (.int (i.fmod j)) S
  | _, _ => False
def powR (x y : T) (S : SS) (Q : KQ) : Prop :=
  match x, y with
  | .int i, .int j => CPow i j ∧ Q (.int (i ^ j.toNat)) S
  | _, _ => False
def shlR (x y : T) (S : SS) (Q : KQ) : Prop :=
  match x, y with
  | .int i, .int j => CPow i j ∧ Q (.int (i * 2 ^ j.toNat)) S
  | _, _ => False
def binR (mu : Bool) : Operator → T → T → SS → KQ → Prop
  | .Add => addR mu
  | .Sub => subR
  | .Mult => mulR mu
  | .FloorDiv => fdivR
  | .Mod => modR
  | .Pow => powR
  | .LShift => shlR
  | _ => fun _ _ _ _ => False
def cmpI (p : Int → Int → Bool) (x y : T) (S : SS) (Q : KQ) : Prop :=
  match x, y with
  | .int i, .int j => Q (.bl (p i j)) S
  | _, _ => False
def leR (x y : T) (S : SS) (Q : KQ) : Prop :=
  match x, y with
  | .int i, .int j => Q (.bl (decide (i ≤ j))) S
  | .str a, .str b => Q (.bl (!decide (b.cps.toList < a.cps.toList))) S
  | _, _ => False
def T.eqv (x y : T) : Bool := PyData.eqv x.toD y.toD
def eqR (neg : Bool) (x y : T) (S : SS) (Q : KQ) : Prop :=
  (deref S x).shp 60 = true ∧ (deref S y).shp 60 = true ∧ Q (.bl (neg ^^ (deref S x).eqv (deref S y))) S
def T.isStr : T → Bool
  | .str _ => true
  | _ => false
def inR (neg : Bool) (x y : T) (S : SS) (Q : KQ) : Prop :=
  match x, y with
  | .str a, .str b => Q (.bl (neg ^^ !(Builtin.Str.occurrences b a 0 b.length 1).isEmpty)) S
  | .dic, y => match sqOf S y with
    | some l => (l.all T.isStr) = true ∧ Q (.bl neg) S
    | none => False
  | x, y => match sqOf S y with
    | some l => (deref S x).shp 59 = true ∧ T.shps 59 l = true ∧ Q (.bl (neg ^^ l.any fun z => z.eqv (deref S x))) S
    | none => False
def T.isNon : T → Bool
  | .non => true
  | _ => false
def isR (neg : Bool) (x y : T) (S : SS) (Q : KQ) : Prop :=
  match x, y with
  | x, .non => Q (.bl (neg ^^ x.isNon)) S
  | .bl a, .bl b => Q (.bl (neg ^^ (a == b))) S
  | _, _ => False
def cmpR : CmpOp → T → T → SS → KQ → Prop
  | .Lt => cmpI fun i j => decide (i < j)
  | .LtE => leR
  | .Gt => cmpI fun i j => decide (j < i)
  | .GtE => cmpI fun i j => decide (j ≤ i)
  | .Eq => eqR false
  | .NotEq => eqR true
  | .In => inR false
  | .NotIn => inR true
  | .Is => isR false
  | .IsNot => isR true

section
variable {c : Ct} {X : Cx} {pins : List (Addr × Obj)} {σ : St} {H : Hp} {s : Shared} {F : FF} {S : SS}

theorem op_fdivA (sv : Sv c X) : OpR X (binaryOp .FloorDiv) (rI (fun _ j => CDivA j) fun i j => .int (i.fdiv j)) := by
  intro pins s σ H x y v u Q I rx ry h
  obtain ⟨i, j, rfl, rfl, hc, q⟩ := h
  obtain ⟨t, rfl⟩ := rx
  obtain ⟨t', rfl⟩ := ry
  exact floordiv_int hc.ne ⟨.int (i.fdiv j), H, I.tok _, ⟨_, rfl⟩, q⟩ (.inr (sv.py X.A rfl rfl s I.bk))
/-- a list times an int -/
theorem op_repL (sv : Sv c X) : OpR X (binaryOp .Mult) (fun x y H Q => ∃ l k xs, x = .ref l ∧ y = .int k ∧ RdL c.K H l xs ∧ -(2 ^ 63) ≤ k ∧ k < 2 ^ 63 ∧ xs.length * k.toNat ≤ sizeLine ∧
  ∀ p, H p = none → Q (.ref p) (upd H p (.lst (List.replicate k.toNat xs).flatten))) := by
  intro pins s σ H x y v u Q I rx ry h
  obtain ⟨l, k, xs, rfl, rfl, hH, h1, h2, hz, q⟩ := h
  cases rx
  obtain ⟨t, rfl⟩ := ry
  obtain ⟨z, its, n, r, e⟩ := hH.ok sv I
  have hl := r.length
  have hlen : its.toArray.size * k.toNat ≤ sizeLine := by rw [List.size_toArray, ← hl]; exact hz
  have hcap : ¬ its.toArray.size * k.toNat > (2 ^ 63 - 1) / 8 := by
    have : (sizeLine : Nat) ≤ (2 ^ 63 - 1) / 8 := by decide
    omega
  have hfit : ¬ (!Builtin.List.listFitsIndex k) = true := by
    rw [fitsIndex_both h1 h2]
    exact Bool.false_ne_true
  have hlong : ¬ Builtin.List.listTooLong (its.toArray.size * k.toNat) = true := by
    rw [notLongL hlen]
    exact Bool.false_ne_true
  have hnew : List.foldl (fun x1 x2 => x1 ++ x2) #[] (List.replicate (if its.toArray.isEmpty = true then 0 else k.toNat) its.toArray) = (List.replicate k.toNat its).flatten.toArray := by
    have f0 : ∀ m : Nat, List.foldl (fun x1 x2 => x1 ++ x2) #[] (List.replicate m its.toArray) = (List.replicate m its).flatten.toArray := fun m => by
      have := foldl_rep its m []
      rw [List.nil_append] at this
      exact this
    rw [f0]
    cases its with
    | nil => simp
    | cons a r' => rw [if_neg (by simp)]
  refine wpAny_binaryOp_repeat_ref (T := "list") (U := "int") (by decide) ⟨_, e, rfl⟩ (fun s' => typeIs_int s' k t) noFill_list_mul PySem.F.fills_int_mul PySem.F.slot_int_rmul repeat_list PySem.F.slot_int_index.lookup
    (call_meets PySem.F.slot_int_rmul (typeIs_int s k t) PySem.F.entry_int_rmul (PySem.F.args_int_rmul_2 _ _) (int___rmul___int_list k t l its.toArray n)
      ⟨e, rfl, ⟨_, e, rfl⟩, call_meets PySem.F.slot_list_mul ⟨_, e, rfl⟩ PySem.F.entry_list_mul (PySem.F.args_list_mul_2 _ _) (AutoListH.list___mul___list_int_3 l its.toArray n k t hfit hcap hlong) ⟨e, ?_⟩⟩)
  rw [hnew]
  exact ⟨.ref _, _, I.lnew (t' := s.toks) (r.rep k.toNat) (by rw [PyProof.Rows.lm_len_rep_flat, Nat.mul_comm]; exact hz), rfl, q _ I.fresh⟩

theorem ok_int {f : Value → Value → Sem Value} {C : Int → Int → Prop} {g : Int → Int → V} {g' : Int → Int → T} {r : T → T → SS → KQ → Prop} (ho : OpR X f (rI C g)) (hg : ∀ F i j, TR c F (g' i j) (g i j))
    (h : ∀ t1 t2 S Q, r t1 t2 S Q → ∃ i j, t1 = .int i ∧ t2 = .int j ∧ C i j ∧ Q (g' i j) S) : BinOk c X f r := by
  refine BinOk.of ho fun pins s σ H F S x y t1 t2 Q I hr tx ty q => ?_
  obtain ⟨i, j, e1, e2, hc, q'⟩ := h _ _ _ _ q
  subst e1 e2
  exact ⟨i, j, tx.intI, ty.intI, hc, fin0 hr (hg F i j) q'⟩
theorem ok_int0 {f : Value → Value → Sem Value} {g : Int → Int → V} {g' : Int → Int → T} {r : T → T → SS → KQ → Prop} (ho : OpR X f (rI0 g)) (hg : ∀ F i j, TR c F (g' i j) (g i j))
    (h : ∀ t1 t2 S Q, r t1 t2 S Q → ∃ i j, t1 = .int i ∧ t2 = .int j ∧ Q (g' i j) S) : BinOk c X f r := by
  refine BinOk.of ho fun pins s σ H F S x y t1 t2 Q I hr tx ty q => ?_
  obtain ⟨i, j, e1, e2, q'⟩ := h _ _ _ _ q
  subst e1 e2
  exact ⟨i, j, tx.intI, ty.intI, fin0 hr (hg F i j) q'⟩

theorem ok_addI : BinOk c X (binaryOp .Add) (fun x y S Q => ∃ i j, x = .int i ∧ y = .int j ∧ Q (.int (i + j)) S) := ok_int0 op_add (fun F i j => .int _) fun _ _ _ _ h => h
theorem ok_addS : BinOk c X (binaryOp .Add) (fun x y S Q => ∃ a b, x = .str a ∧ y = .str b ∧ a.length + b.length ≤ sizeLine ∧ Q (.str (a ++ b)) S) := by
  refine BinOk.of op_add_str fun pins s σ H F S x y t1 t2 Q I hr tx ty q => ?_
  obtain ⟨a, b, rfl, rfl, hz, q⟩ := q
  exact ⟨a, b, tx.strI, ty.strI, hz, fin0 hr (.str _) q⟩
theorem ok_addT (sv : Sv c X) : BinOk c X (binaryOp .Add) (fun x y S Q => ∃ a b, x = .tup a ∧ y = .tup b ∧ a.length + b.length ≤ sizeLine ∧ Q (.tup (a ++ b)) S) := by
  refine BinOk.of op_catA fun pins s σ H F S x y t1 t2 Q I hr tx ty q => ?_
  obtain ⟨a, b, rfl, rfl, hz, q⟩ := q
  obtain ⟨p1, vs1, rfl, q1, r1⟩ := TR.tupI sv hr tx
  obtain ⟨p2, vs2, rfl, q2, r2⟩ := TR.tupI sv hr ty
  have l1 := r1.length
  have l2 := r2.length
  refine ⟨p1, p2, vs1, vs2, rfl, rfl, q1, q2, by omega, fun e => ?_, fun _ e => ?_, fun _ _ => finT sv hr (r1.append r2) q⟩
  · subst e
    have ea : a = [] := List.eq_nil_of_length_eq_zero l1
    subst ea
    exact fin0 hr ty q
  · subst e
    have eb : b = [] := List.eq_nil_of_length_eq_zero l2
    subst eb
    rw [List.append_nil] at q
    exact fin0 hr tx q
theorem ok_addL (sv : Sv c X) (mu : Bool) : BinOk c X (binaryOp .Add) (fun x y S Q => ∃ a b, lsOf S x = some a ∧ lsOf S y = some b ∧ a.length + b.length ≤ sizeLine ∧ newL mu (a ++ b) S Q) := by
  refine BinOk.of (op_catL sv) fun pins s σ H F S x y t1 t2 Q I hr tx ty q => ?_
  obtain ⟨a, b, e1, e2, hz, q⟩ := q
  obtain ⟨p1, vs1, rfl, q1, r1⟩ := lsOfI sv hr tx e1
  obtain ⟨p2, vs2, rfl, q2, r2⟩ := lsOfI sv hr ty e2
  have l1 := r1.length
  have l2 := r2.length
  exact ⟨p1, p2, vs1, vs2, rfl, rfl, q1, q2, by omega, finL sv hr (r1.append r2) q⟩
theorem addR_ways {mu : Bool} {x y : T} {S : SS} {Q : KQ} (h : addR mu x y S Q) : (∃ i j, x = .int i ∧ y = .int j ∧ Q (.int (i + j)) S) ∨ (∃ a b, x = .str a ∧ y = .str b ∧ a.length + b.length ≤ sizeLine ∧ Q (.str (a ++ b)) S) ∨
    (∃ a b, x = .tup a ∧ y = .tup b ∧ a.length + b.length ≤ sizeLine ∧ Q (.tup (a ++ b)) S) ∨ (∃ a b, lsOf S x = some a ∧ lsOf S y = some b ∧ a.length + b.length ≤ sizeLine ∧ newL mu (a ++ b) S Q) := by
  unfold addR at h
  split at h
  · exact .inl ⟨_, _, rfl, rfl, h⟩
  · exact .inr (.inl ⟨_, _, rfl, rfl, h⟩)
  · exact .inr (.inr (.inl ⟨_, _, rfl, rfl, h⟩))
  · split at h
    · rename_i e1 e2
      exact .inr (.inr (.inr ⟨_, _, e1, e2, h⟩))
    · exact h.elim
theorem ok_add (sv : Sv c X) (mu : Bool) : BinOk c X (binaryOp .Add) (addR mu) :=
  BinOk.or ok_addI (BinOk.or ok_addS (BinOk.or (ok_addT sv) (ok_addL sv mu) (fun _ _ _ _ h => h)) (fun _ _ _ _ h => h)) fun _ _ _ _ h => addR_ways h
theorem ok_mulI : BinOk c X (binaryOp .Mult) (fun x y S Q => ∃ i j, x = .int i ∧ y = .int j ∧ CMulW i j ∧ Q (.int (i * j)) S) := ok_int op_mulX (fun F i j => .int _) fun _ _ _ _ h => h
theorem TRs.nil_iff {ts : List T} {vs : List V} (r : TRs c F ts vs) : ts = [] ↔ vs = [] := by
  have := r.length
  constructor
  · intro e; subst e; exact List.eq_nil_of_length_eq_zero this.symm
  · intro e; subst e; exact List.eq_nil_of_length_eq_zero this
theorem ok_mulT2 (sv : Sv c X) : BinOk c X (binaryOp .Mult) (fun x y S Q => ∃ a k, x = .tup a ∧ y = .int k ∧ (a ≠ [] ∧ 2 ≤ k ∧ k ≤ 1000 ∧ a.length ≤ 1000) ∧ Q (.tup (List.replicate k.toNat a).flatten) S) := by
  refine BinOk.of op_repT fun pins s σ H F S x y t1 t2 Q I hr tx ty q => ?_
  obtain ⟨a, k, rfl, rfl, ⟨h1, h2, h3, h4⟩, q⟩ := q
  obtain ⟨p1, vs1, rfl, q1, r1⟩ := TR.tupI sv hr tx
  have l1 := r1.length
  exact ⟨p1, k, vs1, rfl, ty.intI, q1, fun e => h1 (r1.nil_iff.mpr e), h2, h3, by omega, finT sv hr (r1.flat _) q⟩
theorem ok_mulT1 (sv : Sv c X) : BinOk c X (binaryOp .Mult) (fun x y S Q => ∃ a, x = .tup a ∧ y = .int 1 ∧ Q (.tup a) S) := by
  refine BinOk.of op_rep1 fun pins s σ H F S x y t1 t2 Q I hr tx ty q => ?_
  obtain ⟨a, rfl, rfl, q⟩ := q
  obtain ⟨p1, vs1, rfl, q1, r1⟩ := TR.tupI sv hr tx
  exact ⟨p1, vs1, rfl, ty.intI, q1, fin0 hr tx q⟩
theorem ok_mulT0 (sv : Sv c X) : BinOk c X (binaryOp .Mult) (fun x y S Q => ∃ a k, x = .tup a ∧ y = .int k ∧ (a ≠ [] ∧ k ≤ 0 ∧ -1000 ≤ k) ∧ Q (.tup []) S) := by
  refine BinOk.of op_rep0 fun pins s σ H F S x y t1 t2 Q I hr tx ty q => ?_
  obtain ⟨a, k, rfl, rfl, ⟨h1, h2, h3⟩, q⟩ := q
  obtain ⟨p1, vs1, rfl, q1, r1⟩ := TR.tupI sv hr tx
  exact ⟨p1, k, vs1, rfl, ty.intI, q1, fun e => h1 (r1.nil_iff.mpr e), h2, h3, finT sv hr .nil q⟩
theorem ok_mulT (sv : Sv c X) : BinOk c X (binaryOp .Mult) (fun x y S Q => ∃ a k, x = .tup a ∧ y = .int k ∧ (a ≠ [] ∧ -1000 ≤ k ∧ k ≤ 1000 ∧ a.length ≤ 1000) ∧ Q (.tup (List.replicate k.toNat a).flatten) S) := by
  refine BinOk.or (ok_mulT2 sv) (BinOk.or (ok_mulT1 sv) (ok_mulT0 sv) (fun _ _ _ _ h => h)) fun x y S Q h => ?_
  obtain ⟨a, k, rfl, rfl, ⟨h1, h2, h3, h4⟩, q⟩ := h
  by_cases c1 : 2 ≤ k
  · exact .inl ⟨a, k, rfl, rfl, ⟨h1, c1, h3, h4⟩, q⟩
  · by_cases c2 : k = 1
    · subst c2
      refine .inr (.inl ⟨a, rfl, rfl, ?_⟩)
      have e : (List.replicate (1 : Int).toNat a).flatten = a := by simp
      rwa [e] at q
    · refine .inr (.inr ⟨a, k, rfl, rfl, ⟨h1, by omega, h2⟩, ?_⟩)
      have e : k.toNat = 0 := by omega
      rw [e] at q
      simpa using q
theorem ok_mulL (sv : Sv c X) (mu : Bool) : BinOk c X (binaryOp .Mult) (fun x y S Q => ∃ a k, lsOf S x = some a ∧ y = .int k ∧ (-(2 ^ 63) ≤ k ∧ k < 2 ^ 63 ∧ a.length * k.toNat ≤ sizeLine) ∧ newL mu (List.replicate k.toNat a).flatten S Q) := by
  refine BinOk.of (op_repL sv) fun pins s σ H F S x y t1 t2 Q I hr tx ty q => ?_
  obtain ⟨a, k, e, rfl, ⟨h1, h2, h3⟩, q⟩ := q
  obtain ⟨p1, vs1, rfl, q1, r1⟩ := lsOfI sv hr tx e
  have l1 := r1.length
  exact ⟨p1, k, vs1, rfl, ty.intI, q1, h1, h2, by rw [← l1]; exact h3, finL sv hr (r1.flat _) q⟩
theorem op_mul_str : OpR X (binaryOp .Mult) (fun x y H Q => ∃ z n, x = .str z ∧ y = .int n ∧ PySem.MulOk z n ∧ Q (.str (Txt.mul z n)) H) := by
  intro pins s σ H x y v u Q I rx ry h
  obtain ⟨z, n, rfl, rfl, hok, q⟩ := h
  obtain ⟨t, rfl⟩ := rx
  obtain ⟨t', rfl⟩ := ry
  exact PySem.SB.mul hok fun t' k => ⟨.str (Txt.mul z n), H, I.tok k, ⟨_, rfl⟩, q⟩
theorem ok_mulS : BinOk c X (binaryOp .Mult) (fun x y S Q => ∃ z n, x = .str z ∧ y = .int n ∧ PySem.MulOk z n ∧ Q (.str (Txt.mul z n)) S) := by
  refine BinOk.of op_mul_str fun pins s σ H F S x y t1 t2 Q I hr tx ty q => ?_
  obtain ⟨z, n, rfl, rfl, hok, q⟩ := q
  exact ⟨z, n, tx.strI, ty.intI, hok, fin0 hr (.str _) q⟩
theorem ok_mul (sv : Sv c X) (mu : Bool) : BinOk c X (binaryOp .Mult) (mulR mu) := by
  refine BinOk.or ok_mulI (BinOk.or (ok_mulT sv) (BinOk.or (ok_mulL sv mu) ok_mulS (fun _ _ _ _ h => h)) (fun _ _ _ _ h => h)) fun x y S Q h => ?_
  unfold mulR at h
  split at h
  · exact .inl ⟨_, _, rfl, rfl, h⟩
  · exact .inr (.inl ⟨_, _, rfl, rfl, h⟩)
  · exact .inr (.inr (.inl ⟨_, _, rfl, rfl, h⟩))
  · split at h
    · rename_i e
      exact .inr (.inr (.inl ⟨_, _, by simp only [lsOf, e], rfl, h⟩))
    · exact h.elim
  · exact .inr (.inr (.inr ⟨_, _, rfl, rfl, h⟩))
  · exact h.elim
theorem two_int {r : T → T → SS → KQ → Prop} {k : Int → Int → SS → KQ → Prop} (h : ∀ x y S Q, r x y S Q = match x, y with
    | .int i, .int j => k i j S Q
    | _, _ => False) : ∀ x y S Q, r x y S Q → ∃ i j, x = .int i ∧ y = .int j ∧ k i j S Q := by
  intro x y S Q q
  rw [h] at q
  split at q
  · exact ⟨_, _, rfl, rfl, q⟩
  · exact q.elim
theorem ok_bin (sv : Sv c X) (mu : Bool) (op : Operator) : BinOk c X (binaryOp op) (binR mu op) := by
  cases op with
  | Add => exact ok_add sv mu
  | Mult => exact ok_mul sv mu
  | Sub => exact ok_int0 (g' := fun i j => .int (i - j)) op_sub (fun F i j => .int _) (two_int (r := subR) (k := fun i j S Q => Q (.int (i - j)) S) fun _ _ _ _ => rfl)
  | FloorDiv => exact ok_int (g' := fun i j => .int (i.fdiv j)) (op_fdivA sv) (fun F i j => .int _) (two_int (r := fdivR) (k := fun i j S Q => CDivA j ∧ Q (.int (i.fdiv j)) S) fun _ _ _ _ => rfl)
  | Mod => exact ok_int (g' := fun i j => .int (i.fmod j)) op_modN (fun F i j => .int _) (two_int (r := modR) (k := fun i j S Q => j ≠ 0 ∧ Q (.int (i.fmod j)) S) fun _ _ _ _ => rfl)
  | Pow => exact ok_int (g' := fun i j => .int (i ^ j.toNat)) op_pow (fun F i j => .int _) (two_int (r := powR) (k := fun i j S Q => CPow i j ∧ Q (.int (i ^ j.toNat)) S) fun _ _ _ _ => rfl)
  | LShift => exact ok_int (g' := fun i j => .int (i * 2 ^ j.toNat)) op_shl (fun F i j => .int _) (two_int (r := shlR) (k := fun i j S Q => CPow i j ∧ Q (.int (i * 2 ^ j.toNat)) S) fun _ _ _ _ => rfl)
  | _ => intro pins s σ H F S x y v u t1 t2 Q I hr rx ry tx ty h; exact False.elim h

/-! ### comparisons -/
theorem ok_cmpI {f : Value → Value → Sem Value} {p : Int → Int → Bool} (ho : OpR X f (rI0 fun i j => .bl (p i j))) : BinOk c X f (cmpI p) := ok_int0 (g' := fun i j => .bl (p i j)) ho (fun F i j => .bl _) (two_int (r := cmpI p) (k := fun i j S Q => Q (.bl (p i j)) S) fun _ _ _ _ => rfl)
theorem ok_leS : BinOk c X (compareOp .LtE) (fun x y S Q => ∃ a b, x = .str a ∧ y = .str b ∧ Q (.bl (!decide (b.cps.toList < a.cps.toList))) S) := by
  refine BinOk.of op_le_str fun pins s σ H F S x y t1 t2 Q I hr tx ty q => ?_
  obtain ⟨a, b, rfl, rfl, q⟩ := q
  exact ⟨a, b, tx.strI, ty.strI, fin0 hr (.bl _) q⟩
theorem ok_leR : BinOk c X (compareOp .LtE) leR := by
  refine BinOk.or (ok_cmpI op_le) ok_leS fun x y S Q h => ?_
  unfold leR at h
  split at h
  · exact .inl h
  · exact .inr ⟨_, _, rfl, rfl, h⟩
  · exact h.elim
theorem ok_eq (sv : Sv c X) (hu : X.A.units + 64 < cLine) : BinOk c X (compareOp .Eq) (eqR false) := by
  refine BinOk.of (op_eqD hu) fun pins s σ H F S x y t1 t2 Q I hr tx ty q => ?_
  obtain ⟨h1, h2, q⟩ := q
  exact ⟨_, _, deref_dp sv hr tx (T.plain_of _ _ h1), deref_dp sv hr ty (T.plain_of _ _ h2), T.shp_shaped h1, T.shp_shaped h2, fin0 hr (.bl _) (by simpa [T.eqv] using q)⟩
theorem ok_ne (sv : Sv c X) (hu : X.A.units + 64 < cLine) : BinOk c X (compareOp .NotEq) (eqR true) := by
  refine BinOk.of (op_neD hu) fun pins s σ H F S x y t1 t2 Q I hr tx ty q => ?_
  obtain ⟨h1, h2, q⟩ := q
  exact ⟨_, _, deref_dp sv hr tx (T.plain_of _ _ h1), deref_dp sv hr ty (T.plain_of _ _ h2), T.shp_shaped h1, T.shp_shaped h2, fin0 hr (.bl _) (by simpa [T.eqv] using q)⟩
/-- in a list, in a tuple -/
def rInA (K : PySem.W.Frag) (neg : Bool) : R2 := fun x y H Q => ∃ d ds, Dp K H x d ∧ (Dp K H y (.list ds) ∨ Dp K H y (.tuple ds)) ∧ SeqAt.shaped d = true ∧ SeqAt.shaped (.list ds) = true ∧ Q (.bl (neg ^^ ds.any fun z => PyData.eqv z d)) H
theorem op_inA (hu : X.A.units + 65 < cLine) : OpR X (compareOp .In) (rInA X.K false) := by
  intro pins s σ H x y v u Q I rx ry h
  obtain ⟨d, ds, hd, he, sd, se, q⟩ := h
  obtain ⟨as, r1⟩ := Dp.reads I d x v hd rx
  rcases he with he | he
  · obtain ⟨bs, r2⟩ := Dp.reads I (.list ds) y u he ry
    exact SeqAt.in_list_reads r2 r1 (SeqAt.canLay_of_shaped se) (SeqAt.canLay_of_shaped sd) (room_in_shaped sd hu) ⟨.bl _, H, I, rfl, by simpa using q⟩
  · obtain ⟨bs, r2⟩ := Dp.reads I (.tuple ds) y u he ry
    exact SeqAt.in_tuple_reads r2 r1 (SeqAt.canLay_of_shaped se) (SeqAt.canLay_of_shaped sd) (room_in_shaped sd hu) ⟨.bl _, H, I, rfl, by simpa using q⟩
theorem op_notInA (hu : X.A.units + 65 < cLine) : OpR X (compareOp .NotIn) (rInA X.K true) := by
  intro pins s σ H x y v u Q I rx ry h
  obtain ⟨d, ds, hd, he, sd, se, q⟩ := h
  obtain ⟨as, r1⟩ := Dp.reads I d x v hd rx
  rcases he with he | he
  · obtain ⟨bs, r2⟩ := Dp.reads I (.list ds) y u he ry
    exact SeqAt.notIn_list_reads r2 r1 (SeqAt.canLay_of_shaped se) (SeqAt.canLay_of_shaped sd) (room_in_shaped sd hu) ⟨.bl _, H, I, rfl, by simpa using q⟩
  · obtain ⟨bs, r2⟩ := Dp.reads I (.tuple ds) y u he ry
    exact SeqAt.notIn_tuple_reads r2 r1 (SeqAt.canLay_of_shaped se) (SeqAt.canLay_of_shaped sd) (room_in_shaped sd hu) ⟨.bl _, H, I, rfl, by simpa using q⟩
theorem any_toDs (d : PyData) : ∀ l : List T, ((T.toDs l).any fun z => PyData.eqv z d) = l.any fun z => PyData.eqv z.toD d
  | [] => rfl
  | t :: ts => by simp only [T.toDs, List.any_cons, any_toDs d ts]
mutual
theorem T.shp_mono : ∀ (n m : Nat) (t : T), n ≤ m → t.shp n = true → t.shp m = true
  | _, _, .non, _, _ => by unfold T.shp; rfl
  | _, _, .bl _, _, _ => by unfold T.shp; rfl
  | _, _, .int _, _, _ => by unfold T.shp; rfl
  | n, m, .str x, _, h => by unfold T.shp at h ⊢; exact h
  | n + 1, m, .tup l, hm, h => by
    obtain ⟨k, rfl⟩ : ∃ k, m = k + 1 := ⟨m - 1, by omega⟩
    simp only [T.shp] at h ⊢
    exact T.shps_mono n k l (by omega) h
  | n + 1, m, .lst l, hm, h => by
    obtain ⟨k, rfl⟩ : ∃ k, m = k + 1 := ⟨m - 1, by omega⟩
    simp only [T.shp] at h ⊢
    exact T.shps_mono n k l (by omega) h
  | 0, _, .tup _, _, h => by simp [T.shp] at h
  | 0, _, .lst _, _, h => by simp [T.shp] at h
  | _, _, .ref _, _, h => by simp [T.shp] at h
  | _, _, .dic, _, h => by simp [T.shp] at h
  | _, _, .exc _ _, _, h => by simp [T.shp] at h
  | _, _, .ty _, _, h => by simp [T.shp] at h
  | _, _, .cls _, _, h => by simp [T.shp] at h
theorem T.shps_mono : ∀ (n m : Nat) (ts : List T), n ≤ m → T.shps n ts = true → T.shps m ts = true
  | _, _, [], _, _ => by unfold T.shps; rfl
  | n, m, t :: ts, hm, h => by
    simp only [T.shps, Bool.and_eq_true] at h ⊢
    exact ⟨T.shp_mono n m t hm h.1, T.shps_mono n m ts hm h.2⟩
end
theorem sq_dp (sv : Sv c X) (hr : HRel c F S H) {t : T} {l : List T} {v : V} (h : TR c F t v) (e : sqOf S t = some l) (hp : T.plains l = true) : Dp X.K H v (.list (T.toDs l)) ∨ Dp X.K H v (.tuple (T.toDs l)) := by
  obtain ⟨a, vs, rfl, q | q, r⟩ := sqOfI sv hr h e
  · exact .inl (.lst q (TRs.dp sv hr r hp))
  · exact .inr (.tup q (TRs.dp sv hr r hp))
/-- an empty dict in a row of texts -/
def rInD (K : PySem.W.Frag) (neg : Bool) : R2 := fun x y H Q => ∃ a b vs, x = .ref a ∧ H a = some (.dK []) ∧ y = .ref b ∧ (SqL K H b vs ∨ SqT K H b vs) ∧ (∀ v ∈ vs, ∃ z, v = .str z) ∧ Q (.bl neg) H
theorem vals_strs : ∀ {vs : List V} {us : List Value}, Vals vs us → (∀ v ∈ vs, ∃ z, v = .str z) → ∀ u ∈ us, ∃ z t, u = .str z t
  | [], _, r, _ => by cases r; intro u hu; cases hu
  | v :: vs, _, r, h => by
    cases r with
    | cons r1 r2 =>
      intro u hu
      rcases List.mem_cons.mp hu with rfl | hu
      · obtain ⟨z, rfl⟩ := h v (List.mem_cons_self ..)
        obtain ⟨t, rfl⟩ := r1
        exact ⟨z, t, rfl⟩
      · exact vals_strs r2 (fun w hw => h w (List.mem_cons_of_mem _ hw)) u hu
theorem op_inD (hu : X.A.units + 65 < cLine) : OpR X (compareOp .In) (rInD X.K false) := by
  intro pins s σ H x y v u Q I rx ry h
  obtain ⟨a, b, vs, rfl, e, rfl, hs, hz, q⟩ := h
  obtain ⟨_, hne, _, kv, o, es, ep, ho, hx, hdat, _⟩ := dk_of I.hok e
  have hu1 : X.A.in1.units < cLine := by show X.A.units + 1 < cLine; omega
  rcases hs with hs | hs
  · cases rx; cases ry
    obtain ⟨its, rv, hl, _⟩ := I.list hs
    refine SeqAt.in_listAt (fun _ => false) ⟨_, hl.choose_spec.choose_spec.1, hl.choose_spec.choose_spec.2.1, _, hl.choose_spec.choose_spec.2.2.2⟩ (fun y hy => ?_) ⟨.bl false, H, I, by simp [L2.RelV], q⟩
    obtain ⟨z, t, rfl⟩ := vals_strs rv hz y (by simpa using hy)
    exact eqStrDic z t ho hx.1 hdat hu1
  · cases rx; cases ry
    obtain ⟨its, rv, hl, _⟩ := I.tuple hs
    refine SeqAt.in_tupleAt (fun _ => false) hl (fun y hy => ?_) ⟨.bl false, H, I, by simp [L2.RelV], q⟩
    obtain ⟨z, t, rfl⟩ := vals_strs rv hz y (by simpa using hy)
    exact eqStrDic z t ho hx.1 hdat hu1
theorem op_notInD (hu : X.A.units + 65 < cLine) : OpR X (compareOp .NotIn) (rInD X.K true) := by
  intro pins s σ H x y v u Q I rx ry h
  obtain ⟨a, b, vs, rfl, e, rfl, hs, hz, q⟩ := h
  obtain ⟨_, hne, _, kv, o, es, ep, ho, hx, hdat, _⟩ := dk_of I.hok e
  have hu1 : X.A.in1.units < cLine := by show X.A.units + 1 < cLine; omega
  rcases hs with hs | hs
  · cases rx; cases ry
    obtain ⟨its, rv, hl, _⟩ := I.list hs
    refine SeqAt.notIn_listAt (fun _ => false) ⟨_, hl.choose_spec.choose_spec.1, hl.choose_spec.choose_spec.2.1, _, hl.choose_spec.choose_spec.2.2.2⟩ (fun y hy => ?_) ⟨.bl true, H, I, by simp [L2.RelV], q⟩
    obtain ⟨z, t, rfl⟩ := vals_strs rv hz y (by simpa using hy)
    exact eqStrDic z t ho hx.1 hdat hu1
  · cases rx; cases ry
    obtain ⟨its, rv, hl, _⟩ := I.tuple hs
    refine SeqAt.notIn_tupleAt (fun _ => false) hl (fun y hy => ?_) ⟨.bl true, H, I, by simp [L2.RelV], q⟩
    obtain ⟨z, t, rfl⟩ := vals_strs rv hz y (by simpa using hy)
    exact eqStrDic z t ho hx.1 hdat hu1
theorem inR_ways {neg : Bool} {x y : T} {S : SS} {Q : KQ} (h : inR neg x y S Q) : (∃ a b, x = .str a ∧ y = .str b ∧ Q (.bl (neg ^^ !(Builtin.Str.occurrences b a 0 b.length 1).isEmpty)) S) ∨
    ((∃ l, x = .dic ∧ sqOf S y = some l ∧ l.all T.isStr = true ∧ Q (.bl neg) S) ∨
    (∃ l, sqOf S y = some l ∧ (deref S x).shp 59 = true ∧ T.shps 59 l = true ∧ Q (.bl (neg ^^ l.any fun z => z.eqv (deref S x))) S)) := by
  unfold inR at h
  split at h
  · exact .inl ⟨_, _, rfl, rfl, h⟩
  · split at h
    · rename_i e
      exact .inr (.inl ⟨_, rfl, e, h⟩)
    · exact h.elim
  · split at h
    · rename_i e
      exact .inr (.inr ⟨_, e, h⟩)
    · exact h.elim
theorem TRs.strs : ∀ {l : List T} {vs : List V}, TRs c F l vs → l.all T.isStr = true → ∀ v ∈ vs, ∃ z, v = .str z
  | [], _, r, _ => by cases r; intro v hv; cases hv
  | t :: ts, _, r, h => by
    cases r with
    | cons r1 r2 =>
      simp only [List.all_cons, Bool.and_eq_true] at h
      intro v hv
      rcases List.mem_cons.mp hv with rfl | hv
      · cases t <;> simp [T.isStr] at h
        exact ⟨_, r1.strI⟩
      · exact TRs.strs r2 h.2 v hv
theorem in_finD (sv : Sv c X) (neg : Bool) {x y : V} {t1 t2 : T} {Q : KQ} {l : List T} (hr : HRel c F S H) (tx : TR c F t1 x) (ty : TR c F t2 y) (e0 : t1 = .dic) (e : sqOf S t2 = some l) (h : l.all T.isStr = true) (q : Q (.bl neg) S) :
    rInD X.K neg x y H (out c F S H Q) := by
  subst e0
  cases tx with
  | dic e1 =>
    obtain ⟨b, vs, rfl, hs, r⟩ := sqOfI sv hr ty e
    exact ⟨_, _, _, rfl, hr.fr _ _ e1, rfl, hs, TRs.strs r h, fin0 hr (.bl _) q⟩
theorem in_fin (sv : Sv c X) (neg : Bool) {x y : V} {t1 t2 : T} {Q : KQ} {l : List T} (hr : HRel c F S H) (tx : TR c F t1 x) (ty : TR c F t2 y) (e : sqOf S t2 = some l) (h1 : (deref S t1).shp 59 = true) (h2 : T.shps 59 l = true) (q : Q (.bl (neg ^^ l.any fun z => z.eqv (deref S t1))) S) :
    rInA X.K neg x y H (out c F S H Q) := by
  refine ⟨_, _, deref_dp sv hr tx (T.plain_of _ _ h1), sq_dp sv hr ty e (T.plains_of _ _ h2), T.shp_shaped (T.shp_mono 59 60 _ (by omega) h1), ?_, fin0 hr (.bl _) (by rw [any_toDs]; exact q)⟩
  exact T.shp_shaped (t := .lst l) (by simpa [T.shp] using h2)
theorem ok_in (sv : Sv c X) (hu : X.A.units + 65 < cLine) : BinOk c X (compareOp .In) (inR false) := by
  refine BinOk.or (r1 := fun x y S Q => ∃ a b, x = .str a ∧ y = .str b ∧ Q (.bl (false ^^ !(Builtin.Str.occurrences b a 0 b.length 1).isEmpty)) S) (r2 := fun x y S Q => (∃ l, x = .dic ∧ sqOf S y = some l ∧ l.all T.isStr = true ∧ Q (.bl false) S) ∨ (∃ l, sqOf S y = some l ∧ (deref S x).shp 59 = true ∧ T.shps 59 l = true ∧ Q (.bl (false ^^ l.any fun z => z.eqv (deref S x))) S)) ?_ (BinOk.or (r1 := fun x y S Q => ∃ l, x = .dic ∧ sqOf S y = some l ∧ l.all T.isStr = true ∧ Q (.bl false) S) (r2 := fun x y S Q => ∃ l, sqOf S y = some l ∧ (deref S x).shp 59 = true ∧ T.shps 59 l = true ∧ Q (.bl (false ^^ l.any fun z => z.eqv (deref S x))) S) ?_ ?_ fun _ _ _ _ h => h) fun _ _ _ _ h => inR_ways h
  · refine BinOk.of op_in_str fun pins s σ H F S x y t1 t2 Q I hr tx ty q => ?_
    obtain ⟨a, b, rfl, rfl, q⟩ := q
    exact ⟨a, b, tx.strI, ty.strI, fin0 hr (.bl _) (by simpa using q)⟩
  · refine BinOk.of (op_inD hu) fun pins s σ H F S x y t1 t2 Q I hr tx ty q => ?_
    obtain ⟨l, e0, e, h, q⟩ := q
    exact in_finD sv false hr tx ty e0 e h q
  · refine BinOk.of (op_inA hu) fun pins s σ H F S x y t1 t2 Q I hr tx ty q => ?_
    obtain ⟨l, e, h1, h2, q⟩ := q
    exact in_fin sv false hr tx ty e h1 h2 q
theorem ok_notIn (sv : Sv c X) (hu : X.A.units + 65 < cLine) : BinOk c X (compareOp .NotIn) (inR true) := by
  refine BinOk.or (r1 := fun x y S Q => ∃ a b, x = .str a ∧ y = .str b ∧ Q (.bl (true ^^ !(Builtin.Str.occurrences b a 0 b.length 1).isEmpty)) S) (r2 := fun x y S Q => (∃ l, x = .dic ∧ sqOf S y = some l ∧ l.all T.isStr = true ∧ Q (.bl true) S) ∨ (∃ l, sqOf S y = some l ∧ (deref S x).shp 59 = true ∧ T.shps 59 l = true ∧ Q (.bl (true ^^ l.any fun z => z.eqv (deref S x))) S)) ?_ (BinOk.or (r1 := fun x y S Q => ∃ l, x = .dic ∧ sqOf S y = some l ∧ l.all T.isStr = true ∧ Q (.bl true) S) (r2 := fun x y S Q => ∃ l, sqOf S y = some l ∧ (deref S x).shp 59 = true ∧ T.shps 59 l = true ∧ Q (.bl (true ^^ l.any fun z => z.eqv (deref S x))) S) ?_ ?_ fun _ _ _ _ h => h) fun _ _ _ _ h => inR_ways h
  · refine BinOk.of op_notIn_str fun pins s σ H F S x y t1 t2 Q I hr tx ty q => ?_
    obtain ⟨a, b, rfl, rfl, q⟩ := q
    exact ⟨a, b, tx.strI, ty.strI, fin0 hr (.bl _) (by simpa using q)⟩
  · refine BinOk.of (op_notInD hu) fun pins s σ H F S x y t1 t2 Q I hr tx ty q => ?_
    obtain ⟨l, e0, e, h, q⟩ := q
    exact in_finD sv true hr tx ty e0 e h q
  · refine BinOk.of (op_notInA hu) fun pins s σ H F S x y t1 t2 Q I hr tx ty q => ?_
    obtain ⟨l, e, h1, h2, q⟩ := q
    exact in_fin sv true hr tx ty e h1 h2 q
theorem TR.isNon_iff {t : T} {v : V} (h : TR c F t v) : t.isNon = decide (v = .non) := by cases h <;> rfl
theorem ok_is : BinOk c X (compareOp .Is) (isR false) := by
  refine BinOk.or (r1 := fun x y S Q => y = .non ∧ Q (.bl x.isNon) S) (r2 := fun x y S Q => ∃ a b, x = .bl a ∧ y = .bl b ∧ Q (.bl (a == b)) S) ?_ ?_ fun x y S Q h => ?_
  · refine BinOk.of op_isN fun pins s σ H F S x y t1 t2 Q I hr tx ty q => ?_
    obtain ⟨rfl, q⟩ := q
    exact ⟨ty.nonI, fin0 hr (.bl _) (by rw [← tx.isNon_iff]; exact q)⟩
  · refine BinOk.of op_isBl fun pins s σ H F S x y t1 t2 Q I hr tx ty q => ?_
    obtain ⟨a, b, rfl, rfl, q⟩ := q
    exact ⟨a, b, tx.blI, ty.blI, fin0 hr (.bl _) (by rw [← Bool.beq_eq_decide_eq]; exact q)⟩
  · unfold isR at h
    split at h
    · exact .inl ⟨rfl, by simpa using h⟩
    · exact .inr ⟨_, _, rfl, rfl, by simpa using h⟩
    · exact h.elim
theorem ok_isNot : BinOk c X (compareOp .IsNot) (isR true) := by
  refine BinOk.or (r1 := fun x y S Q => y = .non ∧ Q (.bl (!x.isNon)) S) (r2 := fun x y S Q => ∃ a b, x = .bl a ∧ y = .bl b ∧ Q (.bl (!(a == b))) S) ?_ ?_ fun x y S Q h => ?_
  · refine BinOk.of op_notN fun pins s σ H F S x y t1 t2 Q I hr tx ty q => ?_
    obtain ⟨rfl, q⟩ := q
    exact ⟨ty.nonI, fin0 hr (.bl _) (by rw [← tx.isNon_iff]; exact q)⟩
  · refine BinOk.of op_notBl fun pins s σ H F S x y t1 t2 Q I hr tx ty q => ?_
    obtain ⟨a, b, rfl, rfl, q⟩ := q
    exact ⟨a, b, tx.blI, ty.blI, fin0 hr (.bl _) (by rw [← Bool.beq_eq_decide_eq]; exact q)⟩
  · unfold isR at h
    split at h
    · exact .inl ⟨rfl, by simpa using h⟩
    · exact .inr ⟨_, _, rfl, rfl, by simpa using h⟩
    · exact h.elim
theorem ok_cmp (sv : Sv c X) (hu : X.A.units + 65 < cLine) (op : CmpOp) : BinOk c X (compareOp op) (cmpR op) := by
  cases op with
  | Eq => exact ok_eq sv (by omega)
  | NotEq => exact ok_ne sv (by omega)
  | Lt => exact ok_cmpI op_lt
  | LtE => exact ok_leR
  | Gt => exact ok_cmpI op_gt
  | GtE => exact ok_cmpI op_ge
  | Is => exact ok_is
  | IsNot => exact ok_isNot
  | In => exact ok_in sv hu
  | NotIn => exact ok_notIn sv hu
end
end TL

set_option Elab.async false
set_option linter.all false
set_option maxRecDepth 100000
set_option maxHeartbeats 2000000
set_option autoImplicit false
/-! TL3: subscripts, slices, built-in functions, on trees. -/
namespace TL
open PySem PySem.Spec PyProof.Rows L2

/-! ### x[i] -/
def ixR (x y : T) (S : SS) (Q : KQ) : Prop :=
  match x, y with
  | .str z, .int i => z.length ≤ sizeLine ∧ (match atI z.cps.toList i with
    | some ch => Q (.str ⟨#[ch]⟩) S
    | none => False)
  | x, .int i => (match sqOf S x with
    | some l => (match atI l i with
      | some t => Q t S
      | none => False)
    | none => False)
  | _, _ => False
def cutG {α : Type} (xs : List α) (lo hi : Option Int) : List α := (xs.drop (HT.sIx xs.length 0 lo)).take (HT.sIx xs.length xs.length hi - HT.sIx xs.length 0 lo)
/-- x[lo:hi] -/
def slR (mu : Bool) (x : T) (lo hi : Option Int) (S : SS) (Q : KQ) : Prop :=
  match x with
  | .str z => z.length ≤ sizeLine ∧ Q (.str (cutS z lo hi)) S
  | .tup l => Q (.tup (cutG l lo hi)) S
  | x => (match lsOf S x with
    | some l => newL mu (cutG l lo hi) S Q
    | none => False)

section
variable {c : Ct} {X : Cx} {pins : List (Addr × Obj)} {σ : St} {H : Hp} {s : Shared} {F : FF} {S : SS}
def IxOk (c : Ct) (X : Cx) (r : T → T → SS → KQ → Prop) : Prop :=
  ∀ (value slice : Expr) (pins : List (Addr × Obj)) (s : Shared) (σ : St) (H : Hp) (F : FF) (S : SS) (x y : V) (v u : Value) (t1 t2 : T) (Q : KQ), Inv X pins σ H s → HRel c F S H → RelV x v → RelV y u → TR c F t1 x → TR c F t2 y → r t1 t2 S Q →
    subscripted slice false v u = operate [v, u] (getItem v u) → wpAny (model X.prog X.w) X.A (subscriptTail value slice v u) (EP X pins σ (out c F S H Q)) X.xe s
theorem TRs.atI {ts : List T} {vs : List V} {i : Int} {t : T} (r : TRs c F ts vs) (h : L2.atI ts i = some t) : ∃ v, L2.atI vs i = some v ∧ TR c F t v := by
  unfold L2.atI at h ⊢
  rw [← r.length]
  cases e : ixN ts.length i with
  | none => rw [e] at h; cases h
  | some j =>
    rw [e] at h
    obtain ⟨v, h1, h2⟩ := r.get (i := j) (by simpa using h)
    exact ⟨v, by simpa using h1, h2⟩
theorem ok_ix (sv : Sv c X) : IxOk c X ixR := by
  intro value slice pins s σ H F S x y v u t1 t2 Q I hr rx ry tx ty h hs
  unfold ixR at h
  split at h
  · obtain ⟨hz, h⟩ := h
    split at h
    · rename_i e
      exact mn (ix_str value slice pins s σ H x y v u (out c F S H Q) I rx ry ⟨_, _, _, tx.strI, ty.intI, hz, e, fin0 hr (.str _) h⟩ hs) fun _ _ q => q
    · exact h.elim
  · split at h
    · rename_i e1
      split at h
      · rename_i e2
        obtain ⟨a, vs, rfl, q1, r1⟩ := sqOfI sv hr tx e1
        obtain ⟨w, h1, h2⟩ := r1.atI e2
        rcases q1 with q1 | q1
        · exact mn (ix_list value slice pins s σ H _ y v u (out c F S H Q) I rx ry ⟨_, _, _, _, rfl, ty.intI, q1, h1, fin0 hr h2 h⟩ hs) fun _ _ q => q
        · exact mn (ix_tup value slice pins s σ H _ y v u (out c F S H Q) I rx ry ⟨_, _, _, _, rfl, ty.intI, q1, h1, fin0 hr h2 h⟩ hs) fun _ _ q => q
      · exact h.elim
    · exact h.elim
  · exact h.elim
theorem TRs.cut {ts : List T} {vs : List V} (r : TRs c F ts vs) (lo hi : Option Int) : TRs c F (cutG ts lo hi) (cutV vs lo hi) := by
  unfold cutG cutV
  rw [r.length]
  exact (r.drop _).take _
theorem cut_whole {α : Type} {l : List α} {lo hi : Option Int} (h : HT.sIx l.length 0 lo = 0 ∧ HT.sIx l.length l.length hi = l.length) : cutG l lo hi = l := by
  unfold cutG
  rw [h.1, h.2]
  simp
/-- a slice by values: the layer's reading from a tree's -/
def slV (K : PySem.W.Frag) : V → Option Int → Option Int → Hp → VK → Prop := fun x lo hi H Q => rSlS x lo hi H Q ∨ rSlA K x lo hi H Q ∨ rSlL K x lo hi H Q
theorem sl_any : SlR X (slV X.K) := SlR.or sl_str (SlR.or sl_tupA sl_list)
theorem slR_V (sv : Sv c X) {mu : Bool} {x : V} {t : T} {lo hi : Option Int} {Q : KQ} (hr : HRel c F S H) (tx : TR c F t x) (h : slR mu t lo hi S Q) : slV X.K x lo hi H (out c F S H Q) := by
  unfold slR at h
  split at h
  · exact .inl ⟨_, tx.strI, h.1, fin0 hr (.str _) h.2⟩
  · obtain ⟨a, vs, rfl, q1, r1⟩ := TR.tupI sv hr tx
    refine .inr (.inl ⟨a, vs, rfl, q1, fun hw => ?_, fun _ => finT sv hr (r1.cut lo hi) h⟩)
    rw [← r1.length] at hw
    rw [cut_whole hw] at h
    exact fin0 hr tx h
  · split at h
    · rename_i e
      obtain ⟨a, vs, rfl, q1, r1⟩ := lsOfI sv hr tx e
      exact .inr (.inr ⟨a, vs, rfl, q1.sq sv, finL sv hr (r1.cut lo hi) h⟩)
    · exact h.elim

/-! ### calls of built-ins -/
def CallOk (c : Ct) (X : Cx) (f : Value) (r : List T → SS → KQ → Prop) : Prop :=
  ∀ (pins : List (Addr × Obj)) (s : Shared) (σ : St) (H : Hp) (F : FF) (S : SS) (xs : List V) (us : List Value) (ts : List T) (Q : KQ), Inv X pins σ H s → HRel c F S H → Vals xs us → TRs c F ts xs → r ts S Q →
    wpAny (model X.prog X.w) X.A (call f us) (EP X pins σ (out c F S H Q)) X.xe s
theorem CallOk.of {f : Value} {r : List T → SS → KQ → Prop} {r2 : List V → Hp → VK → Prop} (ho : CallR X f r2)
    (k : ∀ (pins : List (Addr × Obj)) (s : Shared) (σ : St) (H : Hp) (F : FF) (S : SS) (xs : List V) (ts : List T) (Q : KQ), Inv X pins σ H s → HRel c F S H → TRs c F ts xs → r ts S Q → r2 xs H (out c F S H Q)) : CallOk c X f r := by
  intro pins s σ H F S xs us ts Q I hr rv tr h
  exact mn (ho pins s σ H xs us _ I rv (k pins s σ H F S xs ts Q I hr tr h)) fun _ _ q => q
theorem TRs.one {t : T} {vs : List V} (h : TRs c F [t] vs) : ∃ v, vs = [v] ∧ TR c F t v := by
  cases h with
  | cons r rs => cases rs; exact ⟨_, rfl, r⟩
theorem TRs.two {t u : T} {vs : List V} (h : TRs c F [t, u] vs) : ∃ v w, vs = [v, w] ∧ TR c F t v ∧ TR c F u w := by
  cases h with
  | cons r rs => obtain ⟨w, rfl, r2⟩ := TRs.one rs; exact ⟨_, _, rfl, r, r2⟩

def lenR : List T → SS → KQ → Prop
  | [t], S, Q => (match t with
    | .str z => z.length ≤ sizeLine ∧ Q (.int z.length) S
    | t => (match sqOf S t with
      | some l => Q (.int l.length) S
      | none => False))
  | _, _, _ => False
theorem ok_len (sv : Sv c X) : CallOk c X (.builtin "len") lenR := by
  refine CallOk.of call_len fun pins s σ H F S xs ts Q I hr tr h => ?_
  unfold lenR at h
  split at h
  · obtain ⟨v, rfl, r1⟩ := TRs.one tr
    split at h
    · cases r1.strI
      exact ⟨_, _, rfl, ⟨h.1, rfl⟩, fin0 hr (.int _) h.2⟩
    · split at h
      · rename_i e
        obtain ⟨a, vs, rfl, q1, r2⟩ := sqOfI sv hr r1 e
        refine ⟨_, vs.length, rfl, ?_, fin0 hr (.int _) (by rw [← r2.length]; exact h)⟩
        rcases q1 with q1 | q1
        · exact .inl ⟨vs, q1, rfl⟩
        · exact .inr ⟨vs, q1, rfl⟩
      · exact h.elim
  · exact h.elim
def absR : List T → SS → KQ → Prop
  | [.int i], S, Q => Q (.int i.natAbs) S
  | _, _, _ => False
theorem ok_abs : CallOk c X (.builtin "abs") absR := by
  refine CallOk.of call_abs fun pins s σ H F S xs ts Q I hr tr h => ?_
  unfold absR at h
  split at h
  · obtain ⟨v, rfl, r1⟩ := TRs.one tr
    cases r1.intI
    refine ⟨_, rfl, fin0 hr (.int _) ?_⟩
    rename_i i
    have e : (if i < 0 then -i else i) = ((i.natAbs : Nat) : Int) := by split <;> omega
    rw [e]; exact h
  · exact h.elim
def max2R : List T → SS → KQ → Prop
  | [.int i, .int j], S, Q => Q (.int (max i j)) S
  | [.int i, .int j, .int k], S, Q => Q (.int (max (max i j) k)) S
  | _, _, _ => False
def min2R : List T → SS → KQ → Prop
  | [.int i, .int j], S, Q => Q (.int (min i j)) S
  | [.int i, .int j, .int k], S, Q => Q (.int (min (min i j) k)) S
  | _, _, _ => False
theorem TRs.three {a b d : T} {vs : List V} (h : TRs c F [a, b, d] vs) : ∃ v w u, vs = [v, w, u] ∧ TR c F a v ∧ TR c F b w ∧ TR c F d u := by
  cases h with
  | cons h1 h2 =>
    obtain ⟨w, u, rfl, h3, h4⟩ := TRs.two h2
    exact ⟨_, w, u, rfl, h1, h3, h4⟩
theorem ok_max2 (hc : X.calm = true) : CallOk c X (.builtin "max") max2R := by
  refine CallOk.of (CallR.or (call_max2 hc) (call_max3Nu hc)) fun pins s σ H F S xs ts Q I hr tr h => ?_
  unfold max2R at h
  split at h
  · obtain ⟨v, w, rfl, r1, r2⟩ := TRs.two tr
    cases r1.intI
    cases r2.intI
    refine .inl ⟨_, _, rfl, fin0 hr (.int _) ?_⟩
    rename_i i j
    have e : (if j > i then j else i) = max i j := by rw [Int.max_def]; split <;> split <;> omega
    rw [e]; exact h
  · obtain ⟨v, w, u, rfl, r1, r2, r3⟩ := TRs.three tr
    cases r1.intI
    cases r2.intI
    cases r3.intI
    rename_i i j k
    refine .inr ⟨_, _, _, .int (max (max i j) k), rfl, ?_, fin0 hr (.int _) h⟩
    have e : ∀ i j : Int, nuMax2 (.int i) (.int j) = some (.int (max i j)) := fun i j => by
      show (some (decide (i < j))).map (fun c : Bool => if c = true then V.int j else V.int i) = _
      rw [Int.max_def]
      by_cases z : i < j
      · rw [if_pos (by omega)]; simp [z]
      · by_cases z2 : i ≤ j
        · have : i = j := by omega
          subst this; simp
        · rw [if_neg z2]; simp [z]
    unfold nuMax3
    rw [e, Option.bind_some, e]
  · exact h.elim
theorem ok_min2 (hc : X.calm = true) : CallOk c X (.builtin "min") min2R := by
  refine CallOk.of (CallR.or (call_min2 hc) (call_min3Nu hc)) fun pins s σ H F S xs ts Q I hr tr h => ?_
  unfold min2R at h
  split at h
  · obtain ⟨v, w, rfl, r1, r2⟩ := TRs.two tr
    cases r1.intI
    cases r2.intI
    refine .inl ⟨_, _, rfl, fin0 hr (.int _) ?_⟩
    rename_i i j
    have e : (if j < i then j else i) = min i j := by rw [Int.min_def]; split <;> split <;> omega
    rw [e]; exact h
  · obtain ⟨v, w, u, rfl, r1, r2, r3⟩ := TRs.three tr
    cases r1.intI
    cases r2.intI
    cases r3.intI
    rename_i i j k
    refine .inr ⟨_, _, _, .int (min (min i j) k), rfl, ?_, fin0 hr (.int _) h⟩
    have e : ∀ i j : Int, nuMin2 (.int i) (.int j) = some (.int (min i j)) := fun i j => by
      show (some (decide (j < i))).map (fun c : Bool => if c = true then V.int j else V.int i) = _
      rw [Int.min_def]
      by_cases z : j < i
      · rw [if_neg (by omega)]; simp [z]
      · rw [if_pos (by omega)]; simp [z]
    unfold nuMin3
    rw [e, Option.bind_some, e]
  · exact h.elim
/-- sorted(xs), ints -/
def sortR (mu : Bool) : List T → SS → KQ → Prop
  | [t], S, Q => ∃ ns : List Int, lsOf S t = some (ns.map T.int) ∧ ∀ ms : List Int, ms.Perm ns → ms.Pairwise (· ≤ ·) → newL mu (ms.map T.int) S Q
  | _, _, _ => False
theorem TRs.intsV : ∀ {ns : List Int} {vs : List V}, TRs c F (ns.map T.int) vs → vs = ns.map V.int
  | [], _, h => by cases h; rfl
  | n :: ns, _, h => by
    rw [List.map_cons] at h
    cases h with
    | cons h1 h2 =>
      rw [TRs.intsV h2, h1.intI]; rfl
theorem TRs.ofIntsV (ns : List Int) : TRs c F (ns.map T.int) (ns.map V.int) := by
  induction ns with
  | nil => exact .nil
  | cons n ns ih => exact .cons (.int n) ih
theorem ok_sort (sv : Sv c X) (mu : Bool) : CallOk c X (.builtin "sorted") (sortR mu) := by
  refine CallOk.of cr_sortedI fun pins s σ H F S xs ts Q I hr tr h => ?_
  unfold sortR at h
  split at h
  · obtain ⟨v, rfl, r1⟩ := TRs.one tr
    obtain ⟨ns, e, h⟩ := h
    obtain ⟨a, vs, rfl, q1, r2⟩ := lsOfI sv hr r1 e
    rw [TRs.intsV r2] at q1
    exact ⟨a, ns, rfl, q1.sq sv, fun ms p hp hs hn => finL sv hr (TRs.ofIntsV ms) (h ms hp hs) p hn⟩
  · exact h.elim
def intTR : List T → SS → KQ → Prop
  | [.int i], S, Q => Q (.int i) S
  | [.bl b], S, Q => Q (.int (if b then 1 else 0)) S
  | _, _, _ => False
theorem ok_intT : CallOk c X (.type "int") intTR := by
  refine CallOk.of call_int1 fun pins s σ H F S xs ts Q I hr tr h => ?_
  unfold intTR at h
  split at h
  · obtain ⟨v, rfl, r1⟩ := TRs.one tr
    cases r1.intI
    exact .inl ⟨_, rfl, fin0 hr (.int _) h⟩
  · obtain ⟨v, rfl, r1⟩ := TRs.one tr
    cases r1.blI
    exact .inr ⟨_, rfl, fin0 hr (.int _) h⟩
  · exact h.elim
def strTR : List T → SS → KQ → Prop
  | [.int i], S, Q => i.natAbs.log2 < 1920 ∧ Q (.str (toString i)) S
  | _, _, _ => False
theorem ok_strT : CallOk c X (.type "str") strTR := by
  refine CallOk.of call_str_int fun pins s σ H F S xs ts Q I hr tr h => ?_
  unfold strTR at h
  split at h
  · obtain ⟨v, rfl, r1⟩ := TRs.one tr
    cases r1.intI
    exact ⟨_, rfl, h.1, fin0 hr (.str _) h.2⟩
  · exact h.elim
def tupleTR : List T → SS → KQ → Prop
  | [t], S, Q => (match sqOf S t with
    | some l => Q (.tup l) S
    | none => False)
  | _, _, _ => False
theorem sqOf_ways {S : SS} {t : T} {l : List T} (e : sqOf S t = some l) : t = .tup l ∨ lsOf S t = some l := by
  cases t with
  | tup l' => simp only [sqOf, Option.some.injEq] at e; subst e; exact .inl rfl
  | _ => exact .inr e
theorem ok_tupleT (sv : Sv c X) : CallOk c X (.type "tuple") tupleTR := by
  refine CallOk.of call_tuple_of fun pins s σ H F S xs ts Q I hr tr h => ?_
  unfold tupleTR at h
  split at h
  · obtain ⟨v, rfl, r1⟩ := TRs.one tr
    split at h
    · rename_i l e
      rcases sqOf_ways e with rfl | e'
      · obtain ⟨a, vs, rfl, q1, r2⟩ := TR.tupI sv hr r1
        exact ⟨a, vs, rfl, .inr ⟨q1, fin0 hr r1 h⟩⟩
      · obtain ⟨a, vs, rfl, q1, r2⟩ := lsOfI sv hr r1 e'
        exact ⟨a, vs, rfl, .inl ⟨q1.sq sv, finT sv hr r2 h⟩⟩
    · exact h.elim
  · exact h.elim
def listTR (mu : Bool) : List T → SS → KQ → Prop
  | [t], S, Q => (match sqOf S t with
    | some l => newL mu l S Q
    | none => False)
  | _, _, _ => False
theorem ok_listT (sv : Sv c X) (mu : Bool) : CallOk c X (.type "list") (listTR mu) := by
  refine CallOk.of call_list_of fun pins s σ H F S xs ts Q I hr tr h => ?_
  unfold listTR at h
  split at h
  · obtain ⟨v, rfl, r1⟩ := TRs.one tr
    split at h
    · rename_i e
      obtain ⟨a, vs, rfl, q1, r2⟩ := sqOfI sv hr r1 e
      exact ⟨a, vs, rfl, q1, finL sv hr r2 h⟩
    · exact h.elim
  · exact h.elim
/-- a list of truths, of ints -/
def blsOf : List T → Option (List Bool)
  | [] => some []
  | .bl b :: r => (blsOf r).map (b :: ·)
  | _ :: _ => none
def intsOf : List T → Option (List Int)
  | [] => some []
  | .int i :: r => (intsOf r).map (i :: ·)
  | _ :: _ => none
theorem TRs.bls : ∀ {ts : List T} {vs : List V} {bs : List Bool}, TRs c F ts vs → blsOf ts = some bs → vs = bs.map V.bl
  | _, _, _, .nil, e => by simp only [blsOf, Option.some.injEq] at e; subst e; rfl
  | _, _, _, .cons (t := t) r rs, e => by
    cases t with
    | bl b =>
      simp only [blsOf] at e
      cases q : blsOf _ with
      | none => rw [q] at e; cases e
      | some bs' =>
        rw [q] at e
        simp only [Option.map_some, Option.some.injEq] at e
        subst e
        rw [TRs.bls rs q]
        cases r
        rfl
    | _ => simp [blsOf] at e
theorem TRs.ints : ∀ {ts : List T} {vs : List V} {bs : List Int}, TRs c F ts vs → intsOf ts = some bs → vs = bs.map V.int
  | _, _, _, .nil, e => by simp only [intsOf, Option.some.injEq] at e; subst e; rfl
  | _, _, _, .cons (t := t) r rs, e => by
    cases t with
    | int b =>
      simp only [intsOf] at e
      cases q : intsOf _ with
      | none => rw [q] at e; cases e
      | some bs' =>
        rw [q] at e
        simp only [Option.map_some, Option.some.injEq] at e
        subst e
        rw [TRs.ints rs q]
        cases r
        rfl
    | _ => simp [intsOf] at e
def allR (f : List Bool → Bool) : List T → SS → KQ → Prop
  | [t], S, Q => (match lsOf S t with
    | some l => (match blsOf l with
      | some bs => Q (.bl (f bs)) S
      | none => False)
    | none => False)
  | _, _, _ => False
theorem ok_allF (sv : Sv c X) {id : String} {f : List Bool → Bool} (ho : CallR X (.builtin id) (fun vs H Q => ∃ (a : Addr) (bs : List Bool), vs = [V.ref a] ∧ SqL X.K H a (bs.map V.bl) ∧ Q (.bl (f bs)) H)) : CallOk c X (.builtin id) (allR f) := by
  refine CallOk.of ho fun pins s σ H F S xs ts Q I hr tr h => ?_
  unfold allR at h
  split at h
  · obtain ⟨v, rfl, r1⟩ := TRs.one tr
    split at h
    · rename_i e
      split at h
      · rename_i e2
        obtain ⟨a, vs, rfl, q1, r2⟩ := lsOfI sv hr r1 e
        have z := r2.bls e2
        subst z
        exact ⟨a, _, rfl, q1.sq sv, fin0 hr (.bl _) h⟩
      · exact h.elim
    · exact h.elim
  · exact h.elim
theorem ok_all (sv : Sv c X) (hc : X.calm = true) : CallOk c X (.builtin "all") (allR fun bs => bs.all id) := ok_allF sv (cr_all hc)
theorem ok_any (sv : Sv c X) (hc : X.calm = true) : CallOk c X (.builtin "any") (allR fun bs => bs.any id) := ok_allF sv (cr_any hc)
def sumR : List T → SS → KQ → Prop
  | [t], S, Q => (match lsOf S t with
    | some l => (match intsOf l with
      | some bs => Q (.int bs.sum) S
      | none => False)
    | none => False)
  | _, _, _ => False
theorem ok_sum (sv : Sv c X) (hc : X.calm = true) : CallOk c X (.builtin "sum") sumR := by
  refine CallOk.of (cr_sum hc) fun pins s σ H F S xs ts Q I hr tr h => ?_
  unfold sumR at h
  split at h
  · obtain ⟨v, rfl, r1⟩ := TRs.one tr
    split at h
    · rename_i e
      split at h
      · rename_i e2
        obtain ⟨a, vs, rfl, q1, r2⟩ := lsOfI sv hr r1 e
        have z := r2.ints e2
        subst z
        exact ⟨a, _, rfl, q1.sq sv, fin0 hr (.int _) h⟩
      · exact h.elim
    · exact h.elim
  · exact h.elim

/-! ### repr -/
mutual
/-- what repr shows: ints below 1,920 bits, depth at most n -/
def T.shw : Nat → T → Bool
  | _, .non => true
  | _, .bl _ => true
  | _, .int i => decide (i.natAbs.log2 < 1920)
  | _, .str _ => true
  | n + 1, .tup l => T.shws n l
  | n + 1, .lst l => T.shws n l
  | _ + 1, .dic => true
  | _, _ => false
def T.shws : Nat → List T → Bool
  | _, [] => true
  | n, t :: ts => T.shw n t && T.shws n ts
end
mutual
theorem T.shw_ok : ∀ (n : Nat) (t : T), t.shw n = true → t.plainD = true ∧ t.toD.showable = true ∧ t.toD.depth ≤ n
  | n, .non, _ => ⟨rfl, by simp [T.toD, PyData.showable], by simp [T.toD, PyData.depth]⟩
  | n, .bl _, _ => ⟨rfl, by simp [T.toD, PyData.showable], by simp [T.toD, PyData.depth]⟩
  | n, .int i, h => ⟨rfl, by simpa [T.toD, PyData.showable, T.shw] using h, by simp [T.toD, PyData.depth]⟩
  | n, .str x, h => ⟨rfl, by simp [T.toD, PyData.showable], by simp [T.toD, PyData.depth]⟩
  | n + 1, .tup l, h => by
    obtain ⟨h1, h2, h4⟩ := T.shws_ok n l (by simpa [T.shw] using h)
    exact ⟨by simpa [T.plainD] using h1, by simpa [T.toD, PyData.showable] using h2, by simp only [T.toD, PyData.depth]; omega⟩
  | n + 1, .lst l, h => by
    obtain ⟨h1, h2, h4⟩ := T.shws_ok n l (by simpa [T.shw] using h)
    exact ⟨by simpa [T.plainD] using h1, by simpa [T.toD, PyData.showable] using h2, by simp only [T.toD, PyData.depth]; omega⟩
  | 0, .tup _, h => by simp [T.shw] at h
  | 0, .lst _, h => by simp [T.shw] at h
  | _, .ref _, h => by simp [T.shw] at h
  | 0, .dic, h => by simp [T.shw] at h
  | n + 1, .dic, _ => ⟨rfl, by simp [T.toD, PyData.showable, PyData.showableKv], by simp [T.toD, PyData.depth, PyData.depthKv]⟩
  | _, .exc _ _, h => by simp [T.shw] at h
  | _, .ty _, h => by simp [T.shw] at h
  | _, .cls _, h => by simp [T.shw] at h
theorem T.shws_ok : ∀ (n : Nat) (ts : List T), T.shws n ts = true → T.plainsD ts = true ∧ PyData.showableAll (T.toDs ts) = true ∧ PyData.depthAll (T.toDs ts) ≤ n
  | n, [], _ => ⟨rfl, by simp [T.toDs, PyData.showableAll], by simp [T.toDs, PyData.depthAll]⟩
  | n, t :: ts, h => by
    simp only [T.shws, Bool.and_eq_true] at h
    obtain ⟨a1, a2, a4⟩ := T.shw_ok n t h.1
    obtain ⟨b1, b2, b4⟩ := T.shws_ok n ts h.2
    exact ⟨by simp [T.plainsD, a1, b1], by simp [T.toDs, PyData.showableAll, a2, b2], by simp only [T.toDs, PyData.depthAll]; omega⟩
end
def T.shown (t : T) : Str := t.toD.shown
def reprR : List T → SS → KQ → Prop
  | [t], S, Q => (deref S t).shw 50 = true ∧ (deref S t).shown.length ≤ sizeLine ∧ Q (.str (deref S t).shown) S
  | _, _, _ => False
theorem repr_dp {d : PyData} {v : V} {u : Value} {A : Around} {E : Value → Shared → Prop} {Q : Value → Shared → Prop} (I : Inv X pins σ H s) (sm : ∃ mm, X.base.Ns sysModules mm) (dp : Dq X.K H v d) (ru : RelV v u) (h1 : d.showable = true) (h3 : d.depth ≤ 50) (hg : A.guards = some []) (hu : A.units + 65 < cLine)
    (hz : d.shown.length ≤ sizeLine) (fin : ∀ h' u' tk, (∀ b o, s.heap.get? b = some o → h'.get? b = some o) → Q (.str d.shown u') { s with heap := h', toks := tk }) : wpAny (model X.prog X.w) A (call (.builtin "repr") [u]) Q E s := by
  obtain ⟨as, rd, nm⟩ := Dq.reads I sm d v u dp ru
  cases dp with
  | non => cases ru; exact PySem.P.repr_of_none (fin s.heap _ _ fun _ _ z => z)
  | bl b => cases ru; exact PySem.P.repr_of_bool (fin s.heap _ _ fun _ _ z => z)
  | int i => obtain ⟨t, rfl⟩ := ru; exact PySem.P.repr_of_int (by simpa [PyData.showable] using h1) (fin s.heap _ _ fun _ _ z => z)
  | str x => obtain ⟨t, rfl⟩ := ru; exact PySem.P.repr_of_str (fin s.heap _ _ fun _ _ z => z) (by simpa [PyData.shown] using hz)
  | lst h _ => cases ru; exact PySem.repr_of_reads' rd h1 (fun _ => nm) hg (by omega) (fun _ _ z => z) (fun h' u' tk k => fin h' u' tk k) hz
  | dic h => cases ru; exact PySem.repr_of_reads' rd h1 (fun _ => nm) hg (by omega) (fun _ _ z => z) (fun h' u' tk k => fin h' u' tk k) hz
  | tup h _ => cases ru; exact PySem.repr_of_reads' rd h1 (fun _ => nm) hg (by omega) (fun _ _ z => z) (fun h' u' tk k => fin h' u' tk k) hz
theorem ok_repr (sv : Sv c X) (hg : X.A.guards = some []) (hu : X.A.units + 65 < cLine) : CallOk c X (.builtin "repr") reprR := by
  intro pins s σ H F S xs us ts Q I hr rv tr h
  unfold reprR at h
  split at h
  · obtain ⟨h1, h2, h⟩ := h
    obtain ⟨v, rfl, r1⟩ := TRs.one tr
    obtain ⟨u, rfl, ru⟩ := vals1 rv
    obtain ⟨p1, p2, p4⟩ := T.shw_ok _ _ h1
    have dp := deref_dq sv hr r1 p1
    exact repr_dp I sv.sm dp ru p2 p4 hg hu h2 fun h' u' tk k => ⟨.str _, H, I.kept (t' := tk) k, ⟨_, rfl⟩, fin0 hr (.str _) h⟩
  · exact h.elim

/-! ### isinstance -/
/-- what isinstance asks of an exception's class -/
structure ExCls (K : PySem.W.Frag) (C : Addr) : Prop where
  cl : (PySem.W.clsIn K C).isSome = true
  ga : PySem.W.findIn K (.ref C) "__getattribute__" = some (some (.builtin "BaseException.__getattribute__"))
  gt : PySem.W.findIn K (.ref C) "__getattr__" = some none
  sub : PySem.W.subIn K (.ref C) (.type "BaseException") = some true
  ca : PySem.W.findIn K (.ref C) "__class__" = some (some (.builtin "object.__class__"))
  cn : PySem.W.specialIn K (.builtin "object.__class__") "__get__" = some (some (.builtin "getset_descriptor.__get__"))
  tk : PySem.W.takesIn K (.builtin "object.__class__") = some true
  ob : PySem.W.mroIn K C (.type "object") = some true
inductive Kd where
  | ty (n : String) | ex (c : Str)
  deriving DecidableEq
def kdOf (S : SS) : T → Option Kd
  | .non => some (.ty "NoneType")
  | .bl _ => some (.ty "bool")
  | .int _ => some (.ty "int")
  | .str _ => some (.ty "str")
  | .tup _ => some (.ty "tuple")
  | .lst _ => some (.ty "list")
  | .dic => some (.ty "dict")
  | .exc c _ => some (.ex c)
  | .ref a => match S a with
    | some (.lst _) => some (.ty "list")
    | _ => none
  | _ => none
def kdV (tc : Str → Option Addr) : Kd → Value
  | .ty n => .type n
  | .ex c => .ref ((tc c).getD 0)
def clV (tc : Str → Option Addr) : T → Value
  | .ty n => .type n
  | .cls c => .ref ((tc c).getD 0)
  | _ => .none
/-- the answers of isinstance: exceptions' classes by their bases -/
def isa (sub : Str → Str → Bool) : Kd → T → Option Bool
  | .ty a, .ty b => kitB a b
  | .ty _, .cls _ => some false
  | .ex _, .ty b => if b = "ValueError" then some true else if b ∈ ["int", "bool", "str", "tuple", "list", "dict"] then some false else none
  | .ex a, .cls b => some (sub a b)
  | _, _ => none
def isaAny (sub : Str → Str → Bool) (k : Kd) : List T → Option Bool
  | [] => some false
  | c :: r => match isa sub k c with
    | some true => some true
    | some false => isaAny sub k r
    | none => none
def isaR (sub : Str → Str → Bool) : List T → SS → KQ → Prop
  | [t, c], S, Q => (match kdOf S t with
    | some k => (match c with
      | .tup cs => (match isaAny sub k cs with
        | some b => Q (.bl b) S
        | none => False)
      | c => (match isa sub k c with
        | some b => Q (.bl b) S
        | none => False))
    | none => False)
  | _, _, _ => False
/-- the written part answers so -/
def IsaOk (K : PySem.W.Frag) (tc : Str → Option Addr) (sub : Str → Str → Bool) : Prop :=
  (∀ c C, tc c = some C → ExCls K C) ∧ (∀ a b C, tc b = some C → a ∈ ["NoneType", "bool", "int", "str", "tuple", "list", "dict"] → PySem.W.kitOne K (.type a) (.ref C) = some false) ∧
    (∀ a b C D, tc a = some C → tc b = some D → PySem.W.kitOne K (.ref C) (.ref D) = some (sub a b)) ∧
    (∀ a C b r, tc a = some C → isa sub (.ex a) (.ty b) = some r → PySem.W.kitOne K (.ref C) (.type b) = some r)
section
variable {sub : Str → Str → Bool}
theorem kit_T (sv : Sv c X) (io : IsaOk c.K c.tc sub) (hr : HRel c F S H) (I : Inv X pins σ H s) {t : T} {v : V} {u : Value} {k : Kd} (h : TR c F t v) (r : RelV v u) (e : kdOf S t = some k) :
    ∃ P : Heap → Prop, PySem.W.KitX X.K u (kdV c.tc k) P ∧ P s.heap ∧ u ≠ .builtin "__main__.__loader__#opaque" := by
  have lstk : ∀ {a : Addr} {xs : List V}, SqL X.K H a xs → ∃ P : Heap → Prop, PySem.W.KitX X.K (.ref a) (.type "list") P ∧ P s.heap ∧ Value.ref a ≠ .builtin "__main__.__loader__#opaque" := fun {a xs} q => by
    obtain ⟨its, _, ⟨o, n, ho, hc, _⟩, _⟩ := I.list q
    exact ⟨_, PySem.W.kitx_list, ⟨o, ho, hc⟩, fun z => nomatch z⟩
  cases h with
  | non => cases r; simp only [kdOf, Option.some.injEq] at e; subst e; exact ⟨_, PySem.W.kitx_none, True.intro, fun z => nomatch z⟩
  | bl b => cases r; simp only [kdOf, Option.some.injEq] at e; subst e; exact ⟨_, PySem.W.kitx_bool, True.intro, fun z => nomatch z⟩
  | int i => obtain ⟨t, rfl⟩ := r; simp only [kdOf, Option.some.injEq] at e; subst e; exact ⟨_, PySem.W.kitx_int, True.intro, fun z => nomatch z⟩
  | str x => obtain ⟨t, rfl⟩ := r; simp only [kdOf, Option.some.injEq] at e; subst e; exact ⟨_, PySem.W.kitx_str, True.intro, fun z => nomatch z⟩
  | tup e1 rs =>
    cases r; simp only [kdOf, Option.some.injEq] at e; subst e
    obtain ⟨its, _, ⟨o, ho, hc, _⟩, _⟩ := I.tuple (.inl (.inl (hr.fr _ _ e1)))
    exact ⟨_, PySem.W.kitx_tuple, ⟨o, ho, hc⟩, fun z => nomatch z⟩
  | ktup e1 rs =>
    cases r; simp only [kdOf, Option.some.injEq] at e; subst e
    obtain ⟨its, _, ⟨o, ho, hc, _⟩, _⟩ := I.tuple (kt_sq sv e1)
    exact ⟨_, PySem.W.kitx_tuple, ⟨o, ho, hc⟩, fun z => nomatch z⟩
  | klst e1 rs =>
    cases r; simp only [kdOf, Option.some.injEq] at e; subst e
    exact lstk (RdL.sq sv (.inr e1))
  | lst e1 rs =>
    cases r; simp only [kdOf, Option.some.injEq] at e; subst e
    exact lstk (.inl (.inl (hr.fr _ _ e1)))
  | flst e1 rs =>
    cases r; simp only [kdOf, Option.some.injEq] at e; subst e
    exact lstk (.inl (.inr (hr.fr _ _ e1)))
  | dic e1 =>
    cases r; simp only [kdOf, Option.some.injEq] at e; subst e
    obtain ⟨_, _, vs, _, o, es, ep, h1, h2, _⟩ := (show ObjOk X.prog X.w H s.heap _ (.dK []) from I.hok _ _ (hr.fr _ _ e1))
    exact ⟨_, PySem.W.kitx_dict, ⟨o, h1, h2.1⟩, fun z => nomatch z⟩
  | ref a =>
    cases r
    simp only [kdOf] at e
    cases q : S a with
    | none => rw [q] at e; cases e
    | some o =>
      rw [q] at e
      cases o with
      | ins _ _ => cases e
      | lst l =>
        simp only [Option.some.injEq] at e; subst e
        obtain ⟨vs, h1, h2⟩ := (hr.st a _ q).2
        exact lstk (.inl (.inl h1))
  | @exc0 a C cc e1 e2 =>
    cases r; simp only [kdOf, Option.some.injEq] at e; subst e
    have E := io.1 _ _ e1
    rw [← sv.K] at E
    obtain ⟨⟨oe, vs, ho, hz, hd⟩, _, _⟩ := I.hok _ _ (hr.fr _ _ e2)
    obtain ⟨oc, od, oda, osl⟩ := oe
    obtain ⟨h1, h2⟩ := hz
    dsimp only at h1 h2 hd
    subst h1 h2 hd
    have ek : kdV c.tc (.ex cc) = .ref C := by simp [kdV, e1]
    rw [ek]
    exact ⟨_, PySem.W.kitx_exc (od := none) E.cl E.ga E.gt E.sub E.ca E.cn E.tk E.ob, ⟨ho, rfl, rfl, trivial⟩, fun z => nomatch z⟩
  | @exc1 a C d cc n i e1 e2 e3 =>
    cases r; simp only [kdOf, Option.some.injEq] at e; subst e
    have E := io.1 _ _ e1
    rw [← sv.K] at E
    obtain ⟨⟨oe, vs, ho, hz, hd⟩, _, _⟩ := I.hok _ _ (hr.fr _ _ e2)
    obtain ⟨mA, ⟨od', es, ep, ho', _⟩, _⟩ := (show ObjOk X.prog X.w H s.heap d (.xd [(n, .int i)]) from I.hok _ _ (hr.fr _ _ e3))
    obtain ⟨oc, od, oda, osl⟩ := oe
    obtain ⟨h1, h2⟩ := hz
    dsimp only at h1 h2 hd
    subst h1 h2 hd
    have ek : kdV c.tc (.ex cc) = .ref C := by simp [kdV, e1]
    rw [ek]
    exact ⟨_, PySem.W.kitx_exc (od := some od') E.cl E.ga E.gt E.sub E.ca E.cn E.tk E.ob, ⟨ho, rfl, rfl, ho'⟩, fun z => nomatch z⟩
  | ty n => simp [kdOf] at e
  | cls e1 => simp [kdOf] at e

theorem kd_mem {t : T} {a : String} (e : kdOf S t = some (.ty a)) : a ∈ ["NoneType", "bool", "int", "str", "tuple", "list", "dict"] := by
  cases t with
  | ref b =>
    simp only [kdOf] at e
    split at e
    · simp only [Option.some.injEq, Kd.ty.injEq] at e; subst e; decide
    · cases e
  | _ => simp only [kdOf, Option.some.injEq, Kd.ty.injEq, reduceCtorEq] at e <;> first | (subst e; decide) | exact e.elim
theorem kd_exc {t : T} {v : V} {a : Str} (h : TR c F t v) (e : kdOf S t = some (.ex a)) : ∃ C, c.tc a = some C := by
  cases h with
  | exc0 e1 e2 => simp only [kdOf, Option.some.injEq, Kd.ex.injEq] at e; subst e; exact ⟨_, e1⟩
  | exc1 e1 e2 e3 => simp only [kdOf, Option.some.injEq, Kd.ex.injEq] at e; subst e; exact ⟨_, e1⟩
  | ref b =>
    simp only [kdOf] at e
    split at e <;> cases e
  | _ => simp [kdOf] at e
theorem isa_one (io : IsaOk c.K c.tc sub) {t q : T} {v w : V} {u : Value} {k : Kd} {b : Bool} (h : TR c F t v) (e : kdOf S t = some k) (hq : TR c F q w) (rw' : RelV w u) (r : isa sub k q = some b) : PySem.W.kitOne c.K (kdV c.tc k) u = some b := by
  cases hq with
  | ty n =>
    cases rw'
    cases k with
    | ty a => exact kit_ty (by simpa [isa] using r)
    | ex a =>
      obtain ⟨C, hC⟩ := kd_exc h e
      have := io.2.2.2 a C n b hC r
      simpa [kdV, hC] using this
  | cls e1 =>
    cases rw'
    cases k with
    | ty a =>
      simp only [isa, Option.some.injEq] at r
      subst r
      exact io.2.1 a _ _ e1 (kd_mem e)
    | ex a =>
      obtain ⟨C, hC⟩ := kd_exc h e
      simp only [isa, Option.some.injEq] at r
      subst r
      have := io.2.2.1 a _ C _ hC e1
      simpa [kdV, hC] using this
  | _ => cases k <;> simp [isa] at r
theorem isa_any (io : IsaOk c.K c.tc sub) {t : T} {v : V} {k : Kd} (h : TR c F t v) (e : kdOf S t = some k) : ∀ {qs : List T} {ws : List V} {us : List Value} {b : Bool}, TRs c F qs ws → Vals ws us → isaAny sub k qs = some b → PySem.W.kitAny c.K (kdV c.tc k) us = some b
  | _, _, _, _, .nil, r, e2 => by cases r; simpa [isaAny, PySem.W.kitAny] using e2
  | _, _, _, _, .cons (t := q) r1 rs, r, e2 => by
    cases r with
    | cons v1 vs1 =>
      simp only [isaAny] at e2
      cases z : isa sub k q with
      | none => rw [z] at e2; cases e2
      | some b0 =>
        rw [z] at e2
        have h1 := isa_one io h e r1 v1 z
        unfold PySem.W.kitAny
        rw [h1]
        cases b0 with
        | true => exact e2
        | false => exact isa_any io h e rs vs1 e2
theorem ok_isa (sv : Sv c X) (io : IsaOk c.K c.tc sub) : CallOk c X (.builtin "isinstance") (isaR sub) := by
  intro pins s σ H F S xs us ts Q I hr rv tr h
  unfold isaR at h
  split at h
  · obtain ⟨v, w, rfl, r1, r2⟩ := TRs.two tr
    obtain ⟨u1, u2, rfl, ru1, ru2⟩ := vals2 rv
    split at h
    · rename_i k ek
      obtain ⟨P, Z, p, hx⟩ := kit_T sv io hr I r1 ru1 ek
      have fin : ∀ {b : Bool}, Q (.bl b) S → ∀ tk, EP X pins σ (out c F S H Q) (.bool b) { s with toks := tk } := fun {b} q tk => ⟨.bl b, H, I.tok tk, rfl, fin0 hr (.bl b) q⟩
      split at h
      · rename_i cs
        split at h
        · rename_i b eb
          obtain ⟨a, vs, rfl, hq, rs⟩ := TR.tupI sv hr r2
          cases ru2
          obtain ⟨its, rvs, ⟨⟨oc, od, dt, sl⟩, ho, hc, n, hd⟩, _⟩ := I.tuple hq
          simp only at hc hd
          subst hc hd
          have ka := isa_any io r1 ek rs rvs eb
          rw [← sv.K] at ka
          exact PySem.W.kia_tup Z I.kIn p ho ka hx (fin h)
        · exact h.elim
      · rename_i q _
        split at h
        · rename_i b eb
          have ka := isa_one io r1 ek r2 ru2 eb
          rw [← sv.K] at ka
          exact PySem.W.kia_one Z I.kIn p ka hx (fin h)
        · exact h.elim
    · exact h.elim
  · exact h.elim
end
end
end TL

set_option Elab.async false
set_option linter.all false
set_option maxRecDepth 100000
set_option maxHeartbeats 2000000
set_option autoImplicit false
/-! TL4: the rules of expressions, lifted. -/
namespace TL
open PySem PySem.Spec PyProof.Rows L2

section
variable {c : Ct} {X : Cx} {B : Wd} {F F1 : FF} {S S1 : SS} {H H1 : Hp} {τ : Sg} {σ : St}
/-- a reading is entered -/
theorem inE {d : DE} {P : KQ} {Q : VK} (l : B.le ⟨F, S, H⟩) (hr : HRel c F S H) (sr : SRel c F τ σ) (h : d τ S P) (q : ∀ v H', out c F S H P v H' → Q v H') : lift c B d σ H Q := ⟨F, τ, S, P, l, hr, sr, h, q⟩
theorem inT {d : DT} {P : Bool → SS → Prop} {Q : Bool → Hp → Prop} (l : B.le ⟨F, S, H⟩) (hr : HRel c F S H) (sr : SRel c F τ σ) (h : d τ S P) (q : ∀ v H', outT c F S H P v H' → Q v H') : liftT c B d σ H Q := ⟨F, τ, S, P, l, hr, sr, h, q⟩
theorem inA {d : DA} {P : List T → SS → Prop} {Q : List V → Hp → Prop} (l : B.le ⟨F, S, H⟩) (hr : HRel c F S H) (sr : SRel c F τ σ) (h : d τ S P) (q : ∀ v H', outA c F S H P v H' → Q v H') : liftA c B d σ H Q := ⟨F, τ, S, P, l, hr, sr, h, q⟩

/-- operations on values, lifted -/
def liftR (c : Ct) (r : T → T → SS → KQ → Prop) : R2 := fun x y H Q => ∃ F S t1 t2 P, HRel c F S H ∧ TR c F t1 x ∧ TR c F t2 y ∧ r t1 t2 S P ∧ ∀ v H', out c F S H P v H' → Q v H'
def liftC (c : Ct) (r : List T → SS → KQ → Prop) : List V → Hp → VK → Prop := fun xs H Q => ∃ F S ts P, HRel c F S H ∧ TRs c F ts xs ∧ r ts S P ∧ ∀ v H', out c F S H P v H' → Q v H'
theorem BinOk.opR {f : Value → Value → Sem Value} {r : T → T → SS → KQ → Prop} (h : BinOk c X f r) : OpR X f (liftR c r) := by
  intro pins s σ H x y v u Q I rx ry ⟨F, S, t1, t2, P, hr, tx, ty, q, k⟩
  exact mn (h pins s σ H F S x y v u t1 t2 P I hr rx ry tx ty q) fun _ _ ⟨w, H', I', rw', o⟩ => ⟨w, H', I', rw', k w H' o⟩
theorem IxOk.ixR {r : T → T → SS → KQ → Prop} (h : IxOk c X r) : IxR X (liftR c r) := by
  intro value slice pins s σ H x y v u Q I rx ry ⟨F, S, t1, t2, P, hr, tx, ty, q, k⟩ hs
  exact mn (h value slice pins s σ H F S x y v u t1 t2 P I hr rx ry tx ty q hs) fun _ _ ⟨w, H', I', rw', o⟩ => ⟨w, H', I', rw', k w H' o⟩
theorem CallOk.callR {f : Value} {r : List T → SS → KQ → Prop} (h : CallOk c X f r) : CallR X f (liftC c r) := by
  intro pins s σ H xs us Q I rv ⟨F, S, ts, P, hr, tx, q, k⟩
  exact mn (h pins s σ H F S xs us ts P I hr rv tx q) fun _ _ ⟨w, H', I', rw', o⟩ => ⟨w, H', I', rw', k w H' o⟩

/-- two readings, then an operation -/
def opD (r : T → T → SS → KQ → Prop) (da db : DE) : DE := fun τ S Q => da τ S fun x S1 => db τ S1 fun y S2 => r x y S2 Q
theorem op_in {da db : DE} {r : T → T → SS → KQ → Prop} {Q : VK} (h : lift c B (opD r da db) σ H Q) : tOp (liftR c r) (lift c B da) (lift c B db) σ H Q := by
  obtain ⟨F, τ, S, P, l, hr, sr, h, k⟩ := h
  refine inE l hr sr h fun x H1 ⟨F1, t1, S1, l1, hr1, tr1, q1⟩ => ?_
  refine inE (l.trans l1) hr1 (sr.mono l1.fr) q1 fun y H2 ⟨F2, t2, S2, l2, hr2, tr2, q2⟩ => ?_
  exact ⟨F2, S2, t1, t2, P, hr2, tr1.mono l2.fr, tr2, q2, fun v H' o => k v H' (o.mono (l1.trans l2))⟩

variable {a b e : Expr} {da db : DE} {pos : Pos}
def rdD (i : Nat) : DE := fun τ S Q => match τ[i]? with
  | some (some t) => Q t S
  | _ => False
theorem l_var {i : Nat} {x : Str} (hN : X.N[i]? = some x) (hv : Vis X.env.scope x) (hd : (x == ("__debug__" : Str)) = false) (hcd : (x == ("__classdict__" : Str)) = false) : PE X (.Name x pos) (lift c B (rdD i)) :=
  toL (pe_var hN hv hd hcd) fun σ H F τ S P l hr sr h => by
    unfold rdD at h
    split at h
    · rename_i e
      obtain ⟨v, e1, r1⟩ := sr.at_ _ _ e
      exact ⟨v, e1, F, _, S, Wd.le.refl, hr, r1, h⟩
    · exact h.elim
def cD (t : T) : DE := fun _ S Q => Q t S
theorem l_val {t : T} {v : V} (h : PE X e (tC v)) (r : ∀ F, TR c F t v) : PE X e (lift c B (cD t)) :=
  toL h fun σ H F τ S P l hr sr h => ⟨F, t, S, Wd.le.refl, hr, r F, h⟩
theorem l_glo (sv : Sv c X) {x : Str} {t : T} (hg : Gl X x) (hd : (x == ("__debug__" : Str)) = false) (h : c.glo x = some t) : PE X (.Name x pos) (lift c B (cD t)) := by
  refine ⟨fun pins s σ H Q I ⟨F, τ, S, P, l, hr, sr, hd', q⟩ => ?_⟩
  obtain ⟨v, u, e1, e2, e3⟩ := hr.glo x t h
  exact (pe_glob hg (by rw [sv.mg]; exact e1) e2 hd).run pins s σ H Q I (q v H ⟨F, t, S, Wd.le.refl, hr, e3, hd'⟩)
theorem _root_.L2.PE.sub {e : Expr} {t u : TE} (h : PE X e t) (k : ∀ σ H Q, u σ H Q → t σ H Q) : PE X e u := ⟨fun pins s σ H Q I q => h.run pins s σ H Q I (k σ H Q q)⟩
theorem _root_.L2.PT.sub {e : Expr} {t u : TT} (h : PT X e t) (k : ∀ σ H Q, u σ H Q → t σ H Q) : PT X e u := ⟨fun pins s σ H Q I q => h.run pins s σ H Q I (k σ H Q q)⟩
theorem _root_.L2.PW.sub {e : Expr} {t u : TT} (h : PW X e t) (k : ∀ σ H Q, u σ H Q → t σ H Q) : PW X e u := ⟨fun w pins s σ H Q I q => h.run w pins s σ H Q I (k σ H Q q)⟩
theorem _root_.L2.PA.sub {e : List Expr} {t u : TA} (h : PA X e t) (k : ∀ σ H Q, u σ H Q → t σ H Q) : PA X e u := ⟨fun w pins s σ H Q I q => h.run w pins s σ H Q I (k σ H Q q)⟩
/-- a value that is a bool, as a test -/
def asB (P : Bool → SS → Prop) : KQ := fun x S1 => match x with
  | .bl k => P k S1
  | _ => False
def asI (P : Int → SS → Prop) : KQ := fun x S1 => match x with
  | .int k => P k S1
  | _ => False
theorem out.asI {P : Int → SS → Prop} {x : V} {H' : Hp} (o : out c F S H (asI P) x H') : ∃ k F' S', x = .int k ∧ Wd.le ⟨F, S, H⟩ ⟨F', S', H'⟩ ∧ HRel c F' S' H' ∧ P k S' := by
  obtain ⟨F', t, S', l1, hr1, tr, p⟩ := o
  unfold TL.asI at p
  split at p
  · exact ⟨_, F', S', tr.intI, l1, hr1, p⟩
  · exact p.elim
def tstD (d : DE) : DT := fun τ S Q => d τ S (asB Q)
theorem out.bl {P : Bool → SS → Prop} {x : V} {H' : Hp} (o : out c F S H (asB P) x H') : ∃ k, x = .bl k ∧ outT c F S H P k H' := by
  obtain ⟨F', t, S', l1, hr1, tr, p⟩ := o
  unfold asB at p
  split at p
  · exact ⟨_, tr.blI, F', S', l1, hr1, p⟩
  · exact p.elim
theorem tst_in {d : DE} {t : TE} (k : ∀ σ H Q, lift c B d σ H Q → t σ H Q) {σ : St} {H : Hp} {Q : Bool → Hp → Prop} (h : liftT c B (tstD d) σ H Q) : tTest t σ H Q := by
  obtain ⟨F, τ, S, P, l, hr, sr, h, q⟩ := h
  refine k σ H _ ⟨F, τ, S, asB P, l, hr, sr, h, fun v H' o => ?_⟩
  obtain ⟨b, rfl, o'⟩ := o.bl
  exact ⟨b, rfl, q b H' o'⟩
theorem l_bin {op : Operator} {r : T → T → SS → KQ → Prop} (ho : BinOk c X (binaryOp op) r) (ha : PE X a (lift c B da)) (hb : PE X b (lift c B db)) : PE X (.BinOp a op b pos) (lift c B (opD r da db)) := (pe_op ho.opR ha hb).sub fun _ _ _ => op_in
theorem l_cmp {op : CmpOp} {r : T → T → SS → KQ → Prop} (ho : BinOk c X (compareOp op) r) (ha : PE X a (lift c B da)) (hb : PE X b (lift c B db)) (hm : behindInMarks op b = false) : PE X (.Compare a [op] [b] pos) (lift c B (opD r da db)) := (pe_cmpR ho.opR ha hb hm).sub fun _ _ _ => op_in
theorem l_tcmp {op : CmpOp} {r : T → T → SS → KQ → Prop} (ho : BinOk c X (compareOp op) r) (ha : PE X a (lift c B da)) (hb : PE X b (lift c B db)) (hm : behindInMarks op b = false) : PT X (.Compare a [op] [b] pos) (liftT c B (tstD (opD r da db))) :=
  (pt_cmpR ho.opR ha hb hm).sub fun _ _ _ => tst_in fun _ _ _ => op_in
/-- a < b < c -/
def chK (k : SS → KQ → Prop) (Q : KQ) : KQ := fun z S3 => match z with
  | .bl true => k S3 Q
  | .bl false => Q (.bl false) S3
  | _ => False
def chD (r r' : T → T → SS → KQ → Prop) (da db dc : DE) : DE := fun τ S Q => da τ S fun x S1 => db τ S1 fun y S2 => r x y S2 (chK (fun S3 Q => dc τ S3 fun w S4 => r' y w S4 Q) Q)
theorem ch_in {da db dc : DE} {r r' : T → T → SS → KQ → Prop} {Q : VK} (h : lift c B (chD r r' da db dc) σ H Q) : tChain (liftR c r) (liftR c r') (lift c B da) (lift c B db) (lift c B dc) σ H Q := by
  obtain ⟨F, τ, S, P, l, hr, sr, h, k⟩ := h
  refine inE l hr sr h fun x H1 ⟨F1, t1, S1, l1, hr1, tr1, q1⟩ => ?_
  refine inE (l.trans l1) hr1 (sr.mono l1.fr) q1 fun y H2 ⟨F2, t2, S2, l2, hr2, tr2, q2⟩ => ?_
  refine ⟨F2, S2, t1, t2, _, hr2, tr1.mono l2.fr, tr2, q2, fun v H' ⟨F3, t3, S3, l3, hr3, tr3, q3⟩ => ?_⟩
  have l13 := l1.trans (l2.trans l3)
  unfold chK at q3
  split at q3
  · cases tr3
    refine ⟨true, rfl, ?_⟩
    rw [if_pos rfl]
    refine inE (l.trans l13) hr3 (sr.mono l13.fr) q3 fun w H4 ⟨F4, t4, S4, l4, hr4, tr4, q4⟩ => ?_
    exact ⟨F4, S4, t2, t4, P, hr4, (tr2.mono l3.fr).mono l4.fr, tr4, q4, fun v H' o => k v H' (o.mono (l13.trans l4))⟩
  · cases tr3
    refine ⟨false, rfl, ?_⟩
    rw [if_neg Bool.false_ne_true]
    exact k _ _ ⟨F3, .bl false, S3, l13, hr3, .bl false, q3⟩
  · exact q3.elim
theorem l_chain {op op' : CmpOp} {r r' : T → T → SS → KQ → Prop} {dc : DE} {cc : Expr} (ho : BinOk c X (compareOp op) r) (ho' : BinOk c X (compareOp op') r') (ha : PE X a (lift c B da)) (hb : PE X b (lift c B db)) (hc : PE X cc (lift c B dc)) (hm : lastMarks [op, op'] [b, cc] = false) :
    PE X (.Compare a [op, op'] [b, cc] pos) (lift c B (chD r r' da db dc)) := (pe_chain ho.opR ho'.opR ha hb hc hm).sub fun _ _ _ => ch_in
theorem l_tchain {op op' : CmpOp} {r r' : T → T → SS → KQ → Prop} {dc : DE} {cc : Expr} (ho : BinOk c X (compareOp op) r) (ho' : BinOk c X (compareOp op') r') (ha : PE X a (lift c B da)) (hb : PE X b (lift c B db)) (hc : PE X cc (lift c B dc)) (hm : lastMarks [op, op'] [b, cc] = false) :
    PT X (.Compare a [op, op'] [b, cc] pos) (liftT c B (tstD (chD r r' da db dc))) := (pt_chain ho.opR ho'.opR ha hb hc hm).sub fun _ _ _ => tst_in fun _ _ _ => ch_in

/-! ### truth -/
def truR (t : T) (S : SS) (Q : Bool → SS → Prop) : Prop :=
  match t with
  | .non => Q false S
  | .bl b => Q b S
  | .int i => Q (i != 0) S
  | .str x => x.length ≤ sizeLine ∧ Q ((x.length : Int) != 0) S
  | t => (match sqOf S t with
    | some l => Q (!l.isEmpty) S
    | none => False)
theorem tru_in (sv : Sv c X) {t : T} {v : V} {Q : Bool → SS → Prop} (hr : HRel c F S H) (tr : TR c F t v) (h : truR t S Q) : ∃ k, TruV X.K v H k ∧ Q k S := by
  unfold truR at h
  split at h
  · cases tr; exact ⟨false, rfl, h⟩
  · cases tr; exact ⟨_, rfl, h⟩
  · cases tr; exact ⟨_, rfl, h⟩
  · cases tr; exact ⟨_, ⟨h.1, rfl⟩, h.2⟩
  · split at h
    · rename_i l e
      obtain ⟨a, vs, rfl, q1, r1⟩ := sqOfI sv hr tr e
      have e2 : (!vs.isEmpty) = !l.isEmpty := by
        cases r1 with
        | nil => rfl
        | cons _ _ => rfl
      rcases q1 with q1 | q1
      · exact ⟨_, .inl ⟨vs, q1, rfl⟩, by rw [e2]; exact h⟩
      · exact ⟨_, .inr (.inl ⟨vs, q1, rfl⟩), by rw [e2]; exact h⟩
    · exact h.elim
def truD (d : DE) : DT := fun τ S Q => d τ S fun x S1 => truR x S1 Q
theorem l_truth (sv : Sv c X) (ha : PE X a (lift c B da)) (he : ∀ whole, isTrue a X.env whole = (do let v ← whole; standAt a.pos; holding [v] (truthy v))) : PT X a (liftT c B (truD da)) := by
  refine (pt_truth ha he).sub fun σ H Q ⟨F, τ, S, P, l, hr, sr, h, q⟩ => ?_
  refine inE l hr sr h fun x H1 ⟨F1, t1, S1, l1, hr1, tr1, q1⟩ => ?_
  obtain ⟨k, e, q1⟩ := tru_in sv hr1 tr1 q1
  exact ⟨k, e, q k H1 ⟨F1, S1, l1, hr1, q1⟩⟩
/-! ### and, or, not -/
variable {ta tb : DT} {rest : List Expr}
def andT (ta tb : DT) : DT := fun τ S Q => ta τ S fun k S1 => match k with
  | true => tb τ S1 Q
  | false => Q false S1
def orT (ta tb : DT) : DT := fun τ S Q => ta τ S fun k S1 => match k with
  | true => Q true S1
  | false => tb τ S1 Q
def notT (ta : DT) : DT := fun τ S Q => ta τ S fun k S1 => Q (!k) S1
theorem l_and1 (ha : PT X a (liftT c B ta)) : PW X (.BoolOp .And [a] pos) (liftT c B ta) := pw_and1 ha
theorem l_or1 (ha : PT X a (liftT c B ta)) : PW X (.BoolOp .Or [a] pos) (liftT c B ta) := pw_or1 ha
theorem l_and (ha : PT X a (liftT c B ta)) (hb : PW X (.BoolOp .And (b :: rest) pos) (liftT c B tb)) : PW X (.BoolOp .And (a :: b :: rest) pos) (liftT c B (andT ta tb)) := by
  refine PW.sub (pw_and ha hb) fun σ H Q ⟨F, τ, S, P, l, hr, sr, h, q⟩ => ?_
  refine inT l hr sr h fun k H1 ⟨F1, S1, l1, hr1, q1⟩ => ?_
  cases k with
  | true =>
    rw [if_pos rfl]
    exact inT (l.trans l1) hr1 (sr.mono l1.fr) q1 fun k H2 o => q k H2 (o.mono l1)
  | false =>
    rw [if_neg Bool.false_ne_true]
    exact q _ _ ⟨F1, S1, l1, hr1, q1⟩
theorem l_or (ha : PT X a (liftT c B ta)) (hb : PW X (.BoolOp .Or (b :: rest) pos) (liftT c B tb)) : PW X (.BoolOp .Or (a :: b :: rest) pos) (liftT c B (orT ta tb)) := by
  refine PW.sub (pw_or ha hb) fun σ H Q ⟨F, τ, S, P, l, hr, sr, h, q⟩ => ?_
  refine inT l hr sr h fun k H1 ⟨F1, S1, l1, hr1, q1⟩ => ?_
  cases k with
  | false =>
    rw [if_neg Bool.false_ne_true]
    exact inT (l.trans l1) hr1 (sr.mono l1.fr) q1 fun k H2 o => q k H2 (o.mono l1)
  | true =>
    rw [if_pos rfl]
    exact q _ _ ⟨F1, S1, l1, hr1, q1⟩
theorem l_not (ha : PT X a (liftT c B ta)) : PT X (.UnaryOp .Not a pos) (liftT c B (notT ta)) := by
  refine (pt_not ha).sub fun σ H Q ⟨F, τ, S, P, l, hr, sr, h, q⟩ => ?_
  exact inT l hr sr h fun k H1 ⟨F1, S1, l1, hr1, q1⟩ => q _ _ ⟨F1, S1, l1, hr1, q1⟩
/-! .. as values -/
def blK (k : Bool → SS → Prop) : KQ := asB k
def andE (da db : DE) : DE := fun τ S Q => da τ S (asB fun k S1 => match k with
  | true => db τ S1 Q
  | false => Q (.bl false) S1)
def orE (da db : DE) : DE := fun τ S Q => da τ S (asB fun k S1 => match k with
  | true => Q (.bl true) S1
  | false => db τ S1 Q)
def notE (da : DE) : DE := fun τ S Q => da τ S fun x S1 => truR x S1 fun k S2 => Q (.bl (!k)) S2
theorem l_one {op : BoolOp} (ha : PE X a (lift c B da)) : PE X (.BoolOp op [a] pos) (lift c B da) := pe_one ha
theorem l_andE (ha : PE X a (lift c B da)) (hb : PE X (.BoolOp .And (b :: rest) pos) (lift c B db)) : PE X (.BoolOp .And (a :: b :: rest) pos) (lift c B (andE da db)) := by
  refine (pe_and ha hb).sub fun σ H Q ⟨F, τ, S, P, l, hr, sr, h, q⟩ => ?_
  refine inE l hr sr h fun x H1 o => ?_
  obtain ⟨k, rfl, F1, S1, l1, hr1, q1⟩ := o.bl
  refine ⟨k, rfl, ?_⟩
  cases k with
  | true =>
    rw [if_pos rfl]
    exact inE (l.trans l1) hr1 (sr.mono l1.fr) q1 fun k H2 o => q k H2 (o.mono l1)
  | false =>
    rw [if_neg Bool.false_ne_true]
    exact q _ _ ⟨F1, .bl false, S1, l1, hr1, .bl false, q1⟩
theorem l_orE (ha : PE X a (lift c B da)) (hb : PE X (.BoolOp .Or (b :: rest) pos) (lift c B db)) : PE X (.BoolOp .Or (a :: b :: rest) pos) (lift c B (orE da db)) := by
  refine (pe_or ha hb).sub fun σ H Q ⟨F, τ, S, P, l, hr, sr, h, q⟩ => ?_
  refine inE l hr sr h fun x H1 o => ?_
  obtain ⟨k, rfl, F1, S1, l1, hr1, q1⟩ := o.bl
  refine ⟨k, rfl, ?_⟩
  cases k with
  | false =>
    rw [if_neg Bool.false_ne_true]
    exact inE (l.trans l1) hr1 (sr.mono l1.fr) q1 fun k H2 o => q k H2 (o.mono l1)
  | true =>
    rw [if_pos rfl]
    exact q _ _ ⟨F1, .bl true, S1, l1, hr1, .bl true, q1⟩
theorem l_notE (sv : Sv c X) (ha : PE X a (lift c B da)) : PE X (.UnaryOp .Not a pos) (lift c B (notE da)) := by
  refine (pe_notT ha).sub fun σ H Q ⟨F, τ, S, P, l, hr, sr, h, q⟩ => ?_
  refine inE l hr sr h fun x H1 ⟨F1, t1, S1, l1, hr1, tr1, q1⟩ => ?_
  obtain ⟨k, e, q1⟩ := tru_in sv hr1 tr1 q1
  exact ⟨k, e, q _ _ ⟨F1, .bl _, S1, l1, hr1, .bl _, q1⟩⟩
def negR (da : DE) : DE := fun τ S Q => da τ S (asI fun i S1 => Q (.int (-i)) S1)
theorem l_neg (ha : PE X a (lift c B da)) : PE X (.UnaryOp .USub a pos) (lift c B (negR da)) := by
  refine (pe_un un_neg ha).sub fun σ H Q ⟨F, τ, S, P, l, hr, sr, h, q⟩ => ?_
  refine inE l hr sr h fun x H1 o => ?_
  obtain ⟨i, F1, S1, rfl, l1, hr1, q1⟩ := o.asI
  exact ⟨_, rfl, q _ _ ⟨F1, .int _, S1, l1, hr1, .int _, q1⟩⟩
def ifE (tc : DT) (da db : DE) : DE := fun τ S Q => tc τ S fun k S1 => match k with
  | true => da τ S1 Q
  | false => db τ S1 Q
theorem l_ifE {cc : Expr} {tc : DT} (hc : PT X cc (liftT c B tc)) (ha : PE X a (lift c B da)) (hb : PE X b (lift c B db)) : PE X (.IfExp cc a b pos) (lift c B (ifE tc da db)) := by
  refine (pe_ifExp hc ha hb).sub fun σ H Q ⟨F, τ, S, P, l, hr, sr, h, q⟩ => ?_
  refine inT l hr sr h fun k H1 ⟨F1, S1, l1, hr1, q1⟩ => ?_
  cases k with
  | true =>
    rw [if_pos rfl]
    exact inE (l.trans l1) hr1 (sr.mono l1.fr) q1 fun k H2 o => q k H2 (o.mono l1)
  | false =>
    rw [if_neg Bool.false_ne_true]
    exact inE (l.trans l1) hr1 (sr.mono l1.fr) q1 fun k H2 o => q k H2 (o.mono l1)

/-! ### lists of expressions -/
variable {es : List Expr} {dA : DA}
def nilA : DA := fun _ S Q => Q [] S
def consA (d : DE) (dr : DA) : DA := fun τ S Q => d τ S fun x S1 => dr τ S1 fun xs S2 => Q (x :: xs) S2
theorem l_nilA : PA X [] (liftA c B nilA) := pa_nil.sub fun σ H Q ⟨F, τ, S, P, l, hr, sr, h, q⟩ => q _ _ ⟨F, [], S, Wd.le.refl, hr, .nil, h⟩
def isStar : Expr → Bool
  | .Starred _ _ => true
  | _ => false
theorem star_cons {e : Expr} {es : List Expr} {env : Env} (h : isStar e = false) : starEach (e :: es) env = (false, eval e env) :: starEach es env := by
  cases e <;> first | (cases h; done) | rfl
theorem l_consA (ha : PE X a (lift c B da)) (hr : PA X es (liftA c B dA)) (hs : isStar a = false) : PA X (a :: es) (liftA c B (consA da dA)) := by
  refine (pa_cons ha hr (star_cons hs)).sub fun σ H Q ⟨F, τ, S, P, l, hr, sr, h, q⟩ => ?_
  refine inE l hr sr h fun x H1 ⟨F1, t1, S1, l1, hr1, tr1, q1⟩ => ?_
  refine inA (l.trans l1) hr1 (sr.mono l1.fr) q1 fun xs H2 ⟨F2, ts, S2, l2, hr2, tr2, q2⟩ => ?_
  exact q _ _ ⟨F2, t1 :: ts, S2, l1.trans l2, hr2, .cons (tr1.mono l2.fr) tr2, q2⟩
def tupD (d : DA) : DE := fun τ S Q => d τ S fun ts S1 => ts.length ≤ sizeLine ∧ Q (.tup ts) S1
def lstD (mu : Bool) (d : DA) : DE := fun τ S Q => d τ S fun ts S1 => ts.length ≤ sizeLine ∧ newL mu ts S1 Q
theorem l_tup (sv : Sv c X) {x1} (h : PA X es (liftA c B dA)) : PE X (.Tuple es x1 pos) (lift c B (tupD dA)) := by
  refine (pe_tup h).sub fun σ H Q ⟨F, τ, S, P, l, hr, sr, h, q⟩ => ?_
  refine inA l hr sr h fun xs H1 ⟨F1, ts, S1, l1, hr1, tr1, z, q1⟩ => ?_
  exact ⟨by rw [← tr1.length]; exact z, fun p hp => q _ _ ((finT sv hr1 tr1 q1 p hp).mono l1)⟩
theorem l_lst (sv : Sv c X) (mu : Bool) (h : PA X es (liftA c B dA)) : PE X (.List es pos) (lift c B (lstD mu dA)) := by
  refine (pe_lst h).sub fun σ H Q ⟨F, τ, S, P, l, hr, sr, h, q⟩ => ?_
  refine inA l hr sr h fun xs H1 ⟨F1, ts, S1, l1, hr1, tr1, z, q1⟩ => ?_
  exact ⟨by rw [← tr1.length]; exact z, fun p hp => q _ _ ((finL sv hr1 tr1 q1 p hp).mono l1)⟩

/-! ### subscripts -/
theorem l_ix {r : T → T → SS → KQ → Prop} (ho : IxOk c X r) (ha : PE X a (lift c B da)) (hb : PE X b (lift c B db)) (hs : PlainIx b) : PE X (.Subscript a b pos) (lift c B (opD r da db)) := (pe_ix ho.ixR ha hb hs).sub fun _ _ _ => op_in
def plainIx : Expr → Bool
  | .Name _ _ => true
  | .Constant _ _ _ => true
  | .BinOp _ _ _ _ => true
  | .UnaryOp _ _ _ => true
  | .Subscript _ _ _ => true
  | .Call _ _ _ _ => true
  | .IfExp _ _ _ _ => true
  | .Attribute _ _ _ => true
  | _ => false
theorem plainIx_of {b : Expr} (h : plainIx b = true) : PlainIx b := by
  cases b <;> first | (cases h; done) | exact fun _ _ => rfl
/-- a bound of a slice -/
abbrev DO := Sg → SS → (Option Int → SS → Prop) → Prop
def noneO : DO := fun _ S Q => Q none S
def someO (d : DE) : DO := fun τ S Q => d τ S (asI fun i S1 => Q (some i) S1)
def slD (mu : Bool) (d : DE) (dl dh : DO) : DE := fun τ S Q => d τ S fun x S1 => dl τ S1 fun l S2 => dh τ S2 fun h S3 => slR mu x l h S3 Q
def outO (c : Ct) (F : FF) (S : SS) (H : Hp) (P : Option Int → SS → Prop) : Option Int → Hp → Prop := fun b H' => ∃ F' S', Wd.le ⟨F, S, H⟩ ⟨F', S', H'⟩ ∧ HRel c F' S' H' ∧ P b S'
def liftO (c : Ct) (B : Wd) (d : DO) : TO := fun σ H Q => ∃ F τ S P, B.le ⟨F, S, H⟩ ∧ HRel c F S H ∧ SRel c F τ σ ∧ d τ S P ∧ ∀ v H', outO c F S H P v H' → Q v H'
theorem _root_.L2.PO.sub {e : Option Expr} {t u : TO} (h : PO X e t) (k : ∀ σ H Q, u σ H Q → t σ H Q) : PO X e u := ⟨fun pins s σ H Q I q => h.run pins s σ H Q I (k σ H Q q)⟩
theorem l_noneO : PO X none (liftO c B noneO) := PO.sub po_none fun σ H Q ⟨F, τ, S, P, l, hr, sr, h, q⟩ => q _ _ ⟨F, S, Wd.le.refl, hr, h⟩
theorem l_someO (ha : PE X a (lift c B da)) : PO X (some a) (liftO c B (someO da)) := by
  refine PO.sub (po_some ha) fun σ H Q ⟨F, τ, S, P, l, hr, sr, h, q⟩ => ?_
  refine inE l hr sr h fun x H1 o => ?_
  obtain ⟨i, F1, S1, rfl, l1, hr1, q1⟩ := o.asI
  exact ⟨_, rfl, q _ _ ⟨F1, S1, l1, hr1, q1⟩⟩
theorem l_slice (sv : Sv c X) (mu : Bool) {lo hi : Option Expr} {dl dh : DO} {p2 : Pos} (ha : PE X a (lift c B da)) (hl : PO X lo (liftO c B dl)) (hh : PO X hi (liftO c B dh)) : PE X (.Subscript a (.Slice lo hi none p2) pos) (lift c B (slD mu da dl dh)) := by
  refine (pe_slice sl_any ha hl hh).sub fun σ H Q ⟨F, τ, S, P, l, hr, sr, h, q⟩ => ?_
  refine inE l hr sr h fun x H1 ⟨F1, t1, S1, l1, hr1, tr1, q1⟩ => ?_
  refine ⟨F1, τ, S1, _, l.trans l1, hr1, sr.mono l1.fr, q1, fun lo' H2 ⟨F2, S2, l2, hr2, q2⟩ => ?_⟩
  have l12 := l1.trans l2
  refine ⟨F2, τ, S2, _, l.trans l12, hr2, sr.mono l12.fr, q2, fun hi' H3 ⟨F3, S3, l3, hr3, q3⟩ => ?_⟩
  have k := slR_V sv hr3 (tr1.mono (l2.trans l3).fr) q3
  have mono : ∀ {Q1 Q2 : VK}, (∀ v H', Q1 v H' → Q2 v H') → slV X.K x lo' hi' H3 Q1 → slV X.K x lo' hi' H3 Q2 := fun {Q1 Q2} m z => by
    rcases z with ⟨y, e, z, w⟩ | ⟨p, xs, e, sq, h1, h2⟩ | ⟨p, xs, e, sq, h1⟩
    · exact .inl ⟨y, e, z, m _ _ w⟩
    · exact .inr (.inl ⟨p, xs, e, sq, fun w => m _ _ (h1 w), fun w r hr => m _ _ (h2 w r hr)⟩)
    · exact .inr (.inr ⟨p, xs, e, sq, fun r hr => m _ _ (h1 r hr)⟩)
  exact mono (fun v H' o => q v H' (o.mono (l12.trans l3))) k
end
end TL

set_option Elab.async false
set_option linter.all false
set_option maxRecDepth 100000
set_option maxHeartbeats 2000000
set_option autoImplicit false
/-! TL5: calls, methods, the defs' promises. -/
namespace TL
open PySem PySem.Spec PyProof.Rows L2

section
variable {c : Ct} {X : Cx} {B : Wd} {F F1 : FF} {S S1 : SS} {H H1 : Hp} {τ : Sg} {σ : St} {a b e : Expr} {es : List Expr} {da db : DE} {dA : DA} {pos p : Pos}

/-! ### no star -/
theorem star_any {es : List Expr} {env : Env} {pos : Pos} (h : es.all (fun e => !isStar e) = true) : (backTo pos (starEach es env)).any (·.1) = false := by
  induction es with
  | nil => rfl
  | cons e es ih =>
    simp only [List.all_cons, Bool.and_eq_true, Bool.not_eq_true'] at h
    rw [star_cons h.1]
    show (false || (backTo pos (starEach es env)).any (·.1)) = false
    rw [ih h.2] <;> rfl
theorem star_all {es : List Expr} {env : Env} {pos : Pos} (h : es.all (fun e => !isStar e) = true) : (backTo pos (starEach es env)).all (fun x => !x.1) = true := by
  induction es with
  | nil => rfl
  | cons e es ih =>
    simp only [List.all_cons, Bool.and_eq_true, Bool.not_eq_true'] at h
    rw [star_cons h.1]
    show (true && (backTo pos (starEach es env)).all (fun x => !x.1)) = true
    rw [ih h.2] <;> rfl

/-! ### built-ins -/
def callB (r : List T → SS → KQ → Prop) (d : DA) : DE := fun τ S Q => d τ S fun ts S1 => r ts S1 Q
theorem cb_in {r : List T → SS → KQ → Prop} {Q : VK} (h : lift c B (callB r dA) σ H Q) : tCB (liftC c r) (liftA c B dA) σ H Q := by
  obtain ⟨F, τ, S, P, l, hr, sr, h, k⟩ := h
  exact inA l hr sr h fun xs H1 ⟨F1, ts, S1, l1, hr1, tr1, q1⟩ => ⟨F1, S1, ts, P, hr1, tr1, q1, fun v H' o => k v H' (o.mono l1)⟩
theorem l_callB {x : Str} {id : String} {r : List T → SS → KQ → Prop} (hc : CallOk c X (.builtin id) r) (hg : Gl X x) (hm : X.mg x = none) (hv : bootBuiltins x = some (.builtin id)) (ha : PA X (e :: es) (liftA c B dA)) (hn : x ≠ "__name__") (hdb : (x == ("__debug__" : Str)) = false)
    (hs : (e :: es).all (fun e => !isStar e) = true) : PE X (.Call (.Name x p) (e :: es) [] pos) (lift c B (callB r dA)) := by
  have h' := hs
  simp only [List.all_cons, Bool.and_eq_true, Bool.not_eq_true'] at h'
  exact (pe_callB hc.callR hg hm hv ha hn hdb (star_cons h'.1) (star_any h'.2)).sub fun _ _ _ => cb_in
theorem l_callT {x : Str} {id : String} {r : List T → SS → KQ → Prop} (hc : CallOk c X (.type id) r) (hg : Gl X x) (hm : X.mg x = none) (hv : bootBuiltins x = some (.type id)) (ha : PA X (e :: es) (liftA c B dA)) (hn : x ≠ "__name__") (hdb : (x == ("__debug__" : Str)) = false)
    (hs : (e :: es).all (fun e => !isStar e) = true) : PE X (.Call (.Name x p) (e :: es) [] pos) (lift c B (callB r dA)) := by
  have h' := hs
  simp only [List.all_cons, Bool.and_eq_true, Bool.not_eq_true'] at h'
  exact (pe_callTy hc.callR hg hm hv ha hn hdb (star_cons h'.1) (star_any h'.2)).sub fun _ _ _ => cb_in

/-! ### methods of built-in types -/
def MtOk (c : Ct) (X : Cx) (id : String) (r : T → List T → SS → KQ → Prop) : Prop := ∀ (H : Hp) (F : FF) (S : SS) (x : V) (xs : List V) (t : T) (ts : List T) (P : KQ), HRel c F S H → TR c F t x → TRs c F ts xs → r t ts S P →
  ∀ (pins : List (Addr × Obj)) (s : Shared) (σ : St) (v : Value) (us : List Value), Inv X pins σ H s → RelV x v → Vals xs us → wpAny (model X.prog X.w) X.A (call (.builtin id) (v :: us)) (EP X pins σ (out c F S H P)) X.xe s
theorem MtOk.of {id : String} {r : T → List T → SS → KQ → Prop} {r2 : V → List V → Hp → VK → Prop} (hm : MtR X id r2) (k : ∀ (H : Hp) (F : FF) (S : SS) (x : V) (xs : List V) (t : T) (ts : List T) (P : KQ), HRel c F S H → TR c F t x → TRs c F ts xs → r t ts S P → r2 x xs H (out c F S H P)) : MtOk c X id r :=
  fun H F S x xs t ts P hr tx txs h pins s σ v us I rx rxs => hm pins s σ H x xs v us _ I rx rxs (k H F S x xs t ts P hr tx txs h)
/-- the value's type -/
def isLs (S : SS) (t : T) : Bool := match lsOf S t with
  | some _ => true
  | none => false
def isSt : T → Bool
  | .str _ => true
  | _ => false
def tyT (S : SS) (ty : String) (t : T) : Prop := (ty = "list" ∧ isLs S t = true) ∨ (ty = "str" ∧ isSt t = true)
theorem tyT.v (sv : Sv c X) {ty : String} {t : T} {v : V} (hr : HRel c F S H) (tr : TR c F t v) (h : tyT S ty t) : tyV X.K ty v H := by
  rcases h with ⟨rfl, h⟩ | ⟨rfl, h⟩
  · unfold isLs at h
    split at h
    · rename_i e
      obtain ⟨a, vs, rfl, q1, _⟩ := lsOfI sv hr tr e
      exact .inl ⟨rfl, vs, q1.sq sv⟩
    · cases h
  · cases t <;> first | (cases h; done) | (cases tr; exact rfl)
def methD (ty : String) (r : T → List T → SS → KQ → Prop) (da : DE) (dA : DA) : DE := fun τ S Q => da τ S fun x S1 => tyT S1 ty x ∧ dA τ S1 fun ts S2 => r x ts S2 Q
theorem tyV.stay {ty : String} {v : V} : True := trivial
theorem l_meth (sv : Sv c X) {ty id : String} {name : Str} {apos : Pos} {r : T → List T → SS → KQ → Prop} (pa : PlainAttrs ty) (slot : Slot ty name id) (hty : typeOf (.builtin id) = pure (.type "method_descriptor")) (hm : MtOk c X id r) (ho : PE X a (lift c B da)) (ha : PA X (e :: es) (liftA c B dA))
    (hbase : attributeBase a name X.env (eval a X.env) = eval a X.env) (hline : (apos.endLine == pos.line) = true) (hl : (e :: es).length < 29) (hs : (e :: es).all (fun e => !isStar e) = true) : PE X (.Call (.Attribute a name apos) (e :: es) [] pos) (lift c B (methD ty r da dA)) := by
  have h' := hs
  simp only [List.all_cons, Bool.and_eq_true, Bool.not_eq_true'] at h'
  have few : ((backTo pos (starEach (e :: es) X.env)).all (fun x => !x.1) && (backToKw pos (keywordEach [] X.env)).all (fun x => x.1.isSome) && decide ((e :: es).length + ([] : List Keyword).length + (if ([] : List Keyword).isEmpty then 0 else 1) < 30)) = true := by
    rw [star_all hs]
    show (true && true && decide ((e :: es).length + 0 + 0 < 30)) = true
    simp only [Bool.true_and, decide_eq_true_eq]
    omega
  refine ⟨fun pins s σ H Q I ⟨F, τ, S, P, l, hr, sr, h, q⟩ => ?_⟩
  refine wpAny_Call_method_late hbase few hline rfl (mn (ho.run pins s σ H _ I (inE l hr sr h fun _ _ o => o)) fun v s1 ⟨x, H1, I1, r1, F1, t1, S1, l1, hr1, tr1, ty1, q1⟩ => ?_)
  obtain ⟨h1, h2⟩ := tyV_is I1 r1 (ty1.v sv hr1 tr1)
  refine ⟨ty, id, pa, slot, hty, h1, h2, ?_⟩
  have hA := ha.run pos pins s1 σ H1 _ I1 (inA (l.trans l1) hr1 (sr.mono l1.fr) q1 fun _ _ o => o)
  rw [star_cons h'.1] at hA ⊢
  refine Calls.callWith_builtin (by show (false || (backTo pos (starEach es X.env)).any (·.1)) = false; rw [star_any h'.2] <;> rfl) (Calls.evalArgs_plain ?_)
  exact mn hA fun us s2 ⟨vs, H2, I2, r2, F2, ts, S2, l2, hr2, tr2, q2⟩ => mn (hm H2 F2 S2 x vs t1 ts P hr2 (tr1.mono l2.fr) tr2 q2 pins s2 σ v us I2 r1 r2) fun u s3 ⟨w, H3, I3, r3, o⟩ => ⟨w, H3, I3, r3, q w H3 (o.mono (l1.trans l2))⟩
theorem l_meth0 (sv : Sv c X) {ty id : String} {name : Str} {apos : Pos} {r : T → List T → SS → KQ → Prop} (pa : PlainAttrs ty) (slot : Slot ty name id) (hty : typeOf (.builtin id) = pure (.type "method_descriptor")) (hm : MtOk c X id r) (ho : PE X a (lift c B da))
    (hbase : attributeBase a name X.env (eval a X.env) = eval a X.env) (hline : (apos.endLine == pos.line) = true) : PE X (.Call (.Attribute a name apos) [] [] pos) (lift c B (methD ty r da nilA)) := by
  refine ⟨fun pins s σ H Q I ⟨F, τ, S, P, l, hr, sr, h, q⟩ => ?_⟩
  refine wpAny_Call_method0_late hbase hline (mn (ho.run pins s σ H _ I (inE l hr sr h fun _ _ o => o)) fun v s1 ⟨x, H1, I1, r1, F1, t1, S1, l1, hr1, tr1, ty1, q1⟩ => ?_)
  obtain ⟨h1, h2⟩ := tyV_is I1 r1 (ty1.v sv hr1 tr1)
  refine ⟨ty, id, pa, slot, hty, h1, h2, Calls.callWith_builtin rfl (PySem.evalArgs_none ?_)⟩
  exact mn (hm H1 F1 S1 x [] t1 [] P hr1 tr1 .nil q1 pins s1 σ v [] I1 r1 .nil) fun u s3 ⟨w, H3, I3, r3, o⟩ => ⟨w, H3, I3, r3, q w H3 (o.mono l1)⟩

/-- a list of the store -/
def stL (S : SS) (t : T) : Option (Addr × List T) := match t with
  | .ref a => (match S a with
    | some (.lst l) => some (a, l)
    | _ => none)
  | _ => none
theorem stLI (hr : HRel c F S H) {t : T} {v : V} {a : Addr} {l : List T} (tr : TR c F t v) (e : stL S t = some (a, l)) : v = .ref a ∧ S a = some (.lst l) ∧ ∃ vs, H a = some (.lst vs) ∧ TRs c F l vs := by
  unfold stL at e
  split at e
  · split at e
    · rename_i q
      simp only [Option.some.injEq, Prod.mk.injEq] at e
      obtain ⟨rfl, rfl⟩ := e
      cases tr
      exact ⟨rfl, q, (hr.st _ _ q).2⟩
    · cases e
  · cases e
theorem outW {a : Addr} {l l' : List T} {vs' : List V} {P : KQ} {t : T} {v : V} (hr : HRel c F S H) (hs : S a = some (.lst l)) (r : TRs c F l' vs') (tv : TR c F t v) (q : P t (supd S a (.lst l'))) : out c F S H P v (upd H a (.lst vs')) :=
  ⟨F, t, _, le_write hs, hr.write (o' := .lst l') hs ⟨vs', upd_same, r⟩, tv, q⟩
def appendR : T → List T → SS → KQ → Prop
  | t, [y], S, Q => (match stL S t with
    | some (a, l) => l.length < sizeLine ∧ Q .non (supd S a (.lst (l ++ [y])))
    | none => False)
  | _, _, _, _ => False
theorem ok_append : MtOk c X "list.append" appendR := MtOk.of mt_append fun H F S x xs t ts P hr tx txs h => by
  unfold appendR at h
  split at h
  · split at h
    · rename_i e
      obtain ⟨rfl, hs, vs, hv, r⟩ := stLI hr tx e
      obtain ⟨y, rfl, ry⟩ := TRs.one txs
      exact ⟨_, vs, y, rfl, rfl, hv, by rw [← r.length]; exact h.1, outW hr hs (r.append (.cons ry .nil)) .non h.2⟩
    · exact h.elim
  · exact h.elim
def popR : T → List T → SS → KQ → Prop
  | t, [], S, Q => (match stL S t with
    | some (a, l) => (match l[l.length - 1]? with
      | some y => Q y (supd S a (.lst l.dropLast))
      | none => False)
    | none => False)
  | t, [.int i], S, Q => (match stL S t with
    | some (a, l) => -(2 ^ 63) ≤ i ∧ i < 2 ^ 63 ∧ (match seqIndex? i l.length with
      | some k => (match l[k]? with
        | some y => Q y (supd S a (.lst (l.eraseIdx k)))
        | none => False)
      | none => False)
    | none => False)
  | _, _, _, _ => False
theorem ok_pop : MtOk c X "list.pop" popR := MtOk.of (MtR.or mt_pop mt_popAt) fun H F S x xs t ts P hr tx txs h => by
  unfold popR at h
  split at h
  · split at h
    · rename_i e
      obtain ⟨rfl, hs, vs, hv, r⟩ := stLI hr tx e
      cases txs
      split at h
      · rename_i e2
        obtain ⟨y, e3, ry⟩ := r.get e2
        exact .inl ⟨_, vs, y, rfl, rfl, hv, by rw [← r.length]; exact e3, outW hr hs r.dropLast ry h⟩
      · exact h.elim
    · exact h.elim
  · split at h
    · rename_i e
      obtain ⟨rfl, hs, vs, hv, r⟩ := stLI hr tx e
      obtain ⟨h1, h2, h⟩ := h
      obtain ⟨y, rfl, ry⟩ := TRs.one txs
      cases ry.intI
      split at h
      · rename_i k e2
        split at h
        · rename_i e3
          obtain ⟨y, e4, ry⟩ := r.get e3
          exact .inr ⟨_, vs, _, k, y, rfl, rfl, hv, h1, h2, by rw [← r.length]; exact e2, e4, outW hr hs (r.eraseIdx k) ry h⟩
        · exact h.elim
      · exact h.elim
    · exact h.elim
  · exact h.elim
def insertR : T → List T → SS → KQ → Prop
  | t, [.int i, y], S, Q => (match stL S t with
    | some (a, l) => l.length < sizeLine ∧ 0 ≤ i ∧ i < 2 ^ 63 ∧ Q .non (supd S a (.lst (l.take i.toNat ++ [y] ++ l.drop i.toNat)))
    | none => False)
  | _, _, _, _ => False
theorem ok_insert : MtOk c X "list.insert" insertR := MtOk.of mt_insert fun H F S x xs t ts P hr tx txs h => by
  unfold insertR at h
  split at h
  · split at h
    · rename_i e
      obtain ⟨rfl, hs, vs, hv, r⟩ := stLI hr tx e
      obtain ⟨i, y, rfl, ri, ry⟩ := TRs.two txs
      cases ri.intI
      exact ⟨_, vs, _, y, rfl, rfl, hv, by rw [← r.length]; exact h.1, h.2.1, h.2.2.1, outW hr hs (((r.take _).append (.cons ry .nil)).append (r.drop _)) .non h.2.2.2⟩
    · exact h.elim
  · exact h.elim
end

/-! ### what a def promises, by trees -/
abbrev TSp := List T → SS → KQ → (Exn → SS → Prop) → Prop
def liftSp (c : Ct) (sp : TSp) : Sp := fun vs H Q E => ∃ F S ts P EW, HRel c F S H ∧ TRs c F ts vs ∧ sp ts S P EW ∧ (∀ v H', out c F S H P v H' → Q v H') ∧
  ∀ x S' F' H' cls d, EW x S' → Wd.le ⟨F, S, H⟩ ⟨F', S', H'⟩ → HRel c F' S' H' → XRel c.tc F' x cls d → E cls d H'
structure FnG (c : Ct) (P : Program) (w : World) (K : PySem.W.Frag) (mg : Str → Option Value) (base : Heap) (k : Nat) (f : Addr) (fd : FuncData) (ps : List Str) (sp : TSp) : Prop where
  len : ∀ ts S Q E, sp ts S Q E → ts.length = ps.length
  run : ∀ (A : Around) (outer : List Env) (s : Shared) (H : Hp) (args : Args) (us : List Value) (vs : List V) (Q : VK) (E : XK), Room k A → A.guards = some [] → Env0 P w K mg base A outer s H → BindsTo s fd args (ps.zip us) → Vals vs us → liftSp c sp vs H Q E →
    codeAny (model P w) A (.call (.ref f) args) (CR (L2.CX P w) outer P w H s Q E) s
section
variable {c : Ct} {X : Cx} {B : Wd} {F F1 : FF} {S S1 : SS} {H H1 : Hp} {τ : Sg} {σ : St} {a b e : Expr} {es : List Expr} {da db : DE} {dA : DA} {pos p : Pos}
def callF (sp : TSp) (W : XW) (d : DA) : DE := fun τ S Q => d τ S fun ts S1 => sp ts S1 Q fun x S2 => W x τ S2
theorem run_fnG {k : Nat} {f : Addr} {fd : FuncData} {ps : List Str} {sp : TSp} {W : XW} {pins : List (Addr × Obj)} {s : Shared} {P : KQ} {ts : List T} {vs : List V} {us : List Value} (G : FnG c X.prog X.w X.K X.mg X.base k f fd ps sp) (hr : Room k X.A) (hgd : X.A.guards = some []) (hb : Binds X.K fd ps []) (tk : Takes X (liftX c B W))
    (I : Inv X pins σ H s) (r : Vals vs us) (l : B.le ⟨F, S, H⟩) (hr' : HRel c F S H) (sr : SRel c F τ σ) (tr : TRs c F ts vs) (h : sp ts S P fun x S2 => W x τ S2) : wpAny (model X.prog X.w) X.A (call (.ref f) us) (EP X pins σ (out c F S H P)) X.xe s := by
  have hl : (us ++ []).length = ps.length := by rw [List.append_nil, ← r.length, ← tr.length]; exact G.len _ _ _ _ h
  have hbb := hb s us I.kIn hl
  rw [List.append_nil] at hbb
  refine wpAny_call (codeAny_mono (G.run X.A X.stack s H ⟨us, []⟩ us vs (out c F S H P) (fun cls d H' => liftX c B W cls d σ H') hr hgd I.env0 hbb r ⟨F, S, ts, P, _, hr', tr, h, fun _ _ o => o, fun x S' F' H' cls d ew le hr2 xr => ⟨F', τ, S', x, l.trans le, hr2, sr.mono le.fr, xr, ew⟩⟩) fun r s' hq => ?_)
  cases r with
  | error e => exact tk e s' (XE.of_call I (fun _ _ _ h => h) hq)
  | ok fl =>
    cases fl with
    | ret u => exact I.after hq
    | next => exact False.elim hq
    | brk => exact False.elim hq
    | cont => exact False.elim hq
theorem l_call {x : Str} {k : Nat} {f : Addr} {fd : FuncData} {ps : List Str} {sp : TSp} {W : XW} (G : FnG c X.prog X.w X.K X.mg X.base k f fd ps sp) (hr : Room k X.A) (hgd : X.A.guards = some []) (hg : Gl X x) (hm : X.mg x = some (.ref f)) (hk : PySem.W.keepIn X.K (.ref f) = true) (hb : Binds X.K fd ps [])
    (tk : Takes X (liftX c B W)) (ha : PA X (e :: es) (liftA c B dA)) (hdb : (x == ("__debug__" : Str)) = false) (hs : (e :: es).all (fun e => !isStar e) = true) : PE X (.Call (.Name x p) (e :: es) [] pos) (lift c B (callF sp W dA)) := by
  have h' := hs
  simp only [List.all_cons, Bool.and_eq_true, Bool.not_eq_true'] at h'
  refine ⟨fun pins s σ H Q I ⟨F, τ, S, P, l, hr', sr, h, q⟩ => ?_⟩
  refine wpAny_Call_Name_kw (ld_glob I hg hm ?_ hdb)
  refine PySem.W.callWith_K (h₀ := X.base) I.ok.mod.kin hk (mn (ha.run pos pins s σ H _ I (inA l hr' sr h fun _ _ o => o)) fun us s1 ⟨vs, H1, I1, r, F1, ts, S1, l1, hr1, tr1, q1⟩ => ⟨I1.kIn, ?_⟩) (star_cons h'.1) (star_any h'.2)
  exact mn (run_fnG G hr hgd hb tk I1 r (l.trans l1) hr1 (sr.mono l1.fr) tr1 q1) fun u s2 ⟨v, H2, I2, r2, o⟩ => ⟨v, H2, I2, r2, q v H2 (o.mono l1)⟩
theorem l_call0 {x : Str} {k : Nat} {f : Addr} {fd : FuncData} {ps : List Str} {sp : TSp} {W : XW} (G : FnG c X.prog X.w X.K X.mg X.base k f fd ps sp) (hr : Room k X.A) (hgd : X.A.guards = some []) (hg : Gl X x) (hm : X.mg x = some (.ref f)) (hk : PySem.W.keepIn X.K (.ref f) = true) (hb : Binds X.K fd ps [])
    (tk : Takes X (liftX c B W)) (hdb : (x == ("__debug__" : Str)) = false) : PE X (.Call (.Name x p) [] [] pos) (lift c B (callF sp W nilA)) := by
  refine ⟨fun pins s σ H Q I ⟨F, τ, S, P, l, hr', sr, h, q⟩ => ?_⟩
  refine wpAny_Call_Name_kw (ld_glob I hg hm ?_ hdb)
  exact PySem.W.callWith_K0 I.kIn hk (mn (run_fnG (us := []) G hr hgd hb tk I .nil l hr' sr .nil h) fun u s2 ⟨v, H2, I2, r2, o⟩ => ⟨v, H2, I2, r2, q v H2 o⟩)
end

/-- the slots at the entry -/
def start' (n : Nat) (ts : List T) : Sg := ts.map some ++ List.replicate (n - ts.length) none
theorem start_rel {c : Ct} {F : FF} {N : List Str} {ts : List T} {vs : List V} (tr : TRs c F ts vs) : SRel c F (start' N.length ts) (L2.start N vs) := by
  have hl := tr.length
  refine ⟨by unfold start' L2.start; simp [hl], fun i t e => ?_⟩
  unfold start' at e
  by_cases hi : i < ts.length
  · rw [List.getElem?_append_left (by simpa using hi), List.getElem?_map] at e
    cases q : ts[i]? with
    | none => rw [q] at e; cases e
    | some u =>
      rw [q] at e
      cases e
      obtain ⟨v, h1, h2⟩ := tr.get q
      refine ⟨v, ?_, h2⟩
      unfold L2.start
      rw [List.getElem?_append_left (by rw [List.length_map, ← hl]; exact hi), List.getElem?_map, h1]
      rfl
  · rw [List.getElem?_append_right (by simpa using hi), List.getElem?_replicate] at e
    split at e <;> cases e
/-- THE RULE: a def by its body's reading -/
theorem fnG_of {c : Ct} {P : Program} {w : World} {K : PySem.W.Frag} {mg : Str → Option Value} {base : Heap} {k : Nat} {f : Addr} {name qual : Str} {params : Arguments} {body : List Stmt} {scope : Scope} {dV kV doc pm cdv ct oc : Value} {an od : Option Addr}
    {osl : Array (Option Value)} {N ps : List Str} {sp : TSp} (lk : K.lookup f = some ⟨oc, od, .func (PySem.W.fnOf name qual params body scope dV kV doc pm an cdv ct), osl⟩) (hcd : PySem.W.codeIn K cdv qual = true) (SC : FnScope N ps scope)
    (len : ∀ ts S Q E, sp ts S Q E → ts.length = ps.length) (d : XW → DS)
    (hbody : ∀ (A : Around) (outer : List Env) (s : Shared) (H : Hp) (E : XK) (B : Wd) (W : XW), Env0 P w K mg base A outer s H → Room k (A.deeper (envOfC qual scope s.heap.objs.size f cdv)) → A.guards = some [] →
      Takes (cxOf (L2.CX P w) P w K mg base N qual scope f cdv A outer s H E) (liftX c B W) → PSs (cxOf (L2.CX P w) P w K mg base N qual scope f cdv A outer s H E) body (liftS c B (d W)))
    (law : ∀ ts S Q E, sp ts S Q E → d (fun x _ S' => E x S') { nx := fun _ S' => Q .non S', rt := Q } (start' N.length ts) S) :
    FnG c P w K mg base (k + 1) f (PySem.W.fnOf name qual params body scope dV kV doc pm an cdv ct) ps sp := by
  refine ⟨len, fun A outer s H args us vs Q E hr hgd e0 hb r ⟨F, S, ts, PP, EW, hr', tr, hsp, k1, k2⟩ => ?_⟩
  have hl : vs.length = ps.length := by rw [← tr.length]; exact len _ _ _ _ hsp
  have KX : K.In s.heap := e0.mod.kin.keeps fun b o e => (e0.bs b o e).1
  have lim : s.heap.NoLimit := e0.mod.nolimit.keeps fun b o e => (e0.bs b o e).1
  have hkind : ∀ y ∈ ps.zip us, scope.names.lookup y.1 = some .local ∨ (scope.names.lookup y.1 = some .cell ∧ ((cellsFrom (s.heap.objs.size + 1) scope.names []).lookup y.1).isSome = true) := fun ⟨n, v⟩ hy => by
    rcases SC.par n (List.of_mem_zip hy).1 with q | q
    · exact .inl q
    · exact .inr ⟨q, PySem.W.cellsFrom_some _ _ _ (.inl q)⟩
  refine codeAny_call_function hr.depth (KX _ _ lk) rfl SC.co SC.gen rfl (PySem.W.codeRec_of KX hcd) (hb _ _ _ _ ?_)
  refine wpAny_newFunctionEnv_cells SC.kind hkind fun env he s1 x => ?_
  subst he
  refine ⟨lim.keeps x.toInCall.keep, codeAny_func ?_⟩
  have tk : Takes (cxOf (L2.CX P w) P w K mg base N qual scope f cdv A outer s H E) (liftX c ⟨F, S, H⟩ fun x _ S' => EW x S') :=
    (takes_of (X := cxOf (L2.CX P w) P w K mg base N qual scope f cdv A outer s H E) rfl rfl rfl rfl).imp fun cls d σ H' ⟨F', τ', S', x', le, hr2, sr2, xr, ew⟩ => k2 x' S' F' H' cls d ew le hr2 xr
  have body' := hbody A outer s H E ⟨F, S, H⟩ (fun x _ S' => EW x S') e0 (hr.deeper _) hgd tk
  have I : Inv (cxOf (L2.CX P w) P w K mg base N qual scope f cdv A outer s H E) [] (L2.start N vs) H s1 := inv_start SC hr.hd e0 hl r x
  have q : liftS c ⟨F, S, H⟩ (d fun x _ S' => EW x S') { nx := fun _ H' => Q .non H', rt := Q } (L2.start N vs) H :=
    ⟨F, _, S, _, Wd.le.refl, hr', start_rel tr, law ts S PP EW hsp, fun σ' H' ⟨F', τ', S', le, hr2, _, p⟩ => k1 _ _ ⟨F', .non, S', le, hr2, .non, p⟩, k1, fun _ _ ⟨_, _, _, _, _, _, p⟩ => p.elim, fun _ _ ⟨_, _, _, _, _, _, p⟩ => p.elim⟩
  refine wpAny_mono (body'.run [] s1 (L2.start N vs) H _ I q) (fun fl s' hs => ?_) fun e s' hs => hs
  have fin : ∀ {σ' : St} {H' : Hp} {v : V} {u : Value}, Inv (cxOf (L2.CX P w) P w K mg base N qual scope f cdv A outer s H E) [] σ' H' s' → RelV v u → Q v H' → CE outer P w H s Q u s' :=
    fun {σ' H' v u} J rv q => ⟨v, H', J.os, J.bare, J.base, J.hok, rv, q⟩
  cases fl with
  | ret u =>
    obtain ⟨v, σ', H', J, rv, q⟩ := hs
    exact fin J rv q
  | next =>
    obtain ⟨σ', H', J, q⟩ := hs
    exact fin (v := V.non) (u := Value.none) J rfl q
  | brk =>
    obtain ⟨_, _, _, q⟩ := hs
    exact False.elim q
  | cont =>
    obtain ⟨_, _, _, q⟩ := hs
    exact False.elim q
end TL

set_option Elab.async false
set_option linter.all false
set_option maxRecDepth 100000
set_option maxHeartbeats 4000000
set_option autoImplicit false
/-! TL5S: sorted(set(xs)) of ints; sorted of pairs of ints. -/
namespace TL
open PySem PySem.Spec PyProof.Rows L2
section
variable {P : Program} {w : World} {A : Around} {E : Value → Shared → Prop} {s : Shared}
/-- the set that is made first -/
abbrev set0 (w : World) : Obj := { cls := .type "set", dict := none, data := .set #[] 0 (.fresh 0 0 (!w.params.followText "set-order")) }
/-- what is left of it when a list of ints was put in -/
def SetD (w : World) (ns : List Int) (s s2 : Shared) : Prop := ∃ h2 tk c, s2 = { s with heap := h2, toks := tk } ∧ SetR w h2 s.heap.objs.size (fun j => decide (j ∈ ns)) c ∧ c ≤ ns.length ∧ ∀ b o, s.heap.get? b = some o → h2.get? b = some o
theorem ints_item {items : Array Value} {ns : List Int} (hn : items.size = ns.length) (hi : IntsAre items.toList ns) (i : Nat) (v : Value) (hv : items[i]? = some v) : ∃ k t, ns[i]? = some k ∧ v = .int k t := by
  have lt : i < ns.length := hn ▸ (Array.getElem?_eq_some_iff.mp hv).1
  obtain ⟨t, e⟩ := IntsAre.int_at hi i v ((Array.getElem?_toList ..).trans hv)
  exact ⟨ns[i], t, List.getElem?_eq_getElem lt, e.trans (by rw [List.getD_eq_getElem?_getD, List.getElem?_eq_getElem lt, Option.getD_some])⟩
set_option maxHeartbeats 3200000 in
theorem set_init {l : Addr} {items : Array Value} {ns : List Int} (hh : A.handled = none) (hl : s.heap.IsList l items) (hi : IntsAre items.toList ns) (hb : ns.length + 1 < scanBound) :
    codeAny (model P w) A (.call (.builtin "set.__init__") ⟨[.ref s.heap.objs.size, .ref l], []⟩) (wants (fun r s2 => r = .none ∧ SetD w ns s s2) E) { s with heap := s.heap.push (set0 w) } := by
  have hn : items.size = ns.length := (Array.length_toList ..).symm.trans (IntsAre.length hi)
  have g0 : (s.heap.push (set0 w)).get? s.heap.objs.size = some (set0 w) := Heap.get?_push_size _ rfl
  refine codeAny_call_builtin F.called_set.init.plain F.entry_set_init (check_set_init_1 ⟨_, g0, rfl⟩ ?_)
  obtain ⟨⟨lc, ld, lx, ls⟩, e0, e1, m, e2⟩ := hl
  cases e1
  cases e2
  have ls0 : l < s.heap.objs.size := Heap.lt_size e0
  have e3 := Heap.get?_push_of_some (set0 w) e0
  have sub1 := F.sub_list_set
  have sub2 := F.sub_list_frozenset
  have nd : (Value.type "list" == Value.type "dict") = false := by decide
  have il : (s.heap.push (set0 w)).IsList l items := ⟨_, e3, rfl, m, rfl⟩
  unfold Builtin.«set.__init__» noKeywords Builtin.Frozenset.updateFrom
  generalize hit : pyIter = it
  wp_walk
  subst hit
  refine wpAny_pyIter_list il (wpAny_bind (wpAny_runValue ?_))
  have sz : (s.heap.push (set0 w)).objs.size = s.heap.objs.size + 1 := Heap.size_push ..
  have ne : l ≠ (s.heap.push (set0 w)).objs.size := fun z => Nat.ne_of_lt (Nat.lt_succ_of_lt ls0) (z.trans sz)
  have nf : s.heap.objs.size ∉ [(s.heap.push (set0 w)).objs.size, l] := by
    rw [sz, List.mem_cons, List.mem_singleton]
    rintro (z | z)
    · exact Nat.ne_of_lt (Nat.lt_succ_self _) z
    · exact Nat.ne_of_gt ls0 z
  have walk := (Walks.list (prog := P) (w := w) (A := A.in1.in1) (by simp [hh]) _ l ne items).toS
  refine set_update_ints walk s.heap.objs.size nf ns hn hb (ints_item hn hi) (items.size - 0) 0 _ (by omega) (Nat.zero_le _) ?_ ⟨0, Nat.le_refl 0, setR_new_at ?_⟩ ?_
  · exact ⟨⟨_, Heap.get?_push_size _ rfl, rfl, rfl⟩, il.push _⟩
  · exact Heap.get?_push_of_some _ g0
  intro s3 c mv hc hS
  obtain ⟨h3, g3, d3, t3, o3⟩ := s3
  obtain rfl : g3 = s.gens := mv.gens
  obtain rfl : d3 = s.drawn := mv.drawn
  obtain rfl : o3 = s.os := mv.os
  show wpAny _ _ _ _ _ _
  refine wpAny_pure ?_
  show wpAny _ _ (ret Value.none) _ _ _
  refine wpAny_pure ⟨rfl, h3, t3, c, rfl, hS, hn ▸ hc, fun b o e => ?_⟩
  have lt := Heap.lt_size e
  exact mv.heap b o (by
    rw [sz, List.mem_cons, List.mem_singleton]
    rintro (z | z)
    · exact Nat.ne_of_lt lt z
    · exact Nat.ne_of_lt (Nat.lt_succ_of_lt lt) z) (Heap.get?_push_of_some _ (Heap.get?_push_of_some _ e))
set_option maxHeartbeats 3200000 in
theorem set_call {l : Addr} {items : Array Value} {ns : List Int} {Q : Value → Shared → Prop} (hh : A.handled = none) (hl : s.heap.IsList l items) (hi : IntsAre items.toList ns) (hb : ns.length + 1 < scanBound)
    (h : ∀ s2, SetD w ns s s2 → Q (.ref s.heap.objs.size) s2) : wpAny (model P w) A (call (.type "set") [.ref l]) Q E s := by
  obtain ⟨c, tl, hmro⟩ := F.called_set.mro
  have made := F.called_set.made
  have sub := F.called_set.sub
  refine wpAny_call (codeAny_of_tree (wpAny_pure (show _ ∧ _ from ⟨Code.quiet_builtin _ (by decide +kernel), codeAny_builtin F.entry_type_call ?_⟩)))
  rw [Around.under_plain (weight_type_call_type "set" [.ref l] []) rfl]
  have not := F.called_set.notType
  have can := F.called_set.canCreate
  have tc := F.typeCall_set_1 (.ref l)
  repeat any_goals first | assumption | wp_step
  refine codeAny_mono (code_set_led1 (.ref l) (E := E) (Q₁ := fun o s1 => o = .ref s.heap.objs.size ∧ s1 = { s with heap := s.heap.push (set0 w) }) (And.intro rfl rfl)) fun r s1 hr => ?_
  cases r with
  | error e => exact hr
  | ok fl =>
    cases fl with
    | ret o =>
      obtain ⟨rfl, rfl⟩ := hr
      have g0 : (s.heap.push (set0 w)).get? s.heap.objs.size = some (set0 w) := Heap.get?_push_size _ rfl
      have ty : Shared.TypeIs { s with heap := s.heap.push (set0 w) } (.ref s.heap.objs.size) "set" := ⟨_, g0, rfl⟩
      have look := F.called_set.init.lookup
      have bind := F.called_set.init.bind (.ref s.heap.objs.size)
      repeat any_goals first | assumption | wp_step
      refine codeAny_mono (set_init (P := P) (E := E) (by simp [hh]) hl hi hb) fun r2 s2 hr2 => ?_
      cases r2 with
      | error e => exact hr2
      | ok f2 =>
        cases f2 with
        | ret v =>
          obtain ⟨rfl, hd⟩ := hr2
          repeat any_goals first | assumption | wp_step
          exact h _ hd
        | _ => exact hr2.elim
    | _ => exact hr.elim
end
section
variable {c : Ct} {X : Cx} {B : Wd} {F : FF} {S : SS} {H : Hp} {τ : Sg} {σ : St}
/-- set(xs), a list of ints -/
def rSetI (K : PySem.W.Frag) (w : World) : List V → Hp → VK → Prop := fun xs H Q => ∃ (l : Addr) (ns : List Int), xs = [V.ref l] ∧ SqL K H l (ns.map V.int) ∧ ns.length < 64 ∧ ∀ p n, H p = none → n ≤ ns.length → Q (.ref p) (upd H p (SetO w p (fun k => decide (k ∈ ns)) n))
theorem cr_setI (hc : X.calm = true) : CallR X (.type "set") (rSetI X.K X.w) := by
  intro pins s σ H xs us Q I r h
  obtain ⟨l, ns, rfl, hl, h64, q⟩ := h
  rw [Vals.ref1 r]
  obtain ⟨its, rv, pl, _⟩ := I.list hl
  have fresh : H s.heap.objs.size = none := I.hok.fresh (Nat.le_refl _)
  refine set_call (ns := ns) (I.ok.hd hc) pl.isList (by simpa using rv.ints) (by unfold scanBound; omega) fun s2 ⟨h2, tk, n, e, R, hn, k⟩ => ?_
  rw [e]
  exact ⟨.ref s.heap.objs.size, _, I.laid (t' := tk) k (Nat.le_refl _) (setO_new R), rfl, q _ n fresh hn⟩
/-! ### for trees -/
theorem setXs {mu : Bool} {ns : List Int} {Q : KQ} (sv : Sv c X) (hr : HRel c F S H) (k : ∀ ms : List Int, ms.Pairwise (· < ·) → (∀ i : Int, i ∈ ms ↔ i ∈ ns) → newL mu (ms.map T.int) S Q) {q : Addr} {u : HO} (hq : H q = none) (ms : List Int) (h1 : ms.Pairwise (· < ·)) (h2 : ∀ i : Int, i ∈ ms ↔ decide (i ∈ ns) = true) (p : Addr) (hp : upd H q u p = none) : out c F S H Q (.ref p) (upd (upd H q u) p (.lst (ms.map V.int))) := by
  have g : ∀ a u', H a = some u' → upd H q u a = some u' := fun a u' e => by
    unfold upd
    by_cases z : a = q
    · rw [z, hq] at e; cases e
    · rw [if_neg z]; exact e
  have o := finL sv (hr.grow g) (TRs.ofIntsV ms) (k ms h1 fun i => by rw [h2 i, decide_eq_true_iff]) p hp
  have le : Wd.le ⟨F, S, H⟩ ⟨F, S, upd H q u⟩ := ⟨FF.le.refl, fun a u' e1 e2 e3 => ⟨g a u' e1, e2, e3⟩⟩
  exact out.mono le o
/-- sorted(set(xs)), ints, fewer than 64 -/
def sortSR (mu : Bool) : List T → SS → KQ → Prop
  | [t], S, Q => ∃ ns : List Int, lsOf S t = some (ns.map T.int) ∧ ns.length < 64 ∧ ∀ ms : List Int, ms.Pairwise (· < ·) → (∀ i : Int, i ∈ ms ↔ i ∈ ns) → newL mu (ms.map T.int) S Q
  | _, _, _ => False
theorem TRs.oneA {vs : List V} {t : T} (h : TRs c F [t] vs) : ∃ v, vs = [v] ∧ TR c F t v := TRs.one h
theorem l_sortS (sv : Sv c X) {mu : Bool} {a : Expr} {p p2 q pos : Pos} {dA : DA} (hc : X.calm = true) (hg : Gl X "sorted") (hm : X.mg "sorted" = none) (hg2 : Gl X "set") (hm2 : X.mg "set" = none) (ha : PA X [a] (liftA c B dA)) (hs : isStar a = false) :
    PE X (.Call (.Name "sorted" p) [.Call (.Name "set" p2) [a] [] q] [] pos) (lift c B (fun τ S Q => dA τ S fun ts S1 => sortSR mu ts S1 Q)) := by
  have e1 := pe_callTy (p := p2) (pos := q) (cr_setI hc) hg2 hm2 (by decide +kernel) ha (by decide) (by decide +kernel) (star_cons hs) rfl
  have e2 := pe_callB (p := p) (pos := pos) (cr_sortedSet hc) hg hm (by decide +kernel) (pa_cons e1 pa_nil) (by decide) (by decide +kernel)
  refine e2.sub fun σ H Q h => ?_
  obtain ⟨F, τ, S, P, l, hr, sr, h, k⟩ := h
  refine inA l hr sr h fun xs H1 ⟨F1, ts, S1, l1, hr1, tr1, q1⟩ => ?_
  have q1 : sortSR mu ts S1 P := q1
  unfold sortSR at q1
  split at q1
  · obtain ⟨v, rfl, r1⟩ := TRs.one tr1
    obtain ⟨ns, e, h64, q1⟩ := q1
    obtain ⟨a, vs, rfl, s1, r2⟩ := lsOfI sv hr1 r1 e
    rw [TRs.intsV r2] at s1
    refine ⟨a, ns, rfl, s1.sq sv, h64, fun q n hq hn => ?_⟩
    refine ⟨q, _, n, rfl, by unfold upd; rw [if_pos rfl], by omega, fun ms p' h1 h2 h3 hp => k _ _ ?_⟩
    exact (setXs sv hr1 q1 hq ms h1 h2 p' hp).mono l1
  · exact q1.elim
/-! ### sorted of pairs -/
def tpI (x : Int × Int) : T := .tup [.int x.1, .int x.2]
theorem TRs.perm {α : Type} {g : α → T} {vs ys : List V} (h : vs.Perm ys) : ∀ l : List α, TRs c F (l.map g) vs → ∃ m : List α, m.Perm l ∧ TRs c F (m.map g) ys := by
  induction h with
  | nil => exact fun l h => ⟨l, .refl l, h⟩
  | cons v _ ih =>
    intro l h
    cases l with
    | nil => cases h
    | cons x l =>
      cases h with
      | cons h1 h2 =>
        obtain ⟨m, p, k⟩ := ih l h2
        exact ⟨x :: m, p.cons x, .cons h1 k⟩
  | swap v w _ =>
    intro l h
    cases l with
    | nil => cases h
    | cons x l =>
      cases h with
      | cons h1 h2 =>
        cases l with
        | nil => cases h2
        | cons y l =>
          cases h2 with
          | cons h2 h3 => exact ⟨y :: x :: l, .swap x y l, .cons h2 (.cons h1 h3)⟩
  | trans _ _ ih1 ih2 =>
    intro l h
    obtain ⟨m, p, k⟩ := ih1 l h
    obtain ⟨m2, p2, k2⟩ := ih2 m k
    exact ⟨m2, p2.trans p, k2⟩
theorem TRs.mem {α : Type} {g : α → T} : ∀ {l : List α} {vs : List V}, TRs c F (l.map g) vs → ∀ v, v ∈ vs → ∃ x, x ∈ l ∧ TR c F (g x) v
  | [], _, h, v, hv => by cases h; cases hv
  | x :: l, _, h, v, hv => by
    cases h with
    | cons h1 h2 =>
      rcases List.mem_cons.mp hv with rfl | hv
      · exact ⟨x, List.mem_cons_self, h1⟩
      · obtain ⟨y, hy, k⟩ := TRs.mem h2 v hv
        exact ⟨y, List.mem_cons_of_mem _ hy, k⟩
theorem TRs.mem' {α : Type} {g : α → T} : ∀ {l : List α} {vs : List V}, TRs c F (l.map g) vs → ∀ x, x ∈ l → ∃ v, v ∈ vs ∧ TR c F (g x) v
  | [], _, _, x, hx => by cases hx
  | y :: l, _, h, x, hx => by
    cases h with
    | cons h1 h2 =>
      rcases List.mem_cons.mp hx with rfl | hx
      · exact ⟨_, List.mem_cons_self, h1⟩
      · obtain ⟨v, hv, k⟩ := TRs.mem' h2 x hx
        exact ⟨v, List.mem_cons_of_mem _ hv, k⟩
theorem TR.pairI (sv : Sv c X) (hr : HRel c F S H) {x : Int × Int} {v : V} (h : TR c F (tpI x) v) : TupI X.K H v [x.1, x.2] := by
  obtain ⟨a, vs, rfl, q, r⟩ := TR.tupI sv hr h
  have e := TRs.intsV (ns := [x.1, x.2]) r
  rw [e] at q
  exact ⟨a, rfl, q⟩
theorem pairs_sorted (sv : Sv c X) (hr : HRel c F S H) : ∀ {ms : List (Int × Int)} {ys : List V}, TRs c F (ms.map tpI) ys → (∀ x, x ∈ ms → 0 ≤ x.1 ∧ x.1 < 1000 ∧ 0 ≤ x.2 ∧ x.2 < 1000) → ys.Pairwise (fun x y => ∀ n m, TupI X.K H x n → TupI X.K H y m → TS.code 1000 n ≤ TS.code 1000 m) → ms.Pairwise fun x y => x.1 ≤ y.1
  | [], _, _, _, _ => List.Pairwise.nil
  | x :: ms, _, h, b, p => by
    cases h with
    | cons h1 h2 =>
      obtain ⟨p1, p2⟩ := List.pairwise_cons.mp p
      refine List.pairwise_cons.mpr ⟨fun y hy => ?_, pairs_sorted sv hr h2 (fun z hz => b z (List.mem_cons_of_mem _ hz)) p2⟩
      have : ∃ v, v ∈ _ ∧ TR c F (tpI y) v := TRs.mem' h2 y hy
      obtain ⟨v, hv, r⟩ := this
      have k := p1 v hv _ _ (TR.pairI sv hr h1) (TR.pairI sv hr r)
      have b1 := b x List.mem_cons_self
      have b2 := b y (List.mem_cons_of_mem _ hy)
      simp only [TS.code, List.length_cons, List.length_nil] at k
      omega
/-- sorted(xs), pairs of ints below 1000, fewer than 64 -/
def sortPR (mu : Bool) : List T → SS → KQ → Prop
  | [t], S, Q => ∃ ps : List (Int × Int), lsOf S t = some (ps.map tpI) ∧ ps.length < 64 ∧ (∀ x, x ∈ ps → 0 ≤ x.1 ∧ x.1 < 1000 ∧ 0 ≤ x.2 ∧ x.2 < 1000) ∧ ∀ ms : List (Int × Int), ms.Perm ps → ms.Pairwise (fun x y => x.1 ≤ y.1) → newL mu (ms.map tpI) S Q
  | _, _, _ => False
theorem ok_sortP (sv : Sv c X) (mu : Bool) : CallOk c X (.builtin "sorted") (sortPR mu) := by
  refine CallOk.of (cr_sortT (d := 2) (B := 1000) (by decide)) fun pins s σ H F S xs ts Q I hr tr h => ?_
  unfold sortPR at h
  split at h
  · obtain ⟨v, rfl, r1⟩ := TRs.one tr
    obtain ⟨ps, e, h64, hb, h⟩ := h
    obtain ⟨a, vs, rfl, q1, r2⟩ := lsOfI sv hr r1 e
    have ln : vs.length = ps.length := by have := r2.length; rw [List.length_map] at this; exact this.symm
    refine ⟨a, vs, rfl, q1.sq sv, by omega, fun v hv => ?_, fun ys p hp hs hn => ?_⟩
    · obtain ⟨x, hx, r⟩ := TRs.mem r2 v hv
      have b := hb x hx
      refine ⟨[x.1, x.2], TR.pairI sv hr r, rfl, fun m hm => ?_⟩
      simp only [List.mem_cons, List.not_mem_nil, or_false] at hm
      rcases hm with rfl | rfl
      · exact ⟨b.1, b.2.1⟩
      · exact ⟨b.2.2.1, b.2.2.2⟩
    · obtain ⟨ms, pm, r3⟩ := TRs.perm hp.symm ps r2
      exact finL sv hr r3 (h ms pm (pairs_sorted sv hr r3 (fun x hx => hb x (pm.mem_iff.mp hx)) hs)) p hn
  · exact h.elim
/-- sorted, ints or pairs -/
def sortXR (mu : Bool) (ts : List T) (S : SS) (Q : KQ) : Prop := sortR mu ts S Q ∨ sortPR mu ts S Q
theorem ok_sortX (sv : Sv c X) (mu : Bool) : CallOk c X (.builtin "sorted") (sortXR mu) := by
  intro pins s σ H F S xs us ts Q I hr rv tr h
  rcases h with h | h
  · exact ok_sort sv mu pins s σ H F S xs us ts Q I hr rv tr h
  · exact ok_sortP sv mu pins s σ H F S xs us ts Q I hr rv tr h
end
end TL

set_option Elab.async false
set_option linter.all false
set_option maxRecDepth 100000
set_option maxHeartbeats 4000000
set_option autoImplicit false
/-! TL5Q: sorted of tuples whose first parts are unlike whole numbers. -/
namespace SrtF
open PySem PyProof.Rows Srt SrtO
section
variable {prog : Program} {w : World} {A : Around} {E : Value → Shared → Prop} {s : Shared}
def IsF (h : Heap) (v : Value) (x : Int) : Prop := ∃ a o t r n, v = .ref a ∧ h.get? a = some o ∧ o.cls = .type "tuple" ∧ o.data = .seq (⟨.int x t :: r⟩ : Array Value) n
theorem IsF.keeps {h h' : Heap} {v : Value} {x : Int} (p : IsF h v x) (k : ∀ b o, h.get? b = some o → o.cls = .type "tuple" → h'.get? b = some o) : IsF h' v x := by
  obtain ⟨a, o, t, r, n, e, ho, hc, hd⟩ := p
  exact ⟨a, o, t, r, n, e, k _ _ ho hc, hc, hd⟩
theorem kat_self {b fin : Bool} {Q : Bool → Shared → Prop} (h : Q fin s) : ∀ (l : List Value) (i : Nat), PySem.W.KatLex prog w A b fin Q (l.zip l) i s
  | [], i => PySem.W.kat_nil h
  | v :: l, i => by
    rw [List.zip_cons_cons]
    exact PySem.W.kat_cons (SeqAt.EqAt.same v prog w _ _ (PySem.W.kat_yes (kat_self h l (i + 1))))
theorem swo_k (k : Value → Int) : Swo fun v u => decide (k v < k u) := by
  refine ⟨fun x y h => ?_, fun x y z h1 h2 => ?_⟩
  · have a := of_decide_eq_true h
    exact decide_eq_false (by omega)
  · have a := of_decide_eq_false h1
    have b := of_decide_eq_false h2
    exact decide_eq_false (by omega)
theorem fst_cmp {vs : List Value} {k : Value → Int} (hp : ∀ v ∈ vs, IsF s.heap v (k v)) (inj : ∀ v ∈ vs, ∀ u ∈ vs, k v = k u → v = u) : Cmp prog w A s (tuples' true) (fun p => p.1 ∈ vs) (lt2 fun v u => decide (k v < k u)) := by
  intro p q hm hm'
  show wpAny (model prog w) A (keyLt' (tuples' true) p.1 q.1) (fun r s' => s' = s ∧ r = decide (k p.1 < k q.1)) (fun _ _ => False) s
  have h1 := hp _ hm
  have h2 := hp _ hm'
  by_cases ek : k p.1 = k q.1
  · have ev := inj _ hm _ hm' ek
    obtain ⟨a, o, t, r, n, e, ho, hc, hd⟩ := h1
    rw [← ev, e]
    refine PySem.W.kat_lt ho hd ho hd ?_
    refine kat_self ⟨rfl, ?_⟩ _ 0
    rw [decide_eq_false (Nat.lt_irrefl _), decide_eq_false (Int.lt_irrefl _)]
  · obtain ⟨a, o, t, r, n, e, ho, hc, hd⟩ := h1
    obtain ⟨a', o', t', r', n', e', ho', hc', hd'⟩ := h2
    rw [e, e']
    generalize hx : k (Value.ref a) = x at *
    have hx1 : k p.1 = x := by rw [e, hx]
    have hx2 : ∃ y, k q.1 = y ∧ k (Value.ref a') = y := ⟨_, rfl, by rw [e']⟩
    obtain ⟨y, hy1, hy2⟩ := hx2
    rw [hx1] at hd ek
    rw [hy1] at hd' ek
    rw [hy2]
    refine PySem.W.kat_lt ho hd ho' hd' ?_
    show PySem.W.KatLex prog w A true _ _ ((.int x t, .int y t') :: r.zip r') 0 s
    refine PySem.W.kat_cons (SeqAt.EqAt.int_int x t y t' prog w _ _ ?_)
    refine PySem.W.kat_go (fun e1 => absurd (by simpa using e1) ek) (fun e1 => ?_)
    exact PySem.W.kat_no (oneLt_int ⟨rfl, rfl⟩)
theorem firsts_of {h : Heap} {k : Value → Int} : ∀ {vs : List Value}, (∀ v ∈ vs, IsF h v (k v)) → ∃ fs : List Value, PySem.W.KatTups h vs fs ∧ fs.length = vs.length ∧ ∀ f ∈ fs, ∃ x t, f = Value.int x t
  | [], _ => ⟨[], PySem.W.KatTups.nil, rfl, fun _ hm => by simp at hm⟩
  | v :: vs, hp => by
    obtain ⟨fs, h1, h2, h3⟩ := firsts_of (vs := vs) fun v' hm => hp v' (List.mem_cons_of_mem _ hm)
    obtain ⟨a, o, t, r, n, e, ho, hc, hd⟩ := hp v (List.mem_cons_self ..)
    subst e
    refine ⟨.int (k (.ref a)) t :: fs, PySem.W.KatTups.cons ho hc hd rfl h1, by rw [List.length_cons, List.length_cons, h2], fun f hm => ?_⟩
    rcases List.mem_cons.mp hm with rfl | hm
    · exact ⟨_, t, rfl⟩
    · exact h3 f hm
theorem fst_sortable {a : Addr} {vs : List Value} {k : Value → Int} (h0 : 0 < vs.length) (hp : ∀ v ∈ vs, IsF s.heap v (k v)) (inj : ∀ v ∈ vs, ∀ u ∈ vs, k v = k u → v = u) (ha : ∀ o, s.heap.get? a = some o → o.cls ≠ .type "tuple") : SortableO prog w A s a vs fun v u => decide (k v < k u) := by
  intro h' keep
  have hp' : ∀ v ∈ vs, IsF h' v (k v) := fun v hm => (hp v hm).keeps fun b o e c => keep b o (fun z => by subst z; exact ha o e c) e
  obtain ⟨fs, h1, h2, h3⟩ := firsts_of hp'
  refine ⟨tuples' true, fun Q E hq => ?_, fst_cmp hp' inj⟩
  refine PySem.W.kat_kind (T := .type "int") h1 (by omega) (fun f hm => ?_) (by rfl) ?_
  · obtain ⟨x, t, rfl⟩ := h3 f hm
    exact PySem.W.Looks.now
  · have e : (Value.type "int" != Value.type "tuple") = true := by first | decide +kernel | rfl | decide
    rw [e]
    exact hq
theorem sorted_fst {l : Addr} {vs : List Value} {k : Value → Int} {Q : Value → Shared → Prop} (hl : s.heap.IsList l vs.toArray) (hz : vs.length ≤ sizeLine) (hp : ∀ v ∈ vs, IsF s.heap v (k v)) (inj : ∀ v ∈ vs, ∀ u ∈ vs, k v = k u → v = u)
    (h : ∀ (h' : Heap) (d : Addr) (out : List Value), Srtd (fun v u => decide (k v < k u)) out → Stb (fun v u => decide (k v < k u)) out vs → (∀ b o, s.heap.get? b = some o → h'.get? b = some o) → s.heap.objs.size ≤ d → (∃ n, h'.get? d = some (seqObj "list" out.toArray n)) → Q (.ref d) { s with heap := h' }) :
    wpAny (model prog w) A (call (.builtin "sorted") [.ref l]) Q E s := by
  refine sorted_ord (swo_k k) hl hz (fun h2 h₁ a ha kk => ?_) fun out hs hb => ?_
  · refine fst_sortable (s := { s with heap := h₁ }) (by omega) (fun v hm => (hp v hm).keeps fun b o e _ => (kk b o e).2) inj fun o e => ?_
    have e' : some o = some (seqObj "list" vs.toArray 0) := e.symm.trans ha
    cases e'
    intro c
    exact absurd (Value.type.inj c) (by decide)
  · exact h _ _ out hs hb (fun b o e => sortedAll_old e) (Nat.le_succ _) (sortedAll_at s.heap vs out.toArray)
end
end SrtF
namespace L2
open PySem PySem.Spec PyProof.Rows
def rSortedF (K : PySem.W.Frag) : List V → Hp → VK → Prop := fun vs H Q => ∃ (a : Addr) (xs : List V) (k : V → Int), vs = [V.ref a] ∧ SqL K H a xs ∧ (∀ x ∈ xs, ∃ t ws, x = V.ref t ∧ SqT K H t (.int (k x) :: ws)) ∧ (∀ x ∈ xs, ∀ y ∈ xs, k x = k y → x = y) ∧
  ∀ ys p, ys.Perm xs → ys.Pairwise (fun x y => k x ≤ k y) → H p = none → Q (.ref p) (upd H p (.lst ys))
section
variable {X : Cx}
theorem cr_sortedF : CallR X (.builtin "sorted") (rSortedF X.K) := by
  intro pins s σ H vs us Q I r h
  obtain ⟨a, xs, k, rfl, hs, hx, hj, q⟩ := h
  obtain ⟨its, rv, hl, hz⟩ := I.list hs
  obtain ⟨u, rfl, ru⟩ := vals1 r
  obtain rfl : u = Value.ref a := ru
  obtain ⟨e1, e2⟩ := refs_back rv fun x m => by
    obtain ⟨t, _, e, _⟩ := hx x m
    exact ⟨t, e⟩
  have mem : ∀ v ∈ its, backV v ∈ xs := fun v hv => by rw [e1]; exact List.mem_map.mpr ⟨_, hv, rfl⟩
  refine SrtF.sorted_fst (k := fun u => k (backV u)) hl.isList (by rw [← rv.length]; exact hz) (fun v hv => ?_) (fun v hv u hu e => ?_) fun h' d out h1 h2 kp hd hn => ?_
  · obtain ⟨t, rfl⟩ := e2 v hv
    obtain ⟨t', ws, e, ht⟩ := hx _ (mem _ hv)
    have e : V.ref t = V.ref t' := e
    cases e
    obtain ⟨its2, r2, ⟨o, ho, hc, n, hd⟩, _⟩ := I.tuple ht
    cases r2 with
    | @cons _ u1 _ ur ri rr =>
      obtain ⟨t1, rfl⟩ := ri
      exact ⟨t, o, t1, ur, n, rfl, ho, hc, by rw [hd]⟩
  · have e3 := hj _ (mem v hv) _ (mem u hu) e
    obtain ⟨t, rfl⟩ := e2 v hv
    obtain ⟨t', rfl⟩ := e2 u hu
    have e3 : V.ref t = V.ref t' := e3
    cases e3
    rfl
  · have h3 : ∀ u ∈ out, ∃ a, u = Value.ref a := fun u hu => e2 u (h2.perm.mem_iff.mp hu)
    obtain ⟨n, hn⟩ := hn
    have hp : (out.map backV).Perm xs := by rw [e1]; exact h2.perm.map backV
    have ho : (out.map backV).Pairwise (fun x y => k x ≤ k y) := by
      refine List.pairwise_map.mpr (List.Pairwise.imp (fun {x y} z => ?_) h1)
      have z := of_decide_eq_false z
      omega
    refine ⟨.ref d, upd H d (.lst (out.map backV)), I.laid (t' := s.toks) kp hd ⟨?_, out, n, vals_back h3, hn⟩, rfl, q _ d hp ho (I.hok.fresh hd)⟩
    rw [hp.length_eq]
    exact hz
end
end L2
namespace TL
open PySem PySem.Spec PyProof.Rows L2
section
variable {c : Ct} {X : Cx}
/-- a row of rows, each with a whole number ahead -/
abbrev tpF (x : Int × List T) : T := .tup (.int x.1 :: x.2)
def sortFR (mu : Bool) : List T → SS → KQ → Prop
  | [t], S, Q => ∃ ps : List (Int × List T), lsOf S t = some (ps.map tpF) ∧ (ps.map (·.1)).Nodup ∧ ∀ ms : List (Int × List T), ms.Perm ps → ms.Pairwise (fun x y => x.1 ≤ y.1) → newL mu (ms.map tpF) S Q
  | _, _, _ => False
theorem ok_sortF (sv : Sv c X) (mu : Bool) : CallOk c X (.builtin "sorted") (sortFR mu) := by
  refine CallOk.of cr_sortedF fun pins s σ H F S xs ts Q I hr tr h => ?_
  unfold sortFR at h
  split at h
  · obtain ⟨v, rfl, r1⟩ := TRs.one tr
    obtain ⟨ps, e, hnd, h⟩ := h
    obtain ⟨a, vs, rfl, q1, r2⟩ := lsOfI sv hr r1 e
    -- the number ahead of a thing
    have each : ∀ v, v ∈ vs → ∃ x, x ∈ ps ∧ ∃ t ws, v = V.ref t ∧ SqT X.K H t (.int x.1 :: ws) ∧ TR c F (tpF x) v := fun v hv => by
      obtain ⟨x, hx, r⟩ := TRs.mem r2 v hv
      obtain ⟨t, ws, rfl, q, rw'⟩ := TR.tupI sv hr r
      cases rw' with
      | cons ri rr =>
        obtain rfl := ri.intI
        exact ⟨x, hx, t, _, rfl, q, r⟩
    have one : ∀ {v : V} {i j : Int} {t t' : Addr} {ws ws' : List V}, v = V.ref t → v = V.ref t' → SqT X.K H t (.int i :: ws) → SqT X.K H t' (.int j :: ws') → i = j := fun e1 e2 h1 h2 => by
      subst e1
      cases e2
      have := I.tuple_inj h1 h2
      injection this with z _
      injection z
    have key : ∃ k : V → Int, ∀ v, v ∈ vs → ∃ x, x ∈ ps ∧ k v = x.1 ∧ ∃ t ws, v = V.ref t ∧ SqT X.K H t (.int (k v) :: ws) ∧ TR c F (tpF x) v := by
      refine ⟨fun v => if hv : v ∈ vs then (Classical.choose (each v hv)).1 else 0, fun v hv => ?_⟩
      have z := Classical.choose_spec (each v hv)
      refine ⟨Classical.choose (each v hv), z.1, dif_pos hv, ?_⟩
      obtain ⟨t, ws, e1, e2, e3⟩ := z.2
      refine ⟨t, ws, e1, ?_, e3⟩
      show SqT X.K H t (V.int (if hv : v ∈ vs then (Classical.choose (each v hv)).1 else 0) :: ws)
      rw [dif_pos hv]
      exact e2
    obtain ⟨k, hk⟩ := key
    have kx : ∀ {x : Int × List T} {v : V}, v ∈ vs → TR c F (tpF x) v → k v = x.1 := fun {x v} hv r => by
      obtain ⟨y, _, _, t, ws, e1, q1, _⟩ := hk v hv
      obtain ⟨t', ws', e2, q2, rw'⟩ := TR.tupI sv hr r
      cases rw' with
      | cons ri rr =>
        obtain rfl := ri.intI
        exact one e1 e2 q1 q2
    have keys : ∀ {ms : List (Int × List T)} {ys : List V}, (∀ y, y ∈ ys → y ∈ vs) → TRs c F (ms.map tpF) ys → ys.map k = ms.map (·.1) := by
      intro ms
      induction ms with
      | nil => intro ys _ r; cases r; rfl
      | cons m ms ih =>
        intro ys hy r
        cases r with
        | cons r1 r2 => rw [List.map_cons, List.map_cons, kx (hy _ List.mem_cons_self) r1, ih (fun y h => hy y (List.mem_cons_of_mem _ h)) r2]
    have nd : (vs.map k).Nodup := by rw [keys (fun y h => h) r2]; exact hnd
    refine ⟨a, vs, k, rfl, q1.sq sv, fun v hv => ?_, fun v hv u hu e => ?_, fun ys p hp hs hn => ?_⟩
    · obtain ⟨x, _, _, t, ws, e1, q, _⟩ := hk v hv
      exact ⟨t, ws, e1, q⟩
    · have inj : ∀ {l : List V}, (l.map k).Nodup → ∀ v ∈ l, ∀ u ∈ l, k v = k u → v = u := by
        intro l
        induction l with
        | nil => intro _ v hv; cases hv
        | cons x l ih =>
          intro hn v hv u hu e
          rw [List.map_cons, List.nodup_cons] at hn
          rcases List.mem_cons.mp hv with ev | hv2
          · rcases List.mem_cons.mp hu with eu | hu2
            · rw [ev, eu]
            · exact absurd (List.mem_map.mpr ⟨u, hu2, by rw [← e, ev]⟩) hn.1
          · rcases List.mem_cons.mp hu with eu | hu2
            · exact absurd (List.mem_map.mpr ⟨v, hv2, by rw [e, eu]⟩) hn.1
            · exact ih hn.2 v hv2 u hu2 e
      exact inj nd v hv u hu e
    · obtain ⟨ms, pm, r3⟩ := TRs.perm hp.symm ps r2
      have em := keys (fun y h => hp.mem_iff.mp h) r3
      refine finL sv hr r3 (h ms pm ?_) p hn
      have z := List.pairwise_map.mpr hs
      rw [em] at z
      exact List.pairwise_map.mp z
  · exact h.elim
/-- sorted: ints, pairs, or tuples by their first parts -/
def sortYR (mu : Bool) (ts : List T) (S : SS) (Q : KQ) : Prop := sortR mu ts S Q ∨ sortPR mu ts S Q ∨ sortFR mu ts S Q
theorem ok_sortY (sv : Sv c X) (mu : Bool) : CallOk c X (.builtin "sorted") (sortYR mu) := by
  intro pins s σ H F S xs us ts Q I hr rv tr h
  rcases h with h | h | h
  · exact ok_sort sv mu pins s σ H F S xs us ts Q I hr rv tr h
  · exact ok_sortP sv mu pins s σ H F S xs us ts Q I hr rv tr h
  · exact ok_sortF sv mu pins s σ H F S xs us ts Q I hr rv tr h
end
end TL

set_option Elab.async false
set_option linter.all false
set_option maxRecDepth 100000
set_option maxHeartbeats 2000000
set_option autoImplicit false
/-! TL5X: count, index, extend, t[::-1], {}. -/
namespace TL
open PySem PySem.Spec PyProof.Rows L2

section
variable {c : Ct} {X : Cx} {B : Wd} {F F1 : FF} {S S1 : SS} {H H1 : Hp} {τ : Sg} {σ : St} {a b e : Expr} {es : List Expr} {da db : DE} {dA : DA} {pos p : Pos}

/-! ### l.count(x), l.index(x) -/
def rCountD (K : PySem.W.Frag) : V → List V → Hp → VK → Prop := fun x xs H Q => ∃ (a : Addr) (y : V) (d : PyData) (ds : List PyData), x = V.ref a ∧ xs = [y] ∧ Dp K H (V.ref a) (.list ds) ∧ Dp K H y d ∧
  SeqAt.shaped (.list ds) = true ∧ SeqAt.shaped d = true ∧ Q (.int (ds.countP fun z => PyData.eqv z d : Nat)) H
theorem mt_countD (hu : X.A.units + 65 < cLine) : MtR X "list.count" (rCountD X.K) := by
  intro pins s σ H x xs v us Q I rx rxs h
  obtain ⟨a, y, d, ds, rfl, rfl, hl, hy, sl, sd, q⟩ := h
  cases rx
  cases rxs with
  | cons ry rt =>
    rename_i uy ut
    cases rt
    obtain ⟨bs, r1⟩ := Dp.reads I d y uy hy ry
    have hxs : PyData.canLayAll0 ds = true := SeqAt.canLay_of_shaped sl
    have hroom : X.A.units + 1 + min (PyData.depthAll ds) d.depth < cLine := room_in_shaped sd hu
    cases hl with
    | lst hs ha =>
      obtain ⟨its, rv, ⟨⟨cls, dd, data, sls⟩, n, ho, hc, hdn, hdt⟩, hlen⟩ := I.list hs
      simp only at hc hdt
      subst hc hdt
      obtain ⟨as, h4⟩ := Dp.readsAll I ds _ its ha rv
      have hmap : its.map (SeqAt.readOf s.heap) = ds := SeqAt.readsAll_map ds its as hxs h4
      refine call_meets PySem.F.slot_list_count ⟨_, ho, rfl⟩ PySem.F.entry_list_count (PySem.F.args_list_count_2 _ _)
        (SeqAt.list_countAt a its.toArray n dd sls uy (fun u => PyData.eqv (SeqAt.readOf s.heap u) d)) ⟨ho, SeqAt.items_eqAt (vs := its.toArray) (show ReadsAll s.heap its.toArray.toList ds as from h4) r1 hxs (SeqAt.canLay_of_shaped sd) hroom, ?_⟩
      have ec : its.toArray.toList.countP (fun u => PyData.eqv (SeqAt.readOf s.heap u) d) = ds.countP fun z => PyData.eqv z d := by
        rw [← hmap, List.countP_map]; rfl
      refine ⟨.int (ds.countP fun z => PyData.eqv z d : Nat), H, I.tok _, ⟨s.toks, ?_⟩, q⟩
      show Value.int ((its.toArray.toList.countP (fun u => PyData.eqv (SeqAt.readOf s.heap u) d) : Nat) : Int) s.toks = _
      rw [ec]
theorem ls_dp (sv : Sv c X) (hr : HRel c F S H) {t : T} {l : List T} {v : V} (h : TR c F t v) (e : lsOf S t = some l) (hp : T.plains l = true) : ∃ a, v = .ref a ∧ Dp X.K H v (.list (T.toDs l)) := by
  obtain ⟨a, vs, rfl, q, r⟩ := lsOfI sv hr h e
  exact ⟨a, rfl, .lst (q.sq sv) (TRs.dp sv hr r hp)⟩
def countR : T → List T → SS → KQ → Prop
  | t, [y], S, Q => (match lsOf S t with
    | some l => (deref S y).shp 59 = true ∧ T.shps 59 l = true ∧ Q (.int (l.countP fun z => z.eqv (deref S y) : Nat)) S
    | none => False)
  | _, _, _, _ => False
theorem countP_toDs (d : PyData) : ∀ l : List T, ((T.toDs l).countP fun z => PyData.eqv z d) = l.countP fun z => PyData.eqv z.toD d
  | [] => rfl
  | t :: ts => by simp only [T.toDs, List.countP_cons, countP_toDs d ts]
theorem toDs_map : ∀ l : List T, T.toDs l = l.map T.toD
  | [] => rfl
  | t :: ts => by simp only [T.toDs, List.map_cons, toDs_map ts]
theorem ok_count (sv : Sv c X) (hu : X.A.units + 65 < cLine) : MtOk c X "list.count" countR := MtOk.of (mt_countD hu) fun H F S x xs t ts P hr tx txs h => by
  unfold countR at h
  split at h
  · split at h
    · rename_i l e
      obtain ⟨h1, h2, h⟩ := h
      obtain ⟨y, rfl, ry⟩ := TRs.one txs
      obtain ⟨a, rfl, hd⟩ := ls_dp sv hr tx e (T.plains_of _ _ h2)
      exact ⟨a, y, _, _, rfl, rfl, hd, deref_dp sv hr ry (T.plain_of _ _ h1), T.shp_shaped (t := .lst l) (by simpa [T.shp] using h2), T.shp_shaped (T.shp_mono 59 60 _ (by omega) h1), fin0 hr (.int _) (by rw [countP_toDs]; exact h)⟩
    · exact h.elim
  · exact h.elim
def indexR : T → List T → SS → KQ → Prop
  | t, [y], S, Q => (match lsOf S t with
    | some l => (deref S y).shp 59 = true ∧ T.shps 59 l = true ∧ (match l.findIdx? fun z => z.eqv (deref S y) with
      | some j => Q (.int (j : Nat)) S
      | none => False)
    | none => False)
  | _, _, _, _ => False
theorem ok_index (sv : Sv c X) (hu : X.A.units + 65 < cLine) : MtOk c X "list.index" indexR := MtOk.of (mt_indexD hu) fun H F S x xs t ts P hr tx txs h => by
  unfold indexR at h
  split at h
  · split at h
    · rename_i l e
      obtain ⟨h1, h2, h⟩ := h
      split at h
      · rename_i j ej
        obtain ⟨y, rfl, ry⟩ := TRs.one txs
        obtain ⟨a, rfl, hd⟩ := ls_dp sv hr tx e (T.plains_of _ _ h2)
        obtain ⟨hj, hj2, hj3⟩ := List.findIdx?_eq_some_iff_getElem.mp ej
        refine ⟨a, y, _, _, j, (l[j]).toD, rfl, rfl, hd, deref_dp sv hr ry (T.plain_of _ _ h1), T.shp_shaped (t := .lst l) (by simpa [T.shp] using h2), T.shp_shaped (T.shp_mono 59 60 _ (by omega) h1), ?_, hj2, ?_, fin0 hr (.int _) h⟩
        · rw [toDs_map, List.getElem?_map, List.getElem?_eq_getElem hj]; rfl
        · intro m z' hm hz
          rw [toDs_map, List.getElem?_map, List.getElem?_eq_getElem (by omega)] at hz
          cases hz
          have := hj3 m hm
          simp only [Bool.not_eq_true] at this
          exact this
      · exact h.elim
    · exact h.elim
  · exact h.elim

/-! ### l.extend(m) -/
theorem list_extend_tupG (l : Addr) (items : Array Value) (n : Nat) (b : Addr) (dct : Option Addr) (sls : Array (Option Value)) (items2 : Array Value) (n2 : Nat) (hs0 : ¬(!items.isEmpty && Builtin.List.listTooLong (items.size + items2.size)) = true) (hs1 : items.size ≤ sizeLine) (hs2 : items.size + items2.size ≤ sizeLine + 1) :
    Meets (Builtin.«list.extend» ⟨[.ref l, .ref b], []⟩) (fun _ R s => s.heap.get? l = some { cls := .type "list", dict := none, data := .seq items n, slots := #[] } ∧ s.heap.get? b = some { cls := .type "tuple", dict := dct, data := .seq items2 n2, slots := sls } ∧ R (.ok (.ret Value.none)) { s with heap := s.heap.update l (Obj.mapSeq fun x => x ++ items2), toks := s.toks }) :=
  .of_wp fun prog w A R s h => by
    obtain ⟨hp, g, d, tk, os⟩ := s; obtain ⟨hl, hb, h⟩ := h; have f1 := PySem.AutoSeq1.idx_int; have f2 := PySem.AutoSeq1.sub_tuple_tuple; have f3 := PySem.AutoSeq1.sub_list_list; have f4 := PySem.AutoSeq1.sub_tuple_list; have f5 := PySem.AutoSeq1.sub_list_tuple;
    have hz' : (items ++ items2).size ≤ sizeLine + 1 := by rw [Array.size_append]; exact hs2
    wp_walk using (wpAny_updateSeq hl rfl (hz := hs1) (_hz' := hz')), PySem.AutoSeq1.wpAny_loadPart' hl, PySem.AutoSeq1.wpAny_loadPart' hb; exact ⟨_, rfl, h⟩
def rExtA (c : Ct) : V → List V → Hp → VK → Prop := fun x vs H Q => ∃ l b xs zs, x = .ref l ∧ vs = [.ref b] ∧ H l = some (.lst xs) ∧ (RdL c.K H b zs ∨ SqT c.K H b zs) ∧ xs.length + zs.length ≤ sizeLine ∧ Q .non (upd H l (.lst (xs ++ zs)))
theorem mt_extA (sv : Sv c X) : MtR X "list.extend" (rExtA c) := by
  intro pins s σ H x vs v us Q I rx rv h
  obtain ⟨l, b, xs, zs, rfl, rfl, hH, hB, hz, q⟩ := h
  cases rx
  obtain ⟨u, rfl, ru⟩ := rv.one
  cases ru
  obtain ⟨z, its, n, r, hl, e⟩ := I.lstM hH
  rcases hB with hB | hB
  · obtain ⟨hl2, its2, n2, r2, e2⟩ := hB.ok sv I
    have hsz2 : its2.length = zs.length := r2.length.symm
    have hsz : its.toArray.size + its2.toArray.size ≤ sizeLine := by rw [List.size_toArray, List.size_toArray]; omega
    have hlong : ¬ (!its.toArray.isEmpty && Builtin.List.listTooLong (its.toArray.size + its2.toArray.size)) = true := by
      rw [notLongL hsz, Bool.and_false]
      exact Bool.false_ne_true
    refine call_meets F.slot_list_extend ⟨_, e, rfl⟩ F.entry_list_extend (F.args_list_extend_2 _ _)
      (AutoSeq1.list_extend_list_list_0 l its.toArray n b its2.toArray n2 hlong (by rw [List.size_toArray]; omega) (by omega)) ⟨e, e2, ?_⟩
    refine ⟨.non, _, I.lset (its' := its ++ its2) hH e (by simp) (r.append r2) ?_, rfl, q⟩
    rw [List.length_append]
    omega
  · obtain ⟨its2, r2, ⟨o, e2, hc, n2, hd⟩, hz2⟩ := I.tuple (X := X) (by rw [sv.K]; exact hB)
    obtain ⟨oc, od, oda, osl⟩ := o
    have hc : oc = .type "tuple" := hc
    have hd : oda = .seq its2.toArray n2 := hd
    subst hc hd
    have hsz2 : its2.length = zs.length := r2.length.symm
    have hsz : its.toArray.size + its2.toArray.size ≤ sizeLine := by rw [List.size_toArray, List.size_toArray]; omega
    have hlong : ¬ (!its.toArray.isEmpty && Builtin.List.listTooLong (its.toArray.size + its2.toArray.size)) = true := by
      rw [notLongL hsz, Bool.and_false]
      exact Bool.false_ne_true
    refine call_meets F.slot_list_extend ⟨_, e, rfl⟩ F.entry_list_extend (F.args_list_extend_2 _ _)
      (list_extend_tupG l its.toArray n b od osl its2.toArray n2 hlong (by rw [List.size_toArray]; omega) (by omega)) ⟨e, e2, ?_⟩
    refine ⟨.non, _, I.lset (its' := its ++ its2) hH e (by simp) (r.append r2) ?_, rfl, q⟩
    rw [List.length_append]
    omega
def extendR : T → List T → SS → KQ → Prop
  | t, [y], S, Q => (match stL S t, sqOf S y with
    | some (a, l), some m => l.length + m.length ≤ sizeLine ∧ Q .non (supd S a (.lst (l ++ m)))
    | _, _ => False)
  | _, _, _, _ => False
theorem sq_ways {S : SS} {y : T} {m : List T} (e : sqOf S y = some m) : y = .tup m ∨ lsOf S y = some m := by
  cases y <;> first | (simp only [sqOf, Option.some.injEq] at e; subst e; exact .inl rfl) | exact .inr e | (simp [sqOf] at e)
theorem ok_extend (sv : Sv c X) : MtOk c X "list.extend" extendR := MtOk.of (mt_extA sv) fun H F S x xs t ts P hr tx txs h => by
  unfold extendR at h
  split at h
  · split at h
    · rename_i e1 e2
      obtain ⟨y, rfl, ry⟩ := TRs.one txs
      obtain ⟨rfl, hs, vs, hv, r⟩ := stLI hr tx e1
      rcases sq_ways e2 with e2 | e2
      · subst e2
        obtain ⟨b, ws, rfl, q, r2⟩ := TR.tupI sv hr ry
        exact ⟨_, b, vs, ws, rfl, rfl, hv, .inr (by rw [← sv.K]; exact q), by rw [← r.length, ← r2.length]; exact h.1, outW hr hs (r.append r2) .non h.2⟩
      · obtain ⟨b, ws, rfl, q, r2⟩ := lsOfI sv hr ry e2
        exact ⟨_, b, vs, ws, rfl, rfl, hv, .inl q, by rw [← r.length, ← r2.length]; exact h.1, outW hr hs (r.append r2) .non h.2⟩
    · exact h.elim
  · exact h.elim

/-! ### {} -/
def dicD : DE := fun _ S Q => Q .dic S
theorem l_dic0 : PE X (.Dict [] [] pos) (lift c B dicD) := by
  refine pe_dnewK.sub fun σ H Q ⟨F, τ, S, P, l, hr, sr, h, q⟩ => fun p hp => ?_
  obtain ⟨h1, h2⟩ := hr.newF (o := .dic) (u := .dK []) hp upd_same
  exact q _ _ ⟨_, .dic, S, le_newF hr hp, h1, .dic fupd_same, h⟩
end

/-! ### t[::-1] -/
section
variable {prog : Program} {w : World} {A : Around} {E : Value → Shared → Prop} {s : Shared}
theorem adjust_rev (n : Nat) : Builtin.Slice.sliceAdjust none none (-1) (n : Int) = ((n : Int) - 1, -1) := rfl
theorem places_rev {n : Nat} : Builtin.Slice.slicePlaces ((n : Int) - 1) (-1) (-1) = n := by
  unfold Builtin.Slice.slicePlaces
  have h1 : ¬ ((-1 : Int) > 0) := by omega
  rw [if_neg h1]
  by_cases h : (n : Int) - 1 > -1
  · rw [if_pos h]
    have : -(-1 : Int) = 1 := rfl
    rw [this, Int.ediv_one]; omega
  · rw [if_neg h]; omega
theorem sliceApplied_rev {sl : Addr} {vs : Value} {n : Nat} {Q : Int × Int × Nat → Shared → Prop} (hs : s.heap.IsSliceOf sl .none .none vs) (ps : IsPart vs (some (-1)))
    (h : Q ((n : Int) - 1, -1, n) s) : wpAny (model prog w) A (Builtin.Slice.sliceApplied (.ref sl) (pure (n : Int))) Q E s := by
  obtain ⟨os, hos, hcs, hds⟩ := id hs
  unfold Builtin.Slice.sliceApplied Builtin.Slice.sliceFields
  refine wpAny_bind (wpAny_bind (wpAny_field hos hds (x := .none) rfl (wpAny_bind (wpAny_field hos hds (x := .none) rfl (wpAny_bind (wpAny_field hos hds (x := vs) rfl (wpAny_pure ?_)))))))
  refine wpAny_bind (HT.slicePart_ ps ?_)
  show wpAny _ _ (if ((-1 : Int) == 0) = true then _ else _) _ _ s
  rw [if_neg (by decide)]
  refine wpAny_bind (HT.slicePart_ .none (wpAny_bind (HT.slicePart_ .none (wpAny_bind (wpAny_pure ?_)))))
  show wpAny _ _ (match Builtin.Slice.sliceAdjust none none (-1) (n : Int) with | (lo, hi) => pure (lo, (-1 : Int), Builtin.Slice.slicePlaces lo hi (-1))) _ _ s
  rw [adjust_rev]
  show wpAny _ _ (pure ((n : Int) - 1, (-1 : Int), Builtin.Slice.slicePlaces ((n : Int) - 1) (-1) (-1))) _ _ s
  rw [places_rev]
  exact wpAny_pure h
theorem pick_revL (xs : List Value) : ∀ n, n ≤ xs.length → (List.range n).filterMap (fun (m : Nat) => xs[((xs.length : Int) - 1 + (m : Int) * -1).toNat]?) = xs.reverse.take n
  | 0, _ => by simp
  | n + 1, h => by
    have hn : n < xs.reverse.length := by rw [List.length_reverse]; omega
    rw [List.range_succ, List.filterMap_append, pick_revL xs n (by omega), List.take_succ_eq_append_getElem hn]
    congr 1
    have : ((xs.length : Int) - 1 + (n : Int) * -1).toNat = xs.length - 1 - n := by omega
    simp only [List.filterMap_cons, List.filterMap_nil, this]
    rw [List.getElem?_eq_getElem (by omega), List.getElem_reverse]
theorem pick_rev (xs : Array Value) : ((List.range xs.size).filterMap fun (m : Nat) => xs[((xs.size : Int) - 1 + (m : Int) * -1).toNat]?).toArray = xs.toList.reverse.toArray := by
  congr 1
  have := pick_revL xs.toList xs.toList.length (Nat.le_refl _)
  rw [List.take_of_length_le (by simp)] at this
  simpa using this
theorem getItem_tuple_rev {t sl : Addr} {items : Array Value} {vs : Value} {Q : Value → Shared → Prop} (ht : IsTup s.heap t items) (hs : s.heap.IsSliceOf sl .none .none vs) (ps : IsPart vs (some (-1)))
    (h : Q (.ref s.heap.objs.size) { s with heap := s.heap.push { cls := .type "tuple", data := .seq items.toList.reverse.toArray } }) (hsz : items.size ≤ sizeLine) : wpAny (model prog w) A (getItem (.ref t) (.ref sl)) Q E s := by
  have htake : sizeOk (.seq items.toList.reverse.toArray) := by
    show items.toList.reverse.toArray.size ≤ sizeLine
    rw [List.size_toArray, List.length_reverse, Array.length_toList]
    exact hsz
  obtain ⟨os, hos, hcs, hds⟩ := id hs
  have hTs : s.TypeIs (.ref sl) "slice" := ⟨os, hos, hcs⟩
  unfold getItem
  try with_reducible refine wpAny_holding ?_
  first | refine wpAny_bind (wpAny_pure ?_) | skip
  refine wpAny_bind (wpAny_sequenceKey ht.typeIs (by decide) ?_)
  refine wpAny_bind (wpAny_callSpecial?_slot (name := Str.ofString "__getitem__") ht.typeIs PyProof.Rows.slot_tuple_getitem
    (wpAny_call_entry PyProof.Rows.slot_tuple_getitem ht.typeIs entry_tuple_getitem ?_ (args_tuple_getitem _ _)))
  show wpAny _ _ (Builtin.Tuple.tupleItemsOf (.ref t) >>= _) _ _ s
  refine wpAny_bind (tupleItemsOf_ ht ?_)
  refine wpAny_bind (wpAny_typeOf hTs ?_)
  rw [if_pos (by decide)]
  refine wpAny_bind (sliceApplied_rev hs ps ?_)
  have hno : ¬ ((((items.size : Int) - 1) == 0 && (-1 : Int) == 1 && items.size == items.size) = true) := by
    intro q
    rw [Bool.and_eq_true, Bool.and_eq_true] at q
    exact absurd q.1.2 (by decide)
  show wpAny _ _ (if (((items.size : Int) - 1) == 0 && (-1 : Int) == 1 && items.size == items.size) = true then _ else _) _ _ s
  rw [if_neg hno, pick_rev]
  first
    | exact wpAny_bind (m := Builtin.Tuple.tupleExact _) (wpAny_newObj_type (wpAny_pure ⟨_, rfl, wpAny_pure h⟩) htake)
    | exact wpAny_bind (m := Builtin.Tuple.tupleExact _) (wpAny_newObj_type (wpAny_bind (wpAny_pure (wpAny_pure ⟨_, rfl, wpAny_pure h⟩))) htake)
    | exact wpAny_bind (wpAny_bind (m := Builtin.Tuple.tupleExact _) (wpAny_newObj_type (wpAny_pure (wpAny_pure ⟨_, rfl, wpAny_pure h⟩)) htake))
    | exact wpAny_bind (wpAny_bind (m := Builtin.Tuple.tupleExact _) (wpAny_newObj_type (wpAny_pure ⟨_, rfl, wpAny_pure h⟩) htake))
end
section
variable {c : Ct} {X : Cx}
def tRevQ (K : PySem.W.Frag) (te : TE) : TE := fun σ H Q => te σ H fun x H1 => ∃ a xs, x = .ref a ∧ ((SqL K H1 a xs ∧ ∀ p, H1 p = none → Q (.ref p) (upd H1 p (.lst xs.reverse))) ∨ (SqT K H1 a xs ∧ ∀ p, H1 p = none → Q (.ref p) (upd H1 p (.tup xs.reverse))))
theorem pe_revQ {e : Expr} {te : TE} {k : Nat} {p1 p2 p3 pos : Pos} (he : PE X e te) : PE X (.Subscript e (.Slice none none (some (.UnaryOp .USub (.Constant (.int 1) k p1) p2)) p3) pos) (tRevQ X.K te) := by
  refine ⟨fun pins s σ H Q I h => ?_⟩
  refine Subscript_ (thn (he.run pins s σ H _ I h) fun v s1 ⟨x, H1, I1, r1, q1⟩ => ?_)
  obtain ⟨a, xs, ex, q⟩ := q1
  subst ex
  cases r1
  have hst : PO X (some (.UnaryOp .USub (.Constant (.int 1) k p1) p2)) (tPart (tUn (rU fun i => .int (-i)) (tC (.int 1)))) := po_some (pe_un un_neg pe_int)
  refine wpAny_Slice (thn (po_none.run pins s1 σ H1 (fun o H2 => (o = none ∧ H2 = H1)) I1 ⟨rfl, rfl⟩) fun vl s2 ⟨l, H2, I2, pl, el, e2⟩ => ?_)
  subst el e2
  refine thn (po_none.run pins s2 σ H2 (fun o H3 => o = none ∧ H3 = H2) I2 ⟨rfl, rfl⟩) fun vu s3 ⟨u, H3, I3, pu, eu, e3⟩ => ?_
  subst eu e3
  refine thn (hst.run pins s3 σ H3 (fun o H4 => o = some (-1) ∧ H4 = H3) I3 ⟨1, rfl, -1, rfl, rfl, rfl⟩) fun vs s4 ⟨o, H4, I4, ps, eo, e4⟩ => ?_
  subst eo e4
  have I5 : Inv X pins σ H4 { s4 with heap := s4.heap.push { cls := .type "slice", data := .fields #[vl, vu, vs] } } := I4.kept (t' := s4.toks) fun b ob q => Heap.get?_push_of_some _ q
  show wpAny (model X.prog X.w) X.A (subscriptTail e (.Slice none none (some (.UnaryOp .USub (.Constant (.int 1) k p1) p2)) p3) (.ref a) (.ref s4.heap.objs.size)) (EP X pins σ Q) X.xe { s4 with heap := s4.heap.push { cls := .type "slice", data := .fields #[vl, vu, vs] } }
  rcases q with ⟨hx, q⟩ | ⟨hx, q⟩
  · obtain ⟨its, r, ht, hz⟩ := I5.list hx
    have hlen := r.length
    refine tail_any (ops := [.ref a, .ref s4.heap.objs.size]) ht.isList.typeIs (PySem.slot_list_getitem.lookup) ?_ (by with_unfolding_all rfl)
    refine wpAny_getItem_list_slice ht.isList (Heap.IsSliceOf.new _ vl vu vs) pl pu ps (by decide) ?_ (by rw [List.size_toArray]; omega)
    rw [PySem.W.krv_pick]
    refine ⟨.ref _, _, I5.laid (t' := s4.toks) (o := .lst xs.reverse) (fun b ob q => Heap.get?_push_of_some _ q) (Nat.le_refl _) ?_, rfl, q _ (I5.hok.fresh (Nat.le_refl _))⟩
    exact ⟨by rw [List.length_reverse]; exact hz, _, 0, r.reverse, Heap.get?_push_size _ rfl⟩
  · obtain ⟨its, r, ht, hz⟩ := I5.tuple hx
    have hlen := r.length
    cases pl
    cases pu
    refine tail_any (ops := [.ref a, .ref s4.heap.objs.size]) ht.typeIs PyProof.Rows.slot_tuple_getitem.lookup ?_ (by with_unfolding_all rfl)
    refine getItem_tuple_rev ht (Heap.IsSliceOf.new _ .none .none vs) ps ?_ (by rw [List.size_toArray, ← hlen]; exact hz)
    refine ⟨.ref _, _, I5.laid (t' := s4.toks) (o := .tup xs.reverse) (fun b ob q => Heap.get?_push_of_some _ q) (Nat.le_refl _) ?_, rfl, q _ (I5.hok.fresh (Nat.le_refl _))⟩
    exact ⟨by rw [List.length_reverse]; exact hz, _, r.reverse, IsTup.new _ _⟩
end
/-! ### l[a:b:k] -/
def pickN (n : Nat) (lo hi : Option Int) (k : Int) : List Nat := sliceRange (sliceBounds lo hi (some k) n).1 (sliceBounds lo hi (some k) n).2.1 (sliceBounds lo hi (some k) n).2.2
def pickG {α : Type} (xs : List α) (lo hi : Option Int) (k : Int) : List α := (pickN xs.length lo hi k).filterMap fun i => xs[i]?
theorem slicePick_G (its : List Value) (lo hi : Option Int) (k : Int) : slicePick its.toArray lo hi (some k) = (pickG its lo hi k).toArray := by
  unfold slicePick pickG pickN
  simp
theorem pickG_le {α : Type} {xs : List α} {lo hi : Option Int} {k : Int} : (pickG xs lo hi k).length ≤ xs.length := by
  refine Nat.le_trans (List.length_filterMap_le _ _) (sliceRange_length_le _ _ _ _ (fun hc => ?_) fun hc => ?_)
  · simp only [sliceBounds] at hc ⊢
    simp only [hc, if_true]
    constructor
    · cases lo with
      | none => simp
      | some i => dsimp only; omega
    · cases hi with
      | none => simp
      | some i => dsimp only; omega
  · simp only [sliceBounds] at hc ⊢
    simp only [hc, if_false]
    constructor
    · cases lo with
      | none => simp
      | some i => dsimp only; omega
    · cases hi with
      | none => simp
      | some i => dsimp only; omega
theorem pickG_sub {α : Type} {xs : List α} {lo hi : Option Int} {k : Int} {x : α} (h : x ∈ pickG xs lo hi k) : x ∈ xs := by
  obtain ⟨i, _, e⟩ := List.mem_filterMap.mp h
  exact List.mem_of_getElem? e
theorem pickG_map {α β : Type} {f : α → β} {xs : List α} {lo hi : Option Int} {k : Int} : pickG (xs.map f) lo hi k = (pickG xs lo hi k).map f := by
  unfold pickG
  rw [List.length_map, List.map_filterMap]
  congr 1
  funext i
  rw [List.getElem?_map]
theorem picks_rel {α β : Type} {R : α → β → Prop} {RL : List α → List β → Prop} (r0 : RL [] []) (r1 : ∀ a b as bs, R a b → RL as bs → RL (a :: as) (b :: bs)) {xs : List α} {ys : List β} (hl : xs.length = ys.length) (h : ∀ (i : Nat) (a : α) (b : β), xs[i]? = some a → ys[i]? = some b → R a b) : ∀ is : List Nat, RL (is.filterMap fun i => xs[i]?) (is.filterMap fun i => ys[i]?)
  | [] => r0
  | i :: is => by
    have ih := picks_rel r0 r1 hl h is
    by_cases c : i < xs.length
    · rw [List.filterMap_cons_some (List.getElem?_eq_getElem c), List.filterMap_cons_some (List.getElem?_eq_getElem (hl ▸ c))]
      exact r1 _ _ _ _ (h i _ _ (List.getElem?_eq_getElem c) (List.getElem?_eq_getElem (hl ▸ c))) ih
    · rw [List.filterMap_cons_none (List.getElem?_eq_none (by omega)), List.filterMap_cons_none (List.getElem?_eq_none (by omega))]
      exact ih
theorem vals_pick {xs : List V} {its : List Value} (r : Vals xs its) (lo hi : Option Int) (k : Int) : Vals (pickG xs lo hi k) (pickG its lo hi k) := by
  unfold pickG
  rw [r.length]
  refine picks_rel (R := RelV) .nil (fun _ _ _ _ a b => .cons a b) r.length (fun i a b h1 h2 => ?_) _
  obtain ⟨u, e, ru⟩ := r.get h1
  rw [e] at h2; cases h2
  exact ru
theorem TRs.pick {c : Ct} {F : FF} {ts : List T} {vs : List V} (r : TRs c F ts vs) (lo hi : Option Int) (k : Int) : TRs c F (pickG ts lo hi k) (pickG vs lo hi k) := by
  unfold pickG
  rw [r.length]
  refine picks_rel (R := TR c F) .nil (fun _ _ _ _ a b => .cons a b) r.length (fun i a b h1 h2 => ?_) _
  obtain ⟨u, e, ru⟩ := r.get h1
  rw [e] at h2; cases h2
  exact ru
section
variable {c : Ct} {X : Cx} {B : Wd} {da : DE} {dl dh : DO} {a : Expr} {lo hi : Option Expr} {pos p1 p2 p3 : Pos}
def tStpQ (K : PySem.W.Frag) (te : TE) (tl th : TO) (k : Int) : TE := fun σ H Q => te σ H fun x H1 => tl σ H1 fun l H2 => th σ H2 fun u H3 => ∃ a xs, x = .ref a ∧ SqL K H3 a xs ∧ ∀ p, H3 p = none → Q (.ref p) (upd H3 p (.lst (pickG xs l u k)))
theorem pe_stepQ {e : Expr} {te : TE} {tl th : TO} {k : Int} {n : Nat} (k0 : k ≠ 0) (he : PE X e te) (hl : PO X lo tl) (hu : PO X hi th) : PE X (.Subscript e (.Slice lo hi (some (.Constant (.int k) n p1)) p3) pos) (tStpQ X.K te tl th k) := by
  refine ⟨fun pins s σ H Q I h => ?_⟩
  refine Subscript_ (thn (he.run pins s σ H _ I h) fun v s1 ⟨x, H1, I1, r1, q1⟩ => ?_)
  have hst : PO X (some (.Constant (.int k) n p1)) (tPart (tC (.int k))) := po_some pe_int
  refine wpAny_Slice (thn (hl.run pins s1 σ H1 _ I1 q1) fun vl s2 ⟨l, H2, I2, pl, q2⟩ => thn (hu.run pins s2 σ H2 _ I2 q2) fun vu s3 ⟨u, H3, I3, pu, q3⟩ => ?_)
  refine thn (hst.run pins s3 σ H3 (fun o H4 => o = some k ∧ H4 = H3) I3 ⟨k, rfl, rfl, rfl⟩) fun vs s4 ⟨o, H4, I4, ps, eo, e4⟩ => ?_
  subst eo e4
  obtain ⟨a, xs, ex, hx, q⟩ := q3
  subst ex
  cases r1
  have I5 : Inv X pins σ H4 { s4 with heap := s4.heap.push { cls := .type "slice", data := .fields #[vl, vu, vs] } } := I4.kept (t' := s4.toks) fun b ob q => Heap.get?_push_of_some _ q
  show wpAny (model X.prog X.w) X.A (subscriptTail e (.Slice lo hi (some (.Constant (.int k) n p1)) p3) (.ref a) (.ref s4.heap.objs.size)) (EP X pins σ Q) X.xe { s4 with heap := s4.heap.push { cls := .type "slice", data := .fields #[vl, vu, vs] } }
  obtain ⟨its, r, ht, hz⟩ := I5.list hx
  have hlen := r.length
  refine tail_any (ops := [.ref a, .ref s4.heap.objs.size]) ht.isList.typeIs (PySem.slot_list_getitem.lookup) ?_ (by with_unfolding_all rfl)
  refine wpAny_getItem_list_slice ht.isList (Heap.IsSliceOf.new _ vl vu vs) pl pu ps (fun z => k0 (by cases z; rfl)) ?_ (by rw [List.size_toArray]; omega)
  rw [slicePick_G]
  refine ⟨.ref _, _, I5.laid (t' := s4.toks) (o := .lst (pickG xs l u k)) (fun b ob q => Heap.get?_push_of_some _ q) (Nat.le_refl _) ?_, rfl, q _ (I5.hok.fresh (Nat.le_refl _))⟩
  exact ⟨Nat.le_trans pickG_le hz, _, 0, vals_pick r l u k, Heap.get?_push_size _ rfl⟩
def stpR (mu : Bool) (k : Int) (x : T) (lo hi : Option Int) (S : SS) (Q : KQ) : Prop := match lsOf S x with
  | some l => newL mu (pickG l lo hi k) S Q
  | none => False
def stpD (mu : Bool) (k : Int) (d : DE) (dl dh : DO) : DE := fun τ S Q => d τ S fun x S1 => dl τ S1 fun l S2 => dh τ S2 fun h S3 => stpR mu k x l h S3 Q
theorem l_step (sv : Sv c X) (mu : Bool) {k : Int} {n : Nat} (k0 : k ≠ 0) (ha : PE X a (lift c B da)) (hl : PO X lo (liftO c B dl)) (hh : PO X hi (liftO c B dh)) : PE X (.Subscript a (.Slice lo hi (some (.Constant (.int k) n p1)) p2) pos) (lift c B (stpD mu k da dl dh)) := by
  refine (pe_stepQ k0 ha hl hh).sub fun σ H Q ⟨F, τ, S, P, l, hr, sr, h, q⟩ => ?_
  refine inE l hr sr h fun x H1 ⟨F1, t1, S1, l1, hr1, tr1, q1⟩ => ?_
  refine ⟨F1, τ, S1, _, l.trans l1, hr1, sr.mono l1.fr, q1, fun lo' H2 ⟨F2, S2, l2, hr2, q2⟩ => ?_⟩
  have l12 := l1.trans l2
  refine ⟨F2, τ, S2, _, l.trans l12, hr2, sr.mono l12.fr, q2, fun hi' H3 ⟨F3, S3, l3, hr3, q3⟩ => ?_⟩
  have q3 : stpR mu k t1 lo' hi' S3 P := q3
  unfold stpR at q3
  split at q3
  · rename_i e1
    show ∃ a xs, x = V.ref a ∧ SqL X.K H3 a xs ∧ ∀ (p : Addr), H3 p = none → Q (V.ref p) (upd H3 p (HO.lst (pickG xs lo' hi' k)))
    obtain ⟨b, vs, rfl, sq, r⟩ := lsOfI sv hr3 (tr1.mono (l2.trans l3).fr) e1
    exact ⟨b, vs, rfl, sq.sq sv, fun p hp => q _ _ ((finL sv hr3 (r.pick lo' hi' k) q3 p hp).mono (l12.trans l3))⟩
  · exact q3.elim
end
end TL

set_option Elab.async false
set_option linter.all false
set_option maxRecDepth 100000
set_option maxHeartbeats 2000000
set_option autoImplicit false
/-! TL5R: xs.remove(y), where it stands. -/
namespace TL
open PySem PySem.Spec PyProof.Rows L2
section
variable {c : Ct} {X : Cx} {B : Wd} {F F1 : FF} {S S1 : SS} {H H1 : Hp} {τ : Sg} {σ : St} {a b e : Expr} {es : List Expr} {da db : DE} {dA : DA} {pos p : Pos}
def rRemD (K : PySem.W.Frag) : V → List V → Hp → VK → Prop := fun x xs H Q => ∃ (a : Addr) (y : V) (d : PyData) (vs : List V) (ds : List PyData) (j : Nat) (z : PyData), x = V.ref a ∧ xs = [y] ∧ H a = some (.lst vs) ∧ DpAll K H vs ds ∧ Dp K H y d ∧
  SeqAt.shaped (.list ds) = true ∧ SeqAt.shaped d = true ∧ ds[j]? = some z ∧ PyData.eqv z d = true ∧ (∀ (m : Nat) (z' : PyData), m < j → ds[m]? = some z' → PyData.eqv z' d = false) ∧ Q .non (upd H a (.lst (vs.eraseIdx j)))
theorem mt_remD (hu : X.A.units + 65 < cLine) : MtR X "list.remove" (rRemD X.K) := by
  intro pins s σ H x xs v us Q I rx rxs h
  obtain ⟨a, y, d, vs, ds, j, z, rfl, rfl, hH, ha, hy, sl, sd, hz, hzj, hno, q⟩ := h
  cases rx
  cases rxs with
  | cons ry rt =>
    rename_i uy ut
    cases rt
    obtain ⟨bs, r1⟩ := Dp.reads I d y uy hy ry
    have hxs : PyData.canLayAll0 ds = true := SeqAt.canLay_of_shaped sl
    have hroom : X.A.units + 1 + min (PyData.depthAll ds) d.depth < cLine := room_in_shaped sd hu
    obtain ⟨zz, its, n, rv, hlv, ho⟩ := I.lstM hH
    obtain ⟨as, h4⟩ := Dp.readsAll I ds _ its ha rv
    have hn : its.length = ds.length := SeqAt.ReadsAll.length ds its as h4
    have hmap : its.map (SeqAt.readOf s.heap) = ds := SeqAt.readsAll_map ds its as hxs h4
    have hvl := rv.length
    have hsl := sizeLine_eq
    obtain ⟨hjd, _⟩ := List.getElem?_eq_some_iff.mp hz
    have hjl : j < its.length := by omega
    have hj : j < its.toArray.size := by simpa using hjl
    have at_ : ∀ (m : Nat) (hm : m < its.toArray.size) (z' : PyData), ds[m]? = some z' → SeqAt.readOf s.heap its.toArray[m] = z' := by
      intro m hm z' hz'
      have hml : m < its.length := by simpa using hm
      rw [← hmap, List.getElem?_map, List.getElem?_eq_getElem hml] at hz'
      have e1 : SeqAt.readOf s.heap its[m] = z' := Option.some.inj (show some (SeqAt.readOf s.heap its[m]) = some z' from hz')
      simpa using e1
    refine call_meets PySem.F.slot_list_remove ⟨_, ho, rfl⟩ PySem.F.entry_list_remove (PySem.F.args_list_remove_2 _ _)
      (SeqAt.list_removeAt a its.toArray n none #[] uy (fun u => PyData.eqv (SeqAt.readOf s.heap u) d) j hj ?_ ?_ (by rw [List.size_toArray, ← hlv]; exact zz)) ⟨ho, SeqAt.items_eqAt (vs := its.toArray) (show ReadsAll s.heap its.toArray.toList ds as from h4) r1 hxs (SeqAt.canLay_of_shaped sd) hroom, ?_⟩
    · show PyData.eqv (SeqAt.readOf s.heap its.toArray[j]) d = true
      rw [at_ j hj z hz]; exact hzj
    · intro m hm hmj
      show PyData.eqv (SeqAt.readOf s.heap its.toArray[m]) d = false
      have hml : m < ds.length := by omega
      rw [at_ m hm ds[m] (List.getElem?_eq_getElem hml)]
      exact hno m ds[m] hmj (List.getElem?_eq_getElem hml)
    · refine ⟨.non, _, I.lset (its' := its.eraseIdx j) hH ho ?_ (rv.eraseIdx j) ?_, rfl, q⟩
      · show its.toArray.eraseIdxIfInBounds j = (its.eraseIdx j).toArray
        rw [List.eraseIdxIfInBounds_toArray]
      · have := len_erase vs j
        omega
def removeR : T → List T → SS → KQ → Prop
  | t, [y], S, Q => (match stL S t with
    | some (a, l) => (deref S y).shp 59 = true ∧ T.shps 59 l = true ∧ (match l.findIdx? fun z => z.eqv (deref S y) with
      | some j => Q .non (supd S a (.lst (l.eraseIdx j)))
      | none => False)
    | none => False)
  | _, _, _, _ => False
theorem ok_remove (sv : Sv c X) (hu : X.A.units + 65 < cLine) : MtOk c X "list.remove" removeR := MtOk.of (mt_remD hu) fun H F S x xs t ts P hr tx txs h => by
  unfold removeR at h
  split at h
  · split at h
    · rename_i e
      obtain ⟨h1, h2, h⟩ := h
      split at h
      · rename_i j ej
        obtain ⟨rfl, hs, vs, hv, r⟩ := stLI hr tx e
        obtain ⟨y, rfl, ry⟩ := TRs.one txs
        obtain ⟨hj, hj2, hj3⟩ := List.findIdx?_eq_some_iff_getElem.mp ej
        refine ⟨_, y, _, vs, _, j, _, rfl, rfl, hv, TRs.dp sv hr r (T.plains_of _ _ h2), deref_dp sv hr ry (T.plain_of _ _ h1), T.shp_shaped (t := .lst _) (by simpa [T.shp] using h2), T.shp_shaped (T.shp_mono 59 60 _ (by omega) h1), ?_, hj2, ?_, outW hr hs (r.eraseIdx j) .non h⟩
        · rw [toDs_map, List.getElem?_map, List.getElem?_eq_getElem hj]; rfl
        · intro m z' hm hz
          rw [toDs_map, List.getElem?_map, List.getElem?_eq_getElem (by omega)] at hz
          cases hz
          have := hj3 m hm
          simp only [Bool.not_eq_true] at this
          exact this
      · exact h.elim
    · exact h.elim
  · exact h.elim
end
end TL

set_option Elab.async false
set_option linter.all false
set_option maxRecDepth 100000
set_option maxHeartbeats 4000000
set_option autoImplicit false
/-! TL6Z: zip of a list and a tuple, either way. -/
namespace TL
open PySem PySem.Spec PyProof.Rows L2
/-- how far an iterator of a tuple (true), of a list (false) has come -/
def SqIt : Bool → Heap → Addr → Addr → Nat → Prop
  | true, h, it, l, i => h.IsTupleIter it l i
  | false, h, it, l, i => h.IsListIter it l i
def SqOb : Bool → Heap → Addr → Array Value → Prop
  | true, h, l, xs => h.IsTuple l xs
  | false, h, l, xs => h.IsList l xs
section
variable {k : Bool} {h h' : Heap} {a b l : Addr} {i : Nat} {xs : Array Value}
theorem SqIt.ext (x : SqIt k h a l i) (e : Heap.ExtBut b h h') (ne : a ≠ b) : SqIt k h' a l i := by
  cases k
  · exact Heap.IsListIter.extBut x e ne
  · exact Heap.IsTupleIter.extBut x e ne
theorem SqOb.ext (x : SqOb k h l xs) (e : Heap.ExtBut b h h') (ne : l ≠ b) : SqOb k h' l xs := by
  cases k
  · exact Heap.IsList.extBut x e ne
  · exact Heap.IsTuple.extBut x e ne
theorem SqIt.move (x : SqIt k h a l i) (e : ∀ o, h.get? a = some o → h'.get? a = some o) : SqIt k h' a l i := by
  cases k
  · exact Heap.IsListIter.at x e
  · exact Heap.IsTupleIter.at x e
theorem SqIt.has (x : SqIt k h a l i) : ∃ o, h.get? a = some o ∧ ∀ v, o.data ≠ .cell v := by
  cases k
  · obtain ⟨o, e, _, d⟩ := x
    exact ⟨o, e, fun v q => by rw [d] at q; cases q⟩
  · obtain ⟨o, e, _, d⟩ := x
    exact ⟨o, e, fun v q => by rw [d] at q; cases q⟩
theorem SqIt.lt (x : SqIt k h a l i) : a < h.objs.size := let ⟨_, e, _⟩ := x.has; Heap.lt_size e
end
section
variable {prog : Program} {w : World} {A : Around} {E : Value → Shared → Prop} {s : Shared}
theorem sq_next {k : Bool} {it l : Addr} {i : Nat} {xs : Array Value} {x : Value} {Q : Value → Shared → Prop} (hi : SqIt k s.heap it l i) (hl : SqOb k s.heap l xs) (hx : xs[i]? = some x)
    (q : ∀ h', SqIt k h' it l (i + 1) → Heap.SameBut it s.heap h' → Q x { s with heap := h' }) : wpAny (model prog w) A (Builtin.SmallTypes.nextOf (.ref it)) Q E s := by
  cases k
  · exact wpAny_nextOf_list_item hi hl hx q
  · exact RZ.nextOf_tuple_item hi hl hx q
theorem sq_end {k : Bool} {it l : Addr} {i : Nat} {xs : Array Value} {Q : Value → Shared → Prop} (hh : A.handled = none) (hi : SqIt k s.heap it l i) (hl : SqOb k s.heap l xs) (hx : xs[i]? = none)
    (q : ∀ h' e, Heap.ExtBut it s.heap h' → (∃ o, h'.get? e = some o ∧ o.cls = .type "StopIteration") → E (.ref e) { s with heap := h' }) : wpAny (model prog w) A (Builtin.SmallTypes.nextOf (.ref it)) Q E s := by
  cases k
  · exact wpAny_nextOf_list_end hh hi hl hx q
  · exact RZ.nextOf_tuple_end hh hi hl hx q
/-- what no turn of a zip changes -/
def ZKeep (z TO i1 i2 : Addr) (h h' : Heap) : Prop := ∀ c o, c ≠ z → c ≠ TO → c ≠ i1 → c ≠ i2 → h.get? c = some o → h'.get? c = some o
/-- the begin of a turn, up to the first item -/
theorem z_open {z TI TO i1 i2 : Addr} {R : Fin → Shared → Prop} {a b : Value} (hz : IsZip s.heap z TI TO .none) (hTI : IsPair s.heap TI (.ref i1) (.ref i2)) (hTO : IsPair s.heap TO a b)
    (n1 : ∀ h1, IsZip h1 z TI TO .ellipsis → Heap.SameBut z s.heap h1 → wpAny (model prog w) A (Builtin.SmallTypes.nextOf (.ref i1)) (fun x s1 => IsZip s1.heap z TI TO .ellipsis ∧ ∃ a b, IsPair s1.heap TO a b ∧
      ∀ h2, IsPair h2 TO x b → Heap.SameBut TO s1.heap h2 → wpAny (model prog w) A (Builtin.SmallTypes.nextOf (.ref i2)) (fun y s2 => IsPair s2.heap TO x b ∧ ∀ h3, IsPair h3 TO x y → Heap.SameBut TO s2.heap h3 → ∃ (hz3 : IsZip h3 z TI TO .ellipsis), ∀ h4,
        IsZip h4 z TI TO (rawInt h3.objs.size) → IsPair h4 h3.objs.size x y → h4.objs.size = h3.objs.size + 1 → (∀ c o, c ≠ z → h3.get? c = some o → h4.get? c = some o) → R (.done (.ret (.ref h3.objs.size))) { s2 with heap := h4 })
        (fun e s2 => IsZip s2.heap z TI TO .ellipsis ∧ ∀ h3, Heap.SameBut z s2.heap h3 → E e { s2 with heap := h3 }) { s1 with heap := h2 })
      (fun e s1 => IsZip s1.heap z TI TO .ellipsis ∧ ∀ h3, Heap.SameBut z s1.heap h3 → E e { s1 with heap := h3 }) { s with heap := h1 }) : wpAny (model prog w) A (Builtin.«zip.__next__» ⟨[.ref z], []⟩) R E s := by
  show wpAny _ _ (field (.ref z) 2 >>= _) _ _ _
  refine wpAny_bind (wpAny_field hz rfl (x := .bool false) rfl ?_)
  show wpAny _ _ (field (.ref z) 3 >>= _) _ _ _
  refine wpAny_bind (wpAny_field hz rfl (x := .ref TI) rfl (wpAny_bind (wpAny_seqItems hTI rfl ?_)))
  show wpAny _ _ (Builtin.SmallTypes.ownedTupleIsFree (.ref z) >>= _) _ _ _
  unfold Builtin.SmallTypes.ownedTupleIsFree
  refine wpAny_bind (wpAny_bind (wpAny_field hz rfl (x := .none) rfl (wpAny_pure ?_)))
  rw [if_pos (by rfl)]
  refine wpAny_bind (wpAny_rule (wpAny_bind (wpAny_field hz rfl (x := .ref TO) rfl ?_)))
  refine wpAny_bind (wpAny_setField_rec hz (by simp) fun h1 z1 sb1 => ?_)
  have z1 : IsZip h1 z TI TO .ellipsis := z1
  refine wpAny_bind ?_
  simp only [List.zipIdx_cons, List.zipIdx_nil, List.forIn_cons, List.forIn_nil]
  refine wpAny_bind (wpAny_bind (wpAny_onRaise ?_))
  show wpAny _ _ (Builtin.SmallTypes.nextOf (.ref i1) >>= _) _ _ _
  refine wpAny_bind (wpAny_mono (n1 h1 z1 sb1) (fun x s1 ⟨z2, a2, b2, p2, n2⟩ => wpAny_pure ?_) fun e s1 ⟨z2, k⟩ => ?_)
  · refine wpAny_bind (wpAny_seqItems p2 rfl (wpAny_bind (wpAny_updateSeq_pair p2 fun h2 p3 sb2 => ?_)))
    have p3 : IsPair h2 TO x b2 := p3
    refine wpAny_bind (wpAny_letGo (wpAny_pure (wpAny_bind (wpAny_bind (wpAny_onRaise ?_)))))
    show wpAny _ _ (Builtin.SmallTypes.nextOf (.ref i2) >>= _) _ _ _
    refine wpAny_bind (wpAny_mono (n2 h2 p3 sb2) (fun y s2 ⟨p4, fin⟩ => wpAny_pure ?_) fun e s2 ⟨z3, k⟩ => ?_)
    · refine wpAny_bind (wpAny_seqItems p4 rfl (wpAny_bind (wpAny_updateSeq_pair p4 fun h3 p5 sb3 => ?_)))
      have p5 : IsPair h3 TO x y := p5
      obtain ⟨z4, fin⟩ := fin h3 p5 sb3
      refine wpAny_bind (wpAny_letGo (wpAny_pure (wpAny_pure (wpAny_bind (wpAny_seqItems p5 rfl (wpAny_bind (wpAny_newTuple ?_)))))))
      show wpAny _ _ (Builtin.SmallTypes.ownedTupleHandOut (.ref z) (.ref h3.objs.size) >>= _) _ _ _
      unfold Builtin.SmallTypes.ownedTupleHandOut
      have zlt : z < h3.objs.size := Heap.lt_size z4
      have z5 : IsZip (h3.push { cls := .type "tuple", data := .seq #[x, y] }) z TI TO .ellipsis := Heap.get?_push_of_some _ z4
      refine wpAny_bind (wpAny_bind (wpAny_setField_rec z5 (by simp) fun h4 z6 sb4 => ?_))
      have z6 : IsZip h4 z TI TO (rawInt h3.objs.size) := z6
      refine wpAny_setField_rec z6 (by simp) fun h5 z7 sb5 => wpAny_pure (fin h5 z7 ?_ ?_ ?_)
      · exact sb5.extBut _ _ (Nat.ne_of_gt zlt) (sb4.extBut _ _ (Nat.ne_of_gt zlt) (Heap.get?_push_size _ rfl))
      · rw [sb5.1, sb4.1, Heap.size_push]
      · exact fun c o n e => sb5.extBut _ _ n (sb4.extBut _ _ n (Heap.get?_push_of_some _ e))
    · exact wpAny_setField_rec z3 (by simp) fun h3 _ sb => k h3 sb
  · exact wpAny_setField_rec z2 (by simp) fun h3 _ sb => k h3 sb
theorem zm_item {k1 k2 : Bool} {z TI TO i1 i2 l1 l2 : Addr} {n1 n2 : Nat} {xs ys : Array Value} {x y a b : Value} {Q : Option Value → Shared → Prop} (D : ZipApart z TI TO i1 i2 l1 l2) (hz : IsZip s.heap z TI TO .none) (hTI : IsPair s.heap TI (.ref i1) (.ref i2)) (hTO : IsPair s.heap TO a b)
    (j1 : SqIt k1 s.heap i1 l1 n1) (j2 : SqIt k2 s.heap i2 l2 n2) (o1 : SqOb k1 s.heap l1 xs) (o2 : SqOb k2 s.heap l2 ys) (hx : xs[n1]? = some x) (hy : ys[n2]? = some y)
    (q : ∀ h', IsZip h' z TI TO (rawInt s.heap.objs.size) → IsPair h' TO x y → SqIt k1 h' i1 l1 (n1 + 1) → SqIt k2 h' i2 l2 (n2 + 1) → IsPair h' s.heap.objs.size x y → ZKeep z TO i1 i2 s.heap h' → Q (some (.ref s.heap.objs.size)) { s with heap := h' }) :
    wpAny (model prog w) A (pyNext (.ref z)) Q E s := by
  have ty : s.TypeIs (.ref z) "zip" := ⟨_, hz, rfl⟩
  unfold pyNext
  refine wpAny_bind (wpAny_attempt (wpAny_callSpecial?_slot (name := Str.ofString "__next__") ty F.slot_zip_next (wpAny_call_entry F.slot_zip_next ty F.entry_zip_next ?_ (F.args_zip_next_1 _))))
  refine z_open hz hTI hTO fun h1 z1 s1 => sq_next (j1.ext s1.extBut D.i1z) (o1.ext s1.extBut D.l1z) hx fun h2 m1 s2 => ⟨s2.extBut _ _ D.i1z.symm z1, a, b, s2.extBut _ _ D.TOi1 (s1.extBut _ _ D.TOz hTO), fun h3 p3 s3 => ?_⟩
  refine sq_next (((j2.ext s1.extBut D.i2z).ext s2.extBut D.i12.symm).ext s3.extBut D.TOi2.symm) (((o2.ext s1.extBut D.l2z).ext s2.extBut D.l2i1).ext s3.extBut D.l2TO) hy fun h4 m2 s4 => ⟨s4.extBut _ _ D.TOi2 p3, fun h5 p5 s5 => ?_⟩
  have sz : h5.objs.size = s.heap.objs.size := by rw [s5.1, s4.1, s3.1, s2.1, s1.1]
  have kp : ZKeep z TO i1 i2 s.heap h5 := fun c o c1 c2 c3 c4 e => s5.extBut _ _ c2 (s4.extBut _ _ c4 (s3.extBut _ _ c2 (s2.extBut _ _ c3 (s1.extBut _ _ c1 e))))
  refine ⟨s5.extBut _ _ D.TOz.symm (s4.extBut _ _ D.i2z.symm (s3.extBut _ _ D.TOz.symm (s2.extBut _ _ D.i1z.symm z1))), fun h6 z6 pT _ up => ?_⟩
  rw [sz] at z6 pT
  refine ⟨_, rfl, wpAny_pure ?_⟩
  show Q (some (.ref h5.objs.size)) _
  rw [sz]
  exact q h6 z6 (up _ _ D.TOz p5) ((((m1.ext s3.extBut D.TOi1.symm).ext s4.extBut D.i12).ext s5.extBut D.TOi1.symm).move fun o e => up _ o D.i1z e) ((m2.ext s5.extBut D.TOi2.symm).move fun o e => up _ o D.i2z e) pT fun c o c1 c2 c3 c4 e => up c o c1 (kp c o c1 c2 c3 c4 e)
theorem zm_end {k1 k2 : Bool} {z TI TO i1 i2 l1 l2 : Addr} {n1 n2 : Nat} {xs ys : Array Value} {a b : Value} {Q : Option Value → Shared → Prop} (hh : A.handled = none) (D : ZipApart z TI TO i1 i2 l1 l2) (hz : IsZip s.heap z TI TO .none) (hTI : IsPair s.heap TI (.ref i1) (.ref i2)) (hTO : IsPair s.heap TO a b)
    (j1 : SqIt k1 s.heap i1 l1 n1) (j2 : SqIt k2 s.heap i2 l2 n2) (o1 : SqOb k1 s.heap l1 xs) (o2 : SqOb k2 s.heap l2 ys) (stop : xs[n1]? = none ∨ ys[n2]? = none)
    (q : ∀ h', ZKeep z TO i1 i2 s.heap h' → Q none { s with heap := h' }) : wpAny (model prog w) A (pyNext (.ref z)) Q E s := by
  have ty : s.TypeIs (.ref z) "zip" := ⟨_, hz, rfl⟩
  unfold pyNext
  refine wpAny_bind (wpAny_attempt (wpAny_callSpecial?_slot (name := Str.ofString "__next__") ty F.slot_zip_next (wpAny_call_entry F.slot_zip_next ty F.entry_zip_next ?_ (F.args_zip_next_1 _))))
  refine z_open hz hTI hTO fun h1 z1 s1 => ?_
  cases hx : xs[n1]? with
  | none =>
    refine sq_end hh (j1.ext s1.extBut D.i1z) (o1.ext s1.extBut D.l1z) hx fun h2 e s2 ⟨oe, e1, e2⟩ => ?_
    have z2 : IsZip h2 z TI TO .ellipsis := s2 _ _ D.i1z.symm z1
    refine ⟨z2, fun h3 s3 => ?_⟩
    have ne : e ≠ z := fun x => by rw [x, z2] at e1; cases e1; simp at e2
    refine wpAny_bind (wpAny_isInstance (T := "StopIteration") (b := true) ⟨oe, s3.extBut _ _ ne e1, e2⟩ isSubtype_stop ?_)
    exact wpAny_pure (q _ fun c o c1 _ c3 _ x => s3.extBut _ _ c1 (s2 _ _ c3 (s1.extBut _ _ c1 x)))
  | some x =>
    have hy : ys[n2]? = none := by rcases stop with u | u; rw [hx] at u; cases u; exact u
    refine sq_next (j1.ext s1.extBut D.i1z) (o1.ext s1.extBut D.l1z) hx fun h2 m1 s2 => ⟨s2.extBut _ _ D.i1z.symm z1, a, b, s2.extBut _ _ D.TOi1 (s1.extBut _ _ D.TOz hTO), fun h3 p3 s3 => ?_⟩
    refine sq_end hh (((j2.ext s1.extBut D.i2z).ext s2.extBut D.i12.symm).ext s3.extBut D.TOi2.symm) (((o2.ext s1.extBut D.l2z).ext s2.extBut D.l2i1).ext s3.extBut D.l2TO) hy fun h4 e s4 ⟨oe, e1, e2⟩ => ?_
    have z4 : IsZip h4 z TI TO .ellipsis := s4 _ _ D.i2z.symm (s3.extBut _ _ D.TOz.symm (s2.extBut _ _ D.i1z.symm z1))
    refine ⟨z4, fun h5 s5 => ?_⟩
    have ne : e ≠ z := fun x => by rw [x, z4] at e1; cases e1; simp at e2
    refine wpAny_bind (wpAny_isInstance (T := "StopIteration") (b := true) ⟨oe, s5.extBut _ _ ne e1, e2⟩ isSubtype_stop ?_)
    exact wpAny_pure (q _ fun c o c1 c2 c3 c4 x => s5.extBut _ _ c1 (s4 _ _ c4 (s3.extBut _ _ c2 (s2.extBut _ _ c3 (s1.extBut _ _ c1 x)))))
end
def itO : Bool → Addr → Obj
  | true, l => { cls := .type "tuple_iterator", data := .fields #[.ref l, .int 0 0] }
  | false, l => { cls := .type "list_iterator", data := .fields #[.ref l, .int 0 0] }
def zp2 (k1 k2 : Bool) (h : Heap) (l1 l2 : Addr) : Heap := (h.push (itO k1 l1)).push (itO k2 l2)
def zp4 (k1 k2 : Bool) (h : Heap) (l1 l2 : Addr) : Heap := ((zp2 k1 k2 h l1 l2).push { cls := .type "tuple", data := .seq #[.ref h.objs.size, .ref (h.push (itO k1 l1)).objs.size] }).push { cls := .type "tuple", data := .seq #[.none, .none] }
def zp5 (k1 k2 : Bool) (h : Heap) (l1 l2 : Addr) : Heap := (zp4 k1 k2 h l1 l2).push { cls := .type "zip", data := .fields #[.none, .bool false, .bool false, .ref (zp2 k1 k2 h l1 l2).objs.size, .ref ((zp2 k1 k2 h l1 l2).push { cls := .type "tuple", data := .seq #[.ref h.objs.size, .ref (h.push (itO k1 l1)).objs.size] }).objs.size] }
theorem zp_new (k1 k2 : Bool) (l1 l2 : Addr) (xs ys : Array Value) : Meets (Builtin.«zip.__new__» ⟨[.type "zip", .ref l1, .ref l2], []⟩) (fun _ R s => SqOb k1 s.heap l1 xs ∧ SqOb k2 s.heap l2 ys ∧ R (.ok (.ret (.ref (zp4 k1 k2 s.heap l1 l2).objs.size))) { s with heap := zp5 k1 k2 s.heap l1 l2 }) :=
  .of_wp fun prog w A R s hh => by
    obtain ⟨hp, g, d, tk, os⟩ := s
    obtain ⟨o1, o2, hh⟩ := hh
    have hsub := sub_zip
    cases k1 <;> cases k2
    · have hL1 : Heap.IsList (Shared.heap ⟨hp, g, d, tk, os⟩) l1 xs := o1
      have hL2 : Heap.IsList (Shared.heap ⟨hp.push { cls := .type "list_iterator", data := .fields #[.ref l1, .int 0 0] }, g, d, tk, os⟩) l2 ys := Heap.IsList.push o2 _
      wp_walk using wpAny_pyIter_list hL1, wpAny_pyIter_list hL2
      exact ⟨_, rfl, hh⟩
    · have hL1 : Heap.IsList (Shared.heap ⟨hp, g, d, tk, os⟩) l1 xs := o1
      have hL2 : Heap.IsTuple (Shared.heap ⟨hp.push { cls := .type "list_iterator", data := .fields #[.ref l1, .int 0 0] }, g, d, tk, os⟩) l2 ys := Heap.IsTuple.push o2 _
      wp_walk using wpAny_pyIter_list hL1, wpAny_pyIter_tuple hL2
      exact ⟨_, rfl, hh⟩
    · have hL1 : Heap.IsTuple (Shared.heap ⟨hp, g, d, tk, os⟩) l1 xs := o1
      have hL2 : Heap.IsList (Shared.heap ⟨hp.push { cls := .type "tuple_iterator", data := .fields #[.ref l1, .int 0 0] }, g, d, tk, os⟩) l2 ys := Heap.IsList.push o2 _
      wp_walk using wpAny_pyIter_tuple hL1, wpAny_pyIter_list hL2
      exact ⟨_, rfl, hh⟩
    · have hL1 : Heap.IsTuple (Shared.heap ⟨hp, g, d, tk, os⟩) l1 xs := o1
      have hL2 : Heap.IsTuple (Shared.heap ⟨hp.push { cls := .type "tuple_iterator", data := .fields #[.ref l1, .int 0 0] }, g, d, tk, os⟩) l2 ys := Heap.IsTuple.push o2 _
      wp_walk using wpAny_pyIter_tuple hL1, wpAny_pyIter_tuple hL2
      exact ⟨_, rfl, hh⟩
theorem itO_live (k : Bool) (l : Addr) : (itO k l).isFreed = false := by cases k <;> rfl
theorem itO_is {k : Bool} {h : Heap} {a l : Addr} (e : h.get? a = some (itO k l)) : SqIt k h a l 0 := by
  cases k
  · exact ⟨_, e, rfl, rfl⟩
  · exact ⟨_, e, rfl, rfl⟩
section
variable {prog : Program} {w : World} {A : Around} {E : Value → Shared → Prop} {s : Shared}
theorem call_zm {k1 k2 : Bool} {l1 l2 : Addr} {xs ys : Array Value} {Q : Value → Shared → Prop} (o1 : SqOb k1 s.heap l1 xs) (o2 : SqOb k2 s.heap l2 ys)
    (q : ∀ h', IsZip h' (s.heap.objs.size + 4) (s.heap.objs.size + 2) (s.heap.objs.size + 3) .none → IsPair h' (s.heap.objs.size + 2) (.ref s.heap.objs.size) (.ref (s.heap.objs.size + 1)) → IsPair h' (s.heap.objs.size + 3) .none .none →
      SqIt k1 h' s.heap.objs.size l1 0 → SqIt k2 h' (s.heap.objs.size + 1) l2 0 → (∀ c o, s.heap.get? c = some o → h'.get? c = some o) → Q (.ref (s.heap.objs.size + 4)) { s with heap := h' }) : wpAny (model prog w) A (call (.type "zip") [.ref l1, .ref l2]) Q E s := by
  refine callType_new F.called_zip (by decide) (F.typeCall_zip_2 _ _) (F.newCall_zip_2 _ _) (fun obj => F.args_object_init_3 obj _ _) F.entry_zip_new (zp_new k1 k2 l1 l2 xs ys) ⟨o1, o2, ?_⟩
  have z1 : (s.heap.push (itO k1 l1)).objs.size = s.heap.objs.size + 1 := Heap.size_push ..
  have z2 : (zp2 k1 k2 s.heap l1 l2).objs.size = s.heap.objs.size + 2 := by unfold zp2; rw [Heap.size_push, z1]
  have z4 : (zp4 k1 k2 s.heap l1 l2).objs.size = s.heap.objs.size + 4 := by unfold zp4; rw [Heap.size_push, Heap.size_push, z2]
  have g1 : (zp5 k1 k2 s.heap l1 l2).get? s.heap.objs.size = some (itO k1 l1) := Heap.get?_push_of_some _ (Heap.get?_push_of_some _ (Heap.get?_push_of_some _ (Heap.get?_push_of_some _ (Heap.get?_push_size _ (itO_live _ _)))))
  have g2 : (zp5 k1 k2 s.heap l1 l2).get? (s.heap.push (itO k1 l1)).objs.size = some (itO k2 l2) := Heap.get?_push_of_some _ (Heap.get?_push_of_some _ (Heap.get?_push_of_some _ (Heap.get?_push_size _ (itO_live _ _))))
  have g3 : (zp5 k1 k2 s.heap l1 l2).get? (zp2 k1 k2 s.heap l1 l2).objs.size = some _ := Heap.get?_push_of_some _ (Heap.get?_push_of_some _ (Heap.get?_push_size _ rfl))
  have g4 : (zp5 k1 k2 s.heap l1 l2).get? ((zp2 k1 k2 s.heap l1 l2).push { cls := .type "tuple", data := .seq #[.ref s.heap.objs.size, .ref (s.heap.push (itO k1 l1)).objs.size] }).objs.size = some _ := Heap.get?_push_of_some _ (Heap.get?_push_size _ rfl)
  have g5 : (zp5 k1 k2 s.heap l1 l2).get? (zp4 k1 k2 s.heap l1 l2).objs.size = some _ := Heap.get?_push_size _ rfl
  rw [Heap.size_push, z2] at g4
  rw [z4, Heap.size_push, z2] at g5
  rw [z2, z1] at g3
  rw [z1] at g2
  show _ ∧ _
  rw [z4]
  exact ⟨⟨_, g5, rfl⟩, q _ g5 g3 g4 (itO_is g1) (itO_is g2) fun c o e => Heap.get?_push_of_some _ (Heap.get?_push_of_some _ (Heap.get?_push_of_some _ (Heap.get?_push_of_some _ (Heap.get?_push_of_some _ e))))⟩
end
def SqV (K : PySem.W.Frag) : Bool → Hp → Addr → List V → Prop
  | true, H, a, xs => SqT K H a xs
  | false, H, a, xs => SqL K H a xs
theorem sqv_ob {X : Cx} {pins : List (Addr × Obj)} {σ : St} {H : Hp} {s : Shared} {k : Bool} {a : Addr} {xs : List V} (I : Inv X pins σ H s) (q : SqV X.K k H a xs) : ∃ its : List Value, Vals xs its ∧ SqOb k s.heap a its.toArray ∧ a < s.heap.objs.size := by
  cases k
  · obtain ⟨its, r, p, _⟩ := I.list q
    exact ⟨its, r, p.isList, p.lt⟩
  · obtain ⟨its, r, p, _⟩ := I.tuple q
    obtain ⟨o, e, _⟩ := id p
    exact ⟨its, r, p, Heap.lt_size e⟩
theorem sqv_inj {X : Cx} {pins : List (Addr × Obj)} {σ : St} {H : Hp} {s : Shared} {k : Bool} {a : Addr} {xs ys : List V} (I : Inv X pins σ H s) (q : SqV X.K k H a xs) (p : SqV X.K k H a ys) : xs = ys := by
  cases k
  · exact I.list_inj q p
  · exact I.tuple_inj q p
/-- both at each turn, the items in new pairs -/
def ItM (K : PySem.W.Frag) (k1 k2 : Bool) (a b : Addr) : It :=
  ⟨fun i H => ∃ (xs ys : List V) (x y : V), SqV K k1 H a xs ∧ SqV K k2 H b ys ∧ xs[i]? = some x ∧ ys[i]? = some y,
    fun i H v H' => ∃ T x y, v = .ref T ∧ H T = none ∧ H' = upd H T (.tup [x, y]) ∧ (∀ xs, SqV K k1 H a xs → xs[i]? = some x) ∧ ∀ ys, SqV K k2 H b ys → ys[i]? = some y,
    fun i H => ∃ xs ys : List V, SqV K k1 H a xs ∧ SqV K k2 H b ys ∧ (xs.length ≤ i ∨ ys.length ≤ i)⟩
theorem turn_zm {P : Program} {w : World} {K : PySem.W.Frag} {k1 k2 : Bool} {es : List Expr} {kk : Nat} {tp : Pos} {a b z TI TO i1 i2 : Addr} (D : ZipApart z TI TO i1 i2 a b) :
    Turn P w K (.Tuple es kk tp) (ItM K k1 k2 a b) [z, TI, TO, i1, i2] z (fun i h => IsZip h z TI TO .none ∧ IsPair h TI (.ref i1) (.ref i2) ∧ (∃ x y, IsPair h TO x y) ∧ SqIt k1 h i1 a i ∧ SqIt k2 h i2 b i) := by
  have five : ∀ c : Addr, c ∈ [z, TI, TO, i1, i2] → c = z ∨ c = TI ∨ c = TO ∨ c = i1 ∨ c = i2 := fun c hc => by simpa using hc
  have out : ∀ c : Addr, c ∉ [z, TI, TO, i1, i2] → c ≠ z ∧ c ≠ TO ∧ c ≠ i1 ∧ c ≠ i2 := fun c hc => by
    simp only [List.mem_cons, List.not_mem_nil, or_false, not_or] at hc
    exact ⟨hc.1, hc.2.2.1, hc.2.2.2.1, hc.2.2.2.2⟩
  refine ⟨by simp, fun i h st c hc => ?_, fun i h h' st k => ?_, ?_, ?_, fun A i s Q E st q => wpAny_pyIter_zip st.1 q⟩
  · obtain ⟨hz, hTI, ⟨x, y, hTO⟩, j1, j2⟩ := st
    rcases five c hc with rfl | rfl | rfl | rfl | rfl
    · exact ⟨_, hz, fun v q => nomatch q⟩
    · exact ⟨_, hTI, fun v q => nomatch q⟩
    · exact ⟨_, hTO, fun v q => nomatch q⟩
    · exact j1.has
    · exact j2.has
  · obtain ⟨hz, hTI, ⟨x, y, hTO⟩, j1, j2⟩ := st
    exact ⟨k z (by simp) _ hz, k TI (by simp) _ hTI, ⟨x, y, k TO (by simp) _ hTO⟩, j1.move fun o q => k i1 (by simp) o q, j2.move fun o q => k i2 (by simp) o q⟩
  · intro X hP hw hK hc i pins s σ H E I hf st hg
    subst hP hw hK
    obtain ⟨hz, hTI, ⟨x0, y0, hTO⟩, j1, j2⟩ := st
    obtain ⟨xs, ys, x, y, qx, qy, hx, hy⟩ := hg
    obtain ⟨us, r1, o1, _⟩ := sqv_ob I qx
    obtain ⟨ws, r2, o2, _⟩ := sqv_ob I qy
    obtain ⟨u, hu, ru⟩ := r1.get hx
    obtain ⟨v, hv, rv⟩ := r2.get hy
    have zl : z < s.heap.objs.size := Heap.lt_size hz
    refine zm_item D hz hTI hTO j1 j2 o1 o2 (x := u) (y := v) (by simpa using hu) (by simpa using hv) fun h1 z1 p1 m1 m2 pT kp => ⟨_, rfl, ?_⟩
    refine wpAny_letOwnedTupleGo_zip (s := { s with heap := h1 }) z1 fun h2 z2 sb => ?_
    have kp2 : ∀ c o, c ∉ [z, TI, TO, i1, i2] → s.heap.get? c = some o → h2.get? c = some o := fun c o hb e => by
      obtain ⟨n1, n2, n3, n4⟩ := out c hb
      exact (sb.2 c n1).trans (kp c o n1 n2 n3 n4 e)
    have pT2 : IsPair h2 s.heap.objs.size u v := (sb.2 _ (Nat.ne_of_gt zl)).trans pT
    have ok : ObjOk X.prog X.w (upd H s.heap.objs.size (.tup [x, y])) h2 s.heap.objs.size (.tup [x, y]) := ⟨by show 2 ≤ sizeLine; decide, [u, v], .cons ru (.cons rv .nil), ⟨_, pT2, rfl, _, rfl⟩⟩
    refine ⟨.ref s.heap.objs.size, _, I.turnedNew (t' := s.toks) kp2 hf (Nat.le_refl _) ok, rfl, ⟨_, x, y, rfl, I.hok.fresh (Nat.le_refl _), rfl, fun l hl => by rw [sqv_inj I hl qx]; exact hx, fun l hl => by rw [sqv_inj I hl qy]; exact hy⟩,
      ⟨z2, (sb.2 _ D.TIz).trans (kp _ _ D.TIz D.TITO D.TIi1 D.TIi2 hTI), ⟨u, v, (sb.2 _ D.TOz).trans p1⟩, m1.move fun o q => (sb.2 _ D.i1z).trans q, m2.move fun o q => (sb.2 _ D.i2z).trans q⟩, fun c hcm => ?_⟩
    have lt : c < s.heap.objs.size := by
      rcases five c hcm with rfl | rfl | rfl | rfl | rfl
      · exact zl
      · exact Heap.lt_size hTI
      · exact Heap.lt_size hTO
      · exact j1.lt
      · exact j2.lt
    rw [upd_ne (Nat.ne_of_lt lt)]
    exact (hf c hcm).1
  · intro X hP hw hK hc i pins s σ H E I hf st hg
    subst hP hw hK
    obtain ⟨hz, hTI, ⟨x0, y0, hTO⟩, j1, j2⟩ := st
    obtain ⟨xs, ys, qx, qy, stop⟩ := hg
    obtain ⟨us, r1, o1, _⟩ := sqv_ob I qx
    obtain ⟨ws, r2, o2, _⟩ := sqv_ob I qy
    have n1 := r1.length
    have n2 := r2.length
    refine zm_end (I.ok.hd hc) D hz hTI hTO j1 j2 o1 o2 (stop.imp (fun q => by simp; omega) fun q => by simp; omega) fun h1 kp => ⟨rfl, ?_⟩
    refine I.turnedL (t' := s.toks) (ch := [z, TI, TO, i1, i2]) (fun c o hb e => ?_) hf
    obtain ⟨n1, n2, n3, n4⟩ := out c hb
    exact kp c o n1 n2 n3 n4 e
def iZipM (K : PySem.W.Frag) (ta : TA) : TI := fun σ H R => ta σ H fun vs H1 => ∃ k1 k2 a b xs ys, vs = [.ref a, .ref b] ∧ SqV K k1 H1 a xs ∧ SqV K k2 H1 b ys ∧ R (ItM K k1 k2 a b) H1
theorem pi_zm {X : Cx} {e e2 : Expr} {ta : TA} {p pos tp : Pos} {es : List Expr} {kk : Nat} (hg : Gl X "zip") (hm : X.mg "zip" = none) (ha : PA X [e, e2] ta) (hs : starEach [e, e2] X.env = (false, eval e X.env) :: starEach [e2] X.env) (hpl : (backTo pos (starEach [e2] X.env)).any (·.1) = false) :
    PI X (.Tuple es kk tp) (.Call (.Name "zip" p) [e, e2] [] pos) (iZipM X.K ta) := by
  refine ⟨fun pins s σ H R I h => Call_ (ld_blt I hg hm PyProof.Rows.boot_zip (PyProof.Rows.callWith_type1 (thn (ha.run pos pins s σ H _ I h) fun us s1 ⟨vs, H1, I1, r1, q1⟩ => ?_) hs hpl))⟩
  obtain ⟨k1, k2, a, b, xs, ys, rfl, qx, qy, q⟩ := q1
  cases r1 with
  | cons r rr =>
  cases rr with
  | cons r' rr =>
  cases rr
  cases r
  cases r'
  obtain ⟨its, _, o1, la⟩ := sqv_ob I1 qx
  obtain ⟨its2, _, o2, lb⟩ := sqv_ob I1 qy
  refine call_zm o1 o2 fun h1 hz hTI hTO j1 j2 kp => wpAny_pyIter_zip hz ?_
  refine ⟨_, [s1.heap.objs.size + 4, s1.heap.objs.size + 2, s1.heap.objs.size + 3, s1.heap.objs.size, s1.heap.objs.size + 1], _, _, H1, rfl, I1.kept (t' := s1.toks) kp, turn_zm (PySem.W.ktu_apart s1.heap.objs.size a b la lb), ⟨hz, hTI, ⟨_, _, hTO⟩, j1, j2⟩, fun c hcm => ?_, q⟩
  have le : s1.heap.objs.size ≤ c := by
    simp only [List.mem_cons, List.not_mem_nil, or_false] at hcm
    rcases hcm with rfl | rfl | rfl | rfl | rfl <;> omega
  exact I1.fpOk le (I1.hok.fresh le)
end TL

set_option Elab.async false
set_option linter.all false
set_option maxRecDepth 100000
set_option maxHeartbeats 4000000
set_option autoImplicit false
/-! TL6E: enumerate of a tuple. -/
namespace TL
open PySem PySem.Spec PyProof.Rows L2
open AutoSeq1 (wpAny_loadPart')
theorem SqOb.move {k : Bool} {h h' : Heap} {l : Addr} {xs : Array Value} (x : SqOb k h l xs) (e : ∀ o, h.get? l = some o → h'.get? l = some o) : SqOb k h' l xs := by
  cases k
  · exact Heap.IsList.at x e
  · exact Heap.IsTuple.at x e
theorem sq_draws {prog : Program} {w : World} {A : Around} (hh : A.handled = none) (k : Bool) (it l : Addr) (hne : l ≠ it) (items : Array Value) :
    Draws prog w A it [it, l] items.size (fun i v => items[i]? = some v) (fun i h => SqIt k h it l i ∧ SqOb k h l items) where
  live := fun _ _ st => let ⟨o, ho, _⟩ := st.1.has; ⟨o, ho⟩
  frame := fun _ _ _ st hk => ⟨st.1.move fun o e => hk it (by simp) o e, st.2.move fun o e => hk l (by simp) o e⟩
  item := fun i s Q E hi st hQ => by
    refine sq_next st.1 st.2 (x := items[i]) (by simp [hi]) fun h' hit' hs' => ?_
    exact hQ _ h' s.toks (by simp [hi]) ⟨hit', st.2.ext hs'.extBut hne⟩ hs'
  done := fun s Q E st hE => sq_end hh st.1 st.2 (by simp) hE
theorem meets_enumerate_tup (l : Addr) (o : Obj) (items : Array Value) :
    Meets (Builtin.«enumerate.__new__» ⟨[.type "enumerate", .ref l], []⟩) (fun _ R s => (s.heap.get? l = some o ∧ s.heap.IsTuple l items) ∧
      R (.ok (.ret (.ref (s.heap.push { cls := .type "tuple_iterator", data := .fields #[.ref l, .int 0 0] }).objs.size)))
        { s with heap := (s.heap.push { cls := .type "tuple_iterator", data := .fields #[.ref l, .int 0 0] }).push { cls := .type "enumerate", data := .fields #[.none, .bool false, .ref s.heap.objs.size, rawInt 0, .none, .none] } }) :=
  .of_wp fun prog w A R s h => by
    obtain ⟨hp, g, d, tk, os⟩ := s; obtain ⟨⟨hl, hT⟩, h⟩ := h
    have hsub := sub_enumerate
    have hT : Heap.IsTuple (Shared.heap ⟨hp, g, d, tk, os⟩) l items := hT
    wp_walk using wpAny_loadPart' hl
    refine wpAny_stack_any fun st => wpAny_pure ?_
    split
    · rename_i c _ _ _ _ _
      cases (c == Value.type "enumerate")
      · wp_walk using wpAny_loadPart' hl, wpAny_pyIter_tuple hT
        exact ⟨_, rfl, h⟩
      · wp_walk using wpAny_loadPart' hl, wpAny_pyIter_tuple hT
        exact ⟨_, rfl, h⟩
    · wp_walk using wpAny_loadPart' hl, wpAny_pyIter_tuple hT
      exact ⟨_, rfl, h⟩
section
variable {prog : Program} {w : World} {A : Around} {E : Value → Shared → Prop} {s : Shared}
theorem call_enumerate_tup {l : Addr} {items : Array Value} {Q : Value → Shared → Prop} (hL : s.heap.IsTuple l items)
    (h : ∀ h', IsEnum h' (s.heap.objs.size + 1) s.heap.objs.size 0 .none → SqIt true h' s.heap.objs.size l 0 → h'.objs.size = s.heap.objs.size + 2 →
      (∀ b o, s.heap.get? b = some o → h'.get? b = some o) → Q (.ref (s.heap.objs.size + 1)) { s with heap := h' }) :
    wpAny (model prog w) A (call (.type "enumerate") [.ref l]) Q E s := by
  obtain ⟨o, ho, _⟩ := id hL
  refine callType_new F.called_enumerate (by decide) (F.typeCall_enumerate_1 _) (F.newCall_enumerate_1 _) (fun obj => F.args_object_init_2 obj _) F.entry_enumerate_new
    (meets_enumerate_tup l o items) ⟨⟨ho, hL⟩, ?_⟩
  have hz : (s.heap.push { cls := .type "tuple_iterator", data := .fields #[.ref l, .int 0 0] }).objs.size = s.heap.objs.size + 1 := Heap.size_push ..
  show _ ∧ _
  rw [hz]
  have he : IsEnum ((s.heap.push { cls := .type "tuple_iterator", data := .fields #[.ref l, .int 0 0] }).push
      { cls := .type "enumerate", data := .fields #[.none, .bool false, .ref s.heap.objs.size, rawInt 0, .none, .none] }) (s.heap.objs.size + 1) s.heap.objs.size 0 .none := by
    have := Heap.get?_push_size (s.heap.push { cls := .type "tuple_iterator", data := .fields #[.ref l, .int 0 0] })
      (o := { cls := .type "enumerate", data := .fields #[.none, .bool false, .ref s.heap.objs.size, rawInt 0, .none, .none] }) rfl
    rw [hz] at this; exact this
  refine ⟨⟨_, he, rfl⟩, h _ he ⟨_, Heap.get?_push_of_some _ (Heap.get?_push_size _ rfl), rfl, rfl⟩ (by rw [Heap.size_push, hz]) fun b o x => Heap.get?_push_of_some _ (Heap.get?_push_of_some _ x)⟩
end
/-- the tuple at a as it stands at each turn, each item in a new pair -/
def IteT (K : PySem.W.Frag) (a : Addr) : It :=
  ⟨fun i H => ∃ (xs : List V) (x : V), SqT K H a xs ∧ xs[i]? = some x, fun i H v H' => ∃ T x, v = .ref T ∧ H T = none ∧ H' = upd H T (.tup [.int (i : Nat), x]) ∧ ∀ xs, SqT K H a xs → xs[i]? = some x, fun i H => ∃ xs : List V, SqT K H a xs ∧ xs.length ≤ i⟩
theorem turn_enumT {P : Program} {w : World} {K : PySem.W.Frag} {elts : List Expr} {kk : Nat} {tpos : Pos} (a e it : Addr) (nl : a ≠ it) (ne : a ≠ e) :
    Turn P w K (.Tuple elts kk tpos) (IteT K a) [e, it] e (fun i h => (∃ old, IsEnum h e it ((i : Nat) : Int) old) ∧ SqIt true h it a i ∧ e ≠ it) where
  mem := by simp
  obj := fun i h st b hb => by
    obtain ⟨⟨old, he⟩, hi, _⟩ := st
    have e' : b = e ∨ b = it := by simpa using hb
    rcases e' with z | z
    · rw [z]; exact ⟨_, he, fun v q => nomatch q⟩
    · rw [z]; exact hi.has
  keep := fun i h h' st k => let ⟨⟨old, he⟩, hi, hne⟩ := st; ⟨⟨old, k e (by simp) _ he⟩, hi.move fun o q => k it (by simp) o q, hne⟩
  item := by
    intro X hP hw hK hc i pins s σ H E I hf st hg
    subst hP hw hK
    obtain ⟨⟨old, he⟩, hit, hne⟩ := st
    obtain ⟨xs, x, hq, hx⟩ := hg
    obtain ⟨its, rv, p, la⟩ := sqv_ob (k := true) I hq
    obtain ⟨u, hu, ru⟩ := rv.get hx
    have hel : e < s.heap.objs.size := Heap.lt_size he
    have hil : it < s.heap.objs.size := hit.lt
    have hlt : i < its.toArray.size := by
      rw [List.size_toArray]
      exact (List.getElem?_eq_some_iff.mp hu).1
    refine wpAny_pyNext_enum_itemD (sq_draws (A := X.A.in1) (I.ok.hd hc) true it a nl its.toArray) he ⟨hit, p⟩ hlt hne (by simp [hne, Ne.symm ne]) fun u' h' tk hu' ho hst' hT hsz hk => ?_
    have eu : u' = u := by
      have h1 : its[i]? = some u' := by simpa using hu'
      rw [hu] at h1; exact (Option.some.inj h1).symm
    subst eu
    refine ⟨_, rfl, wpAny_letOwnedTupleGo_enum (s := { s with heap := h', toks := tk + 1 }) ho fun h'' he' sb => ?_⟩
    have hT2 : h''.get? s.heap.objs.size = some { cls := .type "tuple", data := .seq #[.int i tk, u'] } := (sb.2 _ (Nat.ne_of_gt hel)).trans hT
    have new : ObjOk X.prog X.w (upd H s.heap.objs.size (.tup [.int (i : Nat), x])) h'' s.heap.objs.size (.tup [.int (i : Nat), x]) :=
      ⟨by show 2 ≤ sizeLine; decide, [.int i tk, u'], .cons ⟨_, rfl⟩ (.cons ru .nil), ⟨_, hT2, rfl, _, rfl⟩⟩
    have I1 : Inv X pins σ (upd H s.heap.objs.size (.tup [.int (i : Nat), x])) { s with heap := h'', toks := tk + 1 } :=
      I.turnedNew (ch := [e, it]) (fun b ob hb q => (sb.2 b (fun z => hb (by simp [z]))).trans (hk b ob (fun z => hb (by simp [z])) (fun z => hb (by simp [z])) q)) hf (Nat.le_refl _) new
    refine ⟨.ref s.heap.objs.size, _, I1, rfl, ⟨_, x, rfl, I.hok.fresh (Nat.le_refl _), rfl, fun ys hy => by rw [sqv_inj (k := true) I hy hq]; exact hx⟩, ⟨⟨u', ?_⟩, hst'.1.move fun o q => (sb.2 it (Ne.symm hne)).trans q, hne⟩, fun b hb => ?_⟩
    · have e1 : ((i + 1 : Nat) : Int) = (i : Int) + 1 := by omega
      rw [e1]; exact he'
    · have hb' : b < s.heap.objs.size := by
        have e' : b = e ∨ b = it := by simpa using hb
        rcases e' with z | z
        · rw [z]; exact hel
        · rw [z]; exact hil
      rw [upd_ne (Nat.ne_of_lt hb')]
      exact (hf b hb).1
  done := by
    intro X hP hw hK hc i pins s σ H E I hf st hg
    subst hP hw hK
    obtain ⟨⟨old, he⟩, hit, hne⟩ := st
    obtain ⟨xs, hq, hx⟩ := hg
    obtain ⟨its, rv, p, la⟩ := sqv_ob (k := true) I hq
    obtain ⟨f0, f1, f2, f3, f4, f5⟩ := hf it (by simp)
    have hl := rv.length
    have hT : s.TypeIs (.ref e) "enumerate" := ⟨_, he, rfl⟩
    unfold pyNext
    refine wpAny_bind (wpAny_attempt (wpAny_callSpecial?_slot (name := Str.ofString "__next__") hT F.slot_enumerate_next
      (wpAny_call_entry F.slot_enumerate_next hT F.entry_enumerate_next ?_ (F.args_enumerate_next_1 _))))
    show wpAny _ _ (field (.ref e) 2 >>= _) _ _ _
    refine wpAny_bind (wpAny_field he rfl (x := .ref it) rfl ?_)
    refine wpAny_bind (sq_end (k := true) (I.ok.hd hc) hit p (by simp; omega) fun h' x he' hx' => ?_)
    obtain ⟨o, ho, hcl⟩ := hx'
    refine wpAny_bind (wpAny_isInstance (T := "StopIteration") (b := true) ⟨o, ho, hcl⟩ isSubtype_stop ?_)
    exact wpAny_pure ⟨rfl, I.turned (t' := s.toks) (fun b o hb q => he' b o hb q) f0 f1 f3 f4 f5⟩
  self := fun A i s Q E st h => let ⟨⟨_, he⟩, _⟩ := st; wpAny_pyIter_enum he h
/-- enumerate of a list, of a tuple -/
def ItEn (K : PySem.W.Frag) : Bool → Addr → It
  | true, a => IteT K a
  | false, a => Ite K a
def iEnumM (K : PySem.W.Frag) (ta : TA) : TI := fun σ H R => ta σ H fun vs H1 => ∃ k a xs, vs = [.ref a] ∧ SqV K k H1 a xs ∧ R (ItEn K k a) H1
theorem pi_enumM {X : Cx} {e : Expr} {ta : TA} {p pos tpos : Pos} {elts : List Expr} {kk : Nat} (hg : Gl X "enumerate") (hm : X.mg "enumerate" = none) (ha : PA X [e] ta) (hs : starEach [e] X.env = [(false, eval e X.env)] := by rfl) :
    PI X (.Tuple elts kk tpos) (.Call (.Name "enumerate" p) [e] [] pos) (iEnumM X.K ta) := by
  refine ⟨fun pins s σ H R I h => ?_⟩
  refine Call_ (ld_blt I hg hm boot_enumerate (PyProof.Rows.callWith_type1 (thn (ha.run pos pins s σ H _ I h) fun us s1 ⟨vs, H1, I1, r1, q1⟩ => ?_) hs rfl))
  obtain ⟨k, a, xs, ex, hq, q⟩ := q1
  subst ex
  cases r1 with
  | cons r rr =>
    cases rr
    cases r
    obtain ⟨its, rv, p', la⟩ := sqv_ob I1 hq
    have fin : ∀ b, b ∈ [s1.heap.objs.size + 1, s1.heap.objs.size] → s1.heap.objs.size ≤ b := fun b hb => by
      have e' : b = s1.heap.objs.size + 1 ∨ b = s1.heap.objs.size := by simpa using hb
      rcases e' with z | z
      · rw [z]; exact Nat.le_add_right _ _
      · rw [z]; exact Nat.le_refl _
    cases k with
    | false =>
      refine call_enumerate_list p' fun h' he hit hsz hk => wpAny_pyIter_enum he ?_
      have I2 : Inv X pins σ H1 { s1 with heap := h' } := I1.kept (t' := s1.toks) hk
      exact ⟨s1.heap.objs.size + 1, [s1.heap.objs.size + 1, s1.heap.objs.size], _, _, H1, rfl, I2, turn_enum a (s1.heap.objs.size + 1) s1.heap.objs.size, ⟨⟨.none, he⟩, hit, Nat.succ_ne_self _⟩, fun b hb => I1.fpOk (fin b hb) (I1.hok.fresh (fin b hb)), q⟩
    | true =>
      refine call_enumerate_tup p' fun h' he hit hsz hk => wpAny_pyIter_enum he ?_
      have I2 : Inv X pins σ H1 { s1 with heap := h' } := I1.kept (t' := s1.toks) hk
      exact ⟨s1.heap.objs.size + 1, [s1.heap.objs.size + 1, s1.heap.objs.size], _, _, H1, rfl, I2, turn_enumT a (s1.heap.objs.size + 1) s1.heap.objs.size (Nat.ne_of_lt la) (Nat.ne_of_lt (Nat.lt_succ_of_lt la)), ⟨⟨.none, he⟩, hit, Nat.succ_ne_self _⟩, fun b hb => I1.fpOk (fin b hb) (I1.hok.fresh (fin b hb)), q⟩
end TL

set_option Elab.async false
set_option linter.all false
set_option maxRecDepth 100000
set_option maxHeartbeats 2000000
set_option autoImplicit false
/-! TL6: what is walked, targets, loops, comprehensions. -/
namespace TL
open PySem PySem.Spec PyProof.Rows L2

section
variable {c : Ct} {X : Cx} {B : Wd} {F F1 : FF} {S S1 : SS} {H H1 : Hp} {τ : Sg} {σ : St} {a b e : Expr} {es : List Expr} {da db : DE} {dA : DA} {pos p : Pos}

/-! ### targets -/
inductive Tg where
  | nm (i : Nat) | tp (l : Tg) | nil | cons (h t : Tg)
mutual
def bindT : Tg → T → Sg → Option Sg
  | .nm i, t, τ => some (τ.set i (some t))
  | .tp l, .tup ts, τ => bindTs l ts τ
  | .tp l, .lst ts, τ => bindTs l ts τ
  | _, _, _ => none
def bindTs : Tg → List T → Sg → Option Sg
  | .nil, [], τ => some τ
  | .cons g r, t :: ts, τ => (match bindT g t τ with
    | some τ' => bindTs r ts τ'
    | none => none)
  | _, _, _ => none
end
def gslots : Tg → List Nat
  | .nm i => [i]
  | .tp l => gslots l
  | .nil => []
  | .cons h t => gslots h ++ gslots t
theorem wipe_len (σ : St) : ∀ vs : List Nat, (wipe σ vs).length = σ.length := wipe_length σ
theorem wipe_at (σ : St) (j : Nat) : ∀ vs : List Nat, (wipe σ vs)[j]? = if j ∈ vs then (if j < σ.length then some none else none) else σ[j]?
  | [] => by simp [wipe]
  | v :: vs => by
    unfold wipe
    rw [List.getElem?_set]
    by_cases e : v = j
    · subst e
      simp [wipe_length]
    · rw [if_neg e, wipe_at σ j vs]
      have : (j ∈ v :: vs) ↔ j ∈ vs := by simp [Ne.symm e]
      simp only [this]
theorem wipe_eq {σ σ' : St} {vs : List Nat} (hl : σ'.length = σ.length) (h : ∀ j, j ∉ vs → σ'[j]? = σ[j]?) : wipe σ' vs = wipe σ vs := by
  apply List.ext_getElem?
  intro j
  rw [wipe_at, wipe_at, hl]
  split
  · rfl
  · rename_i k
    exact h j k
theorem wipe_set {σ : St} {i : Nat} {x : Option V} {vs : List Nat} (h : i ∈ vs) : wipe (σ.set i x) vs = wipe σ vs :=
  wipe_eq (by simp) fun j hj => List.getElem?_set_ne (fun e => hj (by rw [← e]; exact h))
theorem wipe_wipe {σ : St} {vs : List Nat} : wipe (wipe σ vs) vs = wipe σ vs :=
  wipe_eq (wipe_length σ vs) fun j hj => by rw [wipe_at, if_neg hj]
def liftG (c : Ct) (g : Tg) : TG := fun v σ H Q => ∃ F S τ t τ', HRel c F S H ∧ SRel c F τ σ ∧ TR c F t v ∧ bindT g t τ = some τ' ∧ ∀ σ', SRel c F τ' σ' → (∀ vs, (∀ i, i ∈ gslots g → i ∈ vs) → wipe σ' vs = wipe σ vs) → Q σ' H
def liftGs (c : Ct) (g : Tg) : TGs := fun vs σ H Q => ∃ F S τ ts τ', HRel c F S H ∧ SRel c F τ σ ∧ TRs c F ts vs ∧ bindTs g ts τ = some τ' ∧ ∀ σ', SRel c F τ' σ' → (∀ vs, (∀ i, i ∈ gslots g → i ∈ vs) → wipe σ' vs = wipe σ vs) → Q σ' H
theorem _root_.L2.PG.sub {e : Expr} {t u : TG} (h : PG X e t) (k : ∀ v σ H Q, u v σ H Q → t v σ H Q) : PG X e u := ⟨fun pins s σ H v w Q I r q => h.run pins s σ H v w Q I r (k v σ H Q q)⟩
theorem _root_.L2.PG.or {e : Expr} {t u : TG} (h : PG X e t) (h2 : PG X e u) : PG X e (fun v σ H Q => t v σ H Q ∨ u v σ H Q) := ⟨fun pins s σ H v w Q I r q => q.elim (h.run pins s σ H v w Q I r) (h2.run pins s σ H v w Q I r)⟩
theorem _root_.L2.PGs.sub {e : List Expr} {t u : TGs} (h : PGs X e t) (k : ∀ v σ H Q, u v σ H Q → t v σ H Q) : PGs X e u := ⟨fun pins s σ H v w Q I r q => h.run pins s σ H v w Q I r (k v σ H Q q)⟩
theorem l_gname {i : Nat} {x : Str} (hN : X.N.Nodup) (hi : X.N[i]? = some x) (hx : Loc X.env.scope x) (hf : X.fn x = true ∨ X.env.scope.names.lookup x = some .local) : PG X (.Name x pos) (liftG c (.nm i)) :=
  (pg_name hN hi hx hf).sub fun v σ H Q ⟨F, S, τ, t, τ', hr, sr, tr, e, k⟩ => by
    simp only [bindT, Option.some.injEq] at e
    subst e
    exact k _ (sr.set i tr) fun vs h => wipe_set (h i (by simp [gslots]))
theorem l_gnil : PGs X [] (liftGs c .nil) := PGs.sub pgs_nil fun vs σ H Q ⟨F, S, τ, ts, τ', hr, sr, tr, e, k⟩ => by
  cases tr with
  | nil =>
    simp only [bindTs, Option.some.injEq] at e
    subst e
    exact ⟨rfl, k _ sr fun _ _ => rfl⟩
  | cons _ _ => simp [bindTs] at e
theorem l_gcons {g r : Tg} (h1 : PG X e (liftG c g)) (h2 : PGs X es (liftGs c r)) (hs : (assignEach (e :: es) X.env).map (·.2) = assign e X.env :: (assignEach es X.env).map (·.2)) : PGs X (e :: es) (liftGs c (.cons g r)) :=
  PGs.sub (pgs_cons h1 h2 hs) fun vs σ H Q ⟨F, S, τ, ts, τ', hr, sr, tr, e, k⟩ => by
    cases tr with
    | nil => simp [bindTs] at e
    | cons t1 trs =>
      simp only [bindTs] at e
      split at e
      · rename_i τ1 e1
        exact ⟨_, _, rfl, F, S, τ, _, τ1, hr, sr, t1, e1, fun σ' sr' w1 => ⟨F, S, τ1, _, τ', hr, sr', trs, e, fun σ'' sr'' w2 => k σ'' sr'' fun vs h => (w2 vs fun i hi => h i (by simp [gslots, hi])).trans (w1 vs fun i hi => h i (by simp [gslots, hi]))⟩⟩
      · cases e
def glen : Tg → Nat → Bool
  | .nil, 0 => true
  | .cons _ r, n + 1 => glen r n
  | _, _ => false
theorem asg_cons {e : Expr} {es : List Expr} {env : Env} (h : isStar e = false) : assignEach (e :: es) env = (false, assign e env) :: assignEach es env := by
  cases e <;> first | (cases h; done) | rfl
theorem asg_len {es : List Expr} {env : Env} (h : es.all (fun e => !isStar e) = true) : (assignEach es env).length = es.length ∧ (assignEach es env).findIdx? (·.1) = none := by
  induction es with
  | nil => exact ⟨rfl, rfl⟩
  | cons e es ih =>
    simp only [List.all_cons, Bool.and_eq_true, Bool.not_eq_true'] at h
    obtain ⟨h1, h2⟩ := ih h.2
    rw [asg_cons h.1]
    refine ⟨by simp [h1], ?_⟩
    simp [List.findIdx?_cons, h2]
theorem bindTs_len : ∀ {es : List Expr} {g : Tg} {ts : List T} {τ τ' : Sg}, bindTs g ts τ = some τ' → (∀ n, glen g n = true → n = ts.length)
  | _, .nil, [], _, _, _, 0, _ => rfl
  | _, .nil, [], _, _, _, n + 1, h => by simp [glen] at h
  | es, .cons g r, t :: ts, τ, τ', e, n + 1, h => by
    simp only [bindTs] at e
    split at e
    · have := bindTs_len (es := es) e n (by simpa [glen] using h)
      simp [this]
    · cases e
  | _, .cons g r, t :: ts, _, _, _, 0, h => by simp [glen] at h
  | _, .cons _ _, [], _, _, e, _, _ => by simp [bindTs] at e
  | _, .nil, _ :: _, _, _, e, _, _ => by simp [bindTs] at e
  | _, .nm _, _, _, _, e, _, _ => by simp [bindTs] at e
  | _, .tp _, _, _, _, e, _, _ => by simp [bindTs] at e
theorem l_gtup (sv : Sv c X) (hc : X.calm = true) {g : Tg} {k : Nat} (h : PGs X es (liftGs c g)) (hs : es.all (fun e => !isStar e) = true) (hn : glen g es.length = true) : PG X (.Tuple es k pos) (liftG c (.tp g)) := by
  obtain ⟨a1, a2⟩ := asg_len (env := X.env) hs
  refine ((pg_tup hc h a1 a2).or (pg_unl hc h a1 a2)).sub fun v σ H Q ⟨F, S, τ, t, τ', hr, sr, tr, e, q⟩ => ?_
  cases t with
  | tup ts =>
    simp only [bindT] at e
    obtain ⟨a, vs, rfl, sq, r⟩ := TR.tupI sv hr tr
    exact .inl ⟨a, vs, rfl, sq, by rw [← r.length]; exact (bindTs_len (es := es) e _ hn).symm, F, S, τ, ts, τ', hr, sr, r, e, q⟩
  | lst ts =>
    simp only [bindT] at e
    obtain ⟨a, vs, rfl, sq, r⟩ := lsOfI sv hr tr (S := S) (ts := ts) rfl
    exact .inr ⟨a, vs, rfl, sq.sq sv, by rw [← r.length]; exact (bindTs_len (es := es) e _ hn).symm, F, S, τ, ts, τ', hr, sr, r, e, q⟩
  | _ => simp [bindT] at e

/-! ### what is walked -/
/-- J walks the items ts while chk holds of the store -/
structure Walk (c : Ct) (J : It) (F : FF) (ts : List T) (chk : SS → Prop) : Prop where
  go : ∀ i F' S H, F.le F' → HRel c F' S H → chk S → i < ts.length → J.go i H
  stop : ∀ F' S H, F.le F' → HRel c F' S H → chk S → J.stop ts.length H
  yld : ∀ i F' S H x H', F.le F' → HRel c F' S H → chk S → i < ts.length → J.yld i H x H' → ∃ F'' t, ts[i]? = some t ∧ Wd.le ⟨F', S, H⟩ ⟨F'', S, H'⟩ ∧ HRel c F'' S H' ∧ TR c F'' t x
abbrev DI := Sg → SS → (List T → (SS → Prop) → SS → Prop) → Prop
def outI (c : Ct) (F : FF) (S : SS) (H : Hp) (P : List T → (SS → Prop) → SS → Prop) : It → Hp → Prop := fun J H' => ∃ F' ts chk S', Wd.le ⟨F, S, H⟩ ⟨F', S', H'⟩ ∧ HRel c F' S' H' ∧ Walk c J F' ts chk ∧ P ts chk S'
def liftI (c : Ct) (B : Wd) (d : DI) : TI := fun σ H Q => ∃ F τ S P, B.le ⟨F, S, H⟩ ∧ HRel c F S H ∧ SRel c F τ σ ∧ d τ S P ∧ ∀ J H', outI c F S H P J H' → Q J H'
theorem _root_.L2.PI.sub {tg e : Expr} {t u : TI} (h : PI X tg e t) (k : ∀ σ H Q, u σ H Q → t σ H Q) : PI X tg e u := ⟨fun pins s σ H Q I q => h.run pins s σ H Q I (k σ H Q q)⟩
/-- a list (frozen, of the store), a tuple -/
def chkOf (t : T) (l : List T) : SS → Prop := match t with
  | .ref a => fun S => S a = some (.lst l)
  | _ => fun _ => True
def seqI (d : DE) : DI := fun τ S Q => d τ S fun t S1 => match sqOf S1 t with
  | some l => Q l (chkOf t l) S1
  | none => False
def iSeq (K : PySem.W.Frag) (tl : TE) : TI := fun σ H R => tl σ H fun x H1 => ∃ a, x = .ref a ∧ (((∃ xs, SqL K H1 a xs) ∧ R (Itl K a) H1) ∨ ((∃ xs, SqT K H1 a xs) ∧ R (Itt K a) H1))
theorem pi_seq {tg l : Expr} {tl : TE} (hl : PE X l tl) : PI X tg l (iSeq X.K tl) := by
  refine ⟨fun pins s σ H R I h => ?_⟩
  refine mn (hl.run pins s σ H _ I h) fun v s1 ⟨x, H1, I1, r1, q1⟩ => ?_
  obtain ⟨a, e, ⟨⟨xs, hq⟩, q⟩ | ⟨⟨xs, hq⟩, q⟩⟩ := q1
  · subst e
    cases r1
    obtain ⟨its, rv, p, hz⟩ := I1.list hq
    refine wpAny_pyIter_list p.isList ?_
    refine ⟨s1.heap.objs.size, [s1.heap.objs.size], _, _, H1, rfl, I1.kept (t' := s1.toks) fun b o e => Heap.get?_push_of_some _ e, turn_list a _, ⟨_, Heap.get?_push_size _ rfl, rfl, rfl⟩, fun b hb => ?_, q⟩
    have e : b = s1.heap.objs.size := by simpa using hb
    subst e
    exact I1.fpOk (Nat.le_refl _) (I1.hok.fresh (Nat.le_refl _))
  · subst e
    cases r1
    obtain ⟨its, rv, p, hz⟩ := I1.tuple hq
    refine wpAny_pyIter_tuple (show s1.heap.IsTuple a its.toArray from p) ?_
    refine ⟨s1.heap.objs.size, [s1.heap.objs.size], _, _, H1, rfl, I1.kept (t' := s1.toks) fun b o e => Heap.get?_push_of_some _ e, turn_tuple a _, ⟨_, Heap.get?_push_size _ rfl, rfl, rfl⟩, fun b hb => ?_, q⟩
    have e : b = s1.heap.objs.size := by simpa using hb
    subst e
    exact I1.fpOk (Nat.le_refl _) (I1.hok.fresh (Nat.le_refl _))
/-- the value read again later -/
theorem seq_later (sv : Sv c X) {t : T} {l : List T} {v : V} (hr : HRel c F S H) (tr : TR c F t v) (e : sqOf S t = some l) : ∃ a, v = .ref a ∧ ((∀ F' S' H', F.le F' → HRel c F' S' H' → chkOf t l S' → ∃ vs, SqL X.K H' a vs ∧ TRs c F' l vs) ∨ (∀ F' S' H', F.le F' → HRel c F' S' H' → chkOf t l S' → ∃ vs, SqT X.K H' a vs ∧ TRs c F' l vs)) := by
  cases t with
  | tup ts =>
    simp only [sqOf, Option.some.injEq] at e
    subst e
    have : ∃ a, v = .ref a := by cases tr <;> exact ⟨_, rfl⟩
    obtain ⟨a, rfl⟩ := this
    refine ⟨a, rfl, .inr fun F' S' H' le hr' _ => ?_⟩
    obtain ⟨a', vs, e1, q, r⟩ := TR.tupI sv hr' (tr.mono le)
    cases e1
    exact ⟨vs, q, r⟩
  | lst ts =>
    simp only [sqOf, Option.some.injEq] at e
    subst e
    have : ∃ a, v = .ref a := by cases tr <;> exact ⟨_, rfl⟩
    obtain ⟨a, rfl⟩ := this
    refine ⟨a, rfl, .inl fun F' S' H' le hr' _ => ?_⟩
    obtain ⟨a', vs, e1, q, r⟩ := lsOfI sv hr' (tr.mono le) (S := S') (ts := ts) rfl
    cases e1
    exact ⟨vs, q.sq sv, r⟩
  | ref a =>
    cases tr
    refine ⟨a, rfl, .inl fun F' S' H' le hr' ck => ?_⟩
    have ck : S' a = some (.lst l) := ck
    obtain ⟨_, vs, hv, r⟩ := hr'.st _ _ ck
    exact ⟨vs, .inl (.inl hv), r⟩
  | _ => simp [sqOf] at e
theorem chk_now {t : T} {l : List T} (e : sqOf S t = some l) : chkOf t l S := by
  cases t with
  | ref a =>
    simp only [sqOf] at e
    split at e
    · rename_i q
      simp only [Option.some.injEq] at e
      subst e
      exact q
    · cases e
  | _ => trivial
theorem l_seq (sv : Sv c X) {tg : Expr} (ha : PE X a (lift c B da)) : PI X tg a (liftI c B (seqI da)) := by
  refine (pi_seq ha).sub fun σ H Q ⟨F, τ, S, P, l, hr, sr, h, q⟩ => ?_
  refine inE l hr sr h fun x H1 ⟨F1, t1, S1, l1, hr1, tr1, q1⟩ => ?_
  dsimp only at q1
  cases e : sqOf S1 t1 with
  | none => rw [e] at q1; exact q1.elim
  | some ls =>
    rw [e] at q1
    obtain ⟨p, rfl, k | k⟩ := seq_later sv hr1 tr1 e
    · obtain ⟨vs0, q0, _⟩ := k F1 S1 H1 FF.le.refl hr1 (chk_now e)
      refine ⟨p, rfl, .inl ⟨⟨vs0, q0⟩, q _ _ ⟨F1, ls, chkOf t1 ls, S1, l1, hr1, ⟨fun i F' S' H' le hr' ck hi => ?_, fun F' S' H' le hr' ck => ?_, fun i F' S' H' x H'' le hr' ck hi y => ?_⟩, q1⟩⟩⟩
      · obtain ⟨vs, q2, r⟩ := k F' S' H' le hr' ck
        obtain ⟨w, e1, _⟩ := r.get (List.getElem?_eq_getElem hi)
        exact ⟨vs, w, q2, e1⟩
      · obtain ⟨vs, q2, r⟩ := k F' S' H' le hr' ck
        exact ⟨vs, q2, by rw [r.length]; exact Nat.le_refl _⟩
      · obtain ⟨vs, q2, r⟩ := k F' S' H' le hr' ck
        obtain ⟨rfl, y⟩ := y
        obtain ⟨t, e1, tr⟩ := r.getV (y vs q2)
        exact ⟨F', t, e1, Wd.le.refl, hr', tr⟩
    · obtain ⟨vs0, q0, _⟩ := k F1 S1 H1 FF.le.refl hr1 (chk_now e)
      refine ⟨p, rfl, .inr ⟨⟨vs0, q0⟩, q _ _ ⟨F1, ls, chkOf t1 ls, S1, l1, hr1, ⟨fun i F' S' H' le hr' ck hi => ?_, fun F' S' H' le hr' ck => ?_, fun i F' S' H' x H'' le hr' ck hi y => ?_⟩, q1⟩⟩⟩
      · obtain ⟨vs, q2, r⟩ := k F' S' H' le hr' ck
        obtain ⟨w, e1, _⟩ := r.get (List.getElem?_eq_getElem hi)
        exact ⟨vs, w, q2, e1⟩
      · obtain ⟨vs, q2, r⟩ := k F' S' H' le hr' ck
        exact ⟨vs, q2, by rw [r.length]; exact Nat.le_refl _⟩
      · obtain ⟨vs, q2, r⟩ := k F' S' H' le hr' ck
        obtain ⟨rfl, y⟩ := y
        obtain ⟨t, e1, tr⟩ := r.getV (y vs q2)
        exact ⟨F', t, e1, Wd.le.refl, hr', tr⟩

/-- lo, lo + k, .. : n of them -/
def rngT (lo k : Int) (n : Nat) : List T := (List.range n).map fun i => .int (lo + (i : Nat) * k)
theorem rngT_len {lo k : Int} {n : Nat} : (rngT lo k n).length = n := by simp [rngT]
theorem rngT_at {lo k : Int} {n i : Nat} (h : i < n) : (rngT lo k n)[i]? = some (.int (lo + (i : Nat) * k)) := by simp [rngT, h]
def rng1I (d : DA) : DI := fun τ S Q => d τ S fun ts S1 => match ts with
  | [.int j] => -(2 ^ 62) ≤ j ∧ j < 2 ^ 62 ∧ Q (rngT 0 1 j.toNat) (fun _ => True) S1
  | _ => False
def rng2I (d : DA) : DI := fun τ S Q => d τ S fun ts S1 => match ts with
  | [.int i, .int j] => (-(2 ^ 62) ≤ i ∧ i < 2 ^ 62 ∧ -(2 ^ 62) ≤ j ∧ j < 2 ^ 62) ∧ Q (rngT i 1 (j - i).toNat) (fun _ => True) S1
  | _ => False
theorem walk_rng {lo : Int} {n : Nat} : Walk c (Itr lo n) F (rngT lo 1 n) (fun _ => True) where
  go := fun i F' S H le hr ck hi => by rw [rngT_len] at hi; exact hi
  stop := fun F' S H le hr ck => by rw [rngT_len]; exact Nat.le_refl n
  yld := fun i F' S H x H' le hr ck hi y => by
    rw [rngT_len] at hi
    obtain ⟨rfl, rfl⟩ := y
    exact ⟨F', _, rngT_at hi, Wd.le.refl, hr, by rw [Int.mul_one]; exact .int _⟩
theorem l_range1 {tg : Expr} (hg : Gl X "range") (hm : X.mg "range" = none) (ha : PA X [a] (liftA c B dA)) (hs : isStar a = false) : PI X tg (.Call (.Name "range" p) [a] [] pos) (liftI c B (rng1I dA)) := by
  refine (pi_range1 hg hm ha (by rw [star_cons hs]; rfl)).sub fun σ H Q ⟨F, τ, S, P, l, hr, sr, h, q⟩ => ?_
  refine inA l hr sr h fun x H1 ⟨F1, ts, S1, l1, hr1, tr1, q1⟩ => ?_
  dsimp only at q1
  split at q1
  · obtain ⟨v, rfl, tv⟩ := TRs.one tr1
    cases tv.intI
    exact ⟨_, rfl, q1.1, q1.2.1, q _ _ ⟨F1, _, _, S1, l1, hr1, walk_rng, q1.2.2⟩⟩
  · exact q1.elim
theorem l_range2 {tg : Expr} (hg : Gl X "range") (hm : X.mg "range" = none) (ha : PA X [a, b] (liftA c B dA)) (hs : isStar a = false) (hs2 : isStar b = false) : PI X tg (.Call (.Name "range" p) [a, b] [] pos) (liftI c B (rng2I dA)) := by
  refine (pi_range2 hg hm ha (by rw [star_cons hs, star_cons hs2]; rfl) (by rw [star_cons hs2]; rfl)).sub fun σ H Q ⟨F, τ, S, P, l, hr, sr, h, q⟩ => ?_
  refine inA l hr sr h fun x H1 ⟨F1, ts, S1, l1, hr1, tr1, q1⟩ => ?_
  dsimp only at q1
  split at q1
  · obtain ⟨v, w, rfl, tv, tw⟩ := TRs.two tr1
    cases tv.intI
    cases tw.intI
    exact ⟨_, _, rfl, q1.1, q _ _ ⟨F1, _, _, S1, l1, hr1, walk_rng, q1.2⟩⟩
  · exact q1.elim
def rng3I (d : DA) : DI := fun τ S Q => d τ S fun ts S1 => match ts with
  | [.int i, .int j, .int k] => ∃ n : Nat, RgC i j k n ∧ Q (rngT i k n) (fun _ => True) S1
  | _ => False
theorem walk_rngC {lo k : Int} {n : Nat} : Walk c (Itc lo k n) F (rngT lo k n) (fun _ => True) where
  go := fun i F' S H le hr ck hi => by rw [rngT_len] at hi; exact hi
  stop := fun F' S H le hr ck => by rw [rngT_len]; exact Nat.le_refl n
  yld := fun i F' S H x H' le hr ck hi y => by
    rw [rngT_len] at hi
    obtain ⟨rfl, rfl⟩ := y
    exact ⟨F', _, rngT_at hi, Wd.le.refl, hr, .int _⟩
theorem l_range3 {tg e3 : Expr} (hg : Gl X "range") (hm : X.mg "range" = none) (ha : PA X [a, b, e3] (liftA c B dA)) (hs : isStar a = false) (hs2 : [b, e3].all (fun e => !isStar e) = true) : PI X tg (.Call (.Name "range" p) [a, b, e3] [] pos) (liftI c B (rng3I dA)) := by
  refine (pi_range3 hg hm ha (star_cons hs) (star_any hs2)).sub fun σ H Q ⟨F, τ, S, P, l, hr, sr, h, q⟩ => ?_
  refine inA l hr sr h fun x H1 ⟨F1, ts, S1, l1, hr1, tr1, q1⟩ => ?_
  dsimp only at q1
  split at q1
  · rename_i i j k
    obtain ⟨n, r, q1⟩ := q1
    cases tr1 with
    | cons t1 r1 =>
      cases r1 with
      | cons t2 r2 =>
        cases r2 with
        | cons t3 r3 =>
          cases r3
          cases t1.intI
          cases t2.intI
          cases t3.intI
          exact ⟨_, _, _, n, rfl, r, q _ _ ⟨F1, _, _, S1, l1, hr1, walk_rngC, q1⟩⟩
  · exact q1.elim
/-- enumerate of a list -/
def enT (l : List T) : List T := l.mapIdx fun i t => .tup [.int (i : Nat), t]
def enumI (d : DA) : DI := fun τ S Q => d τ S fun ts S1 => match ts with
  | [t] => (match sqOf S1 t with
    | some l => Q (enT l) (chkOf t l) S1
    | none => False)
  | _ => False
theorem lsOf_sq {t : T} {l : List T} (e : lsOf S t = some l) : sqOf S t = some l := by
  cases t <;> first | exact e | (simp [lsOf] at e)
theorem ls_later (sv : Sv c X) {t : T} {l : List T} {v : V} (hr : HRel c F S H) (tr : TR c F t v) (e : lsOf S t = some l) : ∃ a, v = .ref a ∧ (∀ F' S' H', F.le F' → HRel c F' S' H' → chkOf t l S' → ∃ vs, SqL X.K H' a vs ∧ TRs c F' l vs) := by
  cases t with
  | lst ts =>
    simp only [lsOf, Option.some.injEq] at e
    subst e
    have : ∃ a, v = .ref a := by cases tr <;> exact ⟨_, rfl⟩
    obtain ⟨a, rfl⟩ := this
    refine ⟨a, rfl, fun F' S' H' le hr' _ => ?_⟩
    obtain ⟨a', vs, e1, q, r⟩ := lsOfI sv hr' (tr.mono le) (S := S') (ts := ts) rfl
    cases e1
    exact ⟨vs, q.sq sv, r⟩
  | ref a =>
    cases tr
    refine ⟨a, rfl, fun F' S' H' le hr' ck => ?_⟩
    have ck : S' a = some (.lst l) := ck
    obtain ⟨_, vs, hv, r⟩ := hr'.st _ _ ck
    exact ⟨vs, .inl (.inl hv), r⟩
  | _ => simp [lsOf] at e
/-- a new tuple in hand -/
theorem new_tup {T0 : Addr} {ts : List T} {vs : List V} (hr : HRel c F S H) (hT : H T0 = none) (r : TRs c F ts vs) : ∃ F'', Wd.le ⟨F, S, H⟩ ⟨F'', S, upd H T0 (.tup vs)⟩ ∧ HRel c F'' S (upd H T0 (.tup vs)) ∧ TR c F'' (.tup ts) (.ref T0) := by
  obtain ⟨h1, h2⟩ := hr.newF (o := .tup vs) hT upd_same
  exact ⟨_, le_newF hr hT, h1, .tup fupd_same (r.mono h2)⟩
theorem sq_later (sv : Sv c X) {t : T} {l : List T} {v : V} (hr : HRel c F S H) (tr : TR c F t v) (e : sqOf S t = some l) : ∃ k a, v = .ref a ∧ ∀ F' S' H', F.le F' → HRel c F' S' H' → chkOf t l S' → ∃ vs, SqV X.K k H' a vs ∧ TRs c F' l vs := by
  cases hl : lsOf S t with
  | some l' =>
    have e' := lsOf_sq hl
    rw [e] at e'
    cases e'
    obtain ⟨a, h1, h2⟩ := ls_later sv hr tr hl
    exact ⟨false, a, h1, h2⟩
  | none =>
    cases t with
    | tup ts =>
      simp only [sqOf, Option.some.injEq] at e
      subst e
      obtain ⟨a, vs, h1, h2, h3⟩ := TR.tupI sv hr tr
      subst h1
      refine ⟨true, a, rfl, fun F' S' H' le hr' _ => ?_⟩
      obtain ⟨a', vs', e1, q2, r⟩ := TR.tupI sv hr' (tr.mono le)
      cases e1
      exact ⟨vs', q2, r⟩
    | lst ts => simp [lsOf] at hl
    | ref a =>
      simp only [lsOf] at hl
      simp only [sqOf] at e
      split at e
      · rename_i q
        rw [q] at hl
        cases hl
      · cases e
    | _ => simp [sqOf] at e
theorem l_enum (sv : Sv c X) {elts : List Expr} {kk : Nat} {tpos : Pos} (hg : Gl X "enumerate") (hm : X.mg "enumerate" = none) (ha : PA X [a] (liftA c B dA)) (hs : isStar a = false) : PI X (.Tuple elts kk tpos) (.Call (.Name "enumerate" p) [a] [] pos) (liftI c B (enumI dA)) := by
  refine (pi_enumM hg hm ha (by rw [star_cons hs]; rfl)).sub fun σ H Q ⟨F, τ, S, P, l, hr, sr, h, q⟩ => ?_
  refine inA l hr sr h fun x H1 ⟨F1, ts, S1, l1, hr1, tr1, q1⟩ => ?_
  dsimp only at q1
  split at q1
  · rename_i t
    obtain ⟨v, rfl, tv⟩ := TRs.one tr1
    cases e : sqOf S1 t with
    | none => rw [e] at q1; exact q1.elim
    | some ls =>
      rw [e] at q1
      obtain ⟨kd, p, rfl, k⟩ := sq_later sv hr1 tv e
      obtain ⟨vs0, q0, _⟩ := k F1 S1 H1 FF.le.refl hr1 (chk_now e)
      have el : (enT ls).length = ls.length := by simp [enT]
      refine ⟨kd, p, vs0, rfl, q0, q _ _ ⟨F1, _, chkOf t ls, S1, l1, hr1, ⟨fun i F' S' H' le hr' ck hi => ?_, fun F' S' H' le hr' ck => ?_, fun i F' S' H' x H'' le hr' ck hi y => ?_⟩, q1⟩⟩
      · obtain ⟨vs, q2, r⟩ := k F' S' H' le hr' ck
        rw [el] at hi
        obtain ⟨w, e1, _⟩ := r.get (List.getElem?_eq_getElem hi)
        cases kd
        · exact ⟨vs, w, q2, e1⟩
        · exact ⟨vs, w, q2, e1⟩
      · obtain ⟨vs, q2, r⟩ := k F' S' H' le hr' ck
        cases kd
        · exact ⟨vs, q2, by rw [el, r.length]; exact Nat.le_refl _⟩
        · exact ⟨vs, q2, by rw [el, r.length]; exact Nat.le_refl _⟩
      · obtain ⟨vs, q2, r⟩ := k F' S' H' le hr' ck
        have yy : ∃ T0 w, x = .ref T0 ∧ H' T0 = none ∧ H'' = upd H' T0 (.tup [.int (i : Nat), w]) ∧ ∀ xs, SqV X.K kd H' p xs → xs[i]? = some w := by
          cases kd
          · exact y
          · exact y
        obtain ⟨T0, w, rfl, hT, rfl, y3⟩ := yy
        obtain ⟨t, e1, tr⟩ := r.getV (y3 vs q2)
        obtain ⟨F'', h1, h2, h3⟩ := new_tup hr' hT (.cons (.int (i : Nat)) (.cons tr .nil))
        exact ⟨F'', _, by simp [enT, List.getElem?_mapIdx, e1], h1, h2, h3⟩
  · exact q1.elim
/-- zip of two lists, of two tuples -/
def zpT : List T → List T → List T
  | x :: xs, y :: ys => .tup [x, y] :: zpT xs ys
  | _, _ => []
theorem zpT_len : ∀ {l m : List T}, (zpT l m).length = min l.length m.length
  | [], _ => by simp [zpT]
  | _ :: _, [] => by simp [zpT]
  | x :: xs, y :: ys => by simp [zpT, zpT_len (l := xs) (m := ys), Nat.succ_min_succ]
theorem zpT_at : ∀ {l m : List T} {i : Nat} {x y : T}, l[i]? = some x → m[i]? = some y → (zpT l m)[i]? = some (.tup [x, y])
  | [], _, _, _, _, h, _ => by simp at h
  | _ :: _, [], _, _, _, _, h => by simp at h
  | x :: xs, y :: ys, 0, _, _, h1, h2 => by simp at h1 h2; subst h1; subst h2; simp [zpT]
  | x :: xs, y :: ys, i + 1, _, _, h1, h2 => by simp only [zpT, List.getElem?_cons_succ]; exact zpT_at (by simpa using h1) (by simpa using h2)
def zipI (d : DA) : DI := fun τ S Q => d τ S fun ts S1 => match ts with
  | [.tup l, .tup m] => Q (zpT l m) (fun _ => True) S1
  | [t, u] => (match sqOf S1 t, sqOf S1 u with
    | some l, some m => Q (zpT l m) (fun S => chkOf t l S ∧ chkOf u m S) S1
    | _, _ => False)
  | _ => False
theorem zip_iti (sv : Sv c X) {t u : T} {ls ms : List T} {v w : V} {chk : SS → Prop} (hr1 : HRel c F1 S1 H1) (tv : TR c F1 t v) (tw : TR c F1 u w) (ea : sqOf S1 t = some ls) (eb : sqOf S1 u = some ms) (ck : ∀ S, chk S → chkOf t ls S ∧ chkOf u ms S) {R : It → Hp → Prop} {P : List T → (SS → Prop) → SS → Prop} (le1 : Wd.le ⟨F, S, H⟩ ⟨F1, S1, H1⟩) (hp : P (zpT ls ms) chk S1)
    (q : ∀ J H', (∃ F' ts chk S', Wd.le ⟨F, S, H⟩ ⟨F', S', H'⟩ ∧ HRel c F' S' H' ∧ Walk c J F' ts chk ∧ P ts chk S') → R J H') : ∃ k1 k2 a b xs ys, [v, w] = [V.ref a, V.ref b] ∧ SqV X.K k1 H1 a xs ∧ SqV X.K k2 H1 b ys ∧ R (ItM X.K k1 k2 a b) H1 := by
  obtain ⟨k1, pa, rfl, ka⟩ := sq_later sv hr1 tv ea
  obtain ⟨k2, pb, rfl, kb⟩ := sq_later sv hr1 tw eb
  obtain ⟨va, qa, _⟩ := ka F1 S1 H1 FF.le.refl hr1 (chk_now ea)
  obtain ⟨vb, qb, _⟩ := kb F1 S1 H1 FF.le.refl hr1 (chk_now eb)
  refine ⟨k1, k2, pa, pb, va, vb, rfl, qa, qb, q _ _ ⟨F1, _, _, S1, le1, hr1, ⟨fun i F' S' H' le hr' c0 hi => ?_, fun F' S' H' le hr' c0 => ?_, fun i F' S' H' x H'' le hr' c0 hi y => ?_⟩, hp⟩⟩
  · obtain ⟨vs, q2, r⟩ := ka F' S' H' le hr' (ck _ c0).1
    obtain ⟨vs', q2', r'⟩ := kb F' S' H' le hr' (ck _ c0).2
    rw [zpT_len] at hi
    obtain ⟨w, e1, _⟩ := r.get (List.getElem?_eq_getElem (show i < ls.length by omega))
    obtain ⟨w', e1', _⟩ := r'.get (List.getElem?_eq_getElem (show i < ms.length by omega))
    exact ⟨vs, vs', w, w', q2, q2', e1, e1'⟩
  · obtain ⟨vs, q2, r⟩ := ka F' S' H' le hr' (ck _ c0).1
    obtain ⟨vs', q2', r'⟩ := kb F' S' H' le hr' (ck _ c0).2
    have l1 := r.length
    have l2 := r'.length
    exact ⟨vs, vs', q2, q2', by rw [zpT_len]; omega⟩
  · obtain ⟨vs, q2, r⟩ := ka F' S' H' le hr' (ck _ c0).1
    obtain ⟨vs', q2', r'⟩ := kb F' S' H' le hr' (ck _ c0).2
    obtain ⟨T0, x1, x2, rfl, hT, rfl, y1, y2⟩ := y
    obtain ⟨t1, e1, r1⟩ := r.getV (y1 vs q2)
    obtain ⟨t2, e2, r2⟩ := r'.getV (y2 vs' q2')
    obtain ⟨F'', h1, h2, h3⟩ := new_tup hr' hT (.cons r1 (.cons r2 .nil))
    exact ⟨F'', _, zpT_at e1 e2, h1, h2, h3⟩
theorem l_zip (sv : Sv c X) {elts : List Expr} {kk : Nat} {tpos : Pos} (hg : Gl X "zip") (hm : X.mg "zip" = none) (ha : PA X [a, b] (liftA c B dA)) (hs : isStar a = false) (hs2 : isStar b = false) : PI X (.Tuple elts kk tpos) (.Call (.Name "zip" p) [a, b] [] pos) (liftI c B (zipI dA)) := by
  refine (pi_zm hg hm ha (by rw [star_cons hs]) (by rw [star_cons hs2]; rfl)).sub fun σ H Q ⟨F, τ, S, P, l, hr, sr, h, q⟩ => ?_
  refine inA l hr sr h fun x H1 ⟨F1, ts, S1, l1, hr1, tr1, q1⟩ => ?_
  dsimp only at q1
  split at q1
  · rename_i ls ms
    obtain ⟨v, w, rfl, tv, tw⟩ := TRs.two tr1
    exact zip_iti sv hr1 tv tw rfl rfl (fun _ _ => ⟨trivial, trivial⟩) l1 q1 q
  · rename_i t u _
    obtain ⟨v, w, rfl, tv, tw⟩ := TRs.two tr1
    cases ea : sqOf S1 t with
    | none => rw [ea] at q1; exact q1.elim
    | some ls =>
      cases eb : sqOf S1 u with
      | none => rw [ea, eb] at q1; exact q1.elim
      | some ms =>
        rw [ea, eb] at q1
        exact zip_iti sv hr1 tv tw ea eb (fun _ h => h) l1 q1 q
  · exact q1.elim
end
end TL

set_option Elab.async false
set_option linter.all false
set_option maxRecDepth 100000
set_option maxHeartbeats 2000000
set_option autoImplicit false
/-! TL5F: texts: f'..', int of a text, split, find, join, a text walked sign by sign. -/
namespace TL
open PySem PySem.Spec PyProof.Rows L2
section
variable {c : Ct} {X : Cx} {B : Wd} {F F1 F' : FF} {S S1 S' : SS} {H H1 H' : Hp} {τ : Sg} {σ : St} {a b e : Expr} {pos p : Pos}
/-! ### f'..' -/
def fmtD (d : DE) : DE := fun τ S Q => d τ S fun t S1 => match t with
  | .str y => y.length ≤ sizeLine ∧ Q (.str y) S1
  | .int i => i.natAbs.log2 < 1920 ∧ Q (.str (toString i)) S1
  | _ => False
theorem l_fmt {d : DE} (h : PE X e (lift c B d)) : PE X (.FormattedValue e (-1) none pos) (lift c B (fmtD d)) := by
  refine (pe_fmt h).sub fun σ H Q ⟨F, τ, S, P, l, hr, sr, h, q⟩ => ?_
  refine inE l hr sr h fun v H1 ⟨F1, t, S1, l1, hr1, tr1, z⟩ => ?_
  dsimp only at z
  cases t with
  | str y =>
    cases tr1
    exact .inl ⟨y, rfl, z.1, q _ _ ⟨F1, _, S1, l1, hr1, .str _, z.2⟩⟩
  | int i =>
    cases tr1
    exact .inr ⟨i, rfl, z.1, q _ _ ⟨F1, _, S1, l1, hr1, .str _, z.2⟩⟩
  | _ => exact z.elim
def jsL : List DE → Str → Sg → SS → KQ → Prop
  | [], acc, _, S, Q => Q (.str acc) S
  | d :: ds, acc, τ, S, Q => d τ S fun t S1 => match t with
    | .str y => (acc ++ y).length ≤ sizeLine ∧ jsL ds (acc ++ y) τ S1 Q
    | _ => False
def joinD (ds : List DE) : DE := fun τ S Q => jsL ds Str.empty τ S Q
theorem jsL_run {σ : St} {P : KQ} {Q : Str → Hp → Prop} : ∀ {ds : List DE} {acc : Str} {F : FF} {S : SS} {H : Hp}, B.le ⟨F, S, H⟩ → HRel c F S H → SRel c F τ σ → jsL ds acc τ S P → (∀ y H', out c F S H P (.str y) H' → Q y H') → tJs (ds.map fun d => lift c B d) acc σ H Q
  | [], acc, F, S, H, l, hr, sr, h, k => k _ _ ⟨F, _, S, Wd.le.refl, hr, .str _, h⟩
  | d :: ds, acc, F, S, H, l, hr, sr, h, k => by
    rw [List.map_cons]
    refine inE l hr sr h fun v H1 ⟨F1, t, S1, l1, hr1, tr1, z⟩ => ?_
    dsimp only at z
    cases t with
    | str y =>
      cases tr1
      exact ⟨y, rfl, z.1, jsL_run (l.trans l1) hr1 (sr.mono l1.fr) z.2 fun y' H' o => k _ _ (o.mono l1)⟩
    | _ => exact z.elim
theorem pj_of {E : Expr → DE} (h : ∀ e, PE X e (lift c B (E e))) : ∀ es : List Expr, PJ X es ((es.map E).map fun d => lift c B d)
  | [] => .nil
  | e :: es => .cons (h e) (pj_of h es)
def jsE (E : Expr → DE) : List Expr → DE
  | [e] => E e
  | v1 :: v2 :: rest => joinD ((v1 :: v2 :: rest).map E)
  | [] => fun _ _ _ => False
theorem s_js {E : Expr → DE} (h : ∀ e, PE X e (lift c B (E e))) {vs : List Expr} : PE X (.JoinedStr vs pos) (lift c B (jsE E vs)) := by
  unfold jsE
  split
  · exact pe_joined1 (h _)
  · rename_i v1 v2 rest
    exact (pe_joined (pj_of h (v1 :: v2 :: rest))).sub fun σ H Q ⟨F, τ, S, P, l, hr, sr, h, q⟩ => jsL_run l hr sr h fun y H' o => q _ _ o
  · exact ⟨fun _ _ _ _ _ _ ⟨_, _, _, _, _, _, _, h, _⟩ => h.elim⟩
/-! ### int(text) -/
def intSR : List T → SS → KQ → Prop
  | [.str a], S, Q => a.length ≤ 640 ∧ (match PySem.intText? a with
    | some n => Q (.int n) S
    | none => False)
  | _, _, _ => False
theorem ok_intS : CallOk c X (.type "int") intSR := by
  refine CallOk.of call_int_str fun pins s σ H F S xs ts Q I hr tr h => ?_
  unfold intSR at h
  split at h
  · obtain ⟨v, rfl, r1⟩ := TRs.one tr
    cases r1
    rename_i a
    obtain ⟨h1, h2⟩ := h
    cases e : PySem.intText? a with
    | none => rw [e] at h2; exact h2.elim
    | some n =>
      rw [e] at h2
      exact ⟨a, n, rfl, e, h1, fin0 hr (.int _) h2⟩
  · exact h.elim
/-! ### methods of texts -/
theorem trs_strs (F : FF) : ∀ ys : List Str, TRs c F (ys.map T.str) (ys.map V.str)
  | [] => .nil
  | y :: ys => .cons (.str y) (trs_strs F ys)
def splitR : T → List T → SS → KQ → Prop
  | .str a, [.str b], S, Q => (b.length == 0) = false ∧ a.length + 2 ≤ sizeLine ∧ newL false ((Txt.split a b).map T.str) S Q
  | _, _, _, _ => False
theorem ok_split (sv : Sv c X) : MtOk c X "str.split" splitR := MtOk.of mt_split fun H F S x xs t ts P hr tx txs h => by
  unfold splitR at h
  split at h
  · obtain ⟨y, rfl, ry⟩ := TRs.one txs
    cases tx; cases ry
    exact ⟨_, _, rfl, rfl, h.1, h.2.1, fun p hp => finL sv hr (trs_strs F _) h.2.2 p hp⟩
  · exact h.elim
def findR : T → List T → SS → KQ → Prop
  | .str a, [.str b], S, Q => Q (.int (Txt.find a b)) S
  | _, _, _, _ => False
theorem ok_find : MtOk c X "str.find" findR := MtOk.of mt_find fun H F S x xs t ts P hr tx txs h => by
  unfold findR at h
  split at h
  · obtain ⟨y, rfl, ry⟩ := TRs.one txs
    cases tx; cases ry
    exact ⟨_, _, rfl, rfl, fin0 hr (.int _) h⟩
  · exact h.elim
theorem trs_strsI : ∀ {ys : List Str} {vs : List V}, TRs c F (ys.map T.str) vs → vs = ys.map V.str
  | [], _, h => by cases h; rfl
  | y :: ys, _, h => by
    rw [List.map_cons] at h
    cases h with
    | cons h1 h2 =>
      cases h1
      rw [trs_strsI h2]; rfl
def joinR : T → List T → SS → KQ → Prop
  | .str a, [y], S, Q => (match sqOf S y with
    | some l => ∃ ys : List Str, l = ys.map T.str ∧ (ys.map (·.length)).sum + ys.length * a.length ≤ 16777216 ∧ Q (.str (Txt.join a ys)) S
    | none => False)
  | _, _, _, _ => False
theorem ok_join (sv : Sv c X) : MtOk c X "str.join" joinR := MtOk.of mt_join fun H F S x xs t ts P hr tx txs h => by
  unfold joinR at h
  split at h
  · obtain ⟨y, rfl, ry⟩ := TRs.one txs
    cases tx
    split at h
    · rename_i e
      obtain ⟨ys, rfl, hz, h⟩ := h
      rcases sq_ways e with e | e
      · subst e
        obtain ⟨b, ws, rfl, q, r2⟩ := TR.tupI sv hr ry
        cases trs_strsI r2
        exact ⟨_, b, ys, rfl, rfl, .inr q, hz, fin0 hr (.str _) h⟩
      · obtain ⟨b, ws, rfl, q, r2⟩ := lsOfI sv hr ry e
        cases trs_strsI r2
        exact ⟨_, b, ys, rfl, rfl, .inl (q.sq sv), hz, fin0 hr (.str _) h⟩
    · exact h.elim
  · exact h.elim
/-! ### a text walked -/
def signs (z : Str) : List T := z.cps.toList.map fun ch => .str ⟨#[ch]⟩
def strI (d : DE) : DI := fun τ S Q => d τ S fun t S1 => match t with
  | .str z => Q (signs z) (fun _ => True) S1
  | _ => False
theorem signs_len {z : Str} : (signs z).length = z.cps.size := by unfold signs; rw [List.length_map, Array.length_toList]
theorem walk_str {z : Str} : Walk c (Its z) F (signs z) (fun _ => True) where
  go := fun i F' S H le hr ck hi => by rw [signs_len] at hi; exact hi
  stop := fun F' S H le hr ck => by rw [signs_len]; exact Nat.le_refl _
  yld := fun i F' S H x H' le hr ck hi y => by
    obtain ⟨rfl, ch, e, rfl⟩ := y
    refine ⟨F', .str ⟨#[ch]⟩, ?_, Wd.le.refl, hr, .str _⟩
    unfold signs
    rw [List.getElem?_map, Array.getElem?_toList, e]; rfl
theorem l_strI {tg : Expr} {d : DE} (ha : PE X a (lift c B d)) : PI X tg a (liftI c B (strI d)) := by
  refine (pi_str ha).sub fun σ H Q ⟨F, τ, S, P, l, hr, sr, h, q⟩ => ?_
  refine inE l hr sr h fun x H1 ⟨F1, t1, S1, l1, hr1, tr1, q1⟩ => ?_
  dsimp only at q1
  cases t1 with
  | str z =>
    cases tr1
    exact ⟨z, rfl, q _ _ ⟨F1, signs z, _, S1, l1, hr1, walk_str, q1⟩⟩
  | _ => exact q1.elim
end
end TL

set_option Elab.async false
set_option linter.all false
set_option maxRecDepth 100000
set_option maxHeartbeats 4000000
set_option autoImplicit false
/-! TL6Y: zip of three, each a list or a tuple. -/
namespace TL
open PySem PySem.Spec PyProof.Rows L2
theorem sq_draws3 {prog : Program} {w : World} {A : Around} {k : Bool} (hh : A.handled = none) (it l : Addr) (hne : l ≠ it) (items : Array Value) : Draws prog w A it [it, l] items.size (fun i v => items[i]? = some v) (fun i h => SqIt k h it l i ∧ SqOb k h l items) := by
  cases k
  · exact Draws.list hh it l hne items
  · exact Draws.tuple hh it l hne items
theorem sq_begins {k : Bool} (l : Addr) (items : Array Value) : Begins (.ref l) (itO k l) (fun h => SqOb k h l items) := by
  cases k
  · exact begins_list l items
  · exact begins_tuple l items
/-- three at each turn, the items in new tuples -/
def It3 (K : PySem.W.Frag) (k1 k2 k3 : Bool) (a b c : Addr) : It :=
  ⟨fun i H => ∃ (xs ys zs : List V) (x y z : V), SqV K k1 H a xs ∧ SqV K k2 H b ys ∧ SqV K k3 H c zs ∧ xs[i]? = some x ∧ ys[i]? = some y ∧ zs[i]? = some z,
    fun i H v H' => ∃ T x y z, v = .ref T ∧ H T = none ∧ H' = upd H T (.tup [x, y, z]) ∧ (∀ xs, SqV K k1 H a xs → xs[i]? = some x) ∧ (∀ ys, SqV K k2 H b ys → ys[i]? = some y) ∧ ∀ zs, SqV K k3 H c zs → zs[i]? = some z,
    fun i H => ∃ xs ys zs : List V, SqV K k1 H a xs ∧ SqV K k2 H b ys ∧ SqV K k3 H c zs ∧ (i ≤ xs.length ∧ i ≤ ys.length ∧ i ≤ zs.length) ∧ (i = xs.length ∨ i = ys.length ∨ i = zs.length)⟩
theorem turn_z3 {P : Program} {w : World} {K : PySem.W.Frag} {k1 k2 k3 : Bool} {es : List Expr} {kk : Nat} {tp : Pos} {a b c z TI TO i1 i2 i3 : Addr} (D : ZipSep3 z TI TO i1 i2 i3 [i1, a] [i2, b] [i3, c]) (n1 : a ≠ i1) (n2 : b ≠ i2) (n3 : c ≠ i3) :
    Turn P w K (.Tuple es kk tp) (It3 K k1 k2 k3 a b c) [z, TI, TO, i1, i2, i3] z (fun i h => IsZip h z TI TO .none ∧ IsTupOf3 h TI (.ref i1) (.ref i2) (.ref i3) ∧ (∃ x y u, IsTupOf3 h TO x y u) ∧ SqIt k1 h i1 a i ∧ SqIt k2 h i2 b i ∧ SqIt k3 h i3 c i) := by
  have six : ∀ x : Addr, x ∈ [z, TI, TO, i1, i2, i3] → x = z ∨ x = TI ∨ x = TO ∨ x = i1 ∨ x = i2 ∨ x = i3 := fun c hc => by simpa using hc
  have out : ∀ x : Addr, x ∉ [z, TI, TO, i1, i2, i3] → x ≠ z ∧ x ≠ TO ∧ x ≠ i1 ∧ x ≠ i2 ∧ x ≠ i3 := fun c hc => by
    simp only [List.mem_cons, List.not_mem_nil, or_false, not_or] at hc
    exact ⟨hc.1, hc.2.2.1, hc.2.2.2.1, hc.2.2.2.2.1, hc.2.2.2.2.2⟩
  refine ⟨by simp, fun i h st x hx => ?_, fun i h h' st k => ?_, ?_, ?_, fun A i s Q E st q => wpAny_pyIter_zip st.1 q⟩
  · obtain ⟨hz, hTI, ⟨x0, y0, u0, hTO⟩, j1, j2, j3⟩ := st
    rcases six x hx with rfl | rfl | rfl | rfl | rfl | rfl
    · exact ⟨_, hz, fun v q => nomatch q⟩
    · exact ⟨_, hTI, fun v q => nomatch q⟩
    · exact ⟨_, hTO, fun v q => nomatch q⟩
    · exact j1.has
    · exact j2.has
    · exact j3.has
  · obtain ⟨hz, hTI, ⟨x0, y0, u0, hTO⟩, j1, j2, j3⟩ := st
    exact ⟨k z (by simp) _ hz, k TI (by simp) _ hTI, ⟨x0, y0, u0, k TO (by simp) _ hTO⟩, j1.move fun o q => k i1 (by simp) o q, j2.move fun o q => k i2 (by simp) o q, j3.move fun o q => k i3 (by simp) o q⟩
  · intro X hP hw hK hc i pins s σ H E I hf st hg
    subst hP hw hK
    obtain ⟨hz, hTI, ⟨x0, y0, u0, hTO⟩, j1, j2, j3⟩ := st
    obtain ⟨xs, ys, zs, x, y, u, qx, qy, qz, hx, hy, hu⟩ := hg
    obtain ⟨us, r1, o1, _⟩ := sqv_ob I qx
    obtain ⟨ws, r2, o2, _⟩ := sqv_ob I qy
    obtain ⟨ts, r3, o3, _⟩ := sqv_ob I qz
    obtain ⟨v1, e1, rv1⟩ := r1.get hx
    obtain ⟨v2, e2, rv2⟩ := r2.get hy
    obtain ⟨v3, e3, rv3⟩ := r3.get hu
    have lt1 : i < us.toArray.size := by simpa using (List.getElem?_eq_some_iff.mp e1).1
    have lt2 : i < ws.toArray.size := by simpa using (List.getElem?_eq_some_iff.mp e2).1
    have lt3 : i < ts.toArray.size := by simpa using (List.getElem?_eq_some_iff.mp e3).1
    have zl : z < s.heap.objs.size := Heap.lt_size hz
    have hh : X.A.in1.handled = none := I.ok.hd hc
    refine wpAny_pyNext_zipD3_item D (sq_draws3 hh i1 a n1 us.toArray) (sq_draws3 hh i2 b n2 ws.toArray) (sq_draws3 hh i3 c n3 ts.toArray) hz hTI hTO ⟨j1, o1⟩ ⟨j2, o2⟩ ⟨j3, o3⟩ lt1 lt2 lt3 fun w1 w2 w3 h1 tk p1 p2 p3 z1 tO m1 m2 m3 pT szT kp => ⟨_, rfl, ?_⟩
    have f1 : w1 = v1 := by
      have : us.toArray[i]? = some v1 := by simpa using e1
      rw [this] at p1; cases p1; rfl
    have f2 : w2 = v2 := by
      have : ws.toArray[i]? = some v2 := by simpa using e2
      rw [this] at p2; cases p2; rfl
    have f3 : w3 = v3 := by
      have : ts.toArray[i]? = some v3 := by simpa using e3
      rw [this] at p3; cases p3; rfl
    subst f1 f2 f3
    refine wpAny_letOwnedTupleGo_zip (s := { s with heap := h1, toks := tk }) z1 fun h2 z2 sb => ?_
    have kp2 : ∀ x o, x ∉ [z, TI, TO, i1, i2, i3] → s.heap.get? x = some o → h2.get? x = some o := fun x o hb e => by
      obtain ⟨c1, c2, c3, c4, c5⟩ := out x hb
      exact (sb.2 x c1).trans (kp x o c1 c2 c3 c4 c5 e)
    have pT2 : IsTupOf3 h2 s.heap.objs.size w1 w2 w3 := (sb.2 _ (Nat.ne_of_gt zl)).trans pT
    have ok : ObjOk X.prog X.w (upd H s.heap.objs.size (.tup [x, y, u])) h2 s.heap.objs.size (.tup [x, y, u]) := ⟨by show 3 ≤ sizeLine; decide, [w1, w2, w3], .cons rv1 (.cons rv2 (.cons rv3 .nil)), ⟨_, pT2, rfl, _, rfl⟩⟩
    have zi1 := D.zi1
    have zi2 := D.zi2
    have zi3 := D.zi3
    refine ⟨.ref s.heap.objs.size, _, I.turnedNew (t' := tk) kp2 hf (Nat.le_refl _) ok, rfl, ⟨_, x, y, u, rfl, I.hok.fresh (Nat.le_refl _), rfl, fun l hl => by rw [sqv_inj I hl qx]; exact hx, fun l hl => by rw [sqv_inj I hl qy]; exact hy, fun l hl => by rw [sqv_inj I hl qz]; exact hu⟩,
      ⟨z2, (sb.2 _ D.TIz).trans (kp _ _ D.TIz D.TITO D.TIi1 D.TIi2 D.TIi3 hTI), ⟨w1, w2, w3, (sb.2 _ D.TOz).trans tO⟩, m1.1.move fun o q => (sb.2 _ zi1.symm).trans q, m2.1.move fun o q => (sb.2 _ zi2.symm).trans q, m3.1.move fun o q => (sb.2 _ zi3.symm).trans q⟩, fun x hcm => ?_⟩
    have lt : x < s.heap.objs.size := by
      rcases six x hcm with rfl | rfl | rfl | rfl | rfl | rfl
      · exact zl
      · exact Heap.lt_size hTI
      · exact Heap.lt_size hTO
      · exact j1.lt
      · exact j2.lt
      · exact j3.lt
    rw [upd_ne (Nat.ne_of_lt lt)]
    exact (hf x hcm).1
  · intro X hP hw hK hc i pins s σ H E I hf st hg
    subst hP hw hK
    obtain ⟨hz, hTI, ⟨x0, y0, u0, hTO⟩, j1, j2, j3⟩ := st
    obtain ⟨xs, ys, zs, qx, qy, qz, ⟨l1, l2, l3⟩, stop⟩ := hg
    obtain ⟨us, r1, o1, _⟩ := sqv_ob I qx
    obtain ⟨ws, r2, o2, _⟩ := sqv_ob I qy
    obtain ⟨ts, r3, o3, _⟩ := sqv_ob I qz
    have e1 := r1.length
    have e2 := r2.length
    have e3 := r3.length
    have hh : X.A.in1.handled = none := I.ok.hd hc
    refine wpAny_pyNext_zipD3_end D (sq_draws3 hh i1 a n1 us.toArray) (sq_draws3 hh i2 b n2 ws.toArray) (sq_draws3 hh i3 c n3 ts.toArray) hz hTI hTO ⟨j1, o1⟩ ⟨j2, o2⟩ ⟨j3, o3⟩ (by simp; omega) (by simp; omega) (by simp; omega) (by simp; omega) fun h1 tk kp => ⟨rfl, ?_⟩
    refine I.turnedL (t' := tk) (ch := [z, TI, TO, i1, i2, i3]) (fun x o hb e => ?_) hf
    obtain ⟨c1, c2, c3, c4, c5⟩ := out x hb
    exact kp x o c1 c2 c3 c4 c5 e
def iZip3 (K : PySem.W.Frag) (ta : TA) : TI := fun σ H R => ta σ H fun vs H1 => ∃ k1 k2 k3 a b c xs ys zs, vs = [.ref a, .ref b, .ref c] ∧ SqV K k1 H1 a xs ∧ SqV K k2 H1 b ys ∧ SqV K k3 H1 c zs ∧ R (It3 K k1 k2 k3 a b c) H1
theorem pi_z3 {X : Cx} {e e2 e3 : Expr} {ta : TA} {p pos tp : Pos} {es : List Expr} {kk : Nat} (hg : Gl X "zip") (hm : X.mg "zip" = none) (ha : PA X [e, e2, e3] ta) (hs : starEach [e, e2, e3] X.env = (false, eval e X.env) :: starEach [e2, e3] X.env) (hpl : (backTo pos (starEach [e2, e3] X.env)).any (·.1) = false) :
    PI X (.Tuple es kk tp) (.Call (.Name "zip" p) [e, e2, e3] [] pos) (iZip3 X.K ta) := by
  refine ⟨fun pins s σ H R I h => Call_ (ld_blt I hg hm PyProof.Rows.boot_zip (PyProof.Rows.callWith_type1 (thn (ha.run pos pins s σ H _ I h) fun us s1 ⟨vs, H1, I1, r1, q1⟩ => ?_) hs hpl))⟩
  obtain ⟨k1, k2, k3, a, b, c, xs, ys, zs, rfl, qx, qy, qz, q⟩ := q1
  cases r1 with
  | cons r rr =>
  cases rr with
  | cons r' rr =>
  cases rr with
  | cons r'' rr =>
  cases rr
  cases r
  cases r'
  cases r''
  obtain ⟨its, _, o1, la⟩ := sqv_ob I1 qx
  obtain ⟨its2, _, o2, lb⟩ := sqv_ob I1 qy
  obtain ⟨its3, _, o3, lc⟩ := sqv_ob I1 qz
  refine zip_begins3 (sq_begins a its.toArray) (sq_begins b its2.toArray) (sq_begins c its3.toArray) o1 o2 o3 fun h1 hz hTI hTO g1 g2 g3 _ kp => wpAny_pyIter_zip hz ?_
  have sep := zip_sep3 (N := s1.heap.objs.size) (fp1 := [a]) (fp2 := [b]) (fp3 := [c]) (fun x hx => by rw [List.mem_singleton] at hx; rw [hx]; exact la) (fun x hx => by rw [List.mem_singleton] at hx; rw [hx]; exact lb) (fun x hx => by rw [List.mem_singleton] at hx; rw [hx]; exact lc)
  refine ⟨_, [s1.heap.objs.size + 5, s1.heap.objs.size + 3, s1.heap.objs.size + 4, s1.heap.objs.size, s1.heap.objs.size + 1, s1.heap.objs.size + 2], _, _, H1, rfl, I1.kept (t' := s1.toks) kp, turn_z3 (K := X.K) (k1 := k1) (k2 := k2) (k3 := k3) sep (Nat.ne_of_lt la) (Nat.ne_of_lt (Nat.lt_succ_of_lt lb)) (Nat.ne_of_lt (Nat.lt_succ_of_lt (Nat.lt_succ_of_lt lc))), ⟨hz, hTI, ⟨_, _, _, hTO⟩, itO_is g1, itO_is g2, itO_is g3⟩, fun x hcm => ?_, q⟩
  have le : s1.heap.objs.size ≤ x := by
    simp only [List.mem_cons, List.not_mem_nil, or_false] at hcm
    rcases hcm with rfl | rfl | rfl | rfl | rfl | rfl <;> omega
  exact I1.fpOk le (I1.hok.fresh le)
/-- zip of three -/
def zp3T : List T → List T → List T → List T
  | x :: xs, y :: ys, z :: zs => .tup [x, y, z] :: zp3T xs ys zs
  | _, _, _ => []
theorem zp3T_len : ∀ {l m k : List T}, (zp3T l m k).length = min l.length (min m.length k.length)
  | [], _, _ => by simp [zp3T]
  | _ :: _, [], _ => by simp [zp3T]
  | _ :: _, _ :: _, [] => by simp [zp3T]
  | x :: xs, y :: ys, z :: zs => by simp [zp3T, zp3T_len (l := xs) (m := ys) (k := zs), Nat.succ_min_succ]
theorem zp3T_at : ∀ {l m k : List T} {i : Nat} {x y z : T}, l[i]? = some x → m[i]? = some y → k[i]? = some z → (zp3T l m k)[i]? = some (.tup [x, y, z])
  | [], _, _, _, _, _, _, h, _, _ => by simp at h
  | _ :: _, [], _, _, _, _, _, _, h, _ => by simp at h
  | _ :: _, _ :: _, [], _, _, _, _, _, _, h => by simp at h
  | x :: xs, y :: ys, z :: zs, 0, _, _, _, h1, h2, h3 => by simp at h1 h2 h3; subst h1; subst h2; subst h3; simp [zp3T]
  | x :: xs, y :: ys, z :: zs, i + 1, _, _, _, h1, h2, h3 => by simp only [zp3T, List.getElem?_cons_succ]; exact zp3T_at (by simpa using h1) (by simpa using h2) (by simpa using h3)
def zip3I (d : DA) : DI := fun τ S Q => d τ S fun ts S1 => match ts with
  | [t, u, v] => (match sqOf S1 t, sqOf S1 u, sqOf S1 v with
    | some l, some m, some k => Q (zp3T l m k) (fun S => chkOf t l S ∧ chkOf u m S ∧ chkOf v k S) S1
    | _, _, _ => False)
  | _ => False
section
variable {c : Ct} {X : Cx} {B : Wd} {F F1 : FF} {S S1 : SS} {H H1 : Hp} {τ : Sg} {σ : St} {a b e : Expr} {dA : DA} {pos p : Pos}
theorem zip3_iti (sv : Sv c X) {t u d : T} {ls ms ks : List T} {v w y : V} {chk : SS → Prop} (hr1 : HRel c F1 S1 H1) (tv : TR c F1 t v) (tw : TR c F1 u w) (ty : TR c F1 d y) (ea : sqOf S1 t = some ls) (eb : sqOf S1 u = some ms) (ec : sqOf S1 d = some ks) (ck : ∀ S, chk S → chkOf t ls S ∧ chkOf u ms S ∧ chkOf d ks S) {R : It → Hp → Prop} {P : List T → (SS → Prop) → SS → Prop} (le1 : Wd.le ⟨F, S, H⟩ ⟨F1, S1, H1⟩) (hp : P (zp3T ls ms ks) chk S1)
    (q : ∀ J H', (∃ F' ts chk S', Wd.le ⟨F, S, H⟩ ⟨F', S', H'⟩ ∧ HRel c F' S' H' ∧ Walk c J F' ts chk ∧ P ts chk S') → R J H') : ∃ k1 k2 k3 a b e xs ys zs, [v, w, y] = [V.ref a, V.ref b, V.ref e] ∧ SqV X.K k1 H1 a xs ∧ SqV X.K k2 H1 b ys ∧ SqV X.K k3 H1 e zs ∧ R (It3 X.K k1 k2 k3 a b e) H1 := by
  obtain ⟨k1, pa, rfl, ka⟩ := sq_later sv hr1 tv ea
  obtain ⟨k2, pb, rfl, kb⟩ := sq_later sv hr1 tw eb
  obtain ⟨k3, pc, rfl, kc⟩ := sq_later sv hr1 ty ec
  obtain ⟨va, qa, _⟩ := ka F1 S1 H1 FF.le.refl hr1 (chk_now ea)
  obtain ⟨vb, qb, _⟩ := kb F1 S1 H1 FF.le.refl hr1 (chk_now eb)
  obtain ⟨vc, qc, _⟩ := kc F1 S1 H1 FF.le.refl hr1 (chk_now ec)
  refine ⟨k1, k2, k3, pa, pb, pc, va, vb, vc, rfl, qa, qb, qc, q _ _ ⟨F1, _, _, S1, le1, hr1, ⟨fun i F' S' H' le hr' c0 hi => ?_, fun F' S' H' le hr' c0 => ?_, fun i F' S' H' x H'' le hr' c0 hi y => ?_⟩, hp⟩⟩
  · obtain ⟨vs, q2, r⟩ := ka F' S' H' le hr' (ck _ c0).1
    obtain ⟨vs', q2', r'⟩ := kb F' S' H' le hr' (ck _ c0).2.1
    obtain ⟨vs'', q2'', r''⟩ := kc F' S' H' le hr' (ck _ c0).2.2
    rw [zp3T_len] at hi
    obtain ⟨w, e1, _⟩ := r.get (List.getElem?_eq_getElem (show i < ls.length by omega))
    obtain ⟨w', e1', _⟩ := r'.get (List.getElem?_eq_getElem (show i < ms.length by omega))
    obtain ⟨w'', e1'', _⟩ := r''.get (List.getElem?_eq_getElem (show i < ks.length by omega))
    exact ⟨vs, vs', vs'', w, w', w'', q2, q2', q2'', e1, e1', e1''⟩
  · obtain ⟨vs, q2, r⟩ := ka F' S' H' le hr' (ck _ c0).1
    obtain ⟨vs', q2', r'⟩ := kb F' S' H' le hr' (ck _ c0).2.1
    obtain ⟨vs'', q2'', r''⟩ := kc F' S' H' le hr' (ck _ c0).2.2
    have l1 := r.length
    have l2 := r'.length
    have l3 := r''.length
    exact ⟨vs, vs', vs'', q2, q2', q2'', by rw [zp3T_len]; omega, by rw [zp3T_len]; omega⟩
  · obtain ⟨vs, q2, r⟩ := ka F' S' H' le hr' (ck _ c0).1
    obtain ⟨vs', q2', r'⟩ := kb F' S' H' le hr' (ck _ c0).2.1
    obtain ⟨vs'', q2'', r''⟩ := kc F' S' H' le hr' (ck _ c0).2.2
    obtain ⟨T0, x1, x2, x3, rfl, hT, rfl, y1, y2, y3⟩ := y
    obtain ⟨t1, e1, r1⟩ := r.getV (y1 vs q2)
    obtain ⟨t2, e2, r2⟩ := r'.getV (y2 vs' q2')
    obtain ⟨t3, e3, r3⟩ := r''.getV (y3 vs'' q2'')
    obtain ⟨F'', h1, h2, h3⟩ := new_tup hr' hT (.cons r1 (.cons r2 (.cons r3 .nil)))
    exact ⟨F'', _, zp3T_at e1 e2 e3, h1, h2, h3⟩
theorem l_zip3 (sv : Sv c X) {elts : List Expr} {kk : Nat} {tpos : Pos} (hg : Gl X "zip") (hm : X.mg "zip" = none) (ha : PA X [a, b, e] (liftA c B dA)) (hs : isStar a = false) (hs2 : isStar b = false) (hs3 : isStar e = false) : PI X (.Tuple elts kk tpos) (.Call (.Name "zip" p) [a, b, e] [] pos) (liftI c B (zip3I dA)) := by
  refine (pi_z3 hg hm ha (by rw [star_cons hs]) (by rw [star_cons hs2, star_cons hs3]; rfl)).sub fun σ H Q ⟨F, τ, S, P, l, hr, sr, h, q⟩ => ?_
  refine inA l hr sr h fun x H1 ⟨F1, ts, S1, l1, hr1, tr1, q1⟩ => ?_
  dsimp only at q1
  split at q1
  · rename_i t u d
    obtain ⟨v, w, y, rfl, tv, tw, ty⟩ := TRs.three tr1
    cases ea : sqOf S1 t with
    | none => rw [ea] at q1; exact q1.elim
    | some ls =>
      cases eb : sqOf S1 u with
      | none => rw [ea, eb] at q1; exact q1.elim
      | some ms =>
        cases ec : sqOf S1 d with
        | none => rw [ea, eb, ec] at q1; exact q1.elim
        | some ks =>
          rw [ea, eb, ec] at q1
          exact zip3_iti sv hr1 tv tw ty ea eb ec (fun _ h => h) l1 q1 q
  · exact q1.elim
end
end TL

set_option Elab.async false
set_option linter.all false
set_option maxRecDepth 100000
set_option maxHeartbeats 2000000
set_option autoImplicit false
/-! TL7: loops, comprehensions, statements. -/
namespace TL
open PySem PySem.Spec PyProof.Rows L2

section
variable {c : Ct} {X : Cx} {B : Wd} {F F1 : FF} {S S1 : SS} {H H1 : Hp} {τ : Sg} {σ : St} {a b e : Expr} {es : List Expr} {da db : DE} {dA : DA} {pos p : Pos}

theorem _root_.L2.PS.sub {e : Stmt} {t u : TS} (h : PS X e t) (k : ∀ D σ H, u D σ H → t D σ H) : PS X e u := ⟨fun pins s σ H D I q => h.run pins s σ H D I (k D σ H q)⟩
theorem _root_.L2.PSs.sub {e : List Stmt} {t u : TS} (h : PSs X e t) (k : ∀ D σ H, u D σ H → t D σ H) : PSs X e u := ⟨fun pins s σ H D I q => h.run pins s σ H D I (k D σ H q)⟩
theorem inS {d : DS} {D : Ends} {D' : Ends'} (l : B.le ⟨F, S, H⟩) (hr : HRel c F S H) (sr : SRel c F τ σ) (h : d D' τ S) (k1 : ∀ σ' H', outG c F S H D'.nx σ' H' → D.nx σ' H') (k2 : ∀ v H', out c F S H D'.rt v H' → D.rt v H') (k3 : ∀ σ' H', outG c F S H D'.bk σ' H' → D.bk σ' H') (k4 : ∀ σ' H', outG c F S H D'.ct σ' H' → D.ct σ' H') : liftS c B d D σ H :=
  ⟨F, τ, S, D', l, hr, sr, h, k1, k2, k3, k4⟩

/-! ### for -/
def forL (chk : SS → Prop) (g : Tg) (b : DS) (D : Ends') : List T → Sg → SS → Prop
  | [], τ, S => chk S ∧ D.nx τ S
  | t :: ts, τ, S => chk S ∧ (match bindT g t τ with
    | some τ1 => b { nx := forL chk g b D ts, rt := D.rt, ct := forL chk g b D ts, bk := D.nx } τ1 S
    | none => False)
def forD (dI : DI) (g : Tg) (b : DS) : DS := fun D τ S => dI τ S fun ts chk S1 => forL chk g b D ts τ S1
theorem for_in {dI : DI} {g : Tg} {db : DS} {D : Ends} (h : liftS c B (forD dI g db) D σ H) : tFor (liftI c B dI) (liftG c g) (liftS c B db) D σ H := by
  obtain ⟨F, τ, S, D', l, hr, sr, h, k1, k2, k3, k4⟩ := h
  refine ⟨F, τ, S, _, l, hr, sr, h, fun J H1 ⟨F1, ts, chk, S1, l1, hr1, wk, q1⟩ => ?_⟩
  refine ⟨fun i m σ' H' => m = ts.length - i ∧ i ≤ ts.length ∧ ∃ F' τ' S', Wd.le ⟨F1, S1, H1⟩ ⟨F', S', H'⟩ ∧ HRel c F' S' H' ∧ SRel c F' τ' σ' ∧ forL chk g db D' (ts.drop i) τ' S', ⟨_, rfl, Nat.zero_le _, F1, τ, S1, Wd.le.refl, hr1, sr.mono l1.fr, q1⟩, ?_⟩
  rintro i m σ' H' ⟨rfl, hi, F', τ', S', le, hr', sr', q⟩
  by_cases hlt : i < ts.length
  · rw [List.drop_eq_getElem_cons hlt] at q
    obtain ⟨ck, q⟩ := q
    refine .inr ⟨wk.go i F' S' H' le.fr hr' ck hlt, fun σ2 H2 => ∃ F2 τ2 S2, Wd.le ⟨F1, S1, H1⟩ ⟨F2, S2, H2⟩ ∧ HRel c F2 S2 H2 ∧ SRel c F2 τ2 σ2 ∧ forL chk g db D' (ts.drop (i + 1)) τ2 S2, fun σ2 H2 z => ⟨_, by omega, rfl, hlt, z⟩, fun x H2 y => ?_⟩
    obtain ⟨F2, t, e1, le2, hr2, tr2⟩ := wk.yld i F' S' H' x H2 le.fr hr' ck hlt y
    rw [List.getElem?_eq_getElem hlt] at e1
    cases e1
    split at q
    · rename_i τ1 eb
      refine ⟨F2, S', τ', _, τ1, hr2, sr'.mono le2.fr, tr2, eb, fun σ3 sr3 _ => ?_⟩
      have le3 := le.trans le2
      have again : ∀ σ4 H4, outG c F2 S' H2 (forL chk g db D' (ts.drop (i + 1))) σ4 H4 → ∃ F2 τ2 S2, Wd.le ⟨F1, S1, H1⟩ ⟨F2, S2, H4⟩ ∧ HRel c F2 S2 H4 ∧ SRel c F2 τ2 σ4 ∧ forL chk g db D' (ts.drop (i + 1)) τ2 S2 := fun σ4 H4 ⟨F4, τ4, S4, le4, hr4, sr4, q4⟩ => ⟨F4, τ4, S4, le3.trans le4, hr4, sr4, q4⟩
      exact inS ((l.trans l1).trans le3) hr2 sr3 q again (fun v H4 o => k2 v H4 ((o.mono le3).mono l1)) (fun σ4 H4 o => k1 σ4 H4 ((o.mono le3).mono l1)) again
    · exact q.elim
  · have e : i = ts.length := by omega
    subst e
    rw [List.drop_length] at q
    exact .inl ⟨wk.stop F' S' H' le.fr hr' q.1, k1 _ _ ⟨F', τ', S', l1.trans le, hr', sr', q.2⟩⟩
theorem l_for {tg iter : Expr} {body : List Stmt} {dI : DI} {g : Tg} {db : DS} (hp : PassesOwn (model X.prog X.w) X.A X.env X.xe) (hc : X.calm = true) (hi : PI X tg iter (liftI c B dI)) (hg : PG X tg (liftG c g)) (hb : PSs X body (liftS c B db)) (hs : ∀ x, foldedSetIterable iter X.env x = pure x) :
    PS X (.For tg iter body [] pos) (liftS c B (forD dI g db)) := (ps_for hp hc hi hg hb hs).sub fun _ _ _ => for_in

/-! ### while -/
def whileD (dc : DT) (b : DS) : DS := fun D τ S => ∃ W : Nat → Sg → SS → Prop, (∃ m, W m τ S) ∧ ∀ m τ S, W m τ S → dc τ S fun k S1 => match k with
  | true => b { nx := fun τ' S' => ∃ m', m' < m ∧ W m' τ' S', rt := D.rt, ct := fun τ' S' => ∃ m', m' < m ∧ W m' τ' S', bk := D.nx } τ S1
  | false => D.nx τ S1
theorem while_in {dc : DT} {db : DS} {D : Ends} (h : liftS c B (whileD dc db) D σ H) : tWhile (liftT c B dc) (liftS c B db) D σ H := by
  obtain ⟨F, τ, S, D', l, hr, sr, ⟨W, ⟨m0, w0⟩, turn⟩, k1, k2, k3, k4⟩ := h
  refine ⟨fun m σ' H' => ∃ F' τ' S', Wd.le ⟨F, S, H⟩ ⟨F', S', H'⟩ ∧ HRel c F' S' H' ∧ SRel c F' τ' σ' ∧ W m τ' S', ⟨m0, F, τ, S, Wd.le.refl, hr, sr, w0⟩, ?_⟩
  rintro m σ' H' ⟨F', τ', S', le, hr', sr', w⟩
  refine inT (l.trans le) hr' sr' (turn m τ' S' w) fun k H2 ⟨F2, S2, l2, hr2, q2⟩ => ?_
  have le3 := le.trans l2
  cases k with
  | true =>
    rw [if_pos rfl]
    refine ⟨fun σ4 H4 => ∃ F4 τ4 S4 m', m' < m ∧ Wd.le ⟨F, S, H⟩ ⟨F4, S4, H4⟩ ∧ HRel c F4 S4 H4 ∧ SRel c F4 τ4 σ4 ∧ W m' τ4 S4, fun σ4 H4 ⟨F4, τ4, S4, m', hm, r1, r2, r3, r4⟩ => ⟨m', hm, F4, τ4, S4, r1, r2, r3, r4⟩, ?_⟩
    have again : ∀ σ4 H4, outG c F2 S2 H2 (fun τ' S' => ∃ m', m' < m ∧ W m' τ' S') σ4 H4 → ∃ F4 τ4 S4 m', m' < m ∧ Wd.le ⟨F, S, H⟩ ⟨F4, S4, H4⟩ ∧ HRel c F4 S4 H4 ∧ SRel c F4 τ4 σ4 ∧ W m' τ4 S4 := fun σ4 H4 ⟨F4, τ4, S4, le4, hr4, sr4, m', hm, w4⟩ => ⟨F4, τ4, S4, m', hm, le3.trans le4, hr4, sr4, w4⟩
    exact inS (l.trans le3) hr2 (sr'.mono l2.fr) q2 again (fun v H4 o => k2 v H4 (o.mono le3)) (fun σ4 H4 o => k1 σ4 H4 (o.mono le3)) again
  | false =>
    rw [if_neg Bool.false_ne_true]
    exact k1 _ _ ⟨F2, τ', S2, le3, hr2, sr'.mono l2.fr, q2⟩
theorem l_while {cc : Expr} {body : List Stmt} {dc : DT} {db : DS} (hp : PassesOwn (model X.prog X.w) X.A X.env X.xe) (hc : PT X cc (liftT c B dc)) (hb : PSs X body (liftS c B db)) : PS X (.While cc body [] pos) (liftS c B (whileD dc db)) := (ps_while hp hc hb).sub fun _ _ _ => while_in

/-! ### the plain statements -/
variable {st : Stmt} {rest sa sb : List Stmt} {d1 d2 : DS}
def nextD : DS := fun D τ S => D.nx τ S
def seqD (d1 d2 : DS) : DS := fun D τ S => d1 { nx := d2 D, rt := D.rt, bk := D.bk, ct := D.ct } τ S
theorem l_nil : PSs X [] (liftS c B nextD) := pss_nil.sub fun D σ H ⟨F, τ, S, D', l, hr, sr, h, k1, k2, k3, k4⟩ => k1 _ _ ⟨F, τ, S, Wd.le.refl, hr, sr, h⟩
theorem l_cons (h1 : PS X st (liftS c B d1)) (h2 : PSs X rest (liftS c B d2)) : PSs X (st :: rest) (liftS c B (seqD d1 d2)) :=
  (pss_cons h1 h2).sub fun D σ H ⟨F, τ, S, D', l, hr, sr, h, k1, k2, k3, k4⟩ => inS l hr sr h (fun σ' H' ⟨F', τ', S', le, hr', sr', q⟩ => inS (l.trans le) hr' sr' q (fun σ2 H2 o => k1 σ2 H2 (o.mono le)) (fun v H2 o => k2 v H2 (o.mono le)) (fun σ2 H2 o => k3 σ2 H2 (o.mono le)) (fun σ2 H2 o => k4 σ2 H2 (o.mono le))) k2 k3 k4
theorem l_one' (h1 : PS X st (liftS c B d1)) : PSs X [st] (liftS c B d1) := pss_one h1
theorem l_pass : PS X (.Pass pos) (liftS c B nextD) := ps_pass.sub fun D σ H ⟨F, τ, S, D', l, hr, sr, h, k1, k2, k3, k4⟩ => k1 _ _ ⟨F, τ, S, Wd.le.refl, hr, sr, h⟩
def brkD : DS := fun D τ S => D.bk τ S
def cntD : DS := fun D τ S => D.ct τ S
theorem l_break : PS X (.Break pos) (liftS c B brkD) := ps_break.sub fun D σ H ⟨F, τ, S, D', l, hr, sr, h, k1, k2, k3, k4⟩ => k3 _ _ ⟨F, τ, S, Wd.le.refl, hr, sr, h⟩
theorem l_cont : PS X (.Continue pos) (liftS c B cntD) := ps_continue.sub fun D σ H ⟨F, τ, S, D', l, hr, sr, h, k1, k2, k3, k4⟩ => k4 _ _ ⟨F, τ, S, Wd.le.refl, hr, sr, h⟩
def dropD (d : DE) : DS := fun D τ S => d τ S fun _ S1 => D.nx τ S1
def isComp : Expr → Bool
  | .ListComp _ _ _ _ => true
  | .SetComp _ _ _ _ => true
  | .DictComp _ _ _ _ _ => true
  | _ => false
theorem swaps_no {e : Expr} {t : Option Expr} {l : Nat} {env : Env} (h : isComp e = false) : swapsWith e t l env = pure false := by
  cases e <;> first | (cases h; done) | rfl
theorem l_expr (he : PE X e (lift c B da)) (hs : isComp e = false) : PS X (.Expr e pos) (liftS c B (dropD da)) :=
  (ps_expr he (swaps_no hs)).sub fun D σ H ⟨F, τ, S, D', l, hr, sr, h, k1, k2, k3, k4⟩ => inE l hr sr h fun v H1 ⟨F1, t1, S1, l1, hr1, tr1, q1⟩ => k1 _ _ ⟨F1, τ, S1, l1, hr1, sr.mono l1.fr, q1⟩
def retD (d : DE) : DS := fun D τ S => d τ S D.rt
theorem l_ret (he : PE X e (lift c B da)) : PS X (.Return (some e) pos) (liftS c B (retD da)) :=
  (ps_ret he).sub fun D σ H ⟨F, τ, S, D', l, hr, sr, h, k1, k2, k3, k4⟩ => inE l hr sr h fun v H1 o => k2 _ _ o
def retN : DS := fun D τ S => D.rt .non S
theorem l_retN : PS X (.Return none pos) (liftS c B retN) :=
  ps_retN.sub fun D σ H ⟨F, τ, S, D', l, hr, sr, h, k1, k2, k3, k4⟩ => k2 _ _ ⟨F, .non, S, Wd.le.refl, hr, .non, h⟩
def ifD (dc : DT) (d1 d2 : DS) : DS := fun D τ S => dc τ S fun k S1 => match k with
  | true => d1 D τ S1
  | false => d2 D τ S1
theorem l_if {cc : Expr} {dc : DT} (hc : PT X cc (liftT c B dc)) (ha : PSs X sa (liftS c B d1)) (hb : PSs X sb (liftS c B d2)) : PS X (.If cc sa sb pos) (liftS c B (ifD dc d1 d2)) := by
  refine (ps_if hc ha hb).sub fun D σ H ⟨F, τ, S, D', l, hr, sr, h, k1, k2, k3, k4⟩ => ?_
  refine inT l hr sr h fun k H1 ⟨F1, S1, l1, hr1, q1⟩ => ?_
  cases k with
  | true =>
    rw [if_pos rfl]
    exact inS (l.trans l1) hr1 (sr.mono l1.fr) q1 (fun σ2 H2 o => k1 σ2 H2 (o.mono l1)) (fun v H2 o => k2 v H2 (o.mono l1)) (fun σ2 H2 o => k3 σ2 H2 (o.mono l1)) (fun σ2 H2 o => k4 σ2 H2 (o.mono l1))
  | false =>
    rw [if_neg Bool.false_ne_true]
    exact inS (l.trans l1) hr1 (sr.mono l1.fr) q1 (fun σ2 H2 o => k1 σ2 H2 (o.mono l1)) (fun v H2 o => k2 v H2 (o.mono l1)) (fun σ2 H2 o => k3 σ2 H2 (o.mono l1)) (fun σ2 H2 o => k4 σ2 H2 (o.mono l1))
def asgD (d : DE) (g : Tg) : DS := fun D τ S => d τ S fun t S1 => match bindT g t τ with
  | some τ1 => D.nx τ1 S1
  | none => False
theorem asg_in {g : Tg} {D : Ends} (h : liftS c B (asgD da g) D σ H) : tAsg (lift c B da) (liftG c g) D σ H := by
  obtain ⟨F, τ, S, D', l, hr, sr, h, k1, k2, k3, k4⟩ := h
  refine inE l hr sr h fun x H1 ⟨F1, t1, S1, l1, hr1, tr1, q1⟩ => ?_
  dsimp only at q1
  split at q1
  · rename_i τ1 e1
    exact ⟨F1, S1, τ, t1, τ1, hr1, sr.mono l1.fr, tr1, e1, fun σ' sr' _ => k1 _ _ ⟨F1, τ1, S1, l1, hr1, sr', q1⟩⟩
  · exact q1.elim
theorem l_asg {tg : Expr} {g : Tg} (he : PE X e (lift c B da)) (hg : PG X tg (liftG c g)) (hs : swapsWithSole [tg] e pos.line X.env = pure false) (hw : swappedStores [tg] e X.env = pure none) (ht : isStar tg = false) : PS X (.Assign [tg] e pos) (liftS c B (asgD da g)) := (ps_asg he hg hs hw (by rw [asg_cons ht]; rfl)).sub fun _ _ _ => asg_in
/-- x[i] = e -/
def setR (o i v : T) (S : SS) (Q : SS → Prop) : Prop := match i with
  | .int k => (match stL S o with
    | some (a, l) => (match ixN l.length k with
      | some j => Q (supd S a (.lst (l.set j v)))
      | none => False)
    | none => False)
  | _ => False
def subAsg (d dq di : DE) : DS := fun D τ S => d τ S fun v S1 => dq τ S1 fun o S2 => di τ S2 fun i S3 => setR o i v S3 fun S4 => D.nx τ S4
theorem l_subAsg {o i : Expr} {dq di : DE} {tpos : Pos} (he : PE X e (lift c B da)) (ho : PE X o (lift c B dq)) (hi : PE X i (lift c B di)) (hs : isComp e = false) (hpl : plainIx i = true) : PS X (.Assign [.Subscript o i tpos] e pos) (liftS c B (subAsg da dq di)) := by
  have hw : swappedStores [.Subscript o i tpos] e X.env = pure none := by cases e <;> rfl
  have hss : swapsWithSole [.Subscript o i tpos] e pos.line X.env = pure false := by unfold swapsWithSole; exact swaps_no hs
  have pg : PG X (.Subscript o i tpos) (gSub (lift c B dq) (lift c B di) rSetL) := pg_sub ho hi set_list (by cases i <;> first | (cases hpl; done) | exact fun _ => rfl)
  refine (ps_asg he pg hss hw).sub fun D σ H ⟨F, τ, S, D', l, hr, sr, h, k1, k2, k3, k4⟩ => ?_
  refine inE l hr sr h fun x H1 ⟨F1, t1, S1, l1, hr1, tr1, q1⟩ => ?_
  refine inE (l.trans l1) hr1 (sr.mono l1.fr) q1 fun y H2 ⟨F2, t2, S2, l2, hr2, tr2, q2⟩ => ?_
  have l12 := l1.trans l2
  refine inE (l.trans l12) hr2 (sr.mono l12.fr) q2 fun z H3 ⟨F3, t3, S3, l3, hr3, tr3, q3⟩ => ?_
  have l13 := l12.trans l3
  dsimp only at q3
  unfold setR at q3
  split at q3
  · cases tr3
    split at q3
    · rename_i e1
      obtain ⟨rfl, hs, vs, hv, r⟩ := stLI hr3 (tr2.mono l3.fr) e1
      split at q3
      · rename_i j e2
        refine ⟨_, vs, _, j, rfl, rfl, hv, by rw [← r.length]; exact e2, k1 _ _ ⟨F3, τ, _, l13.trans (le_write hs), hr3.write (o' := .lst (List.set _ j t1)) hs ⟨_, upd_same, r.set j (tr1.mono (l2.trans l3).fr)⟩, sr.mono l13.fr, q3⟩⟩
      · exact q3.elim
    · exact q3.elim
  · exact q3.elim
end
end TL

set_option Elab.async false
set_option linter.all false
set_option maxRecDepth 100000
set_option maxHeartbeats 2000000
set_option autoImplicit false
/-! TL7S: x[lo:hi] = [..], a written row. -/
namespace TL
open PySem PySem.Spec PyProof.Rows L2
section
variable {prog : Program} {w : World} {A : Around} {E : Value → Shared → Prop} {s : Shared}
theorem sliceBoundsG (lo hi : Option Int) (n : Nat) : sliceBounds lo hi none n = (((HT.sIx n 0 lo : Nat) : Int), ((HT.sIx n n hi : Nat) : Int), 1) := by
  obtain ⟨h1, h2, h3⟩ := slice_bounds lo hi n
  exact Prod.ext h1 (Prod.ext h2 h3)
set_option maxRecDepth 100000 in
theorem putSlice {l b sl : Addr} {items new : Array Value} {n n2 : Nat} {vl vu : Value} {lo hi : Option Int} {Q : Unit → Shared → Prop}
    (e : s.heap.get? l = some { cls := .type "list", data := .seq items n }) (e2 : s.heap.get? b = some { cls := .type "list", data := .seq new n2 }) (hne : l ≠ b)
    (hs : s.heap.IsSliceOf sl vl vu .none) (pl : IsPart vl lo) (pu : IsPart vu hi)
    (hsz : items.size + new.size ≤ sizeLine) (h : Q () { s with heap := s.heap.update l (Obj.mapSeq fun xs => xs.extract 0 (HT.sIx items.size 0 lo) ++ new ++ xs.extract (max (HT.sIx items.size 0 lo) (HT.sIx items.size items.size hi)) xs.size) }) :
    wpAny (model prog w) A (setItem (.ref l) (.ref sl) (.ref b)) Q E s := by
  have hl : s.heap.IsList l items := PySem.IsL.isList e
  have hb : s.heap.IsList b new := PySem.IsL.isList e2
  obtain ⟨os, hos, hcs, hds⟩ := id hs
  have hTs : s.TypeIs (.ref sl) "slice" := ⟨os, hos, hcs⟩
  have hstep : ¬ ((rawPart none == rawInt 0) = true) := Bool.false_ne_true
  have hsame : Builtin.List.listSameRef (.ref l) (.ref b) = false := by
    unfold Builtin.List.listSameRef
    exact beq_eq_false_iff_ne.mpr hne
  generalize hA : HT.sIx items.size 0 lo = a at h
  generalize hC : HT.sIx items.size items.size hi = c at h
  have ha : a ≤ items.size := by rw [← hA]; exact HT.sIx_le _ _ (Nat.zero_le _) _
  have hc : c ≤ items.size := by rw [← hC]; exact HT.sIx_le _ _ (Nat.le_refl _) _
  have hmax : (max (a : Int) (c : Int)).toNat = max a c := by omega
  have hz' : ((fun xs : Array Value => xs.extract 0 a ++ new ++ xs.extract (max a c) xs.size) items).size ≤ sizeLine + 1 := by
    simp only [Array.size_append, Array.size_extract]
    omega
  unfold setItem
  try with_reducible refine wpAny_holding ?_
  first | refine wpAny_bind (wpAny_pure ?_) | skip
  refine wpAny_bind (wpAny_sequenceKey hl.typeIs (by decide) ?_)
  refine wpAny_bind (wpAny_callSpecial?_slot (name := Str.ofString "__setitem__") hl.typeIs slot_list_setitem
    (wpAny_call_entry slot_list_setitem hl.typeIs entry_list_setitem ?_ (args_list_setitem _ _ _)))
  show wpAny _ _ (Builtin.List.listSubscript? (.ref sl) >>= _) _ _ s
  refine wpAny_bind ?_
  unfold Builtin.List.listSubscript?
  refine wpAny_bind (wpAny_specialOf hTs slice_no_index ?_)
  simp only [Option.isNone_none, if_true]
  refine wpAny_pure ?_
  show wpAny _ _ (typeOf (.ref sl) >>= _) _ _ s
  refine wpAny_bind (wpAny_typeOf hTs ?_)
  first
    | rw [if_neg (by decide)]
    | refine PySem.W.KFB.if_not (by decide) ?_
  rw [listSliceParts_eq]
  refine wpAny_bind (wpAny_bind (wpAny_field hos hds (x := .none) rfl (wpAny_bind (wpAny_listPart .none ?_))))
  rw [if_neg hstep]
  refine wpAny_bind (wpAny_field hos hds (x := vl) rfl (wpAny_bind (wpAny_listPart pl ?_)))
  refine wpAny_bind (wpAny_field hos hds (x := vu) rfl (wpAny_bind (wpAny_listPart pu (wpAny_pure ?_))))
  first
    | simp only [hsame, Bool.false_eq_true, if_false]
    | refine PySem.W.KFB.if_not hsame ?_
    | (dsimp only
       rw [if_neg (by rw [hsame]; exact Bool.false_ne_true)])
  refine wpAny_bind (m := Builtin.List.listAllItems (.ref b) "must assign iterable to extended slice") ?_
  unfold Builtin.List.listAllItems
  refine wpAny_bind (wpAny_typeOf hb.typeIs ?_)
  first
    | refine PySem.W.KFB.if_so (by decide) ?_
    | rw [if_pos (by decide)]
    | simp only [beq_self_eq_true, Bool.true_or, if_true]
  unfold Builtin.List.listItems
  refine wpAny_bind (wpAny_seqItems e2 rfl (wpAny_pure ?_))
  refine wpAny_bind (wpAny_bind (wpAny_seqItems e rfl (wpAny_pure ?_)))
  refine wpAny_bind (wpAny_of_eq ((sliceIndices_raw lo hi none items.size (by simp)).trans (congrArg (pure : Int × Int × Int → Sem (Int × Int × Int)) ((sliceBoundsG lo hi items.size).trans (by rw [hA, hC])))) ?_)
  show wpAny _ _ (if ((1 : Int) == 1) = true then _ else _) _ _ s
  rw [if_pos (by decide)]
  refine wpAny_bind (wpAny_rule ?_)
  first
    | simp only [notLongL hsz, Bool.false_eq_true, if_false]
    | refine PySem.W.KFB.if_not (notLongL hsz) ?_
  first | refine wpAny_bind (wpAny_pure ?_) | skip
  show wpAny _ _ (updateSeq l (fun xs => xs.extract 0 ((a : Int)).toNat ++ new ++ xs.extract (max (a : Int) (c : Int)).toNat xs.size) >>= _) _ _ s
  rw [hmax, Int.toNat_natCast]
  refine wpAny_bind (wpAny_updateSeq (hz := Nat.le_trans (Nat.le_add_right _ _) hsz) (_hz' := hz') e rfl ?_)
  refine wpAny_bind (wpAny_letGo ?_)
  first
    | exact wpAny_bind (wpAny_pure (wpAny_pure ⟨.none, rfl, wpAny_pure h⟩))
    | exact wpAny_pure ⟨.none, rfl, wpAny_pure h⟩
end
section
variable {X : Cx} {pins : List (Addr × Obj)} {s : Shared} {σ : St} {H : Hp}
def splV {α : Type} (xs ys : List α) (lo hi : Option Int) : List α := xs.take (HT.sIx xs.length 0 lo) ++ ys ++ xs.drop (max (HT.sIx xs.length 0 lo) (HT.sIx xs.length xs.length hi))
theorem set_sliceG {l b sl : Addr} {xs ys : List V} {lo hi : Option Int} {vl vu : Value} {Q : Unit → Shared → Prop} (I : Inv X pins σ H s)
    (hH : H l = some (.lst xs)) (hB : H b = some (.lst ys)) (hne : l ≠ b) (hs : s.heap.IsSliceOf sl vl vu .none) (pl : IsPart vl lo) (pu : IsPart vu hi)
    (hz : xs.length + ys.length ≤ sizeLine) (h : ∀ s', Inv X pins σ (upd H l (.lst (splV xs ys lo hi))) s' → Q () s') :
    wpAny (model X.prog X.w) X.A (setItem (.ref l) (.ref sl) (.ref b)) Q X.xe s := by
  obtain ⟨z, its, n, r, hl, e⟩ := I.lstM hH
  obtain ⟨z2, its2, n2, r2, hl2, e2⟩ := I.lstM hB
  refine putSlice e e2 hne hs pl pu (by rw [List.size_toArray, List.size_toArray]; omega) (h _ ?_)
  unfold splV
  rw [List.size_toArray, ← hl]
  refine I.lset (its' := its.take (HT.sIx xs.length 0 lo) ++ its2 ++ its.drop (max (HT.sIx xs.length 0 lo) (HT.sIx xs.length xs.length hi))) (t' := s.toks) hH e ?_ (Vals.append (Vals.append (r.take _) r2) (r.drop _)) ?_
  · exact splice_eq its its2 _ _
  · have h1 := HT.sIx_le xs.length 0 (Nat.zero_le _) lo
    have h2 := HT.sIx_le xs.length xs.length (Nat.le_refl _) hi
    rw [List.length_append, List.length_append, List.length_take, List.length_drop]
    omega
/-- o[lo:hi] = v -/
def gSlc (to : TE) (tl th : TO) : TG := fun v σ H Q => to σ H fun o H1 => tl σ H1 fun lo H2 => th σ H2 fun hi H3 => ∃ a b xs ys, o = .ref a ∧ v = .ref b ∧ H3 a = some (.lst xs) ∧ H3 b = some (.lst ys) ∧ a ≠ b ∧ xs.length + ys.length ≤ sizeLine ∧ Q σ (upd H3 a (.lst (splV xs ys lo hi)))
theorem pg_slc {o : Expr} {lo hi : Option Expr} {to : TE} {tl th : TO} {p2 pos : Pos} (ho : PE X o to) (hl : PO X lo tl) (hh : PO X hi th) : PG X (.Subscript o (.Slice lo hi none p2) pos) (gSlc to tl th) := by
  refine ⟨fun pins s σ H v u Q I r h => ?_⟩
  have ha : assign (.Subscript o (.Slice lo hi none p2) pos) X.env u = (do
      let ov ← holding [u] (eval o X.env)
      let iv ← holding [u, ov] (eval (.Slice lo hi none p2) X.env)
      standAt pos
      holding [u, ov, iv] (setItem ov iv u)
      release [iv, u, ov] []) := rfl
  rw [ha]
  refine wpAny_bind (wpAny_holding (thn (ho.run pins s σ H _ I h) fun ov s1 ⟨x, H1, I1, r1, q1⟩ => ?_))
  refine wpAny_bind (wpAny_holding (wpAny_Slice (thn (hl.run pins s1 σ H1 _ I1 q1) fun vl s2 ⟨l, H2, I2, pl, q2⟩ => thn (hh.run pins s2 σ H2 _ I2 q2) fun vu s3 ⟨uu, H3, I3, pu, q3⟩ => ?_)))
  rw [evalPart_none]
  refine wpAny_pure ?_
  have I4 : Inv X pins σ H3 { s3 with heap := s3.heap.push { cls := .type "slice", data := .fields #[vl, vu, .none] } } := I3.kept (t' := s3.toks) fun b ob q => Heap.get?_push_of_some _ q
  obtain ⟨a, b, xs, ys, rfl, rfl, ea, eb, hne, hz, q⟩ := q3
  cases r1
  cases r
  refine wpAny_bind (wpAny_standAt (wpAny_bind (wpAny_holding (set_sliceG I4 ea eb hne (Heap.IsSliceOf.new ..) pl pu hz fun s' I5 => ?_))))
  exact wpAny_release ⟨σ, _, I5, q⟩
end
section
variable {c : Ct} {X : Cx} {B : Wd} {F F1 : FF} {S S1 : SS} {H H1 : Hp} {τ : Sg} {σ : St} {a b e : Expr} {es : List Expr} {da db : DE} {dA : DA} {pos p : Pos}
def slSetR (o : T) (lo hi : Option Int) (m : List T) (S : SS) (Q : SS → Prop) : Prop := match stL S o with
  | some (a, l) => l.length + m.length ≤ sizeLine ∧ Q (supd S a (.lst (splV l m lo hi)))
  | none => False
def slAsg (dA : DA) (dq : DE) (dl dh : DO) : DS := fun D τ S => dA τ S fun m S1 => m.length ≤ sizeLine ∧ dq τ S1 fun o S2 => dl τ S2 fun lo S3 => dh τ S3 fun hi S4 => slSetR o lo hi m S4 fun S5 => D.nx τ S5
theorem TRs.splV {F : FF} {ts us : List T} {vs ws : List V} {lo hi : Option Int} (h : TRs c F ts vs) (k : TRs c F us ws) : TRs c F (splV ts us lo hi) (splV vs ws lo hi) := by
  have e := h.length
  unfold TL.splV
  rw [e]
  exact (h.take _ |>.append k).append (h.drop _)
theorem l_slAsg (sv : Sv c X) {o : Expr} {dq : DE} {lo hi : Option Expr} {dl dh : DO} {tpos p2 lp : Pos} (ha : PA X es (liftA c B dA)) (ho : PE X o (lift c B dq)) (hl : PO X lo (liftO c B dl)) (hh : PO X hi (liftO c B dh)) : PS X (.Assign [.Subscript o (.Slice lo hi none p2) tpos] (.List es lp) pos) (liftS c B (slAsg dA dq dl dh)) := by
  have hw : swappedStores [.Subscript o (.Slice lo hi none p2) tpos] (.List es lp) X.env = pure none := rfl
  have hss : swapsWithSole [.Subscript o (.Slice lo hi none p2) tpos] (.List es lp) pos.line X.env = pure false := by unfold swapsWithSole; exact swaps_no rfl
  refine (ps_asg (pe_lst ha) (pg_slc ho hl hh) hss hw).sub fun D σ H ⟨F, τ, S, D', l, hr, sr, h, k1, k2, k3, k4⟩ => ?_
  refine inA l hr sr h fun vs H1 ⟨F1, ts, S1, l1, hr1, tr1, hz, q1⟩ => ?_
  refine ⟨by rw [← tr1.length]; exact hz, fun p hp => ?_⟩
  obtain ⟨g1, g2⟩ := hr1.newF (o := .lst vs) hp upd_same
  have lf := le_newF (o := .lst vs) (u := .lst vs) hr1 hp
  have l1' := l1.trans lf
  refine inE (l.trans l1') g1 (sr.mono l1'.fr) q1 fun y H2 ⟨F2, t2, S2, l2, hr2, tr2, q2⟩ => ?_
  have l12 := l1'.trans l2
  refine ⟨F2, τ, S2, _, l.trans l12, hr2, sr.mono l12.fr, q2, fun lo' H3 ⟨F3, S3, l3, hr3, q3⟩ => ?_⟩
  have l13 := l12.trans l3
  refine ⟨F3, τ, S3, _, l.trans l13, hr3, sr.mono l13.fr, q3, fun hi' H4 ⟨F4, S4, l4, hr4, q4⟩ => ?_⟩
  have l14 := l13.trans l4
  unfold slSetR at q4
  dsimp only at q4
  split at q4
  · rename_i a0 l0 e1
    obtain ⟨rfl, hs, ws, hv, r⟩ := stLI hr4 (tr2.mono (l3.trans l4).fr) e1
    have hF : F4 p = some (.lst vs) := (l2.trans (l3.trans l4)).fr _ _ fupd_same
    have hH : H4 p = some (.lst vs) := hr4.fr _ _ hF
    have hne : a0 ≠ p := fun z => by have := (hr4.st _ _ hs).1; rw [z, hF] at this; cases this
    have tr4 := tr1.mono (lf.trans (l2.trans (l3.trans l4))).fr
    refine ⟨a0, p, ws, vs, rfl, rfl, hv, hH, hne, by rw [← r.length, ← tr4.length]; exact q4.1, k1 _ _ ⟨F4, τ, _, l14.trans (le_write hs), hr4.write (o' := .lst (splV l0 ts lo' hi')) hs ⟨_, upd_same, TRs.splV r tr4⟩, sr.mono l14.fr, q4.2⟩⟩
  · exact q4.elim
end
end TL

set_option Elab.async false
set_option linter.all false
set_option maxRecDepth 100000
set_option maxHeartbeats 2000000
set_option autoImplicit false
/-! TL8: comprehensions. -/
namespace TL
open PySem PySem.Spec PyProof.Rows L2

section
variable {c : Ct} {X : Cx} {B : Wd} {F F1 F' : FF} {S S1 S' : SS} {H H1 H' : Hp} {τ : Sg} {σ : St} {a b e : Expr} {es : List Expr} {da db : DE} {dA : DA} {pos p : Pos}
/-- an address that stands in no part may change -/
theorem HRel.off {D : Addr} {u : HO} (h : HRel c F S H) (hf : F D = none) (hs : S D = none) : HRel c F S (upd H D u) := by
  refine ⟨fun a o e => ?_, fun a o e => ?_, h.glo⟩
  · have q : a ≠ D := fun z => by rw [z, hf] at e; cases e
    exact (h.fr a o e).at fun w r => by rw [upd_ne q]; exact r
  · have q : a ≠ D := fun z => by rw [z, hs] at e; cases e
    exact ⟨(h.st a o e).1, (h.st a o e).2.at fun w r => by rw [upd_ne q]; exact r⟩
theorem HRel.freeze {D : Addr} {vs : List V} (h : HRel c F S H) (hf : F D = none) (hs : S D = none) (hd : H D = some (.lst vs)) : HRel c (fupd F D (.lst vs)) S H := by
  have le : F.le (fupd F D (.lst vs)) := fupd_le hf
  refine ⟨fun a o e => ?_, fun a o e => ?_, fun x t e => ?_⟩
  · by_cases q : a = D
    · subst q; rw [fupd_same] at e; cases e; exact hd
    · rw [fupd_ne q] at e; exact h.fr a o e
  · have q : a ≠ D := fun z => by rw [z, hs] at e; cases e
    exact ⟨by rw [fupd_ne q]; exact (h.st a o e).1, (h.st a o e).2.mono le⟩
  · obtain ⟨v, w, e1, e2, e3⟩ := h.glo x t e
    exact ⟨v, w, e1, e2, e3.mono le⟩
theorem HRel.thaw {D : Addr} {vs : List V} {ts : List T} (h : HRel c F S H) (hf : F D = none) (hs : S D = none) (hd : H D = some (.lst vs)) (r : TRs c F ts vs) : HRel c F (supd S D (.lst ts)) H := by
  refine ⟨h.fr, fun a o e => ?_, h.glo⟩
  by_cases q : a = D
  · subst q; rw [supd_same] at e; cases e; exact ⟨hf, vs, hd, r⟩
  · rw [supd_ne q] at e; exact h.st a o e

/-- the items ts with what has been gathered -/
def lcL (chk : SS → Prop) (g : Tg) (tt : DT) (te : DE) (mu : Bool) (τ0 : Sg) (Q : KQ) : List T → List T → SS → Prop
  | [], acc, S => chk S ∧ newL mu acc S Q
  | t :: ts, acc, S => chk S ∧ (match bindT g t τ0 with
    | some τ1 => tt τ1 S fun b S2 => match b with
      | true => te τ1 S2 fun y S3 => acc.length < sizeLine ∧ lcL chk g tt te mu τ0 Q ts (acc ++ [y]) S3
      | false => lcL chk g tt te mu τ0 Q ts acc S2
    | none => False)
def lcD (mu : Bool) (vs : List Nat) (dI : DI) (g : Tg) (tt : DT) (te : DE) : DE := fun τ S Q => dI τ S fun ts chk S1 => lcL chk g tt te mu (twipe τ vs) Q ts [] S1
/-- the block's world: bounded by nothing -/
theorem lc_in {mu : Bool} {vs : List Nat} {dI : DI} {g : Tg} {tt : DT} {te : DE} {Q : VK} (hv : ∀ i, i ∈ gslots g → i ∈ vs) (h : lift c B (lcD mu vs dI g tt te) σ H Q) : tLc (liftI c B dI) (liftG c g) (liftT c Wd.bot tt) (lift c Wd.bot te) vs σ H Q := by
  obtain ⟨F, τ, S, P, l, hr, sr, h, k⟩ := h
  refine ⟨F, τ, S, _, l, hr, sr, h, fun J H1 ⟨F1, ts, chk, S1, l1, hr1, wk, q1⟩ => fun D hD => ?_⟩
  have hf1 := hr1.fnone hD
  have hs1 := hr1.snone hD
  have le1 : ∀ {A : Wd}, Wd.le ⟨F1, S1, upd H1 D (.lst [])⟩ A → Wd.le ⟨F1, S1, H1⟩ A := fun {A} w => ⟨w.fr, fun a u e1 e2 e3 => w.out a u (by show upd H1 D _ a = _; rw [upd_ne (ne_of_none e1 hD)]; exact e1) e2 e3⟩
  refine ⟨fun i m H' => m = ts.length - i ∧ i ≤ ts.length ∧ ∃ F' S' at' av', Wd.le ⟨F1, S1, H1⟩ ⟨F', S', H'⟩ ∧ HRel c F' S' H' ∧ F' D = none ∧ S' D = none ∧ H' D = some (.lst av') ∧ TRs c F' at' av' ∧ lcL chk g tt te mu (twipe τ vs) P (ts.drop i) at' S', ⟨_, rfl, Nat.zero_le _, F1, S1, [], [], le1 Wd.le.refl, hr1.off hf1 hs1, hf1, hs1, upd_same, .nil, q1⟩, ?_⟩
  rintro i m H' ⟨rfl, hi, F', S', at', av', le, hr', fD, sD, hD', ra, q⟩
  by_cases hlt : i < ts.length
  · rw [List.drop_eq_getElem_cons hlt] at q
    obtain ⟨ck, q⟩ := q
    refine .inr ⟨wk.go i F' S' H' le.fr hr' ck hlt, fun H2 => ∃ F2 S2 at2 av2, Wd.le ⟨F1, S1, H1⟩ ⟨F2, S2, H2⟩ ∧ HRel c F2 S2 H2 ∧ F2 D = none ∧ S2 D = none ∧ H2 D = some (.lst av2) ∧ TRs c F2 at2 av2 ∧ lcL chk g tt te mu (twipe τ vs) P (ts.drop (i + 1)) at2 S2, fun H2 z => ⟨_, by omega, rfl, hlt, z⟩, fun x H2 y => ?_⟩
    obtain ⟨F2, t, e1, le2, hr2, tr2⟩ := wk.yld i F' S' H' x H2 le.fr hr' ck hlt y
    rw [List.getElem?_eq_getElem hlt] at e1
    cases e1
    split at q
    · rename_i τ1 eb
      obtain ⟨hD2, fD2, sD2⟩ := le2.out D _ hD' fD sD
      have le02 := le.trans le2
      refine ⟨F2, S', twipe τ vs, _, τ1, hr2, (sr.mono (l1.fr.trans le02.fr)).wipe vs, tr2, eb, fun σ3 sr3 w3 => ⟨(w3 vs hv).trans wipe_wipe, ?_⟩⟩
      refine inT Wd.bot_le hr2 sr3 q fun b H3 ⟨F3, S3, le3, hr3, q3⟩ => ?_
      obtain ⟨hD3, fD3, sD3⟩ := le3.out D _ hD2 fD2 sD2
      have le03 := le02.trans le3
      cases b with
      | true =>
        rw [if_pos rfl]
        refine inE Wd.bot_le hr3 (sr3.mono le3.fr) q3 fun y H4 ⟨F4, ty, S4, le4, hr4, tr4, hz, q4⟩ => ?_
        obtain ⟨hD4, fD4, sD4⟩ := le4.out D _ hD3 fD3 sD3
        have le04 := le03.trans le4
        have ra4 := ra.mono (le2.fr.trans (le3.fr.trans le4.fr))
        refine ⟨av', hD4, by rw [← ra4.length]; exact hz, F4, S4, _, _, ⟨le04.fr, fun a u e1 e2 e3 => ?_⟩, hr4.off fD4 sD4, fD4, sD4, upd_same, ra4.append (.cons tr4 .nil), q4⟩
        obtain ⟨z1, z2, z3⟩ := le04.out a u e1 e2 e3
        exact ⟨by show upd H4 D _ a = _; rw [upd_ne (ne_of_none e1 hD)]; exact z1, z2, z3⟩
      | false =>
        rw [if_neg Bool.false_ne_true]
        exact ⟨F3, S3, at', av', le03, hr3, fD3, sD3, hD3, ra.mono (le2.fr.trans le3.fr), q3⟩
    · exact q.elim
  · have e : i = ts.length := by omega
    subst e
    rw [List.drop_length] at q
    refine .inl ⟨wk.stop F' S' H' le.fr hr' q.1, k _ _ ?_⟩
    have q2 := q.2
    have out : ∀ {F2 : FF} {S2 : SS}, F'.le F2 → (∀ a, a ≠ D → F2 a = F' a) → (∀ a, a ≠ D → S2 a = S' a) → Wd.le ⟨F, S, H⟩ ⟨F2, S2, H'⟩ := fun {F2 S2} fl n1 n2 => by
      refine l1.trans ⟨le.fr.trans fl, fun a u e1 e2 e3 => ?_⟩
      have ne := ne_of_none e1 hD
      obtain ⟨z1, z2, z3⟩ := le.out a u e1 e2 e3
      exact ⟨z1, by show F2 a = none; rw [n1 a ne]; exact z2, by show S2 a = none; rw [n2 a ne]; exact z3⟩
    cases mu with
    | true => exact ⟨F', .ref D, supd S' D (.lst at'), out FF.le.refl (fun _ _ => rfl) fun a n => supd_ne n, hr'.thaw fD sD hD' ra, .ref D, q2 D sD⟩
    | false => exact ⟨fupd F' D (.lst av'), .lst at', S', out (fupd_le fD) (fun a n => fupd_ne n) fun _ _ => rfl, hr'.freeze fD sD hD', .lst fupd_same (ra.mono (fupd_le fD)), q2⟩
theorem l_lc {elt tg iter : Expr} {ifs : List Expr} {scope : Scope} {own : List (Str × Nat)} {mu : Bool} {dI : DI} {g : Tg} {tt : DT} {te : DE} (hc : X.calm = true) (hN : X.N.Nodup) (hi : PI X tg iter (liftI c B dI)) (ok : BlkOk X.N X.env.scope scope own) (hv : ∀ i, i ∈ gslots g → i ∈ own.map (·.2))
    (hg : ∀ (s : Shared) (H : Hp) (C : Addr) (cl : List (Str × Addr)) (fp : List Addr), PG (X.blk s H scope (compEnvC scope cl C X.env) fp) tg (liftG c g)) (ht : ∀ (s : Shared) (H : Hp) (C : Addr) (cl : List (Str × Addr)) (fp : List Addr), PTs (X.blk s H scope (compEnvC scope cl C X.env) fp) ifs (liftT c Wd.bot tt))
    (he : ∀ (s : Shared) (H : Hp) (C : Addr) (cl : List (Str × Addr)) (fp : List Addr), PE (X.blk s H scope (compEnvC scope cl C X.env) fp) elt (lift c Wd.bot te)) (hs : ∀ x, foldedSetIterable iter X.env x = pure x) :
    PE X (.ListComp elt [⟨tg, iter, ifs, 0⟩] scope pos) (lift c B (lcD mu (own.map (·.2)) dI g tt te)) := (pe_lc hc hN hi ok hg ht he hs).sub fun _ _ _ => lc_in hv
/-- name = [..] on one line -/
theorem l_setLc {i : Nat} {y : Str} {py spos : Pos} {elt tg iter : Expr} {ifs : List Expr} {scope : Scope} {own : List (Str × Nat)} {mu : Bool} {dI : DI} {g : Tg} {tt : DT} {te : DE} (hc : X.calm = true) (hN : X.N.Nodup) (hy : X.N[i]? = some y) (hyl : X.env.scope.names.lookup y = some .local)
    (hsw : swapsWith (.ListComp elt [⟨tg, iter, ifs, 0⟩] scope pos) (some (.Name y py)) spos.line X.env = pure true) (hi : PI X tg iter (liftI c B dI)) (ok : BlkOk X.N X.env.scope scope own) (hv : ∀ i, i ∈ gslots g → i ∈ own.map (·.2))
    (hg : ∀ (s : Shared) (H : Hp) (C : Addr) (cl : List (Str × Addr)) (fp : List Addr), PG (X.blk s H scope (compEnvC scope cl C X.env) fp) tg (liftG c g)) (ht : ∀ (s : Shared) (H : Hp) (C : Addr) (cl : List (Str × Addr)) (fp : List Addr), PTs (X.blk s H scope (compEnvC scope cl C X.env) fp) ifs (liftT c Wd.bot tt))
    (he : ∀ (s : Shared) (H : Hp) (C : Addr) (cl : List (Str × Addr)) (fp : List Addr), PE (X.blk s H scope (compEnvC scope cl C X.env) fp) elt (lift c Wd.bot te)) (hs : ∀ x, foldedSetIterable iter X.env x = pure x) :
    PS X (.Assign [.Name y py] (.ListComp elt [⟨tg, iter, ifs, 0⟩] scope pos) spos) (liftS c B (asgD (lcD mu (own.map (·.2)) dI g tt te) (.nm i))) := by
  refine (ps_setLc hc hN hy hyl hsw hi ok hg ht he hs).sub fun D σ H ⟨F, τ, S, D', l, hr, sr, h, k1, k2, k3, k4⟩ => ?_
  refine lc_in hv ⟨F, τ, S, _, l, hr, sr, h, fun v H1 ⟨F1, t1, S1, l1, hr1, tr1, q1⟩ => ?_⟩
  simp only [bindT] at q1
  exact k1 _ _ ⟨F1, _, S1, l1, hr1, (sr.mono l1.fr).set i tr1, q1⟩
theorem pts_nil' {tt : DT} (h : ∀ τ S Q, tt τ S Q → Q true S) : PTs X [] (liftT c B tt) := ⟨fun pins s σ H Q I ⟨F, τ, S, P, l, hr, sr, hh, k⟩ => pts_nil.run pins s σ H Q I (k true H ⟨F, S, Wd.le.refl, hr, h _ _ _ hh⟩)⟩
end
end TL

set_option Elab.async false
set_option linter.all false
set_option maxRecDepth 100000
set_option maxHeartbeats 2000000
set_option autoImplicit false
/-! TL9: stores from the right, raise, try. -/
namespace TL
open PySem PySem.Spec PyProof.Rows L2

section
variable {c : Ct} {X : Cx} {B : Wd} {F F1 F' : FF} {S S1 S' : SS} {H H1 H' : Hp} {τ : Sg} {σ : St} {a b e : Expr} {es : List Expr} {da db : DE} {dA : DA} {pos p : Pos}

/-! ### a, b = x, y -/
def swC (sc : Scope) (ts vs : List Expr) : Option (Option (List Str)) :=
  if (!(ts.length == 2 || ts.length == 3) || vs.length != ts.length) = true then some none
  else if (vs.any fun | .Starred .. => true | _ => false) = true then some none
  else
    let line := (ts.head?.map (·.pos.line)).getD 0
    let names := ts.filterMap fun
      | .Name id pos => if (sc.names.lookup id == some .local && pos.line == line) = true then some id else none
      | _ => none
    if (names.length != ts.length || names.eraseDups.length != names.length) = true then some none
    else if vs.all (foldedForSure 8) = true then some none
    else if vs.all (constantsAlone 8) = true then none
    else some (some names)
theorem swC_ok {ts vs : List Expr} {k k2 : Nat} {p p2 : Pos} {env : Env} {r : Option (List Str)} (hk : env.scope.kind = .function) (h : swC env.scope ts vs = some r) : swappedStores [.Tuple ts k p] (.Tuple vs k2 p2) env = pure r := by
  have hb : env.blockKind = .function := by unfold Env.blockKind; rw [hk]; rfl
  unfold swappedStores
  simp only [hb]
  unfold swC at h
  simp only at h
  split at h
  · rename_i h1
    cases h
    rw [if_pos (by rw [Bool.or_eq_true]; exact .inl h1)]
  · rename_i h1
    refine (if_neg (by rw [Bool.or_eq_true]; exact fun z => z.elim h1 (fun z => by cases z))).trans ?_
    split at h
    · rename_i h2
      cases h
      exact if_pos h2
    · rename_i h2
      refine (if_neg h2).trans ?_
      split at h
      · rename_i h3
        cases h
        exact if_pos h3
      · rename_i h3
        refine (if_neg h3).trans ?_
        split at h
        · rename_i h4
          cases h
          exact if_pos h4
        · rename_i h4
          refine (if_neg h4).trans ?_
          split at h
          · cases h
          · rename_i h5
            cases h
            exact if_neg h5

theorem l_par2 {i j : Nat} {x y : Str} {px py pt : Pos} {kt k2 pt2} (hc : X.calm = true) (hN : X.N.Nodup) (hi : X.N[i]? = some x) (hj : X.N[j]? = some y) (hij : i ≠ j) (hx : X.env.scope.names.lookup x = some .local) (hy : X.env.scope.names.lookup y = some .local) (ha : PA X [a, b] (liftA c B dA))
    (hw : swappedStores [.Tuple [.Name x px, .Name y py] kt pt] (.Tuple [a, b] k2 pt2) X.env = pure (some [x, y])) : PS X (.Assign [.Tuple [.Name x px, .Name y py] kt pt] (.Tuple [a, b] k2 pt2) pos) (liftS c B (asgD (tupD dA) (.tp (.cons (.nm i) (.cons (.nm j) .nil))))) := by
  refine (ps_par hc hN hi hj hij hx hy ha hw).sub fun D σ H ⟨F, τ, S, D', l, hr, sr, h, k1, k2, k3, k4⟩ => ?_
  refine inA l hr sr h fun vs H1 ⟨F1, ts, S1, l1, hr1, tr1, z, q1⟩ => ?_
  dsimp only at q1
  simp only [bindT] at q1
  cases tr1 with
  | nil => simp [bindTs] at q1
  | cons t1 r1 =>
    cases r1 with
    | nil => simp [bindTs, bindT] at q1
    | cons t2 r2 =>
      cases r2 with
      | cons _ _ => simp [bindTs, bindT] at q1
      | nil =>
        simp only [bindTs, bindT] at q1
        exact ⟨_, _, rfl, k1 _ _ ⟨F1, _, S1, l1, hr1, ((sr.mono l1.fr).set i t1).set j t2, q1⟩⟩
theorem l_par3 {i j m : Nat} {x y z : Str} {px py pz pt : Pos} {cc : Expr} {kt k2 pt2} (hc : X.calm = true) (hN : X.N.Nodup) (hi : X.N[i]? = some x) (hj : X.N[j]? = some y) (hm : X.N[m]? = some z) (hij : i ≠ j) (him : i ≠ m) (hjm : j ≠ m) (hx : X.env.scope.names.lookup x = some .local) (hy : X.env.scope.names.lookup y = some .local)
    (hz : X.env.scope.names.lookup z = some .local) (ha : PA X [a, b, cc] (liftA c B dA))
    (hw : swappedStores [.Tuple [.Name x px, .Name y py, .Name z pz] kt pt] (.Tuple [a, b, cc] k2 pt2) X.env = pure (some [x, y, z])) : PS X (.Assign [.Tuple [.Name x px, .Name y py, .Name z pz] kt pt] (.Tuple [a, b, cc] k2 pt2) pos) (liftS c B (asgD (tupD dA) (.tp (.cons (.nm i) (.cons (.nm j) (.cons (.nm m) .nil)))))) := by
  refine (ps_par3 hc hN hi hj hm hij him hjm hx hy hz ha hw).sub fun D σ H ⟨F, τ, S, D', l, hr, sr, h, k1, k2, k3, k4⟩ => ?_
  refine inA l hr sr h fun vs H1 ⟨F1, ts, S1, l1, hr1, tr1, z, q1⟩ => ?_
  dsimp only at q1
  simp only [bindT] at q1
  cases tr1 with
  | nil => simp [bindTs] at q1
  | cons t1 r1 =>
    cases r1 with
    | nil => simp [bindTs, bindT] at q1
    | cons t2 r2 =>
      cases r2 with
      | nil => simp [bindTs, bindT] at q1
      | cons t3 r3 =>
        cases r3 with
        | cons _ _ => simp [bindTs, bindT] at q1
        | nil =>
          simp only [bindTs, bindT] at q1
          exact ⟨_, _, _, rfl, k1 _ _ ⟨F1, _, S1, l1, hr1, (((sr.mono l1.fr).set i t1).set j t2).set m t3, q1⟩⟩

/-! ### raise -/
structure RaiseOk (X : Cx) (x : Str) (C : Addr) : Prop where
  ex : ∃ B newId initId bmB, ExcBaseFacts B newId initId bmB ∧ PySem.W.excIn X.K C bmB newId = true
  gC : X.mg x = some (.ref C)
  kC : PySem.W.keepIn X.K (.ref C) = true
  r : Raises X (.ref C)
def raiseD (W : XW) (x : Str) (d : DE) : DS := fun _ τ S => d τ S fun _ S1 => W ⟨x, none⟩ τ S1
theorem l_raise {x : Str} {C : Addr} {W : XW} {p2 : Pos} (hc : X.calm = true) (tk : Takes X (liftX c B W)) (ro : RaiseOk X x C) (tc : c.tc x = some C) (hg : Gl X x) (hdb : (x == ("__debug__" : Str)) = false) (he : PE X e (lift c B da)) (hs : isStar e = false) :
    PS X (.Raise (some (.Call (.Name x p) [e] [] p2)) none pos) (liftS c B (raiseD W x da)) := by
  obtain ⟨B0, n0, i0, bm, Fa, q0⟩ := ro.ex
  refine (ps_raise hc tk (SkE.pmk_own1 Fa q0 ro.gC ro.kC ro.r hg he (star_cons hs) hdb)).sub fun D σ H ⟨F, τ, S, D', l, hr, sr, h, k1, k2, k3, k4⟩ => ?_
  refine inE l hr sr h fun v H1 ⟨F1, t1, S1, l1, hr1, tr1, q1⟩ => ?_
  exact ⟨F1, τ, S1, _, l.trans l1, hr1, sr.mono l1.fr, ⟨C, tc, rfl, rfl⟩, q1⟩

/-! ### try: .. except x as n: v = n -/
theorem adopt {pins : List (Addr × Obj)} {s : Shared} {a : Addr} {o : HO} {ob : Obj} (J : Inv X pins σ H s) (na : H a = none) (n0 : X.s_0.heap.get? a = none) (nL : a ≠ X.env.locals) (ho : s.heap.get? a = some ob) (nc : ∀ v, ob.data ≠ .cell v) (np : ∀ p ∈ X.pn ++ pins, p.1 ≠ a)
    (new : ObjOk X.prog X.w (upd H a o) s.heap a o) : Inv X pins σ (upd H a o) s := by
  have ne : ∀ {b : Addr} {u : HO}, H b = some u → b ≠ a := fun {b u} e => ne_of_none e na
  refine ⟨J.ok, J.os, J.bare, ⟨J.base.keep, J.base.slot, fun b ob' e n hx => ?_, J.base.there, fun b xs e => ?_, fun b o' u e => ?_, fun b ps e => ?_⟩, J.loc, J.cell, ?_, fun x c e => ?_, fun p hp => ?_, fun b u e => ?_, J.len⟩
  · have q : b ≠ a := fun z => by rw [z, n0] at e; cases e
    rw [upd_ne q]; exact J.base.free b ob' e n hx
  · have h := J.base.tups b xs e
    rw [upd_ne (ne h)]; exact h
  · have h := J.base.frzs b o' u e
    rw [upd_ne (ne h)]; exact h
  · obtain ⟨more, h⟩ := J.base.tbls b ps e
    exact ⟨more, by rw [upd_ne (ne h)]; exact h⟩
  · rw [upd_ne (Ne.symm nL)]; exact J.free
  · have q : c ≠ a := fun z => by
      obtain ⟨v, o', e', d'⟩ := J.cell x c e
      rw [z, ho] at e'
      cases e'
      first
        | exact nc _ d'
        | exact nc _ d'.1
        | exact nc _ d'.2
    rw [upd_ne q]; exact J.freeC x c e
  · obtain ⟨h1, h2, h3, h4, h5⟩ := J.pin p hp
    exact ⟨h1, by rw [upd_ne (np p hp)]; exact h2, h3, h4, h5⟩
  · by_cases hb : b = a
    · subst hb; rw [upd_same] at e; cases e; exact new
    · rw [upd_ne hb] at e
      exact (J.hok b u e).stay (fun _ _ _ q => q) (fun c q => by rw [upd_ne (ne q)]; exact q) fun c xs q => by rw [upd_ne (ne q)]; exact q

def keepX (K : PySem.W.Frag) (cv : Value) (i j : Nat) (Wout : WX) (D : Ends) : WX := fun cls d σ H => ∃ b, PySem.W.exmOne K cls cv = some b ∧
  (b = true → ∃ C, cls = .ref C ∧ ∀ a, H a = none → D.nx ((σ.set j (some (.ref a))).set i none) (upd H a (ExV C d a))) ∧ (b = false → Wout cls d σ H)
theorem ps_try_keep {x n v : Str} {cv : Value} {i j : Nat} {body : List Stmt} {np pn' pv pa pos' : Pos} {tb : WX → TS} {Wout : WX} (hs : X.stack = X.env :: X.outer) (hf : X.env.frame = some X.env.locals) (hex : X.ex = []) (hN : X.N.Nodup) (hi : X.N[i]? = some n) (hj : X.N[j]? = some v) (hij : i ≠ j) (hln : X.env.kindOf n = some .local)
    (hlv : Loc X.env.scope v) (hfv : X.fn v = true ∨ X.env.scope.names.lookup v = some .local) (hc : Names X x cv) (tk : Takes X Wout) (hd : (n == ("__debug__" : Str)) = false) (hcd : (n == ("__classdict__" : Str)) = false)
    (hb : ∀ (W : WX) (pn : List (Addr × Obj)) (xe : Value → Shared → Prop), Takes (X.tr pn xe) W → PassesOwn (model X.prog X.w) X.A X.env xe → PSs (X.tr pn xe) body (tb W)) :
    PS X (.Try body [.ExceptHandler (some (.Name x np)) (some n) [.Assign [.Name v pv] (.Name n pn') pa] pos'] [] [] pos) (fun D σ H => tb (keepX X.K cv i j Wout D) D σ H) := by
  refine ⟨fun pins s σ H D I h => ?_⟩
  have ok := I.ok
  have hfr : X.A.frames = some (X.env :: X.outer) := by rw [ok.frames, hs]
  have hloc : Loc X.env.scope n := .inl hln
  have hil : i < X.N.length := (List.getElem?_eq_some_iff.mp hi).1
  refine wpAny_Try_except ?_
  refine wpAny_mono ((hb (keepX X.K cv i j Wout D) (X.pn ++ pins) (fun e s₁ => wpAny (model X.prog X.w) X.A (noteFrame e X.env) (fun _ s₂ => wpAny (model X.prog X.w) X.A (setFlight e none) (fun _ s₃ =>
    wpAny (model X.prog X.w) X.A (handleBy e X.env [.ExceptHandler (some (.Name x np)) (some n) [.Assign [.Name v pv] (.Name n pn') pa] pos']) (SP X pins D) X.xe s₃) X.xe s₂) X.xe s₁) (fun u s' xx => ?_) PassesOwn.looking).run [] s σ H D (I.toTry _) h) (fun f s1 hsp => ?_) (fun e s1 he => he)
  · obtain ⟨a, B, sI, pins', σ', H', cls, d, rfl, J', nb, up, sky, na, os, ag, b, hb1, hyes, hno⟩ := xx
    have J : Inv X pins σ' H' sI := J'.ofTry ok
    have sky' : Sky B (X.env :: X.outer) a (Zc cls d) X.env.locals s'.heap := by rw [← hs]; exact sky
    show wpAny (model X.prog X.w) X.A (noteFrame (.ref a) X.env) _ _ _
    refine Sky.land Zc.steady hfr hf sky' fun h3 fl3 up3 => ?_
    have J3 : Inv X pins σ' H' { s' with heap := h3 } := J.landed nb fl3.1 (up.trans up3) os ag
    obtain ⟨oe3, vs3, he3, hz3, hd3⟩ := fl3.there
    have Ba : B.get? a = none := fl3.2.1
    have notFr : ∀ {h : Heap} {o : Obj} {vs : Array Value}, h.FunFrames B (X.env :: X.outer) → h.get? a = some o → o.data = .fields vs → a ∉ frs (X.env :: X.outer) := fun {h o vs} ff e dd hm => by
      obtain ⟨_, o', e', hnf⟩ := ff.mem hm
      rw [e] at e'; cases e'
      exact hnf _ dd
    have nfr := notFr fl3.2.2.1 he3 hd3
    have nL : a ≠ X.env.locals := fun z => nfr (List.mem_filterMap.mpr ⟨X.env, List.mem_cons_self, by rw [hf, z]⟩)
    have nF : a ∉ X.fs := fun hm => by
      obtain ⟨e, he, q⟩ := List.mem_filterMap.mp hm
      exact nfr (List.mem_filterMap.mpr ⟨e, List.mem_cons_of_mem _ he, q⟩)
    have sIn : sI.heap.get? a = none := by
      cases e : sI.heap.get? a with
      | none => rfl
      | some o =>
        have := nb a o e (by rw [hs]; exact nfr)
        rw [Ba] at this; cases this
    have s0n : X.s_0.heap.get? a = none := by
      cases e : X.s_0.heap.get? a with
      | none => rfl
      | some o =>
        obtain ⟨o', e'⟩ := J.base.there a o e (by rw [hex]; simp)
        rw [sIn] at e'; cases e'
    have npin : ∀ p ∈ X.pn ++ pins, p.1 ≠ a := fun p hp z => by
      have := (J.pin p hp).1
      rw [z, sIn] at this; cases this
    have S3 := J3.suite he3 hd3 na nL nF
    refine wpAny_handleBy_cons (codeAny_handlers_test ?_) (by intro q; cases q)
    have LT : PySem.W.Looks (model X.prog X.w) h3 (typeOf (.ref a)) cls := fun A Q E s k q => wpAny_typeOf_ref (k _ _ he3) (by rw [hz3.1]; exact q)
    have LM := PySem.W.exm_one (M := model X.prog X.w) (J3.kIn) LT hb1
    have test : ∀ {Q : Value → Shared → Prop} {E : Value → Shared → Prop}, Q cv { s' with heap := h3 } → wpAny (model X.prog X.w) (X.A.mark (some (.ref a))) (eval (.Name x np) X.env) Q E { s' with heap := h3 } := fun {Q E} q => by
      obtain ⟨hg, hdbg, hm | ⟨hm, hv, hnn⟩⟩ := hc
      · exact ld_glob (X := X.suite a ((a, oe3) :: (X.pn ++ pins))) S3 hg hm q hdbg
      · exact ld_blt (X := X.suite a ((a, oe3) :: (X.pn ++ pins))) S3 hg hm hv q hnn hdbg
    refine test (LM.here ?_)
    cases b with
    | true =>
      refine codeAny_handlers_suite_as ?_
      refine HandSPX.lands_againZ fl3 fun h4 fl4 up4 => ?_
      have J4 : Inv X pins σ' H' { s' with heap := h4 } := J.landed nb fl4.1 ((up.trans up3).trans up4) os ag
      obtain ⟨oe4, vs4, he4, hz4, hd4⟩ := fl4.there
      have S4 := J4.suite he4 hd4 na nL nF
      refine store_ok (X := X.suite a ((a, oe4) :: (X.pn ++ pins))) (v := .ref a) S4 hN hi hloc rfl (fun s5 S5 => ?_) (.inr hln)
      have lenσ : i < σ'.length := by rw [J.len]; exact hil
      have psA : PSs (X.suite a ((a, oe4) :: (X.pn ++ pins))) [.Assign [.Name v pv] (.Name n pn') pa] (tAsg (tVar i) (gName j)) := pss_one (ps_asg (pe_var hi (.inl hln) hd hcd) (pg_name hN hj hlv hfv))
      refine wpAny_mono (psA.run [] s5 _ H' { nx := fun σ6 H6 => σ6 = (σ'.set i (some (.ref a))).set j (some (.ref a)) ∧ H6 = H', rt := fun _ _ => False, bk := fun _ _ => False, ct := fun _ _ => False } S5 ⟨.ref a, by rw [List.getElem?_set_self lenσ], rfl, rfl⟩) (fun f s6 hsp => ?_) (fun _ _ z => False.elim z)
      cases f with
      | next =>
        obtain ⟨σ6, H6, S6, rfl, rfl⟩ := hsp
        obtain ⟨C, rfl, hnx⟩ := hyes rfl
        have pa6 := S6.pin (a, oe4) (List.mem_append_left _ List.mem_cons_self)
        have J6 : Inv X pins _ H6 s6 := S6.unsuite ok
        have J6' : Inv X ((a, oe4) :: pins) _ H6 s6 := J6.pins_of fun p hp => by
          rcases List.mem_cons.mp hp with rfl | hp
          · exact pa6
          · exact J6.pin p (List.mem_append_right _ hp)
        refine gone_ok J6' hN hi hln fun s7 J7 => ?_
        have pa7 := J7.pin (a, oe4) (List.mem_append_right _ List.mem_cons_self)
        have J7' : Inv X pins _ H6 s7 := J7.pins_of fun p hp => J7.pin p (List.mem_append_right _ (List.mem_cons_of_mem _ hp))
        have new : ObjOk X.prog X.w (upd H6 a (ExV C d a)) s7.heap a (ExV C d a) := ⟨⟨oe4, vs4, pa7.1, hz4, hd4⟩, ⟨_, pa7.1⟩, fun h1 h2 ⟨o, vs, e1, e2, e3⟩ k => ⟨o, vs, k _ e1, e2, e3⟩⟩
        have J8 := adopt J7' na s0n nL pa7.1 pa7.2.2.2.2 npin new
        refine ⟨_, _, J8, ?_⟩
        have e : (((σ'.set i (some (V.ref a))).set j (some (V.ref a))).set i none) = (σ'.set j (some (V.ref a))).set i none := by
          rw [List.set_comm _ _ hij, List.set_set]
        rw [e]
        exact hnx a na
      | brk => obtain ⟨σ6, H6, S6, q6⟩ := hsp; exact q6.elim
      | cont => obtain ⟨σ6, H6, S6, q6⟩ := hsp; exact q6.elim
      | ret u => obtain ⟨v6, σ6, H6, S6, r6, q6⟩ := hsp; exact q6.elim
    | false =>
      show wpAny _ X.A (handleBy (.ref a) X.env []) _ _ _
      refine wpAny_handleBy_nil ?_
      obtain ⟨k1, k2, k3, oe, vs, T, oT, ts', he, hz, hd, h1, hr⟩ := id fl3
      unfold PySem.passOn
      refine wpAny_bind (wpAny_field he hd h1 ?_)
      rw [if_neg (show ¬ ((Value.ref T == Value.none) = true) from by simp)]
      have fin : wpAny (model X.prog X.w) X.A (setFlight (.ref a) X.env.frame) (fun _ s4 => wpAny (model X.prog X.w) X.A (throw (.ref a) : Sem Flow) (SP X pins D) X.xe s4) X.xe { s' with heap := h3 } := by
        rw [hf]
        refine HandSPX.setFlight_upZ fl3 fun h4 hh4 up4 => wpAny_throw (tk _ _ ?_)
        exact ⟨a, B, sI, pins, σ', H', cls, d, rfl, J, nb, (up.trans up3).trans up4, .inr (.inr (by rw [hs]; exact hh4)), na, os, ag, hno rfl⟩
      first
        | exact wpAny_bind (wpAny_pure (wpAny_bind fin))
        | exact wpAny_bind fin
  · cases f with
    | next =>
      obtain ⟨σ', H', J', q⟩ := hsp
      exact wpAny_execs_nil ⟨σ', H', J'.ofTry ok, q⟩
    | brk =>
      obtain ⟨σ', H', J', q⟩ := hsp
      exact ⟨σ', H', J'.ofTry ok, q⟩
    | cont =>
      obtain ⟨σ', H', J', q⟩ := hsp
      exact ⟨σ', H', J'.ofTry ok, q⟩
    | ret u =>
      obtain ⟨v, σ', H', J', r, q⟩ := hsp
      exact ⟨v, σ', H', J'.ofTry ok, r, q⟩

def tryD (W : XW) (sub : Str → Str → Bool) (cn : Str) (i j : Nat) (bd : XW → DS) : DS := fun D τ S => bd (fun x τ1 S1 => match sub x.cls cn with
  | true => D.nx ((τ1.set j (some (.exc x.cls x.fld))).set i none) S1
  | false => W x τ1 S1) D τ S
theorem l_try {x n v : Str} {Cn : Addr} {i j : Nat} {body : List Stmt} {np pn' pv pa pos' : Pos} {bd : XW → DS} {W : XW} {sub : Str → Str → Bool} (hs : X.stack = X.env :: X.outer) (hf : X.env.frame = some X.env.locals) (hex : X.ex = []) (hN : X.N.Nodup) (hi : X.N[i]? = some n) (hj : X.N[j]? = some v) (hij : i ≠ j) (hln : X.env.kindOf n = some .local)
    (hlv : Loc X.env.scope v) (hfv : X.fn v = true ∨ X.env.scope.names.lookup v = some .local) (hc : Names X x (.ref Cn)) (tk : Takes X (liftX c B W)) (hd : (n == ("__debug__" : Str)) = false) (hcd : (n == ("__classdict__" : Str)) = false)
    (exm : ∀ a C, c.tc a = some C → PySem.W.exmOne X.K (.ref C) (.ref Cn) = some (sub a x))
    (hb : ∀ (B' : Wd) (W' : XW) (pn : List (Addr × Obj)) (xe : Value → Shared → Prop), Takes (X.tr pn xe) (liftX c B' W') → PassesOwn (model X.prog X.w) X.A X.env xe → PSs (X.tr pn xe) body (liftS c B' (bd W'))) :
    PS X (.Try body [.ExceptHandler (some (.Name x np)) (some n) [.Assign [.Name v pv] (.Name n pn') pa] pos'] [] [] pos) (liftS c B (tryD W sub x i j bd)) := by
  have h1 := ps_try_keep (pos := pos) (np := np) (pn' := pn') (pv := pv) (pa := pa) (pos' := pos') (body := body) (tb := fun W0 D σ H => ∃ B' W', (∀ cls d σ H, liftX c B' W' cls d σ H → W0 cls d σ H) ∧ liftS c B' (bd W') D σ H) hs hf hex hN hi hj hij hln hlv hfv hc tk hd hcd
    fun W0 pn xe tk0 hp => ⟨fun pins s σ H D I ⟨B', W', imp, q⟩ => (hb B' W' pn xe (tk0.imp imp) hp).run pins s σ H D I q⟩
  refine h1.sub fun D σ H ⟨F, τ, S, D', l, hr, sr, h, k1, k2, k3, k4⟩ => ?_
  refine ⟨⟨F, S, H⟩, _, fun cls d σ1 H1 ⟨F1, τ1, S1, y, le, hr1, sr1, xr, w⟩ => ?_, F, τ, S, D', Wd.le.refl, hr, sr, h, k1, k2, k3, k4⟩
  obtain ⟨C, tc, rfl, fl⟩ := xr
  dsimp only at w
  refine ⟨sub y.cls x, exm _ _ tc, fun hb => ⟨C, rfl, fun a na => ?_⟩, fun hb => ?_⟩
  · rw [hb] at w
    obtain ⟨hr2, le2⟩ := hr1.newF (o := .exc C d) (u := ExV C d a) na upd_same
    have te : TR c (fupd F1 a (.exc C d)) (.exc y.cls y.fld) (.ref a) := by
      obtain ⟨yc, yf⟩ := y
      cases yf with
      | none =>
        have fl : d = none := fl
        subst fl
        exact .exc0 tc fupd_same
      | some nf =>
        obtain ⟨dd, rfl, e2⟩ := (show ∃ dd, d = some dd ∧ F1 dd = some (.xd nf.1 nf.2) from fl)
        exact .exc1 tc fupd_same (le2 _ _ e2)
    exact k1 _ _ ⟨_, _, S1, le.trans (le_newF hr1 na), hr2, ((sr1.mono le2).set j te).none i, w⟩
  · rw [hb] at w
    exact ⟨F1, τ1, S1, y, l.trans le, hr1, sr1, ⟨C, tc, rfl, fl⟩, w⟩
end
end TL

set_option Elab.async false
set_option linter.all false
set_option maxRecDepth 100000
set_option maxHeartbeats 2000000
set_option autoImplicit false
/-! TL9H: a def called in an except suite: try: .. except x as n: return f(n). -/
namespace TL
open PySem PySem.Spec PyProof.Rows L2

/-- a promise that lets nothing out -/
def liftSp0 (c : Ct) (sp : TSp) : List V → Hp → VK → Prop := fun vs H Q => ∃ F S ts P, HRel c F S H ∧ TRs c F ts vs ∧ sp ts S P (fun _ _ => False) ∧ ∀ v H', out c F S H P v H' → Q v H'
structure FnHt (c : Ct) (P : Program) (w : World) (K : PySem.W.Frag) (mg : Str → Option Value) (base : Heap) (k : Nat) (f : Addr) (fd : FuncData) (ps : List Str) (sp : TSp) : Prop where
  len : ∀ ts S Q E, sp ts S Q E → ts.length = ps.length
  run : ∀ (A : Around) (outer : List Env) (s : Shared) (H : Hp) (args : Args) (us : List Value) (vs : List V) (Q : VK), L2H.RoomH k A → A.guards = some [] → Env0 P w K mg base A outer s H → BindsTo s fd args (ps.zip us) → Vals vs us → liftSp0 c sp vs H Q →
    codeAny (model P w) A (.call (.ref f) args) (CR (L2.CX P w) outer P w H s Q (fun _ _ _ => False)) s
theorem FnHt.mono {c : Ct} {P : Program} {w : World} {K : PySem.W.Frag} {mg : Str → Option Value} {base : Heap} {j k : Nat} {f : Addr} {fd : FuncData} {ps : List Str} {sp : TSp} (G : FnHt c P w K mg base j f fd ps sp) (h : j ≤ k) : FnHt c P w K mg base k f fd ps sp :=
  ⟨G.len, fun A outer s H args us vs Q hr => G.run A outer s H args us vs Q (hr.mono h)⟩
theorem fnHt_of {c : Ct} {P : Program} {w : World} {K : PySem.W.Frag} {mg : Str → Option Value} {base : Heap} {k : Nat} {f : Addr} {name qual : Str} {params : Arguments} {body : List Stmt} {scope : Scope} {dV kV doc pm cdv ct oc : Value} {an od : Option Addr}
    {osl : Array (Option Value)} {N ps : List Str} {sp : TSp} (lk : K.lookup f = some ⟨oc, od, .func (PySem.W.fnOf name qual params body scope dV kV doc pm an cdv ct), osl⟩) (hcd : PySem.W.codeIn K cdv qual = true) (SC : FnScope N ps scope)
    (len : ∀ ts S Q E, sp ts S Q E → ts.length = ps.length) (d : XW → DS)
    (hbody : ∀ (A : Around) (outer : List Env) (s : Shared) (H : Hp) (p : Addr × Obj), Env0 P w K mg base A outer s H → L2H.RoomH k (A.deeper (envOfC qual scope s.heap.objs.size f cdv)) → A.guards = some [] →
      PSs (L2H.cxH (L2.CX P w) P w K mg base N qual scope f cdv A outer s H (fun _ _ _ => False) p) body (liftS c Wd.bot (d fun _ _ _ => False)))
    (law : ∀ ts S Q, sp ts S Q (fun _ _ => False) → d (fun _ _ _ => False) { nx := fun _ S' => Q .non S', rt := Q } (start' N.length ts) S) :
    FnHt c P w K mg base (k + 1) f (PySem.W.fnOf name qual params body scope dV kV doc pm an cdv ct) ps sp := by
  refine ⟨len, fun A outer s H args us vs Q hr hgd e0 hb r ⟨F, S, ts, PP, hr', tr, hsp, k1⟩ => ?_⟩
  have hl : vs.length = ps.length := by rw [← tr.length]; exact len _ _ _ _ hsp
  have KX : K.In s.heap := e0.mod.kin.keeps fun b o e => (e0.bs b o e).1
  have lim : s.heap.NoLimit := e0.mod.nolimit.keeps fun b o e => (e0.bs b o e).1
  have hkind : ∀ y ∈ ps.zip us, scope.names.lookup y.1 = some .local ∨ (scope.names.lookup y.1 = some .cell ∧ ((cellsFrom (s.heap.objs.size + 1) scope.names []).lookup y.1).isSome = true) := fun ⟨n, v⟩ hy => by
    rcases SC.par n (List.of_mem_zip hy).1 with q | q
    · exact .inl q
    · exact .inr ⟨q, PySem.W.cellsFrom_some _ _ _ (.inl q)⟩
  have fb := e0.mod.kin _ _ lk
  have hpin : L2H.PinOk outer H s (f, ⟨oc, od, .func (PySem.W.fnOf name qual params body scope dV kV doc pm an cdv ct), osl⟩) := by
    refine ⟨KX _ _ lk, (e0.bs _ _ fb).2, fun hm => ?_, fun v z => ?_⟩
    · obtain ⟨n, o', e', hnf⟩ := e0.funs.mem hm
      rw [fb] at n; cases n
    · cases z
  refine codeAny_call_function hr.depth (KX _ _ lk) rfl SC.co SC.gen rfl (PySem.W.codeRec_of KX hcd) (hb _ _ _ _ ?_)
  refine wpAny_newFunctionEnv_cells SC.kind hkind fun env he s1 x => ?_
  subst he
  refine ⟨lim.keeps x.toInCall.keep, codeAny_func ?_⟩
  have body' := hbody A outer s H (f, ⟨oc, od, .func (PySem.W.fnOf name qual params body scope dV kV doc pm an cdv ct), osl⟩) e0 (hr.deeper _) hgd
  have I : Inv (L2H.cxH (L2.CX P w) P w K mg base N qual scope f cdv A outer s H (fun _ _ _ => False) (f, ⟨oc, od, .func (PySem.W.fnOf name qual params body scope dV kV doc pm an cdv ct), osl⟩)) [] (L2.start N vs) H s1 := L2H.inv_startH SC hpin e0 hl r x
  have q : liftS c Wd.bot (d fun _ _ _ => False) { nx := fun _ H' => Q .non H', rt := Q } (L2.start N vs) H :=
    ⟨F, _, S, _, Wd.bot_le, hr', start_rel tr, law ts S PP hsp, fun σ' H' ⟨F', τ', S', le, hr2, _, p⟩ => k1 _ _ ⟨F', .non, S', le, hr2, .non, p⟩, k1, fun _ _ ⟨_, _, _, _, _, _, p⟩ => p.elim, fun _ _ ⟨_, _, _, _, _, _, p⟩ => p.elim⟩
  refine wpAny_mono (body'.run [] s1 (L2.start N vs) H _ I q) (fun fl s' hs => ?_) fun e s' hs => hs
  cases fl with
  | ret u =>
    obtain ⟨v, σ', H', J, rv, q⟩ := hs
    exact ⟨v, H', J.os, J.bare, J.base, J.hok, rv, q⟩
  | next =>
    obtain ⟨σ', H', J, q⟩ := hs
    exact ⟨V.non, H', J.os, J.bare, J.base, J.hok, (rfl : RelV V.non Value.none), q⟩
  | brk =>
    obtain ⟨_, _, _, q⟩ := hs
    exact False.elim q
  | cont =>
    obtain ⟨_, _, _, q⟩ := hs
    exact False.elim q
section
variable {c : Ct} {X : Cx} {B : Wd} {F F1 F' : FF} {S S1 S' : SS} {H H1 H' : Hp} {τ : Sg} {σ : St} {a b e : Expr} {es : List Expr} {da db : DE} {dA : DA} {pos p : Pos}
theorem pe_callHt {Y : Cx} {g : Str} {k : Nat} {f : Addr} {fd : FuncData} {ps : List Str} {sp : TSp} {t : TA} (G : FnHt c Y.prog Y.w Y.K Y.mg Y.base k f fd ps sp) (hr : L2H.RoomH k Y.A) (hgd : Y.A.guards = some []) (hg : Gl Y g) (hm : Y.mg g = some (.ref f)) (hk : PySem.W.keepIn Y.K (.ref f) = true) (hb : Binds Y.K fd ps [])
    (ha : PA Y (e :: es) t) (hdb : (g == ("__debug__" : Str)) = false) (hs : (e :: es).all (fun e => !isStar e) = true) : PE Y (.Call (.Name g p) (e :: es) [] pos) (fun σ H Q => t σ H fun vs H1 => liftSp0 c sp vs H1 Q) := by
  have h' := hs
  simp only [List.all_cons, Bool.and_eq_true, Bool.not_eq_true'] at h'
  refine ⟨fun pins s σ H Q I h => ?_⟩
  refine wpAny_Call_Name_kw (ld_glob I hg hm ?_ hdb)
  refine PySem.W.callWith_K (h₀ := Y.base) I.ok.mod.kin hk (mn (ha.run pos pins s σ H _ I h) fun us s1 ⟨vs, H1, I1, r, q1⟩ => ⟨I1.kIn, ?_⟩) (star_cons h'.1) (star_any h'.2)
  have hl : (us ++ []).length = ps.length := by
    obtain ⟨F, S, ts, P, _, tr, hsp, _⟩ := q1
    rw [List.append_nil, ← r.length, ← tr.length]; exact G.len _ _ _ _ hsp
  have hbb := hb s1 us I1.kIn hl
  rw [List.append_nil] at hbb
  refine wpAny_call (codeAny_mono (G.run Y.A Y.stack s1 H1 ⟨us, []⟩ us vs Q hr hgd I1.env0 hbb r q1) fun r s' hq => ?_)
  cases r with
  | error e =>
    obtain ⟨_, _, _, _, _, _, _, _, _, _, _, _, h⟩ := (show L2.CX Y.prog Y.w Y.stack H1 s1 (fun _ _ _ => False) e s' from hq)
    exact h.elim
  | ok fl =>
    cases fl with
    | ret u => exact I1.after hq
    | next => exact False.elim hq
    | brk => exact False.elim hq
    | cont => exact False.elim hq
end
section
variable {c : Ct} {X : Cx} {B : Wd} {F F1 F' : FF} {S S1 S' : SS} {H H1 H' : Hp} {τ : Sg} {σ : St} {a b e : Expr} {es : List Expr} {da db : DE} {dA : DA} {pos p : Pos}
def retX (c : Ct) (K : PySem.W.Frag) (cv : Value) (sp : TSp) (Wout : WX) (D : Ends) : WX := fun cls d σ H => ∃ b, PySem.W.exmOne K cls cv = some b ∧
  (b = true → ∃ C, cls = .ref C ∧ ∀ a, H a = none → liftSp0 c sp [.ref a] (upd H a (ExV C d a)) D.rt) ∧ (b = false → Wout cls d σ H)
theorem ps_try_ret {x n g : Str} {cv : Value} {i : Nat} {body : List Stmt} {np pn' pg pc pr pos' : Pos} {tb : WX → TS} {Wout : WX} {k : Nat} {f : Addr} {fd : FuncData} {ps : List Str} {sp : TSp} (hs : X.stack = X.env :: X.outer) (hf : X.env.frame = some X.env.locals) (hex : X.ex = []) (hN : X.N.Nodup) (hi : X.N[i]? = some n) (hln : X.env.kindOf n = some .local)
    (hc : Names X x cv) (tk : Takes X Wout) (hd : (n == ("__debug__" : Str)) = false) (hcd : (n == ("__classdict__" : Str)) = false)
    (G : FnHt c X.prog X.w X.K X.mg X.base k f fd ps sp) (hr : L2H.RoomH k X.A) (hgd : X.A.guards = some []) (hg : Gl X g) (hm : X.mg g = some (.ref f)) (hk : PySem.W.keepIn X.K (.ref f) = true) (hbd : Binds X.K fd ps []) (hdb : (g == ("__debug__" : Str)) = false)
    (hb : ∀ (W : WX) (pn : List (Addr × Obj)) (xe : Value → Shared → Prop), Takes (X.tr pn xe) W → PassesOwn (model X.prog X.w) X.A X.env xe → PSs (X.tr pn xe) body (tb W)) :
    PS X (.Try body [.ExceptHandler (some (.Name x np)) (some n) [.Return (some (.Call (.Name g pg) [.Name n pn'] [] pc)) pr] pos'] [] [] pos) (fun D σ H => tb (retX c X.K cv sp Wout D) D σ H) := by
  refine ⟨fun pins s σ H D I h => ?_⟩
  have ok := I.ok
  have hfr : X.A.frames = some (X.env :: X.outer) := by rw [ok.frames, hs]
  have hloc : Loc X.env.scope n := .inl hln
  have hil : i < X.N.length := (List.getElem?_eq_some_iff.mp hi).1
  refine wpAny_Try_except ?_
  refine wpAny_mono ((hb (retX c X.K cv sp Wout D) (X.pn ++ pins) (fun e s₁ => wpAny (model X.prog X.w) X.A (noteFrame e X.env) (fun _ s₂ => wpAny (model X.prog X.w) X.A (setFlight e none) (fun _ s₃ =>
    wpAny (model X.prog X.w) X.A (handleBy e X.env [.ExceptHandler (some (.Name x np)) (some n) [.Return (some (.Call (.Name g pg) [.Name n pn'] [] pc)) pr] pos']) (SP X pins D) X.xe s₃) X.xe s₂) X.xe s₁) (fun u s' xx => ?_) PassesOwn.looking).run [] s σ H D (I.toTry _) h) (fun f s1 hsp => ?_) (fun e s1 he => he)
  · obtain ⟨a, B, sI, pins', σ', H', cls, d, rfl, J', nb, up, sky, na, os, ag, b, hb1, hyes, hno⟩ := xx
    have J : Inv X pins σ' H' sI := J'.ofTry ok
    have sky' : Sky B (X.env :: X.outer) a (Zc cls d) X.env.locals s'.heap := by rw [← hs]; exact sky
    show wpAny (model X.prog X.w) X.A (noteFrame (.ref a) X.env) _ _ _
    refine Sky.land Zc.steady hfr hf sky' fun h3 fl3 up3 => ?_
    have J3 : Inv X pins σ' H' { s' with heap := h3 } := J.landed nb fl3.1 (up.trans up3) os ag
    obtain ⟨oe3, vs3, he3, hz3, hd3⟩ := fl3.there
    have Ba : B.get? a = none := fl3.2.1
    have notFr : ∀ {h : Heap} {o : Obj} {vs : Array Value}, h.FunFrames B (X.env :: X.outer) → h.get? a = some o → o.data = .fields vs → a ∉ frs (X.env :: X.outer) := fun {h o vs} ff e dd hm => by
      obtain ⟨_, o', e', hnf⟩ := ff.mem hm
      rw [e] at e'; cases e'
      exact hnf _ dd
    have nfr := notFr fl3.2.2.1 he3 hd3
    have nL : a ≠ X.env.locals := fun z => nfr (List.mem_filterMap.mpr ⟨X.env, List.mem_cons_self, by rw [hf, z]⟩)
    have nF : a ∉ X.fs := fun hm => by
      obtain ⟨e, he, q⟩ := List.mem_filterMap.mp hm
      exact nfr (List.mem_filterMap.mpr ⟨e, List.mem_cons_of_mem _ he, q⟩)
    have sIn : sI.heap.get? a = none := by
      cases e : sI.heap.get? a with
      | none => rfl
      | some o =>
        have := nb a o e (by rw [hs]; exact nfr)
        rw [Ba] at this; cases this
    have s0n : X.s_0.heap.get? a = none := by
      cases e : X.s_0.heap.get? a with
      | none => rfl
      | some o =>
        obtain ⟨o', e'⟩ := J.base.there a o e (by rw [hex]; simp)
        rw [sIn] at e'; cases e'
    have npin : ∀ p ∈ X.pn ++ pins, p.1 ≠ a := fun p hp z => by
      have := (J.pin p hp).1
      rw [z, sIn] at this; cases this
    have S3 := J3.suite he3 hd3 na nL nF
    refine wpAny_handleBy_cons (codeAny_handlers_test ?_) (by intro q; cases q)
    have LT : PySem.W.Looks (model X.prog X.w) h3 (typeOf (.ref a)) cls := fun A Q E s k q => wpAny_typeOf_ref (k _ _ he3) (by rw [hz3.1]; exact q)
    have LM := PySem.W.exm_one (M := model X.prog X.w) (J3.kIn) LT hb1
    have test : ∀ {Q : Value → Shared → Prop} {E : Value → Shared → Prop}, Q cv { s' with heap := h3 } → wpAny (model X.prog X.w) (X.A.mark (some (.ref a))) (eval (.Name x np) X.env) Q E { s' with heap := h3 } := fun {Q E} q => by
      obtain ⟨hg, hdbg, hm | ⟨hm, hv, hnn⟩⟩ := hc
      · exact ld_glob (X := X.suite a ((a, oe3) :: (X.pn ++ pins))) S3 hg hm q hdbg
      · exact ld_blt (X := X.suite a ((a, oe3) :: (X.pn ++ pins))) S3 hg hm hv q hnn hdbg
    refine test (LM.here ?_)
    cases b with
    | true =>
      refine codeAny_handlers_suite_as ?_
      refine HandSPX.lands_againZ fl3 fun h4 fl4 up4 => ?_
      have J4 : Inv X pins σ' H' { s' with heap := h4 } := J.landed nb fl4.1 ((up.trans up3).trans up4) os ag
      obtain ⟨oe4, vs4, he4, hz4, hd4⟩ := fl4.there
      have S4 := J4.suite he4 hd4 na nL nF
      refine store_ok (X := X.suite a ((a, oe4) :: (X.pn ++ pins))) (v := .ref a) S4 hN hi hloc rfl (fun s5 S5 => ?_) (.inr hln)
      have lenσ : i < σ'.length := by rw [J.len]; exact hil
      have pa5 := S5.pin (a, oe4) (List.mem_append_left _ List.mem_cons_self)
      have J5 : Inv (X.suite a (X.pn ++ pins)) [] (σ'.set i (some (.ref a))) H' s5 :=
        ⟨ok.suite _ _, S5.os, S5.bare, S5.base, S5.loc, S5.cell, S5.free, S5.freeC, fun p hp => S5.pin p (List.mem_append_left _ (List.mem_cons_of_mem _ (by rw [List.append_nil] at hp; exact hp))), S5.hok, S5.len⟩
      obtain ⟨C, rfl, hcall⟩ := hyes rfl
      have new : ObjOk X.prog X.w (upd H' a (ExV C d a)) s5.heap a (ExV C d a) := ⟨⟨oe4, vs4, pa5.1, hz4, hd4⟩, ⟨_, pa5.1⟩, fun h1 h2 ⟨o, vs, e1, e2, e3⟩ k => ⟨o, vs, k _ e1, e2, e3⟩⟩
      have J6 : Inv (X.suite a (X.pn ++ pins)) [] (σ'.set i (some (.ref a))) (upd H' a (ExV C d a)) s5 :=
        adopt J5 na s0n nL pa5.1 pa5.2.2.2.2 (fun p hp => npin p (by rw [List.append_nil] at hp; exact hp)) new
      have psR : PSs (X.suite a (X.pn ++ pins)) [.Return (some (.Call (.Name g pg) [.Name n pn'] [] pc)) pr] (tRet fun σ H Q => (tCons (tVar i) tNil) σ H fun vs H1 => liftSp0 c sp vs H1 Q) :=
        pss_one (ps_ret (pe_callHt (Y := X.suite a (X.pn ++ pins)) G ⟨hr.dp, hr.un⟩ hgd hg hm hk hbd (pa_cons (pe_var hi (.inl hln) hd hcd) pa_nil) hdb (by rfl)))
      refine wpAny_mono (psR.run [] s5 _ _ { nx := fun _ _ => False, rt := D.rt, bk := fun _ _ => False, ct := fun _ _ => False } J6 ⟨.ref a, by rw [List.getElem?_set_self lenσ], hcall a na⟩) (fun f s6 hsp => ?_) (fun _ _ z => False.elim z)
      cases f with
      | next => obtain ⟨σ6, H6, S6, q6⟩ := hsp; exact q6.elim
      | brk => obtain ⟨σ6, H6, S6, q6⟩ := hsp; exact q6.elim
      | cont => obtain ⟨σ6, H6, S6, q6⟩ := hsp; exact q6.elim
      | ret u =>
        obtain ⟨v6, σ6, H6, S6, r6, q6⟩ := hsp
        have J7 : Inv X pins σ6 H6 s6 := ⟨ok, S6.os, S6.bare, S6.base, S6.loc, S6.cell, S6.free, S6.freeC, fun p hp => S6.pin p (by rw [List.append_nil]; exact hp), S6.hok, S6.len⟩
        refine gone_ok J7 hN hi hln fun s7 J8 => ?_
        exact ⟨v6, _, _, J8, r6, q6⟩
    | false =>
      show wpAny _ X.A (handleBy (.ref a) X.env []) _ _ _
      refine wpAny_handleBy_nil ?_
      obtain ⟨k1, k2, k3, oe, vs, T, oT, ts', he, hz, hd, h1, hr⟩ := id fl3
      unfold PySem.passOn
      refine wpAny_bind (wpAny_field he hd h1 ?_)
      rw [if_neg (show ¬ ((Value.ref T == Value.none) = true) from by simp)]
      have fin : wpAny (model X.prog X.w) X.A (setFlight (.ref a) X.env.frame) (fun _ s4 => wpAny (model X.prog X.w) X.A (throw (.ref a) : Sem Flow) (SP X pins D) X.xe s4) X.xe { s' with heap := h3 } := by
        rw [hf]
        refine HandSPX.setFlight_upZ fl3 fun h4 hh4 up4 => wpAny_throw (tk _ _ ?_)
        exact ⟨a, B, sI, pins, σ', H', cls, d, rfl, J, nb, (up.trans up3).trans up4, .inr (.inr (by rw [hs]; exact hh4)), na, os, ag, hno rfl⟩
      first
        | exact wpAny_bind (wpAny_pure (wpAny_bind fin))
        | exact wpAny_bind fin
  · cases f with
    | next =>
      obtain ⟨σ', H', J', q⟩ := hsp
      exact wpAny_execs_nil ⟨σ', H', J'.ofTry ok, q⟩
    | brk =>
      obtain ⟨σ', H', J', q⟩ := hsp
      exact ⟨σ', H', J'.ofTry ok, q⟩
    | cont =>
      obtain ⟨σ', H', J', q⟩ := hsp
      exact ⟨σ', H', J'.ofTry ok, q⟩
    | ret u =>
      obtain ⟨v, σ', H', J', r, q⟩ := hsp
      exact ⟨v, σ', H', J'.ofTry ok, r, q⟩

def tryR (W : XW) (sub : Str → Str → Bool) (cn : Str) (i : Nat) (sp : TSp) (bd : XW → DS) : DS := fun D τ S => bd (fun x τ1 S1 => match sub x.cls cn with
  | true => sp [.exc x.cls x.fld] S1 D.rt (fun _ _ => False)
  | false => W x τ1 S1) D τ S
theorem l_tryR {x n g : Str} {Cn : Addr} {i : Nat} {body : List Stmt} {np pn' pg pc pr pos' : Pos} {bd : XW → DS} {W : XW} {sub : Str → Str → Bool} {k : Nat} {f : Addr} {fd : FuncData} {ps : List Str} {sp : TSp} (hs : X.stack = X.env :: X.outer) (hf : X.env.frame = some X.env.locals) (hex : X.ex = []) (hN : X.N.Nodup) (hi : X.N[i]? = some n) (hln : X.env.kindOf n = some .local)
    (hc : Names X x (.ref Cn)) (tk : Takes X (liftX c B W)) (hd : (n == ("__debug__" : Str)) = false) (hcd : (n == ("__classdict__" : Str)) = false)
    (exm : ∀ a C, c.tc a = some C → PySem.W.exmOne X.K (.ref C) (.ref Cn) = some (sub a x))
    (G : FnHt c X.prog X.w X.K X.mg X.base k f fd ps sp) (hr : L2H.RoomH k X.A) (hgd : X.A.guards = some []) (hg : Gl X g) (hm : X.mg g = some (.ref f)) (hk : PySem.W.keepIn X.K (.ref f) = true) (hbd : Binds X.K fd ps []) (hdb : (g == ("__debug__" : Str)) = false)
    (hb : ∀ (B' : Wd) (W' : XW) (pn : List (Addr × Obj)) (xe : Value → Shared → Prop), Takes (X.tr pn xe) (liftX c B' W') → PassesOwn (model X.prog X.w) X.A X.env xe → PSs (X.tr pn xe) body (liftS c B' (bd W'))) :
    PS X (.Try body [.ExceptHandler (some (.Name x np)) (some n) [.Return (some (.Call (.Name g pg) [.Name n pn'] [] pc)) pr] pos'] [] [] pos) (liftS c B (tryR W sub x i sp bd)) := by
  have h1 := ps_try_ret (c := c) (pos := pos) (np := np) (pn' := pn') (pg := pg) (pc := pc) (pr := pr) (pos' := pos') (body := body) (tb := fun W0 D σ H => ∃ B' W', (∀ cls d σ H, liftX c B' W' cls d σ H → W0 cls d σ H) ∧ liftS c B' (bd W') D σ H) hs hf hex hN hi hln hc tk hd hcd G hr hgd hg hm hk hbd hdb
    fun W0 pn xe tk0 hp => ⟨fun pins s σ H D I ⟨B', W', imp, q⟩ => (hb B' W' pn xe (tk0.imp imp) hp).run pins s σ H D I q⟩
  refine h1.sub fun D σ H ⟨F, τ, S, D', l, hr, sr, h, k1, k2, k3, k4⟩ => ?_
  refine ⟨⟨F, S, H⟩, _, fun cls d σ1 H1 ⟨F1, τ1, S1, y, le, hr1, sr1, xr, w⟩ => ?_, F, τ, S, D', Wd.le.refl, hr, sr, h, k1, k2, k3, k4⟩
  obtain ⟨C, tc, rfl, fl⟩ := xr
  dsimp only at w
  refine ⟨sub y.cls x, exm _ _ tc, fun hb => ⟨C, rfl, fun a na => ?_⟩, fun hb => ?_⟩
  · rw [hb] at w
    obtain ⟨hr2, le2⟩ := hr1.newF (o := .exc C d) (u := ExV C d a) na upd_same
    have te : TR c (fupd F1 a (.exc C d)) (.exc y.cls y.fld) (.ref a) := by
      obtain ⟨yc, yf⟩ := y
      cases yf with
      | none =>
        have fl : d = none := fl
        subst fl
        exact .exc0 tc fupd_same
      | some nf =>
        obtain ⟨dd, rfl, e2⟩ := (show ∃ dd, d = some dd ∧ F1 dd = some (.xd nf.1 nf.2) from fl)
        exact .exc1 tc fupd_same (le2 _ _ e2)
    exact ⟨_, S1, _, D'.rt, hr2, .cons te .nil, w, fun v H' o => k2 v H' (o.mono (le.trans (le_newF hr1 na)))⟩
  · rw [hb] at w
    exact ⟨F1, τ1, S1, y, l.trans le, hr1, sr1, ⟨C, tc, rfl, fl⟩, w⟩
end
end TL

set_option Elab.async false
set_option linter.all false
set_option maxRecDepth 100000
set_option maxHeartbeats 2000000
set_option autoImplicit false
/-! TL9S: try: .. except x as n: some statements. -/
namespace TL
open PySem PySem.Spec PyProof.Rows L2
section
variable {c : Ct} {X : Cx} {B : Wd} {F F1 F' : FF} {S S1 S' : SS} {H H1 H' : Hp} {τ : Sg} {σ : St} {a b e : Expr} {es : List Expr} {da db : DE} {dA : DA} {pos p : Pos}
def suX (K : PySem.W.Frag) (cv : Value) (i : Nat) (ts : TS) (Wout : WX) (D : Ends) : WX := fun cls d σ H => ∃ b, PySem.W.exmOne K cls cv = some b ∧
  (b = true → ∃ C, cls = .ref C ∧ ∀ a, H a = none → ts { nx := fun σ' H' => D.nx (σ'.set i none) H', rt := D.rt, bk := fun σ' H' => D.bk (σ'.set i none) H', ct := fun σ' H' => D.ct (σ'.set i none) H' } (σ.set i (some (.ref a))) (upd H a (ExV C d a))) ∧ (b = false → Wout cls d σ H)
theorem ps_try_suite {x n : Str} {cv : Value} {i : Nat} {b0 : Stmt} {body suite : List Stmt} {np pos' : Pos} {tb : WX → TS} {Wout : WX} {ts : TS} (hs : X.stack = X.env :: X.outer) (hf : X.env.frame = some X.env.locals) (hex : X.ex = []) (hN : X.N.Nodup) (hi : X.N[i]? = some n) (hln : X.env.kindOf n = some .local)
    (hc : Names X x cv) (tk : Takes X Wout) (hd : (n == ("__debug__" : Str)) = false) (hcd : (n == ("__classdict__" : Str)) = false)
    (hsu : ∀ (a : Addr) (pn : List (Addr × Obj)), PSs (X.suite a pn) (b0 :: suite) ts)
    (hb : ∀ (W : WX) (pn : List (Addr × Obj)) (xe : Value → Shared → Prop), Takes (X.tr pn xe) W → PassesOwn (model X.prog X.w) X.A X.env xe → PSs (X.tr pn xe) body (tb W)) :
    PS X (.Try body [.ExceptHandler (some (.Name x np)) (some n) (b0 :: suite) pos'] [] [] pos) (fun D σ H => tb (suX X.K cv i ts Wout D) D σ H) := by
  refine ⟨fun pins s σ H D I h => ?_⟩
  have ok := I.ok
  have hfr : X.A.frames = some (X.env :: X.outer) := by rw [ok.frames, hs]
  have hloc : Loc X.env.scope n := .inl hln
  have hil : i < X.N.length := (List.getElem?_eq_some_iff.mp hi).1
  refine wpAny_Try_except ?_
  refine wpAny_mono ((hb (suX X.K cv i ts Wout D) (X.pn ++ pins) (fun e s₁ => wpAny (model X.prog X.w) X.A (noteFrame e X.env) (fun _ s₂ => wpAny (model X.prog X.w) X.A (setFlight e none) (fun _ s₃ =>
    wpAny (model X.prog X.w) X.A (handleBy e X.env [.ExceptHandler (some (.Name x np)) (some n) (b0 :: suite) pos']) (SP X pins D) X.xe s₃) X.xe s₂) X.xe s₁) (fun u s' xx => ?_) PassesOwn.looking).run [] s σ H D (I.toTry _) h) (fun f s1 hsp => ?_) (fun e s1 he => he)
  · obtain ⟨a, B, sI, pins', σ', H', cls, d, rfl, J', nb, up, sky, na, os, ag, b, hb1, hyes, hno⟩ := xx
    have J : Inv X pins σ' H' sI := J'.ofTry ok
    have sky' : Sky B (X.env :: X.outer) a (Zc cls d) X.env.locals s'.heap := by rw [← hs]; exact sky
    show wpAny (model X.prog X.w) X.A (noteFrame (.ref a) X.env) _ _ _
    refine Sky.land Zc.steady hfr hf sky' fun h3 fl3 up3 => ?_
    have J3 : Inv X pins σ' H' { s' with heap := h3 } := J.landed nb fl3.1 (up.trans up3) os ag
    obtain ⟨oe3, vs3, he3, hz3, hd3⟩ := fl3.there
    have Ba : B.get? a = none := fl3.2.1
    have notFr : ∀ {h : Heap} {o : Obj} {vs : Array Value}, h.FunFrames B (X.env :: X.outer) → h.get? a = some o → o.data = .fields vs → a ∉ frs (X.env :: X.outer) := fun {h o vs} ff e dd hm => by
      obtain ⟨_, o', e', hnf⟩ := ff.mem hm
      rw [e] at e'; cases e'
      exact hnf _ dd
    have nfr := notFr fl3.2.2.1 he3 hd3
    have nL : a ≠ X.env.locals := fun z => nfr (List.mem_filterMap.mpr ⟨X.env, List.mem_cons_self, by rw [hf, z]⟩)
    have nF : a ∉ X.fs := fun hm => by
      obtain ⟨e, he, q⟩ := List.mem_filterMap.mp hm
      exact nfr (List.mem_filterMap.mpr ⟨e, List.mem_cons_of_mem _ he, q⟩)
    have sIn : sI.heap.get? a = none := by
      cases e : sI.heap.get? a with
      | none => rfl
      | some o =>
        have := nb a o e (by rw [hs]; exact nfr)
        rw [Ba] at this; cases this
    have s0n : X.s_0.heap.get? a = none := by
      cases e : X.s_0.heap.get? a with
      | none => rfl
      | some o =>
        obtain ⟨o', e'⟩ := J.base.there a o e (by rw [hex]; simp)
        rw [sIn] at e'; cases e'
    have npin : ∀ p ∈ X.pn ++ pins, p.1 ≠ a := fun p hp z => by
      have := (J.pin p hp).1
      rw [z, sIn] at this; cases this
    have S3 := J3.suite he3 hd3 na nL nF
    refine wpAny_handleBy_cons (codeAny_handlers_test ?_) (by intro q; cases q)
    have LT : PySem.W.Looks (model X.prog X.w) h3 (typeOf (.ref a)) cls := fun A Q E s k q => wpAny_typeOf_ref (k _ _ he3) (by rw [hz3.1]; exact q)
    have LM := PySem.W.exm_one (M := model X.prog X.w) (J3.kIn) LT hb1
    have test : ∀ {Q : Value → Shared → Prop} {E : Value → Shared → Prop}, Q cv { s' with heap := h3 } → wpAny (model X.prog X.w) (X.A.mark (some (.ref a))) (eval (.Name x np) X.env) Q E { s' with heap := h3 } := fun {Q E} q => by
      obtain ⟨hg, hdbg, hm | ⟨hm, hv, hnn⟩⟩ := hc
      · exact ld_glob (X := X.suite a ((a, oe3) :: (X.pn ++ pins))) S3 hg hm q hdbg
      · exact ld_blt (X := X.suite a ((a, oe3) :: (X.pn ++ pins))) S3 hg hm hv q hnn hdbg
    refine test (LM.here ?_)
    cases b with
    | true =>
      refine codeAny_handlers_suite_as ?_
      refine HandSPX.lands_againZ fl3 fun h4 fl4 up4 => ?_
      have J4 : Inv X pins σ' H' { s' with heap := h4 } := J.landed nb fl4.1 ((up.trans up3).trans up4) os ag
      obtain ⟨oe4, vs4, he4, hz4, hd4⟩ := fl4.there
      have S4 := J4.suite he4 hd4 na nL nF
      refine store_ok (X := X.suite a ((a, oe4) :: (X.pn ++ pins))) (v := .ref a) S4 hN hi hloc rfl (fun s5 S5 => ?_) (.inr hln)
      have lenσ : i < σ'.length := by rw [J.len]; exact hil
      have pa5 := S5.pin (a, oe4) (List.mem_append_left _ List.mem_cons_self)
      have J5 : Inv (X.suite a (X.pn ++ pins)) [] (σ'.set i (some (.ref a))) H' s5 :=
        ⟨ok.suite _ _, S5.os, S5.bare, S5.base, S5.loc, S5.cell, S5.free, S5.freeC, fun p hp => S5.pin p (List.mem_append_left _ (List.mem_cons_of_mem _ (by rw [List.append_nil] at hp; exact hp))), S5.hok, S5.len⟩
      obtain ⟨C, rfl, hcall⟩ := hyes rfl
      have new : ObjOk X.prog X.w (upd H' a (ExV C d a)) s5.heap a (ExV C d a) := ⟨⟨oe4, vs4, pa5.1, hz4, hd4⟩, ⟨_, pa5.1⟩, fun h1 h2 ⟨o, vs, e1, e2, e3⟩ k => ⟨o, vs, k _ e1, e2, e3⟩⟩
      have J6 : Inv (X.suite a (X.pn ++ pins)) [] (σ'.set i (some (.ref a))) (upd H' a (ExV C d a)) s5 :=
        adopt J5 na s0n nL pa5.1 pa5.2.2.2.2 (fun p hp => npin p (by rw [List.append_nil] at hp; exact hp)) new
      refine wpAny_mono ((hsu a (X.pn ++ pins)).run [] s5 _ _ { nx := fun σ' H' => D.nx (σ'.set i none) H', rt := D.rt, bk := fun σ' H' => D.bk (σ'.set i none) H', ct := fun σ' H' => D.ct (σ'.set i none) H' } J6 (hcall a na)) (fun f s6 hsp => ?_) (fun _ _ z => False.elim z)
      have back : ∀ {σ6 : St} {H6 : Hp}, Inv (X.suite a (X.pn ++ pins)) [] σ6 H6 s6 → Inv X pins σ6 H6 s6 := fun S6 => ⟨ok, S6.os, S6.bare, S6.base, S6.loc, S6.cell, S6.free, S6.freeC, fun p hp => S6.pin p (by rw [List.append_nil]; exact hp), S6.hok, S6.len⟩
      cases f with
      | next =>
        obtain ⟨σ6, H6, S6, q6⟩ := hsp
        exact gone_ok (back S6) hN hi hln fun s7 J8 => ⟨_, _, J8, q6⟩
      | brk =>
        obtain ⟨σ6, H6, S6, q6⟩ := hsp
        exact gone_ok (back S6) hN hi hln fun s7 J8 => ⟨_, _, J8, q6⟩
      | cont =>
        obtain ⟨σ6, H6, S6, q6⟩ := hsp
        exact gone_ok (back S6) hN hi hln fun s7 J8 => ⟨_, _, J8, q6⟩
      | ret u =>
        obtain ⟨v6, σ6, H6, S6, r6, q6⟩ := hsp
        exact gone_ok (back S6) hN hi hln fun s7 J8 => ⟨v6, _, _, J8, r6, q6⟩
    | false =>
      show wpAny _ X.A (handleBy (.ref a) X.env []) _ _ _
      refine wpAny_handleBy_nil ?_
      obtain ⟨k1, k2, k3, oe, vs, T, oT, ts', he, hz, hd, h1, hr⟩ := id fl3
      unfold PySem.passOn
      refine wpAny_bind (wpAny_field he hd h1 ?_)
      rw [if_neg (show ¬ ((Value.ref T == Value.none) = true) from by simp)]
      have fin : wpAny (model X.prog X.w) X.A (setFlight (.ref a) X.env.frame) (fun _ s4 => wpAny (model X.prog X.w) X.A (throw (.ref a) : Sem Flow) (SP X pins D) X.xe s4) X.xe { s' with heap := h3 } := by
        rw [hf]
        refine HandSPX.setFlight_upZ fl3 fun h4 hh4 up4 => wpAny_throw (tk _ _ ?_)
        exact ⟨a, B, sI, pins, σ', H', cls, d, rfl, J, nb, (up.trans up3).trans up4, .inr (.inr (by rw [hs]; exact hh4)), na, os, ag, hno rfl⟩
      first
        | exact wpAny_bind (wpAny_pure (wpAny_bind fin))
        | exact wpAny_bind fin
  · cases f with
    | next =>
      obtain ⟨σ', H', J', q⟩ := hsp
      exact wpAny_execs_nil ⟨σ', H', J'.ofTry ok, q⟩
    | brk =>
      obtain ⟨σ', H', J', q⟩ := hsp
      exact ⟨σ', H', J'.ofTry ok, q⟩
    | cont =>
      obtain ⟨σ', H', J', q⟩ := hsp
      exact ⟨σ', H', J'.ofTry ok, q⟩
    | ret u =>
      obtain ⟨v, σ', H', J', r, q⟩ := hsp
      exact ⟨v, σ', H', J'.ofTry ok, r, q⟩


def tryS (W : XW) (sub : Str → Str → Bool) (cn : Str) (i : Nat) (bd : XW → DS) (hd : DS) : DS := fun D τ S => bd (fun x τ1 S1 => match sub x.cls cn with
  | true => hd { nx := fun τ' S' => D.nx (τ'.set i none) S', rt := D.rt, bk := fun τ' S' => D.bk (τ'.set i none) S', ct := fun τ' S' => D.ct (τ'.set i none) S' } (τ1.set i (some (.exc x.cls x.fld))) S1
  | false => W x τ1 S1) D τ S
theorem l_tryS {x n : Str} {Cn : Addr} {i : Nat} {b0 : Stmt} {body suite : List Stmt} {np pos' : Pos} {bd : XW → DS} {hd0 : DS} {W : XW} {sub : Str → Str → Bool} (hs : X.stack = X.env :: X.outer) (hf : X.env.frame = some X.env.locals) (hex : X.ex = []) (hN : X.N.Nodup) (hi : X.N[i]? = some n) (hln : X.env.kindOf n = some .local)
    (hc : Names X x (.ref Cn)) (tk : Takes X (liftX c B W)) (hd : (n == ("__debug__" : Str)) = false) (hcd : (n == ("__classdict__" : Str)) = false)
    (exm : ∀ a C, c.tc a = some C → PySem.W.exmOne X.K (.ref C) (.ref Cn) = some (sub a x))
    (hsu : ∀ (a : Addr) (pn : List (Addr × Obj)), PSs (X.suite a pn) (b0 :: suite) (liftS c Wd.bot hd0))
    (hb : ∀ (B' : Wd) (W' : XW) (pn : List (Addr × Obj)) (xe : Value → Shared → Prop), Takes (X.tr pn xe) (liftX c B' W') → PassesOwn (model X.prog X.w) X.A X.env xe → PSs (X.tr pn xe) body (liftS c B' (bd W'))) :
    PS X (.Try body [.ExceptHandler (some (.Name x np)) (some n) (b0 :: suite) pos'] [] [] pos) (liftS c B (tryS W sub x i bd hd0)) := by
  have h1 := ps_try_suite (pos := pos) (np := np) (pos' := pos') (body := body) (tb := fun W0 D σ H => ∃ B' W', (∀ cls d σ H, liftX c B' W' cls d σ H → W0 cls d σ H) ∧ liftS c B' (bd W') D σ H) hs hf hex hN hi hln hc tk hd hcd hsu
    fun W0 pn xe tk0 hp => ⟨fun pins s σ H D I ⟨B', W', imp, q⟩ => (hb B' W' pn xe (tk0.imp imp) hp).run pins s σ H D I q⟩
  refine h1.sub fun D σ H ⟨F, τ, S, D', l, hr, sr, h, k1, k2, k3, k4⟩ => ?_
  refine ⟨⟨F, S, H⟩, _, fun cls d σ1 H1 ⟨F1, τ1, S1, y, le, hr1, sr1, xr, w⟩ => ?_, F, τ, S, D', Wd.le.refl, hr, sr, h, k1, k2, k3, k4⟩
  obtain ⟨C, tc, rfl, fl⟩ := xr
  dsimp only at w
  refine ⟨sub y.cls x, exm _ _ tc, fun hb => ⟨C, rfl, fun a na => ?_⟩, fun hb => ?_⟩
  · rw [hb] at w
    obtain ⟨hr2, le2⟩ := hr1.newF (o := .exc C d) (u := ExV C d a) na upd_same
    have te : TR c (fupd F1 a (.exc C d)) (.exc y.cls y.fld) (.ref a) := by
      obtain ⟨yc, yf⟩ := y
      cases yf with
      | none =>
        have fl : d = none := fl
        subst fl
        exact .exc0 tc fupd_same
      | some nf =>
        obtain ⟨dd, rfl, e2⟩ := (show ∃ dd, d = some dd ∧ F1 dd = some (.xd nf.1 nf.2) from fl)
        exact .exc1 tc fupd_same (le2 _ _ e2)
    have lw : Wd.le ⟨F, S, H⟩ ⟨fupd F1 a (.exc C d), S1, upd H1 a (ExV C d a)⟩ := le.trans (le_newF hr1 na)
    refine ⟨_, _, S1, _, Wd.bot_le, hr2, (sr1.mono le2).set i te, w, fun σ' H' ⟨F', τ', S', l', hr', sr', q⟩ => ?_, fun v H' o => k2 v H' (o.mono lw), fun σ' H' ⟨F', τ', S', l', hr', sr', q⟩ => ?_, fun σ' H' ⟨F', τ', S', l', hr', sr', q⟩ => ?_⟩
    · exact k1 _ _ ⟨F', _, S', lw.trans l', hr', sr'.none i, q⟩
    · exact k3 _ _ ⟨F', _, S', lw.trans l', hr', sr'.none i, q⟩
    · exact k4 _ _ ⟨F', _, S', lw.trans l', hr', sr'.none i, q⟩
  · rw [hb] at w
    exact ⟨F1, τ1, S1, y, l.trans le, hr1, sr1, ⟨C, tc, rfl, fl⟩, w⟩
end
end TL

set_option Elab.async false
set_option linter.all false
set_option maxRecDepth 100000
set_option maxHeartbeats 2000000
set_option autoImplicit false
/-! TL9D: a written dict, whole numbers by texts, asked where it is written. -/
namespace TL
open PySem PySem.Spec PyProof.Rows L2
section
variable {c : Ct} {X : Cx} {B : Wd} {F F1 F' : FF} {S S1 S' : SS} {H H1 H' : Hp} {τ : Sg} {σ : St} {pos p : Pos}
def dispK : List (Option Expr) → List Expr → Option (List (Str × Int))
  | [], [] => some []
  | some (.Constant (.str k) _ _) :: ks, .Constant (.int n) _ _ :: vs => (match dispK ks vs with
    | some r => some ((k, n) :: r)
    | none => none)
  | _, _ => none
def kvK (kvs : List (Str × Int)) : List (Key × V) := kvs.map fun kv => (.inr kv.1, .int kv.2)
def dgD (kvs : List (Str × Int)) (d : DE) : DE := fun τ S Q => d τ S fun t S1 => ∃ k n, t = .str k ∧ valV (mergeK [] (kvK kvs)) (.inr k) = some (.int n) ∧ Q (.int n) S1
def trK (kvs : List (Str × Int)) : List (TE × TE) := kvs.map fun kv => (tC (.str kv.1), tC (.int kv.2))
theorem dispK_ok : ∀ {ks : List (Option Expr)} {vs : List Expr} {kvs : List (Str × Int)}, dispK ks vs = some kvs → PPs X pos ks vs (trK kvs) ∧ ks.all (·.isSome) = true ∧ ks.length = vs.length ∧ kvs.length = ks.length
  | ks, vs, kvs, h => by
    unfold dispK at h
    split at h
    · cases h
      exact ⟨pps_nil, rfl, rfl, rfl⟩
    · rename_i k _ _ ks' n _ _ vs'
      split at h
      · rename_i r e
        cases h
        obtain ⟨h1, h2, h3, h4⟩ := dispK_ok e
        refine ⟨pps_cons pe_str pe_int h1, ?_, by simp [h3], by simp [h4]⟩
        simpa using h2
      · cases h
    · cases h
  termination_by ks => ks.length
theorem tPairs_K : ∀ (kvs : List (Str × Int)) (Q : List (V × V) → Hp → Prop), Q ((kvK kvs).map fun kv => (kV kv.1, kv.2)) H → tPairs (trK kvs) σ H Q
  | [], Q, h => h
  | kv :: kvs, Q, h => tPairs_K kvs (fun ps H3 => Q ((.str kv.1, .int kv.2) :: ps) H3) h
theorem l_dget (hu : X.A.units + 1 < cLine) {ks : List (Option Expr)} {vs : List Expr} {kvs : List (Str × Int)} {i : Expr} {d : DE} (e : dispK ks vs = some kvs) (h0 : kvs ≠ []) (h15 : kvs.length ≤ 15) (hs : NoSl i) (hi : PE X i (lift c B d)) : PE X (.Subscript (.Dict ks vs p) i pos) (lift c B (dgD kvs d)) := by
  obtain ⟨h1, h2, h3, h4⟩ := dispK_ok (X := X) (pos := p) e
  have k0 : ks ≠ [] := fun z => h0 (List.eq_nil_of_length_eq_zero (by rw [h4, z]; rfl))
  refine (pe_dget hu (pe_disp h1 h2 h3 k0 (by omega)) hi hs).sub fun σ H Q ⟨F, τ, S, P, l, hr, sr, h, q⟩ => fun a ha => ?_
  refine tPairs_K kvs _ ⟨upd_same, kvK kvs, rfl, by unfold kvK; rw [List.length_map]; exact h15, ?_⟩
  have na : ∀ b u, H b = some u → upd (upd H a (.dK [])) a (.dK (mergeK [] (kvK kvs))) b = some u := fun b u eb => by
    rw [upd_ne (ne_of_none eb ha), upd_ne (ne_of_none eb ha)]; exact eb
  have hr1 := hr.grow na
  have fa := hr.fnone ha
  have sa := hr.snone ha
  have le1 : Wd.le ⟨F, S, H⟩ ⟨F, S, upd (upd H a (.dK [])) a (.dK (mergeK [] (kvK kvs)))⟩ := ⟨FF.le.refl, fun b u e1 e2 e3 => ⟨na b u e1, e2, e3⟩⟩
  refine ⟨F, τ, S, fun t S1 => ∃ k n, t = .str k ∧ valV (mergeK [] (kvK kvs)) (.inr k) = some (.int n) ∧ P (.int n) S1, l.trans le1, hr1, sr, h, fun y H2 ⟨F', t, S', le2, hr2, tr2, k, n, et, ev, hp⟩ => ?_⟩
  subst et
  have hA := (le2.out a _ upd_same fa sa).1
  have hA : H2 a = some (.dK (mergeK [] (kvK kvs))) := hA
  cases tr2
  refine ⟨a, .int n, rfl, ?_, q _ _ ⟨F', .int n, S', le1.trans le2, hr2, .int n, hp⟩⟩
  have := DGet.k (k := .inr k) hA
  rw [ev] at this
  exact this
end
end TL

set_option Elab.async false
set_option linter.all false
set_option maxRecDepth 100000
set_option maxHeartbeats 2000000
set_option autoImplicit false
/-! TL9X: exceptions whose own __init__ keeps a field: made in a raise, the field read; except X: without a name. -/
namespace L2
open PySem PySem.Spec PyProof.Rows
section
variable {X : Cx} {e : Expr} {es : List Expr} {ta : TA} {te : TE} {p1 p2 pos : Pos} {x n : Str} {C0 : Addr}
theorem pe_oveinit {pl : Sem Bool} (hg : Gl X x) (hm : X.mg x = some (.ref C0)) (hdb : (x == ("__debug__" : Str)) = false) (sp : PySem.W.specialIn X.K (.ref C0) "__getattribute__" = some (some (.builtin "type.__getattribute__"))) (rd : PySem.W.readsIn X.K C0 (.type "type") = true)
    (vV : PySem.W.findCls X.K (.ref C0) (.type "type") "__init__" = some (.val (.builtin "ValueError.__init__"))) (ha : PA X (e :: es) ta)
    (hc : eval (.Call (.Attribute (.Name x p1) "__init__" p2) (e :: es) [] pos) X.env = (do
      let ov ← eval (.Name x p1) X.env
      standAt p2.atName
      let (f, first) ← holding [ov] (getMethod ov "__init__" pl)
      callWith pos f first (backTo pos (starEach (e :: es) X.env)) (backToKw pos (keywordEach [] X.env))) := by rfl)
    (he : starEach (e :: es) X.env = (false, eval e X.env) :: starEach es X.env := by rfl) (hpl : (backTo pos (starEach es X.env)).any (·.1) = false := by rfl) :
    PE X (.Call (.Attribute (.Name x p1) "__init__" p2) (e :: es) [] pos) (tVeI X.K ta) := by
  refine ⟨fun pins s σ H Q I h => ?_⟩
  refine PySem.W.methodCall_KW (ld_glob I hg hm ?_ hdb) hc
  refine PySem.W.method_cls I.kIn sp (PySem.W.cls_value I.kIn rd vV (by decide +kernel) ?_)
  show wpAny _ _ (callWith pos (Value.builtin "ValueError.__init__") [] (backTo pos (starEach (e :: es) X.env)) []) _ _ _
  refine PyProof.Rows.callWith_method1 (thn (ha.run pos pins _ σ H _ (I.tok _) h) fun us s1 ⟨vs, H1, I1, r1, a, C, ws, ev, hl, T, ea, q⟩ => ?_) he hpl
  subst ev
  cases r1 with
  | @cons _ u0 _ ur ra rw' =>
    obtain rfl : u0 = Value.ref a := ra
    have hlen : ur.length ≤ sizeLine := by
      rw [← Paired.length rw', sizeLine_eq]
      omega
    exact oinit_ok T I1 ea hlen fun s' J => ⟨.non, H1, J, rfl, q⟩
/-- what such an __init__ does -/
def spIn (C : Addr) (f : Str) : Sp := fun vs H Q _ => ∃ (a : Addr) (v : V), vs = [.ref a, v] ∧ H a = some (exo a C none) ∧ ∀ dx, H dx = none → dx ≠ a → Q .non (upd (upd H dx (exd dx [(f, v)])) a (exo a C (some dx)))
theorem init_ok {CX : CXT} {P : Program} {w : World} {K : PySem.W.Frag} {mg : Str → Option Value} {base : Heap} {k : Nat} {C fI : Addr} {y f qual m : Str} {params : Arguments} {body : List Stmt} {scope : Scope} {fd : FuncData} {q1 q2 q3 q4 q5 q6 q7 q8 q9 q10 : Pos} {j : Nat}
    (F : FunD K "__init__" qual params body scope [] [] fI fd) (SC : FnScope ["self", y] ["self", y] scope)
    (hb : body = [.Expr (.Call (.Attribute (.Name "BrineError" q1) "__init__" q2) [.Name "self" q3, .Constant (.str m) j q4] [] q5) q6, .Assign [.Attribute (.Name "self" q7) f q8] (.Name y q9) q10])
    (hc : ∀ env : Env, eval (.Call (.Attribute (.Name "BrineError" q1) "__init__" q2) [.Name "self" q3, .Constant (.str m) j q4] [] q5) env = (do
      let ov ← eval (.Name "BrineError" q1) env
      standAt q2.atName
      let (f, first) ← holding [ov] (getMethod ov "__init__" (do return (← importBound (.Name "BrineError" q1) env).getD true))
      callWith q5 f first (backTo q5 (starEach [.Name "self" q3, .Constant (.str m) j q4] env)) (backToKw q5 (keywordEach [] env))))
    (h0 : scope.names.lookup ("BrineError" : Str) = some .globalImplicit) (hs : scope.names.lookup ("self" : Str) = some .local) (hy : scope.names.lookup y = some .local) (dby : (y == ("__debug__" : Str)) = false) (dcy : (y == ("__classdict__" : Str)) = false)
    (T : OexC K C) (hno : PySem.W.findIn K (.ref C) f = some none) (hm : mg "BrineError" = some (.ref C0)) (sp : PySem.W.specialIn K (.ref C0) "__getattribute__" = some (some (.builtin "type.__getattribute__"))) (rd : PySem.W.readsIn K C0 (.type "type") = true)
    (vV : PySem.W.findCls K (.ref C0) (.type "type") "__init__" = some (.val (.builtin "ValueError.__init__"))) : FnOk P w K mg base CX (k + 1) fI fd ["self", y] (spIn C f) := by
  subst hb
  refine F.ok SC (fun vs H Q E ⟨a, v, e, _⟩ => by rw [e]; rfl) fun cdv A outer s H vs Q E hr hsp => ?_
  obtain ⟨a, v, rfl, ha, hq⟩ := hsp
  refine ⟨_, pss_cons (ps_expr (pe_oveinit h0 hm (by decide) sp rd vV (pa_cons (pe_var (i := 0) rfl (.inl hs)) (pa_cons pe_str pa_nil)) (hc _))) (pss_one (ps_ost (pe_var (i := 0) rfl (.inl hs)) (pe_var (i := 1) rfl (.inl hy) dby dcy))), ?_⟩
  refine ⟨.ref a, rfl, ?_⟩
  refine ⟨a, C, [.str m], rfl, by simp, T, ha, ?_⟩
  refine ⟨v, rfl, .ref a, rfl, a, C, rfl, T, hno, .inl ⟨ha, fun dx hdx dne => hq dx hdx dne⟩⟩
/-- the field of an exception that is held -/
theorem pe_xfV (he : PE X e te) (hb : attributeBase e n X.env (eval e X.env) = eval e X.env := by rfl) :
    PE X (.Attribute e n pos) (fun σ H Q => te σ H fun x H1 => ∃ (a C dd : Addr) (fs : List (Str × V)) (v : V), x = .ref a ∧ XfC X.K C ∧ PySem.W.findIn X.K (.ref C) n = some none ∧ H1 a = some (TL.ExV C (some dd) a) ∧ H1 dd = some (.xd fs) ∧ fs.lookup n = some v ∧ Q v H1) := by
  refine ⟨fun pins s σ H Q I h => ?_⟩
  refine attr_of hb (thn (he.run pins s σ H _ I h) fun u s1 hh => ?_)
  obtain ⟨x, H1, I1, rx, a, C, dd, fs, v, ex, T, hno, e1, ea, l, q⟩ := hh
  subst ex
  obtain rfl : u = Value.ref a := rx
  obtain ⟨⟨oe, vs, ho1, hz, hd⟩, _, _⟩ := I1.hok a _ e1
  have hx : ObjOk X.prog X.w H1 s1.heap dd (.xd fs) := I1.hok dd _ ea
  obtain ⟨mA, hns, hr⟩ := hx
  obtain ⟨od, ho, hl⟩ := lookIn_ns hns
  obtain ⟨u, hu, ru⟩ := RelO.some_of (v := v) (o := mA n) (by rw [← l]; exact hr n)
  have J : PySem.W.InstAt s1.heap a oe C (some od) := ⟨ho1, hz.1, by unfold PySem.W.notCls; rw [hd] <;> rfl, by rw [hz.2]; exact ho⟩
  exact HandSPX.exc_get I1.kIn J T.ga T.gg T.exC (PySem.W.findObj_own T.hdC hno rfl (by rw [hl, hu])) (handed_of ru) ⟨v, H1, I1.tok _, ru, q⟩
end
/-- the checks of a class with its own __init__ -/
def oexB (K : PySem.W.Frag) (C : Addr) : Bool := (match K.lookup C with
  | some ⟨.type "type", _, .cls cd, sl⟩ => (match cd.mro, sl.toList with
    | .ref C' :: bm, [_, _, _, _, some (.builtin n), _] => C' == C && n == "ValueError.__new__" && !cd.hasDel && cd.hasDict && PySem.HandSPX.refsVE bm
    | _, _ => false)
  | _ => false) && (decide (PySem.W.findIn K (.ref C) "__setattr__" = some (some (.builtin "object.__setattr__"))) && (decide (PySem.W.subIn K (.ref C) (.type "BaseException") = some true) && (decide (PySem.W.typeIn K (.ref C) = some (.type "type")) && PySem.W.keepIn K (.ref C))))
theorem oexB_ok {K : PySem.W.Frag} {C : Addr} (h : oexB K C = true) : OexC K C := by
  unfold oexB at h
  rw [Bool.and_eq_true, Bool.and_eq_true, Bool.and_eq_true, Bool.and_eq_true] at h
  obtain ⟨q, h1, h2, h3, h4⟩ := h
  refine ⟨?_, of_decide_eq_true h1, of_decide_eq_true h2, of_decide_eq_true h3, h4⟩
  split at q
  · rename_i dd cd sl ho
    split at q
    · rename_i C' bm k0 k1 k2 k3 n k5 hm hs
      simp only [Bool.and_eq_true, beq_iff_eq, Bool.not_eq_true'] at q
      obtain ⟨⟨⟨⟨rfl, rfl⟩, hdel⟩, hdc⟩, ht⟩ := q
      obtain ⟨nm, bs, mro, ns, qn, hd, sn, sub, ab, col, del⟩ := cd
      dsimp only at hm hdel hdc
      subst hm hdel hdc
      have hsl : sl = #[k0, k1, k2, k3, some (.builtin "ValueError.__new__"), k5] := by
        obtain ⟨l⟩ := sl
        simp only at hs
        rw [hs]
      subst hsl
      exact ⟨nm, qn, ns, bs, bm, sn, sub, ab, col, dd, k0, k1, k2, k3, k5, ho, ht⟩
    · cases q
  · cases q
end L2
namespace TL
open PySem PySem.Spec PyProof.Rows L2
/-- the class x's own __init__ keeps f -/
structure OinOk (c : Ct) (X : Cx) (x f : Str) : Prop where
  ex : ∃ (C fI : Addr) (k : Nat) (fd : FuncData) (ps : List Str), c.tc x = some C ∧ X.mg x = some (.ref C) ∧ OexC X.K C ∧ PySem.W.findIn X.K (.ref C) "__init__" = some (some (.ref fI)) ∧ PySem.W.typeIn X.K (.ref fI) = some (.type "function") ∧ FnOk X.prog X.w X.K X.mg X.base CX0 k fI fd ps (spIn C f) ∧ Room (k + 1) X.A ∧ Binds X.K fd ps []
/-- its field may be read -/
structure OfdOk (c : Ct) (x f : Str) : Prop where
  ex : ∀ C, c.tc x = some C → XfC c.K C ∧ PySem.W.findIn c.K (.ref C) f = some none
def raiseO (W : XW) (x f : Str) (d : DE) : DS := fun _ τ S => d τ S fun t S1 => match t with
  | .int i => W ⟨x, some (f, i)⟩ τ S1
  | _ => False
def xfD (oin : List (Str × Str)) (f : Str) (d : DE) : DE := fun τ S Q => d τ S fun t S1 => match t with
  | .exc m (some (g, i)) => (g = f ∧ (m, f) ∈ oin) ∧ Q (.int i) S1
  | _ => False
section
variable {c : Ct} {X : Cx} {B : Wd} {F F1 F' : FF} {S S1 S' : SS} {H H1 H' : Hp} {τ : Sg} {σ : St} {a b e : Expr} {es : List Expr} {da db : DE} {dA : DA} {pos p : Pos}
theorem l_raiseO {x f : Str} {W : XW} {p2 : Pos} (hc : X.calm = true) (tk : Takes X (liftX c B W)) (ro : OinOk c X x f) (hg : Gl X x) (hdb : (x == ("__debug__" : Str)) = false) (he : PE X e (lift c B da)) (hs : isStar e = false) :
    PS X (.Raise (some (.Call (.Name x p) [e] [] p2)) none pos) (liftS c B (raiseO W x f da)) := by
  obtain ⟨C, fI, k, fd, ps, tc, hm, T, iC, tI, F1, hr, hb⟩ := ro.ex
  refine (ps_raise hc tk (pmk_oex T iC tI F1 hr hb .nil pass0 hg hm (pa_cons he pa_nil (star_cons hs)) hdb (star_cons hs))).sub fun D σ H ⟨F, τ, S, D', l, hr, sr, h, k1, k2, k3, k4⟩ => ?_
  refine inE l hr sr h fun v H1 ⟨F1, t1, S1, l1, hr1, tr1, q1⟩ => ?_
  dsimp only at q1
  cases t1 with
  | int i =>
    obtain rfl := tr1.intI
    refine ⟨by simp, fun a na => ⟨a, .int i, rfl, upd_same, fun dx hdx dne => ⟨rfl, dx, [(f, .int i)], upd_same, ?_, ?_, ?_⟩⟩⟩
    · rw [upd_ne dne, upd_same]
    · rw [upd_ne dne] at hdx; exact hdx
    · rw [upd_ne dne] at hdx
      have e1 : upd (del (upd (upd (upd H1 a (exo a C none)) dx (exd dx [(f, .int i)])) a (exo a C (some dx))) a) dx (.xd [(f, .int i)]) = upd H1 dx (.xd [(f, V.int i)]) := by
        funext b
        by_cases h1 : b = dx
        · subst h1; rw [upd_same, upd_same]
        · rw [upd_ne h1, upd_ne h1]
          by_cases h2 : b = a
          · subst h2; rw [del_same, na]
          · rw [del_ne h2, upd_ne h2, upd_ne h1, upd_ne h2]
      rw [e1]
      obtain ⟨hr2, le2⟩ := hr1.newF (o := .xd f i) (u := .xd [(f, .int i)]) hdx upd_same
      exact ⟨_, τ, S1, ⟨x, some (f, i)⟩, (l.trans l1).trans (le_newF hr1 hdx), hr2, (sr.mono l1.fr).mono le2, ⟨C, tc, rfl, dx, rfl, fupd_same⟩, q1⟩
  | _ => exact q1.elim
theorem l_xf {f : Str} {oin : List (Str × Str)} (sv : Sv c X) (ho : ∀ m, (m, f) ∈ oin → OfdOk c m f) (he : PE X e (lift c B da)) (hb : attributeBase e f X.env (eval e X.env) = eval e X.env := by rfl) : PE X (.Attribute e f pos) (lift c B (xfD oin f da)) := by
  refine (pe_xfV he hb).sub fun σ H Q ⟨F, τ, S, P, l, hr, sr, h, q⟩ => ?_
  refine inE l hr sr h fun v H1 ⟨F1, t, S1, l1, hr1, tr1, z⟩ => ?_
  dsimp only at z
  split at z
  · rename_i m g i
    obtain ⟨⟨rfl, hm⟩, z⟩ := z
    cases tr1 with
    | exc1 tc e1 e2 =>
      rename_i a C d _
      obtain ⟨T, hno⟩ := (ho m hm).ex _ tc
      have r1 := hr1.fr _ _ e1
      have r2 := hr1.fr _ _ e2
      rw [← sv.K] at T hno
      exact ⟨a, C, d, [(g, .int i)], .int i, rfl, T, hno, r1, r2, by simp [List.lookup], q _ _ ⟨F1, _, S1, l1, hr1, .int i, z⟩⟩
  · exact z.elim
/-! ### except X: -/
def tryO (W : XW) (sub : Str → Str → Bool) (cn : Str) (bd : XW → DS) (hd : DS) : DS := fun D τ S => bd (fun x τ1 S1 => match sub x.cls cn with
  | true => hd D τ1 S1
  | false => W x τ1 S1) D τ S
theorem l_tryO {x : Str} {Cn : Addr} {b0 : Stmt} {body suite : List Stmt} {np pos' : Pos} {bd : XW → DS} {hd0 : DS} {W : XW} {sub : Str → Str → Bool} (hs : X.stack = X.env :: X.outer) (hf : X.env.frame = some X.env.locals)
    (hc : Names X x (.ref Cn)) (tk : Takes X (liftX c B W))
    (exm : ∀ a C, c.tc a = some C → PySem.W.exmOne X.K (.ref C) (.ref Cn) = some (sub a x))
    (hsu : ∀ (a : Addr) (pn : List (Addr × Obj)), PSs (X.suite a pn) (b0 :: suite) (liftS c Wd.bot hd0))
    (hb : ∀ (B' : Wd) (W' : XW) (pn : List (Addr × Obj)) (xe : Value → Shared → Prop), Takes (X.tr pn xe) (liftX c B' W') → PassesOwn (model X.prog X.w) X.A X.env xe → PSs (X.tr pn xe) body (liftS c B' (bd W'))) :
    PS X (.Try body [.ExceptHandler (some (.Name x np)) none (b0 :: suite) pos'] [] [] pos) (liftS c B (tryO W sub x bd hd0)) := by
  have h1 := ps_try_only (pos := pos) (np := np) (pos' := pos') (body := body) (ts := fun _ _ _ => liftS c Wd.bot hd0) (tb := fun W0 D σ H => ∃ B' W', (∀ cls d σ H, liftX c B' W' cls d σ H → W0 cls d σ H) ∧ liftS c B' (bd W') D σ H) hs hf hc tk
    (fun W0 pn xe tk0 hp => ⟨fun pins s σ H D I ⟨B', W', imp, q⟩ => (hb B' W' pn xe (tk0.imp imp) hp).run pins s σ H D I q⟩) (fun a oe cls d pn _ _ => hsu a _)
  refine h1.sub fun D σ H ⟨F, τ, S, D', l, hr, sr, h, k1, k2, k3, k4⟩ => ?_
  refine ⟨⟨F, S, H⟩, _, fun cls d σ1 H1 ⟨F1, τ1, S1, y, le, hr1, sr1, xr, w⟩ => ?_, F, τ, S, D', Wd.le.refl, hr, sr, h, k1, k2, k3, k4⟩
  obtain ⟨C, tc, rfl, fl⟩ := xr
  dsimp only at w
  refine ⟨sub y.cls x, exm _ _ tc, fun hb a na => ?_, fun hb => ?_⟩
  · rw [hb] at w
    refine ⟨F1, τ1, S1, D', Wd.bot_le, hr1, sr1, w, fun σ' H' ⟨F', τ', S', l', hr', sr', q⟩ => ?_, fun v H' o => k2 v H' (o.mono le), fun σ' H' ⟨F', τ', S', l', hr', sr', q⟩ => ?_, fun σ' H' ⟨F', τ', S', l', hr', sr', q⟩ => ?_⟩
    · exact k1 _ _ ⟨F', _, S', le.trans l', hr', sr', q⟩
    · exact k3 _ _ ⟨F', _, S', le.trans l', hr', sr', q⟩
    · exact k4 _ _ ⟨F', _, S', le.trans l', hr', sr', q⟩
  · rw [hb] at w
    exact ⟨F1, τ1, S1, y, l.trans le, hr1, sr1, ⟨C, tc, rfl, fl⟩, w⟩
end
end TL

set_option Elab.async false
set_option linter.all false
set_option maxRecDepth 100000
set_option maxHeartbeats 4000000
set_option autoImplicit false
/-! TL10: the evaluator over the program's own text, expressions. -/
namespace TL
open PySem PySem.Spec PyProof.Rows L2

structure Dc where
  N : List Str
  sc : Scope
  own : Str → Bool
  fns : List (Str × Nat × TSp)
  sub : Str → Str → Bool
  exs : List Str
  cat : List Str
  cst : Str → Option T
  mu : Pos → Bool
  top : Bool
  cm : Bool
  hot : List (Str × Nat × TSp)
  oin : List (Str × Str)
  ofd : List (Str × Str)
def bltNames : List Str := ["len", "abs", "max", "min", "isinstance", "repr", "int", "str", "tuple", "list", "bool", "dict", "ValueError", "range", "enumerate", "zip", "all", "any", "sum", "sorted", "set"]
def ixOf : List Str → Str → Option Nat
  | [], _ => none
  | y :: ys, x => if y = x then some 0 else (ixOf ys x).map (· + 1)
theorem ixOf_ok : ∀ {N : List Str} {x : Str} {i : Nat}, ixOf N x = some i → N[i]? = some x
  | [], _, _, h => by simp [ixOf] at h
  | y :: ys, x, i, h => by
    unfold ixOf at h
    split at h
    · rename_i e; cases h; simp [e]
    · cases q : ixOf ys x with
      | none => rw [q] at h; cases h
      | some j =>
        rw [q] at h
        simp only [Option.map_some, Option.some.injEq] at h
        subst h
        simpa using ixOf_ok q
def nodbg (x : Str) : Bool := !(x == ("__debug__" : Str)) && !(x == ("__classdict__" : Str))
def slotOf (dc : Dc) (x : Str) : Option Nat := match dc.sc.names.lookup x with
  | some .local => if nodbg x = true then ixOf dc.N x else none
  | some .cell => if nodbg x = true then ixOf dc.N x else none
  | some .free => if nodbg x = true then ixOf dc.N x else none
  | _ => none
def stOf (dc : Dc) (x : Str) : Option Nat := match dc.sc.names.lookup x with
  | some .local => ixOf dc.N x
  | some .cell => if dc.own x = true then ixOf dc.N x else none
  | _ => none
def isGl (dc : Dc) (x : Str) : Bool := (dc.sc.names.lookup x == some .globalImplicit) && !(x == ("__debug__" : Str))

structure Gd (c : Ct) (X : Cx) (dc : Dc) (B : Wd) (W : XW) : Prop where
  sv : Sv c X
  N : X.N = dc.N
  nd : X.N.Nodup
  sc : X.env.scope = dc.sc
  kd : dc.sc.kind = .function
  calm : dc.cm = true → X.calm = true
  gd : X.A.guards = some []
  un : X.A.units + 65 < cLine
  own : ∀ x, dc.own x = true → X.fn x = true
  glo : ∀ x t, dc.cst x = some t → c.glo x = some t
  blt : ∀ x, x ∈ bltNames → X.mg x = none
  fn : ∀ x n sp, dc.fns.lookup x = some (n, sp) → ∃ k f fd ps, FnG c X.prog X.w X.K X.mg X.base k f fd ps sp ∧ ps.length = n ∧ Room k X.A ∧ X.mg x = some (.ref f) ∧ PySem.W.keepIn X.K (.ref f) = true ∧ Binds X.K fd ps []
  hot : ∀ x n sp, dc.hot.lookup x = some (n, sp) → ∃ k f fd ps, FnHt c X.prog X.w X.K X.mg X.base k f fd ps sp ∧ ps.length = n ∧ L2H.RoomH k X.A ∧ X.mg x = some (.ref f) ∧ PySem.W.keepIn X.K (.ref f) = true ∧ Binds X.K fd ps []
  tk : Takes X (liftX c B W)
  isa : IsaOk c.K c.tc dc.sub
  exm : ∀ a C b D, c.tc a = some C → c.tc b = some D → b ∈ dc.cat → PySem.W.exmOne X.K (.ref C) (.ref D) = some (dc.sub a b)
  cats : ∀ x, x ∈ dc.cat → ∃ C, c.tc x = some C ∧ X.mg x = some (.ref C)
  exs : ∀ x, x ∈ dc.exs → ∃ C, c.tc x = some C ∧ RaiseOk X x C
  oin : ∀ x f, dc.oin.lookup x = some f → OinOk c X x f
  ofd : ∀ m f, (m, f) ∈ dc.ofd → OfdOk c m f
  top : dc.top = true → X.stack = X.env :: X.outer ∧ X.env.frame = some X.env.locals ∧ X.ex = [] ∧ PassesOwn (model X.prog X.w) X.A X.env X.xe
section
variable {c : Ct} {X : Cx} {dc : Dc} {B : Wd} {W : XW} {a b e : Expr} {es : List Expr} {da db : DE} {dA : DA} {pos p : Pos} {x : Str}
theorem Gd.gl (G : Gd c X dc B W) (h : isGl dc x = true) : Gl X x ∧ (x == ("__debug__" : Str)) = false := by
  unfold isGl at h
  simp only [Bool.and_eq_true, beq_iff_eq, Bool.not_eq_true'] at h
  exact ⟨by unfold Gl Env.kindOf; rw [G.sc]; exact h.1, h.2⟩
theorem Gd.slot (G : Gd c X dc B W) {i : Nat} (h : slotOf dc x = some i) : X.N[i]? = some x ∧ Vis X.env.scope x ∧ (x == ("__debug__" : Str)) = false ∧ (x == ("__classdict__" : Str)) = false := by
  unfold slotOf nodbg at h
  rw [G.N, G.sc]
  split at h <;> first
    | (rename_i k
       split at h
       · rename_i q
         simp only [Bool.and_eq_true, Bool.not_eq_true'] at q
         exact ⟨ixOf_ok h, by simp [Vis, k], q.1, q.2⟩
       · cases h)
    | cases h
theorem Gd.st (G : Gd c X dc B W) {i : Nat} (h : stOf dc x = some i) : X.N[i]? = some x ∧ L2.Loc X.env.scope x ∧ (X.fn x = true ∨ X.env.scope.names.lookup x = some .local) := by
  unfold stOf at h
  rw [G.N, G.sc]
  split at h
  · rename_i k
    exact ⟨ixOf_ok h, .inl k, .inr k⟩
  · rename_i k
    split at h
    · rename_i q
      exact ⟨ixOf_ok h, .inr k, .inl (G.own x q)⟩
    · cases h
  · cases h

/-! ### the pieces -/
def never : DE := fun _ _ _ => False
def neverT : DT := fun _ _ _ => False
def neverS : DS := fun _ _ _ => False
theorem l_never : PE X e (lift c B never) := ⟨fun _ _ _ _ _ _ ⟨_, _, _, _, _, _, _, h, _⟩ => h.elim⟩
theorem l_neverT : PT X e (liftT c B neverT) := ⟨fun _ _ _ _ _ _ ⟨_, _, _, _, _, _, _, h, _⟩ => h.elim⟩
theorem l_neverS {st : Stmt} : PS X st (liftS c B neverS) := ⟨fun _ _ _ _ _ _ ⟨_, _, _, _, _, _, _, h, _⟩ => h.elim⟩
theorem l_neverSs {st : List Stmt} : PSs X st (liftS c B neverS) := ⟨fun _ _ _ _ _ _ ⟨_, _, _, _, _, _, _, h, _⟩ => h.elim⟩
def tyN (x : Str) : Option String :=
  if x = "int" then some "int" else if x = "bool" then some "bool" else if x = "tuple" then some "tuple" else if x = "str" then some "str" else if x = "list" then some "list" else if x = "dict" then some "dict" else if x = "ValueError" then some "ValueError" else none
theorem tyN_ok {n : String} (h : tyN x = some n) : bootBuiltins x = some (.type n) ∧ x ∈ bltNames ∧ x ≠ "__name__" := by
  unfold tyN at h
  split at h
  · subst_vars; cases h; exact ⟨by decide +kernel, by decide +kernel, by decide +kernel⟩
  split at h
  · subst_vars; cases h; exact ⟨by decide +kernel, by decide +kernel, by decide +kernel⟩
  split at h
  · subst_vars; cases h; exact ⟨by decide +kernel, by decide +kernel, by decide +kernel⟩
  split at h
  · subst_vars; cases h; exact ⟨by decide +kernel, by decide +kernel, by decide +kernel⟩
  split at h
  · subst_vars; cases h; exact ⟨by decide +kernel, by decide +kernel, by decide +kernel⟩
  split at h
  · subst_vars; cases h; exact ⟨by decide +kernel, by decide +kernel, by decide +kernel⟩
  split at h
  · subst_vars; cases h; exact ⟨by decide +kernel, by decide +kernel, by decide +kernel⟩
  cases h
def nmD (dc : Dc) (x : Str) : DE := match slotOf dc x with
  | some i => rdD i
  | none => match isGl dc x with
    | true => (match dc.cst x with
      | some t => cD t
      | none => (match tyN x with
        | some n => cD (.ty n)
        | none => never))
    | false => never
theorem s_name (G : Gd c X dc B W) : PE X (.Name x pos) (lift c B (nmD dc x)) := by
  unfold nmD
  split
  · rename_i i h
    obtain ⟨h1, h2, h3, h4⟩ := G.slot h
    exact l_var h1 h2 h3 h4
  · split
    · rename_i h
      obtain ⟨h1, h2⟩ := G.gl h
      split
      · rename_i t ht
        exact l_glo G.sv h1 h2 (G.glo _ _ ht)
      · split
        · rename_i n hn
          obtain ⟨b1, b2, b3⟩ := tyN_ok hn
          exact l_val (v := .ty n) (pe_bltn h1 (G.blt x b2) b1 rfl b3 h2) fun _ => .ty n
        · exact l_never
    · exact l_never
def cnD : Const → DE
  | .int i => cD (.int i)
  | .str s => cD (.str s)
  | .bool b => cD (.bl b)
  | .none => cD .non
  | _ => never
theorem s_const {k : Const} {j : Nat} : PE X (.Constant k j pos) (lift c B (cnD k)) := by
  cases k with
  | int i => exact l_val pe_int fun _ => .int i
  | str s => exact l_val pe_str fun _ => .str s
  | bool b => exact l_val pe_bl fun _ => .bl b
  | none => exact l_val pe_non fun _ => .non
  | _ => exact l_never
/-- argument lists -/
def neverA : DA := fun _ _ _ => False
def argA (E : Expr → DE) : List Expr → DA
  | [] => nilA
  | e :: es => match isStar e with
    | true => neverA
    | false => consA (E e) (argA E es)
theorem s_args {E : Expr → DE} (h : ∀ e, PE X e (lift c B (E e))) : ∀ es, PA X es (liftA c B (argA E es))
  | [] => l_nilA
  | e :: es => by
    unfold argA
    split
    · exact ⟨fun _ _ _ _ _ _ _ ⟨_, _, _, _, _, _, _, h, _⟩ => h.elim⟩
    · rename_i hs
      exact l_consA (h e) (s_args h es) hs
def andL (E : Expr → DE) : List Expr → DE
  | [] => never
  | [a] => E a
  | a :: b :: r => andE (E a) (andL E (b :: r))
def orL (E : Expr → DE) : List Expr → DE
  | [] => never
  | [a] => E a
  | a :: b :: r => orE (E a) (orL E (b :: r))
theorem s_and {E : Expr → DE} (h : ∀ e, PE X e (lift c B (E e))) : ∀ es, PE X (.BoolOp .And es pos) (lift c B (andL E es))
  | [] => l_never
  | [a] => l_one (h a)
  | a :: b :: r => l_andE (h a) (s_and h (b :: r))
theorem s_or {E : Expr → DE} (h : ∀ e, PE X e (lift c B (E e))) : ∀ es, PE X (.BoolOp .Or es pos) (lift c B (orL E es))
  | [] => l_never
  | [a] => l_one (h a)
  | a :: b :: r => l_orE (h a) (s_or h (b :: r))
def andTL (E : Expr → DT) : List Expr → DT
  | [] => neverT
  | [a] => E a
  | a :: b :: r => andT (E a) (andTL E (b :: r))
def orTL (E : Expr → DT) : List Expr → DT
  | [] => neverT
  | [a] => E a
  | a :: b :: r => orT (E a) (orTL E (b :: r))
theorem s_andT {E : Expr → DT} (h : ∀ e, PT X e (liftT c B (E e))) : ∀ es, PW X (.BoolOp .And es pos) (liftT c B (andTL E es))
  | [] => ⟨fun _ _ _ _ _ _ _ ⟨_, _, _, _, _, _, _, h, _⟩ => h.elim⟩
  | [a] => l_and1 (h a)
  | a :: b :: r => l_and (h a) (s_andT h (b :: r))
theorem s_orT {E : Expr → DT} (h : ∀ e, PT X e (liftT c B (E e))) : ∀ es, PW X (.BoolOp .Or es pos) (liftT c B (orTL E es))
  | [] => ⟨fun _ _ _ _ _ _ _ ⟨_, _, _, _, _, _, _, h, _⟩ => h.elim⟩
  | [a] => l_or1 (h a)
  | a :: b :: r => l_or (h a) (s_orT h (b :: r))
def isSet : Expr → Bool
  | .Set _ _ _ => true
  | _ => false
theorem marks_no {op : CmpOp} {e : Expr} (h : isSet e = false) : behindInMarks op e = false := by
  cases e <;> first | (cases h; done) | rfl
theorem marks_no2 {op op' : CmpOp} {e e' : Expr} (h : isSet e' = false) : lastMarks [op, op'] [e, e'] = false := marks_no h
def cmpD (E : Expr → DE) (a : Expr) : List CmpOp → List Expr → DE
  | [op], [b] => if isSet b = true then never else opD (cmpR op) (E a) (E b)
  | [op, op'], [b, d] => if isSet d = true then never else chD (cmpR op) (cmpR op') (E a) (E b) (E d)
  | _, _ => never
theorem s_cmp (G : Gd c X dc B W) {E : Expr → DE} (h : ∀ e, PE X e (lift c B (E e))) {ops : List CmpOp} : PE X (.Compare a ops es pos) (lift c B (cmpD E a ops es)) := by
  unfold cmpD
  split
  · split
    · exact l_never
    · rename_i hs
      exact l_cmp (ok_cmp G.sv G.un _) (h _) (h _) (marks_no (by simpa using hs))
  · split
    · exact l_never
    · rename_i hs
      exact l_chain (ok_cmp G.sv G.un _) (ok_cmp G.sv G.un _) (h _) (h _) (h _) (marks_no2 (by simpa using hs))
  · exact l_never
theorem s_tcmp (G : Gd c X dc B W) {E : Expr → DE} (h : ∀ e, PE X e (lift c B (E e))) {ops : List CmpOp} : PT X (.Compare a ops es pos) (liftT c B (tstD (cmpD E a ops es))) := by
  unfold cmpD
  split
  · split
    · exact ⟨fun _ _ _ _ _ _ ⟨_, _, _, _, _, _, _, h, _⟩ => h.elim⟩
    · rename_i hs
      exact l_tcmp (ok_cmp G.sv G.un _) (h _) (h _) (marks_no (by simpa using hs))
  · split
    · exact ⟨fun _ _ _ _ _ _ ⟨_, _, _, _, _, _, _, h, _⟩ => h.elim⟩
    · rename_i hs
      exact l_tchain (ok_cmp G.sv G.un _) (ok_cmp G.sv G.un _) (h _) (h _) (h _) (marks_no2 (by simpa using hs))
  · exact ⟨fun _ _ _ _ _ _ ⟨_, _, _, _, _, _, _, h, _⟩ => h.elim⟩
/-- subscripts -/
def neverO : DO := fun _ _ _ => False
def bndO (E : Expr → DE) : Option Expr → DO
  | none => noneO
  | some e => someO (E e)
theorem s_bnd {E : Expr → DE} (h : ∀ e, PE X e (lift c B (E e))) : ∀ o, PO X o (liftO c B (bndO E o))
  | none => l_noneO
  | some e => l_someO (h e)
def revR (mu : Bool) (d : DE) : DE := fun τ S Q => d τ S fun x S1 => match x with
  | .tup l => Q (.tup l.reverse) S1
  | x => (match lsOf S1 x with
    | some l => newL mu l.reverse S1 Q
    | none => False)
theorem l_rev (sv : Sv c X) (mu : Bool) {k : Nat} {p1 p2 p3 : Pos} (he : PE X e (lift c B da)) : PE X (.Subscript e (.Slice none none (some (.UnaryOp .USub (.Constant (.int 1) k p1) p2)) p3) pos) (lift c B (revR mu da)) := by
  refine (pe_revQ he).sub fun σ H Q ⟨F, τ, S, P, l, hr, sr, h, q⟩ => ?_
  refine inE l hr sr h fun v H1 ⟨F1, t1, S1, l1, hr1, tr1, q1⟩ => ?_
  dsimp only at q1
  split at q1
  · obtain ⟨a, vs, rfl, sq, r⟩ := TR.tupI sv hr1 tr1
    exact ⟨a, vs, rfl, .inr ⟨sq, fun p hp => q _ _ ((finT sv hr1 r.reverse q1 p hp).mono l1)⟩⟩
  · split at q1
    · rename_i e1
      obtain ⟨a, vs, rfl, sq, r⟩ := lsOfI sv hr1 tr1 e1
      exact ⟨a, vs, rfl, .inl ⟨sq.sq sv, fun p hp => q _ _ ((finL sv hr1 r.reverse q1 p hp).mono l1)⟩⟩
    · exact q1.elim
def stepD (E : Expr → DE) (mu : Bool) (a : Expr) : Option Expr → Option Expr → Expr → DE
  | none, none, .UnaryOp .USub (.Constant (.int 1) _ _) _ => revR mu (E a)
  | lo, hi, .Constant (.int k) _ _ => if k = 0 then never else stpD mu k (E a) (bndO E lo) (bndO E hi)
  | _, _, _ => never
def ixE (E : Expr → DE) (b : Expr) : Expr → DE
  | .Dict ks vs _ => (match dispK ks vs with
    | some kvs => if (!kvs.isEmpty && Nat.ble kvs.length 15) = true then dgD kvs (E b) else never
    | none => never)
  | a => opD ixR (E a) (E b)
def subD (E : Expr → DE) (mu : Bool) (a : Expr) : Expr → DE
  | .Slice lo hi none _ => slD mu (E a) (bndO E lo) (bndO E hi)
  | .Slice lo hi (some s) _ => stepD E mu a lo hi s
  | b => if plainIx b = true then ixE E b a else never
theorem s_sub (G : Gd c X dc B W) {E : Expr → DE} {mu : Bool} (h : ∀ e, PE X e (lift c B (E e))) : PE X (.Subscript a b pos) (lift c B (subD E mu a b)) := by
  unfold subD
  split
  · exact l_slice G.sv mu (h _) (s_bnd h _) (s_bnd h _)
  · unfold stepD
    split
    · exact l_rev G.sv mu (h _)
    · split
      · exact l_never
      · rename_i k0
        exact l_step G.sv mu k0 (h _) (s_bnd h _) (s_bnd h _)
    · exact l_never
  · split
    · rename_i hp
      unfold ixE
      split
      · split
        · rename_i hk
          split
          · rename_i hb
            simp only [Bool.and_eq_true, Bool.not_eq_true', Nat.ble_eq] at hb
            exact l_dget (by have := G.un; omega) hk (fun z => by rw [z] at hb; simp at hb) hb.2 (fun ov iv => plainIx_of hp ov iv) (h _)
          · exact l_never
        · exact l_never
      · exact l_ix (ok_ix G.sv) (h _) (h _) (plainIx_of hp)
    · exact l_never

/-! ### the field of an exception -/
def attE (dc : Dc) (E : Expr → DE) (f : Str) : Expr → DE
  | .Name x p => xfD dc.ofd f (E (.Name x p))
  | _ => never
theorem s_att (G : Gd c X dc B W) {E : Expr → DE} (h : ∀ e, PE X e (lift c B (E e))) {f : Str} {o : Expr} : PE X (.Attribute o f pos) (lift c B (attE dc E f o)) := by
  unfold attE
  split
  · exact l_xf G.sv (fun m hm => G.ofd m f hm) (h _)
  · exact l_never
/-! ### calls -/
def bltC (dc : Dc) (mu : Bool) (x : Str) : Option (List T → SS → KQ → Prop) :=
  if x = "len" then some lenR else if x = "isinstance" then some (isaR dc.sub) else if x = "max" then (if dc.cm = true then some max2R else none) else if x = "min" then (if dc.cm = true then some min2R else none) else if x = "abs" then some absR
  else if x = "repr" then some reprR else if x = "int" then some intTR else if x = "str" then some strTR else if x = "tuple" then some tupleTR else if x = "list" then some (listTR mu)
  else if x = "all" then (if dc.cm = true then some (allR fun bs => bs.all id) else none) else if x = "any" then (if dc.cm = true then some (allR fun bs => bs.any id) else none) else if x = "sum" then (if dc.cm = true then some sumR else none) else if x = "sorted" then some (sortYR mu) else none
def noStar (es : List Expr) : Bool := es.all fun e => !isStar e
theorem s_blt (G : Gd c X dc B W) {E : Expr → DE} {mu : Bool} (h : ∀ e, PE X e (lift c B (E e))) {r : List T → SS → KQ → Prop} (hg : isGl dc x = true) (hb : bltC dc mu x = some r) (hs : noStar (e :: es) = true) : PE X (.Call (.Name x p) (e :: es) [] pos) (lift c B (callB r (argA E (e :: es)))) := by
  obtain ⟨g1, g2⟩ := G.gl hg
  have ha := s_args h (e :: es)
  unfold bltC at hb
  by_cases q0 : x = "len"
  · rw [if_pos q0] at hb; subst q0; cases hb; exact l_callB (ok_len G.sv) g1 (G.blt _ (by decide +kernel)) (by decide +kernel) ha (by decide +kernel) g2 hs
  rw [if_neg q0] at hb
  by_cases q1 : x = "isinstance"
  · rw [if_pos q1] at hb; subst q1; cases hb; exact l_callB (ok_isa G.sv G.isa) g1 (G.blt _ (by decide +kernel)) (by decide +kernel) ha (by decide +kernel) g2 hs
  rw [if_neg q1] at hb
  by_cases q2 : x = "max"
  · rw [if_pos q2] at hb; subst q2; by_cases hcm : dc.cm = true
    · rw [if_pos hcm] at hb; cases hb; exact l_callB (ok_max2 (G.calm hcm)) g1 (G.blt _ (by decide +kernel)) (by decide +kernel) ha (by decide +kernel) g2 hs
    · rw [if_neg hcm] at hb; cases hb
  rw [if_neg q2] at hb
  by_cases q3 : x = "min"
  · rw [if_pos q3] at hb; subst q3; by_cases hcm : dc.cm = true
    · rw [if_pos hcm] at hb; cases hb; exact l_callB (ok_min2 (G.calm hcm)) g1 (G.blt _ (by decide +kernel)) (by decide +kernel) ha (by decide +kernel) g2 hs
    · rw [if_neg hcm] at hb; cases hb
  rw [if_neg q3] at hb
  by_cases q4 : x = "abs"
  · rw [if_pos q4] at hb; subst q4; cases hb; exact l_callB ok_abs g1 (G.blt _ (by decide +kernel)) (by decide +kernel) ha (by decide +kernel) g2 hs
  rw [if_neg q4] at hb
  by_cases q5 : x = "repr"
  · rw [if_pos q5] at hb; subst q5; cases hb; exact l_callB (ok_repr G.sv G.gd G.un) g1 (G.blt _ (by decide +kernel)) (by decide +kernel) ha (by decide +kernel) g2 hs
  rw [if_neg q5] at hb
  by_cases q6 : x = "int"
  · rw [if_pos q6] at hb; subst q6; cases hb; exact l_callT ok_intT g1 (G.blt _ (by decide +kernel)) (by decide +kernel) ha (by decide +kernel) g2 hs
  rw [if_neg q6] at hb
  by_cases q7 : x = "str"
  · rw [if_pos q7] at hb; subst q7; cases hb; exact l_callT ok_strT g1 (G.blt _ (by decide +kernel)) (by decide +kernel) ha (by decide +kernel) g2 hs
  rw [if_neg q7] at hb
  by_cases q8 : x = "tuple"
  · rw [if_pos q8] at hb; subst q8; cases hb; exact l_callT (ok_tupleT G.sv) g1 (G.blt _ (by decide +kernel)) (by decide +kernel) ha (by decide +kernel) g2 hs
  rw [if_neg q8] at hb
  by_cases q9 : x = "list"
  · rw [if_pos q9] at hb; subst q9; cases hb; exact l_callT (ok_listT G.sv mu) g1 (G.blt _ (by decide +kernel)) (by decide +kernel) ha (by decide +kernel) g2 hs
  rw [if_neg q9] at hb
  by_cases q10 : x = "all"
  · rw [if_pos q10] at hb; subst q10; by_cases hcm : dc.cm = true
    · rw [if_pos hcm] at hb; cases hb; exact l_callB (ok_all G.sv (G.calm hcm)) g1 (G.blt _ (by decide +kernel)) (by decide +kernel) ha (by decide +kernel) g2 hs
    · rw [if_neg hcm] at hb; cases hb
  rw [if_neg q10] at hb
  by_cases q11 : x = "any"
  · rw [if_pos q11] at hb; subst q11; by_cases hcm : dc.cm = true
    · rw [if_pos hcm] at hb; cases hb; exact l_callB (ok_any G.sv (G.calm hcm)) g1 (G.blt _ (by decide +kernel)) (by decide +kernel) ha (by decide +kernel) g2 hs
    · rw [if_neg hcm] at hb; cases hb
  rw [if_neg q11] at hb
  by_cases q12 : x = "sum"
  · rw [if_pos q12] at hb; subst q12; by_cases hcm : dc.cm = true
    · rw [if_pos hcm] at hb; cases hb; exact l_callB (ok_sum G.sv (G.calm hcm)) g1 (G.blt _ (by decide +kernel)) (by decide +kernel) ha (by decide +kernel) g2 hs
    · rw [if_neg hcm] at hb; cases hb
  rw [if_neg q12] at hb
  by_cases q13 : x = "sorted"
  · rw [if_pos q13] at hb; subst q13; cases hb; exact l_callB (ok_sortY G.sv mu) g1 (G.blt _ (by decide +kernel)) (by decide +kernel) ha (by decide +kernel) g2 hs
  rw [if_neg q13] at hb
  cases hb
def cnD2 : List Expr → Bool
  | [] => false
  | _ => true
/-- sorted(set(a)) -/
def setA (x : Str) : List Expr → Option Expr
  | [.Call (.Name y _) [a] [] _] => if x = "sorted" ∧ y = "set" then some a else none
  | _ => none
theorem setA_eq {es : List Expr} {a : Expr} (h : setA x es = some a) : x = "sorted" ∧ ∃ p2 q, es = [.Call (.Name "set" p2) [a] [] q] := by
  unfold setA at h
  split at h
  · split at h
    · rename_i k
      cases h
      obtain ⟨rfl, rfl⟩ := k
      exact ⟨rfl, _, _, rfl⟩
    · cases h
  · cases h
/-- int(word) -/
def intA (x : Str) : List Expr → Bool
  | [.Name y _] => decide (x = "int") && decide (y = "word")
  | _ => false
def callN (dc : Dc) (W : XW) (E : Expr → DE) (mu : Bool) (x : Str) (es : List Expr) : DE :=
  if (isGl dc x && noStar es) = true then
    match dc.fns.lookup x with
    | some (n, sp) => callF sp W (argA E es)
    | none => (match setA x es with
      | some a => if (isGl dc "set" && noStar [a] && dc.cm) = true then callB (sortSR mu) (argA E [a]) else never
      | none => if intA x es = true then callB intSR (argA E es) else (match bltC dc mu x, cnD2 es with
        | some r, true => callB r (argA E es)
        | _, _ => never))
  else never
theorem s_callN (G : Gd c X dc B W) {E : Expr → DE} {mu : Bool} (h : ∀ e, PE X e (lift c B (E e))) : PE X (.Call (.Name x p) es [] pos) (lift c B (callN dc W E mu x es)) := by
  unfold callN
  split
  · rename_i hh
    simp only [Bool.and_eq_true] at hh
    obtain ⟨g1, g2⟩ := G.gl hh.1
    split
    · rename_i n sp hf
      obtain ⟨k, f, fd, ps, F, hl, hr, hm, hk, hb⟩ := G.fn _ _ _ hf
      cases es with
      | nil => exact l_call0 F hr G.gd g1 hm hk hb G.tk g2
      | cons e es => exact l_call F hr G.gd g1 hm hk hb G.tk (s_args h _) g2 hh.2
    · split
      · rename_i a ha
        obtain ⟨rfl, p2, q, rfl⟩ := setA_eq ha
        split
        · rename_i k
          simp only [Bool.and_eq_true] at k
          obtain ⟨g3, _⟩ := G.gl k.1.1
          have hs := k.1.2
          unfold noStar at hs
          simp only [List.all_cons, List.all_nil, Bool.and_true, Bool.not_eq_true'] at hs
          exact l_sortS G.sv (G.calm k.2) g1 (G.blt _ (by decide +kernel)) g3 (G.blt _ (by decide +kernel)) (s_args h [a]) hs
        · exact l_never
      · split
        · rename_i hi
          unfold intA at hi
          split at hi
          · simp only [Bool.and_eq_true, decide_eq_true_eq] at hi
            obtain ⟨rfl, rfl⟩ := hi
            exact l_callT ok_intS g1 (G.blt _ (by decide +kernel)) (by decide +kernel) (s_args h _) (by decide +kernel) g2 hh.2
          · cases hi
        · split
          · rename_i r hb hc
            cases es with
            | nil => cases hc
            | cons e es => exact s_blt G h hh.1 hb hh.2
          · exact l_never
  · exact l_never
/-- methods -/
def plainBase : Expr → Bool
  | .Name _ _ => true
  | .Subscript _ _ _ => true
  | .Attribute _ _ _ => true
  | .Constant _ _ _ => true
  | .List _ _ => true
  | _ => false
theorem base_of {o : Expr} {m : Str} {env : Env} (h : plainBase o = true) : attributeBase o m env (eval o env) = eval o env := by
  cases o <;> first | (cases h; done) | rfl
def mthC (m : Str) : Option (String × String × (T → List T → SS → KQ → Prop)) :=
  if m = "append" then some ("list", "list.append", appendR) else if m = "pop" then some ("list", "list.pop", popR) else if m = "insert" then some ("list", "list.insert", insertR) else if m = "extend" then some ("list", "list.extend", extendR) else if m = "count" then some ("list", "list.count", countR) else if m = "index" then some ("list", "list.index", indexR) else if m = "remove" then some ("list", "list.remove", removeR) else if m = "split" then some ("str", "str.split", splitR) else if m = "find" then some ("str", "str.find", findR) else if m = "join" then some ("str", "str.join", joinR) else none
structure MtOk' (c : Ct) (X : Cx) (m : Str) (ty id : String) (r : T → List T → SS → KQ → Prop) : Prop where
  pa : PlainAttrs ty
  sl : Slot ty m id
  ht : typeOf (.builtin id) = pure (.type "method_descriptor")
  ok : MtOk c X id r
theorem mthC_ok (sv : Sv c X) (hu : X.A.units + 65 < cLine) {m : Str} {ty id : String} {r : T → List T → SS → KQ → Prop} (h : mthC m = some (ty, id, r)) : MtOk' c X m ty id r := by
  unfold mthC at h
  split at h
  · subst_vars; cases h; exact ⟨PySem.F.plainAttrs_list, PySem.F.slot_list_append, by rfl, ok_append⟩
  split at h
  · subst_vars; cases h; exact ⟨PySem.F.plainAttrs_list, PySem.F.slot_list_pop, by rfl, ok_pop⟩
  split at h
  · subst_vars; cases h; exact ⟨PySem.F.plainAttrs_list, PySem.F.slot_list_insert, by rfl, ok_insert⟩
  split at h
  · subst_vars; cases h; exact ⟨PySem.F.plainAttrs_list, PySem.F.slot_list_extend, by rfl, ok_extend sv⟩
  split at h
  · subst_vars; cases h; exact ⟨PySem.F.plainAttrs_list, PySem.F.slot_list_count, by rfl, ok_count sv hu⟩
  split at h
  · subst_vars; cases h; exact ⟨PySem.F.plainAttrs_list, PySem.F.slot_list_index, by rfl, ok_index sv hu⟩
  split at h
  · subst_vars; cases h; exact ⟨PySem.F.plainAttrs_list, PySem.F.slot_list_remove, by rfl, ok_remove sv hu⟩
  split at h
  · subst_vars; cases h; exact ⟨PySem.F.plainAttrs_str, PySem.F.slot_str_split, PySem.F.type_str_split, ok_split sv⟩
  split at h
  · subst_vars; cases h; exact ⟨PySem.F.plainAttrs_str, PySem.F.slot_str_find, PySem.F.type_str_find, ok_find⟩
  split at h
  · subst_vars; cases h; exact ⟨PySem.F.plainAttrs_str, PySem.F.slot_str_join, PySem.F.type_str_join, ok_join sv⟩
  cases h
def callM (E : Expr → DE) (o : Expr) (m : Str) (ap pos : Pos) (es : List Expr) : DE :=
  if (plainBase o && (ap.endLine == pos.line) && noStar es && decide (es.length < 29)) = true then
    match mthC m with
    | some (ty, _, r) => methD ty r (E o) (argA E es)
    | none => never
  else never
theorem s_callM (G : Gd c X dc B W) {E : Expr → DE} (h : ∀ e, PE X e (lift c B (E e))) {m : Str} {ap : Pos} : PE X (.Call (.Attribute a m ap) es [] pos) (lift c B (callM E a m ap pos es)) := by
  unfold callM
  split
  · rename_i hh
    simp only [Bool.and_eq_true, decide_eq_true_eq] at hh
    obtain ⟨⟨⟨h1, h2⟩, h3⟩, h4⟩ := hh
    split
    · rename_i ty id r hm
      have M : MtOk' c X m ty id r := mthC_ok G.sv G.un hm
      cases es with
      | nil => exact l_meth0 G.sv M.pa M.sl M.ht M.ok (h a) (base_of h1) h2
      | cons e es => exact l_meth G.sv M.pa M.sl M.ht M.ok (h a) (s_args h _) (base_of h1) h2 h4 h3
    · exact l_never
  · exact l_never
end
end TL

set_option Elab.async false
set_option linter.all false
set_option maxRecDepth 100000
set_option maxHeartbeats 4000000
set_option autoImplicit false
/-! TL11: the evaluator whole, sound. -/
namespace TL
open PySem PySem.Spec PyProof.Rows L2

structure Ev where
  E : Expr → DE
  T : Expr → DT
  S : List Stmt → DS

/-! ### targets -/
def tgNm (dc : Dc) : Expr → Option Tg
  | .Name x _ => (match stOf dc x with
    | some i => some (.nm i)
    | none => none)
  | _ => none
def tgLs (f : Expr → Option Tg) : List Expr → Option Tg
  | [] => some .nil
  | e :: es => (match f e, tgLs f es with
    | some g, some r => some (.cons g r)
    | _, _ => none)
def tgSt (f : Expr → Option Tg) : Expr → Option Tg
  | .Tuple es _ _ => if noStar es = true then (match tgLs f es with
    | some g => some (.tp g)
    | none => none) else none
  | e => f e
def tgOf (dc : Dc) (e : Expr) : Option Tg := if dc.cm = true then tgSt (tgSt (tgNm dc)) e else tgNm dc e
section
variable {c : Ct} {X : Cx} {dc : Dc} {B : Wd} {W : XW} {a b e : Expr} {es : List Expr} {da db : DE} {dA : DA} {pos p : Pos} {x : Str}
theorem s_tgNm (G : Gd c X dc B W) {g : Tg} (h : tgNm dc e = some g) : PG X e (liftG c g) := by
  unfold tgNm at h
  split at h
  · split at h
    · rename_i i hi
      cases h
      obtain ⟨h1, h2, h3⟩ := G.st hi
      exact l_gname G.nd h1 h2 h3
    · cases h
  · cases h
theorem s_tgLs {f : Expr → Option Tg} (hf : ∀ e g, f e = some g → PG X e (liftG c g)) : ∀ {es : List Expr} {g : Tg}, noStar es = true → tgLs f es = some g → PGs X es (liftGs c g) ∧ glen g es.length = true
  | [], g, _, h => by
    simp only [tgLs, Option.some.injEq] at h
    subst h
    exact ⟨l_gnil, rfl⟩
  | e :: es, g, hs, h => by
    simp only [tgLs] at h
    split at h
    · rename_i g1 r1 e1 e2
      cases h
      have hs' : isStar e = false ∧ noStar es = true := by simpa [noStar] using hs
      obtain ⟨h1, h2⟩ := s_tgLs hf hs'.2 e2
      exact ⟨l_gcons (hf _ _ e1) h1 (by rw [asg_cons hs'.1]; rfl), h2⟩
    · cases h
theorem s_tgSt (G : Gd c X dc B W) (hcm : dc.cm = true) {f : Expr → Option Tg} (hf : ∀ e g, f e = some g → PG X e (liftG c g)) : ∀ e g, tgSt f e = some g → PG X e (liftG c g) := by
  intro e g h
  unfold tgSt at h
  split at h
  · split at h
    · rename_i hs
      split at h
      · rename_i g' e1
        cases h
        obtain ⟨h1, h2⟩ := s_tgLs hf hs e1
        exact l_gtup G.sv (G.calm hcm) h1 hs h2
      · cases h
    · cases h
  · exact hf _ _ h
theorem s_tgOf (G : Gd c X dc B W) : ∀ e g, tgOf dc e = some g → PG X e (liftG c g) := by
  intro e g h
  unfold tgOf at h
  split at h
  · rename_i hcm
    exact s_tgSt G hcm (s_tgSt G hcm fun _ _ h => s_tgNm G h) e g h
  · exact s_tgNm G h

/-! ### what is walked -/
def isTup : Expr → Bool
  | .Tuple _ _ _ => true
  | _ => false
def neverI : DI := fun _ _ _ => False
theorem l_neverI {tg it : Expr} : PI X tg it (liftI c B neverI) := ⟨fun _ _ _ _ _ _ ⟨_, _, _, _, _, _, _, h, _⟩ => h.elim⟩
def rngD (E : Expr → DE) : List Expr → DI
  | [a] => if isStar a = true then neverI else rng1I (argA E [a])
  | [a, b] => if (isStar a || isStar b) = true then neverI else rng2I (argA E [a, b])
  | [a, b, c] => if (isStar a || !([b, c].all fun e => !isStar e)) = true then neverI else rng3I (argA E [a, b, c])
  | _ => neverI
def enuD (E : Expr → DE) : List Expr → DI
  | [a] => if isStar a = true then neverI else enumI (argA E [a])
  | _ => neverI
def zipD (E : Expr → DE) : List Expr → DI
  | [a, b] => if (isStar a || isStar b) = true then neverI else zipI (argA E [a, b])
  | [a, b, c] => if (isStar a || isStar b || isStar c) = true then neverI else zip3I (argA E [a, b, c])
  | _ => neverI
def itC (dc : Dc) (E : Expr → DE) (tup : Bool) (x : Str) (es : List Expr) (whole : DI) : DI :=
  if x = "range" then (if isGl dc x = true then rngD E es else neverI)
  else if x = "enumerate" then (if (isGl dc x && tup) = true then enuD E es else neverI)
  else if x = "zip" then (if (isGl dc x && tup) = true then zipD E es else neverI)
  else whole
def itE (dc : Dc) (E : Expr → DE) (tup : Bool) : Expr → DI
  | .Call (.Name x q) es [] p => itC dc E tup x es (seqI (E (.Call (.Name x q) es [] p)))
  | .Name y q => if y = "word" then strI (E (.Name y q)) else seqI (E (.Name y q))
  | e => seqI (E e)
theorem s_itE (G : Gd c X dc B W) {E : Expr → DE} (h : ∀ e, PE X e (lift c B (E e))) {tg it : Expr} : PI X tg it (liftI c B (itE dc E (isTup tg) it)) := by
  unfold itE
  split
  · rename_i x q es p
    unfold itC
    by_cases q0 : x = "range"
    · rw [if_pos q0]
      subst q0
      split
      · rename_i hg
        unfold rngD
        split
        · split
          · exact l_neverI
          · rename_i hs
            exact l_range1 (G.gl hg).1 (G.blt _ (by decide +kernel)) (s_args h _) (by simpa using hs)
        · split
          · exact l_neverI
          · rename_i hs
            have hs' := hs
            simp only [Bool.or_eq_true, not_or, Bool.not_eq_true] at hs'
            exact l_range2 (G.gl hg).1 (G.blt _ (by decide +kernel)) (s_args h _) hs'.1 hs'.2
        · split
          · exact l_neverI
          · rename_i hs
            have hs' := hs
            simp only [Bool.or_eq_true, not_or, Bool.not_eq_true, Bool.not_eq_false'] at hs'
            exact l_range3 (G.gl hg).1 (G.blt _ (by decide +kernel)) (s_args h _) hs'.1 (by simpa using hs'.2)
        · exact l_neverI
      · exact l_neverI
    rw [if_neg q0]
    by_cases q1 : x = "enumerate"
    · rw [if_pos q1]
      subst q1
      split
      · rename_i hg
        simp only [Bool.and_eq_true] at hg
        obtain ⟨hg, ht⟩ := hg
        cases tg <;> first
          | (cases ht; done)
          | (unfold enuD
             split
             · split
               · exact l_neverI
               · rename_i hs
                 exact l_enum G.sv (G.gl hg).1 (G.blt _ (by decide +kernel)) (s_args h _) (by simpa using hs)
             · exact l_neverI)
      · exact l_neverI
    rw [if_neg q1]
    by_cases q2 : x = "zip"
    · rw [if_pos q2]
      subst q2
      split
      · rename_i hg
        simp only [Bool.and_eq_true] at hg
        obtain ⟨hg, ht⟩ := hg
        cases tg <;> first
          | (cases ht; done)
          | (unfold zipD
             split
             · split
               · exact l_neverI
               · rename_i hs
                 have hs' := hs
                 simp only [Bool.or_eq_true, not_or, Bool.not_eq_true] at hs'
                 exact l_zip G.sv (G.gl hg).1 (G.blt _ (by decide +kernel)) (s_args h _) hs'.1 hs'.2
             · split
               · exact l_neverI
               · rename_i hs
                 have hs' := hs
                 simp only [Bool.or_eq_true, not_or, Bool.not_eq_true] at hs'
                 exact l_zip3 G.sv (G.gl hg).1 (G.blt _ (by decide +kernel)) (s_args h _) hs'.1.1 hs'.1.2 hs'.2
             · exact l_neverI)
      · exact l_neverI
    rw [if_neg q2]
    exact l_seq G.sv (h _)
  · split
    · exact l_strI (h _)
    · exact l_seq G.sv (h _)
  · exact l_seq G.sv (h _)
theorem folded_no {it : Expr} {env : Env} (h : isSet it = false) : ∀ x, foldedSetIterable it env x = pure x := by
  cases it <;> first | (cases h; done) | exact fun _ => rfl

/-! ### comprehensions -/
def noW : XW := fun _ _ _ => False
def dcB (dc : Dc) (scope : Scope) : Dc := { dc with sc := relS scope dc.sc, own := fun x => scope.names.lookup x == some .cell, top := false }
def ownOf (N : List Str) (scope : Scope) : List (Str × Nat) := scope.names.filterMap fun y => match y.2 with
  | .local => (match ixOf N y.1 with
    | some i => some (y.1, i)
    | none => none)
  | .cell => (match ixOf N y.1 with
    | some i => some (y.1, i)
    | none => none)
  | _ => none
theorem Gd.blk (G : Gd c X dc B W) {scope : Scope} (hk : scope.kind = .function) (s : Shared) (H : Hp) (C : Addr) (cl : List (Str × Addr)) (fp : List Addr) : Gd c (X.blk s H scope (compEnvC scope cl C X.env) fp) (dcB dc scope) Wd.bot noW where
  sv := ⟨G.sv.K, G.sv.mg, G.sv.py, G.sv.sm⟩
  N := G.N
  nd := G.nd
  sc := by
    show relabel scope X.env = relS scope dc.sc
    rw [← G.sc]
    rfl
  kd := hk
  calm := G.calm
  gd := G.gd
  un := G.un
  own := fun x h => h
  glo := G.glo
  blt := G.blt
  fn := G.fn
  hot := G.hot
  tk := fun u s' ⟨_, _, _, _, _, _, _, _, _, _, _, _, _, _, _, _, _, _, _, _, _, _, _, _, w⟩ => w
  isa := G.isa
  exm := G.exm
  cats := G.cats
  exs := fun x hx => by
    obtain ⟨C, h1, ro⟩ := G.exs x hx
    exact ⟨C, h1, ⟨ro.ex, ro.gC, ro.kC, ro.r⟩⟩
  oin := fun x f hx => ⟨(G.oin x f hx).ex⟩
  ofd := G.ofd
  top := fun h => by cases h
def ifsD (T : Expr → DT) : List Expr → DT
  | [] => fun _ S Q => Q true S
  | [e] => T e
  | _ => neverT
def lcE (r : Dc → XW → Ev) (dc : Dc) (E : Expr → DE) (elt tg it : Expr) (ifs : List Expr) (scope : Scope) (pos : Pos) : DE :=
  match tgOf (dcB dc scope) tg with
  | some g => if (blkC dc.N dc.sc scope (ownOf dc.N scope) && (gslots g).all (fun i => decide (i ∈ (ownOf dc.N scope).map (·.2))) && !isSet it && dc.cm) = true then
      lcD (dc.mu pos) ((ownOf dc.N scope).map (·.2)) (itE dc E (isTup tg) it) g (ifsD (r (dcB dc scope) noW).T ifs) ((r (dcB dc scope) noW).E elt)
    else never
  | none => never
/-- what is to be shown of an evaluator -/
structure Sd (r : Dc → XW → Ev) : Prop where
  E : ∀ (c : Ct) (X : Cx) (dc : Dc) (B : Wd) (W : XW), Gd c X dc B W → ∀ e, PE X e (lift c B ((r dc W).E e))
  T : ∀ (c : Ct) (X : Cx) (dc : Dc) (B : Wd) (W : XW), Gd c X dc B W → ∀ e, PT X e (liftT c B ((r dc W).T e))
  S : ∀ (c : Ct) (X : Cx) (dc : Dc) (B : Wd) (W : XW), Gd c X dc B W → ∀ ss, PSs X ss (liftS c B ((r dc W).S ss))
theorem s_ifs {T : Expr → DT} (h : ∀ e, PT X e (liftT c B (T e))) : ∀ {es : List Expr}, PTs X es (liftT c B (ifsD T es))
  | [] => pts_nil' fun _ _ _ h => h
  | [e] => pts_one (h e)
  | _ :: _ :: _ => ⟨fun _ _ _ _ _ _ ⟨_, _, _, _, _, _, _, h, _⟩ => h.elim⟩
theorem s_lcE {r : Dc → XW → Ev} (hr : Sd r) (G : Gd c X dc B W) {E : Expr → DE} (h : ∀ e, PE X e (lift c B (E e))) {elt tg it : Expr} {ifs : List Expr} {scope : Scope} : PE X (.ListComp elt [⟨tg, it, ifs, 0⟩] scope pos) (lift c B (lcE r dc E elt tg it ifs scope pos)) := by
  unfold lcE
  split
  · rename_i g hg
    split
    · rename_i hh
      simp only [Bool.and_eq_true, Bool.not_eq_true', List.all_eq_true, decide_eq_true_eq] at hh
      obtain ⟨⟨⟨h1, h2⟩, h3⟩, hcm⟩ := hh
      have ok : BlkOk X.N X.env.scope scope (ownOf dc.N scope) := by rw [G.N, G.sc]; exact blkOk_by h1
      exact l_lc (G.calm hcm) G.nd (s_itE G h) ok h2 (fun s H C cl fp => s_tgOf (G.blk ok.kind s H C cl fp) _ _ hg) (fun s H C cl fp => s_ifs (hr.T _ _ _ _ _ (G.blk ok.kind s H C cl fp))) (fun s H C cl fp => hr.E _ _ _ _ _ (G.blk ok.kind s H C cl fp) _) (folded_no h3)
    · exact l_never
  · exact l_never
theorem s_setLc {r : Dc → XW → Ev} (hr : Sd r) (G : Gd c X dc B W) {E : Expr → DE} (h : ∀ e, PE X e (lift c B (E e))) {elt tg it : Expr} {ifs : List Expr} {scope : Scope} {i : Nat} {y : Str} {py spos : Pos} (hy : X.N[i]? = some y) (hyl : X.env.scope.names.lookup y = some .local)
    (hsw : swapsWith (.ListComp elt [⟨tg, it, ifs, 0⟩] scope pos) (some (.Name y py)) spos.line X.env = pure true) : PS X (.Assign [.Name y py] (.ListComp elt [⟨tg, it, ifs, 0⟩] scope pos) spos) (liftS c B (asgD (lcE r dc E elt tg it ifs scope pos) (.nm i))) := by
  unfold lcE
  split
  · rename_i g hg
    split
    · rename_i hh
      simp only [Bool.and_eq_true, Bool.not_eq_true', List.all_eq_true, decide_eq_true_eq] at hh
      obtain ⟨⟨⟨h1, h2⟩, h3⟩, hcm⟩ := hh
      have ok : BlkOk X.N X.env.scope scope (ownOf dc.N scope) := by rw [G.N, G.sc]; exact blkOk_by h1
      exact l_setLc (G.calm hcm) G.nd hy hyl hsw (s_itE G h) ok h2 (fun s H C cl fp => s_tgOf (G.blk ok.kind s H C cl fp) _ _ hg) (fun s H C cl fp => s_ifs (hr.T _ _ _ _ _ (G.blk ok.kind s H C cl fp))) (fun s H C cl fp => hr.E _ _ _ _ _ (G.blk ok.kind s H C cl fp) _) (folded_no h3)
    · exact ⟨fun _ _ _ _ _ _ ⟨_, _, _, _, _, _, _, h, _⟩ => h.elim⟩
  · exact ⟨fun _ _ _ _ _ _ ⟨_, _, _, _, _, _, _, h, _⟩ => h.elim⟩
end
end TL

set_option Elab.async false
set_option linter.all false
set_option maxRecDepth 100000
set_option maxHeartbeats 4000000
set_option autoImplicit false
/-! TL12: the evaluator's step, its soundness. -/
namespace TL
open PySem PySem.Spec PyProof.Rows L2

def unE (E : Expr → DE) (T : Expr → DT) : UnaryOp → Expr → DE
  | .Not, a => notE (E a)
  | .USub, a => negR (E a)
  | _, _ => never
def boE (E : Expr → DE) : BoolOp → List Expr → DE
  | .And, es => andL E es
  | .Or, es => orL E es
def cmE (r : Dc → XW → Ev) (dc : Dc) (E : Expr → DE) (elt : Expr) (scope : Scope) (pos : Pos) : List Comprehension → DE
  | [⟨tg, it, ifs, 0⟩] => lcE r dc E elt tg it ifs scope pos
  | _ => never
def caE (dc : Dc) (W : XW) (E : Expr → DE) (es : List Expr) (pos : Pos) : Expr → List Keyword → DE
  | .Name x _, [] => callN dc W E (dc.mu pos) x es
  | .Attribute o m ap, [] => callM E o m ap pos es
  | _, _ => never
def dcE : List (Option Expr) → List Expr → DE
  | [], [] => dicD
  | _, _ => never
def fmE (E : Expr → DE) (e : Expr) (cv : Int) : Option Expr → DE
  | none => if cv = -1 then fmtD (E e) else never
  | _ => never
def stE (r : Dc → XW → Ev) (dc : Dc) (W : XW) : Expr → DE
  | .Name x _ => nmD dc x
  | .Constant k _ _ => cnD k
  | .BinOp a op b p => opD (binR (dc.mu p) op) ((r dc W).E a) ((r dc W).E b)
  | .UnaryOp op a _ => unE (r dc W).E (r dc W).T op a
  | .BoolOp op es _ => boE (r dc W).E op es
  | .Compare a ops es _ => cmpD (r dc W).E a ops es
  | .IfExp k a b _ => ifE ((r dc W).T k) ((r dc W).E a) ((r dc W).E b)
  | .Tuple es _ _ => tupD (argA (r dc W).E es)
  | .List es p => lstD (dc.mu p) (argA (r dc W).E es)
  | .Subscript a b p => subD (r dc W).E (dc.mu p) a b
  | .Call f es kws p => caE dc W (r dc W).E es p f kws
  | .ListComp elt gs scope p => cmE r dc (r dc W).E elt scope p gs
  | .Dict ks vs _ => dcE ks vs
  | .JoinedStr vs _ => jsE (r dc W).E vs
  | .FormattedValue e cv sp _ => fmE (r dc W).E e cv sp
  | .Attribute o f _ => attE dc (r dc W).E f o
  | _ => never
def unT (E : Expr → DE) (T : Expr → DT) : UnaryOp → Expr → DT
  | .Not, a => notT (T a)
  | _, _ => neverT
def boT (T : Expr → DT) : BoolOp → List Expr → DT
  | .And, es => andTL T es
  | .Or, es => orTL T es
def stT (r : Dc → XW → Ev) (dc : Dc) (W : XW) : Expr → DT
  | .UnaryOp op a _ => unT (r dc W).E (r dc W).T op a
  | .BoolOp op es _ => boT (r dc W).T op es
  | .Compare a ops es _ => tstD (cmpD (r dc W).E a ops es)
  | .Name x p => truD (stE r dc W (.Name x p))
  | .Constant k j p => truD (stE r dc W (.Constant k j p))
  | .BinOp a op b p => truD (stE r dc W (.BinOp a op b p))
  | .Tuple es k p => truD (stE r dc W (.Tuple es k p))
  | .List es p => truD (stE r dc W (.List es p))
  | .Subscript a b p => truD (stE r dc W (.Subscript a b p))
  | .Call f es kws p => truD (stE r dc W (.Call f es kws p))
  | .ListComp elt gs scope p => truD (stE r dc W (.ListComp elt gs scope p))
  | _ => neverT
section
variable {c : Ct} {X : Cx} {dc : Dc} {B : Wd} {W : XW} {r : Dc → XW → Ev} {x : Str} {pos p : Pos}
theorem s_stE (hr : Sd r) (G : Gd c X dc B W) (e : Expr) : PE X e (lift c B (stE r dc W e)) := by
  have hE := hr.E c X dc B W G
  have hT := hr.T c X dc B W G
  cases e with
  | Name x p => exact s_name G
  | Constant k j p => exact s_const
  | BinOp a op b p => exact l_bin (ok_bin G.sv _ op) (hE a) (hE b)
  | UnaryOp op a p =>
    cases op with
    | Not => exact l_notE G.sv (hE a)
    | USub => exact l_neg (hE a)
    | _ => exact l_never
  | BoolOp op es p =>
    cases op with
    | And => exact s_and hE es
    | Or => exact s_or hE es
  | Compare a ops es p => exact s_cmp G hE
  | IfExp k a b p => exact l_ifE (hT k) (hE a) (hE b)
  | Tuple es k p => exact l_tup G.sv (s_args hE es)
  | List es p => exact l_lst G.sv _ (s_args hE es)
  | Subscript a b p => exact s_sub G hE
  | Call f es kws p =>
    show PE X _ (lift c B (caE dc W (r dc W).E es p f kws))
    unfold caE
    split
    · exact s_callN G hE
    · exact s_callM G hE
    · exact l_never
  | ListComp elt gs scope p =>
    show PE X _ (lift c B (cmE r dc (r dc W).E elt scope p gs))
    unfold cmE
    split
    · exact s_lcE hr G hE
    · exact l_never
  | Dict ks vs p =>
    show PE X _ (lift c B (dcE ks vs))
    unfold dcE
    split
    · exact l_dic0
    · exact l_never
  | JoinedStr vs p => exact s_js hE
  | FormattedValue e cv sp p =>
    show PE X _ (lift c B (fmE (r dc W).E e cv sp))
    unfold fmE
    split
    · split
      · rename_i z
        subst z
        exact l_fmt (hE e)
      · exact l_never
    · exact l_never
  | Attribute o f p => exact s_att G hE
  | _ => exact l_never
theorem s_stT (hr : Sd r) (G : Gd c X dc B W) (e : Expr) : PT X e (liftT c B (stT r dc W e)) := by
  have hE := hr.E c X dc B W G
  have hT := hr.T c X dc B W G
  cases e with
  | UnaryOp op a p =>
    cases op with
    | Not => exact l_not (hT a)
    | _ => exact l_neverT
  | BoolOp op es p =>
    cases op with
    | And => exact (s_andT hT es).pt
    | Or => exact (s_orT hT es).pt
  | Compare a ops es p => exact s_tcmp G hE
  | Name x p => exact l_truth G.sv (s_stE hr G _) fun _ => rfl
  | Constant k j p => exact l_truth G.sv (s_stE hr G _) fun _ => rfl
  | BinOp a op b p => exact l_truth G.sv (s_stE hr G _) fun _ => rfl
  | Tuple es k p => exact l_truth G.sv (s_stE hr G _) fun _ => rfl
  | List es p => exact l_truth G.sv (s_stE hr G _) fun _ => rfl
  | Subscript a b p => exact l_truth G.sv (s_stE hr G _) fun _ => rfl
  | Call f es kws p => exact l_truth G.sv (s_stE hr G _) fun _ => rfl
  | ListComp elt gs scope p => exact l_truth G.sv (s_stE hr G _) fun _ => rfl
  | _ => exact l_neverT

/-! ### statements -/
/-- a, b = x, y -/
def parS (dc : Dc) (E : Expr → DE) : List Expr → List Expr → DS
  | [.Name x px, .Name y py], [a, b] => (match swC dc.sc [.Name x px, .Name y py] [a, b], ixOf dc.N x, ixOf dc.N y with
    | some (some [x', y']), some i, some j => if (decide (x' = x) && decide (y' = y) && decide (i ≠ j) && noStar [a, b] && decide (dc.sc.names.lookup x = some .local) && decide (dc.sc.names.lookup y = some .local) && dc.cm) = true then asgD (tupD (argA E [a, b])) (.tp (.cons (.nm i) (.cons (.nm j) .nil))) else neverS
    | _, _, _ => neverS)
  | [.Name x px, .Name y py, .Name z pz], [a, b, d] => (match swC dc.sc [.Name x px, .Name y py, .Name z pz] [a, b, d], ixOf dc.N x, ixOf dc.N y, ixOf dc.N z with
    | some (some [x', y', z']), some i, some j, some m => if (decide (x' = x) && decide (y' = y) && decide (z' = z) && decide (i ≠ j) && decide (i ≠ m) && decide (j ≠ m) && noStar [a, b, d] && decide (dc.sc.names.lookup x = some .local) && decide (dc.sc.names.lookup y = some .local) && decide (dc.sc.names.lookup z = some .local) && dc.cm) = true then
        asgD (tupD (argA E [a, b, d])) (.tp (.cons (.nm i) (.cons (.nm j) (.cons (.nm m) .nil)))) else neverS
    | _, _, _, _ => neverS)
  | _, _ => neverS
theorem s_parS (G : Gd c X dc B W) {E : Expr → DE} (h : ∀ e, PE X e (lift c B (E e))) {ts vs : List Expr} {k k2 : Nat} {tp vp : Pos} : PS X (.Assign [.Tuple ts k tp] (.Tuple vs k2 vp) pos) (liftS c B (parS dc E ts vs)) := by
  have hk : X.env.scope.kind = .function := by rw [G.sc]; exact G.kd
  unfold parS
  split
  · rename_i x px y py a b
    split
    · rename_i x' y' i j hsw hi hj
      split
      · rename_i hh
        simp only [Bool.and_eq_true, decide_eq_true_eq] at hh
        obtain ⟨⟨⟨⟨⟨⟨rfl, rfl⟩, h3⟩, h4⟩, h5⟩, h6⟩, hcm⟩ := hh
        rw [← G.sc] at hsw h5 h6
        exact l_par2 (G.calm hcm) G.nd (by rw [G.N]; exact ixOf_ok hi) (by rw [G.N]; exact ixOf_ok hj) h3 h5 h6 (s_args h _) (swC_ok hk hsw)
      · exact l_neverS
    · exact l_neverS
  · rename_i x px y py z pz a b d
    split
    · rename_i x' y' z' i j m hsw hi hj hm
      split
      · rename_i hh
        simp only [Bool.and_eq_true, decide_eq_true_eq] at hh
        obtain ⟨⟨⟨⟨⟨⟨⟨⟨⟨⟨rfl, rfl⟩, rfl⟩, h3⟩, h3'⟩, h3''⟩, h4⟩, h5⟩, h6⟩, h7⟩, hcm⟩ := hh
        rw [← G.sc] at hsw h5 h6 h7
        exact l_par3 (G.calm hcm) G.nd (by rw [G.N]; exact ixOf_ok hi) (by rw [G.N]; exact ixOf_ok hj) (by rw [G.N]; exact ixOf_ok hm) h3 h3' h3'' h5 h6 h7 (s_args h _) (swC_ok hk hsw)
      · exact l_neverS
    · exact l_neverS
  · exact l_neverS
def swN (dc : Dc) (ts vs : List Expr) : Bool := match swC dc.sc ts vs with
  | some none => true
  | _ => false
def asTup (dc : Dc) (E : Expr → DE) (tg : Expr) (ts : List Expr) : Expr → DS
  | .Tuple vs k2 vp => (match swN dc ts vs with
    | true => (match tgOf dc tg with
      | some g => asgD (E (.Tuple vs k2 vp)) g
      | none => neverS)
    | false => parS dc E ts vs)
  | e => (match tgOf dc tg with
    | some g => asgD (E e) g
    | none => neverS)
theorem sole_tup {ts : List Expr} {k : Nat} {tp : Pos} {e : Expr} {l : Nat} {env : Env} : swapsWithSole [.Tuple ts k tp] e l env = pure false := by
  unfold swapsWithSole
  cases e <;> rfl
theorem s_asTup (G : Gd c X dc B W) {E : Expr → DE} (h : ∀ e, PE X e (lift c B (E e))) {ts : List Expr} {k : Nat} {tp : Pos} {e : Expr} : PS X (.Assign [.Tuple ts k tp] e pos) (liftS c B (asTup dc E (.Tuple ts k tp) ts e)) := by
  have hk : X.env.scope.kind = .function := by rw [G.sc]; exact G.kd
  cases e with
  | Tuple vs k2 vp =>
    show PS X _ (liftS c B (match swN dc ts vs with
      | true => (match tgOf dc (.Tuple ts k tp) with
        | some g => asgD (E (.Tuple vs k2 vp)) g
        | none => neverS)
      | false => parS dc E ts vs))
    split
    · rename_i hn
      split
      · rename_i g hg
        refine l_asg (h _) (s_tgOf G _ _ hg) sole_tup ?_ rfl
        unfold swN at hn
        split at hn
        · rename_i q
          exact swC_ok hk (by rw [G.sc]; exact q)
        · cases hn
      · exact l_neverS
    · exact s_parS G h
  | _ =>
    unfold asTup
    dsimp only
    split
    · rename_i g hg
      exact l_asg (h _) (s_tgOf G _ _ hg) sole_tup rfl rfl
    · exact l_neverS
def asNm (r : Dc → XW → Ev) (dc : Dc) (E : Expr → DE) (y : Str) (py spos : Pos) (i : Nat) : Expr → DS
  | .ListComp elt gs scope pos => (match gs with
    | [⟨tg, it, ifs, 0⟩] => (match dc.sc.names.lookup y with
      | some .local => if ((py.line == pos.line) && !(scope.names.any fun (n, k) => n == y && (k == .local || k == .cell))) = true then asgD (lcE r dc E elt tg it ifs scope pos) (.nm i) else neverS
      | some .cell => asgD (lcE r dc E elt tg it ifs scope pos) (.nm i)
      | _ => neverS)
    | _ => neverS)
  | e => if isComp e = true then neverS else asgD (E e) (.nm i)
theorem s_asNm (hr : Sd r) (G : Gd c X dc B W) {E : Expr → DE} (h : ∀ e, PE X e (lift c B (E e))) {y : Str} {py : Pos} {i : Nat} {e : Expr} (hi : stOf dc y = some i) : PS X (.Assign [.Name y py] e pos) (liftS c B (asNm r dc E y py pos i e)) := by
  have hk : X.env.scope.kind = .function := by rw [G.sc]; exact G.kd
  obtain ⟨n1, n2, n3⟩ := G.st hi
  unfold asNm
  split
  · rename_i elt gs scope pos'
    split
    · rename_i tg it ifs
      split
      · rename_i hl
        split
        · rename_i hh
          simp only [Bool.and_eq_true, Bool.not_eq_true'] at hh
          have hl' : X.env.scope.names.lookup y = some .local := by rw [G.sc]; exact hl
          exact s_setLc hr G h n1 hl' (sw_true hk hl' hh.1 hh.2)
        · exact l_neverS
      · rename_i hl
        refine l_asg (s_lcE hr G h) (l_gname G.nd n1 n2 n3) ?_ rfl rfl
        have ky : X.env.kindOf y = some .cell := by unfold Env.kindOf; rw [G.sc]; exact hl
        unfold swapsWithSole swapsWith
        simp only [ky]
        first
          | rfl
          | (cases X.env.blockKind <;> rfl)
      · exact l_neverS
    · exact l_neverS
  · rename_i e hne
    split
    · exact l_neverS
    · rename_i hc
      refine l_asg (h _) (l_gname G.nd n1 n2 n3) ?_ ?_ rfl
      · unfold swapsWithSole
        exact swaps_no (by simpa using hc)
      · cases e <;> rfl
def slLit (E : Expr → DE) (o : Expr) (lo hi : Option Expr) : Expr → DS
  | .List es _ => slAsg (argA E es) (E o) (bndO E lo) (bndO E hi)
  | _ => neverS
theorem s_slLit (G : Gd c X dc B W) {E : Expr → DE} (h : ∀ e, PE X e (lift c B (E e))) {o e : Expr} {lo hi : Option Expr} {p2 tpos : Pos} : PS X (.Assign [.Subscript o (.Slice lo hi none p2) tpos] e pos) (liftS c B (slLit E o lo hi e)) := by
  unfold slLit
  split
  · exact l_slAsg G.sv (s_args h _) (h _) (s_bnd h _) (s_bnd h _)
  · exact l_neverS
def asgS (r : Dc → XW → Ev) (dc : Dc) (E : Expr → DE) (spos : Pos) (e : Expr) : Expr → DS
  | .Subscript o (.Slice lo hi none _) _ => slLit E o lo hi e
  | .Subscript o i _ => if (isComp e || !plainIx i) = true then neverS else subAsg (E e) (E o) (E i)
  | .Name y py => (match stOf dc y with
    | some i => asNm r dc E y py spos i e
    | none => neverS)
  | .Tuple ts k tp => asTup dc E (.Tuple ts k tp) ts e
  | _ => neverS
theorem s_asgS (hr : Sd r) (G : Gd c X dc B W) {E : Expr → DE} (h : ∀ e, PE X e (lift c B (E e))) {tg e : Expr} : PS X (.Assign [tg] e pos) (liftS c B (asgS r dc E pos e tg)) := by
  unfold asgS
  split
  · exact s_slLit G h
  · split
    · exact l_neverS
    · rename_i hh
      simp only [Bool.or_eq_true, not_or, Bool.not_eq_true, Bool.not_eq_false'] at hh
      exact l_subAsg (h _) (h _) (h _) hh.1 hh.2
  · split
    · rename_i i hi
      exact s_asNm hr G h hi
    · exact l_neverS
  · exact s_asTup G h
  · exact l_neverS
def rsS (dc : Dc) (W : XW) (E : Expr → DE) : Option Expr → Option Expr → DS
  | some (.Call (.Name x _) [e] [] _), none => if (isGl dc x && decide (x ∈ dc.exs) && !isStar e && dc.cm) = true then raiseD W x (E e) else (match dc.oin.lookup x with
    | some f => if (isGl dc x && !isStar e && dc.cm) = true then raiseO W x f (E e) else neverS
    | none => neverS)
  | _, _ => neverS
theorem s_rsS (G : Gd c X dc B W) {E : Expr → DE} (h : ∀ e, PE X e (lift c B (E e))) {o o2 : Option Expr} : PS X (.Raise o o2 pos) (liftS c B (rsS dc W E o o2)) := by
  unfold rsS
  split
  · split
    · rename_i hh
      simp only [Bool.and_eq_true, decide_eq_true_eq, Bool.not_eq_true'] at hh
      obtain ⟨⟨⟨h1, h2⟩, h3⟩, hcm⟩ := hh
      obtain ⟨g1, g2⟩ := G.gl h1
      obtain ⟨C, tc, ro⟩ := G.exs _ h2
      exact l_raise (G.calm hcm) G.tk ro tc g1 g2 (h _) h3
    · split
      · rename_i f hf
        split
        · rename_i hh
          simp only [Bool.and_eq_true, Bool.not_eq_true'] at hh
          obtain ⟨⟨h1, h3⟩, hcm⟩ := hh
          obtain ⟨g1, g2⟩ := G.gl h1
          exact l_raiseO (G.calm hcm) G.tk (G.oin _ _ hf) g1 g2 (h _) h3
        · exact l_neverS
      · exact l_neverS
  · exact l_neverS
/-- in an except suite: no call of a def that may let something out, no raise, no loop -/
def dcS (dc : Dc) : Dc := { dc with fns := [], exs := [], oin := [], top := false, cm := false }
def trS (r : Dc → XW → Ev) (dc : Dc) (W : XW) (body : List Stmt) : List ExceptHandler → List Stmt → List Stmt → DS
  | [.ExceptHandler (some (.Name x _)) (some n) [.Assign [.Name v _] (.Name n' _) _] _], [], [] => (match ixOf dc.N n, stOf dc v with
    | some i, some j => if (dc.top && isGl dc x && decide (x ∈ dc.cat) && decide (n' = n) && decide (i ≠ j) && decide (dc.sc.names.lookup n = some .local) && nodbg n) = true then tryD W dc.sub x i j (fun W' => (r dc W').S body) else neverS
    | _, _ => neverS)
  | [.ExceptHandler (some (.Name x _)) (some n) [.Return (some (.Call (.Name g _) [.Name n' _] [] _)) _] _], [], [] => (match ixOf dc.N n, dc.hot.lookup g with
    | some i, some (1, spf) => if (dc.top && isGl dc x && decide (x ∈ dc.cat) && decide (n' = n) && decide (dc.sc.names.lookup n = some .local) && nodbg n && isGl dc g) = true then tryR W dc.sub x i spf (fun W' => (r dc W').S body) else neverS
    | _, _ => neverS)
  | [.ExceptHandler (some (.Name x _)) (some n) (b0 :: suite) _], [], [] => (match ixOf dc.N n with
    | some i => if (dc.top && isGl dc x && decide (x ∈ dc.cat) && decide (dc.sc.names.lookup n = some .local) && nodbg n) = true then tryS W dc.sub x i (fun W' => (r dc W').S body) ((r (dcS dc) fun _ _ _ => False).S (b0 :: suite)) else neverS
    | _ => neverS)
  | [.ExceptHandler (some (.Name x _)) none (b0 :: suite) _], [], [] => if (dc.top && isGl dc x && decide (x ∈ dc.cat)) = true then tryO W dc.sub x (fun W' => (r dc W').S body) ((r (dcS dc) fun _ _ _ => False).S (b0 :: suite)) else neverS
  | _, _, _ => neverS
theorem Gd.tr (G : Gd c X dc B W) (B' : Wd) (W' : XW) (pn : List (Addr × Obj)) (xe : Value → Shared → Prop) (tk : Takes (X.tr pn xe) (liftX c B' W')) (hp : PassesOwn (model X.prog X.w) X.A X.env xe) : Gd c (X.tr pn xe) dc B' W' where
  sv := ⟨G.sv.K, G.sv.mg, G.sv.py, G.sv.sm⟩
  N := G.N
  nd := G.nd
  sc := G.sc
  kd := G.kd
  calm := G.calm
  gd := G.gd
  un := G.un
  own := G.own
  glo := G.glo
  blt := G.blt
  fn := G.fn
  hot := G.hot
  tk := tk
  isa := G.isa
  exm := G.exm
  cats := G.cats
  exs := fun x hx => by
    obtain ⟨C, h1, ro⟩ := G.exs x hx
    exact ⟨C, h1, ⟨ro.ex, ro.gC, ro.kC, ro.r⟩⟩
  oin := fun x f hx => ⟨(G.oin x f hx).ex⟩
  ofd := G.ofd
  top := fun h => ⟨(G.top h).1, (G.top h).2.1, (G.top h).2.2.1, hp⟩
theorem Gd.suite (G : Gd c X dc B W) (B' : Wd) (a : Addr) (pn : List (Addr × Obj)) : Gd c (X.suite a pn) (dcS dc) B' (fun _ _ _ => False) where
  sv := ⟨G.sv.K, G.sv.mg, G.sv.py, G.sv.sm⟩
  N := G.N
  nd := G.nd
  sc := G.sc
  kd := G.kd
  calm := fun h => by cases h
  gd := G.gd
  un := G.un
  own := G.own
  glo := G.glo
  blt := G.blt
  fn := fun x n sp h => by cases h
  hot := fun x n sp h => by
    obtain ⟨k, f, fd, ps, F, hl, hr, hm, hk, hb⟩ := G.hot x n sp h
    exact ⟨k, f, fd, ps, F, hl, ⟨hr.dp, hr.un⟩, hm, hk, hb⟩
  tk := fun u s' ⟨a, B, sI, pins, σ, H, cls, d, e, I, nb, up, sky, na, os, ag, w⟩ => by
    obtain ⟨_, _, _, _, _, _, _, _, w⟩ := w
    exact w.elim
  isa := G.isa
  exm := G.exm
  cats := G.cats
  exs := fun x hx => by cases hx
  oin := fun x f hx => by cases hx
  ofd := G.ofd
  top := fun h => by cases h
theorem s_trS (hr : Sd r) (G : Gd c X dc B W) {body orelse fin : List Stmt} {hs : List ExceptHandler} : PS X (.Try body hs orelse fin pos) (liftS c B (trS r dc W body hs orelse fin)) := by
  unfold trS
  split
  · split
    · rename_i i j hi hj
      split
      · rename_i hh
        simp only [Bool.and_eq_true, decide_eq_true_eq] at hh
        obtain ⟨⟨⟨⟨⟨⟨h1, h2⟩, h3⟩, h4⟩, h5⟩, h6⟩, h7⟩ := hh
        subst h4
        obtain ⟨g1, g2⟩ := G.gl h2
        obtain ⟨C, tc, gC⟩ := G.cats _ h3
        obtain ⟨n1, n2, n3⟩ := G.st hj
        obtain ⟨t1, t2, t3, t4⟩ := G.top h1
        simp only [nodbg, Bool.and_eq_true, Bool.not_eq_true'] at h7
        exact l_try t1 t2 t3 G.nd (by rw [G.N]; exact ixOf_ok hi) n1 h5 (by unfold Env.kindOf; rw [G.sc]; exact h6) n2 n3 ⟨g1, g2, .inl gC⟩ G.tk h7.1 h7.2 (fun a C' e => G.exm a C' _ C e tc h3) fun B' W' pn xe tk hp => hr.S c (X.tr pn xe) dc B' W' (G.tr B' W' pn xe tk hp) body
      · exact l_neverS
    · exact l_neverS
  · split
    · rename_i i spf hi hj
      split
      · rename_i hh
        simp only [Bool.and_eq_true, decide_eq_true_eq] at hh
        obtain ⟨⟨⟨⟨⟨⟨h1, h2⟩, h3⟩, h4⟩, h6⟩, h7⟩, h8⟩ := hh
        subst h4
        obtain ⟨g1, g2⟩ := G.gl h2
        obtain ⟨e1, e2⟩ := G.gl h8
        obtain ⟨C, tc, gC⟩ := G.cats _ h3
        obtain ⟨k, f, fd, ps, F, hl, hr1, hm, hk, hb⟩ := G.hot _ _ _ hj
        obtain ⟨t1, t2, t3, t4⟩ := G.top h1
        simp only [nodbg, Bool.and_eq_true, Bool.not_eq_true'] at h7
        exact l_tryR t1 t2 t3 G.nd (by rw [G.N]; exact ixOf_ok hi) (by unfold Env.kindOf; rw [G.sc]; exact h6) ⟨g1, g2, .inl gC⟩ G.tk h7.1 h7.2 (fun a C' e => G.exm a C' _ C e tc h3) F hr1 G.gd e1 hm hk hb e2 fun B' W' pn xe tk hp => hr.S c (X.tr pn xe) dc B' W' (G.tr B' W' pn xe tk hp) body
      · exact l_neverS
    · exact l_neverS
  · split
    · rename_i i hi
      split
      · rename_i hh
        simp only [Bool.and_eq_true, decide_eq_true_eq] at hh
        obtain ⟨⟨⟨⟨h1, h2⟩, h3⟩, h6⟩, h7⟩ := hh
        obtain ⟨g1, g2⟩ := G.gl h2
        obtain ⟨C, tc, gC⟩ := G.cats _ h3
        obtain ⟨t1, t2, t3, t4⟩ := G.top h1
        simp only [nodbg, Bool.and_eq_true, Bool.not_eq_true'] at h7
        exact l_tryS t1 t2 t3 G.nd (by rw [G.N]; exact ixOf_ok hi) (by unfold Env.kindOf; rw [G.sc]; exact h6) ⟨g1, g2, .inl gC⟩ G.tk h7.1 h7.2 (fun a C' e => G.exm a C' _ C e tc h3) (fun a pn => hr.S c (X.suite a pn) (dcS dc) Wd.bot _ (G.suite Wd.bot a pn) _) fun B' W' pn xe tk hp => hr.S c (X.tr pn xe) dc B' W' (G.tr B' W' pn xe tk hp) body
      · exact l_neverS
    · exact l_neverS
  · split
    · rename_i hh
      simp only [Bool.and_eq_true, decide_eq_true_eq] at hh
      obtain ⟨⟨h1, h2⟩, h3⟩ := hh
      obtain ⟨g1, g2⟩ := G.gl h2
      obtain ⟨C, tc, gC⟩ := G.cats _ h3
      obtain ⟨t1, t2, t3, t4⟩ := G.top h1
      exact l_tryO t1 t2 ⟨g1, g2, .inl gC⟩ G.tk (fun a C' e => G.exm a C' _ C e tc h3) (fun a pn => hr.S c (X.suite a pn) (dcS dc) Wd.bot _ (G.suite Wd.bot a pn) _) fun B' W' pn xe tk hp => hr.S c (X.tr pn xe) dc B' W' (G.tr B' W' pn xe tk hp) body
    · exact l_neverS
  · exact l_neverS
def foS (dc : Dc) (E : Expr → DE) (db : DS) (tg it : Expr) : DS := match tgOf dc tg with
  | some g => if (dc.top && !isSet it && dc.cm) = true then forD (itE dc E (isTup tg) it) g db else neverS
  | none => neverS
def st1 (r : Dc → XW → Ev) (dc : Dc) (W : XW) : Stmt → DS
  | .Expr e _ => if isComp e = true then neverS else dropD ((r dc W).E e)
  | .Return none _ => retN
  | .Return (some e) _ => retD ((r dc W).E e)
  | .Pass _ => nextD
  | .Break _ => brkD
  | .Continue _ => cntD
  | .If k a b _ => ifD ((r dc W).T k) ((r dc W).S a) ((r dc W).S b)
  | .While k b [] _ => if dc.top = true then whileD ((r dc W).T k) ((r dc W).S b) else neverS
  | .For tg it b [] _ => foS dc (r dc W).E ((r dc W).S b) tg it
  | .Assign [tg] e p => asgS r dc (r dc W).E p e tg
  | .Raise o o2 _ => rsS dc W (r dc W).E o o2
  | .Try body hs orelse fin _ => trS r dc W body hs orelse fin
  | _ => neverS
theorem s_st1 (hr : Sd r) (G : Gd c X dc B W) (st : Stmt) : PS X st (liftS c B (st1 r dc W st)) := by
  have hE := hr.E c X dc B W G
  have hT := hr.T c X dc B W G
  have hS := hr.S c X dc B W G
  unfold st1
  split
  · split
    · exact l_neverS
    · rename_i hc
      exact l_expr (hE _) (by simpa using hc)
  · exact l_retN
  · exact l_ret (hE _)
  · exact l_pass
  · exact l_break
  · exact l_cont
  · exact l_if (hT _) (hS _) (hS _)
  · split
    · rename_i ht
      exact l_while (G.top ht).2.2.2 (hT _) (hS _)
    · exact l_neverS
  · unfold foS
    split
    · rename_i g hg
      split
      · rename_i hh
        simp only [Bool.and_eq_true, Bool.not_eq_true'] at hh
        exact l_for (G.top hh.1.1).2.2.2 (G.calm hh.2) (s_itE G hE) (s_tgOf G _ _ hg) (hS _) (folded_no hh.1.2)
      · exact l_neverS
    · exact l_neverS
  · exact s_asgS hr G hE
  · exact s_rsS G hE
  · exact s_trS hr G
  · exact l_neverS
def stmL (r : Dc → XW → Ev) (dc : Dc) (W : XW) : List Stmt → DS
  | [] => nextD
  | s :: ss => seqD (st1 r dc W s) (stmL r dc W ss)
theorem s_stmL (hr : Sd r) (G : Gd c X dc B W) : ∀ ss, PSs X ss (liftS c B (stmL r dc W ss))
  | [] => l_nil
  | s :: ss => l_cons (s_st1 hr G s) (s_stmL hr G ss)
end
def ev : Nat → Dc → XW → Ev
  | 0, _, _ => ⟨fun _ => never, fun _ => neverT, fun _ => neverS⟩
  | n + 1, dc, W => ⟨stE (ev n) dc W, stT (ev n) dc W, stmL (ev n) dc W⟩
theorem ev_ok : ∀ n, Sd (ev n)
  | 0 => ⟨fun _ _ _ _ _ _ _ => l_never, fun _ _ _ _ _ _ _ => l_neverT, fun _ _ _ _ _ _ _ => l_neverSs⟩
  | n + 1 => ⟨fun c X dc B W G e => s_stE (ev_ok n) G e, fun c X dc B W G e => s_stT (ev_ok n) G e, fun c X dc B W G ss => s_stmL (ev_ok n) G ss⟩
end TL

set_option Elab.async false
set_option linter.all false
set_option maxRecDepth 100000
set_option maxHeartbeats 4000000
set_option autoImplicit false
/-! TL13: the module: its defs one by one, the law's call, the head's facts. -/
namespace TL
open PySem PySem.Spec PyProof.Rows L2

/-- what is fixed of a module for all its defs -/
structure Md where
  sub : Str → Str → Bool
  exs : List Str
  cat : List Str
  cst : Str → Option T
  mu : Pos → Bool
structure Mo (c : Ct) (md : Md) : Prop where
  glo : ∀ x t, md.cst x = some t → c.glo x = some t
  blt : ∀ x, x ∈ bltNames → c.mg x = none
  isa : IsaOk c.K c.tc md.sub
  exm : ∀ a C b D, c.tc a = some C → c.tc b = some D → b ∈ md.cat → PySem.W.exmOne c.K (.ref C) (.ref D) = some (md.sub a b)
  cats : ∀ x, x ∈ md.cat → ∃ C, c.tc x = some C ∧ c.mg x = some (.ref C)
  exs : ∀ x, x ∈ md.exs → ∃ C, c.tc x = some C ∧ c.mg x = some (.ref C) ∧ PySem.W.keepIn c.K (.ref C) = true ∧ PySem.W.subIn c.K (.ref C) (.type "BaseException") = some true ∧ PySem.W.typeIn c.K (.ref C) = some (.type "type") ∧
    ∃ B newId initId bmB, ExcBaseFacts B newId initId bmB ∧ PySem.W.excIn c.K C bmB newId = true
def dcOf (md : Md) (N : List Str) (sc : Scope) (fns : List (Str × Nat × TSp)) : Dc := ⟨N, sc, fun _ => true, fns, md.sub, md.exs, md.cat, md.cst, md.mu, true, true, [], [], []⟩
/-- with defs that are called in an except suite -/
def dcOfH (md : Md) (N : List Str) (sc : Scope) (fns hot : List (Str × Nat × TSp)) : Dc := { dcOf md N sc fns with hot := hot }
/-- such a def's own -/
def dcHot (md : Md) (N : List Str) (sc : Scope) : Dc := ⟨N, sc, fun _ => true, [], md.sub, [], md.cat, md.cst, md.mu, false, false, [], [], []⟩
theorem lookup_memS {x f : Str} : ∀ {l : List (Str × Str)}, l.lookup x = some f → (x, f) ∈ l
  | [], h => by simp at h
  | (y, u) :: r, h => by
    rw [List.lookup_cons] at h
    split at h
    · rename_i e
      have e : x = y := by simpa using e
      cases h; subst e; exact List.mem_cons_self
    · exact List.mem_cons_of_mem _ (lookup_memS h)
/-- the defs so far -/
def FnsOk (c : Ct) (P : Program) (w : World) (base : Heap) (k : Nat) (fns : List (Str × Nat × TSp)) : Prop :=
  ∀ x n sp, fns.lookup x = some (n, sp) → ∃ f fd ps, FnG c P w c.K c.mg base k f fd ps sp ∧ ps.length = n ∧ c.mg x = some (.ref f) ∧ PySem.W.keepIn c.K (.ref f) = true ∧ Binds c.K fd ps []
section
variable {c : Ct} {md : Md} {P : Program} {w : World} {base : Heap} {k : Nat} {fns : List (Str × Nat × TSp)} {x qual : Str} {params : Arguments} {body : List Stmt} {scope : Scope} {f : Addr} {fd : FuncData} {N ps : List Str} {sp : TSp}
theorem FnG.mono {j : Nat} (G : FnG c P w c.K c.mg base j f fd ps sp) (h : j ≤ k) : FnG c P w c.K c.mg base k f fd ps sp :=
  ⟨G.len, fun A outer s H args us vs Q E hr => G.run A outer s H args us vs Q E (hr.mono h)⟩
theorem FnsOk.nil : FnsOk c P w base k [] := fun _ _ _ h => by simp at h
theorem FnsOk.add {n : Nat} (h : FnsOk c P w base k fns) (G : FnG c P w c.K c.mg base (k + 1) f fd ps sp) (hn : ps.length = n) (hm : c.mg x = some (.ref f)) (hk : PySem.W.keepIn c.K (.ref f) = true) (hb : Binds c.K fd ps []) : FnsOk c P w base (k + 1) ((x, n, sp) :: fns) := by
  intro y m sp' hy
  rw [List.lookup_cons] at hy
  split at hy
  · rename_i e
    have e : y = x := by simpa using e
    cases hy
    subst e
    exact ⟨f, fd, ps, G, hn, hm, hk, hb⟩
  · obtain ⟨f', fd', ps', G', r⟩ := h y m sp' hy
    exact ⟨f', fd', ps', G'.mono (Nat.le_succ k), r⟩
/-- the base lets great divisions go -/
structure PyB (P : Program) (base : Heap) : Prop where
  seer : base.NoSeer
  lim : base.NoLimit
  tree : P.given.tree = none
/-- THE RULE for a def of the module -/
theorem fn_ev (hp : PyB P base) (h35 : 35 ≤ k) (M : Mo c md) (h : FnsOk c P w base k fns) (F : FunD c.K x qual params body scope [] [] f fd) (SC : FnScope N ps scope) (len : ∀ ts S Q E, sp ts S Q E → ts.length = ps.length) (n : Nat)
    (law : ∀ ts S Q E, sp ts S Q E → (ev n (dcOf md N scope fns) (fun x _ S' => E x S')).S body { nx := fun _ S' => Q .non S', rt := Q } (start' N.length ts) S) : FnG c P w c.K c.mg base (k + 1) f fd ps sp := by
  obtain ⟨oc, od, dV, kV, doc, pm, an, cdv, ct, osl, rfl, lk, hcd, _, _⟩ := F.ex
  refine fnG_of lk hcd SC len (fun W => (ev n (dcOf md N scope fns) W).S body) (fun A outer s H E B W e0 hr hg tk => ?_) law
  refine (ev_ok n).S c _ (dcOf md N scope fns) B W ?_ body
  exact {
    sv := ⟨rfl, rfl, fun A' hf hd s' hk => PySem.PylongRoom.of (hp.lim.keeps hk) (by
      have := hr.dp
      rw [hd]
      have e : Builtin.pylongFrames = 100 := rfl
      show (A.deeper _).depth + Builtin.pylongFrames < recursionLimit
      omega) (PySem.SeerAt.of (hp.seer.keeps hk) hp.tree (hf.trans (PySem.Around.frames_deeper e0.frames)) SC.gen SC.co rfl rfl), let ⟨mm, hm, _⟩ := hp.seer.mods; ⟨mm, hm⟩⟩
    N := rfl
    nd := SC.nd
    sc := rfl
    kd := SC.kind
    calm := fun _ => rfl
    gd := hg
    un := by have := hr.un; show (A.deeper _).units + 65 < cLine; omega
    own := fun _ _ => rfl
    glo := M.glo
    blt := M.blt
    fn := fun y m sp' hy => by
      obtain ⟨f', fd', ps', G', h1, h2, h3, h4⟩ := h y m sp' hy
      exact ⟨k, f', fd', ps', G', h1, hr, h2, h3, h4⟩
    hot := fun y m sp' hy => by simp [dcOf] at hy
    tk := tk
    isa := M.isa
    exm := M.exm
    cats := M.cats
    exs := fun y hy => by
      obtain ⟨C, h1, h2, h3, h4, h5, h6⟩ := M.exs y hy
      exact ⟨C, h1, ⟨h6, h2, h3, raises_own h4 h5⟩⟩
    oin := fun y f hy => by simp [dcOf, dcOfH] at hy
    ofd := fun y f hy => by simp [dcOf, dcOfH] at hy
    top := fun _ => ⟨rfl, rfl, rfl, passes_of rfl⟩ }
def oinL : List (Str × Str) := [("NoText", "at"), ("NoLater", "number")]
/-- classes with their own __init__ that keeps a field -/
def OinsOk (c : Ct) (P : Program) (w : World) (base : Heap) (oin : List (Str × Str)) : Prop :=
  ∀ x f, (x, f) ∈ oin → ∃ (C fI : Addr) (fd : FuncData) (ps : List Str), c.tc x = some C ∧ c.mg x = some (.ref C) ∧ OexC c.K C ∧ PySem.W.findIn c.K (.ref C) "__init__" = some (some (.ref fI)) ∧ PySem.W.typeIn c.K (.ref fI) = some (.type "function") ∧ FnOk P w c.K c.mg base CX0 1 fI fd ps (spIn C f) ∧ Binds c.K fd ps [] ∧
    XfC c.K C ∧ PySem.W.findIn c.K (.ref C) f = some none
def dcOfO (md : Md) (N : List Str) (sc : Scope) (fns : List (Str × Nat × TSp)) (oin : List (Str × Str)) : Dc := { dcOf md N sc fns with oin := oin, ofd := oin }
/-- THE RULE for a def that raises such, or reads their fields -/
theorem fn_evO {oin : List (Str × Str)} (hp : PyB P base) (h35 : 35 ≤ k) (M : Mo c md) (O : OinsOk c P w base oin) (h : FnsOk c P w base k fns) (F : FunD c.K x qual params body scope [] [] f fd) (SC : FnScope N ps scope) (len : ∀ ts S Q E, sp ts S Q E → ts.length = ps.length) (n : Nat)
    (law : ∀ ts S Q E, sp ts S Q E → (ev n (dcOfO md N scope fns oin) (fun x _ S' => E x S')).S body { nx := fun _ S' => Q .non S', rt := Q } (start' N.length ts) S) : FnG c P w c.K c.mg base (k + 1) f fd ps sp := by
  obtain ⟨oc, od, dV, kV, doc, pm, an, cdv, ct, osl, rfl, lk, hcd, _, _⟩ := F.ex
  refine fnG_of lk hcd SC len (fun W => (ev n (dcOfO md N scope fns oin) W).S body) (fun A outer s H E B W e0 hr hg tk => ?_) law
  refine (ev_ok n).S c _ (dcOfO md N scope fns oin) B W ?_ body
  exact {
    sv := ⟨rfl, rfl, fun A' hf hd s' hk => PySem.PylongRoom.of (hp.lim.keeps hk) (by
      have := hr.dp
      rw [hd]
      have e : Builtin.pylongFrames = 100 := rfl
      show (A.deeper _).depth + Builtin.pylongFrames < recursionLimit
      omega) (PySem.SeerAt.of (hp.seer.keeps hk) hp.tree (hf.trans (PySem.Around.frames_deeper e0.frames)) SC.gen SC.co rfl rfl), let ⟨mm, hm, _⟩ := hp.seer.mods; ⟨mm, hm⟩⟩
    N := rfl
    nd := SC.nd
    sc := rfl
    kd := SC.kind
    calm := fun _ => rfl
    gd := hg
    un := by have := hr.un; show (A.deeper _).units + 65 < cLine; omega
    own := fun _ _ => rfl
    glo := M.glo
    blt := M.blt
    fn := fun y m sp' hy => by
      obtain ⟨f', fd', ps', G', h1, h2, h3, h4⟩ := h y m sp' hy
      exact ⟨k, f', fd', ps', G', h1, hr, h2, h3, h4⟩
    hot := fun y m sp' hy => by simp [dcOfO, dcOf] at hy
    tk := tk
    isa := M.isa
    exm := M.exm
    cats := M.cats
    exs := fun y hy => by
      obtain ⟨C, h1, h2, h3, h4, h5, h6⟩ := M.exs y hy
      exact ⟨C, h1, ⟨h6, h2, h3, raises_own h4 h5⟩⟩
    oin := fun y f hy => by
      obtain ⟨C, fI, fd', ps', h1, h2, h3, h4, h5, h6, h7, _, _⟩ := O y f (lookup_memS hy)
      exact ⟨C, fI, 1, fd', ps', h1, h2, h3, h4, h5, h6, hr.mono (by omega), h7⟩
    ofd := fun y f hy => by
      obtain ⟨C, fI, fd', ps', h1, h2, h3, h4, h5, h6, h7, h8, h9⟩ := O y f hy
      refine ⟨fun C' e => ?_⟩
      rw [h1] at e
      cases e
      exact ⟨h8, h9⟩
    top := fun _ => ⟨rfl, rfl, rfl, passes_of rfl⟩ }
/-- the defs called in except suites, so far -/
def HotOk (c : Ct) (P : Program) (w : World) (base : Heap) (k : Nat) (hot : List (Str × Nat × TSp)) : Prop :=
  ∀ x n sp, hot.lookup x = some (n, sp) → ∃ f fd ps, FnHt c P w c.K c.mg base k f fd ps sp ∧ ps.length = n ∧ c.mg x = some (.ref f) ∧ PySem.W.keepIn c.K (.ref f) = true ∧ Binds c.K fd ps []
/-- THE RULE for a def of the module that calls in an except suite -/
theorem fn_evH {hot : List (Str × Nat × TSp)} (hp : PyB P base) (h35 : 35 ≤ k) (M : Mo c md) (h : FnsOk c P w base k fns) (ho : HotOk c P w base k hot) (F : FunD c.K x qual params body scope [] [] f fd) (SC : FnScope N ps scope) (len : ∀ ts S Q E, sp ts S Q E → ts.length = ps.length) (n : Nat)
    (law : ∀ ts S Q E, sp ts S Q E → (ev n (dcOfH md N scope fns hot) (fun x _ S' => E x S')).S body { nx := fun _ S' => Q .non S', rt := Q } (start' N.length ts) S) : FnG c P w c.K c.mg base (k + 1) f fd ps sp := by
  obtain ⟨oc, od, dV, kV, doc, pm, an, cdv, ct, osl, rfl, lk, hcd, _, _⟩ := F.ex
  refine fnG_of lk hcd SC len (fun W => (ev n (dcOfH md N scope fns hot) W).S body) (fun A outer s H E B W e0 hr hg tk => ?_) law
  refine (ev_ok n).S c _ (dcOfH md N scope fns hot) B W ?_ body
  exact {
    sv := ⟨rfl, rfl, fun A' hf hd s' hk => PySem.PylongRoom.of (hp.lim.keeps hk) (by
      have := hr.dp
      rw [hd]
      have e : Builtin.pylongFrames = 100 := rfl
      show (A.deeper _).depth + Builtin.pylongFrames < recursionLimit
      omega) (PySem.SeerAt.of (hp.seer.keeps hk) hp.tree (hf.trans (PySem.Around.frames_deeper e0.frames)) SC.gen SC.co rfl rfl), let ⟨mm, hm, _⟩ := hp.seer.mods; ⟨mm, hm⟩⟩
    N := rfl
    nd := SC.nd
    sc := rfl
    kd := SC.kind
    calm := fun _ => rfl
    gd := hg
    un := by have := hr.un; show (A.deeper _).units + 65 < cLine; omega
    own := fun _ _ => rfl
    glo := M.glo
    blt := M.blt
    fn := fun y m sp' hy => by
      obtain ⟨f', fd', ps', G', h1, h2, h3, h4⟩ := h y m sp' hy
      exact ⟨k, f', fd', ps', G', h1, hr, h2, h3, h4⟩
    hot := fun y m sp' hy => by
      obtain ⟨f', fd', ps', G', h1, h2, h3, h4⟩ := ho y m sp' hy
      exact ⟨k, f', fd', ps', G', h1, L2H.roomH_of hr, h2, h3, h4⟩
    tk := tk
    isa := M.isa
    exm := M.exm
    cats := M.cats
    exs := fun y hy => by
      obtain ⟨C, h1, h2, h3, h4, h5, h6⟩ := M.exs y hy
      exact ⟨C, h1, ⟨h6, h2, h3, raises_own h4 h5⟩⟩
    oin := fun y f hy => by simp [dcOf, dcOfH] at hy
    ofd := fun y f hy => by simp [dcOf, dcOfH] at hy
    top := fun _ => ⟨rfl, rfl, rfl, passes_of rfl⟩ }
/-- THE RULE for a def that is called in an except suite -/
theorem fn_hot (hp : PyB P base) (h35 : 35 ≤ k) (M : Mo c md) (F : FunD c.K x qual params body scope [] [] f fd) (SC : FnScope N ps scope) (len : ∀ ts S Q E, sp ts S Q E → ts.length = ps.length) (n : Nat)
    (law : ∀ ts S Q, sp ts S Q (fun _ _ => False) → (ev n (dcHot md N scope) (fun _ _ _ => False)).S body { nx := fun _ S' => Q .non S', rt := Q } (start' N.length ts) S) : FnHt c P w c.K c.mg base (k + 1) f fd ps sp := by
  obtain ⟨oc, od, dV, kV, doc, pm, an, cdv, ct, osl, rfl, lk, hcd, _, _⟩ := F.ex
  refine fnHt_of lk hcd SC len (fun W => (ev n (dcHot md N scope) W).S body) (fun A outer s H p e0 hr hg => ?_) law
  refine (ev_ok n).S c _ (dcHot md N scope) Wd.bot (fun _ _ _ => False) ?_ body
  exact {
    sv := ⟨rfl, rfl, fun A' hf hd s' hk => PySem.PylongRoom.of (hp.lim.keeps hk) (by
      have := hr.dp
      rw [hd]
      have e : Builtin.pylongFrames = 100 := rfl
      show (A.deeper _).depth + Builtin.pylongFrames < recursionLimit
      omega) (PySem.SeerAt.of (hp.seer.keeps hk) hp.tree (hf.trans (PySem.Around.frames_deeper e0.frames)) SC.gen SC.co rfl rfl), let ⟨mm, hm, _⟩ := hp.seer.mods; ⟨mm, hm⟩⟩
    N := rfl
    nd := SC.nd
    sc := rfl
    kd := SC.kind
    calm := fun z => by cases z
    gd := hg
    un := by have := hr.un; show (A.deeper _).units + 65 < cLine; omega
    own := fun _ _ => rfl
    glo := M.glo
    blt := M.blt
    fn := fun y m sp' hy => by simp [dcHot] at hy
    hot := fun y m sp' hy => by simp [dcHot] at hy
    tk := fun u s' ⟨_, _, _, _, _, _, _, _, _, _, _, _, _, _, _, _, _, _, _, _, _, _, _, _, w⟩ => (show False from w).elim
    isa := M.isa
    exm := M.exm
    cats := M.cats
    exs := fun y hy => by simp [dcHot] at hy
    oin := fun y f hy => by simp [dcHot] at hy
    ofd := fun y f hy => by simp [dcHot] at hy
    top := fun z => by cases z }
end

section
variable {c : Ct} {P : Program} {w : World} {base : Heap} {k : Nat} {hot : List (Str × Nat × TSp)} {x : Str} {f : Addr} {fd : FuncData} {ps : List Str} {sp : TSp}
theorem HotOk.nil : HotOk c P w base k [] := fun _ _ _ h => by simp at h
theorem HotOk.mono {j : Nat} (h : HotOk c P w base j hot) (hk : j ≤ k) : HotOk c P w base k hot := fun x n sp hx => by
  obtain ⟨f, fd, ps, G, r⟩ := h x n sp hx
  exact ⟨f, fd, ps, G.mono hk, r⟩
theorem HotOk.add {n : Nat} (h : HotOk c P w base k hot) (G : FnHt c P w c.K c.mg base (k + 1) f fd ps sp) (hn : ps.length = n) (hm : c.mg x = some (.ref f)) (hk : PySem.W.keepIn c.K (.ref f) = true) (hb : Binds c.K fd ps []) : HotOk c P w base (k + 1) ((x, n, sp) :: hot) := by
  intro y m sp' hy
  rw [List.lookup_cons] at hy
  split at hy
  · rename_i e
    have e : y = x := by simpa using e
    cases hy
    subst e
    exact ⟨f, fd, ps, G, hn, hm, hk, hb⟩
  · obtain ⟨f', fd', ps', G', r⟩ := h y m sp' hy
    exact ⟨f', fd', ps', G'.mono (Nat.le_succ k), r⟩
end

/-- the promise of nothing -/
def spF : TSp := fun _ _ _ _ => False
theorem fnG_F {c : Ct} {P : Program} {w : World} {K : PySem.W.Frag} {mg : Str → Option Value} {base : Heap} {k : Nat} {f : Addr} {fd : FuncData} {ps : List Str} : FnG c P w K mg base k f fd ps spF :=
  ⟨fun _ _ _ _ h => h.elim, fun _ _ _ _ _ _ _ _ _ _ _ _ _ _ h => by
    obtain ⟨_, _, _, _, _, _, _, h, _⟩ := h
    exact h.elim⟩
/-! ### the law's call -/
theorem lawG {c : Ct} {P : Program} {w : World} {mb : Str → Option Value} {k : Nat} {fa a : Addr} {fd : FuncData} {x : Str} {sp : TSp} {s₁ : Shared} {vs : List Value} {ns : List Int}
    (KX : c.K.In s₁.heap) (hns : s₁.heap.Ns mainGlobals c.mg) (hb : s₁.heap.Ns builtinsNs mb) (hbb : ∀ x : Str, x ≠ "__name__" → mb x = bootBuiltins x) (hlim : s₁.heap.NoLimit) (hg : s₁.gens = #[])
    (ha : s₁.heap.get? a = some { cls := .type "list", data := .seq vs.toArray }) (hi : IntsAre vs ns) (hl : ns.length ≤ sizeLine) (hr : Room k callerA)
    (hglo : ∀ F x t, c.glo x = some t → ∃ v u, c.mg x = some u ∧ RelV v u ∧ TR c F t v)
    (hse : s₁.heap.NoSeer) (hgt : P.given.tree = none) (Fn : ∀ base : Heap, c.K.In base → base.Ns mainGlobals c.mg → PyB P base → FnG c P w c.K c.mg base k fa fd [x] sp) (hbind : ∀ (s : Shared) (u : Value), BindsTo s fd ⟨[u], []⟩ [(x, u)])
    (hsp : sp [.lst (ns.map T.int)] (fun _ => none) (fun t _ => t = .bl true) fun _ _ => False) :
    codeAny (model P w) callerA (.call (.ref fa) ⟨[.ref a], []⟩) (fun r s' => r = .ok (.ret (.bool true)) ∧ OldK s₁.heap s'.heap ∧ s'.os = s₁.os ∧ AllBare s'.gens) s₁ := by
  have rv := vals_ints hi
  have lenV := hi.length
  have trs : ∀ F : FF, ∀ l : List Int, TRs c F (l.map T.int) (l.map V.int) := fun F l => by
    induction l with
    | nil => exact .nil
    | cons i l ih => exact .cons (.int i) ih
  have core : ∀ (H : Hp) (F : FF), Only H → HRel c F (fun _ => none) H → TR c F (.lst (ns.map T.int)) (.ref a) → HOk P w H s₁.heap → (∀ b, H b ≠ none → b = a) → (H a ≠ none → c.K.lookup a = none) →
      codeAny (model P w) callerA (.call (.ref fa) ⟨[.ref a], []⟩) (fun r s' => r = .ok (.ret (.bool true)) ∧ OldK s₁.heap s'.heap ∧ s'.os = s₁.os ∧ AllBare s'.gens) s₁ := by
    intro H F hO hrel htr hok hA hK
    have base_of : ∀ {b : Addr} {o : Obj}, s₁.heap.get? b = some o → H b = none → (hidT s₁.heap H).get? b = some o := fun e n => hidT_get e n
    have noA : ∀ {b : Addr} {o : Obj} {es : Array DictEntry} {ep : Nat}, s₁.heap.get? b = some o → o.data = .dict es ep → H b = none := fun {b o es ep} e d => by
      cases q : H b with
      | none => rfl
      | some u =>
        have e' : b = a := hA b (by rw [q]; simp)
        subst e'
        rw [ha] at e; cases e
        have d' : Data.seq vs.toArray _ = Data.dict es ep := d
        cases d'
    have nsK : ∀ {b : Addr} {m : Str → Option Value}, s₁.heap.Ns b m → (hidT s₁.heap H).Ns b m := fun {b m} ⟨o, es, ep, e, d, r⟩ => ⟨o, es, ep, base_of e (noA e d), d, r⟩
    have hKb : c.K.In (hidT s₁.heap H) := fun b o e => base_of (KX b o e) (by
      cases q : H b with
      | none => rfl
      | some u =>
        have e' : b = a := hA b (by rw [q]; simp)
        subst e'
        rw [hK (by rw [q]; simp)] at e; cases e)
    have hM : Mod c.K c.mg (hidT s₁.heap H) := ⟨hKb, nsK hns, ⟨mb, nsK hb, hbb⟩, let ⟨mc, h1, h2⟩ := hlim; ⟨mc, nsK h1, h2⟩⟩
    have hP : PyB P (hidT s₁.heap H) := by
      refine ⟨⟨?_, ?_, ?_, ?_⟩, ?_, hgt⟩
      · obtain ⟨mc, h1, h2⟩ := hse.statics; exact ⟨mc, nsK h1, h2⟩
      · obtain ⟨mc, h1, h2⟩ := hse.mods; exact ⟨mc, nsK h1, h2⟩
      · obtain ⟨mc, h1, h2⟩ := hse.imp; exact ⟨mc, nsK h1, h2⟩
      · obtain ⟨mg', bm, ob, h1, h2, h3, h4, h5⟩ := hse.main
        refine ⟨mg', bm, ob, nsK h1, h2, base_of h3 ?_, h4, h5⟩
        cases q : H bm with
        | none => rfl
        | some u =>
          have e' : bm = a := hA bm (by rw [q]; simp)
          rw [e', ha] at h3; cases h3
          have h4' : Value.type "list" = Value.type "module" := h4
          simp at h4'
      · obtain ⟨mc, h1, h2⟩ := hlim; exact ⟨mc, nsK h1, h2⟩
    have e0 : Env0 P w c.K c.mg (hidT s₁.heap H) callerA [] s₁ H := ⟨rfl, hM, fun b o e => of_hidT e, Nat.le_of_eq (hidT_size _ _), trivial, fun b hb => absurd (show b ∈ ([] : List Addr) from hb) (by simp), hok, .of_eq hg⟩
    refine codeAny_mono ((Fn _ hKb (nsK hns) hP).run callerA [] s₁ H ⟨[.ref a], []⟩ [.ref a] [.ref a] (fun v _ => v = .bl true) (fun _ _ _ => False) hr rfl e0 (hbind s₁ (.ref a)) (.cons rfl .nil) ⟨F, _, [_], _, _, hrel, .cons htr .nil, hsp, fun v H' ⟨_, _, _, _, _, tr, e⟩ => by subst e; exact tr.blI, fun _ _ _ _ _ _ h => h.elim⟩) fun r s' h => ?_
    cases r with
    | error e =>
      obtain ⟨_, _, _, _, _, _, _, _, _, _, _, _, h⟩ := (show L2.CX P w [] H s₁ (fun _ _ _ => False) e s' from h)
      exact h.elim
    | ok fl =>
      cases fl with
      | next => exact False.elim h
      | brk => exact False.elim h
      | cont => exact False.elim h
      | ret u =>
        obtain ⟨v, H', os, bare, un, hok', r', q⟩ := h
        have q' : v = .bl true := q
        subst q'
        obtain rfl : u = Value.bool true := r'
        refine ⟨rfl, OldK.of_keep fun b o e => ?_, os, bare⟩
        cases q : H b with
        | none => exact un.keep b o e q (by intro z; exact absurd (show b ∈ ([] : List Addr) from z) (by simp)) (by simp)
        | some u =>
          rcases hO b with z | ⟨ob, xs, z⟩
          · rw [q] at z; cases z
          · have z2 := un.frzs b ob _ z
            obtain ⟨e1, _⟩ := hok b _ z
            obtain ⟨e2, _⟩ := hok' b _ z2
            rw [e] at e1; cases e1
            exact e2
  cases hk : c.K.lookup a with
  | some o =>
    have e := KX a o hk
    rw [ha] at e
    cases e
    refine core (fun _ => none) (fun _ => none) (fun _ => .inl rfl) ⟨fun _ _ z => (by cases z), fun _ _ z => (by cases z), hglo _⟩ (.klst ⟨vs.toArray, _, hk, by rw [List.size_toArray, lenV]; exact hl, by simpa using rv⟩ (trs _ ns)) (fun b u z => by have z' : (none : Option HO) = some u := z; cases z') (fun b z => absurd rfl z) fun z => absurd rfl z
  | none =>
    have hA : (fun b => if b = a then some (HO.frz { cls := .type "list", data := .seq vs.toArray } (.lst (ns.map V.int))) else none : Hp) a = some (.frz { cls := .type "list", data := .seq vs.toArray } (.lst (ns.map V.int))) := if_pos rfl
    refine core (fun b => if b = a then some (.frz { cls := .type "list", data := .seq vs.toArray } (.lst (ns.map V.int))) else none) (fupd (fun _ => none) a (.flst (ns.map V.int))) (fun b => ?_) ⟨fun b o e => ?_, fun _ _ z => (by cases z), hglo _⟩ (.flst fupd_same (trs _ ns)) (fun b u z => ?_) (fun b z => ?_) fun _ => hk
    · by_cases hb : b = a
      · exact .inr ⟨_, _, if_pos hb⟩
      · exact .inl (if_neg hb)
    · by_cases hb : b = a
      · subst hb
        rw [fupd_same] at e
        cases e
        exact ⟨_, if_pos rfl⟩
      · rw [fupd_ne hb] at e
        cases e
    · by_cases hb : b = a
      · have z' := (if_pos hb).symm.trans z
        cases z'
        subst hb
        exact ⟨ha, by rw [List.length_map]; exact hl, vs, _, rv, ha⟩
      · have z' := (if_neg hb).symm.trans z
        cases z'
    · by_cases hb : b = a
      · exact hb
      · exact absurd (if_neg hb) z
end TL

set_option Elab.async false
set_option linter.all false
set_option maxRecDepth 100000
set_option maxHeartbeats 4000000
set_option autoImplicit false
/-! TL14: what the head tells of the exceptions' classes. -/
namespace TL
open PySem PySem.Spec PyProof.Rows L2

/-- all exceptions stand right under one -/
def sub1 (top : Str) (a b : Str) : Bool := decide (a = b) || decide (b = top)
def exB (K : PySem.W.Frag) (C : Addr) : Bool :=
  (PySem.W.clsIn K C).isSome && (decide (PySem.W.findIn K (.ref C) "__getattribute__" = some (some (.builtin "BaseException.__getattribute__"))) && (decide (PySem.W.findIn K (.ref C) "__getattr__" = some none) && (decide (PySem.W.subIn K (.ref C) (.type "BaseException") = some true) &&
    (decide (PySem.W.findIn K (.ref C) "__class__" = some (some (.builtin "object.__class__"))) && (decide (PySem.W.specialIn K (.builtin "object.__class__") "__get__" = some (some (.builtin "getset_descriptor.__get__"))) && (decide (PySem.W.takesIn K (.builtin "object.__class__") = some true) && decide (PySem.W.mroIn K C (.type "object") = some true)))))))
theorem exB_ok {K : PySem.W.Frag} {C : Addr} (h : exB K C = true) : ExCls K C := by
  unfold exB at h
  simp only [Bool.and_eq_true, decide_eq_true_eq] at h
  exact ⟨h.1, h.2.1, h.2.2.1, h.2.2.2.1, h.2.2.2.2.1, h.2.2.2.2.2.1, h.2.2.2.2.2.2.1, h.2.2.2.2.2.2.2⟩
def plainT : List String := ["NoneType", "bool", "int", "str", "tuple", "list", "dict"]
def excT : List String := ["int", "bool", "str", "tuple", "list", "dict"]
def ka (K : PySem.W.Frag) (x : Str) : Addr := He.ga K x
/-- xs: the classes; ts: those that isinstance may be asked for; cat: those that are caught -/
def clB (sub : Str → Str → Bool) (xs cat : List Str) (K : PySem.W.Frag) : Bool :=
  (xs.all fun x => exB K (ka K x)) && ((xs.all fun b => plainT.all fun a => decide (PySem.W.kitOne K (.type a) (.ref (ka K b)) = some false)) && ((xs.all fun a => xs.all fun b => decide (PySem.W.kitOne K (.ref (ka K a)) (.ref (ka K b)) = some (sub a b))) &&
    ((xs.all fun a => decide (PySem.W.kitOne K (.ref (ka K a)) (.type "ValueError") = some true) && excT.all fun b => decide (PySem.W.kitOne K (.ref (ka K a)) (.type b) = some false)) && (xs.all fun a => cat.all fun b => decide (PySem.W.exmOne K (.ref (ka K a)) (.ref (ka K b)) = some (sub a b))))))
def tcOf (K : PySem.W.Frag) (xs : List Str) (x : Str) : Option Addr := if x ∈ xs then some (ka K x) else none
def gloOf (xs : List Str) (cst : Str → Option T) (x : Str) : Option T := if x ∈ xs then some (.cls x) else cst x
def ctOf (K : PySem.W.Frag) (mg : Str → Option Value) (xs : List Str) (cst : Str → Option T) : Ct := ⟨K, mg, gloOf xs cst, tcOf K xs, fun _ => none⟩
theorem tcOf_ok {K : PySem.W.Frag} {xs : List Str} {x : Str} {C : Addr} (h : tcOf K xs x = some C) : x ∈ xs ∧ C = ka K x := by
  unfold tcOf at h
  split at h
  · cases h; exact ⟨by assumption, rfl⟩
  · cases h
theorem isa_of {K : PySem.W.Frag} {sub : Str → Str → Bool} {xs cat : List Str} (h : clB sub xs cat K = true) : IsaOk K (tcOf K xs) sub ∧ ∀ a C b D, tcOf K xs a = some C → tcOf K xs b = some D → b ∈ cat → PySem.W.exmOne K (.ref C) (.ref D) = some (sub a b) := by
  unfold clB at h
  simp only [Bool.and_eq_true, List.all_eq_true, decide_eq_true_eq] at h
  obtain ⟨h1, h2, h3, h4, h5⟩ := h
  refine ⟨⟨fun x C e => ?_, fun a b C e ha => ?_, fun a b C D e1 e2 => ?_, fun a C b r e hr => ?_⟩, fun a C b D e1 e2 hb => ?_⟩
  · obtain ⟨m, rfl⟩ := tcOf_ok e
    exact exB_ok (h1 x m)
  · obtain ⟨m, rfl⟩ := tcOf_ok e
    exact h2 b m a ha
  · obtain ⟨m, rfl⟩ := tcOf_ok e1
    obtain ⟨m2, rfl⟩ := tcOf_ok e2
    exact h3 a m b m2
  · obtain ⟨m, rfl⟩ := tcOf_ok e
    obtain ⟨k1, k2⟩ := h4 a m
    simp only [isa] at hr
    by_cases q : b = "ValueError"
    · rw [if_pos q] at hr
      subst q; cases hr; exact k1
    · rw [if_neg q] at hr
      by_cases hm : b ∈ ["int", "bool", "str", "tuple", "list", "dict"]
      · rw [if_pos hm] at hr
        cases hr
        exact k2 b hm
      · rw [if_neg hm] at hr
        cases hr
  · obtain ⟨m, rfl⟩ := tcOf_ok e1
    obtain ⟨m2, rfl⟩ := tcOf_ok e2
    exact h5 a m b hb
/-- a head with facts of one's own -/
def hookE (n : Nat) (fa : List He.Fa) (fn : List He.DefD) (ex : PySem.W.Frag → Bool) : PySem.W.Hook where
  α := He.AlD × Bool
  obs := fun s => (He.obsDG n fa fn s.heap.get?, ex (He.frG s.heap.get? (He.asD s.heap.get? n)))
  val := fun _ => (He.valD fn, true)
  says := fun _ h => ∃ K : PySem.W.Frag, K.In h ∧ He.SaysD fa fn K ∧ ex K = true
  of := fun _ s e => ⟨He.frG s.heap.get? (He.asD s.heap.get? n), He.frG_in, (Prod.mk.inj e).1, (Prod.mk.inj e).2⟩
  keeps := fun _ _ _ ⟨K, hK, c⟩ k => ⟨K, PySem.W.Frag.In.keeps hK k, c⟩
def obE (n : Nat) (fa : List He.Fa) (fn : List He.DefD) (ex : PySem.W.Frag → Bool) (s : PySem.W.SharedT) : He.AlD × Bool := (He.obsDG n fa fn (HandSHeadRun.getT s), ex (He.frG (HandSHeadRun.getT s) (He.asD (HandSHeadRun.getT s) n)))
theorem obE_eq (n : Nat) (fa : List He.Fa) (fn : List He.DefD) (ex : PySem.W.Frag → Bool) (s : PySem.W.SharedT) : obE n fa fn ex s = (hookE n fa fn ex).obs s.abs := by
  have e : HandSHeadRun.getT s = s.abs.heap.get? := funext (HandSHeadRun.getT_eq s)
  unfold obE
  rw [e] <;> rfl
/-- the same with the statics' names -/
def asS (g : Addr → Option Obj) (n : Nat) : List Addr := He.asD g n ++ [cStatics]
def hookS (n : Nat) (fa : List He.Fa) (fn : List He.DefD) (ex : PySem.W.Frag → Bool) : PySem.W.Hook where
  α := He.AlD × Bool
  obs := fun s => (He.obsD fa fn (He.frG s.heap.get? (asS s.heap.get? n)), ex (He.frG s.heap.get? (asS s.heap.get? n)))
  val := fun _ => (He.valD fn, true)
  says := fun _ h => ∃ K : PySem.W.Frag, K.In h ∧ He.SaysD fa fn K ∧ ex K = true
  of := fun _ s e => ⟨He.frG s.heap.get? (asS s.heap.get? n), He.frG_in, (Prod.mk.inj e).1, (Prod.mk.inj e).2⟩
  keeps := fun _ _ _ ⟨K, hK, c⟩ k => ⟨K, PySem.W.Frag.In.keeps hK k, c⟩
def obS (n : Nat) (fa : List He.Fa) (fn : List He.DefD) (ex : PySem.W.Frag → Bool) (s : PySem.W.SharedT) : He.AlD × Bool := (He.obsD fa fn (He.frG (HandSHeadRun.getT s) (asS (HandSHeadRun.getT s) n)), ex (He.frG (HandSHeadRun.getT s) (asS (HandSHeadRun.getT s) n)))
theorem obS_eq (n : Nat) (fa : List He.Fa) (fn : List He.DefD) (ex : PySem.W.Frag → Bool) (s : PySem.W.SharedT) : obS n fa fn ex s = (hookS n fa fn ex).obs s.abs := by
  have e : HandSHeadRun.getT s = s.abs.heap.get? := funext (HandSHeadRun.getT_eq s)
  unfold obS
  rw [e] <;> rfl
theorem facts_mem {fa : List He.Fa} {fn : List He.DefD} {K : PySem.W.Frag} (c : He.SaysD fa fn K) {f : He.Fa} (h : f ∈ fa) : f.ok K = true := by
  obtain ⟨i, hi, e⟩ := List.mem_iff_getElem.mp h
  exact c.fact i (f := f) (by rw [List.getElem?_eq_getElem hi, e])
theorem defs_mem {fa : List He.Fa} {fn : List He.DefD} {K : PySem.W.Frag} (c : He.SaysD fa fn K) {d : He.DefD} (h : d ∈ fn) : ∃ fd, FunD K d.name d.qual d.params d.body d.scope (d.dvs K) (d.kws K) (He.fAd K d.at_) fd := by
  obtain ⟨i, hi, e⟩ := List.mem_iff_getElem.mp h
  exact c.def_ i (d := d) (by rw [List.getElem?_eq_getElem hi, e])
/-- the facts that every law's head asks: the builtin names free, the classes there, those that are raised -/
def faOf (xs exs : List Str) : List He.Fa := bltNames.map He.Fa.free ++ xs.map He.Fa.glo ++ exs.map He.Fa.exc
theorem mo_of {K : PySem.W.Frag} {h : Heap} {mg : Str → Option Value} {md : Md} {xs : List Str} {cst : Str → Option T} {ok : Str → Bool} (KX : K.In h) (G : h.Ns mainGlobals mg) (hf : ∀ f, f ∈ faOf xs md.exs → f.ok K = true) (hc : clB md.sub xs md.cat K = true)
    (hcst : md.cst = gloOf xs cst) (h1 : ∀ x, x ∈ md.exs → x ∈ xs) (h2 : ∀ x, x ∈ md.cat → x ∈ xs) : Mo (ctOf K mg xs cst) md := by
  obtain ⟨i1, i2⟩ := isa_of hc
  have glo : ∀ x, x ∈ xs → mg x = some (.ref (ka K x)) := fun x hx => He.glo_ok KX G (hf _ (by simp only [faOf, List.mem_append, List.mem_map]; exact .inl (.inr ⟨x, hx, rfl⟩)))
  have tc : ∀ x, x ∈ xs → tcOf K xs x = some (ka K x) := fun x hx => if_pos hx
  refine ⟨fun x t e => by rw [hcst] at e; exact e, fun x hx => He.free_ok KX G (hf _ (by simp only [faOf, List.mem_append, List.mem_map]; exact .inl (.inl ⟨x, hx, rfl⟩))), i1, i2, fun x hx => ⟨_, tc x (h2 x hx), glo x (h2 x hx)⟩, fun x hx => ?_⟩
  obtain ⟨e1, e2, e3, e4⟩ := He.exc_ok (hf (.exc x) (by simp only [faOf, List.mem_append, List.mem_map]; exact .inr ⟨x, hx, rfl⟩))
  exact ⟨_, tc x (h1 x hx), glo x (h1 x hx), e2, e3, e4, _, _, _, _, PySem.F.excBase_ValueError, e1⟩
/-- the classes' names as values -/
theorem glo_of {K : PySem.W.Frag} {h : Heap} {mg : Str → Option Value} {xs exs : List Str} {cst : Str → Option T} (KX : K.In h) (G : h.Ns mainGlobals mg) (hf : ∀ f, f ∈ faOf xs exs → f.ok K = true)
    (hcst : ∀ F x t, cst x = some t → ∃ v u, mg x = some u ∧ RelV v u ∧ TR (ctOf K mg xs cst) F t v) : ∀ F x t, (ctOf K mg xs cst).glo x = some t → ∃ v u, mg x = some u ∧ RelV v u ∧ TR (ctOf K mg xs cst) F t v := by
  intro F x t e
  have e : gloOf xs cst x = some t := e
  unfold gloOf at e
  split at e
  · rename_i hx
    cases e
    exact ⟨.ref (ka K x), _, He.glo_ok KX G (hf _ (by simp only [faOf, List.mem_append, List.mem_map]; exact .inl (.inr ⟨x, hx, rfl⟩))), rfl, .cls (if_pos hx)⟩
  · exact hcst F x t e

/-! ### classes with their own __init__ -/
def oin1B (K : PySem.W.Frag) (p : Str × Str) : Bool := oexB K (ka K p.1) && (decide (PySem.W.findIn K (.ref (ka K p.1)) "__init__" = some (some (.ref (He.ma K (ka K p.1) "__init__")))) && (decide (PySem.W.typeIn K (.ref (He.ma K (ka K p.1) "__init__")) = some (.type "function")) && (xfB K (ka K p.1) && decide (PySem.W.findIn K (.ref (ka K p.1)) p.2 = some none))))
def topB (K : PySem.W.Frag) : Bool := decide (PySem.W.specialIn K (.ref (ka K "BrineError")) "__getattribute__" = some (some (.builtin "type.__getattribute__"))) && (PySem.W.readsIn K (ka K "BrineError") (.type "type") && (match PySem.W.findCls K (.ref (ka K "BrineError")) (.type "type") "__init__" with
  | some (.val (.builtin n)) => n == "ValueError.__init__"
  | _ => false))
def oinB (K : PySem.W.Frag) : Bool := topB K && oinL.all (oin1B K)
def ctorBody : Stmt → Nat → Stmt
  | .ClassDef _ _ _ b _ _ _ _ _ _ _, i => b.getD i (.Pass ⟨0, 0, 0, 0⟩)
  | _, _ => .Pass ⟨0, 0, 0, 0⟩
theorem oin_of {K : PySem.W.Frag} {h : Heap} {mg : Str → Option Value} {xs : List Str} {cst : Str → Option T} {P : Program} {w : World} {base : Heap} {x f y qual m : Str} {params : Arguments} {body : List Stmt} {scope : Scope} {fd : FuncData} {q1 q2 q3 q4 q5 q6 q7 q8 q9 q10 : Pos} {j : Nat}
    (KX : K.In h) (G : h.Ns mainGlobals mg) (hb : oinB K = true) (hp : (x, f) ∈ oinL) (hx : x ∈ xs) (gx : (He.Fa.glo x).ok K = true) (gb : (He.Fa.glo "BrineError").ok K = true)
    (F : FunD K "__init__" qual params body scope [] [] (He.ma K (ka K x) "__init__") fd) (SC : FnScope ["self", y] ["self", y] scope)
    (hbd : body = [.Expr (.Call (.Attribute (.Name "BrineError" q1) "__init__" q2) [.Name "self" q3, .Constant (.str m) j q4] [] q5) q6, .Assign [.Attribute (.Name "self" q7) f q8] (.Name y q9) q10])
    (hc : ∀ env : Env, eval (.Call (.Attribute (.Name "BrineError" q1) "__init__" q2) [.Name "self" q3, .Constant (.str m) j q4] [] q5) env = (do
      let ov ← eval (.Name "BrineError" q1) env
      standAt q2.atName
      let (f, first) ← holding [ov] (getMethod ov "__init__" (do return (← importBound (.Name "BrineError" q1) env).getD true))
      callWith q5 f first (backTo q5 (starEach [.Name "self" q3, .Constant (.str m) j q4] env)) (backToKw q5 (keywordEach [] env))))
    (h0 : scope.names.lookup ("BrineError" : Str) = some .globalImplicit) (hs : scope.names.lookup ("self" : Str) = some .local) (hy : scope.names.lookup y = some .local) (dby : (y == ("__debug__" : Str)) = false) (dcy : (y == ("__classdict__" : Str)) = false)
    (hbi : Binds K fd ["self", y] []) :
    ∃ (C fI : Addr) (fd : FuncData) (ps : List Str), (ctOf K mg xs cst).tc x = some C ∧ mg x = some (.ref C) ∧ OexC K C ∧ PySem.W.findIn K (.ref C) "__init__" = some (some (.ref fI)) ∧ PySem.W.typeIn K (.ref fI) = some (.type "function") ∧ FnOk P w K mg base CX0 1 fI fd ps (spIn C f) ∧ Binds K fd ps [] ∧
      XfC K C ∧ PySem.W.findIn K (.ref C) f = some none := by
  unfold oinB at hb
  obtain ⟨ht, ha⟩ := Bool.and_eq_true_iff.mp hb
  have h1 := List.all_eq_true.mp ha _ hp
  unfold oin1B at h1
  simp only [Bool.and_eq_true, decide_eq_true_eq] at h1
  obtain ⟨e1, e2, e3, e4, e5⟩ := h1
  unfold topB at ht
  simp only [Bool.and_eq_true, decide_eq_true_eq] at ht
  obtain ⟨t1, t2, t3⟩ := ht
  have t3' : PySem.W.findCls K (.ref (ka K "BrineError")) (.type "type") "__init__" = some (.val (.builtin "ValueError.__init__")) := by
    split at t3
    · rename_i n e
      rw [e, show n = "ValueError.__init__" from by simpa using t3]
    · cases t3
  exact ⟨ka K x, He.ma K (ka K x) "__init__", fd, ["self", y], if_pos hx, He.glo_ok KX G gx, oexB_ok e1, e2, e3, init_ok F SC hbd hc h0 hs hy dby dcy (oexB_ok e1) e5 (He.glo_ok KX G gb) t1 t2 t3', hbi, xfB_ok e4, e5⟩
/-! ### constants of the module -/
mutual
def vB (K : PySem.W.Frag) : T → Value → Bool
  | .non, .none => true
  | .bl b, .bool c => b == c
  | .int i, .int j _ => decide (i = j)
  | .str x, .str y _ => decide (x = y)
  | .tup l, .ref a => (match K.lookup a with
    | some o => decide (o.cls = .type "tuple") && (match o.data with
      | .seq its _ => decide (its.size ≤ sizeLine) && vsB K l its.toList
      | _ => false)
    | none => false)
  | _, _ => false
def vsB (K : PySem.W.Frag) : List T → List Value → Bool
  | [], [] => true
  | t :: ts, u :: us => vB K t u && vsB K ts us
  | _, _ => false
end
section
variable {c : Ct} {F : FF}
mutual
theorem vB_ok : ∀ (t : T) (u : Value), vB c.K t u = true → ∃ v, RelV v u ∧ TR c F t v
  | .non, u, h => by
    cases u <;> first | exact ⟨.non, rfl, .non⟩ | (simp [vB] at h)
  | .bl b, u, h => by
    cases u <;> first | (simp [vB] at h; subst h; exact ⟨.bl _, rfl, .bl _⟩) | (simp [vB] at h)
  | .int b, u, h => by
    cases u <;> first | (simp [vB] at h; subst h; exact ⟨.int _, ⟨_, rfl⟩, .int _⟩) | (simp [vB] at h)
  | .str b, u, h => by
    cases u <;> first | (simp [vB] at h; subst h; exact ⟨.str _, ⟨_, rfl⟩, .str _⟩) | (simp [vB] at h)
  | .tup l, u, h => by
    cases u <;> try (simp [vB] at h; done)
    rename_i a
    unfold vB at h
    split at h
    · rename_i o e
      simp only [Bool.and_eq_true, decide_eq_true_eq] at h
      obtain ⟨h1, h⟩ := h
      split at h
      · rename_i its n e2
        simp only [Bool.and_eq_true, decide_eq_true_eq] at h
        obtain ⟨vs, r1, r2⟩ := vsB_ok l its.toList h.2
        exact ⟨.ref a, rfl, .ktup ⟨o, its, n, e, h1, e2, h.1, r1⟩ r2⟩
      · cases h
    · cases h
  | .lst _, u, h => by simp [vB] at h
  | .ref _, u, h => by simp [vB] at h
  | .dic, u, h => by simp [vB] at h
  | .exc _ _, u, h => by simp [vB] at h
  | .ty _, u, h => by simp [vB] at h
  | .cls _, u, h => by simp [vB] at h
theorem vsB_ok : ∀ (l : List T) (us : List Value), vsB c.K l us = true → ∃ vs, Vals vs us ∧ TRs c F l vs
  | [], [], _ => ⟨[], .nil, .nil⟩
  | t :: ts, u :: us, h => by
    simp only [vsB, Bool.and_eq_true] at h
    obtain ⟨v, r1, r2⟩ := vB_ok t u h.1
    obtain ⟨vs, r3, r4⟩ := vsB_ok ts us h.2
    exact ⟨v :: vs, .cons r1 r3, .cons r2 r4⟩
  | [], _ :: _, h => by simp [vsB] at h
  | _ :: _, [], h => by simp [vsB] at h
end
end
def cstB (K : PySem.W.Frag) (l : List (Str × T)) : Bool := l.all fun p => match PySem.W.nsIn K mainGlobals p.1 with
  | some (some u) => vB K p.2 u
  | _ => false
def cstOf (l : List (Str × T)) (x : Str) : Option T := l.lookup x
theorem lookup_mem {x : Str} {t : T} : ∀ {l : List (Str × T)}, l.lookup x = some t → (x, t) ∈ l
  | [], h => by simp at h
  | (y, u) :: r, h => by
    rw [List.lookup_cons] at h
    split at h
    · rename_i e
      have e : x = y := by simpa using e
      cases h; subst e; exact List.mem_cons_self
    · exact List.mem_cons_of_mem _ (lookup_mem h)
theorem cst_ok {K : PySem.W.Frag} {h : Heap} {mg : Str → Option Value} {l : List (Str × T)} {c : Ct} (hc : c.K = K) (KX : K.In h) (G : h.Ns mainGlobals mg) (hb : cstB K l = true) : ∀ F x t, cstOf l x = some t → ∃ v u, mg x = some u ∧ RelV v u ∧ TR c F t v := by
  intro F x t e
  have m := lookup_mem e
  unfold cstB at hb
  have := List.all_eq_true.mp hb _ m
  dsimp only at this
  split at this
  · rename_i u eu
    subst hc
    obtain ⟨v, r1, r2⟩ := vB_ok (F := F) t u this
    exact ⟨v, u, PySem.W.mg_of KX G eu, r1, r2⟩
  · cases this
end TL

set_option Elab.async false
set_option linter.all false
set_option maxRecDepth 100000
set_option maxHeartbeats 0
set_option autoImplicit false
namespace HH
open PySem PySem.W PySem.Spec PyProof.Rows L2
def top (i : Nat) : Stmt := PySem.Challenge.pw_brineways_k83_brines_written.main.body.getD i (.Pass ⟨0, 0, 0, 0⟩)
def mkd (n : Str) (i : Nat) : He.DefD := ⟨(n, none), n, n, defArgs (top i), defBody (top i), defScope (top i), [], []⟩
def xs : List Str := ["BrineError", "NoFraction", "NoText"]
def exs : List Str := ["NoFraction"]
def cat : List Str := []
def sub : Str → Str → Bool := TL.sub1 "BrineError"
def d_is_whole : He.DefD := mkd "is_whole" 6
def d_divisor : He.DefD := mkd "divisor" 7
def d_is_fraction : He.DefD := mkd "is_fraction" 8
def d_is_amount : He.DefD := mkd "is_amount" 9
def d_fraction : He.DefD := mkd "fraction" 10
def d_times : He.DefD := mkd "times" 11
def d_is_less : He.DefD := mkd "is_less" 12
def d_is_layer : He.DefD := mkd "is_layer" 14
def d_is_stronger : He.DefD := mkd "is_stronger" 15
def d_is_brine : He.DefD := mkd "is_brine" 16
def d_whole_of : He.DefD := mkd "whole_of" 21
def d_upper_of : He.DefD := mkd "upper_of" 22
def d_fraction_of : He.DefD := mkd "fraction_of" 23
def d_fraction_text : He.DefD := mkd "fraction_text" 24
def d_layer_text : He.DefD := mkd "layer_text" 25
def d_brine_text : He.DefD := mkd "brine_text" 26
def d_pair_of : He.DefD := mkd "pair_of" 27
def d_read_brine : He.DefD := mkd "read_brine" 28
def d__law_new_bag : He.DefD := mkd "_law_new_bag" 30
def d__law_draw : He.DefD := mkd "_law_draw" 31
def d__law_wide : He.DefD := mkd "_law_wide" 32
def d__law_divisor : He.DefD := mkd "_law_divisor" 33
def d__law_made : He.DefD := mkd "_law_made" 34
def d__law_a_part : He.DefD := mkd "_law_a_part" 35
def d__law_a_positive : He.DefD := mkd "_law_a_positive" 36
def d__law_times : He.DefD := mkd "_law_times" 37
def d__law_written : He.DefD := mkd "_law_written" 38
def d__law_a_full : He.DefD := mkd "_law_a_full" 39
def d__law_some_water : He.DefD := mkd "_law_some_water" 40
def d__law_a_brine : He.DefD := mkd "_law_a_brine" 41
def d__law_long_brine : He.DefD := mkd "_law_long_brine" 42
def d__law_a_text : He.DefD := mkd "_law_a_text" 43
def d__law_figures : He.DefD := mkd "_law_figures" 44
def d__law_long_text : He.DefD := mkd "_law_long_text" 45
def d__law_same : He.DefD := mkd "_law_same" 46
def d_law : He.DefD := mkd "law" 47
def fn : List He.DefD := [d_is_whole, d_divisor, d_is_fraction, d_is_amount, d_fraction, d_times, d_is_less, d_is_layer, d_is_stronger, d_is_brine, d_whole_of, d_upper_of, d_fraction_of, d_fraction_text, d_layer_text, d_brine_text, d_pair_of, d_read_brine, d__law_new_bag, d__law_draw, d__law_wide, d__law_divisor, d__law_made, d__law_a_part, d__law_a_positive, d__law_times, d__law_written, d__law_a_full, d__law_some_water, d__law_a_brine, d__law_long_brine, d__law_a_text, d__law_figures, d__law_long_text, d__law_same, d_law]
def fg : List He.Fa := [.glo "is_whole", .glo "divisor", .glo "is_fraction", .glo "is_amount", .glo "fraction", .glo "times", .glo "is_less", .glo "is_layer", .glo "is_stronger", .glo "is_brine", .glo "whole_of", .glo "upper_of", .glo "fraction_of", .glo "fraction_text", .glo "layer_text", .glo "brine_text", .glo "pair_of", .glo "read_brine", .glo "_law_new_bag", .glo "_law_draw", .glo "_law_wide", .glo "_law_divisor", .glo "_law_made", .glo "_law_a_part", .glo "_law_a_positive", .glo "_law_times", .glo "_law_written", .glo "_law_a_full", .glo "_law_some_water", .glo "_law_a_brine", .glo "_law_long_brine", .glo "_law_a_text", .glo "_law_figures", .glo "_law_long_text", .glo "_law_same", .glo "law"]
def fa : List He.Fa := TL.faOf xs exs ++ fg
def ls0 : List Str := ["BrineError", "NoFraction", "NoText", "is_whole", "divisor", "is_fraction", "is_amount", "fraction", "times", "is_less", "is_layer", "is_stronger", "is_brine", "whole_of", "upper_of", "fraction_of", "fraction_text", "layer_text", "brine_text", "pair_of", "read_brine", "_law_new_bag", "_law_draw", "_law_wide", "_law_divisor", "_law_made", "_law_a_part", "_law_a_positive", "_law_times", "_law_written"]
def ls1 : List Str := ["_law_a_full", "_law_some_water", "_law_a_brine", "_law_long_brine", "_law_a_text", "_law_figures", "_law_long_text", "_law_same", "NOUGHT", "FIGURES", "MOST_FIGURES", "NONE"]
def ls : List Str := ls0 ++ ls1
def cs : List (Str × TL.T) := [
("NOUGHT", (.tup [(.int 0), (.int 1)])), ("FIGURES", (.str "0123456789")), ("MOST_FIGURES", (.int 400)), ("NONE", (.str "none"))]
def exK : PySem.W.Frag → Bool := fun K => TL.clB sub xs cat K && TL.cstB K cs
abbrev R : PySem.W.OpenRow := PySem.W.OpenLaw.row PySem.Challenge.rw_brineways_k83_brines_written
abbrev hk : PySem.W.Hook := TL.hookE 2 fa fn exK
def ob : PySem.W.SharedT → He.AlD × Bool := TL.obE 2 fa fn exK
theorem ob_eq (s : PySem.W.SharedT) : ob s = hk.obs s.abs := TL.obE_eq 2 fa fn exK s
theorem run (w : World) : HandSHeadRun.RunEq R (PySem.W.view R.prog [47]) hk ob 6000 ls w := by
  intro os
  kernel_rfl
end HH

set_option Elab.async false
set_option linter.all false
set_option maxRecDepth 100000
set_option maxHeartbeats 4000000
set_option autoImplicit false
/-! TLS: how the mirror trees are taken apart by simp; loops. -/
namespace TL
open PySem PySem.Spec PyProof.Rows L2

section
variable {D : Ends'} {τ : Sg} {S : SS} {d da db dc : DE} {ta tb : DT} {dA : DA} {Q : KQ} {QT : Bool → SS → Prop} {QA : List T → SS → Prop} {d1 d2 : DS} {W : XW}
@[simp] theorem slv : sizeLine = 16777216 := rfl
@[simp] theorem q_seq : seqD d1 d2 D τ S = d1 { nx := d2 D, rt := D.rt, bk := D.bk, ct := D.ct } τ S := rfl
@[simp] theorem q_next : nextD D τ S = D.nx τ S := rfl
@[simp] theorem q_brk : brkD D τ S = D.bk τ S := rfl
@[simp] theorem q_cnt : cntD D τ S = D.ct τ S := rfl
@[simp] theorem q_ret : retD d D τ S = d τ S D.rt := rfl
@[simp] theorem q_retN : retN D τ S = D.rt .non S := rfl
@[simp] theorem q_drop : dropD d D τ S = d τ S fun _ S1 => D.nx τ S1 := rfl
@[simp] theorem q_if : ifD ta d1 d2 D τ S = ta τ S fun k S1 => match k with
  | true => d1 D τ S1
  | false => d2 D τ S1 := rfl
@[simp] theorem q_asg {g : Tg} : asgD d g D τ S = d τ S fun t S1 => match bindT g t τ with
  | some τ1 => D.nx τ1 S1
  | none => False := rfl
@[simp] theorem q_sub {dq di : DE} : subAsg d dq di D τ S = d τ S fun v S1 => dq τ S1 fun o S2 => di τ S2 fun i S3 => setR o i v S3 fun S4 => D.nx τ S4 := rfl
@[simp] theorem q_slAsg {dq : DE} {dl dh : DO} : slAsg dA dq dl dh D τ S = dA τ S fun m S1 => m.length ≤ sizeLine ∧ dq τ S1 fun o S2 => dl τ S2 fun lo S3 => dh τ S3 fun hi S4 => slSetR o lo hi m S4 fun S5 => D.nx τ S5 := rfl
theorem q_slSetR {a : Addr} {l m : List T} {lo hi : Option Int} {P : SS → Prop} (h : S a = some (.lst l)) : slSetR (.ref a) lo hi m S P = (l.length + m.length ≤ sizeLine ∧ P (supd S a (.lst (splV l m lo hi)))) := by
  unfold slSetR stL
  simp only [h]
@[simp] theorem q_raise {x : Str} : raiseD W x d D τ S = d τ S fun _ S1 => W ⟨x, none⟩ τ S1 := rfl
@[simp] theorem q_c {t : T} : cD t τ S Q = Q t S := rfl
@[simp] theorem q_op {r : T → T → SS → KQ → Prop} : opD r da db τ S Q = da τ S fun x S1 => db τ S1 fun y S2 => r x y S2 Q := rfl
@[simp] theorem q_tst : tstD d τ S QT = d τ S (asB QT) := rfl
@[simp] theorem q_asB {b : Bool} : asB QT (.bl b) S = QT b S := rfl
@[simp] theorem q_asI {P : Int → SS → Prop} {i : Int} : asI P (.int i) S = P i S := rfl
@[simp] theorem q_tru : truD d τ S QT = d τ S fun x S1 => truR x S1 QT := rfl
@[simp] theorem q_truB {b : Bool} : truR (.bl b) S QT = QT b S := rfl
@[simp] theorem q_truN : truR .non S QT = QT false S := rfl
@[simp] theorem q_truI {i : Int} : truR (.int i) S QT = QT (i != 0) S := rfl
@[simp] theorem q_truT {l : List T} : truR (.tup l) S QT = QT (!l.isEmpty) S := rfl
@[simp] theorem q_truL {l : List T} : truR (.lst l) S QT = QT (!l.isEmpty) S := rfl
@[simp] theorem q_andT : andT ta tb τ S QT = ta τ S fun k S1 => match k with
  | true => tb τ S1 QT
  | false => QT false S1 := rfl
@[simp] theorem q_orT : orT ta tb τ S QT = ta τ S fun k S1 => match k with
  | true => QT true S1
  | false => tb τ S1 QT := rfl
@[simp] theorem q_notT : notT ta τ S QT = ta τ S fun k S1 => QT (!k) S1 := rfl
@[simp] theorem q_andE : andE da db τ S Q = da τ S (asB fun k S1 => match k with
  | true => db τ S1 Q
  | false => Q (.bl false) S1) := rfl
@[simp] theorem q_orE : orE da db τ S Q = da τ S (asB fun k S1 => match k with
  | true => Q (.bl true) S1
  | false => db τ S1 Q) := rfl
@[simp] theorem q_notE : notE d τ S Q = d τ S fun x S1 => truR x S1 fun k S2 => Q (.bl (!k)) S2 := rfl
@[simp] theorem q_neg : negR d τ S Q = d τ S (asI fun i S1 => Q (.int (-i)) S1) := rfl
@[simp] theorem q_ifE : ifE ta da db τ S Q = ta τ S fun k S1 => match k with
  | true => da τ S1 Q
  | false => db τ S1 Q := rfl
@[simp] theorem q_nil : nilA τ S QA = QA [] S := rfl
@[simp] theorem q_cons {dr : DA} : consA d dr τ S QA = d τ S fun x S1 => dr τ S1 fun xs S2 => QA (x :: xs) S2 := rfl
@[simp] theorem q_tup : tupD dA τ S Q = dA τ S fun ts S1 => ts.length ≤ sizeLine ∧ Q (.tup ts) S1 := rfl
@[simp] theorem q_lst {mu : Bool} : lstD mu dA τ S Q = dA τ S fun ts S1 => ts.length ≤ sizeLine ∧ newL mu ts S1 Q := rfl
@[simp] theorem q_newF {l : List T} : newL false l S Q = Q (.lst l) S := rfl
@[simp] theorem q_newT {l : List T} : newL true l S Q = ∀ p, S p = none → Q (.ref p) (supd S p (.lst l)) := rfl
@[simp] theorem q_callB {r : List T → SS → KQ → Prop} : callB r dA τ S Q = dA τ S fun ts S1 => r ts S1 Q := rfl
@[simp] theorem q_callF {sp : TSp} : callF sp W dA τ S Q = dA τ S fun ts S1 => sp ts S1 Q fun x S2 => W x τ S2 := rfl
@[simp] theorem q_ch {r r' : T → T → SS → KQ → Prop} : chD r r' da db dc τ S Q = da τ S fun x S1 => db τ S1 fun y S2 => r x y S2 (chK (fun S3 Q => dc τ S3 fun w S4 => r' y w S4 Q) Q) := rfl
@[simp] theorem q_chK {k : SS → KQ → Prop} {b : Bool} : chK k Q (.bl b) S = match b with
  | true => k S Q
  | false => Q (.bl false) S := by cases b <;> rfl
@[simp] theorem q_sl {mu : Bool} {dl dh : DO} : slD mu d dl dh τ S Q = d τ S fun x S1 => dl τ S1 fun l S2 => dh τ S2 fun h S3 => slR mu x l h S3 Q := rfl
@[simp] theorem q_noneO {P : Option Int → SS → Prop} : noneO τ S P = P none S := rfl
@[simp] theorem q_someO {P : Option Int → SS → Prop} : someO d τ S P = d τ S (asI fun i S1 => P (some i) S1) := rfl
@[simp] theorem q_meth {ty : String} {r : T → List T → SS → KQ → Prop} : methD ty r d dA τ S Q = d τ S fun x S1 => tyT S1 ty x ∧ dA τ S1 fun ts S2 => r x ts S2 Q := rfl
@[simp] theorem q_addI {mu : Bool} {i j : Int} : binR mu .Add (.int i) (.int j) S Q = Q (.int (i + j)) S := rfl
@[simp] theorem q_subI {mu : Bool} {i j : Int} : binR mu .Sub (.int i) (.int j) S Q = Q (.int (i - j)) S := rfl
@[simp] theorem q_mulI {mu : Bool} {i j : Int} : binR mu .Mult (.int i) (.int j) S Q = (CMulW i j ∧ Q (.int (i * j)) S) := rfl
@[simp] theorem q_divI {mu : Bool} {i j : Int} : binR mu .FloorDiv (.int i) (.int j) S Q = (CDivA j ∧ Q (.int (i.fdiv j)) S) := rfl
@[simp] theorem q_modI {mu : Bool} {i j : Int} : binR mu .Mod (.int i) (.int j) S Q = (j ≠ 0 ∧ Q (.int (i.fmod j)) S) := rfl
@[simp] theorem q_powI {mu : Bool} {i j : Int} : binR mu .Pow (.int i) (.int j) S Q = (CPow i j ∧ Q (.int (i ^ j.toNat)) S) := rfl
@[simp] theorem q_addT {mu : Bool} {a b : List T} : binR mu .Add (.tup a) (.tup b) S Q = (a.length + b.length ≤ sizeLine ∧ Q (.tup (a ++ b)) S) := rfl
@[simp] theorem q_addL {mu : Bool} {a b : List T} : binR mu .Add (.lst a) (.lst b) S Q = (a.length + b.length ≤ sizeLine ∧ newL mu (a ++ b) S Q) := rfl
@[simp] theorem q_lt {i j : Int} : cmpR .Lt (.int i) (.int j) S Q = Q (.bl (decide (i < j))) S := rfl
@[simp] theorem q_le {i j : Int} : cmpR .LtE (.int i) (.int j) S Q = Q (.bl (decide (i ≤ j))) S := rfl
@[simp] theorem q_gt {i j : Int} : cmpR .Gt (.int i) (.int j) S Q = Q (.bl (decide (j < i))) S := rfl
@[simp] theorem q_ge {i j : Int} : cmpR .GtE (.int i) (.int j) S Q = Q (.bl (decide (j ≤ i))) S := rfl
theorem eqv_int (i j : Int) : T.eqv (.int i) (.int j) = decide (i = j) := by
  unfold T.eqv T.toD; first | rfl | (simp [PyData.eqv])
@[simp] theorem q_eqI {i j : Int} : cmpR .Eq (.int i) (.int j) S Q = Q (.bl (decide (i = j))) S := by
  show (_ ∧ _ ∧ Q (.bl (false ^^ T.eqv (.int i) (.int j))) S) = _
  rw [eqv_int, Bool.false_xor]
  exact propext ⟨fun h => h.2.2, fun h => ⟨rfl, rfl, h⟩⟩
@[simp] theorem q_neI {i j : Int} : cmpR .NotEq (.int i) (.int j) S Q = Q (.bl (decide (i ≠ j))) S := by
  show (_ ∧ _ ∧ Q (.bl (true ^^ T.eqv (.int i) (.int j))) S) = _
  rw [eqv_int, Bool.true_xor, decide_not]
  exact propext ⟨fun h => h.2.2, fun h => ⟨rfl, rfl, h⟩⟩
@[simp] theorem q_isN {x : T} : cmpR .Is x .non S Q = Q (.bl x.isNon) S := by
  show isR false x .non S Q = _
  simp [isR]
@[simp] theorem q_isNotN {x : T} : cmpR .IsNot x .non S Q = Q (.bl (!x.isNon)) S := by
  show isR true x .non S Q = _
  simp [isR]
@[simp] theorem q_isB {a b : Bool} : cmpR .Is (.bl a) (.bl b) S Q = Q (.bl (a == b)) S := by
  show isR false (.bl a) (.bl b) S Q = _
  simp [isR]
@[simp] theorem q_isNotB {a b : Bool} : cmpR .IsNot (.bl a) (.bl b) S Q = Q (.bl (!(a == b))) S := by
  show isR true (.bl a) (.bl b) S Q = _
  simp [isR]
@[simp] theorem q_ixT {l : List T} {i : Int} : ixR (.tup l) (.int i) S Q = match atI l i with
  | some t => Q t S
  | none => False := rfl
@[simp] theorem q_ixL {l : List T} {i : Int} : ixR (.lst l) (.int i) S Q = match atI l i with
  | some t => Q t S
  | none => False := rfl
theorem q_ixR {a : Addr} {l : List T} {i : Int} (h : S a = some (.lst l)) : ixR (.ref a) (.int i) S Q = match atI l i with
  | some t => Q t S
  | none => False := by
  show (match sqOf S (.ref a) with
    | some l => (match atI l i with
      | some t => Q t S
      | none => False)
    | none => False) = _
  simp only [sqOf, h]
theorem q_setR {a : Addr} {l : List T} {k : Int} {v : T} {P : SS → Prop} (h : S a = some (.lst l)) : setR (.ref a) (.int k) v S P = match ixN l.length k with
  | some j => P (supd S a (.lst (l.set j v)))
  | none => False := by
  unfold setR stL
  (simp only [h]) <;> cases ixN l.length k <;> rfl
@[simp] theorem q_abs {i : Int} : absR [.int i] S Q = Q (.int i.natAbs) S := rfl
@[simp] theorem q_max {i j : Int} : max2R [.int i, .int j] S Q = Q (.int (max i j)) S := rfl
@[simp] theorem q_min {i j : Int} : min2R [.int i, .int j] S Q = Q (.int (min i j)) S := rfl
@[simp] theorem q_intI {i : Int} : intTR [.int i] S Q = Q (.int i) S := rfl
@[simp] theorem q_intB {b : Bool} : intTR [.bl b] S Q = Q (.int (if b then 1 else 0)) S := rfl
@[simp] theorem q_lenT {l : List T} : lenR [.tup l] S Q = Q (.int l.length) S := rfl
@[simp] theorem q_lenL {l : List T} : lenR [.lst l] S Q = Q (.int l.length) S := rfl
@[simp] theorem q_bindN {i : Nat} {t : T} : bindT (.nm i) t τ = some (τ.set i (some t)) := rfl
@[simp] theorem q_bindT {l : Tg} {ts : List T} : bindT (.tp l) (.tup ts) τ = bindTs l ts τ := rfl
@[simp] theorem q_bindL {l : Tg} {ts : List T} : bindT (.tp l) (.lst ts) τ = bindTs l ts τ := rfl
@[simp] theorem q_binds0 : bindTs .nil [] τ = some τ := rfl
@[simp] theorem q_binds1 {g r : Tg} {t : T} {ts : List T} : bindTs (.cons g r) (t :: ts) τ = match bindT g t τ with
  | some τ' => bindTs r ts τ'
  | none => none := rfl
@[simp] theorem q_rd0 {r : Sg} {t : T} : rdD 0 (some t :: r) S Q = Q t S := rfl
@[simp] theorem q_rd1 {x0 : Option T} {r : Sg} {t : T} : rdD 1 (x0 :: some t :: r) S Q = Q t S := rfl
@[simp] theorem q_rdS {x0 : Option T} {r : Sg} {i : Nat} : rdD (i + 1) (x0 :: r) S Q = rdD i r S Q := rfl
@[simp] theorem q_rng1 {QI : List T → (SS → Prop) → SS → Prop} : rng1I dA τ S QI = dA τ S fun ts S1 => match ts with
  | [.int j] => -(2 ^ 62) ≤ j ∧ j < 2 ^ 62 ∧ QI (rngT 0 1 j.toNat) (fun _ => True) S1
  | _ => False := rfl
@[simp] theorem q_rng2 {QI : List T → (SS → Prop) → SS → Prop} : rng2I dA τ S QI = dA τ S fun ts S1 => match ts with
  | [.int i, .int j] => (-(2 ^ 62) ≤ i ∧ i < 2 ^ 62 ∧ -(2 ^ 62) ≤ j ∧ j < 2 ^ 62) ∧ QI (rngT i 1 (j - i).toNat) (fun _ => True) S1
  | _ => False := rfl
@[simp] theorem q_seqI {QI : List T → (SS → Prop) → SS → Prop} : seqI d τ S QI = d τ S fun t S1 => match sqOf S1 t with
  | some l => QI l (chkOf t l) S1
  | none => False := rfl
@[simp] theorem q_sqT {l : List T} : sqOf S (.tup l) = some l := rfl
@[simp] theorem q_sqL {l : List T} : sqOf S (.lst l) = some l := rfl
@[simp] theorem q_chkT {l m : List T} : chkOf (.tup l) m = fun _ => True := rfl
@[simp] theorem q_chkL {l m : List T} : chkOf (.lst l) m = fun _ => True := rfl
@[simp] theorem q_zip3 {dA : DA} {τ : Sg} {S : SS} {QI : List T → (SS → Prop) → SS → Prop} : zip3I dA τ S QI = dA τ S fun ts S1 => match ts with
  | [t, u, v] => (match sqOf S1 t, sqOf S1 u, sqOf S1 v with
    | some l, some m, some k => QI (zp3T l m k) (fun S => chkOf t l S ∧ chkOf u m S ∧ chkOf v k S) S1
    | _, _, _ => False)
  | _ => False := rfl
@[simp] theorem q_for {dI : DI} {g : Tg} : forD dI g d1 D τ S = dI τ S fun ts chk S1 => forL chk g d1 D ts τ S1 := rfl
@[simp] theorem q_supd {a : Addr} {o : SO} : supd S a o a = some o := supd_same
@[simp] theorem q_supd2 {a : Addr} {o u : SO} : supd (supd S a o) a u = supd S a u := supd_supd
theorem atI_nat {α : Type} {l : List α} {i : Int} (h0 : 0 ≤ i) : atI l i = l[i.toNat]? := by
  unfold atI ixN
  rw [if_pos h0]
  by_cases h : i < l.length
  · rw [if_pos h]; rfl
  · rw [if_neg h, List.getElem?_eq_none (by omega)]; rfl
@[simp] theorem ix0 {t : T} {l : List T} : atI (t :: l) 0 = some t := by rw [atI_nat (by decide)]; rfl
@[simp] theorem ix1 {x t : T} {l : List T} : atI (x :: t :: l) 1 = some t := by rw [atI_nat (by decide)]; rfl
@[simp] theorem ix2 {x y t : T} {l : List T} : atI (x :: y :: t :: l) 2 = some t := by rw [atI_nat (by decide)]; rfl
theorem atI_lt {α : Type} {l : List α} {i : Int} (h0 : 0 ≤ i) (h : i < l.length) : ∃ t, atI l i = some t ∧ t ∈ l := by
  rw [atI_nat h0, List.getElem?_eq_getElem (by omega)]
  exact ⟨_, rfl, List.getElem_mem _⟩
end

/-! ### isinstance, in, comprehensions -/
section
variable {τ : Sg} {S : SS} {Q : KQ} {D : Ends'} {f : Str → Str → Bool}
theorem isaR_ty {t : T} {n m : String} {r : Bool} (hk : kdOf S t = some (.ty n)) (e : kitB n m = some r) : isaR f [t, .ty m] S Q = Q (.bl r) S := by
  unfold isaR
  simp only [hk, isa, e]
@[simp] theorem isa_non_int : isaR f [.non, .ty "int"] S Q = Q (.bl false) S := isaR_ty (n := "NoneType") rfl (by decide +kernel)
@[simp] theorem isa_non_bool : isaR f [.non, .ty "bool"] S Q = Q (.bl false) S := isaR_ty (n := "NoneType") rfl (by decide +kernel)
@[simp] theorem isa_non_tuple : isaR f [.non, .ty "tuple"] S Q = Q (.bl false) S := isaR_ty (n := "NoneType") rfl (by decide +kernel)
@[simp] theorem isa_non_str : isaR f [.non, .ty "str"] S Q = Q (.bl false) S := isaR_ty (n := "NoneType") rfl (by decide +kernel)
@[simp] theorem isa_non_list : isaR f [.non, .ty "list"] S Q = Q (.bl false) S := isaR_ty (n := "NoneType") rfl (by decide +kernel)
@[simp] theorem isa_non_dict : isaR f [.non, .ty "dict"] S Q = Q (.bl false) S := isaR_ty (n := "NoneType") rfl (by decide +kernel)
@[simp] theorem isa_bl_int {b : Bool} : isaR f [(.bl b), .ty "int"] S Q = Q (.bl true) S := isaR_ty (n := "bool") rfl (by decide +kernel)
@[simp] theorem isa_bl_bool {b : Bool} : isaR f [(.bl b), .ty "bool"] S Q = Q (.bl true) S := isaR_ty (n := "bool") rfl (by decide +kernel)
@[simp] theorem isa_bl_tuple {b : Bool} : isaR f [(.bl b), .ty "tuple"] S Q = Q (.bl false) S := isaR_ty (n := "bool") rfl (by decide +kernel)
@[simp] theorem isa_bl_str {b : Bool} : isaR f [(.bl b), .ty "str"] S Q = Q (.bl false) S := isaR_ty (n := "bool") rfl (by decide +kernel)
@[simp] theorem isa_bl_list {b : Bool} : isaR f [(.bl b), .ty "list"] S Q = Q (.bl false) S := isaR_ty (n := "bool") rfl (by decide +kernel)
@[simp] theorem isa_bl_dict {b : Bool} : isaR f [(.bl b), .ty "dict"] S Q = Q (.bl false) S := isaR_ty (n := "bool") rfl (by decide +kernel)
@[simp] theorem isa_int_int {i : Int} : isaR f [(.int i), .ty "int"] S Q = Q (.bl true) S := isaR_ty (n := "int") rfl (by decide +kernel)
@[simp] theorem isa_int_bool {i : Int} : isaR f [(.int i), .ty "bool"] S Q = Q (.bl false) S := isaR_ty (n := "int") rfl (by decide +kernel)
@[simp] theorem isa_int_tuple {i : Int} : isaR f [(.int i), .ty "tuple"] S Q = Q (.bl false) S := isaR_ty (n := "int") rfl (by decide +kernel)
@[simp] theorem isa_int_str {i : Int} : isaR f [(.int i), .ty "str"] S Q = Q (.bl false) S := isaR_ty (n := "int") rfl (by decide +kernel)
@[simp] theorem isa_int_list {i : Int} : isaR f [(.int i), .ty "list"] S Q = Q (.bl false) S := isaR_ty (n := "int") rfl (by decide +kernel)
@[simp] theorem isa_int_dict {i : Int} : isaR f [(.int i), .ty "dict"] S Q = Q (.bl false) S := isaR_ty (n := "int") rfl (by decide +kernel)
@[simp] theorem isa_str_int {x : Str} : isaR f [(.str x), .ty "int"] S Q = Q (.bl false) S := isaR_ty (n := "str") rfl (by decide +kernel)
@[simp] theorem isa_str_bool {x : Str} : isaR f [(.str x), .ty "bool"] S Q = Q (.bl false) S := isaR_ty (n := "str") rfl (by decide +kernel)
@[simp] theorem isa_str_tuple {x : Str} : isaR f [(.str x), .ty "tuple"] S Q = Q (.bl false) S := isaR_ty (n := "str") rfl (by decide +kernel)
@[simp] theorem isa_str_str {x : Str} : isaR f [(.str x), .ty "str"] S Q = Q (.bl true) S := isaR_ty (n := "str") rfl (by decide +kernel)
@[simp] theorem isa_str_list {x : Str} : isaR f [(.str x), .ty "list"] S Q = Q (.bl false) S := isaR_ty (n := "str") rfl (by decide +kernel)
@[simp] theorem isa_str_dict {x : Str} : isaR f [(.str x), .ty "dict"] S Q = Q (.bl false) S := isaR_ty (n := "str") rfl (by decide +kernel)
@[simp] theorem isa_tup_int {l : List T} : isaR f [(.tup l), .ty "int"] S Q = Q (.bl false) S := isaR_ty (n := "tuple") rfl (by decide +kernel)
@[simp] theorem isa_tup_bool {l : List T} : isaR f [(.tup l), .ty "bool"] S Q = Q (.bl false) S := isaR_ty (n := "tuple") rfl (by decide +kernel)
@[simp] theorem isa_tup_tuple {l : List T} : isaR f [(.tup l), .ty "tuple"] S Q = Q (.bl true) S := isaR_ty (n := "tuple") rfl (by decide +kernel)
@[simp] theorem isa_tup_str {l : List T} : isaR f [(.tup l), .ty "str"] S Q = Q (.bl false) S := isaR_ty (n := "tuple") rfl (by decide +kernel)
@[simp] theorem isa_tup_list {l : List T} : isaR f [(.tup l), .ty "list"] S Q = Q (.bl false) S := isaR_ty (n := "tuple") rfl (by decide +kernel)
@[simp] theorem isa_tup_dict {l : List T} : isaR f [(.tup l), .ty "dict"] S Q = Q (.bl false) S := isaR_ty (n := "tuple") rfl (by decide +kernel)
@[simp] theorem isa_lst_int {l : List T} : isaR f [(.lst l), .ty "int"] S Q = Q (.bl false) S := isaR_ty (n := "list") rfl (by decide +kernel)
@[simp] theorem isa_lst_bool {l : List T} : isaR f [(.lst l), .ty "bool"] S Q = Q (.bl false) S := isaR_ty (n := "list") rfl (by decide +kernel)
@[simp] theorem isa_lst_tuple {l : List T} : isaR f [(.lst l), .ty "tuple"] S Q = Q (.bl false) S := isaR_ty (n := "list") rfl (by decide +kernel)
@[simp] theorem isa_lst_str {l : List T} : isaR f [(.lst l), .ty "str"] S Q = Q (.bl false) S := isaR_ty (n := "list") rfl (by decide +kernel)
@[simp] theorem isa_lst_list {l : List T} : isaR f [(.lst l), .ty "list"] S Q = Q (.bl true) S := isaR_ty (n := "list") rfl (by decide +kernel)
@[simp] theorem isa_lst_dict {l : List T} : isaR f [(.lst l), .ty "dict"] S Q = Q (.bl false) S := isaR_ty (n := "list") rfl (by decide +kernel)
@[simp] theorem isa_dic_int : isaR f [.dic, .ty "int"] S Q = Q (.bl false) S := isaR_ty (n := "dict") rfl (by decide +kernel)
@[simp] theorem isa_dic_bool : isaR f [.dic, .ty "bool"] S Q = Q (.bl false) S := isaR_ty (n := "dict") rfl (by decide +kernel)
@[simp] theorem isa_dic_tuple : isaR f [.dic, .ty "tuple"] S Q = Q (.bl false) S := isaR_ty (n := "dict") rfl (by decide +kernel)
@[simp] theorem isa_dic_str : isaR f [.dic, .ty "str"] S Q = Q (.bl false) S := isaR_ty (n := "dict") rfl (by decide +kernel)
@[simp] theorem isa_dic_list : isaR f [.dic, .ty "list"] S Q = Q (.bl false) S := isaR_ty (n := "dict") rfl (by decide +kernel)
@[simp] theorem isa_dic_dict : isaR f [.dic, .ty "dict"] S Q = Q (.bl true) S := isaR_ty (n := "dict") rfl (by decide +kernel)
@[simp] theorem isa_ec {a b : Str} {x : Option (Str × Int)} : isaR f [.exc a x, .cls b] S Q = Q (.bl (f a b)) S := rfl
@[simp] theorem isa_ev {a : Str} {x : Option (Str × Int)} : isaR f [.exc a x, .ty "ValueError"] S Q = Q (.bl true) S := rfl
theorem isa_et {a : Str} {x : Option (Str × Int)} {cs : List T} {b : Bool} (h : isaAny f (.ex a) cs = some b) : isaR f [.exc a x, .tup cs] S Q = Q (.bl b) S := by
  unfold isaR
  simp only [kdOf, h]
@[simp] theorem q_lc {mu : Bool} {vs : List Nat} {dI : DI} {g : Tg} {tt : DT} {te : DE} : lcD mu vs dI g tt te τ S Q = dI τ S fun ts chk S1 => lcL chk g tt te mu (twipe τ vs) Q ts [] S1 := rfl
@[simp] theorem q_lcL0 {mu : Bool} {chk : SS → Prop} {g : Tg} {tt : DT} {te : DE} {acc : List T} : lcL chk g tt te mu τ Q [] acc S = (chk S ∧ newL mu acc S Q) := rfl
@[simp] theorem q_lcL1 {mu : Bool} {chk : SS → Prop} {g : Tg} {tt : DT} {te : DE} {acc ts : List T} {t : T} : lcL chk g tt te mu τ Q (t :: ts) acc S = (chk S ∧ (match bindT g t τ with
    | some τ1 => tt τ1 S fun b S2 => match b with
      | true => te τ1 S2 fun y S3 => acc.length < sizeLine ∧ lcL chk g tt te mu τ Q ts (acc ++ [y]) S3
      | false => lcL chk g tt te mu τ Q ts acc S2
    | none => False)) := rfl
@[simp] theorem tw0 : twipe τ [] = τ := rfl
@[simp] theorem tw1 {v : Nat} {vs : List Nat} : twipe τ (v :: vs) = (twipe τ vs).set v none := rfl
@[simp] theorem shps0 {n : Nat} : T.shps n [] = true := by simp [T.shps]
@[simp] theorem shps1 {n : Nat} {t : T} {ts : List T} : T.shps n (t :: ts) = (T.shp n t && T.shps n ts) := by simp [T.shps]
@[simp] theorem shp_bl {n : Nat} {b : Bool} : T.shp n (.bl b) = true := by simp [T.shp]
@[simp] theorem shp_int {n : Nat} {b : Int} : T.shp n (.int b) = true := by simp [T.shp]
@[simp] theorem shp_non {n : Nat} : T.shp n .non = true := by simp [T.shp]
@[simp] theorem shp_tup {n : Nat} {l : List T} : T.shp (n + 1) (.tup l) = T.shps n l := by simp [T.shp]
@[simp] theorem shp_lst {n : Nat} {l : List T} : T.shp (n + 1) (.lst l) = T.shps n l := by simp [T.shp]
@[simp] theorem eqv_bl {a b : Bool} : T.eqv (.bl a) (.bl b) = (a == b) := by
  unfold T.eqv; simp [T.toD, PyData.eqv]
@[simp] theorem q_inB {b : Bool} {l : List T} : cmpR .In (.bl b) (.lst l) S Q = (T.shps 59 l = true ∧ Q (.bl (l.any fun z => z.eqv (.bl b))) S) := by
  show (_ ∧ _ ∧ Q (.bl (false ^^ _)) S) = _
  rw [Bool.false_xor]
  exact propext ⟨fun h => h.2, fun h => ⟨rfl, h⟩⟩
@[simp] theorem q_notInB {b : Bool} {l : List T} : cmpR .NotIn (.bl b) (.lst l) S Q = (T.shps 59 l = true ∧ Q (.bl (!l.any fun z => z.eqv (.bl b))) S) := by
  show (_ ∧ _ ∧ Q (.bl (true ^^ _)) S) = _
  rw [Bool.true_xor]
  exact propext ⟨fun h => h.2, fun h => ⟨rfl, h⟩⟩
@[simp] theorem q_eqB {a b : Bool} : cmpR .Eq (.bl a) (.bl b) S Q = Q (.bl (a == b)) S := by
  show (_ ∧ _ ∧ Q (.bl (false ^^ T.eqv (.bl a) (.bl b))) S) = _
  rw [eqv_bl, Bool.false_xor]
  exact propext ⟨fun h => h.2.2, fun h => ⟨shp_bl, shp_bl, h⟩⟩
@[simp] theorem q_neB {a b : Bool} : cmpR .NotEq (.bl a) (.bl b) S Q = Q (.bl (a != b)) S := by
  show (_ ∧ _ ∧ Q (.bl (true ^^ T.eqv (.bl a) (.bl b))) S) = _
  rw [eqv_bl, Bool.true_xor]
  exact propext ⟨fun h => h.2.2, fun h => ⟨shp_bl, shp_bl, h⟩⟩
@[simp] theorem q_reprB {b : Bool} : reprR [.bl b] S Q = Q (.str (T.shown (.bl b))) S := by
  have z : (T.shown (.bl b)).length ≤ sizeLine := by cases b <;> decide +kernel
  show (_ ∧ _ ∧ Q _ S) = _
  exact propext ⟨fun h => h.2.2, fun h => ⟨rfl, z, h⟩⟩
@[simp] theorem strOk_bl {b : Bool} : PyData.strOk (T.shown (.bl b)) = true := by cases b <;> decide +kernel
@[simp] theorem q_dic : dicD τ S Q = Q .dic S := rfl
theorem eqv_pair {a b c d : Int} : T.eqv (.tup [.int a, .int b]) (.tup [.int c, .int d]) = (decide (a = c) && decide (b = d)) := by
  have e : T.eqv (.tup [.int a, .int b]) (.tup [.int c, .int d]) = (T.eqv (.int a) (.int c) && T.eqv (.int b) (.int d)) := by
    unfold T.eqv; simp [T.toD, T.toDs, PyData.eqv, PyData.eqvAll]
  rw [e, eqv_int, eqv_int]
@[simp] theorem q_eqP {a b c d : Int} : cmpR .Eq (.tup [.int a, .int b]) (.tup [.int c, .int d]) S Q = Q (.bl (decide (a = c) && decide (b = d))) S := by
  show (_ ∧ _ ∧ Q (.bl (false ^^ T.eqv (.tup [.int a, .int b]) (.tup [.int c, .int d]))) S) = _
  rw [eqv_pair, Bool.false_xor]
  exact propext ⟨fun h => h.2.2, fun h => ⟨rfl, rfl, h⟩⟩
@[simp] theorem q_neP {a b c d : Int} : cmpR .NotEq (.tup [.int a, .int b]) (.tup [.int c, .int d]) S Q = Q (.bl (!(decide (a = c) && decide (b = d)))) S := by
  show (_ ∧ _ ∧ Q (.bl (true ^^ T.eqv (.tup [.int a, .int b]) (.tup [.int c, .int d]))) S) = _
  rw [eqv_pair, Bool.true_xor]
  exact propext ⟨fun h => h.2.2, fun h => ⟨rfl, rfl, h⟩⟩
theorem eqv_str {a b : Str} : T.eqv (.str a) (.str b) = (a == b) := by
  unfold T.eqv; simp [T.toD, PyData.eqv]
theorem q_eqS {a b : Str} (ha : PyData.strOk a = true) (hb : PyData.strOk b = true) : cmpR .Eq (.str a) (.str b) S Q = Q (.bl (a == b)) S := by
  show (_ ∧ _ ∧ Q (.bl (false ^^ T.eqv (.str a) (.str b))) S) = _
  rw [eqv_str, Bool.false_xor]
  exact propext ⟨fun h => h.2.2, fun h => ⟨by simpa [deref, T.shp] using ha, by simpa [deref, T.shp] using hb, h⟩⟩
theorem q_neS {a b : Str} (ha : PyData.strOk a = true) (hb : PyData.strOk b = true) : cmpR .NotEq (.str a) (.str b) S Q = Q (.bl (a != b)) S := by
  show (_ ∧ _ ∧ Q (.bl (true ^^ T.eqv (.str a) (.str b))) S) = _
  rw [eqv_str, Bool.true_xor]
  exact propext ⟨fun h => h.2.2, fun h => ⟨by simpa [deref, T.shp] using ha, by simpa [deref, T.shp] using hb, h⟩⟩
@[simp] theorem q_neSB {a b : Bool} : cmpR .NotEq (.str (T.shown (.bl a))) (.str (T.shown (.bl b))) S Q = Q (.bl (T.shown (.bl a) != T.shown (.bl b))) S := q_neS strOk_bl strOk_bl
@[simp] theorem q_tryS {W : XW} {sub : Str → Str → Bool} {cn : Str} {i : Nat} {bd : XW → DS} {hd : DS} : tryS W sub cn i bd hd D τ S = bd (fun x τ1 S1 => match sub x.cls cn with
  | true => hd { nx := fun τ' S' => D.nx (τ'.set i none) S', rt := D.rt, bk := fun τ' S' => D.bk (τ'.set i none) S', ct := fun τ' S' => D.ct (τ'.set i none) S' } (τ1.set i (some (.exc x.cls x.fld))) S1
  | false => W x τ1 S1) D τ S := rfl
@[simp] theorem q_try {W : XW} {sub : Str → Str → Bool} {cn : Str} {i j : Nat} {bd : XW → DS} : tryD W sub cn i j bd D τ S = bd (fun x τ1 S1 => match sub x.cls cn with
  | true => D.nx ((τ1.set j (some (.exc x.cls x.fld))).set i none) S1
  | false => W x τ1 S1) D τ S := rfl
end
/-! ### loops by their invariant -/
theorem forL_inv {chk : SS → Prop} {g : Tg} {b : DS} {D : Ends'} (I : Nat → Sg → SS → Prop) : ∀ {ts : List T} {k : Nat} {τ : Sg} {S : SS}, I k τ S →
    (∀ (i : Nat) (hi : i < ts.length) (τ : Sg) (S : SS) (D' : Ends'), I (k + i) τ S → (∀ τ' S', I (k + i + 1) τ' S' → D'.nx τ' S') → (∀ τ' S', I (k + i + 1) τ' S' → D'.ct τ' S') → D'.rt = D.rt → D'.bk = D.nx → chk S ∧ match bindT g ts[i] τ with
      | some τ1 => b D' τ1 S
      | none => False) →
    (∀ τ S, I (k + ts.length) τ S → chk S ∧ D.nx τ S) → forL chk g b D ts τ S
  | [], k, τ, S, h, _, fin => fin τ S h
  | t :: ts, k, τ, S, h, step, fin => by
    have again : ∀ τ' S', I (k + 1) τ' S' → forL chk g b D ts τ' S' := fun τ' S' h' => forL_inv I h' (fun i hi τ S D' h1 h2 h3 h4 h5 => by
      have := step (i + 1) (by simpa using hi) τ S D' (by rw [show k + (i + 1) = k + 1 + i by omega]; exact h1) (by rw [show k + (i + 1) + 1 = k + 1 + i + 1 by omega]; exact h2) (by rw [show k + (i + 1) + 1 = k + 1 + i + 1 by omega]; exact h3) h4 h5
      simpa using this) (fun τ S h1 => fin τ S (by rw [List.length_cons, show k + (ts.length + 1) = k + 1 + ts.length by omega]; exact h1))
    have := step 0 (by simp) τ S { nx := forL chk g b D ts, rt := D.rt, ct := forL chk g b D ts, bk := D.nx } h again again rfl rfl
    exact this
theorem forL_mem {chk : SS → Prop} {g : Tg} {b : DS} {D : Ends'} {ts : List T} {τ : Sg} {S : SS} (I : Sg → SS → Prop) (h : I τ S)
    (step : ∀ (t : T) (_ : t ∈ ts) (τ : Sg) (S : SS) (D' : Ends'), I τ S → (∀ τ' S', I τ' S' → D'.nx τ' S') → (∀ τ' S', I τ' S' → D'.ct τ' S') → D'.rt = D.rt → D'.bk = D.nx → chk S ∧ match bindT g t τ with
      | some τ1 => b D' τ1 S
      | none => False)
    (fin : ∀ τ S, I τ S → chk S ∧ D.nx τ S) : forL chk g b D ts τ S :=
  forL_inv (fun _ => I) (k := 0) h (fun i hi τ S D' h1 h2 h3 h4 h5 => step _ (List.getElem_mem hi) τ S D' h1 h2 h3 h4 h5) fin
theorem q_forL0 {chk : SS → Prop} {g : Tg} {b : DS} {D : Ends'} {τ : Sg} {S : SS} : forL chk g b D [] τ S = (chk S ∧ D.nx τ S) := rfl
theorem q_forL1 {chk : SS → Prop} {g : Tg} {b : DS} {D : Ends'} {τ : Sg} {S : SS} {t : T} {ts : List T} : forL chk g b D (t :: ts) τ S = (chk S ∧ (match bindT g t τ with
    | some τ1 => b { nx := forL chk g b D ts, rt := D.rt, ct := forL chk g b D ts, bk := D.nx } τ1 S
    | none => False)) := rfl
theorem rngT2 {lo st : Int} : rngT lo st 2 = [.int (lo + 0 * st), .int (lo + 1 * st)] := rfl
theorem rngT3 {lo st : Int} : rngT lo st 3 = [.int (lo + 0 * st), .int (lo + 1 * st), .int (lo + 2 * st)] := rfl
theorem rngT_get {lo k : Int} {n i : Nat} (h : i < (rngT lo k n).length) : (rngT lo k n)[i] = .int (lo + (i : Nat) * k) := by simp [rngT]
/-- for over a range -/
theorem forL_rng {g : Tg} {b : DS} {D : Ends'} {lo st : Int} {n : Nat} {τ : Sg} {S : SS} (I : Nat → Sg → SS → Prop) (h : I 0 τ S)
    (step : ∀ (i : Nat) (_ : i < n) (τ : Sg) (S : SS) (D' : Ends'), I i τ S → (∀ τ' S', I (i + 1) τ' S' → D'.nx τ' S') → (∀ τ' S', I (i + 1) τ' S' → D'.ct τ' S') → D'.rt = D.rt → D'.bk = D.nx → match bindT g (.int (lo + (i : Nat) * st)) τ with
      | some τ1 => b D' τ1 S
      | none => False)
    (fin : ∀ τ S, I n τ S → D.nx τ S) : forL (fun _ => True) g b D (rngT lo st n) τ S := by
  refine forL_inv (fun i τ S => I i τ S) h (fun i hi τ S D' h1 h2 h3 h4 h5 => ⟨trivial, ?_⟩) fun τ S h1 => ⟨trivial, fin τ S ?_⟩
  · rw [rngT_get]
    rw [rngT_len] at hi
    rw [Nat.zero_add] at h1 h2 h3
    exact step i hi τ S D' h1 h2 h3 h4 h5
  · rw [rngT_len, Nat.zero_add] at h1
    exact h1
end TL

set_option Elab.async false
set_option linter.all false
set_option maxRecDepth 100000
set_option maxHeartbeats 4000000
set_option autoImplicit false
/-! TLF: fractions are core's Rat; the fractions' functions; what a law draws. -/
namespace TL
open PySem PySem.Spec PyProof.Rows L2
/-- how great a fraction's parts are, in bits -/
def Sm (n : Nat) (q : Rat) : Prop := q.num.natAbs < 2 ^ n ∧ q.den < 2 ^ n
theorem Sm.mono {n m : Nat} {q : Rat} (h : Sm n q) (l : n ≤ m) : Sm m q :=
  ⟨Nat.lt_of_lt_of_le h.1 (Nat.pow_le_pow_right (by decide) l), Nat.lt_of_lt_of_le h.2 (Nat.pow_le_pow_right (by decide) l)⟩
theorem nd_le (a b : Int) (h : b ≠ 0) : (Rat.divInt a b).num.natAbs ≤ a.natAbs ∧ (Rat.divInt a b).den ≤ b.natAbs := by
  rw [Rat.num_divInt, Rat.den_divInt, if_neg h]
  constructor
  · refine Nat.le_trans (Int.natAbs_ediv_le_natAbs _ _) ?_
    rw [Int.natAbs_mul, Int.natAbs_sign_of_ne_zero h, Nat.one_mul]; exact Nat.le_refl _
  · exact Nat.div_le_self _ _
theorem Sm.divInt {n : Nat} {a b : Int} (h : b ≠ 0) (ha : a.natAbs < 2 ^ n) (hb : b.natAbs < 2 ^ n) : Sm n (Rat.divInt a b) :=
  ⟨Nat.lt_of_le_of_lt (nd_le a b h).1 ha, Nat.lt_of_le_of_lt (nd_le a b h).2 hb⟩
theorem mul_lt_pow {a b n m : Nat} (ha : a < 2 ^ n) (hb : b < 2 ^ m) : a * b < 2 ^ (n + m) := by
  rw [Nat.pow_add]; exact Nat.mul_lt_mul_of_lt_of_lt ha hb
theorem add_lt_pow {a b n m : Nat} (ha : a < 2 ^ n) (hb : b < 2 ^ m) : a + b < 2 ^ (max n m + 1) := by
  have h1 : 2 ^ n ≤ 2 ^ (max n m) := Nat.pow_le_pow_right (by decide) (Nat.le_max_left _ _)
  have h2 : 2 ^ m ≤ 2 ^ (max n m) := Nat.pow_le_pow_right (by decide) (Nat.le_max_right _ _)
  rw [Nat.pow_succ]; omega
theorem den0 (q : Rat) : (q.den : Int) ≠ 0 := by have := q.den_nz; omega
theorem plus_eq (p q : Rat) : Rat.divInt (p.num * q.den + q.num * p.den) (p.den * q.den) = p + q := by
  conv => rhs; rw [← Rat.num_divInt_den p, ← Rat.num_divInt_den q]
  rw [Rat.divInt_add_divInt _ _ (den0 p) (den0 q)]
theorem less_eq (p q : Rat) : Rat.divInt (p.num * q.den - q.num * p.den) (p.den * q.den) = p - q := by
  rw [Rat.sub_eq_add_neg, ← plus_eq, Rat.neg_num, Rat.neg_den, Int.neg_mul, Int.sub_eq_add_neg]
theorem times_eq (p q : Rat) : Rat.divInt (p.num * q.num) (p.den * q.den) = p * q := by
  conv => rhs; rw [← Rat.num_divInt_den p, ← Rat.num_divInt_den q]
  rw [Rat.divInt_mul_divInt]
theorem over_eq (p q : Rat) : Rat.divInt (p.num * q.den) (p.den * q.num) = p / q := by
  conv => rhs; rw [← Rat.num_divInt_den p, ← Rat.num_divInt_den q]
  rw [Rat.div_def, Rat.inv_divInt, Rat.divInt_mul_divInt]
theorem num0 {q : Rat} (h : q ≠ 0) : q.num ≠ 0 := fun e => h (Rat.num_eq_zero.mp e)
theorem Sm.add {n m : Nat} {p q : Rat} (h : Sm n p) (k : Sm m q) : Sm (n + m + 1) (p + q) := by
  rw [← plus_eq]
  have hd : ((p.den : Int) * q.den).natAbs < 2 ^ (n + m) := by rw [Int.natAbs_mul]; exact mul_lt_pow h.2 k.2
  have h1 : (p.num * q.den).natAbs < 2 ^ (n + m) := by rw [Int.natAbs_mul]; exact mul_lt_pow h.1 k.2
  have h2 : (q.num * p.den).natAbs < 2 ^ (n + m) := by rw [Int.natAbs_mul, Nat.add_comm n]; exact mul_lt_pow k.1 h.2
  have hh : 2 ^ (n + m + 1) = 2 ^ (n + m) * 2 := Nat.pow_succ ..
  refine Sm.divInt (Int.mul_ne_zero (den0 p) (den0 q)) ?_ ?_
  · have := Int.natAbs_add_le (p.num * q.den) (q.num * p.den); omega
  · omega
theorem Sm.neg {n : Nat} {p : Rat} (h : Sm n p) : Sm n (-p) := by
  unfold Sm; rw [Rat.neg_num, Rat.neg_den, Int.natAbs_neg]; exact h
theorem Sm.sub {n m : Nat} {p q : Rat} (h : Sm n p) (k : Sm m q) : Sm (n + m + 1) (p - q) := by
  rw [Rat.sub_eq_add_neg]; exact h.add k.neg
theorem Sm.mul {n m : Nat} {p q : Rat} (h : Sm n p) (k : Sm m q) : Sm (n + m) (p * q) := by
  rw [← times_eq]
  refine Sm.divInt (Int.mul_ne_zero (den0 p) (den0 q)) ?_ ?_ <;> rw [Int.natAbs_mul]
  · exact mul_lt_pow h.1 k.1
  · exact mul_lt_pow h.2 k.2
theorem Sm.div {n m : Nat} {p q : Rat} (h : Sm n p) (k : Sm m q) (hq : q ≠ 0) : Sm (n + m) (p / q) := by
  rw [← over_eq]
  refine Sm.divInt (Int.mul_ne_zero (den0 p) (num0 hq)) ?_ ?_ <;> rw [Int.natAbs_mul]
  · exact mul_lt_pow h.1 k.2
  · exact mul_lt_pow h.2 k.1
theorem log_lt {a n : Nat} (h : a < 2 ^ n) (hn : 0 < n) : a.log2 < n := by
  by_cases h0 : a = 0
  · subst h0; simpa using hn
  · exact (Nat.log2_lt h0).mpr h
theorem rat_lt (p q : Rat) : (decide (p.num * q.den < q.num * p.den)) = decide (p < q) := decide_eq_decide.mpr (Rat.lt_iff p q).symm
/-- the program's way to a fraction -/
theorem frac_num (a b : Int) (hb : b ≠ 0) : a.fdiv (if 0 < b then (Int.gcd a b : Int) else 0 - Int.gcd a b) = (Rat.divInt a b).num ∧ b.fdiv (if 0 < b then (Int.gcd a b : Int) else 0 - Int.gcd a b) = (Rat.divInt a b).den := by
  have g0 : (Int.gcd a b : Int) ≠ 0 := by
    intro e; have := Int.gcd_eq_zero_iff.mp (Int.ofNat.inj e); exact hb this.2
  have da : (Int.gcd a b : Int) ∣ a := Int.gcd_dvd_left ..
  have db : (Int.gcd a b : Int) ∣ b := Int.gcd_dvd_right ..
  rw [Rat.num_divInt, Rat.den_divInt, if_neg hb, Int.gcd_comm b a]
  by_cases h : 0 < b
  · rw [if_pos h, Int.sign_eq_one_of_pos h, Int.one_mul, Int.fdiv_eq_ediv_of_nonneg _ (by omega), Int.fdiv_eq_ediv_of_nonneg _ (by omega)]
    refine ⟨rfl, ?_⟩
    rw [Int.natCast_ediv, Int.natAbs_of_nonneg (by omega)]
  · have hb' : b < 0 := by omega
    rw [if_neg h, Int.sign_eq_neg_one_of_neg hb', Int.zero_sub]
    constructor
    · rw [Int.fdiv_eq_ediv_of_dvd (Int.neg_dvd.mpr da), Int.ediv_neg, Int.neg_mul, Int.one_mul, Int.neg_ediv_of_dvd da]
    · rw [Int.fdiv_eq_ediv_of_dvd (Int.neg_dvd.mpr db), Int.ediv_neg, Int.natCast_ediv, Int.ofNat_natAbs_of_nonpos (by omega), Int.neg_ediv_of_dvd db]
theorem num_pos_iff {q : Rat} : 0 < q.num ↔ 0 < q := by
  rw [Rat.lt_iff]; simp
theorem num_neg_iff {q : Rat} : q.num < 0 ↔ q < 0 := by
  rw [Rat.lt_iff]; simp
theorem num_le_iff {q : Rat} : q.num ≤ 0 ↔ q ≤ 0 := by
  rw [← Int.not_lt, num_pos_iff, Rat.not_lt]
def sub : Str → Str → Bool := sub1 "BrineError"
theorem sub_top {a : Str} : sub a "BrineError" = true := by unfold sub sub1; simp
/-! ### the tree of a fraction -/
def tR (q : Rat) : T := .tup [.int q.num, .int q.den]
theorem tR_inj {p q : Rat} : tR p = tR q ↔ p = q := by
  refine ⟨fun h => ?_, fun h => by rw [h]⟩
  simp only [tR, T.tup.injEq, List.cons.injEq, T.int.injEq, and_true] at h
  exact Rat.ext h.1 (by omega)
section
variable {p q : Rat} {τ : Sg} {S : SS} {Q : KQ} {QT : Bool → SS → Prop} {QI : List T → (SS → Prop) → SS → Prop} {i : Int} {l : Tg}
@[simp] theorem fr_ix0 : ixR (tR q) (.int 0) S Q = Q (.int q.num) S := by simp [tR]
@[simp] theorem fr_ix1 : ixR (tR q) (.int 1) S Q = Q (.int q.den) S := by simp [tR]
@[simp] theorem fr_bind : bindT (.tp l) (tR q) τ = bindTs l [.int q.num, .int q.den] τ := rfl
@[simp] theorem fr_sq : sqOf S (tR q) = some [.int q.num, .int q.den] := rfl
@[simp] theorem fr_chk {l : List T} : chkOf (tR q) l = fun _ => True := rfl
theorem fr_isa {f : Str → Str → Bool} {m : String} {r : Bool} (e : kitB "tuple" m = some r) : isaR f [tR q, .ty m] S Q = Q (.bl r) S := isaR_ty rfl e
@[simp] theorem fr_isat {f : Str → Str → Bool} : isaR f [tR q, .ty "tuple"] S Q = Q (.bl true) S := fr_isa (by decide +kernel)
@[simp] theorem fr_isai {f : Str → Str → Bool} : isaR f [tR q, .ty "int"] S Q = Q (.bl false) S := fr_isa (by decide +kernel)
@[simp] theorem fr_len : lenR [tR q] S Q = Q (.int 2) S := rfl
@[simp] theorem fr_kd : kdOf S (tR q) = some (.ty "tuple") := rfl
@[simp] theorem fr_deref : deref S (tR q) = tR q := rfl
theorem fr_shp (n : Nat) : (tR q).shp (n + 1) = true := rfl
theorem eqv_fr : T.eqv (tR p) (tR q) = decide (p = q) := by
  have e : T.eqv (tR p) (tR q) = (T.eqv (.int p.num) (.int q.num) && T.eqv (.int p.den) (.int q.den)) := by
    unfold T.eqv tR; simp [T.toD, T.toDs, PyData.eqv, PyData.eqvAll]
  rw [e, eqv_int, eqv_int, ← Bool.decide_and]
  exact decide_eq_decide.mpr ⟨fun h => Rat.ext h.1 (by omega), fun h => by subst h; exact ⟨rfl, rfl⟩⟩
@[simp] theorem fr_eq : cmpR .Eq (tR p) (tR q) S Q = Q (.bl (decide (p = q))) S := by
  show (_ ∧ _ ∧ Q (.bl (false ^^ T.eqv (tR p) (tR q))) S) = _
  rw [eqv_fr, Bool.false_xor]
  exact propext ⟨fun h => h.2.2, fun h => ⟨rfl, rfl, h⟩⟩
@[simp] theorem fr_ne : cmpR .NotEq (tR p) (tR q) S Q = Q (.bl (decide (p ≠ q))) S := by
  show (_ ∧ _ ∧ Q (.bl (true ^^ T.eqv (tR p) (tR q))) S) = _
  rw [eqv_fr, Bool.true_xor, decide_not]
  exact propext ⟨fun h => h.2.2, fun h => ⟨rfl, rfl, h⟩⟩
theorem tR0 : T.tup [.int 0, .int 1] = tR 0 := rfl
theorem tR1 : T.tup [.int 1, .int 1] = tR 1 := rfl
end
theorem cmw {i j : Int} {a b : Nat} (ha : i.natAbs < 2 ^ a) (hb : j.natAbs < 2 ^ b) (h : a + b ≤ 134000000) : CMulW i j := by
  have h1 := log_lt (Nat.lt_of_lt_of_le ha (Nat.pow_le_pow_right (by decide) (Nat.le_succ a))) (Nat.succ_pos a)
  have h2 := log_lt (Nat.lt_of_lt_of_le hb (Nat.pow_le_pow_right (by decide) (Nat.le_succ b))) (Nat.succ_pos b)
  exact CMulW.lg (by omega)
theorem cda {j : Int} {n : Nat} (h0 : j ≠ 0) (h : j.natAbs < 2 ^ n) (hn : n ≤ 60000000) : CDivA j := ⟨h0⟩

/-! ### divisor, fraction -/
def sp_divisor : TSp := fun ts S Q E => ∃ a b, ts = [.int a, .int b] ∧ Q (.int (Int.gcd a b)) S
def b_divisor (W : XW) : DS :=
  (seqD
    (asgD (tupD (consA (callB absR (consA (rdD 0) nilA)) (consA (callB absR (consA (rdD 1) nilA)) nilA))) (.tp (.cons (.nm 0) (.cons (.nm 1) .nil))))
  (seqD
    (whileD (tstD (opD (cmpR .Gt) (rdD 1) (cD (.int 0))))
      (seqD
        (asgD (tupD (consA (rdD 1) (consA (opD (binR false .Mod) (rdD 0) (rdD 1)) nilA))) (.tp (.cons (.nm 0) (.cons (.nm 1) .nil))))
      nextD))
  (seqD
    (retD (rdD 0))
  nextD)))
theorem gcd_mod {x y : Int} (hx : 0 ≤ x) (hy : 0 < y) : Int.gcd y (x.fmod y) = Int.gcd x y := by
  rw [Int.fmod_eq_emod_of_nonneg _ (Int.le_of_lt hy), Int.emod_def, Int.sub_eq_add_neg, ← Int.mul_neg, Int.gcd_add_mul_left_right, Int.gcd_comm]
theorem law_divisor {ts : List T} {S : SS} {Q : KQ} {E : Exn → SS → Prop} (h : sp_divisor ts S Q E) : b_divisor (fun x _ S' => E x S') { nx := fun _ S' => Q .non S', rt := Q } (start' 2 ts) S := by
  obtain ⟨a, b, rfl, hq⟩ := h
  unfold b_divisor start'
  simp
  refine ⟨fun m τ S' => S' = S ∧ ∃ x y : Int, 0 ≤ x ∧ 0 ≤ y ∧ τ = [some (.int x), some (.int y)] ∧ Int.gcd x y = Int.gcd a b ∧ m = y.toNat, ⟨_, rfl, _, _, Int.natCast_nonneg _, Int.natCast_nonneg _, rfl, by simp [Int.gcd], rfl⟩, ?_⟩
  rintro m τ S' ⟨rfl, x, y, hx, hy, rfl, hg, rfl⟩
  by_cases h : 0 < y
  · simp [h]

    refine ⟨by omega, _, ?_, y, hy, x.fmod y, ?_, ⟨rfl, rfl⟩, ?_, rfl⟩
    · have := Int.fmod_lt_of_pos x h
      have := Int.fmod_nonneg_of_pos x h
      omega
    · exact Int.fmod_nonneg_of_pos x h
    · rw [gcd_mod hx h]; exact hg
  · have : y = 0 := by omega
    subst this
    simp
    rw [← hg] at hq
    have e : ((Int.gcd x 0 : Nat) : Int) = x := by rw [Int.gcd_zero_right]; omega
    rw [e] at hq
    exact hq
def sp_fraction : TSp := fun ts S Q E => ∃ a b, ts = [.int a, .int b] ∧ (b ≠ 0 → Q (tR (Rat.divInt a b)) S) ∧ (b = 0 → E ⟨"NoFraction", none⟩ S)
@[simp] theorem ap_divisor {a b : Int} {S : SS} {Q : KQ} {E : Exn → SS → Prop} : sp_divisor [.int a, .int b] S Q E ↔ Q (.int (Int.gcd a b)) S := ⟨fun ⟨_, _, e, h⟩ => by cases e; exact h, fun h => ⟨_, _, rfl, h⟩⟩
def b_fraction (W : XW) : DS :=
  (seqD
    (ifD (tstD (opD (cmpR .Eq) (rdD 1) (cD (.int 0))))
      (seqD
        (raiseD W "NoFraction" (cD (.str "divided by nought")))
      nextD)
      nextD)
  (seqD
    (asgD (ifE (tstD (opD (cmpR .Gt) (rdD 1) (cD (.int 0)))) (callF sp_divisor W (consA (rdD 0) (consA (rdD 1) nilA))) (opD (binR false .Sub) (cD (.int 0)) (callF sp_divisor W (consA (rdD 0) (consA (rdD 1) nilA))))) (.nm 2))
  (seqD
    (retD (tupD (consA (opD (binR false .FloorDiv) (rdD 0) (rdD 2)) (consA (opD (binR false .FloorDiv) (rdD 1) (rdD 2)) nilA))))
  nextD)))
theorem gcd_cda {a b : Int} (h0 : b ≠ 0) (h : True := trivial) : CDivA (Int.gcd a b) ∧ CDivA (0 - Int.gcd a b) := by
  have g0 : Int.gcd a b ≠ 0 := fun e => h0 (Int.gcd_eq_zero_iff.mp e).2
  have g1 : ((Int.gcd a b : Nat) : Int) ≠ 0 := by omega
  have g2 : (0 : Int) - ((Int.gcd a b : Nat) : Int) ≠ 0 := by omega
  exact ⟨⟨g1⟩, ⟨g2⟩⟩
theorem law_fraction {ts : List T} {S : SS} {Q : KQ} {E : Exn → SS → Prop} (h : sp_fraction ts S Q E) : b_fraction (fun x _ S' => E x S') { nx := fun _ S' => Q .non S', rt := Q } (start' 3 ts) S := by
  obtain ⟨a, b, rfl, hq, he⟩ := h
  unfold b_fraction start'
  by_cases h0 : b = 0
  · subst h0
    simpa using he rfl
  · have c1 := gcd_cda (a := a) h0
    have f1 := frac_num a b h0
    have hq := hq h0
    unfold tR at hq
    by_cases h : 0 < b
    · rw [if_pos h] at f1
      simp [h0, h, c1.1, f1.1, f1.2, hq]
      try decide
    · rw [if_neg h, Int.zero_sub] at f1
      rw [Int.zero_sub] at c1
      simp [h0, h, c1.2, f1.1, f1.2, hq]
      try decide
/-! ### reckoning -/
/-- not too great together -/
def Sz (p q : Rat) : Prop := ∃ a b, Sm a p ∧ Sm b q ∧ a + b ≤ 60000000
theorem Sz.mk {p q : Rat} {a b : Nat} (h : Sm a p) (k : Sm b q) (l : a + b ≤ 60000000) : Sz p q := ⟨a, b, h, k, l⟩
theorem Sz.of {p q : Rat} (h : Sm 20000000 p) (k : Sm 20000000 q) : Sz p q := ⟨_, _, h, k, by decide⟩
theorem Sz.symm {p q : Rat} (h : Sz p q) : Sz q p := by
  obtain ⟨a, b, h1, h2, h3⟩ := h
  exact ⟨b, a, h2, h1, by omega⟩
def spR2 (f : Rat → Rat → Rat) : TSp := fun ts S Q E => ∃ p q, ts = [tR p, tR q] ∧ Sz p q ∧ Q (tR (f p q)) S
def sp_plus : TSp := spR2 (· + ·)
def sp_less : TSp := spR2 (· - ·)
def sp_times : TSp := spR2 (· * ·)
def sp_over : TSp := fun ts S Q E => ∃ p q, ts = [tR p, tR q] ∧ Sz p q ∧ (q ≠ 0 → Q (tR (p / q)) S) ∧ (q = 0 → E ⟨"NoFraction", none⟩ S)
def sp_is_less : TSp := fun ts S Q E => ∃ p q, ts = [tR p, tR q] ∧ Sz p q ∧ Q (.bl (decide (p < q))) S
theorem Sz.dd {p q : Rat} (h : Sz p q) : True := trivial
theorem Sz.dn {p q : Rat} (h : Sz p q) : True := trivial
theorem Sz.mnd {p q : Rat} (h : Sz p q) : CMulW p.num q.den := by obtain ⟨a, b, h1, h2, h3⟩ := h; exact cmw h1.1 h2.2 (by omega)
theorem Sz.mdd {p q : Rat} (h : Sz p q) : CMulW p.den q.den := by obtain ⟨a, b, h1, h2, h3⟩ := h; exact cmw h1.2 h2.2 (by omega)
theorem Sz.mnn {p q : Rat} (h : Sz p q) : CMulW p.num q.num := by obtain ⟨a, b, h1, h2, h3⟩ := h; exact cmw h1.1 h2.1 (by omega)
theorem Sz.mdn {p q : Rat} (h : Sz p q) : CMulW p.den q.num := by obtain ⟨a, b, h1, h2, h3⟩ := h; exact cmw h1.2 h2.1 (by omega)
def b_plus (W : XW) : DS :=
  (seqD
    (retD (callF sp_fraction W (consA (opD (binR false .Add) (opD (binR false .Mult) (opD ixR (rdD 0) (cD (.int 0))) (opD ixR (rdD 1) (cD (.int 1)))) (opD (binR false .Mult) (opD ixR (rdD 1) (cD (.int 0))) (opD ixR (rdD 0) (cD (.int 1))))) (consA (opD (binR false .Mult) (opD ixR (rdD 0) (cD (.int 1))) (opD ixR (rdD 1) (cD (.int 1)))) nilA))))
  nextD)
def b_less (W : XW) : DS :=
  (seqD
    (retD (callF sp_fraction W (consA (opD (binR false .Sub) (opD (binR false .Mult) (opD ixR (rdD 0) (cD (.int 0))) (opD ixR (rdD 1) (cD (.int 1)))) (opD (binR false .Mult) (opD ixR (rdD 1) (cD (.int 0))) (opD ixR (rdD 0) (cD (.int 1))))) (consA (opD (binR false .Mult) (opD ixR (rdD 0) (cD (.int 1))) (opD ixR (rdD 1) (cD (.int 1)))) nilA))))
  nextD)
def b_times (W : XW) : DS :=
  (seqD
    (retD (callF sp_fraction W (consA (opD (binR false .Mult) (opD ixR (rdD 0) (cD (.int 0))) (opD ixR (rdD 1) (cD (.int 0)))) (consA (opD (binR false .Mult) (opD ixR (rdD 0) (cD (.int 1))) (opD ixR (rdD 1) (cD (.int 1)))) nilA))))
  nextD)
def b_over (W : XW) : DS :=
  (seqD
    (ifD (tstD (opD (cmpR .Eq) (opD ixR (rdD 1) (cD (.int 0))) (cD (.int 0))))
      (seqD
        (raiseD W "NoFraction" (cD (.str "divided by nought")))
      nextD)
      nextD)
  (seqD
    (retD (callF sp_fraction W (consA (opD (binR false .Mult) (opD ixR (rdD 0) (cD (.int 0))) (opD ixR (rdD 1) (cD (.int 1)))) (consA (opD (binR false .Mult) (opD ixR (rdD 0) (cD (.int 1))) (opD ixR (rdD 1) (cD (.int 0)))) nilA))))
  nextD))
def b_is_less (W : XW) : DS :=
  (seqD
    (retD (opD (cmpR .Lt) (opD (binR false .Mult) (opD ixR (rdD 0) (cD (.int 0))) (opD ixR (rdD 1) (cD (.int 1)))) (opD (binR false .Mult) (opD ixR (rdD 1) (cD (.int 0))) (opD ixR (rdD 0) (cD (.int 1))))))
  nextD)
theorem m_nd {p q : Rat} (h : Sm 20000000 p) (k : Sm 20000000 q) : CMulW p.num q.den := cmw h.1 k.2 (by decide)
theorem m_dd {p q : Rat} (h : Sm 20000000 p) (k : Sm 20000000 q) : CMulW p.den q.den := cmw h.2 k.2 (by decide)
theorem m_nn {p q : Rat} (h : Sm 20000000 p) (k : Sm 20000000 q) : CMulW p.num q.num := cmw h.1 k.1 (by decide)
theorem m_dn {p q : Rat} (h : Sm 20000000 p) (k : Sm 20000000 q) : CMulW p.den q.num := cmw h.2 k.1 (by decide)
theorem dd0 (p q : Rat) : (p.den : Int) * q.den ≠ 0 := Int.mul_ne_zero (den0 p) (den0 q)
theorem law_plus {ts : List T} {S : SS} {Q : KQ} {E : Exn → SS → Prop} (h : sp_plus ts S Q E) : b_plus (fun x _ S' => E x S') { nx := fun _ S' => Q .non S', rt := Q } (start' 2 ts) S := by
  obtain ⟨p, q, rfl, hz, h⟩ := h
  unfold b_plus start'
  simp only [q_seq, q_ret, q_callF, q_cons, q_nil, q_op, q_rd0, q_rd1, List.map, List.cons_append, List.nil_append, q_c, fr_ix0, fr_ix1, q_mulI, q_addI, hz.mnd, hz.symm.mnd, hz.mdd, true_and]
  exact ⟨_, _, rfl, fun _ => by rw [plus_eq]; exact h, fun e => absurd e (dd0 p q)⟩
theorem law_less {ts : List T} {S : SS} {Q : KQ} {E : Exn → SS → Prop} (h : sp_less ts S Q E) : b_less (fun x _ S' => E x S') { nx := fun _ S' => Q .non S', rt := Q } (start' 2 ts) S := by
  obtain ⟨p, q, rfl, hz, h⟩ := h
  unfold b_less start'
  simp only [q_seq, q_ret, q_callF, q_cons, q_nil, q_op, q_rd0, q_rd1, List.map, List.cons_append, List.nil_append, q_c, fr_ix0, fr_ix1, q_mulI, q_subI, hz.mnd, hz.symm.mnd, hz.mdd, true_and]
  exact ⟨_, _, rfl, fun _ => by rw [less_eq]; exact h, fun e => absurd e (dd0 p q)⟩
theorem law_times {ts : List T} {S : SS} {Q : KQ} {E : Exn → SS → Prop} (h : sp_times ts S Q E) : b_times (fun x _ S' => E x S') { nx := fun _ S' => Q .non S', rt := Q } (start' 2 ts) S := by
  obtain ⟨p, q, rfl, hz, h⟩ := h
  unfold b_times start'
  simp only [q_seq, q_ret, q_callF, q_cons, q_nil, q_op, q_rd0, q_rd1, List.map, List.cons_append, List.nil_append, q_c, fr_ix0, fr_ix1, q_mulI, q_subI, hz.mnn, hz.mdd, true_and]
  exact ⟨_, _, rfl, fun _ => by rw [times_eq]; exact h, fun e => absurd e (dd0 p q)⟩
theorem law_over {ts : List T} {S : SS} {Q : KQ} {E : Exn → SS → Prop} (h : sp_over ts S Q E) : b_over (fun x _ S' => E x S') { nx := fun _ S' => Q .non S', rt := Q } (start' 2 ts) S := by
  obtain ⟨p, q, rfl, hz, h, he⟩ := h
  unfold b_over start'
  by_cases h0 : q = 0
  · subst h0
    simpa using he rfl
  · have n0 := num0 h0
    simp [n0, hz.mnd, hz.mdn]
    exact ⟨_, _, rfl, fun _ => by rw [over_eq]; exact h h0, fun e => absurd e (Int.mul_ne_zero (den0 p) n0)⟩
theorem law_is_less {ts : List T} {S : SS} {Q : KQ} {E : Exn → SS → Prop} (h : sp_is_less ts S Q E) : b_is_less (fun x _ S' => E x S') { nx := fun _ S' => Q .non S', rt := Q } (start' 2 ts) S := by
  obtain ⟨p, q, rfl, hz, h⟩ := h
  rw [← rat_lt] at h
  unfold b_is_less start'
  simp [hz.mnd, hz.symm.mnd]
  exact h
section
variable {p q : Rat} {a b : Int} {S : SS} {Q : KQ} {E : Exn → SS → Prop}
theorem ap_plusG (hz : Sz p q) : sp_plus [tR p, tR q] S Q E ↔ Q (tR (p + q)) S := ⟨fun ⟨_, _, e, _, h⟩ => by simp only [List.cons.injEq, tR_inj, and_true] at e; obtain ⟨rfl, rfl⟩ := e; exact h, fun h => ⟨_, _, rfl, hz, h⟩⟩
theorem ap_lessG (hz : Sz p q) : sp_less [tR p, tR q] S Q E ↔ Q (tR (p - q)) S := ⟨fun ⟨_, _, e, _, h⟩ => by simp only [List.cons.injEq, tR_inj, and_true] at e; obtain ⟨rfl, rfl⟩ := e; exact h, fun h => ⟨_, _, rfl, hz, h⟩⟩
theorem ap_timesG (hz : Sz p q) : sp_times [tR p, tR q] S Q E ↔ Q (tR (p * q)) S := ⟨fun ⟨_, _, e, _, h⟩ => by simp only [List.cons.injEq, tR_inj, and_true] at e; obtain ⟨rfl, rfl⟩ := e; exact h, fun h => ⟨_, _, rfl, hz, h⟩⟩
theorem ap_is_lessG (hz : Sz p q) : sp_is_less [tR p, tR q] S Q E ↔ Q (.bl (decide (p < q))) S := ⟨fun ⟨_, _, e, _, h⟩ => by simp only [List.cons.injEq, tR_inj, and_true] at e; obtain ⟨rfl, rfl⟩ := e; exact h, fun h => ⟨_, _, rfl, hz, h⟩⟩
theorem ap_overG (hz : Sz p q) (h0 : q ≠ 0) : sp_over [tR p, tR q] S Q E ↔ Q (tR (p / q)) S := ⟨fun ⟨_, _, e, _, h, _⟩ => by simp only [List.cons.injEq, tR_inj, and_true] at e; obtain ⟨rfl, rfl⟩ := e; exact h h0, fun h => ⟨_, _, rfl, hz, fun _ => h, fun e => absurd e h0⟩⟩
theorem ap_plus (hp : Sm 20000000 p) (hq : Sm 20000000 q) : sp_plus [tR p, tR q] S Q E ↔ Q (tR (p + q)) S := ap_plusG (.of hp hq)
theorem ap_less (hp : Sm 20000000 p) (hq : Sm 20000000 q) : sp_less [tR p, tR q] S Q E ↔ Q (tR (p - q)) S := ap_lessG (.of hp hq)
theorem ap_times (hp : Sm 20000000 p) (hq : Sm 20000000 q) : sp_times [tR p, tR q] S Q E ↔ Q (tR (p * q)) S := ap_timesG (.of hp hq)
theorem ap_is_less (hp : Sm 20000000 p) (hq : Sm 20000000 q) : sp_is_less [tR p, tR q] S Q E ↔ Q (.bl (decide (p < q))) S := ap_is_lessG (.of hp hq)
theorem ap_over (hp : Sm 20000000 p) (hq : Sm 20000000 q) (h0 : q ≠ 0) : sp_over [tR p, tR q] S Q E ↔ Q (tR (p / q)) S := ap_overG (.of hp hq) h0
theorem ap_over0 (hp : Sm 20000000 p) : sp_over [tR p, tR 0] S Q E ↔ E ⟨"NoFraction", none⟩ S := ⟨fun ⟨_, _, e, _, _, h⟩ => by simp only [List.cons.injEq, tR_inj, and_true] at e; obtain ⟨rfl, rfl⟩ := e; exact h rfl, fun h => ⟨_, _, rfl, .of hp (Sm.mono (n := 1) ⟨by decide, by decide⟩ (by decide)), fun z => absurd rfl z, fun _ => h⟩⟩
theorem ap_fraction (h0 : b ≠ 0) (hb : True := trivial) : sp_fraction [.int a, .int b] S Q E ↔ Q (tR (Rat.divInt a b)) S := ⟨fun ⟨_, _, e, h, _⟩ => by cases e; exact h h0, fun h => ⟨_, _, rfl, fun _ => h, fun e => absurd e h0⟩⟩
end
theorem at_ap {l : List T} {i : Int} {P : T → Prop} (h0 : 0 ≤ i) (h : i < l.length) (k : ∀ t, t ∈ l → P t) : match atI l i with
  | some t => P t
  | none => False := by
  obtain ⟨t, e, m⟩ := atI_lt h0 h
  rw [e]
  exact k t m
/-! ### is_whole, is_fraction -/
def isT : T → Bool
  | .non => true
  | .bl _ => true
  | .int _ => true
  | .str _ => true
  | .tup _ => true
  | .lst _ => true
  | .dic => true
  | _ => false
def isW : T → Bool
  | .int _ => true
  | _ => false
def isFr : T → Bool
  | .tup [.int a, .int b] => decide (0 < b) && decide ((Int.gcd a b : Int) = 1)
  | _ => false
def okT (t : T) : Prop := isT t = true ∧ ∀ l, t = .tup l → ∀ x, x ∈ l → isT x = true
def sp_is_whole : TSp := fun ts S Q E => ∃ t, ts = [t] ∧ isT t = true ∧ Q (.bl (isW t)) S
theorem len_is_whole (ts S Q E) (h : sp_is_whole ts S Q E) : ts.length = 1 := by obtain ⟨_, rfl, _⟩ := h; rfl
theorem ap_is_whole {t : T} {S : SS} {Q : KQ} {E : Exn → SS → Prop} (ht : isT t = true) : sp_is_whole [t] S Q E ↔ Q (.bl (isW t)) S := ⟨fun ⟨_, e, _, h⟩ => by cases e; exact h, fun h => ⟨_, rfl, ht, h⟩⟩
def b_is_whole (W : XW) : DS :=
  (seqD
    (retD (andE (callB (isaR sub) (consA (rdD 0) (consA (cD (.ty "int")) nilA))) (notE (callB (isaR sub) (consA (rdD 0) (consA (cD (.ty "bool")) nilA))))))
  nextD)
theorem law_is_whole {ts : List T} {S : SS} {Q : KQ} {E : Exn → SS → Prop} (h : sp_is_whole ts S Q E) : b_is_whole (fun x _ S' => E x S') { nx := fun _ S' => Q .non S', rt := Q } (start' 1 ts) S := by
  obtain ⟨t, rfl, ht, h⟩ := h
  unfold b_is_whole start'
  cases t <;> first | (simp [isT] at ht; done) | (simp [isW] at h ⊢; exact h)
def sp_is_fraction : TSp := fun ts S Q E => ∃ t, ts = [t] ∧ okT t ∧ Q (.bl (isFr t)) S
theorem len_is_fraction (ts S Q E) (h : sp_is_fraction ts S Q E) : ts.length = 1 := by obtain ⟨_, rfl, _⟩ := h; rfl
theorem ap_is_fraction {t : T} {S : SS} {Q : KQ} {E : Exn → SS → Prop} (ht : okT t) : sp_is_fraction [t] S Q E ↔ Q (.bl (isFr t)) S := ⟨fun ⟨_, e, _, h⟩ => by cases e; exact h, fun h => ⟨_, rfl, ht, h⟩⟩
theorem fr_gcd (q : Rat) : Int.gcd q.num q.den = 1 := q.reduced
theorem isFr_tR (q : Rat) : isFr (tR q) = true := by
  unfold isFr tR
  have := q.den_pos
  simp [fr_gcd, this]
theorem okT_tR (q : Rat) : okT (tR q) := ⟨rfl, fun l e x hx => by
  cases e
  simp at hx
  rcases hx with rfl | rfl <;> rfl⟩
def b_is_fraction (W : XW) : DS :=
  (seqD
    (ifD (orT (notT (truD (callB (isaR sub) (consA (rdD 0) (consA (cD (.ty "tuple")) nilA))))) (orT (tstD (opD (cmpR .NotEq) (callB lenR (consA (rdD 0) nilA)) (cD (.int 2)))) (orT (notT (truD (callF sp_is_whole W (consA (opD ixR (rdD 0) (cD (.int 0))) nilA)))) (notT (truD (callF sp_is_whole W (consA (opD ixR (rdD 0) (cD (.int 1))) nilA)))))))
      (seqD
        (retD (cD (.bl false)))
      nextD)
      nextD)
  (seqD
    (retD (andE (opD (cmpR .Gt) (opD ixR (rdD 0) (cD (.int 1))) (cD (.int 0))) (opD (cmpR .Eq) (callF sp_divisor W (consA (opD ixR (rdD 0) (cD (.int 0))) (consA (opD ixR (rdD 0) (cD (.int 1))) nilA))) (cD (.int 1)))))
  nextD))
theorem law_is_fraction {ts : List T} {S : SS} {Q : KQ} {E : Exn → SS → Prop} (h : sp_is_fraction ts S Q E) : b_is_fraction (fun x _ S' => E x S') { nx := fun _ S' => Q .non S', rt := Q } (start' 1 ts) S := by
  obtain ⟨t, rfl, ht, h⟩ := h
  unfold b_is_fraction start'
  cases t with
  | tup l =>
    match l, ht, h with
    | [], ht, h => simpa [isFr] using h
    | [x], ht, h => simpa [isFr] using h
    | x :: y :: z :: r, ht, h =>
      have e : ¬ ((r.length : Int) + 1 + 1 + 1 = 2) := by omega
      simpa [isFr, e] using h
    | [x, y], ht, h =>
      have hx := ht.2 _ rfl x (by simp)
      have hy := ht.2 _ rfl y (by simp)
      simp [ap_is_whole hx, ap_is_whole hy]
      cases x with
      | int a =>
        cases y with
        | int b =>
          simp only [isFr] at h
          simp [isW]
          by_cases hb : 0 < b
          · simpa [hb] using h
          · simpa [hb] using h
        | _ => simpa [isW, isFr] using h
      | _ => simpa [isW, isFr] using h
  | _ => first | (simp [okT, isT] at ht; done) | (simpa [isFr] using h)
/-! ### how many each takes -/
theorem len_divisor (ts S Q E) (h : sp_divisor ts S Q E) : ts.length = 2 := by obtain ⟨_, _, rfl, _⟩ := h; rfl
theorem len_fraction (ts S Q E) (h : sp_fraction ts S Q E) : ts.length = 2 := by obtain ⟨_, _, rfl, _⟩ := h; rfl
theorem len_plus (ts S Q E) (h : sp_plus ts S Q E) : ts.length = 2 := by obtain ⟨_, _, rfl, _⟩ := h; rfl
theorem len_less (ts S Q E) (h : sp_less ts S Q E) : ts.length = 2 := by obtain ⟨_, _, rfl, _⟩ := h; rfl
theorem len_times (ts S Q E) (h : sp_times ts S Q E) : ts.length = 2 := by obtain ⟨_, _, rfl, _⟩ := h; rfl
theorem len_over (ts S Q E) (h : sp_over ts S Q E) : ts.length = 2 := by obtain ⟨_, _, rfl, _⟩ := h; rfl
theorem len_is_less (ts S Q E) (h : sp_is_less ts S Q E) : ts.length = 2 := by obtain ⟨_, _, rfl, _⟩ := h; rfl
/-- a law's call: a script -/
def sp_law : TSp := fun ts S Q E => ∃ ns : List Int, ts = [.lst (ns.map T.int)] ∧ ns.length ≤ 63 ∧ (∀ k ∈ ns, Builtin.Int.intBits k ≤ 1048576) ∧ ∀ S', Q (.bl true) S'
theorem len_law (ts S Q E) (h : sp_law ts S Q E) : ts.length = 1 := by obtain ⟨_, rfl, _⟩ := h; rfl
theorem tup_lit' {a b : Int} (q : Rat) (h1 : q.num = a) (h2 : (q.den : Int) = b) : T.tup [.int a, .int b] = tR q := by
  subst h1; subst h2; rfl
theorem tup_low {a b : Int} (hb : 0 < b) (h : Int.gcd a b = 1) : T.tup [.int a, .int b] = tR (Rat.divInt a b) := by
  have h1 := Rat.num_divInt a b
  have h2 := Rat.den_divInt a b
  rw [Int.gcd_comm] at h
  rw [h, Int.sign_eq_one_of_pos hb] at h1
  rw [if_neg (by omega), h] at h2
  refine tup_lit' _ ?_ ?_
  · rw [h1]; simp
  · rw [h2]; simp; omega
theorem g_div_le {a b c : Rat} (hb : 0 < b) (h : a ≤ c * b) : a / b ≤ c := by
  have hb' : b ≠ 0 := by grind
  have e : a / b * b = a := Rat.div_mul_cancel hb'
  refine Rat.not_lt.mp fun z => ?_
  have := Rat.mul_lt_mul_of_pos_right z hb
  grind
theorem g_le_div {a b c : Rat} (hb : 0 < b) (h : c * b ≤ a) : c ≤ a / b := by
  have hb' : b ≠ 0 := by grind
  have e : a / b * b = a := Rat.div_mul_cancel hb'
  refine Rat.not_lt.mp fun z => ?_
  have := Rat.mul_lt_mul_of_pos_right z hb
  grind
theorem g_dI_le {a b : Int} {q : Rat} (hb : 0 < b) (h : (a : Rat) ≤ q * (b : Rat)) : Rat.divInt a b ≤ q := by
  rw [Rat.divInt_eq_div]
  exact g_div_le (by exact_mod_cast hb) h
theorem g_le_dI {a b : Int} {q : Rat} (hb : 0 < b) (h : q * (b : Rat) ≤ (a : Rat)) : q ≤ Rat.divInt a b := by
  rw [Rat.divInt_eq_div]
  exact g_le_div (by exact_mod_cast hb) h
theorem g_nn {a b : Int} (ha : 0 ≤ a) (hb : 0 < b) : 0 ≤ Rat.divInt a b := g_le_dI hb (by rw [Rat.zero_mul]; exact_mod_cast ha)
/-- trees that stand for such things -/
theorem of_all {α : Type} {f : α → T} {P : α → Prop} : ∀ {l : List T}, (∀ t, t ∈ l → ∃ y, t = f y ∧ P y) → ∃ R : List α, l = R.map f ∧ R.length = l.length ∧ ∀ y, y ∈ R → P y
  | [], _ => ⟨[], rfl, rfl, by simp⟩
  | t :: l, h => by
    obtain ⟨y, e, hy⟩ := h t List.mem_cons_self
    obtain ⟨R, e2, e4, e3⟩ := of_all fun u hu => h u (List.mem_cons_of_mem _ hu)
    refine ⟨y :: R, by rw [e, e2]; rfl, by simp [e4], fun z hz => ?_⟩
    rcases List.mem_cons.mp hz with rfl | hz
    · exact hy
    · exact e3 z hz
end TL

set_option Elab.async false
set_option linter.all false
set_option maxRecDepth 100000
set_option maxHeartbeats 400000
set_option autoImplicit false
/-! TLP: what repr tells of trees of whole numbers. -/
namespace TL
open PySem PySem.Spec PyProof.Rows L2
mutual
/-- a tree of numbers, truths, None: how many parts -/
def T.cnt : T → Nat
  | .tup l => 1 + T.cnts l
  | .lst l => 1 + T.cnts l
  | _ => 1
def T.cnts : List T → Nat
  | [] => 0
  | t :: ts => T.cnt t + T.cnts ts
end
mutual
def T.itr : T → Bool
  | .non => true
  | .bl _ => true
  | .int i => decide (i.natAbs.log2 < 1920)
  | .str x => decide ((T.shown (.str x)).length + 2 ≤ 2000) && PyData.strOk (T.shown (.str x))
  | .tup l => T.itrs l
  | .lst l => T.itrs l
  | .dic => true
  | _ => false
def T.itrs : List T → Bool
  | [] => true
  | t :: ts => T.itr t && T.itrs ts
end
def lenAll (ts : List Str) : Nat := (ts.map fun t => t.length + 2).sum
theorem join_len : ∀ ts : List Str, (Str.join ", " ts).length ≤ lenAll ts
  | [] => by decide
  | [x] => by
    show x.length ≤ _
    simp [lenAll]
  | x :: y :: r => by
    have ih := join_len (y :: r)
    show (x ++ ", " ++ Str.join ", " (y :: r)).length ≤ _
    have e2 : ((", " : String) : Str).length = 2 := rfl
    rw [strLen_append, strLen_append, e2]
    simp only [lenAll, List.map_cons, List.sum_cons] at ih ⊢
    omega
theorem tf_len : ∀ (ts : List Str) (k : Nat) (acc : Str), (textFrom k acc ts).length ≤ acc.length + lenAll ts
  | [], k, acc => by show acc.length ≤ _; omega
  | t :: r, k, acc => by
    have ih := tf_len r (k + 1) (acc ++ (if k > 0 then ", " else "" : String) ++ t)
    have e : (((if k > 0 then ", " else "" : String) : Str)).length ≤ 2 := by split <;> decide
    rw [strLen_append, strLen_append] at ih
    show (textFrom (k + 1) (acc ++ (if k > 0 then ", " else "" : String) ++ t) r).length ≤ _
    simp only [lenAll, List.map_cons, List.sum_cons] at ih ⊢
    omega
theorem tupleText_len (ts : List Str) : (tupleText ts).length ≤ lenAll ts + 3 := by
  unfold tupleText
  rw [strLen_append, strLen_append]
  have e1 : ((("(" : String) : Str)).length = 1 := rfl
  have e3 : (((if ts.length == 1 then ",)" else ")" : String) : Str)).length ≤ 2 := by split <;> decide
  have := join_len ts
  rw [e1]
  omega
mutual
theorem shown_len : ∀ t : T, t.itr = true → t.shown.length + 2 ≤ 2000 * t.cnt
  | .non, _ => by
    have : (T.shown .non).length = 4 := by decide +kernel
    rw [this]; simp [T.cnt]
  | .bl b, _ => by
    have : (T.shown (.bl b)).length ≤ 5 := by cases b <;> decide +kernel
    simp [T.cnt]; omega
  | .int i, h => by
    simp only [T.itr, decide_eq_true_eq] at h
    have := int_text_len_1921 (i := i) h
    have e : (T.shown (.int i)) = PySem.Str.ofString (toString i) := by
      unfold T.shown T.toD PyData.shown; rfl
    rw [e]
    simp only [T.cnt]; omega
  | .tup l, h => by
    simp only [T.itr] at h
    have ih := shownAll_len l h
    have := tupleText_len (PyData.shownAll (T.toDs l))
    have e : T.shown (.tup l) = tupleText (PyData.shownAll (T.toDs l)) := by
      unfold T.shown T.toD; rw [PyData.shown]
    rw [e]
    simp only [T.cnt]; omega
  | .lst l, h => by
    simp only [T.itr] at h
    have ih := shownAll_len l h
    have := tf_len (PyData.shownAll (T.toDs l)) 0 "["
    have e : T.shown (.lst l) = textFrom 0 "[" (PyData.shownAll (T.toDs l)) ++ "]" := by
      unfold T.shown T.toD; rw [PyData.shown]; unfold listText; rfl
    have e1 : (("[" : String) : Str).length = 1 := rfl
    have e2 : (("]" : String) : Str).length = 1 := rfl
    rw [e, strLen_append, e2]
    simp only [T.cnt]; omega
  | .str x, h => by
    simp only [T.itr, Bool.and_eq_true, decide_eq_true_eq] at h
    simp only [T.cnt]; omega
  | .ref _, h => by simp [T.itr] at h
  | .dic, _ => by
    have : (T.shown .dic).length = 2 := by decide +kernel
    rw [this]; simp [T.cnt]
  | .exc _ _, h => by simp [T.itr] at h
  | .ty _, h => by simp [T.itr] at h
  | .cls _, h => by simp [T.itr] at h
theorem shownAll_len : ∀ l : List T, T.itrs l = true → lenAll (PyData.shownAll (T.toDs l)) ≤ 2000 * T.cnts l
  | [], _ => by simp [T.toDs, PyData.shownAll, lenAll]
  | t :: ts, h => by
    simp only [T.itrs, Bool.and_eq_true] at h
    have h1 := shown_len t h.1
    have h2 := shownAll_len ts h.2
    simp only [T.toDs, PyData.shownAll, lenAll, List.map_cons, List.sum_cons, T.cnts] at h2 ⊢
    unfold T.shown at h1
    omega
end
theorem strOk_of {x : Str} (h : ∀ c, 1114112 ≤ c → c ∉ x.cps.toList) : PyData.strOk x = true := by
  unfold PyData.strOk
  rw [Array.all_eq_true']
  intro c hc
  rw [decide_eq_true_eq]
  refine Nat.lt_of_not_le fun hle => h c hle (Array.mem_toList_iff.mpr hc)
theorem no_of {x : Str} (h : PyData.strOk x = true) : ∀ c, 1114112 ≤ c → c ∉ x.cps.toList := by
  intro c hc hm
  unfold PyData.strOk at h
  rw [Array.all_eq_true'] at h
  have := h c (Array.mem_toList_iff.mp hm)
  rw [decide_eq_true_eq] at this
  omega
theorem join_ok {ts : List Str} (h : ∀ t, t ∈ ts → PyData.strOk t = true) : ∀ c, 1114112 ≤ c → c ∉ (Str.join ", " ts).cps.toList := by
  intro c hc hm
  rcases (mem_join ", " c ts).mp hm with ⟨t, ht, h1⟩ | ⟨_, h1⟩
  · exact no_of (h t ht) c hc h1
  · rw [signs_sep] at h1
    simp at h1
    omega
theorem app_ok {x y : Str} (hx : ∀ c, 1114112 ≤ c → c ∉ x.cps.toList) (hy : ∀ c, 1114112 ≤ c → c ∉ y.cps.toList) : ∀ c, 1114112 ≤ c → c ∉ (x ++ y).cps.toList := by
  intro c hc hm
  have e : (x ++ y).cps = x.cps ++ y.cps := rfl
  rw [e, Array.toList_append, List.mem_append] at hm
  exact hm.elim (hx c hc) (hy c hc)
theorem tf_ok : ∀ (ts : List Str) (k : Nat) (acc : Str), (∀ t, t ∈ ts → PyData.strOk t = true) → (∀ c, 1114112 ≤ c → c ∉ acc.cps.toList) → ∀ c, 1114112 ≤ c → c ∉ (textFrom k acc ts).cps.toList
  | [], k, acc, _, h => h
  | t :: r, k, acc, ht, h => tf_ok r (k + 1) (acc ++ (if k > 0 then ", " else "" : String) ++ t) (fun u hu => ht u (List.mem_cons_of_mem _ hu)) (app_ok (app_ok h (no_of (by split <;> decide +kernel))) (no_of (ht t List.mem_cons_self)))
mutual
theorem shown_ok : ∀ t : T, t.itr = true → PyData.strOk t.shown = true
  | .non, _ => by decide +kernel
  | .bl b, _ => by cases b <;> decide +kernel
  | .int i, h => strOk_of fun c hc => by
    have e : (T.shown (.int i)) = (PyData.int i).shown := by unfold T.shown T.toD; rfl
    rw [e]
    exact shown_int_free' ⟨by omega, .inr (by omega)⟩ i
  | .tup l, h => by
    simp only [T.itr] at h
    have ih := shownAll_ok l h
    have e : T.shown (.tup l) = tupleText (PyData.shownAll (T.toDs l)) := by
      unfold T.shown T.toD; rw [PyData.shown]
    rw [e]
    unfold tupleText
    exact strOk_of (app_ok (app_ok (no_of (by decide +kernel)) (join_ok ih)) (no_of (by split <;> decide +kernel)))
  | .lst l, h => by
    simp only [T.itr] at h
    have ih := shownAll_ok l h
    have e : T.shown (.lst l) = textFrom 0 "[" (PyData.shownAll (T.toDs l)) ++ "]" := by
      unfold T.shown T.toD; rw [PyData.shown]; unfold listText; rfl
    rw [e]
    exact strOk_of (app_ok (tf_ok _ 0 "[" ih (no_of (by decide +kernel))) (no_of (by decide +kernel)))
  | .str x, h => by
    simp only [T.itr, Bool.and_eq_true] at h
    exact h.2
  | .ref _, h => by simp [T.itr] at h
  | .dic, _ => by decide +kernel
  | .exc _ _, h => by simp [T.itr] at h
  | .ty _, h => by simp [T.itr] at h
  | .cls _, h => by simp [T.itr] at h
theorem shownAll_ok : ∀ l : List T, T.itrs l = true → ∀ x, x ∈ PyData.shownAll (T.toDs l) → PyData.strOk x = true
  | [], _, x, hx => by simp [T.toDs, PyData.shownAll] at hx
  | t :: ts, h, x, hx => by
    simp only [T.itrs, Bool.and_eq_true] at h
    simp only [T.toDs, PyData.shownAll, List.mem_cons] at hx
    rcases hx with rfl | hx
    · exact shown_ok t h.1
    · exact shownAll_ok ts h.2 x hx
end
section
variable {S : SS} {Q : KQ} {t u : T}
theorem itr_deref (h : t.itr = true) : deref S t = t := by
  cases t <;> first | rfl | (simp [T.itr] at h)
theorem rep_ap (h1 : t.itr = true) (h2 : t.shw 50 = true) (h3 : t.cnt ≤ 8000) : reprR [t] S Q ↔ Q (.str t.shown) S := by
  have := shown_len t h1
  have l : t.shown.length ≤ sizeLine := by rw [slv]; omega
  show (T.shw 50 (deref S t) = true ∧ (deref S t).shown.length ≤ sizeLine ∧ Q (.str (deref S t).shown) S) ↔ _
  rw [itr_deref h1]
  exact ⟨fun h => h.2.2, fun h => ⟨h2, l, h⟩⟩
theorem rep_ref {a : Addr} {l : List T} (hS : S a = some (.lst l)) (h1 : (T.lst l).itr = true) (h2 : (T.lst l).shw 50 = true) (h3 : (T.lst l).cnt ≤ 8000) : reprR [.ref a] S Q ↔ Q (.str (T.lst l).shown) S := by
  have := shown_len (.lst l) h1
  have sl : (T.lst l).shown.length ≤ sizeLine := by rw [slv]; omega
  have d : deref S (.ref a) = .lst l := by unfold deref; simp only [hS]
  show (T.shw 50 (deref S (.ref a)) = true ∧ (deref S (.ref a)).shown.length ≤ sizeLine ∧ Q (.str (deref S (.ref a)).shown) S) ↔ _
  rw [d]
  exact ⟨fun h => h.2.2, fun h => ⟨h2, sl, h⟩⟩
theorem rep_ne (h1 : t.itr = true) : cmpR .NotEq (.str t.shown) (.str t.shown) S Q = Q (.bl false) S := by
  rw [q_neS (shown_ok t h1) (shown_ok t h1), bne_self_eq_false]
theorem rep_eq (h1 : t.itr = true) : cmpR .Eq (.str t.shown) (.str t.shown) S Q = Q (.bl true) S := by
  rw [q_eqS (shown_ok t h1) (shown_ok t h1), beq_self_eq_true]
end
theorem tR_itr {q : Rat} {n : Nat} (h : Sm n q) (hn : n ≤ 1900) (h0 : 0 < n) : (tR q).itr = true := by
  have h1 := log_lt h.1 h0
  have h2 := log_lt h.2 h0
  simp only [tR, T.itr, T.itrs, Bool.and_eq_true, decide_eq_true_eq, Int.natAbs_natCast, and_true]
  omega
theorem tR_shw {q : Rat} {n k : Nat} (h : Sm n q) (hn : n ≤ 1900) (h0 : 0 < n) : (tR q).shw (k + 1) = true := by
  have h1 := log_lt h.1 h0
  have h2 := log_lt h.2 h0
  simp only [tR, T.shw, T.shws, Bool.and_eq_true, decide_eq_true_eq, Int.natAbs_natCast, and_true]
  omega
theorem tR_cnt {q : Rat} : (tR q).cnt = 3 := rfl
end TL

set_option Elab.async false
set_option linter.all false
set_option maxRecDepth 100000
set_option maxHeartbeats 4000000
set_option autoImplicit false
/-! TLB: rows of fractions, brines. -/
namespace TL
open PySem PySem.Spec PyProof.Rows L2
theorem lcL_gen {α : Type} {emb : α → T} {g : α → Bool} {f : α → T} {tg : Tg} {tt : DT} {te : DE} {mu : Bool} {τ : Sg} {Q : KQ} {S : SS} : ∀ {l : List α} {acc : List T},
    (∀ a, a ∈ l → ∃ τ1, bindT tg (emb a) τ = some τ1 ∧ (∀ QT : Bool → SS → Prop, QT (g a) S → tt τ1 S QT) ∧ (g a = true → ∀ K : KQ, K (f a) S → te τ1 S K)) →
    acc.length + l.length ≤ 16777216 → newL mu (acc ++ (l.filter g).map f) S Q → lcL (fun _ => True) tg tt te mu τ Q (l.map emb) acc S
  | [], acc, _, _, fin => ⟨trivial, by simpa using fin⟩
  | a :: l, acc, h, hl, fin => by
    rw [List.length_cons] at hl
    have hs : sizeLine = 16777216 := rfl
    obtain ⟨τ1, e, h1, h2⟩ := h a List.mem_cons_self
    rw [List.map_cons, q_lcL1, e]
    refine ⟨trivial, h1 _ ?_⟩
    cases hg : g a with
    | true =>
      refine h2 hg _ ⟨by omega, lcL_gen (fun b hb => h b (List.mem_cons_of_mem _ hb)) (by rw [List.length_append, List.length_singleton]; omega) ?_⟩
      rw [List.filter_cons_of_pos hg] at fin
      simpa using fin
    | false =>
      refine lcL_gen (fun b hb => h b (List.mem_cons_of_mem _ hb)) (by omega) ?_
      rw [List.filter_cons_of_neg (by rw [hg]; exact Bool.false_ne_true)] at fin
      exact fin
theorem lcL_genC {α : Type} {emb : α → T} {g : α → Bool} {f : α → T} {tg : Tg} {tt : DT} {te : DE} {mu : Bool} {τ : Sg} {Q : KQ} {S : SS} {chk : SS → Prop} (hc : chk S) : ∀ {l : List α} {acc : List T},
    (∀ a, a ∈ l → ∃ τ1, bindT tg (emb a) τ = some τ1 ∧ (∀ QT : Bool → SS → Prop, QT (g a) S → tt τ1 S QT) ∧ (g a = true → ∀ K : KQ, K (f a) S → te τ1 S K)) →
    acc.length + l.length ≤ 16777216 → newL mu (acc ++ (l.filter g).map f) S Q → lcL chk tg tt te mu τ Q (l.map emb) acc S
  | [], acc, _, _, fin => ⟨hc, by simpa using fin⟩
  | a :: l, acc, h, hl, fin => by
    rw [List.length_cons] at hl
    have hs : sizeLine = 16777216 := rfl
    obtain ⟨τ1, e, h1, h2⟩ := h a List.mem_cons_self
    rw [List.map_cons, q_lcL1, e]
    refine ⟨hc, h1 _ ?_⟩
    cases hg : g a with
    | true =>
      refine h2 hg _ ⟨by omega, lcL_genC hc (fun b hb => h b (List.mem_cons_of_mem _ hb)) (by rw [List.length_append, List.length_singleton]; omega) ?_⟩
      rw [List.filter_cons_of_pos hg] at fin
      simpa using fin
    | false =>
      refine lcL_genC hc (fun b hb => h b (List.mem_cons_of_mem _ hb)) (by omega) ?_
      rw [List.filter_cons_of_neg (by rw [hg]; exact Bool.false_ne_true)] at fin
      exact fin
theorem chk_ref {S : SS} {a : Addr} {l : List T} (h : S a = some (.lst l)) : chkOf (.ref a) l S := by
  first
    | exact h
    | (unfold chkOf; simp [sqOf, h])
theorem blsOf_map {α : Type} (f : α → Bool) : ∀ l : List α, blsOf (l.map fun a => T.bl (f a)) = some (l.map f)
  | [] => rfl
  | a :: l => by rw [List.map_cons, blsOf, blsOf_map f l]; rfl
theorem all_ap {α : Type} {f : α → Bool} {l : List α} {S : SS} {Q : KQ} : allR (fun bs => bs.all id) [.lst (l.map fun a => T.bl (f a))] S Q ↔ Q (.bl (l.all f)) S := by
  show (match lsOf S (.lst (l.map fun a => T.bl (f a))) with
    | some l => (match blsOf l with
      | some bs => Q (.bl (bs.all id)) S
      | none => False)
    | none => False) ↔ _
  simp only [lsOf, blsOf_map]
  have e : (l.map f).all id = l.all f := by rw [List.all_map]; rfl
  rw [e]
theorem cut1 {α : Type} (l : List α) : cutG l (some 1) none = l.tail := by
  unfold cutG HT.sIx
  cases l with
  | nil => rfl
  | cons a l =>
    have h1 : ¬ ((1 : Int) < 0) := by decide
    simp only [h1, if_false, List.length_cons]
    have : min (Int.toNat 1) (l.length + 1) = 1 := by
      have : Int.toNat 1 = 1 := rfl
      omega
    rw [this]
    simp
theorem zpT_map {α β : Type} (f : α → T) (g : β → T) : ∀ (l : List α) (m : List β), zpT (l.map f) (m.map g) = (l.zip m).map fun p => T.tup [f p.1, g p.2]
  | [], _ => by simp [zpT]
  | _ :: _, [] => by simp [zpT]
  | a :: l, b :: m => by simp [zpT, zpT_map f g l m]
@[simp] theorem q_zipT {dA : DA} {τ : Sg} {S : SS} {QI : List T → (SS → Prop) → SS → Prop} : zipI dA τ S QI = dA τ S fun ts S1 => match ts with
  | [.tup l, .tup m] => QI (zpT l m) (fun _ => True) S1
  | [t, u] => (match sqOf S1 t, sqOf S1 u with
    | some l, some m => QI (zpT l m) (fun S => chkOf t l S ∧ chkOf u m S) S1
    | _, _ => False)
  | _ => False := rfl
@[simp] theorem q_rev {mu : Bool} {d : DE} {τ : Sg} {S : SS} {Q : KQ} : revR mu d τ S Q = d τ S fun x S1 => match x with
  | .tup l => Q (.tup l.reverse) S1
  | x => (match lsOf S1 x with
    | some l => newL mu l.reverse S1 Q
    | none => False) := rfl
@[simp] theorem q_tupL {l : List T} {S : SS} {Q : KQ} : tupleTR [.lst l] S Q = Q (.tup l) S := rfl
@[simp] theorem q_slT {mu : Bool} {l : List T} {lo hi : Option Int} {S : SS} {Q : KQ} : slR mu (.tup l) lo hi S Q = Q (.tup (cutG l lo hi)) S := rfl
theorem filt_true {α : Type} (l : List α) : l.filter (fun _ => true) = l := List.filter_eq_self.mpr fun _ _ => rfl
/-! ### sums -/
def rsum (l : List Rat) : Rat := l.foldl (· + ·) 0
theorem foldl_sm {n : Nat} : ∀ (l : List Rat) (a : Rat) (k : Nat), Sm k a → (∀ x, x ∈ l → Sm n x) → Sm (k + (n + 1) * l.length) (l.foldl (· + ·) a)
  | [], a, k, h, _ => by simpa using h
  | x :: l, a, k, h, hl => by
    have := foldl_sm l (a + x) (k + n + 1) (h.add (hl x List.mem_cons_self)) fun y hy => hl y (List.mem_cons_of_mem _ hy)
    rw [List.length_cons, Nat.mul_succ]
    exact this.mono (by omega)
theorem Sm0 : Sm 1 0 := ⟨by decide +kernel, by decide +kernel⟩
theorem rsum_sm {n : Nat} {l : List Rat} (h : ∀ x, x ∈ l → Sm n x) : Sm (1 + (n + 1) * l.length) (rsum l) := foldl_sm l 0 1 Sm0 h
/-- room for the sum, part by part -/
def Bud : Nat → List Rat → Prop
  | _, [] => True
  | N, x :: l => ∃ n, Sm n x ∧ n + 1 ≤ N ∧ Bud (N - (n + 1)) l
theorem Bud.mono : ∀ {l : List Rat} {N M : Nat}, Bud N l → N ≤ M → Bud M l
  | [], _, _, _, _ => trivial
  | x :: l, N, M, ⟨n, h1, h2, h3⟩, k => ⟨n, h1, by omega, Bud.mono h3 (by omega)⟩
theorem Bud.uni {n : Nat} : ∀ {l : List Rat} {N : Nat}, (∀ x, x ∈ l → Sm n x) → (n + 1) * l.length ≤ N → Bud N l
  | [], _, _, _ => trivial
  | x :: l, N, h, k => by
    rw [List.length_cons, Nat.mul_succ] at k
    exact ⟨n, h x List.mem_cons_self, by omega, Bud.uni (fun y hy => h y (List.mem_cons_of_mem _ hy)) (by omega)⟩
theorem Bud.sm : ∀ {l : List Rat} {N k : Nat} {a : Rat}, Bud N l → Sm k a → Sm (k + N) (l.foldl (· + ·) a)
  | [], _, _, _, _, h => h.mono (by omega)
  | x :: l, N, k, a, ⟨n, h1, h2, h3⟩, h => by
    have := Bud.sm h3 (h.add h1)
    exact this.mono (by omega)
def sp_summed : TSp := fun ts S Q E => ∃ (l : List Rat), (ts = [.lst (l.map tR)] ∨ ts = [.tup (l.map tR)]) ∧ Bud 16000000 l ∧ Q (tR (rsum l)) S
theorem len_summed (ts S Q E) (h : sp_summed ts S Q E) : ts.length = 1 := by obtain ⟨_, rfl | rfl, _⟩ := h <;> rfl
theorem summedB {l : List Rat} {S : SS} {Q : KQ} {E : Exn → SS → Prop} (h1 : Bud 16000000 l) (k : Q (tR (rsum l)) S) : sp_summed [.lst (l.map tR)] S Q E := ⟨l, .inl rfl, h1, k⟩
theorem summedL {l : List Rat} {n : Nat} {S : SS} {Q : KQ} {E : Exn → SS → Prop} (h1 : ∀ x, x ∈ l → Sm n x) (h2 : (n + 1) * (l.length + 1) ≤ 16000000) (k : Q (tR (rsum l)) S) : sp_summed [.lst (l.map tR)] S Q E := summedB (Bud.uni h1 (by rw [Nat.mul_succ] at h2; omega)) k
def b_summed (W : XW) : DS :=
  (seqD
    (asgD (cD (.tup [(.int 0), (.int 1)])) (.nm 1))
  (seqD
    (forD (seqI (rdD 0)) (.nm 2)
      (seqD
        (asgD (callF sp_plus W (consA (rdD 1) (consA (rdD 2) nilA))) (.nm 1))
      nextD))
  (seqD
    (retD (rdD 1))
  nextD)))
theorem summed_loop {D : Ends'} {S : SS} {E : Exn → SS → Prop} {row : T} : ∀ (l : List Rat) (f : Rat) (k N : Nat) (x : Option T), Sm k f → Bud N l → k + N ≤ 16000005 → (∀ x, D.nx [some row, some (tR (l.foldl (· + ·) f)), x] S) →
    forL (fun _ => True) (.nm 2) (seqD (asgD (callF sp_plus (fun x _ S' => E x S') (consA (rdD 1) (consA (rdD 2) nilA))) (.nm 1)) nextD) D (l.map tR) [some row, some (tR f), x] S
  | [], f, k, N, x, _, _, _, h => ⟨trivial, h x⟩
  | y :: l, f, k, N, x, hf, ⟨n, hy, hn, hb⟩, hk, h => by
    rw [List.map_cons, q_forL1]
    refine ⟨trivial, ?_⟩
    simp [ap_plusG (Sz.mk hf hy (by omega))]
    exact summed_loop l (f + y) (k + n + 1) (N - (n + 1)) _ (hf.add hy) hb (by omega) h
theorem law_summed {ts : List T} {S : SS} {Q : KQ} {E : Exn → SS → Prop} (h : sp_summed ts S Q E) : b_summed (fun x _ S' => E x S') { nx := fun _ S' => Q .non S', rt := Q } (start' 3 ts) S := by
  obtain ⟨l, e, hs, h⟩ := h
  unfold b_summed start'
  rcases e with rfl | rfl
  · simp [tR0]
    exact summed_loop l 0 1 16000000 none Sm0 hs (by decide) fun x => h
  · simp [tR0]
    exact summed_loop l 0 1 16000000 none Sm0 hs (by decide) fun x => h
/-! ### layers -/
abbrev Lay := Rat × Rat
def tL (x : Lay) : T := .tup [tR x.1, tR x.2]
def tB (l : List Lay) : T := .tup (l.map tL)
def SmL (n : Nat) (l : List Lay) : Prop := ∀ x, x ∈ l → Sm n x.1 ∧ Sm n x.2
section
variable {x : Lay} {S : SS} {Q : KQ} {τ : Sg} {g : Tg} {l : List Lay}
@[simp] theorem tl_ix0 : ixR (tL x) (.int 0) S Q = Q (tR x.1) S := by simp [tL]
@[simp] theorem tl_ix1 : ixR (tL x) (.int 1) S Q = Q (tR x.2) S := by simp [tL]
@[simp] theorem tl_bind : bindT (.tp g) (tL x) τ = bindTs g [tR x.1, tR x.2] τ := rfl
@[simp] theorem tl_len : lenR [tL x] S Q = Q (.int 2) S := rfl
@[simp] theorem tb_sq : sqOf S (tB l) = some (l.map tL) := rfl
@[simp] theorem tb_chk {m : List T} : chkOf (tB l) m = fun _ => True := rfl
theorem tl_isa {f : Str → Str → Bool} : isaR f [tL x, .ty "tuple"] S Q = Q (.bl true) S := isaR_ty (n := "tuple") rfl (by decide +kernel)
theorem tb_isa {f : Str → Str → Bool} : isaR f [tB l, .ty "tuple"] S Q = Q (.bl true) S := isaR_ty (n := "tuple") rfl (by decide +kernel)
theorem num_zero_iff {q : Rat} : q.num = 0 ↔ q = 0 := Rat.num_eq_zero
end
def isAm : T → Bool
  | .tup [.int a, .int b] => (decide (0 < b) && decide ((Int.gcd a b : Int) = 1)) && decide (0 ≤ a)
  | _ => false
def sp_is_amount : TSp := fun ts S Q E => ∃ t, ts = [t] ∧ okT t ∧ Q (.bl (isAm t)) S
theorem len_is_amount (ts S Q E) (h : sp_is_amount ts S Q E) : ts.length = 1 := by obtain ⟨_, rfl, _⟩ := h; rfl
theorem ap_is_amount {t : T} {S : SS} {Q : KQ} {E : Exn → SS → Prop} (ht : okT t) : sp_is_amount [t] S Q E ↔ Q (.bl (isAm t)) S := ⟨fun ⟨_, e, _, h⟩ => by cases e; exact h, fun h => ⟨_, rfl, ht, h⟩⟩
theorem isAm_tR (q : Rat) : isAm (tR q) = decide (0 ≤ q) := by
  unfold isAm tR
  have := q.den_pos
  have e : decide (0 ≤ q.num) = decide (0 ≤ q) := decide_eq_decide.mpr Rat.num_nonneg
  simp [fr_gcd, this, e]
/-! ### plain trees of numbers not too great -/
mutual
def T.fit (N : Nat) : T → Bool
  | .non => true
  | .bl _ => true
  | .int i => decide (i.natAbs < 2 ^ N)
  | .str _ => true
  | .tup l => T.fits N l
  | .lst l => T.fits N l
  | .dic => true
  | _ => false
def T.fits (N : Nat) : List T → Bool
  | [] => true
  | t :: ts => T.fit N t && T.fits N ts
end
section
variable {N : Nat} {t : T} {l m : List T}
theorem fits_mem : ∀ {l : List T}, T.fits N l = true → ∀ x, x ∈ l → T.fit N x = true
  | [], _, x, hx => by cases hx
  | t :: l, h, x, hx => by
    rw [T.fits, Bool.and_eq_true] at h
    rcases List.mem_cons.mp hx with rfl | hx
    · exact h.1
    · exact fits_mem h.2 x hx
theorem fits_of : ∀ {l : List T}, (∀ x, x ∈ l → T.fit N x = true) → T.fits N l = true
  | [], _ => by rw [T.fits]
  | t :: l, h => by
    rw [T.fits, Bool.and_eq_true]
    exact ⟨h t List.mem_cons_self, fits_of fun x hx => h x (List.mem_cons_of_mem _ hx)⟩
theorem fit_isT (h : t.fit N = true) : isT t = true := by
  cases t <;> first | rfl | (simp [T.fit] at h)
theorem fit_okT (h : t.fit N = true) : okT t := ⟨fit_isT h, fun l e x hx => by
  subst e
  rw [T.fit] at h
  exact fit_isT (fits_mem h x hx)⟩
theorem fit_tup (h : (T.tup l).fit N = true) : ∀ x, x ∈ l → T.fit N x = true := by rw [T.fit] at h; exact fits_mem h
theorem fit_tR {q : Rat} (h : Sm N q) : (tR q).fit N = true := by
  have h2 := h.2
  have h1 := h.1
  simp only [tR, T.fit, T.fits, Bool.and_true, Bool.and_eq_true, decide_eq_true_eq, Int.natAbs_natCast]
  exact ⟨h1, h2⟩
theorem fit_Sm {q : Rat} (h : (tR q).fit N = true) : Sm N q := by
  simp only [tR, T.fit, T.fits, Bool.and_true, Bool.and_eq_true, decide_eq_true_eq, Int.natAbs_natCast] at h
  exact ⟨h.1, h.2⟩
theorem fit_tL {x : Lay} (h : (tL x).fit N = true) : Sm N x.1 ∧ Sm N x.2 := ⟨fit_Sm (fit_tup h _ (by simp)), fit_Sm (fit_tup h _ (by simp))⟩
theorem fit_ofL {x : Lay} (h : Sm N x.1 ∧ Sm N x.2) : (tL x).fit N = true := by
  rw [tL, T.fit]
  exact fits_of fun y hy => by
    simp only [List.mem_cons, List.not_mem_nil, or_false] at hy
    rcases hy with rfl | rfl
    · exact fit_tR h.1
    · exact fit_tR h.2
mutual
theorem fit_mono {N M : Nat} (h : N ≤ M) : ∀ t : T, t.fit N = true → t.fit M = true
  | .non, _ => by rw [T.fit]
  | .bl _, _ => by rw [T.fit]
  | .int i, k => by
    rw [T.fit, decide_eq_true_eq] at k ⊢
    exact Nat.lt_of_lt_of_le k (Nat.pow_le_pow_right (by decide) h)
  | .str _, _ => by rw [T.fit]
  | .tup l, k => by rw [T.fit] at k ⊢; exact fits_mono h l k
  | .lst l, k => by rw [T.fit] at k ⊢; exact fits_mono h l k
  | .dic, _ => by rw [T.fit]
  | .ref _, k => by simp [T.fit] at k
  | .exc _ _, k => by simp [T.fit] at k
  | .ty _, k => by simp [T.fit] at k
  | .cls _, k => by simp [T.fit] at k
theorem fits_mono {N M : Nat} (h : N ≤ M) : ∀ l : List T, T.fits N l = true → T.fits M l = true
  | [], _ => by rw [T.fits]
  | t :: l, k => by
    rw [T.fits, Bool.and_eq_true] at k ⊢
    exact ⟨fit_mono h t k.1, fits_mono h l k.2⟩
end
end
/-! ### fractions among them -/
theorem isFr_iff {t : T} : isFr t = true ↔ ∃ q, t = tR q := by
  constructor
  · intro h
    unfold isFr at h
    split at h
    · rename_i a b
      simp only [Bool.and_eq_true, decide_eq_true_eq] at h
      exact ⟨_, tup_low h.1 (by omega)⟩
    · cases h
  · rintro ⟨q, rfl⟩; exact isFr_tR q
theorem isAm_iff {t : T} : isAm t = true ↔ ∃ q, t = tR q ∧ 0 ≤ q := by
  constructor
  · intro h
    unfold isAm at h
    split at h
    · rename_i a b
      simp only [Bool.and_eq_true, decide_eq_true_eq] at h
      exact ⟨_, tup_low h.1.1 (by omega), g_nn h.2 h.1.1⟩
    · cases h
  · rintro ⟨q, rfl, h⟩; rw [isAm_tR]; simpa using h
/-- a truth that tells whether -/
def Tells (b : Bool) (P : Prop) : Prop := b = true ↔ P
theorem Tells.eq {a b : Bool} {P : Prop} (h : Tells a P) (k : Tells b P) : a = b := by
  unfold Tells at h k
  cases a <;> cases b <;> simp_all
theorem Tells.no {P : Prop} (h : ¬ P) : Tells false P := ⟨fun z => (by cases z), fun z => absurd z h⟩
theorem Tells.yes {P : Prop} (h : P) : Tells true P := ⟨fun _ => h, fun _ => rfl⟩
theorem not_tup {t : T} (h : ∀ l, t ≠ .tup l) (h2 : isT t = true) {f : Str → Str → Bool} {S : SS} {Q : KQ} : isaR f [t, .ty "tuple"] S Q = Q (.bl false) S := by
  cases t <;> first | (simp [isT] at h2; done) | exact absurd rfl (h _) | simp
theorem tL_ne {l : List T} (h : l.length ≠ 2) : ¬ ∃ x : Lay, T.tup l = tL x := fun ⟨x, e⟩ => by
  unfold tL at e
  cases e
  exact h rfl
theorem two_of {l : List T} (h : l.length = 2) : ∃ a b, l = [a, b] := by
  match l, h with
  | [a, b], _ => exact ⟨a, b, rfl⟩
theorem tL_iff {a b : T} {x : Lay} : T.tup [a, b] = tL x ↔ a = tR x.1 ∧ b = tR x.2 := by
  unfold tL
  simp only [T.tup.injEq, List.cons.injEq, and_true]
def b_is_amount (W : XW) : DS :=
  (seqD
    (retD (andE (callF sp_is_fraction W (consA (rdD 0) nilA)) (opD (cmpR .GtE) (opD ixR (rdD 0) (cD (.int 0))) (cD (.int 0)))))
  nextD)
theorem law_is_amount {ts : List T} {S : SS} {Q : KQ} {E : Exn → SS → Prop} (h : sp_is_amount ts S Q E) : b_is_amount (fun x _ S' => E x S') { nx := fun _ S' => Q .non S', rt := Q } (start' 1 ts) S := by
  obtain ⟨t, rfl, ht, h⟩ := h
  unfold b_is_amount start'
  simp [ap_is_fraction ht]
  cases t with
  | tup l =>
    match l, ht, h with
    | [], ht, h => simpa [isFr, isAm] using h
    | [x], ht, h => simpa [isFr, isAm] using h
    | x :: y :: z :: r, ht, h => simpa [isFr, isAm] using h
    | [x, y], ht, h =>
      cases x with
      | int a =>
        cases y with
        | int b =>
          simp only [isFr, isAm] at h ⊢
          cases hc : (decide (0 < b) && decide ((Int.gcd a b : Int) = 1)) with
          | true => rw [hc] at h; simpa using h
          | false => rw [hc] at h; simpa using h
        | _ => simpa [isAm, isFr] using h
      | _ => simpa [isAm, isFr] using h
  | _ => simpa [isFr, isAm] using h
/-- a layer for the full strength f -/
def isLay (f : Rat) (x : Lay) : Bool := decide (0 ≤ x.1) && decide (0 ≤ x.2) && (if x.1 = 0 then decide (x.2 ≠ 0) else !decide (f * x.1 < x.2))
def Layer (f : Rat) (t : T) : Prop := ∃ x : Lay, t = tL x ∧ isLay f x = true
def sp_is_layer : TSp := fun ts S Q E => ∃ (f : Rat) (t : T) (N : Nat), ts = [tR f, t] ∧ Sm 5000000 f ∧ t.fit N = true ∧ N ≤ 20000000 ∧ ∀ b, Tells b (Layer f t) → Q (.bl b) S
theorem len_is_layer (ts S Q E) (h : sp_is_layer ts S Q E) : ts.length = 2 := by obtain ⟨_, _, _, rfl, _⟩ := h; rfl
theorem tL_inj {x y : Lay} : tL x = tL y ↔ x = y := by
  refine ⟨fun h => ?_, fun h => by rw [h]⟩
  simp only [tL, T.tup.injEq, List.cons.injEq, tR_inj, and_true] at h
  exact Prod.ext h.1 h.2
theorem layer_tells (f : Rat) (x : Lay) : Tells (isLay f x) (Layer f (tL x)) := ⟨fun h => ⟨x, rfl, h⟩, fun ⟨y, e, h⟩ => by rw [tL_inj] at e; subst e; exact h⟩
theorem ap_is_layer {f : Rat} {x : Lay} {S : SS} {Q : KQ} {E : Exn → SS → Prop} (h1 : Sm 5000000 f) (h2 : Sm 20000000 x.1) (h3 : Sm 20000000 x.2) : sp_is_layer [tR f, tL x] S Q E ↔ Q (.bl (isLay f x)) S := by
  refine ⟨fun ⟨g, t, N, e, _, _, _, h⟩ => ?_, fun h => ⟨f, tL x, 20000000, rfl, h1, fit_ofL ⟨h2, h3⟩, by decide, fun b hb => by rw [hb.eq (layer_tells f x)]; exact h⟩⟩
  simp only [List.cons.injEq, tR_inj, and_true] at e
  obtain ⟨rfl, rfl⟩ := e
  exact h _ (layer_tells f x)
theorem is_layer_T {f : Rat} {t : T} {N : Nat} {S : SS} {Q : KQ} {E : Exn → SS → Prop} (h1 : Sm 5000000 f) (ht : t.fit N = true) (hN : N ≤ 20000000) (h : ∀ b, Tells b (Layer f t) → Q (.bl b) S) : sp_is_layer [tR f, t] S Q E := ⟨f, t, N, rfl, h1, ht, hN, h⟩
def b_is_layer (W : XW) : DS :=
  (seqD
    (ifD (orT (notT (truD (callB (isaR sub) (consA (rdD 1) (consA (cD (.ty "tuple")) nilA))))) (orT (tstD (opD (cmpR .NotEq) (callB lenR (consA (rdD 1) nilA)) (cD (.int 2)))) (orT (notT (truD (callF sp_is_amount W (consA (opD ixR (rdD 1) (cD (.int 0))) nilA)))) (notT (truD (callF sp_is_amount W (consA (opD ixR (rdD 1) (cD (.int 1))) nilA)))))))
      (seqD
        (retD (cD (.bl false)))
      nextD)
      nextD)
  (seqD
    (ifD (tstD (opD (cmpR .Eq) (opD ixR (rdD 1) (cD (.int 0))) (cD (.tup [(.int 0), (.int 1)]))))
      (seqD
        (retD (opD (cmpR .NotEq) (opD ixR (rdD 1) (cD (.int 1))) (cD (.tup [(.int 0), (.int 1)]))))
      nextD)
      nextD)
  (seqD
    (retD (notE (callF sp_is_less W (consA (callF sp_times W (consA (rdD 0) (consA (opD ixR (rdD 1) (cD (.int 0))) nilA))) (consA (opD ixR (rdD 1) (cD (.int 1))) nilA)))))
  nextD)))
theorem law_is_layer {ts : List T} {S : SS} {Q : KQ} {E : Exn → SS → Prop} (h : sp_is_layer ts S Q E) : b_is_layer (fun x _ S' => E x S') { nx := fun _ S' => Q .non S', rt := Q } (start' 2 ts) S := by
  obtain ⟨f, t, N, rfl, hf, ht, hN, h⟩ := h
  unfold b_is_layer start'
  by_cases c : ∃ l, t = .tup l
  case neg =>
    simp -implicitDefEqProofs [not_tup (fun l e => c ⟨l, e⟩) (fit_isT ht)]
    exact h _ (.no fun ⟨x, e, _⟩ => c ⟨_, e⟩)
  obtain ⟨l, rfl⟩ := c
  by_cases c2 : l.length = 2
  case neg =>
    have c2' : ¬ (l.length : Int) = 2 := by omega
    simp -implicitDefEqProofs [c2']
    exact h _ (.no fun ⟨x, e, _⟩ => tL_ne c2 ⟨x, e⟩)
  obtain ⟨a, b, rfl⟩ := two_of c2
  have ha := fit_tup ht a (by simp)
  have hb := fit_tup ht b (by simp)
  cases ea : isAm a with
  | false =>
    simp -implicitDefEqProofs [ap_is_amount (fit_okT ha), ea]
    refine h _ (.no fun ⟨x, e, hx⟩ => ?_)
    unfold isLay at hx
    simp only [Bool.and_eq_true, decide_eq_true_eq] at hx
    rw [isAm_iff.mpr ⟨x.1, (tL_iff.mp e).1, hx.1.1⟩] at ea; cases ea
  | true =>
    obtain ⟨p, rfl, c1⟩ := isAm_iff.mp ea
    cases eb : isAm b with
    | false =>
      simp -implicitDefEqProofs [ap_is_amount (fit_okT ha), ap_is_amount (fit_okT hb), ea, eb]
      refine h _ (.no fun ⟨x, e, hx⟩ => ?_)
      unfold isLay at hx
      simp only [Bool.and_eq_true, decide_eq_true_eq] at hx
      rw [isAm_iff.mpr ⟨x.2, (tL_iff.mp e).2, hx.1.2⟩] at eb; cases eb
    | true =>
      obtain ⟨q, rfl, q0⟩ := isAm_iff.mp eb
      have h1 := (fit_Sm ha).mono hN
      have h2 := (fit_Sm hb).mono hN
      have h := h _ (layer_tells f (p, q))
      unfold isLay at h
      by_cases c3 : p = 0
      · simp -implicitDefEqProofs [ap_is_amount (okT_tR _), isAm_tR, c1, q0, c3, tR0] at h ⊢
        exact h
      · simp -implicitDefEqProofs [ap_is_amount (okT_tR _), isAm_tR, c1, q0, c3, tR0, ap_timesG (Sz.mk hf h1 (by decide)), ap_is_lessG (Sz.mk (hf.mul h1) h2 (by decide))] at h ⊢
        exact h
def strg (x y : Lay) : Bool := decide (y.2 * x.1 < x.2 * y.1)
def sp_is_stronger : TSp := fun ts S Q E => ∃ (x y : Lay), ts = [tL x, tL y] ∧ (Sm 9000000 x.1 ∧ Sm 9000000 x.2) ∧ (Sm 9000000 y.1 ∧ Sm 9000000 y.2) ∧ Q (.bl (strg x y)) S
theorem len_is_stronger (ts S Q E) (h : sp_is_stronger ts S Q E) : ts.length = 2 := by obtain ⟨_, _, rfl, _⟩ := h; rfl
theorem ap_is_stronger {x y : Lay} {S : SS} {Q : KQ} {E : Exn → SS → Prop} (h1 : Sm 9000000 x.1 ∧ Sm 9000000 x.2) (h2 : Sm 9000000 y.1 ∧ Sm 9000000 y.2) : sp_is_stronger [tL x, tL y] S Q E ↔ Q (.bl (strg x y)) S := ⟨fun ⟨_, _, e, _, _, h⟩ => by simp only [List.cons.injEq, tL_inj, and_true] at e; obtain ⟨rfl, rfl⟩ := e; exact h, fun h => ⟨_, _, rfl, h1, h2, h⟩⟩
def b_is_stronger (W : XW) : DS :=
  (seqD
    (retD (callF sp_is_less W (consA (callF sp_times W (consA (opD ixR (rdD 1) (cD (.int 1))) (consA (opD ixR (rdD 0) (cD (.int 0))) nilA))) (consA (callF sp_times W (consA (opD ixR (rdD 0) (cD (.int 1))) (consA (opD ixR (rdD 1) (cD (.int 0))) nilA))) nilA))))
  nextD)
theorem law_is_stronger {ts : List T} {S : SS} {Q : KQ} {E : Exn → SS → Prop} (h : sp_is_stronger ts S Q E) : b_is_stronger (fun x _ S' => E x S') { nx := fun _ S' => Q .non S', rt := Q } (start' 2 ts) S := by
  obtain ⟨x, y, rfl, ⟨a1, a2⟩, ⟨b1, b2⟩, h⟩ := h
  unfold b_is_stronger start'
  simp -implicitDefEqProofs [ap_timesG (Sz.mk b2 a1 (by decide)), ap_timesG (Sz.mk a2 b1 (by decide)), ap_is_lessG (Sz.mk (b2.mul a1) (a2.mul b1) (by decide))]
  exact h
def isBr (f : Rat) (l : List Lay) : Bool := l.all (isLay f) && (l.zip l.tail).all fun p => strg p.1 p.2
/-- a comprehension of truths -/
theorem lcL_tell {P : T → Prop} {tg : Tg} {te : DE} {τ : Sg} {Q : KQ} {S : SS} : ∀ (its : List T) (bs : List Bool), bs.length + its.length ≤ 16777215 →
    (∀ t, t ∈ its → ∃ τ1, bindT tg t τ = some τ1 ∧ ∀ K : KQ, (∀ b, Tells b (P t) → K (.bl b) S) → te τ1 S K) →
    (∀ cs : List Bool, cs.length = its.length → (cs.all id = true ↔ ∀ t, t ∈ its → P t) → Q (.lst ((bs ++ cs).map T.bl)) S) → lcL (fun _ => True) tg (fun _ S Q => Q true S) te false τ Q its (bs.map T.bl) S
  | [], bs, _, _, fin => ⟨trivial, by simpa using fin [] rfl (by simp)⟩
  | t :: its, bs, hl, h, fin => by
    have hs : sizeLine = 16777216 := rfl
    rw [List.length_cons] at hl
    obtain ⟨τ1, e, go⟩ := h t List.mem_cons_self
    rw [q_lcL1, e]
    refine ⟨trivial, go _ fun b hb => ⟨by rw [List.length_map]; omega, ?_⟩⟩
    have e2 : bs.map T.bl ++ [T.bl b] = (bs ++ [b]).map T.bl := by simp
    rw [e2]
    refine lcL_tell (P := P) its (bs ++ [b]) (by simp; omega) (fun u hu => h u (List.mem_cons_of_mem _ hu)) fun cs lc hc => ?_
    have := fin (b :: cs) (by simp [lc]) (by
      rw [List.all_cons, Bool.and_eq_true, hc]
      constructor
      · rintro ⟨h1, h2⟩ u hu
        rcases List.mem_cons.mp hu with rfl | hu
        · exact hb.mp h1
        · exact h2 u hu
      · intro h2
        exact ⟨hb.mpr (h2 t List.mem_cons_self), fun u hu => h2 u (List.mem_cons_of_mem _ hu)⟩)
    simpa using this
theorem allbl {bs : List Bool} {S : SS} {Q : KQ} : allR (fun bs => bs.all id) [.lst (bs.map T.bl)] S Q ↔ Q (.bl (bs.all id)) S := by
  have := all_ap (f := id) (l := bs) (S := S) (Q := Q)
  simpa using this
theorem tB_of {l : List T} {P : Lay → Prop} (h : ∀ t, t ∈ l → ∃ x : Lay, t = tL x ∧ P x) : ∃ W : List Lay, T.tup l = tB W ∧ W.length = l.length ∧ ∀ x, x ∈ W → P x := by
  obtain ⟨R, e, e2, hR⟩ := of_all (f := tL) h
  exact ⟨R, by rw [e]; rfl, e2, hR⟩
def Brine (f : Rat) (t : T) : Prop := ∃ l : List Lay, t = tB l ∧ isBr f l = true
theorem tB_inj {a b : List Lay} : tB a = tB b ↔ a = b := by
  refine ⟨fun h => ?_, fun h => by rw [h]⟩
  simp only [tB, T.tup.injEq] at h
  exact List.map_inj_right (fun x y e => tL_inj.mp e) |>.mp h
theorem brine_tells (f : Rat) (l : List Lay) : Tells (isBr f l) (Brine f (tB l)) := ⟨fun h => ⟨l, rfl, h⟩, fun ⟨m, e, h⟩ => by rw [tB_inj] at e; subst e; exact h⟩
theorem fit_tB {N : Nat} {l : List Lay} (h : (tB l).fit N = true) : SmL N l := fun x hx => fit_tL (fit_tup h _ (List.mem_map.mpr ⟨x, hx, rfl⟩))
theorem fit_ofB {N : Nat} {l : List Lay} (h : SmL N l) : (tB l).fit N = true := by
  rw [tB, T.fit]
  exact fits_of fun y hy => by
    obtain ⟨x, hx, rfl⟩ := List.mem_map.mp hy
    exact fit_ofL (h x hx)
def sp_is_brine : TSp := fun ts S Q E => ∃ (f : Rat) (t : T) (N : Nat), ts = [tR f, t] ∧ Sm 5000000 f ∧ t.fit N = true ∧ N ≤ 9000000 ∧ (∀ l, t = .tup l → l.length ≤ 100000) ∧ ∀ b, Tells b (Brine f t) → Q (.bl b) S
theorem len_is_brine (ts S Q E) (h : sp_is_brine ts S Q E) : ts.length = 2 := by obtain ⟨_, _, _, rfl, _⟩ := h; rfl
theorem is_brine_ap2 {f : Rat} {l : List Lay} {S : SS} {Q : KQ} {E : Exn → SS → Prop} (h1 : Sm 5000000 f) (h2 : SmL 9000000 l) (h3 : l.length ≤ 100000) (h : Q (.bl (isBr f l)) S) : sp_is_brine [tR f, tB l] S Q E := ⟨f, tB l, 9000000, rfl, h1, fit_ofB h2, by decide, fun m e => by
  unfold tB at e
  cases e
  rw [List.length_map]; exact h3, fun b hb => by rw [hb.eq (brine_tells f l)]; exact h⟩
theorem is_brine_ap {f : Rat} {l : List Lay} {S : SS} {Q : KQ} {E : Exn → SS → Prop} (h1 : Sm 5000000 f) (h2 : SmL 9000000 l) (h3 : l.length ≤ 1000) (h : Q (.bl (isBr f l)) S) : sp_is_brine [tR f, tB l] S Q E := is_brine_ap2 h1 h2 (by omega) h
theorem is_brine_T {f : Rat} {t : T} {N : Nat} {S : SS} {Q : KQ} {E : Exn → SS → Prop} (h1 : Sm 5000000 f) (ht : t.fit N = true) (hN : N ≤ 9000000) (hl : ∀ l, t = .tup l → l.length ≤ 1000) (h : ∀ b, Tells b (Brine f t) → Q (.bl b) S) : sp_is_brine [tR f, t] S Q E := ⟨f, t, N, rfl, h1, ht, hN, fun l e => Nat.le_trans (hl l e) (by decide), h⟩
def b_is_brine (W : XW) : DS :=
  (seqD
    (ifD (orT (notT (truD (callB (isaR sub) (consA (rdD 1) (consA (cD (.ty "tuple")) nilA))))) (notT (truD (callB (allR fun bs => bs.all id) (consA (lcD false [4] (seqI (rdD 1)) (.nm 4) (fun _ S Q => Q true S) (callF sp_is_layer noW (consA (rdD 0) (consA (rdD 4) nilA)))) nilA)))))
      (seqD
        (retD (cD (.bl false)))
      nextD)
      nextD)
  (seqD
    (retD (callB (allR fun bs => bs.all id) (consA (lcD false [2, 3] (zipI (consA (rdD 1) (consA (slD false (rdD 1) (someO (cD (.int 1))) noneO) nilA))) (.tp (.cons (.nm 2) (.cons (.nm 3) .nil))) (fun _ S Q => Q true S) (callF sp_is_stronger noW (consA (rdD 2) (consA (rdD 3) nilA)))) nilA)))
  nextD))
theorem law_is_brine {ts : List T} {S : SS} {Q : KQ} {E : Exn → SS → Prop} (h : sp_is_brine ts S Q E) : b_is_brine (fun x _ S' => E x S') { nx := fun _ S' => Q .non S', rt := Q } (start' 5 ts) S := by
  obtain ⟨f, t, N, rfl, hf, ht, hN, hlen, h⟩ := h
  unfold b_is_brine start'
  by_cases c : ∃ l, t = .tup l
  case neg =>
    simp -implicitDefEqProofs [not_tup (fun l e => c ⟨l, e⟩) (fit_isT ht)]
    exact h _ (.no fun ⟨x, e, _⟩ => c ⟨_, e⟩)
  obtain ⟨ll, rfl⟩ := c
  have hn := hlen ll rfl
  simp -implicitDefEqProofs
  refine lcL_tell (P := Layer f) ll [] (by simp; omega) (fun u hu => ⟨_, rfl, fun K k => ?_⟩) fun cs lc hc => ?_
  · simp -implicitDefEqProofs
    exact is_layer_T hf (fit_tup ht u hu) (by omega) k
  simp -implicitDefEqProofs only [List.nil_append]
  rw [allbl]
  cases eb : cs.all id with
  | false =>
    simp -implicitDefEqProofs
    refine h _ (.no fun ⟨l, e, hb⟩ => ?_)
    have : cs.all id = true := hc.mpr fun u hu => by
      unfold tB at e
      cases e
      obtain ⟨x, hx, rfl⟩ := List.mem_map.mp hu
      unfold isBr at hb
      rw [Bool.and_eq_true] at hb
      exact ⟨x, rfl, List.all_eq_true.mp hb.1 x hx⟩
    rw [eb] at this; cases this
  | true =>
    obtain ⟨l, e, el, hl'⟩ := tB_of (hc.mp eb)
    have hl : SmL 9000000 l := fun x hx => by
      rw [e] at ht
      have := fit_tB ht x hx
      exact ⟨this.1.mono hN, this.2.mono hN⟩
    have hh : Q (.bl (isBr f l)) S := h _ (by rw [e]; exact brine_tells f l)
    have hn2 : l.length ≤ 100000 := by omega
    have ell : ll = l.map tL := by unfold tB at e; injection e
    subst ell
    have ea : l.all (isLay f) = true := List.all_eq_true.mpr hl'
    unfold isBr at hh
    rw [ea, Bool.true_and] at hh
    have et : cutG (l.map tL) (some 1) none = l.tail.map tL := by rw [cut1, List.map_tail]
    simp -implicitDefEqProofs only [q_truB, Bool.not_true, tB, q_slT, et, zpT_map]
    try simp -implicitDefEqProofs [tB, et, zpT_map]
    try rw [← List.map_tail, zpT_map]
    refine lcL_gen (l := l.zip l.tail) (emb := fun p : Lay × Lay => T.tup [tL p.1, tL p.2]) (g := fun _ => true) (f := fun p : Lay × Lay => .bl (strg p.1 p.2)) ?_ ?_ ?_
    · intro p hp
      have p1 := hl p.1 (List.of_mem_zip hp).1
      have p2 := hl p.2 (List.mem_of_mem_tail (List.of_mem_zip hp).2)
      refine ⟨_, rfl, fun QT k => k, fun _ K k => ?_⟩
      simp -implicitDefEqProofs [ap_is_stronger p1 p2]
      exact k
    · simp; omega
    · simp -implicitDefEqProofs only [filt_true, List.nil_append, q_newF]
      rw [all_ap]
      simpa using hh

/-! ### what a brine holds -/
theorem len_le {n k : Nat} (h : (n + 1) * (k + 1) ≤ 16000000) : k ≤ 16000000 := by
  have : 1 * (k + 1) ≤ (n + 1) * (k + 1) := Nat.mul_le_mul_right _ (by omega)
  omega
def sp_water_of : TSp := fun ts S Q E => ∃ (l : List Lay), (ts = [tB l] ∨ ts = [.lst (l.map tL)]) ∧ l.length ≤ 16000000 ∧ Bud 16000000 (l.map (·.1)) ∧ Q (tR (rsum (l.map (·.1)))) S
def sp_salt_of : TSp := fun ts S Q E => ∃ (l : List Lay), (ts = [tB l] ∨ ts = [.lst (l.map tL)]) ∧ l.length ≤ 16000000 ∧ Bud 16000000 (l.map (·.2)) ∧ Q (tR (rsum (l.map (·.2)))) S
theorem len_water_of (ts S Q E) (h : sp_water_of ts S Q E) : ts.length = 1 := by obtain ⟨_, rfl | rfl, _⟩ := h <;> rfl
theorem len_salt_of (ts S Q E) (h : sp_salt_of ts S Q E) : ts.length = 1 := by obtain ⟨_, rfl | rfl, _⟩ := h <;> rfl
theorem water_apB {l : List Lay} {S : SS} {Q : KQ} {E : Exn → SS → Prop} (h1 : l.length ≤ 16000000) (h2 : Bud 16000000 (l.map (·.1))) (h : Q (tR (rsum (l.map (·.1)))) S) : sp_water_of [tB l] S Q E := ⟨l, .inl rfl, h1, h2, h⟩
theorem water_apL {l : List Lay} {S : SS} {Q : KQ} {E : Exn → SS → Prop} (h1 : l.length ≤ 16000000) (h2 : Bud 16000000 (l.map (·.1))) (h : Q (tR (rsum (l.map (·.1)))) S) : sp_water_of [.lst (l.map tL)] S Q E := ⟨l, .inr rfl, h1, h2, h⟩
theorem water_ap {l : List Lay} {n : Nat} {S : SS} {Q : KQ} {E : Exn → SS → Prop} (h1 : SmL n l) (h2 : (n + 1) * (l.length + 1) ≤ 16000000) (h : Q (tR (rsum (l.map (·.1)))) S) : sp_water_of [tB l] S Q E := water_apB (len_le h2) (Bud.uni (n := n) (fun x hx => by
    obtain ⟨y, hy, rfl⟩ := List.mem_map.mp hx
    exact (h1 y hy).1) (by rw [List.length_map]; rw [Nat.mul_succ] at h2; omega)) h
theorem salt_apB {l : List Lay} {S : SS} {Q : KQ} {E : Exn → SS → Prop} (h1 : l.length ≤ 16000000) (h2 : Bud 16000000 (l.map (·.2))) (h : Q (tR (rsum (l.map (·.2)))) S) : sp_salt_of [tB l] S Q E := ⟨l, .inl rfl, h1, h2, h⟩
theorem salt_apL {l : List Lay} {S : SS} {Q : KQ} {E : Exn → SS → Prop} (h1 : l.length ≤ 16000000) (h2 : Bud 16000000 (l.map (·.2))) (h : Q (tR (rsum (l.map (·.2)))) S) : sp_salt_of [.lst (l.map tL)] S Q E := ⟨l, .inr rfl, h1, h2, h⟩
theorem salt_ap {l : List Lay} {n : Nat} {S : SS} {Q : KQ} {E : Exn → SS → Prop} (h1 : SmL n l) (h2 : (n + 1) * (l.length + 1) ≤ 16000000) (h : Q (tR (rsum (l.map (·.2)))) S) : sp_salt_of [tB l] S Q E := salt_apB (len_le h2) (Bud.uni (n := n) (fun x hx => by
    obtain ⟨y, hy, rfl⟩ := List.mem_map.mp hx
    exact (h1 y hy).2) (by rw [List.length_map]; rw [Nat.mul_succ] at h2; omega)) h
def b_water_of (W : XW) : DS :=
  (seqD
    (retD (callF sp_summed W (consA (lcD false [1, 2] (seqI (rdD 0)) (.tp (.cons (.nm 1) (.cons (.nm 2) .nil))) (fun _ S Q => Q true S) (rdD 1)) nilA)))
  nextD)
def b_salt_of (W : XW) : DS :=
  (seqD
    (retD (callF sp_summed W (consA (lcD false [1, 2] (seqI (rdD 0)) (.tp (.cons (.nm 1) (.cons (.nm 2) .nil))) (fun _ S Q => Q true S) (rdD 2)) nilA)))
  nextD)
theorem map_emb {α : Type} (f : α → Rat) (l : List α) : (l.map fun x => tR (f x)) = (l.map f).map tR := by rw [List.map_map]; rfl
theorem law_water_of {ts : List T} {S : SS} {Q : KQ} {E : Exn → SS → Prop} (h : sp_water_of ts S Q E) : b_water_of (fun x _ S' => E x S') { nx := fun _ S' => Q .non S', rt := Q } (start' 3 ts) S := by
  obtain ⟨l, rfl | rfl, hk, hb, h⟩ := h
  · unfold b_water_of start'
    simp -implicitDefEqProofs
    refine lcL_gen (l := l) (emb := tL) (g := fun _ => true) (f := fun x => tR x.1) (fun x hx => ⟨_, rfl, fun QT k => k, fun _ K k => ?_⟩) (by simp; omega) ?_
    · simpa using k
    · simp -implicitDefEqProofs only [filt_true, List.nil_append, q_newF, map_emb]
      exact summedB hb h
  · unfold b_water_of start'
    simp -implicitDefEqProofs
    refine lcL_gen (l := l) (emb := tL) (g := fun _ => true) (f := fun x => tR x.1) (fun x hx => ⟨_, rfl, fun QT k => k, fun _ K k => ?_⟩) (by simp; omega) ?_
    · simpa using k
    · simp -implicitDefEqProofs only [filt_true, List.nil_append, q_newF, map_emb]
      exact summedB hb h
theorem law_salt_of {ts : List T} {S : SS} {Q : KQ} {E : Exn → SS → Prop} (h : sp_salt_of ts S Q E) : b_salt_of (fun x _ S' => E x S') { nx := fun _ S' => Q .non S', rt := Q } (start' 3 ts) S := by
  obtain ⟨l, rfl | rfl, hk, hb, h⟩ := h
  · unfold b_salt_of start'
    simp -implicitDefEqProofs
    refine lcL_gen (l := l) (emb := tL) (g := fun _ => true) (f := fun x => tR x.2) (fun x hx => ⟨_, rfl, fun QT k => k, fun _ K k => ?_⟩) (by simp; omega) ?_
    · simpa using k
    · simp -implicitDefEqProofs only [filt_true, List.nil_append, q_newF, map_emb]
      exact summedB hb h
  · unfold b_salt_of start'
    simp -implicitDefEqProofs
    refine lcL_gen (l := l) (emb := tL) (g := fun _ => true) (f := fun x => tR x.2) (fun x hx => ⟨_, rfl, fun QT k => k, fun _ K k => ?_⟩) (by simp; omega) ?_
    · simpa using k
    · simp -implicitDefEqProofs only [filt_true, List.nil_append, q_newF, map_emb]
      exact summedB hb h
def wet (l : List Lay) : List Lay := l.filter fun x => decide (x.1 ≠ 0)
def fal (l : List Lay) : List Lay := l.filter fun x => decide (x.1 = 0)
def sp_wet_layers : TSp := fun ts S Q E => ∃ l : List Lay, ts = [tB l] ∧ l.length ≤ 1000 ∧ Q (tB (wet l)) S
def sp_fallen_layers : TSp := fun ts S Q E => ∃ l : List Lay, ts = [tB l] ∧ l.length ≤ 1000 ∧ Q (.lst ((fal l).map tL)) S
theorem len_wet_layers (ts S Q E) (h : sp_wet_layers ts S Q E) : ts.length = 1 := by obtain ⟨_, rfl, _⟩ := h; rfl
theorem len_fallen_layers (ts S Q E) (h : sp_fallen_layers ts S Q E) : ts.length = 1 := by obtain ⟨_, rfl, _⟩ := h; rfl
theorem wet_ap {l : List Lay} {S : SS} {Q : KQ} {E : Exn → SS → Prop} (hl : l.length ≤ 1000) (h : Q (tB (wet l)) S) : sp_wet_layers [tB l] S Q E := ⟨l, rfl, hl, h⟩
theorem fallen_ap {l : List Lay} {S : SS} {Q : KQ} {E : Exn → SS → Prop} (hl : l.length ≤ 1000) (h : Q (.lst ((fal l).map tL)) S) : sp_fallen_layers [tB l] S Q E := ⟨l, rfl, hl, h⟩
def b_wet_layers (W : XW) : DS :=
  (seqD
    (retD (callB tupleTR (consA (lcD false [1] (seqI (rdD 0)) (.nm 1) (tstD (opD (cmpR .NotEq) (opD ixR (rdD 1) (cD (.int 0))) (cD (.tup [(.int 0), (.int 1)])))) (rdD 1)) nilA)))
  nextD)
def b_fallen_layers (W : XW) : DS :=
  (seqD
    (retD (lcD false [1] (seqI (rdD 0)) (.nm 1) (tstD (opD (cmpR .Eq) (opD ixR (rdD 1) (cD (.int 0))) (cD (.tup [(.int 0), (.int 1)])))) (rdD 1)))
  nextD)
theorem law_wet_layers {ts : List T} {S : SS} {Q : KQ} {E : Exn → SS → Prop} (h : sp_wet_layers ts S Q E) : b_wet_layers (fun x _ S' => E x S') { nx := fun _ S' => Q .non S', rt := Q } (start' 2 ts) S := by
  obtain ⟨l, rfl, hl, h⟩ := h
  unfold b_wet_layers start'
  simp -implicitDefEqProofs
  refine lcL_gen (l := l) (emb := tL) (g := fun x => decide (x.1 ≠ 0)) (f := tL) (fun x hx => ⟨_, rfl, fun QT k => ?_, fun _ K k => ?_⟩) (by simp; omega) ?_
  · simpa [tR0] using k
  · simpa using k
  · simp -implicitDefEqProofs only [List.nil_append, q_newF, q_tupL]
    exact h
theorem law_fallen_layers {ts : List T} {S : SS} {Q : KQ} {E : Exn → SS → Prop} (h : sp_fallen_layers ts S Q E) : b_fallen_layers (fun x _ S' => E x S') { nx := fun _ S' => Q .non S', rt := Q } (start' 2 ts) S := by
  obtain ⟨l, rfl, hl, h⟩ := h
  unfold b_fallen_layers start'
  simp -implicitDefEqProofs
  refine lcL_gen (l := l) (emb := tL) (g := fun x => decide (x.1 = 0)) (f := tL) (fun x hx => ⟨_, rfl, fun QT k => ?_, fun _ K k => ?_⟩) (by simp; omega) ?_
  · simpa [tR0] using k
  · simpa using k
  · simp -implicitDefEqProofs only [List.nil_append, q_newF, q_tupL]
    exact h
def sp_strength_of : TSp := fun ts S Q E => ∃ x : Lay, ts = [tL x] ∧ Sm 20000000 x.1 ∧ Sm 20000000 x.2 ∧ x.1 ≠ 0 ∧ Q (tR (x.2 / x.1)) S
theorem len_strength_of (ts S Q E) (h : sp_strength_of ts S Q E) : ts.length = 1 := by obtain ⟨_, rfl, _⟩ := h; rfl
theorem ap_strength_of {x : Lay} {S : SS} {Q : KQ} {E : Exn → SS → Prop} (h1 : Sm 20000000 x.1) (h2 : Sm 20000000 x.2) (h0 : x.1 ≠ 0) : sp_strength_of [tL x] S Q E ↔ Q (tR (x.2 / x.1)) S := ⟨fun ⟨_, e, _, _, _, h⟩ => by simp only [List.cons.injEq, tL_inj, and_true] at e; subst e; exact h, fun h => ⟨_, rfl, h1, h2, h0, h⟩⟩
def b_strength_of (W : XW) : DS :=
  (seqD
    (retD (callF sp_over W (consA (opD ixR (rdD 0) (cD (.int 1))) (consA (opD ixR (rdD 0) (cD (.int 0))) nilA))))
  nextD)
theorem law_strength_of {ts : List T} {S : SS} {Q : KQ} {E : Exn → SS → Prop} (h : sp_strength_of ts S Q E) : b_strength_of (fun x _ S' => E x S') { nx := fun _ S' => Q .non S', rt := Q } (start' 1 ts) S := by
  obtain ⟨x, rfl, h1, h2, h0, h⟩ := h
  unfold b_strength_of start'
  simp -implicitDefEqProofs [ap_over h2 h1 h0]
  exact h
def strgs (l : List Lay) : List Rat := ((wet l).reverse.filter fun x => decide (x.2 ≠ 0)).map fun x => x.2 / x.1
def sp_strengths : TSp := fun ts S Q E => ∃ l : List Lay, ts = [tB l] ∧ l.length ≤ 1000 ∧ SmL 20000000 l ∧ Q (.tup ((strgs l).map tR)) S
theorem len_strengths (ts S Q E) (h : sp_strengths ts S Q E) : ts.length = 1 := by obtain ⟨_, rfl, _⟩ := h; rfl
theorem strengths_ap {l : List Lay} {S : SS} {Q : KQ} {E : Exn → SS → Prop} (hl : l.length ≤ 1000) (hs : SmL 20000000 l) (h : Q (.tup ((strgs l).map tR)) S) : sp_strengths [tB l] S Q E := ⟨l, rfl, hl, hs, h⟩
def b_strengths (W : XW) : DS :=
  (seqD
    (retD (callB tupleTR (consA (lcD false [1] (seqI (revR false (callF sp_wet_layers W (consA (rdD 0) nilA)))) (.nm 1) (tstD (opD (cmpR .NotEq) (opD ixR (rdD 1) (cD (.int 1))) (cD (.tup [(.int 0), (.int 1)])))) (callF sp_strength_of noW (consA (rdD 1) nilA))) nilA)))
  nextD)
theorem law_strengths {ts : List T} {S : SS} {Q : KQ} {E : Exn → SS → Prop} (h : sp_strengths ts S Q E) : b_strengths (fun x _ S' => E x S') { nx := fun _ S' => Q .non S', rt := Q } (start' 2 ts) S := by
  obtain ⟨l, rfl, hl, hs, h⟩ := h
  have hw : (wet l).length ≤ 1000 := Nat.le_trans (List.length_filter_le _ _) hl
  unfold b_strengths start'
  simp -implicitDefEqProofs
  refine wet_ap hl ?_
  simp -implicitDefEqProofs [tB]
  rw [← List.map_reverse]
  refine lcL_gen (l := (wet l).reverse) (emb := tL) (g := fun x => decide (x.2 ≠ 0)) (f := fun x => tR (x.2 / x.1)) (fun x hx => ⟨_, rfl, fun QT k => ?_, fun _ K k => ?_⟩) (by simp; omega) ?_
  · simpa [tR0] using k
  · have hm := List.mem_reverse.mp hx
    have h0 : x.1 ≠ 0 := by simpa [wet] using (List.mem_filter.mp hm).2
    have hz := hs x (List.mem_filter.mp hm).1
    simp -implicitDefEqProofs [ap_strength_of hz.1 hz.2 h0]
    exact k
  · simp -implicitDefEqProofs only [List.nil_append, q_newF, q_tupL]
    unfold strgs at h
    rw [← map_emb] at h
    exact h
/-! ### need -/
def sp_need_strength : TSp := fun ts S Q E => ∃ f s : Rat, ts = [tR f, tR s] ∧ Sm 20000000 f ∧ Sm 20000000 s ∧ (0 < s → s ≤ f → Q .non S) ∧ (¬ (0 < s ∧ s ≤ f) → E ⟨"NoStrength", none⟩ S)
theorem len_need_strength (ts S Q E) (h : sp_need_strength ts S Q E) : ts.length = 2 := by obtain ⟨_, _, rfl, _⟩ := h; rfl
def b_need_strength (W : XW) : DS :=
  (seqD
    (ifD (orT (tstD (opD (cmpR .LtE) (opD ixR (rdD 1) (cD (.int 0))) (cD (.int 0)))) (truD (callF sp_is_less W (consA (rdD 0) (consA (rdD 1) nilA)))))
      (seqD
        (raiseD W "NoStrength" (cD (.str "no strength up to the full one")))
      nextD)
      nextD)
  nextD)
theorem law_need_strength {ts : List T} {S : SS} {Q : KQ} {E : Exn → SS → Prop} (h : sp_need_strength ts S Q E) : b_need_strength (fun x _ S' => E x S') { nx := fun _ S' => Q .non S', rt := Q } (start' 2 ts) S := by
  obtain ⟨f, s, rfl, h1, h2, h, he⟩ := h
  unfold b_need_strength start'
  by_cases c1 : s ≤ 0
  · have n1 : ¬ (0 < s ∧ s ≤ f) := by grind
    simp -implicitDefEqProofs [num_le_iff, c1]
    exact he n1
  · by_cases c2 : f < s
    · have n1 : ¬ (0 < s ∧ s ≤ f) := by grind
      simp -implicitDefEqProofs [num_le_iff, c1, ap_is_less h1 h2, c2]
      exact he n1
    · simp -implicitDefEqProofs [num_le_iff, c1, ap_is_less h1 h2, c2]
      exact h (by grind) (by grind)
def lck (s : Rat) (x : Lay) : Rat := if 0 < x.1 - x.2 / s then x.1 - x.2 / s else 0
def sp_lacks : TSp := fun ts S Q E => ∃ (x : Lay) (s : Rat), ts = [tL x, tR s] ∧ Sm 9000000 x.1 ∧ Sm 9000000 x.2 ∧ Sm 9000000 s ∧ s ≠ 0 ∧ Q (tR (lck s x)) S
theorem len_lacks (ts S Q E) (h : sp_lacks ts S Q E) : ts.length = 2 := by obtain ⟨_, _, rfl, _⟩ := h; rfl
theorem ap_lacks {x : Lay} {s : Rat} {S : SS} {Q : KQ} {E : Exn → SS → Prop} (h1 : Sm 9000000 x.1) (h2 : Sm 9000000 x.2) (h3 : Sm 9000000 s) (h0 : s ≠ 0) : sp_lacks [tL x, tR s] S Q E ↔ Q (tR (lck s x)) S := ⟨fun ⟨_, _, e, _, _, _, _, h⟩ => by simp only [List.cons.injEq, tL_inj, tR_inj, and_true] at e; obtain ⟨rfl, rfl⟩ := e; exact h, fun h => ⟨_, _, rfl, h1, h2, h3, h0, h⟩⟩
def b_lacks (W : XW) : DS :=
  (seqD
    (asgD (callF sp_less W (consA (opD ixR (rdD 0) (cD (.int 0))) (consA (callF sp_over W (consA (opD ixR (rdD 0) (cD (.int 1))) (consA (rdD 1) nilA))) nilA))) (.nm 2))
  (seqD
    (retD (ifE (tstD (opD (cmpR .Gt) (opD ixR (rdD 2) (cD (.int 0))) (cD (.int 0)))) (rdD 2) (cD (.tup [(.int 0), (.int 1)]))))
  nextD))
theorem law_lacks {ts : List T} {S : SS} {Q : KQ} {E : Exn → SS → Prop} (h : sp_lacks ts S Q E) : b_lacks (fun x _ S' => E x S') { nx := fun _ S' => Q .non S', rt := Q } (start' 3 ts) S := by
  obtain ⟨x, s, rfl, h1, h2, h3, h0, h⟩ := h
  unfold lck at h
  unfold b_lacks start'
  simp -implicitDefEqProofs [ap_overG (Sz.mk h2 h3 (by decide)) h0, ap_lessG (Sz.mk h1 (h2.div h3 h0) (by decide)), num_pos_iff]
  by_cases c : 0 < x.1 - x.2 / s
  · simp only [c, if_true, decide_true] at h ⊢
    exact h
  · simp only [c, if_false, decide_false, tR0] at h ⊢
    exact h
theorem Sm_lck {n k : Nat} {x : Lay} {s : Rat} (h1 : Sm n x.1) (h2 : Sm n x.2) (h3 : Sm k s) (h0 : s ≠ 0) : Sm (n + (n + k) + 1) (lck s x) := by
  unfold lck
  split
  · exact h1.sub (h2.div h3 h0)
  · exact Sm0.mono (by omega)
def nd (s : Rat) (l : List Lay) : Rat := rsum (l.map (lck s))
def sp_need_of : TSp := fun ts S Q E => ∃ (l : List Lay) (s : Rat) (n k : Nat), (ts = [tB l, tR s] ∨ ts = [.lst (l.map tL), tR s]) ∧ SmL n l ∧ n ≤ 9000000 ∧ Sm k s ∧ k ≤ 9000000 ∧ s ≠ 0 ∧ (n + (n + k) + 1 + 1) * (l.length + 1) ≤ 16000000 ∧ Q (tR (nd s l)) S
theorem len_need_of (ts S Q E) (h : sp_need_of ts S Q E) : ts.length = 2 := by obtain ⟨_, _, _, _, rfl | rfl, _⟩ := h <;> rfl
def b_need_of (W : XW) : DS :=
  (seqD
    (retD (callF sp_summed W (consA (lcD false [2] (seqI (rdD 0)) (.nm 2) (fun _ S Q => Q true S) (callF sp_lacks noW (consA (rdD 2) (consA (rdD 1) nilA)))) nilA)))
  nextD)
theorem law_need_of {ts : List T} {S : SS} {Q : KQ} {E : Exn → SS → Prop} (h : sp_need_of ts S Q E) : b_need_of (fun x _ S' => E x S') { nx := fun _ S' => Q .non S', rt := Q } (start' 3 ts) S := by
  obtain ⟨l, s, n, k, rfl | rfl, hl, hn, hs, hk, h0, hb, h⟩ := h
  · have hlen := len_le hb
    unfold b_need_of start'
    simp -implicitDefEqProofs
    refine lcL_gen (l := l) (emb := tL) (g := fun _ => true) (f := fun x => tR (lck s x)) (fun x hx => ⟨_, rfl, fun QT k => k, fun _ K kk => ?_⟩) (by simp; omega) ?_
    · have z := hl x hx
      simp -implicitDefEqProofs [ap_lacks (z.1.mono hn) (z.2.mono hn) (hs.mono hk) h0]
      exact kk
    · simp -implicitDefEqProofs only [filt_true, List.nil_append, q_newF, map_emb]
      refine summedL (n := n + (n + k) + 1) (fun x hx => ?_) (by simpa using hb) h
      obtain ⟨y, hy, rfl⟩ := List.mem_map.mp hx
      exact Sm_lck (hl y hy).1 (hl y hy).2 hs h0
  · have hlen := len_le hb
    unfold b_need_of start'
    simp -implicitDefEqProofs
    refine lcL_gen (l := l) (emb := tL) (g := fun _ => true) (f := fun x => tR (lck s x)) (fun x hx => ⟨_, rfl, fun QT k => k, fun _ K kk => ?_⟩) (by simp; omega) ?_
    · have z := hl x hx
      simp -implicitDefEqProofs [ap_lacks (z.1.mono hn) (z.2.mono hn) (hs.mono hk) h0]
      exact kk
    · simp -implicitDefEqProofs only [filt_true, List.nil_append, q_newF, map_emb]
      refine summedL (n := n + (n + k) + 1) (fun x hx => ?_) (by simpa using hb) h
      obtain ⟨y, hy, rfl⟩ := List.mem_map.mp hx
      exact Sm_lck (hl y hy).1 (hl y hy).2 hs h0
def sp_need : TSp := fun ts S Q E => ∃ (f : Rat) (l : List Lay) (s : Rat) (n k : Nat), ts = [tR f, tB l, tR s] ∧ Sm 20000000 f ∧ SmL n l ∧ n ≤ 9000000 ∧ Sm k s ∧ k ≤ 9000000 ∧ (n + (n + k) + 1 + 1) * (l.length + 1) ≤ 16000000 ∧ (0 < s → s ≤ f → Q (tR (nd s l)) S) ∧ (¬ (0 < s ∧ s ≤ f) → E ⟨"NoStrength", none⟩ S)
theorem len_need (ts S Q E) (h : sp_need ts S Q E) : ts.length = 3 := by obtain ⟨_, _, _, _, _, rfl, _⟩ := h; rfl
def b_need (W : XW) : DS :=
  (seqD
    (dropD (callF sp_need_strength W (consA (rdD 0) (consA (rdD 2) nilA))))
  (seqD
    (retD (callF sp_need_of W (consA (rdD 1) (consA (rdD 2) nilA))))
  nextD))
theorem law_need {ts : List T} {S : SS} {Q : KQ} {E : Exn → SS → Prop} (h : sp_need ts S Q E) : b_need (fun x _ S' => E x S') { nx := fun _ S' => Q .non S', rt := Q } (start' 3 ts) S := by
  obtain ⟨f, l, s, n, k, rfl, hf, hl, hn, hs, hk, hb, h, he⟩ := h
  unfold b_need start'
  simp -implicitDefEqProofs
  refine ⟨f, s, rfl, hf, hs.mono (by omega), fun s0 s1 => ?_, fun hno => he hno⟩
  simp -implicitDefEqProofs
  exact ⟨l, s, n, k, .inl rfl, hl, hn, hs, hk, by grind, hb, h s0 s1⟩
def stir (l : List Lay) : List Lay := if wet l = [] then l else fal l ++ [(rsum ((wet l).map (·.1)), rsum ((wet l).map (·.2)))]
def sp_stirred : TSp := fun ts S Q E => ∃ (l : List Lay) (n : Nat), ts = [tB l] ∧ SmL n l ∧ (n + 1) * (l.length + 1) ≤ 16000000 ∧ l.length ≤ 1000 ∧ Q (tB (stir l)) S
theorem len_stirred (ts S Q E) (h : sp_stirred ts S Q E) : ts.length = 1 := by obtain ⟨_, _, rfl, _⟩ := h; rfl
theorem stirred_ap {l : List Lay} {n : Nat} {S : SS} {Q : KQ} {E : Exn → SS → Prop} (h1 : SmL n l) (h2 : (n + 1) * (l.length + 1) ≤ 16000000) (h3 : l.length ≤ 1000) (h : Q (tB (stir l)) S) : sp_stirred [tB l] S Q E := ⟨l, n, rfl, h1, h2, h3, h⟩
def b_stirred (W : XW) : DS :=
  (seqD
    (asgD (callF sp_wet_layers W (consA (rdD 0) nilA)) (.nm 1))
  (seqD
    (ifD (tstD (opD (cmpR .Eq) (rdD 1) (tupD nilA)))
      (seqD
        (retD (rdD 0))
      nextD)
      nextD)
  (seqD
    (asgD (tupD (consA (callF sp_summed W (consA (lcD false [3, 4] (seqI (rdD 1)) (.tp (.cons (.nm 3) (.cons (.nm 4) .nil))) (fun _ S Q => Q true S) (rdD 3)) nilA)) (consA (callF sp_summed W (consA (lcD false [3, 4] (seqI (rdD 1)) (.tp (.cons (.nm 3) (.cons (.nm 4) .nil))) (fun _ S Q => Q true S) (rdD 4)) nilA)) nilA))) (.nm 2))
  (seqD
    (retD (callB tupleTR (consA (opD (binR false .Add) (callF sp_fallen_layers W (consA (rdD 0) nilA)) (lstD false (consA (rdD 2) nilA))) nilA)))
  nextD))))
theorem shps_tL {n : Nat} : ∀ l : List Lay, T.shps (n + 2) (l.map tL) = true
  | [] => by simp
  | x :: l => by
    rw [List.map_cons, shps1, shps_tL l]
    simp [tL, tR]
theorem q_eqB0 {l : List Lay} {S : SS} {Q : KQ} : cmpR .Eq (tB l) (.tup []) S Q ↔ Q (.bl l.isEmpty) S := by
  have e : T.eqv (tB l) (.tup []) = l.isEmpty := by
    cases l with
    | nil => decide +kernel
    | cons x l => unfold T.eqv tB; simp [T.toD, T.toDs, PyData.eqv, PyData.eqvAll]
  have s : T.shp 60 (tB l) = true := by unfold tB; rw [shp_tup]; exact shps_tL l
  show (T.shp 60 (tB l) = true ∧ T.shp 60 (.tup []) = true ∧ Q (.bl (false ^^ T.eqv (tB l) (.tup []))) S) ↔ _
  rw [e, Bool.false_xor]
  exact ⟨fun h => h.2.2, fun h => ⟨s, rfl, h⟩⟩
theorem law_stirred {ts : List T} {S : SS} {Q : KQ} {E : Exn → SS → Prop} (h : sp_stirred ts S Q E) : b_stirred (fun x _ S' => E x S') { nx := fun _ S' => Q .non S', rt := Q } (start' 5 ts) S := by
  obtain ⟨l, n, rfl, hl, hn, h3, h⟩ := h
  have hw : (wet l).length ≤ l.length := List.length_filter_le _ _
  have hf : (fal l).length ≤ l.length := List.length_filter_le _ _
  have hb : (n + 1) * ((wet l).length + 1) ≤ 16000000 := Nat.le_trans (Nat.mul_le_mul_left _ (by omega)) hn
  have hs : ∀ x, x ∈ wet l → Sm n x.1 ∧ Sm n x.2 := fun x hx => hl x (List.mem_filter.mp hx).1
  unfold stir at h
  unfold b_stirred start'
  simp -implicitDefEqProofs
  refine wet_ap h3 ?_
  simp -implicitDefEqProofs [q_eqB0]
  cases hc : (wet l).isEmpty with
  | true =>
    have e : wet l = [] := List.isEmpty_iff.mp hc
    rw [if_pos e] at h
    simpa using h
  | false =>
    have e : wet l ≠ [] := fun z => by rw [z] at hc; cases hc
    rw [if_neg e] at h
    simp -implicitDefEqProofs
    refine lcL_gen (l := wet l) (emb := tL) (g := fun _ => true) (f := fun x => tR x.1) (fun x hx => ⟨_, rfl, fun QT k => k, fun _ K k => ?_⟩) (by simp; omega) ?_
    · simpa using k
    · simp -implicitDefEqProofs only [filt_true, List.nil_append, q_newF, map_emb]
      refine summedL (n := n) (fun x hx => ?_) (by simpa using hb) ?_
      · obtain ⟨y, hy, rfl⟩ := List.mem_map.mp hx
        exact (hs y hy).1
      · try simp -implicitDefEqProofs
        refine lcL_gen (l := wet l) (emb := tL) (g := fun _ => true) (f := fun x => tR x.2) (fun x hx => ⟨_, rfl, fun QT k => k, fun _ K k => ?_⟩) (by simp; omega) ?_
        · simpa using k
        · simp -implicitDefEqProofs only [filt_true, List.nil_append, q_newF, map_emb]
          refine summedL (n := n) (fun x hx => ?_) (by simpa using hb) ?_
          · obtain ⟨y, hy, rfl⟩ := List.mem_map.mp hx
            exact (hs y hy).2
          · try simp -implicitDefEqProofs
            refine fallen_ap h3 ?_
            try simp -implicitDefEqProofs
            refine ⟨by omega, ?_⟩
            have ez : tB (fal l ++ [(rsum ((wet l).map (·.1)), rsum ((wet l).map (·.2)))]) = T.tup ((fal l).map tL ++ [T.tup [tR (rsum ((wet l).map fun x => x.1)), tR (rsum ((wet l).map fun x => x.2))]]) := by
              unfold tB; rw [List.map_append]; rfl
            rw [ez] at h
            exact h
theorem foldl_add : ∀ (l : List Rat) (a : Rat), l.foldl (· + ·) a = a + rsum l
  | [], a => by
    show a = a + 0
    grind
  | x :: l, a => by
    have h1 := foldl_add l (a + x)
    have h2 := foldl_add l (0 + x)
    show l.foldl (· + ·) (a + x) = a + l.foldl (· + ·) (0 + x)
    rw [h1, h2]; grind
theorem rsum_cons (x : Rat) (l : List Rat) : rsum (x :: l) = x + rsum l := by
  show l.foldl (· + ·) (0 + x) = _
  rw [foldl_add]; grind
theorem rsum_nil : rsum [] = 0 := rfl
theorem rsum_app : ∀ a b : List Rat, rsum (a ++ b) = rsum a + rsum b
  | [], b => by rw [List.nil_append, rsum_nil]; grind
  | x :: a, b => by rw [List.cons_append, rsum_cons, rsum_cons, rsum_app a b]; grind
theorem rsum_split (g : Lay → Rat) : ∀ l : List Lay, rsum (l.map g) = rsum ((fal l).map g) + rsum ((wet l).map g)
  | [] => by simp [fal, wet, rsum_nil]; grind
  | x :: l => by
    have ih := rsum_split g l
    rw [List.map_cons, rsum_cons, ih]
    by_cases c : x.1 = 0
    · have e1 : fal (x :: l) = x :: fal l := by unfold fal; rw [List.filter_cons_of_pos (by simpa using c)]
      have e2 : wet (x :: l) = wet l := by unfold wet; rw [List.filter_cons_of_neg (by simpa using c)]
      rw [e1, e2, List.map_cons, rsum_cons]; grind
    · have e1 : fal (x :: l) = fal l := by unfold fal; rw [List.filter_cons_of_neg (by simpa using c)]
      have e2 : wet (x :: l) = x :: wet l := by unfold wet; rw [List.filter_cons_of_pos (by simpa using c)]
      rw [e1, e2, List.map_cons, rsum_cons]; grind
theorem atI_last {α : Type} (l : List α) (x : α) : atI (l ++ [x]) (-1) = some x := by
  have e : ixN (l ++ [x]).length (-1) = some l.length := by
    unfold ixN
    simp
    omega
  unfold atI
  rw [e]
  simp
end TL

set_option Elab.async false
set_option linter.all false
set_option maxRecDepth 100000
set_option maxHeartbeats 1000000
set_option autoImplicit false
/-! TLD: what is drawn and skimmed. -/
namespace TL
open PySem PySem.Spec PyProof.Rows L2
/-! ### least, greatest -/
def mnR (f x : Rat) : Rat := if x < f then x else f
def mxR (f x : Rat) : Rat := if f < x then x else f
theorem mn_or (a b : Rat) : mnR a b = a ∨ mnR a b = b := by unfold mnR; split <;> simp
theorem mx_or (a b : Rat) : mxR a b = a ∨ mxR a b = b := by unfold mxR; split <;> simp
def spRow (f : Rat → Rat → Rat) : TSp := fun ts S Q E => ∃ a l, (ts = [.tup (List.map tR (a :: l))] ∨ ts = [.lst (List.map tR (a :: l))]) ∧ (∀ x, x ∈ a :: l → Sm 20000000 x) ∧ Q (tR ((a :: l).foldl f a)) S
def sp_least : TSp := spRow mnR
theorem len_least (ts S Q E) (h : sp_least ts S Q E) : ts.length = 1 := by obtain ⟨_, _, rfl | rfl, _⟩ := h <;> rfl
def b_least (W : XW) : DS :=
  (seqD
    (asgD (opD ixR (rdD 0) (cD (.int 0))) (.nm 1))
  (seqD
    (forD (seqI (rdD 0)) (.nm 2)
      (seqD
        (ifD (truD (callF sp_is_less W (consA (rdD 2) (consA (rdD 1) nilA))))
          (seqD
            (asgD (rdD 2) (.nm 1))
          nextD)
          nextD)
      nextD))
  (seqD
    (retD (rdD 1))
  nextD)))
theorem least_loop {D : Ends'} {S : SS} {E : Exn → SS → Prop} {row : T} : ∀ (l : List Rat) (f : Rat) (x : Option T), Sm 20000000 f → (∀ x, x ∈ l → Sm 20000000 x) → (∀ x, D.nx [some row, some (tR (l.foldl mnR f)), x] S) →
    forL (fun _ => True) (.nm 2) (seqD (ifD (truD (callF sp_is_less (fun x _ S' => E x S') (consA (rdD 2) (consA (rdD 1) nilA)))) (seqD (asgD (rdD 2) (.nm 1)) nextD) nextD) nextD) D (l.map tR) [some row, some (tR f), x] S
  | [], f, x, _, _, h => ⟨trivial, h x⟩
  | y :: l, f, x, hf, hl, h => by
    have hy := hl y (by simp)
    have again : ∀ x, forL (fun _ => True) (.nm 2) (seqD (ifD (truD (callF sp_is_less (fun x _ S' => E x S') (consA (rdD 2) (consA (rdD 1) nilA)))) (seqD (asgD (rdD 2) (.nm 1)) nextD) nextD) nextD) D (l.map tR) [some row, some (tR (mnR f y)), x] S := fun x =>
      least_loop l _ x (by rcases mn_or f y with e | e <;> rw [e] <;> assumption) (fun z hz => hl z (List.mem_cons_of_mem _ hz)) h
    rw [List.map_cons, q_forL1]
    refine ⟨trivial, ?_⟩
    simp [ap_is_less hy hf]
    by_cases c : y < f
    · have e : mnR f y = y := by unfold mnR; rw [if_pos c]
      rw [e] at again
      simpa [c] using again _
    · have e : mnR f y = f := by unfold mnR; rw [if_neg c]
      rw [e] at again
      simpa [c] using again _
theorem law_least {ts : List T} {S : SS} {Q : KQ} {E : Exn → SS → Prop} (h : sp_least ts S Q E) : b_least (fun x _ S' => E x S') { nx := fun _ S' => Q .non S', rt := Q } (start' 3 ts) S := by
  obtain ⟨a, l, rfl | rfl, hs, h⟩ := h
  · unfold b_least start'
    simp
    exact least_loop (a :: l) a none (hs a (by simp)) hs fun x => by simpa using h
  · unfold b_least start'
    simp
    exact least_loop (a :: l) a none (hs a (by simp)) hs fun x => by simpa using h
theorem ap_least2 {p q : Rat} {S : SS} {Q : KQ} {E : Exn → SS → Prop} (hp : Sm 20000000 p) (hq : Sm 20000000 q) (h : Q (tR (mnR p q)) S) : sp_least [.tup [tR p, tR q]] S Q E :=
  ⟨p, [q], .inl rfl, by simp [hp, hq], by
    have e : mnR p p = p := by unfold mnR; split <;> rfl
    simpa [e] using h⟩
theorem ap_least2L {p q : Rat} {S : SS} {Q : KQ} {E : Exn → SS → Prop} (hp : Sm 20000000 p) (hq : Sm 20000000 q) (h : Q (tR (mnR p q)) S) : sp_least [.lst [tR p, tR q]] S Q E :=
  ⟨p, [q], .inr rfl, by simp [hp, hq], by
    have e : mnR p p = p := by unfold mnR; split <;> rfl
    simpa [e] using h⟩
def sp_greatest : TSp := spRow mxR
theorem len_greatest (ts S Q E) (h : sp_greatest ts S Q E) : ts.length = 1 := by obtain ⟨_, _, rfl | rfl, _⟩ := h <;> rfl
def b_greatest (W : XW) : DS :=
  (seqD
    (asgD (opD ixR (rdD 0) (cD (.int 0))) (.nm 1))
  (seqD
    (forD (seqI (rdD 0)) (.nm 2)
      (seqD
        (ifD (truD (callF sp_is_less W (consA (rdD 1) (consA (rdD 2) nilA))))
          (seqD
            (asgD (rdD 2) (.nm 1))
          nextD)
          nextD)
      nextD))
  (seqD
    (retD (rdD 1))
  nextD)))
theorem greatest_loop {D : Ends'} {S : SS} {E : Exn → SS → Prop} {row : T} : ∀ (l : List Rat) (f : Rat) (x : Option T), Sm 20000000 f → (∀ x, x ∈ l → Sm 20000000 x) → (∀ x, D.nx [some row, some (tR (l.foldl mxR f)), x] S) →
    forL (fun _ => True) (.nm 2) (seqD (ifD (truD (callF sp_is_less (fun x _ S' => E x S') (consA (rdD 1) (consA (rdD 2) nilA)))) (seqD (asgD (rdD 2) (.nm 1)) nextD) nextD) nextD) D (l.map tR) [some row, some (tR f), x] S
  | [], f, x, _, _, h => ⟨trivial, h x⟩
  | y :: l, f, x, hf, hl, h => by
    have hy := hl y (by simp)
    have again : ∀ x, forL (fun _ => True) (.nm 2) (seqD (ifD (truD (callF sp_is_less (fun x _ S' => E x S') (consA (rdD 1) (consA (rdD 2) nilA)))) (seqD (asgD (rdD 2) (.nm 1)) nextD) nextD) nextD) D (l.map tR) [some row, some (tR (mxR f y)), x] S := fun x =>
      greatest_loop l _ x (by rcases mx_or f y with e | e <;> rw [e] <;> assumption) (fun z hz => hl z (List.mem_cons_of_mem _ hz)) h
    rw [List.map_cons, q_forL1]
    refine ⟨trivial, ?_⟩
    simp [ap_is_less hf hy]
    by_cases c : f < y
    · have e : mxR f y = y := by unfold mxR; rw [if_pos c]
      rw [e] at again
      simpa [c] using again _
    · have e : mxR f y = f := by unfold mxR; rw [if_neg c]
      rw [e] at again
      simpa [c] using again _
theorem law_greatest {ts : List T} {S : SS} {Q : KQ} {E : Exn → SS → Prop} (h : sp_greatest ts S Q E) : b_greatest (fun x _ S' => E x S') { nx := fun _ S' => Q .non S', rt := Q } (start' 3 ts) S := by
  obtain ⟨a, l, rfl | rfl, hs, h⟩ := h
  · unfold b_greatest start'
    simp
    exact greatest_loop (a :: l) a none (hs a (by simp)) hs fun x => by simpa using h
  · unfold b_greatest start'
    simp
    exact greatest_loop (a :: l) a none (hs a (by simp)) hs fun x => by simpa using h
theorem greatestL {a : Rat} {l : List Rat} {S : SS} {Q : KQ} {E : Exn → SS → Prop} (hs : ∀ x, x ∈ a :: l → Sm 20000000 x) (h : Q (tR ((a :: l).foldl mxR a)) S) : sp_greatest [.lst (List.map tR (a :: l))] S Q E := ⟨a, l, .inr rfl, hs, h⟩

/-! ### drawing -/
def Ext (S S' : SS) : Prop := ∀ c o, S c = some o → S' c = some o
theorem Ext.refl {S : SS} : Ext S S := fun _ _ h => h
theorem Ext.trans {S S' S'' : SS} (h : Ext S S') (k : Ext S' S'') : Ext S S'' := fun c o e => k c o (h c o e)
theorem Ext.new {S S' : SS} {a : Addr} {o : SO} (h : Ext S S') (ha : S a = none) : Ext S (supd S' a o) := fun c u e => by
  have : c ≠ a := fun z => by subst z; rw [ha] at e; cases e
  rw [supd_ne this]; exact h c u e
def tk : List Lay → Rat → List Lay
  | [], _ => []
  | x :: l, w => (if mnR w x.1 = 0 then [] else [(mnR w x.1, x.2 * mnR w x.1 / x.1)]) ++ tk l (w - mnR w x.1)
def lf : List Lay → Rat → List Lay
  | [], _ => []
  | x :: l, w => (if x.1 - mnR w x.1 = 0 then [] else [(x.1 - mnR w x.1, x.2 - x.2 * mnR w x.1 / x.1)]) ++ lf l (w - mnR w x.1)
theorem tk_len : ∀ (l : List Lay) (w : Rat), (tk l w).length ≤ l.length
  | [], _ => by simp [tk]
  | x :: l, w => by
    have := tk_len l (w - mnR w x.1)
    unfold tk
    rw [List.length_append, List.length_cons]
    split <;> simp <;> omega
theorem lf_len : ∀ (l : List Lay) (w : Rat), (lf l w).length ≤ l.length
  | [], _ => by simp [lf]
  | x :: l, w => by
    have := lf_len l (w - mnR w x.1)
    unfold lf
    rw [List.length_append, List.length_cons]
    split <;> simp <;> omega
theorem mnR_sm {k n : Nat} {w y : Rat} (hw : Sm k w) (hy : Sm n y) : Sm (max k n) (mnR w y) ∧ Sm (k + n + 1) (w - mnR w y) := by
  rcases mn_or w y with e | e <;> rw [e]
  · refine ⟨hw.mono (by omega), ?_⟩
    have : w - w = 0 := by grind
    rw [this]; exact Sm0.mono (by omega)
  · exact ⟨hy.mono (by omega), hw.sub hy⟩
def OkB (N : Nat) (l : List Lay) : Prop := SmL 5000000 l ∧ Bud N (l.map (·.1)) ∧ l.length ≤ 140
theorem Bud.filt {α : Type} (f : α → Rat) (g : α → Bool) : ∀ {l : List α} {N : Nat}, Bud N (l.map f) → Bud N ((l.filter g).map f)
  | [], _, _ => trivial
  | x :: l, N, ⟨n, h1, h2, h3⟩ => by
    by_cases c : g x = true
    · rw [List.filter_cons_of_pos c]; exact ⟨n, h1, h2, Bud.filt f g h3⟩
    · rw [List.filter_cons_of_neg c]; exact (Bud.filt f g h3).mono (by omega)
theorem Bud.app : ∀ {l m : List Rat} {N M : Nat}, Bud N l → Bud M m → Bud (N + M) (l ++ m)
  | [], m, N, M, _, h => h.mono (by omega)
  | x :: l, m, N, M, ⟨n, h1, h2, h3⟩, h => ⟨n, h1, by omega, (Bud.app h3 h).mono (by omega)⟩
theorem Bud.split : ∀ {l m : List Rat} {N : Nat}, Bud N (l ++ m) → ∃ a b, a + b ≤ N ∧ Bud a l ∧ Bud b m
  | [], m, N, h => ⟨0, N, by omega, trivial, h⟩
  | x :: l, m, N, ⟨n, h1, h2, h3⟩ => by
    obtain ⟨a, b, k, k1, k2⟩ := Bud.split h3
    exact ⟨n + 1 + a, b, by omega, ⟨n, h1, by omega, k1.mono (by omega)⟩, k2⟩
theorem Bud.rev : ∀ {l : List Rat} {N : Nat}, Bud N l → Bud N l.reverse
  | [], _, _ => trivial
  | x :: l, N, ⟨n, h1, h2, h3⟩ => by
    rw [List.reverse_cons]
    exact (Bud.app (m := [x]) (M := n + 1) (Bud.rev h3) ⟨n, h1, by omega, trivial⟩).mono (by omega)
theorem OkB.filt {N : Nat} {l : List Lay} (h : OkB N l) (g : Lay → Bool) : OkB N (l.filter g) := ⟨fun x hx => h.1 x (List.mem_filter.mp hx).1, Bud.filt _ _ h.2.1, Nat.le_trans (List.length_filter_le _ _) h.2.2⟩
theorem OkB.rev {N : Nat} {l : List Lay} (h : OkB N l) : OkB N l.reverse := ⟨fun x hx => h.1 x (List.mem_reverse.mp hx), by rw [List.map_reverse]; exact Bud.rev h.2.1, by rw [List.length_reverse]; exact h.2.2⟩
theorem OkB.uni {n N : Nat} {l : List Lay} (h : SmL n l) (hn : n ≤ 5000000) (hl : l.length ≤ 140) (hN : (n + 1) * l.length ≤ N) : OkB N l := ⟨fun x hx => ⟨(h x hx).1.mono hn, (h x hx).2.mono hn⟩, Bud.uni (n := n) (fun x hx => by
  obtain ⟨y, hy, rfl⟩ := List.mem_map.mp hx
  exact (h y hy).1) (by rw [List.length_map]; exact hN), hl⟩
theorem OkB.sum {N : Nat} {l : List Lay} (h : OkB N l) : Sm (1 + N) (rsum (l.map (·.1))) := Bud.sm h.2.1 Sm0
def sp_first_taken : TSp := fun ts S Q E => ∃ (l : List Lay) (w : Rat) (k N : Nat), ts = [tB l, tR w] ∧ OkB N l ∧ (∀ x, x ∈ l → x.1 ≠ 0) ∧ Sm k w ∧ k + N ≤ 15000000 ∧
  ∀ a b S', S' a = some (.lst ((tk l w).map tL)) → S' b = some (.lst ((lf l w).map tL)) → Ext S S' → Q (.tup [.ref a, .ref b]) S'
theorem len_first_taken (ts S Q E) (h : sp_first_taken ts S Q E) : ts.length = 2 := by obtain ⟨_, _, _, _, rfl, _⟩ := h; rfl
theorem first_ap {l : List Lay} {w : Rat} {k N : Nat} {S : SS} {Q : KQ} {E : Exn → SS → Prop} (h1 : OkB N l) (h2 : ∀ x, x ∈ l → x.1 ≠ 0) (h4 : Sm k w) (h5 : k + N ≤ 15000000) (h : ∀ a b S', S' a = some (.lst ((tk l w).map tL)) → S' b = some (.lst ((lf l w).map tL)) → Ext S S' → Q (.tup [.ref a, .ref b]) S') : sp_first_taken [tB l, tR w] S Q E := ⟨l, w, k, N, rfl, h1, h2, h4, h5, h⟩
def b_first_taken (W : XW) : DS :=
  (seqD
    (asgD (lstD true nilA) (.nm 2))
  (seqD
    (asgD (lstD true nilA) (.nm 3))
  (seqD
    (forD (seqI (rdD 0)) (.nm 4)
      (seqD
        (asgD (callF sp_least W (consA (tupD (consA (rdD 1) (consA (opD ixR (rdD 4) (cD (.int 0))) nilA))) nilA)) (.nm 5))
      (seqD
        (asgD (callF sp_over W (consA (callF sp_times W (consA (opD ixR (rdD 4) (cD (.int 1))) (consA (rdD 5) nilA))) (consA (opD ixR (rdD 4) (cD (.int 0))) nilA))) (.nm 6))
      (seqD
        (asgD (callF sp_less W (consA (opD ixR (rdD 4) (cD (.int 0))) (consA (rdD 5) nilA))) (.nm 7))
      (seqD
        (asgD (callF sp_less W (consA (rdD 1) (consA (rdD 5) nilA))) (.nm 1))
      (seqD
        (ifD (tstD (opD (cmpR .NotEq) (rdD 5) (cD (.tup [(.int 0), (.int 1)]))))
          (seqD
            (dropD (methD "list" appendR (rdD 2) (consA (tupD (consA (rdD 5) (consA (rdD 6) nilA))) nilA)))
          nextD)
          nextD)
      (seqD
        (ifD (tstD (opD (cmpR .NotEq) (rdD 7) (cD (.tup [(.int 0), (.int 1)]))))
          (seqD
            (dropD (methD "list" appendR (rdD 3) (consA (tupD (consA (rdD 7) (consA (callF sp_less W (consA (opD ixR (rdD 4) (cD (.int 1))) (consA (rdD 6) nilA))) nilA))) nilA)))
          nextD)
          nextD)
      nextD)))))))
  (seqD
    (retD (tupD (consA (rdD 2) (consA (rdD 3) nilA))))
  nextD))))
theorem q_app' {S : SS} {Q : KQ} {a : Addr} {l : List T} {y : T} (h : S a = some (.lst l)) : appendR (.ref a) [y] S Q = (l.length < sizeLine ∧ Q .non (supd S a (.lst (l ++ [y])))) := by
  unfold appendR stL
  simp only [h]
theorem tyT_ref' {S : SS} {a : Addr} {l : List T} (h : S a = some (.lst l)) : tyT S "list" (.ref a) := .inl ⟨rfl, by unfold isLs lsOf; simp only [h]⟩
theorem first_loop {D : Ends'} {S : SS} {E : Exn → SS → Prop} {row : T} {a b : Addr} (hab : a ≠ b) (ha : S a = none) (hb : S b = none) {body : DS} (eb : body = (seqD
        (asgD (callF sp_least (fun x _ S' => E x S') (consA (tupD (consA (rdD 1) (consA (opD ixR (rdD 4) (cD (.int 0))) nilA))) nilA)) (.nm 5))
      (seqD
        (asgD (callF sp_over (fun x _ S' => E x S') (consA (callF sp_times (fun x _ S' => E x S') (consA (opD ixR (rdD 4) (cD (.int 1))) (consA (rdD 5) nilA))) (consA (opD ixR (rdD 4) (cD (.int 0))) nilA))) (.nm 6))
      (seqD
        (asgD (callF sp_less (fun x _ S' => E x S') (consA (opD ixR (rdD 4) (cD (.int 0))) (consA (rdD 5) nilA))) (.nm 7))
      (seqD
        (asgD (callF sp_less (fun x _ S' => E x S') (consA (rdD 1) (consA (rdD 5) nilA))) (.nm 1))
      (seqD
        (ifD (tstD (opD (cmpR .NotEq) (rdD 5) (cD (.tup [(.int 0), (.int 1)]))))
          (seqD
            (dropD (methD "list" appendR (rdD 2) (consA (tupD (consA (rdD 5) (consA (rdD 6) nilA))) nilA)))
          nextD)
          nextD)
      (seqD
        (ifD (tstD (opD (cmpR .NotEq) (rdD 7) (cD (.tup [(.int 0), (.int 1)]))))
          (seqD
            (dropD (methD "list" appendR (rdD 3) (consA (tupD (consA (rdD 7) (consA (callF sp_less (fun x _ S' => E x S') (consA (opD ixR (rdD 4) (cD (.int 1))) (consA (rdD 6) nilA))) nilA))) nilA)))
          nextD)
          nextD)
      nextD))))))) : ∀ (l A B : List Lay) (w : Rat) (k N : Nat) (S' : SS) (x4 x5 x6 x7 : Option T), SmL 5000000 l → Bud N (l.map (·.1)) → (∀ x, x ∈ l → x.1 ≠ 0) → Sm k w → k + N ≤ 15000000 → A.length + l.length ≤ 1000 → B.length + l.length ≤ 1000 → S' a = some (.lst (A.map tL)) → S' b = some (.lst (B.map tL)) → Ext S S' →
    (∀ (w' : T) S'' x4 x5 x6 x7, S'' a = some (.lst ((A ++ tk l w).map tL)) → S'' b = some (.lst ((B ++ lf l w).map tL)) → Ext S S'' → D.nx [some row, some w', some (.ref a), some (.ref b), x4, x5, x6, x7] S'') →
    forL (fun _ => True) (.nm 4) body D (l.map tL) [some row, some (tR w), some (.ref a), some (.ref b), x4, x5, x6, x7] S'
  | [], A, B, w, k, N, S', x4, x5, x6, x7, _, _, _, _, _, _, _, h1, h2, h3, fin => ⟨trivial, fin _ _ _ _ _ _ (by simpa [tk] using h1) (by simpa [lf] using h2) h3⟩
  | x :: l, A, B, w, k, N, S', x4, x5, x6, x7, hs, ⟨n, sx1, hn, hbl⟩, h0, hw, hk, hA, hB, h1, h2, h3, fin => by
    rw [List.length_cons] at hA hB
    obtain ⟨sx1b, sx2⟩ := hs x List.mem_cons_self
    have x0 := h0 x List.mem_cons_self
    obtain ⟨p1, p2⟩ := mnR_sm hw sx1
    have again := fun A' B' => first_loop (D := D) (row := row) hab ha hb eb l A' B' (w - mnR w x.1) (k + n + 1) (N - (n + 1))
    have ft : tk (x :: l) w = (if mnR w x.1 = 0 then [] else [(mnR w x.1, x.2 * mnR w x.1 / x.1)]) ++ tk l (w - mnR w x.1) := rfl
    have fl : lf (x :: l) w = (if x.1 - mnR w x.1 = 0 then [] else [(x.1 - mnR w x.1, x.2 - x.2 * mnR w x.1 / x.1)]) ++ lf l (w - mnR w x.1) := rfl
    rw [ft, fl] at fin
    generalize tk l (w - mnR w x.1) = TK at *
    generalize lf l (w - mnR w x.1) = LF at *
    have hsl : SmL 5000000 l := fun y hy => hs y (List.mem_cons_of_mem _ hy)
    have h0l : ∀ y, y ∈ l → y.1 ≠ 0 := fun y hy => h0 y (List.mem_cons_of_mem _ hy)
    rw [List.map_cons, q_forL1]
    refine ⟨trivial, ?_⟩
    rw [q_bindN]
    have b1 : max k n ≤ 15000000 := by omega
    have z1 := Sz.mk sx2 p1 (by omega)
    have m1 := sx2.mul p1
    have z2 := Sz.mk m1 sx1b (by omega)
    have m2 := m1.div sx1b x0
    have z3 := Sz.mk sx1 p1 (by omega)
    have z4 := Sz.mk hw p1 (by omega)
    have z5 := Sz.mk sx2 m2 (by omega)
    subst eb
    simp -implicitDefEqProofs only [q_seq, q_asg, q_callF, q_cons, q_nil, q_tup, q_op, q_rdS, q_rd0, q_rd1, q_c, List.set, tl_ix0, tl_ix1, q_bindN]
    refine ⟨by simp, ap_least2 (hw.mono (by omega)) (sx1.mono (by omega)) ?_⟩
    generalize mnR w x.1 = p at *
    have hba : b ≠ a := Ne.symm hab
    have g1 : ∀ y, supd S' a (.lst (A.map tL ++ [y])) b = some (.lst (B.map tL)) := fun y => by rw [supd_ne hba]; exact h2
    by_cases c1 : p = 0
    · have d1 : decide (p ≠ 0) = false := by simp [c1]
      rw [if_pos c1] at fin
      by_cases c2 : x.1 - p = 0
      · have d2 : decide (x.1 - p ≠ 0) = false := by simp [c2]
        rw [if_pos c2] at fin
        simp -implicitDefEqProofs only [q_callF, q_cons, q_nil, q_op, q_rdS, q_rd0, q_rd1, q_c, List.set, tl_ix0, tl_ix1, q_bindN, q_if, q_tst, q_asB, q_next, q_seq, q_asg, fr_ne, ap_timesG z1, ap_overG z2 x0, ap_lessG z3, ap_lessG z4, tR0, d1, d2]
        exact again A B _ _ _ _ _ hsl hbl h0l p2 (by omega) (by omega) (by omega) h1 h2 h3 fin
      · have d2 : decide (x.1 - p ≠ 0) = true := by simp [c2]
        rw [if_neg c2] at fin
        simp -implicitDefEqProofs only [q_callF, q_cons, q_nil, q_op, q_rdS, q_rd0, q_rd1, q_c, List.set, tl_ix0, tl_ix1, q_bindN, q_if, q_tst, q_asB, q_next, q_seq, q_asg, q_drop, q_meth, q_tup, fr_ne, ap_timesG z1, ap_overG z2 x0, ap_lessG z3, ap_lessG z4, ap_lessG z5, tR0, d1, d2, q_app' h2]
        refine ⟨tyT_ref' h2, by simp, by simp [slv]; omega, ?_⟩
        refine again A (B ++ [(x.1 - p, x.2 - x.2 * p / x.1)]) _ _ _ _ _ hsl hbl h0l p2 (by omega) (by omega) (by simp; omega) (by rw [supd_ne hab]; exact h1) (by rw [supd_same, List.map_append]; rfl) (h3.new hb) fun w' S'' y4 y5 y6 y7 k1 k2 k3 => fin w' S'' y4 y5 y6 y7 k1 (by rw [k2, List.append_assoc]) k3
    · have d1 : decide (p ≠ 0) = true := by simp [c1]
      rw [if_neg c1] at fin
      by_cases c2 : x.1 - p = 0
      · have d2 : decide (x.1 - p ≠ 0) = false := by simp [c2]
        rw [if_pos c2] at fin
        simp -implicitDefEqProofs only [q_callF, q_cons, q_nil, q_op, q_rdS, q_rd0, q_rd1, q_c, List.set, tl_ix0, tl_ix1, q_bindN, q_if, q_tst, q_asB, q_next, q_seq, q_asg, q_drop, q_meth, q_tup, fr_ne, ap_timesG z1, ap_overG z2 x0, ap_lessG z3, ap_lessG z4, ap_lessG z5, tR0, d1, d2, q_app' h1]
        refine ⟨tyT_ref' h1, by simp, by simp [slv]; omega, ?_⟩
        refine again (A ++ [(p, x.2 * p / x.1)]) B _ _ _ _ _ hsl hbl h0l p2 (by omega) (by simp; omega) (by omega) (by rw [supd_same, List.map_append]; rfl) (g1 _) (h3.new ha) fun w' S'' y4 y5 y6 y7 k1 k2 k3 => fin w' S'' y4 y5 y6 y7 (by rw [k1, List.append_assoc]) k2 k3
      · have d2 : decide (x.1 - p ≠ 0) = true := by simp [c2]
        rw [if_neg c2] at fin
        simp -implicitDefEqProofs only [q_callF, q_cons, q_nil, q_op, q_rdS, q_rd0, q_rd1, q_c, List.set, tl_ix0, tl_ix1, q_bindN, q_if, q_tst, q_asB, q_next, q_seq, q_asg, q_drop, q_meth, q_tup, fr_ne, ap_timesG z1, ap_overG z2 x0, ap_lessG z3, ap_lessG z4, ap_lessG z5, tR0, d1, d2, q_app' h1, q_app' (g1 _)]
        refine ⟨tyT_ref' h1, by simp, by simp [slv]; omega, tyT_ref' (g1 _), by simp, by simp [slv]; omega, ?_⟩
        refine again (A ++ [(p, x.2 * p / x.1)]) (B ++ [(x.1 - p, x.2 - x.2 * p / x.1)]) _ _ _ _ _ hsl hbl h0l p2 (by omega) (by simp; omega) (by simp; omega) (by rw [supd_ne hab, supd_same, List.map_append]; rfl) (by rw [supd_same, List.map_append]; rfl) ((h3.new ha).new hb) fun w' S'' y4 y5 y6 y7 k1 k2 k3 => fin w' S'' y4 y5 y6 y7 (by rw [k1, List.append_assoc]) (by rw [k2, List.append_assoc]) k3
theorem law_first_taken {ts : List T} {S : SS} {Q : KQ} {E : Exn → SS → Prop} (h : sp_first_taken ts S Q E) : b_first_taken (fun x _ S' => E x S') { nx := fun _ S' => Q .non S', rt := Q } (start' 8 ts) S := by
  obtain ⟨l, w, k, N, rfl, ⟨h1, hB, h3⟩, h2, h4, h5, h⟩ := h
  unfold b_first_taken start'
  simp -implicitDefEqProofs
  intro a ha b hb
  have hab : a ≠ b := fun e => by subst e; rw [supd_same] at hb; cases hb
  have hb2 : S b = none := by rwa [supd_ne (Ne.symm hab)] at hb
  refine first_loop hab ha hb2 rfl l [] [] w k N _ _ _ _ _ h1 hB h2 h4 (by omega) (by simp; omega) (by simp; omega) (by rw [supd_ne hab, supd_same]; rfl) (by rw [supd_same]; rfl) ((Ext.refl.new ha).new hb2) fun w' S'' x4 x5 x6 x7 k1 k2 k3 => ?_
  simp -implicitDefEqProofs
  exact h a b S'' k1 k2 k3
def isTh (l : List Lay) (w : Rat) : Bool := !decide (w < 0) && !decide (rsum (l.map (·.1)) < w)
def sp_is_there : TSp := fun ts S Q E => ∃ (l : List Lay) (w : Rat) (N : Nat), ts = [tB l, tR w] ∧ OkB N l ∧ N ≤ 15000000 ∧ Sm 15000000 w ∧ Q (.bl (isTh l w)) S
theorem len_is_there (ts S Q E) (h : sp_is_there ts S Q E) : ts.length = 2 := by obtain ⟨_, _, _, rfl, _⟩ := h; rfl
theorem map_tL_inj : ∀ {l m : List Lay}, l.map tL = m.map tL → l = m
  | [], [], _ => rfl
  | [], _ :: _, h => by simp at h
  | _ :: _, [], h => by simp at h
  | x :: l, y :: m, h => by
    simp only [List.map_cons, List.cons.injEq, tL_inj] at h
    rw [h.1, map_tL_inj h.2]
theorem ap_is_there {l : List Lay} {w : Rat} {N : Nat} {S : SS} {Q : KQ} {E : Exn → SS → Prop} (h1 : OkB N l) (h2 : N ≤ 15000000) (h3 : Sm 15000000 w) : sp_is_there [tB l, tR w] S Q E ↔ Q (.bl (isTh l w)) S := ⟨fun ⟨_, _, _, e, _, _, _, h⟩ => by simp only [List.cons.injEq, tR_inj, tB_inj, and_true] at e; obtain ⟨rfl, rfl⟩ := e; exact h, fun h => ⟨l, w, N, rfl, h1, h2, h3, h⟩⟩
def b_is_there (W : XW) : DS :=
  (seqD
    (retD (andE (notE (callF sp_is_less W (consA (rdD 1) (consA (cD (.tup [(.int 0), (.int 1)])) nilA)))) (notE (callF sp_is_less W (consA (callF sp_water_of W (consA (rdD 0) nilA)) (consA (rdD 1) nilA))))))
  nextD)
theorem law_is_there {ts : List T} {S : SS} {Q : KQ} {E : Exn → SS → Prop} (h : sp_is_there ts S Q E) : b_is_there (fun x _ S' => E x S') { nx := fun _ S' => Q .non S', rt := Q } (start' 2 ts) S := by
  obtain ⟨l, w, N, rfl, h1, h2, h3, h⟩ := h
  have hs := h1.sum
  unfold isTh at h
  unfold b_is_there start'
  by_cases c : w < 0
  · simp -implicitDefEqProofs [tR0, ap_is_lessG (Sz.mk h3 Sm0 (by decide)), c] at h ⊢
    exact h
  · simp -implicitDefEqProofs [tR0, ap_is_lessG (Sz.mk h3 Sm0 (by decide)), c] at h ⊢
    refine water_apB (by have := h1.2.2; omega) (h1.2.1.mono (by omega)) ?_
    simp -implicitDefEqProofs [ap_is_lessG (Sz.mk hs h3 (by omega))]
    exact h
def sp_need_water : TSp := fun ts S Q E => ∃ (l : List Lay) (w : Rat) (N : Nat), ts = [tB l, tR w] ∧ OkB N l ∧ N ≤ 15000000 ∧ Sm 15000000 w ∧ (isTh l w = true → Q .non S) ∧ (isTh l w = false → E ⟨"NoWater", none⟩ S)
theorem len_need_water (ts S Q E) (h : sp_need_water ts S Q E) : ts.length = 2 := by obtain ⟨_, _, _, rfl, _⟩ := h; rfl
def b_need_water (W : XW) : DS :=
  (seqD
    (ifD (notT (truD (callF sp_is_there W (consA (rdD 0) (consA (rdD 1) nilA)))))
      (seqD
        (raiseD W "NoWater" (cD (.str "no amount of water that is there")))
      nextD)
      nextD)
  nextD)
theorem law_need_water {ts : List T} {S : SS} {Q : KQ} {E : Exn → SS → Prop} (h : sp_need_water ts S Q E) : b_need_water (fun x _ S' => E x S') { nx := fun _ S' => Q .non S', rt := Q } (start' 2 ts) S := by
  obtain ⟨l, w, N, rfl, h1, h2, h3, h, he⟩ := h
  unfold b_need_water start'
  simp -implicitDefEqProofs [ap_is_there h1 h2 h3]
  cases c : isTh l w with
  | true => simpa using h c
  | false => simpa using he c
def drw (l : List Lay) (w : Rat) : List Lay := tk (wet l) w
def skm (l : List Lay) (w : Rat) : List Lay := (tk (wet l).reverse w).reverse
def drl (l : List Lay) (w : Rat) : List Lay := fal l ++ lf (wet l) w
def skl (l : List Lay) (w : Rat) : List Lay := fal l ++ (lf (wet l).reverse w).reverse
def spDr (f g : List Lay → Rat → List Lay) : TSp := fun ts S Q E => ∃ (l : List Lay) (w : Rat) (k N : Nat), ts = [tB l, tR w] ∧ OkB N l ∧ Sm k w ∧ k + N ≤ 15000000 ∧ ∀ S', Ext S S' → Q (.tup [tB (f l w), tB (g l w)]) S'
def sp_drawn_of : TSp := spDr drw drl
def sp_skimmed_of : TSp := spDr skm skl
theorem len_drawn_of (ts S Q E) (h : sp_drawn_of ts S Q E) : ts.length = 2 := by obtain ⟨_, _, _, _, rfl, _⟩ := h; rfl
theorem len_skimmed_of (ts S Q E) (h : sp_skimmed_of ts S Q E) : ts.length = 2 := by obtain ⟨_, _, _, _, rfl, _⟩ := h; rfl
theorem drawn_of_ap {l : List Lay} {w : Rat} {k N : Nat} {S : SS} {Q : KQ} {E : Exn → SS → Prop} (h1 : OkB N l) (h2 : Sm k w) (h3 : k + N ≤ 15000000) (h : ∀ S', Ext S S' → Q (.tup [tB (drw l w), tB (drl l w)]) S') : sp_drawn_of [tB l, tR w] S Q E := ⟨l, w, k, N, rfl, h1, h2, h3, h⟩
theorem skimmed_of_ap {l : List Lay} {w : Rat} {k N : Nat} {S : SS} {Q : KQ} {E : Exn → SS → Prop} (h1 : OkB N l) (h2 : Sm k w) (h3 : k + N ≤ 15000000) (h : ∀ S', Ext S S' → Q (.tup [tB (skm l w), tB (skl l w)]) S') : sp_skimmed_of [tB l, tR w] S Q E := ⟨l, w, k, N, rfl, h1, h2, h3, h⟩
def b_drawn_of (W : XW) : DS :=
  (seqD
    (asgD (callF sp_first_taken W (consA (callF sp_wet_layers W (consA (rdD 0) nilA)) (consA (rdD 1) nilA))) (.tp (.cons (.nm 2) (.cons (.nm 3) .nil))))
  (seqD
    (retD (tupD (consA (callB tupleTR (consA (rdD 2) nilA)) (consA (callB tupleTR (consA (opD (binR false .Add) (callF sp_fallen_layers W (consA (rdD 0) nilA)) (rdD 3)) nilA)) nilA))))
  nextD))
def b_skimmed_of (W : XW) : DS :=
  (seqD
    (asgD (callF sp_first_taken W (consA (revR false (callF sp_wet_layers W (consA (rdD 0) nilA))) (consA (rdD 1) nilA))) (.tp (.cons (.nm 2) (.cons (.nm 3) .nil))))
  (seqD
    (retD (tupD (consA (callB tupleTR (consA (revR false (rdD 2)) nilA)) (consA (callB tupleTR (consA (opD (binR false .Add) (callF sp_fallen_layers W (consA (rdD 0) nilA)) (revR false (rdD 3))) nilA)) nilA))))
  nextD))
theorem q_tupRef {S : SS} {Q : KQ} {a : Addr} {l : List T} (h : S a = some (.lst l)) : tupleTR [.ref a] S Q = Q (.tup l) S := by
  show (match sqOf S (.ref a) with
    | some l => Q (.tup l) S
    | none => False) = _
  simp only [sqOf, h]
theorem q_addLRef {mu : Bool} {a b : List T} {p : Addr} {S : SS} {Q : KQ} (h : S p = some (.lst b)) : binR mu .Add (.lst a) (.ref p) S Q = (a.length + b.length ≤ sizeLine ∧ newL mu (a ++ b) S Q) := by
  show addR mu (.lst a) (.ref p) S Q = _
  unfold addR lsOf
  simp only [h]
theorem wet_nz (l : List Lay) : ∀ x, x ∈ wet l → x.1 ≠ 0 := fun x hx => by simpa using (List.mem_filter.mp hx).2
theorem wet_sm {n : Nat} {l : List Lay} (h : SmL n l) : SmL n (wet l) := fun x hx => h x (List.mem_filter.mp hx).1
theorem law_drawn_of {ts : List T} {S : SS} {Q : KQ} {E : Exn → SS → Prop} (h : sp_drawn_of ts S Q E) : b_drawn_of (fun x _ S' => E x S') { nx := fun _ S' => Q .non S', rt := Q } (start' 4 ts) S := by
  obtain ⟨l, w, k, N, rfl, h1, h3, h5, h⟩ := h
  have h2 := h1.2.2
  have hw : (wet l).length ≤ 140 := Nat.le_trans (List.length_filter_le _ _) h2
  have hf : (fal l).length ≤ 140 := Nat.le_trans (List.length_filter_le _ _) h2
  have hl := lf_len (wet l) w
  unfold b_drawn_of start'
  simp -implicitDefEqProofs
  refine wet_ap (by omega) ?_
  try simp -implicitDefEqProofs
  refine first_ap (h1.filt _) (wet_nz l) h3 h5 fun a b S' e1 e2 e3 => ?_
  simp -implicitDefEqProofs [q_tupRef e1]
  refine fallen_ap (by omega) ?_
  simp -implicitDefEqProofs [q_addLRef e2]
  refine ⟨by omega, ?_⟩
  have ez : (fal l).map tL ++ (lf (wet l) w).map tL = (drl l w).map tL := by unfold drl; rw [List.map_append]
  rw [ez]
  exact h S' e3
theorem law_skimmed_of {ts : List T} {S : SS} {Q : KQ} {E : Exn → SS → Prop} (h : sp_skimmed_of ts S Q E) : b_skimmed_of (fun x _ S' => E x S') { nx := fun _ S' => Q .non S', rt := Q } (start' 4 ts) S := by
  obtain ⟨l, w, k, N, rfl, h1, h3, h5, h⟩ := h
  have h2 := h1.2.2
  have hw : (wet l).length ≤ 140 := Nat.le_trans (List.length_filter_le _ _) h2
  have hf : (fal l).length ≤ 140 := Nat.le_trans (List.length_filter_le _ _) h2
  have hl := lf_len (wet l).reverse w
  rw [List.length_reverse] at hl
  unfold b_skimmed_of start'
  simp -implicitDefEqProofs
  refine wet_ap (by omega) ?_
  simp -implicitDefEqProofs [tB]
  rw [← List.map_reverse]
  refine first_ap (l := (wet l).reverse) (OkB.rev (h1.filt _)) (fun x hx => wet_nz l x (List.mem_reverse.mp hx)) h3 h5 fun a b S' e1 e2 e3 => ?_
  simp -implicitDefEqProofs [lsOf, e1, e2]
  refine fallen_ap (by omega) ?_
  simp -implicitDefEqProofs [lsOf, e1, e2]
  refine ⟨by omega, ?_⟩
  have ez : (fal l).map tL ++ ((lf (wet l).reverse w).map tL).reverse = (skl l w).map tL := by unfold skl; rw [List.map_append, List.map_reverse]
  have ey : ((tk (wet l).reverse w).map tL).reverse = (skm l w).map tL := by unfold skm; rw [List.map_reverse]
  rw [ez, ey]
  exact h S' e3
def spDrN (f g : List Lay → Rat → List Lay) : TSp := fun ts S Q E => ∃ (l : List Lay) (w : Rat) (k N : Nat), ts = [tB l, tR w] ∧ OkB N l ∧ k + N ≤ 15000000 ∧ Sm 15000000 w ∧ (isTh l w = true → Sm k w ∧ ∀ S', Ext S S' → Q (.tup [tB (f l w), tB (g l w)]) S') ∧ (isTh l w = false → E ⟨"NoWater", none⟩ S)
theorem spDrN_ap {f g : List Lay → Rat → List Lay} {l : List Lay} {w : Rat} {k N : Nat} {S : SS} {Q : KQ} {E : Exn → SS → Prop} (h1 : OkB N l) (h2 : k + N ≤ 15000000) (h3 : Sm 15000000 w) (h : isTh l w = true → Sm k w ∧ ∀ S', Ext S S' → Q (.tup [tB (f l w), tB (g l w)]) S') (he : isTh l w = false → E ⟨"NoWater", none⟩ S) : spDrN f g [tB l, tR w] S Q E := ⟨l, w, k, N, rfl, h1, h2, h3, h, he⟩
def sp_drawn : TSp := spDrN drw drl
def sp_skimmed : TSp := spDrN skm skl
theorem len_drawn (ts S Q E) (h : sp_drawn ts S Q E) : ts.length = 2 := by obtain ⟨_, _, _, _, rfl, _⟩ := h; rfl
theorem len_skimmed (ts S Q E) (h : sp_skimmed ts S Q E) : ts.length = 2 := by obtain ⟨_, _, _, _, rfl, _⟩ := h; rfl
def b_drawn (W : XW) : DS :=
  (seqD
    (dropD (callF sp_need_water W (consA (rdD 0) (consA (rdD 1) nilA))))
  (seqD
    (retD (callF sp_drawn_of W (consA (rdD 0) (consA (rdD 1) nilA))))
  nextD))
def b_skimmed (W : XW) : DS :=
  (seqD
    (dropD (callF sp_need_water W (consA (rdD 0) (consA (rdD 1) nilA))))
  (seqD
    (retD (callF sp_skimmed_of W (consA (rdD 0) (consA (rdD 1) nilA))))
  nextD))
theorem law_drawn {ts : List T} {S : SS} {Q : KQ} {E : Exn → SS → Prop} (h : sp_drawn ts S Q E) : b_drawn (fun x _ S' => E x S') { nx := fun _ S' => Q .non S', rt := Q } (start' 2 ts) S := by
  obtain ⟨l, w, k, N, rfl, h1, h2, h3, h, he⟩ := h
  unfold b_drawn start'
  simp -implicitDefEqProofs
  refine ⟨l, w, N, rfl, h1, by omega, h3, fun c => ?_, he⟩
  simp -implicitDefEqProofs
  exact drawn_of_ap h1 (h c).1 h2 (h c).2
theorem law_skimmed {ts : List T} {S : SS} {Q : KQ} {E : Exn → SS → Prop} (h : sp_skimmed ts S Q E) : b_skimmed (fun x _ S' => E x S') { nx := fun _ S' => Q .non S', rt := Q } (start' 2 ts) S := by
  obtain ⟨l, w, k, N, rfl, h1, h2, h3, h, he⟩ := h
  unfold b_skimmed start'
  simp -implicitDefEqProofs
  refine ⟨l, w, N, rfl, h1, by omega, h3, fun c => ?_, he⟩
  simp -implicitDefEqProofs
  exact skimmed_of_ap h1 (h c).1 h2 (h c).2
/-! ### the salt of what is taken -/
theorem tk_zero : ∀ l : List Lay, (∀ x, x ∈ l → 0 < x.1) → tk l 0 = []
  | [], _ => rfl
  | x :: l, h => by
    have hx := h x List.mem_cons_self
    have e : mnR 0 x.1 = 0 := by unfold mnR; rw [if_neg (by grind)]
    unfold tk
    rw [e, if_pos rfl, List.nil_append]
    have : (0 : Rat) - 0 = 0 := by grind
    rw [this]
    exact tk_zero l fun y hy => h y (List.mem_cons_of_mem _ hy)
theorem tk_bud : ∀ (l : List Lay) (w : Rat) (k : Nat), (∀ x, x ∈ l → 0 < x.1) → SmL 30 l → Sm k w → Bud (31 * l.length + (k + 31 * l.length) + 61) ((tk l w).map (·.2))
  | [], _, _, _, _, _ => trivial
  | x :: l, w, k, h, hs, hw => by
    have hx := h x List.mem_cons_self
    obtain ⟨s1, s2⟩ := hs x List.mem_cons_self
    have hl : ∀ y, y ∈ l → 0 < y.1 := fun y hy => h y (List.mem_cons_of_mem _ hy)
    have hsl : SmL 30 l := fun y hy => hs y (List.mem_cons_of_mem _ hy)
    rw [List.length_cons]
    unfold tk
    by_cases c : x.1 < w
    · have e : mnR w x.1 = x.1 := by unfold mnR; rw [if_pos c]
      have x0 : x.1 ≠ 0 := by grind
      have ih := tk_bud l (w - x.1) (k + 30 + 1) hl hsl (hw.sub s1)
      rw [e, if_neg x0]
      have e2 : x.2 * x.1 / x.1 = x.2 := Rat.mul_div_cancel x0
      rw [e2]
      show Bud _ (x.2 :: (tk l (w - x.1)).map (·.2))
      exact ⟨30, s2, by omega, ih.mono (by omega)⟩
    · have e : mnR w x.1 = w := by unfold mnR; rw [if_neg c]
      have ew : w - w = 0 := by grind
      rw [e, ew, tk_zero l hl, List.append_nil]
      by_cases c0 : w = 0
      · rw [if_pos c0]; trivial
      · rw [if_neg c0]
        have x0 : x.1 ≠ 0 := by grind
        exact ⟨30 + k + 30, (s2.mul hw).div s1 x0, by omega, trivial⟩
theorem wet_pos {l : List Lay} (h : ∀ x, x ∈ l → 0 ≤ x.1) : ∀ x, x ∈ wet l → 0 < x.1 := fun x hx => by
  have h1 := h x (List.mem_filter.mp hx).1
  have h2 := wet_nz l x hx
  grind
theorem drw_bud {l : List Lay} {w : Rat} (h : ∀ x, x ∈ l → 0 ≤ x.1) (hs : SmL 30 l) (hl : l.length ≤ 40) (hw : Sm 60 w) : Bud 3000 ((drw l w).map (·.2)) := by
  have h40 : (wet l).length ≤ 40 := Nat.le_trans (List.length_filter_le _ _) hl
  exact (tk_bud (wet l) w 60 (wet_pos h) (wet_sm hs) hw).mono (by omega)
theorem skm_bud {l : List Lay} {w : Rat} (h : ∀ x, x ∈ l → 0 ≤ x.1) (hs : SmL 30 l) (hl : l.length ≤ 40) (hw : Sm 60 w) : Bud 3000 ((skm l w).map (·.2)) := by
  have h40 : (wet l).length ≤ 40 := Nat.le_trans (List.length_filter_le _ _) hl
  unfold skm
  rw [List.map_reverse]
  refine Bud.rev ?_
  refine (tk_bud (wet l).reverse w 60 (fun x hx => wet_pos h x (List.mem_reverse.mp hx)) (fun x hx => wet_sm hs x (List.mem_reverse.mp hx)) hw).mono ?_
  rw [List.length_reverse]; omega
def slt (l : List Lay) : Rat := rsum (l.map (·.2))
def mayT (l : List Lay) (w s : Rat) : Bool := isTh l w && (!decide (s < slt (skm l w)) && !decide (slt (drw l w) < s))
def sp_may_take : TSp := fun ts S Q E => ∃ (l : List Lay) (w s : Rat), ts = [tB l, tR w, tR s] ∧ SmL 30 l ∧ l.length ≤ 40 ∧ (∀ x, x ∈ l → 0 ≤ x.1) ∧ Sm 15000000 w ∧ (isTh l w = true → Sm 60 w) ∧ Sm 15000000 s ∧ ∀ S', Ext S S' → Q (.bl (mayT l w s)) S'
theorem len_may_take (ts S Q E) (h : sp_may_take ts S Q E) : ts.length = 3 := by obtain ⟨_, _, _, rfl, _⟩ := h; rfl
theorem may_take_ap {l : List Lay} {w s : Rat} {S : SS} {Q : KQ} {E : Exn → SS → Prop} (h1 : SmL 30 l) (h2 : l.length ≤ 40) (h3 : ∀ x, x ∈ l → 0 ≤ x.1) (h4 : Sm 15000000 w) (h5 : isTh l w = true → Sm 60 w) (h6 : Sm 15000000 s) (h : ∀ S', Ext S S' → Q (.bl (mayT l w s)) S') : sp_may_take [tB l, tR w, tR s] S Q E := ⟨l, w, s, rfl, h1, h2, h3, h4, h5, h6, h⟩
def b_may_take (W : XW) : DS :=
  (seqD
    (ifD (notT (truD (callF sp_is_there W (consA (rdD 0) (consA (rdD 1) nilA)))))
      (seqD
        (retD (cD (.bl false)))
      nextD)
      nextD)
  (seqD
    (asgD (tupD (consA (callF sp_salt_of W (consA (opD ixR (callF sp_skimmed_of W (consA (rdD 0) (consA (rdD 1) nilA))) (cD (.int 0))) nilA)) (consA (callF sp_salt_of W (consA (opD ixR (callF sp_drawn_of W (consA (rdD 0) (consA (rdD 1) nilA))) (cD (.int 0))) nilA)) nilA))) (.tp (.cons (.nm 3) (.cons (.nm 4) .nil))))
  (seqD
    (retD (andE (notE (callF sp_is_less W (consA (rdD 2) (consA (rdD 3) nilA)))) (notE (callF sp_is_less W (consA (rdD 4) (consA (rdD 2) nilA))))))
  nextD)))
theorem drw_len (l : List Lay) (w : Rat) : (drw l w).length ≤ l.length := Nat.le_trans (tk_len _ _) (List.length_filter_le _ _)
theorem skm_len (l : List Lay) (w : Rat) : (skm l w).length ≤ l.length := by
  unfold skm
  rw [List.length_reverse]
  refine Nat.le_trans (tk_len _ _) ?_
  rw [List.length_reverse]; exact List.length_filter_le _ _
theorem slt_sm {l : List Lay} {N : Nat} (h : Bud N (l.map (·.2))) : Sm (1 + N) (slt l) := Bud.sm h Sm0
theorem law_may_take {ts : List T} {S : SS} {Q : KQ} {E : Exn → SS → Prop} (h : sp_may_take ts S Q E) : b_may_take (fun x _ S' => E x S') { nx := fun _ S' => Q .non S', rt := Q } (start' 5 ts) S := by
  obtain ⟨l, w, s, rfl, h1, h2, h3, h4, h5, h6, h⟩ := h
  unfold mayT at h
  unfold b_may_take start'
  have ob : OkB (31 * 40) l := OkB.uni h1 (by decide) (by omega) (by omega)
  simp -implicitDefEqProofs [ap_is_there ob (by decide) h4]
  cases c : isTh l w with
  | false =>
    rw [c] at h
    simpa using h S Ext.refl
  | true =>
    rw [c, Bool.true_and] at h
    have h5 := h5 c
    have b1 := skm_bud h3 h1 h2 h5
    have b2 := drw_bud h3 h1 h2 h5
    have l1 := skm_len l w
    have l2 := drw_len l w
    have y1 := slt_sm b1
    have y2 := slt_sm b2
    simp -implicitDefEqProofs
    refine skimmed_of_ap ob h5 (by decide) fun S1 x1 => ?_
    simp -implicitDefEqProofs
    refine salt_apB (by omega) (b1.mono (by decide)) ?_
    refine drawn_of_ap ob h5 (by decide) fun S2 x2 => ?_
    simp -implicitDefEqProofs
    refine salt_apB (by omega) (b2.mono (by decide)) ?_
    have h := h S2 (x1.trans x2)
    show sp_is_less [tR s, tR (slt (skm l w))] S2 _ _
    rw [ap_is_lessG (Sz.mk h6 y1 (by decide))]
    simp -implicitDefEqProofs
    by_cases k1 : s < slt (skm l w)
    · simpa [k1] using h
    · simp -implicitDefEqProofs only [k1, decide_false, Bool.not_false]
      show sp_is_less [tR (slt (drw l w)), tR s] S2 _ _
      rw [ap_is_lessG (Sz.mk y2 h6 (by decide))]
      simpa [k1] using h
end TL

set_option Elab.async false
set_option linter.all false
set_option maxRecDepth 100000
set_option maxHeartbeats 4000000
set_option autoImplicit false
/-! TLA: layers laid, joined, shared; what a brine is known by. -/
namespace TL
open PySem PySem.Spec PyProof.Rows L2
/-! ### what a layer weighs -/
def szR (q : Rat) : Nat := max (Nat.log2 q.num.natAbs) (Nat.log2 q.den) + 1
theorem szR_sm (q : Rat) : Sm (szR q) q := by
  unfold szR
  exact ⟨Nat.lt_of_lt_of_le Nat.lt_log2_self (Nat.pow_le_pow_right (by decide) (by omega)), Nat.lt_of_lt_of_le Nat.lt_log2_self (Nat.pow_le_pow_right (by decide) (by omega))⟩
theorem szR_le {n : Nat} {q : Rat} (h : Sm n q) : szR q ≤ n := by
  unfold szR
  have hd := q.den_nz
  have h2 := (Nat.log2_lt hd).mpr h.2
  have h1 : Nat.log2 q.num.natAbs < n := by
    by_cases c : q.num.natAbs = 0
    · rw [c]; simp; omega
    · exact (Nat.log2_lt c).mpr h.1
  omega
def szL (x : Lay) : Nat := max (szR x.1) (szR x.2)
theorem szL_le {n : Nat} {x : Lay} (h : Sm n x.1 ∧ Sm n x.2) : szL x ≤ n := by
  have := szR_le h.1
  have := szR_le h.2
  unfold szL; omega
theorem szL_sm (x : Lay) : Sm (szL x) x.1 ∧ Sm (szL x) x.2 := by
  unfold szL
  exact ⟨(szR_sm _).mono (by omega), (szR_sm _).mono (by omega)⟩
def addL (x y : Lay) : Lay := (x.1 + y.1, x.2 + y.2)
theorem szL_add (x y : Lay) : szL (addL x y) ≤ szL x + szL y + 1 := szL_le ⟨(szL_sm x).1.add (szL_sm y).1, (szL_sm x).2.add (szL_sm y).2⟩
def wt (L : List Lay) : Nat := (L.map fun x => szL x + 1).sum
theorem wt_cons {x : Lay} {L : List Lay} : wt (x :: L) = szL x + 1 + wt L := by simp [wt]
theorem wt_app {L M : List Lay} : wt (L ++ M) = wt L + wt M := by simp [wt]
theorem wt_uni {n : Nat} : ∀ {L : List Lay}, SmL n L → wt L ≤ (n + 1) * L.length
  | [], _ => by simp [wt]
  | x :: L, h => by
    have := szL_le (h x List.mem_cons_self)
    have := wt_uni (L := L) fun y hy => h y (List.mem_cons_of_mem _ hy)
    rw [wt_cons, List.length_cons, Nat.mul_succ]; omega
theorem wt_mem : ∀ {L : List Lay} {x : Lay}, x ∈ L → szL x + 1 ≤ wt L
  | y :: L, x, h => by
    rw [wt_cons]
    rcases List.mem_cons.mp h with rfl | h
    · omega
    · have := wt_mem h; omega
theorem wt_sm {L : List Lay} {n : Nat} (h : wt L ≤ n) : SmL n L := fun x hx => by
  have := wt_mem hx
  exact ⟨(szL_sm x).1.mono (by omega), (szL_sm x).2.mono (by omega)⟩
theorem wt_bud1 : ∀ {L : List Lay} {n : Nat}, wt L ≤ n → Bud n (L.map (·.1))
  | [], _, _ => trivial
  | x :: L, n, h => by
    rw [wt_cons] at h
    exact ⟨szL x, (szL_sm x).1, by omega, wt_bud1 (by omega)⟩
theorem wt_bud2 : ∀ {L : List Lay} {n : Nat}, wt L ≤ n → Bud n (L.map (·.2))
  | [], _, _ => trivial
  | x :: L, n, h => by
    rw [wt_cons] at h
    exact ⟨szL x, (szL_sm x).2, by omega, wt_bud2 (by omega)⟩
theorem wt_len : ∀ {L : List Lay}, L.length ≤ wt L
  | [] => by simp
  | x :: L => by have := wt_len (L := L); rw [wt_cons, List.length_cons]; omega
theorem wt_filt (g : Lay → Bool) : ∀ {L : List Lay}, wt (L.filter g) ≤ wt L
  | [] => by simp
  | x :: L => by
    have := wt_filt g (L := L)
    rw [wt_cons, List.filter_cons]
    split
    · rw [wt_cons]; omega
    · omega

/-! ### one layer laid into a row -/
def plc (L : List Lay) (x : Lay) : Nat := (L.filter fun o => strg o x).length
def lin (L : List Lay) (x : Lay) : List Lay := match L[plc L x]? with
  | some y => if strg x y = true then L.take (plc L x) ++ [x] ++ L.drop (plc L x) else L.set (plc L x) (addL y x)
  | none => L.take (plc L x) ++ [x] ++ L.drop (plc L x)
theorem set_at {α : Type} {L : List α} {k : Nat} {y z : α} (h : L[k]? = some y) : L = L.take k ++ y :: L.drop (k + 1) ∧ L.set k z = L.take k ++ z :: L.drop (k + 1) := by
  obtain ⟨hk, rfl⟩ := List.getElem?_eq_some_iff.mp h
  refine ⟨by rw [← List.drop_eq_getElem_cons hk, List.take_append_drop], ?_⟩
  rw [List.set_eq_take_append_cons_drop, if_pos hk]
theorem wt_td (L : List Lay) (k : Nat) : wt (L.take k) + wt (L.drop k) = wt L := by rw [← wt_app, List.take_append_drop]
theorem wt_lin (L : List Lay) (x : Lay) : wt (lin L x) ≤ wt L + szL x + 1 := by
  have ins : wt (L.take (plc L x) ++ [x] ++ L.drop (plc L x)) ≤ wt L + szL x + 1 := by
    have := wt_td L (plc L x)
    have e : wt [x] = szL x + 1 := by simp [wt]
    rw [wt_app, wt_app]; omega
  unfold lin
  split
  · rename_i y hy
    split
    · exact ins
    · obtain ⟨e1, e2⟩ := set_at (z := addL y x) hy
      rw [e2, wt_app, wt_cons]
      have := szL_add y x
      have e3 : wt L = wt (L.take (plc L x)) + (szL y + 1 + wt (L.drop (plc L x + 1))) := by
        rw [← wt_cons, ← wt_app, ← e1]
      omega
  · exact ins
theorem len_lin (L : List Lay) (x : Lay) : (lin L x).length ≤ L.length + 1 := by
  unfold lin
  split
  · split
    · simp; omega
    · simp
  · simp; omega
def al (M : List Lay) : List Lay := M.foldl lin []
theorem wt_fold : ∀ (M L : List Lay), wt (M.foldl lin L) ≤ wt L + wt M
  | [], L => by simp [wt]
  | x :: M, L => by
    have := wt_fold M (lin L x)
    have := wt_lin L x
    rw [List.foldl_cons, wt_cons]; omega
theorem len_fold : ∀ (M L : List Lay), (M.foldl lin L).length ≤ L.length + M.length
  | [], L => by simp
  | x :: M, L => by
    have := len_fold M (lin L x)
    have := len_lin L x
    rw [List.foldl_cons, List.length_cons]; omega
theorem wt_al (M : List Lay) : wt (al M) ≤ wt M := by
  have := wt_fold M []
  have e : wt ([] : List Lay) = 0 := rfl
  unfold al; omega
theorem len_al (M : List Lay) : (al M).length ≤ M.length := by
  have := len_fold M []
  unfold al; simp at this; omega
theorem Sm1 : Sm 1 1 := ⟨by decide +kernel, by decide +kernel⟩
/-! ### the walks -/
theorem aq_len {p : Addr} {l : List T} {S : SS} {Q : KQ} (h : S p = some (.lst l)) : lenR [.ref p] S Q = Q (.int l.length) S := by
  unfold lenR sqOf
  simp only [h]
theorem aq_ins {p : Addr} {l : List T} {y : T} {k : Nat} {S : SS} {Q : KQ} (h : S p = some (.lst l)) : insertR (.ref p) [.int k, y] S Q = (l.length < sizeLine ∧ (0 : Int) ≤ k ∧ (k : Int) < 2 ^ 63 ∧ Q .non (supd S p (.lst (l.take k ++ [y] ++ l.drop k)))) := by
  unfold insertR stL
  simp only [h, Int.toNat_natCast]
theorem aty_ref {S : SS} {a : Addr} {l : List T} (h : S a = some (.lst l)) : tyT S "list" (.ref a) := .inl ⟨rfl, by unfold isLs lsOf; simp only [h]⟩
def sp_place_in : TSp := fun ts S Q E => ∃ (p : Addr) (L : List Lay) (x : Lay), ts = [.ref p, tL x] ∧ S p = some (.lst (L.map tL)) ∧ SmL 9000000 L ∧ (Sm 9000000 x.1 ∧ Sm 9000000 x.2) ∧ L.length ≤ 1000 ∧ Q (.int (plc L x)) S
theorem len_place_in (ts S Q E) (h : sp_place_in ts S Q E) : ts.length = 2 := by obtain ⟨_, _, _, rfl, _⟩ := h; rfl
theorem place_ap {p : Addr} {L : List Lay} {x : Lay} {S : SS} {Q : KQ} {E : Exn → SS → Prop} (hS : S p = some (.lst (L.map tL))) (h1 : SmL 9000000 L) (h2 : Sm 9000000 x.1 ∧ Sm 9000000 x.2) (h3 : L.length ≤ 1000) (h : Q (.int (plc L x)) S) : sp_place_in [.ref p, tL x] S Q E := ⟨p, L, x, rfl, hS, h1, h2, h3, h⟩
def b_place_in (W : XW) : DS :=
  (seqD
    (retD (callB lenR (consA (lcD false [2] (seqI (rdD 0)) (.nm 2) (truD (callF sp_is_stronger noW (consA (rdD 2) (consA (rdD 1) nilA)))) (cD (.int 1))) nilA)))
  nextD)
theorem law_place_in {ts : List T} {S : SS} {Q : KQ} {E : Exn → SS → Prop} (h : sp_place_in ts S Q E) : b_place_in (fun x _ S' => E x S') { nx := fun _ S' => Q .non S', rt := Q } (start' 3 ts) S := by
  obtain ⟨p, L, x, rfl, hS, h1, h2, h3, h⟩ := h
  unfold b_place_in start'
  simp -implicitDefEqProofs [sqOf, hS]
  refine lcL_genC (chk_ref hS) (l := L) (emb := tL) (g := fun o => strg o x) (f := fun _ => .int 1) (fun y hy => ⟨_, rfl, fun QT k => ?_, fun _ K k => ?_⟩) (by simp; omega) ?_
  · simp -implicitDefEqProofs [ap_is_stronger (h1 y hy) h2]
    exact k
  · simpa using k
  · simp -implicitDefEqProofs only [List.nil_append, q_newF, q_lenL, List.length_map]
    exact h
def sp_laid_in : TSp := fun ts S Q E => ∃ (p : Addr) (L : List Lay) (x : Lay), ts = [.ref p, tL x] ∧ S p = some (.lst (L.map tL)) ∧ SmL 9000000 L ∧ (Sm 9000000 x.1 ∧ Sm 9000000 x.2) ∧ L.length ≤ 1000 ∧ Q .non (supd S p (.lst ((lin L x).map tL)))
theorem len_laid_in (ts S Q E) (h : sp_laid_in ts S Q E) : ts.length = 2 := by obtain ⟨_, _, _, rfl, _⟩ := h; rfl
theorem laid_in_ap {p : Addr} {L : List Lay} {x : Lay} {S : SS} {Q : KQ} {E : Exn → SS → Prop} (hS : S p = some (.lst (L.map tL))) (h1 : SmL 9000000 L) (h2 : Sm 9000000 x.1 ∧ Sm 9000000 x.2) (h3 : L.length ≤ 1000) (h : Q .non (supd S p (.lst ((lin L x).map tL)))) : sp_laid_in [.ref p, tL x] S Q E := ⟨p, L, x, rfl, hS, h1, h2, h3, h⟩
def b_laid_in (W : XW) : DS :=
  (seqD
    (asgD (callF sp_place_in W (consA (rdD 0) (consA (rdD 1) nilA))) (.nm 2))
  (seqD
    (ifD (andT (tstD (opD (cmpR .Lt) (rdD 2) (callB lenR (consA (rdD 0) nilA)))) (notT (truD (callF sp_is_stronger W (consA (rdD 1) (consA (opD ixR (rdD 0) (rdD 2)) nilA))))))
      (seqD
        (subAsg (tupD (consA (callF sp_plus W (consA (opD ixR (opD ixR (rdD 0) (rdD 2)) (cD (.int 0))) (consA (opD ixR (rdD 1) (cD (.int 0))) nilA))) (consA (callF sp_plus W (consA (opD ixR (opD ixR (rdD 0) (rdD 2)) (cD (.int 1))) (consA (opD ixR (rdD 1) (cD (.int 1))) nilA))) nilA))) (rdD 0) (rdD 2))
      nextD)
      (seqD
        (dropD (methD "list" insertR (rdD 0) (consA (rdD 2) (consA (rdD 1) nilA))))
      nextD))
  nextD))
theorem law_laid_in {ts : List T} {S : SS} {Q : KQ} {E : Exn → SS → Prop} (h : sp_laid_in ts S Q E) : b_laid_in (fun x _ S' => E x S') { nx := fun _ S' => Q .non S', rt := Q } (start' 3 ts) S := by
  obtain ⟨p, L, x, rfl, hS, h1, h2, h3, h⟩ := h
  have hk : plc L x ≤ L.length := List.length_filter_le _ _
  have hs : sizeLine = 16777216 := rfl
  have ins : lin L x = L.take (plc L x) ++ [x] ++ L.drop (plc L x) → insertR (.ref p) [.int (plc L x), tL x] S Q := fun e => by
    rw [aq_ins hS, List.length_map]
    refine ⟨by omega, by omega, by omega, ?_⟩
    rw [e] at h
    simpa [List.map_take, List.map_drop] using h
  unfold b_laid_in start'
  simp -implicitDefEqProofs
  refine place_ap hS h1 h2 h3 ?_
  generalize hpe : plc L x = k at hk ins
  simp -implicitDefEqProofs [aq_len hS]
  by_cases c : k < L.length
  · have ex : (L.map tL)[k]? = some (tL L[k]) := by simp [c]
    have ea : atI (L.map tL) (k : Int) = some (tL L[k]) := by rw [atI_nat (by omega), Int.toNat_natCast]; exact ex
    have eg : L[k]? = some L[k] := List.getElem?_eq_getElem c
    have hm := h1 _ (List.getElem_mem c)
    generalize L[k] = y at ea eg hm
    simp -implicitDefEqProofs [c, q_ixR hS, ea, ap_is_stronger h2 hm]
    have el : lin L x = if strg x y = true then L.take k ++ [x] ++ L.drop k else L.set k (addL y x) := by
      unfold lin; rw [hpe, eg]
    cases hg : strg x y with
    | true =>
      rw [hg, if_pos rfl] at el
      simp -implicitDefEqProofs
      exact ⟨aty_ref hS, ins el⟩
    | false =>
      rw [hg, if_neg (by decide)] at el
      have ei : ixN L.length (k : Int) = some k := by
        unfold ixN
        simp; omega
      simp -implicitDefEqProofs [q_ixR hS, ea, ap_plusG (Sz.mk hm.1 h2.1 (by decide)), ap_plusG (Sz.mk hm.2 h2.2 (by decide)), q_setR hS, ei]
      rw [el, List.map_set] at h
      exact h
  · have el : lin L x = L.take k ++ [x] ++ L.drop k := by
      unfold lin; rw [hpe, List.getElem?_eq_none (by omega)]
    simp -implicitDefEqProofs [c]
    exact ⟨aty_ref hS, ins el⟩
def sp_all_laid : TSp := fun ts S Q E => ∃ (M : List Lay), ts = [tB M] ∧ wt M ≤ 9000000 ∧ M.length ≤ 1000 ∧ ∀ S', Ext S S' → Q (tB (al M)) S'
theorem len_all_laid (ts S Q E) (h : sp_all_laid ts S Q E) : ts.length = 1 := by obtain ⟨_, rfl, _⟩ := h; rfl
theorem all_laid_ap {M : List Lay} {S : SS} {Q : KQ} {E : Exn → SS → Prop} (h1 : wt M ≤ 9000000) (h2 : M.length ≤ 1000) (h : ∀ S', Ext S S' → Q (tB (al M)) S') : sp_all_laid [tB M] S Q E := ⟨M, rfl, h1, h2, h⟩
def b_all_laid (W : XW) : DS :=
  (seqD
    (asgD (lstD true nilA) (.nm 1))
  (seqD
    (forD (seqI (rdD 0)) (.nm 2)
      (seqD
        (dropD (callF sp_laid_in W (consA (rdD 1) (consA (rdD 2) nilA))))
      nextD))
  (seqD
    (retD (callB tupleTR (consA (rdD 1) nilA)))
  nextD)))
theorem all_loop {D : Ends'} {S : SS} {E : Exn → SS → Prop} {row : T} {p : Addr} (hp : S p = none) : ∀ (M L : List Lay) (S' : SS) (x : Option T), wt L + wt M ≤ 9000000 → L.length + M.length ≤ 1000 → S' p = some (.lst (L.map tL)) → Ext S S' →
    (∀ S'' x, S'' p = some (.lst ((M.foldl lin L).map tL)) → Ext S S'' → D.nx [some row, some (.ref p), x] S'') →
    forL (fun _ => True) (.nm 2) (seqD (dropD (callF sp_laid_in (fun x _ S' => E x S') (consA (rdD 1) (consA (rdD 2) nilA)))) nextD) D (M.map tL) [some row, some (.ref p), x] S'
  | [], L, S', x, _, _, h1, h2, fin => ⟨trivial, fin _ _ h1 h2⟩
  | y :: M, L, S', x, hw, hl, h1, h2, fin => by
    rw [wt_cons] at hw
    rw [List.length_cons] at hl
    rw [List.map_cons, q_forL1]
    refine ⟨trivial, ?_⟩
    have w1 := wt_lin L y
    have w2 := len_lin L y
    have sy := szL_sm y
    have again : ∀ x, forL (fun _ => True) (.nm 2) (seqD (dropD (callF sp_laid_in (fun x _ S' => E x S') (consA (rdD 1) (consA (rdD 2) nilA)))) nextD) D (M.map tL) [some row, some (.ref p), x] (supd S' p (.lst ((lin L y).map tL))) := fun x =>
      all_loop hp M (lin L y) _ x (by omega) (by omega) supd_same (fun c o e => by
        have : c ≠ p := fun z => by subst z; rw [hp] at e; cases e
        rw [supd_ne this]; exact h2 c o e) fin
    simp -implicitDefEqProofs
    refine laid_in_ap h1 (wt_sm (by omega)) ⟨sy.1.mono (by omega), sy.2.mono (by omega)⟩ (by omega) ?_
    try simp -implicitDefEqProofs
    exact again _
theorem law_all_laid {ts : List T} {S : SS} {Q : KQ} {E : Exn → SS → Prop} (h : sp_all_laid ts S Q E) : b_all_laid (fun x _ S' => E x S') { nx := fun _ S' => Q .non S', rt := Q } (start' 3 ts) S := by
  obtain ⟨M, rfl, hw, hl, h⟩ := h
  unfold b_all_laid start'
  simp -implicitDefEqProofs
  intro p hp
  try simp -implicitDefEqProofs
  have e0 : wt ([] : List Lay) = 0 := rfl
  refine all_loop hp M [] (supd S p (.lst [])) none (by omega) (by simpa using hl) (by simp) (Ext.refl.new hp) fun S'' x h1 h2 => ?_
  simp -implicitDefEqProofs [tupleTR, sqOf, h1]
  exact h S'' h2
def sp_laid : TSp := fun ts S Q E => ∃ (f : Rat) (M : List Lay), ts = [tR f, tB M] ∧ Sm 5000000 f ∧ wt M ≤ 9000000 ∧ M.length ≤ 1000 ∧ (M.all (isLay f) = true → ∀ S', Ext S S' → Q (tB (al M)) S') ∧ (M.all (isLay f) = false → E ⟨"NoBrine", none⟩ S)
theorem len_laid (ts S Q E) (h : sp_laid ts S Q E) : ts.length = 2 := by obtain ⟨_, _, rfl, _⟩ := h; rfl
theorem laid_all_ap {f : Rat} {M : List Lay} {S : SS} {Q : KQ} {E : Exn → SS → Prop} (hf : Sm 5000000 f) (h1 : wt M ≤ 9000000) (h2 : M.length ≤ 1000) (hg : ∀ x, x ∈ M → isLay f x = true) (h : ∀ S', Ext S S' → Q (tB (al M)) S') : sp_laid [tR f, tB M] S Q E :=
  ⟨f, M, rfl, hf, h1, h2, fun _ => h, fun e => by rw [List.all_eq_true.mpr hg] at e; cases e⟩
def b_laid (W : XW) : DS :=
  (seqD
    (ifD (notT (truD (callB (allR fun bs => bs.all id) (consA (lcD false [2] (seqI (rdD 1)) (.nm 2) (fun _ S Q => Q true S) (callF sp_is_layer noW (consA (rdD 0) (consA (rdD 2) nilA)))) nilA))))
      (seqD
        (raiseD W "NoBrine" (cD (.str "no layer for the full strength")))
      nextD)
      nextD)
  (seqD
    (retD (callF sp_all_laid W (consA (rdD 1) nilA)))
  nextD))
theorem law_laid {ts : List T} {S : SS} {Q : KQ} {E : Exn → SS → Prop} (h : sp_laid ts S Q E) : b_laid (fun x _ S' => E x S') { nx := fun _ S' => Q .non S', rt := Q } (start' 3 ts) S := by
  obtain ⟨f, M, rfl, hf, hw, hl, h, he⟩ := h
  have hs := wt_sm hw
  unfold b_laid start'
  simp -implicitDefEqProofs
  refine lcL_gen (l := M) (emb := tL) (g := fun _ => true) (f := fun x => .bl (isLay f x)) (fun x hx => ⟨_, rfl, fun QT k => k, fun _ K k => ?_⟩) (by simp; omega) ?_
  · have := hs x hx
    simp -implicitDefEqProofs [ap_is_layer hf (this.1.mono (m := 20000000) (by decide)) (this.2.mono (m := 20000000) (by decide))]
    exact k
  · simp -implicitDefEqProofs only [filt_true, List.nil_append, q_newF]
    rw [all_ap]
    generalize M.all (isLay f) = c at h he
    cases c with
    | false =>
      simp -implicitDefEqProofs
      exact he rfl
    | true =>
      simp -implicitDefEqProofs
      exact all_laid_ap hw hl (h rfl)
theorem aq_addB {mu : Bool} {F G : List Lay} {S : SS} {Q : KQ} : binR mu .Add (tB F) (tB G) S Q = (F.length + G.length ≤ sizeLine ∧ Q (tB (F ++ G)) S) := by
  unfold tB
  rw [q_addT, List.length_map, List.length_map, ← List.map_append]
def sp_joined : TSp := fun ts S Q E => ∃ (F G : List Lay), ts = [tB F, tB G] ∧ wt F + wt G ≤ 9000000 ∧ F.length + G.length ≤ 1000 ∧ ∀ S', Ext S S' → Q (tB (al (F ++ G))) S'
theorem len_joined (ts S Q E) (h : sp_joined ts S Q E) : ts.length = 2 := by obtain ⟨_, _, rfl, _⟩ := h; rfl
theorem joined_ap {F G : List Lay} {S : SS} {Q : KQ} {E : Exn → SS → Prop} (h1 : wt F + wt G ≤ 9000000) (h2 : F.length + G.length ≤ 1000) (h : ∀ S', Ext S S' → Q (tB (al (F ++ G))) S') : sp_joined [tB F, tB G] S Q E := ⟨F, G, rfl, h1, h2, h⟩
def b_joined (W : XW) : DS :=
  (seqD
    (retD (callF sp_all_laid W (consA (opD (binR false .Add) (rdD 0) (rdD 1)) nilA)))
  nextD)
theorem law_joined {ts : List T} {S : SS} {Q : KQ} {E : Exn → SS → Prop} (h : sp_joined ts S Q E) : b_joined (fun x _ S' => E x S') { nx := fun _ S' => Q .non S', rt := Q } (start' 2 ts) S := by
  obtain ⟨F, G, rfl, hw, hl, h⟩ := h
  have hs : sizeLine = 16777216 := rfl
  unfold b_joined start'
  simp -implicitDefEqProofs [aq_addB]
  exact ⟨by omega, all_laid_ap (by rw [wt_app]; exact hw) (by rw [List.length_append]; exact hl) h⟩
def shr (p : Rat) (l : List Lay) : List Lay := if p = 0 then [] else l.map fun x => (x.1 * p, x.2 * p)
def sp_share_of : TSp := fun ts S Q E => ∃ (l : List Lay) (p : Rat), ts = [tB l, tR p] ∧ SmL 9000000 l ∧ Sm 9000000 p ∧ l.length ≤ 1000 ∧ (0 ≤ p → p ≤ 1 → Q (tB (shr p l)) S) ∧ (¬ (0 ≤ p ∧ p ≤ 1) → E ⟨"NoFraction", none⟩ S)
theorem len_share_of (ts S Q E) (h : sp_share_of ts S Q E) : ts.length = 2 := by obtain ⟨_, _, rfl, _⟩ := h; rfl
theorem share_ap {l : List Lay} {p : Rat} {S : SS} {Q : KQ} {E : Exn → SS → Prop} (h1 : SmL 9000000 l) (h2 : Sm 9000000 p) (h3 : l.length ≤ 1000) (p0 : 0 ≤ p) (p1 : p ≤ 1) (h : Q (tB (shr p l)) S) : sp_share_of [tB l, tR p] S Q E := ⟨l, p, rfl, h1, h2, h3, fun _ _ => h, fun e => absurd ⟨p0, p1⟩ e⟩
def b_share_of (W : XW) : DS :=
  (seqD
    (ifD (orT (tstD (opD (cmpR .Lt) (opD ixR (rdD 1) (cD (.int 0))) (cD (.int 0)))) (truD (callF sp_is_less W (consA (cD (.tup [(.int 1), (.int 1)])) (consA (rdD 1) nilA)))))
      (seqD
        (raiseD W "NoFraction" (cD (.str "no part from 0 to 1")))
      nextD)
      nextD)
  (seqD
    (ifD (tstD (opD (cmpR .Eq) (rdD 1) (cD (.tup [(.int 0), (.int 1)]))))
      (seqD
        (retD (tupD nilA))
      nextD)
      nextD)
  (seqD
    (retD (callB tupleTR (consA (lcD false [2, 3] (seqI (rdD 0)) (.tp (.cons (.nm 2) (.cons (.nm 3) .nil))) (fun _ S Q => Q true S) (tupD (consA (callF sp_times noW (consA (rdD 2) (consA (rdD 1) nilA))) (consA (callF sp_times noW (consA (rdD 3) (consA (rdD 1) nilA))) nilA)))) nilA)))
  nextD)))
theorem law_share_of {ts : List T} {S : SS} {Q : KQ} {E : Exn → SS → Prop} (h : sp_share_of ts S Q E) : b_share_of (fun x _ S' => E x S') { nx := fun _ S' => Q .non S', rt := Q } (start' 4 ts) S := by
  obtain ⟨l, p, rfl, hl, hp, hn, h, he⟩ := h
  unfold b_share_of start'
  by_cases c1 : p < 0
  · simp -implicitDefEqProofs [num_neg_iff, c1]
    exact he (by grind)
  by_cases c2 : 1 < p
  · simp -implicitDefEqProofs [num_neg_iff, c1, tR1, ap_is_less (Sm1.mono (m := 20000000) (by decide)) (hp.mono (m := 20000000) (by decide)), c2]
    exact he (by grind)
  replace h := h (by grind) (by grind)
  unfold shr at h
  by_cases c3 : p = 0
  · rw [if_pos c3] at h
    simp -implicitDefEqProofs [num_neg_iff, c1, tR1, ap_is_less (Sm1.mono (m := 20000000) (by decide)) (hp.mono (m := 20000000) (by decide)), c2, tR0]
    subst c3
    simp -implicitDefEqProofs [ap_is_less (Sm1.mono (m := 20000000) (by decide)) (hp.mono (m := 20000000) (by decide)), c2]
    simpa [tB] using h
  · rw [if_neg c3] at h
    simp -implicitDefEqProofs [num_neg_iff, c1, tR1, ap_is_less (Sm1.mono (m := 20000000) (by decide)) (hp.mono (m := 20000000) (by decide)), c2, tR0, c3]
    refine lcL_gen (l := l) (emb := tL) (g := fun _ => true) (f := fun x => tL (x.1 * p, x.2 * p)) (fun x hx => ⟨_, rfl, fun QT k => k, fun _ K k => ?_⟩) (by simp; omega) ?_
    · have := hl x hx
      simp -implicitDefEqProofs [ap_timesG (Sz.mk this.1 hp (by decide)), ap_timesG (Sz.mk this.2 hp (by decide))]
      exact k
    · simp -implicitDefEqProofs only [filt_true, List.nil_append, q_newF, q_tupL]
      simpa [tB, List.map_map, Function.comp_def] using h
def sp_fallen_of : TSp := fun ts S Q E => ∃ l : List Lay, ts = [tB l] ∧ l.length ≤ 1000 ∧ Bud 16000000 ((fal l).map (·.2)) ∧ Q (tR (rsum ((fal l).map (·.2)))) S
theorem len_fallen_of (ts S Q E) (h : sp_fallen_of ts S Q E) : ts.length = 1 := by obtain ⟨_, rfl, _⟩ := h; rfl
theorem fallen_of_ap {l : List Lay} {S : SS} {Q : KQ} {E : Exn → SS → Prop} (h1 : l.length ≤ 1000) (h2 : Bud 16000000 ((fal l).map (·.2))) (h : Q (tR (rsum ((fal l).map (·.2)))) S) : sp_fallen_of [tB l] S Q E := ⟨l, rfl, h1, h2, h⟩
def b_fallen_of (W : XW) : DS :=
  (seqD
    (retD (callF sp_summed W (consA (lcD false [1, 2] (seqI (rdD 0)) (.tp (.cons (.nm 1) (.cons (.nm 2) .nil))) (tstD (opD (cmpR .Eq) (rdD 1) (cD (.tup [(.int 0), (.int 1)])))) (rdD 2)) nilA)))
  nextD)
theorem law_fallen_of {ts : List T} {S : SS} {Q : KQ} {E : Exn → SS → Prop} (h : sp_fallen_of ts S Q E) : b_fallen_of (fun x _ S' => E x S') { nx := fun _ S' => Q .non S', rt := Q } (start' 3 ts) S := by
  obtain ⟨l, rfl, h1, h2, h⟩ := h
  unfold b_fallen_of start'
  simp -implicitDefEqProofs
  refine lcL_gen (l := l) (emb := tL) (g := fun x => decide (x.1 = 0)) (f := fun x => tR x.2) (fun x hx => ⟨_, rfl, fun QT k => ?_, fun _ K k => ?_⟩) (by simp; omega) ?_
  · simpa [tR0] using k
  · simpa using k
  · simp -implicitDefEqProofs only [List.nil_append, q_newF]
    have e : ((l.filter fun x => decide (x.1 = 0)).map fun x => tR x.2) = ((fal l).map (·.2)).map tR := by rw [map_emb]; rfl
    rw [e]
    exact summedB h2 h
/-! ### what a brine is known by -/
def okL (x : Lay) : Prop := 0 ≤ x.1 ∧ 0 ≤ x.2 ∧ (x.1 = 0 → x.2 ≠ 0)
def sg (x y : Lay) : Prop := y.2 * x.1 < x.2 * y.1
theorem strg_iff {x y : Lay} : strg x y = true ↔ sg x y := by unfold strg sg; simp
theorem r_mul0 {a b : Rat} (h : a * b = 0) : a = 0 ∨ b = 0 := Rat.mul_eq_zero.mp h
theorem okL.fst {x : Lay} (h : okL x) (k : x.1 ≠ 0) : 0 < x.1 := by have := h.1; grind
theorem okL.snd {x : Lay} (h : okL x) (k : x.1 = 0) : 0 < x.2 := by have := h.2.1; have := h.2.2 k; grind
theorem sg_trans {x y z : Lay} (hx : okL x) (hy : okL y) (hz : okL z) (h1 : sg x y) (h2 : sg y z) : sg x z := by
  unfold sg at *
  have yp : 0 < y.1 := hy.fst fun e => by
    rw [e, Rat.mul_zero] at h1
    have : 0 ≤ y.2 * x.1 := Rat.mul_nonneg hy.2.1 hx.1
    grind
  have zp : 0 < z.1 := hz.fst fun e => by
    rw [e, Rat.mul_zero] at h2
    have : 0 ≤ z.2 * y.1 := Rat.mul_nonneg hz.2.1 hy.1
    grind
  have e1 := Rat.mul_lt_mul_of_pos_right h1 zp
  have e2 := Rat.mul_le_mul_of_nonneg_right (Rat.le_of_lt h2) hx.1
  have e3 : (z.2 * x.1) * y.1 < (x.2 * z.1) * y.1 := by grind
  exact (Rat.mul_lt_mul_right yp).mp e3
theorem sg_eq {x y z : Lay} (hx : okL x) (hy : okL y) (hz : okL z) (e : x.2 * y.1 = y.2 * x.1) (h : sg x z) : sg y z := by
  unfold sg at *
  by_cases x0 : x.1 = 0
  · rw [x0, Rat.mul_zero] at e h
    have xp := hx.snd x0
    have y0 : y.1 = 0 := by
      rcases r_mul0 e with e | e
      · grind
      · exact e
    have yp := hy.snd y0
    have zp : 0 < z.1 := hz.fst fun e => by rw [e, Rat.mul_zero] at h; grind
    rw [y0, Rat.mul_zero]
    exact Rat.mul_pos yp zp
  · have xp := hx.fst x0
    have yp : 0 < y.1 := hy.fst fun e0 => by
      rw [e0, Rat.mul_zero] at e
      rcases r_mul0 e.symm with e | e
      · exact hy.2.2 e0 e
      · exact x0 e
    have e1 := Rat.mul_lt_mul_of_pos_right h yp
    have e3 : (z.2 * y.1) * x.1 < (y.2 * z.1) * x.1 := by grind
    exact (Rat.mul_lt_mul_right xp).mp e3
def SortB (L : List Lay) : Prop := (∀ x, x ∈ L → okL x) ∧ L.Pairwise sg
def linR : List Lay → Lay → List Lay
  | [], x => [x]
  | y :: L, x => if strg y x = true then y :: linR L x else if strg x y = true then x :: y :: L else addL y x :: L
theorem plc_none {L : List Lay} {x : Lay} (h : ∀ z, z ∈ L → ¬ sg z x) : plc L x = 0 := by
  unfold plc
  rw [List.filter_eq_nil_iff.mpr fun z hz => by rw [strg_iff]; exact h z hz]; rfl
theorem lin_eq {x : Lay} (hx : okL x) : ∀ {L : List Lay}, SortB L → lin L x = linR L x
  | [], _ => rfl
  | y :: L, h => by
    have hy := h.1 y List.mem_cons_self
    have hL : SortB L := ⟨fun z hz => h.1 z (List.mem_cons_of_mem _ hz), (List.pairwise_cons.mp h.2).2⟩
    have ih := lin_eq hx hL
    unfold linR
    by_cases c : strg y x = true
    · rw [if_pos c, ← ih]
      have e : plc (y :: L) x = plc L x + 1 := by
        unfold plc
        rw [List.filter_cons_of_pos (by simpa using c)]; rfl
      unfold lin
      rw [e, List.getElem?_cons_succ]
      cases L[plc L x]? with
      | none => simp
      | some z => by_cases d : strg x z = true <;> simp [d]
    · rw [if_neg c]
      have e : plc (y :: L) x = 0 := plc_none fun z hz => by
        rcases List.mem_cons.mp hz with rfl | hz
        · rw [← strg_iff]; exact c
        · exact fun w => c (strg_iff.mpr (sg_trans hy (hL.1 z hz) hx ((List.pairwise_cons.mp h.2).1 z hz) w))
      unfold lin
      rw [e]
      by_cases d : strg x y = true <;> simp [d]
/-- alike in strength -/
theorem par_of {x y : Lay} (h1 : ¬ sg x y) (h2 : ¬ sg y x) : y.2 * x.1 = x.2 * y.1 := by unfold sg at *; grind
theorem okL_add {x y : Lay} (hx : okL x) (hy : okL y) : okL (addL x y) := by
  obtain ⟨a, b, c⟩ := hx
  obtain ⟨a', b', c'⟩ := hy
  refine ⟨?_, ?_, fun e => ?_⟩
  · show 0 ≤ x.1 + y.1; grind
  · show 0 ≤ x.2 + y.2; grind
  · have e : x.1 + y.1 = 0 := e
    have x0 : x.1 = 0 := by grind
    have := c x0
    show x.2 + y.2 ≠ 0
    grind
theorem linR_mem {x : Lay} : ∀ {L : List Lay} {z : Lay}, z ∈ linR L x → z = x ∨ z ∈ L ∨ ∃ y, y ∈ L ∧ ¬ sg x y ∧ ¬ sg y x ∧ z = addL y x
  | [], z, h => by
    unfold linR at h
    exact .inl (List.mem_singleton.mp h)
  | y :: L, z, h => by
    unfold linR at h
    by_cases c : strg y x = true
    · rw [if_pos c] at h
      rcases List.mem_cons.mp h with h | h
      · exact .inr (.inl (by rw [h]; exact List.mem_cons_self))
      · rcases linR_mem h with e | e | ⟨u, e1, e2⟩
        · exact .inl e
        · exact .inr (.inl (List.mem_cons_of_mem _ e))
        · exact .inr (.inr ⟨u, List.mem_cons_of_mem _ e1, e2⟩)
    · rw [if_neg c] at h
      by_cases d : strg x y = true
      · rw [if_pos d] at h
        rcases List.mem_cons.mp h with h | h
        · exact .inl h
        · exact .inr (.inl h)
      · rw [if_neg d] at h
        rcases List.mem_cons.mp h with h | h
        · exact .inr (.inr ⟨y, List.mem_cons_self, by rw [← strg_iff]; exact d, by rw [← strg_iff]; exact c, h⟩)
        · exact .inr (.inl (List.mem_cons_of_mem _ h))
theorem sg_addL {x y z : Lay} (e : y.2 * x.1 = x.2 * y.1) (h1 : sg y z) (h2 : sg x z) : sg (addL y x) z := by
  unfold sg addL at *; simp only; grind
theorem sg_addR {x y z : Lay} (h1 : sg z y) (h2 : sg z x) : sg z (addL y x) := by
  unfold sg addL at *; simp only; grind
theorem sort_linR {x : Lay} (hx : okL x) : ∀ {L : List Lay}, SortB L → SortB (linR L x)
  | [], _ => ⟨fun z hz => by rw [show z = x from List.mem_singleton.mp hz]; exact hx, List.pairwise_singleton _ _⟩
  | y :: L, h => by
    have hy := h.1 y List.mem_cons_self
    have hL : SortB L := ⟨fun z hz => h.1 z (List.mem_cons_of_mem _ hz), (List.pairwise_cons.mp h.2).2⟩
    have hp := (List.pairwise_cons.mp h.2).1
    have ih := sort_linR hx hL
    unfold linR
    by_cases c : strg y x = true
    · rw [if_pos c]
      refine ⟨fun z hz => ?_, List.pairwise_cons.mpr ⟨fun z hz => ?_, ih.2⟩⟩
      · rcases List.mem_cons.mp hz with rfl | hz
        · exact hy
        · exact ih.1 z hz
      · rcases linR_mem hz with rfl | e | ⟨u, e1, e2, e3, rfl⟩
        · exact strg_iff.mp c
        · exact hp z e
        · exact sg_addR (hp u e1) (strg_iff.mp c)
    · rw [if_neg c]
      by_cases d : strg x y = true
      · rw [if_pos d]
        refine ⟨fun z hz => ?_, List.pairwise_cons.mpr ⟨fun z hz => ?_, h.2⟩⟩
        · rcases List.mem_cons.mp hz with rfl | hz
          · exact hx
          · exact h.1 z hz
        · rcases List.mem_cons.mp hz with rfl | hz
          · exact strg_iff.mp d
          · exact sg_trans hx hy (hL.1 z hz) (strg_iff.mp d) (hp z hz)
      · rw [if_neg d]
        have e := par_of (x := x) (y := y) (by rw [← strg_iff]; exact d) (by rw [← strg_iff]; exact c)
        refine ⟨fun z hz => ?_, List.pairwise_cons.mpr ⟨fun z hz => ?_, hL.2⟩⟩
        · rcases List.mem_cons.mp hz with rfl | hz
          · exact okL_add hy hx
          · exact hL.1 z hz
        · exact sg_addL e (hp z hz) (sg_eq hy hx (hL.1 z hz) e (hp z hz))
theorem sort_fold : ∀ (M L : List Lay), (∀ x, x ∈ M → okL x) → SortB L → SortB (M.foldl lin L)
  | [], L, _, h => h
  | x :: M, L, hM, h => by
    have hx := hM x List.mem_cons_self
    rw [List.foldl_cons]
    exact sort_fold M _ (fun y hy => hM y (List.mem_cons_of_mem _ hy)) (by rw [lin_eq hx h]; exact sort_linR hx h)
theorem SortB.nil : SortB [] := ⟨by simp, List.Pairwise.nil⟩
theorem sort_al {M : List Lay} (h : ∀ x, x ∈ M → okL x) : SortB (al M) := sort_fold M [] h .nil
/-! layers for a full strength stay so -/
theorem isLay_iff {f : Rat} {x : Lay} : isLay f x = true ↔ okL x ∧ (x.1 ≠ 0 → x.2 ≤ f * x.1) := by
  unfold isLay okL
  by_cases c : x.1 = 0
  · simp [c]
  · simp [c]
    grind
theorem isLay_add {f : Rat} {x y : Lay} (hx : isLay f x = true) (hy : isLay f y = true) (e : y.2 * x.1 = x.2 * y.1) : isLay f (addL y x) = true := by
  rw [isLay_iff] at *
  refine ⟨okL_add hy.1 hx.1, fun h => ?_⟩
  have h : y.1 + x.1 ≠ 0 := h
  show y.2 + x.2 ≤ f * (y.1 + x.1)
  by_cases x0 : x.1 = 0
  · have xp := hx.1.snd x0
    rw [x0, Rat.mul_zero] at e
    rcases r_mul0 e.symm with e | e
    · grind
    · grind
  · have := hx.2 x0
    by_cases y0 : y.1 = 0
    · have yp := hy.1.snd y0
      rw [y0, Rat.mul_zero] at e
      rcases r_mul0 e with e | e <;> grind
    · have := hy.2 y0
      grind
theorem lay_fold {f : Rat} : ∀ (M L : List Lay), (∀ x, x ∈ M → isLay f x = true) → SortB L → (∀ x, x ∈ L → isLay f x = true) → ∀ x, x ∈ M.foldl lin L → isLay f x = true
  | [], L, _, _, h => h
  | x :: M, L, hM, hs, h => by
    have hx := hM x List.mem_cons_self
    have hox := (isLay_iff.mp hx).1
    rw [List.foldl_cons]
    refine lay_fold M _ (fun y hy => hM y (List.mem_cons_of_mem _ hy)) (by rw [lin_eq hox hs]; exact sort_linR hox hs) fun z hz => ?_
    rw [lin_eq hox hs] at hz
    rcases linR_mem hz with rfl | e | ⟨u, e1, e2, e3, rfl⟩
    · exact hx
    · exact h z e
    · exact isLay_add hx (h u e1) (par_of e2 e3)
theorem lay_al {f : Rat} {M : List Lay} (h : ∀ x, x ∈ M → isLay f x = true) : ∀ x, x ∈ al M → isLay f x = true := lay_fold M [] h .nil (by simp)
theorem okL_of {f : Rat} {M : List Lay} (h : ∀ x, x ∈ M → isLay f x = true) : ∀ x, x ∈ M → okL x := fun x hx => (isLay_iff.mp (h x hx)).1
/-! what stands by each strength -/
def ali (v x : Lay) : Bool := decide (v.2 * x.1 = x.2 * v.1)
def con (v : Lay) : List Lay → Lay
  | [] => (0, 0)
  | x :: L => if ali v x = true then addL x (con v L) else con v L
theorem addL_assoc (a b c : Lay) : addL (addL a b) c = addL a (addL b c) := by unfold addL; simp only [Prod.mk.injEq]; grind
theorem addL_comm (a b : Lay) : addL a b = addL b a := by unfold addL; simp only [Prod.mk.injEq]; grind
theorem addL_zero (a : Lay) : addL a (0, 0) = a := by unfold addL; ext <;> simp only <;> grind
theorem con_app (v : Lay) : ∀ L M : List Lay, con v (L ++ M) = addL (con v L) (con v M)
  | [], M => by rw [List.nil_append, addL_comm]; exact (addL_zero _).symm
  | x :: L, M => by
    rw [List.cons_append]
    show (if ali v x = true then _ else _) = addL (if ali v x = true then _ else _) _
    rw [con_app v L M]
    by_cases c : ali v x = true
    · rw [if_pos c, if_pos c, addL_assoc]
    · rw [if_neg c, if_neg c]
theorem par_iff {v x : Lay} : ali v x = true ↔ v.2 * x.1 = x.2 * v.1 := by unfold ali; simp
theorem par_trans {x y v : Lay} (hx : okL x) (hy : okL y) (e : x.2 * y.1 = y.2 * x.1) (h : v.2 * x.1 = x.2 * v.1) : v.2 * y.1 = y.2 * v.1 := by
  by_cases x0 : x.1 = 0
  · have xp := hx.snd x0
    rw [x0, Rat.mul_zero] at e h
    have v0 : v.1 = 0 := by rcases r_mul0 h.symm with z | z <;> grind
    have y0 : y.1 = 0 := by rcases r_mul0 e with z | z <;> grind
    rw [v0, y0]; grind
  · have e1 : (v.2 * y.1) * x.1 = (y.2 * v.1) * x.1 := by grind
    have xp := hx.fst x0
    have a1 : ¬ v.2 * y.1 < y.2 * v.1 := fun z => by have := Rat.mul_lt_mul_of_pos_right z xp; grind
    have a2 : ¬ y.2 * v.1 < v.2 * y.1 := fun z => by have := Rat.mul_lt_mul_of_pos_right z xp; grind
    grind
theorem con_linR {v x : Lay} (hx : okL x) : ∀ {L : List Lay}, SortB L → con v (linR L x) = con v (x :: L)
  | [], _ => rfl
  | y :: L, h => by
    have hy := h.1 y List.mem_cons_self
    have hL : SortB L := ⟨fun z hz => h.1 z (List.mem_cons_of_mem _ hz), (List.pairwise_cons.mp h.2).2⟩
    have ih := con_linR (v := v) hx hL
    unfold linR
    by_cases c : strg y x = true
    · rw [if_pos c]
      simp only [con] at ih ⊢
      rw [ih]
      by_cases p1 : ali v y = true <;> by_cases p2 : ali v x = true <;> simp only [p1, p2, if_true, if_false]
      · rw [← addL_assoc, addL_comm y x, addL_assoc]
      · simp
      · simp
      · simp
    · rw [if_neg c]
      by_cases d : strg x y = true
      · rw [if_pos d]
      · rw [if_neg d]
        have e := par_of (x := x) (y := y) (by rw [← strg_iff]; exact d) (by rw [← strg_iff]; exact c)
        have p : ali v (addL y x) = ali v x ∧ ali v y = ali v x := by
          have k1 : ali v y = true → ali v x = true := fun q => par_iff.mpr (par_trans hy hx e (par_iff.mp q))
          have k2 : ali v x = true → ali v y = true := fun q => par_iff.mpr (par_trans hx hy e.symm (par_iff.mp q))
          have k3 : ali v (addL y x) = true → ali v x = true := fun q => par_iff.mpr (par_trans (okL_add hy hx) hx (by unfold addL; simp only; grind) (par_iff.mp q))
          have k4 : ali v x = true → ali v (addL y x) = true := fun q => par_iff.mpr (par_trans hx (okL_add hy hx) (by unfold addL; simp only; grind) (par_iff.mp q))
          refine ⟨?_, ?_⟩
          · cases q : ali v x with
            | true => exact k4 q
            | false => cases q2 : ali v (addL y x) with
              | true => rw [k3 q2] at q; cases q
              | false => rfl
          · cases q : ali v x with
            | true => exact k2 q
            | false => cases q2 : ali v y with
              | true => rw [k1 q2] at q; cases q
              | false => rfl
        simp only [con]
        rw [p.1, p.2]
        by_cases p2 : ali v x = true
        · simp only [p2, if_true]
          rw [addL_comm y x, addL_assoc]
        · simp [p2]
theorem con_fold (v : Lay) : ∀ (M L : List Lay), (∀ x, x ∈ M → okL x) → SortB L → con v (M.foldl lin L) = addL (con v M) (con v L)
  | [], L, _, _ => by rw [addL_comm]; exact (addL_zero _).symm
  | x :: M, L, hM, h => by
    have hx := hM x List.mem_cons_self
    have hs := sort_linR hx h
    rw [← lin_eq hx h] at hs
    rw [List.foldl_cons, con_fold v M _ (fun y hy => hM y (List.mem_cons_of_mem _ hy)) hs, lin_eq hx h, con_linR hx h]
    simp only [con]
    by_cases p : ali v x = true
    · simp only [p, if_true]
      rw [← addL_assoc, addL_comm (con v M) x]
    · simp [p]
theorem con_al (v : Lay) {M : List Lay} (h : ∀ x, x ∈ M → okL x) : con v (al M) = con v M := by
  rw [show al M = M.foldl lin [] from rfl, con_fold v M [] h .nil]
  exact addL_zero _
theorem con_zero {v : Lay} : ∀ {L : List Lay}, (∀ y, y ∈ L → ali v y = false) → con v L = (0, 0)
  | [], _ => rfl
  | y :: L, h => by
    simp only [con]
    rw [h y List.mem_cons_self]
    simpa using con_zero fun z hz => h z (List.mem_cons_of_mem _ hz)
theorem sg_par {x y : Lay} (h : sg x y) : ali x y = false ∧ ali y x = false := by
  unfold sg at h
  unfold ali
  constructor <;> simp <;> grind
theorem con_mem {x : Lay} : ∀ {L : List Lay}, SortB L → x ∈ L → con x L = x
  | y :: L, h, hx => by
    have hL : SortB L := ⟨fun z hz => h.1 z (List.mem_cons_of_mem _ hz), (List.pairwise_cons.mp h.2).2⟩
    have hp := (List.pairwise_cons.mp h.2).1
    simp only [con]
    rcases List.mem_cons.mp hx with rfl | hx
    · rw [if_pos (par_iff.mpr (by grind)), con_zero fun z hz => (sg_par (hp z hz)).1]
      exact addL_zero _
    · rw [(sg_par (hp x hx)).2]
      simpa using con_mem hL hx
theorem con_some {v : Lay} (hv : okL v) : ∀ {L : List Lay}, SortB L → con v L ≠ (0, 0) → ∃ y, y ∈ L ∧ ali v y = true ∧ con v L = y
  | [], _, h => absurd rfl h
  | y :: L, h, hn => by
    have hL : SortB L := ⟨fun z hz => h.1 z (List.mem_cons_of_mem _ hz), (List.pairwise_cons.mp h.2).2⟩
    have hp := (List.pairwise_cons.mp h.2).1
    have hy := h.1 y List.mem_cons_self
    by_cases p : ali v y = true
    · refine ⟨y, List.mem_cons_self, p, ?_⟩
      have z0 : con v L = (0, 0) := con_zero fun z hz => by
        cases q : ali v z with
        | false => rfl
        | true =>
          have k := (sg_par (sg_eq hy hv (hL.1 z hz) (by rw [par_iff.mp p]) (hp z hz))).1
          rw [k] at q; cases q
      simp only [con, p, if_true]
      rw [z0]; exact addL_zero _
    · simp only [con, p] at hn ⊢
      obtain ⟨z, z1, z2, z3⟩ := con_some hv hL (by simpa using hn)
      exact ⟨z, List.mem_cons_of_mem _ z1, z2, by simpa using z3⟩

theorem okL_ne {x : Lay} (h : okL x) : x ≠ (0, 0) := fun e => by
  rw [e] at h
  exact h.2.2 rfl rfl
theorem sg_irr {x : Lay} : ¬ sg x x := by unfold sg; grind
theorem sg_asym {x y : Lay} (h : sg x y) : ¬ sg y x := by unfold sg at *; grind
theorem sub_of {L M : List Lay} (hL : SortB L) (hM : SortB M) (h : ∀ v, okL v → con v L = con v M) : ∀ x, x ∈ L → x ∈ M := fun x hx => by
  have ox := hL.1 x hx
  have e := con_mem hL hx
  obtain ⟨y, y1, y2, y3⟩ := con_some (v := x) ox hM (by rw [← h x ox, e]; exact okL_ne ox)
  rw [← h x ox, e] at y3
  rw [y3]; exact y1
theorem sort_eq : ∀ {L M : List Lay}, L.Pairwise sg → M.Pairwise sg → (∀ x, x ∈ L → x ∈ M) → (∀ x, x ∈ M → x ∈ L) → L = M
  | [], [], _, _, _, _ => rfl
  | [], y :: M, _, _, _, h => absurd (h y List.mem_cons_self) (by simp)
  | x :: L, [], _, _, h, _ => absurd (h x List.mem_cons_self) (by simp)
  | x :: L, y :: M, hL, hM, h1, h2 => by
    obtain ⟨p1, q1⟩ := List.pairwise_cons.mp hL
    obtain ⟨p2, q2⟩ := List.pairwise_cons.mp hM
    have e : x = y := by
      rcases List.mem_cons.mp (h1 x List.mem_cons_self) with e | e
      · exact e
      · rcases List.mem_cons.mp (h2 y List.mem_cons_self) with e' | e'
        · exact e'.symm
        · exact absurd (p1 y e') (sg_asym (p2 x e))
    subst e
    rw [sort_eq q1 q2 (fun z hz => ?_) (fun z hz => ?_)]
    · rcases List.mem_cons.mp (h1 z (List.mem_cons_of_mem _ hz)) with e | e
      · rw [e] at hz; exact absurd (p1 x hz) sg_irr
      · exact e
    · rcases List.mem_cons.mp (h2 z (List.mem_cons_of_mem _ hz)) with e | e
      · rw [e] at hz; exact absurd (p2 x hz) sg_irr
      · exact e
/-- a brine is known by what stands by each strength -/
theorem uniq {L M : List Lay} (hL : SortB L) (hM : SortB M) (h : ∀ v, okL v → con v L = con v M) : L = M :=
  sort_eq hL.2 hM.2 (sub_of hL hM h) (sub_of hM hL fun v hv => (h v hv).symm)
theorem al_eq {M : List Lay} (h : SortB M) : al M = M := uniq (sort_al h.1) h fun v _ => con_al v h.1
theorem al_con {M N : List Lay} (h : ∀ x, x ∈ M → okL x) (k : ∀ x, x ∈ N → okL x) (e : ∀ v, okL v → con v M = con v N) : al M = al N :=
  uniq (sort_al h) (sort_al k) fun v hv => by rw [con_al v h, con_al v k, e v hv]

theorem d_le {a b c : Rat} (hb : 0 < b) (h : a ≤ c * b) : a / b ≤ c := by
  have e : a / b * b = a := Rat.div_mul_cancel (by grind)
  refine Rat.not_lt.mp fun z => ?_
  have := Rat.mul_lt_mul_of_pos_right z hb
  grind
theorem d_pos {a b : Rat} (ha : 0 < a) (hb : 0 < b) : 0 < a / b := by
  have e : a / b * b = a := Rat.div_mul_cancel (by grind)
  refine Rat.not_le.mp fun z => ?_
  have := Rat.mul_le_mul_of_nonneg_right z (Rat.le_of_lt hb)
  grind
theorem strgs_okL {f : Rat} {l : List Lay} {n : Nat} (h : ∀ x, x ∈ l → isLay f x = true) (hn : SmL n l) : ∀ s, s ∈ strgs l → 0 < s ∧ s ≤ f ∧ Sm (n + n) s := fun s hs => by
  obtain ⟨x, hx, rfl⟩ := List.mem_map.mp hs
  obtain ⟨hx, h2⟩ := List.mem_filter.mp hx
  obtain ⟨hx, h1⟩ := List.mem_filter.mp (List.mem_reverse.mp hx)
  have h1 : x.1 ≠ 0 := by simpa using h1
  have h2 : x.2 ≠ 0 := by simpa using h2
  obtain ⟨ox, hf⟩ := isLay_iff.mp (h x hx)
  have p1 := ox.fst h1
  have p2 : 0 < x.2 := by have := ox.2.1; grind
  exact ⟨d_pos p2 p1, d_le p1 (hf h1), (hn x hx).2.div (hn x hx).1 h1⟩
theorem strgs_len (l : List Lay) : (strgs l).length ≤ l.length := by
  unfold strgs wet
  rw [List.length_map]
  exact Nat.le_trans (List.length_filter_le _ _) (by rw [List.length_reverse]; exact List.length_filter_le _ _)

/-! ### brines held against each other -/
theorem eqv_tL {x y : Lay} : T.eqv (tL x) (tL y) = decide (x = y) := by
  have e : T.eqv (tL x) (tL y) = (T.eqv (tR x.1) (tR y.1) && T.eqv (tR x.2) (tR y.2)) := by
    unfold T.eqv tL; simp [T.toD, T.toDs, PyData.eqv, PyData.eqvAll]
  rw [e, eqv_fr, eqv_fr, ← Bool.decide_and]
  exact decide_eq_decide.mpr ⟨fun h => Prod.ext h.1 h.2, fun h => by subst h; exact ⟨rfl, rfl⟩⟩
theorem eqv_tB : ∀ a b : List Lay, T.eqv (tB a) (tB b) = decide (a = b)
  | [], [] => by decide +kernel
  | [], y :: b => by unfold T.eqv tB; simp [T.toD, T.toDs, PyData.eqv, PyData.eqvAll]
  | x :: a, [] => by unfold T.eqv tB; simp [T.toD, T.toDs, PyData.eqv, PyData.eqvAll]
  | x :: a, y :: b => by
    have ih := eqv_tB a b
    have e1 := eqv_tL (x := x) (y := y)
    have e : T.eqv (tB (x :: a)) (tB (y :: b)) = (T.eqv (tL x) (tL y) && T.eqv (tB a) (tB b)) := by
      unfold T.eqv tB; simp [T.toD, T.toDs, PyData.eqv, PyData.eqvAll]
    rw [e, e1, ih, ← Bool.decide_and]
    exact decide_eq_decide.mpr ⟨fun h => by rw [h.1, h.2], fun h => by cases h; exact ⟨rfl, rfl⟩⟩
theorem shp_tB {l : List Lay} : T.shp 60 (tB l) = true := by unfold tB; rw [shp_tup]; exact shps_tL l
theorem aq_eqB {a b : List Lay} {S : SS} {Q : KQ} : cmpR .Eq (tB a) (tB b) S Q = Q (.bl (decide (a = b))) S := by
  show (T.shp 60 (tB a) = true ∧ T.shp 60 (tB b) = true ∧ Q (.bl (false ^^ T.eqv (tB a) (tB b))) S) = _
  rw [eqv_tB, Bool.false_xor]
  exact propext ⟨fun h => h.2.2, fun h => ⟨shp_tB, shp_tB, h⟩⟩
theorem aq_neB {a b : List Lay} {S : SS} {Q : KQ} : cmpR .NotEq (tB a) (tB b) S Q = Q (.bl (!decide (a = b))) S := by
  show (T.shp 60 (tB a) = true ∧ T.shp 60 (tB b) = true ∧ Q (.bl (true ^^ T.eqv (tB a) (tB b))) S) = _
  rw [eqv_tB, Bool.true_xor]
  exact propext ⟨fun h => h.2.2, fun h => ⟨shp_tB, shp_tB, h⟩⟩
theorem tB0 : T.tup [] = tB [] := rfl
theorem atI_first {α : Type} (l : List α) (x : α) : atI (x :: l) 0 = some x := by
  unfold atI ixN
  simp
/-! ### weakest, strongest -/
def stO : Option Lay → T
  | none => .non
  | some x => tR (x.2 / x.1)
def sp_weakest : TSp := fun ts S Q E => ∃ l : List Lay, ts = [tB l] ∧ l.length ≤ 1000 ∧ SmL 20000000 l ∧ Q (stO (wet l).getLast?) S
def sp_strongest : TSp := fun ts S Q E => ∃ l : List Lay, ts = [tB l] ∧ l.length ≤ 1000 ∧ SmL 20000000 l ∧ Q (stO (wet l).head?) S
theorem len_weakest (ts S Q E) (h : sp_weakest ts S Q E) : ts.length = 1 := by obtain ⟨_, rfl, _⟩ := h; rfl
theorem len_strongest (ts S Q E) (h : sp_strongest ts S Q E) : ts.length = 1 := by obtain ⟨_, rfl, _⟩ := h; rfl
theorem weakest_ap {l : List Lay} {S : SS} {Q : KQ} {E : Exn → SS → Prop} (h1 : l.length ≤ 1000) (h2 : SmL 20000000 l) (h : Q (stO (wet l).getLast?) S) : sp_weakest [tB l] S Q E := ⟨l, rfl, h1, h2, h⟩
theorem strongest_ap {l : List Lay} {S : SS} {Q : KQ} {E : Exn → SS → Prop} (h1 : l.length ≤ 1000) (h2 : SmL 20000000 l) (h : Q (stO (wet l).head?) S) : sp_strongest [tB l] S Q E := ⟨l, rfl, h1, h2, h⟩
def b_weakest (W : XW) : DS :=
  (seqD
    (asgD (callF sp_wet_layers W (consA (rdD 0) nilA)) (.nm 1))
  (seqD
    (retD (ifE (tstD (opD (cmpR .NotEq) (rdD 1) (tupD nilA))) (callF sp_strength_of W (consA (opD ixR (rdD 1) (negR (cD (.int 1)))) nilA)) (cD .non)))
  nextD))
def b_strongest (W : XW) : DS :=
  (seqD
    (asgD (callF sp_wet_layers W (consA (rdD 0) nilA)) (.nm 1))
  (seqD
    (retD (ifE (tstD (opD (cmpR .NotEq) (rdD 1) (tupD nilA))) (callF sp_strength_of W (consA (opD ixR (rdD 1) (cD (.int 0))) nilA)) (cD .non)))
  nextD))
theorem law_weakest {ts : List T} {S : SS} {Q : KQ} {E : Exn → SS → Prop} (h : sp_weakest ts S Q E) : b_weakest (fun x _ S' => E x S') { nx := fun _ S' => Q .non S', rt := Q } (start' 2 ts) S := by
  obtain ⟨l, rfl, hl, hs, h⟩ := h
  unfold b_weakest start'
  simp -implicitDefEqProofs
  refine wet_ap hl ?_
  have hw : ∀ x, x ∈ wet l → x.1 ≠ 0 ∧ Sm 20000000 x.1 ∧ Sm 20000000 x.2 := fun x hx => by
    obtain ⟨h1, h2⟩ := List.mem_filter.mp hx
    exact ⟨by simpa using h2, (hs x h1).1, (hs x h1).2⟩
  generalize wet l = m at hw h
  simp -implicitDefEqProofs [tB0, aq_neB]
  rcases List.eq_nil_or_concat m with e | ⟨a, x, e⟩
  · subst e
    simp -implicitDefEqProofs
    exact h
  · subst e
    obtain ⟨x0, x1, x2⟩ := hw x (by simp)
    have ea : ∀ (S : SS) (Q : KQ), ixR (tB (a ++ [x])) (.int (-1)) S Q = Q (tL x) S := fun S Q => by
      have e := atI_last (a.map tL) (tL x)
      unfold tB
      rw [q_ixT, List.map_append, List.map_cons, List.map_nil, e]
    rw [List.concat_eq_append] at h ⊢
    simp -implicitDefEqProofs [ea, ap_strength_of x1 x2 x0]
    simpa [stO] using h
theorem law_strongest {ts : List T} {S : SS} {Q : KQ} {E : Exn → SS → Prop} (h : sp_strongest ts S Q E) : b_strongest (fun x _ S' => E x S') { nx := fun _ S' => Q .non S', rt := Q } (start' 2 ts) S := by
  obtain ⟨l, rfl, hl, hs, h⟩ := h
  unfold b_strongest start'
  simp -implicitDefEqProofs
  refine wet_ap hl ?_
  have hw : ∀ x, x ∈ wet l → x.1 ≠ 0 ∧ Sm 20000000 x.1 ∧ Sm 20000000 x.2 := fun x hx => by
    obtain ⟨h1, h2⟩ := List.mem_filter.mp hx
    exact ⟨by simpa using h2, (hs x h1).1, (hs x h1).2⟩
  generalize wet l = m at hw h
  simp -implicitDefEqProofs [tB0, aq_neB]
  cases m with
  | nil =>
    simp -implicitDefEqProofs
    exact h
  | cons x a =>
    obtain ⟨x0, x1, x2⟩ := hw x (by simp)
    have ea : ∀ (S : SS) (Q : KQ), ixR (tB (x :: a)) (.int 0) S Q = Q (tL x) S := fun S Q => by
      unfold tB
      rw [q_ixT, List.map_cons, atI_first]
    simp -implicitDefEqProofs [ea, ap_strength_of x1 x2 x0]
    simpa [stO] using h
end TL

set_option Elab.async false
set_option linter.all false
set_option maxRecDepth 100000
set_option maxHeartbeats 4000000
set_option autoImplicit false
/-! TLE: fractions and walks, for the laws of the reel. -/
namespace TL
open PySem PySem.Spec PyProof.Rows L2
theorem g_den_pos (q : Rat) : (0 : Int) < q.den := by have := q.den_nz; omega
theorem g_rat (q : Rat) : q * ((q.den : Int) : Rat) = ((q.num : Int) : Rat) := by
  have h := Rat.num_divInt_den q
  rw [Rat.divInt_eq_div] at h
  have h0 : ((q.den : Int) : Rat) ≠ 0 := by have := g_den_pos q; exact_mod_cast (by omega)
  have := Rat.div_mul_cancel (a := ((q.num : Int) : Rat)) h0
  rw [h] at this
  exact this
theorem g_lay {f w : Rat} {d b : Int} (hb : 0 < b) (h : d * ((f.den : Int) * w.den) ≤ f.num * w.num * b) : Rat.divInt d b ≤ f * w := by
  refine g_dI_le hb ?_
  have h1 : ((d * ((f.den : Int) * w.den) : Int) : Rat) ≤ ((f.num * w.num * b : Int) : Rat) := by exact_mod_cast h
  have e1 := g_rat f
  have e2 := g_rat w
  have p1 : (0 : Rat) < ((f.den : Int) : Rat) := by exact_mod_cast g_den_pos f
  have p2 : (0 : Rat) < ((w.den : Int) : Rat) := by exact_mod_cast g_den_pos w
  simp only [Rat.intCast_mul] at h1
  rw [← e1, ← e2] at h1
  refine Rat.not_lt.mp fun z => ?_
  have := Rat.mul_lt_mul_of_pos_right z (Rat.mul_pos p1 p2)
  grind
theorem tup_int (i : Int) : T.tup [.int i, .int 1] = tR (i : Rat) := by unfold tR; rw [Rat.num_intCast, Rat.den_intCast]; rfl
theorem Sm_int {n : Nat} {i : Int} (h : i.natAbs < 2 ^ n) (h0 : 0 < n) : Sm n (i : Rat) := by
  refine ⟨by rw [Rat.num_intCast]; exact h, ?_⟩
  rw [Rat.den_intCast]
  exact Nat.one_lt_two_pow (by omega)
theorem aq_neR0 {p : Addr} {L : List Lay} {S : SS} {Q : KQ} (h : S p = some (.lst (L.map tL))) : cmpR .NotEq (.ref p) (.lst []) S Q = Q (.bl (!L.isEmpty)) S := by
  have d : deref S (.ref p) = .lst (L.map tL) := by unfold deref; simp only [h]
  have e : T.eqv (.lst (L.map tL)) (.lst []) = L.isEmpty := by
    cases L with
    | nil => decide +kernel
    | cons x L => unfold T.eqv; simp [T.toD, T.toDs, PyData.eqv, PyData.eqvAll]
  have s : T.shp 60 (.lst (L.map tL)) = true := by rw [shp_lst]; exact shps_tL L
  show (_ ∧ _ ∧ Q (.bl (true ^^ T.eqv (deref S (.ref p)) (.lst []))) S) = _
  rw [d, e, Bool.true_xor]
  exact propext ⟨fun h => h.2.2, fun h => ⟨s, rfl, h⟩⟩

theorem isLay_wet {f : Rat} {x : Lay} (h1 : 0 < x.1) (h2 : 0 ≤ x.2) (h3 : x.2 ≤ f * x.1) : isLay f x = true := by
  have h0 : x.1 ≠ 0 := by grind
  have h4 : ¬ f * x.1 < x.2 := by grind
  have h5 : 0 ≤ x.1 := by grind
  unfold isLay
  simp [h0, h2, h4, h5]
theorem isLay_fal {f s : Rat} (h : 0 < s) : isLay f (0, s) = true := by
  have h0 : s ≠ 0 := by grind
  have h1 : 0 ≤ s := by grind
  unfold isLay
  simp [h0, h1]
theorem g_pos {a b : Int} (ha : 0 < a) (hb : 0 < b) : 0 < Rat.divInt a b := by
  rw [Rat.divInt_eq_div, Rat.div_def]
  exact Rat.mul_pos (by exact_mod_cast ha) (Rat.inv_pos.mpr (by exact_mod_cast hb))
theorem abs_mul_lt {a b : Int} {n m : Nat} (h1 : a.natAbs < 2 ^ n) (h2 : b.natAbs < 2 ^ m) : (a * b).natAbs < 2 ^ (n + m) := by
  rw [Int.natAbs_mul, Nat.pow_add]
  exact Nat.mul_lt_mul_of_lt_of_lt h1 h2
def ExtR (r : Addr) (S S' : SS) : Prop := ∀ c o, c ≠ r → S c = some o → S' c = some o
theorem tL_mk (a b : Rat) : T.tup [tR a, tR b] = tL (a, b) := rfl
theorem q_neT0 {ss : List Rat} {S : SS} {Q : KQ} : cmpR .NotEq (.tup (ss.map tR)) (.tup []) S Q ↔ Q (.bl (!ss.isEmpty)) S := by
  have e : T.eqv (.tup (ss.map tR)) (.tup []) = ss.isEmpty := by
    cases ss with
    | nil => decide +kernel
    | cons x l => unfold T.eqv; simp [T.toD, T.toDs, PyData.eqv, PyData.eqvAll]
  have sh : ∀ l : List Rat, T.shps 59 (l.map tR) = true := fun l => by
    induction l with
    | nil => rfl
    | cons x l ih => rw [List.map_cons, shps1, ih, fr_shp]; rfl
  have s : T.shp 60 (.tup (ss.map tR)) = true := by rw [shp_tup]; exact sh ss
  show (_ ∧ _ ∧ Q (.bl (true ^^ T.eqv (.tup (ss.map tR)) (.tup []))) S) ↔ _
  rw [e, Bool.true_xor]
  exact ⟨fun h => h.2.2, fun h => ⟨s, rfl, h⟩⟩
theorem lcL_st {chk : SS → Prop} {tg : Tg} {te : DE} {mu : Bool} {τ : Sg} {Q : KQ} (I : Nat → List T → SS → Prop) : ∀ (its : List T) (k : Nat) (acc : List T) (S : SS), I k acc S → acc.length + its.length ≤ 16777215 →
    (∀ i (hi : i < its.length) acc S, I (k + i) acc S → chk S ∧ ∃ τ1, bindT tg its[i] τ = some τ1 ∧ ∀ K : KQ, (∀ v S2, I (k + i + 1) (acc ++ [v]) S2 → K v S2) → te τ1 S K) →
    (∀ acc S, I (k + its.length) acc S → chk S ∧ newL mu acc S Q) → lcL chk tg (fun _ S Q => Q true S) te mu τ Q its acc S
  | [], k, acc, S, h, _, _, fin => fin acc S h
  | x :: its, k, acc, S, h, hl, step, fin => by
    have hs : sizeLine = 16777216 := rfl
    rw [List.length_cons] at hl
    obtain ⟨c, τ1, e, go⟩ := step 0 (by simp) acc S h
    have e : bindT tg x τ = some τ1 := e
    rw [q_lcL1, e]
    refine ⟨c, go _ fun v S2 hI => ⟨by omega, ?_⟩⟩
    refine lcL_st I its (k + 1) (acc ++ [v]) S2 hI (by rw [List.length_append, List.length_singleton]; omega) (fun i hi acc S hI => ?_) fun acc S hI => fin acc S ?_
    · have z := step (i + 1) (by simpa using hi) acc S (by rw [show k + (i + 1) = k + 1 + i by omega]; exact hI)
      rw [show k + (i + 1) + 1 = k + 1 + i + 1 by omega] at z
      exact z
    · rw [List.length_cons, show k + (its.length + 1) = k + 1 + its.length by omega]; exact hI
end TL

set_option Elab.async false
set_option linter.all false
set_option maxRecDepth 100000
set_option maxHeartbeats 4000000
set_option autoImplicit false
/-! TLt0: fractions as texts (k81-k88). -/
namespace TL
open PySem PySem.Spec PyProof.Rows L2
abbrev Sc (l : List Nat) : Str := SX.S l
def okC (l : List Nat) : Bool := l.all (· < 0x110000)
theorem okC_str {l : List Nat} (h : okC l = true) : PyData.strOk (Sc l) = true := by
  unfold PyData.strOk
  rw [← Array.all_toList]; exact h
theorem okC_take {l : List Nat} {n : Nat} (h : okC l = true) : okC (l.take n) = true := by
  unfold okC at *
  rw [List.all_eq_true] at *
  exact fun x hx => h x (List.mem_of_mem_take hx)
theorem okC_drop {l : List Nat} {n : Nat} (h : okC l = true) : okC (l.drop n) = true := by
  unfold okC at *
  rw [List.all_eq_true] at *
  exact fun x hx => h x (List.mem_of_mem_drop hx)
section
variable {S : SS} {Q : KQ} {l m : List Nat} {τ : Sg}
theorem len_S (h : l.length ≤ sizeLine) : lenR [.str (Sc l)] S Q = Q (.int l.length) S := by
  show ((Sc l).length ≤ sizeLine ∧ Q (.int (Sc l).length) S) = _
  rw [SX.S_len]
  exact propext ⟨fun z => z.2, fun z => ⟨h, z⟩⟩
theorem ix0_S {c : Nat} (h : (c :: l).length ≤ sizeLine) : ixR (.str (Sc (c :: l))) (.int 0) S Q = Q (.str (Sc [c])) S := by
  have e : atI (Sc (c :: l)).cps.toList 0 = some c := by
    show atI (c :: l) 0 = some c
    simp [atI, ixN]
  show ((Sc (c :: l)).length ≤ sizeLine ∧ (match atI (Sc (c :: l)).cps.toList 0 with
    | some ch => Q (.str ⟨#[ch]⟩) S
    | none => False)) = _
  rw [e, SX.S_len]
  exact propext ⟨fun z => z.2, fun z => ⟨h, z⟩⟩
theorem to_S {mu : Bool} {k : Nat} (h : l.length ≤ sizeLine) : slR mu (.str (Sc l)) none (some (k : Int)) S Q = Q (.str (Sc (l.take k))) S := by
  show ((Sc l).length ≤ sizeLine ∧ Q (.str (cutS (Sc l) none (some (k : Int)))) S) = _
  have e : cutS (Sc l) none (some (k : Int)) = Sc (l.take k) := (C8.cutS_slice _ _ _).trans (SX.slice_to (i := (k : Int)) (by omega))
  rw [e, SX.S_len]
  exact propext ⟨fun z => z.2, fun z => ⟨h, z⟩⟩
theorem from_S {mu : Bool} {k : Nat} (h : l.length ≤ sizeLine) : slR mu (.str (Sc l)) (some (k : Int)) none S Q = Q (.str (Sc (l.drop k))) S := by
  show ((Sc l).length ≤ sizeLine ∧ Q (.str (cutS (Sc l) (some (k : Int)) none)) S) = _
  have e : cutS (Sc l) (some (k : Int)) none = Sc (l.drop k) := (C8.cutS_slice _ _ _).trans (SX.slice_from (i := (k : Int)) (by omega))
  rw [e, SX.S_len]
  exact propext ⟨fun z => z.2, fun z => ⟨h, z⟩⟩
theorem eq_S (h1 : okC l = true) (h2 : okC m = true) : cmpR .Eq (.str (Sc l)) (.str (Sc m)) S Q = Q (.bl (decide (l = m))) S := by
  rw [q_eqS (okC_str h1) (okC_str h2), SX.S_beq_eq]
theorem ne_S (h1 : okC l = true) (h2 : okC m = true) : cmpR .NotEq (.str (Sc l)) (.str (Sc m)) S Q = Q (.bl (!decide (l = m))) S := by
  rw [q_neS (okC_str h1) (okC_str h2)]
  show Q (.bl (!(Sc l == Sc m))) S = _
  rw [SX.S_beq_eq]
def figs : List Nat := [48, 49, 50, 51, 52, 53, 54, 55, 56, 57]
theorem in_S {c : Nat} : cmpR .In (.str ⟨#[c]⟩) (.str (Sc l)) S Q = Q (.bl (decide (c ∈ l))) S := by
  show Q (.bl (false ^^ !(Builtin.Str.occurrences (Sc l) (Sc [c]) 0 (Sc l).length 1).isEmpty)) S = _
  rw [SX.in_one, Bool.false_xor]
theorem signs_S : signs (Sc l) = l.map fun c => T.str ⟨#[c]⟩ := rfl
@[simp] theorem q_strI {d : DE} {Q : List T → (SS → Prop) → SS → Prop} : strI d τ S Q = d τ S fun t S1 => match t with
  | .str z => Q (signs z) (fun _ => True) S1
  | _ => False := rfl
@[simp] theorem q_fmt {d : DE} : fmtD d τ S Q = d τ S fun t S1 => match t with
  | .str y => y.length ≤ sizeLine ∧ Q (.str y) S1
  | .int i => i.natAbs.log2 < 1920 ∧ Q (.str (toString i)) S1
  | _ => False := rfl
end
/-! ### a whole number read -/
def digB (c : Nat) : Bool := decide (c ∈ figs)
theorem digB_iff {c : Nat} : digB c = true ↔ 48 ≤ c ∧ c ≤ 57 := by
  unfold digB figs
  simp only [decide_eq_true_eq, List.mem_cons, List.not_mem_nil, or_false]
  omega
def wholeC (l : List Nat) : Option Nat := if 1 ≤ l.length ∧ l.length ≤ 400 ∧ l.all digB = true ∧ ¬ (l.head? = some 48 ∧ l ≠ [48]) then some (NumText.digitsVal l) else none
def tO : Option Nat → T
  | none => .non
  | some n => .int (n : Nat)
theorem int_word {l : List Nat} (h1 : l ≠ []) (h2 : l.length ≤ 400) (hd : l.all digB = true) {S : SS} {Q : KQ} : intSR [.str (Sc l)] S Q = Q (.int (NumText.digitsVal l : Nat)) S := by
  have a : l.all (fun c => decide (48 ≤ c) && decide (c ≤ 57)) = true := by
    rw [List.all_eq_true] at *
    intro c hc
    have := digB_iff.mp (hd c hc)
    simp [this]
  have e : PySem.intText? (Sc l) = some ((NumText.digitsVal l : Nat) : Int) := SX.int_S a h1 (by omega)
  show ((Sc l).length ≤ 640 ∧ (match PySem.intText? (Sc l) with
    | some n => Q (.int n) S
    | none => False)) = _
  rw [e, SX.S_len]
  exact propext ⟨fun z => z.2, fun z => ⟨by omega, z⟩⟩
def sp_whole_of : TSp := fun ts S Q E => ∃ l : List Nat, ts = [.str (Sc l)] ∧ okC l = true ∧ l.length ≤ 1000000 ∧ Q (tO (wholeC l)) S
theorem len_whole_of (ts S Q E) (h : sp_whole_of ts S Q E) : ts.length = 1 := by obtain ⟨_, rfl, _⟩ := h; rfl
theorem whole_ap {l : List Nat} {S : SS} {Q : KQ} {E : Exn → SS → Prop} (h1 : okC l = true) (h2 : l.length ≤ 1000000) (h : Q (tO (wholeC l)) S) : sp_whole_of [.str (Sc l)] S Q E := ⟨l, rfl, h1, h2, h⟩
def b_whole_of (W : XW) : DS :=
  (seqD
    (ifD (orT (notT (tstD (chD (cmpR .LtE) (cmpR .LtE) (cD (.int 1)) (callB lenR (consA (rdD 0) nilA)) (cD (.int 400))))) (notT (truD (callB (allR fun bs => bs.all id) (consA (lcD false [1] (strI (rdD 0)) (.nm 1) (fun _ S Q => Q true S) (opD (cmpR .In) (rdD 1) (cD (.str "0123456789")))) nilA)))))
      (seqD
        (retD (cD .non))
      nextD)
      nextD)
  (seqD
    (ifD (andT (tstD (opD (cmpR .Eq) (opD ixR (rdD 0) (cD (.int 0))) (cD (.str "0")))) (tstD (opD (cmpR .NotEq) (rdD 0) (cD (.str "0")))))
      (seqD
        (retD (cD .non))
      nextD)
      nextD)
  (seqD
    (retD (callB intSR (consA (rdD 0) nilA)))
  nextD)))
theorem law_whole_of {ts : List T} {S : SS} {Q : KQ} {E : Exn → SS → Prop} (h : sp_whole_of ts S Q E) : b_whole_of (fun x _ S' => E x S') { nx := fun _ S' => Q .non S', rt := Q } (start' 2 ts) S := by
  obtain ⟨l, rfl, ok, hl, h⟩ := h
  have sl : sizeLine = 16777216 := rfl
  have eF : (("0123456789" : Str)) = Sc figs := by decide +kernel
  have e0 : (("0" : Str)) = Sc [48] := by decide +kernel
  have ok0 : okC [48] = true := by decide
  unfold wholeC at h
  unfold b_whole_of start'
  simp -implicitDefEqProofs [len_S (l := l) (by omega)]
  by_cases c1 : (1 : Int) ≤ l.length
  · have n1 : 1 ≤ l.length := by omega
    by_cases c2 : (l.length : Int) ≤ 400
    · have n2 : l.length ≤ 400 := by omega
      simp -implicitDefEqProofs [c1, c2, signs_S]
      refine lcL_gen (l := l) (emb := fun c => T.str ⟨#[c]⟩) (g := fun _ => true) (f := fun c => .bl (digB c)) (fun c hc => ⟨_, rfl, fun QT K => K, fun _ K z => ?_⟩) (by simp; omega) ?_
      · simp -implicitDefEqProofs
        rw [eF, in_S]
        exact z
      rw [List.nil_append, filt_true, q_newF]
      have em : l.map (fun c => T.bl (digB c)) = (l.map digB).map T.bl := by rw [List.map_map]; rfl
      rw [em]
      refine allbl.mpr ?_
      have ea : (l.map digB).all id = l.all digB := by rw [List.all_map]; rfl
      rw [ea]
      cases hd : l.all digB with
      | false =>
        rw [if_neg (by rw [hd]; simp)] at h
        simp -implicitDefEqProofs
        exact h
      | true =>
        obtain ⟨c, r, rfl⟩ : ∃ c r, l = c :: r := by
          cases l with
          | nil => simp at n1
          | cons c r => exact ⟨c, r, rfl⟩
        have okc : okC [c] = true := by
          unfold okC at ok ⊢
          simp only [List.all_cons, Bool.and_eq_true] at ok ⊢
          exact ⟨ok.1, rfl⟩
        simp -implicitDefEqProofs [ix0_S (c := c) (l := r) (by omega)]
        rw [e0]
        simp -implicitDefEqProofs [eq_S okc ok0, ne_S ok ok0]
        have iw : ∀ (Q : KQ), intSR [.str (Sc (c :: r))] S Q = Q (.int (NumText.digitsVal (c :: r) : Nat)) S := fun Q => int_word (by simp) n2 hd
        by_cases c3 : c = 48
        · by_cases c4 : r = []
          · subst c3 c4
            rw [if_pos ⟨n1, n2, hd, fun z => z.2 rfl⟩] at h
            simp -implicitDefEqProofs [iw]
            exact h
          · subst c3
            rw [if_neg (fun z => z.2.2.2 ⟨rfl, fun y => c4 (by injection y)⟩)] at h
            simp -implicitDefEqProofs [c4]
            exact h
        · rw [if_pos ⟨n1, n2, hd, fun z => c3 (by simpa using z.1)⟩] at h
          simp -implicitDefEqProofs [c3, iw]
          exact h
    · rw [if_neg (fun z => c2 (by omega))] at h
      simp -implicitDefEqProofs [c1, c2]
      exact h
  · rw [if_neg (fun z => c1 (by omega))] at h
    simp -implicitDefEqProofs [c1]
    exact h
/-! ### a whole number, perhaps below nought -/
def tZ : Option Int → T
  | none => .non
  | some n => .int n
def upperC (l : List Nat) : Option Int := if l.take 1 = [45] then (match wholeC (l.drop 1) with
    | none => none
    | some 0 => none
    | some n => some (0 - (n : Int))) else (match wholeC l with
    | none => none
    | some n => some (n : Int))
def sp_upper_of : TSp := fun ts S Q E => ∃ l : List Nat, ts = [.str (Sc l)] ∧ okC l = true ∧ l.length ≤ 1000000 ∧ Q (tZ (upperC l)) S
theorem len_upper_of (ts S Q E) (h : sp_upper_of ts S Q E) : ts.length = 1 := by obtain ⟨_, rfl, _⟩ := h; rfl
def b_upper_of (W : XW) : DS :=
  (seqD
    (ifD (tstD (opD (cmpR .NotEq) (slD false (rdD 0) noneO (someO (cD (.int 1)))) (cD (.str "-"))))
      (seqD
        (retD (callF sp_whole_of W (consA (rdD 0) nilA)))
      nextD)
      nextD)
  (seqD
    (asgD (callF sp_whole_of W (consA (slD false (rdD 0) (someO (cD (.int 1))) noneO) nilA)) (.nm 1))
  (seqD
    (retD (ifE (orT (tstD (opD (cmpR .Is) (rdD 1) (cD .non))) (tstD (opD (cmpR .Eq) (rdD 1) (cD (.int 0))))) (cD .non) (opD (binR false .Sub) (cD (.int 0)) (rdD 1))))
  nextD)))
theorem law_upper_of {ts : List T} {S : SS} {Q : KQ} {E : Exn → SS → Prop} (h : sp_upper_of ts S Q E) : b_upper_of (fun x _ S' => E x S') { nx := fun _ S' => Q .non S', rt := Q } (start' 2 ts) S := by
  obtain ⟨l, rfl, ok, hl, h⟩ := h
  have sl : sizeLine = 16777216 := rfl
  have em : (("-" : Str)) = Sc [45] := by decide +kernel
  have okm : okC [45] = true := by decide
  have t1 : ∀ (S : SS) (Q : KQ), slR false (.str (Sc l)) none (some 1) S Q = Q (.str (Sc (l.take 1))) S := fun S Q => to_S (k := 1) (by omega)
  have okd : okC (l.drop 1) = true := okC_drop ok
  have ld : (l.drop 1).length ≤ 1000000 := by rw [List.length_drop]; omega
  have d1 : ∀ (S : SS) (Q : KQ), slR false (.str (Sc l)) (some 1) none S Q = Q (.str (Sc (l.drop 1))) S := fun S Q => from_S (k := 1) (by omega)
  have n1 : T.isNon .non = true := rfl
  have n2 : ∀ i : Int, T.isNon (.int i) = false := fun _ => rfl
  unfold upperC at h
  generalize l.drop 1 = m at h okd ld d1
  unfold b_upper_of start'
  simp -implicitDefEqProofs [t1, d1]
  rw [em]
  simp -implicitDefEqProofs [ne_S (okC_take ok) okm]
  by_cases c : l.take 1 = [45]
  · rw [if_pos c] at h
    simp -implicitDefEqProofs [c]
    refine whole_ap okd ld ?_
    cases e : wholeC m with
    | none =>
      rw [e] at h
      simp -implicitDefEqProofs [tO, n1]
      exact h
    | some n =>
      rw [e] at h
      cases n with
      | zero =>
        simp -implicitDefEqProofs [tO, n2]
        exact h
      | succ n =>
        have nz : ¬ ((n + 1 : Nat) : Int) = 0 := by omega
        simp -implicitDefEqProofs [tO, n2, nz]
        exact h
  · rw [if_neg c] at h
    simp -implicitDefEqProofs [c]
    refine whole_ap ok hl ?_
    cases e : wholeC l with
    | none =>
      rw [e] at h
      exact h
    | some n =>
      rw [e] at h
      exact h
/-! ### a fraction read -/
theorem spl_sub (sep : List Nat) : ∀ (l : List Nat) (k : Nat) (acc p : List Nat), p ∈ spl sep k acc l → (∀ c, c ∈ p → c ∈ acc ∨ c ∈ l) ∧ p.length ≤ acc.length + l.length
  | [], k, acc, p, h => by
    rw [spl_nil] at h
    rw [List.mem_singleton.mp h]
    exact ⟨fun c hc => .inl hc, Nat.le_refl _⟩
  | c :: r, 0, acc, p, h => by
    have e : spl sep 0 acc (c :: r) = if pre sep (c :: r) = true then acc :: spl sep (sep.length - 1) [] r else spl sep 0 (acc ++ [c]) r := rfl
    rw [e] at h
    split at h
    · rcases List.mem_cons.mp h with h | h
      · subst h
        exact ⟨fun d hd => .inl hd, by omega⟩
      · obtain ⟨a, b⟩ := spl_sub sep r _ _ p h
        refine ⟨fun d hd => ?_, by rw [List.length_nil] at b; rw [List.length_cons]; omega⟩
        rcases a d hd with z | z
        · cases z
        · exact .inr (List.mem_cons_of_mem _ z)
    · obtain ⟨a, b⟩ := spl_sub sep r _ _ p h
      refine ⟨fun d hd => ?_, by rw [List.length_append, List.length_singleton] at b; rw [List.length_cons]; omega⟩
      rcases a d hd with z | z
      · rcases List.mem_append.mp z with z | z
        · exact .inl z
        · rw [List.mem_singleton.mp z]; exact .inr List.mem_cons_self
      · exact .inr (List.mem_cons_of_mem _ z)
  | c :: r, k + 1, acc, p, h => by
    have e : spl sep (k + 1) acc (c :: r) = spl sep k acc r := rfl
    rw [e] at h
    obtain ⟨a, b⟩ := spl_sub sep r _ _ p h
    refine ⟨fun d hd => ?_, by rw [List.length_cons]; omega⟩
    rcases a d hd with z | z
    · exact .inl z
    · exact .inr (List.mem_cons_of_mem _ z)
theorem spl_len (sep : List Nat) : ∀ (l : List Nat) (k : Nat) (acc : List Nat), 1 ≤ (spl sep k acc l).length ∧ (spl sep k acc l).length ≤ l.length + 1
  | [], k, acc => by rw [spl_nil]; simp
  | c :: r, 0, acc => by
    have e : spl sep 0 acc (c :: r) = if pre sep (c :: r) = true then acc :: spl sep (sep.length - 1) [] r else spl sep 0 (acc ++ [c]) r := rfl
    rw [e]
    split
    · have := spl_len sep r (sep.length - 1) []
      rw [List.length_cons, List.length_cons]; omega
    · have := spl_len sep r 0 (acc ++ [c])
      rw [List.length_cons]; omega
  | c :: r, k + 1, acc => by
    have e : spl sep (k + 1) acc (c :: r) = spl sep k acc r := rfl
    rw [e]
    have := spl_len sep r k acc
    rw [List.length_cons]; omega
theorem okC_of {l m : List Nat} (h : okC l = true) (k : ∀ c, c ∈ m → c ∈ l) : okC m = true := by
  unfold okC at *
  rw [List.all_eq_true] at *
  exact fun c hc => h c (k c hc)
theorem split_ap {l : List Nat} {c : Nat} (hc : c < 256) (hl : l.length ≤ 1000000) {S : SS} {Q : KQ} : splitR (.str (Sc l)) [.str (Sc [c])] S Q = Q (.lst ((spl [c] 0 [] l).map fun p => T.str (Sc p))) S := by
  have sl : sizeLine = 16777216 := rfl
  have e : Txt.split (Sc l) (Sc [c]) = (spl [c] 0 [] l).map SX.S := SX.split_S (by simp) (by simpa using hc)
  show (((Sc [c]).length == 0) = false ∧ (Sc l).length + 2 ≤ sizeLine ∧ newL false ((Txt.split (Sc l) (Sc [c])).map T.str) S Q) = _
  rw [e, q_newF, SX.S_len, SX.S_len, List.map_map]
  exact propext ⟨fun z => z.2.2, fun z => ⟨rfl, by omega, z⟩⟩
def frT (a b : Int) : T := if isFr (.tup [.int a, .int b]) = true then .tup [.int a, .int b] else .non
def fracP : List (List Nat) → T
  | [p] => (match upperC p with
    | none => .non
    | some a => frT a 1)
  | [p, q] => (match wholeC q with
    | none => .non
    | some b => if b = 1 then .non else (match upperC p with
      | none => .non
      | some a => frT a b))
  | _ => .non
theorem fracP_one {p : List Nat} : fracP [p] = (match upperC p with
    | none => .non
    | some a => frT a 1) := rfl
theorem fracP_two {p q : List Nat} : fracP [p, q] = (match wholeC q with
    | none => .non
    | some b => if b = 1 then .non else (match upperC p with
      | none => .non
      | some a => frT a b)) := rfl
theorem fracP_more {p q r : List Nat} {ps : List (List Nat)} : fracP (p :: q :: r :: ps) = .non := rfl
def fracT (l : List Nat) : T := fracP (spl [47] 0 [] l)
def sp_fraction_of : TSp := fun ts S Q E => ∃ l : List Nat, ts = [.str (Sc l)] ∧ okC l = true ∧ l.length ≤ 1000000 ∧ Q (fracT l) S
theorem len_fraction_of (ts S Q E) (h : sp_fraction_of ts S Q E) : ts.length = 1 := by obtain ⟨_, rfl, _⟩ := h; rfl
def b_fraction_of (W : XW) : DS :=
  (seqD
    (asgD (methD "str" splitR (rdD 0) (consA (cD (.str "/")) nilA)) (.nm 1))
  (seqD
    (asgD (callF sp_upper_of W (consA (opD ixR (rdD 1) (cD (.int 0))) nilA)) (.nm 2))
  (seqD
    (asgD (cD (.int 1)) (.nm 3))
  (seqD
    (ifD (tstD (opD (cmpR .Eq) (callB lenR (consA (rdD 1) nilA)) (cD (.int 2))))
      (seqD
        (asgD (callF sp_whole_of W (consA (opD ixR (rdD 1) (cD (.int 1))) nilA)) (.nm 3))
      (seqD
        (ifD (tstD (opD (cmpR .Eq) (rdD 3) (cD (.int 1))))
          (seqD
            (retD (cD .non))
          nextD)
          nextD)
      nextD))
      nextD)
  (seqD
    (ifD (orT (tstD (opD (cmpR .Gt) (callB lenR (consA (rdD 1) nilA)) (cD (.int 2)))) (orT (tstD (opD (cmpR .Is) (rdD 2) (cD .non))) (orT (tstD (opD (cmpR .Is) (rdD 3) (cD .non))) (notT (truD (callF sp_is_fraction W (consA (tupD (consA (rdD 2) (consA (rdD 3) nilA))) nilA)))))))
      (seqD
        (retD (cD .non))
      nextD)
      nextD)
  (seqD
    (retD (tupD (consA (rdD 2) (consA (rdD 3) nilA))))
  nextD))))))
theorem okT_ii (a b : Int) : okT (.tup [.int a, .int b]) := ⟨rfl, fun l e x hx => by
  injection e with e
  subst e
  simp only [List.mem_cons, List.not_mem_nil, or_false] at hx
  rcases hx with rfl | rfl <;> rfl⟩
theorem eq_O1 {o : Option Nat} {S : SS} {Q : KQ} : cmpR .Eq (tO o) (.int 1) S Q = Q (.bl (decide (o = some 1))) S := by
  cases o with
  | none =>
    show (_ ∧ _ ∧ Q (.bl (false ^^ T.eqv .non (.int 1))) S) = _
    have e : T.eqv .non (.int 1) = false := by decide +kernel
    rw [e]
    exact propext ⟨fun z => z.2.2, fun z => ⟨rfl, rfl, z⟩⟩
  | some n =>
    show (_ ∧ _ ∧ Q (.bl (false ^^ T.eqv (.int (n : Nat)) (.int 1))) S) = _
    rw [eqv_int, Bool.false_xor]
    have e : decide ((n : Int) = 1) = decide (some n = some 1) := by
      rw [decide_eq_decide]
      constructor
      · intro z; congr 1; omega
      · intro z; injection z with z; omega
    rw [e]
    exact propext ⟨fun z => z.2.2, fun z => ⟨rfl, rfl, z⟩⟩
theorem non_O {o : Option Nat} : (tO o).isNon = o.isNone := by cases o <;> rfl
theorem non_Z {o : Option Int} : (tZ o).isNon = o.isNone := by cases o <;> rfl
theorem law_fraction_of {ts : List T} {S : SS} {Q : KQ} {E : Exn → SS → Prop} (h : sp_fraction_of ts S Q E) : b_fraction_of (fun x _ S' => E x S') { nx := fun _ S' => Q .non S', rt := Q } (start' 4 ts) S := by
  obtain ⟨l, rfl, ok, hl, h⟩ := h
  have es : (("/" : Str)) = Sc [47] := by decide +kernel
  have tS : ∀ S : SS, tyT S "str" (.str (Sc l)) := fun S => .inr ⟨rfl, rfl⟩
  have sub := spl_sub [47] l 0 []
  have ln := spl_len [47] l 0 []
  unfold fracT at h
  unfold b_fraction_of start'
  simp -implicitDefEqProofs [tS]
  rw [es, split_ap (by decide) hl]
  have okp : ∀ p, p ∈ spl [47] 0 [] l → okC p = true ∧ p.length ≤ 1000000 := fun p hp => by
    obtain ⟨a, b⟩ := sub p hp
    rw [List.length_nil] at b
    exact ⟨okC_of ok fun c hc => (a c hc).resolve_left (by simp), by omega⟩
  generalize spl [47] 0 [] l = ps at h ln okp
  have i0 : ∀ (p : List Nat) (L : List T) (S : SS) (Q : KQ), ixR (.lst (T.str (Sc p) :: L)) (.int 0) S Q = Q (.str (Sc p)) S := fun p L S Q => by
    have e : atI (T.str (Sc p) :: L) 0 = some (.str (Sc p)) := by simp [atI, ixN]
    show (match atI (T.str (Sc p) :: L) 0 with
      | some t => Q t S
      | none => False) = _
    rw [e]
  have i1 : ∀ (t : T) (q : List Nat) (L : List T) (S : SS) (Q : KQ), ixR (.lst (t :: T.str (Sc q) :: L)) (.int 1) S Q = Q (.str (Sc q)) S := fun t q L S Q => by
    have c : (1 : Int) < (L.length : Int) + 1 + 1 := by omega
    have e : atI (t :: T.str (Sc q) :: L) 1 = some (.str (Sc q)) := by simp [atI, ixN, c]
    show (match atI (t :: T.str (Sc q) :: L) 1 with
      | some t => Q t S
      | none => False) = _
    rw [e]
  have upper : ∀ (p : List Nat) (S : SS) (Q : KQ) (E : Exn → SS → Prop), p ∈ ps → Q (tZ (upperC p)) S → sp_upper_of [.str (Sc p)] S Q E := fun p S Q E hp h => ⟨p, rfl, (okp p hp).1, (okp p hp).2, h⟩
  have n1 : T.isNon .non = true := rfl
  have n2 : ∀ i : Int, T.isNon (.int i) = false := fun _ => rfl
  have fin : ∀ a b : Int, Q (frT a b) S → sp_is_fraction [.tup [.int a, .int b]] S (fun x S1 => truR x S1 fun k S1 => match !k with
      | true => Q .non S1
      | false => Q (.tup [.int a, .int b]) S1) fun x S2 => E x S2 := fun a b h => by
    unfold frT at h
    refine (ap_is_fraction (okT_ii a b)).mpr ?_
    cases c : isFr (.tup [.int a, .int b]) with
    | true =>
      rw [if_pos c] at h
      simp -implicitDefEqProofs
      exact h
    | false =>
      rw [if_neg (by rw [c]; simp)] at h
      simp -implicitDefEqProofs
      exact h
  match ps with
  | [] => simp at ln
  | [p] =>
    rw [fracP_one] at h
    simp -implicitDefEqProofs [i0]
    refine upper p _ _ _ (by simp) ?_
    cases e : upperC p with
    | none =>
      rw [e] at h
      simp -implicitDefEqProofs [tZ, n1]
      exact h
    | some a =>
      rw [e] at h
      simp -implicitDefEqProofs [tZ, n2]
      exact fin a 1 h
  | [p, q] =>
    rw [fracP_two] at h
    simp -implicitDefEqProofs [i0, i1]
    refine upper p _ _ _ (by simp) ?_
    try simp -implicitDefEqProofs
    refine whole_ap (okp q (by simp)).1 (okp q (by simp)).2 ?_
    simp -implicitDefEqProofs [eq_O1, non_O, non_Z]
    cases e : wholeC q with
    | none =>
      rw [e] at h
      cases e2 : upperC p with
      | none =>
        simp -implicitDefEqProofs
        exact h
      | some a =>
        simp -implicitDefEqProofs
        exact h
    | some b =>
      rw [e] at h
      by_cases c : b = 1
      · have h : Q (if b = 1 then .non else (match upperC p with
          | none => .non
          | some a => frT a b)) S := h
        rw [if_pos c] at h
        simp -implicitDefEqProofs [c]
        exact h
      · have h : Q (if b = 1 then .non else (match upperC p with
          | none => .non
          | some a => frT a b)) S := h
        rw [if_neg c] at h
        cases e2 : upperC p with
        | none =>
          rw [e2] at h
          simp -implicitDefEqProofs [c]
          exact h
        | some a =>
          rw [e2] at h
          simp -implicitDefEqProofs [c, tZ, tO]
          exact fin a b h
  | p :: q :: r :: ps =>
    rw [fracP_more] at h
    have c1 : ¬ ((ps.length : Int) + 1 + 1 + 1 = 2) := by omega
    have c2 : (2 : Int) < (ps.length : Int) + 1 + 1 + 1 := by omega
    simp -implicitDefEqProofs [i0, i1]
    refine upper p _ _ _ (by simp) ?_
    simp -implicitDefEqProofs [c1, c2]
    exact h
/-! ### written -/
/-- the text of a fraction -/
def txtZ (i : Int) : List Nat := if i < 0 then 45 :: numL i.natAbs else numL i.natAbs
def txtQ (q : Rat) : List Nat := txtZ q.num ++ if q.den = 1 then [] else 47 :: numL q.den
theorem numL_lt2 {n k : Nat} (h : n < 10 ^ k) (hk : 0 < k) : (numL n).length ≤ k := numL_len hk h
theorem txtZ_S (i : Int) : (toString i : Str) = Sc (txtZ i) := by
  unfold txtZ
  by_cases h : i < 0
  · rw [if_pos h]
    obtain ⟨n, rfl⟩ : ∃ n : Nat, i = Int.negSucc n := by
      cases i with
      | ofNat n => exact absurd h (by simp)
      | negSucc n => exact ⟨n, rfl⟩
    have e : (Int.negSucc n).natAbs = n + 1 := rfl
    rw [e]
    have a : toString (Int.negSucc n) = "-" ++ toString ((n + 1 : Nat) : Int) := rfl
    have b := SX.num_S (n + 1)
    have tlo : ∀ s : String, (Str.ofString s).cps.toList = s.toList.map Char.toNat := fun s => by rw [Str.ofString_eq_toList]
    have b' := congrArg (fun z : Str => z.cps.toList) b
    have b' : (Str.ofString (toString ((n + 1 : Nat) : Int))).cps.toList = numL (n + 1) := b'
    rw [tlo] at b'
    rw [a]
    refine TL.ext_tl ?_
    show (Str.ofString ("-" ++ toString ((n + 1 : Nat) : Int))).cps.toList = 45 :: numL (n + 1)
    rw [tlo, String.toList_append, List.map_append, b']
    rfl
  · rw [if_neg h]
    have e : ((i.natAbs : Nat) : Int) = i := by omega
    have b := SX.num_S i.natAbs
    rw [e] at b
    exact b
theorem log_txt {n : Nat} (h : n < 10 ^ 400) : n.log2 < 1920 := by
  by_cases c : n = 0
  · subst c; decide
  · exact (Nat.log2_lt c).mpr (Nat.lt_of_lt_of_le h (by decide +kernel))
def sp_fraction_text : TSp := fun ts S Q E => ∃ q : Rat, ts = [tR q] ∧ q.num.natAbs < 10 ^ 400 ∧ q.den < 10 ^ 400 ∧ Q (.str (Sc (txtQ q))) S
theorem len_fraction_text (ts S Q E) (h : sp_fraction_text ts S Q E) : ts.length = 1 := by obtain ⟨_, rfl, _⟩ := h; rfl
def b_fraction_text (W : XW) : DS :=
  (seqD
    (retD (ifE (tstD (opD (cmpR .Eq) (opD ixR (rdD 0) (cD (.int 1))) (cD (.int 1)))) (callB strTR (consA (opD ixR (rdD 0) (cD (.int 0))) nilA)) (joinD [(fmtD (opD ixR (rdD 0) (cD (.int 0)))), (cD (.str "/")), (fmtD (opD ixR (rdD 0) (cD (.int 1))))])))
  nextD)
theorem txtZ_len {i : Int} (h : i.natAbs < 10 ^ 400) : (txtZ i).length ≤ 401 := by
  have := numL_len (k := 400) (by decide) h
  unfold txtZ
  split
  · rw [List.length_cons]; omega
  · omega
theorem str_int {i : Int} (h : i.natAbs < 10 ^ 400) {S : SS} {Q : KQ} : strTR [.int i] S Q = Q (.str (Sc (txtZ i))) S := by
  show (i.natAbs.log2 < 1920 ∧ Q (.str (toString i)) S) = _
  rw [txtZ_S]
  exact propext ⟨fun z => z.2, fun z => ⟨log_txt h, z⟩⟩
theorem fmt_int {i : Int} {d : DE} {τ : Sg} {S : SS} {Q : KQ} (h : i.natAbs < 10 ^ 400) (hd : ∀ K : KQ, d τ S K = K (.int i) S) : fmtD d τ S Q = Q (.str (Sc (txtZ i))) S := by
  rw [q_fmt, hd]
  show (i.natAbs.log2 < 1920 ∧ Q (.str (toString i)) S) = _
  rw [txtZ_S]
  exact propext ⟨fun z => z.2, fun z => ⟨log_txt h, z⟩⟩
theorem js_c {d : DE} {ds : List DE} {a y : List Nat} {τ : Sg} {S : SS} {Q : KQ} (hd : ∀ K : KQ, d τ S K = K (.str (Sc y)) S) : jsL (d :: ds) (Sc a) τ S Q = ((a ++ y).length ≤ sizeLine ∧ jsL ds (Sc (a ++ y)) τ S Q) := by
  show d τ S _ = _
  rw [hd]
  show ((Sc a ++ Sc y).length ≤ sizeLine ∧ jsL ds (Sc a ++ Sc y) τ S Q) = _
  have e : Sc a ++ Sc y = Sc (a ++ y) := SX.S_cat _ _
  rw [e, SX.S_len]
theorem law_fraction_text {ts : List T} {S : SS} {Q : KQ} {E : Exn → SS → Prop} (h : sp_fraction_text ts S Q E) : b_fraction_text (fun x _ S' => E x S') { nx := fun _ S' => Q .non S', rt := Q } (start' 1 ts) S := by
  obtain ⟨q, rfl, h1, h2, h⟩ := h
  have sl : sizeLine = 16777216 := rfl
  have es : (("/" : Str)) = Sc [47] := by decide +kernel
  unfold txtQ at h
  unfold b_fraction_text start'
  simp -implicitDefEqProofs
  by_cases c : (q.den : Int) = 1
  · have c' : q.den = 1 := by omega
    rw [if_pos c', List.append_nil] at h
    simp -implicitDefEqProofs [c, str_int h1]
    exact h
  · have c' : ¬ q.den = 1 := by omega
    rw [if_neg c'] at h
    simp -implicitDefEqProofs [c]
    have hd2 : ((q.den : Nat) : Int).natAbs < 10 ^ 400 := by rw [Int.natAbs_natCast]; exact h2
    have f1 : ∀ (Q : KQ), fmtD (opD ixR (rdD 0) (cD (.int 0))) [some (tR q)] S Q = Q (.str (Sc (txtZ q.num))) S := fun Q => fmt_int h1 fun K => by simp -implicitDefEqProofs
    have f2 : ∀ (Q : KQ), fmtD (opD ixR (rdD 0) (cD (.int 1))) [some (tR q)] S Q = Q (.str (Sc (txtZ q.den))) S := fun Q => fmt_int hd2 fun K => by simp -implicitDefEqProofs
    have l1 := txtZ_len h1
    have l2 := txtZ_len hd2
    have ed : txtZ ((q.den : Nat) : Int) = numL q.den := by unfold txtZ; rw [if_neg (by omega), Int.natAbs_natCast]
    rw [ed] at l2 f2
    have ea : txtZ q.num ++ 47 :: numL q.den = (([] ++ txtZ q.num) ++ [47]) ++ numL q.den := by simp
    rw [ea] at h
    show jsL _ (Sc []) _ _ _
    rw [js_c f1, js_c (y := [47]) (fun K => by rw [es]; rfl), js_c f2]
    refine ⟨by rw [List.length_append, List.length_nil]; omega, by rw [List.length_append, List.length_append, List.length_nil, List.length_singleton]; omega, by rw [List.length_append, List.length_append, List.length_append, List.length_nil, List.length_singleton]; omega, ?_⟩
    exact h
/-! ### there and back -/
def F400 (q : Rat) : Prop := q.num.natAbs < 10 ^ 400 ∧ q.den < 10 ^ 400
theorem numL_head : ∀ (n : Nat), 0 < n → (numL n).head? ≠ some 48 := by
  intro n
  induction n using Nat.strongRecOn with
  | _ n ih =>
    intro h0 e
    by_cases h : n < 10
    · rw [numL_lt h] at e
      injection e with e
      omega
    · rw [numL_step (by omega)] at e
      have ne := numL_ne (n / 10)
      refine ih (n / 10) (by omega) (by omega) ?_
      cases z : numL (n / 10) with
      | nil => exact absurd z ne
      | cons c r => rw [z] at e; exact e
theorem wholeC_num {n : Nat} (h : n < 10 ^ 400) : wholeC (numL n) = some n := by
  have l1 := numL_len (k := 400) (by decide) h
  have ne := numL_ne n
  have l0 : 1 ≤ (numL n).length := by
    cases z : numL n with
    | nil => exact absurd z ne
    | cons c r => rw [List.length_cons]; omega
  have ad : (numL n).all digB = true := by
    rw [List.all_eq_true]
    intro c hc
    exact digB_iff.mpr (numL_digits n c hc)
  have hd : ¬ ((numL n).head? = some 48 ∧ numL n ≠ [48]) := by
    rintro ⟨a, b⟩
    by_cases z : n = 0
    · subst z; exact b (by decide)
    · exact numL_head n (by omega) a
  unfold wholeC
  rw [if_pos ⟨l0, l1, ad, hd⟩, numL_val]
theorem upperC_txt {i : Int} (h : i.natAbs < 10 ^ 400) : upperC (txtZ i) = some i := by
  unfold txtZ
  by_cases c : i < 0
  · rw [if_pos c]
    unfold upperC
    rw [if_pos (by rfl), show (45 :: numL i.natAbs).drop 1 = numL i.natAbs from rfl, wholeC_num h]
    obtain ⟨n, e⟩ : ∃ n, i.natAbs = n + 1 := ⟨i.natAbs - 1, by omega⟩
    rw [e]
    show some (0 - ((n + 1 : Nat) : Int)) = _
    congr 1
    omega
  · rw [if_neg c]
    have f : (45 : Nat) ∉ numL i.natAbs := numL_free (by omega)
    unfold upperC
    rw [if_neg (fun z => f (List.mem_of_mem_take (i := 1) (by rw [z]; exact List.mem_singleton_self _))), wholeC_num h]
    show some ((i.natAbs : Nat) : Int) = _
    congr 1
    omega
theorem txtZ_free {i : Int} {s : Nat} (h : (s < 48 ∨ 57 < s) ∧ s ≠ 45) : s ∉ txtZ i := by
  unfold txtZ
  have f := numL_free (n := i.natAbs) h.1
  split
  · intro z
    rcases List.mem_cons.mp z with z | z
    · exact h.2 z
    · exact f z
  · exact f
theorem fracT_txt {q : Rat} (h : F400 q) : fracT (txtQ q) = tR q := by
  obtain ⟨h1, h2⟩ := h
  have fZ : (47 : Nat) ∉ txtZ q.num := txtZ_free (by omega)
  have fN : (47 : Nat) ∉ numL q.den := numL_free (by omega)
  have t := isFr_tR q
  unfold tR at t
  unfold fracT txtQ
  by_cases c : q.den = 1
  · rw [if_pos c, List.append_nil]
    have e := SX.spl_join (c := 47) (sep := []) (parts := [txtZ q.num]) (by simp) (fun p hp => by rw [List.mem_singleton.mp hp]; exact fZ)
    have e : spl [47] 0 [] (txtZ q.num) = [txtZ q.num] := e
    rw [e, fracP_one, upperC_txt h1]
    show frT q.num 1 = _
    rw [c] at t
    unfold frT tR
    rw [c]
    exact if_pos t
  · rw [if_neg c]
    have e := SX.spl_join (c := 47) (sep := []) (parts := [txtZ q.num, numL q.den]) (by simp) (fun p hp => by
      rcases List.mem_cons.mp hp with hp | hp
      · rw [hp]; exact fZ
      · rw [List.mem_singleton.mp hp]; exact fN)
    have e : spl [47] 0 [] (txtZ q.num ++ 47 :: numL q.den) = [txtZ q.num, numL q.den] := e
    rw [e, fracP_two, wholeC_num h2]
    show (if q.den = 1 then T.non else (match upperC (txtZ q.num) with
      | none => T.non
      | some a => frT a (q.den : Nat))) = _
    rw [if_neg c, upperC_txt h1]
    exact if_pos t
theorem numL_ok (n : Nat) : okC (numL n) = true := by
  unfold okC
  rw [List.all_eq_true]
  intro c hc
  have := numL_digits n c hc
  simp; omega
theorem txtZ_ok (i : Int) : okC (txtZ i) = true := by
  have a := numL_ok i.natAbs
  unfold txtZ
  split
  · unfold okC at a ⊢
    rw [List.all_cons, a]
    rfl
  · exact a
theorem okC_app {l m : List Nat} (h : okC l = true) (k : okC m = true) : okC (l ++ m) = true := by
  unfold okC at *
  rw [List.all_append, h, k]
  rfl
theorem txtQ_ok (q : Rat) : okC (txtQ q) = true := by
  unfold txtQ
  refine okC_app (txtZ_ok _) ?_
  split
  · rfl
  · have a := numL_ok q.den
    unfold okC at a ⊢
    rw [List.all_cons, a]
    rfl
theorem txtQ_len {q : Rat} (h : F400 q) : (txtQ q).length ≤ 802 := by
  obtain ⟨h1, h2⟩ := h
  have a := txtZ_len h1
  have b := numL_len (k := 400) (by decide) h2
  unfold txtQ
  rw [List.length_append]
  split
  · rw [List.length_nil]; omega
  · rw [List.length_cons]; omega
theorem text_ap {q : Rat} (h : F400 q) {S : SS} {Q : KQ} {E : Exn → SS → Prop} (k : Q (.str (Sc (txtQ q))) S) : sp_fraction_text [tR q] S Q E := ⟨q, rfl, h.1, h.2, k⟩
end TL

set_option Elab.async false
set_option linter.all false
set_option maxRecDepth 100000
set_option maxHeartbeats 4000000
set_option autoImplicit false
/-! TLH: slices, places, lists that grow; for the laws' own rows. -/
namespace TL
open PySem PySem.Spec PyProof.Rows L2
section
variable {α β : Type} {l : List α} {a b : Option Int} {x : α} {i : Int} {g : α → β}
theorem cutG_sub (h : x ∈ cutG l a b) : x ∈ l := by unfold cutG at h; exact List.mem_of_mem_drop (List.mem_of_mem_take h)
theorem cutG_le : (cutG l a b).length ≤ l.length := by unfold cutG; simp only [List.length_take, List.length_drop]; omega
theorem cutG_map : cutG (l.map g) a b = (cutG l a b).map g := by unfold cutG; simp [List.map_take, List.map_drop]
theorem atI_map (h0 : 0 ≤ i) (h : l[i.toNat]? = some x) : atI (l.map g) i = some (g x) := by rw [atI_nat h0, List.getElem?_map, h]; rfl
theorem atI_at (h0 : 0 ≤ i) (h : l[i.toNat]? = some x) : atI l i = some x := by rw [atI_nat h0, h]
theorem get_ex (h0 : 0 ≤ i) (h : i < l.length) : ∃ x, l[i.toNat]? = some x := ⟨_, List.getElem?_eq_getElem (by omega)⟩
theorem get_mem {n : Nat} (h : l[n]? = some x) : x ∈ l := List.mem_of_getElem? h
end
section
variable {S : SS} {Q : KQ} {p : Addr} {l : List T} {y : T}
@[simp] theorem aty_same : tyT (supd S p (.lst l)) "list" (.ref p) = True := eq_true (.inl ⟨rfl, by unfold isLs lsOf; simp only [supd_same]⟩)
theorem app_at (h : S p = some (.lst l)) : appendR (.ref p) [y] S Q = (l.length < sizeLine ∧ Q .non (supd S p (.lst (l ++ [y])))) := by unfold appendR stL; simp only [h]
@[simp] theorem app_same : appendR (.ref p) [y] (supd S p (.lst l)) Q = (l.length < sizeLine ∧ Q .non (supd S p (.lst (l ++ [y])))) := by rw [app_at supd_same, supd_supd]
@[simp] theorem q_min3 {i j k : Int} : min2R [.int i, .int j, .int k] S Q = Q (.int (min (min i j) k)) S := rfl
@[simp] theorem q_max3 {i j k : Int} : max2R [.int i, .int j, .int k] S Q = Q (.int (max (max i j) k)) S := rfl
@[simp] theorem q_inI {i : Int} {m : List T} : cmpR .In (.int i) (.tup m) S Q = (T.shps 59 m = true ∧ Q (.bl (m.any fun z => z.eqv (.int i))) S) := by
  show (_ ∧ _ ∧ Q (.bl (false ^^ _)) S) = _
  rw [Bool.false_xor]
  exact propext ⟨fun h => h.2, fun h => ⟨by simp [deref], h⟩⟩
@[simp] theorem q_notInI {i : Int} {m : List T} : cmpR .NotIn (.int i) (.tup m) S Q = (T.shps 59 m = true ∧ Q (.bl (!m.any fun z => z.eqv (.int i))) S) := by
  show (_ ∧ _ ∧ Q (.bl (true ^^ _)) S) = _
  rw [Bool.true_xor]
  exact propext ⟨fun h => h.2, fun h => ⟨by simp [deref], h⟩⟩
theorem q_slLst {mu : Bool} {l : List T} {lo hi : Option Int} : slR mu (.lst l) lo hi S Q = newL mu (cutG l lo hi) S Q := rfl
theorem sl_ap {l : List T} {lo hi : Option Int} (h : ∀ c : List T, c.length ≤ l.length → (∀ t, t ∈ c → t ∈ l) → Q (.lst c) S) : slR false (.lst l) lo hi S Q := h _ cutG_le fun _ => cutG_sub
/-- a comprehension of whatever passes -/
theorem lcL_any {P : T → Prop} {chk : SS → Prop} {tg : Tg} {tt : DT} {te : DE} {mu : Bool} {τ : Sg} (hc : chk S) : ∀ (its acc : List T), acc.length + its.length ≤ 16777215 → (∀ t, t ∈ acc → P t) →
    (∀ t, t ∈ its → ∃ τ1, bindT tg t τ = some τ1 ∧ ∀ QT : Bool → SS → Prop, (∀ b, (b = true → ∀ K : KQ, (∀ v, P v → K v S) → te τ1 S K) → QT b S) → tt τ1 S QT) →
    (∀ r, r.length ≤ acc.length + its.length → (∀ t, t ∈ r → P t) → newL mu r S Q) → lcL chk tg tt te mu τ Q its acc S
  | [], acc, hl, ha, h, fin => ⟨hc, fin acc (by simp) ha⟩
  | t :: its, acc, hl, ha, h, fin => by
    have hs : sizeLine = 16777216 := rfl
    rw [List.length_cons] at hl
    obtain ⟨τ1, e, go⟩ := h t List.mem_cons_self
    rw [q_lcL1, e]
    refine ⟨hc, go _ fun b hb => ?_⟩
    have rest : ∀ acc' : List T, acc'.length ≤ acc.length + 1 → (∀ t, t ∈ acc' → P t) → lcL chk tg tt te mu τ Q its acc' S := fun acc' la pa =>
      lcL_any hc its acc' (by omega) pa (fun u hu => h u (List.mem_cons_of_mem _ hu)) fun r lr pr => fin r (by rw [List.length_cons]; omega) pr
    cases b with
    | false => exact rest acc (by omega) ha
    | true =>
      refine hb rfl _ fun v pv => ⟨by omega, rest _ (by simp) fun u hu => ?_⟩
      rcases List.mem_append.mp hu with hu | hu
      · exact ha u hu
      · rw [List.mem_singleton] at hu; subst hu; exact pv
end
theorem enT_mem {l : List T} {t : T} (h : t ∈ enT l) : ∃ (i : Nat) (y : T), t = .tup [.int i, y] ∧ y ∈ l ∧ i < l.length := by
  unfold enT at h
  obtain ⟨i, hi, rfl⟩ := List.mem_mapIdx.mp h
  exact ⟨i, l[i], rfl, List.getElem_mem _, hi⟩
/-! ### sizes that are found by themselves -/
class Cz (n : outParam Nat) (q : Rat) : Prop where
  sm : Sm n q
section
variable {n m : Nat} {p q : Rat}
theorem Sm.n0 (h : Sm n p) : 0 < n := by
  rcases Nat.eq_zero_or_pos n with e | e
  · subst e; have := p.den_nz; have := h.2; omega
  · exact e
theorem Sm.div0 (h : Sm n p) (k : Sm m q) : Sm (n + m) (p / q) := by
  by_cases c : q = 0
  · subst c
    have := h.n0
    have e : p / 0 = 0 := by rw [Rat.div_def, Rat.inv_zero, Rat.mul_zero]
    rw [e]
    exact Sm.mono (n := 1) ⟨by decide, by decide⟩ (by omega)
  · exact h.div k c
instance Cz.add [h : Cz n p] [k : Cz m q] : Cz (n + m + 1) (p + q) := ⟨h.sm.add k.sm⟩
instance Cz.sub [h : Cz n p] [k : Cz m q] : Cz (n + m + 1) (p - q) := ⟨h.sm.sub k.sm⟩
instance Cz.mul [h : Cz n p] [k : Cz m q] : Cz (n + m) (p * q) := ⟨h.sm.mul k.sm⟩
instance Cz.div [h : Cz n p] [k : Cz m q] : Cz (n + m) (p / q) := ⟨h.sm.div0 k.sm⟩
instance Cz.neg [h : Cz n p] : Cz n (-p) := ⟨h.sm.neg⟩
instance Cz.z0 : Cz 1 0 := ⟨by decide, by decide⟩
instance Cz.z1 : Cz 1 1 := ⟨by decide, by decide⟩
theorem Cz.up (k : Nat) [h : Cz n p] (l : n ≤ k := by decide) : Sm k p := h.sm.mono l
theorem Cz.z [h : Cz n p] [k : Cz m q] (l : n + m ≤ 60000000) : Sz p q := Sz.mk h.sm k.sm l
section
variable {S : SS} {Q : KQ} {E : Exn → SS → Prop} [h : Cz n p] [k : Cz m q] (l : n + m ≤ 60000000)
include h k l
@[simp] theorem az_R2 {f : Rat → Rat → Rat} : spR2 f [tR p, tR q] S Q E ↔ Q (tR (f p q)) S := ⟨fun ⟨_, _, e, _, h⟩ => by simp only [List.cons.injEq, tR_inj, and_true] at e; obtain ⟨rfl, rfl⟩ := e; exact h, fun z => ⟨_, _, rfl, Cz.z l, z⟩⟩
@[simp] theorem az_plus : sp_plus [tR p, tR q] S Q E ↔ Q (tR (p + q)) S := ap_plusG (Cz.z l)
@[simp] theorem az_less : sp_less [tR p, tR q] S Q E ↔ Q (tR (p - q)) S := ap_lessG (Cz.z l)
@[simp] theorem az_times : sp_times [tR p, tR q] S Q E ↔ Q (tR (p * q)) S := ap_timesG (Cz.z l)
@[simp] theorem az_is_less : sp_is_less [tR p, tR q] S Q E ↔ Q (.bl (decide (p < q))) S := ap_is_lessG (Cz.z l)
@[simp] theorem az_over (h0 : q ≠ 0) : sp_over [tR p, tR q] S Q E ↔ Q (tR (p / q)) S := ap_overG (Cz.z l) h0
end
end
theorem rngT_map {lo st : Int} {n : Nat} : rngT lo st n = (List.range n).map fun i => T.int (lo + (i : Nat) * st) := rfl
theorem sIx_nat {n m : Nat} : HT.sIx n 0 (some (m : Int)) = min m n ∧ HT.sIx n n (some (m : Int)) = min m n := by
  unfold HT.sIx
  constructor <;> simp <;> omega
theorem cut_be {α : Type} {l : List α} {b e : Nat} (h : e ≤ l.length) : cutG l (some (b : Int)) (some (e : Int)) = (l.drop b).take (e - b) := by
  unfold cutG
  rw [sIx_nat.1, sIx_nat.2, Nat.min_eq_left h]
  by_cases c : b ≤ l.length
  · rw [Nat.min_eq_left c]
  · have h1 : l.drop l.length = [] := List.drop_of_length_le (Nat.le_refl _)
    have h2 : l.drop b = [] := List.drop_of_length_le (by omega)
    rw [Nat.min_eq_right (by omega), h1, h2]; simp
section
variable {S : SS} {Q : KQ} {a : Addr} {l : List T} {k : Int} {lo hi : Option Int}
@[simp] theorem q_stp {mu : Bool} {d : DE} {dl dh : DO} {τ : Sg} : stpD mu k d dl dh τ S Q = d τ S fun x S1 => dl τ S1 fun l S2 => dh τ S2 fun h S3 => stpR mu k x l h S3 Q := rfl
theorem stp_ref (h : S a = some (.lst l)) (q : ∀ c : List T, c.length ≤ l.length → (∀ t, t ∈ c → t ∈ l) → Q (.lst c) S) : stpR false k (.ref a) lo hi S Q := by
  unfold stpR lsOf
  simp only [h]
  exact q _ pickG_le fun t ht => pickG_sub ht
theorem stp_ints {ns : List Int} (q : ∀ c : List Int, c.length ≤ ns.length → (∀ t, t ∈ c → t ∈ ns) → Q (.lst (c.map T.int)) S) : stpR false k (.lst (ns.map T.int)) lo hi S Q := by
  unfold stpR lsOf
  dsimp only
  rw [pickG_map]
  exact q _ pickG_le fun t ht => pickG_sub ht
end
end TL

set_option Elab.async false
set_option linter.all false
set_option maxRecDepth 100000
set_option maxHeartbeats 4000000
set_option autoImplicit false
/-! TLbg: bags of k81-k88: drawn numbers, divisor, fractions made, figures. -/
namespace TL
open PySem PySem.Spec PyProof.Rows L2
def RL (n : Nat) (l : List T) : Prop := ∃ i j t : Int, l = [.int i, .int j, .int t] ∧ 0 ≤ i ∧ 0 ≤ j ∧ j < 2 ^ 62 ∧ 0 ≤ t ∧ t ≤ n
theorem RL.mono {n m : Nat} {l : List T} (h : RL n l) (k : n ≤ m) : RL m l := by
  obtain ⟨i, j, t, rfl, h1, h2, h3, h4, h5⟩ := h
  exact ⟨i, j, t, rfl, h1, h2, h3, h4, by omega⟩
/-- a def that draws of a pool: what is handed in beside it, how often it draws, what it tells -/
def spDraw (Ok : List T → Prop) (k : Nat) (P : List T → T → Prop) : TSp := fun ts S Q E => ∃ (r : Addr) (as : List T) (n : Nat) (l : List T), ts = .ref r :: as ∧ Ok as ∧ S r = some (.lst l) ∧ RL n l ∧ n + k < 2 ^ 20 ∧
  ∀ t S' l', P as t → S' r = some (.lst l') → ExtR r S S' → RL (n + k) l' → Q t S'
section
variable {Ok : List T → Prop} {k : Nat} {P : List T → T → Prop}
theorem draw_len {m : Nat} (h : ∀ as, Ok as → as.length = m) : ∀ ts S Q E, spDraw Ok k P ts S Q E → ts.length = m + 1 := by
  rintro _ S Q E ⟨r, as, n, l, rfl, ho, _⟩
  rw [List.length_cons, h as ho]
theorem draw_run {r : Addr} {as : List T} {n : Nat} {l : List T} {S : SS} {Q : KQ} {E : Exn → SS → Prop} (hS : S r = some (.lst l)) (hR : RL n l) (hn : n + k < 2 ^ 20) (ho : Ok as)
    (h : ∀ t S' l', P as t → S' r = some (.lst l') → ExtR r S S' → RL (n + k) l' → Q t S') : spDraw Ok k P (.ref r :: as) S Q E := ⟨r, as, n, l, rfl, ho, hS, hR, hn, h⟩
theorem ExtR.refl {r : Addr} {S : SS} : ExtR r S S := fun _ _ _ h => h
theorem ExtR.sup {r : Addr} {S : SS} {o : SO} : ExtR r S (supd S r o) := fun c u hc e => by rw [supd_ne hc]; exact e
theorem ExtR.trans {r : Addr} {S S' S'' : SS} (h : ExtR r S S') (h' : ExtR r S' S'') : ExtR r S S'' := fun c u hc e => h' c u hc (h c u hc e)
theorem ExtR.sup' {r : Addr} {S S' : SS} {o : SO} (h : ExtR r S S') : ExtR r S (supd S' r o) := h.trans .sup
theorem ExtR.ext {r : Addr} {S S' S'' : SS} (h : ExtR r S S') (h' : Ext S' S'') : ExtR r S S'' := fun c u hc e => h' c u (h c u hc e)
theorem ExtR.new {r p : Addr} {S S' : SS} {o : SO} (h : ExtR r S S') (hp : S p = none) : ExtR r S (supd S' p o) := fun c u hc e => by
  rw [supd_ne (fun z => by rw [z, hp] at e; cases e)]; exact h c u hc e
theorem new_ne {r p : Addr} {S : SS} {o : SO} (hp : S p = none) (hr : S r = some o) : p ≠ r := fun e => by rw [e, hr] at hp; cases hp
end
def sp__law_new_bag : TSp := fun ts S Q E => ∃ (c : Int) (k : Nat), ts = [.int c, .int k] ∧ k < 2 ^ 20 ∧ ∀ p l, S p = none → RL 0 l → Q (.ref p) (supd S p (.lst l))
theorem len__law_new_bag (ts S Q E) (h : sp__law_new_bag ts S Q E) : ts.length = 2 := by obtain ⟨_, _, rfl, _⟩ := h; rfl
theorem bag_ap {c : Int} {k : Nat} {S : SS} {Q : KQ} {E : Exn → SS → Prop} (hk : k < 2 ^ 20) (h : ∀ p l, S p = none → RL 0 l → Q (.ref p) (supd S p (.lst l))) : sp__law_new_bag [.int c, .int k] S Q E := ⟨c, k, rfl, hk, h⟩
def b__law_new_bag (W : XW) : DS :=
  (seqD
    (asgD (cD (.int 0)) (.nm 2))
  (seqD
    (ifD (tstD (opD (cmpR .GtE) (rdD 0) (opD (binR false .Pow) (cD (.int 10)) (cD (.int 18)))))
      (seqD
        (asgD (opD (binR false .Sub) (rdD 0) (opD (binR false .Pow) (cD (.int 10)) (cD (.int 18)))) (.nm 2))
      nextD)
      nextD)
  (seqD
    (retD (lstD true (consA (rdD 2) (consA (opD (binR false .Add) (opD (binR false .Mod) (rdD 0) (cD (.int 2305843009213693951))) (opD (binR false .Mult) (cD (.int 977)) (rdD 1))) (consA (cD (.int 0)) nilA)))))
  nextD)))
theorem law__law_new_bag {ts : List T} {S : SS} {Q : KQ} {E : Exn → SS → Prop} (h : sp__law_new_bag ts S Q E) : b__law_new_bag (fun x _ S' => E x S') { nx := fun _ S' => Q .non S', rt := Q } (start' 3 ts) S := by
  obtain ⟨c, k, rfl, hk, h⟩ := h
  have cp18 : CPow 10 18 := ⟨by decide, by decide, by decide⟩
  have c0 := Int.fmod_nonneg_of_pos c (b := 2305843009213693951) (by decide)
  have c1 := Int.fmod_lt_of_pos c (b := 2305843009213693951) (by decide)
  have m1 : CMulW 977 (k : Int) := cmw (a := 10) (b := 20) (by decide) (by omega) (by decide)
  unfold b__law_new_bag start'
  by_cases hc : (1000000000000000000 : Int) ≤ c
  · simp -implicitDefEqProofs [cp18, m1, hc]
    intro p hp
    exact h p _ hp ⟨_, _, _, rfl, by omega, by omega, by omega, by decide, by decide⟩
  · simp -implicitDefEqProofs [cp18, m1, hc]
    intro p hp
    exact h p _ hp ⟨_, _, _, rfl, by omega, by omega, by omega, by decide, by decide⟩
def sp__law_draw : TSp := fun ts S Q E => ∃ r m n l, ts = [.ref r, .int m] ∧ 0 < m ∧ S r = some (.lst l) ∧ RL n l ∧ n < 2 ^ 20 ∧ ∀ d l', 0 ≤ d → d < m → RL (n + 1) l' → Q (.int d) (supd S r (.lst l'))
theorem len__law_draw (ts S Q E) (h : sp__law_draw ts S Q E) : ts.length = 2 := by obtain ⟨_, _, _, _, rfl, _⟩ := h; rfl
theorem take_ap {r : Addr} {m : Int} {n : Nat} {l : List T} {S : SS} {Q : KQ} {E : Exn → SS → Prop} (hS : S r = some (.lst l)) (hR : RL n l) (hn : n < 2 ^ 20) (hm : 0 < m) (_ : True) (k : ∀ d l', 0 ≤ d → d < m → RL (n + 1) l' → Q (.int d) (supd S r (.lst l'))) : sp__law_draw [.ref r, .int m] S Q E :=
  ⟨r, m, n, l, rfl, hm, hS, hR, hn, k⟩
def prms : List T := [.int 2147483647, .int 2147483629, .int 2147483587, .int 2147483579, .int 2147483563, .int 2147483549, .int 2147483543]
theorem prm_ap {i : Int} {P : T → Prop} (k : ∀ z : Int, 0 < z → z < 2 ^ 31 → P (.int z)) : match atI prms (i.fmod 7) with
    | some t => P t
    | none => False := by
  have k1 := Int.fmod_nonneg_of_pos i (b := 7) (by decide)
  have k2 := Int.fmod_lt_of_pos i (b := 7) (by decide)
  refine at_ap k1 (by show _ < ((7 : Nat) : Int); omega) fun t mt => ?_
  unfold prms at mt
  simp only [List.mem_cons, List.not_mem_nil, or_false] at mt
  rcases mt with rfl | rfl | rfl | rfl | rfl | rfl | rfl <;> exact k _ (by decide) (by decide)
def b__law_draw (W : XW) : DS :=
  (seqD
    (ifD (tstD (opD (cmpR .Gt) (opD ixR (rdD 0) (cD (.int 0))) (cD (.int 0))))
      (seqD
        (asgD (opD (binR false .Mod) (opD ixR (rdD 0) (cD (.int 0))) (rdD 1)) (.nm 5))
      (seqD
        (subAsg (opD (binR false .FloorDiv) (opD ixR (rdD 0) (cD (.int 0))) (rdD 1)) (rdD 0) (cD (.int 0)))
      (seqD
        (retD (rdD 5))
      nextD)))
      nextD)
  (seqD
    (subAsg (opD (binR false .Add) (opD ixR (rdD 0) (cD (.int 2))) (cD (.int 1))) (rdD 0) (cD (.int 2)))
  (seqD
    (asgD (lstD false (consA (cD (.int 2147483647)) (consA (cD (.int 2147483629)) (consA (cD (.int 2147483587)) (consA (cD (.int 2147483579)) (consA (cD (.int 2147483563)) (consA (cD (.int 2147483549)) (consA (cD (.int 2147483543)) nilA)))))))) (.nm 2))
  (seqD
    (asgD (opD (binR false .Mod) (opD (binR false .Pow) (opD (binR false .Add) (opD (binR false .Mult) (opD (binR false .Mod) (opD ixR (rdD 0) (cD (.int 1))) (opD ixR (rdD 2) (opD (binR false .Mod) (opD ixR (rdD 0) (cD (.int 2))) (cD (.int 7))))) (opD (binR false .Add) (opD (binR false .Mult) (cD (.int 2)) (opD ixR (rdD 0) (cD (.int 2)))) (cD (.int 1)))) (opD (binR false .Mult) (cD (.int 7919)) (opD ixR (rdD 0) (cD (.int 2))))) (cD (.int 3))) (opD ixR (rdD 2) (opD (binR false .Mod) (opD (binR false .Add) (opD ixR (rdD 0) (cD (.int 2))) (cD (.int 3))) (cD (.int 7))))) (.nm 3))
  (seqD
    (asgD (opD (binR false .Add) (opD (binR false .Add) (opD (binR false .Mult) (rdD 3) (rdD 3)) (opD (binR false .Mod) (opD ixR (rdD 0) (cD (.int 1))) (cD (.int 998244353)))) (opD (binR false .Mult) (cD (.int 104729)) (opD ixR (rdD 0) (cD (.int 2))))) (.nm 4))
  (seqD
    (retD (opD (binR false .Mod) (opD (binR false .FloorDiv) (opD (binR false .Mod) (opD (binR false .Pow) (rdD 4) (cD (.int 5))) (opD ixR (rdD 2) (opD (binR false .Mod) (opD (binR false .Add) (opD ixR (rdD 0) (cD (.int 2))) (cD (.int 5))) (cD (.int 7))))) (cD (.int 16))) (rdD 1)))
  nextD))))))
theorem law__law_draw {ts : List T} {S : SS} {Q : KQ} {E : Exn → SS → Prop} (h : sp__law_draw ts S Q E) : b__law_draw (fun x _ S' => E x S') { nx := fun _ S' => Q .non S', rt := Q } (start' 6 ts) S := by
  obtain ⟨r, m, n, l, rfl, hm, hS, ⟨i, j, t, rfl, h1, h2, h3, h4, h5⟩, hn, h⟩ := h
  have m0 : m ≠ 0 := by omega
  have cd : CDivA m := ⟨m0⟩
  unfold b__law_draw start'
  by_cases hi : 0 < i
  · simp -implicitDefEqProofs [q_ixR hS, q_setR hS, hi, cd, m0, ixN]
    exact h _ _ (Int.fmod_nonneg_of_pos i hm) (Int.fmod_lt_of_pos i hm) ⟨_, _, _, rfl, Int.fdiv_nonneg h1 (by omega), h2, h3, h4, by omega⟩
  · have e1 : CMulW 2 (t + 1) := cmw (a := 2) (b := 21) (by decide) (by omega) (by decide)
    have e2 : CMulW 7919 (t + 1) := cmw (a := 13) (b := 21) (by decide) (by omega) (by decide)
    have e3 : CMulW 104729 (t + 1) := cmw (a := 17) (b := 21) (by decide) (by omega) (by decide)
    have e5 : CDivA 16 := cda (n := 7) (by decide) (by decide) (by decide)
    have ep : [T.int 2147483647, T.int 2147483629, T.int 2147483587, T.int 2147483579, T.int 2147483563, T.int 2147483549, T.int 2147483543] = prms := rfl
    simp -implicitDefEqProofs [q_ixR hS, q_setR hS, q_ixR supd_same, q_setR supd_same, hi, ixN, e1, e2, e3, e5, m0, ep]
    refine prm_ap fun p p0 p1 => ?_
    have pn : p ≠ 0 := by omega
    have j0 := Int.fmod_nonneg_of_pos j p0
    have j1 := Int.fmod_lt_of_pos j p0
    have e6 : CMulW (j.fmod p) (2 * (t + 1) + 1) := cmw (a := 31) (b := 23) (by omega) (by omega) (by decide)
    have e6b := Int.mul_nonneg j0 (b := 2 * (t + 1) + 1) (by omega)
    have e6c : j.fmod p * (2 * (t + 1) + 1) ≤ 2147483648 * (2 * (t + 1) + 1) := Int.mul_le_mul_of_nonneg_right (by omega) (by omega)
    have w1 : CPow (j.fmod p * (2 * (t + 1) + 1) + 7919 * (t + 1)) 3 := ⟨by decide, by decide, by omega⟩
    try simp -implicitDefEqProofs [q_ixR supd_same, e1, e2, e3, e5, m0, pn, e6, w1]
    generalize (j.fmod p * (2 * (t + 1) + 1) + 7919 * (t + 1)) ^ 3 = w
    refine prm_ap fun q q0 q1 => ?_
    have qn : q ≠ 0 := by omega
    have o0 := Int.fmod_nonneg_of_pos w q0
    have o1 := Int.fmod_lt_of_pos w q0
    have e7 : CMulW (w.fmod q) (w.fmod q) := cmw (a := 31) (b := 31) (by omega) (by omega) (by decide)
    have s0 := Int.fmod_nonneg_of_pos j (b := 998244353) (by decide)
    have s1 := Int.fmod_lt_of_pos j (b := 998244353) (by decide)
    have e7b := Int.mul_nonneg o0 o0
    have e7c : w.fmod q * w.fmod q ≤ 2147483648 * w.fmod q := Int.mul_le_mul_of_nonneg_right (by omega) (by omega)
    have w2 : CPow (w.fmod q * w.fmod q + j.fmod 998244353 + 104729 * (t + 1)) 5 := ⟨by decide, by decide, by omega⟩
    try simp -implicitDefEqProofs [q_ixR supd_same, e1, e2, e3, e5, m0, pn, qn, e7, w2]
    refine prm_ap fun s s0 s1 => ?_
    have sn : s ≠ 0 := by omega
    try simp -implicitDefEqProofs [q_ixR supd_same, sn, e5, m0]
    exact h _ _ (Int.fmod_nonneg_of_pos _ hm) (Int.fmod_lt_of_pos _ hm) ⟨_, _, _, rfl, h1, h2, h3, by omega, by omega⟩
/-! ### the greatest divisor in so many turns -/
def N400 : Nat := 10 ^ 400
/-- what k turns leave -/
def Lam (N k X Y : Nat) : Prop := (k = 0 ∧ X < N ∧ Y < N) ∨ (Y < X ∧ 8 ^ k * (8 * X + 5 * Y) ≤ 5 ^ k * (21 * N))
theorem Lam.step {N k X Y : Nat} (h : Lam N k X Y) (hy : 0 < Y) : Lam N (k + 1) Y (X % Y) := by
  have hr : X % Y < Y := Nat.mod_lt _ hy
  refine .inr ⟨hr, ?_⟩
  rcases h with ⟨rfl, hX, hY⟩ | ⟨hlt, hb⟩
  · rw [Nat.pow_succ, Nat.pow_succ, Nat.pow_zero]
    omega
  · have hr2 : X % Y ≤ X - Y := by
      rw [Nat.mod_eq_sub_mod (by omega)]
      exact Nat.mod_le _ _
    have e : 8 * (8 * Y + 5 * (X % Y)) ≤ 5 * (8 * X + 5 * Y) := by omega
    calc 8 ^ (k + 1) * (8 * Y + 5 * (X % Y)) = 8 ^ k * (8 * (8 * Y + 5 * (X % Y))) := by rw [Nat.pow_succ, Nat.mul_assoc]
      _ ≤ 8 ^ k * (5 * (8 * X + 5 * Y)) := Nat.mul_le_mul_left _ e
      _ = 5 * (8 ^ k * (8 * X + 5 * Y)) := by rw [Nat.mul_left_comm]
      _ ≤ 5 * (5 ^ k * (21 * N)) := Nat.mul_le_mul_left _ hb
      _ = 5 ^ (k + 1) * (21 * N) := by rw [Nat.pow_succ, Nat.mul_comm (5 ^ k) 5, Nat.mul_assoc]
theorem Lam.last {X Y : Nat} (h : Lam N400 2000 X Y) : False := by
  rcases h with ⟨h, _⟩ | ⟨h, hb⟩
  · exact absurd h (by decide)
  · have c : 5 ^ 2000 * (21 * N400) < 8 ^ 2000 * 8 := by decide +kernel
    have d : 8 ^ 2000 * 8 ≤ 8 ^ 2000 * (8 * X + 5 * Y) := Nat.mul_le_mul_left _ (by omega)
    exact absurd (Nat.lt_of_lt_of_le c (Nat.le_trans d hb)) (Nat.lt_irrefl _)
def sp__law_divisor : TSp := fun ts S Q E => ∃ a b : Nat, ts = [.int a, .int b] ∧ a < N400 ∧ b < N400 ∧ Q (.int (Nat.gcd a b)) S
theorem len__law_divisor (ts S Q E) (h : sp__law_divisor ts S Q E) : ts.length = 2 := by obtain ⟨_, _, rfl, _⟩ := h; rfl
def b__law_divisor (W : XW) : DS :=
  (seqD
    (forD (rng1I (consA (cD (.int 2000)) nilA)) (.nm 2)
      (seqD
        (ifD (tstD (opD (cmpR .Eq) (rdD 1) (cD (.int 0))))
          (seqD
            (retD (rdD 0))
          nextD)
          nextD)
      (seqD
        (asgD (tupD (consA (rdD 1) (consA (opD (binR false .Mod) (rdD 0) (rdD 1)) nilA))) (.tp (.cons (.nm 0) (.cons (.nm 1) .nil))))
      nextD)))
  (seqD
    (retD (rdD 0))
  nextD))
theorem law__law_divisor {ts : List T} {S : SS} {Q : KQ} {E : Exn → SS → Prop} (h : sp__law_divisor ts S Q E) : b__law_divisor (fun x _ S' => E x S') { nx := fun _ S' => Q .non S', rt := Q } (start' 3 ts) S := by
  obtain ⟨a, b, rfl, ha, hb, h⟩ := h
  unfold b__law_divisor start'
  try simp -implicitDefEqProofs
  repeat (refine And.intro (by omega) ?_)
  refine forL_rng (fun i τ S' => S' = S ∧ ∃ (X Y : Nat) (x : Option T), τ = [some (.int X), some (.int Y), x] ∧ Lam N400 i X Y ∧ Nat.gcd X Y = Nat.gcd a b) ⟨rfl, a, b, _, rfl, .inl ⟨rfl, ha, hb⟩, rfl⟩ ?_ ?_
  · rintro i hi τ S' D' ⟨rfl, X, Y, x, rfl, hL, hg⟩ nx ct rt bk
    try simp -implicitDefEqProofs
    by_cases c : Y = 0
    · subst c
      rw [Nat.gcd_zero_right] at hg
      subst hg
      simp -implicitDefEqProofs [rt]
      exact h
    · have c' : ¬ ((Y : Nat) : Int) = 0 := by omega
      have em : ((X : Nat) : Int).fmod (Y : Int) = ((X % Y : Nat) : Int) := by
        rw [Int.fmod_eq_emod_of_nonneg _ (by omega)]; rfl
      simp -implicitDefEqProofs [c', c, em]
      refine nx _ _ ⟨rfl, Y, X % Y, _, rfl, hL.step (by omega), ?_⟩
      rw [← hg, Nat.gcd_comm Y, ← Nat.gcd_rec, Nat.gcd_comm]
  · rintro τ S' ⟨rfl, X, Y, x, rfl, hL, hg⟩
    exact hL.last.elim
def sp__law_made : TSp := fun ts S Q E => ∃ a b : Int, ts = [.int a, .int b] ∧ a.natAbs < N400 ∧ 0 < b ∧ b.natAbs < N400 ∧ Q (tR (Rat.divInt a b)) S
theorem len__law_made (ts S Q E) (h : sp__law_made ts S Q E) : ts.length = 2 := by obtain ⟨_, _, rfl, _⟩ := h; rfl
def b__law_made (W : XW) : DS :=
  (seqD
    (asgD (callF sp__law_divisor W (consA (callB max2R (consA (rdD 0) (consA (opD (binR false .Sub) (cD (.int 0)) (rdD 0)) nilA))) (consA (rdD 1) nilA))) (.nm 2))
  (seqD
    (retD (tupD (consA (opD (binR false .FloorDiv) (rdD 0) (rdD 2)) (consA (opD (binR false .FloorDiv) (rdD 1) (rdD 2)) nilA))))
  nextD))
theorem law__law_made {ts : List T} {S : SS} {Q : KQ} {E : Exn → SS → Prop} (h : sp__law_made ts S Q E) : b__law_made (fun x _ S' => E x S') { nx := fun _ S' => Q .non S', rt := Q } (start' 3 ts) S := by
  obtain ⟨a, b, rfl, ha, hb, hb2, h⟩ := h
  have c1 := gcd_cda (a := a) (b := b) (by omega)
  have f1 := frac_num a b (by omega)
  rw [if_pos hb] at f1
  unfold tR at h
  have em : max a (0 - a) = ((a.natAbs : Nat) : Int) := by omega
  have em2 : max a (-a) = ((a.natAbs : Nat) : Int) := by omega
  have eb : b = ((b.natAbs : Nat) : Int) := by omega
  unfold b__law_made start'
  simp -implicitDefEqProofs [em, em2]
  refine ⟨a.natAbs, b.natAbs, by rw [← eb], ha, hb2, ?_⟩
  have eg : Nat.gcd a.natAbs b.natAbs = Int.gcd a b := rfl
  rw [eg]
  simp -implicitDefEqProofs [c1.1, f1.1, f1.2]
  exact h
theorem made_F {a b : Int} (h1 : a.natAbs < N400) (h2 : 0 < b) (h3 : b.natAbs < N400) : F400 (Rat.divInt a b) :=
  ⟨Nat.lt_of_le_of_lt (nd_le a b (by omega)).1 h1, Nat.lt_of_le_of_lt (nd_le a b (by omega)).2 h3⟩
theorem made_ap {a b : Int} {S : SS} {Q : KQ} {E : Exn → SS → Prop} (h1 : a.natAbs < N400) (h2 : 0 < b) (h3 : b.natAbs < N400) (h : ∀ q, F400 q → Q (tR q) S) : sp__law_made [.int a, .int b] S Q E := ⟨a, b, rfl, h1, h2, h3, h _ (made_F h1 h2 h3)⟩
theorem n400 {n : Nat} (h : n < 10 ^ 12) : n < N400 := Nat.lt_of_lt_of_le h (by decide +kernel)
/-! ### written -/
theorem cat_S {mu : Bool} {l m : List Nat} {S : SS} {Q : KQ} (h : l.length + m.length ≤ sizeLine) : binR mu .Add (.str (Sc l)) (.str (Sc m)) S Q = Q (.str (Sc (l ++ m))) S := by
  show ((Sc l).length + (Sc m).length ≤ sizeLine ∧ Q (.str (Sc l ++ Sc m)) S) = _
  rw [SX.S_cat, SX.S_len, SX.S_len]
  exact propext ⟨fun z => z.2, fun z => ⟨h, z⟩⟩
theorem enT_get81 {l : List T} {i : Nat} (h : i < (enT l).length) (h2 : i < l.length) : (enT l)[i] = .tup [.int (i : Nat), l[i]] := by simp [enT]
end TL

set_option Elab.async false
set_option linter.all false
set_option maxRecDepth 100000
set_option maxHeartbeats 4000000
set_option autoImplicit false
/-! TLt1: brines as texts (k83-k88). -/
namespace TL
open PySem PySem.Spec PyProof.Rows L2
/-! ### a pair read -/
def pairP : List (List Nat) → T
  | [a, b] => if (fracT a).isNon = true ∨ (fracT b).isNon = true then .non else .tup [fracT a, fracT b]
  | _ => .non
def pairT (l : List Nat) : T := pairP (spl [58] 0 [] l)
theorem pairP_two {a b : List Nat} : pairP [a, b] = if (fracT a).isNon = true ∨ (fracT b).isNon = true then .non else .tup [fracT a, fracT b] := rfl
def sp_pair_of : TSp := fun ts S Q E => ∃ l : List Nat, ts = [.str (Sc l)] ∧ okC l = true ∧ l.length ≤ 1000000 ∧ Q (pairT l) S
theorem len_pair_of (ts S Q E) (h : sp_pair_of ts S Q E) : ts.length = 1 := by obtain ⟨_, rfl, _⟩ := h; rfl
def b_pair_of (W : XW) : DS :=
  (seqD
    (asgD (lcD false [2] (seqI (methD "str" splitR (rdD 0) (consA (cD (.str ":")) nilA))) (.nm 2) (fun _ S Q => Q true S) (callF sp_fraction_of noW (consA (rdD 2) nilA))) (.nm 1))
  (seqD
    (ifD (orT (tstD (opD (cmpR .NotEq) (callB lenR (consA (rdD 1) nilA)) (cD (.int 2)))) (orT (tstD (opD (cmpR .Is) (opD ixR (rdD 1) (cD (.int 0))) (cD .non))) (tstD (opD (cmpR .Is) (opD ixR (rdD 1) (cD (.int 1))) (cD .non)))))
      (seqD
        (retD (cD .non))
      nextD)
      nextD)
  (seqD
    (retD (tupD (consA (opD ixR (rdD 1) (cD (.int 0))) (consA (opD ixR (rdD 1) (cD (.int 1))) nilA))))
  nextD)))
theorem law_pair_of {ts : List T} {S : SS} {Q : KQ} {E : Exn → SS → Prop} (h : sp_pair_of ts S Q E) : b_pair_of (fun x _ S' => E x S') { nx := fun _ S' => Q .non S', rt := Q } (start' 3 ts) S := by
  obtain ⟨l, rfl, ok, hl, h⟩ := h
  have es : ((":" : Str)) = Sc [58] := by decide +kernel
  have tS : ∀ S : SS, tyT S "str" (.str (Sc l)) := fun S => .inr ⟨rfl, rfl⟩
  have sub := spl_sub [58] l 0 []
  have ln := spl_len [58] l 0 []
  unfold pairT at h
  unfold b_pair_of start'
  simp -implicitDefEqProofs [tS]
  rw [es, split_ap (by decide) hl]
  have okp : ∀ p, p ∈ spl [58] 0 [] l → okC p = true ∧ p.length ≤ 1000000 := fun p hp => by
    obtain ⟨a, b⟩ := sub p hp
    rw [List.length_nil] at b
    exact ⟨okC_of ok fun c hc => (a c hc).resolve_left (by simp), by omega⟩
  generalize spl [58] 0 [] l = ps at h ln okp
  simp -implicitDefEqProofs
  refine lcL_gen (l := ps) (emb := fun p => T.str (Sc p)) (g := fun _ => true) (f := fun p => fracT p) (fun x hx => ⟨_, rfl, fun QT K => K, fun _ K z => ?_⟩) (by simp; omega) ?_
  · simp -implicitDefEqProofs
    exact ⟨x, rfl, (okp x hx).1, (okp x hx).2, z⟩
  rw [List.nil_append, filt_true, q_newF]
  match ps with
  | [] => simp at ln
  | [p] =>
    have h : Q .non S := h
    simp -implicitDefEqProofs
    exact h
  | [p, q] =>
    rw [pairP_two] at h
    simp -implicitDefEqProofs [ixN]
    by_cases c1 : (fracT p).isNon = true
    · rw [if_pos (.inl c1)] at h
      simp -implicitDefEqProofs [c1]
      exact h
    · by_cases c2 : (fracT q).isNon = true
      · rw [if_pos (.inr c2)] at h
        simp -implicitDefEqProofs [c1, c2]
        exact h
      · rw [if_neg (fun z => z.elim c1 c2)] at h
        simp -implicitDefEqProofs [c1, c2]
        exact h
  | p :: q :: r :: ps =>
    have h : Q .non S := h
    have c1 : ¬ ((ps.length : Int) + 1 + 1 + 1 = 2) := by omega
    simp -implicitDefEqProofs [c1]
    exact h
/-! ### written -/
def layT (x : Lay) : List Nat := txtQ x.1 ++ [58] ++ txtQ x.2
def F4 (x : Lay) : Prop := F400 x.1 ∧ F400 x.2
def noneC : List Nat := [110, 111, 110, 101]
def brT : List Lay → List Nat
  | [] => noneC
  | x :: L => joinL [32] ((x :: L).map layT)
theorem txtQ_free {q : Rat} {s : Nat} (h : (s < 48 ∨ 57 < s) ∧ s ≠ 45 ∧ s ≠ 47) : s ∉ txtQ q := by
  unfold txtQ
  intro z
  rcases List.mem_append.mp z with z | z
  · exact txtZ_free ⟨h.1, h.2.1⟩ z
  · split at z
    · cases z
    · rcases List.mem_cons.mp z with z | z
      · exact h.2.2 z
      · exact numL_free h.1 z
theorem layT_free {x : Lay} : (32 : Nat) ∉ layT x := by
  unfold layT
  intro z
  rcases List.mem_append.mp z with z | z
  · rcases List.mem_append.mp z with z | z
    · exact txtQ_free (by omega) z
    · simp at z
  · exact txtQ_free (by omega) z
theorem layT_ok (x : Lay) : okC (layT x) = true := okC_app (okC_app (txtQ_ok _) rfl) (txtQ_ok _)
theorem layT_len {x : Lay} (h : F4 x) : (layT x).length ≤ 1605 := by
  have a := txtQ_len h.1
  have b := txtQ_len h.2
  unfold layT
  rw [List.length_append, List.length_append, List.length_singleton]
  omega
theorem pairT_lay {x : Lay} (h : F4 x) : pairT (layT x) = tL x := by
  have e := SX.spl_join (c := 58) (sep := []) (parts := [txtQ x.1, txtQ x.2]) (by simp) (fun p hp => by
    rcases List.mem_cons.mp hp with hp | hp
    · rw [hp]; exact txtQ_free (by omega)
    · rw [List.mem_singleton.mp hp]; exact txtQ_free (by omega))
  have e0 : joinL [58] [txtQ x.1, txtQ x.2] = layT x := by
    show txtQ x.1 ++ ([58] ++ txtQ x.2) = _
    unfold layT
    rw [List.append_assoc]
  have e : spl [58] 0 [] (layT x) = [txtQ x.1, txtQ x.2] := by rw [← e0]; exact e
  unfold pairT
  rw [e, pairP_two, fracT_txt h.1, fracT_txt h.2]
  rfl
theorem brT_words {L : List Lay} (h : L ≠ []) : spl [32] 0 [] (brT L) = L.map layT := by
  cases L with
  | nil => exact absurd rfl h
  | cons x L =>
    exact SX.spl_join (c := 32) (sep := []) (parts := (x :: L).map layT) (by simp) (fun p hp => by
      obtain ⟨y, _, rfl⟩ := List.mem_map.mp hp
      exact layT_free)
theorem joinL_ok : ∀ {ps : List (List Nat)}, (∀ p, p ∈ ps → okC p = true) → okC (joinL [32] ps) = true
  | [], _ => rfl
  | [p], h => h p List.mem_cons_self
  | p :: q :: r, h => okC_app (h p List.mem_cons_self) (okC_app rfl (joinL_ok fun x hx => h x (List.mem_cons_of_mem _ hx)))
theorem joinL_len {n : Nat} : ∀ {ps : List (List Nat)}, (∀ p, p ∈ ps → p.length ≤ n) → (joinL [32] ps).length ≤ (n + 1) * ps.length
  | [], _ => Nat.zero_le _
  | [p], h => by
    have := h p List.mem_cons_self
    show p.length ≤ (n + 1) * 1
    omega
  | p :: q :: r, h => by
    have a := h p List.mem_cons_self
    have b := joinL_len (n := n) (ps := q :: r) fun x hx => h x (List.mem_cons_of_mem _ hx)
    show (p ++ ([32] ++ joinL [32] (q :: r))).length ≤ _
    rw [List.length_append, List.length_append, List.length_singleton, List.length_cons, Nat.mul_succ]
    omega
theorem brT_ok (L : List Lay) : okC (brT L) = true := by
  cases L with
  | nil => decide
  | cons x L =>
    refine joinL_ok fun p hp => ?_
    obtain ⟨y, _, rfl⟩ := List.mem_map.mp hp
    exact layT_ok y
theorem brT_len {L : List Lay} (h : ∀ x, x ∈ L → F4 x) : (brT L).length ≤ 1606 * L.length + 4 := by
  cases L with
  | nil => decide
  | cons x L =>
    have := joinL_len (n := 1605) (ps := (x :: L).map layT) fun p hp => by
      obtain ⟨y, hy, rfl⟩ := List.mem_map.mp hp
      exact layT_len (h y hy)
    rw [List.length_map] at this
    show (joinL [32] ((x :: L).map layT)).length ≤ _
    omega
theorem brT_none {L : List Lay} : brT L = noneC ↔ L = [] := by
  constructor
  · intro h
    cases L with
    | nil => rfl
    | cons x L =>
      have e := brT_words (L := x :: L) (by simp)
      rw [h] at e
      have e2 : spl [32] 0 [] noneC = [noneC] := by decide
      rw [e2, List.map_cons] at e
      injection e with e _
      have m : (58 : Nat) ∈ layT x := by unfold layT; simp
      rw [← e] at m
      exact absurd m (by decide)
  · intro h; rw [h]; rfl
def sp_layer_text : TSp := fun ts S Q E => ∃ x : Lay, ts = [tL x] ∧ F4 x ∧ Q (.str (Sc (layT x))) S
theorem len_layer_text (ts S Q E) (h : sp_layer_text ts S Q E) : ts.length = 1 := by obtain ⟨_, rfl, _⟩ := h; rfl
def b_layer_text (W : XW) : DS :=
  (seqD
    (retD (opD (binR false .Add) (opD (binR false .Add) (callF sp_fraction_text W (consA (opD ixR (rdD 0) (cD (.int 0))) nilA)) (cD (.str ":"))) (callF sp_fraction_text W (consA (opD ixR (rdD 0) (cD (.int 1))) nilA))))
  nextD)
theorem catT {mu : Bool} {l m : List Nat} {S : SS} {Q : KQ} (h : l.length + m.length ≤ sizeLine) : binR mu .Add (.str (Sc l)) (.str (Sc m)) S Q = Q (.str (Sc (l ++ m))) S := by
  show ((Sc l).length + (Sc m).length ≤ sizeLine ∧ Q (.str (Sc l ++ Sc m)) S) = _
  rw [SX.S_cat, SX.S_len, SX.S_len]
  exact propext ⟨fun z => z.2, fun z => ⟨h, z⟩⟩
theorem law_layer_text {ts : List T} {S : SS} {Q : KQ} {E : Exn → SS → Prop} (h : sp_layer_text ts S Q E) : b_layer_text (fun x _ S' => E x S') { nx := fun _ S' => Q .non S', rt := Q } (start' 1 ts) S := by
  obtain ⟨x, rfl, hx, h⟩ := h
  have sl : sizeLine = 16777216 := rfl
  have es : ((":" : Str)) = Sc [58] := by decide +kernel
  have a := txtQ_len hx.1
  have b := txtQ_len hx.2
  unfold layT at h
  unfold b_layer_text start'
  simp -implicitDefEqProofs
  refine text_ap hx.1 ?_
  rw [es]
  rw [catT (by rw [List.length_singleton]; omega)]
  refine text_ap hx.2 ?_
  rw [catT (by rw [List.length_append, List.length_singleton]; omega)]
  exact h
def sp_brine_text : TSp := fun ts S Q E => ∃ L : List Lay, ts = [tB L] ∧ (∀ x, x ∈ L → F4 x) ∧ L.length ≤ 1000 ∧ Q (.str (Sc (brT L))) S
theorem len_brine_text (ts S Q E) (h : sp_brine_text ts S Q E) : ts.length = 1 := by obtain ⟨_, rfl, _⟩ := h; rfl
def b_brine_text (W : XW) : DS :=
  (seqD
    (retD (ifE (tstD (opD (cmpR .NotEq) (rdD 0) (tupD nilA))) (methD "str" joinR (cD (.str " ")) (consA (lcD false [1] (seqI (rdD 0)) (.nm 1) (fun _ S Q => Q true S) (callF sp_layer_text noW (consA (rdD 1) nilA))) nilA)) (cD (.str "none"))))
  nextD)
theorem ne_tB0 {L : List Lay} {S : SS} {Q : KQ} : cmpR .NotEq (tB L) (.tup []) S Q ↔ Q (.bl (!L.isEmpty)) S := by
  have e : T.eqv (tB L) (.tup []) = L.isEmpty := by
    cases L with
    | nil => decide +kernel
    | cons x l => unfold tB T.eqv; simp [T.toD, T.toDs, PyData.eqv, PyData.eqvAll]
  have s : T.shp 60 (tB L) = true := by
    show T.shps 59 (L.map tL) = true
    exact shps_tL L
  show (_ ∧ _ ∧ Q (.bl (true ^^ T.eqv (tB L) (.tup []))) S) ↔ _
  rw [e, Bool.true_xor]
  exact ⟨fun h => h.2.2, fun h => ⟨s, rfl, h⟩⟩
theorem brT_ne {L : List Lay} (h : L ≠ []) : brT L = joinL [32] (L.map layT) := by
  cases L with
  | nil => exact absurd rfl h
  | cons x L => rfl
theorem law_brine_text {ts : List T} {S : SS} {Q : KQ} {E : Exn → SS → Prop} (h : sp_brine_text ts S Q E) : b_brine_text (fun x _ S' => E x S') { nx := fun _ S' => Q .non S', rt := Q } (start' 2 ts) S := by
  obtain ⟨L, rfl, hL, hn, h⟩ := h
  have sl : sizeLine = 16777216 := rfl
  have es : ((" " : Str)) = Sc [32] := by decide +kernel
  have en : (("none" : Str)) = Sc noneC := by decide +kernel
  have tS : ∀ (l : List Nat) (S : SS), tyT S "str" (.str (Sc l)) := fun l S => .inr ⟨rfl, rfl⟩
  unfold b_brine_text start'
  by_cases c : L = []
  · subst c
    simp -implicitDefEqProofs [ne_tB0]
    rw [en]
    exact h
  · have ie : L.isEmpty = false := by
      cases L with
      | nil => exact absurd rfl c
      | cons x L => rfl
    rw [brT_ne c] at h
    simp -implicitDefEqProofs [ne_tB0, ie]
    rw [es]
    refine ⟨tS _ _, ?_⟩
    simp -implicitDefEqProofs [tB]
    refine lcL_gen (l := L) (emb := tL) (g := fun _ => true) (f := fun x => T.str (Sc (layT x))) (fun x hx => ⟨_, rfl, fun QT k => k, fun _ K k => ?_⟩) (by simp; omega) ?_
    · simp -implicitDefEqProofs
      exact ⟨x, rfl, hL x hx, k⟩
    rw [List.nil_append, filt_true, q_newF]
    have em : (L.map fun x => T.str (Sc (layT x))) = ((L.map layT).map Sc).map T.str := by rw [List.map_map, List.map_map]; rfl
    rw [em]
    refine ⟨(L.map layT).map Sc, rfl, ?_, ?_⟩
    · have len : ∀ M : List Lay, (∀ x, x ∈ M → F4 x) → (((M.map layT).map Sc).map (·.length)).sum ≤ 1605 * M.length := by
        intro M
        induction M with
        | nil => intro _; simp
        | cons x M ih =>
          intro h
          have a := ih fun y hy => h y (List.mem_cons_of_mem _ hy)
          have b := layT_len (h x List.mem_cons_self)
          rw [List.map_cons, List.map_cons, List.map_cons, List.sum_cons, SX.S_len, List.length_cons]
          omega
      have l1 := len L hL
      have l2 : ((Sc [32]).length : Nat) = 1 := by rw [SX.S_len]; rfl
      rw [l2, List.length_map, List.length_map]
      omega
    · rw [SX.join_S]
      exact h
end TL

set_option Elab.async false
set_option linter.all false
set_option maxRecDepth 100000
set_option maxHeartbeats 4000000
set_option autoImplicit false
/-! TLJ: plain laws of brines joined and shared; brines shown. -/
namespace TL
open PySem PySem.Spec PyProof.Rows L2
theorem aq_neL0 {rs : List Rat} {S : SS} {Q : KQ} : cmpR .NotEq (.lst (rs.map tR)) (.lst []) S Q ↔ Q (.bl (!rs.isEmpty)) S := by
  have e : T.eqv (.lst (rs.map tR)) (.lst []) = rs.isEmpty := by
    cases rs with
    | nil => decide +kernel
    | cons x l => unfold T.eqv; simp [T.toD, T.toDs, PyData.eqv, PyData.eqvAll]
  have sh : ∀ l : List Rat, T.shps 59 (l.map tR) = true := fun l => by
    induction l with
    | nil => rfl
    | cons x l ih => rw [List.map_cons, shps1, ih, fr_shp]; rfl
  have s : T.shp 60 (.lst (rs.map tR)) = true := by rw [shp_lst]; exact sh rs
  show (_ ∧ _ ∧ Q (.bl (true ^^ T.eqv (.lst (rs.map tR)) (.lst []))) S) ↔ _
  rw [e, Bool.true_xor]
  exact ⟨fun h => h.2.2, fun h => ⟨s, rfl, h⟩⟩
theorem itrs_R {n : Nat} (hn : n ≤ 1900) (h0 : 0 < n) : ∀ l : List Rat, (∀ s, s ∈ l → Sm n s) → T.itrs (l.map tR) = true
  | [], _ => rfl
  | s :: l, h => by
    rw [List.map_cons]
    simp only [T.itrs, Bool.and_eq_true]
    exact ⟨tR_itr (h s List.mem_cons_self) hn h0, itrs_R hn h0 l fun z hz => h z (List.mem_cons_of_mem _ hz)⟩
theorem shws_R {n k : Nat} (hn : n ≤ 1900) (h0 : 0 < n) : ∀ l : List Rat, (∀ s, s ∈ l → Sm n s) → T.shws (k + 1) (l.map tR) = true
  | [], _ => by simp [T.shws]
  | s :: l, h => by
    rw [List.map_cons]
    simp only [T.shws, Bool.and_eq_true]
    exact ⟨tR_shw (h s List.mem_cons_self) hn h0, shws_R hn h0 l fun z hz => h z (List.mem_cons_of_mem _ hz)⟩
theorem cnts_R : ∀ l : List Rat, T.cnts (l.map tR) = 3 * l.length
  | [] => rfl
  | s :: l => by
    rw [List.map_cons, List.length_cons]
    simp only [T.cnts, tR_cnt, cnts_R l]; omega
theorem tL_itr {x : Lay} {n : Nat} (h : Sm n x.1 ∧ Sm n x.2) (hn : n ≤ 1900) (h0 : 0 < n) : (tL x).itr = true ∧ ∀ k, (tL x).shw (k + 2) = true := by
  refine ⟨?_, fun k => ?_⟩
  · unfold tL; simp only [T.itr, T.itrs, tR_itr h.1 hn h0, tR_itr h.2 hn h0, Bool.and_true]
  · unfold tL; simp only [T.shw, T.shws, tR_shw h.1 hn h0, tR_shw h.2 hn h0, Bool.and_true]
theorem itrs_L {n : Nat} (hn : n ≤ 1900) (h0 : 0 < n) : ∀ l : List Lay, SmL n l → T.itrs (l.map tL) = true ∧ (∀ k, T.shws (k + 2) (l.map tL) = true) ∧ T.cnts (l.map tL) = 7 * l.length
  | [], _ => ⟨rfl, fun k => by simp [T.shws], rfl⟩
  | x :: l, h => by
    obtain ⟨i1, i2, i3⟩ := itrs_L hn h0 l fun z hz => h z (List.mem_cons_of_mem _ hz)
    obtain ⟨j1, j2⟩ := tL_itr (h x List.mem_cons_self) hn h0
    rw [List.map_cons]
    refine ⟨?_, fun k => ?_, ?_⟩
    · simp only [T.itrs, j1, i1, Bool.and_true]
    · simp only [T.shws, j2, i2, Bool.and_true]
    · have e : (tL x).cnt = 7 := rfl
      simp only [T.cnts, e, i3, List.length_cons]; omega
theorem repB {n : Nat} (hn : n ≤ 1900) (h0 : 0 < n) {l : List Lay} (h : SmL n l) (hl : l.length ≤ 1000) : (tB l).itr = true ∧ (tB l).shw 50 = true ∧ (tB l).cnt ≤ 8000 := by
  obtain ⟨i1, i2, i3⟩ := itrs_L hn h0 l h
  refine ⟨?_, ?_, ?_⟩
  · unfold tB; simpa only [T.itr] using i1
  · unfold tB; simpa only [T.shw] using i2 47
  · unfold tB; simp only [T.cnt, i3]; omega
theorem need_apJ {f : Rat} {l : List Lay} {s : Rat} {n k : Nat} {S : SS} {Q : KQ} {E : Exn → SS → Prop} (hf : Sm 20000000 f) (h1 : SmL n l) (h2 : Sm k s) (hn : n ≤ 9000000) (hk : k ≤ 9000000) (hb : (n + (n + k) + 1 + 1) * (l.length + 1) ≤ 16000000) (h : 0 < s → s ≤ f → Q (tR (nd s l)) S) (he : ¬ (0 < s ∧ s ≤ f) → E ⟨"NoStrength", none⟩ S) : sp_need [tR f, tB l, tR s] S Q E := ⟨f, l, s, n, k, rfl, hf, h1, hn, h2, hk, hb, h, he⟩

/-! ### sums over what is laid -/
def Adds (g : Lay → Rat) : Prop := ∀ x y, okL x → okL y → y.2 * x.1 = x.2 * y.1 → g (addL y x) = g y + g x
theorem sum_linR {g : Lay → Rat} (hg : Adds g) {x : Lay} (hx : okL x) : ∀ {L : List Lay}, SortB L → rsum ((linR L x).map g) = g x + rsum (L.map g)
  | [], _ => by
    unfold linR
    rw [List.map_cons, rsum_cons]
  | y :: L, h => by
    have hy := h.1 y List.mem_cons_self
    have hL : SortB L := ⟨fun z hz => h.1 z (List.mem_cons_of_mem _ hz), (List.pairwise_cons.mp h.2).2⟩
    have ih := sum_linR hg hx hL
    unfold linR
    by_cases c : strg y x = true
    · rw [if_pos c, List.map_cons, rsum_cons, ih, List.map_cons, rsum_cons]; grind
    · rw [if_neg c]
      by_cases d : strg x y = true
      · rw [if_pos d, List.map_cons, rsum_cons]
      · rw [if_neg d, List.map_cons, rsum_cons, List.map_cons, rsum_cons, hg x y hx hy (par_of (by rw [← strg_iff]; exact d) (by rw [← strg_iff]; exact c))]; grind
theorem sum_fold {g : Lay → Rat} (hg : Adds g) : ∀ (M L : List Lay), (∀ x, x ∈ M → okL x) → SortB L → rsum ((M.foldl lin L).map g) = rsum (M.map g) + rsum (L.map g)
  | [], L, _, _ => by rw [List.map_nil, rsum_nil]; show _ = 0 + _; grind
  | x :: M, L, hM, h => by
    have hx := hM x List.mem_cons_self
    have hs := sort_linR hx h
    rw [← lin_eq hx h] at hs
    rw [List.foldl_cons, sum_fold hg M _ (fun y hy => hM y (List.mem_cons_of_mem _ hy)) hs, lin_eq hx h, sum_linR hg hx h, List.map_cons, rsum_cons]; grind
theorem sum_al {g : Lay → Rat} (hg : Adds g) {M : List Lay} (h : ∀ x, x ∈ M → okL x) : rsum ((al M).map g) = rsum (M.map g) := by
  rw [show al M = M.foldl lin [] from rfl, sum_fold hg M [] h .nil, List.map_nil, rsum_nil]; grind
theorem adds1 : Adds (·.1) := fun x y _ _ _ => rfl
theorem adds2 : Adds (·.2) := fun x y _ _ _ => rfl
theorem ali0 {x y : Lay} (hx : okL x) (hy : okL y) (e : y.2 * x.1 = x.2 * y.1) : (x.1 = 0 ↔ y.1 = 0) := by
  constructor
  · intro x0
    have xp := hx.snd x0
    rw [x0, Rat.mul_zero] at e
    rcases r_mul0 e.symm with e | e <;> grind
  · intro y0
    have yp := hy.snd y0
    rw [y0, Rat.mul_zero] at e
    rcases r_mul0 e with e | e <;> grind
def fsl (x : Lay) : Rat := if x.1 = 0 then x.2 else 0
theorem addsF : Adds fsl := fun x y hx hy e => by
  have a := ali0 hx hy e
  show (if y.1 + x.1 = 0 then y.2 + x.2 else 0) = (if y.1 = 0 then y.2 else 0) + (if x.1 = 0 then x.2 else 0)
  by_cases c : x.1 = 0
  · have d := a.mp c
    rw [if_pos c, if_pos d, if_pos (by grind)]
  · have d : ¬ y.1 = 0 := fun z => c (a.mpr z)
    have := hx.fst c
    have := hy.fst d
    rw [if_neg c, if_neg d, if_neg (by grind)]; grind
theorem fal_sum : ∀ l : List Lay, rsum ((fal l).map (·.2)) = rsum (l.map fsl)
  | [] => rfl
  | x :: l => by
    have ih := fal_sum l
    rw [List.map_cons, rsum_cons, ← ih]
    unfold fsl
    by_cases c : x.1 = 0
    · rw [if_pos c, show fal (x :: l) = x :: fal l from by unfold fal; rw [List.filter_cons_of_pos (by simpa using c)], List.map_cons, rsum_cons]
    · rw [if_neg c, show fal (x :: l) = fal l from by unfold fal; rw [List.filter_cons_of_neg (by simpa using c)]]; grind
theorem div_add (a b s : Rat) : (a + b) / s = a / s + b / s := by rw [Rat.div_def, Rat.div_def, Rat.div_def, Rat.add_mul]
theorem lck_iff {s : Rat} (hs : 0 < s) {x : Lay} : 0 < x.1 - x.2 / s ↔ x.2 < s * x.1 := by
  have e : x.2 / s * s = x.2 := Rat.div_mul_cancel (by grind)
  constructor
  · intro h
    have := Rat.mul_lt_mul_of_pos_right h hs
    grind
  · intro h
    refine Rat.not_le.mp fun z => ?_
    have := Rat.mul_le_mul_of_nonneg_right z (Rat.le_of_lt hs)
    grind
theorem addsN {s : Rat} (hs : 0 < s) : Adds (lck s) := fun x y hx hy e => by
  have a := ali0 hx hy e
  have k : x.2 < s * x.1 ↔ y.2 < s * y.1 := by
    by_cases c : x.1 = 0
    · have d := a.mp c
      have := hx.snd c
      have := hy.snd d
      rw [c, d]; grind
    · have d : ¬ y.1 = 0 := fun z => c (a.mpr z)
      have p := hx.fst c
      have q := hy.fst d
      constructor
      · intro h
        refine Rat.not_le.mp fun z => ?_
        have h1 := Rat.mul_lt_mul_of_pos_right h q
        have h2 := Rat.mul_le_mul_of_nonneg_right z (Rat.le_of_lt p)
        grind
      · intro h
        refine Rat.not_le.mp fun z => ?_
        have h1 := Rat.mul_lt_mul_of_pos_right h p
        have h2 := Rat.mul_le_mul_of_nonneg_right z (Rat.le_of_lt q)
        grind
  have e2 : (addL y x).1 - (addL y x).2 / s = (y.1 - y.2 / s) + (x.1 - x.2 / s) := by
    show y.1 + x.1 - (y.2 + x.2) / s = _
    rw [div_add]; grind
  unfold lck
  rw [e2]
  by_cases c : x.2 < s * x.1
  · have c1 := (lck_iff hs).mpr c
    have c2 := (lck_iff hs).mpr (k.mp c)
    rw [if_pos c1, if_pos c2, if_pos (by grind)]
  · have c1 : ¬ 0 < x.1 - x.2 / s := fun z => c ((lck_iff hs).mp z)
    have c2 : ¬ 0 < y.1 - y.2 / s := fun z => c (k.mpr ((lck_iff hs).mp z))
    rw [if_neg c1, if_neg c2, if_neg (by grind)]; grind
theorem nd_al {s : Rat} (hs : 0 < s) {M : List Lay} (h : ∀ x, x ∈ M → okL x) : nd s (al M) = nd s M := sum_al (addsN hs) h
theorem nd_app (s : Rat) (a b : List Lay) : nd s (a ++ b) = nd s a + nd s b := by unfold nd; rw [List.map_append, rsum_app]
theorem okL_app {a b : List Lay} (h : ∀ x, x ∈ a → okL x) (k : ∀ x, x ∈ b → okL x) : ∀ x, x ∈ a ++ b → okL x := fun x hx => (List.mem_append.mp hx).elim (h x) (k x)
theorem sum_join {g : Lay → Rat} (hg : Adds g) {a b : List Lay} (h : ∀ x, x ∈ a → okL x) (k : ∀ x, x ∈ b → okL x) : rsum ((al (a ++ b)).map g) = rsum (a.map g) + rsum (b.map g) := by
  rw [sum_al hg (okL_app h k), List.map_append, rsum_app]
/-! ### shares -/
def scl (p : Rat) (x : Lay) : Lay := (x.1 * p, x.2 * p)
theorem scl_ok {p : Rat} (hp : 0 < p) {x : Lay} (h : okL x) : okL (scl p x) := by
  refine ⟨Rat.mul_nonneg h.1 (Rat.le_of_lt hp), Rat.mul_nonneg h.2.1 (Rat.le_of_lt hp), fun e => ?_⟩
  have x0 : x.1 = 0 := by rcases r_mul0 e with e | e <;> grind
  have xp := h.snd x0
  have := Rat.mul_pos xp hp
  show x.2 * p ≠ 0
  grind
theorem scl_sg {p : Rat} (hp : 0 < p) {x y : Lay} (h : sg x y) : sg (scl p x) (scl p y) := by
  unfold sg scl at *
  have := Rat.mul_lt_mul_of_pos_right (Rat.mul_lt_mul_of_pos_right h hp) hp
  simp only; grind
theorem shr_sort {p : Rat} (hp : 0 ≤ p) {l : List Lay} (h : SortB l) : SortB (shr p l) := by
  unfold shr
  split
  · exact .nil
  · rename_i c
    have hp : 0 < p := by grind
    refine ⟨fun y hy => ?_, ?_⟩
    · obtain ⟨x, hx, rfl⟩ := List.mem_map.mp hy
      exact scl_ok hp (h.1 x hx)
    · rw [List.pairwise_map]
      exact h.2.imp fun k => scl_sg hp k
theorem shr_lay {p f : Rat} (hp : 0 ≤ p) {l : List Lay} (h : ∀ x, x ∈ l → isLay f x = true) : ∀ x, x ∈ shr p l → isLay f x = true := by
  unfold shr
  split
  · intro x hx; cases hx
  · rename_i c
    have hp : 0 < p := by grind
    intro y hy
    obtain ⟨x, hx, rfl⟩ := List.mem_map.mp hy
    obtain ⟨h1, h2⟩ := isLay_iff.mp (h x hx)
    refine isLay_iff.mpr ⟨scl_ok hp h1, fun e => ?_⟩
    have x0 : x.1 ≠ 0 := fun z => e (by show x.1 * p = 0; rw [z]; grind)
    have := Rat.mul_le_mul_of_nonneg_right (h2 x0) (Rat.le_of_lt hp)
    show x.2 * p ≤ f * (x.1 * p)
    grind
theorem con_scl {p : Rat} (hp : p ≠ 0) (v : Lay) : ∀ l : List Lay, con v (l.map (scl p)) = scl p (con v l)
  | [] => by unfold scl con; simp
  | x :: l => by
    have ih := con_scl hp v l
    rw [List.map_cons]
    have e : ali v (scl p x) = ali v x := by
      unfold ali scl
      refine decide_eq_decide.mpr ⟨fun h => ?_, fun h => ?_⟩
      · have h : (v.2 * x.1 - x.2 * v.1) * p = 0 := by simp only at h; grind
        rcases r_mul0 h with h | h <;> grind
      · simp only; grind
    simp only [con, e, ih]
    by_cases c : ali v x = true
    · rw [if_pos c, if_pos c]; unfold addL scl; simp only [Prod.mk.injEq]; grind
    · rw [if_neg c, if_neg c]
theorem con_shr (p : Rat) (v : Lay) (l : List Lay) : con v (shr p l) = scl p (con v l) := by
  unfold shr
  split
  · rename_i c
    rw [c]; unfold scl con; simp
  · rename_i c
    exact con_scl c v l
theorem shr_join {p : Rat} (p0 : 0 ≤ p) (p1 : p ≤ 1) {l : List Lay} (h : SortB l) : al (shr p l ++ shr (1 - p) l) = l := by
  have h1 := shr_sort p0 h
  have h2 := shr_sort (p := 1 - p) (by grind) h
  have ok := okL_app h1.1 h2.1
  refine uniq (sort_al ok) h fun v _ => ?_
  rw [con_al v ok, con_app, con_shr, con_shr]
  unfold addL scl
  ext
  · simp only; grind
  · simp only; grind
theorem sum_shr {g : Lay → Rat} {p : Rat} (hg : ∀ x, g (scl p x) = g x * p) : ∀ l : List Lay, rsum ((shr p l).map g) = rsum (l.map g) * p := by
  intro l
  unfold shr
  split
  · rename_i c
    rw [c]; simp [rsum_nil]
  · induction l with
    | nil => simp [rsum_nil]
    | cons x l ih => 
      rw [List.map_cons, List.map_cons, rsum_cons, ih, List.map_cons, rsum_cons, show (x.1 * p, x.2 * p) = scl p x from rfl, hg]; grind
theorem nd_shr {s p : Rat} (hs : 0 < s) (hp : 0 ≤ p) (l : List Lay) : nd s (shr p l) = nd s l * p := by
  refine sum_shr (fun x => ?_) l
  by_cases c : p = 0
  · subst c
    unfold lck scl
    simp only [Rat.mul_zero, Rat.div_def, Rat.zero_mul]
    rw [if_neg (by grind)]
  · have hp : 0 < p := by grind
    have e : (scl p x).1 - (scl p x).2 / s = (x.1 - x.2 / s) * p := by
      show x.1 * p - x.2 * p / s = _
      simp only [Rat.div_def]; grind
    unfold lck
    rw [e]
    by_cases c : 0 < x.1 - x.2 / s
    · rw [if_pos c, if_pos (Rat.mul_pos c hp)]
    · rw [if_neg c, if_neg fun z => ?_]
      · grind
      · have : (x.1 - x.2 / s) * p ≤ 0 := by
          have := Rat.mul_le_mul_of_nonneg_right (Rat.not_lt.mp c) (Rat.le_of_lt hp)
          grind
        grind
/-! ### brines judged -/
theorem isBr_of {f : Rat} {l : List Lay} (h : ∀ x, x ∈ l → isLay f x = true) (hs : l.Pairwise sg) : isBr f l = true := by
  unfold isBr
  rw [Bool.and_eq_true, List.all_eq_true, List.all_eq_true]
  refine ⟨h, fun p hp => ?_⟩
  clear h
  rw [strg_iff]
  induction l with
  | nil => cases hp
  | cons x l ih =>
    obtain ⟨h1, h2⟩ := List.pairwise_cons.mp hs
    cases l with
    | nil => simp at hp
    | cons y l =>
      simp only [List.tail_cons, List.zip_cons_cons, List.mem_cons] at hp
      rcases hp with rfl | hp
      · exact h1 y List.mem_cons_self
      · exact ih h2 (by simpa using hp)
theorem al_al {a b : List Lay} (h : ∀ x, x ∈ a → okL x) (k : ∀ x, x ∈ b → okL x) : al (al a ++ b) = al (a ++ b) ∧ al (a ++ al b) = al (a ++ b) := by
  have o1 := (sort_al h).1
  have o2 := (sort_al k).1
  refine ⟨al_con (okL_app o1 k) (okL_app h k) fun v _ => ?_, al_con (okL_app h o2) (okL_app h k) fun v _ => ?_⟩
  · rw [con_app, con_app, con_al v h]
  · rw [con_app, con_app, con_al v k]
theorem al_perm {a b : List Lay} (h : ∀ x, x ∈ a → okL x) (k : ∀ x, x ∈ b → okL x) : al (a ++ b) = al (b ++ a) :=
  al_con (okL_app h k) (okL_app k h) fun v _ => by rw [con_app, con_app, addL_comm]
end TL

set_option Elab.async false
set_option linter.all false
set_option maxRecDepth 100000
set_option maxHeartbeats 4000000
set_option autoImplicit false
/-! TLbk: full strengths, waters, brines drawn (k83, k84). -/
namespace TL
open PySem PySem.Spec PyProof.Rows L2
/-- parts of so much -/
def Bq (n m : Nat) (q : Rat) : Prop := q.num.natAbs ≤ n ∧ q.den ≤ m
theorem Bq.mono {n m n' m' : Nat} {q : Rat} (h : Bq n m q) (a : n ≤ n') (b : m ≤ m') : Bq n' m' q := ⟨Nat.le_trans h.1 a, Nat.le_trans h.2 b⟩
theorem Bq.mul {n m n' m' : Nat} {p q : Rat} (h : Bq n m p) (k : Bq n' m' q) : Bq (n * n') (m * m') (p * q) := by
  rw [← times_eq]
  have d0 : ((p.den : Int) * q.den) ≠ 0 := Int.mul_ne_zero (den0 p) (den0 q)
  obtain ⟨a, b⟩ := nd_le (p.num * q.num) (p.den * q.den) d0
  refine ⟨Nat.le_trans a ?_, Nat.le_trans b ?_⟩
  · rw [Int.natAbs_mul]; exact Nat.mul_le_mul h.1 k.1
  · rw [Int.natAbs_mul, Int.natAbs_natCast, Int.natAbs_natCast]; exact Nat.mul_le_mul h.2 k.2
theorem Bq.F {n m : Nat} {q : Rat} (h : Bq n m q) (a : n < 10 ^ 12) (b : m < 10 ^ 12) : F400 q := ⟨n400 (by have := h.1; omega), n400 (by have := h.2; omega)⟩
theorem bq_made {a b : Int} {n m : Nat} (h : 0 < b) (ha : a.natAbs ≤ n) (hb : b.natAbs ≤ m) : Bq n m (Rat.divInt a b) := ⟨Nat.le_trans (nd_le a b (by omega)).1 ha, Nat.le_trans (nd_le a b (by omega)).2 hb⟩
theorem tR_lit {a b : Int} (h1 : (Rat.divInt a b).num = a) (h2 : (((Rat.divInt a b).den : Nat) : Int) = b) : T.tup [.int a, .int b] = tR (Rat.divInt a b) := by unfold tR; rw [h1, h2]
theorem made_apB {a b : Int} {n m : Nat} {S : SS} {Q : KQ} {E : Exn → SS → Prop} (hb : 0 < b) (h1 : a.natAbs ≤ n) (h2 : b.natAbs ≤ m) (hn : n < 10 ^ 12) (hm : m < 10 ^ 12) (h : Bq n m (Rat.divInt a b) → Q (tR (Rat.divInt a b)) S) : sp__law_made [.int a, .int b] S Q E :=
  ⟨a, b, rfl, n400 (by omega), hb, n400 (by omega), h (bq_made hb h1 h2)⟩
def sp__law_a_full : TSp := spDraw (fun as => as = []) 5 (fun _ t => ∃ f : Rat, t = tR f ∧ 0 < f ∧ Bq 1000 1000 f)
theorem len__law_a_full : ∀ ts S Q E, sp__law_a_full ts S Q E → ts.length = 1 := draw_len fun _ h => by rw [h]; rfl
def b__law_a_full (W : XW) : DS :=
  (seqD
    (ifD (tstD (opD (cmpR .Eq) (callF sp__law_draw W (consA (rdD 0) (consA (cD (.int 6)) nilA))) (cD (.int 0))))
      (seqD
        (retD (tupD (consA (opD ixR (lstD false (consA (cD (.int 7)) (consA (cD (.int 101)) (consA (cD (.int 499)) (consA (cD (.int 997)) nilA))))) (callF sp__law_draw W (consA (rdD 0) (consA (cD (.int 4)) nilA)))) (consA (opD ixR (lstD false (consA (cD (.int 11)) (consA (cD (.int 89)) (consA (cD (.int 503)) (consA (cD (.int 991)) nilA))))) (callF sp__law_draw W (consA (rdD 0) (consA (cD (.int 4)) nilA)))) nilA))))
      nextD)
      nextD)
  (seqD
    (retD (callF sp__law_made W (consA (opD (binR false .Add) (cD (.int 1)) (callF sp__law_draw W (consA (rdD 0) (consA (cD (.int 9)) nilA)))) (consA (opD (binR false .Add) (cD (.int 1)) (callF sp__law_draw W (consA (rdD 0) (consA (cD (.int 4)) nilA)))) nilA))))
  nextD))
theorem g_pos2 {a b : Int} (ha : 0 < a) (hb : 0 < b) : 0 < Rat.divInt a b := g_pos ha hb
theorem law__law_a_full {ts : List T} {S : SS} {Q : KQ} {E : Exn → SS → Prop} (h : sp__law_a_full ts S Q E) : b__law_a_full (fun x _ S' => E x S') { nx := fun _ S' => Q .non S', rt := Q } (start' 1 ts) S := by
  obtain ⟨r, as, n, l0, rfl, rfl, hS, R0, hn, h⟩ := h
  unfold b__law_a_full start'
  try simp -implicitDefEqProofs
  refine take_ap hS R0 (by omega) (by decide) trivial fun d1 l1 a1 b1 R1 => ?_
  try simp -implicitDefEqProofs
  by_cases c : d1 = 0
  · subst c
    try simp -implicitDefEqProofs
    refine take_ap supd_same R1 (by omega) (by decide) trivial fun d2 l2 a2 b2 R2 => ?_
    try simp -implicitDefEqProofs
    refine at_ap a2 (by simpa using b2) fun ti mi => ?_
    try simp -implicitDefEqProofs
    refine take_ap supd_same R2 (by omega) (by decide) trivial fun d3 l3 a3 b3 R3 => ?_
    try simp -implicitDefEqProofs
    refine at_ap a3 (by simpa using b3) fun tj mj => ?_
    simp only [List.mem_cons, List.not_mem_nil, or_false] at mi mj
    try simp -implicitDefEqProofs
    refine h _ _ _ ?_ supd_same ExtR.sup (R3.mono (by omega))
    rcases mi with rfl | rfl | rfl | rfl <;> rcases mj with rfl | rfl | rfl | rfl <;>
      exact ⟨Rat.divInt _ _, tR_lit (by decide +kernel) (by decide +kernel), g_pos (by decide) (by decide), bq_made (by decide) (by decide) (by decide)⟩
  · try simp -implicitDefEqProofs [c]
    refine take_ap supd_same R1 (by omega) (by decide) trivial fun d2 l2 a2 b2 R2 => ?_
    try simp -implicitDefEqProofs
    refine take_ap supd_same R2 (by omega) (by decide) trivial fun d3 l3 a3 b3 R3 => ?_
    try simp -implicitDefEqProofs
    refine made_apB (n := 1000) (m := 1000) (by omega) (by omega) (by omega) (by decide) (by decide) fun hq => ?_
    try simp -implicitDefEqProofs
    exact h _ _ _ ⟨_, rfl, g_pos (by omega) (by omega), hq⟩ supd_same ExtR.sup (R3.mono (by omega))
def sp__law_a_positive : TSp := spDraw (fun as => as = []) 2 (fun _ t => ∃ q : Rat, t = tR q ∧ 0 < q ∧ Bq 20 12 q)
theorem len__law_a_positive : ∀ ts S Q E, sp__law_a_positive ts S Q E → ts.length = 1 := draw_len fun _ h => by rw [h]; rfl
def b__law_a_positive (W : XW) : DS :=
  (seqD
    (asgD (opD ixR (lstD false (consA (cD (.int 1)) (consA (cD (.int 1)) (consA (cD (.int 2)) (consA (cD (.int 3)) (consA (cD (.int 4)) (consA (cD (.int 6)) (consA (cD (.int 12)) (consA (cD (.int 5)) (consA (cD (.int 7)) nilA)))))))))) (callF sp__law_draw W (consA (rdD 0) (consA (cD (.int 9)) nilA)))) (.nm 1))
  (seqD
    (retD (callF sp__law_made W (consA (opD (binR false .Add) (cD (.int 1)) (callF sp__law_draw W (consA (rdD 0) (consA (cD (.int 18)) nilA)))) (consA (rdD 1) nilA))))
  nextD))
theorem law__law_a_positive {ts : List T} {S : SS} {Q : KQ} {E : Exn → SS → Prop} (h : sp__law_a_positive ts S Q E) : b__law_a_positive (fun x _ S' => E x S') { nx := fun _ S' => Q .non S', rt := Q } (start' 2 ts) S := by
  obtain ⟨r, as, n, l0, rfl, rfl, hS, R0, hn, h⟩ := h
  unfold b__law_a_positive start'
  try simp -implicitDefEqProofs
  refine take_ap hS R0 (by omega) (by decide) trivial fun d1 l1 a1 b1 R1 => ?_
  try simp -implicitDefEqProofs
  refine at_ap a1 (by simpa using b1) fun ti mi => ?_
  obtain ⟨u, rfl, u0, u1⟩ : ∃ y : Int, ti = .int y ∧ 1 ≤ y ∧ y ≤ 12 := by
    simp only [List.mem_cons, List.not_mem_nil, or_false] at mi
    rcases mi with rfl | rfl | rfl | rfl | rfl | rfl | rfl | rfl | rfl <;> exact ⟨_, rfl, by omega, by omega⟩
  try simp -implicitDefEqProofs
  refine take_ap supd_same R1 (by omega) (by decide) trivial fun d2 l2 a2 b2 R2 => ?_
  try simp -implicitDefEqProofs
  refine made_apB (n := 20) (m := 12) (by omega) (by omega) (by omega) (by decide) (by decide) fun hq => ?_
  try simp -implicitDefEqProofs
  exact h _ _ _ ⟨_, rfl, g_pos (by omega) (by omega), hq⟩ supd_same ExtR.sup (R2.mono (by omega))
def sp__law_some_water : TSp := spDraw (fun as => ∃ f : Rat, as = [tR f, .int 20] ∧ Bq 1000 1000 f) 2 (fun _ t => ∃ q : Rat, t = tR q ∧ 0 < q ∧ Bq 12000000 12 q)
theorem len__law_some_water : ∀ ts S Q E, sp__law_some_water ts S Q E → ts.length = 3 := draw_len fun _ ⟨_, h, _⟩ => by rw [h]; rfl
def b__law_some_water (W : XW) : DS :=
  (seqD
    (ifD (tstD (opD (cmpR .Gt) (opD ixR (rdD 1) (cD (.int 1))) (cD (.int 9))))
      (seqD
        (retD (tupD (consA (opD (binR false .Mult) (opD (binR false .Mult) (cD (.int 12)) (opD ixR (rdD 1) (cD (.int 1)))) (opD (binR false .Add) (cD (.int 1)) (callF sp__law_draw W (consA (rdD 0) (consA (rdD 2) nilA))))) (consA (cD (.int 1)) nilA))))
      nextD)
      nextD)
  (seqD
    (retD (callF sp__law_a_positive W (consA (rdD 0) nilA)))
  nextD))
theorem law__law_some_water {ts : List T} {S : SS} {Q : KQ} {E : Exn → SS → Prop} (h : sp__law_some_water ts S Q E) : b__law_some_water (fun x _ S' => E x S') { nx := fun _ S' => Q .non S', rt := Q } (start' 3 ts) S := by
  obtain ⟨r, as, n, l0, rfl, ⟨f, rfl, hf⟩, hS, R0, hn, h⟩ := h
  have f2 := hf.2
  have c1 : CMulW 12 ((f.den : Nat) : Int) := cmw (a := 4) (b := 10) (by decide) (by omega) (by decide)
  unfold b__law_some_water start'
  try simp -implicitDefEqProofs
  by_cases c : (9 : Int) < ((f.den : Nat) : Int)
  · try simp -implicitDefEqProofs [c, c1]
    refine take_ap hS R0 (by omega) (by decide) trivial fun d1 l1 a1 b1 R1 => ?_
    have c2 : CMulW (12 * ((f.den : Nat) : Int)) (1 + d1) := cmw (a := 14) (b := 5) (by omega) (by omega) (by decide)
    try simp -implicitDefEqProofs [c2]
    have h0 : (12 * ((f.den : Nat) : Int)) * (1 + d1) ≤ (12 * ((f.den : Nat) : Int)) * 20 := Int.mul_le_mul_of_nonneg_left (by omega) (by omega)
    have h1 : 0 < (12 * ((f.den : Nat) : Int)) * (1 + d1) := Int.mul_pos (by omega) (by omega)
    rw [tup_int]
    generalize (12 * ((f.den : Nat) : Int)) * (1 + d1) = w at h0 h1
    refine h _ _ _ ⟨_, rfl, by exact_mod_cast h1, ?_, ?_⟩ supd_same ExtR.sup (R1.mono (by omega))
    · rw [Rat.num_intCast]; omega
    · rw [Rat.den_intCast]; decide
  · try simp -implicitDefEqProofs [c]
    refine draw_run hS R0 (by omega) rfl fun t1 S1 l1 P1 hS1 hx1 R1 => ?_
    obtain ⟨q, rfl, q0, hq⟩ := P1
    exact h _ _ _ ⟨q, rfl, q0, hq.mono (by decide) (by decide)⟩ hS1 hx1 (R1.mono (by omega))
def sp__law_times : TSp := fun ts S Q E => ∃ p q : Rat, ts = [tR p, tR q] ∧ p.num.natAbs * q.num.natAbs < N400 ∧ p.den * q.den < N400 ∧ F400 p ∧ F400 q ∧ Q (tR (p * q)) S
theorem len__law_times (ts S Q E) (h : sp__law_times ts S Q E) : ts.length = 2 := by obtain ⟨_, _, rfl, _⟩ := h; rfl
def b__law_times (W : XW) : DS :=
  (seqD
    (retD (callF sp__law_made W (consA (opD (binR false .Mult) (opD ixR (rdD 0) (cD (.int 0))) (opD ixR (rdD 1) (cD (.int 0)))) (consA (opD (binR false .Mult) (opD ixR (rdD 0) (cD (.int 1))) (opD ixR (rdD 1) (cD (.int 1)))) nilA))))
  nextD)
theorem f400_bits {n : Nat} (h : n < 10 ^ 400) : n < 2 ^ 1400 := Nat.lt_of_lt_of_le h (by decide +kernel)
theorem dd_pos2 (p q : Rat) : (0 : Int) < (p.den : Int) * q.den := Int.mul_pos (g_den_pos p) (g_den_pos q)
theorem law__law_times {ts : List T} {S : SS} {Q : KQ} {E : Exn → SS → Prop} (h : sp__law_times ts S Q E) : b__law_times (fun x _ S' => E x S') { nx := fun _ S' => Q .non S', rt := Q } (start' 2 ts) S := by
  obtain ⟨p, q, rfl, h1, h2, hp, hq, h⟩ := h
  have c1 : CMulW p.num q.num := cmw (a := 1400) (b := 1400) (f400_bits hp.1) (f400_bits hq.1) (by decide)
  have c2 : CMulW ((p.den : Nat) : Int) ((q.den : Nat) : Int) := cmw (a := 1400) (b := 1400) (by rw [Int.natAbs_natCast]; exact f400_bits hp.2) (by rw [Int.natAbs_natCast]; exact f400_bits hq.2) (by decide)
  unfold b__law_times start'
  simp -implicitDefEqProofs [c1, c2]
  refine ⟨_, _, rfl, by rw [Int.natAbs_mul]; exact h1, dd_pos2 p q, by rw [Int.natAbs_mul, Int.natAbs_natCast, Int.natAbs_natCast]; exact h2, ?_⟩
  rw [times_eq]
  exact h
theorem times_B {n m n' m' : Nat} {p q : Rat} {S : SS} {Q : KQ} {E : Exn → SS → Prop} (hp : Bq n m p) (hq : Bq n' m' q) (h1 : n < 10 ^ 12 ∧ m < 10 ^ 12 ∧ n' < 10 ^ 12 ∧ m' < 10 ^ 12 ∧ n * n' < 10 ^ 12 ∧ m * m' < 10 ^ 12) (h : Bq (n * n') (m * m') (p * q) → Q (tR (p * q)) S) : sp__law_times [tR p, tR q] S Q E :=
  ⟨p, q, rfl, n400 (Nat.lt_of_le_of_lt (Nat.mul_le_mul hp.1 hq.1) h1.2.2.2.2.1), n400 (Nat.lt_of_le_of_lt (Nat.mul_le_mul hp.2 hq.2) h1.2.2.2.2.2), hp.F h1.1 h1.2.1, hq.F h1.2.2.1 h1.2.2.2.1, h (hp.mul hq)⟩
/-! ### brines drawn -/
def shL : List Rat := [Rat.divInt 1 1, Rat.divInt 11 12, Rat.divInt 3 4, Rat.divInt 2 3, Rat.divInt 1 2, Rat.divInt 1 3, Rat.divInt 1 4, Rat.divInt 1 12]
theorem shL_T : [T.tup [.int 1, .int 1], T.tup [.int 11, .int 12], T.tup [.int 3, .int 4], T.tup [.int 2, .int 3], T.tup [.int 1, .int 2], T.tup [.int 1, .int 3], T.tup [.int 1, .int 4], T.tup [.int 1, .int 12]] = shL.map tR := by
  unfold shL
  rw [tR_lit (a := 1) (b := 1) (by decide +kernel) (by decide +kernel), tR_lit (a := 11) (b := 12) (by decide +kernel) (by decide +kernel), tR_lit (a := 3) (b := 4) (by decide +kernel) (by decide +kernel), tR_lit (a := 2) (b := 3) (by decide +kernel) (by decide +kernel), tR_lit (a := 1) (b := 2) (by decide +kernel) (by decide +kernel), tR_lit (a := 1) (b := 3) (by decide +kernel) (by decide +kernel), tR_lit (a := 1) (b := 4) (by decide +kernel) (by decide +kernel), tR_lit (a := 1) (b := 12) (by decide +kernel) (by decide +kernel)]
  rfl
theorem shL_desc : shL.Pairwise (fun a b => b < a) := by unfold shL; decide +kernel
theorem shL_B : ∀ x, x ∈ shL → 0 < x ∧ x ≤ 1 ∧ Bq 12 12 x := by
  intro x hx
  have h : ∀ x, x ∈ shL → 0 < x ∧ x ≤ 1 ∧ x.num.natAbs ≤ 12 ∧ x.den ≤ 12 := by unfold shL; decide +kernel
  obtain ⟨a, b, d, e⟩ := h x hx
  exact ⟨a, b, d, e⟩
/-- small parts of a layer -/
def B12 (x : Lay) : Prop := Bq 200000000000 200000 x.1 ∧ Bq 200000000000 200000 x.2
theorem B12.F4 {x : Lay} (h : B12 x) : F4 x := ⟨h.1.F (by decide) (by decide), h.2.F (by decide) (by decide)⟩
/-- a layer laid ahead of the share at i -/
def LOk (f : Rat) (i : Nat) (x : Lay) : Prop := B12 x ∧ ((x.1 = 0 ∧ 0 < x.2) ∨ (0 < x.1 ∧ ∃ s, 0 < s ∧ s ≤ 1 ∧ x.2 = f * s * x.1 ∧ ∀ t, t ∈ shL.drop i → t < s))
theorem LOk.mono {f : Rat} {i : Nat} {x : Lay} (h : LOk f i x) : LOk f (i + 1) x := by
  refine ⟨h.1, h.2.imp id fun ⟨a, s, b, c, d, e⟩ => ⟨a, s, b, c, d, fun t ht => e t ?_⟩⟩
  have z : shL.drop (i + 1) = (shL.drop i).drop 1 := by rw [List.drop_drop]
  rw [z] at ht
  exact List.mem_of_mem_drop ht
theorem LOk.sgs {f t w : Rat} {i : Nat} {x : Lay} (f0 : 0 < f) (w0 : 0 < w) (h : LOk f i x) (ht : t ∈ shL.drop i) : sg x (w, f * t * w) := by
  unfold TL.sg
  rcases h.2 with ⟨a, b⟩ | ⟨a, s, s0, s1, e, k⟩
  · rw [a]
    have := Rat.mul_pos b w0
    simp only [Rat.mul_zero]
    exact this
  · have hts := k t ht
    have p1 : 0 < f * w * x.1 := Rat.mul_pos (Rat.mul_pos f0 w0) a
    have p2 := Rat.mul_lt_mul_of_pos_right hts p1
    rw [e]
    show f * t * w * x.1 < f * s * x.1 * w
    grind
theorem LOk.sgr {f w : Rat} {i : Nat} {x : Lay} (f0 : 0 < f) (w0 : 0 < w) (h : LOk f i x) : sg x (w, 0) := by
  unfold TL.sg
  rcases h.2 with ⟨a, b⟩ | ⟨a, s, s0, s1, e, k⟩
  · rw [a]
    have := Rat.mul_pos b w0
    simp only [Rat.mul_zero]
    exact this
  · have p1 : 0 < f * s * x.1 * w := Rat.mul_pos (Rat.mul_pos (Rat.mul_pos f0 s0) a) w0
    rw [e]
    show 0 * x.1 < f * s * x.1 * w
    grind
theorem LOk.lay {f : Rat} {i : Nat} {x : Lay} (f0 : 0 < f) (h : LOk f i x) : isLay f x = true := by
  rcases h.2 with ⟨a, b⟩ | ⟨a, s, s0, s1, e, k⟩
  · have : x = (0, x.2) := by rw [← a]
    rw [this]
    exact isLay_fal b
  · have p1 : 0 < f * s * x.1 := Rat.mul_pos (Rat.mul_pos f0 s0) a
    have p2 : 0 ≤ (1 - s) := by grind
    have p3 : 0 < f * x.1 := Rat.mul_pos f0 a
    have p4 := Rat.mul_nonneg p2 (Rat.le_of_lt p3)
    refine isLay_wet a (by rw [e]; exact Rat.le_of_lt p1) (by rw [e]; grind)
/-- a drawn brine -/
def BrD (f : Rat) (L : List Lay) : Prop := isBr f L = true ∧ (∀ x, x ∈ L → B12 x) ∧ L.length ≤ 30
theorem pw_snoc {L : List Lay} {y : Lay} (h : L.Pairwise sg) (k : ∀ x, x ∈ L → sg x y) : (L ++ [y]).Pairwise sg :=
  List.pairwise_append.mpr ⟨h, List.pairwise_singleton _ _, fun a ha b hb => by rw [List.mem_singleton.mp hb]; exact k a ha⟩
def sp__law_a_brine : TSp := spDraw (fun as => ∃ f : Rat, as = [tR f, .int 8] ∧ 0 < f ∧ Bq 1000 1000 f) 40 (fun as t => ∀ f : Rat, as = [tR f, .int 8] → ∃ L : List Lay, t = tB L ∧ BrD f L)
theorem len__law_a_brine : ∀ ts S Q E, sp__law_a_brine ts S Q E → ts.length = 3 := draw_len fun _ ⟨_, h, _⟩ => by rw [h]; rfl
def b__law_a_brine (W : XW) : DS :=
  (seqD
    (asgD (lstD false (consA (tupD (consA (cD (.int 1)) (consA (cD (.int 1)) nilA))) (consA (tupD (consA (cD (.int 11)) (consA (cD (.int 12)) nilA))) (consA (tupD (consA (cD (.int 3)) (consA (cD (.int 4)) nilA))) (consA (tupD (consA (cD (.int 2)) (consA (cD (.int 3)) nilA))) (consA (tupD (consA (cD (.int 1)) (consA (cD (.int 2)) nilA))) (consA (tupD (consA (cD (.int 1)) (consA (cD (.int 3)) nilA))) (consA (tupD (consA (cD (.int 1)) (consA (cD (.int 4)) nilA))) (consA (tupD (consA (cD (.int 1)) (consA (cD (.int 12)) nilA))) nilA))))))))) (.nm 3))
  (seqD
    (asgD (lstD true nilA) (.nm 4))
  (seqD
    (ifD (tstD (opD (cmpR .Eq) (callF sp__law_draw W (consA (rdD 0) (consA (cD (.int 3)) nilA))) (cD (.int 0))))
      (seqD
        (dropD (methD "list" appendR (rdD 4) (consA (tupD (consA (tupD (consA (cD (.int 0)) (consA (cD (.int 1)) nilA))) (consA (callF sp__law_a_positive W (consA (rdD 0) nilA)) nilA))) nilA)))
      nextD)
      nextD)
  (seqD
    (forD (seqI (slD false (rdD 3) noneO (someO (rdD 2)))) (.nm 5)
      (seqD
        (ifD (tstD (opD (cmpR .Eq) (callF sp__law_draw W (consA (rdD 0) (consA (cD (.int 3)) nilA))) (cD (.int 0))))
          (seqD
            (asgD (callF sp__law_some_water W (consA (rdD 0) (consA (rdD 1) (consA (cD (.int 20)) nilA)))) (.nm 6))
          (seqD
            (dropD (methD "list" appendR (rdD 4) (consA (tupD (consA (rdD 6) (consA (callF sp__law_times W (consA (callF sp__law_times W (consA (rdD 1) (consA (rdD 5) nilA))) (consA (rdD 6) nilA))) nilA))) nilA)))
          nextD))
          nextD)
      nextD))
  (seqD
    (ifD (tstD (opD (cmpR .Eq) (callF sp__law_draw W (consA (rdD 0) (consA (cD (.int 4)) nilA))) (cD (.int 0))))
      (seqD
        (dropD (methD "list" appendR (rdD 4) (consA (tupD (consA (callF sp__law_a_positive W (consA (rdD 0) nilA)) (consA (tupD (consA (cD (.int 0)) (consA (cD (.int 1)) nilA))) nilA))) nilA)))
      nextD)
      nextD)
  (seqD
    (retD (callB tupleTR (consA (rdD 4) nilA)))
  nextD))))))
theorem app_R {p : Addr} {l : List T} {t : T} {S : SS} {Q : KQ} (h : S p = some (.lst l)) (hl : l.length < 16777216) (k : Q .non (supd S p (.lst (l ++ [t])))) : appendR (.ref p) [t] S Q := by
  rw [app_at h]
  exact ⟨by have : sizeLine = 16777216 := rfl; omega, k⟩
theorem law__law_a_brine {ts : List T} {S : SS} {Q : KQ} {E : Exn → SS → Prop} (h : sp__law_a_brine ts S Q E) : b__law_a_brine (fun x _ S' => E x S') { nx := fun _ S' => Q .non S', rt := Q } (start' 7 ts) S := by
  obtain ⟨r, as, n, l0, rfl, ⟨f, rfl, f0, hf⟩, hS, R0, hn, h⟩ := h
  have sl : sizeLine = 16777216 := rfl
  have shE : ∀ S (Q : KQ), slR false (.lst (shL.map tR)) none (some 8) S Q = Q (.lst (shL.map tR)) S := fun S Q => by
    have e : cutG (shL.map tR) none (some 8) = shL.map tR := by unfold cutG HT.sIx; simp [shL]
    rw [q_slLst, q_newF, e]
  have bs : Bq 1000 1000 f := hf
  have main : ∀ (q : Addr) (S1 : SS) (L0 : List Lay) (l1 : List T), q ≠ r → S q = none → S1 q = some (.lst (L0.map tL)) → S1 r = some (.lst l1) → RL (n + 3) l1 → ExtR r S S1 → (∀ x, x ∈ L0 → LOk f 0 x) → L0.Pairwise sg → L0.length ≤ 1 → (
      (seqD
      (forD (seqI (slD false (rdD 3) noneO (someO (rdD 2)))) (.nm 5)
      (seqD
      (ifD (tstD (opD (cmpR .Eq) (callF sp__law_draw (fun x _ S' => E x S') (consA (rdD 0) (consA (cD (.int 3)) nilA))) (cD (.int 0))))
      (seqD
      (asgD (callF sp__law_some_water (fun x _ S' => E x S') (consA (rdD 0) (consA (rdD 1) (consA (cD (.int 20)) nilA)))) (.nm 6))
      (seqD
      (dropD (methD "list" appendR (rdD 4) (consA (tupD (consA (rdD 6) (consA (callF sp__law_times (fun x _ S' => E x S') (consA (callF sp__law_times (fun x _ S' => E x S') (consA (rdD 1) (consA (rdD 5) nilA))) (consA (rdD 6) nilA))) nilA))) nilA)))
      nextD))
      nextD)
      nextD))
      (seqD
      (ifD (tstD (opD (cmpR .Eq) (callF sp__law_draw (fun x _ S' => E x S') (consA (rdD 0) (consA (cD (.int 4)) nilA))) (cD (.int 0))))
      (seqD
      (dropD (methD "list" appendR (rdD 4) (consA (tupD (consA (callF sp__law_a_positive (fun x _ S' => E x S') (consA (rdD 0) nilA)) (consA (tupD (consA (cD (.int 0)) (consA (cD (.int 1)) nilA))) nilA))) nilA)))
      nextD)
      nextD)
      (seqD
      (retD (callB tupleTR (consA (rdD 4) nilA)))
      nextD)))) { nx := fun _ S' => Q .non S', rt := Q } [some (.ref r), some (tR f), some (.int 8), some (.lst (shL.map tR)), some (.ref q), none, none] S1 := by
    intro q S1 L0 l1 hqr hqS hq1 hr1 R1 X1 k1 k2 k3
    try simp -implicitDefEqProofs [shE]
    refine forL_inv (fun i τ S' => ∃ (L : List Lay) (l : List T) (x5 x6 : Option T), τ = [some (.ref r), some (tR f), some (.int 8), some (.lst (shL.map tR)), some (.ref q), x5, x6] ∧ S' q = some (.lst (L.map tL)) ∧ S' r = some (.lst l) ∧ RL (n + 3 + 3 * i) l ∧ ExtR r S S' ∧ (∀ x, x ∈ L → LOk f i x) ∧ L.Pairwise sg ∧ L.length ≤ 1 + i) (k := 0)
      ⟨L0, l1, _, _, rfl, hq1, hr1, R1, X1, k1, k2, k3⟩ ?_ ?_
    · rintro i hi τ S' D' ⟨L, l, x5, x6, rfl, hq, hr, R2, X2, m1, m2, m3⟩ nx ct rt bk
      clear ct rt bk
      rw [Nat.zero_add] at R2 m1 nx
      have hi8 : i < shL.length := by simpa using hi
      have h8 : shL.length = 8 := rfl
      simp only [List.getElem_map]
      obtain ⟨t0, t1, tB⟩ := shL_B _ (List.getElem_mem hi8)
      have tm : shL[i] ∈ shL.drop i := by rw [List.drop_eq_getElem_cons hi8]; exact List.mem_cons_self
      have tlt : ∀ u, u ∈ shL.drop (i + 1) → u < shL[i] := by
        have hp := shL_desc
        rw [← List.take_append_drop i shL, List.drop_eq_getElem_cons hi8] at hp
        have hp2 := (List.pairwise_append.mp hp).2.1
        exact (List.pairwise_cons.mp hp2).1
      generalize shL[i] = t at t0 t1 tB tm tlt
      refine ⟨trivial, ?_⟩
      try simp -implicitDefEqProofs
      refine take_ap hr R2 (by omega) (by decide) trivial fun d3 l3 a3 b3 R3 => ?_
      try simp -implicitDefEqProofs
      by_cases c : d3 = 0
      · simp -implicitDefEqProofs [c]
        have hrq : r ≠ q := Ne.symm hqr
        refine draw_run supd_same R3 (by omega) ⟨f, rfl, bs⟩ fun t4 S4 l4 P4 hS4 hx4 R4 => ?_
        obtain ⟨w, rfl, w0, wB⟩ := P4
        have hq4 : S4 q = some (.lst (L.map tL)) := hx4 _ _ hqr (by rw [supd_ne hqr]; exact hq)
        try simp -implicitDefEqProofs
        refine And.intro (aty_ref hq4) ?_
        refine times_B bs tB (by decide) fun ftB => ?_
        try simp -implicitDefEqProofs
        refine times_B ftB wB (by decide) fun fwB => ?_
        try simp -implicitDefEqProofs
        have yB : B12 (w, f * t * w) := ⟨wB.mono (by decide) (by decide), fwB.mono (by decide) (by decide)⟩
        rw [tL_mk]
        refine app_R hq4 (by rw [List.length_map]; omega) ?_
        try simp -implicitDefEqProofs
        refine nx _ _ ⟨L ++ [(w, f * t * w)], l4, _, _, rfl, by rw [supd_same]; simp, by rw [supd_ne hrq]; exact hS4, R4.mono (by omega), ((X2.sup'.trans hx4).new hqS), fun x hx => ?_, pw_snoc m2 fun x hx => (m1 x hx).sgs f0 w0 tm, by rw [List.length_append, List.length_singleton]; omega⟩
        rcases List.mem_append.mp hx with hx | hx
        · exact (m1 x hx).mono
        · rw [List.mem_singleton.mp hx]
          exact ⟨yB, .inr ⟨w0, t, t0, t1, rfl, tlt⟩⟩
      · simp -implicitDefEqProofs [c]
        exact nx _ _ ⟨L, l3, _, _, rfl, by rw [supd_ne hqr]; exact hq, supd_same, R3.mono (by omega), X2.sup', fun x hx => (m1 x hx).mono, m2, by omega⟩
    · rintro τ S' ⟨L, l, x5, x6, rfl, hq, hr, R2, X2, m1, m2, m3⟩
      have e8 : 0 + (shL.map tR).length = 8 := rfl
      rw [e8] at R2 m1 m3
      refine ⟨trivial, ?_⟩
      try simp -implicitDefEqProofs
      refine take_ap hr R2 (by omega) (by decide) trivial fun d3 l3 a3 b3 R3 => ?_
      try simp -implicitDefEqProofs
      have er : ∀ (S' : SS) (M : List Lay) (Q : KQ), S' q = some (.lst (M.map tL)) → tupleTR [.ref q] S' Q = Q (tB M) S' := fun S' M Q e => by unfold tupleTR sqOf; simp only [e]; rfl
      by_cases c : d3 = 0
      · simp -implicitDefEqProofs [c]
        have hrq : r ≠ q := Ne.symm hqr
        have hq3 : supd S' r (.lst l3) q = some (.lst (L.map tL)) := by rw [supd_ne hqr]; exact hq
        refine And.intro (aty_ref hq3) ?_
        refine draw_run supd_same R3 (by omega) rfl fun t4 S4 l4 P4 hS4 hx4 R4 => ?_
        obtain ⟨w, rfl, w0, wB⟩ := P4
        have hq4 : S4 q = some (.lst (L.map tL)) := hx4 _ _ hqr hq3
        try simp -implicitDefEqProofs
        rw [tR0, tL_mk]
        refine app_R hq4 (by rw [List.length_map]; omega) ?_
        try simp -implicitDefEqProofs
        rw [er _ (L ++ [(w, 0)]) _ (by rw [supd_same]; simp)]
        have yB : B12 (w, 0) := ⟨wB.mono (by decide) (by decide), (show Bq _ _ (0 : Rat) from ⟨by decide, by decide⟩)⟩
        have fw : 0 < f * w := Rat.mul_pos f0 w0
        refine h _ _ _ (fun g e => ?_) (by rw [supd_ne hrq]; exact hS4) ((X2.sup'.trans hx4).new hqS) (R4.mono (by omega))
        injection e with e _
        rw [tR_inj] at e
        subst e
        refine ⟨_, rfl, isBr_of (fun x hx => ?_) (pw_snoc m2 fun x hx => (m1 x hx).sgr f0 w0), fun x hx => ?_, by rw [List.length_append, List.length_singleton]; omega⟩
        · rcases List.mem_append.mp hx with hx | hx
          · exact (m1 x hx).lay f0
          · rw [List.mem_singleton.mp hx]
            exact isLay_wet w0 Rat.le_refl (Rat.le_of_lt fw)
        · rcases List.mem_append.mp hx with hx | hx
          · exact (m1 x hx).1
          · rw [List.mem_singleton.mp hx]; exact yB
      · simp -implicitDefEqProofs [c]
        rw [er _ L _ (by rw [supd_ne hqr]; exact hq)]
        refine h _ _ _ (fun g e => ?_) supd_same X2.sup' (R3.mono (by omega))
        injection e with e _
        rw [tR_inj] at e
        subst e
        exact ⟨_, rfl, isBr_of (fun x hx => (m1 x hx).lay f0) m2, fun x hx => (m1 x hx).1, by omega⟩
  unfold b__law_a_brine start'
  generalize (
      (seqD
      (forD (seqI (slD false (rdD 3) noneO (someO (rdD 2)))) (.nm 5)
      (seqD
      (ifD (tstD (opD (cmpR .Eq) (callF sp__law_draw (fun x _ S' => E x S') (consA (rdD 0) (consA (cD (.int 3)) nilA))) (cD (.int 0))))
      (seqD
      (asgD (callF sp__law_some_water (fun x _ S' => E x S') (consA (rdD 0) (consA (rdD 1) (consA (cD (.int 20)) nilA)))) (.nm 6))
      (seqD
      (dropD (methD "list" appendR (rdD 4) (consA (tupD (consA (rdD 6) (consA (callF sp__law_times (fun x _ S' => E x S') (consA (callF sp__law_times (fun x _ S' => E x S') (consA (rdD 1) (consA (rdD 5) nilA))) (consA (rdD 6) nilA))) nilA))) nilA)))
      nextD))
      nextD)
      nextD))
      (seqD
      (ifD (tstD (opD (cmpR .Eq) (callF sp__law_draw (fun x _ S' => E x S') (consA (rdD 0) (consA (cD (.int 4)) nilA))) (cD (.int 0))))
      (seqD
      (dropD (methD "list" appendR (rdD 4) (consA (tupD (consA (callF sp__law_a_positive (fun x _ S' => E x S') (consA (rdD 0) nilA)) (consA (tupD (consA (cD (.int 0)) (consA (cD (.int 1)) nilA))) nilA))) nilA)))
      nextD)
      nextD)
      (seqD
      (retD (callB tupleTR (consA (rdD 4) nilA)))
      nextD)))) = REST at main ⊢
  try simp -implicitDefEqProofs
  rw [shL_T]
  intro q hqS
  have hqr : q ≠ r := fun z => by rw [z, hS] at hqS; cases hqS
  have hrq : r ≠ q := Ne.symm hqr
  refine take_ap (by rw [supd_ne hrq]; exact hS) R0 (by omega) (by decide) trivial fun d1 l1 a1 b1 R1 => ?_
  try simp -implicitDefEqProofs
  have hq1 : supd (supd S q (.lst [])) r (.lst l1) q = some (.lst (([] : List Lay).map tL)) := by rw [supd_ne hqr, supd_same]; rfl
  have X1 : ExtR r S (supd (supd S q (.lst [])) r (.lst l1)) := ((ExtR.refl).new hqS).sup'
  by_cases c : d1 = 0
  · simp -implicitDefEqProofs [c]
    refine And.intro (aty_ref hq1) ?_
    refine draw_run supd_same R1 (by omega) rfl fun t4 S4 l4 P4 hS4 hx4 R4 => ?_
    obtain ⟨w, rfl, w0, wB⟩ := P4
    have hq4 : S4 q = some (.lst (([] : List Lay).map tL)) := hx4 _ _ hqr hq1
    try simp -implicitDefEqProofs
    rw [tR0, tL_mk]
    refine app_R hq4 (by simp) ?_
    try simp -implicitDefEqProofs
    have yB : B12 (0, w) := ⟨(show Bq _ _ (0 : Rat) from ⟨by decide, by decide⟩), wB.mono (by decide) (by decide)⟩
    refine main q _ [(0, w)] l4 hqr hqS (by rw [supd_same]; rfl) (by rw [supd_ne hrq]; exact hS4) (R4.mono (by omega)) ((X1.trans hx4).new hqS) (fun x hx => ?_) (List.pairwise_singleton _ _) (Nat.le_refl _)
    rw [List.mem_singleton.mp hx]
    exact ⟨yB, .inl ⟨rfl, w0⟩⟩
  · simp -implicitDefEqProofs [c]
    exact main q _ [] l1 hqr hqS hq1 supd_same (R1.mono (by omega)) X1 (fun x hx => by cases hx) List.Pairwise.nil (by decide)
end TL

set_option Elab.async false
set_option linter.all false
set_option maxRecDepth 100000
set_option maxHeartbeats 4000000
set_option autoImplicit false
/-! TLrd: a law's own reading of figures, its look at refusals of texts (k82, k84). -/
namespace TL
open PySem PySem.Spec PyProof.Rows L2
theorem q_addRL {mu : Bool} {a b : List T} {p : Addr} {S : SS} {Q : KQ} (h : S p = some (.lst a)) : binR mu .Add (.ref p) (.lst b) S Q = (a.length + b.length ≤ sizeLine ∧ newL mu (a ++ b) S Q) := by
  show (match lsOf S (.ref p), lsOf S (.lst b) with
    | some a, some b => a.length + b.length ≤ sizeLine ∧ newL mu (a ++ b) S Q
    | _, _ => False) = _
  have e : lsOf S (.ref p) = some a := by unfold lsOf; simp only [h]
  rw [e]
  rfl
theorem shps_bl : ∀ bs : List Bool, T.shps 59 (bs.map T.bl) = true
  | [] => rfl
  | b :: bs => by rw [List.map_cons, shps1, shps_bl bs]; rfl
theorem count_ref {bs : List Bool} {p : Addr} {S : SS} {Q : KQ} (h : S p = some (.lst (bs.map T.bl))) : countR (.ref p) [.bl true] S Q = Q (.int (bs.countP id : Nat)) S := by
  have e : lsOf S (.ref p) = some (bs.map T.bl) := by unfold lsOf; simp only [h]
  have ev : ∀ b : Bool, T.eqv (.bl b) (.bl true) = b := fun b => by cases b <;> decide +kernel
  have ec : (bs.map T.bl).countP (fun z : T => z.eqv (.bl true)) = bs.countP id := by
    rw [List.countP_map]
    congr 1
    funext b
    exact ev b
  show (match lsOf S (.ref p) with
    | some l => (deref S (.bl true)).shp 59 = true ∧ T.shps 59 l = true ∧ Q (.int (l.countP fun z : T => z.eqv (deref S (.bl true)) : Nat)) S
    | none => False) = _
  rw [e]
  show (_ ∧ _ ∧ Q (.int ((bs.map T.bl).countP fun z : T => z.eqv (.bl true) : Nat)) S) = _
  rw [ec]
  exact propext ⟨fun z => z.2.2, fun z => ⟨rfl, shps_bl bs, z⟩⟩
theorem index_ref {bs : List Bool} {p : Addr} {j : Nat} {S : SS} {Q : KQ} (h : S p = some (.lst (bs.map T.bl))) (hj : bs.findIdx? id = some j) : indexR (.ref p) [.bl true] S Q = Q (.int (j : Nat)) S := by
  have e : lsOf S (.ref p) = some (bs.map T.bl) := by unfold lsOf; simp only [h]
  have ev : ∀ b : Bool, T.eqv (.bl b) (.bl true) = b := fun b => by cases b <;> decide +kernel
  have ec : (bs.map T.bl).findIdx? (fun z : T => z.eqv (.bl true)) = some j := by
    rw [List.findIdx?_map]
    rw [← hj]
    congr 1
    funext b
    exact ev b
  show (match lsOf S (.ref p) with
    | some l => (deref S (.bl true)).shp 59 = true ∧ T.shps 59 l = true ∧ (match l.findIdx? fun z : T => z.eqv (deref S (.bl true)) with
      | some j => Q (.int (j : Nat)) S
      | none => False)
    | none => False) = _
  rw [e]
  show (_ ∧ _ ∧ (match (bs.map T.bl).findIdx? fun z : T => z.eqv (.bl true) with
    | some j => Q (.int (j : Nat)) S
    | none => False)) = _
  rw [ec]
  exact propext ⟨fun z => z.2.2, fun z => ⟨rfl, shps_bl bs, z⟩⟩
def eNT (i : Int) : T := .exc "NoText" (some ("at", i))
def sp__law_refusal : TSp := fun ts S Q E => ∃ i : Int, ts = [eNT i] ∧ ∀ S', Ext S S' → Q (.str "NoText") S'
theorem len__law_refusal (ts S Q E) (h : sp__law_refusal ts S Q E) : ts.length = 1 := by obtain ⟨_, rfl, _⟩ := h; rfl
def b__law_refusal (W : XW) : DS :=
  (seqD
    (asgD (lstD true (consA (callB (isaR sub) (consA (rdD 0) (consA (cD (.cls "NoText")) nilA))) (consA (callB (isaR sub) (consA (rdD 0) (consA (cD (.cls "NoLine")) nilA))) (consA (callB (isaR sub) (consA (rdD 0) (consA (cD (.cls "NoLater")) nilA))) nilA)))) (.nm 1))
  (seqD
    (asgD (opD (binR true .Add) (rdD 1) (lstD false (consA (callB (isaR sub) (consA (rdD 0) (consA (cD (.cls "NoMoment")) nilA))) (consA (callB (isaR sub) (consA (rdD 0) (consA (cD (.cls "NoDeed")) nilA))) (consA (callB (isaR sub) (consA (rdD 0) (consA (cD (.cls "NoPan")) nilA))) nilA))))) (.nm 1))
  (seqD
    (asgD (opD (binR true .Add) (rdD 1) (lstD false (consA (callB (isaR sub) (consA (rdD 0) (consA (cD (.cls "NoWater")) nilA))) (consA (callB (isaR sub) (consA (rdD 0) (consA (cD (.cls "NoRoom")) nilA))) (consA (callB (isaR sub) (consA (rdD 0) (consA (cD (.cls "Weaker")) nilA))) nilA))))) (.nm 1))
  (seqD
    (asgD (opD (binR true .Add) (rdD 1) (lstD false (consA (callB (isaR sub) (consA (rdD 0) (consA (cD (.cls "NoStrength")) nilA))) (consA (callB (isaR sub) (consA (rdD 0) (consA (cD (.cls "NoGate")) nilA))) (consA (callB (isaR sub) (consA (rdD 0) (consA (cD (.cls "NoBrine")) nilA))) nilA))))) (.nm 1))
  (seqD
    (asgD (opD (binR true .Add) (rdD 1) (lstD false (consA (callB (isaR sub) (consA (rdD 0) (consA (cD (.cls "NoFraction")) nilA))) (consA (callB (isaR sub) (consA (rdD 0) (consA (cD (.cls "NoLot")) nilA))) (consA (callB (isaR sub) (consA (rdD 0) (consA (cD (.cls "NoPlan")) nilA))) nilA))))) (.nm 1))
  (seqD
    (dropD (methD "list" appendR (rdD 1) (consA (callB (isaR sub) (consA (rdD 0) (consA (cD (.cls "NoYear")) nilA))) nilA)))
  (seqD
    (ifD (orT (tstD (opD (cmpR .NotEq) (methD "list" countR (rdD 1) (consA (cD (.bl true)) nilA)) (cD (.int 1)))) (orT (notT (truD (callB (isaR sub) (consA (rdD 0) (consA (cD (.ty "ValueError")) nilA))))) (notT (truD (callB (isaR sub) (consA (rdD 0) (consA (cD (.cls "BrineError")) nilA)))))))
      (seqD
        (retD (cD (.str "odd")))
      nextD)
      nextD)
  (seqD
    (asgD (lstD false (consA (cD (.str "NoText")) (consA (cD (.str "NoLine")) (consA (cD (.str "NoLater")) (consA (cD (.str "NoMoment")) (consA (cD (.str "NoDeed")) (consA (cD (.str "NoPan")) (consA (cD (.str "NoWater")) (consA (cD (.str "NoRoom")) (consA (cD (.str "Weaker")) nilA)))))))))) (.nm 2))
  (seqD
    (asgD (opD (binR false .Add) (rdD 2) (lstD false (consA (cD (.str "NoStrength")) (consA (cD (.str "NoGate")) (consA (cD (.str "NoBrine")) (consA (cD (.str "NoFraction")) (consA (cD (.str "NoLot")) (consA (cD (.str "NoPlan")) (consA (cD (.str "NoYear")) nilA))))))))) (.nm 2))
  (seqD
    (retD (opD ixR (rdD 2) (methD "list" indexR (rdD 1) (consA (cD (.bl true)) nilA))))
  nextD))))))))))
theorem law__law_refusal {ts : List T} {S : SS} {Q : KQ} {E : Exn → SS → Prop} (h : sp__law_refusal ts S Q E) : b__law_refusal (fun x _ S' => E x S') { nx := fun _ S' => Q .non S', rt := Q } (start' 3 ts) S := by
  obtain ⟨i, rfl, h⟩ := h
  have sl : sizeLine = 16777216 := rfl
  have s1 : sub "NoText" "NoText" = true := by decide +kernel
  have s2 : sub "NoText" "NoLine" = false := by decide +kernel
  have s3 : sub "NoText" "NoLater" = false := by decide +kernel
  have s4 : sub "NoText" "NoMoment" = false := by decide +kernel
  have s5 : sub "NoText" "NoDeed" = false := by decide +kernel
  have s6 : sub "NoText" "NoPan" = false := by decide +kernel
  have s7 : sub "NoText" "NoWater" = false := by decide +kernel
  have s8 : sub "NoText" "NoRoom" = false := by decide +kernel
  have s9 : sub "NoText" "Weaker" = false := by decide +kernel
  have s10 : sub "NoText" "NoStrength" = false := by decide +kernel
  have s11 : sub "NoText" "NoGate" = false := by decide +kernel
  have s12 : sub "NoText" "NoBrine" = false := by decide +kernel
  have s13 : sub "NoText" "NoFraction" = false := by decide +kernel
  have s14 : sub "NoText" "NoLot" = false := by decide +kernel
  have s15 : sub "NoText" "NoPlan" = false := by decide +kernel
  have s16 : sub "NoText" "NoYear" = false := by decide +kernel
  unfold b__law_refusal start' eNT
  simp -implicitDefEqProofs [s1, s2, s3]
  intro p1 h1
  simp -implicitDefEqProofs [s4, s5, s6, q_addRL supd_same]
  intro p2 h2
  simp -implicitDefEqProofs [s7, s8, s9, q_addRL supd_same]
  intro p3 h3
  simp -implicitDefEqProofs [s10, s11, s12, q_addRL supd_same]
  intro p4 h4
  simp -implicitDefEqProofs [s13, s14, s15, q_addRL supd_same]
  intro p5 h5
  simp -implicitDefEqProofs [s16]
  refine Eq.mpr (count_ref (bs := [true, false, false, false, false, false, false, false, false, false, false, false, false, false, false, false]) supd_same) ?_
  have c1 : ([true, false, false, false, false, false, false, false, false, false, false, false, false, false, false, false].countP id) = 1 := by decide
  rw [c1]
  simp -implicitDefEqProofs [sub_top]
  refine Eq.mpr (index_ref (bs := [true, false, false, false, false, false, false, false, false, false, false, false, false, false, false, false]) (j := 0) supd_same (by decide)) ?_
  have e0 : ∀ (l : List T) (S' : SS), ixR (.lst (.str "NoText" :: l)) (.int ((0 : Nat) : Int)) S' Q = Q (.str "NoText") S' := fun l S' => by
    have e : atI (T.str "NoText" :: l) ((0 : Nat) : Int) = some (.str "NoText") := by simp [atI, ixN]
    show (match atI (T.str "NoText" :: l) ((0 : Nat) : Int) with
      | some t => Q t S'
      | none => False) = _
    rw [e]
  rw [e0]
  refine h _ ?_
  have x1 : ∀ {S S' : SS} {p : Addr} {o : SO}, Ext S S' → S' p = none → Ext S (supd S' p o) := fun {S S' p o} hx hp => hx.trans (Ext.refl.new hp)
  exact x1 (x1 (x1 (x1 (x1 Ext.refl h1) h2) h3) h4) h5
@[simp] theorem q_raiseO {W : XW} {x f : Str} {d : DE} {D : Ends'} {τ : Sg} {S : SS} : raiseO W x f d D τ S = d τ S fun t S1 => match t with
  | .int i => W ⟨x, some (f, i)⟩ τ S1
  | _ => False := rfl
@[simp] theorem q_xfD {oin : List (Str × Str)} {f : Str} {d : DE} {τ : Sg} {S : SS} {Q : KQ} : xfD oin f d τ S Q = d τ S fun t S1 => match t with
  | .exc m (some (g, i)) => (g = f ∧ (m, f) ∈ oin) ∧ Q (.int i) S1
  | _ => False := rfl
/-! ### the law's own reading -/
theorem le_S {l m : List Nat} {S : SS} {Q : KQ} : cmpR .LtE (.str (Sc l)) (.str (Sc m)) S Q = Q (.bl (!decide (m < l))) S := rfl
theorem le_lo {c : Nat} {S : SS} {Q : KQ} : cmpR .LtE (.str "0") (.str ⟨#[c]⟩) S Q = Q (.bl (decide (48 ≤ c))) S := by
  have e : (("0" : Str)) = Sc [48] := by decide +kernel
  rw [e, show (T.str ⟨#[c]⟩) = .str (Sc [c]) from rfl, le_S]
  congr 2
  have : ([c] < [48]) ↔ c < 48 := by simp [List.cons_lt_cons_iff]
  by_cases h : c < 48
  · rw [decide_eq_true (this.mpr h), decide_eq_false (by omega)]; rfl
  · rw [decide_eq_false (fun z => h (this.mp z)), decide_eq_true (by omega)]; rfl
theorem le_hi {c : Nat} {S : SS} {Q : KQ} : cmpR .LtE (.str ⟨#[c]⟩) (.str "9") S Q = Q (.bl (decide (c ≤ 57))) S := by
  have e : (("9" : Str)) = Sc [57] := by decide +kernel
  rw [e, show (T.str ⟨#[c]⟩) = .str (Sc [c]) from rfl, le_S]
  congr 2
  have : ([57] < [c]) ↔ 57 < c := by simp [List.cons_lt_cons_iff]
  by_cases h : 57 < c
  · rw [decide_eq_true (this.mpr h), decide_eq_false (by omega)]; rfl
  · rw [decide_eq_false (fun z => h (this.mp z)), decide_eq_true (by omega)]; rfl
theorem shps_1 : ∀ l : List Nat, okC l = true → T.shps 59 (l.map fun c => T.str ⟨#[c]⟩) = true
  | [], _ => rfl
  | c :: l, h => by
    unfold okC at h
    rw [List.all_cons, Bool.and_eq_true] at h
    have e : T.shp 59 (T.str ⟨#[c]⟩) = true := by
      show PyData.strOk (Sc [c]) = true
      refine okC_str ?_
      unfold okC
      rw [List.all_cons, h.1]; rfl
    rw [List.map_cons, shps1, shps_1 l h.2, e]; rfl
theorem ne_nilK {l : List T} (hs : T.shps 59 l = true) {S : SS} {Q : KQ} : cmpR .NotEq (.lst l) (.lst []) S Q = Q (.bl (!l.isEmpty)) S := by
  have e : T.eqv (.lst l) (.lst []) = l.isEmpty := by
    cases l with
    | nil => decide +kernel
    | cons x l => unfold T.eqv; simp [T.toD, T.toDs, PyData.eqv, PyData.eqvAll]
  have s : T.shp 60 (.lst l) = true := by rw [shp_lst]; exact hs
  show (_ ∧ _ ∧ Q (.bl (true ^^ T.eqv (.lst l) (.lst []))) S) = _
  rw [e, Bool.true_xor]
  exact propext ⟨fun h => h.2.2, fun h => ⟨s, rfl, h⟩⟩
theorem dv_take {l : List Nat} {i : Nat} (h : i < l.length) : NumText.digitsVal (l.take (i + 1)) = NumText.digitsVal (l.take i) * 10 + (l[i] - 48) := by
  rw [List.take_succ, List.getElem?_eq_getElem h]
  exact NumText.digitsVal_snoc _ _
theorem dv_lt {l : List Nat} (hd : l.all digB = true) : ∀ i, i ≤ l.length → NumText.digitsVal (l.take i) < 10 ^ i := by
  intro i
  induction i with
  | zero => intro _; show NumText.digitsVal [] < 1; decide
  | succ i ih =>
    intro h
    have a := ih (by omega)
    rw [dv_take (by omega), Nat.pow_succ]
    have := digB_iff.mp (List.all_eq_true.mp hd _ (List.getElem_mem (h := (by omega : i < l.length))))
    omega
theorem dig_find {c : Nat} (h : 48 ≤ c ∧ c ≤ 57) : Txt.find ("0123456789" : Str) ⟨#[c]⟩ = ((c - 48 : Nat) : Int) := by
  have z : ∀ d : Fin 10, Txt.find ("0123456789" : Str) ⟨#[48 + d.val]⟩ = (d.val : Int) := by decide +kernel
  obtain ⟨d, rfl⟩ : ∃ d, c = 48 + d := ⟨c - 48, by omega⟩
  have := z ⟨d, by omega⟩
  rw [this]
  show (d : Int) = ((48 + d - 48 : Nat) : Int)
  omega
theorem dig_loop {l : List Nat} (hd : l.all digB = true) (h4 : l.length ≤ 400) {D : Ends'} {S : SS} {w : T} (k : ∀ x, D.nx [some w, some (.int (NumText.digitsVal l : Nat)), x] S) : forL (fun _ => True) (.nm 2)
    (seqD (asgD (opD (binR false .Add) (opD (binR false .Mult) (cD (.int 10)) (rdD 1)) (methD "str" findR (cD (.str "0123456789")) (consA (rdD 2) nilA))) (.nm 1)) nextD) D (l.map fun c => T.str ⟨#[c]⟩) [some w, some (.int 0), none] S := by
  refine forL_inv (fun i τ S' => S' = S ∧ ∃ x, τ = [some w, some (.int (NumText.digitsVal (l.take i) : Nat)), x]) (k := 0) ⟨rfl, none, rfl⟩ ?_ ?_
  · rintro i hi τ S' D' ⟨rfl, x, rfl⟩ nx ct rt bk
    clear ct rt bk
    rw [List.length_map] at hi
    rw [Nat.zero_add] at nx ⊢
    refine ⟨trivial, ?_⟩
    rw [List.getElem_map]
    have b := dv_lt hd i (by omega)
    have dg := digB_iff.mp (List.all_eq_true.mp hd _ (List.getElem_mem hi))
    have lt : NumText.digitsVal (l.take i) < 2 ^ 1400 := Nat.lt_of_lt_of_le b (Nat.le_trans (Nat.pow_le_pow_right (by decide) (by omega : i ≤ 400)) (by decide +kernel))
    have c1 : CMulW 10 ((NumText.digitsVal (l.take i) : Nat) : Int) := cmw (a := 4) (b := 1400) (by decide) (by rw [Int.natAbs_natCast]; exact lt) (by decide)
    have tS : tyT S' "str" (.str "0123456789") := .inr ⟨rfl, rfl⟩
    have fd : ∀ Q : KQ, findR (.str "0123456789") [.str ⟨#[l[i]]⟩] S' Q = Q (.int ((l[i] - 48 : Nat) : Int)) S' := fun Q => by
      show Q (.int (Txt.find _ _)) S' = _
      rw [dig_find dg]
    simp -implicitDefEqProofs [c1, fd]
    have e : (10 * ((NumText.digitsVal (l.take i) : Nat) : Int) + ((l[i] - 48 : Nat) : Int)) = ((NumText.digitsVal (l.take (i + 1)) : Nat) : Int) := by
      rw [dv_take hi]
      push_cast
      omega
    have nx2 := nx _ _ ⟨rfl, some (.str ⟨#[l[i]]⟩), rfl⟩
    rw [← e] at nx2
    exact ⟨tS, nx2⟩
  · rintro τ S' ⟨rfl, x, rfl⟩
    rw [List.length_map, Nat.zero_add, List.take_length]
    exact ⟨trivial, k x⟩
def sp__law_whole : TSp := fun ts S Q E => ∃ l : List Nat, ts = [.str (Sc l)] ∧ okC l = true ∧ l.length ≤ 1000000 ∧ Q (tO (wholeC l)) S
theorem len__law_whole (ts S Q E) (h : sp__law_whole ts S Q E) : ts.length = 1 := by obtain ⟨_, rfl, _⟩ := h; rfl
def b__law_whole (W : XW) : DS :=
  (seqD
    (ifD (orT (notT (tstD (chD (cmpR .LtE) (cmpR .LtE) (cD (.int 1)) (callB lenR (consA (rdD 0) nilA)) (cD (.int 400))))) (tstD (opD (cmpR .NotEq) (lcD false [2] (strI (rdD 0)) (.nm 2) (notT (tstD (chD (cmpR .LtE) (cmpR .LtE) (cD (.str "0")) (rdD 2) (cD (.str "9"))))) (rdD 2)) (lstD false nilA))))
      (seqD
        (retD (cD .non))
      nextD)
      nextD)
  (seqD
    (ifD (andT (tstD (opD (cmpR .Gt) (callB lenR (consA (rdD 0) nilA)) (cD (.int 1)))) (tstD (opD (cmpR .Eq) (opD ixR (rdD 0) (cD (.int 0))) (cD (.str "0")))))
      (seqD
        (retD (cD .non))
      nextD)
      nextD)
  (seqD
    (asgD (cD (.int 0)) (.nm 1))
  (seqD
    (forD (strI (rdD 0)) (.nm 2)
      (seqD
        (asgD (opD (binR false .Add) (opD (binR false .Mult) (cD (.int 10)) (rdD 1)) (methD "str" findR (cD (.str "0123456789")) (consA (rdD 2) nilA))) (.nm 1))
      nextD))
  (seqD
    (retD (rdD 1))
  nextD)))))
theorem law__law_whole {ts : List T} {S : SS} {Q : KQ} {E : Exn → SS → Prop} (h : sp__law_whole ts S Q E) : b__law_whole (fun x _ S' => E x S') { nx := fun _ S' => Q .non S', rt := Q } (start' 3 ts) S := by
  obtain ⟨l, rfl, ok, hl, h⟩ := h
  have sl : sizeLine = 16777216 := rfl
  have e0 : (("0" : Str)) = Sc [48] := by decide +kernel
  have ok0 : okC [48] = true := by decide
  unfold wholeC at h
  unfold b__law_whole start'
  simp -implicitDefEqProofs [len_S (l := l) (by omega)]
  by_cases c1 : (1 : Int) ≤ l.length
  · have n1 : 1 ≤ l.length := by omega
    by_cases c2 : (l.length : Int) ≤ 400
    · have n2 : l.length ≤ 400 := by omega
      simp -implicitDefEqProofs [c1, c2, signs_S]
      refine lcL_gen (l := l) (emb := fun c => T.str ⟨#[c]⟩) (g := fun c => !digB c) (f := fun c => T.str ⟨#[c]⟩) (fun c hc => ⟨_, rfl, fun QT K => ?_, fun _ K z => z⟩) (by simp; omega) ?_
      · have K : QT (!digB c) S := K
        simp -implicitDefEqProofs [le_lo]
        by_cases d1 : 48 ≤ c
        · simp -implicitDefEqProofs [d1, le_hi]
          have : digB c = decide (c ≤ 57) := by
            by_cases d2 : c ≤ 57
            · rw [decide_eq_true d2]; exact digB_iff.mpr ⟨d1, d2⟩
            · rw [decide_eq_false d2]
              cases e : digB c with
              | false => rfl
              | true => exact absurd (digB_iff.mp e).2 d2
          rw [this] at K
          simpa using K
        · simp -implicitDefEqProofs [d1]
          have : digB c = false := by
            cases e : digB c with
            | false => rfl
            | true => exact absurd (digB_iff.mp e).1 d1
          rw [this] at K
          exact K
      rw [List.nil_append, q_newF]
      rw [ne_nilK (shps_1 _ (okC_of ok fun c hc => (List.mem_filter.mp hc).1))]
      cases hd : l.all digB with
      | false =>
        rw [if_neg (by rw [hd]; simp)] at h
        have hne : ((l.filter fun c => !digB c).map fun c => T.str ⟨#[c]⟩).isEmpty = false := by
          rw [List.all_eq_false] at hd
          obtain ⟨c, hc, hc2⟩ := hd
          cases e : (l.filter fun c => !digB c) with
          | nil =>
            have := List.filter_eq_nil_iff.mp e c hc
            simp at hc2
            rw [hc2] at this
            exact absurd rfl this
          | cons a b => rfl
        simp -implicitDefEqProofs [hne]
        exact h
      | true =>
        have hne : ((l.filter fun c => !digB c).map fun c => T.str ⟨#[c]⟩).isEmpty = true := by
          have : (l.filter fun c => !digB c) = [] := List.filter_eq_nil_iff.mpr fun c hc => by
            rw [List.all_eq_true.mp hd c hc]; simp
          rw [this]; rfl
        simp -implicitDefEqProofs [hne]
        obtain ⟨c, r, rfl⟩ : ∃ c r, l = c :: r := by
          cases l with
          | nil => simp at n1
          | cons c r => exact ⟨c, r, rfl⟩
        have okc : okC [c] = true := by
          unfold okC at ok ⊢
          simp only [List.all_cons, Bool.and_eq_true] at ok ⊢
          exact ⟨ok.1, rfl⟩
        have ln : ∀ (S : SS) (Q : KQ), lenR [.str (Sc (c :: r))] S Q = Q (.int (c :: r).length) S := fun S Q => len_S (by omega)
        simp -implicitDefEqProofs [ln]
        have i0 : ∀ (S : SS) (Q : KQ), ixR (.str (Sc (c :: r))) (.int 0) S Q = Q (.str (Sc [c])) S := fun S Q => ix0_S (by omega)
        have lp := fun hz => dig_loop (l := c :: r) (w := .str (Sc (c :: r))) (S := S) (D := { nx := seqD (retD (rdD 1)) nextD { nx := fun _ S' => Q .non S', rt := Q }, rt := Q }) hd n2 hz
        rw [List.map_cons] at lp
        by_cases c4 : r = []
        · subst c4
          have hh : ¬ (([c] : List Nat).head? = some 48 ∧ [c] ≠ [48]) := fun z => z.2 (by
            have e := z.1
            injection e with e
            rw [e])
          rw [if_pos ⟨n1, n2, hd, hh⟩] at h
          simp -implicitDefEqProofs
          refine lp fun x => ?_
          simp -implicitDefEqProofs
          exact h
        · have l1 : (1 : Int) < (r.length : Int) + 1 := by
            have : r.length ≠ 0 := fun z => c4 (List.eq_nil_of_length_eq_zero z)
            omega
          simp -implicitDefEqProofs [l1, i0]
          rw [e0, eq_S okc ok0]
          by_cases c3 : c = 48
          · subst c3
            rw [if_neg (fun z => z.2.2.2 ⟨rfl, fun y => c4 (by injection y)⟩)] at h
            simp -implicitDefEqProofs
            exact h
          · rw [if_pos ⟨n1, n2, hd, fun z => c3 (by have e := z.1; injection e with e)⟩] at h
            simp -implicitDefEqProofs [c3]
            refine lp fun x => ?_
            simp -implicitDefEqProofs
            exact h
    · rw [if_neg (fun z => c2 (by omega))] at h
      simp -implicitDefEqProofs [c1, c2]
      exact h
  · rw [if_neg (fun z => c1 (by omega))] at h
    simp -implicitDefEqProofs [c1]
    exact h
theorem spl_acc (S a : List Nat) : ∀ (l : List Nat) (k : Nat) (acc : List Nat), spl S k (a ++ acc) l = (match spl S k acc l with
    | h :: t => (a ++ h) :: t
    | [] => [])
  | [], k, acc => by rw [spl_nil, spl_nil]
  | c :: r, 0, acc => by
    have e : ∀ b, spl S 0 b (c :: r) = if pre S (c :: r) = true then b :: spl S (S.length - 1) [] r else spl S 0 (b ++ [c]) r := fun _ => rfl
    rw [e, e]
    split
    · rfl
    · rw [List.append_assoc, spl_acc S a r 0 (acc ++ [c])]
  | c :: r, k + 1, acc => spl_acc S a r k acc
theorem spl_ne (S : List Nat) : ∀ (l : List Nat) (k : Nat) (acc : List Nat), ∃ h t, spl S k acc l = h :: t := fun l k acc => by
  have := (spl_len S l k acc).1
  cases e : spl S k acc l with
  | nil => rw [e] at this; simp at this
  | cons h t => exact ⟨h, t, rfl⟩
theorem wholeC_lt {l : List Nat} {n : Nat} (h : wholeC l = some n) : n < N400 := by
  unfold wholeC at h
  split at h
  · rename_i c
    injection h with h
    subst h
    have := dv_lt c.2.2.1 l.length (Nat.le_refl _)
    rw [List.take_length] at this
    exact Nat.lt_of_lt_of_le this (Nat.pow_le_pow_right (by decide) c.2.1)
  · cases h
theorem fracT_cases (l : List Nat) : fracT l = .non ∨ ∃ q : Rat, fracT l = tR q ∧ F400 q := by
  obtain ⟨p, ps, e⟩ := spl_ne [47] l 0 []
  have up : ∀ {w : List Nat} {a : Int}, upperC w = some a → a.natAbs < N400 := by
    intro w a h
    unfold upperC at h
    split at h
    · cases e : wholeC (w.drop 1) with
      | none => rw [e] at h; cases h
      | some n =>
        rw [e] at h
        have := wholeC_lt e
        cases n with
        | zero => cases h
        | succ n =>
          injection h with h
          omega
    · cases e : wholeC w with
      | none => rw [e] at h; cases h
      | some n =>
        rw [e] at h
        have := wholeC_lt e
        injection h with h
        omega
  have fr : ∀ {a : Int} {b : Nat}, a.natAbs < N400 → b < N400 → frT a b = .non ∨ ∃ q : Rat, frT a b = tR q ∧ F400 q := by
    intro a b ha hb
    unfold frT
    by_cases c : isFr (.tup [.int a, .int (b : Int)]) = true
    · rw [if_pos c]
      obtain ⟨q, hq⟩ := isFr_iff.mp c
      refine .inr ⟨q, hq, ?_⟩
      unfold tR at hq
      injection hq with hq
      injection hq with h1 hq
      injection hq with h2 _
      injection h1 with h1
      injection h2 with h2
      exact ⟨by rw [← h1]; exact ha, by
        have : q.den = b := by omega
        rw [this]; exact hb⟩
    · rw [if_neg c]; exact .inl rfl
  unfold fracT
  rw [e]
  match ps with
  | [] =>
    rw [fracP_one]
    cases e1 : upperC p with
    | none => exact .inl rfl
    | some a => exact fr (b := 1) (up e1) (n400 (by decide))
  | [q] =>
    rw [fracP_two]
    cases e2 : wholeC q with
    | none => exact .inl rfl
    | some b =>
      show (if b = 1 then T.non else (match upperC p with
        | none => T.non
        | some a => frT a b)) = .non ∨ ∃ q : Rat, (if b = 1 then T.non else (match upperC p with
        | none => T.non
        | some a => frT a b)) = tR q ∧ F400 q
      by_cases c : b = 1
      · rw [if_pos c]; exact .inl rfl
      · rw [if_neg c]
        cases e1 : upperC p with
        | none => exact .inl rfl
        | some a => exact fr (up e1) (wholeC_lt e2)
  | _ :: _ :: _ => exact .inl rfl
/-- shown alike, told so -/
def RepB (t : T) : Prop := (∀ (S : SS) (K : KQ), reprR [t] S K ↔ K (.str t.shown) S) ∧ ∀ (S : SS) (Q : KQ), cmpR .NotEq (.str t.shown) (.str t.shown) S Q = Q (.bl false) S
theorem RepB.itr {t : T} (h1 : t.itr = true) (h2 : t.shw 50 = true) (h3 : t.cnt ≤ 8000) : RepB t := ⟨fun S K => rep_ap h1 h2 h3, fun S Q => rep_ne h1⟩
theorem rep_frac (l : List Nat) : RepB (fracT l) := by
  rcases fracT_cases l with h | ⟨q, h, hq⟩
  · rw [h]; exact RepB.itr rfl rfl (by decide)
  · rw [h]
    have s : Sm 1329 q := ⟨Nat.lt_of_lt_of_le hq.1 (by decide +kernel), Nat.lt_of_lt_of_le hq.2 (by decide +kernel)⟩
    exact RepB.itr (tR_itr s (by decide) (by decide)) (tR_shw s (by decide) (by decide)) (by rw [tR_cnt]; decide)
end TL

set_option Elab.async false
set_option linter.all false
set_option maxRecDepth 100000
set_option maxHeartbeats 4000000
set_option autoImplicit false
/-! TLt2: brines read (k83, k84). -/
namespace TL
open PySem PySem.Spec PyProof.Rows L2
/-- the layer that a word writes -/
theorem pairT_cases (l : List Nat) : pairT l = .non ∨ ∃ y : Lay, pairT l = tL y ∧ F4 y := by
  unfold pairT
  match e : spl [58] 0 [] l with
  | [] => exact .inl rfl
  | [a] => exact .inl rfl
  | [a, b] =>
    rw [pairP_two]
    by_cases c : (fracT a).isNon = true ∨ (fracT b).isNon = true
    · rw [if_pos c]; exact .inl rfl
    · rw [if_neg c]
      rcases fracT_cases a with h | ⟨q, h, hq⟩
      · exact absurd (.inl (by rw [h]; rfl)) c
      · rcases fracT_cases b with h2 | ⟨q2, h2, hq2⟩
        · exact absurd (.inr (by rw [h2]; rfl)) c
        · exact .inr ⟨(q, q2), by rw [h, h2]; rfl, hq, hq2⟩
  | a :: b :: d :: r => exact .inl rfl
/-- a brine read: .inl the place of the first wrong word -/
inductive RdB (f : Rat) : Nat → List (List Nat) → List Lay → Sum Nat (List Lay) → Prop
  | done {i : Nat} {acc : List Lay} : RdB f i [] acc (.inr acc)
  | word {i : Nat} {w : List Nat} {ws : List (List Nat)} {acc : List Lay} : pairT w = .non → RdB f i (w :: ws) acc (.inl i)
  | none {i : Nat} {w : List Nat} {ws : List (List Nat)} {acc : List Lay} {y : Lay} : pairT w = tL y → isBr f (acc ++ [y]) = false → RdB f i (w :: ws) acc (.inl i)
  | more {i : Nat} {w : List Nat} {ws : List (List Nat)} {acc : List Lay} {y : Lay} {r : Sum Nat (List Lay)} : pairT w = tL y → F4 y → isBr f (acc ++ [y]) = true → RdB f (i + 1) ws (acc ++ [y]) r → RdB f i (w :: ws) acc r
theorem F4.sm {x : Lay} (h : F4 x) : Sm 1329 x.1 ∧ Sm 1329 x.2 := by
  have k : 10 ^ 400 ≤ 2 ^ 1329 := by decide +kernel
  exact ⟨⟨Nat.lt_of_lt_of_le h.1.1 k, Nat.lt_of_lt_of_le h.1.2 k⟩, ⟨Nat.lt_of_lt_of_le h.2.1 k, Nat.lt_of_lt_of_le h.2.2 k⟩⟩
theorem tL_non (y : Lay) : (tL y).isNon = false := rfl
theorem cat_tB {L : List Lay} {y : Lay} {mu : Bool} {S : SS} {Q : KQ} (h : L.length ≤ 200000) : binR mu .Add (tB L) (.tup [tL y]) S Q = Q (tB (L ++ [y])) S := by
  have sl : sizeLine = 16777216 := rfl
  show ((L.map tL).length + [tL y].length ≤ sizeLine ∧ Q (.tup (L.map tL ++ [tL y])) S) = _
  have e : T.tup (L.map tL ++ [tL y]) = tB (L ++ [y]) := by unfold tB; rw [List.map_append]; rfl
  rw [e]
  exact propext ⟨fun z => z.2, fun z => ⟨by rw [List.length_map, List.length_singleton]; omega, z⟩⟩
theorem rd_loop {f : Rat} (sf : Sm 5000000 f) {es : DS} {W : XW} {D : Ends'} {S : SS} {txt : T} : ∀ {ws : List (List Nat)} {i : Nat} {acc : List Lay} {r : Sum Nat (List Lay)} {x3 x4 x5 : Option T}, RdB f i ws acc r →
    (∀ w, w ∈ ws → okC w = true ∧ w.length ≤ 1000000) → (∀ y, y ∈ acc → F4 y) → acc.length + ws.length ≤ 100000 →
    (∀ j D' x2 x4 x5, r = .inl j → es D' [some (tR f), some txt, x2, some (.int (j : Nat)), x4, x5] S) →
    (∀ L x3 x4 x5, r = .inr L → (∀ y, y ∈ L → F4 y) → D.nx [some (tR f), some txt, some (tB L), x3, x4, x5] S) →
    forL (fun _ => True) (.tp (.cons (.nm 3) (.cons (.nm 4) .nil)))
      (seqD (asgD (callF sp_pair_of W (consA (rdD 4) nilA)) (.nm 5))
      (seqD
        (ifD (orT (tstD (opD (cmpR .Is) (rdD 5) (cD .non))) (notT (truD (callF sp_is_brine W (consA (rdD 0) (consA (opD (binR false .Add) (rdD 2) (tupD (consA (rdD 5) nilA))) nilA))))))
          (seqD es nextD) nextD)
      (seqD (asgD (opD (binR false .Add) (rdD 2) (tupD (consA (rdD 5) nilA))) (.nm 2)) nextD))) D
      (ws.zipIdx i |>.map fun p => T.tup [.int (p.2 : Nat), .str (Sc p.1)]) [some (tR f), some txt, some (tB acc), x3, x4, x5] S
  | [], i, acc, r, x3, x4, x5, h, hw, ha, hn, he, hx => by
    cases h
    exact ⟨trivial, hx _ _ _ _ rfl ha⟩
  | w :: ws, i, acc, r, x3, x4, x5, h, hw, ha, hn, he, hx => by
    obtain ⟨w1, w2⟩ := hw w List.mem_cons_self
    rw [List.length_cons] at hn
    rw [List.zipIdx_cons, List.map_cons, q_forL1]
    refine ⟨trivial, ?_⟩
    have non1 : T.isNon .non = true := rfl
    simp -implicitDefEqProofs
    refine ⟨w, rfl, w1, w2, ?_⟩
    cases h with
    | word e =>
      rw [e]
      simp -implicitDefEqProofs [non1]
      exact he _ _ _ _ _ rfl
    | @none _ _ _ _ y e hb =>
      rw [e]
      have hy : F4 y := by
        rcases pairT_cases w with z | ⟨y2, z, hy⟩
        · rw [e] at z; cases z
        · rw [e, tL_inj] at z; rw [z]; exact hy
      simp -implicitDefEqProofs [tL_non]
      rw [cat_tB (by omega)]
      refine is_brine_ap2 sf (fun z hz => ?_) (by rw [List.length_append, List.length_singleton]; omega) ?_
      · rcases List.mem_append.mp hz with hz | hz
        · exact ⟨(ha z hz).sm.1.mono (by decide), (ha z hz).sm.2.mono (by decide)⟩
        · rw [List.mem_singleton.mp hz]; exact ⟨hy.sm.1.mono (by decide), hy.sm.2.mono (by decide)⟩
      rw [hb]
      simp -implicitDefEqProofs
      exact he _ _ _ _ _ rfl
    | @more _ _ _ _ y _ e hy hb hr =>
      rw [e]
      simp -implicitDefEqProofs [tL_non]
      rw [cat_tB (by omega)]
      have ha2 : ∀ z, z ∈ acc ++ [y] → F4 z := fun z hz => by
        rcases List.mem_append.mp hz with hz | hz
        · exact ha z hz
        · rw [List.mem_singleton.mp hz]; exact hy
      refine is_brine_ap2 sf (fun z hz => ⟨(ha2 z hz).sm.1.mono (by decide), (ha2 z hz).sm.2.mono (by decide)⟩) (by rw [List.length_append, List.length_singleton]; omega) ?_
      rw [hb]
      simp -implicitDefEqProofs
      rw [cat_tB (by omega)]
      exact rd_loop sf hr (fun z hz => hw z (List.mem_cons_of_mem _ hz)) ha2 (by rw [List.length_append, List.length_singleton]; omega) he hx
theorem enT_zip (l : List T) : enT l = l.zipIdx.map fun p => T.tup [.int (p.2 : Nat), p.1] := by
  unfold enT
  rw [List.mapIdx_eq_zipIdx_map]
theorem enW (ws : List (List Nat)) : enT (ws.map fun p => T.str (Sc p)) = (ws.zipIdx 0).map fun p => T.tup [.int (p.2 : Nat), .str (Sc p.1)] := by
  rw [enT_zip, List.zipIdx_map, List.map_map]
  rfl
/-- every part of a brine is one -/
theorem isBr_take {f : Rat} {A B : List Lay} (h : isBr f (A ++ B) = true) : isBr f A = true := by
  unfold isBr at h ⊢
  rw [Bool.and_eq_true, List.all_eq_true, List.all_eq_true] at h ⊢
  refine ⟨fun x hx => h.1 x (List.mem_append_left _ hx), fun p hp => h.2 p ?_⟩
  cases A with
  | nil => simp at hp
  | cons a A =>
    have e : (a :: A ++ B).zip (a :: A ++ B).tail = (a :: (A ++ B)).zip (A ++ B) := rfl
    rw [e]
    have hp : p ∈ (a :: A).zip A := hp
    clear h e
    induction A generalizing a with
    | nil => simp at hp
    | cons b A ih =>
      rw [List.zip_cons_cons] at hp
      rw [List.cons_append, List.zip_cons_cons]
      rcases List.mem_cons.mp hp with hp | hp
      · rw [hp]; exact List.mem_cons_self
      · exact List.mem_cons_of_mem _ (ih b hp hp)
theorem rdB_of {f : Rat} : ∀ {L acc : List Lay} {i : Nat}, (∀ x, x ∈ L → F4 x) → isBr f (acc ++ L) = true → RdB f i (L.map layT) acc (.inr (acc ++ L))
  | [], acc, i, _, _ => by rw [List.append_nil]; exact .done
  | x :: L, acc, i, h, hb => by
    have e : acc ++ x :: L = (acc ++ [x]) ++ L := by simp
    rw [e] at hb ⊢
    refine .more (pairT_lay (h x List.mem_cons_self)) (h x List.mem_cons_self) (isBr_take hb) (rdB_of (fun y hy => h y (List.mem_cons_of_mem _ hy)) hb)
end TL

set_option Elab.async false
set_option linter.all false
set_option maxRecDepth 100000
set_option maxHeartbeats 4000000
set_option autoImplicit false
/-! TLwn: fractions written by a law. -/
namespace TL
open PySem PySem.Spec PyProof.Rows L2
def sp__law_written : TSp := fun ts S Q E => ∃ q : Rat, ts = [tR q] ∧ F400 q ∧ Q (.str (Sc (txtQ q))) S
theorem len__law_written (ts S Q E) (h : sp__law_written ts S Q E) : ts.length = 1 := by obtain ⟨_, rfl, _⟩ := h; rfl
def b__law_written (W : XW) : DS :=
  (seqD
    (retD (opD (binR false .Add) (fmtD (opD ixR (rdD 0) (cD (.int 0)))) (opD ixR (lstD false (consA (opD (binR false .Add) (cD (.str "/")) (fmtD (opD ixR (rdD 0) (cD (.int 1))))) (consA (cD (.str "")) nilA))) (callB intTR (consA (opD (cmpR .Eq) (opD ixR (rdD 0) (cD (.int 1))) (cD (.int 1))) nilA)))))
  nextD)
theorem law__law_written {ts : List T} {S : SS} {Q : KQ} {E : Exn → SS → Prop} (h : sp__law_written ts S Q E) : b__law_written (fun x _ S' => E x S') { nx := fun _ S' => Q .non S', rt := Q } (start' 1 ts) S := by
  obtain ⟨q, rfl, hF, h⟩ := h
  obtain ⟨h1, h2⟩ := id hF
  have sl : sizeLine = 16777216 := rfl
  have es : (("/" : Str)) = Sc [47] := by decide +kernel
  have ee : (("" : Str)) = Sc [] := by decide +kernel
  have hd2 : ((q.den : Nat) : Int).natAbs < 10 ^ 400 := by rw [Int.natAbs_natCast]; exact h2
  have f1 : ∀ (Q : KQ), fmtD (opD ixR (rdD 0) (cD (.int 0))) [some (tR q)] S Q = Q (.str (Sc (txtZ q.num))) S := fun Q => fmt_int h1 fun K => by simp -implicitDefEqProofs
  have f2 : ∀ (Q : KQ), fmtD (opD ixR (rdD 0) (cD (.int 1))) [some (tR q)] S Q = Q (.str (Sc (txtZ q.den))) S := fun Q => fmt_int hd2 fun K => by simp -implicitDefEqProofs
  have l1 := txtZ_len h1
  have l2 := txtZ_len hd2
  have ed : txtZ ((q.den : Nat) : Int) = numL q.den := by unfold txtZ; rw [if_neg (by omega), Int.natAbs_natCast]
  rw [ed] at l2 f2
  unfold txtQ at h
  have k1 : ∀ (Q : KQ), binR false .Add (.str (Sc [47])) (.str (Sc (numL q.den))) S Q = Q (.str (Sc ([47] ++ numL q.den))) S := fun Q => cat_S (by rw [List.length_singleton]; omega)
  have k2 : ∀ (m : List Nat) (Q : KQ), m.length ≤ 500 → binR false .Add (.str (Sc (txtZ q.num))) (.str (Sc m)) S Q = Q (.str (Sc (txtZ q.num ++ m))) S := fun m Q hm => cat_S (by omega)
  unfold b__law_written start'
  rw [es, ee]
  generalize eF : fmtD (opD ixR (rdD 0) (cD (.int 0))) = F at f1
  generalize eG : fmtD (opD ixR (rdD 0) (cD (.int 1))) = G at f2
  simp -implicitDefEqProofs [f1, f2, k1]
  by_cases c : q.den = 1
  · rw [if_pos c] at h
    have ci : ((q.den : Nat) : Int) = 1 := by omega
    simp -implicitDefEqProofs [ci]
    rw [k2 _ _ (by decide)]
    exact h
  · rw [if_neg c] at h
    have ci : ¬ ((q.den : Nat) : Int) = 1 := by omega
    simp -implicitDefEqProofs [ci]
    rw [k2 _ _ (by rw [List.length_cons]; omega)]
    exact h
end TL

set_option Elab.async false
set_option linter.all false
set_option maxRecDepth 100000
set_option maxHeartbeats 4000000
set_option autoImplicit false
/-! TLfg: numbers of many figures. -/
namespace TL
open PySem PySem.Spec PyProof.Rows L2
def sp__law_figures : TSp := spDraw (fun as => ∃ m : Int, as = [.int m] ∧ 1 ≤ m ∧ m ≤ 400) 2 (fun as t => ∀ m : Int, as = [.int m] → ∃ x : Int, t = .int x ∧ 0 < x ∧ x.natAbs < 10 ^ m.toNat)
theorem len__law_figures : ∀ ts S Q E, sp__law_figures ts S Q E → ts.length = 2 := draw_len fun _ ⟨_, h, _⟩ => by rw [h]; rfl
def b__law_figures (W : XW) : DS :=
  (seqD
    (asgD (opD (binR false .Add) (cD (.int 1)) (callF sp__law_draw W (consA (rdD 0) (consA (cD (.int 9)) nilA)))) (.nm 2))
  (seqD
    (asgD (opD (binR false .Add) (cD (.int 1)) (callF sp__law_draw W (consA (rdD 0) (consA (cD (.int 9)) nilA)))) (.nm 3))
  (seqD
    (forD (rng1I (consA (opD (binR false .Sub) (rdD 1) (cD (.int 1))) nilA)) (.nm 4)
      (seqD
        (asgD (opD (binR false .Add) (opD (binR false .Mult) (cD (.int 10)) (rdD 3)) (opD (binR false .Mod) (opD (binR false .Add) (opD (binR false .Add) (opD (binR false .Mult) (rdD 2) (rdD 4)) (opD (binR false .FloorDiv) (rdD 4) (cD (.int 7)))) (rdD 2)) (cD (.int 10)))) (.nm 3))
      nextD))
  (seqD
    (retD (rdD 3))
  nextD))))
theorem fig_step {i : Nat} {x y : Int} (h : 0 < x ∧ x < 10 ^ (i + 1)) (hy : 0 ≤ y ∧ y < 10) : 0 < 10 * x + y ∧ 10 * x + y < 10 ^ (i + 1 + 1) := by
  rw [Int.pow_succ]
  generalize (10 : Int) ^ (i + 1) = P at h
  omega
theorem fig_pow {i : Nat} (h : i ≤ 400) : (10 : Int) ^ i ≤ ((N400 : Nat) : Int) := by
  have e : ((10 ^ i : Nat) : Int) = (10 : Int) ^ i := Int.natCast_pow 10 i
  rw [← e]
  exact Int.ofNat_le.mpr (Nat.pow_le_pow_right (by decide) h)
theorem fig_bits {x : Int} (h : 0 < x) (h2 : x < ((N400 : Nat) : Int)) : x.natAbs < 2 ^ 1400 := by
  have a : x.natAbs < N400 := by omega
  exact Nat.lt_trans a (by decide +kernel)
theorem law__law_figures {ts : List T} {S : SS} {Q : KQ} {E : Exn → SS → Prop} (h : sp__law_figures ts S Q E) : b__law_figures (fun x _ S' => E x S') { nx := fun _ S' => Q .non S', rt := Q } (start' 5 ts) S := by
  obtain ⟨r, as, n, l0, rfl, ⟨m, rfl, m0, m1⟩, hS, R0, hn, h⟩ := h
  have sl : sizeLine = 16777216 := rfl
  unfold b__law_figures start'
  try simp -implicitDefEqProofs
  refine take_ap hS R0 (by omega) (by decide) trivial fun d1 l1 a1 b1 R1 => ?_
  try simp -implicitDefEqProofs
  refine take_ap (by first | exact supd_same | assumption) R1 (by omega) (by first | decide | omega) (by first | decide | omega) fun d2 l2 a2 b2 R2 => ?_
  try simp -implicitDefEqProofs
  repeat (refine And.intro (by omega) ?_)
  refine forL_rng (fun i τ S' => S' = supd S r (.lst l2) ∧ ∃ (x : Int) (x4 : Option T), τ = [some (.ref r), some (.int m), some (.int (1 + d1)), some (.int x), x4] ∧ 0 < x ∧ x < 10 ^ (i + 1)) ⟨rfl, _, _, rfl, by omega, by
    show (1 + d2 : Int) < 10
    omega⟩ ?_ ?_
  · rintro i hi τ S' D' ⟨rfl, x, x4, rfl, x0, x1⟩ nx ct rt bk
    clear ct rt bk
    have p1 := fig_pow (i := i + 1) (by omega)
    have xb := fig_bits x0 (by omega)
    have e1 : CMulW 10 x := cmw (a := 4) (b := 1400) (by decide) xb (by decide)
    have e2 : CMulW (1 + d1) (i : Nat) := cmw (a := 4) (b := 9) (by omega) (by omega) (by decide)
    have e7 : CDivA 7 := ⟨by decide⟩
    try simp -implicitDefEqProofs [e1, e2, e7]
    refine nx _ _ ⟨rfl, _, _, rfl, ?_⟩
    exact fig_step ⟨x0, x1⟩ ⟨Int.fmod_nonneg_of_pos _ (by decide), Int.fmod_lt_of_pos _ (by decide)⟩
  · rintro τ S' ⟨rfl, x, x4, rfl, x0, x1⟩
    try simp -implicitDefEqProofs
    refine h _ _ _ (fun m' e => ?_) supd_same ExtR.sup R2
    injection e with e _
    injection e with e
    subst e
    have em : m.toNat - 1 + 1 = m.toNat := by omega
    rw [em] at x1
    have ep : ((10 ^ m.toNat : Nat) : Int) = (10 : Int) ^ m.toNat := Int.natCast_pow 10 _
    exact ⟨_, rfl, x0, by omega⟩
end TL

set_option Elab.async false
set_option linter.all false
set_option maxRecDepth 100000
set_option maxHeartbeats 0
set_option autoImplicit false
namespace TL
open PySem PySem.Spec PyProof.Rows L2
/-! k83 -/
def accT (L : List Lay) : List Nat := (L.map fun x => 32 :: layT x).flatten
theorem accT_snoc (L : List Lay) (x : Lay) : accT (L ++ [x]) = accT L ++ (32 :: layT x) := by
  unfold accT
  rw [List.map_append, List.flatten_append]
  simp
theorem accT_len {L : List Lay} (h : ∀ x, x ∈ L → F4 x) : (accT L).length ≤ 1606 * L.length := by
  induction L with
  | nil => exact Nat.zero_le _
  | cons x L ih =>
    have a := ih fun y hy => h y (List.mem_cons_of_mem _ hy)
    have b := layT_len (h x List.mem_cons_self)
    show ((32 :: layT x) ++ accT L).length ≤ _
    rw [List.length_append, List.length_cons, List.length_cons]
    omega
theorem accT_join : ∀ (x : Lay) (L : List Lay), accT (x :: L) = 32 :: joinL [32] ((x :: L).map layT)
  | x, [] => by show (32 :: layT x) ++ [] = _; rw [List.append_nil]; rfl
  | x, y :: L => by
    show (32 :: layT x) ++ accT (y :: L) = _
    rw [accT_join y L]
    rfl
theorem accT_drop {L : List Lay} (h : L ≠ []) : (accT L).drop 1 = brT L := by
  cases L with
  | nil => exact absurd rfl h
  | cons x L => rw [accT_join]; rfl
theorem accT_ok (L : List Lay) : okC (accT L) = true := by
  induction L with
  | nil => rfl
  | cons x L ih =>
    show okC ((32 :: layT x) ++ accT L) = true
    refine okC_app ?_ ih
    have a := layT_ok x
    unfold okC at a ⊢
    rw [List.all_cons, a]
    rfl
def sp__law_a_text : TSp := fun ts S Q E => ∃ L : List Lay, ts = [tB L] ∧ (∀ x, x ∈ L → F4 x) ∧ L.length ≤ 100 ∧ Q (.str (Sc (brT L))) S
theorem len__law_a_text (ts S Q E) (h : sp__law_a_text ts S Q E) : ts.length = 1 := by obtain ⟨_, rfl, _⟩ := h; rfl
def b__law_a_text (W : XW) : DS :=
  (seqD
    (asgD (cD (.str "")) (.nm 1))
  (seqD
    (forD (seqI (rdD 0)) (.tp (.cons (.nm 2) (.cons (.nm 3) .nil)))
      (seqD
        (asgD (opD (binR false .Add) (opD (binR false .Add) (opD (binR false .Add) (opD (binR false .Add) (rdD 1) (cD (.str " "))) (callF sp__law_written W (consA (rdD 2) nilA))) (cD (.str ":"))) (callF sp__law_written W (consA (rdD 3) nilA))) (.nm 1))
      nextD))
  (seqD
    (retD (ifE (tstD (opD (cmpR .NotEq) (rdD 0) (tupD nilA))) (slD false (rdD 1) (someO (cD (.int 1))) noneO) (cD (.str "none"))))
  nextD)))
theorem wr_ap {q : Rat} (h : F400 q) {S : SS} {Q : KQ} {E : Exn → SS → Prop} (k : Q (.str (Sc (txtQ q))) S) : sp__law_written [tR q] S Q E := ⟨q, rfl, h, k⟩
theorem law__law_a_text {ts : List T} {S : SS} {Q : KQ} {E : Exn → SS → Prop} (h : sp__law_a_text ts S Q E) : b__law_a_text (fun x _ S' => E x S') { nx := fun _ S' => Q .non S', rt := Q } (start' 4 ts) S := by
  obtain ⟨L, rfl, hL, hn, h⟩ := h
  have sl : sizeLine = 16777216 := rfl
  have es : ((" " : Str)) = Sc [32] := by decide +kernel
  have ec : ((":" : Str)) = Sc [58] := by decide +kernel
  have ee : (("" : Str)) = Sc [] := by decide +kernel
  have en : (("none" : Str)) = Sc noneC := by decide +kernel
  unfold b__law_a_text start'
  rw [es, ec, ee, en]
  try simp -implicitDefEqProofs
  refine forL_inv (fun i τ S' => S' = S ∧ ∃ x2 x3, τ = [some (tB L), some (.str (Sc (accT (L.take i)))), x2, x3]) (k := 0) ⟨rfl, none, none, rfl⟩ ?_ ?_
  · rintro i hi τ S' D' ⟨rfl, x2, x3, rfl⟩ nx ct rt bk
    clear ct rt bk
    rw [Nat.zero_add] at nx ⊢
    have hi2 : i < L.length := by simpa using hi
    simp only [List.getElem_map]
    have et : L.take (i + 1) = L.take i ++ [L[i]] := by rw [List.take_succ, List.getElem?_eq_getElem hi2]; rfl
    have fx := hL _ (List.getElem_mem hi2)
    have al := accT_len (L := L.take i) fun x hx => hL x (List.mem_of_mem_take hx)
    rw [List.length_take] at al
    have nx2 := fun a b => nx _ _ ⟨rfl, a, b, rfl⟩
    rw [et, accT_snoc] at nx2
    generalize L[i] = x at fx nx2
    generalize accT (L.take i) = acc at al nx2
    have a := txtQ_len fx.1
    have b := txtQ_len fx.2
    have al2 : acc.length ≤ 1606 * 100 := Nat.le_trans al (Nat.mul_le_mul_left _ (by omega))
    refine ⟨trivial, ?_⟩
    try simp -implicitDefEqProofs
    rw [catT (by rw [List.length_singleton]; omega)]
    refine wr_ap fx.1 ?_
    rw [catT (by rw [List.length_append, List.length_singleton]; omega)]
    rw [catT (by rw [List.length_append, List.length_append, List.length_singleton, List.length_singleton]; omega)]
    refine wr_ap fx.2 ?_
    rw [catT (by rw [List.length_append, List.length_append, List.length_append, List.length_singleton, List.length_singleton]; omega)]
    have e : acc ++ [32] ++ txtQ x.1 ++ [58] ++ txtQ x.2 = acc ++ (32 :: layT x) := by unfold layT; simp
    rw [e]
    exact nx2 _ _
  · rintro τ S' ⟨rfl, x2, x3, rfl⟩
    have e0 : L.take (0 + (L.map tL).length) = L := by rw [Nat.zero_add, List.length_map, List.take_length]
    rw [e0]
    refine ⟨trivial, ?_⟩
    by_cases c : L = []
    · subst c
      simp -implicitDefEqProofs [ne_tB0]
      exact h
    · have ie : L.isEmpty = false := by
        cases L with
        | nil => exact absurd rfl c
        | cons x L => rfl
      have al := accT_len hL
      have al2 : (accT L).length ≤ 1606 * 100 := Nat.le_trans al (Nat.mul_le_mul_left _ hn)
      simp -implicitDefEqProofs [ne_tB0, ie]
      have fr := from_S (l := accT L) (k := 1) (mu := false) (S := S') (Q := Q) (by omega)
      rw [accT_drop c] at fr
      exact fr.mpr h
/-! ### alike -/
def okS : Nat → T → Prop
  | _, .int _ => True
  | n + 1, .tup l => l.length ≤ 1000 ∧ ∀ x, x ∈ l → okS n x
  | _, _ => False
def spSame (n : Nat) : TSp := fun ts S Q E => ∃ t, ts = [t, t] ∧ okS n t ∧ Q (.bl true) S
theorem len_same {n : Nat} (ts S Q E) (h : spSame n ts S Q E) : ts.length = 2 := by obtain ⟨_, rfl, _⟩ := h; rfl
def sp__law_same_L0 : TSp := spSame 0
def sp__law_same_L1 : TSp := spSame 1
def sp__law_same_L2 : TSp := spSame 2
def sp__law_same : TSp := spSame 3
theorem len__law_same_L0 (ts S Q E) (h : sp__law_same_L0 ts S Q E) : ts.length = 2 := len_same ts S Q E h
theorem len__law_same_L1 (ts S Q E) (h : sp__law_same_L1 ts S Q E) : ts.length = 2 := len_same ts S Q E h
theorem len__law_same_L2 (ts S Q E) (h : sp__law_same_L2 ts S Q E) : ts.length = 2 := len_same ts S Q E h
theorem len__law_same_L3 (ts S Q E) (h : sp__law_same ts S Q E) : ts.length = 2 := len_same ts S Q E h
def b__law_same (sp__law_same : TSp) (W : XW) : DS :=
  (seqD
    (ifD (truD (callB (isaR sub) (consA (rdD 1) (consA (cD (.ty "tuple")) nilA))))
      (seqD
        (ifD (orT (notT (truD (callB (isaR sub) (consA (rdD 0) (consA (cD (.ty "tuple")) nilA))))) (tstD (opD (cmpR .NotEq) (callB lenR (consA (rdD 0) nilA)) (callB lenR (consA (rdD 1) nilA)))))
          (seqD
            (retD (cD (.bl false)))
          nextD)
          nextD)
      (seqD
        (retD (opD (cmpR .NotIn) (cD (.bl false)) (lcD false [2, 3] (zipI (consA (rdD 0) (consA (rdD 1) nilA))) (.tp (.cons (.nm 2) (.cons (.nm 3) .nil))) (fun _ S Q => Q true S) (callF sp__law_same noW (consA (rdD 2) (consA (rdD 3) nilA))))))
      nextD))
      nextD)
  (seqD
    (retD (andE (callB (isaR sub) (consA (rdD 0) (consA (cD (.ty "int")) nilA))) (andE (notE (callB (isaR sub) (consA (rdD 0) (consA (cD (.ty "bool")) nilA)))) (opD (cmpR .Eq) (rdD 0) (rdD 1)))))
  nextD))
theorem lcL_map {g : Tg} {te : DE} {mu : Bool} {τ : Sg} {Q : KQ} {S : SS} {f : T → T} : ∀ {ts acc : List T}, (∀ t, t ∈ ts → ∀ K : KQ, K (f t) S → (match bindT g t τ with
    | some τ1 => te τ1 S K
    | none => False)) → acc.length + ts.length ≤ 16777216 → newL mu (acc ++ ts.map f) S Q → lcL (fun _ => True) g (fun _ S Q => Q true S) te mu τ Q ts acc S
  | [], acc, _, _, fin => ⟨trivial, by simpa using fin⟩
  | t :: ts, acc, h, hl, fin => by
    rw [List.length_cons] at hl
    have hs : sizeLine = 16777216 := rfl
    have again : acc.length < sizeLine ∧ lcL (fun _ => True) g (fun _ S Q => Q true S) te mu τ Q ts (acc ++ [f t]) S := ⟨by omega, lcL_map (fun u hu => h u (List.mem_cons_of_mem _ hu)) (by rw [List.length_append, List.length_singleton]; omega) (by simpa using fin)⟩
    have h1 := h t List.mem_cons_self (fun y S3 => acc.length < sizeLine ∧ lcL (fun _ => True) g (fun _ S Q => Q true S) te mu τ Q ts (acc ++ [y]) S3) again
    rw [q_lcL1]
    refine ⟨trivial, ?_⟩
    cases e : bindT g t τ with
    | none => rw [e] at h1; exact h1.elim
    | some τ1 => rw [e] at h1; exact h1
theorem map_const {l : List T} : (zpT l l).map (fun _ => T.bl true) = List.replicate l.length (.bl true) := by
  rw [List.map_const', zpT_len, Nat.min_self]
theorem mem_zp : ∀ {l : List T} {u : T}, u ∈ zpT l l → ∃ x, x ∈ l ∧ u = .tup [x, x]
  | [], u, h => by simp [zpT] at h
  | x :: l, u, h => by
    simp only [zpT, List.mem_cons] at h
    rcases h with rfl | h
    · exact ⟨x, by simp, rfl⟩
    · obtain ⟨y, hy, e⟩ := mem_zp h
      exact ⟨y, List.mem_cons_of_mem _ hy, e⟩
theorem not_in {n : Nat} {S : SS} {Q : KQ} : cmpR .NotIn (.bl false) (.lst (List.replicate n (.bl true))) S Q = Q (.bl true) S := by
  have e1 : T.shps 59 (List.replicate n (T.bl true)) = true := by
    induction n with
    | zero => rfl
    | succ n ih => rw [List.replicate_succ, shps1, ih]; rfl
  have e2 : (List.replicate n (T.bl true)).any (fun z => z.eqv (.bl false)) = false := by
    rw [List.any_eq_false]
    intro x hx
    rw [(List.mem_replicate.mp hx).2]
    have : T.eqv (.bl true) (.bl false) = false := by decide +kernel
    rw [this]; decide
  show (_ ∧ T.shps 59 _ = true ∧ Q (.bl (true ^^ (List.replicate n (T.bl true)).any fun z => z.eqv (deref S (.bl false)))) S) = _
  have e3 : deref S (.bl false) = .bl false := rfl
  rw [e3, e2]
  exact propext ⟨fun z => z.2.2, fun z => ⟨rfl, e1, z⟩⟩
theorem same_int {sp : TSp} {W : XW} {D : Ends'} {i : Int} {S : SS} (h : D.rt (.bl true) S) : b__law_same sp W D (start' 4 [.int i, .int i]) S := by
  unfold b__law_same start'
  simpa [T.isNon] using h
theorem same_tup {n : Nat} {W : XW} {D : Ends'} {l : List T} {S : SS} (hl : l.length ≤ 1000) (hx : ∀ x, x ∈ l → okS n x) (h : D.rt (.bl true) S) : b__law_same (spSame n) W D (start' 4 [.tup l, .tup l]) S := by
  unfold b__law_same start'
  simp
  refine lcL_map (f := fun _ => .bl true) (fun u hu K k => ?_) (by rw [zpT_len]; simp; omega) ?_
  · obtain ⟨x, hm, rfl⟩ := mem_zp hu
    simp
    exact ⟨x, rfl, hx x hm, k⟩
  · rw [List.nil_append, map_const, q_newF, not_in]
    exact h
theorem law__law_same_L0 {ts : List T} {S : SS} {Q : KQ} {E : Exn → SS → Prop} (h : sp__law_same_L0 ts S Q E) : b__law_same spF (fun x _ S' => E x S') { nx := fun _ S' => Q .non S', rt := Q } (start' 4 ts) S := by
  obtain ⟨t, rfl, ht, h⟩ := h
  cases t <;> first | (exact ht.elim) | exact same_int h
theorem law_same_S {n : Nat} {ts : List T} {S : SS} {Q : KQ} {E : Exn → SS → Prop} (h : spSame (n + 1) ts S Q E) : b__law_same (spSame n) (fun x _ S' => E x S') { nx := fun _ S' => Q .non S', rt := Q } (start' 4 ts) S := by
  obtain ⟨t, rfl, ht, h⟩ := h
  cases t <;> first | (exact ht.elim) | exact same_int h | exact same_tup ht.1 ht.2 h
theorem law__law_same_L1 {ts : List T} {S : SS} {Q : KQ} {E : Exn → SS → Prop} (h : sp__law_same_L1 ts S Q E) : b__law_same sp__law_same_L0 (fun x _ S' => E x S') { nx := fun _ S' => Q .non S', rt := Q } (start' 4 ts) S := law_same_S h
theorem law__law_same_L2 {ts : List T} {S : SS} {Q : KQ} {E : Exn → SS → Prop} (h : sp__law_same_L2 ts S Q E) : b__law_same sp__law_same_L1 (fun x _ S' => E x S') { nx := fun _ S' => Q .non S', rt := Q } (start' 4 ts) S := law_same_S h
theorem law__law_same_L3 {ts : List T} {S : SS} {Q : KQ} {E : Exn → SS → Prop} (h : sp__law_same ts S Q E) : b__law_same sp__law_same_L2 (fun x _ S' => E x S') { nx := fun _ S' => Q .non S', rt := Q } (start' 4 ts) S := law_same_S h
theorem same_B {L : List Lay} (h : L.length ≤ 1000) {S : SS} {Q : KQ} {E : Exn → SS → Prop} (k : Q (.bl true) S) : sp__law_same [tB L, tB L] S Q E := by
  have r : ∀ q : Rat, okS 1 (tR q) := fun q => ⟨by simp, fun x hx => by
    simp only [List.mem_cons, List.not_mem_nil, or_false] at hx
    rcases hx with rfl | rfl <;> exact trivial⟩
  refine ⟨tB L, rfl, ⟨by rw [List.length_map]; exact h, fun x hx => ?_⟩, k⟩
  obtain ⟨y, _, rfl⟩ := List.mem_map.mp hx
  refine ⟨by simp, fun x hx => ?_⟩
  simp only [List.mem_cons, List.not_mem_nil, or_false] at hx
  rcases hx with rfl | rfl <;> exact r _
/-! ### a brine of thirty layers -/
def keyI (j : Nat) : Int := ((1 + (j : Int)) * 100).fmod 397
def watI (j : Nat) : Int := 1 + (1 + (j : Int)).fmod 7
/-- the layer at j -/
def lay83 (f : Rat) (j : Nat) : Lay := ((watI j : Rat), Rat.divInt (f.num * watI j * keyI j) 397)
def G83 (f : Rat) (j : Nat) : Int × List T := (keyI j, [tR (lay83 f j).1, tR (lay83 f j).2])
theorem keys83 : ((List.range 30).map keyI).Nodup := by decide +kernel
theorem key83 : ∀ j, j < 30 → 0 < keyI j ∧ keyI j < 397 ∧ 1 ≤ watI j ∧ watI j ≤ 7 := by decide +kernel
theorem lay83_eq {f : Rat} (hf : f.den = 1) (j : Nat) : (lay83 f j).2 = f * ((keyI j : Rat) / 397) * (lay83 f j).1 := by
  have e : f = ((f.num : Int) : Rat) := Rat.ext (by rw [Rat.num_intCast]) (by rw [Rat.den_intCast]; exact hf)
  show Rat.divInt (f.num * watI j * keyI j) 397 = f * ((keyI j : Rat) / 397) * ((watI j : Int) : Rat)
  rw [Rat.divInt_eq_div]
  have e2 : ((f.num * watI j * keyI j : Int) : Rat) = f * (watI j : Rat) * (keyI j : Rat) := by
    rw [Rat.intCast_mul, Rat.intCast_mul, ← e]
  rw [e2]
  have : ((397 : Int) : Rat) = 397 := rfl
  rw [this]
  grind
theorem perm_keys {f : Rat} : ∀ {ms : List (Int × List T)}, ms.Perm ((List.range 30).map (G83 f)) → (∀ m, m ∈ ms → ∃ j, j < 30 ∧ m = G83 f j) ∧ (ms.map (·.1)).Nodup := by
  intro ms h
  refine ⟨fun m hm => ?_, ?_⟩
  · obtain ⟨j, hj, e⟩ := List.mem_map.mp (h.mem_iff.mp hm)
    exact ⟨j, List.mem_range.mp hj, e.symm⟩
  · have e : ((List.range 30).map (G83 f)).map (·.1) = (List.range 30).map keyI := by rw [List.map_map]; rfl
    have p := h.map (·.1)
    rw [e] at p
    exact p.nodup_iff.mpr keys83
theorem pair_sg {f : Rat} (f0 : 0 < f) (hf : f.den = 1) {i j : Nat} (hi : i < 30) (hj : j < 30) (h : keyI j < keyI i) : sg (lay83 f i) (lay83 f j) := by
  obtain ⟨a1, a2, a3, a4⟩ := key83 i hi
  obtain ⟨b1, b2, b3, b4⟩ := key83 j hj
  have wi : (0 : Rat) < (lay83 f i).1 := by show (0 : Rat) < ((watI i : Int) : Rat); exact_mod_cast (by omega)
  have wj : (0 : Rat) < (lay83 f j).1 := by show (0 : Rat) < ((watI j : Int) : Rat); exact_mod_cast (by omega)
  unfold TL.sg
  rw [lay83_eq hf i, lay83_eq hf j]
  have hk : ((keyI j : Int) : Rat) / 397 < (keyI i : Rat) / 397 := by
    have : ((keyI j : Int) : Rat) < (keyI i : Rat) := by exact_mod_cast h
    grind
  have p := Rat.mul_lt_mul_of_pos_right hk (Rat.mul_pos (Rat.mul_pos f0 wi) wj)
  generalize (lay83 f i).1 = x at *
  generalize (lay83 f j).1 = y at *
  generalize ((keyI j : Int) : Rat) / 397 = a at *
  generalize ((keyI i : Int) : Rat) / 397 = b at *
  grind
theorem lay83_lay {f : Rat} (f0 : 0 < f) (hf : f.den = 1) {j : Nat} (hj : j < 30) : isLay f (lay83 f j) = true := by
  obtain ⟨b1, b2, b3, b4⟩ := key83 j hj
  have wj : (0 : Rat) < (lay83 f j).1 := by show (0 : Rat) < ((watI j : Int) : Rat); exact_mod_cast (by omega)
  have k0 : (0 : Rat) < ((keyI j : Int) : Rat) := by exact_mod_cast b1
  have k1 : ((keyI j : Int) : Rat) < 397 := by exact_mod_cast b2
  have e := lay83_eq hf j
  have fw : 0 < f * (lay83 f j).1 := Rat.mul_pos f0 wj
  have q0 : (0 : Rat) < ((keyI j : Int) : Rat) / 397 := by grind
  have q1 : ((keyI j : Int) : Rat) / 397 < 1 := by grind
  have p1 := Rat.mul_pos fw q0
  have p2 := Rat.mul_lt_mul_of_pos_right q1 fw
  generalize ((keyI j : Int) : Rat) / 397 = a at *
  refine isLay_wet wj ?_ ?_
  · rw [e]; grind
  · rw [e]; grind
theorem lay83_B {f : Rat} (hf : f.den = 1) (hn : f.num.natAbs ≤ 9) {j : Nat} (hj : j < 30) : B12 (lay83 f j) := by
  obtain ⟨b1, b2, b3, b4⟩ := key83 j hj
  refine ⟨⟨?_, ?_⟩, bq_made (by decide) ?_ (by decide)⟩
  · show ((watI j : Int) : Rat).num.natAbs ≤ _
    rw [Rat.num_intCast]; omega
  · show ((watI j : Int) : Rat).den ≤ _
    rw [Rat.den_intCast]; decide
  · rw [Int.natAbs_mul, Int.natAbs_mul]
    have h1 : f.num.natAbs * (watI j).natAbs ≤ 9 * 7 := Nat.mul_le_mul hn (by omega)
    have h2 : f.num.natAbs * (watI j).natAbs * (keyI j).natAbs ≤ 9 * 7 * 397 := Nat.mul_le_mul h1 (by omega)
    omega
theorem perm_js {f : Rat} : ∀ {ms : List (Int × List T)}, (∀ m, m ∈ ms → ∃ j, j < 30 ∧ m = G83 f j) → ∃ js : List Nat, ms = js.map (G83 f) ∧ ∀ j, j ∈ js → j < 30
  | [], _ => ⟨[], rfl, fun j hj => by cases hj⟩
  | m :: ms, h => by
    obtain ⟨js, e, k⟩ := perm_js (ms := ms) fun x hx => h x (List.mem_cons_of_mem _ hx)
    obtain ⟨j, hj, ej⟩ := h m List.mem_cons_self
    exact ⟨j :: js, by rw [List.map_cons, ← e, ← ej], fun x hx => by
      rcases List.mem_cons.mp hx with rfl | hx
      · exact hj
      · exact k x hx⟩
theorem long_BrD {f : Rat} (f0 : 0 < f) (hf : f.den = 1) (hn : f.num.natAbs ≤ 9) {js : List Nat} (h1 : ∀ j, j ∈ js → j < 30) (h2 : (js.map keyI).Nodup) (h3 : js.Pairwise fun a b => keyI a ≤ keyI b) (h4 : js.length ≤ 30) : BrD f (js.reverse.map (lay83 f)) := by
  have h5 : js.Pairwise fun a b => keyI a < keyI b := by
    have h2' : js.Pairwise fun a b => keyI a ≠ keyI b := List.pairwise_map.mp h2
    exact List.Pairwise.imp₂ (fun a b z y => by omega) h3 h2'
  refine ⟨isBr_of (fun x hx => ?_) ?_, fun x hx => ?_, by rw [List.length_map, List.length_reverse]; exact h4⟩
  · obtain ⟨j, hj, rfl⟩ := List.mem_map.mp hx
    exact lay83_lay f0 hf (h1 j (List.mem_reverse.mp hj))
  · rw [List.pairwise_map, List.pairwise_reverse]
    refine List.Pairwise.imp_of_mem (fun {a b} ha hb z => ?_) h5
    exact pair_sg f0 hf (h1 _ hb) (h1 _ ha) z
  · obtain ⟨j, hj, rfl⟩ := List.mem_map.mp hx
    exact lay83_B hf hn (h1 j (List.mem_reverse.mp hj))
def sp__law_long_brine : TSp := spDraw (fun as => as = []) 2 (fun _ t => ∃ (f : Rat) (L : List Lay), t = .tup [tR f, tB L] ∧ 0 < f ∧ Bq 1000 1000 f ∧ BrD f L)
theorem len__law_long_brine : ∀ ts S Q E, sp__law_long_brine ts S Q E → ts.length = 1 := draw_len fun _ h => by rw [h]; rfl
def b__law_long_brine (W : XW) : DS :=
  (seqD
    (asgD (tupD (consA (opD (binR false .Add) (cD (.int 1)) (callF sp__law_draw W (consA (rdD 0) (consA (cD (.int 9)) nilA)))) (consA (cD (.int 1)) nilA))) (.nm 1))
  (seqD
    (asgD (lstD true nilA) (.nm 2))
  (seqD
    (forD (rng2I (consA (cD (.int 1)) (consA (cD (.int 31)) nilA))) (.nm 3)
      (seqD
        (asgD (tupD (consA (opD (binR false .Add) (cD (.int 1)) (opD (binR false .Mod) (rdD 3) (cD (.int 7)))) (consA (cD (.int 1)) nilA))) (.nm 4))
      (seqD
        (dropD (methD "list" appendR (rdD 2) (consA (tupD (consA (opD (binR false .Mod) (opD (binR false .Mult) (rdD 3) (cD (.int 100))) (cD (.int 397))) (consA (rdD 4) (consA (callF sp__law_made W (consA (opD (binR false .Mult) (opD (binR false .Mult) (opD ixR (rdD 1) (cD (.int 0))) (opD ixR (rdD 4) (cD (.int 0)))) (opD (binR false .Mod) (opD (binR false .Mult) (rdD 3) (cD (.int 100))) (cD (.int 397)))) (consA (cD (.int 397)) nilA))) nilA)))) nilA)))
      nextD)))
  (seqD
    (retD (tupD (consA (rdD 1) (consA (callB tupleTR (consA (lcD false [5, 4, 6] (seqI (revR false (callB (sortYR false) (consA (rdD 2) nilA)))) (.tp (.cons (.nm 5) (.cons (.nm 4) (.cons (.nm 6) .nil)))) (fun _ S Q => Q true S) (tupD (consA (rdD 4) (consA (rdD 6) nilA)))) nilA)) nilA))))
  nextD))))
theorem law__law_long_brine {ts : List T} {S : SS} {Q : KQ} {E : Exn → SS → Prop} (h : sp__law_long_brine ts S Q E) : b__law_long_brine (fun x _ S' => E x S') { nx := fun _ S' => Q .non S', rt := Q } (start' 7 ts) S := by
  obtain ⟨r, as, n, l0, rfl, rfl, hS, R0, hn, h⟩ := h
  have sl : sizeLine = 16777216 := rfl
  unfold b__law_long_brine start'
  try simp -implicitDefEqProofs
  refine take_ap hS R0 (by omega) (by decide) trivial fun d1 l1 a1 b1 R1 => ?_
  try simp -implicitDefEqProofs
  rw [tup_int]
  obtain ⟨f, ef, f0, hf, hn9⟩ : ∃ f : Rat, f = ((1 + d1 : Int) : Rat) ∧ 0 < f ∧ f.den = 1 ∧ f.num = 1 + d1 := ⟨_, rfl, by exact_mod_cast (by omega), Rat.den_intCast .., Rat.num_intCast ..⟩
  rw [← ef]
  intro q hqS
  have hqr : q ≠ r := fun z => by rw [z, supd_same] at hqS; cases hqS
  have hrq : r ≠ q := Ne.symm hqr
  repeat (refine And.intro (by omega) ?_)
  refine forL_rng (fun i τ S' => S' r = some (.lst l1) ∧ S' q = some (.lst (((List.range i).map (G83 f)).map tpF)) ∧ ExtR r S S' ∧ ∃ x3 x4 x5 x6, τ = [some (.ref r), some (tR f), some (.ref q), x3, x4, x5, x6])
    ⟨by rw [supd_ne hrq, supd_same], supd_same, (ExtR.sup).new (by rw [supd_ne hqr] at hqS; exact hqS), none, none, none, none, rfl⟩ ?_ ?_
  · rintro i hi τ S' D' ⟨hr, hq, X, x3, x4, x5, x6, rfl⟩ nx ct rt bk
    clear ct rt bk
    obtain ⟨b1', b2, b3, b4⟩ := key83 i hi
    have fn : f.num.natAbs ≤ 9 := by omega
    have m1 : CMulW f.num (watI i) := cmw (a := 4) (b := 3) (by omega) (by omega) (by decide)
    have m1b : f.num.natAbs * (watI i).natAbs ≤ 9 * 7 := Nat.mul_le_mul fn (by omega)
    have m2 : CMulW (f.num * watI i) (keyI i) := cmw (a := 6) (b := 9) (by rw [Int.natAbs_mul]; omega) (by omega) (by decide)
    have m3 : CMulW (1 + (i : Int)) 100 := cmw (a := 6) (b := 7) (by omega) (by decide) (by decide)
    have ek : ((1 + (i : Int)) * 100).fmod 397 = keyI i := rfl
    have ew : 1 + (1 + (i : Int)).fmod 7 = watI i := rfl
    have m2b : (f.num * watI i).natAbs * (keyI i).natAbs ≤ 9 * 7 * 397 := Nat.mul_le_mul (by rw [Int.natAbs_mul]; exact m1b) (by omega)
    try simp -implicitDefEqProofs [m3, ek, ew]
    have tL' : tyT S' "list" (.ref q) := aty_ref hq
    rw [tup_int]
    try simp -implicitDefEqProofs [m1, m2, tL', m3, ek]
    refine made_apB (n := 200000000000) (m := 200000) (by decide) (by rw [Int.natAbs_mul]; omega) (by decide) (by decide) (by decide) fun hq' => ?_
    refine app_R hq (by rw [List.length_map, List.length_map, List.length_range]; omega) ?_
    have hqS' : S q = none := by rw [supd_ne hqr] at hqS; exact hqS
    refine nx _ _ ⟨by rw [supd_ne hrq]; exact hr, ?_, X.new hqS', _, _, _, _, rfl⟩
    rw [supd_same, List.range_succ, List.map_append, List.map_append]
    rfl
  · rintro τ S' ⟨hr, hq, X, x3, x4, x5, x6, rfl⟩
    try simp -implicitDefEqProofs
    refine Or.inr (Or.inr ⟨(List.range 30).map (G83 f), by unfold lsOf; simp only [hq], ?_, fun ms pm po => ?_⟩)
    · have e : ((List.range 30).map (G83 f)).map (·.1) = (List.range 30).map keyI := by rw [List.map_map]; rfl
      rw [e]
      exact keys83
    obtain ⟨pk1, pk2⟩ := perm_keys pm
    obtain ⟨js, ejs, hjs⟩ := perm_js pk1
    rw [q_newF]
    dsimp only [lsOf]
    rw [← List.map_reverse]
    refine lcL_gen (l := ms.reverse) (emb := tpF) (g := fun _ => true) (f := fun m => T.tup m.2) (fun m hm => ?_) (by have := pm.length_eq; simp at this ⊢; omega) ?_
    · obtain ⟨j, hj, rfl⟩ := pk1 m (List.mem_reverse.mp hm)
      refine ⟨_, rfl, fun QT K => K, fun _ K z => ?_⟩
      simp -implicitDefEqProofs
      exact z
    · rw [List.nil_append, filt_true, q_newF]
      have eL : (ms.reverse.map fun m => T.tup m.2) = (js.reverse.map (lay83 f)).map tL := by
        rw [ejs, ← List.map_reverse, List.map_map, List.map_map]
        rfl
      rw [eL]
      have hl := pm.length_eq
      rw [ejs, List.length_map, List.length_map, List.length_range] at hl
      have hk2 : (js.map keyI).Nodup := by
        have e : (js.map (G83 f)).map (·.1) = js.map keyI := by rw [List.map_map]; rfl
        rw [← e, ← ejs]
        exact pk2
      have hk3 : js.Pairwise fun a b => keyI a ≤ keyI b := by
        rw [ejs] at po
        have z := List.pairwise_map.mp po
        exact z
      refine h _ _ _ ⟨f, _, rfl, f0, ⟨by omega, by omega⟩, long_BrD f0 hf (by omega) hjs hk2 hk3 (by omega)⟩ hr X (R1.mono (by omega))
/-! ### long texts -/
def sp__law_long_text : TSp := spDraw (fun as => ∃ f : Rat, as = [tR f] ∧ 0 < f ∧ Bq 1000 1000 f) 20 (fun as t => ∀ f : Rat, as = [tR f] → ∃ L : List Lay, t = .str (Sc (brT L)) ∧ isBr f L = true ∧ (∀ x, x ∈ L → F4 x) ∧ L.length ≤ 30)
theorem len__law_long_text : ∀ ts S Q E, sp__law_long_text ts S Q E → ts.length = 2 := draw_len fun _ ⟨_, h, _⟩ => by rw [h]; rfl
def b__law_long_text (W : XW) : DS :=
  (seqD
    (asgD (opD ixR (lstD false (consA (opD (binR false .Add) (cD (.int 12)) (callF sp__law_draw W (consA (rdD 0) (consA (cD (.int 30)) nilA)))) (consA (cD (.int 380)) nilA))) (callF sp__law_draw W (consA (rdD 0) (consA (cD (.int 2)) nilA)))) (.nm 2))
  (seqD
    (asgD (lstD true nilA) (.nm 3))
  (seqD
    (forD (seqI (lstD false (consA (tupD (consA (cD (.int 1)) (consA (cD (.int 1)) nilA))) (consA (tupD (consA (cD (.int 1)) (consA (cD (.int 2)) nilA))) nilA)))) (.nm 4)
      (seqD
        (asgD (callF sp__law_made W (consA (callF sp__law_figures W (consA (rdD 0) (consA (rdD 2) nilA))) (consA (callF sp__law_figures W (consA (rdD 0) (consA (rdD 2) nilA))) nilA))) (.nm 5))
      (seqD
        (dropD (methD "list" appendR (rdD 3) (consA (tupD (consA (rdD 5) (consA (callF sp__law_times W (consA (callF sp__law_times W (consA (rdD 1) (consA (rdD 4) nilA))) (consA (rdD 5) nilA))) nilA))) nilA)))
      nextD)))
  (seqD
    (retD (callF sp__law_a_text W (consA (callB tupleTR (consA (rdD 3) nilA)) nilA)))
  nextD))))
theorem big_mul {a b c : Nat} (h1 : a ≤ c) (h2 : b < 10 ^ 380) (hc : c ≤ 10 ^ 8) : a * b < N400 := by
  have h3 : a * b ≤ 10 ^ 8 * 10 ^ 380 := Nat.mul_le_mul (by omega) (Nat.le_of_lt h2)
  exact Nat.lt_of_le_of_lt h3 (by decide +kernel)
theorem two_br {f t1 t2 w1 w2 : Rat} (f0 : 0 < f) (h1 : 0 < t2) (h2 : t2 < t1) (h3 : t1 ≤ 1) (a : 0 < w1) (b : 0 < w2) : isBr f [(w1, f * t1 * w1), (w2, f * t2 * w2)] = true := by
  have lay : ∀ {t w : Rat}, 0 < t → t ≤ 1 → 0 < w → isLay f (w, f * t * w) = true := fun {t w} t0 t1 w0 => by
    have p1 : 0 < f * t * w := Rat.mul_pos (Rat.mul_pos f0 t0) w0
    have p2 : 0 ≤ (1 - t) := by grind
    have p3 : 0 < f * w := Rat.mul_pos f0 w0
    have p4 := Rat.mul_nonneg p2 (Rat.le_of_lt p3)
    exact isLay_wet w0 (Rat.le_of_lt p1) (by show f * t * w ≤ f * w; grind)
  have t10 : 0 < t1 := by grind
  refine isBr_of (fun x hx => ?_) (List.pairwise_pair.mpr ?_)
  · simp only [List.mem_cons, List.not_mem_nil, or_false] at hx
    rcases hx with rfl | rfl
    · exact lay t10 h3 a
    · exact lay h1 (by grind) b
  · unfold TL.sg
    have p := Rat.mul_lt_mul_of_pos_right h2 (Rat.mul_pos (Rat.mul_pos f0 a) b)
    show f * t2 * w2 * w1 < f * t1 * w1 * w2
    grind
/-- parts of many figures -/
def Big (q : Rat) : Prop := q.num.natAbs < 10 ^ 380 ∧ q.den < 10 ^ 380
theorem big_F {q : Rat} (h : Big q) : F400 q := ⟨Nat.lt_trans h.1 (by decide +kernel), Nat.lt_trans h.2 (by decide +kernel)⟩
theorem big_times {n m : Nat} {p q : Rat} {S : SS} {Q : KQ} {E : Exn → SS → Prop} (hp : Bq n m p) (hq : Big q) (hn : n ≤ 10 ^ 8) (hm : m ≤ 10 ^ 8) (h : F400 (p * q) → Q (tR (p * q)) S) : sp__law_times [tR p, tR q] S Q E := by
  have a := big_mul hp.1 hq.1 hn
  have b := big_mul hp.2 hq.2 hm
  have F : F400 (p * q) := by
    rw [← times_eq]
    have d0 : ((p.den : Int) * q.den) ≠ 0 := Int.mul_ne_zero (den0 p) (den0 q)
    obtain ⟨c, d⟩ := nd_le (p.num * q.num) (p.den * q.den) d0
    exact ⟨Nat.lt_of_le_of_lt (by rw [Int.natAbs_mul] at c; exact c) a, Nat.lt_of_le_of_lt (by rw [Int.natAbs_mul, Int.natAbs_natCast, Int.natAbs_natCast] at d; exact d) b⟩
  exact ⟨p, q, rfl, a, b, hp.F (by omega) (by omega), big_F hq, h F⟩
theorem made_big {a b : Int} {u : Nat} {S : SS} {Q : KQ} {E : Exn → SS → Prop} (hu : u ≤ 380) (a0 : 0 < a) (b0 : 0 < b) (ha : a.natAbs < 10 ^ u) (hb : b.natAbs < 10 ^ u) (h : ∀ q : Rat, 0 < q → Big q → Q (tR q) S) : sp__law_made [.int a, .int b] S Q E := by
  have p : 10 ^ u ≤ 10 ^ 380 := Nat.pow_le_pow_right (by decide) hu
  have k : 10 ^ 380 ≤ N400 := by decide +kernel
  have a1 := Nat.lt_of_lt_of_le ha p
  have b1 := Nat.lt_of_lt_of_le hb p
  exact ⟨a, b, rfl, Nat.lt_of_lt_of_le a1 k, b0, Nat.lt_of_lt_of_le b1 k, h _ (g_pos a0 b0) ⟨Nat.lt_of_le_of_lt (nd_le a b (by omega)).1 a1, Nat.lt_of_le_of_lt (nd_le a b (by omega)).2 b1⟩⟩
theorem law__law_long_text {ts : List T} {S : SS} {Q : KQ} {E : Exn → SS → Prop} (h : sp__law_long_text ts S Q E) : b__law_long_text (fun x _ S' => E x S') { nx := fun _ S' => Q .non S', rt := Q } (start' 6 ts) S := by
  obtain ⟨r, as, n, l0, rfl, ⟨f, rfl, f0, hf⟩, hS, R0, hn, h⟩ := h
  have sl : sizeLine = 16777216 := rfl
  unfold b__law_long_text start'
  try simp -implicitDefEqProofs
  refine take_ap hS R0 (by omega) (by decide) trivial fun d1 l1 a1 b1 R1 => ?_
  try simp -implicitDefEqProofs
  refine take_ap supd_same R1 (by omega) (by decide) trivial fun d2 l2 a2 b2 R2 => ?_
  try simp -implicitDefEqProofs
  refine at_ap a2 (by simpa using b2) fun ti mi => ?_
  obtain ⟨u, rfl, u0, u1⟩ : ∃ y : Int, ti = .int y ∧ 1 ≤ y ∧ y ≤ 380 := by
    simp only [List.mem_cons, List.not_mem_nil, or_false] at mi
    rcases mi with rfl | rfl <;> exact ⟨_, rfl, by omega, by omega⟩
  try simp -implicitDefEqProofs
  rw [tR_lit (a := 1) (b := 1) (by decide +kernel) (by decide +kernel), tR_lit (a := 1) (b := 2) (by decide +kernel) (by decide +kernel)]
  have t1 : (0 : Rat) < Rat.divInt 1 2 ∧ Rat.divInt 1 2 < Rat.divInt 1 1 ∧ Rat.divInt 1 1 ≤ 1 ∧ Bq 12 12 (Rat.divInt 1 1) ∧ Bq 12 12 (Rat.divInt 1 2) := by unfold Bq; decide +kernel
  obtain ⟨t1, t2, t3, t4, t5⟩ := t1
  generalize Rat.divInt 1 1 = s1 at *
  generalize Rat.divInt 1 2 = s2 at *
  intro q hqS
  have hqr : q ≠ r := fun z => by rw [z, supd_same] at hqS; cases hqS
  have hrq : r ≠ q := Ne.symm hqr
  have hqS' : S q = none := by rw [supd_ne hqr] at hqS; exact hqS
  have hr0 : supd (supd S r (.lst l2)) q (.lst []) r = some (.lst l2) := by rw [supd_ne hrq, supd_same]
  have hq0 : supd (supd S r (.lst l2)) q (.lst []) q = some (.lst (([] : List Lay).map tL)) := supd_same
  have X0 : ExtR r S (supd (supd S r (.lst l2)) q (.lst [])) := (ExtR.sup).new hqS'
  generalize supd (supd S r (.lst l2)) q (.lst []) = S0 at hr0 hq0 X0
  rw [q_forL1]
  refine ⟨trivial, ?_⟩
  try simp -implicitDefEqProofs
  refine draw_run hr0 R2 (by omega) ⟨u, rfl, by omega, by omega⟩ fun t3' S3 l3 P3 hS3 hx3 R3 => ?_
  obtain ⟨x1, rfl, x10, x11⟩ := P3 _ rfl
  try simp -implicitDefEqProofs
  refine draw_run hS3 R3 (by omega) ⟨u, rfl, by omega, by omega⟩ fun t4' S4 l4 P4 hS4 hx4 R4 => ?_
  obtain ⟨x2, rfl, x20, x21⟩ := P4 _ rfl
  try simp -implicitDefEqProofs
  refine made_big (by omega) x10 x20 x11 x21 fun w1 w10 w1B => ?_
  have hq4 : S4 q = some (.lst (([] : List Lay).map tL)) := hx4 _ _ hqr (hx3 _ _ hqr hq0)
  have X4 := (X0.trans hx3).trans hx4
  try simp -implicitDefEqProofs
  refine And.intro (aty_ref hq4) ?_
  refine times_B hf t4 (by decide) fun ftB => ?_
  try simp -implicitDefEqProofs
  refine big_times ftB w1B (by decide) (by decide) fun F1 => ?_
  try simp -implicitDefEqProofs
  rw [tL_mk]
  refine app_R hq4 (by simp) ?_
  try simp -implicitDefEqProofs
  have hq5 : supd S4 q (.lst ([] ++ [tL (w1, f * s1 * w1)])) q = some (.lst (([(w1, f * s1 * w1)] : List Lay).map tL)) := supd_same
  have hr5 : supd S4 q (.lst ([] ++ [tL (w1, f * s1 * w1)])) r = some (.lst l4) := by rw [supd_ne hrq]; exact hS4
  have X5 := X4.new (o := .lst ([] ++ [tL (w1, f * s1 * w1)])) hqS'
  simp only [List.nil_append] at hq5 hr5 X5 ⊢
  generalize supd S4 q (.lst [tL (w1, f * s1 * w1)]) = S5 at hr5 hq5 X5 ⊢
  rw [q_forL1]
  refine ⟨trivial, ?_⟩
  try simp -implicitDefEqProofs
  refine draw_run hr5 R4 (by omega) ⟨u, rfl, by omega, by omega⟩ fun t6' S6 l6 P6 hS6 hx6 R6 => ?_
  obtain ⟨x3, rfl, x30, x31⟩ := P6 _ rfl
  try simp -implicitDefEqProofs
  refine draw_run hS6 R6 (by omega) ⟨u, rfl, by omega, by omega⟩ fun t7' S7 l7 P7 hS7 hx7 R7 => ?_
  obtain ⟨x4, rfl, x40, x41⟩ := P7 _ rfl
  try simp -implicitDefEqProofs
  refine made_big (by omega) x30 x40 x31 x41 fun w2 w20 w2B => ?_
  have hq7 : S7 q = some (.lst (([(w1, f * s1 * w1)] : List Lay).map tL)) := hx7 _ _ hqr (hx6 _ _ hqr hq5)
  have X7 := (X5.trans hx6).trans hx7
  try simp -implicitDefEqProofs
  refine And.intro (aty_ref hq7) ?_
  refine times_B hf t5 (by decide) fun ftB2 => ?_
  try simp -implicitDefEqProofs
  refine big_times ftB2 w2B (by decide) (by decide) fun F2 => ?_
  try simp -implicitDefEqProofs
  rw [tL_mk]
  refine app_R hq7 (by simp) ?_
  try simp -implicitDefEqProofs
  rw [q_forL0]
  refine ⟨trivial, ?_⟩
  try simp -implicitDefEqProofs
  have er : ∀ (S' : SS) (M : List Lay) (Q : KQ), S' q = some (.lst (M.map tL)) → tupleTR [.ref q] S' Q = Q (tB M) S' := fun S' M Q e => by unfold tupleTR sqOf; simp only [e]; rfl
  rw [er _ [(w1, f * s1 * w1), (w2, f * s2 * w2)] _ (by rw [supd_same]; rfl)]
  have FL : ∀ x, x ∈ [(w1, f * s1 * w1), (w2, f * s2 * w2)] → F4 x := fun x hx => by
    simp only [List.mem_cons, List.not_mem_nil, or_false] at hx
    rcases hx with rfl | rfl
    · exact ⟨big_F w1B, F1⟩
    · exact ⟨big_F w2B, F2⟩
  refine ⟨_, rfl, FL, by simp, ?_⟩
  refine h _ _ _ (fun g e => ?_) (by rw [supd_ne hrq]; exact hS7) (X7.new hqS') (R7.mono (by omega))
  injection e with e _
  rw [tR_inj] at e
  subst e
  exact ⟨_, rfl, two_br f0 t1 t2 t3 w10 w20, FL, by simp⟩
/-! ### read -/
def sp_read_brine : TSp := fun ts S Q E => ∃ (f : Rat) (L : List Lay), ts = [tR f, .str (Sc (brT L))] ∧ Sm 5000000 f ∧ isBr f L = true ∧ (∀ x, x ∈ L → F4 x) ∧ L.length ≤ 500 ∧ Q (tB L) S
theorem len_read_brine (ts S Q E) (h : sp_read_brine ts S Q E) : ts.length = 2 := by obtain ⟨_, _, rfl, _⟩ := h; rfl
def b_read_brine (W : XW) : DS :=
  (seqD
    (asgD (tupD nilA) (.nm 2))
  (seqD
    (ifD (tstD (opD (cmpR .Eq) (rdD 1) (cD (.str "none"))))
      (seqD
        (retD (rdD 2))
      nextD)
      nextD)
  (seqD
    (forD (enumI (consA (methD "str" splitR (rdD 1) (consA (cD (.str " ")) nilA)) nilA)) (.tp (.cons (.nm 3) (.cons (.nm 4) .nil)))
      (seqD
        (asgD (callF sp_pair_of W (consA (rdD 4) nilA)) (.nm 5))
      (seqD
        (ifD (orT (tstD (opD (cmpR .Is) (rdD 5) (cD .non))) (notT (truD (callF sp_is_brine W (consA (rdD 0) (consA (opD (binR false .Add) (rdD 2) (tupD (consA (rdD 5) nilA))) nilA))))))
          (seqD
            neverS
          nextD)
          nextD)
      (seqD
        (asgD (opD (binR false .Add) (rdD 2) (tupD (consA (rdD 5) nilA))) (.nm 2))
      nextD))))
  (seqD
    (retD (rdD 2))
  nextD))))
theorem law_read_brine {ts : List T} {S : SS} {Q : KQ} {E : Exn → SS → Prop} (h : sp_read_brine ts S Q E) : b_read_brine (fun x _ S' => E x S') { nx := fun _ S' => Q .non S', rt := Q } (start' 6 ts) S := by
  obtain ⟨f, L, rfl, sf, hb, hL, hn, h⟩ := h
  have sl : sizeLine = 16777216 := rfl
  have es : ((" " : Str)) = Sc [32] := by decide +kernel
  have en : (("none" : Str)) = Sc noneC := by decide +kernel
  have okn : okC noneC = true := by decide
  have bl := brT_len hL
  have bl2 : (brT L).length ≤ 1606 * 500 + 4 := by
    have := Nat.mul_le_mul_left 1606 hn
    omega
  have tS : ∀ (r : List Nat) (S : SS), tyT S "str" (.str (Sc r)) := fun r S => .inr ⟨rfl, rfl⟩
  have e0 : T.tup [] = tB [] := rfl
  unfold b_read_brine start'
  rw [es, en]
  by_cases c : L = []
  · subst c
    simp -implicitDefEqProofs [eq_S (brT_ok []) okn]
    have z : brT [] = noneC := rfl
    rw [z]
    simp -implicitDefEqProofs
    exact h
  · have cn : ¬ brT L = noneC := fun z => c (brT_none.mp z)
    simp -implicitDefEqProofs [eq_S (brT_ok L) okn, cn, enumI]
    refine ⟨tS _ _, ?_⟩
    rw [split_ap (by decide) (by omega), brT_words c]
    simp -implicitDefEqProofs
    rw [e0]
    have ec : L.map ((fun p => T.str (Sc p)) ∘ layT) = (L.map layT).map fun p => T.str (Sc p) := (List.map_map ..).symm
    rw [ec, enW]
    refine rd_loop (es := neverS) sf (rdB_of hL (acc := []) (i := 0) (by exact hb)) (fun w hw => ?_) (fun y hy => by cases hy) (by rw [List.length_map, List.length_nil]; omega) (fun j D' x2 x4 x5 e => by cases e) (fun M x3 x4 x5 e hM => ?_)
    · obtain ⟨y, hy, rfl⟩ := List.mem_map.mp hw
      exact ⟨layT_ok y, Nat.le_trans (layT_len (hL y hy)) (by decide)⟩
    · injection e with e
      subst e
      simp -implicitDefEqProofs
      exact h
def b_law (W : XW) : DS :=
  (seqD
    (forD (enumI (consA (opD (binR false .Add) (slD false (rdD 0) noneO (someO (cD (.int 63)))) (lstD false (consA (callB lenR (consA (rdD 0) nilA)) nilA))) nilA)) (.tp (.cons (.nm 1) (.cons (.nm 2) .nil)))
      (seqD
        (asgD (callF sp__law_new_bag W (consA (rdD 2) (consA (rdD 1) nilA))) (.nm 3))
      (seqD
        (asgD (callF sp__law_a_full W (consA (rdD 3) nilA)) (.nm 4))
      (seqD
        (asgD (callF sp__law_a_brine W (consA (rdD 3) (consA (rdD 4) (consA (cD (.int 8)) nilA)))) (.nm 5))
      (seqD
        (ifD (tstD (opD (cmpR .Eq) (callF sp__law_draw W (consA (rdD 3) (consA (cD (.int 12)) nilA))) (cD (.int 0))))
          (seqD
            (asgD (callF sp__law_long_brine W (consA (rdD 3) nilA)) (.tp (.cons (.nm 4) (.cons (.nm 5) .nil))))
          nextD)
          nextD)
      (seqD
        (asgD (callF sp__law_a_text W (consA (rdD 5) nilA)) (.nm 6))
      (seqD
        (forD (rng1I (consA (cD (.int 2)) nilA)) (.nm 7)
          (seqD
            (ifD (orT (tstD (opD (cmpR .NotEq) (callF sp_brine_text W (consA (rdD 5) nilA)) (rdD 6))) (notT (truD (callF sp__law_same W (consA (callF sp_read_brine W (consA (rdD 4) (consA (rdD 6) nilA))) (consA (rdD 5) nilA))))))
              (seqD
                (retD (cD (.bl false)))
              nextD)
              nextD)
          nextD))
      (seqD
        (ifD (tstD (opD (cmpR .Lt) (rdD 1) (cD (.int 6))))
          (seqD
            (asgD (callF sp__law_long_text W (consA (rdD 3) (consA (rdD 4) nilA))) (.nm 6))
          (seqD
            (ifD (tstD (opD (cmpR .NotEq) (callF sp_brine_text W (consA (callF sp_read_brine W (consA (rdD 4) (consA (rdD 6) nilA))) nilA)) (rdD 6)))
              (seqD
                (retD (cD (.bl false)))
              nextD)
              nextD)
          nextD))
          nextD)
      nextD))))))))
  (seqD
    (retD (andE (opD (cmpR .Eq) (callF sp_read_brine W (consA (tupD (consA (cD (.int 1)) (consA (cD (.int 1)) nilA))) (consA (cD (.str "none")) nilA))) (tupD nilA)) (opD (cmpR .Eq) (callF sp_brine_text W (consA (tupD nilA) nilA)) (cD (.str "none")))))
  nextD))
theorem law_law {ts : List T} {S : SS} {Q : KQ} {E : Exn → SS → Prop} (h : sp_law ts S Q E) : b_law (fun x _ S' => E x S') { nx := fun _ S' => Q .non S', rt := Q } (start' 8 ts) S := by
  obtain ⟨ns, rfl, hl, hbits, h⟩ := h
  have sl : sizeLine = 16777216 := rfl
  unfold b_law start'
  have es : ∀ (S : SS) (Q : KQ), slR false (.lst (ns.map T.int)) none (some 63) S Q = Q (.lst ((cutG ns none (some 63)).map T.int)) S := fun S Q => by
    rw [q_slLst, q_newF, cutG_map]
  have lc : (cutG ns none (some 63)).length ≤ 63 := Nat.le_trans cutG_le hl
  simp -implicitDefEqProofs [enumI, es, lsOf, sqOf]
  generalize cutG ns none (some 63) = A at lc
  refine ⟨by omega, ?_⟩
  have e0 : A.map T.int ++ [.int (ns.length : Nat)] = (A ++ [(ns.length : Int)]).map T.int := by rw [List.map_append]; rfl
  rw [e0]
  refine forL_inv (fun _ τ _ => ∃ x1 x2 x3 x4 x5 x6 x7, τ = [some (.lst (ns.map T.int)), x1, x2, x3, x4, x5, x6, x7]) (k := 0) ⟨_, _, _, _, _, _, _, rfl⟩ ?_ ?_
  · rintro i hi τ S' D' ⟨x1, x2, x3, x4, x5, x6, x7, rfl⟩ nx ct rt bk
    clear rt bk ct
    have hi2 : i < (A ++ [(ns.length : Int)]).length := by simpa [enT] using hi
    refine ⟨trivial, ?_⟩
    have e : (enT ((A ++ [(ns.length : Int)]).map T.int))[i] = .tup [.int (i : Nat), .int (A ++ [(ns.length : Int)])[i]] := by
      rw [enT_get81 hi (by simpa using hi2), List.getElem_map]
    rw [e]
    generalize (A ++ [(ns.length : Int)])[i] = c
    have hib : i < 2 ^ 20 := by rw [List.length_append] at hi2; simp at hi2; omega
    have main : ∀ (r : Addr) (f : Rat) (L : List Lay) (S2 : SS) (l2 : List T) (x6 x7 : Option T), 0 < f → Bq 1000 1000 f → BrD f L → S2 r = some (.lst l2) → RL 200 l2 → (
      (seqD
      (asgD (callF sp__law_a_text (fun x _ S' => E x S') (consA (rdD 5) nilA)) (.nm 6))
      (seqD
      (forD (rng1I (consA (cD (.int 2)) nilA)) (.nm 7)
      (seqD
      (ifD (orT (tstD (opD (cmpR .NotEq) (callF sp_brine_text (fun x _ S' => E x S') (consA (rdD 5) nilA)) (rdD 6))) (notT (truD (callF sp__law_same (fun x _ S' => E x S') (consA (callF sp_read_brine (fun x _ S' => E x S') (consA (rdD 4) (consA (rdD 6) nilA))) (consA (rdD 5) nilA))))))
      (seqD
      (retD (cD (.bl false)))
      nextD)
      nextD)
      nextD))
      (seqD
      (ifD (tstD (opD (cmpR .Lt) (rdD 1) (cD (.int 6))))
      (seqD
      (asgD (callF sp__law_long_text (fun x _ S' => E x S') (consA (rdD 3) (consA (rdD 4) nilA))) (.nm 6))
      (seqD
      (ifD (tstD (opD (cmpR .NotEq) (callF sp_brine_text (fun x _ S' => E x S') (consA (callF sp_read_brine (fun x _ S' => E x S') (consA (rdD 4) (consA (rdD 6) nilA))) nilA)) (rdD 6)))
      (seqD
      (retD (cD (.bl false)))
      nextD)
      nextD)
      nextD))
      nextD)
      nextD)))) { nx := D'.nx, rt := D'.rt, bk := D'.bk, ct := D'.ct } [some (.lst (ns.map T.int)), some (.int (i : Nat)), some (.int c), some (.ref r), some (tR f), some (tB L), x6, x7] S2 := by
      intro r f L S2 l2 x6 x7 f0 hf hL hS2 R2
      have FL : ∀ x, x ∈ L → F4 x := fun x hx => (hL.2.1 x hx).F4
      have l30 := hL.2.2
      have sf : Sm 5000000 f := (show Sm 20 f from ⟨Nat.lt_of_le_of_lt hf.1 (by decide), Nat.lt_of_le_of_lt hf.2 (by decide)⟩).mono (by decide)
      try simp -implicitDefEqProofs
      refine ⟨L, rfl, FL, by omega, ?_⟩
      try simp -implicitDefEqProofs
      refine forL_rng (fun _ τ S4 => S4 = S2 ∧ ∃ (x7 : Option T), τ = [some (.lst (ns.map T.int)), some (.int (i : Nat)), some (.int c), some (.ref r), some (tR f), some (tB L), some (.str (Sc (brT L))), x7]) ⟨rfl, _, rfl⟩ ?_ ?_
      · rintro k hk τ S4 D4 ⟨rfl, x7, rfl⟩ nx4 ct4 rt4 bk4
        clear ct4 rt4 bk4
        try simp -implicitDefEqProofs
        refine ⟨L, rfl, FL, by omega, ?_⟩
        simp -implicitDefEqProofs [ne_S (brT_ok L) (brT_ok L)]
        refine ⟨f, L, rfl, sf, hL.1, FL, by omega, ?_⟩
        try simp -implicitDefEqProofs
        refine same_B (by omega) ?_
        try simp -implicitDefEqProofs
        exact nx4 _ _ ⟨rfl, _, rfl⟩
      · rintro τ S4 ⟨rfl, x7, rfl⟩
        try simp -implicitDefEqProofs
        by_cases c6 : ((i : Nat) : Int) < 6
        · simp -implicitDefEqProofs [c6]
          refine draw_run hS2 R2 (by omega) ⟨f, rfl, f0, hf⟩ fun t3 S3 l3 P3 hS3 hx3 R3 => ?_
          obtain ⟨M, rfl, hM, FM, m30⟩ := P3 _ rfl
          try simp -implicitDefEqProofs
          refine ⟨f, M, rfl, sf, hM, FM, by omega, ?_⟩
          try simp -implicitDefEqProofs
          refine ⟨M, rfl, FM, by omega, ?_⟩
          simp -implicitDefEqProofs [ne_S (brT_ok M) (brT_ok M)]
          exact nx _ _ ⟨_, _, _, _, _, _, _, rfl⟩
        · simp -implicitDefEqProofs [c6]
          exact nx _ _ ⟨_, _, _, _, _, _, _, rfl⟩
    generalize (
      (seqD
      (asgD (callF sp__law_a_text (fun x _ S' => E x S') (consA (rdD 5) nilA)) (.nm 6))
      (seqD
      (forD (rng1I (consA (cD (.int 2)) nilA)) (.nm 7)
      (seqD
      (ifD (orT (tstD (opD (cmpR .NotEq) (callF sp_brine_text (fun x _ S' => E x S') (consA (rdD 5) nilA)) (rdD 6))) (notT (truD (callF sp__law_same (fun x _ S' => E x S') (consA (callF sp_read_brine (fun x _ S' => E x S') (consA (rdD 4) (consA (rdD 6) nilA))) (consA (rdD 5) nilA))))))
      (seqD
      (retD (cD (.bl false)))
      nextD)
      nextD)
      nextD))
      (seqD
      (ifD (tstD (opD (cmpR .Lt) (rdD 1) (cD (.int 6))))
      (seqD
      (asgD (callF sp__law_long_text (fun x _ S' => E x S') (consA (rdD 3) (consA (rdD 4) nilA))) (.nm 6))
      (seqD
      (ifD (tstD (opD (cmpR .NotEq) (callF sp_brine_text (fun x _ S' => E x S') (consA (callF sp_read_brine (fun x _ S' => E x S') (consA (rdD 4) (consA (rdD 6) nilA))) nilA)) (rdD 6)))
      (seqD
      (retD (cD (.bl false)))
      nextD)
      nextD)
      nextD))
      nextD)
      nextD)))) = REST at main ⊢
    try simp -implicitDefEqProofs
    refine bag_ap hib fun r l hr R0 => ?_
    try simp -implicitDefEqProofs
    refine draw_run supd_same R0 (by omega) rfl fun t1 S1 l1 P1 hS1 hx1 R1 => ?_
    obtain ⟨f, rfl, f0, hf⟩ := P1
    try simp -implicitDefEqProofs
    refine draw_run hS1 R1 (by omega) ⟨f, rfl, f0, hf⟩ fun t2 S2 l2 P2 hS2 hx2 R2 => ?_
    obtain ⟨L, rfl, hL⟩ := P2 _ rfl
    try simp -implicitDefEqProofs
    refine take_ap hS2 R2 (by omega) (by decide) trivial fun d3 l3 a3 b3 R3 => ?_
    try simp -implicitDefEqProofs
    by_cases c0 : d3 = 0
    · simp -implicitDefEqProofs [c0]
      refine draw_run supd_same R3 (by omega) rfl fun t4 S4 l4 P4 hS4 hx4 R4 => ?_
      obtain ⟨g, M, rfl, g0, hg, hM⟩ := P4
      try simp -implicitDefEqProofs
      exact main r g M S4 l4 _ _ g0 hg hM hS4 (R4.mono (by omega))
    · simp -implicitDefEqProofs [c0]
      exact main r f L _ l3 _ _ f0 hf hL supd_same (R3.mono (by omega))
  · rintro τ S' ⟨x1, x2, x3, x4, x5, x6, x7, rfl⟩
    have en : (("none" : Str)) = Sc (brT []) := by decide +kernel
    refine ⟨trivial, ?_⟩
    rw [en]
    try simp -implicitDefEqProofs
    rw [tR1]
    refine ⟨1, [], rfl, (show Sm 2 (1 : Rat) from ⟨by decide, by decide⟩).mono (by decide), by decide +kernel, (fun x hx => by cases hx), by decide, ?_⟩
    have et : T.tup [] = tB [] := rfl
    have eq0 : ∀ (S : SS) (Q : KQ), cmpR .Eq (tB []) (.tup []) S Q = Q (.bl true) S := fun S Q => by
      have e : T.eqv (tB []) (.tup []) = true := by decide +kernel
      show (_ ∧ _ ∧ Q (.bl (false ^^ T.eqv (tB []) (.tup []))) S) = _
      rw [e]
      exact propext ⟨fun z => z.2.2, fun z => ⟨rfl, rfl, z⟩⟩
    simp -implicitDefEqProofs [eq0]
    refine ⟨[], rfl, (fun x hx => by cases hx), by decide, ?_⟩
    simp -implicitDefEqProofs [eq_S (brT_ok []) (brT_ok [])]
    exact h _

end TL
namespace HH
open PySem PySem.Spec PyProof.Rows L2 TL
def mu : Pos → Bool := fun p => (p.line == 100 && p.col == 11) || (p.line == 142 && p.col == 12) || (p.line == 154 && p.col == 11) || (p.line == 172 && p.col == 11) || (p.line == 185 && p.col == 14)
def cst : Str → Option TL.T := TL.cstOf cs
def md : TL.Md := ⟨sub, exs, cat, TL.gloOf xs cst, mu⟩
def fns0 : List (Str × Nat × TL.TSp) := []
theorem sc__law_new_bag : FnScope ["cell", "at", "digits"] ["cell", "at"] (defScope (top 30)) := ⟨rfl, rfl, rfl, by decide +kernel, rfl, by decide +kernel, by decide +kernel⟩
theorem m__law_new_bag (W : TL.XW) : (TL.ev 60 (TL.dcOf md ["cell", "at", "digits"] d__law_new_bag.scope fns0) W).S d__law_new_bag.body = TL.b__law_new_bag W := by kernel_rfl
def fns1 : List (Str × Nat × TL.TSp) := ("_law_new_bag", 2, TL.sp__law_new_bag) :: fns0
theorem sc__law_divisor : FnScope ["one", "other", "turn"] ["one", "other"] (defScope (top 33)) := ⟨rfl, rfl, rfl, by decide +kernel, rfl, by decide +kernel, by decide +kernel⟩
theorem m__law_divisor (W : TL.XW) : (TL.ev 60 (TL.dcOf md ["one", "other", "turn"] d__law_divisor.scope fns1) W).S d__law_divisor.body = TL.b__law_divisor W := by kernel_rfl
def fns2 : List (Str × Nat × TL.TSp) := ("_law_divisor", 2, TL.sp__law_divisor) :: fns1
theorem sc__law_made : FnScope ["above", "below", "common"] ["above", "below"] (defScope (top 34)) := ⟨rfl, rfl, rfl, by decide +kernel, rfl, by decide +kernel, by decide +kernel⟩
theorem m__law_made (W : TL.XW) : (TL.ev 60 (TL.dcOf md ["above", "below", "common"] d__law_made.scope fns2) W).S d__law_made.body = TL.b__law_made W := by kernel_rfl
def fns3 : List (Str × Nat × TL.TSp) := ("_law_made", 2, TL.sp__law_made) :: fns2
theorem sc__law_draw : FnScope ["bag", "many", "primes", "one", "two", "digit"] ["bag", "many"] (defScope (top 31)) := ⟨rfl, rfl, rfl, by decide +kernel, rfl, by decide +kernel, by decide +kernel⟩
theorem m__law_draw (W : TL.XW) : (TL.ev 60 (TL.dcOf md ["bag", "many", "primes", "one", "two", "digit"] d__law_draw.scope fns3) W).S d__law_draw.body = TL.b__law_draw W := by kernel_rfl
def fns4 : List (Str × Nat × TL.TSp) := ("_law_draw", 2, TL.sp__law_draw) :: fns3
theorem sc__law_a_full : FnScope ["bag"] ["bag"] (defScope (top 39)) := ⟨rfl, rfl, rfl, by decide +kernel, rfl, by decide +kernel, by decide +kernel⟩
theorem m__law_a_full (W : TL.XW) : (TL.ev 60 (TL.dcOf md ["bag"] d__law_a_full.scope fns4) W).S d__law_a_full.body = TL.b__law_a_full W := by kernel_rfl
def fns5 : List (Str × Nat × TL.TSp) := ("_law_a_full", 1, TL.sp__law_a_full) :: fns4
theorem sc__law_a_positive : FnScope ["bag", "below"] ["bag"] (defScope (top 36)) := ⟨rfl, rfl, rfl, by decide +kernel, rfl, by decide +kernel, by decide +kernel⟩
theorem m__law_a_positive (W : TL.XW) : (TL.ev 60 (TL.dcOf md ["bag", "below"] d__law_a_positive.scope fns5) W).S d__law_a_positive.body = TL.b__law_a_positive W := by kernel_rfl
def fns6 : List (Str × Nat × TL.TSp) := ("_law_a_positive", 1, TL.sp__law_a_positive) :: fns5
theorem sc__law_some_water : FnScope ["bag", "full", "most"] ["bag", "full", "most"] (defScope (top 40)) := ⟨rfl, rfl, rfl, by decide +kernel, rfl, by decide +kernel, by decide +kernel⟩
theorem m__law_some_water (W : TL.XW) : (TL.ev 60 (TL.dcOf md ["bag", "full", "most"] d__law_some_water.scope fns6) W).S d__law_some_water.body = TL.b__law_some_water W := by kernel_rfl
def fns7 : List (Str × Nat × TL.TSp) := ("_law_some_water", 3, TL.sp__law_some_water) :: fns6
theorem sc__law_times : FnScope ["one", "other"] ["one", "other"] (defScope (top 37)) := ⟨rfl, rfl, rfl, by decide +kernel, rfl, by decide +kernel, by decide +kernel⟩
theorem m__law_times (W : TL.XW) : (TL.ev 60 (TL.dcOf md ["one", "other"] d__law_times.scope fns7) W).S d__law_times.body = TL.b__law_times W := by kernel_rfl
def fns8 : List (Str × Nat × TL.TSp) := ("_law_times", 2, TL.sp__law_times) :: fns7
theorem sc__law_a_brine : FnScope ["bag", "full", "most", "shares", "found", "share", "water"] ["bag", "full", "most"] (defScope (top 41)) := ⟨rfl, rfl, rfl, by decide +kernel, rfl, by decide +kernel, by decide +kernel⟩
theorem m__law_a_brine (W : TL.XW) : (TL.ev 60 (TL.dcOf md ["bag", "full", "most", "shares", "found", "share", "water"] d__law_a_brine.scope fns8) W).S d__law_a_brine.body = TL.b__law_a_brine W := by kernel_rfl
def fns9 : List (Str × Nat × TL.TSp) := ("_law_a_brine", 3, TL.sp__law_a_brine) :: fns8
theorem sc__law_written : FnScope ["one"] ["one"] (defScope (top 38)) := ⟨rfl, rfl, rfl, by decide +kernel, rfl, by decide +kernel, by decide +kernel⟩
theorem m__law_written (W : TL.XW) : (TL.ev 60 (TL.dcOf md ["one"] d__law_written.scope fns9) W).S d__law_written.body = TL.b__law_written W := by kernel_rfl
def fns10 : List (Str × Nat × TL.TSp) := ("_law_written", 1, TL.sp__law_written) :: fns9
theorem sc__law_a_text : FnScope ["brine", "found", "water", "salt"] ["brine"] (defScope (top 43)) := ⟨rfl, rfl, rfl, by decide +kernel, rfl, by decide +kernel, by decide +kernel⟩
theorem m__law_a_text (W : TL.XW) : (TL.ev 60 (TL.dcOf md ["brine", "found", "water", "salt"] d__law_a_text.scope fns10) W).S d__law_a_text.body = TL.b__law_a_text W := by kernel_rfl
def fns11 : List (Str × Nat × TL.TSp) := ("_law_a_text", 1, TL.sp__law_a_text) :: fns10
theorem sc__law_long_brine : FnScope ["bag", "full", "some", "k", "water", "share", "salt"] ["bag"] (defScope (top 42)) := ⟨rfl, rfl, rfl, by decide +kernel, rfl, by decide +kernel, by decide +kernel⟩
theorem m__law_long_brine (W : TL.XW) : (TL.ev 60 (TL.dcOf md ["bag", "full", "some", "k", "water", "share", "salt"] d__law_long_brine.scope fns11) W).S d__law_long_brine.body = TL.b__law_long_brine W := by kernel_rfl
def fns12 : List (Str × Nat × TL.TSp) := ("_law_long_brine", 1, TL.sp__law_long_brine) :: fns11
theorem sc__law_figures : FnScope ["bag", "many", "step", "number", "turn"] ["bag", "many"] (defScope (top 44)) := ⟨rfl, rfl, rfl, by decide +kernel, rfl, by decide +kernel, by decide +kernel⟩
theorem m__law_figures (W : TL.XW) : (TL.ev 60 (TL.dcOf md ["bag", "many", "step", "number", "turn"] d__law_figures.scope fns12) W).S d__law_figures.body = TL.b__law_figures W := by kernel_rfl
def fns13 : List (Str × Nat × TL.TSp) := ("_law_figures", 2, TL.sp__law_figures) :: fns12
theorem sc__law_long_text : FnScope ["bag", "full", "many", "some", "share", "water"] ["bag", "full"] (defScope (top 45)) := ⟨rfl, rfl, rfl, by decide +kernel, rfl, by decide +kernel, by decide +kernel⟩
theorem m__law_long_text (W : TL.XW) : (TL.ev 60 (TL.dcOf md ["bag", "full", "many", "some", "share", "water"] d__law_long_text.scope fns13) W).S d__law_long_text.body = TL.b__law_long_text W := by kernel_rfl
def fns14 : List (Str × Nat × TL.TSp) := ("_law_long_text", 2, TL.sp__law_long_text) :: fns13
theorem sc_whole_of : FnScope ["word", "sign"] ["word"] (defScope (top 21)) := ⟨rfl, rfl, rfl, by decide +kernel, rfl, by decide +kernel, by decide +kernel⟩
theorem m_whole_of (W : TL.XW) : (TL.ev 60 (TL.dcOf md ["word", "sign"] d_whole_of.scope fns14) W).S d_whole_of.body = TL.b_whole_of W := by kernel_rfl
def fns15 : List (Str × Nat × TL.TSp) := ("whole_of", 1, TL.sp_whole_of) :: fns14
theorem sc_upper_of : FnScope ["word", "number"] ["word"] (defScope (top 22)) := ⟨rfl, rfl, rfl, by decide +kernel, rfl, by decide +kernel, by decide +kernel⟩
theorem m_upper_of (W : TL.XW) : (TL.ev 60 (TL.dcOf md ["word", "number"] d_upper_of.scope fns15) W).S d_upper_of.body = TL.b_upper_of W := by kernel_rfl
def fns16 : List (Str × Nat × TL.TSp) := ("upper_of", 1, TL.sp_upper_of) :: fns15
theorem sc_is_whole : FnScope ["thing"] ["thing"] (defScope (top 6)) := ⟨rfl, rfl, rfl, by decide +kernel, rfl, by decide +kernel, by decide +kernel⟩
theorem m_is_whole (W : TL.XW) : (TL.ev 60 (TL.dcOf md ["thing"] d_is_whole.scope fns16) W).S d_is_whole.body = TL.b_is_whole W := by kernel_rfl
def fns17 : List (Str × Nat × TL.TSp) := ("is_whole", 1, TL.sp_is_whole) :: fns16
theorem sc_divisor : FnScope ["one", "other"] ["one", "other"] (defScope (top 7)) := ⟨rfl, rfl, rfl, by decide +kernel, rfl, by decide +kernel, by decide +kernel⟩
theorem m_divisor (W : TL.XW) : (TL.ev 60 (TL.dcOf md ["one", "other"] d_divisor.scope fns17) W).S d_divisor.body = TL.b_divisor W := by kernel_rfl
def fns18 : List (Str × Nat × TL.TSp) := ("divisor", 2, TL.sp_divisor) :: fns17
theorem sc_is_fraction : FnScope ["thing"] ["thing"] (defScope (top 8)) := ⟨rfl, rfl, rfl, by decide +kernel, rfl, by decide +kernel, by decide +kernel⟩
theorem m_is_fraction (W : TL.XW) : (TL.ev 60 (TL.dcOf md ["thing"] d_is_fraction.scope fns18) W).S d_is_fraction.body = TL.b_is_fraction W := by kernel_rfl
def fns19 : List (Str × Nat × TL.TSp) := ("is_fraction", 1, TL.sp_is_fraction) :: fns18
theorem sc_fraction_of : FnScope ["word", "parts", "above", "below"] ["word"] (defScope (top 23)) := ⟨rfl, rfl, rfl, by decide +kernel, rfl, by decide +kernel, by decide +kernel⟩
theorem m_fraction_of (W : TL.XW) : (TL.ev 60 (TL.dcOf md ["word", "parts", "above", "below"] d_fraction_of.scope fns19) W).S d_fraction_of.body = TL.b_fraction_of W := by kernel_rfl
def fns20 : List (Str × Nat × TL.TSp) := ("fraction_of", 1, TL.sp_fraction_of) :: fns19
theorem sc_pair_of : FnScope ["word", "parts", "part"] ["word"] (defScope (top 27)) := ⟨rfl, rfl, rfl, by decide +kernel, rfl, by decide +kernel, by decide +kernel⟩
theorem m_pair_of (W : TL.XW) : (TL.ev 60 (TL.dcOf md ["word", "parts", "part"] d_pair_of.scope fns20) W).S d_pair_of.body = TL.b_pair_of W := by kernel_rfl
def fns21 : List (Str × Nat × TL.TSp) := ("pair_of", 1, TL.sp_pair_of) :: fns20
theorem sc_is_less : FnScope ["one", "other"] ["one", "other"] (defScope (top 12)) := ⟨rfl, rfl, rfl, by decide +kernel, rfl, by decide +kernel, by decide +kernel⟩
theorem m_is_less (W : TL.XW) : (TL.ev 60 (TL.dcOf md ["one", "other"] d_is_less.scope fns21) W).S d_is_less.body = TL.b_is_less W := by kernel_rfl
def fns22 : List (Str × Nat × TL.TSp) := ("is_less", 2, TL.sp_is_less) :: fns21
theorem sc_fraction : FnScope ["a", "b", "by"] ["a", "b"] (defScope (top 10)) := ⟨rfl, rfl, rfl, by decide +kernel, rfl, by decide +kernel, by decide +kernel⟩
theorem m_fraction (W : TL.XW) : (TL.ev 60 (TL.dcOf md ["a", "b", "by"] d_fraction.scope fns22) W).S d_fraction.body = TL.b_fraction W := by kernel_rfl
def fns23 : List (Str × Nat × TL.TSp) := ("fraction", 2, TL.sp_fraction) :: fns22
theorem sc_times : FnScope ["one", "other"] ["one", "other"] (defScope (top 11)) := ⟨rfl, rfl, rfl, by decide +kernel, rfl, by decide +kernel, by decide +kernel⟩
theorem m_times (W : TL.XW) : (TL.ev 60 (TL.dcOf md ["one", "other"] d_times.scope fns23) W).S d_times.body = TL.b_times W := by kernel_rfl
def fns24 : List (Str × Nat × TL.TSp) := ("times", 2, TL.sp_times) :: fns23
theorem sc_is_stronger : FnScope ["one", "other"] ["one", "other"] (defScope (top 15)) := ⟨rfl, rfl, rfl, by decide +kernel, rfl, by decide +kernel, by decide +kernel⟩
theorem m_is_stronger (W : TL.XW) : (TL.ev 60 (TL.dcOf md ["one", "other"] d_is_stronger.scope fns24) W).S d_is_stronger.body = TL.b_is_stronger W := by kernel_rfl
def fns25 : List (Str × Nat × TL.TSp) := ("is_stronger", 2, TL.sp_is_stronger) :: fns24
theorem sc_is_amount : FnScope ["thing"] ["thing"] (defScope (top 9)) := ⟨rfl, rfl, rfl, by decide +kernel, rfl, by decide +kernel, by decide +kernel⟩
theorem m_is_amount (W : TL.XW) : (TL.ev 60 (TL.dcOf md ["thing"] d_is_amount.scope fns25) W).S d_is_amount.body = TL.b_is_amount W := by kernel_rfl
def fns26 : List (Str × Nat × TL.TSp) := ("is_amount", 1, TL.sp_is_amount) :: fns25
theorem sc_is_layer : FnScope ["full", "thing"] ["full", "thing"] (defScope (top 14)) := ⟨rfl, rfl, rfl, by decide +kernel, rfl, by decide +kernel, by decide +kernel⟩
theorem m_is_layer (W : TL.XW) : (TL.ev 60 (TL.dcOf md ["full", "thing"] d_is_layer.scope fns26) W).S d_is_layer.body = TL.b_is_layer W := by kernel_rfl
def fns27 : List (Str × Nat × TL.TSp) := ("is_layer", 2, TL.sp_is_layer) :: fns26
theorem sc_is_brine : FnScope ["full", "thing", "ahead", "behind", "layer"] ["full", "thing"] (defScope (top 16)) := ⟨rfl, rfl, rfl, by decide +kernel, rfl, by decide +kernel, by decide +kernel⟩
theorem m_is_brine (W : TL.XW) : (TL.ev 60 (TL.dcOf md ["full", "thing", "ahead", "behind", "layer"] d_is_brine.scope fns27) W).S d_is_brine.body = TL.b_is_brine W := by kernel_rfl
def fns28 : List (Str × Nat × TL.TSp) := ("is_brine", 2, TL.sp_is_brine) :: fns27
theorem sc_read_brine : FnScope ["full", "text", "found", "at", "word", "layer"] ["full", "text"] (defScope (top 28)) := ⟨rfl, rfl, rfl, by decide +kernel, rfl, by decide +kernel, by decide +kernel⟩
theorem m_read_brine (W : TL.XW) : (TL.ev 60 (TL.dcOf md ["full", "text", "found", "at", "word", "layer"] d_read_brine.scope fns28) W).S d_read_brine.body = TL.b_read_brine W := by kernel_rfl
def fns29 : List (Str × Nat × TL.TSp) := ("read_brine", 2, TL.sp_read_brine) :: fns28
theorem sc_fraction_text : FnScope ["one"] ["one"] (defScope (top 24)) := ⟨rfl, rfl, rfl, by decide +kernel, rfl, by decide +kernel, by decide +kernel⟩
theorem m_fraction_text (W : TL.XW) : (TL.ev 60 (TL.dcOf md ["one"] d_fraction_text.scope fns29) W).S d_fraction_text.body = TL.b_fraction_text W := by kernel_rfl
def fns30 : List (Str × Nat × TL.TSp) := ("fraction_text", 1, TL.sp_fraction_text) :: fns29
theorem sc_layer_text : FnScope ["layer"] ["layer"] (defScope (top 25)) := ⟨rfl, rfl, rfl, by decide +kernel, rfl, by decide +kernel, by decide +kernel⟩
theorem m_layer_text (W : TL.XW) : (TL.ev 60 (TL.dcOf md ["layer"] d_layer_text.scope fns30) W).S d_layer_text.body = TL.b_layer_text W := by kernel_rfl
def fns31 : List (Str × Nat × TL.TSp) := ("layer_text", 1, TL.sp_layer_text) :: fns30
theorem sc_brine_text : FnScope ["brine", "layer"] ["brine"] (defScope (top 26)) := ⟨rfl, rfl, rfl, by decide +kernel, rfl, by decide +kernel, by decide +kernel⟩
theorem m_brine_text (W : TL.XW) : (TL.ev 60 (TL.dcOf md ["brine", "layer"] d_brine_text.scope fns31) W).S d_brine_text.body = TL.b_brine_text W := by kernel_rfl
def fns32 : List (Str × Nat × TL.TSp) := ("brine_text", 1, TL.sp_brine_text) :: fns31
theorem sc__law_same : FnScope ["found", "due", "one", "other"] ["found", "due"] (defScope (top 46)) := ⟨rfl, rfl, rfl, by decide +kernel, rfl, by decide +kernel, by decide +kernel⟩
def fns33 : List (Str × Nat × TL.TSp) := ("_law_same", 2, TL.spF) :: fns32
theorem m__law_same_L0 (W : TL.XW) : (TL.ev 60 (TL.dcOf md ["found", "due", "one", "other"] d__law_same.scope fns33) W).S d__law_same.body = TL.b__law_same TL.spF W := by kernel_rfl
def fns34 : List (Str × Nat × TL.TSp) := ("_law_same", 2, TL.sp__law_same_L0) :: fns33
theorem m__law_same_L1 (W : TL.XW) : (TL.ev 60 (TL.dcOf md ["found", "due", "one", "other"] d__law_same.scope fns34) W).S d__law_same.body = TL.b__law_same TL.sp__law_same_L0 W := by kernel_rfl
def fns35 : List (Str × Nat × TL.TSp) := ("_law_same", 2, TL.sp__law_same_L1) :: fns34
theorem m__law_same_L2 (W : TL.XW) : (TL.ev 60 (TL.dcOf md ["found", "due", "one", "other"] d__law_same.scope fns35) W).S d__law_same.body = TL.b__law_same TL.sp__law_same_L1 W := by kernel_rfl
def fns36 : List (Str × Nat × TL.TSp) := ("_law_same", 2, TL.sp__law_same_L2) :: fns35
theorem m__law_same_L3 (W : TL.XW) : (TL.ev 60 (TL.dcOf md ["found", "due", "one", "other"] d__law_same.scope fns36) W).S d__law_same.body = TL.b__law_same TL.sp__law_same_L2 W := by kernel_rfl
def fns37 : List (Str × Nat × TL.TSp) := ("_law_same", 2, TL.sp__law_same) :: fns36
theorem sc_law : FnScope ["script", "at", "cell", "bag", "full", "brine", "text", "again"] ["script"] (defScope (top 47)) := ⟨rfl, rfl, rfl, by decide +kernel, rfl, by decide +kernel, by decide +kernel⟩
theorem m_law (W : TL.XW) : (TL.ev 60 (TL.dcOf md ["script", "at", "cell", "bag", "full", "brine", "text", "again"] d_law.scope fns37) W).S d_law.body = TL.b_law W := by kernel_rfl
section
variable {P : Program} {w : World} {K : PySem.W.Frag} {mg : Str → Option Value} {base h : Heap}
variable (KX : K.In h) (G : h.Ns mainGlobals mg) (c : He.SaysD fa fn K) (M : TL.Mo (TL.ctOf K mg xs cst) md) (hp : TL.PyB P base)
include KX G c M hp
theorem ch0 : TL.FnsOk (TL.ctOf K mg xs cst) P w base 35 fns0 := TL.FnsOk.nil
theorem ch1 : TL.FnsOk (TL.ctOf K mg xs cst) P w base 36 fns1 := by
  obtain ⟨fd, F⟩ := c.def_ 18 (d := d__law_new_bag) rfl
  refine TL.FnsOk.add (ch0 KX G c M hp) (TL.fn_ev hp (by decide) M (ch0 KX G c M hp) F sc__law_new_bag (TL.len__law_new_bag) 60 (fun ts S Q E h => ?_)) rfl (He.glo_ok KX G (TL.facts_mem c (List.mem_append_right _ (List.mem_of_getElem? (i := 18) rfl)))) F.kp (F.bindsN fun _ _ _ _ _ _ us hl => match us, hl with | [_, _], _ => rfl)
  rw [m__law_new_bag]
  exact TL.law__law_new_bag h
theorem ch2 : TL.FnsOk (TL.ctOf K mg xs cst) P w base 37 fns2 := by
  obtain ⟨fd, F⟩ := c.def_ 21 (d := d__law_divisor) rfl
  refine TL.FnsOk.add (ch1 KX G c M hp) (TL.fn_ev hp (by decide) M (ch1 KX G c M hp) F sc__law_divisor (TL.len__law_divisor) 60 (fun ts S Q E h => ?_)) rfl (He.glo_ok KX G (TL.facts_mem c (List.mem_append_right _ (List.mem_of_getElem? (i := 21) rfl)))) F.kp (F.bindsN fun _ _ _ _ _ _ us hl => match us, hl with | [_, _], _ => rfl)
  rw [m__law_divisor]
  exact TL.law__law_divisor h
theorem ch3 : TL.FnsOk (TL.ctOf K mg xs cst) P w base 38 fns3 := by
  obtain ⟨fd, F⟩ := c.def_ 22 (d := d__law_made) rfl
  refine TL.FnsOk.add (ch2 KX G c M hp) (TL.fn_ev hp (by decide) M (ch2 KX G c M hp) F sc__law_made (TL.len__law_made) 60 (fun ts S Q E h => ?_)) rfl (He.glo_ok KX G (TL.facts_mem c (List.mem_append_right _ (List.mem_of_getElem? (i := 22) rfl)))) F.kp (F.bindsN fun _ _ _ _ _ _ us hl => match us, hl with | [_, _], _ => rfl)
  rw [m__law_made]
  exact TL.law__law_made h
theorem ch4 : TL.FnsOk (TL.ctOf K mg xs cst) P w base 39 fns4 := by
  obtain ⟨fd, F⟩ := c.def_ 19 (d := d__law_draw) rfl
  refine TL.FnsOk.add (ch3 KX G c M hp) (TL.fn_ev hp (by decide) M (ch3 KX G c M hp) F sc__law_draw (TL.len__law_draw) 60 (fun ts S Q E h => ?_)) rfl (He.glo_ok KX G (TL.facts_mem c (List.mem_append_right _ (List.mem_of_getElem? (i := 19) rfl)))) F.kp (F.bindsN fun _ _ _ _ _ _ us hl => match us, hl with | [_, _], _ => rfl)
  rw [m__law_draw]
  exact TL.law__law_draw h
theorem ch5 : TL.FnsOk (TL.ctOf K mg xs cst) P w base 40 fns5 := by
  obtain ⟨fd, F⟩ := c.def_ 27 (d := d__law_a_full) rfl
  refine TL.FnsOk.add (ch4 KX G c M hp) (TL.fn_ev hp (by decide) M (ch4 KX G c M hp) F sc__law_a_full (TL.len__law_a_full) 60 (fun ts S Q E h => ?_)) rfl (He.glo_ok KX G (TL.facts_mem c (List.mem_append_right _ (List.mem_of_getElem? (i := 27) rfl)))) F.kp (F.bindsN fun _ _ _ _ _ _ us hl => match us, hl with | [_], _ => rfl)
  rw [m__law_a_full]
  exact TL.law__law_a_full h
theorem ch6 : TL.FnsOk (TL.ctOf K mg xs cst) P w base 41 fns6 := by
  obtain ⟨fd, F⟩ := c.def_ 24 (d := d__law_a_positive) rfl
  refine TL.FnsOk.add (ch5 KX G c M hp) (TL.fn_ev hp (by decide) M (ch5 KX G c M hp) F sc__law_a_positive (TL.len__law_a_positive) 60 (fun ts S Q E h => ?_)) rfl (He.glo_ok KX G (TL.facts_mem c (List.mem_append_right _ (List.mem_of_getElem? (i := 24) rfl)))) F.kp (F.bindsN fun _ _ _ _ _ _ us hl => match us, hl with | [_], _ => rfl)
  rw [m__law_a_positive]
  exact TL.law__law_a_positive h
theorem ch7 : TL.FnsOk (TL.ctOf K mg xs cst) P w base 42 fns7 := by
  obtain ⟨fd, F⟩ := c.def_ 28 (d := d__law_some_water) rfl
  refine TL.FnsOk.add (ch6 KX G c M hp) (TL.fn_ev hp (by decide) M (ch6 KX G c M hp) F sc__law_some_water (TL.len__law_some_water) 60 (fun ts S Q E h => ?_)) rfl (He.glo_ok KX G (TL.facts_mem c (List.mem_append_right _ (List.mem_of_getElem? (i := 28) rfl)))) F.kp (F.bindsN fun _ _ _ _ _ _ us hl => match us, hl with | [_, _, _], _ => rfl)
  rw [m__law_some_water]
  exact TL.law__law_some_water h
theorem ch8 : TL.FnsOk (TL.ctOf K mg xs cst) P w base 43 fns8 := by
  obtain ⟨fd, F⟩ := c.def_ 25 (d := d__law_times) rfl
  refine TL.FnsOk.add (ch7 KX G c M hp) (TL.fn_ev hp (by decide) M (ch7 KX G c M hp) F sc__law_times (TL.len__law_times) 60 (fun ts S Q E h => ?_)) rfl (He.glo_ok KX G (TL.facts_mem c (List.mem_append_right _ (List.mem_of_getElem? (i := 25) rfl)))) F.kp (F.bindsN fun _ _ _ _ _ _ us hl => match us, hl with | [_, _], _ => rfl)
  rw [m__law_times]
  exact TL.law__law_times h
theorem ch9 : TL.FnsOk (TL.ctOf K mg xs cst) P w base 44 fns9 := by
  obtain ⟨fd, F⟩ := c.def_ 29 (d := d__law_a_brine) rfl
  refine TL.FnsOk.add (ch8 KX G c M hp) (TL.fn_ev hp (by decide) M (ch8 KX G c M hp) F sc__law_a_brine (TL.len__law_a_brine) 60 (fun ts S Q E h => ?_)) rfl (He.glo_ok KX G (TL.facts_mem c (List.mem_append_right _ (List.mem_of_getElem? (i := 29) rfl)))) F.kp (F.bindsN fun _ _ _ _ _ _ us hl => match us, hl with | [_, _, _], _ => rfl)
  rw [m__law_a_brine]
  exact TL.law__law_a_brine h
theorem ch10 : TL.FnsOk (TL.ctOf K mg xs cst) P w base 45 fns10 := by
  obtain ⟨fd, F⟩ := c.def_ 26 (d := d__law_written) rfl
  refine TL.FnsOk.add (ch9 KX G c M hp) (TL.fn_ev hp (by decide) M (ch9 KX G c M hp) F sc__law_written (TL.len__law_written) 60 (fun ts S Q E h => ?_)) rfl (He.glo_ok KX G (TL.facts_mem c (List.mem_append_right _ (List.mem_of_getElem? (i := 26) rfl)))) F.kp (F.bindsN fun _ _ _ _ _ _ us hl => match us, hl with | [_], _ => rfl)
  rw [m__law_written]
  exact TL.law__law_written h
theorem ch11 : TL.FnsOk (TL.ctOf K mg xs cst) P w base 46 fns11 := by
  obtain ⟨fd, F⟩ := c.def_ 31 (d := d__law_a_text) rfl
  refine TL.FnsOk.add (ch10 KX G c M hp) (TL.fn_ev hp (by decide) M (ch10 KX G c M hp) F sc__law_a_text (TL.len__law_a_text) 60 (fun ts S Q E h => ?_)) rfl (He.glo_ok KX G (TL.facts_mem c (List.mem_append_right _ (List.mem_of_getElem? (i := 31) rfl)))) F.kp (F.bindsN fun _ _ _ _ _ _ us hl => match us, hl with | [_], _ => rfl)
  rw [m__law_a_text]
  exact TL.law__law_a_text h
theorem ch12 : TL.FnsOk (TL.ctOf K mg xs cst) P w base 47 fns12 := by
  obtain ⟨fd, F⟩ := c.def_ 30 (d := d__law_long_brine) rfl
  refine TL.FnsOk.add (ch11 KX G c M hp) (TL.fn_ev hp (by decide) M (ch11 KX G c M hp) F sc__law_long_brine (TL.len__law_long_brine) 60 (fun ts S Q E h => ?_)) rfl (He.glo_ok KX G (TL.facts_mem c (List.mem_append_right _ (List.mem_of_getElem? (i := 30) rfl)))) F.kp (F.bindsN fun _ _ _ _ _ _ us hl => match us, hl with | [_], _ => rfl)
  rw [m__law_long_brine]
  exact TL.law__law_long_brine h
theorem ch13 : TL.FnsOk (TL.ctOf K mg xs cst) P w base 48 fns13 := by
  obtain ⟨fd, F⟩ := c.def_ 32 (d := d__law_figures) rfl
  refine TL.FnsOk.add (ch12 KX G c M hp) (TL.fn_ev hp (by decide) M (ch12 KX G c M hp) F sc__law_figures (TL.len__law_figures) 60 (fun ts S Q E h => ?_)) rfl (He.glo_ok KX G (TL.facts_mem c (List.mem_append_right _ (List.mem_of_getElem? (i := 32) rfl)))) F.kp (F.bindsN fun _ _ _ _ _ _ us hl => match us, hl with | [_, _], _ => rfl)
  rw [m__law_figures]
  exact TL.law__law_figures h
theorem ch14 : TL.FnsOk (TL.ctOf K mg xs cst) P w base 49 fns14 := by
  obtain ⟨fd, F⟩ := c.def_ 33 (d := d__law_long_text) rfl
  refine TL.FnsOk.add (ch13 KX G c M hp) (TL.fn_ev hp (by decide) M (ch13 KX G c M hp) F sc__law_long_text (TL.len__law_long_text) 60 (fun ts S Q E h => ?_)) rfl (He.glo_ok KX G (TL.facts_mem c (List.mem_append_right _ (List.mem_of_getElem? (i := 33) rfl)))) F.kp (F.bindsN fun _ _ _ _ _ _ us hl => match us, hl with | [_, _], _ => rfl)
  rw [m__law_long_text]
  exact TL.law__law_long_text h
theorem ch15 : TL.FnsOk (TL.ctOf K mg xs cst) P w base 50 fns15 := by
  obtain ⟨fd, F⟩ := c.def_ 10 (d := d_whole_of) rfl
  refine TL.FnsOk.add (ch14 KX G c M hp) (TL.fn_ev hp (by decide) M (ch14 KX G c M hp) F sc_whole_of (TL.len_whole_of) 60 (fun ts S Q E h => ?_)) rfl (He.glo_ok KX G (TL.facts_mem c (List.mem_append_right _ (List.mem_of_getElem? (i := 10) rfl)))) F.kp (F.bindsN fun _ _ _ _ _ _ us hl => match us, hl with | [_], _ => rfl)
  rw [m_whole_of]
  exact TL.law_whole_of h
theorem ch16 : TL.FnsOk (TL.ctOf K mg xs cst) P w base 51 fns16 := by
  obtain ⟨fd, F⟩ := c.def_ 11 (d := d_upper_of) rfl
  refine TL.FnsOk.add (ch15 KX G c M hp) (TL.fn_ev hp (by decide) M (ch15 KX G c M hp) F sc_upper_of (TL.len_upper_of) 60 (fun ts S Q E h => ?_)) rfl (He.glo_ok KX G (TL.facts_mem c (List.mem_append_right _ (List.mem_of_getElem? (i := 11) rfl)))) F.kp (F.bindsN fun _ _ _ _ _ _ us hl => match us, hl with | [_], _ => rfl)
  rw [m_upper_of]
  exact TL.law_upper_of h
theorem ch17 : TL.FnsOk (TL.ctOf K mg xs cst) P w base 52 fns17 := by
  obtain ⟨fd, F⟩ := c.def_ 0 (d := d_is_whole) rfl
  refine TL.FnsOk.add (ch16 KX G c M hp) (TL.fn_ev hp (by decide) M (ch16 KX G c M hp) F sc_is_whole (TL.len_is_whole) 60 (fun ts S Q E h => ?_)) rfl (He.glo_ok KX G (TL.facts_mem c (List.mem_append_right _ (List.mem_of_getElem? (i := 0) rfl)))) F.kp (F.bindsN fun _ _ _ _ _ _ us hl => match us, hl with | [_], _ => rfl)
  rw [m_is_whole]
  exact TL.law_is_whole h
theorem ch18 : TL.FnsOk (TL.ctOf K mg xs cst) P w base 53 fns18 := by
  obtain ⟨fd, F⟩ := c.def_ 1 (d := d_divisor) rfl
  refine TL.FnsOk.add (ch17 KX G c M hp) (TL.fn_ev hp (by decide) M (ch17 KX G c M hp) F sc_divisor (TL.len_divisor) 60 (fun ts S Q E h => ?_)) rfl (He.glo_ok KX G (TL.facts_mem c (List.mem_append_right _ (List.mem_of_getElem? (i := 1) rfl)))) F.kp (F.bindsN fun _ _ _ _ _ _ us hl => match us, hl with | [_, _], _ => rfl)
  rw [m_divisor]
  exact TL.law_divisor h
theorem ch19 : TL.FnsOk (TL.ctOf K mg xs cst) P w base 54 fns19 := by
  obtain ⟨fd, F⟩ := c.def_ 2 (d := d_is_fraction) rfl
  refine TL.FnsOk.add (ch18 KX G c M hp) (TL.fn_ev hp (by decide) M (ch18 KX G c M hp) F sc_is_fraction (TL.len_is_fraction) 60 (fun ts S Q E h => ?_)) rfl (He.glo_ok KX G (TL.facts_mem c (List.mem_append_right _ (List.mem_of_getElem? (i := 2) rfl)))) F.kp (F.bindsN fun _ _ _ _ _ _ us hl => match us, hl with | [_], _ => rfl)
  rw [m_is_fraction]
  exact TL.law_is_fraction h
theorem ch20 : TL.FnsOk (TL.ctOf K mg xs cst) P w base 55 fns20 := by
  obtain ⟨fd, F⟩ := c.def_ 12 (d := d_fraction_of) rfl
  refine TL.FnsOk.add (ch19 KX G c M hp) (TL.fn_ev hp (by decide) M (ch19 KX G c M hp) F sc_fraction_of (TL.len_fraction_of) 60 (fun ts S Q E h => ?_)) rfl (He.glo_ok KX G (TL.facts_mem c (List.mem_append_right _ (List.mem_of_getElem? (i := 12) rfl)))) F.kp (F.bindsN fun _ _ _ _ _ _ us hl => match us, hl with | [_], _ => rfl)
  rw [m_fraction_of]
  exact TL.law_fraction_of h
theorem ch21 : TL.FnsOk (TL.ctOf K mg xs cst) P w base 56 fns21 := by
  obtain ⟨fd, F⟩ := c.def_ 16 (d := d_pair_of) rfl
  refine TL.FnsOk.add (ch20 KX G c M hp) (TL.fn_ev hp (by decide) M (ch20 KX G c M hp) F sc_pair_of (TL.len_pair_of) 60 (fun ts S Q E h => ?_)) rfl (He.glo_ok KX G (TL.facts_mem c (List.mem_append_right _ (List.mem_of_getElem? (i := 16) rfl)))) F.kp (F.bindsN fun _ _ _ _ _ _ us hl => match us, hl with | [_], _ => rfl)
  rw [m_pair_of]
  exact TL.law_pair_of h
theorem ch22 : TL.FnsOk (TL.ctOf K mg xs cst) P w base 57 fns22 := by
  obtain ⟨fd, F⟩ := c.def_ 6 (d := d_is_less) rfl
  refine TL.FnsOk.add (ch21 KX G c M hp) (TL.fn_ev hp (by decide) M (ch21 KX G c M hp) F sc_is_less (TL.len_is_less) 60 (fun ts S Q E h => ?_)) rfl (He.glo_ok KX G (TL.facts_mem c (List.mem_append_right _ (List.mem_of_getElem? (i := 6) rfl)))) F.kp (F.bindsN fun _ _ _ _ _ _ us hl => match us, hl with | [_, _], _ => rfl)
  rw [m_is_less]
  exact TL.law_is_less h
theorem ch23 : TL.FnsOk (TL.ctOf K mg xs cst) P w base 58 fns23 := by
  obtain ⟨fd, F⟩ := c.def_ 4 (d := d_fraction) rfl
  refine TL.FnsOk.add (ch22 KX G c M hp) (TL.fn_ev hp (by decide) M (ch22 KX G c M hp) F sc_fraction (TL.len_fraction) 60 (fun ts S Q E h => ?_)) rfl (He.glo_ok KX G (TL.facts_mem c (List.mem_append_right _ (List.mem_of_getElem? (i := 4) rfl)))) F.kp (F.bindsN fun _ _ _ _ _ _ us hl => match us, hl with | [_, _], _ => rfl)
  rw [m_fraction]
  exact TL.law_fraction h
theorem ch24 : TL.FnsOk (TL.ctOf K mg xs cst) P w base 59 fns24 := by
  obtain ⟨fd, F⟩ := c.def_ 5 (d := d_times) rfl
  refine TL.FnsOk.add (ch23 KX G c M hp) (TL.fn_ev hp (by decide) M (ch23 KX G c M hp) F sc_times (TL.len_times) 60 (fun ts S Q E h => ?_)) rfl (He.glo_ok KX G (TL.facts_mem c (List.mem_append_right _ (List.mem_of_getElem? (i := 5) rfl)))) F.kp (F.bindsN fun _ _ _ _ _ _ us hl => match us, hl with | [_, _], _ => rfl)
  rw [m_times]
  exact TL.law_times h
theorem ch25 : TL.FnsOk (TL.ctOf K mg xs cst) P w base 60 fns25 := by
  obtain ⟨fd, F⟩ := c.def_ 8 (d := d_is_stronger) rfl
  refine TL.FnsOk.add (ch24 KX G c M hp) (TL.fn_ev hp (by decide) M (ch24 KX G c M hp) F sc_is_stronger (TL.len_is_stronger) 60 (fun ts S Q E h => ?_)) rfl (He.glo_ok KX G (TL.facts_mem c (List.mem_append_right _ (List.mem_of_getElem? (i := 8) rfl)))) F.kp (F.bindsN fun _ _ _ _ _ _ us hl => match us, hl with | [_, _], _ => rfl)
  rw [m_is_stronger]
  exact TL.law_is_stronger h
theorem ch26 : TL.FnsOk (TL.ctOf K mg xs cst) P w base 61 fns26 := by
  obtain ⟨fd, F⟩ := c.def_ 3 (d := d_is_amount) rfl
  refine TL.FnsOk.add (ch25 KX G c M hp) (TL.fn_ev hp (by decide) M (ch25 KX G c M hp) F sc_is_amount (TL.len_is_amount) 60 (fun ts S Q E h => ?_)) rfl (He.glo_ok KX G (TL.facts_mem c (List.mem_append_right _ (List.mem_of_getElem? (i := 3) rfl)))) F.kp (F.bindsN fun _ _ _ _ _ _ us hl => match us, hl with | [_], _ => rfl)
  rw [m_is_amount]
  exact TL.law_is_amount h
theorem ch27 : TL.FnsOk (TL.ctOf K mg xs cst) P w base 62 fns27 := by
  obtain ⟨fd, F⟩ := c.def_ 7 (d := d_is_layer) rfl
  refine TL.FnsOk.add (ch26 KX G c M hp) (TL.fn_ev hp (by decide) M (ch26 KX G c M hp) F sc_is_layer (TL.len_is_layer) 60 (fun ts S Q E h => ?_)) rfl (He.glo_ok KX G (TL.facts_mem c (List.mem_append_right _ (List.mem_of_getElem? (i := 7) rfl)))) F.kp (F.bindsN fun _ _ _ _ _ _ us hl => match us, hl with | [_, _], _ => rfl)
  rw [m_is_layer]
  exact TL.law_is_layer h
theorem ch28 : TL.FnsOk (TL.ctOf K mg xs cst) P w base 63 fns28 := by
  obtain ⟨fd, F⟩ := c.def_ 9 (d := d_is_brine) rfl
  refine TL.FnsOk.add (ch27 KX G c M hp) (TL.fn_ev hp (by decide) M (ch27 KX G c M hp) F sc_is_brine (TL.len_is_brine) 60 (fun ts S Q E h => ?_)) rfl (He.glo_ok KX G (TL.facts_mem c (List.mem_append_right _ (List.mem_of_getElem? (i := 9) rfl)))) F.kp (F.bindsN fun _ _ _ _ _ _ us hl => match us, hl with | [_, _], _ => rfl)
  rw [m_is_brine]
  exact TL.law_is_brine h
theorem ch29 : TL.FnsOk (TL.ctOf K mg xs cst) P w base 64 fns29 := by
  obtain ⟨fd, F⟩ := c.def_ 17 (d := d_read_brine) rfl
  refine TL.FnsOk.add (ch28 KX G c M hp) (TL.fn_ev hp (by decide) M (ch28 KX G c M hp) F sc_read_brine (TL.len_read_brine) 60 (fun ts S Q E h => ?_)) rfl (He.glo_ok KX G (TL.facts_mem c (List.mem_append_right _ (List.mem_of_getElem? (i := 17) rfl)))) F.kp (F.bindsN fun _ _ _ _ _ _ us hl => match us, hl with | [_, _], _ => rfl)
  rw [m_read_brine]
  exact TL.law_read_brine h
theorem ch30 : TL.FnsOk (TL.ctOf K mg xs cst) P w base 65 fns30 := by
  obtain ⟨fd, F⟩ := c.def_ 13 (d := d_fraction_text) rfl
  refine TL.FnsOk.add (ch29 KX G c M hp) (TL.fn_ev hp (by decide) M (ch29 KX G c M hp) F sc_fraction_text (TL.len_fraction_text) 60 (fun ts S Q E h => ?_)) rfl (He.glo_ok KX G (TL.facts_mem c (List.mem_append_right _ (List.mem_of_getElem? (i := 13) rfl)))) F.kp (F.bindsN fun _ _ _ _ _ _ us hl => match us, hl with | [_], _ => rfl)
  rw [m_fraction_text]
  exact TL.law_fraction_text h
theorem ch31 : TL.FnsOk (TL.ctOf K mg xs cst) P w base 66 fns31 := by
  obtain ⟨fd, F⟩ := c.def_ 14 (d := d_layer_text) rfl
  refine TL.FnsOk.add (ch30 KX G c M hp) (TL.fn_ev hp (by decide) M (ch30 KX G c M hp) F sc_layer_text (TL.len_layer_text) 60 (fun ts S Q E h => ?_)) rfl (He.glo_ok KX G (TL.facts_mem c (List.mem_append_right _ (List.mem_of_getElem? (i := 14) rfl)))) F.kp (F.bindsN fun _ _ _ _ _ _ us hl => match us, hl with | [_], _ => rfl)
  rw [m_layer_text]
  exact TL.law_layer_text h
theorem ch32 : TL.FnsOk (TL.ctOf K mg xs cst) P w base 67 fns32 := by
  obtain ⟨fd, F⟩ := c.def_ 15 (d := d_brine_text) rfl
  refine TL.FnsOk.add (ch31 KX G c M hp) (TL.fn_ev hp (by decide) M (ch31 KX G c M hp) F sc_brine_text (TL.len_brine_text) 60 (fun ts S Q E h => ?_)) rfl (He.glo_ok KX G (TL.facts_mem c (List.mem_append_right _ (List.mem_of_getElem? (i := 15) rfl)))) F.kp (F.bindsN fun _ _ _ _ _ _ us hl => match us, hl with | [_], _ => rfl)
  rw [m_brine_text]
  exact TL.law_brine_text h
theorem ch33 : TL.FnsOk (TL.ctOf K mg xs cst) P w base 68 fns33 := by
  obtain ⟨fd, F⟩ := c.def_ 34 (d := d__law_same) rfl
  exact TL.FnsOk.add (ch32 KX G c M hp) (TL.fnG_F (ps := ["found", "due"])) rfl (He.glo_ok KX G (TL.facts_mem c (List.mem_append_right _ (List.mem_of_getElem? (i := 34) rfl)))) F.kp (F.bindsN fun _ _ _ _ _ _ us hl => match us, hl with | [_, _], _ => rfl)
theorem ch34 : TL.FnsOk (TL.ctOf K mg xs cst) P w base 69 fns34 := by
  obtain ⟨fd, F⟩ := c.def_ 34 (d := d__law_same) rfl
  refine TL.FnsOk.add (ch33 KX G c M hp) (TL.fn_ev hp (by decide) M (ch33 KX G c M hp) F sc__law_same (TL.len__law_same_L0) 60 (fun ts S Q E h => ?_)) rfl (He.glo_ok KX G (TL.facts_mem c (List.mem_append_right _ (List.mem_of_getElem? (i := 34) rfl)))) F.kp (F.bindsN fun _ _ _ _ _ _ us hl => match us, hl with | [_, _], _ => rfl)
  rw [m__law_same_L0]
  exact TL.law__law_same_L0 h
theorem ch35 : TL.FnsOk (TL.ctOf K mg xs cst) P w base 70 fns35 := by
  obtain ⟨fd, F⟩ := c.def_ 34 (d := d__law_same) rfl
  refine TL.FnsOk.add (ch34 KX G c M hp) (TL.fn_ev hp (by decide) M (ch34 KX G c M hp) F sc__law_same (TL.len__law_same_L1) 60 (fun ts S Q E h => ?_)) rfl (He.glo_ok KX G (TL.facts_mem c (List.mem_append_right _ (List.mem_of_getElem? (i := 34) rfl)))) F.kp (F.bindsN fun _ _ _ _ _ _ us hl => match us, hl with | [_, _], _ => rfl)
  rw [m__law_same_L1]
  exact TL.law__law_same_L1 h
theorem ch36 : TL.FnsOk (TL.ctOf K mg xs cst) P w base 71 fns36 := by
  obtain ⟨fd, F⟩ := c.def_ 34 (d := d__law_same) rfl
  refine TL.FnsOk.add (ch35 KX G c M hp) (TL.fn_ev hp (by decide) M (ch35 KX G c M hp) F sc__law_same (TL.len__law_same_L2) 60 (fun ts S Q E h => ?_)) rfl (He.glo_ok KX G (TL.facts_mem c (List.mem_append_right _ (List.mem_of_getElem? (i := 34) rfl)))) F.kp (F.bindsN fun _ _ _ _ _ _ us hl => match us, hl with | [_, _], _ => rfl)
  rw [m__law_same_L2]
  exact TL.law__law_same_L2 h
theorem ch37 : TL.FnsOk (TL.ctOf K mg xs cst) P w base 72 fns37 := by
  obtain ⟨fd, F⟩ := c.def_ 34 (d := d__law_same) rfl
  refine TL.FnsOk.add (ch36 KX G c M hp) (TL.fn_ev hp (by decide) M (ch36 KX G c M hp) F sc__law_same (TL.len__law_same_L3) 60 (fun ts S Q E h => ?_)) rfl (He.glo_ok KX G (TL.facts_mem c (List.mem_append_right _ (List.mem_of_getElem? (i := 34) rfl)))) F.kp (F.bindsN fun _ _ _ _ _ _ us hl => match us, hl with | [_, _], _ => rfl)
  rw [m__law_same_L3]
  exact TL.law__law_same_L3 h
omit hp in
theorem chL : ∃ fd : FuncData, (∀ (s : Shared) (u : Value), BindsTo s fd ⟨[u], []⟩ [("script", u)]) ∧ ∀ base : Heap, TL.PyB P base → TL.FnG (TL.ctOf K mg xs cst) P w K mg base 73 (He.ga K "law") fd ["script"] TL.sp_law := by
  obtain ⟨fd, F⟩ := c.def_ 35 (d := d_law) rfl
  have b := FunD.bindsA (ps := ["script"]) F fun _ _ _ _ _ _ us hl => match us, hl with | [_], _ => rfl
  refine ⟨fd, fun s u => b s [u] rfl, fun base hp => TL.fn_ev hp (by decide) M (ch37 KX G c M hp) F sc_law TL.len_law 60 (fun ts S Q E h => ?_)⟩
  rw [m_law]
  exact TL.law_law h
end
end HH
open PySem PySem.W PySem.Calls PyProof.Rows
theorem PySem.Challenge.cw_brineways_k83_brines_written_holds : PySem.Challenge.rw_brineways_k83_brines_written.Holds := by
  w_on; o_law
  refine HandSHeadRun.head_any (r := OpenLaw.row PySem.Challenge.rw_brineways_k83_brines_written) (q := view (OpenLaw.row PySem.Challenge.rw_brineways_k83_brines_written).prog [47]) (H := HH.hk) (ob := HH.ob) (M := 6000) (loose := HH.ls) (d := HandSHeadRun.topDef (OpenLaw.row PySem.Challenge.rw_brineways_k83_brines_written).prog 47) (kwd := []) HH.ob_eq
    (by kernel_rfl) (fun s => by kernel_rfl) HH.run (by kernel_rfl) (by kernel_rfl) (by kernel_rfl) (by rfl) (by first | assumption | decide +kernel) (by decide +kernel) ⟨rfl, rfl, rfl, rfl, rfl, by decide +kernel⟩ ?hw ?hc
  case hw => w_witness2
  case hc =>
    refine Att.attach_callB (l := PySem.Challenge.rw_brineways_k83_brines_written) (n := 63) rfl (by kernel_rfl) fun w s₀ s₁ mg mb fa o pm cd doc a vs ns G Y ho hd hcd hmg0 hobj hints hlen hbits hg => ?_
    obtain ⟨K, KX, c, hex0⟩ := Y
    have hex := (Bool.and_eq_true_iff.mp hex0).1
    have hcs := (Bool.and_eq_true_iff.mp hex0).2
    have hmg : mg ("law" : PySem.Str) = some (.ref fa) := by
      have e : (HandSHeadRun.topDef (OpenLaw.row PySem.Challenge.rw_brineways_k83_brines_written).prog 47).name = ("law" : PySem.Str) := by kernel_rfl
      rw [← e]
      exact hmg0
    have e := hmg.symm.trans (He.glo_ok KX G.T.g (TL.facts_mem c (List.mem_append_right _ (List.mem_of_getElem? (i := 35) rfl))))
    cases e
    have hf : ∀ f, f ∈ TL.faOf HH.xs HH.exs → f.ok K = true := fun f hm => TL.facts_mem c (List.mem_append_left _ hm)
    have M : TL.Mo (TL.ctOf K mg HH.xs HH.cst) HH.md := TL.mo_of (md := HH.md) (cst := HH.cst) (ok := fun _ => true) KX G.T.g hf hex rfl (by decide +kernel) (by decide +kernel)
    obtain ⟨fd, hb, hF⟩ := HH.chL (P := (PySem.Challenge.rw_brineways_k83_brines_written).prog) (w := w) KX G.T.g c M
    exact TL.lawG (sp := TL.sp_law) (k := 73) KX G.T.g G.T.b G.T.builtins G.T.nolimit hg hobj hints (Nat.le_trans hlen (by decide)) ⟨rfl, by decide, by decide⟩
      (TL.glo_of KX G.T.g hf (TL.cst_ok rfl KX G.T.g hcs)) (G.T.seer (by kernel_rfl)) rfl (fun base _ _ hp => hF base hp) hb ⟨ns, rfl, hlen, hbits, fun _ => rfl⟩

