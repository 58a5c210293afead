import PyProof.Rows.All
import Wide.All
import OpenK.AllK
import Wide.FinOn
import HandS.ForMost
import HandS.ForExc
import HandS.Walk
import HandS.Conv
import HandS.Zip
import HandS.Flow
import HandS.Star
import HandS.TupAny
import HandS.TupMul
import HandS.Deep
import HandS.TupLen
import KE.KTupSum
import HandS.SortInts
import HandS.SortKw
import KE.GoesMore
import KE.GoesEnum
import HandS.Small
import HandS.Style
import HandS.Exc
import HandS.ExcCtx
import HandS.Defaults
import HandS.ExcOwn
import HandS.DeepEq
import HandS.RaiseMore
import PyProof.ReprRoads
import PyProof.ExcBaseAll.Exception
import HandS.Text
import HandS.HotCalls
import HandS.ExcIs
import HandS.Words
import HandS.HeadHook2
import KE.KStateDown
import HandS.Ends
import HandS.Head0
import HandS.Head1
import HandS.Head2
import HandS.HeadEnd
import HandS.HeadHook1
import HandS.SetFor
import HandS.TupSets
import HandS.TryOnly
import PyProof.AutoSeq1
import HandS.Strs
import KE.SortData
import KE.DataMinMax
import HandS.DictComp
import PySem.Challenge.RW_knavesasked_k22_whole_facts_told_by_seve
set_option Elab.async false
set_option linter.all false
set_option maxRecDepth 100000
set_option maxHeartbeats 4000000
namespace DL
open PySem PySem.Spec PyProof.Rows L2

inductive D where
  | non | bl (b : Bool) | int (i : Int) | str (s : Str) | lst (xs : List D) | tup (xs : List D) | dct (tk : Bool) (kvs : List (D × D)) | fn (n : Str) | scr (xs : List D) | ktup (xs : List D) | adr (a : Addr)
  deriving Inhabited

def keyD : Key → D
  | .inl i => .int i
  | .inr s => .str s

abbrev Fg := PySem.W.Frag
abbrev MG := Str → Option Value

mutual
inductive Rep (K : Fg) (mg : MG) (B : Hp) : V → D → Prop
  | non : Rep K mg B .non .non
  | bl (b : Bool) : Rep K mg B (.bl b) (.bl b)
  | int (i : Int) : Rep K mg B (.int i) (.int i)
  | str (s : Str) : Rep K mg B (.str s) (.str s)
  | lst {a : Addr} {vs : List V} {ds : List D} : B a = some (.lst vs) → RepL K mg B vs ds → Rep K mg B (.ref a) (.lst ds)
  | scr {a : Addr} {vs : List V} {ds : List D} : SqL K B a vs → RepL K mg B vs ds → Rep K mg B (.ref a) (.scr ds)
  | tup {a : Addr} {vs : List V} {ds : List D} : B a = some (.tup vs) → RepL K mg B vs ds → Rep K mg B (.ref a) (.tup ds)
  | ktup {a : Addr} {vs : List V} {ds : List D} : SqT K B a vs → RepL K mg B vs ds → Rep K mg B (.ref a) (.ktup ds)
  | dctK {a : Addr} {kvs : List (Key × V)} {es : List (D × D)} : B a = some (.dK kvs) → RepK K mg B kvs es → Rep K mg B (.ref a) (.dct false es)
  | dctT {a : Addr} {kvs : List (List Key × V)} {es : List (D × D)} : B a = some (.dT kvs) → RepT K mg B kvs es → Rep K mg B (.ref a) (.dct true es)
  | fn {n : Str} {a : Addr} : mg n = some (.ref a) → Rep K mg B (.ref a) (.fn n)
  | adr {a : Addr} : Rep K mg B (.ref a) (.adr a)
inductive RepL (K : Fg) (mg : MG) (B : Hp) : List V → List D → Prop
  | nil : RepL K mg B [] []
  | cons {v : V} {d : D} {vs : List V} {ds : List D} : Rep K mg B v d → RepL K mg B vs ds → RepL K mg B (v :: vs) (d :: ds)
inductive RepK (K : Fg) (mg : MG) (B : Hp) : List (Key × V) → List (D × D) → Prop
  | nil : RepK K mg B [] []
  | cons {k : Key} {v : V} {d : D} {vs : List (Key × V)} {ds : List (D × D)} : Rep K mg B v d → RepK K mg B vs ds → RepK K mg B ((k, v) :: vs) ((keyD k, d) :: ds)
inductive RepT (K : Fg) (mg : MG) (B : Hp) : List (List Key × V) → List (D × D) → Prop
  | nil : RepT K mg B [] []
  | cons {k : List Key} {v : V} {d : D} {vs : List (List Key × V)} {ds : List (D × D)} : Rep K mg B v d → RepT K mg B vs ds → RepT K mg B ((k, v) :: vs) ((.tup (k.map keyD), d) :: ds)
end

def Sub (B H : Hp) : Prop := ∀ a o, B a = some o → H a = some o
theorem Sub.rfl' {B : Hp} : Sub B B := fun _ _ h => h
theorem Sub.trans {A B C : Hp} (h : Sub A B) (k : Sub B C) : Sub A C := fun a o e => k a o (h a o e)
theorem Sub.upd {H : Hp} {p : Addr} {o : HO} (h : H p = none) : Sub H (upd H p o) := fun a x e => by
  rw [upd_ne (ne_of_none e h)]; exact e
theorem sql_mono {K : Fg} {B B' : Hp} (s : Sub B B') {a : Addr} {xs : List V} (h : SqL K B a xs) : SqL K B' a xs := by
  rcases h with (h | ⟨o, h⟩) | h
  · exact .inl (.inl (s _ _ h))
  · exact .inl (.inr ⟨o, s _ _ h⟩)
  · exact .inr h
theorem sqt_mono {K : Fg} {B B' : Hp} (s : Sub B B') {a : Addr} {xs : List V} (h : SqT K B a xs) : SqT K B' a xs := by
  rcases h with (h | ⟨o, h⟩) | h
  · exact .inl (.inl (s _ _ h))
  · exact .inl (.inr ⟨o, s _ _ h⟩)
  · exact .inr h

section
variable {K : Fg} {mg : MG} {B B' : Hp}
mutual
theorem Rep.mono (s : Sub B B') : ∀ {v : V} {d : D}, Rep K mg B v d → Rep K mg B' v d
  | _, _, .non => .non
  | _, _, .bl b => .bl b
  | _, _, .int i => .int i
  | _, _, .str x => .str x
  | _, _, .lst h r => .lst (s _ _ h) (r.mono s)
  | _, _, .scr h r => .scr (sql_mono s h) (r.mono s)
  | _, _, .tup h r => .tup (s _ _ h) (r.mono s)
  | _, _, .ktup h r => .ktup (sqt_mono s h) (r.mono s)
  | _, _, .dctK h r => .dctK (s _ _ h) (r.mono s)
  | _, _, .dctT h r => .dctT (s _ _ h) (r.mono s)
  | _, _, .fn h => .fn h
  | _, _, .adr => .adr
theorem RepL.mono (s : Sub B B') : ∀ {v : List V} {d : List D}, RepL K mg B v d → RepL K mg B' v d
  | _, _, .nil => .nil
  | _, _, .cons h r => .cons (h.mono s) (r.mono s)
theorem RepK.mono (s : Sub B B') : ∀ {v : List (Key × V)} {d : List (D × D)}, RepK K mg B v d → RepK K mg B' v d
  | _, _, .nil => .nil
  | _, _, .cons h r => .cons (h.mono s) (r.mono s)
theorem RepT.mono (s : Sub B B') : ∀ {v : List (List Key × V)} {d : List (D × D)}, RepT K mg B v d → RepT K mg B' v d
  | _, _, .nil => .nil
  | _, _, .cons h r => .cons (h.mono s) (r.mono s)
end
theorem RepL.length {vs : List V} {ds : List D} : RepL K mg B vs ds → vs.length = ds.length := by
  induction ds generalizing vs with
  | nil => intro h; cases h; rfl
  | cons d ds ih => intro h; cases h with | cons _ r => simp [ih r]
theorem RepL.get {vs : List V} {ds : List D} {i : Nat} {d : D} (h : RepL K mg B vs ds) (e : ds[i]? = some d) : ∃ v, vs[i]? = some v ∧ Rep K mg B v d := by
  induction ds generalizing vs i with
  | nil => simp at e
  | cons x ds ih =>
    cases h with
    | cons r rr =>
      cases i with
      | zero => simp at e; subst e; exact ⟨_, rfl, r⟩
      | succ i => simpa using ih rr (by simpa using e)
theorem RepL.get' {vs : List V} {ds : List D} {i : Nat} {v : V} (h : RepL K mg B vs ds) (e : vs[i]? = some v) : ∃ d, ds[i]? = some d ∧ Rep K mg B v d := by
  induction ds generalizing vs i with
  | nil => cases h; simp at e
  | cons x ds ih =>
    cases h with
    | cons r rr =>
      cases i with
      | zero => simp at e; subst e; exact ⟨_, rfl, r⟩
      | succ i => simpa using ih rr (by simpa using e)
theorem RepL.append {vs ws : List V} {ds es : List D} (h : RepL K mg B vs ds) (k : RepL K mg B ws es) : RepL K mg B (vs ++ ws) (ds ++ es) := by
  induction ds generalizing vs with
  | nil => cases h; exact k
  | cons d ds ih => cases h with | cons r rr => exact .cons r (ih rr)
theorem RepL.one {v : V} {d : D} (h : Rep K mg B v d) : RepL K mg B [v] [d] := .cons h .nil
theorem RepL.reverse {vs : List V} {ds : List D} (h : RepL K mg B vs ds) : RepL K mg B vs.reverse ds.reverse := by
  induction ds generalizing vs with
  | nil => cases h; exact .nil
  | cons d ds ih => cases h with | cons r rr => rw [List.reverse_cons, List.reverse_cons]; exact (ih rr).append (.one r)
theorem RepL.take {vs : List V} {ds : List D} (h : RepL K mg B vs ds) (n : Nat) : RepL K mg B (vs.take n) (ds.take n) := by
  induction ds generalizing vs n with
  | nil => cases h; simp; exact .nil
  | cons d ds ih => cases h with | cons r rr => cases n with | zero => exact .nil | succ n => exact .cons r (ih rr n)
theorem RepL.drop {vs : List V} {ds : List D} (h : RepL K mg B vs ds) (n : Nat) : RepL K mg B (vs.drop n) (ds.drop n) := by
  induction ds generalizing vs n with
  | nil => cases h; simp; exact .nil
  | cons d ds ih => cases h with | cons r rr => cases n with | zero => exact .cons r rr | succ n => exact ih rr n
theorem RepL.set {vs : List V} {ds : List D} {v : V} {d : D} (h : RepL K mg B vs ds) (r : Rep K mg B v d) (i : Nat) : RepL K mg B (vs.set i v) (ds.set i d) := by
  induction ds generalizing vs i with
  | nil => cases h; simp; exact .nil
  | cons d ds ih => cases h with | cons q rr => cases i with | zero => exact .cons r rr | succ n => exact .cons q (ih rr n)
theorem RepL.map {α : Type} {f : α → V} {g : α → D} (xs : List α) (h : ∀ x, Rep K mg B (f x) (g x)) : RepL K mg B (xs.map f) (xs.map g) := by
  induction xs with
  | nil => exact .nil
  | cons x xs ih => exact .cons (h x) ih
end

/-- what stands at an owned address: the object in H, what is in it by B -/
def Con (K : Fg) (mg : MG) (H B : Hp) (a : Addr) : D → Prop
  | .lst ds => ∃ vs, H a = some (.lst vs) ∧ RepL K mg B vs ds
  | .dct false es => ∃ kvs, H a = some (.dK kvs) ∧ RepK K mg B kvs es
  | .dct true es => ∃ kvs, H a = some (.dT kvs) ∧ RepT K mg B kvs es
  | _ => False
theorem Con.there {K : Fg} {mg : MG} {H B : Hp} {a : Addr} {d : D} (h : Con K mg H B a d) : ∃ o, H a = some o := by
  cases d with
  | lst ds => obtain ⟨vs, h, _⟩ := h; exact ⟨_, h⟩
  | dct t es => cases t <;> (obtain ⟨k, h, _⟩ := h; exact ⟨_, h⟩)
  | _ => exact h.elim
theorem Con.mono {K : Fg} {mg : MG} {H H' B B' : Hp} {a : Addr} {d : D} (h : Con K mg H B a d) (e : ∀ o, H a = some o → H' a = some o) (s : Sub B B') : Con K mg H' B' a d := by
  cases d with
  | lst ds => obtain ⟨vs, h, r⟩ := h; exact ⟨vs, e _ h, r.mono s⟩
  | dct t es => cases t <;> (obtain ⟨k, h, r⟩ := h; exact ⟨k, e _ h, r.mono s⟩)
  | _ => exact h.elim
/-- frozen: its object put into the base -/
theorem Con.frozen {K : Fg} {mg : MG} {H B : Hp} {a : Addr} {d : D} (h : Con K mg H B a d) (n : B a = none) : ∃ o, H a = some o ∧ Rep K mg (upd B a o) (.ref a) d := by
  cases d with
  | lst ds => obtain ⟨vs, h, r⟩ := h; exact ⟨_, h, .lst upd_same (r.mono (Sub.upd n))⟩
  | dct t es =>
    cases t
    · obtain ⟨k, h, r⟩ := h; exact ⟨_, h, .dctK upd_same (r.mono (Sub.upd n))⟩
    · obtain ⟨k, h, r⟩ := h; exact ⟨_, h, .dctT upd_same (r.mono (Sub.upd n))⟩
  | _ => exact h.elim

inductive Slot where
  | un | sh (d : D) | ow (d : D) | io (d : D)
  deriving Inhabited
abbrev Env := List Slot

/-- a run of a def: the heap and the base at its entry, the place and the address of the argument that it may change -/
structure FP where
  H0 : Hp
  B0 : Hp
  io : Option (Nat × Addr)

def OwnAt (σ : L2.St) (env : Env) (i : Nat) (a : Addr) : Prop := σ[i]? = some (some (.ref a)) ∧ ∃ d, env[i]? = some (.ow d) ∨ env[i]? = some (.io d)
def Owned (σ : L2.St) (env : Env) (a : Addr) : Prop := ∃ i, OwnAt σ env i a

structure ER (K : Fg) (mg : MG) (p : FP) (H B : Hp) (σ : L2.St) (env : Env) : Prop where
  sub : Sub B H
  b0 : Sub p.B0 B
  new : ∀ a o, B a = some o → p.B0 a = some o ∨ p.H0 a = none
  frm : ∀ a o, p.H0 a = some o → (∀ i, p.io ≠ some (i, a)) → H a = some o
  iod : ∀ i a, p.io = some (i, a) → H a ≠ none
  len : σ.length = env.length
  sh : ∀ (i : Nat) d, env[i]? = some (.sh d) → ∃ v, σ[i]? = some (some v) ∧ Rep K mg B v d
  ow : ∀ (i : Nat) d, env[i]? = some (.ow d) → ∃ a, σ[i]? = some (some (.ref a)) ∧ Con K mg H B a d ∧ B a = none ∧ p.H0 a = none
  ioo : ∀ (i : Nat) d, env[i]? = some (.io d) → ∃ a, p.io = some (i, a) ∧ σ[i]? = some (some (.ref a)) ∧ Con K mg H B a d ∧ B a = none
  dis : ∀ (i j : Nat) a, OwnAt σ env i a → OwnAt σ env j a → i = j

/-- what an expression leaves -/
structure Fx (σ : L2.St) (env : Env) (H B H' B' : Hp) (env' : Env) : Prop where
  keep : ∀ a o, H a = some o → ¬ Owned σ env a → H' a = some o
  dom : ∀ a, H a ≠ none → H' a ≠ none
  base : Sub B B'
  new : ∀ a o, B' a = some o → B a = some o ∨ H a = none ∨ Owned σ env a
  own : ∀ a, Owned σ env' a → Owned σ env a

section
variable {K : Fg} {mg : MG} {p : FP} {H B H' B' H2 B2 : Hp} {σ : L2.St} {env env' env2 : Env}
theorem Fx.rfl' : Fx σ env H B H B env := ⟨fun _ _ h _ => h, fun _ h => h, Sub.rfl', fun _ _ h => .inl h, fun _ h => h⟩
theorem Fx.trans (f : Fx σ env H B H' B' env') (g : Fx σ env' H' B' H2 B2 env2) : Fx σ env H B H2 B2 env2 :=
  ⟨fun a o h n => g.keep a o (f.keep a o h n) fun q => n (f.own a q), fun a h => g.dom a (f.dom a h), f.base.trans g.base,
   fun a o h => by
    rcases g.new a o h with h | h | h
    · exact f.new a o h
    · refine .inr (.inl ?_)
      cases e : H a with
      | none => rfl
      | some x => exact absurd h (f.dom a (by rw [e]; simp))
    · exact .inr (.inr (f.own a h)), fun a h => f.own a (g.own a h)⟩
theorem ER.there (E : ER K mg p H B σ env) {a : Addr} (h : Owned σ env a) : ∃ o, H a = some o := by
  obtain ⟨i, e, d, h | h⟩ := h
  · obtain ⟨a', e', c, _⟩ := E.ow i d h
    rw [e] at e'; cases e'; exact c.there
  · obtain ⟨a', _, e', c, _⟩ := E.ioo i d h
    rw [e] at e'; cases e'; exact c.there
theorem ER.offB (E : ER K mg p H B σ env) {a : Addr} (h : Owned σ env a) : B a = none := by
  obtain ⟨i, e, d, h | h⟩ := h
  · obtain ⟨a', e', c, n, _⟩ := E.ow i d h
    rw [e] at e'; cases e'; exact n
  · obtain ⟨a', _, e', c, n⟩ := E.ioo i d h
    rw [e] at e'; cases e'; exact n

/-- new objects, perhaps into the base; nothing else -/
structure Ext (H B H' B' : Hp) : Prop where
  keep : Sub H H'
  base : Sub B B'
  sub : Sub B' H'
  new : ∀ a o, B' a = some o → B a = some o ∨ H a = none
theorem Ext.rfl' (s : Sub B H) : Ext H B H B := ⟨Sub.rfl', Sub.rfl', s, fun _ _ h => .inl h⟩
theorem Ext.trans (f : Ext H B H' B') (g : Ext H' B' H2 B2) : Ext H B H2 B2 := ⟨f.keep.trans g.keep, f.base.trans g.base, g.sub, fun a o h => by
  rcases g.new a o h with h | h
  · exact f.new a o h
  · refine .inr ?_
    cases e : H a with
    | none => rfl
    | some x => rw [f.keep a x e] at h; cases h⟩
/-- a new object, into the base -/
theorem Ext.newB (s : Sub B H) {q : Addr} {o : HO} (n : H q = none) : Ext H B (upd H q o) (upd B q o) := by
  have nb : B q = none := by
    cases e : B q with
    | none => rfl
    | some x => rw [s q x e] at n; cases n
  refine ⟨Sub.upd n, Sub.upd nb, fun a x h => ?_, fun a x h => ?_⟩
  · by_cases ha : a = q
    · subst ha; rw [upd_same] at h ⊢; exact h
    · rw [upd_ne ha] at h ⊢; exact s a x h
  · by_cases ha : a = q
    · subst ha; exact .inr n
    · rw [upd_ne ha] at h; exact .inl h
/-- a new object, not in the base -/
theorem Ext.newH (s : Sub B H) {q : Addr} {o : HO} (n : H q = none) : Ext H B (upd H q o) B :=
  ⟨Sub.upd n, Sub.rfl', s.trans (Sub.upd n), fun _ _ h => .inl h⟩
theorem none_of_sub (s : Sub B H) {q : Addr} (n : H q = none) : B q = none := by
  cases e : B q with
  | none => rfl
  | some x => rw [s q x e] at n; cases n
theorem ER.ext (E : ER K mg p H B σ env) (x : Ext H B H' B') : ER K mg p H' B' σ env where
  sub := x.sub
  b0 := E.b0.trans x.base
  new := fun a o h => by
    rcases x.new a o h with h | h
    · exact E.new a o h
    · refine .inr ?_
      cases e : p.H0 a with
      | none => rfl
      | some u =>
        by_cases hi : ∀ i, p.io ≠ some (i, a)
        · rw [E.frm a u e hi] at h; cases h
        · have hi := Classical.not_forall.mp hi
          obtain ⟨i, hi⟩ := hi
          exact absurd h (E.iod i a (Classical.not_not.mp hi))
  frm := fun a o h hi => x.keep a o (E.frm a o h hi)
  iod := fun i a h => by
    have := E.iod i a h
    cases e : H a with
    | none => exact absurd e this
    | some u => rw [x.keep a u e]; simp
  len := E.len
  sh := fun i d h => let ⟨v, e, r⟩ := E.sh i d h; ⟨v, e, r.mono x.base⟩
  ow := fun i d h => by
    obtain ⟨a, e, c, n, z⟩ := E.ow i d h
    refine ⟨a, e, c.mono (fun o h => x.keep a o h) x.base, ?_, z⟩
    obtain ⟨o, ho⟩ := c.there
    cases q : B' a with
    | none => rfl
    | some u =>
      rcases x.new a u q with q | q
      · rw [n] at q; cases q
      · rw [ho] at q; cases q
  ioo := fun i d h => by
    obtain ⟨a, e0, e, c, n⟩ := E.ioo i d h
    refine ⟨a, e0, e, c.mono (fun o h => x.keep a o h) x.base, ?_⟩
    obtain ⟨o, ho⟩ := c.there
    cases q : B' a with
    | none => rfl
    | some u =>
      rcases x.new a u q with q | q
      · rw [n] at q; cases q
      · rw [ho] at q; cases q
  dis := E.dis
theorem Ext.fx (x : Ext H B H' B') : Fx σ env H B H' B' env where
  keep := fun a o h _ => x.keep a o h
  dom := fun a h => by
    cases e : H a with
    | none => exact absurd e h
    | some u => rw [x.keep a u e]; simp
  base := x.base
  new := fun a o h => (x.new a o h).elim .inl fun h => .inr (.inl h)
  own := fun _ h => h

/-- what a value is: fresh (its object is new since H, and nobody's), or by the base -/
def Res (K : Fg) (mg : MG) (H H' B' : Hp) : Bool → V → D → Prop
  | false, v, d => Rep K mg B' v d
  | true, v, d => ∃ a, v = .ref a ∧ Con K mg H' B' a d ∧ B' a = none ∧ H a = none
theorem Res.back {m : Bool} {v : V} {d : D} {H1 : Hp} (r : Res K mg H1 H' B' m v d) (h : ∀ a, H a ≠ none → H1 a ≠ none) : Res K mg H H' B' m v d := by
  cases m with
  | false => exact r
  | true =>
    obtain ⟨a, e, c, n, z⟩ := r
    refine ⟨a, e, c, n, ?_⟩
    cases q : H a with
    | none => rfl
    | some u => exact absurd z (h a (by rw [q]; simp))

/-- the base grows by an object that stands in H and that nobody owns -/
theorem ER.grow (E : ER K mg p H B σ env) {a : Addr} {o : HO} (h : H a = some o) (n : B a = none) (z : p.H0 a = none) (no : ¬ Owned σ env a) : ER K mg p H (upd B a o) σ env where
  sub := fun b x e => by
    by_cases hb : b = a
    · subst hb; rw [upd_same] at e; cases e; exact h
    · rw [upd_ne hb] at e; exact E.sub b x e
  b0 := E.b0.trans (Sub.upd n)
  new := fun b x e => by
    by_cases hb : b = a
    · subst hb; exact .inr z
    · rw [upd_ne hb] at e; exact E.new b x e
  frm := E.frm
  iod := E.iod
  len := E.len
  sh := fun i d h => let ⟨v, e, r⟩ := E.sh i d h; ⟨v, e, r.mono (Sub.upd n)⟩
  ow := fun i d h => by
    obtain ⟨b, e, c, n', z⟩ := E.ow i d h
    have hb : b ≠ a := fun q => no ⟨i, by rw [← q]; exact e, d, .inl h⟩
    exact ⟨b, e, c.mono (fun _ h => h) (Sub.upd n), by rw [upd_ne hb]; exact n', z⟩
  ioo := fun i d h => by
    obtain ⟨b, e0, e, c, n'⟩ := E.ioo i d h
    have hb : b ≠ a := fun q => no ⟨i, by rw [← q]; exact e, d, .inr h⟩
    exact ⟨b, e0, e, c.mono (fun _ h => h) (Sub.upd n), by rw [upd_ne hb]; exact n'⟩
  dis := E.dis
theorem ER.h0 (E : ER K mg p H B σ env) {a : Addr} (n : H a = none) : p.H0 a = none := by
  cases e : p.H0 a with
  | none => rfl
  | some u =>
    by_cases hi : ∀ i, p.io ≠ some (i, a)
    · rw [E.frm a u e hi] at n; cases n
    · have hi := Classical.not_forall.mp hi
      obtain ⟨i, hi⟩ := hi
      exact absurd n (E.iod i a (Classical.not_not.mp hi))
/-- a fresh value is frozen -/
theorem freeze (E0 : ER K mg p H B σ env) (E : ER K mg p H' B' σ env') (F : Fx σ env H B H' B' env') {m : Bool} {v : V} {d : D} (r : Res K mg H H' B' m v d) :
    ∃ B'', ER K mg p H' B'' σ env' ∧ Fx σ env H B H' B'' env' ∧ Rep K mg B'' v d ∧ Sub B' B'' := by
  cases m with
  | false => exact ⟨B', E, F, r, Sub.rfl'⟩
  | true =>
    obtain ⟨a, rfl, c, n, z⟩ := r
    obtain ⟨o, ho, r⟩ := c.frozen n
    have no : ¬ Owned σ env' a := fun q => by
      obtain ⟨x, hx⟩ := E0.there (F.own a q)
      rw [z] at hx; cases hx
    refine ⟨upd B' a o, E.grow ho n (E0.h0 z) no, ⟨F.keep, F.dom, F.base.trans (Sub.upd n), fun b x e => ?_, F.own⟩, r, Sub.upd n⟩
    by_cases hb : b = a
    · subst hb; exact .inr (.inl z)
    · rw [upd_ne hb] at e; exact F.new b x e
end

inductive R (α : Type) where
  | ok (a : α) | exc (c : Str) | stuck
  deriving Inhabited
def R.bind {α β : Type} (r : R α) (f : α → R β) : R β := match r with
  | .ok a => f a
  | .exc c => .exc c
  | .stuck => .stuck
theorem nr {α : Sort _} {a b : α} (h : a = b) : a = b := h
@[simp] theorem R.bind_ok {α β : Type} (a : α) (f : α → R β) : (R.ok a).bind f = f a := nr rfl
@[simp] theorem R.bind_exc {α β : Type} (c : Str) (f : α → R β) : (R.exc c : R α).bind f = .exc c := nr rfl
@[simp] theorem R.bind_stuck {α β : Type} (f : α → R β) : (R.stuck : R α).bind f = .stuck := nr rfl
def R.of {α : Type} : Option α → R α
  | some a => .ok a
  | none => .stuck
@[simp] theorem R.of_some {α : Type} (a : α) : R.of (some a) = .ok a := nr rfl
@[simp] theorem R.of_none {α : Type} : R.of (none : Option α) = .stuck := nr rfl
/-- what an exception wants: its class by name, the heap behind it -/
abbrev Wx := Str → Hp → Prop
/-- the heap at the entry, but for the changed argument, stands -/
def Frm (p : FP) (H' : Hp) : Prop := ∀ a o, p.H0 a = some o → (∀ i, p.io ≠ some (i, a)) → H' a = some o
/-- the end of an evaluation: G at the value, the exceptions' wish -/
def Goes {α : Type} (p : FP) (W : Wx) (r : R α) (G : α → Prop) : Prop := match r with
  | .ok a => G a
  | .exc c => ∀ H', Frm p H' → W c H'
  | .stuck => False
theorem Goes.imp {α : Type} {p : FP} {W : Wx} {r : R α} {G G' : α → Prop} (h : Goes p W r G) (f : ∀ a, G a → G' a) : Goes p W r G' := by
  cases r with
  | ok a => exact f a h
  | exc c => exact h
  | stuck => exact h
theorem Goes.bind {α β : Type} {p : FP} {W : Wx} {r : R α} {f : α → R β} {G : β → Prop} (h : Goes p W (r.bind f) G) : Goes p W r fun a => Goes p W (f a) G := by
  cases r with
  | ok a => exact h
  | exc c => exact h
  | stuck => exact h
end DL

set_option Elab.async false
set_option linter.all false
set_option maxRecDepth 100000
set_option maxHeartbeats 4000000
namespace DL
open PySem PySem.Spec PyProof.Rows L2

/-- an operand: a value, or a name's slot (read when the operation is done) -/
inductive Op where
  | val (d : D) | slot (i : Nat)
def rd (env : Env) : Op → Option D
  | .val d => some d
  | .slot i => match env[i]? with
    | some (.sh d) => some d
    | some (.ow d) => some d
    | some (.io d) => some d
    | _ => none
abbrev CE := Env → R (Bool × D × Env)
abbrev CB := Env → R (Op × Env)
abbrev CA := Env → R (List Op × Env)
abbrev CT := Env → R (Bool × Env)

def OpV (K : Fg) (mg : MG) (σ : L2.St) (B : Hp) (v : V) : Op → Prop
  | .val d => Rep K mg B v d
  | .slot i => σ[i]? = some (some v)
inductive OpL (K : Fg) (mg : MG) (σ : L2.St) (B : Hp) : List V → List Op → Prop
  | nil : OpL K mg σ B [] []
  | cons {v : V} {o : Op} {vs : List V} {os : List Op} : OpV K mg σ B v o → OpL K mg σ B vs os → OpL K mg σ B (v :: vs) (o :: os)
theorem OpV.mono {K : Fg} {mg : MG} {σ : L2.St} {B B' : Hp} {v : V} {o : Op} (h : OpV K mg σ B v o) (s : Sub B B') : OpV K mg σ B' v o := by
  cases o with
  | val d => exact Rep.mono s h
  | slot i => exact h
theorem OpL.mono {K : Fg} {mg : MG} {σ : L2.St} {B B' : Hp} (s : Sub B B') : ∀ {vs : List V} {os : List Op}, OpL K mg σ B vs os → OpL K mg σ B' vs os
  | _, _, .nil => .nil
  | _, _, .cons h r => .cons (h.mono s) (r.mono s)

/-- the thing itself by H, what is in it by B -/
def Rep1 (K : Fg) (mg : MG) (H B : Hp) (v : V) (d : D) : Prop := Rep K mg B v d ∨ ∃ a, v = .ref a ∧ Con K mg H B a d
inductive Rep1L (K : Fg) (mg : MG) (H B : Hp) : List V → List D → Prop
  | nil : Rep1L K mg H B [] []
  | cons {v : V} {d : D} {vs : List V} {ds : List D} : Rep1 K mg H B v d → Rep1L K mg H B vs ds → Rep1L K mg H B (v :: vs) (d :: ds)

theorem rd_slot {env : Env} {i : Nat} {d : D} (h : rd env (.slot i) = some d) : env[i]? = some (.sh d) ∨ env[i]? = some (.ow d) ∨ env[i]? = some (.io d) := by
  unfold rd at h
  dsimp only at h
  split at h
  · rename_i x e; cases h; exact .inl e
  · rename_i x e; cases h; exact .inr (.inl e)
  · rename_i x e; cases h; exact .inr (.inr e)
  · cases h
section
variable {K : Fg} {mg : MG} {p : FP} {H B : Hp} {σ : L2.St} {env : Env}
theorem ER.rep1 (E : ER K mg p H B σ env) {v : V} {o : Op} {d : D} (r : OpV K mg σ B v o) (h : rd env o = some d) : Rep1 K mg H B v d := by
  cases o with
  | val d' => cases h; exact .inl r
  | slot i =>
    have r : σ[i]? = some (some v) := r
    rcases rd_slot h with h | h | h
    · obtain ⟨u, e, q⟩ := E.sh i d h
      rw [r] at e; cases e; exact .inl q
    · obtain ⟨a, e, c, _⟩ := E.ow i d h
      rw [r] at e; cases e; exact .inr ⟨a, rfl, c⟩
    · obtain ⟨a, _, e, c, _⟩ := E.ioo i d h
      rw [r] at e; cases e; exact .inr ⟨a, rfl, c⟩
def rdL (env : Env) : List Op → Option (List D)
  | [] => some []
  | o :: os => match rd env o, rdL env os with
    | some d, some ds => some (d :: ds)
    | _, _ => none
theorem ER.rep1L (E : ER K mg p H B σ env) : ∀ {vs : List V} {os : List Op} {ds : List D}, OpL K mg σ B vs os → rdL env os = some ds → Rep1L K mg H B vs ds
  | _, _, _, .nil, h => by cases h; exact .nil
  | _, _, _, .cons (o := o) (os := os) r rr, h => by
    unfold rdL at h
    cases q : rd env o with
    | none => rw [q] at h; cases h
    | some d =>
      cases q2 : rdL env os with
      | none => rw [q, q2] at h; cases h
      | some ds => rw [q, q2] at h; cases h; exact .cons (E.rep1 r q) (E.rep1L rr q2)
end

section
variable (X : Cx) (p : FP) (W : Wx)
def tX (f : CE) : TE := fun σ H Q => ∃ env B, ER X.K X.mg p H B σ env ∧ Goes p W (f env) fun r =>
  ∀ v H' B', ER X.K X.mg p H' B' σ r.2.2 → Fx σ env H B H' B' r.2.2 → Res X.K X.mg H H' B' r.1 v r.2.1 → Q v H'
def tB (f : CB) : TE := fun σ H Q => ∃ env B, ER X.K X.mg p H B σ env ∧ Goes p W (f env) fun r =>
  ∀ v H' B', ER X.K X.mg p H' B' σ r.2 → Fx σ env H B H' B' r.2 → OpV X.K X.mg σ B' v r.1 → Q v H'
def tA (f : CA) : TA := fun σ H Q => ∃ env B, ER X.K X.mg p H B σ env ∧ Goes p W (f env) fun r =>
  ∀ vs H' B', ER X.K X.mg p H' B' σ r.2 → Fx σ env H B H' B' r.2 → OpL X.K X.mg σ B' vs r.1 → Q vs H'
def tT (f : CT) : TT := fun σ H Q => ∃ env B, ER X.K X.mg p H B σ env ∧ Goes p W (f env) fun r =>
  ∀ H' B', ER X.K X.mg p H' B' σ r.2 → Fx σ env H B H' B' r.2 → Q r.1 H'
abbrev DE (e : Expr) (f : CE) : Prop := PE X e (tX X p W f)
abbrev DB (e : Expr) (f : CB) : Prop := PE X e (tB X p W f)
abbrev DA (es : List Expr) (f : CA) : Prop := PA X es (tA X p W f)
abbrev DT (e : Expr) (f : CT) : Prop := PT X e (tT X p W f)
abbrev DW (e : Expr) (f : CT) : Prop := PW X e (tT X p W f)
end

abbrev Kk := V → Hp → VK → Prop
def VR1 (K : Fg) (mg : MG) (r : Kk) (f : D → Option (Bool × D)) : Prop :=
  ∀ a m d, f a = some (m, d) → ∀ x H B Q, Sub B H → Rep1 K mg H B x a → (∀ v H' B', Ext H B H' B' → Res K mg H H' B' m v d → Q v H') → r x H Q
def VR2 (K : Fg) (mg : MG) (r : R2) (f : D → D → Option (Bool × D)) : Prop :=
  ∀ a b m d, f a b = some (m, d) → ∀ x y H B Q, Sub B H → Rep1 K mg H B x a → Rep1 K mg H B y b → (∀ v H' B', Ext H B H' B' → Res K mg H H' B' m v d → Q v H') → r x y H Q
def VRn (K : Fg) (mg : MG) (r : List V → Hp → VK → Prop) (f : List D → Option (Bool × D)) : Prop :=
  ∀ ds m d, f ds = some (m, d) → ∀ vs H B Q, Sub B H → Rep1L K mg H B vs ds → (∀ v H' B', Ext H B H' B' → Res K mg H H' B' m v d → Q v H') → r vs H Q

def app1 (f : D → Option (Bool × D)) (o : Op) (env : Env) : R (Bool × D × Env) :=
  match rd env o with
  | some a => (R.of (f a)).bind fun r => .ok (r.1, r.2, env)
  | none => .stuck
def app2 (f : D → D → Option (Bool × D)) (o1 o2 : Op) (env : Env) : R (Bool × D × Env) :=
  match rd env o1, rd env o2 with
  | some a, some b => (R.of (f a b)).bind fun r => .ok (r.1, r.2, env)
  | _, _ => .stuck
def appN (f : List D → Option (Bool × D)) (os : List Op) (env : Env) : R (Bool × D × Env) :=
  match rdL env os with
  | some ds => (R.of (f ds)).bind fun r => .ok (r.1, r.2, env)
  | none => .stuck
/-- operations of one, two, many operands -/
def c1 (f : D → Option (Bool × D)) (a : CB) : CE := fun env => (a env).bind fun r => app1 f r.1 r.2
def c2 (f : D → D → Option (Bool × D)) (a b : CB) : CE := fun env => (a env).bind fun r => (b r.2).bind fun q => app2 f r.1 q.1 q.2
def cN (f : List D → Option (Bool × D)) (as : CA) : CE := fun env => (as env).bind fun r => appN f r.1 r.2

section
variable {X : Cx} {p : FP} {W : Wx}
theorem pe_imp {e : Expr} {t t' : TE} (h : PE X e t) (i : ∀ σ H Q, t' σ H Q → t σ H Q) : PE X e t' := ⟨fun pins s σ H Q I q => h.run pins s σ H Q I (i σ H Q q)⟩
theorem pt_imp {e : Expr} {t t' : TT} (h : PT X e t) (i : ∀ σ H Q, t' σ H Q → t σ H Q) : PT X e t' := ⟨fun pins s σ H Q I q => h.run pins s σ H Q I (i σ H Q q)⟩
theorem pw_imp {e : Expr} {t t' : TT} (h : PW X e t) (i : ∀ σ H Q, t' σ H Q → t σ H Q) : PW X e t' := ⟨fun w pins s σ H Q I q => h.run w pins s σ H Q I (i σ H Q q)⟩
theorem pa_imp {es : List Expr} {t t' : TA} (h : PA X es t) (i : ∀ σ H Q, t' σ H Q → t σ H Q) : PA X es t' := ⟨fun pos pins s σ H Q I q => h.run pos pins s σ H Q I (i σ H Q q)⟩

theorem app1_goes {f : D → Option (Bool × D)} {r : Kk} (hv : VR1 X.K X.mg r f) {o : Op} {σ : L2.St} {env : Env} {H B : Hp} {G : Bool × D × Env → Prop} {x : V} {Q : VK} (E : ER X.K X.mg p H B σ env) (ro : OpV X.K X.mg σ B x o)
    (h : Goes p W (app1 f o env) G) (k : ∀ m d v H' B', G (m, d, env) → Ext H B H' B' → Res X.K X.mg H H' B' m v d → Q v H') : r x H Q := by
  unfold app1 at h
  cases q : rd env o with
  | none => rw [q] at h; exact h.elim
  | some a =>
    rw [q] at h
    cases q2 : f a with
    | none => simp only [q2] at h; exact h.elim
    | some md =>
      obtain ⟨m, d⟩ := md
      simp only [q2, R.of_some, R.bind_ok] at h
      exact hv a m d q2 x H B Q E.sub (E.rep1 ro q) fun v H' B' e z => k m d v H' B' h e z
theorem app2_goes {f : D → D → Option (Bool × D)} {r : R2} (hv : VR2 X.K X.mg r f) {o1 o2 : Op} {σ : L2.St} {env : Env} {H B : Hp} {G : Bool × D × Env → Prop} {x y : V} {Q : VK} (E : ER X.K X.mg p H B σ env) (r1 : OpV X.K X.mg σ B x o1) (r2 : OpV X.K X.mg σ B y o2)
    (h : Goes p W (app2 f o1 o2 env) G) (k : ∀ m d v H' B', G (m, d, env) → Ext H B H' B' → Res X.K X.mg H H' B' m v d → Q v H') : r x y H Q := by
  unfold app2 at h
  cases q : rd env o1 with
  | none => rw [q] at h; exact h.elim
  | some a =>
    cases q' : rd env o2 with
    | none => rw [q, q'] at h; exact h.elim
    | some b =>
      rw [q, q'] at h
      cases q2 : f a b with
      | none => simp only [q2] at h; exact h.elim
      | some md =>
        obtain ⟨m, d⟩ := md
        simp only [q2, R.of_some, R.bind_ok] at h
        exact hv a b m d q2 x y H B Q E.sub (E.rep1 r1 q) (E.rep1 r2 q') fun v H' B' e z => k m d v H' B' h e z
theorem appN_goes {f : List D → Option (Bool × D)} {r : List V → Hp → VK → Prop} (hv : VRn X.K X.mg r f) {os : List Op} {σ : L2.St} {env : Env} {H B : Hp} {G : Bool × D × Env → Prop} {xs : List V} {Q : VK} (E : ER X.K X.mg p H B σ env) (ro : OpL X.K X.mg σ B xs os)
    (h : Goes p W (appN f os env) G) (k : ∀ m d v H' B', G (m, d, env) → Ext H B H' B' → Res X.K X.mg H H' B' m v d → Q v H') : r xs H Q := by
  unfold appN at h
  cases q : rdL env os with
  | none => rw [q] at h; exact h.elim
  | some a =>
    rw [q] at h
    cases q2 : f a with
    | none => simp only [q2] at h; exact h.elim
    | some md =>
      obtain ⟨m, d⟩ := md
      simp only [q2, R.of_some, R.bind_ok] at h
      exact hv a m d q2 xs H B Q E.sub (E.rep1L ro q) fun v H' B' e z => k m d v H' B' h e z

theorem c1_ok {f : D → Option (Bool × D)} {r : Kk} {fa : CB} (hv : VR1 X.K X.mg r f) : ∀ σ H Q, tX X p W (c1 f fa) σ H Q → tUn r (tB X p W fa) σ H Q := by
  rintro σ H Q ⟨env, B, E, h⟩
  refine ⟨env, B, E, (Goes.bind h).imp ?_⟩
  rintro ⟨o, e1⟩ h v1 H1 B1 E1 F1 r1
  exact app1_goes hv E1 r1 h fun m d v H' B' g x z => g v H' B' (E1.ext x) (F1.trans x.fx) (z.back F1.dom)
theorem c2_ok {f : D → D → Option (Bool × D)} {r : R2} {fa fb : CB} (hv : VR2 X.K X.mg r f) : ∀ σ H Q, tX X p W (c2 f fa fb) σ H Q → tOp r (tB X p W fa) (tB X p W fb) σ H Q := by
  rintro σ H Q ⟨env, B, E, h⟩
  refine ⟨env, B, E, (Goes.bind h).imp ?_⟩
  rintro ⟨o, e1⟩ h v1 H1 B1 E1 F1 r1
  refine ⟨e1, B1, E1, (Goes.bind h).imp ?_⟩
  rintro ⟨o2, e2⟩ h v2 H2 B2 E2 F2 r2
  exact app2_goes hv E2 (r1.mono F2.base) r2 h fun m d v H' B' g x z => g v H' B' (E2.ext x) ((F1.trans F2).trans x.fx) (z.back (F1.trans F2).dom)
theorem cN_ok {f : List D → Option (Bool × D)} {r : List V → Hp → VK → Prop} {fa : CA} (hv : VRn X.K X.mg r f) : ∀ σ H Q, tX X p W (cN f fa) σ H Q → tCB r (tA X p W fa) σ H Q := by
  rintro σ H Q ⟨env, B, E, h⟩
  refine ⟨env, B, E, (Goes.bind h).imp ?_⟩
  rintro ⟨o, e1⟩ h v1 H1 B1 E1 F1 r1
  exact appN_goes hv E1 r1 h fun m d v H' B' g x z => g v H' B' (E1.ext x) (F1.trans x.fx) (z.back F1.dom)

def oVar (i : Nat) : CB := fun env => match env[i]? with
  | some (.sh _) => .ok (.slot i, env)
  | some (.ow _) => .ok (.slot i, env)
  | some (.io _) => .ok (.slot i, env)
  | _ => .stuck
/-- a name as a value: an owned thing is owned no more -/
def cVar (i : Nat) : CE := fun env => match env[i]? with
  | some (.sh d) => .ok (false, d, env)
  | some (.ow d) => .ok (false, d, env.set i (.sh d))
  | _ => .stuck
def cC (d : D) : CE := fun env => .ok (false, d, env)
def oVal (f : CE) : CB := fun env => (f env).bind fun r => .ok (.val r.2.1, r.2.2)

theorem db_var {i : Nat} {x : Str} {pos : Pos} (h : PE X (.Name x pos) (tVar i)) : DB X p W (.Name x pos) (oVar i) := by
  refine pe_imp h ?_
  rintro σ H Q ⟨env, B, E, h⟩
  have fin : ∀ v, σ[i]? = some (some v) → Goes p W (R.ok (Op.slot i, env)) (fun r => ∀ v H' B', ER X.K X.mg p H' B' σ r.2 → Fx σ env H B H' B' r.2 → OpV X.K X.mg σ B' v r.1 → Q v H') → tVar i σ H Q :=
    fun v e h => ⟨v, e, h v H B E Fx.rfl' e⟩
  unfold oVar at h
  split at h
  · rename_i d e; obtain ⟨v, e, _⟩ := E.sh i d e; exact fin v e h
  · rename_i d e; obtain ⟨a, e, _⟩ := E.ow i d e; exact fin _ e h
  · rename_i d e; obtain ⟨a, _, e, _⟩ := E.ioo i d e; exact fin _ e h
  · exact h.elim
/-- a slot is owned no more -/
theorem ER.shared {K : Fg} {mg : MG} {p : FP} {H B : Hp} {σ : L2.St} {env : Env} (E : ER K mg p H B σ env) {i : Nat} {d : D} (h : env[i]? = some (.ow d)) :
    ∃ a o, σ[i]? = some (some (.ref a)) ∧ H a = some o ∧ B a = none ∧ ER K mg p H (upd B a o) σ (env.set i (.sh d)) ∧ Fx σ env H B H (upd B a o) (env.set i (.sh d)) ∧ Rep K mg (upd B a o) (.ref a) d := by
  obtain ⟨a, e, c, n, z⟩ := E.ow i d h
  obtain ⟨o, ho, r⟩ := c.frozen n
  have hi : i < env.length := (List.getElem?_eq_some_iff.mp h).1
  have up : ∀ j s, (env.set i (.sh d))[j]? = some s → (j = i ∧ s = .sh d) ∨ (j ≠ i ∧ env[j]? = some s) := fun j s q => by
    by_cases hj : j = i
    · subst hj; rw [List.getElem?_set_self hi] at q; cases q; exact .inl ⟨rfl, rfl⟩
    · rw [List.getElem?_set_ne (Ne.symm hj)] at q; exact .inr ⟨hj, q⟩
  have own : ∀ j b, OwnAt σ (env.set i (.sh d)) j b → OwnAt σ env j b ∧ j ≠ i := by
    rintro j b ⟨q, d', q' | q'⟩
    · rcases up j _ q' with ⟨_, z⟩ | ⟨hj, z⟩
      · cases z
      · exact ⟨⟨q, d', .inl z⟩, hj⟩
    · rcases up j _ q' with ⟨_, z⟩ | ⟨hj, z⟩
      · cases z
      · exact ⟨⟨q, d', .inr z⟩, hj⟩
  have me : OwnAt σ env i a := ⟨e, d, .inl h⟩
  have ne : ∀ j b, OwnAt σ (env.set i (.sh d)) j b → b ≠ a := fun j b q hb => by
    obtain ⟨q1, q2⟩ := own j b q
    rw [hb] at q1
    exact q2 (E.dis j i a q1 me)
  refine ⟨a, o, e, ho, n, ⟨fun b x q => ?_, E.b0.trans (Sub.upd n), fun b x q => ?_, E.frm, E.iod, by rw [List.length_set]; exact E.len, fun j d' q => ?_, fun j d' q => ?_, fun j d' q => ?_, fun j k b q q' => E.dis j k b (own j b q).1 (own k b q').1⟩,
    ⟨fun b x q _ => q, fun b q => q, Sub.upd n, fun b x q => ?_, fun b ⟨j, q⟩ => ⟨j, (own j b q).1⟩⟩, r⟩
  · by_cases hb : b = a
    · subst hb; rw [upd_same] at q; cases q; exact ho
    · rw [upd_ne hb] at q; exact E.sub b x q
  · by_cases hb : b = a
    · subst hb; exact .inr z
    · rw [upd_ne hb] at q; exact E.new b x q
  · rcases up j _ q with ⟨hj, z⟩ | ⟨_, z⟩
    · cases z; exact ⟨_, by rw [hj]; exact e, r⟩
    · obtain ⟨v, e', r'⟩ := E.sh j d' z; exact ⟨v, e', r'.mono (Sub.upd n)⟩
  · have o' : ∃ b, OwnAt σ (env.set i (.sh d)) j b := by
      rcases up j _ q with ⟨_, z⟩ | ⟨_, z⟩
      · cases z
      · obtain ⟨b, e', _⟩ := E.ow j d' z; exact ⟨b, e', d', .inl q⟩
    rcases up j _ q with ⟨_, z⟩ | ⟨_, zz⟩
    · cases z
    · obtain ⟨b, e', c', n', z'⟩ := E.ow j d' zz
      have hb := ne j b ⟨e', d', .inl q⟩
      exact ⟨b, e', c'.mono (fun _ h => h) (Sub.upd n), by rw [upd_ne hb]; exact n', z'⟩
  · rcases up j _ q with ⟨_, z⟩ | ⟨_, zz⟩
    · cases z
    · obtain ⟨b, e0, e', c', n'⟩ := E.ioo j d' zz
      have hb := ne j b ⟨e', d', .inr q⟩
      exact ⟨b, e0, e', c'.mono (fun _ h => h) (Sub.upd n), by rw [upd_ne hb]; exact n'⟩
  · by_cases hb : b = a
    · subst hb; exact .inr (.inr ⟨i, me⟩)
    · rw [upd_ne hb] at q; exact .inl q
theorem de_var {i : Nat} {x : Str} {pos : Pos} (h : PE X (.Name x pos) (tVar i)) : DE X p W (.Name x pos) (cVar i) := by
  refine pe_imp h ?_
  rintro σ H Q ⟨env, B, E, h⟩
  unfold cVar at h
  split at h
  · rename_i d e
    obtain ⟨v, e, r⟩ := E.sh i d e
    exact ⟨v, e, h v H B E Fx.rfl' r⟩
  · rename_i d e
    obtain ⟨a, o, e, ho, n, E', F', r⟩ := E.shared e
    exact ⟨_, e, h _ H _ E' F' r⟩
  · exact h.elim
theorem de_const {e : Expr} {v : V} {d : D} (h : PE X e (tC v)) (r : ∀ B, Rep X.K X.mg B v d) : DE X p W e (cC d) := by
  refine pe_imp h ?_
  rintro σ H Q ⟨env, B, E, h⟩
  exact h v H B E Fx.rfl' (r B)
theorem de_int {i : Int} {j : Nat} {pos : Pos} : DE X p W (.Constant (.int i) j pos) (cC (.int i)) := de_const pe_int fun _ => .int i
theorem de_bl {i : Bool} {j : Nat} {pos : Pos} : DE X p W (.Constant (.bool i) j pos) (cC (.bl i)) := de_const pe_bl fun _ => .bl i
theorem de_non {j : Nat} {pos : Pos} : DE X p W (.Constant .none j pos) (cC .non) := de_const pe_non fun _ => .non
theorem de_str {i : Str} {j : Nat} {pos : Pos} : DE X p W (.Constant (.str i) j pos) (cC (.str i)) := de_const pe_str fun _ => .str i
/-- a def of the module, as a value -/
theorem de_fn {x : Str} {a : Addr} {pos : Pos} (hg : Gl X x) (hm : X.mg x = some (.ref a)) (hd : (x == ("__debug__" : Str)) = false := by decide) : DE X p W (.Name x pos) (cC (.fn x)) := de_const (v := .ref a) (pe_glob hg hm rfl hd) fun _ => .fn hm

theorem db_val {e : Expr} {f : CE} (h : DE X p W e f) : DB X p W e (oVal f) := by
  refine pe_imp h ?_
  rintro σ H Q ⟨env, B, E, h⟩
  refine ⟨env, B, E, (Goes.bind h).imp ?_⟩
  rintro ⟨m, d, e1⟩ h v H' B' E' F' r'
  obtain ⟨B2, E2, F2, r2, _⟩ := freeze E E' F' r'
  exact h v H' B2 E2 F2 r2

def aNil : CA := fun env => .ok ([], env)
def aCons (a : CB) (as : CA) : CA := fun env => (a env).bind fun r => (as r.2).bind fun q => .ok (r.1 :: q.1, q.2)
theorem da_nil : DA X p W [] aNil := by
  refine pa_imp pa_nil ?_
  rintro σ H Q ⟨env, B, E, h⟩
  exact h [] H B E Fx.rfl' .nil
theorem da_cons {e : Expr} {es : List Expr} {f : CB} {g : CA} (h1 : DB X p W e f) (h2 : DA X p W es g) (hs : starEach (e :: es) X.env = (false, eval e X.env) :: starEach es X.env := by rfl) : DA X p W (e :: es) (aCons f g) := by
  refine pa_imp (pa_cons h1 h2 hs) ?_
  rintro σ H Q ⟨env, B, E, h⟩
  refine ⟨env, B, E, (Goes.bind h).imp ?_⟩
  rintro ⟨o, e1⟩ h v1 H1 B1 E1 F1 r1
  refine ⟨e1, B1, E1, (Goes.bind h).imp ?_⟩
  rintro ⟨os, e2⟩ h vs H2 B2 E2 F2 r2
  exact h (v1 :: vs) H2 B2 E2 (F1.trans F2) (.cons (r1.mono F2.base) r2)

variable {a b c : Expr} {pos : Pos}
theorem de_bin {op : Operator} {r : R2} {f : D → D → Option (Bool × D)} {fa fb : CB} (ho : OpR X (binaryOp op) r) (hv : VR2 X.K X.mg r f) (ha : DB X p W a fa) (hb : DB X p W b fb) : DE X p W (.BinOp a op b pos) (c2 f fa fb) := pe_imp (pe_op ho ha hb) (c2_ok hv)
theorem de_un {op : UnaryOp} {r : Kk} {f : D → Option (Bool × D)} {fa : CB} (ho : UnR X (unaryOp op) r) (hv : VR1 X.K X.mg r f) (ha : DB X p W a fa) : DE X p W (.UnaryOp op a pos) (c1 f fa) := pe_imp (pe_un ho ha) (c1_ok hv)
theorem de_cmp {op : CmpOp} {r : R2} {f : D → D → Option (Bool × D)} {fa fb : CB} (ho : OpR X (compareOp op) r) (hv : VR2 X.K X.mg r f) (ha : DB X p W a fa) (hb : DB X p W b fb) (hm : behindInMarks op b = false) : DE X p W (.Compare a [op] [b] pos) (c2 f fa fb) := pe_imp (pe_cmpR ho ha hb hm) (c2_ok hv)
theorem de_ix {r : R2} {f : D → D → Option (Bool × D)} {fa fb : CB} (hr : IxR X r) (hv : VR2 X.K X.mg r f) (ha : DB X p W a fa) (hb : DB X p W b fb) (hs : PlainIx b := by exact fun _ _ => rfl) : DE X p W (.Subscript a b pos) (c2 f fa fb) := pe_imp (pe_ix hr ha hb hs) (c2_ok hv)
theorem de_callB {x : Str} {q : Pos} {id : String} {r : List V → Hp → VK → Prop} {f : List D → Option (Bool × D)} {e : Expr} {es : List Expr} {fs : CA} (hc : CallR X (.builtin id) r) (hv : VRn X.K X.mg r f) (hg : Gl X x) (hm : X.mg x = none) (hb : bootBuiltins x = some (.builtin id)) (ha : DA X p W (e :: es) fs)
    (hn : x ≠ "__name__" := by decide) (hdb : (x == ("__debug__" : Str)) = false := by decide) (he : starEach (e :: es) X.env = (false, eval e X.env) :: starEach es X.env := by rfl) (hpl : (backTo pos (starEach es X.env)).any (·.1) = false := by rfl) :
    DE X p W (.Call (.Name x q) (e :: es) [] pos) (cN f fs) := pe_imp (pe_callB hc hg hm hb ha hn hdb he hpl) (cN_ok hv)
theorem de_callTy {x : Str} {q : Pos} {T : String} {r : List V → Hp → VK → Prop} {f : List D → Option (Bool × D)} {e : Expr} {es : List Expr} {fs : CA} (hc : CallR X (.type T) r) (hv : VRn X.K X.mg r f) (hg : Gl X x) (hm : X.mg x = none) (hb : bootBuiltins x = some (.type T)) (ha : DA X p W (e :: es) fs)
    (hn : x ≠ "__name__" := by decide) (hdb : (x == ("__debug__" : Str)) = false := by decide) (he : starEach (e :: es) X.env = (false, eval e X.env) :: starEach es X.env := by rfl) (hpl : (backTo pos (starEach es X.env)).any (·.1) = false := by rfl) :
    DE X p W (.Call (.Name x q) (e :: es) [] pos) (cN f fs) := pe_imp (pe_callTy hc hg hm hb ha hn hdb he hpl) (cN_ok hv)
end
end DL

set_option Elab.async false
set_option linter.all false
set_option maxRecDepth 100000
set_option maxHeartbeats 4000000
namespace DL
open PySem PySem.Spec PyProof.Rows L2

theorem line_eq : sizeLine = 16777216 := rfl

section
variable {K : Fg} {mg : MG} {H B : Hp}
theorem Rep1.lst {v : V} {ds : List D} (s : Sub B H) (r : Rep1 K mg H B v (.lst ds)) : ∃ a vs, v = .ref a ∧ H a = some (.lst vs) ∧ RepL K mg B vs ds := by
  rcases r with r | ⟨a, e, vs, h, r⟩
  · cases r with | lst h r => exact ⟨_, _, rfl, s _ _ h, r⟩
  · exact ⟨a, vs, e, h, r⟩
theorem Rep1.scr {v : V} {ds : List D} (s : Sub B H) (r : Rep1 K mg H B v (.scr ds)) : ∃ a vs, v = .ref a ∧ SqL K H a vs ∧ RepL K mg B vs ds := by
  rcases r with r | ⟨a, e, h⟩
  · cases r with | scr h r => exact ⟨_, _, rfl, sql_mono s h, r⟩
  · exact h.elim
theorem Rep1.tup {v : V} {ds : List D} (s : Sub B H) (r : Rep1 K mg H B v (.tup ds)) : ∃ a vs, v = .ref a ∧ H a = some (.tup vs) ∧ RepL K mg B vs ds := by
  rcases r with r | ⟨a, e, h⟩
  · cases r with | tup h r => exact ⟨_, _, rfl, s _ _ h, r⟩
  · exact h.elim
theorem Rep1.ktup {v : V} {ds : List D} (s : Sub B H) (r : Rep1 K mg H B v (.ktup ds)) : ∃ a vs, v = .ref a ∧ SqT K H a vs ∧ RepL K mg B vs ds := by
  rcases r with r | ⟨a, e, h⟩
  · cases r with | ktup h r => exact ⟨_, _, rfl, sqt_mono s h, r⟩
  · exact h.elim
theorem Rep1.int {v : V} {i : Int} (r : Rep1 K mg H B v (.int i)) : v = .int i := by
  rcases r with r | ⟨a, e, h⟩
  · cases r; rfl
  · exact h.elim
theorem Rep1.bl {v : V} {i : Bool} (r : Rep1 K mg H B v (.bl i)) : v = .bl i := by
  rcases r with r | ⟨a, e, h⟩
  · cases r; rfl
  · exact h.elim
theorem Rep1.str {v : V} {i : Str} (r : Rep1 K mg H B v (.str i)) : v = .str i := by
  rcases r with r | ⟨a, e, h⟩
  · cases r; rfl
  · exact h.elim
theorem Rep1.non {v : V} (r : Rep1 K mg H B v .non) : v = .non := by
  rcases r with r | ⟨a, e, h⟩
  · cases r; rfl
  · exact h.elim
theorem Rep1.dctK {v : V} {es : List (D × D)} (s : Sub B H) (r : Rep1 K mg H B v (.dct false es)) : ∃ a kvs, v = .ref a ∧ H a = some (.dK kvs) ∧ RepK K mg B kvs es := by
  rcases r with r | ⟨a, e, k, h, r⟩
  · cases r with | dctK h r => exact ⟨_, _, rfl, s _ _ h, r⟩
  · exact ⟨a, k, e, h, r⟩
theorem Rep1.dctT {v : V} {es : List (D × D)} (s : Sub B H) (r : Rep1 K mg H B v (.dct true es)) : ∃ a kvs, v = .ref a ∧ H a = some (.dT kvs) ∧ RepT K mg B kvs es := by
  rcases r with r | ⟨a, e, k, h, r⟩
  · cases r with | dctT h r => exact ⟨_, _, rfl, s _ _ h, r⟩
  · exact ⟨a, k, e, h, r⟩
theorem Rep1.fn {v : V} {n : Str} (r : Rep1 K mg H B v (.fn n)) : ∃ a, v = .ref a ∧ mg n = some (.ref a) := by
  rcases r with r | ⟨a, e, h⟩
  · cases r with | fn h => exact ⟨_, rfl, h⟩
  · exact h.elim
end

/-- a value's truth -/
def truD : D → Option Bool
  | .non => some false
  | .bl b => some b
  | .int i => some (i != 0)
  | .str x => if x.length ≤ 16777216 then some ((x.length : Int) != 0) else none
  | .lst xs => some (!xs.isEmpty)
  | .scr xs => some (!xs.isEmpty)
  | .tup xs => some (!xs.isEmpty)
  | .ktup xs => some (!xs.isEmpty)
  | .dct false es => some (!es.isEmpty)
  | _ => none
theorem RepL.isEmpty {K : Fg} {mg : MG} {B : Hp} {vs : List V} {ds : List D} (r : RepL K mg B vs ds) : vs.isEmpty = ds.isEmpty := by
  cases r <;> rfl
theorem truV {K : Fg} {mg : MG} {H B : Hp} {v : V} {d : D} {k : Bool} (s : Sub B H) (r : Rep1 K mg H B v d) (h : truD d = some k) : TruV K v H k := by
  cases d with
  | non => cases r.non; cases h; rfl
  | bl b => cases r.bl; cases h; rfl
  | int i => cases r.int; cases h; rfl
  | str x =>
    cases r.str
    unfold truD at h
    dsimp only at h
    split at h
    · rename_i hl; cases h; exact ⟨hl, rfl⟩
    · cases h
  | lst xs => obtain ⟨a, vs, rfl, h1, h2⟩ := r.lst s; cases h; exact .inl ⟨vs, SqL.of h1, by rw [h2.isEmpty]⟩
  | scr xs => obtain ⟨a, vs, rfl, h1, h2⟩ := r.scr s; cases h; exact .inl ⟨vs, h1, by rw [h2.isEmpty]⟩
  | tup xs => obtain ⟨a, vs, rfl, h1, h2⟩ := r.tup s; cases h; exact .inr (.inl ⟨vs, SqT.of h1, by rw [h2.isEmpty]⟩)
  | ktup xs => obtain ⟨a, vs, rfl, h1, h2⟩ := r.ktup s; cases h; exact .inr (.inl ⟨vs, h1, by rw [h2.isEmpty]⟩)
  | dct t es =>
    cases t
    · obtain ⟨a, kvs, rfl, h1, h2⟩ := r.dctK s; cases h; exact .inr (.inr ⟨kvs, h1, by cases h2 <;> rfl⟩)
    · cases h
  | fn n => cases h
  | adr a => cases h

section
variable {X : Cx} {p : FP} {W : Wx}
def tTru (a : CB) : CT := fun env => (a env).bind fun r => match rd r.2 r.1 with
  | some d => (R.of (truD d)).bind fun k => .ok (k, r.2)
  | none => .stuck
def tOf (c : CE) : CT := fun env => (c env).bind fun r => match r.2.1 with
  | .bl k => .ok (k, r.2.2)
  | _ => .stuck
theorem dt_tru {e : Expr} {f : CB} (h : DB X p W e f) (he : ∀ whole, isTrue e X.env whole = (do let v ← whole; standAt e.pos; holding [v] (truthy v)) := by exact fun _ => rfl) : DT X p W e (tTru f) := by
  refine pt_imp (pt_truth h he) ?_
  rintro σ H Q ⟨env, B, E, h⟩
  refine ⟨env, B, E, (Goes.bind h).imp ?_⟩
  rintro ⟨o, e1⟩ h v1 H1 B1 E1 F1 r1
  dsimp only at h
  cases q : rd e1 o with
  | none => rw [q] at h; exact h.elim
  | some d =>
    rw [q] at h
    cases q2 : truD d with
    | none => simp only [q2] at h; exact h.elim
    | some k =>
      simp only [q2, R.of_some, R.bind_ok] at h
      exact ⟨k, truV E1.sub (E1.rep1 r1 q) q2, h H1 B1 E1 F1⟩
/-- a reading of values, where a truth value comes -/
theorem tOf_ok {t : TE} {c : CE} (h : ∀ σ H Q, tX X p W c σ H Q → t σ H Q) : ∀ σ H Q, tT X p W (tOf c) σ H Q → tTest t σ H Q := by
  rintro σ H Q ⟨env, B, E, q⟩
  refine h σ H _ ⟨env, B, E, (Goes.bind q).imp ?_⟩
  rintro ⟨m, d, e1⟩ g v H' B' E' F' r'
  dsimp only at g r'
  cases d with
  | bl k =>
    cases m with
    | false => cases r'; exact ⟨k, rfl, g H' B' E' F'⟩
    | true => obtain ⟨a, _, c, _⟩ := r'; exact c.elim
  | _ => exact g.elim
theorem dt_cmp {a b : Expr} {pos : Pos} {op : CmpOp} {r : R2} {f : D → D → Option (Bool × D)} {fa fb : CB} (ho : OpR X (compareOp op) r) (hv : VR2 X.K X.mg r f) (ha : DB X p W a fa) (hb : DB X p W b fb) (hm : behindInMarks op b = false) :
    DT X p W (.Compare a [op] [b] pos) (tOf (c2 f fa fb)) := pt_imp (pt_cmpR ho ha hb hm) (tOf_ok (c2_ok hv))
def asB (r : R (Bool × D × Env)) : R (Bool × Env) := r.bind fun r => match r.2.1 with
  | .bl k => .ok (k, r.2.2)
  | _ => .stuck
def cCh (f g : D → D → Option (Bool × D)) (a b c : CB) : CE := fun env => (a env).bind fun r => (b r.2).bind fun q => (asB (app2 f r.1 q.1 q.2)).bind fun k =>
  if k.1 then (c q.2).bind fun z => app2 g q.1 z.1 z.2 else .ok (false, .bl false, q.2)
theorem cCh_ok {f g : D → D → Option (Bool × D)} {r r' : R2} {fa fb fc : CB} (hv : VR2 X.K X.mg r f) (hv' : VR2 X.K X.mg r' g) : ∀ σ H Q, tX X p W (cCh f g fa fb fc) σ H Q → tChain r r' (tB X p W fa) (tB X p W fb) (tB X p W fc) σ H Q := by
  rintro σ H Q ⟨env, B, E, h⟩
  refine ⟨env, B, E, (Goes.bind h).imp ?_⟩
  rintro ⟨o, e1⟩ h v1 H1 B1 E1 F1 r1
  refine ⟨e1, B1, E1, (Goes.bind h).imp ?_⟩
  rintro ⟨o2, e2⟩ h v2 H2 B2 E2 F2 r2
  have h := Goes.bind h
  unfold asB at h
  have h := Goes.bind h
  refine app2_goes hv E2 (r1.mono F2.base) r2 h fun m d v H' B' g x z => ?_
  dsimp only at g
  cases d with
  | bl k =>
    have hz : v = .bl k := by
      cases m with
      | false => cases z; rfl
      | true => obtain ⟨a, _, c, _⟩ := z; exact c.elim
    refine ⟨k, hz, ?_⟩
    have E3 := E2.ext x
    have F3 := (F1.trans F2).trans x.fx
    cases k with
    | false =>
      simp only [Bool.false_eq_true, if_false] at g ⊢
      exact g (.bl false) H' B' E3 F3 (.bl false)
    | true =>
      simp only [if_true] at g ⊢
      refine ⟨e2, B', E3, (Goes.bind g).imp ?_⟩
      rintro ⟨o3, e3⟩ g v3 H3 B3 E4 F4 r3
      exact app2_goes hv' E4 ((r2.mono x.base).mono F4.base) r3 g fun m d v H' B' g x z => g v H' B' (E4.ext x) ((F3.trans F4).trans x.fx) (z.back (F3.trans F4).dom)
  | _ => exact g.elim
theorem de_chain {a b c : Expr} {pos : Pos} {op op' : CmpOp} {f g : D → D → Option (Bool × D)} {r r' : R2} {fa fb fc : CB} (ho : OpR X (compareOp op) r) (hv : VR2 X.K X.mg r f) (ho' : OpR X (compareOp op') r') (hv' : VR2 X.K X.mg r' g)
    (ha : DB X p W a fa) (hb : DB X p W b fb) (hc : DB X p W c fc) (hm : lastMarks [op, op'] [b, c] = false := by with_unfolding_all rfl) : DE X p W (.Compare a [op, op'] [b, c] pos) (cCh f g fa fb fc) :=
  pe_imp (pe_chain ho ho' ha hb hc hm) (cCh_ok hv hv')
theorem dt_chain {a b c : Expr} {pos : Pos} {op op' : CmpOp} {f g : D → D → Option (Bool × D)} {r r' : R2} {fa fb fc : CB} (ho : OpR X (compareOp op) r) (hv : VR2 X.K X.mg r f) (ho' : OpR X (compareOp op') r') (hv' : VR2 X.K X.mg r' g)
    (ha : DB X p W a fa) (hb : DB X p W b fb) (hc : DB X p W c fc) (hm : lastMarks [op, op'] [b, c] = false := by with_unfolding_all rfl) : DT X p W (.Compare a [op, op'] [b, c] pos) (tOf (cCh f g fa fb fc)) :=
  pt_imp (pt_chain ho ho' ha hb hc hm) (tOf_ok (cCh_ok hv hv'))
def tAnd' (a b : CT) : CT := fun env => (a env).bind fun r => if r.1 then b r.2 else .ok (false, r.2)
def tOr' (a b : CT) : CT := fun env => (a env).bind fun r => if r.1 then .ok (true, r.2) else b r.2
def tNot' (a : CT) : CT := fun env => (a env).bind fun r => .ok (!r.1, r.2)
variable {a b : Expr} {rest : List Expr} {pos : Pos} {fa fb : CT}
theorem dw_and1 (h : DT X p W a fa) : DW X p W (.BoolOp .And [a] pos) fa := pw_and1 h
theorem dw_or1 (h : DT X p W a fa) : DW X p W (.BoolOp .Or [a] pos) fa := pw_or1 h
theorem dw_and (h : DT X p W a fa) (hb : DW X p W (.BoolOp .And (b :: rest) pos) fb) : DW X p W (.BoolOp .And (a :: b :: rest) pos) (tAnd' fa fb) := by
  refine pw_imp (pw_and h hb) ?_
  rintro σ H Q ⟨env, B, E, h⟩
  refine ⟨env, B, E, (Goes.bind h).imp ?_⟩
  rintro ⟨k, e1⟩ h H1 B1 E1 F1
  cases k with
  | false => simp only [Bool.false_eq_true, if_false] at h ⊢; exact h H1 B1 E1 F1
  | true =>
    simp only [if_true] at h ⊢
    exact ⟨e1, B1, E1, h.imp fun r g H' B' E' F' => g H' B' E' (F1.trans F')⟩
theorem dw_or (h : DT X p W a fa) (hb : DW X p W (.BoolOp .Or (b :: rest) pos) fb) : DW X p W (.BoolOp .Or (a :: b :: rest) pos) (tOr' fa fb) := by
  refine pw_imp (pw_or h hb) ?_
  rintro σ H Q ⟨env, B, E, h⟩
  refine ⟨env, B, E, (Goes.bind h).imp ?_⟩
  rintro ⟨k, e1⟩ h H1 B1 E1 F1
  cases k with
  | true => simp only [if_true] at h ⊢; exact h H1 B1 E1 F1
  | false =>
    simp only [Bool.false_eq_true, if_false] at h ⊢
    exact ⟨e1, B1, E1, h.imp fun r g H' B' E' F' => g H' B' E' (F1.trans F')⟩
theorem dt_w (h : DW X p W a fa) : DT X p W a fa := h.pt
theorem dt_not (h : DT X p W a fa) : DT X p W (.UnaryOp .Not a pos) (tNot' fa) := by
  refine pt_imp (pt_not h) ?_
  rintro σ H Q ⟨env, B, E, h⟩
  refine ⟨env, B, E, (Goes.bind h).imp ?_⟩
  rintro ⟨k, e1⟩ h H1 B1 E1 F1
  exact h H1 B1 E1 F1
/-- .. as values -/
def cAnd (a b : CE) : CE := fun env => (a env).bind fun r => (R.of (truD r.2.1)).bind fun k => if k then b r.2.2 else .ok (false, r.2)
def cOr (a b : CE) : CE := fun env => (a env).bind fun r => (R.of (truD r.2.1)).bind fun k => if k then .ok (false, r.2) else b r.2.2
def cNot (a : CE) : CE := fun env => (a env).bind fun r => (R.of (truD r.2.1)).bind fun k => .ok (false, .bl (!k), r.2.2)
theorem of_goes {α : Type} {o : Option α} {β : Type} {f : α → R β} {G : β → Prop} (h : Goes p W ((R.of o).bind f) G) : ∃ a, o = some a ∧ Goes p W (f a) G := by
  cases o with
  | none => exact h.elim
  | some a => exact ⟨a, rfl, h⟩
theorem de_andv {fa fb : CE} (h : DE X p W a fa) (hb : DE X p W (.BoolOp .And (b :: rest) pos) fb) : DE X p W (.BoolOp .And (a :: b :: rest) pos) (cAnd fa fb) := by
  refine pe_imp (pe_andT h hb) ?_
  rintro σ H Q ⟨env, B, E, h⟩
  refine ⟨env, B, E, (Goes.bind h).imp ?_⟩
  rintro ⟨m, d, e1⟩ h v H1 B1 E1 F1 r1
  obtain ⟨B2, E2, F2, r2, _⟩ := freeze E E1 F1 r1
  obtain ⟨k, hk, h⟩ := of_goes h
  refine ⟨k, truV E2.sub (.inl r2) hk, ?_⟩
  cases k with
  | false => simp only [Bool.false_eq_true, if_false] at h ⊢; exact h v H1 B2 E2 F2 r2
  | true =>
    simp only [if_true] at h ⊢
    exact ⟨e1, B2, E2, h.imp fun r g v H' B' E' F' r' => g v H' B' E' (F2.trans F') (r'.back F2.dom)⟩
theorem de_orv {fa fb : CE} (h : DE X p W a fa) (hb : DE X p W (.BoolOp .Or (b :: rest) pos) fb) : DE X p W (.BoolOp .Or (a :: b :: rest) pos) (cOr fa fb) := by
  refine pe_imp (pe_orT h hb) ?_
  rintro σ H Q ⟨env, B, E, h⟩
  refine ⟨env, B, E, (Goes.bind h).imp ?_⟩
  rintro ⟨m, d, e1⟩ h v H1 B1 E1 F1 r1
  obtain ⟨B2, E2, F2, r2, _⟩ := freeze E E1 F1 r1
  obtain ⟨k, hk, h⟩ := of_goes h
  refine ⟨k, truV E2.sub (.inl r2) hk, ?_⟩
  cases k with
  | true => simp only [if_true] at h ⊢; exact h v H1 B2 E2 F2 r2
  | false =>
    simp only [Bool.false_eq_true, if_false] at h ⊢
    exact ⟨e1, B2, E2, h.imp fun r g v H' B' E' F' r' => g v H' B' E' (F2.trans F') (r'.back F2.dom)⟩
theorem de_bone {op : BoolOp} {f : CE} (h : DE X p W a f) : DE X p W (.BoolOp op [a] pos) f := pe_one h
theorem de_notv {f : CE} (h : DE X p W a f) : DE X p W (.UnaryOp .Not a pos) (cNot f) := by
  refine pe_imp (pe_notT h) ?_
  rintro σ H Q ⟨env, B, E, h⟩
  refine ⟨env, B, E, (Goes.bind h).imp ?_⟩
  rintro ⟨m, d, e1⟩ h v H1 B1 E1 F1 r1
  obtain ⟨B2, E2, F2, r2, _⟩ := freeze E E1 F1 r1
  obtain ⟨k, hk, h⟩ := of_goes h
  exact ⟨k, truV E2.sub (.inl r2) hk, h (.bl (!k)) H1 B2 E2 F2 (.bl _)⟩
def cIf (t : CT) (a b : CE) : CE := fun env => (t env).bind fun r => if r.1 then a r.2 else b r.2
theorem de_if {c : Expr} {ft : CT} {fa fb : CE} (hc : DT X p W c ft) (ha : DE X p W a fa) (hb : DE X p W b fb) : DE X p W (.IfExp c a b pos) (cIf ft fa fb) := by
  refine pe_imp (pe_ifExp hc ha hb) ?_
  rintro σ H Q ⟨env, B, E, h⟩
  refine ⟨env, B, E, (Goes.bind h).imp ?_⟩
  rintro ⟨k, e1⟩ h H1 B1 E1 F1
  cases k with
  | true => simp only [if_true] at h ⊢; exact ⟨e1, B1, E1, h.imp fun r g v H' B' E' F' r' => g v H' B' E' (F1.trans F') (r'.back F1.dom)⟩
  | false => simp only [Bool.false_eq_true, if_false] at h ⊢; exact ⟨e1, B1, E1, h.imp fun r g v H' B' E' F' r' => g v H' B' E' (F1.trans F') (r'.back F1.dom)⟩
end
def frzO : Op → Env → Option (D × Env)
  | .val d, env => some (d, env)
  | .slot i, env => match env[i]? with
    | some (.sh d) => some (d, env)
    | some (.ow d) => some (d, env.set i (.sh d))
    | _ => none
def frzL : List Op → Env → Option (List D × Env)
  | [], env => some ([], env)
  | o :: os, env => match frzO o env with
    | some (d, e1) => match frzL os e1 with
      | some (ds, e2) => some (d :: ds, e2)
      | none => none
    | none => none
section
variable {K : Fg} {mg : MG} {p : FP} {H : Hp} {σ : L2.St}
theorem ER.frzO {env env' : Env} {B : Hp} (E : ER K mg p H B σ env) {v : V} {o : Op} {d : D} (r : OpV K mg σ B v o) (h : DL.frzO o env = some (d, env')) : ∃ B', ER K mg p H B' σ env' ∧ Fx σ env H B H B' env' ∧ Rep K mg B' v d := by
  cases o with
  | val x => cases h; exact ⟨B, E, Fx.rfl', r⟩
  | slot i =>
    have r : σ[i]? = some (some v) := r
    unfold DL.frzO at h
    dsimp only at h
    split at h
    · rename_i d' e
      cases h
      obtain ⟨u, q, z⟩ := E.sh i _ e
      rw [r] at q; cases q
      exact ⟨B, E, Fx.rfl', z⟩
    · rename_i d' e
      cases h
      obtain ⟨a, o, q, ho, n, E', F', z⟩ := E.shared e
      rw [r] at q; cases q
      exact ⟨_, E', F', z⟩
    · cases h
theorem ER.frzL : ∀ {os : List Op} {env env' : Env} {B : Hp} {vs : List V} {ds : List D}, ER K mg p H B σ env → OpL K mg σ B vs os → DL.frzL os env = some (ds, env') → ∃ B', ER K mg p H B' σ env' ∧ Fx σ env H B H B' env' ∧ RepL K mg B' vs ds := by
  intro os
  induction os with
  | nil => intro env env' B vs ds E r h; cases r; cases h; exact ⟨B, E, Fx.rfl', .nil⟩
  | cons o os ih =>
    intro env env' B vs ds E r h
    cases r with
    | cons r rr =>
      unfold DL.frzL at h
      cases q : DL.frzO o env with
      | none => simp only [q] at h; cases h
      | some z =>
        obtain ⟨d, e1⟩ := z
        simp only [q] at h
        cases q2 : DL.frzL os e1 with
        | none => simp only [q2] at h; cases h
        | some z =>
          obtain ⟨ds', e2⟩ := z
          simp only [q2] at h
          cases h
          obtain ⟨B1, E1, F1, r1⟩ := E.frzO r q
          obtain ⟨B2, E2, F2, r2⟩ := ih E1 (rr.mono F1.base) q2
          exact ⟨B2, E2, F1.trans F2, .cons (r1.mono F2.base) r2⟩
end
section
variable {X : Cx} {p : FP} {W : Wx}
def okL (n : Nat) : Bool := decide (n ≤ 16777216)
def cTup (as : CA) : CE := fun env => (as env).bind fun r => (R.of (frzL r.1 r.2)).bind fun q => if okL q.1.length then .ok (false, .tup q.1, q.2) else .stuck
def cLst (as : CA) : CE := fun env => (as env).bind fun r => (R.of (frzL r.1 r.2)).bind fun q => if okL q.1.length then .ok (true, .lst q.1, q.2) else .stuck
theorem if_goes {α : Type} {k : Bool} {r : R α} {G : α → Prop} (h : Goes p W (if k then r else .stuck) G) : k = true ∧ Goes p W r G := by
  cases k with
  | true => exact ⟨rfl, h⟩
  | false => exact h.elim
theorem de_tup {es : List Expr} {x1 : Nat} {pos : Pos} {fs : CA} (h : DA X p W es fs) : DE X p W (.Tuple es x1 pos) (cTup fs) := by
  refine pe_imp (pe_tup h) ?_
  rintro σ H Q ⟨env, B, E, h⟩
  refine ⟨env, B, E, (Goes.bind h).imp ?_⟩
  rintro ⟨os, e1⟩ h vs H1 B1 E1 F1 r1
  obtain ⟨⟨ds, e2⟩, hf, h⟩ := of_goes h
  obtain ⟨hl, h⟩ := if_goes h
  obtain ⟨B2, E2, F2, r2⟩ := E1.frzL r1 hf
  refine ⟨by rw [r2.length, line_eq]; exact of_decide_eq_true hl, fun q hq => ?_⟩
  have x := Ext.newB E2.sub (o := .tup vs) hq
  exact h (.ref q) _ _ (E2.ext x) ((F1.trans F2).trans x.fx) (.tup upd_same (r2.mono x.base))
theorem de_lst {es : List Expr} {pos : Pos} {fs : CA} (h : DA X p W es fs) : DE X p W (.List es pos) (cLst fs) := by
  refine pe_imp (pe_lst h) ?_
  rintro σ H Q ⟨env, B, E, h⟩
  refine ⟨env, B, E, (Goes.bind h).imp ?_⟩
  rintro ⟨os, e1⟩ h vs H1 B1 E1 F1 r1
  obtain ⟨⟨ds, e2⟩, hf, h⟩ := of_goes h
  obtain ⟨hl, h⟩ := if_goes h
  obtain ⟨B2, E2, F2, r2⟩ := E1.frzL r1 hf
  refine ⟨by rw [r2.length, line_eq]; exact of_decide_eq_true hl, fun q hq => ?_⟩
  have x := Ext.newH E2.sub (o := .lst vs) hq
  have F3 := F1.trans F2
  refine h (.ref q) _ _ (E2.ext x) (F3.trans x.fx) ⟨q, rfl, ⟨vs, upd_same, r2⟩, none_of_sub E2.sub hq, ?_⟩
  cases z : H q with
  | none => rfl
  | some u => exact absurd hq (F3.dom q (by rw [z]; simp))
/-- *e among operands -/
def seqD : D → Option (List D)
  | .lst ds => some ds
  | .tup ds => some ds
  | .ktup ds => some ds
  | _ => none
def aStar (a : CB) (as : CA) : CA := fun env => (a env).bind fun r => match rd r.2 r.1 with
  | some d => (R.of (seqD d)).bind fun ds => (as r.2).bind fun q => .ok (ds.map .val ++ q.1, q.2)
  | none => .stuck
theorem RepL.ops {K : Fg} {mg : MG} {σ : L2.St} {B : Hp} : ∀ {vs : List V} {ds : List D}, RepL K mg B vs ds → OpL K mg σ B vs (ds.map .val)
  | _, _, .nil => .nil
  | _, _, .cons r rr => .cons r rr.ops
theorem OpL.append {K : Fg} {mg : MG} {σ : L2.St} {B : Hp} : ∀ {vs : List V} {os : List Op} {ws : List V} {qs : List Op}, OpL K mg σ B vs os → OpL K mg σ B ws qs → OpL K mg σ B (vs ++ ws) (os ++ qs)
  | _, _, _, _, .nil, h => h
  | _, _, _, _, .cons r rr, h => .cons r (rr.append h)
theorem da_star {e : Expr} {es : List Expr} {q : Pos} {f : CB} {g : CA} (h1 : DB X p W e f) (h2 : DA X p W es g) (hs : starEach (.Starred e q :: es) X.env = (true, eval e X.env) :: starEach es X.env := by rfl) : DA X p W (.Starred e q :: es) (aStar f g) := by
  refine pa_imp (StX.pa_star h1 h2 hs) ?_
  rintro σ H Q ⟨env, B, E, h⟩
  refine ⟨env, B, E, (Goes.bind h).imp ?_⟩
  rintro ⟨o, e1⟩ h v1 H1 B1 E1 F1 r1
  dsimp only at h
  cases q : rd e1 o with
  | none => rw [q] at h; exact h.elim
  | some d =>
    rw [q] at h
    obtain ⟨ds, hd, h⟩ := of_goes h
    have R := E1.rep1 r1 q
    obtain ⟨a, vs, rfl, hs, hr⟩ : ∃ a vs, v1 = V.ref a ∧ (SqT X.K H1 a vs ∨ SqL X.K H1 a vs) ∧ RepL X.K X.mg B1 vs ds := by
      cases d with
      | lst xs => cases hd; obtain ⟨a, vs, e, h1, h2⟩ := R.lst E1.sub; exact ⟨a, vs, e, .inr (SqL.of h1), h2⟩
      | tup xs => cases hd; obtain ⟨a, vs, e, h1, h2⟩ := R.tup E1.sub; exact ⟨a, vs, e, .inl (SqT.of h1), h2⟩
      | ktup xs => cases hd; obtain ⟨a, vs, e, h1, h2⟩ := R.ktup E1.sub; exact ⟨a, vs, e, .inl h1, h2⟩
      | _ => cases hd
    refine ⟨a, vs, rfl, hs, e1, B1, E1, (Goes.bind h).imp ?_⟩
    rintro ⟨os, e2⟩ h ws H2 B2 E2 F2 r2
    exact h (vs ++ ws) H2 B2 E2 (F1.trans F2) ((hr.mono F2.base).ops.append r2)
end
end DL

set_option Elab.async false
set_option linter.all false
set_option maxRecDepth 100000
set_option maxHeartbeats 4000000
namespace DL
open PySem PySem.Spec PyProof.Rows L2

theorem tuple_mulS (l : Addr) (items : Array Value) (n : Nat) (dd : Option Addr) (sl : Array (Option Value)) (x : Int) (u : Tok) (c0 : (decide (x < -(2 ^ 63)) || decide (x ≥ 2 ^ 63)) = false) (c1 : (items.isEmpty || x == 1) = true) :
    Meets (Builtin.«tuple.__mul__» ⟨[.ref l, .int x u], []⟩) (fun _ R s => s.heap.get? l = some { cls := .type "tuple", dict := dd, data := .seq items n, slots := sl } ∧ R (.ok (.ret (Value.ref l))) s) :=
  .of_wp fun prog w A R s h => by
    obtain ⟨hp, g, d, tk, os⟩ := s
    obtain ⟨hl, h⟩ := h
    have f1 := AutoSeq1.idx_int
    wp_walk using AutoSeq1.wpAny_loadPart' hl
    repeat (first
      | (refine wpAny_ite_false (decide_eq_false (by rw [c0]; exact Bool.false_ne_true)) ?_; wp_walk using AutoSeq1.wpAny_loadPart' hl)
      | (refine wpAny_ite_true (decide_eq_true c1) ?_; wp_walk using AutoSeq1.wpAny_loadPart' hl))
    exact ⟨_, rfl, h⟩
theorem tuple_mulE (l : Addr) (items : Array Value) (n : Nat) (dd : Option Addr) (sl : Array (Option Value)) (x : Int) (u : Tok) (c0 : (decide (x < -(2 ^ 63)) || decide (x ≥ 2 ^ 63)) = false) (c1 : (items.isEmpty || x == 1) = false) (c2 : (decide (x ≤ 0) || items.isEmpty) = true) :
    Meets (Builtin.«tuple.__mul__» ⟨[.ref l, .int x u], []⟩) (fun _ R s => s.heap.get? l = some { cls := .type "tuple", dict := dd, data := .seq items n, slots := sl } ∧
      R (.ok (.ret (Value.ref s.heap.objs.size))) { s with heap := s.heap.push { cls := Value.type "tuple", data := Data.seq #[] }, toks := s.toks }) :=
  .of_wp fun prog w A R s h => by
    obtain ⟨hp, g, d, tk, os⟩ := s
    obtain ⟨hl, h⟩ := h
    have f1 := AutoSeq1.idx_int
    have z0 : ¬ (#[] : Array Value).size > sizeLine := by simp
    wp_walk using AutoSeq1.wpAny_loadPart' hl
    repeat (first
      | (refine wpAny_ite_false (decide_eq_false (by rw [c0]; exact Bool.false_ne_true)) ?_; wp_walk using AutoSeq1.wpAny_loadPart' hl)
      | (refine wpAny_ite_false (decide_eq_false (by rw [c1]; exact Bool.false_ne_true)) ?_; wp_walk using AutoSeq1.wpAny_loadPart' hl)
      | (refine wpAny_ite_true (decide_eq_true c2) ?_; wp_walk using AutoSeq1.wpAny_loadPart' hl)
      | (refine wpAny_ite_false (decide_eq_false z0) ?_; wp_walk using AutoSeq1.wpAny_loadPart' hl))
    exact ⟨_, rfl, h⟩
def rep {α : Type} (n : Nat) (xs : List α) : List α := (List.replicate n xs).flatten
theorem rep_one {α : Type} (xs : List α) : rep 1 xs = xs := by simp [rep]
theorem rep_nil {α : Type} (n : Nat) : rep n ([] : List α) = [] := by simp [rep]
theorem rep_succ {α : Type} (n : Nat) (xs : List α) : rep (n + 1) xs = xs ++ rep n xs := by simp [rep, List.replicate_succ]
theorem rep_length {α : Type} (n : Nat) (xs : List α) : (rep n xs).length = n * xs.length := by simp [rep]
def rMulT (K : Fg) : R2 := fun x y H Q => ∃ l k xs, x = .ref l ∧ y = .int k ∧ SqT K H l xs ∧ -1000 ≤ k ∧ k ≤ 1000 ∧ xs.length ≤ 1000 ∧
  ((xs = [] ∨ k = 1) → Q (.ref l) H) ∧ (xs ≠ [] → k ≠ 1 → ∀ p, H p = none → Q (.ref p) (upd H p (.tup (rep k.toNat xs))))
theorem op_mulT {X : Cx} : OpR X (binaryOp .Mult) (rMulT X.K) := by
  intro pins s σ H x y v u Q I rx ry h
  obtain ⟨l, k, xs, rfl, rfl, hT, h1, h2, hz, q1, q2⟩ := h
  by_cases hb : xs ≠ [] ∧ 2 ≤ k
  · exact op_repT pins s σ H _ _ v u Q I rx ry ⟨l, k, xs, rfl, rfl, hT, hb.1, hb.2, h2, hz, q2 hb.1 (by omega)⟩
  cases rx
  obtain ⟨t, rfl⟩ := ry
  obtain ⟨its, r, ⟨⟨cls, dd, data, sl⟩, ho, hc, n, hd⟩, hs⟩ := I.tuple hT
  simp only at hc hd
  subst hc hd
  have hle : its.length = xs.length := r.length.symm
  have c0 : (decide (k < -(2 ^ 63)) || decide (k ≥ 2 ^ 63)) = false := by
    rw [decide_eq_false (by omega), decide_eq_false (by omega)] <;> rfl
  have he : its.toArray.isEmpty = xs.isEmpty := by
    cases r <;> rfl
  by_cases hsame : xs = [] ∨ k = 1
  · have c1 : (its.toArray.isEmpty || k == 1) = true := by
      rw [he]
      rcases hsame with e | e
      · rw [e]; rfl
      · rw [e]; simp
    refine wpAny_binaryOp_repeat_ref (T := "tuple") (U := "int") (by decide) ⟨_, ho, rfl⟩ (fun s' => typeIs_int s' k t) noFill_tuple_mul F.fills_int_mul F.slot_int_rmul repeat_tuple F.slot_int_index.lookup
      (call_meets F.slot_int_rmul (typeIs_int s k t) F.entry_int_rmul (F.args_int_rmul_2 _ _) (int_rmul_tuple k t l its.toArray n dd sl)
        ⟨ho, rfl, ⟨_, ho, rfl⟩, call_meets F.slot_tuple_mul ⟨_, ho, rfl⟩ F.entry_tuple_mul (F.args_tuple_mul_2 _ _) (tuple_mulS l its.toArray n dd sl k t c0 c1) ⟨ho, ?_⟩⟩)
    exact ⟨.ref l, H, I, rfl, q1 hsame⟩
  · have hne : xs ≠ [] := fun e => hsame (.inl e)
    have hk1 : k ≠ 1 := fun e => hsame (.inr e)
    have hk : k ≤ 0 := by
      by_cases z : 2 ≤ k
      · exact absurd ⟨hne, z⟩ hb
      · omega
    have hxe : xs.isEmpty = false := by cases xs with | nil => exact absurd rfl hne | cons _ _ => rfl
    have c1 : (its.toArray.isEmpty || k == 1) = false := by
      rw [he, hxe, Bool.false_or]; exact beq_eq_false_iff_ne.mpr hk1
    have c2 : (decide (k ≤ 0) || its.toArray.isEmpty) = true := by
      rw [decide_eq_true hk]; rfl
    refine wpAny_binaryOp_repeat_ref (T := "tuple") (U := "int") (by decide) ⟨_, ho, rfl⟩ (fun s' => typeIs_int s' k t) noFill_tuple_mul F.fills_int_mul F.slot_int_rmul repeat_tuple F.slot_int_index.lookup
      (call_meets F.slot_int_rmul (typeIs_int s k t) F.entry_int_rmul (F.args_int_rmul_2 _ _) (int_rmul_tuple k t l its.toArray n dd sl)
        ⟨ho, rfl, ⟨_, ho, rfl⟩, call_meets F.slot_tuple_mul ⟨_, ho, rfl⟩ F.entry_tuple_mul (F.args_tuple_mul_2 _ _) (tuple_mulE l its.toArray n dd sl k t c0 c1 c2) ⟨ho, ?_⟩⟩)
    have e0 : rep k.toNat xs = [] := by rw [show k.toNat = 0 by omega]; rfl
    refine ⟨.ref s.heap.objs.size, _, I.laid (t' := s.toks) (o := .tup (rep k.toNat xs)) (fun b ob q => Heap.get?_push_of_some _ q) (Nat.le_refl _) ?_, rfl, q2 hne hk1 _ (I.hok.fresh (Nat.le_refl _))⟩
    rw [e0]
    exact ⟨Nat.zero_le _, [], .nil, IsTup.new _ _⟩

section
variable {K : Fg} {mg : MG}
theorem RepL.rep {B : Hp} {vs : List V} {ds : List D} (h : RepL K mg B vs ds) : ∀ n : Nat, RepL K mg B (DL.rep n vs) (DL.rep n ds)
  | 0 => .nil
  | n + 1 => by rw [rep_succ, rep_succ]; exact h.append (h.rep n)
theorem Rep1.tup' {H B : Hp} {v : V} {ds : List D} (r : Rep1 K mg H B v (.tup ds)) : Rep K mg B v (.tup ds) := by
  rcases r with r | ⟨a, e, h⟩
  · exact r
  · exact h.elim
/-- the end of a rule: nothing new -/
theorem Rep.res {H B : Hp} {v : V} {d : D} {Q : VK} (s : Sub B H) (k : ∀ v' H' B', Ext H B H' B' → Res K mg H H' B' false v' d → Q v' H') (r : Rep K mg B v d) : Q v H := k v H B (Ext.rfl' s) r
/-- .. a new tuple -/
theorem new_tup {H B : Hp} {vs : List V} {ds : List D} {Q : VK} (s : Sub B H) (k : ∀ v' H' B', Ext H B H' B' → Res K mg H H' B' false v' (.tup ds) → Q v' H') (r : RepL K mg B vs ds) : ∀ q, H q = none → Q (.ref q) (upd H q (.tup vs)) := fun q hq =>
  have x := Ext.newB s (o := .tup vs) hq
  k _ _ _ x (.tup upd_same (r.mono x.base))
/-- .. a new list -/
theorem new_lst {H B : Hp} {vs : List V} {ds : List D} {Q : VK} (s : Sub B H) (k : ∀ v' H' B', Ext H B H' B' → Res K mg H H' B' true v' (.lst ds) → Q v' H') (r : RepL K mg B vs ds) : ∀ q, H q = none → Q (.ref q) (upd H q (.lst vs)) := fun q hq =>
  k _ _ _ (Ext.newH s (o := .lst vs) hq) ⟨q, rfl, ⟨vs, upd_same, r⟩, none_of_sub s hq, hq⟩
theorem okL_le {n : Nat} (h : okL n = true) : n ≤ sizeLine := by rw [line_eq]; exact of_decide_eq_true h

def addD : D → D → Option (Bool × D)
  | .int a, .int b => some (false, .int (a + b))
  | .str a, .str b => if okL (a.length + b.length) then some (false, .str (a ++ b)) else none
  | .lst a, .lst b => if okL (a.length + b.length) then some (true, .lst (a ++ b)) else none
  | .tup a, .tup b => if okL (a.length + b.length) then some (false, .tup (a ++ b)) else none
  | _, _ => none
def rAddX (K : Fg) : R2 := fun x y H Q => rI0 (fun i j => .int (i + j)) x y H Q ∨ (∃ i j, x = .str i ∧ y = .str j ∧ i.length + j.length ≤ sizeLine ∧ Q (.str (i ++ j)) H) ∨ rCat x y H Q ∨ rCatA K x y H Q
theorem op_addX {X : Cx} : OpR X (binaryOp .Add) (rAddX X.K) := OpR.or op_add (OpR.or op_add_str (OpR.or op_cat op_catA))
theorem ite_some {α : Type} {k : Bool} {a b : α} (h : (if k then some a else none) = some b) : k = true ∧ a = b := by
  cases k with
  | true => exact ⟨rfl, Option.some.inj h⟩
  | false => cases h
theorem vr_add : VR2 K mg (rAddX K) addD := by
  intro a b m d h x y H B Q s rx ry k
  unfold addD at h
  split at h
  · cases h; exact .inl ⟨_, _, rx.int, ry.int, Rep.res s k (.int _)⟩
  · obtain ⟨hl, h⟩ := ite_some h; cases h
    exact .inr (.inl ⟨_, _, rx.str, ry.str, okL_le hl, Rep.res s k (.str _)⟩)
  · obtain ⟨hl, h⟩ := ite_some h; cases h
    obtain ⟨p, vs, rfl, h1, r1⟩ := rx.lst s
    obtain ⟨q, ws, rfl, h2, r2⟩ := ry.lst s
    exact .inr (.inr (.inl ⟨p, q, vs, ws, rfl, rfl, h1, h2, by rw [r1.length, r2.length]; exact okL_le hl, new_lst s k (r1.append r2)⟩))
  · obtain ⟨hl, h⟩ := ite_some h; cases h
    obtain ⟨p, vs, rfl, h1, r1⟩ := rx.tup s
    obtain ⟨q, ws, rfl, h2, r2⟩ := ry.tup s
    refine .inr (.inr (.inr ⟨p, q, vs, ws, rfl, rfl, SqT.of h1, SqT.of h2, by rw [r1.length, r2.length]; exact okL_le hl, fun e => ?_, fun _ e => ?_, fun _ _ => new_tup s k (r1.append r2)⟩))
    · subst e; cases r1; exact Rep.res s k ry.tup'
    · subst e; cases r2; rw [List.append_nil] at k; exact Rep.res s k rx.tup'
  · cases h
def subD : D → D → Option (Bool × D)
  | .int a, .int b => some (false, .int (a - b))
  | _, _ => none
theorem vr_sub : VR2 K mg (rI0 fun i j => .int (i - j)) subD := by
  intro a b m d h x y H B Q s rx ry k
  unfold subD at h
  split at h
  · cases h; exact ⟨_, _, rx.int, ry.int, Rep.res s k (.int _)⟩
  · cases h
def mulD : D → D → Option (Bool × D)
  | .int a, .int b => if decide (a.natAbs < 18446744073709551616) || decide (b.natAbs < 18446744073709551616) then some (false, .int (a * b)) else none
  | .lst a, .int k => if okL (a.length * k.toNat) && (decide (-9223372036854775808 ≤ k) && decide (k < 9223372036854775808)) then some (true, .lst (rep k.toNat a)) else none
  | .tup a, .int k => if decide (a.length ≤ 1000) && (decide (-1000 ≤ k) && decide (k ≤ 1000)) then some (false, .tup (rep k.toNat a)) else none
  | _, _ => none
def rMulX (K : Fg) : R2 := fun x y H Q => rI CMul (fun i j => .int (i * j)) x y H Q ∨ rRep x y H Q ∨ rMulT K x y H Q
theorem op_mulX {X : Cx} : OpR X (binaryOp .Mult) (rMulX X.K) := OpR.or op_mul (OpR.or op_rep op_mulT)
theorem vr_mul : VR2 K mg (rMulX K) mulD := by
  intro a b m d h x y H B Q s rx ry k
  unfold mulD at h
  split at h
  · rename_i i j
    obtain ⟨hl, h⟩ := ite_some h; cases h
    refine .inl ⟨_, _, rx.int, ry.int, ?_, Rep.res s k (.int _)⟩
    rcases (Bool.or_eq_true _ _).mp hl with e | e
    · have := of_decide_eq_true e; exact .inl ⟨by omega, by omega⟩
    · have := of_decide_eq_true e; exact .inr ⟨by omega, by omega⟩
  · rename_i ds n
    obtain ⟨hl, h⟩ := ite_some h; cases h
    obtain ⟨p, vs, rfl, h1, r1⟩ := rx.lst s
    simp only [Bool.and_eq_true, decide_eq_true_eq] at hl
    exact .inr (.inl ⟨p, n, vs, rfl, ry.int, h1, by omega, by omega, by rw [r1.length]; exact okL_le hl.1, new_lst s k (r1.rep _)⟩)
  · rename_i ds n
    obtain ⟨hl, h⟩ := ite_some h; cases h
    obtain ⟨p, vs, rfl, h1, r1⟩ := rx.tup s
    simp only [Bool.and_eq_true, decide_eq_true_eq] at hl
    refine .inr (.inr ⟨p, n, vs, rfl, ry.int, SqT.of h1, by omega, by omega, by rw [r1.length]; exact hl.1, fun e => ?_, fun _ _ => new_tup s k (r1.rep _)⟩)
    rcases e with e | e
    · subst e; cases r1; rw [rep_nil] at k; exact Rep.res s k rx.tup'
    · subst e; rw [show (1 : Int).toNat = 1 from rfl, rep_one] at k; exact Rep.res s k rx.tup'
  · cases h
def fdivD : D → D → Option (Bool × D)
  | .int a, .int b => if decide (0 < b) && decide (b < 1073741824) then some (false, .int (a / b)) else none
  | _, _ => none
theorem vr_fdiv : VR2 K mg (rI CDiv fun i j => .int (i / j)) fdivD := by
  intro a b m d h x y H B Q s rx ry k
  unfold fdivD at h
  split at h
  · obtain ⟨hl, h⟩ := ite_some h; cases h
    simp only [Bool.and_eq_true, decide_eq_true_eq] at hl
    exact ⟨_, _, rx.int, ry.int, hl, Rep.res s k (.int _)⟩
  · cases h
def modD : D → D → Option (Bool × D)
  | .int a, .int b => if decide (0 < b) then some (false, .int (a % b)) else none
  | _, _ => none
theorem vr_mod : VR2 K mg (rI (fun _ j => 0 < j) fun i j => .int (i % j)) modD := by
  intro a b m d h x y H B Q s rx ry k
  unfold modD at h
  split at h
  · obtain ⟨hl, h⟩ := ite_some h; cases h
    exact ⟨_, _, rx.int, ry.int, of_decide_eq_true hl, Rep.res s k (.int _)⟩
  · cases h
def powOk (i j : Int) : Bool := decide (0 ≤ j) && (decide (j ≤ 1000000) && decide (i.natAbs < 18446744073709551616))
theorem powOk_c {i j : Int} (h : powOk i j = true) : CPow i j := by
  simp only [powOk, Bool.and_eq_true, decide_eq_true_eq] at h
  exact ⟨h.1, h.2.1, h.2.2⟩
def powD : D → D → Option (Bool × D)
  | .int a, .int b => if powOk a b then some (false, .int (a ^ b.toNat)) else none
  | _, _ => none
theorem vr_pow : VR2 K mg (rI CPow fun i j => .int (i ^ j.toNat)) powD := by
  intro a b m d h x y H B Q s rx ry k
  unfold powD at h
  split at h
  · obtain ⟨hl, h⟩ := ite_some h; cases h
    exact ⟨_, _, rx.int, ry.int, powOk_c hl, Rep.res s k (.int _)⟩
  · cases h
def shlD : D → D → Option (Bool × D)
  | .int a, .int b => if powOk a b then some (false, .int (a * 2 ^ b.toNat)) else none
  | _, _ => none
theorem vr_shl : VR2 K mg (rI CPow fun i j => .int (i * 2 ^ j.toNat)) shlD := by
  intro a b m d h x y H B Q s rx ry k
  unfold shlD at h
  split at h
  · obtain ⟨hl, h⟩ := ite_some h; cases h
    exact ⟨_, _, rx.int, ry.int, powOk_c hl, Rep.res s k (.int _)⟩
  · cases h
def shrD : D → D → Option (Bool × D)
  | .int a, .int b => if decide (0 ≤ b) then some (false, .int (a / 2 ^ b.toNat)) else none
  | _, _ => none
theorem vr_shr : VR2 K mg (rI (fun _ j => 0 ≤ j) fun i j => .int (i / 2 ^ j.toNat)) shrD := by
  intro a b m d h x y H B Q s rx ry k
  unfold shrD at h
  split at h
  · obtain ⟨hl, h⟩ := ite_some h; cases h
    exact ⟨_, _, rx.int, ry.int, of_decide_eq_true hl, Rep.res s k (.int _)⟩
  · cases h
def bitD (f : Int → Int → Int) : D → D → Option (Bool × D)
  | .int a, .int b => some (false, .int (f a b))
  | _, _ => none
theorem vr_bit (f : Int → Int → Int) : VR2 K mg (rI0 fun i j => .int (f i j)) (bitD f) := by
  intro a b m d h x y H B Q s rx ry k
  unfold bitD at h
  split at h
  · cases h; exact ⟨_, _, rx.int, ry.int, Rep.res s k (.int _)⟩
  · cases h
def negD : D → Option (Bool × D)
  | .int a => some (false, .int (-a))
  | _ => none
theorem vr_neg : VR1 K mg (rU fun i => .int (-i)) negD := by
  intro a m d h x H B Q s rx k
  unfold negD at h
  split at h
  · cases h; exact ⟨_, rx.int, Rep.res s k (.int _)⟩
  · cases h
def cmpD (f : Int → Int → Bool) : D → D → Option (Bool × D)
  | .int a, .int b => some (false, .bl (f a b))
  | _, _ => none
theorem vr_cmp (f : Int → Int → Bool) : VR2 K mg (rI0 fun i j => .bl (f i j)) (cmpD f) := by
  intro a b m d h x y H B Q s rx ry k
  unfold cmpD at h
  split at h
  · cases h; exact ⟨_, _, rx.int, ry.int, Rep.res s k (.bl _)⟩
  · cases h
abbrev ltD := cmpD fun i j => decide (i < j)
abbrev leD := cmpD fun i j => decide (i ≤ j)
abbrev gtD := cmpD fun i j => decide (j < i)
abbrev geD := cmpD fun i j => decide (j ≤ i)
def isND (neg : Bool) : D → D → Option (Bool × D)
  | a, .non => match a with
    | .non => some (false, .bl (!neg))
    | .fn _ => none
    | _ => some (false, .bl neg)
  | _, _ => none
theorem vr_isN : VR2 K mg (fun x y H Q => y = .non ∧ Q (.bl (decide (x = .non))) H) (isND false) := by
  intro a b m d h x y H B Q s rx ry k
  unfold isND at h
  split at h
  · refine ⟨ry.non, ?_⟩
    split at h
    · cases h; rw [rx.non]; exact Rep.res s k (.bl _)
    · cases h
    · rename_i q1 q2
      cases h
      have hx : decide (x = V.non) = false := decide_eq_false fun e => by
        subst e
        rcases rx with rx | ⟨p, e, _⟩
        · cases rx; exact q1 rfl
        · cases e
      rw [hx]
      exact Rep.res s k (.bl _)
  · cases h
theorem vr_notN : VR2 K mg (fun x y H Q => y = .non ∧ Q (.bl (!decide (x = .non))) H) (isND true) := by
  intro a b m d h x y H B Q s rx ry k
  unfold isND at h
  split at h
  · refine ⟨ry.non, ?_⟩
    split at h
    · cases h; rw [rx.non]; exact Rep.res s k (.bl _)
    · cases h
    · rename_i q1 q2
      cases h
      have hx : decide (x = V.non) = false := decide_eq_false fun e => by
        subst e
        rcases rx with rx | ⟨p, e, _⟩
        · cases rx; exact q1 rfl
        · cases e
      rw [hx]
      exact Rep.res s k (.bl _)
  · cases h
mutual
def toPy : D → PyData
  | .non => .none
  | .bl b => .bool b
  | .int i => .int i
  | .str s => .str s
  | .lst xs => .list (toPyL xs)
  | .tup xs => .tuple (toPyL xs)
  | .ktup xs => .tuple (toPyL xs)
  | .dct _ _ => .dict []
  | .fn _ => .dict []
  | .adr _ => .dict []
  | .scr _ => .dict []
def toPyL : List D → List PyData
  | [] => []
  | x :: xs => toPy x :: toPyL xs
end
theorem sub_sql {H : Hp} {a : Addr} {vs : List V} (h : H a = some (.lst vs)) : SqL K H a vs := SqL.of h
mutual
theorem Rep.dp {B : Hp} : ∀ {v : V} {d : D}, Rep K mg B v d → (toPy d).canLay0 = true → Dp K B v (toPy d)
  | _, _, .non, _ => .non
  | _, _, .bl b, _ => .bl b
  | _, _, .int i, _ => .int i
  | _, _, .str x, _ => .str x
  | _, _, .lst h r, c => .lst (SqL.of h) (r.dp (by simpa [toPy, PyData.canLay0] using c))
  | _, _, .scr h r, c => by simp [toPy, PyData.canLay0] at c
  | _, _, .tup h r, c => .tup (SqT.of h) (r.dp (by simpa [toPy, PyData.canLay0] using c))
  | _, _, .ktup h r, c => .tup h (r.dp (by simpa [toPy, PyData.canLay0] using c))
  | _, _, .dctK h r, c => by simp [toPy, PyData.canLay0] at c
  | _, _, .dctT h r, c => by simp [toPy, PyData.canLay0] at c
  | _, _, .fn h, c => by simp [toPy, PyData.canLay0] at c
  | _, _, .adr, c => by simp [toPy, PyData.canLay0] at c
theorem RepL.dp {B : Hp} : ∀ {v : List V} {d : List D}, RepL K mg B v d → PyData.canLayAll0 (toPyL d) = true → DpAll K B v (toPyL d)
  | _, _, .nil, _ => .nil
  | _, _, .cons h r, c => by
    simp only [toPyL, PyData.canLayAll0, Bool.and_eq_true] at c
    exact .cons (h.dp c.1) (r.dp c.2)
end
mutual
theorem Dp.mono {B H : Hp} (s : Sub B H) : ∀ {v : V} {d : PyData}, Dp K B v d → Dp K H v d
  | _, _, .non => .non
  | _, _, .bl b => .bl b
  | _, _, .int i => .int i
  | _, _, .str x => .str x
  | _, _, .lst h r => .lst (sql_mono s h) (DpAll.mono s r)
  | _, _, .tup h r => .tup (sqt_mono s h) (DpAll.mono s r)
theorem DpAll.mono {B H : Hp} (s : Sub B H) : ∀ {v : List V} {d : List PyData}, DpAll K B v d → DpAll K H v d
  | _, _, .nil => .nil
  | _, _, .cons h r => .cons (Dp.mono s h) (DpAll.mono s r)
end
theorem Rep1.dp {H B : Hp} {v : V} {d : D} (s : Sub B H) (r : Rep1 K mg H B v d) (c : (toPy d).canLay0 = true) : Dp K H v (toPy d) := by
  rcases r with r | ⟨a, rfl, h⟩
  · exact Dp.mono s (r.dp c)
  · cases d with
    | lst ds =>
      obtain ⟨vs, h1, h2⟩ := h
      exact .lst (SqL.of h1) (DpAll.mono s (h2.dp (by simpa [toPy, PyData.canLay0] using c)))
    | dct t es => simp [toPy, PyData.canLay0] at c
    | _ => exact h.elim
def okEq (d : D) : Bool := SeqAt.shaped (toPy d)
theorem okEq_lay {d : D} (h : okEq d = true) : (toPy d).canLay0 = true := SeqAt.canLay_of_shaped h
def eqv (a b : D) : Bool := PyData.eqv (toPy a) (toPy b)
def eqD (neg : Bool) (a b : D) : Option (Bool × D) := match a, b with
  | .str x, .str y => some (false, .bl (xor neg (x == y)))
  | a, b => if okEq a && okEq b then some (false, .bl (xor neg (eqv a b))) else none
def rEqX (K : Fg) : R2 := fun x y H Q => rEqD K x y H Q ∨ rEq x y H Q
def rNeX (K : Fg) : R2 := fun x y H Q => rNeD K x y H Q ∨ rNe x y H Q
theorem op_eqX {X : Cx} (hu : X.A.units + 64 < cLine) : OpR X (compareOp .Eq) (rEqX X.K) := OpR.or (op_eqD hu) op_eq
theorem op_neX {X : Cx} (hu : X.A.units + 64 < cLine) : OpR X (compareOp .NotEq) (rNeX X.K) := OpR.or (op_neD hu) op_ne
theorem vr_eq : VR2 K mg (rEqX K) (eqD false) := by
  intro a b m d h x y H B Q s rx ry k
  unfold eqD at h
  split at h
  · rename_i i j
    cases h
    have e1 := rx.str
    have e2 := ry.str
    subst e1; subst e2
    refine .inr ⟨rfl, ?_⟩
    rw [Bool.false_xor] at k
    rw [dec_str]
    exact Rep.res s k (.bl _)
  · obtain ⟨hl, h⟩ := ite_some h; cases h
    simp only [Bool.and_eq_true] at hl
    refine .inl ⟨toPy a, toPy b, rx.dp s (okEq_lay hl.1), ry.dp s (okEq_lay hl.2), hl.1, hl.2, ?_⟩
    rw [Bool.false_xor] at k
    exact Rep.res s k (.bl _)
theorem vr_ne : VR2 K mg (rNeX K) (eqD true) := by
  intro a b m d h x y H B Q s rx ry k
  unfold eqD at h
  split at h
  · rename_i i j
    cases h
    have e1 := rx.str
    have e2 := ry.str
    subst e1; subst e2
    refine .inr ⟨rfl, ?_⟩
    rw [Bool.true_xor] at k
    rw [dec_str]
    exact Rep.res s k (.bl _)
  · obtain ⟨hl, h⟩ := ite_some h; cases h
    simp only [Bool.and_eq_true] at hl
    refine .inl ⟨toPy a, toPy b, rx.dp s (okEq_lay hl.1), ry.dp s (okEq_lay hl.2), hl.1, hl.2, ?_⟩
    rw [Bool.true_xor] at k
    exact Rep.res s k (.bl _)
end
end DL

set_option Elab.async false
set_option linter.all false
set_option maxRecDepth 100000
set_option maxHeartbeats 4000000
namespace DL
open PySem PySem.Spec PyProof.Rows L2
section
variable {K : Fg} {mg : MG}
def flatD : D → Bool
  | .non => true
  | .bl _ => true
  | .int _ => true
  | .str _ => true
  | _ => false
theorem flat_v {H B : Hp} {v : V} {d : D} (r : Rep1 K mg H B v d) (f : flatD d = true) : flatV v = true := by
  cases d with
  | non => cases r.non; rfl
  | bl b => cases r.bl; rfl
  | int b => cases r.int; rfl
  | str b => cases r.str; rfl
  | _ => cases f
theorem eqV_eqv {H B H' B' : Hp} {v w : V} {d e : D} (r : Rep1 K mg H B v d) (q : Rep1 K mg H' B' w e) (f : flatD d = true) (g : flatD e = true) : eqV v w = eqv d e := by
  cases d <;> first | (cases f; done) | (cases e <;> first | (cases g; done) | (
    first
      | (cases r.non) | (cases r.bl) | (cases r.int) | (cases r.str)
    first
      | (cases q.non) | (cases q.bl) | (cases q.int) | (cases q.str)
    simp [eqV, eqv, toPy, PyData.eqv]))
theorem RepL.flat {B : Hp} : ∀ {vs : List V} {ds : List D}, RepL K mg B vs ds → ds.all flatD = true → vs.all flatV = true
  | _, _, .nil, _ => rfl
  | _, _, .cons r rr, h => by
    rw [List.all_cons, Bool.and_eq_true] at h ⊢
    exact ⟨flat_v (H := B) (.inl r) h.1, rr.flat h.2⟩
theorem RepL.inV {H B B' : Hp} {x : V} {d : D} (q : Rep1 K mg H B' x d) (g : flatD d = true) : ∀ {vs : List V} {ds : List D}, RepL K mg B vs ds → ds.all flatD = true → L2.inV x vs = ds.any fun z => eqv z d
  | _, _, .nil, _ => rfl
  | _, _, .cons r rr, h => by
    rw [List.all_cons, Bool.and_eq_true] at h
    have := rr.inV q g h.2
    unfold L2.inV at this ⊢
    rw [List.any_cons, List.any_cons, this, eqV_eqv (H := B) (.inl r) q h.1 g]
def keyOf? : D → Option Key
  | .int i => some (.inl i)
  | .str s => some (.inr s)
  | _ => none
theorem keyOf_rep {H B : Hp} {v : V} {d : D} {k : Key} (r : Rep1 K mg H B v d) (h : keyOf? d = some k) : v = kV k := by
  cases d with
  | int i => cases h; exact r.int
  | str i => cases h; exact r.str
  | _ => cases h
theorem keyOf_keyD (k : Key) : keyOf? (keyD k) = some k := by cases k <;> rfl
def keysOf? : List D → Option (List Key)
  | [] => some []
  | d :: ds => match keyOf? d, keysOf? ds with
    | some k, some ks => some (k :: ks)
    | _, _ => none
theorem keysOf_rep {B : Hp} : ∀ {vs : List V} {ds : List D} {ks : List Key}, RepL K mg B vs ds → keysOf? ds = some ks → vs = ks.map kV
  | _, _, _, .nil, h => by cases h; rfl
  | _, _, _, .cons (d := d) (ds := ds) r rr, h => by
    unfold keysOf? at h
    cases q : keyOf? d with
    | none => rw [q] at h; cases h
    | some k =>
      cases q2 : keysOf? ds with
      | none => rw [q, q2] at h; cases h
      | some ks =>
        rw [q, q2] at h
        cases h
        rw [keyOf_rep (H := B) (.inl r) q, keysOf_rep rr q2]
        rfl
/-- a dict's entry -/
def lookK (es : List (D × D)) (k : Key) : Option D := (es.find? fun e => decide (keyOf? e.1 = some k)).map (·.2)
def tupKey? : D → Option (List Key)
  | .tup ds => keysOf? ds
  | _ => none
def lookT (es : List (D × D)) (k : List Key) : Option D := (es.find? fun e => decide (tupKey? e.1 = some k)).map (·.2)
theorem keysOf_keyD : ∀ ks : List Key, keysOf? (ks.map keyD) = some ks
  | [] => rfl
  | k :: ks => by rw [List.map_cons]; unfold keysOf?; rw [keyOf_keyD, keysOf_keyD ks]
theorem RepK.look {B : Hp} (k : Key) : ∀ {kvs : List (Key × V)} {es : List (D × D)}, RepK K mg B kvs es → (valV kvs k = none ∧ lookK es k = none) ∨ ∃ v d, valV kvs k = some v ∧ lookK es k = some d ∧ Rep K mg B v d
  | _, _, .nil => .inl ⟨rfl, rfl⟩
  | _, _, .cons (k := k') (v := v) (d := d) (vs := vs) (ds := ds) r rr => by
    have ih := rr.look k
    by_cases e : k' = k
    · subst e
      exact .inr ⟨v, d, valV_pos rfl, by unfold lookK; rw [List.find?_cons]; simp only [keyOf_keyD, decide_true]; rfl, r⟩
    · have e2 : decide (keyOf? (keyD k') = some k) = false := decide_eq_false (by rw [keyOf_keyD]; exact fun z => e (Option.some.inj z))
      rw [valV_neg (p := (k', v)) e]
      have : lookK ((keyD k', d) :: ds) k = lookK ds k := by unfold lookK; rw [List.find?_cons]; simp only [e2]
      rw [this]; exact ih
theorem RepT.look {B : Hp} (k : List Key) : ∀ {kvs : List (List Key × V)} {es : List (D × D)}, RepT K mg B kvs es → (valV kvs k = none ∧ lookT es k = none) ∨ ∃ v d, valV kvs k = some v ∧ lookT es k = some d ∧ Rep K mg B v d
  | _, _, .nil => .inl ⟨rfl, rfl⟩
  | _, _, .cons (k := k') (v := v) (d := d) (vs := vs) (ds := ds) r rr => by
    have ih := rr.look k
    by_cases e : k' = k
    · subst e
      exact .inr ⟨v, d, valV_pos rfl, by unfold lookT; rw [List.find?_cons]; simp only [tupKey?, keysOf_keyD, decide_true]; rfl, r⟩
    · have e2 : decide (tupKey? (.tup (k'.map keyD)) = some k) = false := decide_eq_false (by show ¬ keysOf? (k'.map keyD) = some k; rw [keysOf_keyD]; exact fun z => e (Option.some.inj z))
      rw [valV_neg (p := (k', v)) e]
      have : lookT ((D.tup (k'.map keyD), d) :: ds) k = lookT ds k := by unfold lookT; rw [List.find?_cons]; simp only [e2]
      rw [this]; exact ih
/-- what a dict has at a key, told of data: the outer none where the key is of another kind -/
def dget (d x : D) : Option (Option D) := match d with
  | .dct false es => (keyOf? x).map (lookK es)
  | .dct true es => (tupKey? x).map (lookT es)
  | _ => none
theorem dget_rep {H B : Hp} {v x : V} {d y : D} {o : Option D} (s : Sub B H) (r : Rep1 K mg H B v d) (q : Rep1 K mg H B x y) (h : dget d y = some o) :
    ∃ a w, v = .ref a ∧ DGet H a x w ∧ ((w = none ∧ o = none) ∨ ∃ u z, w = some u ∧ o = some z ∧ Rep K mg B u z) := by
  cases d with
  | dct t es =>
    cases t with
    | false =>
      cases hk : keyOf? y with
      | none => simp [dget, hk] at h
      | some k =>
        simp [dget, hk] at h
        obtain ⟨a, kvs, rfl, h1, h2⟩ := r.dctK s
        have e := keyOf_rep q hk
        subst e
        refine ⟨a, valV kvs k, rfl, .inl ⟨kvs, k, .inl h1, rfl, rfl⟩, ?_⟩
        rw [← h]
        exact h2.look k
    | true =>
      cases y with
      | tup ds =>
        cases hk : keysOf? ds with
        | none => simp [dget, tupKey?, hk] at h
        | some k =>
          simp [dget, tupKey?, hk] at h
          obtain ⟨a, kvs, rfl, h1, h2⟩ := r.dctT s
          obtain ⟨b, vs, rfl, h3, h4⟩ := q.tup s
          have e := keysOf_rep h4 hk
          subst e
          refine ⟨a, valV kvs k, rfl, .inr ⟨kvs, k, b, .inl h1, rfl, h3, rfl⟩, ?_⟩
          rw [← h]
          exact h2.look k
      | _ => simp [dget, tupKey?] at h
  | _ => simp [dget] at h
def rInDct (neg : Bool) : R2 := fun x y H Q => ∃ a o, y = .ref a ∧ DGet H a x o ∧ Q (.bl (if neg then !o.isSome else o.isSome)) H
theorem op_inDct {X : Cx} (hu : X.A.units + 1 < cLine) : OpR X (compareOp .In) (rInDct false) := by
  intro pins s σ H x y v u Q I rx ry h
  obtain ⟨a, o, rfl, g, q⟩ := h
  cases ry
  exact d_in hu I g rx fun s' I' => ⟨.bl _, H, I', rfl, q⟩
theorem op_notInDct {X : Cx} (hu : X.A.units + 1 < cLine) : OpR X (compareOp .NotIn) (rInDct true) := by
  intro pins s σ H x y v u Q I rx ry h
  obtain ⟨a, o, rfl, g, q⟩ := h
  cases ry
  exact d_notIn hu I g rx fun s' I' => ⟨.bl _, H, I', rfl, q⟩
def inStr (i j : Str) : Bool := !(Builtin.Str.occurrences j i 0 j.length 1).isEmpty
def rInS (neg : Bool) : R2 := fun x y H Q => ∃ i j, x = .str i ∧ y = .str j ∧ Q (.bl (if neg then !inStr i j else inStr i j)) H
theorem op_inS {X : Cx} : OpR X (compareOp .In) (rInS false) := op_in_str
theorem op_notInS {X : Cx} : OpR X (compareOp .NotIn) (rInS true) := op_notIn_str
def inSeq (neg : Bool) (x : D) (ds : List D) : Option (Bool × D) := if flatD x && ds.all flatD then some (false, .bl (xor neg (ds.any fun z => eqv z x))) else none
def inD (neg : Bool) (x c : D) : Option (Bool × D) := match c with
  | .lst ds => match inSeq neg x ds with
    | some r => some r
    | none => if okEq x && okEq c then some (false, .bl (xor neg (ds.any fun z => eqv z x))) else none
  | .tup ds => inSeq neg x ds
  | .ktup ds => inSeq neg x ds
  | .scr ds => inSeq neg x ds
  | .dct _ _ => (dget c x).map fun o => (false, .bl (xor neg o.isSome))
  | .str j => match x with
    | .str i => some (false, .bl (xor neg (inStr i j)))
    | _ => none
  | _ => none
def rInX (K : Fg) (neg : Bool) : R2 := fun x y H Q => rIn K neg x y H Q ∨ (if neg then rNotInD K else rInD K) x y H Q ∨ rInDct neg x y H Q ∨ rInS neg x y H Q
theorem op_inX {X : Cx} (hu : X.A.units + 65 < cLine) : OpR X (compareOp .In) (rInX X.K false) := OpR.or op_in_seq (OpR.or (op_inD hu) (OpR.or (op_inDct (by omega)) op_inS))
theorem op_notInX {X : Cx} (hu : X.A.units + 65 < cLine) : OpR X (compareOp .NotIn) (rInX X.K true) := OpR.or op_notIn_seq (OpR.or (op_notInD hu) (OpR.or (op_notInDct (by omega)) op_notInS))
theorem xor_if (neg k : Bool) : (if neg then !k else k) = xor neg k := by cases neg <;> simp
theorem any_toPy (x : D) : ∀ ds : List D, ((toPyL ds).any fun z => PyData.eqv z (toPy x)) = ds.any fun z => eqv z x
  | [] => rfl
  | d :: ds => by unfold toPyL; rw [List.any_cons, List.any_cons, any_toPy x ds]; rfl
theorem vr_in (neg : Bool) : VR2 K mg (rInX K neg) (inD neg) := by
  intro a b m d h x y H B Q s rx ry k
  have seq : ∀ {ds : List D} {p : Addr} {vs : List V} {m d}, inSeq neg a ds = some (m, d) → y = .ref p → (SqL K H p vs ∨ SqT K H p vs) → RepL K mg B vs ds → (∀ v H' B', Ext H B H' B' → Res K mg H H' B' m v d → Q v H') → rIn K neg x y H Q := fun {ds p vs m d} h e hs hr k => by
    obtain ⟨hl, h⟩ := ite_some h
    cases h
    rw [Bool.and_eq_true] at hl
    refine ⟨p, vs, e, hs, flat_v rx hl.1, hr.flat hl.2, ?_⟩
    rw [xor_if, hr.inV rx hl.1 hl.2]
    exact Rep.res s k (.bl _)
  cases b with
  | lst ds =>
    unfold inD at h
    dsimp only at h
    split at h
    · rename_i r e
      obtain rfl := Option.some.inj h
      obtain ⟨p, vs, e1, h1, h2⟩ := ry.lst s
      exact .inl (seq e e1 (.inl (SqL.of h1)) h2 k)
    · obtain ⟨hl, h⟩ := ite_some h
      cases h
      rw [Bool.and_eq_true] at hl
      have q : Q (.bl (xor neg (ds.any fun z => eqv z a))) H := Rep.res s k (.bl _)
      refine .inr (.inl ?_)
      have h1 := rx.dp s (okEq_lay hl.1)
      have h2 := ry.dp s (okEq_lay hl.2)
      cases neg with
      | false => exact ⟨toPy a, toPyL ds, h1, by simpa [toPy] using h2, hl.1, by simpa [okEq, toPy] using hl.2, by rw [any_toPy]; simpa using q⟩
      | true => exact ⟨toPy a, toPyL ds, h1, by simpa [toPy] using h2, hl.1, by simpa [okEq, toPy] using hl.2, by rw [any_toPy]; simpa using q⟩
  | tup ds => obtain ⟨p, vs, e1, h1, h2⟩ := ry.tup s; exact .inl (seq h e1 (.inr (SqT.of h1)) h2 k)
  | ktup ds => obtain ⟨p, vs, e1, h1, h2⟩ := ry.ktup s; exact .inl (seq h e1 (.inr h1) h2 k)
  | scr ds => obtain ⟨p, vs, e1, h1, h2⟩ := ry.scr s; exact .inl (seq h e1 (.inl h1) h2 k)
  | dct t es =>
    unfold inD at h
    dsimp only at h
    cases e : dget (.dct t es) a with
    | none => rw [e] at h; cases h
    | some o =>
      rw [e] at h
      obtain ⟨⟩ := Option.some.inj h
      obtain ⟨p, w, rfl, g, hw⟩ := dget_rep s ry rx e
      refine .inr (.inr (.inl ⟨p, w, rfl, g, ?_⟩))
      have ew : w.isSome = o.isSome := by
        rcases hw with ⟨rfl, rfl⟩ | ⟨_, _, rfl, rfl, _⟩ <;> rfl
      rw [xor_if, ew]
      exact Rep.res s k (.bl _)
  | str j =>
    unfold inD at h
    dsimp only at h
    split at h
    · cases h
      refine .inr (.inr (.inr ⟨_, _, rx.str, ry.str, ?_⟩))
      rw [xor_if]
      exact Rep.res s k (.bl _)
    · cases h
  | _ => cases h
def lenD : List D → Option (Bool × D)
  | [.lst ds] => some (false, .int ds.length)
  | [.tup ds] => some (false, .int ds.length)
  | [.ktup ds] => some (false, .int ds.length)
  | [.scr ds] => some (false, .int ds.length)
  | [.str x] => if okL x.length then some (false, .int x.length) else none
  | [.dct _ es] => some (false, .int es.length)
  | _ => none
def rLenX (K : Fg) : List V → Hp → VK → Prop := fun xs H Q => (∃ x n, xs = [x] ∧ LenV K x H n ∧ Q (.int n) H) ∨ (∃ a kvs, xs = [V.ref a] ∧ H a = some (.dK kvs) ∧ Q (.int kvs.length) H) ∨ rLenT xs H Q
theorem call_lenX {X : Cx} : CallR X (.builtin "len") (rLenX X.K) := CallR.or call_len (CallR.or call_lenD call_len_dT)
theorem RepK.length {B : Hp} : ∀ {vs : List (Key × V)} {ds : List (D × D)}, RepK K mg B vs ds → vs.length = ds.length
  | _, _, .nil => rfl
  | _, _, .cons _ r => by rw [List.length_cons, List.length_cons, r.length]
theorem RepT.length {B : Hp} : ∀ {vs : List (List Key × V)} {ds : List (D × D)}, RepT K mg B vs ds → vs.length = ds.length
  | _, _, .nil => rfl
  | _, _, .cons _ r => by rw [List.length_cons, List.length_cons, r.length]
theorem vr_len : VRn K mg (rLenX K) lenD := by
  intro ds m d h vs H B Q s r k
  unfold lenD at h
  split at h
  · cases h; cases r with | cons r rr => cases rr; obtain ⟨p, vs, rfl, h1, h2⟩ := r.lst s; exact .inl ⟨_, _, rfl, .inl ⟨vs, SqL.of h1, rfl⟩, by rw [h2.length]; exact Rep.res s k (.int _)⟩
  · cases h; cases r with | cons r rr => cases rr; obtain ⟨p, vs, rfl, h1, h2⟩ := r.tup s; exact .inl ⟨_, _, rfl, .inr ⟨vs, SqT.of h1, rfl⟩, by rw [h2.length]; exact Rep.res s k (.int _)⟩
  · cases h; cases r with | cons r rr => cases rr; obtain ⟨p, vs, rfl, h1, h2⟩ := r.ktup s; exact .inl ⟨_, _, rfl, .inr ⟨vs, h1, rfl⟩, by rw [h2.length]; exact Rep.res s k (.int _)⟩
  · cases h; cases r with | cons r rr => cases rr; obtain ⟨p, vs, rfl, h1, h2⟩ := r.scr s; exact .inl ⟨_, _, rfl, .inl ⟨vs, h1, rfl⟩, by rw [h2.length]; exact Rep.res s k (.int _)⟩
  · obtain ⟨hl, h⟩ := ite_some h
    cases h; cases r with | cons r rr => cases rr; have z := r.str; subst z; exact .inl ⟨_, _, rfl, ⟨okL_le hl, rfl⟩, Rep.res s k (.int _)⟩
  · rename_i t es
    cases h
    cases r with
    | cons r rr =>
      cases rr
      cases t with
      | false => obtain ⟨p, kvs, rfl, h1, h2⟩ := r.dctK s; exact .inr (.inl ⟨p, kvs, rfl, h1, by rw [h2.length]; exact Rep.res s k (.int _)⟩)
      | true => obtain ⟨p, kvs, rfl, h1, h2⟩ := r.dctT s; exact .inr (.inr ⟨p, kvs, rfl, h1, by rw [h2.length]; exact Rep.res s k (.int _)⟩)
  · cases h
def ixSeq (ds : List D) (i : Int) : Option (Bool × D) := (atI ds i).map fun d => (false, d)
def ixD : D → D → Option (Bool × D)
  | .lst ds, .int i => ixSeq ds i
  | .tup ds, .int i => ixSeq ds i
  | .ktup ds, .int i => ixSeq ds i
  | .scr ds, .int i => ixSeq ds i
  | .str z, .int i => if okL z.length then (atI z.cps.toList i).map fun c => (false, .str ⟨#[c]⟩) else none
  | .dct t es, x => match dget (.dct t es) x with
    | some (some d) => some (false, d)
    | _ => none
  | _, _ => none
def rIxDct : R2 := fun x y H Q => ∃ a v, x = .ref a ∧ DGet H a y (some v) ∧ Q v H
theorem ix_dct {X : Cx} (hu : X.A.units + 1 < cLine) : IxR X rIxDct := by
  intro value slice pins s σ H x y v u Q I rx ry h hs
  obtain ⟨a, z, rfl, g, q⟩ := h
  cases rx
  exact tail_any (dict_typeIs I g) PySem.F.slot_dict_getitem.lookup (d_getItem hu I g ry fun w' s' I' rw' => ⟨z, H, I', rw', q⟩) hs
def rIxX (K : Fg) : R2 := fun x y H Q => rIx K x y H Q ∨ rIxDct x y H Q
theorem ix_any {X : Cx} (hu : X.A.units + 1 < cLine) : IxR X (rIxX X.K) := IxR.or ix_seq (ix_dct hu)
theorem RepL.atI {B : Hp} {vs : List V} {ds : List D} {i : Int} {d : D} (r : RepL K mg B vs ds) (h : L2.atI ds i = some d) : ∃ v, L2.atI vs i = some v ∧ Rep K mg B v d := by
  unfold L2.atI at h ⊢
  rw [r.length]
  cases e : ixN ds.length i with
  | none => rw [e] at h; cases h
  | some j =>
    rw [e] at h
    exact r.get (by simpa using h)
theorem vr_ix : VR2 K mg (rIxX K) ixD := by
  intro a b m d h x y H B Q s rx ry k
  have seq : ∀ {ds : List D} {i : Int} {p : Addr} {vs : List V}, ixSeq ds i = some (m, d) → RepL K mg B vs ds → ∃ v, L2.atI vs i = some v ∧ Q v H := fun {ds i p vs} h hr => by
    unfold ixSeq at h
    cases e : L2.atI ds i with
    | none => rw [e] at h; cases h
    | some z =>
      rw [e] at h
      obtain ⟨⟩ := Option.some.inj h
      obtain ⟨v, e1, e2⟩ := hr.atI e
      exact ⟨v, e1, Rep.res s k e2⟩
  unfold ixD at h
  split at h
  · obtain ⟨p, vs, rfl, h1, h2⟩ := rx.lst s; obtain ⟨v, e, q⟩ := seq (p := p) h h2; exact .inl (.inl ⟨p, vs, _, v, rfl, ry.int, SqL.of h1, e, q⟩)
  · obtain ⟨p, vs, rfl, h1, h2⟩ := rx.tup s; obtain ⟨v, e, q⟩ := seq (p := p) h h2; exact .inl (.inr (.inl ⟨p, vs, _, v, rfl, ry.int, SqT.of h1, e, q⟩))
  · obtain ⟨p, vs, rfl, h1, h2⟩ := rx.ktup s; obtain ⟨v, e, q⟩ := seq (p := p) h h2; exact .inl (.inr (.inl ⟨p, vs, _, v, rfl, ry.int, h1, e, q⟩))
  · obtain ⟨p, vs, rfl, h1, h2⟩ := rx.scr s; obtain ⟨v, e, q⟩ := seq (p := p) h h2; exact .inl (.inl ⟨p, vs, _, v, rfl, ry.int, h1, e, q⟩)
  · split at h
    · rename_i z i hl
      cases e : L2.atI z.cps.toList i with
      | none => rw [e] at h; cases h
      | some c =>
        rw [e] at h
        obtain ⟨⟩ := Option.some.inj h
        exact .inl (.inr (.inr ⟨z, i, c, rx.str, ry.int, okL_le hl, e, Rep.res s k (.str _)⟩))
    · cases h
  · split at h
    · rename_i t es z e
      cases h
      obtain ⟨p, w, rfl, g, hw⟩ := dget_rep s rx ry e
      rcases hw with ⟨_, q⟩ | ⟨u, z', rfl, q, hr⟩
      · cases q
      · cases q
        exact .inr ⟨p, u, rfl, g, Rep.res s k hr⟩
    · cases h
  · cases h
def absD : List D → Option (Bool × D)
  | [.int i] => some (false, .int (if i < 0 then -i else i))
  | _ => none
theorem vr_abs : VRn K mg (fun xs H Q => ∃ i, xs = [.int i] ∧ Q (.int (if i < 0 then -i else i)) H) absD := by
  intro ds m d h vs H B Q s r k
  unfold absD at h
  split at h
  · cases h; cases r with | cons r rr => cases rr; exact ⟨_, by rw [r.int], Rep.res s k (.int _)⟩
  · cases h
def intD : List D → Option (Bool × D)
  | [.int i] => some (false, .int i)
  | [.bl b] => some (false, .int (if b then 1 else 0))
  | _ => none
theorem vr_int : VRn K mg (fun xs H Q => (∃ i, xs = [.int i] ∧ Q (.int i) H) ∨ ∃ k, xs = [.bl k] ∧ Q (.int (if k then 1 else 0)) H) intD := by
  intro ds m d h vs H B Q s r k
  unfold intD at h
  split at h
  · cases h; cases r with | cons r rr => cases rr; exact .inl ⟨_, by rw [r.int], Rep.res s k (.int _)⟩
  · cases h; cases r with | cons r rr => cases rr; exact .inr ⟨_, by rw [r.bl], Rep.res s k (.int _)⟩
  · cases h
def strD : List D → Option (Bool × D)
  | [.int i] => if decide (i.natAbs.log2 < 1920) then some (false, .str (toString i)) else none
  | _ => none
theorem vr_str : VRn K mg (fun xs H Q => ∃ i, xs = [.int i] ∧ i.natAbs.log2 < 1920 ∧ Q (.str (toString i)) H) strD := by
  intro ds m d h vs H B Q s r k
  unfold strD at h
  split at h
  · obtain ⟨hl, h⟩ := ite_some h
    cases h; cases r with | cons r rr => cases rr; exact ⟨_, by rw [r.int], of_decide_eq_true hl, Rep.res s k (.str _)⟩
  · cases h
/-- tuple(x), list(x) -/
def tupleD : List D → Option (Bool × D)
  | [.lst ds] => some (false, .tup ds)
  | [.tup ds] => some (false, .tup ds)
  | [.ktup ds] => some (false, .ktup ds)
  | [.scr ds] => some (false, .tup ds)
  | _ => none
def rTupleOf (K : Fg) : List V → Hp → VK → Prop := fun xs H Q => ∃ p ys, xs = [.ref p] ∧ ((SqL K H p ys ∧ ∀ l, H l = none → Q (.ref l) (upd H l (.tup ys))) ∨ (SqT K H p ys ∧ Q (.ref p) H))
theorem vr_tuple : VRn K mg (rTupleOf K) tupleD := by
  intro ds m d h vs H B Q s r k
  unfold tupleD at h
  split at h
  · cases h; cases r with | cons r rr => cases rr; obtain ⟨p, vs, rfl, h1, h2⟩ := r.lst s; exact ⟨p, vs, rfl, .inl ⟨SqL.of h1, new_tup s k h2⟩⟩
  · cases h; cases r with | cons r rr => cases rr; obtain ⟨p, vs, rfl, h1, h2⟩ := r.tup s; exact ⟨p, vs, rfl, .inr ⟨SqT.of h1, Rep.res s k r.tup'⟩⟩
  · cases h; cases r with
    | cons r rr =>
      cases rr
      obtain ⟨p, vs, rfl, h1, h2⟩ := r.ktup s
      rcases r with r | ⟨a, e, h⟩
      · exact ⟨p, vs, rfl, .inr ⟨h1, Rep.res s k r⟩⟩
      · exact h.elim
  · cases h; cases r with | cons r rr => cases rr; obtain ⟨p, vs, rfl, h1, h2⟩ := r.scr s; exact ⟨p, vs, rfl, .inl ⟨h1, new_tup s k h2⟩⟩
  · cases h
def listD : List D → Option (Bool × D)
  | [.lst ds] => some (true, .lst ds)
  | [.tup ds] => some (true, .lst ds)
  | [.ktup ds] => some (true, .lst ds)
  | [.scr ds] => some (true, .lst ds)
  | _ => none
def rListOf (K : Fg) : List V → Hp → VK → Prop := fun xs H Q => ∃ p ys, xs = [.ref p] ∧ (SqL K H p ys ∨ SqT K H p ys) ∧ ∀ l, H l = none → Q (.ref l) (upd H l (.lst ys))
theorem vr_list : VRn K mg (rListOf K) listD := by
  intro ds m d h vs H B Q s r k
  unfold listD at h
  split at h
  · cases h; cases r with | cons r rr => cases rr; obtain ⟨p, vs, rfl, h1, h2⟩ := r.lst s; exact ⟨p, vs, rfl, .inl (SqL.of h1), new_lst s k h2⟩
  · cases h; cases r with | cons r rr => cases rr; obtain ⟨p, vs, rfl, h1, h2⟩ := r.tup s; exact ⟨p, vs, rfl, .inr (SqT.of h1), new_lst s k h2⟩
  · cases h; cases r with | cons r rr => cases rr; obtain ⟨p, vs, rfl, h1, h2⟩ := r.ktup s; exact ⟨p, vs, rfl, .inr h1, new_lst s k h2⟩
  · cases h; cases r with | cons r rr => cases rr; obtain ⟨p, vs, rfl, h1, h2⟩ := r.scr s; exact ⟨p, vs, rfl, .inl h1, new_lst s k h2⟩
  · cases h
def intsD : List D → Option (List Int)
  | [] => some []
  | .int i :: ds => (intsD ds).map (i :: ·)
  | _ :: _ => none
theorem RepL.ints {B : Hp} : ∀ {vs : List V} {ds : List D} {ns : List Int}, RepL K mg B vs ds → intsD ds = some ns → vs = ns.map V.int
  | _, _, _, .nil, h => by cases h; rfl
  | _, _, _, .cons (d := d) (ds := ds) r rr, h => by
    cases d with
    | int i =>
      cases r
      unfold intsD at h
      cases e : intsD ds with
      | none => rw [e] at h; cases h
      | some ns => rw [e] at h; obtain ⟨⟩ := Option.some.inj h; rw [rr.ints e]; rfl
    | _ => cases h
theorem repL_ints {B : Hp} (ns : List Int) : RepL K mg B (ns.map V.int) (ns.map D.int) := RepL.map ns fun i => .int i
theorem intsD_map (ns : List Int) : intsD (ns.map D.int) = some ns := by
  induction ns with
  | nil => rfl
  | cons n ns ih => rw [List.map_cons]; unfold intsD; rw [ih]; rfl
def blsD : List D → Option (List Bool)
  | [] => some []
  | .bl i :: ds => (blsD ds).map (i :: ·)
  | _ :: _ => none
theorem RepL.bls {B : Hp} : ∀ {vs : List V} {ds : List D} {ns : List Bool}, RepL K mg B vs ds → blsD ds = some ns → vs = ns.map V.bl
  | _, _, _, .nil, h => by cases h; rfl
  | _, _, _, .cons (d := d) (ds := ds) r rr, h => by
    cases d with
    | bl i =>
      cases r
      unfold blsD at h
      cases e : blsD ds with
      | none => rw [e] at h; cases h
      | some ns => rw [e] at h; obtain ⟨⟩ := Option.some.inj h; rw [rr.bls e]; rfl
    | _ => cases h
theorem blsD_map (ns : List Bool) : blsD (ns.map D.bl) = some ns := by
  induction ns with
  | nil => rfl
  | cons n ns ih => rw [List.map_cons]; unfold blsD; rw [ih]; rfl
def sumD : List D → Option (Bool × D)
  | [.lst ds] => (intsD ds).map fun ns => (false, .int ns.sum)
  | [.tup ds] => (intsD ds).map fun ns => (false, .int ns.sum)
  | _ => none
def rSumT (K : Fg) : List V → Hp → VK → Prop := fun vs H Q => ∃ (a : Addr) (ns : List Int), vs = [V.ref a] ∧ SqT K H a (ns.map V.int) ∧ Q (.int ns.sum) H
theorem cr_sumT {X : Cx} (hc : X.calm = true) : CallR X (.builtin "sum") (rSumT X.K) := by
  intro pins s σ H vs us Q I r h
  obtain ⟨a, ns, rfl, hs, q⟩ := h
  obtain ⟨its, rv, hl, _⟩ := I.tuple hs
  rw [Vals.ref1 r]
  have hi := rv.ints
  obtain ⟨xs, e⟩ := hi.allInts.items
  have hn : numsOf (intItems xs).toList = ns := by rw [← e]; exact hi.numsOf
  rw [nums_intItems] at hn
  rw [e] at hl
  refine PySem.W.ktm_sumG (I.ok.hd hc) hl fun h' tk t' hk => ?_
  rw [preSum_eq, List.take_of_length_le (by simp), hn]
  exact ⟨.int _, H, I.kept hk, ⟨_, rfl⟩, q⟩
def rSumX (K : Fg) : List V → Hp → VK → Prop := fun vs H Q => rSum K vs H Q ∨ rSumT K vs H Q
theorem cr_sumX {X : Cx} (hc : X.calm = true) : CallR X (.builtin "sum") (rSumX X.K) := CallR.or (cr_sum hc) (cr_sumT hc)
theorem vr_sum : VRn K mg (rSumX K) sumD := by
  intro ds m d h vs H B Q s r k
  unfold sumD at h
  split at h
  · rename_i xs
    cases e : intsD xs with
    | none => rw [e] at h; cases h
    | some ns =>
      rw [e] at h; obtain ⟨⟩ := Option.some.inj h
      cases r with | cons r rr => cases rr; obtain ⟨p, vs, rfl, h1, h2⟩ := r.lst s; have z := h2.ints e; subst z; exact .inl ⟨p, ns, rfl, SqL.of h1, Rep.res s k (.int _)⟩
  · rename_i xs
    cases e : intsD xs with
    | none => rw [e] at h; cases h
    | some ns =>
      rw [e] at h; obtain ⟨⟩ := Option.some.inj h
      cases r with | cons r rr => cases rr; obtain ⟨p, vs, rfl, h1, h2⟩ := r.tup s; have z := h2.ints e; subst z; exact .inr ⟨p, ns, rfl, SqT.of h1, Rep.res s k (.int _)⟩
  · cases h
def anyD : List D → Option (Bool × D)
  | [.lst ds] => (blsD ds).map fun ns => (false, .bl (ns.any id))
  | _ => none
theorem vr_any : VRn K mg (rAny K) anyD := by
  intro ds m d h vs H B Q s r k
  unfold anyD at h
  split at h
  · rename_i xs
    cases e : blsD xs with
    | none => rw [e] at h; cases h
    | some ns =>
      rw [e] at h; obtain ⟨⟩ := Option.some.inj h
      cases r with | cons r rr => cases rr; obtain ⟨p, vs, rfl, h1, h2⟩ := r.lst s; have z := h2.bls e; subst z; exact ⟨p, ns, rfl, SqL.of h1, Rep.res s k (.bl _)⟩
  · cases h
def allD : List D → Option (Bool × D)
  | [.lst ds] => (blsD ds).map fun ns => (false, .bl (ns.all id))
  | _ => none
theorem vr_all : VRn K mg (rAll K) allD := by
  intro ds m d h vs H B Q s r k
  unfold allD at h
  split at h
  · rename_i xs
    cases e : blsD xs with
    | none => rw [e] at h; cases h
    | some ns =>
      rw [e] at h; obtain ⟨⟩ := Option.some.inj h
      cases r with | cons r rr => cases rr; obtain ⟨p, vs, rfl, h1, h2⟩ := r.lst s; have z := h2.bls e; subst z; exact ⟨p, ns, rfl, SqL.of h1, Rep.res s k (.bl _)⟩
  · cases h
def maxI : List Int → Int
  | [] => 0
  | n :: ns => ns.foldl max n
def minI : List Int → Int
  | [] => 0
  | n :: ns => ns.foldl min n
theorem foldl_max_spec : ∀ (ns : List Int) (n : Int), (ns.foldl max n = n ∨ ns.foldl max n ∈ ns) ∧ n ≤ ns.foldl max n ∧ ∀ y ∈ ns, y ≤ ns.foldl max n
  | [], n => ⟨.inl rfl, Int.le_refl _, fun _ h => (nomatch h)⟩
  | x :: ns, n => by
    obtain ⟨h1, h2, h3⟩ := foldl_max_spec ns (max n x)
    rw [List.foldl_cons]
    have a1 : n ≤ max n x := Int.le_max_left _ _
    have a2 : x ≤ max n x := Int.le_max_right _ _
    refine ⟨?_, by omega, fun y hy => ?_⟩
    · rcases h1 with h1 | h1
      · rw [h1]
        by_cases q : n ≤ x
        · exact .inr (by rw [show max n x = x by omega]; exact List.mem_cons_self)
        · exact .inl (by omega)
      · exact .inr (List.mem_cons_of_mem _ h1)
    · rcases List.mem_cons.mp hy with rfl | hy
      · omega
      · exact h3 y hy
theorem foldl_min_spec : ∀ (ns : List Int) (n : Int), (ns.foldl min n = n ∨ ns.foldl min n ∈ ns) ∧ ns.foldl min n ≤ n ∧ ∀ y ∈ ns, ns.foldl min n ≤ y
  | [], n => ⟨.inl rfl, Int.le_refl _, fun _ h => (nomatch h)⟩
  | x :: ns, n => by
    obtain ⟨h1, h2, h3⟩ := foldl_min_spec ns (min n x)
    rw [List.foldl_cons]
    refine ⟨?_, by omega, fun y hy => ?_⟩
    · rcases h1 with h1 | h1
      · rw [h1]
        by_cases q : x ≤ n
        · exact .inr (by rw [show min n x = x by omega]; exact List.mem_cons_self)
        · exact .inl (by omega)
      · exact .inr (List.mem_cons_of_mem _ h1)
    · rcases List.mem_cons.mp hy with rfl | hy
      · omega
      · exact h3 y hy
theorem maxI_eq {ns : List Int} {m : Int} (hm : m ∈ ns) (h : ∀ y ∈ ns, y ≤ m) : m = maxI ns := by
  cases ns with
  | nil => cases hm
  | cons n ns =>
    obtain ⟨h1, h2, h3⟩ := foldl_max_spec ns n
    have a : maxI (n :: ns) ≤ m := by
      rcases h1 with h1 | h1
      · show ns.foldl max n ≤ m; rw [h1]; exact h n List.mem_cons_self
      · exact h _ (List.mem_cons_of_mem _ h1)
    have b : m ≤ maxI (n :: ns) := by
      rcases List.mem_cons.mp hm with rfl | hm
      · exact h2
      · exact h3 m hm
    omega
theorem minI_eq {ns : List Int} {m : Int} (hm : m ∈ ns) (h : ∀ y ∈ ns, m ≤ y) : m = minI ns := by
  cases ns with
  | nil => cases hm
  | cons n ns =>
    obtain ⟨h1, h2, h3⟩ := foldl_min_spec ns n
    have a : m ≤ minI (n :: ns) := by
      rcases h1 with h1 | h1
      · show m ≤ ns.foldl min n; rw [h1]; exact h n List.mem_cons_self
      · exact h _ (List.mem_cons_of_mem _ h1)
    have b : minI (n :: ns) ≤ m := by
      rcases List.mem_cons.mp hm with rfl | hm
      · exact h2
      · exact h3 m hm
    omega
def maxD : List D → Option (Bool × D)
  | [.int i, .int j] => some (false, .int (if j > i then j else i))
  | [.lst (d :: ds)] => (intsD (d :: ds)).map fun ns => (false, .int (maxI ns))
  | _ => none
def minD : List D → Option (Bool × D)
  | [.int i, .int j] => some (false, .int (if j < i then j else i))
  | [.lst (d :: ds)] => (intsD (d :: ds)).map fun ns => (false, .int (minI ns))
  | _ => none
def rMaxX (K : Fg) : List V → Hp → VK → Prop := fun xs H Q => (∃ i j, xs = [.int i, .int j] ∧ Q (.int (if j > i then j else i)) H) ∨ rMax K xs H Q
def rMinX (K : Fg) : List V → Hp → VK → Prop := fun xs H Q => (∃ i j, xs = [.int i, .int j] ∧ Q (.int (if j < i then j else i)) H) ∨ rMin K xs H Q
theorem cr_maxX {X : Cx} (hc : X.calm = true) : CallR X (.builtin "max") (rMaxX X.K) := CallR.or (call_max2 hc) (cr_max hc)
theorem cr_minX {X : Cx} (hc : X.calm = true) : CallR X (.builtin "min") (rMinX X.K) := CallR.or (call_min2 hc) (cr_min hc)
theorem intsD_len {ds : List D} {ns : List Int} (h : intsD ds = some ns) : ns.length = ds.length := by
  induction ds generalizing ns with
  | nil => cases h; rfl
  | cons d ds ih =>
    cases d with
    | int i =>
      unfold intsD at h
      cases e : intsD ds with
      | none => rw [e] at h; cases h
      | some ms => rw [e] at h; obtain ⟨⟩ := Option.some.inj h; rw [List.length_cons, List.length_cons, ih e]
    | _ => cases h
theorem vr_max : VRn K mg (rMaxX K) maxD := by
  intro ds m d h vs H B Q s r k
  unfold maxD at h
  split at h
  · cases h
    cases r with | cons r rr => cases rr with | cons r2 rr => cases rr; exact .inl ⟨_, _, by rw [r.int, r2.int], Rep.res s k (.int _)⟩
  · rename_i x xs
    cases e : intsD (x :: xs) with
    | none => rw [e] at h; cases h
    | some ns =>
      rw [e] at h; obtain ⟨⟩ := Option.some.inj h
      cases r with
      | cons r rr =>
        cases rr
        obtain ⟨p, vs, rfl, h1, h2⟩ := r.lst s
        have z := h2.ints e
        subst z
        refine .inr ⟨p, ns, rfl, SqL.of h1, by rw [intsD_len e]; simp, fun m hm hy => ?_⟩
        rw [maxI_eq hm hy]
        exact Rep.res s k (.int _)
  · cases h
theorem vr_min : VRn K mg (rMinX K) minD := by
  intro ds m d h vs H B Q s r k
  unfold minD at h
  split at h
  · cases h
    cases r with | cons r rr => cases rr with | cons r2 rr => cases rr; exact .inl ⟨_, _, by rw [r.int, r2.int], Rep.res s k (.int _)⟩
  · rename_i x xs
    cases e : intsD (x :: xs) with
    | none => rw [e] at h; cases h
    | some ns =>
      rw [e] at h; obtain ⟨⟩ := Option.some.inj h
      cases r with
      | cons r rr =>
        cases rr
        obtain ⟨p, vs, rfl, h1, h2⟩ := r.lst s
        have z := h2.ints e
        subst z
        refine .inr ⟨p, ns, rfl, SqL.of h1, by rw [intsD_len e]; simp, fun m hm hy => ?_⟩
        rw [minI_eq hm hy]
        exact Rep.res s k (.int _)
  · cases h
end
end DL

set_option Elab.async false
set_option linter.all false
set_option maxRecDepth 100000
set_option maxHeartbeats 4000000
namespace DL
open PySem PySem.Spec PyProof.Rows L2

/-- a list (t = false) or a tuple -/
def SqA (K : Fg) (H : Hp) (t : Bool) (a : Addr) (xs : List V) : Prop := if t then SqT K H a xs else SqL K H a xs
def ItS (t : Bool) (h : Heap) (it a : Addr) (i : Nat) : Prop := if t then h.IsTupleIter it a i else h.IsListIter it a i
def CoS (t : Bool) (h : Heap) (a : Addr) (items : Array Value) : Prop := if t then h.IsTuple a items else h.IsList a items
theorem drawsS {prog : Program} {w : World} {A : Around} (hh : A.handled = none) (t : Bool) (it a : Addr) (hne : a ≠ it) (items : Array Value) :
    Draws prog w A it [it, a] items.size (fun i v => items[i]? = some v) (fun i h => ItS t h it a i ∧ CoS t h a items) := by
  cases t with
  | false => exact Draws.list hh it a hne items
  | true => exact Draws.tuple hh it a hne items
theorem SqA.co {X : Cx} {pins : List (Addr × Obj)} {σ : L2.St} {H : Hp} {s : Shared} {t : Bool} {a : Addr} {xs : List V} (I : Inv X pins σ H s) (h : SqA X.K H t a xs) : ∃ its : List Value, Vals xs its ∧ CoS t s.heap a its.toArray := by
  cases t with
  | false => obtain ⟨its, r, p, _⟩ := I.list h; exact ⟨its, r, p.isList⟩
  | true => obtain ⟨its, r, p, _⟩ := I.tuple h; exact ⟨its, r, p⟩
theorem SqA.inj {X : Cx} {pins : List (Addr × Obj)} {σ : L2.St} {H : Hp} {s : Shared} {t : Bool} {a : Addr} {xs ys : List V} (I : Inv X pins σ H s) (h : SqA X.K H t a xs) (h' : SqA X.K H t a ys) : xs = ys := by
  cases t with
  | false => exact I.list_inj h h'
  | true => exact I.tuple_inj h h'
theorem CoS.obj {t : Bool} {h : Heap} {a : Addr} {items : Array Value} (c : CoS t h a items) : ∃ o, h.get? a = some o ∧ (o.cls = .type "list" ∨ o.cls = .type "tuple") := by
  cases t with
  | false => obtain ⟨o, e, c, _⟩ := c; exact ⟨o, e, .inl c⟩
  | true => obtain ⟨o, e, c, _⟩ := c; exact ⟨o, e, .inr c⟩
theorem ItS.obj {t : Bool} {h : Heap} {it a : Addr} {i : Nat} (c : ItS t h it a i) : ∃ o, h.get? it = some o ∧ (o.cls = .type "list_iterator" ∨ o.cls = .type "tuple_iterator") ∧ ∀ v, o.data ≠ .cell v := by
  cases t with
  | false => obtain ⟨o, e, c, d⟩ := c; exact ⟨o, e, .inl c, fun v q => by rw [d] at q; cases q⟩
  | true => obtain ⟨o, e, c, d⟩ := c; exact ⟨o, e, .inr c, fun v q => by rw [d] at q; cases q⟩
theorem ItS.at {t : Bool} {h h' : Heap} {it a : Addr} {i : Nat} (c : ItS t h it a i) (k : ∀ o, h.get? it = some o → h'.get? it = some o) : ItS t h' it a i := by
  cases t with
  | false => obtain ⟨o, e, r⟩ := c; exact ⟨o, k o e, r⟩
  | true => obtain ⟨o, e, r⟩ := c; exact ⟨o, k o e, r⟩
theorem co_ne_it {t : Bool} {h : Heap} {it a : Addr} {i : Nat} {items : Array Value} (c : CoS t h a items) (d : ItS t h it a i) : a ≠ it := by
  obtain ⟨o, e, q⟩ := c.obj
  obtain ⟨o', e', q', _⟩ := d.obj
  rintro rfl
  rw [e] at e'; cases e'
  rcases q with q | q <;> rcases q' with q' | q' <;> (rw [q] at q'; exact absurd (Value.type.inj q') (by decide))
theorem co_ne_enum {t : Bool} {h : Heap} {e it a : Addr} {i : Int} {old : Value} {items : Array Value} (c : CoS t h a items) (d : IsEnum h e it i old) : a ≠ e := by
  obtain ⟨o, q0, q⟩ := c.obj
  rintro rfl
  have d : h.get? a = some _ := d
  rw [q0] at d; cases d
  rcases q with q | q <;> exact absurd (Value.type.inj q) (by decide)
/-- enumerate's turns -/
def IteA (K : Fg) (t : Bool) (a : Addr) : It :=
  ⟨fun i H => ∃ (xs : List V) (x : V), SqA K H t a xs ∧ xs[i]? = some x,
    fun i H v H' => ∃ T x, v = .ref T ∧ H T = none ∧ H' = upd H T (.tup [.int (i : Nat), x]) ∧ ∀ xs, SqA K H t a xs → xs[i]? = some x,
    fun i H => ∃ xs : List V, SqA K H t a xs ∧ xs.length = i⟩
theorem turn_enumA {P : Program} {w : World} {K : PySem.W.Frag} {elts : List Expr} {kk : Nat} {tpos : Pos} (t : Bool) (a e it : Addr) :
    Turn P w K (.Tuple elts kk tpos) (IteA K t a) [e, it] e (fun i h => (∃ old, IsEnum h e it ((i : Nat) : Int) old) ∧ ItS t h it a i ∧ e ≠ it) where
  mem := by simp
  obj := fun i h st b hb => by
    obtain ⟨⟨old, he⟩, hi, _⟩ := st
    rcases (show b = e ∨ b = it by simpa using hb) with z | z
    · rw [z]; exact ⟨_, he, fun v q => nomatch q⟩
    · obtain ⟨o, q, _, d⟩ := hi.obj
      rw [z]; exact ⟨o, q, d⟩
  keep := fun i h h' st k => let ⟨⟨old, he⟩, hi, hne⟩ := st; ⟨⟨old, k e (by simp) _ he⟩, hi.at fun o q => k it (by simp) o q, hne⟩
  item := by
    intro X hP hw hK hc i pins s σ H E I hf st hg
    subst hP hw hK
    obtain ⟨⟨old, he⟩, hit, hne⟩ := st
    obtain ⟨xs, x, hq, hx⟩ := hg
    obtain ⟨its, rv, co⟩ := hq.co I
    obtain ⟨u, hu, ru⟩ := rv.get hx
    have nit := co_ne_it co hit
    have nen := co_ne_enum co he
    have hel : e < s.heap.objs.size := Heap.lt_size he
    have hil : it < s.heap.objs.size := by obtain ⟨_, q, _⟩ := hit.obj; exact Heap.lt_size q
    have hlt : i < its.toArray.size := by
      have := (List.getElem?_eq_some_iff.mp hu).1
      simpa using this
    refine wpAny_pyNext_enum_itemC (drawsS (A := X.A.in1) (I.ok.hd hc) t it a nit its.toArray) he ⟨hit, co⟩ hlt hne (by simp [hne, Ne.symm nen]) fun y h' tk hy ho st' hT hsz hk => ?_
    have hyu : y = u := by
      have : its.toArray[i]? = some u := by simpa using hu
      rw [this] at hy; exact (Option.some.inj hy).symm
    subst hyu
    refine ⟨_, rfl, wpAny_letOwnedTupleGo_enum (s := { s with heap := h', toks := tk + 1 }) ho fun h'' he' sb => ?_⟩
    have hT2 : h''.get? s.heap.objs.size = some { cls := .type "tuple", data := .seq #[.int i tk, y] } := (sb.2 _ (Nat.ne_of_gt hel)).trans hT
    have new : ObjOk X.prog X.w (upd H s.heap.objs.size (.tup [.int (i : Nat), x])) h'' s.heap.objs.size (.tup [.int (i : Nat), x]) :=
      ⟨by show 2 ≤ sizeLine; decide, [.int i tk, y], .cons ⟨_, rfl⟩ (.cons ru .nil), ⟨_, hT2, rfl, _, rfl⟩⟩
    have I1 : Inv X pins σ (upd H s.heap.objs.size (.tup [.int (i : Nat), x])) { s with heap := h'', toks := tk + 1 } :=
      I.turnedNew (ch := [e, it]) (fun b ob hb q => (sb.2 b (fun z => hb (by simp [z]))).trans (hk b ob (fun z => hb (by simp [z])) (fun z => hb (by simp [z])) q)) hf (Nat.le_refl _) new
    refine ⟨.ref s.heap.objs.size, _, I1, rfl, ⟨_, x, rfl, I.hok.fresh (Nat.le_refl _), rfl, fun ys hy => by rw [SqA.inj I hy hq]; exact hx⟩, ⟨⟨y, ?_⟩, st'.1.at fun o q => (sb.2 it (Ne.symm hne)).trans q, hne⟩, fun b hb => ?_⟩
    · have e1 : ((i + 1 : Nat) : Int) = (i : Int) + 1 := by omega
      rw [e1]; exact he'
    · have hb' : b < s.heap.objs.size := by
        rcases (show b = e ∨ b = it by simpa using hb) with z | z
        · rw [z]; exact hel
        · rw [z]; exact hil
      rw [upd_ne (Nat.ne_of_lt hb')]
      exact (hf b hb).1
  done := by
    intro X hP hw hK hc i pins s σ H E I hf st hg
    subst hP hw hK
    obtain ⟨⟨old, he⟩, hit, hne⟩ := st
    obtain ⟨xs, hq, hx⟩ := hg
    obtain ⟨its, rv, co⟩ := hq.co I
    obtain ⟨f0, f1, f2, f3, f4, f5⟩ := hf it (by simp)
    have hsz : its.toArray.size = i := by rw [List.size_toArray, ← rv.length]; exact hx
    have D := drawsS (prog := X.prog) (w := X.w) (A := X.A.in1) (I.ok.hd hc) t it a (co_ne_it co hit) its.toArray
    rw [hsz] at D
    exact wpAny_pyNext_enum_endD D he ⟨hit, co⟩ fun h' eb => ⟨rfl, I.turned (t' := s.toks) (fun b o hb q => eb b o hb q) f0 f1 f3 f4 f5⟩
  self := fun A i s Q E st h => let ⟨⟨_, he⟩, _⟩ := st; wpAny_pyIter_enum he h

theorem meets_enum1 {v : Value} {o : Obj} {H : Heap → Prop} (B : Begins v o H) :
    Meets (Builtin.«enumerate.__new__» ⟨[.type "enumerate", v], []⟩) (fun _ R s => H s.heap ∧
      R (.ok (.ret (.ref (s.heap.push o).objs.size))) { s with heap := (s.heap.push o).push { cls := .type "enumerate", data := .fields #[.none, .bool false, .ref s.heap.objs.size, rawInt 0, .none, .none] } }) :=
  .of_wp fun prog w A R s h => by
    obtain ⟨hp, g, d, tk, os⟩ := s; obtain ⟨h1, h⟩ := h
    have hsub := sub_enumerate
    have q1 : ∀ {A' : Around} {E : Value → Shared → Prop} {Q : Value → Shared → Prop}, Q (.ref hp.objs.size) ⟨(hp.push o), g, d, tk, os⟩ → wpAny (model prog w) A' (pyIter v) Q E ⟨hp, g, d, tk, os⟩ :=
      fun q => B.iter prog w _ _ ⟨hp, g, d, tk, os⟩ _ h1 q
    wp_walk using q1
    refine wpAny_stack_any fun st => wpAny_pure ?_
    split
    · rename_i c _ _ _ _ _
      cases (c == Value.type "enumerate") <;>
        (wp_walk using q1
         exact ⟨_, rfl, h⟩)
    · wp_walk using q1
      exact ⟨_, rfl, h⟩
theorem enum_begins1 {prog : Program} {w : World} {A : Around} {E : Value → Shared → Prop} {s : Shared} {v : Value} {o : Obj} {H : Heap → Prop} {Q : Value → Shared → Prop} (B : Begins v o H) (h1 : H s.heap)
    (h : ∀ h', IsEnum h' (s.heap.objs.size + 1) s.heap.objs.size 0 .none → h'.get? s.heap.objs.size = some o → h'.objs.size = s.heap.objs.size + 2 →
      (∀ b o, s.heap.get? b = some o → h'.get? b = some o) → Q (.ref (s.heap.objs.size + 1)) { s with heap := h' }) :
    wpAny (model prog w) A (call (.type "enumerate") [v]) Q E s := by
  refine callType_new F.called_enumerate (by decide) (F.typeCall_enumerate_1 _) (F.newCall_enumerate_1 _) (fun obj => F.args_object_init_2 obj _) F.entry_enumerate_new
    (meets_enum1 B) ⟨h1, ?_⟩
  have z1 : (s.heap.push o).objs.size = s.heap.objs.size + 1 := Heap.size_push ..
  show _ ∧ _
  rw [z1]
  have he : IsEnum ((s.heap.push o).push { cls := .type "enumerate", data := .fields #[.none, .bool false, .ref s.heap.objs.size, rawInt 0, .none, .none] }) (s.heap.objs.size + 1) s.heap.objs.size 0 .none := by
    have e0 := Heap.get?_push_size (s.heap.push o) (o := { cls := .type "enumerate", data := .fields #[.none, .bool false, .ref s.heap.objs.size, rawInt 0, .none, .none] }) rfl
    rw [z1] at e0
    exact e0
  refine ⟨⟨_, he, rfl⟩, h _ he ?_ ?_ fun b ob q => ?_⟩
  · exact Heap.get?_push_of_some _ (Heap.get?_push_size _ B.free)
  · rw [Heap.size_push, z1]
  · exact Heap.get?_push_of_some _ (Heap.get?_push_of_some _ q)
def iEnumA (K : Fg) (ta : TA) : TI := fun σ H R => ta σ H fun vs H1 => ∃ t a xs, vs = [.ref a] ∧ SqA K H1 t a xs ∧ R (IteA K t a) H1
theorem pi_enumA {X : Cx} {e : Expr} {ta : TA} {p pos tpos : Pos} {elts : List Expr} {kk : Nat} (hg : Gl X "enumerate") (hm : X.mg "enumerate" = none) (ha : PA X [e] ta) (hs : starEach [e] X.env = [(false, eval e X.env)] := by rfl) :
    PI X (.Tuple elts kk tpos) (.Call (.Name "enumerate" p) [e] [] pos) (iEnumA X.K ta) := by
  refine ⟨fun pins s σ H R I h => ?_⟩
  refine Call_ (ld_blt I hg hm boot_enumerate (PyProof.Rows.callWith_type1 (thn (ha.run pos pins s σ H _ I h) fun us s1 ⟨vs, H1, I1, r1, q1⟩ => ?_) hs rfl))
  obtain ⟨t, a, xs, ex, hq, q⟩ := q1
  subst ex
  cases r1 with
  | cons r rr =>
    cases rr
    cases r
    obtain ⟨its, rv, co⟩ := hq.co I1
    have fin : ∀ h', IsEnum h' (s1.heap.objs.size + 1) s1.heap.objs.size 0 .none → ItS t h' s1.heap.objs.size a 0 → (∀ b o, s1.heap.get? b = some o → h'.get? b = some o) →
        PIE X pins σ (.Tuple elts kk tpos) R (.ref (s1.heap.objs.size + 1)) { s1 with heap := h' } := fun h' he hit hk => by
      have I2 : Inv X pins σ H1 { s1 with heap := h' } := I1.kept (t' := s1.toks) hk
      refine ⟨s1.heap.objs.size + 1, [s1.heap.objs.size + 1, s1.heap.objs.size], _, _, H1, rfl, I2, turn_enumA t a (s1.heap.objs.size + 1) s1.heap.objs.size, ⟨⟨.none, he⟩, hit, Nat.succ_ne_self _⟩, fun b hb => ?_, q⟩
      have hle : s1.heap.objs.size ≤ b := by
        rcases (show b = s1.heap.objs.size + 1 ∨ b = s1.heap.objs.size by simpa using hb) with z | z
        · rw [z]; exact Nat.le_add_right _ _
        · rw [z]; exact Nat.le_refl _
      exact I1.fpOk hle (I1.hok.fresh hle)
    cases t with
    | false => exact enum_begins1 (begins_list a its.toArray) co fun h' he hit hsz hk => wpAny_pyIter_enum he (fin h' he ⟨_, hit, rfl, rfl⟩ hk)
    | true => exact enum_begins1 (begins_tuple a its.toArray) co fun h' he hit hsz hk => wpAny_pyIter_enum he (fin h' he ⟨_, hit, rfl, rfl⟩ hk)
end DL

set_option Elab.async false
set_option linter.all false
set_option maxRecDepth 100000
set_option maxHeartbeats 4000000
namespace DL
open PySem PySem.Spec PyProof.Rows L2

section
variable {K : Fg} {mg : MG} {p : FP} {H B : Hp} {σ σ' : L2.St} {env env' : Env}
theorem get_set {α : Type} {l : List α} {i j : Nat} {x y : α} (h : (l.set i x)[j]? = some y) : (j = i ∧ y = x) ∨ (j ≠ i ∧ l[j]? = some y) := by
  by_cases e : j = i
  · subst e
    have hl : j < l.length := by
      have := (List.getElem?_eq_some_iff.mp h).1
      simpa using this
    rw [List.getElem?_set_self hl] at h
    exact .inl ⟨rfl, (Option.some.inj h).symm⟩
  · rw [List.getElem?_set_ne (Ne.symm e)] at h; exact .inr ⟨e, h⟩
/-- some slots forgotten or changed to shared values, the others kept -/
theorem ER.change (E : ER K mg p H B σ env) (hl : σ'.length = env'.length)
    (h : ∀ (j : Nat) s, env'[j]? = some s → s = .un ∨ (∃ v d, s = .sh d ∧ σ'[j]? = some (some v) ∧ Rep K mg B v d) ∨ (env[j]? = some s ∧ σ'[j]? = σ[j]?)) : ER K mg p H B σ' env' ∧ ∀ a, Owned σ' env' a → Owned σ env a := by
  have own : ∀ j a, OwnAt σ' env' j a → OwnAt σ env j a := by
    rintro j a ⟨e, d, q | q⟩
    · rcases h j _ q with z | ⟨v, d', z, _⟩ | ⟨z1, z2⟩
      · cases z
      · cases z
      · exact ⟨by rw [← z2]; exact e, d, .inl z1⟩
    · rcases h j _ q with z | ⟨v, d', z, _⟩ | ⟨z1, z2⟩
      · cases z
      · cases z
      · exact ⟨by rw [← z2]; exact e, d, .inr z1⟩
  refine ⟨⟨E.sub, E.b0, E.new, E.frm, E.iod, hl, fun i d q => ?_, fun i d q => ?_, fun i d q => ?_, fun i j a q q' => E.dis i j a (own i a q) (own j a q')⟩, fun a ⟨i, q⟩ => ⟨i, own i a q⟩⟩
  · rcases h i _ q with z | ⟨v, d', z, z1, z2⟩ | ⟨z1, z2⟩
    · cases z
    · cases z; exact ⟨v, z1, z2⟩
    · obtain ⟨v, e, r⟩ := E.sh i d z1; exact ⟨v, by rw [z2]; exact e, r⟩
  · rcases h i _ q with z | ⟨v, d', z, z1, z2⟩ | ⟨z1, z2⟩
    · cases z
    · cases z
    · obtain ⟨a, e, r⟩ := E.ow i d z1; exact ⟨a, by rw [z2]; exact e, r⟩
  · rcases h i _ q with z | ⟨v, d', z, z1, z2⟩ | ⟨z1, z2⟩
    · cases z
    · cases z
    · obtain ⟨a, e0, e, r⟩ := E.ioo i d z1; exact ⟨a, e0, by rw [z2]; exact e, r⟩
end
abbrev Gt := D → Env → Option Env
abbrev Gts := List D → Env → Option Env
def gN (i : Nat) : Gt := fun d env => match env[i]? with
  | some (.io _) => none
  | some _ => some (env.set i (.sh d))
  | none => none
def gsN : Gts := fun ds env => match ds with
  | [] => some env
  | _ => none
def gsC (g : Gt) (gs : Gts) : Gts := fun ds env => match ds with
  | d :: r => match g d env with
    | some e => gs r e
    | none => none
  | [] => none
def gT (gs : Gts) : Gt := fun d env => match d with
  | .tup ds => gs ds env
  | .ktup ds => gs ds env
  | _ => none
/-- the slots but for some are kept -/
def But (ts : List Nat) (σ σ' : L2.St) : Prop := σ'.length = σ.length ∧ ∀ j, j ∉ ts → σ'[j]? = σ[j]?
theorem But.rfl' {ts : List Nat} {σ : L2.St} : But ts σ σ := ⟨rfl, fun _ _ => rfl⟩
theorem But.trans {ts us : List Nat} {σ σ1 σ2 : L2.St} (h : But ts σ σ1) (k : But us σ1 σ2) : But (ts ++ us) σ σ2 :=
  ⟨k.1.trans h.1, fun j hj => by rw [List.mem_append, not_or] at hj; exact (k.2 j hj.2).trans (h.2 j hj.1)⟩
/-- what a target says: the slots ts are set, nothing new is owned -/
def Tgt (K : Fg) (mg : MG) (p : FP) (ts : List Nat) (H B : Hp) (σ : L2.St) (env : Env) (σ' : L2.St) (env' : Env) : Prop :=
  ER K mg p H B σ' env' ∧ But ts σ σ' ∧ env'.length = env.length ∧ (∀ j, j ∉ ts → env'[j]? = env[j]?) ∧ ∀ a, Owned σ' env' a → Owned σ env a
section
variable (X : Cx) (p : FP)
def tG (ts : List Nat) (g : Gt) : TG := fun v σ H Q => ∃ env B d env', ER X.K X.mg p H B σ env ∧ Rep X.K X.mg B v d ∧ g d env = some env' ∧ ∀ σ', Tgt X.K X.mg p ts H B σ env σ' env' → Q σ' H
def tGs (ts : List Nat) (g : Gts) : TGs := fun vs σ H Q => ∃ env B ds env', ER X.K X.mg p H B σ env ∧ RepL X.K X.mg B vs ds ∧ g ds env = some env' ∧ ∀ σ', Tgt X.K X.mg p ts H B σ env σ' env' → Q σ' H
abbrev DG (e : Expr) (ts : List Nat) (g : Gt) : Prop := PG X e (tG X p ts g)
abbrev DGs (es : List Expr) (ts : List Nat) (g : Gts) : Prop := PGs X es (tGs X p ts g)
end
section
variable {X : Cx} {p : FP} {W : Wx}
theorem pg_imp {e : Expr} {t t' : TG} (h : PG X e t) (i : ∀ v σ H Q, t' v σ H Q → t v σ H Q) : PG X e t' := ⟨fun pins s σ H v u Q I r q => h.run pins s σ H v u Q I r (i v σ H Q q)⟩
theorem pgs_imp {e : List Expr} {t t' : TGs} (h : PGs X e t) (i : ∀ v σ H Q, t' v σ H Q → t v σ H Q) : PGs X e t' := ⟨fun pins s σ H v u Q I r q => h.run pins s σ H v u Q I r (i v σ H Q q)⟩
theorem tgt_name {i : Nat} {H B : Hp} {σ : L2.St} {env env' : Env} {v : V} {d : D} (E : ER X.K X.mg p H B σ env) (r : Rep X.K X.mg B v d) (h : gN i d env = some env') : Tgt X.K X.mg p [i] H B σ env (σ.set i (some v)) env' := by
  unfold gN at h
  have fin : ∀ s, env[i]? = some s → Tgt X.K X.mg p [i] H B σ env (σ.set i (some v)) (env.set i (.sh d)) := fun s hs => by
    have hi : i < σ.length := by rw [E.len]; exact (List.getElem?_eq_some_iff.mp hs).1
    obtain ⟨E', o⟩ := E.change (σ' := σ.set i (some v)) (env' := env.set i (.sh d)) (by simp [E.len]) fun j s q => by
      rcases get_set q with ⟨e, z⟩ | ⟨e, z⟩
      · subst e; exact .inr (.inl ⟨v, d, z, List.getElem?_set_self hi, r⟩)
      · exact .inr (.inr ⟨z, List.getElem?_set_ne (Ne.symm e)⟩)
    exact ⟨E', ⟨by simp, fun j hj => List.getElem?_set_ne (fun e => hj (by simp [e]))⟩, by simp, fun j hj => List.getElem?_set_ne (fun e => hj (by simp [e])), o⟩
  cases hs : env[i]? with
  | none => rw [hs] at h; cases h
  | some s =>
    rw [hs] at h
    have e : env' = env.set i (.sh d) := by
      cases s with
      | io _ => cases h
      | un => exact (Option.some.inj h).symm
      | sh _ => exact (Option.some.inj h).symm
      | ow _ => exact (Option.some.inj h).symm
    rw [e]; exact fin s hs
theorem dg_name {i : Nat} {x : Str} {pos : Pos} (h : PG X (.Name x pos) (gName i)) : DG X p (.Name x pos) [i] (gN i) := by
  refine pg_imp h ?_
  rintro v σ H Q ⟨env, B, d, env', E, r, hg, q⟩
  exact q _ (tgt_name E r hg)
theorem dgs_nil : DGs X p [] [] gsN := by
  refine pgs_imp pgs_nil ?_
  rintro vs σ H Q ⟨env, B, ds, env', E, r, hg, q⟩
  cases r with
  | nil => cases hg; exact ⟨rfl, q σ ⟨E, But.rfl', rfl, fun _ _ => rfl, fun _ h => h⟩⟩
  | cons _ _ => cases hg
theorem dgs_cons {e : Expr} {es : List Expr} {ts us : List Nat} {g : Gt} {gs : Gts} (h1 : DG X p e ts g) (h2 : DGs X p es us gs)
    (hs : (assignEach (e :: es) X.env).map (·.2) = assign e X.env :: (assignEach es X.env).map (·.2) := by rfl) : DGs X p (e :: es) (ts ++ us) (gsC g gs) := by
  refine pgs_imp (pgs_cons h1 h2 hs) ?_
  rintro vs σ H Q ⟨env, B, ds, env', E, r, hg, q⟩
  cases r with
  | nil => cases hg
  | cons r rr =>
    unfold gsC at hg
    dsimp only at hg
    split at hg
    · rename_i e1 h1
      refine ⟨_, _, rfl, env, B, _, e1, E, r, h1, fun σ1 ⟨E1, b1, l1, k1, o1⟩ => ⟨e1, B, _, env', E1, rr, hg, fun σ2 ⟨E2, b2, l2, k2, o2⟩ => q σ2 ⟨E2, b1.trans b2, l2.trans l1, fun j hj => ?_, fun a h => o1 a (o2 a h)⟩⟩⟩
      rw [List.mem_append, not_or] at hj
      exact (k2 j hj.2).trans (k1 j hj.1)
    · cases hg
theorem dg_tup {es : List Expr} {k n : Nat} {pos : Pos} {ts : List Nat} {gs : Gts} (hc : X.calm = true) (h : DGs X p es ts gs) (hl : ∀ ds env env', gs ds env = some env' → ds.length = n)
    (hn : (assignEach es X.env).length = n := by rfl) (hst : (assignEach es X.env).findIdx? (·.1) = none := by rfl) : DG X p (.Tuple es k pos) ts (gT gs) := by
  refine pg_imp (pg_tup hc h hn hst) ?_
  rintro v σ H Q ⟨env, B, d, env', E, r, hg, q⟩
  unfold gT at hg
  split at hg
  · rename_i ds
    obtain ⟨a, vs, rfl, h1, h2⟩ := Rep1.tup E.sub (.inl r)
    exact ⟨a, vs, rfl, SqT.of h1, by rw [h2.length]; exact hl _ _ _ hg, env, B, ds, env', E, h2, hg, q⟩
  · rename_i ds
    obtain ⟨a, vs, rfl, h1, h2⟩ := Rep1.ktup E.sub (.inl r)
    exact ⟨a, vs, rfl, h1, by rw [h2.length]; exact hl _ _ _ hg, env, B, ds, env', E, h2, hg, q⟩
  · cases hg
theorem gsN_len {ds : List D} {env env' : Env} (h : gsN ds env = some env') : ds.length = 0 := by
  cases ds with
  | nil => rfl
  | cons _ _ => cases h
theorem gsC_len {g : Gt} {gs : Gts} {n : Nat} (k : ∀ ds env env', gs ds env = some env' → ds.length = n) {ds : List D} {env env' : Env} (h : gsC g gs ds env = some env') : ds.length = n + 1 := by
  cases ds with
  | nil => cases h
  | cons d r =>
    unfold gsC at h
    dsimp only at h
    split at h
    · rw [List.length_cons, k _ _ _ h]
    · cases h
end
structure WalkD (K : Fg) (mg : MG) (J : It) (ds : List D) (B : Hp) : Prop where
  goes : ∀ i H, i < ds.length → Sub B H → J.go i H
  stops : ∀ H, Sub B H → J.stop ds.length H
  yields : ∀ i H x H', i < ds.length → Sub B H → J.yld i H x H' → ∃ d, ds[i]? = some d ∧ ((H' = H ∧ Rep K mg B x d) ∨ ∃ T vs es, x = .ref T ∧ H T = none ∧ H' = upd H T (.tup vs) ∧ d = .tup es ∧ RepL K mg B vs es)
abbrev CI := Env → R (List D × Env)
section
variable (X : Cx) (p : FP) (W : Wx)
def tI (f : CI) : TI := fun σ H R => ∃ env B, ER X.K X.mg p H B σ env ∧ Goes p W (f env) fun r =>
  ∀ J H' B', ER X.K X.mg p H' B' σ r.2 → Fx σ env H B H' B' r.2 → WalkD X.K X.mg J r.1 B' → R J H'
abbrev DI (tg e : Expr) (f : CI) : Prop := PI X tg e (tI X p W f)
end
section
variable {X : Cx} {p : FP} {W : Wx} {tg : Expr}
theorem pi_imp {e : Expr} {t t' : TI} (h : PI X tg e t) (i : ∀ σ H Q, t' σ H Q → t σ H Q) : PI X tg e t' := ⟨fun pins s σ H Q I q => h.run pins s σ H Q I (i σ H Q q)⟩
theorem WalkD.mono {K : Fg} {mg : MG} {J : It} {ds : List D} {B B' : Hp} (w : WalkD K mg J ds B) (s : Sub B B') : WalkD K mg J ds B' where
  goes := fun i H h k => w.goes i H h (s.trans k)
  stops := fun H k => w.stops H (s.trans k)
  yields := fun i H x H' h k y => by
    obtain ⟨d, e, q⟩ := w.yields i H x H' h (s.trans k) y
    refine ⟨d, e, ?_⟩
    rcases q with ⟨q1, q2⟩ | ⟨T, vs, es, q1, q2, q3, q4, q5⟩
    · exact .inl ⟨q1, q2.mono s⟩
    · exact .inr ⟨T, vs, es, q1, q2, q3, q4, q5.mono s⟩
/-- a turn's item -/
theorem WalkD.turn {K : Fg} {mg : MG} {J : It} {ds : List D} {B0 B H H' : Hp} {i : Nat} {x : V} (w : WalkD K mg J ds B0) (s0 : Sub B0 B) (s : Sub B H) (h : i < ds.length) (y : J.yld i H x H') : ∃ d B', ds[i]? = some d ∧ Ext H B H' B' ∧ Rep K mg B' x d := by
  obtain ⟨d, e, q⟩ := w.yields i H x H' h (s0.trans s) y
  rcases q with ⟨rfl, q2⟩ | ⟨T, vs, es, rfl, q2, rfl, rfl, q5⟩
  · exact ⟨d, B, e, Ext.rfl' s, q2.mono s0⟩
  · have x := Ext.newB s (o := .tup vs) q2
    exact ⟨_, _, e, x, .tup upd_same ((q5.mono s0).mono x.base)⟩
/-- lists, tuples, texts -/
def iterD : D → Option (List D)
  | .lst ds => some ds
  | .tup ds => some ds
  | .ktup ds => some ds
  | .scr ds => some ds
  | .str z => some (z.cps.toList.map fun c => .str ⟨#[c]⟩)
  | _ => none
def iSeq (f : CE) : CI := fun env => (f env).bind fun r => (R.of (iterD r.2.1)).bind fun ds => .ok (ds, r.2.2)
def tSeqI (K : Fg) (te : TE) : TI := fun σ H R => te σ H fun x H1 => (∃ a xs, x = .ref a ∧ SqL K H1 a xs ∧ R (Itl K a) H1) ∨ (∃ a xs, x = .ref a ∧ SqT K H1 a xs ∧ R (Itt K a) H1) ∨ ∃ z, x = .str z ∧ R (Its z) H1
theorem pi_seq {l : Expr} {tl : TE} (hl : PE X l tl) : PI X tg l (tSeqI X.K tl) := by
  refine ⟨fun pins s σ H R I h => ?_⟩
  refine thn (hl.run pins s σ H _ I h) fun v s1 ⟨x, H1, I1, r1, q1⟩ => ?_
  have one : ∀ {a : Addr}, FpOk X pins H1 s1.heap.objs.size → ∀ b ∈ [s1.heap.objs.size], FpOk X pins H1 b := fun {a} f b hb => by
    have e : b = s1.heap.objs.size := by simpa using hb
    rw [e]; exact f
  have f0 := I1.fpOk (Nat.le_refl _) (I1.hok.fresh (Nat.le_refl _))
  rcases q1 with ⟨a, xs, e, hq, q⟩ | ⟨a, xs, e, hq, q⟩ | ⟨z, e, q⟩
  · subst e
    cases r1
    obtain ⟨its, rv, p, hz⟩ := I1.list hq
    refine wpAny_pyIter_list p.isList ?_
    exact ⟨s1.heap.objs.size, [s1.heap.objs.size], _, _, H1, rfl, I1.kept (t' := s1.toks) fun b o e => Heap.get?_push_of_some _ e, turn_list a _, ⟨_, Heap.get?_push_size _ rfl, rfl, rfl⟩, one (a := a) f0, q⟩
  · subst e
    cases r1
    obtain ⟨its, rv, p, hz⟩ := I1.tuple hq
    refine wpAny_pyIter_tuple (show s1.heap.IsTuple a its.toArray from p) ?_
    exact ⟨s1.heap.objs.size, [s1.heap.objs.size], _, _, H1, rfl, I1.kept (t' := s1.toks) fun b o e => Heap.get?_push_of_some _ e, turn_tuple a _, ⟨_, Heap.get?_push_size _ rfl, rfl, rfl⟩, one (a := a) f0, q⟩
  · subst e
    obtain ⟨t, rfl⟩ := r1
    cases ha : z.cps.all (· < 128)
    · refine wpAny_pyIter_wide ha ?_
      exact ⟨s1.heap.objs.size, [s1.heap.objs.size], _, _, H1, rfl, I1.kept (t' := s1.toks) fun b o e => Heap.get?_push_of_some _ e, turn_str _ z t "str_iterator" (.inr rfl), ⟨_, Heap.get?_push_size _ rfl, rfl, rfl⟩, one (a := 0) f0, q⟩
    · refine wpAny_pyIter_ascii ha ?_
      exact ⟨s1.heap.objs.size, [s1.heap.objs.size], _, _, H1, rfl, I1.kept (t' := s1.toks) fun b o e => Heap.get?_push_of_some _ e, turn_str _ z t "str_ascii_iterator" (.inl rfl), ⟨_, Heap.get?_push_size _ rfl, rfl, rfl⟩, one (a := 0) f0, q⟩
theorem walkD_list {K : Fg} {mg : MG} {B : Hp} {a : Addr} {xs : List V} {ds : List D} (h : SqL K B a xs) (r : RepL K mg B xs ds) : WalkD K mg (Itl K a) ds B where
  goes := fun i H hi s => walk_list.goes i H (by rw [r.length]; exact hi) (sql_mono s h)
  stops := fun H s => by rw [← r.length]; exact walk_list.stops H (sql_mono s h)
  yields := fun i H x H' hi s y => by
    obtain ⟨e, q⟩ := walk_list.yields i H x H' (by rw [r.length]; exact hi) (sql_mono s h) y
    obtain ⟨d, e2, r2⟩ := r.get' q
    exact ⟨d, e2, .inl ⟨e, r2⟩⟩
theorem walkD_tup {K : Fg} {mg : MG} {B : Hp} {a : Addr} {xs : List V} {ds : List D} (h : SqT K B a xs) (r : RepL K mg B xs ds) : WalkD K mg (Itt K a) ds B where
  goes := fun i H hi s => walk_tup.goes i H (by rw [r.length]; exact hi) (sqt_mono s h)
  stops := fun H s => by rw [← r.length]; exact walk_tup.stops H (sqt_mono s h)
  yields := fun i H x H' hi s y => by
    obtain ⟨e, q⟩ := walk_tup.yields i H x H' (by rw [r.length]; exact hi) (sqt_mono s h) y
    obtain ⟨d, e2, r2⟩ := r.get' q
    exact ⟨d, e2, .inl ⟨e, r2⟩⟩
theorem walkD_str {K : Fg} {mg : MG} {B : Hp} {z : Str} : WalkD K mg (Its z) (z.cps.toList.map fun c => .str ⟨#[c]⟩) B where
  goes := fun i H hi s => walk_str.goes i H (by simpa using hi) trivial
  stops := fun H s => by
    have e : (z.cps.toList.map fun c => D.str ⟨#[c]⟩).length = z.cps.size := by simp
    rw [e]; exact walk_str.stops H trivial
  yields := fun i H x H' hi s y => by
    obtain ⟨e, c, q1, q2⟩ := walk_str.yields i H x H' (by simpa using hi) trivial y
    subst q2
    exact ⟨.str ⟨#[c]⟩, by rw [List.getElem?_map]; simp [q1], .inl ⟨e, .str _⟩⟩
theorem di_seq {e : Expr} {f : CE} (h : DE X p W e f) : DI X p W tg e (iSeq f) := by
  refine pi_imp (pi_seq h) ?_
  rintro σ H Q ⟨env, B, E, h⟩
  refine ⟨env, B, E, (Goes.bind h).imp ?_⟩
  rintro ⟨m, d, e1⟩ h v H1 B1 E1 F1 r1
  obtain ⟨B2, E2, F2, r2, _⟩ := freeze E E1 F1 r1
  obtain ⟨ds, hd, h⟩ := of_goes h
  cases d with
  | lst es =>
    cases hd
    obtain ⟨a, vs, e, h1, h2⟩ : ∃ a vs, v = .ref a ∧ B2 a = some (.lst vs) ∧ RepL X.K X.mg B2 vs ds := by
      cases r2 with | lst h1 h2 => exact ⟨_, _, rfl, h1, h2⟩
    exact .inl ⟨a, vs, e, SqL.of (E2.sub _ _ h1), h _ H1 B2 E2 F2 (walkD_list (SqL.of h1) h2)⟩
  | tup es =>
    cases hd
    obtain ⟨a, vs, e, h1, h2⟩ : ∃ a vs, v = .ref a ∧ B2 a = some (.tup vs) ∧ RepL X.K X.mg B2 vs ds := by
      cases r2 with | tup h1 h2 => exact ⟨_, _, rfl, h1, h2⟩
    exact .inr (.inl ⟨a, vs, e, SqT.of (E2.sub _ _ h1), h _ H1 B2 E2 F2 (walkD_tup (SqT.of h1) h2)⟩)
  | ktup es =>
    cases hd
    obtain ⟨a, vs, e, h1, h2⟩ : ∃ a vs, v = .ref a ∧ SqT X.K B2 a vs ∧ RepL X.K X.mg B2 vs ds := by
      cases r2 with | ktup h1 h2 => exact ⟨_, _, rfl, h1, h2⟩
    exact .inr (.inl ⟨a, vs, e, sqt_mono E2.sub h1, h _ H1 B2 E2 F2 (walkD_tup h1 h2)⟩)
  | scr es =>
    cases hd
    obtain ⟨a, vs, e, h1, h2⟩ : ∃ a vs, v = .ref a ∧ SqL X.K B2 a vs ∧ RepL X.K X.mg B2 vs ds := by
      cases r2 with | scr h1 h2 => exact ⟨_, _, rfl, h1, h2⟩
    exact .inl ⟨a, vs, e, sql_mono E2.sub h1, h _ H1 B2 E2 F2 (walkD_list h1 h2)⟩
  | str z =>
    cases hd
    have e : v = .str z := by cases r2; rfl
    exact .inr (.inr ⟨z, e, h _ H1 B2 E2 F2 walkD_str⟩)
  | non => cases hd
  | bl _ => cases hd
  | int _ => cases hd
  | dct _ _ => cases hd
  | fn _ => cases hd
  | adr _ => cases hd
/-- lo, lo + 1, .. -/
def rng (lo hi : Int) : List D := (List.range (hi - lo).toNat).map fun k : Nat => D.int (lo + (k : Int))
def smallI (i : Int) : Bool := decide (-4611686018427387904 ≤ i) && decide (i < 4611686018427387904)
theorem smallI_ok {i : Int} (h : smallI i = true) : -(2 ^ 62) ≤ i ∧ i < 2 ^ 62 := by
  simp only [smallI, Bool.and_eq_true, decide_eq_true_eq] at h
  omega
theorem walkD_range {K : Fg} {mg : MG} {B : Hp} {lo : Int} {n : Nat} : WalkD K mg (Itr lo n) ((List.range n).map fun k : Nat => D.int (lo + (k : Int))) B where
  goes := fun i H hi s => walk_range.goes i H (by simpa using hi) trivial
  stops := fun H s => by
    have e : ((List.range n).map fun k : Nat => D.int (lo + (k : Int))).length = n := by simp
    rw [e]; exact walk_range.stops H trivial
  yields := fun i H x H' hi s y => by
    have hi' : i < n := by simpa using hi
    obtain ⟨e, q⟩ := walk_range.yields i H x H' hi' trivial y
    subst q
    exact ⟨.int (lo + i), by rw [List.getElem?_map, List.getElem?_range hi']; rfl, .inl ⟨e, .int _⟩⟩
def rngD1 : List D → Option (List D)
  | [.int j] => if smallI j then some (rng 0 j) else none
  | _ => none
def rngD2 : List D → Option (List D)
  | [.int i, .int j] => if smallI i && smallI j then some (rng i j) else none
  | _ => none
def iL (f : List D → Option (List D)) (fs : CA) : CI := fun env => (fs env).bind fun r => match rdL r.2 r.1 with
  | some ds => (R.of (f ds)).bind fun q => .ok (q, r.2)
  | none => .stuck
theorem iL_goes {f : List D → Option (List D)} {G : List D × Env → Prop} {r : List Op × Env} (h : Goes p W (match rdL r.2 r.1 with | some ds => (R.of (f ds)).bind fun q => .ok (q, r.2) | none => .stuck) G) : ∃ ds q, rdL r.2 r.1 = some ds ∧ f ds = some q ∧ G (q, r.2) := by
  cases hr : rdL r.2 r.1 with
  | none => rw [hr] at h; exact h.elim
  | some ds =>
    rw [hr] at h
    cases hq : f ds with
    | none => simp only [hq] at h; exact h.elim
    | some q => simp only [hq] at h; exact ⟨ds, q, rfl, hq, h⟩
theorem rep1L_one {K : Fg} {mg : MG} {H B : Hp} {vs : List V} {i : Int} (r : Rep1L K mg H B vs [.int i]) : vs = [.int i] := by
  cases r with
  | cons r rr => cases rr; rw [Rep1.int r]
theorem rep1L_two {K : Fg} {mg : MG} {H B : Hp} {vs : List V} {i j : Int} (r : Rep1L K mg H B vs [.int i, .int j]) : vs = [.int i, .int j] := by
  cases r with
  | cons r rr => rw [rep1L_one rr, Rep1.int r]
theorem di_range1 {a : Expr} {fs : CA} {q pos : Pos} (hg : Gl X "range") (hm : X.mg "range" = none) (ha : DA X p W [a] fs) (hs : starEach [a] X.env = [(false, eval a X.env)] := by rfl) : DI X p W tg (.Call (.Name "range" q) [a] [] pos) (iL rngD1 fs) := by
  refine pi_imp (pi_range1 hg hm ha hs) ?_
  rintro σ H Q ⟨env, B, E, h⟩
  refine ⟨env, B, E, (Goes.bind h).imp ?_⟩
  rintro ⟨os, e1⟩ h vs H1 B1 E1 F1 r1
  obtain ⟨ds, q, hr, hq, h⟩ := iL_goes h
  have h := fun J w => h J H1 B1 E1 F1 w
  have rr := E1.rep1L r1 hr
  unfold rngD1 at hq
  split at hq
  · rename_i j
    split at hq
    · rename_i hj
      cases hq
      refine ⟨j, rep1L_one rr, (smallI_ok hj).1, (smallI_ok hj).2, h (Itr 0 j.toNat) ?_⟩
      have e0 : rng 0 j = (List.range j.toNat).map fun k : Nat => D.int (0 + (k : Int)) := by unfold rng; rw [Int.sub_zero]
      rw [e0]
      exact walkD_range
    · cases hq
  · cases hq
theorem di_range2 {a b : Expr} {fs : CA} {q pos : Pos} (hg : Gl X "range") (hm : X.mg "range" = none) (ha : DA X p W [a, b] fs) (hs : starEach [a, b] X.env = [(false, eval a X.env), (false, eval b X.env)] := by rfl) (hs2 : starEach [b] X.env = [(false, eval b X.env)] := by rfl) : DI X p W tg (.Call (.Name "range" q) [a, b] [] pos) (iL rngD2 fs) := by
  refine pi_imp (pi_range2 hg hm ha hs hs2) ?_
  rintro σ H Q ⟨env, B, E, h⟩
  refine ⟨env, B, E, (Goes.bind h).imp ?_⟩
  rintro ⟨os, e1⟩ h vs H1 B1 E1 F1 r1
  obtain ⟨ds, q, hr, hq, h⟩ := iL_goes h
  have h := fun J w => h J H1 B1 E1 F1 w
  have rr := E1.rep1L r1 hr
  unfold rngD2 at hq
  split at hq
  · rename_i i j
    split at hq
    · rename_i hj
      cases hq
      rw [Bool.and_eq_true] at hj
      exact ⟨i, j, rep1L_two rr, ⟨(smallI_ok hj.1).1, (smallI_ok hj.1).2, (smallI_ok hj.2).1, (smallI_ok hj.2).2⟩, h (Itr i (j - i).toNat) walkD_range⟩
    · cases hq
  · cases hq
/-- (0, x), (1, y), .. -/
def enumL (ds : List D) : List D := (List.range ds.length).map fun k : Nat => D.tup [.int (k : Int), (ds[k]?).getD .non]
def enumD (d : D) : Option (List D) := match d with
  | .lst ds => some (enumL ds)
  | .tup ds => some (enumL ds)
  | .ktup ds => some (enumL ds)
  | .scr ds => some (enumL ds)
  | _ => none
def iV (g : D → Option (List D)) (f : CE) : CI := fun env => (f env).bind fun r => (R.of (g r.2.1)).bind fun q => .ok (q, r.2.2)
/-- one operand, frozen -/
theorem iV_ok {g : D → Option (List D)} {f : CE} {σ : L2.St} {H : Hp} {R' : It → Hp → Prop} (h : tI X p W (iV g f) σ H R') : tA X p W (aCons (oVal f) aNil) σ H fun vs H' => ∃ v d ds env B env' B', vs = [v] ∧ g d = some ds ∧ ER X.K X.mg p H' B' σ env' ∧ Fx σ env H B H' B' env' ∧ Rep X.K X.mg B' v d ∧ ∀ J, WalkD X.K X.mg J ds B' → R' J H' := by
  obtain ⟨env, B, E, h⟩ := h
  refine ⟨env, B, E, ?_⟩
  have h := Goes.bind h
  unfold aCons oVal aNil
  cases e : f env with
  | stuck => rw [e] at h; exact h
  | exc c => rw [e] at h; exact h
  | ok r =>
    rw [e] at h
    obtain ⟨ds, hg, h⟩ := of_goes h
    intro vs H' B' E' F' r'
    cases r' with
    | cons r1 rr =>
      cases rr
      exact ⟨_, _, ds, env, B, _, B', rfl, hg, E', F', r1, fun J w => h J H' B' E' F' w⟩
theorem sqA_mono {K : Fg} {B B' : Hp} {t : Bool} {a : Addr} {xs : List V} (h : SqA K B t a xs) (s : Sub B B') : SqA K B' t a xs := by
  cases t with
  | false => exact sql_mono s h
  | true => exact sqt_mono s h
/-- a list or tuple by the base -/
theorem seq_rep {K : Fg} {mg : MG} {B : Hp} {v : V} {d : D} {ds : List D} (r : Rep K mg B v d) (h : d = .lst ds ∨ d = .scr ds ∨ d = .tup ds ∨ d = .ktup ds) : ∃ t a vs, v = .ref a ∧ SqA K B t a vs ∧ RepL K mg B vs ds := by
  rcases h with rfl | rfl | rfl | rfl
  · cases r with | lst h1 h2 => exact ⟨false, _, _, rfl, SqL.of h1, h2⟩
  · cases r with | scr h1 h2 => exact ⟨false, _, _, rfl, h1, h2⟩
  · cases r with | tup h1 h2 => exact ⟨true, _, _, rfl, SqT.of h1, h2⟩
  · cases r with | ktup h1 h2 => exact ⟨true, _, _, rfl, h1, h2⟩
theorem walkD_enum {K : Fg} {mg : MG} {B : Hp} {t : Bool} {a : Addr} {vs : List V} {ds : List D} (h : SqA K B t a vs) (r : RepL K mg B vs ds) : WalkD K mg (IteA K t a) (enumL ds) B where
  goes := fun i H hi s => by
    have hi : i < ds.length := by simpa [enumL] using hi
    rw [← r.length] at hi
    exact ⟨vs, vs[i], sqA_mono h s, List.getElem?_eq_getElem hi⟩
  stops := fun H s => ⟨vs, sqA_mono h s, by rw [r.length]; simp [enumL]⟩
  yields := fun i H x H' hi s y => by
    have hi : i < ds.length := by simpa [enumL] using hi
    obtain ⟨T, u, rfl, n, e, q⟩ := y
    obtain ⟨d, hd, rd⟩ := r.get' (q vs (sqA_mono h s))
    refine ⟨_, by unfold enumL; rw [List.getElem?_map, List.getElem?_range hi]; rfl, .inr ⟨T, _, _, rfl, n, e, rfl, .cons (.int _) (.cons ?_ .nil)⟩⟩
    rw [hd]; exact rd
theorem di_enum {a : Expr} {elts : List Expr} {kk : Nat} {tpos : Pos} {f : CE} {q pos : Pos} (hg : Gl X "enumerate") (hm : X.mg "enumerate" = none) (ha : DE X p W a f) (hs : starEach [a] X.env = [(false, eval a X.env)] := by rfl) : DI X p W (.Tuple elts kk tpos) (.Call (.Name "enumerate" q) [a] [] pos) (iV enumD f) := by
  refine pi_imp (pi_enumA hg hm (da_cons (db_val ha) da_nil (by rw [hs]; rfl)) hs) ?_
  intro σ H Q h
  obtain ⟨env, B, E, h⟩ := iV_ok h
  refine ⟨env, B, E, h.imp ?_⟩
  intro r h vs H' B' E' F' r'
  obtain ⟨v, d, ds, env0, B0, env', B1, rfl, hg, E1, F1, r1, h⟩ := h vs H' B' E' F' r'
  have fin : ∀ es, (d = .lst es ∨ d = .scr es ∨ d = .tup es ∨ d = .ktup es) → ds = enumL es → ∃ t a xs, [v] = [.ref a] ∧ SqA X.K H' t a xs ∧ Q (IteA X.K t a) H' := fun es hd e => by
    obtain ⟨t, a, ws, rfl, q1, q2⟩ := seq_rep r1 hd
    exact ⟨t, a, ws, rfl, sqA_mono q1 E1.sub, h _ (by rw [e]; exact walkD_enum q1 q2)⟩
  cases d with
  | lst es => cases hg; exact fin es (.inl rfl) rfl
  | scr es => cases hg; exact fin es (.inr (.inl rfl)) rfl
  | tup es => cases hg; exact fin es (.inr (.inr (.inl rfl))) rfl
  | ktup es => cases hg; exact fin es (.inr (.inr (.inr rfl))) rfl
  | _ => cases hg
end
end DL

set_option Elab.async false
set_option linter.all false
set_option maxRecDepth 100000
set_option maxHeartbeats 4000000
namespace DL
open PySem PySem.Spec PyProof.Rows L2

def W0 : Wx := fun _ _ => False
def nox {α : Type} : R α → R α
  | .ok a => .ok a
  | _ => .stuck
def wipeE (env : Env) : List Nat → Env
  | [] => env
  | v :: vs => (wipeE env vs).set v .un
def backS : Option Slot → Slot
  | some (.sh d) => .sh d
  | _ => .un
def restE (env1 env : Env) : List Nat → Env
  | [] => env
  | v :: vs => (restE env1 env vs).set v (backS env1[v]?)
theorem wipe_get {σ : L2.St} {j : Nat} : ∀ {vs : List Nat}, (wipe σ vs)[j]? = if j ∈ vs then (σ[j]?).map fun _ => none else σ[j]?
  | [] => by simp [wipe]
  | v :: vs => by
    unfold wipe
    by_cases e : j = v
    · subst e
      by_cases hl : j < σ.length
      · rw [List.getElem?_set_self (by rw [wipe_length]; exact hl)]; simp [List.getElem?_eq_getElem hl]
      · rw [List.getElem?_eq_none (by rw [List.length_set, wipe_length]; omega)]
        rw [List.getElem?_eq_none (Nat.le_of_not_lt hl)]; simp
    · rw [List.getElem?_set_ne (Ne.symm e), wipe_get]
      simp [e]
theorem wipeE_get {env : Env} {j : Nat} {s : Slot} : ∀ {vs : List Nat}, (wipeE env vs)[j]? = some s → (j ∈ vs ∧ s = .un) ∨ (j ∉ vs ∧ env[j]? = some s)
  | [], h => .inr ⟨by simp, h⟩
  | v :: vs, h => by
    rcases get_set h with ⟨e, z⟩ | ⟨e, z⟩
    · exact .inl ⟨by simp [e], z⟩
    · rcases wipeE_get z with ⟨q, z⟩ | ⟨q, z⟩
      · exact .inl ⟨by simp [q], z⟩
      · exact .inr ⟨by simp [q, e], z⟩
theorem restE_get {env1 env : Env} {j : Nat} {s : Slot} : ∀ {vs : List Nat}, (restE env1 env vs)[j]? = some s → (j ∈ vs ∧ s = backS env1[j]?) ∨ (j ∉ vs ∧ env[j]? = some s)
  | [], h => .inr ⟨by simp, h⟩
  | v :: vs, h => by
    rcases get_set h with ⟨e, z⟩ | ⟨e, z⟩
    · exact .inl ⟨by simp [e], by rw [e]; exact z⟩
    · rcases restE_get z with ⟨q, z⟩ | ⟨q, z⟩
      · exact .inl ⟨by simp [q], z⟩
      · exact .inr ⟨by simp [q, e], z⟩
theorem wipeE_length {env : Env} : ∀ {vs : List Nat}, (wipeE env vs).length = env.length
  | [] => rfl
  | v :: vs => by unfold wipeE; rw [List.length_set, wipeE_length]
theorem restE_length {env1 env : Env} : ∀ {vs : List Nat}, (restE env1 env vs).length = env.length
  | [] => rfl
  | v :: vs => by unfold restE; rw [List.length_set, restE_length]
theorem backS_some {o : Option Slot} : backS o = .un ∨ ∃ d, backS o = .sh d ∧ o = some (.sh d) := by
  unfold backS
  split
  · exact .inr ⟨_, rfl, rfl⟩
  · exact .inl rfl
theorem wipe_but {σ σ2 : L2.St} {ts vs : List Nat} (b : But ts (wipe σ vs) σ2) (h : ∀ t ∈ ts, t ∈ vs) : wipe σ2 vs = wipe σ vs := by
  refine List.ext_getElem? fun j => ?_
  rw [wipe_get, wipe_get]
  by_cases q : j ∈ vs
  · rw [if_pos q, if_pos q]
    have hl : σ2.length = σ.length := by rw [b.1, wipe_length]
    by_cases hj : j < σ.length
    · rw [List.getElem?_eq_getElem hj, List.getElem?_eq_getElem (by omega)]; rfl
    · rw [List.getElem?_eq_none (by omega), List.getElem?_eq_none (by omega)]
  · rw [if_neg q, if_neg q, b.2 j fun z => q (h j z), wipe_get, if_neg q]

section
variable {K : Fg} {mg : MG} {p : FP}
theorem ER.wiped {H B : Hp} {σ : L2.St} {env : Env} (E : ER K mg p H B σ env) (vs : List Nat) : ER K mg p H B (wipe σ vs) (wipeE env vs) ∧ ∀ a, Owned (wipe σ vs) (wipeE env vs) a → Owned σ env a :=
  E.change (by rw [wipe_length, wipeE_length, E.len]) fun j s q => by
    rcases wipeE_get q with ⟨_, z⟩ | ⟨n, z⟩
    · exact .inl z
    · exact .inr (.inr ⟨z, by rw [wipe_get, if_neg n]⟩)
/-- a loop that fills a list D which nobody has -/
structure Lp (K : Fg) (mg : MG) (p : FP) (O : Addr → Prop) (H1 B1 : Hp) (P : Addr) (σ : L2.St) (env : Env) (H B : Hp) (acc : List D) : Prop where
  E : ER K mg p H B σ env
  own : ∀ a, Owned σ env a → O a
  keep : ∀ a o, H1 a = some o → ¬ O a → H a = some o
  dom : ∀ a, H1 a ≠ none → H a ≠ none
  base : Sub B1 B
  new : ∀ a o, B a = some o → B1 a = some o ∨ H1 a = none ∨ O a
  dat : ∃ vs, H P = some (.lst vs) ∧ RepL K mg B vs acc
  off : B P = none
  h0 : p.H0 P = none
  no : ¬ O P
variable {O : Addr → Prop} {H1 B1 : Hp} {P : Addr} {σ σ' : L2.St} {env env' : Env} {H B H' B' : Hp} {acc : List D}
theorem Lp.fx (L : Lp K mg p O H1 B1 P σ env H B acc) (E : ER K mg p H' B' σ env') (F : Fx σ env H B H' B' env') : Lp K mg p O H1 B1 P σ env' H' B' acc where
  E := E
  own := fun a h => L.own a (F.own a h)
  keep := fun a o h n => F.keep a o (L.keep a o h n) fun q => n (L.own a q)
  dom := fun a h => F.dom a (L.dom a h)
  base := L.base.trans F.base
  new := fun a o h => by
    rcases F.new a o h with q | q | q
    · exact L.new a o q
    · refine .inr (.inl ?_)
      cases e : H1 a with
      | none => rfl
      | some x => exact absurd q (L.dom a (by rw [e]; simp))
    · exact .inr (.inr (L.own a q))
  dat := by
    obtain ⟨vs, e, r⟩ := L.dat
    exact ⟨vs, F.keep _ _ e fun q => L.no (L.own _ q), r.mono F.base⟩
  off := by
    cases e : B' P with
    | none => rfl
    | some o =>
      rcases F.new P o e with q | q | q
      · rw [L.off] at q; cases q
      · obtain ⟨vs, e, r⟩ := L.dat; rw [q] at e; cases e
      · exact absurd (L.own _ q) L.no
  h0 := L.h0
  no := L.no
theorem Lp.move (L : Lp K mg p O H1 B1 P σ env H B acc) (E : ER K mg p H B σ' env') (o : ∀ a, Owned σ' env' a → Owned σ env a) : Lp K mg p O H1 B1 P σ' env' H B acc :=
  { L with E := E, own := fun a h => L.own a (o a h) }
theorem ER.priv (E : ER K mg p H B σ env) {o : HO} (n : B P = none) (z : p.H0 P = none) (no : ¬ Owned σ env P) : ER K mg p (upd H P o) B σ env where
  sub := fun a x e => by rw [upd_ne (ne_of_none e n)]; exact E.sub a x e
  b0 := E.b0
  new := E.new
  frm := fun a x e hi => by rw [upd_ne (ne_of_none e z)]; exact E.frm a x e hi
  iod := fun i a e => by
    by_cases h : a = P
    · rw [h, upd_same]; simp
    · rw [upd_ne h]; exact E.iod i a e
  len := E.len
  sh := E.sh
  ow := fun i d e => by
    obtain ⟨a, q, c, m, w⟩ := E.ow i d e
    have h : a ≠ P := fun h => no ⟨i, by rw [← h]; exact q, d, .inl e⟩
    exact ⟨a, q, c.mono (fun o ho => by rw [upd_ne h]; exact ho) Sub.rfl', m, w⟩
  ioo := fun i d e => by
    obtain ⟨a, e0, q, c, m⟩ := E.ioo i d e
    have h : a ≠ P := fun h => no ⟨i, by rw [← h]; exact q, d, .inr e⟩
    exact ⟨a, e0, q, c.mono (fun o ho => by rw [upd_ne h]; exact ho) Sub.rfl', m⟩
  dis := E.dis
theorem Lp.push (L : Lp K mg p O H1 B1 P σ env H B acc) (hn : H1 P = none) {v : V} {d : D} {vs : List V} (e : H P = some (.lst vs)) (r : Rep K mg B v d) : Lp K mg p O H1 B1 P σ env (upd H P (.lst (vs ++ [v]))) B (acc ++ [d]) :=
  { L with
    E := L.E.priv L.off L.h0 fun q => L.no (L.own _ q)
    keep := fun a o h n => by rw [upd_ne (ne_of_none h hn)]; exact L.keep a o h n
    dom := fun a h => by rw [upd_ne (fun q => h (by rw [q]; exact hn))]; exact L.dom a h
    dat := by
      obtain ⟨ws, e', q⟩ := L.dat
      rw [e] at e'; cases e'
      exact ⟨_, upd_same, q.append (.one r)⟩ }
theorem Lp.start (E : ER K mg p H1 B1 σ env) (hn : H1 P = none) : Lp K mg p (Owned σ env) H1 B1 P σ env (upd H1 P (.lst [])) B1 [] := by
  have no : ¬ Owned σ env P := fun q => by
    obtain ⟨o, e⟩ := E.there q
    rw [hn] at e; cases e
  exact ⟨E.priv (none_of_sub E.sub hn) (E.h0 hn) no, fun _ h => h, fun a o h _ => by rw [upd_ne (ne_of_none h hn)]; exact h, fun a h => by rw [upd_ne (fun q => h (by rw [q]; exact hn))]; exact h,
    Sub.rfl', fun _ _ h => .inl h, ⟨[], upd_same, .nil⟩, none_of_sub E.sub hn, E.h0 hn, no⟩
end
theorem nox_goes {α : Type} {p : FP} {W : Wx} {r : R α} {G : α → Prop} (h : Goes p W (nox r) G) : Goes p W0 r G := by
  cases r with
  | ok a => exact h
  | exc c => exact h.elim
  | stuck => exact h.elim
end DL

set_option Elab.async false
set_option linter.all false
set_option maxRecDepth 100000
set_option maxHeartbeats 4000000
namespace DL
open PySem PySem.Spec PyProof.Rows L2

def okT (n : Nat) : Bool := decide (n < 16777216)
def compL (own : List Nat) (g : Gt) (tt : CT) (f : CE) : List D → Env → List D → R (List D × Env)
  | [], env, acc => .ok (acc, env)
  | d :: ds, env, acc => (R.of (g d env)).bind fun e1 => (nox (tt e1)).bind fun r => match r.1 with
    | true => (nox (f r.2)).bind fun q => match okT acc.length with
      | true => compL own g tt f ds (wipeE q.2.2 own) (acc ++ [q.2.1])
      | false => .stuck
    | false => compL own g tt f ds (wipeE r.2 own) acc
def cComp (own : List Nat) (g : Gt) (tt : CT) (f : CE) (it : CI) : CE := fun env => (it env).bind fun r =>
  (compL own g tt f r.1 (wipeE r.2 own) []).bind fun q => .ok (true, .lst q.1, restE r.2 q.2 own)
theorem of_bind {α β : Type} {p : FP} {W : Wx} {o : Option α} {f : α → R β} {G : β → Prop} (h : Goes p W ((R.of o).bind f) G) : ∃ a, o = some a ∧ Goes p W (f a) G := by
  cases o with
  | none => exact h.elim
  | some a => exact ⟨a, rfl, h⟩
section
variable {X : Cx} {p : FP} {W : Wx}
theorem rest_fin {σ : L2.St} {env1 env' : Env} {own : List Nat} {H1 B1 H B : Hp} {P : Addr} {acc : List D} {O : Addr → Prop} (E1 : ER X.K X.mg p H1 B1 σ env1) (hO : ∀ a, O a → Owned σ env1 a) (hn : H1 P = none)
    (L : Lp X.K X.mg p O H1 B1 P (wipe σ own) env' H B acc) : ER X.K X.mg p H B σ (restE env1 env' own) ∧ Fx σ env1 H1 B1 H B (restE env1 env' own) ∧ Res X.K X.mg H1 H B true (.ref P) (.lst acc) := by
  obtain ⟨E', o⟩ := L.E.change (σ' := σ) (env' := restE env1 env' own) (by rw [restE_length, ← L.E.len, wipe_length]) fun j s q => by
    rcases restE_get q with ⟨_, z⟩ | ⟨n, z⟩
    · rcases backS_some (o := env1[j]?) with w | ⟨d, w1, w2⟩
      · exact .inl (z.trans w)
      · obtain ⟨v, e, r⟩ := E1.sh j d w2
        exact .inr (.inl ⟨v, d, z.trans w1, e, r.mono L.base⟩)
    · exact .inr (.inr ⟨z, by rw [wipe_get, if_neg n]⟩)
  refine ⟨E', ⟨fun a o' h n => L.keep a o' h fun q => n (hO a q), L.dom, L.base, fun a o' h => ?_, fun a h => hO a (L.own a (o a h))⟩, P, rfl, L.dat, L.off, hn⟩
  rcases L.new a o' h with q | q | q
  · exact .inl q
  · exact .inr (.inl q)
  · exact .inr (.inr (hO a q))
/-- the turns of a loop that fills P -/
theorem loopL {own ts : List Nat} {g : Gt} {tt : CT} {f : CE} (hts : ∀ t ∈ ts, t ∈ own) {O : Addr → Prop} {H1 B1 Bw H B : Hp} {P : Addr} {σ : L2.St} {env : Env} {acc : List D} {ds : List D} {J : It} {G : List D × Env → Prop} {Wx' : Wx} (hP : H1 P = none)
    (w : WalkD X.K X.mg J ds Bw) (L : Lp X.K X.mg p O H1 B1 P (wipe σ own) env H B acc) (sB : Sub Bw B) (h : Goes p Wx' (compL own g tt f ds env acc) G) :
    ∃ Wv : Nat → Nat → Hp → Prop, (∃ m, Wv 0 m H) ∧ ∀ i m H, Wv i m H →
      (J.stop i H ∧ ∃ env B acc, Lp X.K X.mg p O H1 B1 P (wipe σ own) env H B acc ∧ G (acc, env)) ∨
      (J.go i H ∧ ∃ Nx : Hp → Prop, (∀ H', Nx H' → ∃ m', m' < m ∧ Wv (i + 1) m' H') ∧ ∀ x H', J.yld i H x H' → tG X p ts g x (wipe σ own) H' fun σ2 H2 => wipe σ2 own = wipe σ own ∧ tT X p W0 tt σ2 H2 fun b H3 =>
        if b = true then tX X p W0 f σ2 H3 fun y H4 => ∃ acc, H4 P = some (.lst acc) ∧ acc.length < sizeLine ∧ Nx (upd H4 P (.lst (acc ++ [y]))) else Nx H3) := by
  refine ⟨fun i m H2 => m = ds.length - i ∧ i ≤ ds.length ∧ ∃ env2 B2 acc, Lp X.K X.mg p O H1 B1 P (wipe σ own) env2 H2 B2 acc ∧ Sub Bw B2 ∧ Goes p Wx' (compL own g tt f (ds.drop i) env2 acc) G,
    ⟨_, rfl, Nat.zero_le _, _, _, _, L, sB, h⟩, ?_⟩
  rintro i m H2 ⟨em, hi, env2, B2, acc, L, sB, h⟩
  rcases Nat.lt_or_ge i ds.length with hl | hl
  · right
    refine ⟨w.goes i H2 hl (sB.trans L.E.sub), fun H3 => ∃ env3 B3 acc3, Lp X.K X.mg p O H1 B1 P (wipe σ own) env3 H3 B3 acc3 ∧ Sub Bw B3 ∧ Goes p Wx' (compL own g tt f (ds.drop (i + 1)) env3 acc3) G,
      fun H3 ⟨env3, B3, acc3, L3, s3, h3⟩ => ⟨ds.length - (i + 1), by omega, rfl, hl, env3, B3, acc3, L3, s3, h3⟩, ?_⟩
    intro x H3 y
    obtain ⟨d, B3, hd, x3, rd⟩ := w.turn sB L.E.sub hl y
    have L3 := L.fx (L.E.ext x3) x3.fx
    have ed : ds.drop i = d :: ds.drop (i + 1) := by
      rw [List.drop_eq_getElem_cons hl]
      have := List.getElem?_eq_getElem hl
      rw [hd] at this
      rw [← Option.some.inj this]
    rw [ed] at h
    unfold compL at h
    obtain ⟨e1, hg, h⟩ := of_bind h
    refine ⟨env2, B3, d, e1, L3.E, rd, hg, fun σ2 T => ⟨wipe_but T.2.1 hts, e1, B3, T.1, (nox_goes (Goes.bind h)).imp ?_⟩⟩
    have L4 := L3.move T.1 T.2.2.2.2
    have back : ∀ {env4 : Env} {H4 B4 : Hp} {acc4 : List D}, Lp X.K X.mg p O H1 B1 P σ2 env4 H4 B4 acc4 → Lp X.K X.mg p O H1 B1 P (wipe σ own) (wipeE env4 own) H4 B4 acc4 := fun L => by
      obtain ⟨E', o⟩ := L.E.wiped own
      rw [wipe_but T.2.1 hts] at E' o
      exact L.move E' o
    rintro ⟨b, e2⟩ h H4 B4 E4 F4
    have L5 := L4.fx E4 F4
    cases b with
    | false =>
      rw [if_neg (by intro q; cases q)]
      exact ⟨_, _, _, back L5, (sB.trans x3.base).trans F4.base, h⟩
    | true =>
      rw [if_pos rfl]
      refine ⟨e2, B4, E4, (nox_goes (Goes.bind h)).imp ?_⟩
      rintro ⟨m, d', e3⟩ h v H5 B5 E5 F5 r5
      obtain ⟨B6, E6, F6, r6, _⟩ := freeze E4 E5 F5 r5
      have L6 := L5.fx E6 F6
      obtain ⟨vs, e, rl⟩ := L6.dat
      dsimp only at h
      cases hz : okT acc.length with
      | false => rw [hz] at h; exact h.elim
      | true =>
        rw [hz] at h
        refine ⟨vs, e, ?_, _, _, _, back (L6.push hP e r6), ((sB.trans x3.base).trans F4.base).trans F6.base, h⟩
        rw [rl.length]; exact of_decide_eq_true hz
  · left
    have : i = ds.length := Nat.le_antisymm hi hl
    subst this
    rw [List.drop_length] at h
    exact ⟨w.stops H2 (sB.trans L.E.sub), env2, B2, acc, L, h⟩
theorem cComp_ok {own ts : List Nat} {g : Gt} {tt : CT} {f : CE} {it : CI} (hts : ∀ t ∈ ts, t ∈ own) {σ : L2.St} {H : Hp} {Q : VK} (h : tX X p W (cComp own g tt f it) σ H Q) :
    tLc (tI X p W it) (tG X p ts g) (tT X p W0 tt) (tX X p W0 f) own σ H Q := by
  obtain ⟨env, B, E, h⟩ := h
  refine ⟨env, B, E, (Goes.bind h).imp ?_⟩
  rintro ⟨ds, env1⟩ h J H1 B1 E1 F1 w P hP
  obtain ⟨Ew, ow⟩ := E1.wiped own
  obtain ⟨Wv, h0, hs⟩ := loopL hts hP w (Lp.start Ew hP) Sub.rfl' (Goes.bind h)
  refine ⟨Wv, h0, fun i m H hw => (hs i m H hw).imp_left ?_⟩
  rintro ⟨q, env2, B2, acc, L, h⟩
  obtain ⟨E', F', r'⟩ := rest_fin E1 (fun a h => ow a h) hP L
  exact ⟨q, h _ _ B2 E' (F1.trans F') (r'.back F1.dom)⟩
def compL2 (own : List Nat) (g : Gt) (tt : CT) (vs1 : List Nat) (g1 : Gt) (tt1 : CT) (f : CE) (it1 : CI) : List D → Env → List D → R (List D × Env)
  | [], env, acc => .ok (acc, env)
  | d :: ds, env, acc => (R.of (g d env)).bind fun e1 => (nox (tt e1)).bind fun r => match r.1 with
    | true => (nox (it1 r.2)).bind fun q => (compL vs1 g1 tt1 f q.1 (wipeE q.2 vs1) acc).bind fun a => compL2 own g tt vs1 g1 tt1 f it1 ds (wipeE a.2 own) a.1
    | false => compL2 own g tt vs1 g1 tt1 f it1 ds (wipeE r.2 own) acc
def cComp2 (own : List Nat) (g : Gt) (tt : CT) (vs1 : List Nat) (g1 : Gt) (tt1 : CT) (f : CE) (it1 it : CI) : CE := fun env => (it env).bind fun r =>
  (compL2 own g tt vs1 g1 tt1 f it1 r.1 (wipeE r.2 own) []).bind fun q => .ok (true, .lst q.1, restE r.2 q.2 own)
theorem cComp2_ok {own ts vs1 ts1 : List Nat} {g g1 : Gt} {tt tt1 : CT} {f : CE} {it it1 : CI} (hts : ∀ t ∈ ts, t ∈ own) (hv : ∀ t ∈ vs1, t ∈ own) (hts1 : ∀ t ∈ ts1, t ∈ vs1) {σ : L2.St} {H : Hp} {Q : VK} (h : tX X p W (cComp2 own g tt vs1 g1 tt1 f it1 it) σ H Q) :
    tLc2 (tI X p W it) (tG X p ts g) (tT X p W0 tt) (tI X p W0 it1) (tG X p ts1 g1) (tT X p W0 tt1) (tX X p W0 f) own vs1 σ H Q := by
  obtain ⟨env, B, E, h⟩ := h
  refine ⟨env, B, E, (Goes.bind h).imp ?_⟩
  rintro ⟨ds, env1⟩ h J H1 B1 E1 F1 w P hP
  obtain ⟨Ew, ow⟩ := E1.wiped own
  have h := Goes.bind h
  dsimp only at h
  generalize hG : (fun a : List D × Env => Goes p W (R.ok (true, D.lst a.1, restE env1 a.2 own)) fun r => ∀ v H' B', ER X.K X.mg p H' B' σ r.2.2 → Fx σ env H B H' B' r.2.2 → Res X.K X.mg H H' B' r.1 v r.2.1 → Q v H') = G at h
  generalize hO : Owned (wipe σ own) (wipeE env1 own) = O at *
  have L0 := Lp.start Ew hP
  rw [hO] at L0
  refine ⟨fun i m H2 => m = ds.length - i ∧ i ≤ ds.length ∧ ∃ env2 B2 acc, Lp X.K X.mg p O H1 B1 P (wipe σ own) env2 H2 B2 acc ∧ Goes p W (compL2 own g tt vs1 g1 tt1 f it1 (ds.drop i) env2 acc) G,
    ⟨_, rfl, Nat.zero_le _, _, _, _, L0, h⟩, ?_⟩
  rintro i m H2 ⟨em, hi, env2, B2, acc, L, h⟩
  rcases Nat.lt_or_ge i ds.length with hl | hl
  · right
    refine ⟨w.goes i H2 hl (L.base.trans L.E.sub), fun H3 => ∃ env3 B3 acc3, Lp X.K X.mg p O H1 B1 P (wipe σ own) env3 H3 B3 acc3 ∧ Goes p W (compL2 own g tt vs1 g1 tt1 f it1 (ds.drop (i + 1)) env3 acc3) G,
      fun H3 ⟨env3, B3, acc3, L3, h3⟩ => ⟨ds.length - (i + 1), by omega, rfl, hl, env3, B3, acc3, L3, h3⟩, ?_⟩
    intro x H3 y
    obtain ⟨d, B3, hd, x3, rd⟩ := w.turn L.base L.E.sub hl y
    have L3 := L.fx (L.E.ext x3) x3.fx
    have ed : ds.drop i = d :: ds.drop (i + 1) := by
      rw [List.drop_eq_getElem_cons hl]
      have := List.getElem?_eq_getElem hl
      rw [hd] at this
      rw [← Option.some.inj this]
    rw [ed] at h
    unfold compL2 at h
    obtain ⟨e1, hg, h⟩ := of_bind h
    refine ⟨env2, B3, d, e1, L3.E, rd, hg, fun σ2 T => ⟨wipe_but T.2.1 hts, e1, B3, T.1, (nox_goes (Goes.bind h)).imp ?_⟩⟩
    have L4 := L3.move T.1 T.2.2.2.2
    have hw2 := wipe_but T.2.1 hts
    have back : ∀ {σ3 : L2.St} {env4 : Env} {H4 B4 : Hp} {acc4 : List D}, wipe σ3 own = wipe σ own → Lp X.K X.mg p O H1 B1 P σ3 env4 H4 B4 acc4 → Lp X.K X.mg p O H1 B1 P (wipe σ own) (wipeE env4 own) H4 B4 acc4 := fun e L => by
      obtain ⟨E', o⟩ := L.E.wiped own
      rw [e] at E' o
      exact L.move E' o
    rintro ⟨b, e2⟩ h H4 B4 E4 F4
    have L5 := L4.fx E4 F4
    cases b with
    | false =>
      rw [if_neg (by intro q; cases q)]
      exact ⟨_, _, _, back hw2 L5, h⟩
    | true =>
      rw [if_pos rfl]
      refine ⟨e2, B4, E4, (nox_goes (Goes.bind h)).imp ?_⟩
      rintro ⟨ds1, e3⟩ h J1 H5 B5 E5 F5 w1
      have L6 := L5.fx E5 F5
      obtain ⟨E7, o7⟩ := L6.E.wiped vs1
      have L7 := L6.move E7 o7
      have hw3 : wipe (wipe σ2 vs1) own = wipe σ own := by
        refine wipe_but (ts := own) ⟨by rw [wipe_length]; exact T.2.1.1, fun j hj => ?_⟩ fun _ h => h
        rw [wipe_get, if_neg fun q => hj (hv j q)]
        exact T.2.1.2 j fun q => hj (hts j q)
      obtain ⟨Wv, h0, hs⟩ := loopL hts1 hP w1 L7 Sub.rfl' (Goes.bind h)
      refine ⟨Wv, h0, fun j k H8 hk => (hs j k H8 hk).imp_left ?_⟩
      rintro ⟨q, env8, B8, acc8, L8, h8⟩
      exact ⟨q, _, _, _, back hw3 L8, h8⟩
  · left
    have : i = ds.length := Nat.le_antisymm hi hl
    subst this
    refine ⟨w.stops H2 (L.base.trans L.E.sub), ?_⟩
    rw [List.drop_length] at h
    subst hO
    obtain ⟨E', F', r'⟩ := rest_fin E1 (fun a h => ow a h) hP L
    subst hG
    exact h _ H2 B2 E' (F1.trans F') (r'.back F1.dom)
end
end DL

set_option Elab.async false
set_option linter.all false
set_option maxRecDepth 100000
set_option maxHeartbeats 4000000
namespace DL
open PySem PySem.Spec PyProof.Rows L2

section
variable {X : Cx} {p : FP} {W : Wx}
/-- no tests, one test -/
def tYesC : CT := fun env => .ok (true, env)
abbrev DTs (X : Cx) (p : FP) (W : Wx) (ifs : List Expr) (f : CT) : Prop := PTs X ifs (tT X p W f)
theorem dts_nil : DTs X p W [] tYesC := by
  have h := pts_nil (X := X)
  refine ⟨fun pins s σ H Q I q => h.run pins s σ H Q I ?_⟩
  obtain ⟨env, B, E, q⟩ := q
  exact q H B E Fx.rfl'
theorem dts_one {c : Expr} {f : CT} (h : DT X p W c f) : DTs X p W [c] f := pts_one h
abbrev BlkX (X : Cx) (scope : Scope) (s : Shared) (H : Hp) (C : Addr) (cl : List (Str × Addr)) (fp : List Addr) : Cx := X.blk s H scope (compEnvC scope cl C X.env) fp
theorem de_comp {elt tg iter : Expr} {ifs : List Expr} {scope : Scope} {own : List (Str × Nat)} {pos : Pos} {ts : List Nat} {it : CI} {g : Gt} {tt : CT} {f : CE} (hc : X.calm = true) (hN : X.N.Nodup) (hi : DI X p W tg iter it) (ok : BlkOk X.N X.env.scope scope own)
    (hts : ∀ t ∈ ts, t ∈ own.map (·.2)) (hg : ∀ s H C cl fp, DG (BlkX X scope s H C cl fp) p tg ts g) (ht : ∀ s H C cl fp, DTs (BlkX X scope s H C cl fp) p W0 ifs tt)
    (he : ∀ s H C cl fp, DE (BlkX X scope s H C cl fp) p W0 elt f) (hs : ∀ x, foldedSetIterable iter X.env x = pure x := by intro _; rfl) :
    DE X p W (.ListComp elt [⟨tg, iter, ifs, 0⟩] scope pos) (cComp (own.map (·.2)) g tt f it) :=
  pe_imp (pe_lc (wi := tI X p W it) (g := tG X p ts g) (tt := tT X p W0 tt) (te := tX X p W0 f) hc hN hi ok hg ht he hs) fun _ _ _ q => cComp_ok hts q
theorem de_comp2 {elt tg iter tg1 iter1 : Expr} {ifs ifs1 : List Expr} {scope : Scope} {own : List (Str × Nat)} {vs1 : List Nat} {pos : Pos} {ts ts1 : List Nat} {it it1 : CI} {g g1 : Gt} {tt tt1 : CT} {f : CE} (hc : X.calm = true) (hN : X.N.Nodup) (hi : DI X p W tg iter it) (ok : BlkOk X.N X.env.scope scope own)
    (hv : ∀ i ∈ vs1, i ∈ own.map (·.2)) (hts : ∀ t ∈ ts, t ∈ own.map (·.2)) (hts1 : ∀ t ∈ ts1, t ∈ vs1) (hg : ∀ s H C cl fp, DG (BlkX X scope s H C cl fp) p tg ts g) (ht : ∀ s H C cl fp, DTs (BlkX X scope s H C cl fp) p W0 ifs tt)
    (hi1 : ∀ s H C cl fp, DI (BlkX X scope s H C cl fp) p W0 tg1 iter1 it1) (hg1 : ∀ s H C cl fp, DG (BlkX X scope s H C cl fp) p tg1 ts1 g1) (ht1 : ∀ s H C cl fp, DTs (BlkX X scope s H C cl fp) p W0 ifs1 tt1)
    (he : ∀ s H C cl fp, DE (BlkX X scope s H C cl fp) p W0 elt f) (hs : ∀ x, foldedSetIterable iter X.env x = pure x := by intro _; rfl) (hs1 : ∀ env x, foldedSetIterable iter1 env x = pure x := by intro _ _; rfl) :
    DE X p W (.ListComp elt [⟨tg, iter, ifs, 0⟩, ⟨tg1, iter1, ifs1, 0⟩] scope pos) (cComp2 (own.map (·.2)) g tt vs1 g1 tt1 f it1 it) :=
  pe_imp (pe_lc2 (wi := tI X p W it) (g := tG X p ts g) (tt := tT X p W0 tt) (wi1 := tI X p W0 it1) (g1 := tG X p ts1 g1) (tt1 := tT X p W0 tt1) (te := tX X p W0 f) hc hN hi ok hv hg ht hi1 hg1 ht1 he hs hs1) fun _ _ _ q => cComp2_ok hts hv hts1 q
end

inductive Fl where
  | nx | bk | ct | rt (m : Bool) (d : D)
  deriving Inhabited
abbrev CS := Env → R (Fl × Env)
/-- a value that leaves: fresh since the entry, or by the base -/
def RetV (K : Fg) (mg : MG) (p : FP) (H B : Hp) : Bool → V → D → Prop
  | false, v, d => Rep K mg B v d
  | true, v, d => ∃ a, v = .ref a ∧ Con K mg H B a d ∧ B a = none ∧ p.H0 a = none
def tS (X : Cx) (p : FP) (W : Wx) (f : CS) : TS := fun Dn σ H => ∃ env B, ER X.K X.mg p H B σ env ∧ Goes p W (f env) fun r => match r.1 with
  | .nx => ∀ σ' H' B', ER X.K X.mg p H' B' σ' r.2 → Sub B B' → Dn.nx σ' H'
  | .bk => ∀ σ' H' B', ER X.K X.mg p H' B' σ' r.2 → Sub B B' → Dn.bk σ' H'
  | .ct => ∀ σ' H' B', ER X.K X.mg p H' B' σ' r.2 → Sub B B' → Dn.ct σ' H'
  | .rt m d => ∀ v σ' H' B', ER X.K X.mg p H' B' σ' r.2 → RetV X.K X.mg p H' B' m v d → Dn.rt v H'
abbrev DS (X : Cx) (p : FP) (W : Wx) (st : Stmt) (f : CS) : Prop := PS X st (tS X p W f)
abbrev DSs (X : Cx) (p : FP) (W : Wx) (st : List Stmt) (f : CS) : Prop := PSs X st (tS X p W f)
def sNil : CS := fun env => .ok (.nx, env)
def sBrk : CS := fun env => .ok (.bk, env)
def sCnt : CS := fun env => .ok (.ct, env)
def sSeq (f g : CS) : CS := fun env => (f env).bind fun r => match r.1 with
  | .nx => g r.2
  | .bk => .ok (.bk, r.2)
  | .ct => .ok (.ct, r.2)
  | .rt m d => .ok (.rt m d, r.2)
def sExp (f : CE) : CS := fun env => (f env).bind fun r => .ok (.nx, r.2.2)
def sRet (f : CE) : CS := fun env => (f env).bind fun r => .ok (.rt r.1 r.2.1, r.2.2)
def sRetN : CS := fun env => .ok (.rt false .non, env)
/-- return of a name whose thing is owned: it goes along -/
def sRetV (i : Nat) : CS := fun env => match env[i]? with
  | some (.ow d) => .ok (.rt true d, env.set i .un)
  | some (.sh d) => .ok (.rt false d, env)
  | _ => .stuck
def sIf (c : CT) (f g : CS) : CS := fun env => (c env).bind fun r => match r.1 with
  | true => f r.2
  | false => g r.2
def sAsg (i : Nat) (f : CE) : CS := fun env => (f env).bind fun r => match r.2.2[i]? with
  | some (.io _) => .stuck
  | some _ => .ok (.nx, r.2.2.set i (if r.1 then .ow r.2.1 else .sh r.2.1))
  | none => .stuck
def sAsgT (g : Gt) (f : CE) : CS := fun env => (f env).bind fun r => (R.of (g r.2.1 r.2.2)).bind fun e => .ok (.nx, e)
section
variable {X : Cx} {p : FP} {W : Wx} {pos : Pos}
theorem ps_imp {st : Stmt} {t t' : TS} (h : PS X st t) (i : ∀ D σ H, t' D σ H → t D σ H) : PS X st t' := ⟨fun pins s σ H D I q => h.run pins s σ H D I (i D σ H q)⟩
theorem pss_imp {st : List Stmt} {t t' : TS} (h : PSs X st t) (i : ∀ D σ H, t' D σ H → t D σ H) : PSs X st t' := ⟨fun pins s σ H D I q => h.run pins s σ H D I (i D σ H q)⟩
theorem dss_nil : DSs X p W [] sNil := pss_imp pss_nil fun D σ H ⟨env, B, E, q⟩ => q σ H B E Sub.rfl'
theorem ds_pass : DS X p W (.Pass pos) sNil := ps_imp ps_pass fun D σ H ⟨env, B, E, q⟩ => q σ H B E Sub.rfl'
theorem ds_break : DS X p W (.Break pos) sBrk := ps_imp ps_break fun D σ H ⟨env, B, E, q⟩ => q σ H B E Sub.rfl'
theorem ds_continue : DS X p W (.Continue pos) sCnt := ps_imp ps_continue fun D σ H ⟨env, B, E, q⟩ => q σ H B E Sub.rfl'
/-- the posts from a later base -/
theorem seq_ok {f g : CS} {D : Ends} {σ : L2.St} {H : Hp} (h : tS X p W (sSeq f g) D σ H) : tSeq (tS X p W f) (tS X p W g) D σ H := by
  obtain ⟨env, B, E, h⟩ := h
  refine ⟨env, B, E, (Goes.bind h).imp ?_⟩
  rintro ⟨fl, e1⟩ h
  cases fl with
  | nx =>
    intro σ1 H1 B1 E1 S1
    refine ⟨e1, B1, E1, Goes.imp h ?_⟩
    rintro ⟨fl2, e2⟩ h
    cases fl2 with
    | nx => exact fun σ' H' B' E' S' => h σ' H' B' E' (S1.trans S')
    | bk => exact fun σ' H' B' E' S' => h σ' H' B' E' (S1.trans S')
    | ct => exact fun σ' H' B' E' S' => h σ' H' B' E' (S1.trans S')
    | rt m d => exact fun v σ' H' B' E' => h v σ' H' B' E'
  | bk => exact h
  | ct => exact h
  | rt m d => exact h
theorem dss_cons {st : Stmt} {rest : List Stmt} {f g : CS} (h1 : DS X p W st f) (h2 : DSs X p W rest g) : DSs X p W (st :: rest) (sSeq f g) := pss_imp (pss_cons h1 h2) fun _ _ _ h => seq_ok h
theorem dss_one {st : Stmt} {f : CS} (h1 : DS X p W st f) : DSs X p W [st] f := pss_one h1
theorem ds_expr {e : Expr} {f : CE} (he : DE X p W e f) (hs : swapsWith e none pos.line X.env = pure false := by rfl) : DS X p W (.Expr e pos) (sExp f) := by
  refine ps_imp (ps_expr he hs) ?_
  rintro D σ H ⟨env, B, E, h⟩
  refine ⟨env, B, E, (Goes.bind h).imp ?_⟩
  rintro ⟨m, d, e1⟩ h v H1 B1 E1 F1 r1
  exact h σ H1 B1 E1 F1.base
theorem RetV.of {H0 H B : Hp} {m : Bool} {v : V} {d : D} {σ : L2.St} {env : Env} {K : Fg} {mg : MG} {B0 : Hp} (E : ER K mg p H0 B0 σ env) (r : Res K mg H0 H B m v d) : RetV K mg p H B m v d := by
  cases m with
  | false => exact r
  | true =>
    obtain ⟨a, e, c, n, z⟩ := r
    exact ⟨a, e, c, n, E.h0 z⟩
theorem ds_ret {e : Expr} {f : CE} (he : DE X p W e f) : DS X p W (.Return (some e) pos) (sRet f) := by
  refine ps_imp (ps_ret he) ?_
  rintro D σ H ⟨env, B, E, h⟩
  refine ⟨env, B, E, (Goes.bind h).imp ?_⟩
  rintro ⟨m, d, e1⟩ h v H1 B1 E1 F1 r1
  exact h v σ H1 B1 E1 (.of E r1)
theorem ds_retN : DS X p W (.Return none pos) sRetN := by
  refine ps_imp ps_retN ?_
  rintro D σ H ⟨env, B, E, h⟩
  exact h .non σ H B E .non
theorem ER.forget {K : Fg} {mg : MG} {H B : Hp} {σ : L2.St} {env : Env} (E : ER K mg p H B σ env) (i : Nat) : ER K mg p H B σ (env.set i .un) :=
  (E.change (σ' := σ) (env' := env.set i .un) (by simp [E.len]) fun j s q => by
    rcases get_set q with ⟨e, z⟩ | ⟨e, z⟩
    · exact .inl z
    · exact .inr (.inr ⟨z, rfl⟩)).1
theorem ds_retV {i : Nat} {x : Str} {ps' : Pos} (h : PE X (.Name x ps') (tVar i)) : DS X p W (.Return (some (.Name x ps')) pos) (sRetV i) := by
  refine ps_imp (ps_ret h) ?_
  rintro D σ H ⟨env, B, E, h⟩
  unfold sRetV at h
  split at h
  · rename_i d e
    obtain ⟨a, q, c, n, z⟩ := E.ow i d e
    exact ⟨_, q, h _ σ H B (E.forget i) ⟨a, rfl, c, n, z⟩⟩
  · rename_i d e
    obtain ⟨v, q, r⟩ := E.sh i d e
    exact ⟨_, q, h _ σ H B E r⟩
  · exact h.elim
/-- posts: from a later base -/
theorem post_sub {Dn : Ends} {B B1 : Hp} (s : Sub B B1) {r : Fl × Env} (h : match r.1 with
  | .nx => ∀ σ' H' B', ER X.K X.mg p H' B' σ' r.2 → Sub B B' → Dn.nx σ' H'
  | .bk => ∀ σ' H' B', ER X.K X.mg p H' B' σ' r.2 → Sub B B' → Dn.bk σ' H'
  | .ct => ∀ σ' H' B', ER X.K X.mg p H' B' σ' r.2 → Sub B B' → Dn.ct σ' H'
  | .rt m d => ∀ v σ' H' B', ER X.K X.mg p H' B' σ' r.2 → RetV X.K X.mg p H' B' m v d → Dn.rt v H') : match r.1 with
  | .nx => ∀ σ' H' B', ER X.K X.mg p H' B' σ' r.2 → Sub B1 B' → Dn.nx σ' H'
  | .bk => ∀ σ' H' B', ER X.K X.mg p H' B' σ' r.2 → Sub B1 B' → Dn.bk σ' H'
  | .ct => ∀ σ' H' B', ER X.K X.mg p H' B' σ' r.2 → Sub B1 B' → Dn.ct σ' H'
  | .rt m d => ∀ v σ' H' B', ER X.K X.mg p H' B' σ' r.2 → RetV X.K X.mg p H' B' m v d → Dn.rt v H' := by
  obtain ⟨fl, e⟩ := r
  cases fl with
  | nx => exact fun σ' H' B' E' S' => h σ' H' B' E' (s.trans S')
  | bk => exact fun σ' H' B' E' S' => h σ' H' B' E' (s.trans S')
  | ct => exact fun σ' H' B' E' S' => h σ' H' B' E' (s.trans S')
  | rt m d => exact fun v σ' H' B' E' => h v σ' H' B' E'
theorem ds_if {c : Expr} {a b : List Stmt} {fc : CT} {f g : CS} (hc : DT X p W c fc) (ha : DSs X p W a f) (hb : DSs X p W b g) : DS X p W (.If c a b pos) (sIf fc f g) := by
  refine ps_imp (ps_if hc ha hb) ?_
  rintro D σ H ⟨env, B, E, h⟩
  refine ⟨env, B, E, (Goes.bind h).imp ?_⟩
  rintro ⟨k, e1⟩ h H1 B1 E1 F1
  cases k with
  | true => rw [if_pos rfl]; exact ⟨e1, B1, E1, Goes.imp h fun r q => post_sub F1.base q⟩
  | false => rw [if_neg (by intro q; cases q)]; exact ⟨e1, B1, E1, Goes.imp h fun r q => post_sub F1.base q⟩
/-- a slot takes a fresh thing -/
theorem ER.take {K : Fg} {mg : MG} {H0 B0 H B : Hp} {σ : L2.St} {env0 env : Env} (E0 : ER K mg p H0 B0 σ env0) (E : ER K mg p H B σ env) (F : Fx σ env0 H0 B0 H B env) {i : Nat} {a : Addr} {d : D} (hi : i < env.length)
    (c : Con K mg H B a d) (n : B a = none) (z : H0 a = none) : ER K mg p H B (σ.set i (some (.ref a))) (env.set i (.ow d)) := by
  have no : ¬ Owned σ env a := fun q => by
    obtain ⟨o, e⟩ := E0.there (F.own a q)
    rw [z] at e; cases e
  have hi' : i < σ.length := by rw [E.len]; exact hi
  have at_ : ∀ j b, OwnAt (σ.set i (some (.ref a))) (env.set i (.ow d)) j b → (j = i ∧ b = a) ∨ (j ≠ i ∧ OwnAt σ env j b) := by
    rintro j b ⟨q, d', q'⟩
    by_cases hj : j = i
    · subst hj
      rw [List.getElem?_set_self hi'] at q
      cases q; exact .inl ⟨rfl, rfl⟩
    · rw [List.getElem?_set_ne (Ne.symm hj)] at q
      rw [List.getElem?_set_ne (Ne.symm hj)] at q'
      exact .inr ⟨hj, q, d', q'⟩
  refine ⟨E.sub, E.b0, E.new, E.frm, E.iod, by simp [E.len], fun j d' q => ?_, fun j d' q => ?_, fun j d' q => ?_, fun j k b q q' => ?_⟩
  · rcases get_set q with ⟨_, w⟩ | ⟨hj, w⟩
    · cases w
    · obtain ⟨v, e, r⟩ := E.sh j d' w
      exact ⟨v, by rw [List.getElem?_set_ne (Ne.symm hj)]; exact e, r⟩
  · rcases get_set q with ⟨hj, w⟩ | ⟨hj, w⟩
    · cases w; subst hj
      exact ⟨a, List.getElem?_set_self hi', c, n, E0.h0 z⟩
    · obtain ⟨b, e, r⟩ := E.ow j d' w
      exact ⟨b, by rw [List.getElem?_set_ne (Ne.symm hj)]; exact e, r⟩
  · rcases get_set q with ⟨_, w⟩ | ⟨hj, w⟩
    · cases w
    · obtain ⟨b, e0, e, r⟩ := E.ioo j d' w
      exact ⟨b, e0, by rw [List.getElem?_set_ne (Ne.symm hj)]; exact e, r⟩
  · rcases at_ j b q with ⟨h1, h2⟩ | ⟨h1, h2⟩ <;> rcases at_ k b q' with ⟨h3, h4⟩ | ⟨h3, h4⟩
    · rw [h1, h3]
    · exact absurd ⟨k, by rw [← h2]; exact h4⟩ no
    · exact absurd ⟨j, by rw [← h4]; exact h2⟩ no
    · exact E.dis j k b h2 h4
theorem asg_ok {i : Nat} {f : CE} {D : Ends} {σ : L2.St} {H : Hp} (h : tS X p W (sAsg i f) D σ H) : tAsg (tX X p W f) (gName i) D σ H := by
  obtain ⟨env, B, E, h⟩ := h
  refine ⟨env, B, E, (Goes.bind h).imp ?_⟩
  rintro ⟨m, d, e1⟩ h v H1 B1 E1 F1 r1
  dsimp only at h
  cases hs : e1[i]? with
  | none => rw [hs] at h; exact h.elim
  | some sl =>
    have hi : i < e1.length := (List.getElem?_eq_some_iff.mp hs).1
    have h2 : ∀ σ' H' B', ER X.K X.mg p H' B' σ' (e1.set i (if m then .ow d else .sh d)) → Sub B B' → D.nx σ' H' := by
      rw [hs] at h
      cases sl with
      | io _ => exact h.elim
      | un => exact h
      | sh _ => exact h
      | ow _ => exact h
    have nio : ∀ x, sl ≠ .io x := fun x q => by rw [hs, q] at h; exact h.elim
    cases m with
    | true =>
      obtain ⟨a, rfl, c, n, z⟩ := r1
      exact h2 _ _ _ (E.take E1 F1 hi c n z) F1.base
    | false =>
      refine h2 _ _ _ ?_ F1.base
      have : gN i d e1 = some (e1.set i (.sh d)) := by
        unfold gN; rw [hs]
        cases sl with
        | io x => exact absurd rfl (nio x)
        | _ => rfl
      exact (tgt_name E1 r1 this).1
theorem ds_set {i : Nat} {x : Str} {e : Expr} {f : CE} {pos' : Pos} (hN : X.N.Nodup) (hi : X.N[i]? = some x) (hx : Loc X.env.scope x) (he : DE X p W e f) (hs : swapsWith e (some (.Name x pos')) pos.line X.env = pure false := by rfl) (hf : X.fn x = true ∨ X.env.scope.names.lookup x = some .local := by first | exact .inl rfl | exact .inr rfl | assumption) :
    DS X p W (.Assign [.Name x pos'] e pos) (sAsg i f) := ps_imp (ps_set hN hi hx he hs hf) fun _ _ _ h => asg_ok h
/-- name = [..] on one line -/
theorem ds_setC {i : Nat} {y : Str} {py : Pos} {elt tg iter : Expr} {ifs : List Expr} {scope : Scope} {own : List (Str × Nat)} {pos' : Pos} {ts : List Nat} {it : CI} {g : Gt} {tt : CT} {f : CE} (hc : X.calm = true) (hN : X.N.Nodup) (hy : X.N[i]? = some y) (hyl : X.env.scope.names.lookup y = some .local)
    (hsw : swapsWith (.ListComp elt [⟨tg, iter, ifs, 0⟩] scope pos') (some (.Name y py)) pos.line X.env = pure true) (hi : DI X p W tg iter it) (ok : BlkOk X.N X.env.scope scope own)
    (hts : ∀ t ∈ ts, t ∈ own.map (·.2)) (hg : ∀ s H C cl fp, DG (BlkX X scope s H C cl fp) p tg ts g) (ht : ∀ s H C cl fp, DTs (BlkX X scope s H C cl fp) p W0 ifs tt)
    (he : ∀ s H C cl fp, DE (BlkX X scope s H C cl fp) p W0 elt f) (hs : ∀ x, foldedSetIterable iter X.env x = pure x := by intro _; rfl) :
    DS X p W (.Assign [.Name y py] (.ListComp elt [⟨tg, iter, ifs, 0⟩] scope pos') pos) (sAsg i (cComp (own.map (·.2)) g tt f it)) :=
  ps_imp (ps_setLc (wi := tI X p W it) (g := tG X p ts g) (tt := tT X p W0 tt) (te := tX X p W0 f) hc hN hy hyl hsw hi ok hg ht he hs) fun D σ H h => cComp_ok hts (asg_ok h)
theorem ds_setC2 {i : Nat} {y : Str} {py : Pos} {elt tg iter tg1 iter1 : Expr} {ifs ifs1 : List Expr} {scope : Scope} {own : List (Str × Nat)} {vs1 : List Nat} {pos' : Pos} {ts ts1 : List Nat} {it it1 : CI} {g g1 : Gt} {tt tt1 : CT} {f : CE} (hc : X.calm = true) (hN : X.N.Nodup) (hy : X.N[i]? = some y) (hyl : X.env.scope.names.lookup y = some .local)
    (hsw : swapsWith (.ListComp elt [⟨tg, iter, ifs, 0⟩, ⟨tg1, iter1, ifs1, 0⟩] scope pos') (some (.Name y py)) pos.line X.env = pure true) (hi : DI X p W tg iter it) (ok : BlkOk X.N X.env.scope scope own)
    (hv : ∀ i ∈ vs1, i ∈ own.map (·.2)) (hts : ∀ t ∈ ts, t ∈ own.map (·.2)) (hts1 : ∀ t ∈ ts1, t ∈ vs1) (hg : ∀ s H C cl fp, DG (BlkX X scope s H C cl fp) p tg ts g) (ht : ∀ s H C cl fp, DTs (BlkX X scope s H C cl fp) p W0 ifs tt)
    (hi1 : ∀ s H C cl fp, DI (BlkX X scope s H C cl fp) p W0 tg1 iter1 it1) (hg1 : ∀ s H C cl fp, DG (BlkX X scope s H C cl fp) p tg1 ts1 g1) (ht1 : ∀ s H C cl fp, DTs (BlkX X scope s H C cl fp) p W0 ifs1 tt1)
    (he : ∀ s H C cl fp, DE (BlkX X scope s H C cl fp) p W0 elt f) (hs : ∀ x, foldedSetIterable iter X.env x = pure x := by intro _; rfl) (hs1 : ∀ env x, foldedSetIterable iter1 env x = pure x := by intro _ _; rfl) :
    DS X p W (.Assign [.Name y py] (.ListComp elt [⟨tg, iter, ifs, 0⟩, ⟨tg1, iter1, ifs1, 0⟩] scope pos') pos) (sAsg i (cComp2 (own.map (·.2)) g tt vs1 g1 tt1 f it1 it)) :=
  ps_imp (ps_setLc2 (wi := tI X p W it) (g := tG X p ts g) (tt := tT X p W0 tt) (wi1 := tI X p W0 it1) (g1 := tG X p ts1 g1) (tt1 := tT X p W0 tt1) (te := tX X p W0 f) hc hN hy hyl hsw hi ok hv hg ht hi1 hg1 ht1 he hs hs1) fun D σ H h => cComp2_ok hts hv hts1 (asg_ok h)
/-- a, b = one value -/
theorem ds_asgT {tg e : Expr} {f : CE} {ts : List Nat} {g : Gt} (he : DE X p W e f) (hg : DG X p tg ts g) (hs : swapsWithSole [tg] e pos.line X.env = pure false := by rfl) (hw : swappedStores [tg] e X.env = pure none := by rfl)
    (h1 : (assignEach [tg] X.env).map (·.2) = [assign tg X.env] := by rfl) : DS X p W (.Assign [tg] e pos) (sAsgT g f) := by
  refine ps_imp (ps_asg he hg hs hw h1) ?_
  rintro D σ H ⟨env, B, E, h⟩
  refine ⟨env, B, E, (Goes.bind h).imp ?_⟩
  rintro ⟨m, d, e1⟩ h v H1 B1 E1 F1 r1
  obtain ⟨B2, E2, F2, r2, _⟩ := freeze E E1 F1 r1
  obtain ⟨e2, hg, h⟩ := of_bind h
  exact ⟨e1, B2, d, e2, E2, r2, hg, fun σ' T => h σ' H1 B2 T.1 F2.base⟩
end
end DL

set_option Elab.async false
set_option linter.all false
set_option maxRecDepth 100000
set_option maxHeartbeats 4000000
namespace DL
open PySem PySem.Spec PyProof.Rows L2

/-- the slot of an owned thing -/
def own? : Option Slot → Option (Bool × D)
  | some (.ow d) => some (false, d)
  | some (.io d) => some (true, d)
  | _ => none
def owS : Bool → D → Slot
  | false, d => .ow d
  | true, d => .io d
theorem own?_some {s : Option Slot} {b : Bool} {d : D} (h : own? s = some (b, d)) : s = some (owS b d) := by
  unfold own? at h
  split at h
  · cases h; rfl
  · cases h; rfl
  · cases h
section
variable {K : Fg} {mg : MG} {p : FP} {H B : Hp} {σ : L2.St} {env : Env}
theorem ER.owned (E : ER K mg p H B σ env) {i : Nat} {io : Bool} {d : D} (h : env[i]? = some (owS io d)) : ∃ a, σ[i]? = some (some (.ref a)) ∧ Con K mg H B a d ∧ B a = none := by
  cases io with
  | false => obtain ⟨a, e, c, n, _⟩ := E.ow i d h; exact ⟨a, e, c, n⟩
  | true => obtain ⟨a, _, e, c, n⟩ := E.ioo i d h; exact ⟨a, e, c, n⟩
theorem ownAt_of {i : Nat} {io : Bool} {d : D} {a : Addr} (h : env[i]? = some (owS io d)) (e : σ[i]? = some (some (.ref a))) : OwnAt σ env i a := by
  cases io with
  | false => exact ⟨e, d, .inl h⟩
  | true => exact ⟨e, d, .inr h⟩
/-- an owned thing is rewritten -/
theorem ER.write (E : ER K mg p H B σ env) {i : Nat} {io : Bool} {d d' : D} {a : Addr} {o' : HO} (h : env[i]? = some (owS io d)) (e : σ[i]? = some (some (.ref a))) (c : Con K mg (upd H a o') B a d') :
    ER K mg p (upd H a o') B σ (env.set i (owS io d')) ∧ Fx σ env H B (upd H a o') B (env.set i (owS io d')) := by
  obtain ⟨a', e', c0, n⟩ := E.owned h
  rw [e] at e'; cases e'
  have me := ownAt_of h e
  have own : ∀ j b, OwnAt σ (env.set i (owS io d')) j b → OwnAt σ env j b := by
    rintro j b ⟨q, x, q'⟩
    rcases q' with q' | q' <;> rcases get_set q' with ⟨hj, w⟩ | ⟨hj, w⟩
    · subst hj; rw [q] at e; cases e; exact me
    · exact ⟨q, x, .inl w⟩
    · subst hj; rw [q] at e; cases e; exact me
    · exact ⟨q, x, .inr w⟩
  have ne : ∀ j b, j ≠ i → OwnAt σ env j b → b ≠ a := fun j b hj q z => hj (E.dis j i a (by rw [← z]; exact q) me)
  refine ⟨⟨fun b x q => ?_, E.b0, E.new, fun b x q hi => ?_, fun j b q => ?_, by simp [E.len], fun j x q => ?_, fun j x q => ?_, fun j x q => ?_, fun j k b q q' => E.dis j k b (own j b q) (own k b q')⟩,
    ⟨fun b x q nb => ?_, fun b q => ?_, Sub.rfl', fun _ _ q => .inl q, fun b ⟨j, q⟩ => ⟨j, own j b q⟩⟩⟩
  · rw [upd_ne (ne_of_none q n)]; exact E.sub b x q
  · have hb : b ≠ a := by
      rintro rfl
      cases io with
      | false => obtain ⟨a', e', _, _, z⟩ := E.ow i d h; rw [e] at e'; cases e'; rw [z] at q; cases q
      | true => obtain ⟨a', e0, e', _⟩ := E.ioo i d h; rw [e] at e'; cases e'; exact hi i e0
    rw [upd_ne hb]; exact E.frm b x q hi
  · by_cases hb : b = a
    · rw [hb, upd_same]; simp
    · rw [upd_ne hb]; exact E.iod j b q
  · rcases get_set q with ⟨_, w⟩ | ⟨_, w⟩
    · cases io <;> cases w
    · exact E.sh j x w
  · rcases get_set q with ⟨hj, w⟩ | ⟨hj, w⟩
    · cases io with
      | true => cases w
      | false =>
        cases w; subst hj
        obtain ⟨a', e', _, _, z⟩ := E.ow j d h
        rw [e] at e'; cases e'
        exact ⟨a, e, c, n, z⟩
    · obtain ⟨b, e', c', n', z⟩ := E.ow j x w
      have hb := ne j b hj ⟨e', x, .inl w⟩
      exact ⟨b, e', c'.mono (fun o h => by rw [upd_ne hb]; exact h) Sub.rfl', n', z⟩
  · rcases get_set q with ⟨hj, w⟩ | ⟨hj, w⟩
    · cases io with
      | false => cases w
      | true =>
        cases w; subst hj
        obtain ⟨a', e0, e', _⟩ := E.ioo j d h
        rw [e] at e'; cases e'
        exact ⟨a, e0, e, c, n⟩
    · obtain ⟨b, e0, e', c', n'⟩ := E.ioo j x w
      have hb := ne j b hj ⟨e', x, .inr w⟩
      exact ⟨b, e0, e', c'.mono (fun o h => by rw [upd_ne hb]; exact h) Sub.rfl', n'⟩
  · have hb : b ≠ a := fun z => nb ⟨i, by rw [z]; exact me⟩
    rw [upd_ne hb]; exact q
  · by_cases hb : b = a
    · rw [hb, upd_same]; simp
    · rw [upd_ne hb]; exact q
end
abbrev G1 := D → D → Option (D × D)
abbrev G0 := D → Option (D × D)
def VM1 (K : Fg) (mg : MG) (r : V → List V → Hp → VK → Prop) (g : G1) : Prop :=
  ∀ dl d dl' res, g dl d = some (dl', res) → ∀ a y H B Q, Con K mg H B a dl → Sub B H → Rep K mg B y d → B a = none → (∀ v o', Con K mg (upd H a o') B a dl' → Rep K mg B v res → Q v (upd H a o')) → r (.ref a) [y] H Q
def VM0 (K : Fg) (mg : MG) (r : V → List V → Hp → VK → Prop) (g : G0) : Prop :=
  ∀ dl dl' res, g dl = some (dl', res) → ∀ a H B Q, Con K mg H B a dl → Sub B H → B a = none → (∀ v o', Con K mg (upd H a o') B a dl' → Rep K mg B v res → Q v (upd H a o')) → r (.ref a) [] H Q
def isTy (T : String) : D → Bool
  | .lst _ => T == "list"
  | .dct _ _ => T == "dict"
  | _ => false
def cMut (i : Nat) (o : Option (D × D)) (io : Bool) (env : Env) : R (Bool × D × Env) := match o with
  | some r => .ok (false, r.2, env.set i (owS io r.1))
  | none => .stuck
def cM1 (T : String) (i : Nat) (g : G1) (f : CE) : CE := fun env => match own? env[i]? with
  | some (_, d0) => match isTy T d0 with
    | true => (f env).bind fun r => match own? r.2.2[i]? with
      | some (io, dl) => cMut i (g dl r.2.1) io r.2.2
      | none => .stuck
    | false => .stuck
  | none => .stuck
def cM0 (T : String) (i : Nat) (g : G0) : CE := fun env => match own? env[i]? with
  | some (io, dl) => match isTy T dl with
    | true => cMut i (g dl) io env
    | false => .stuck
  | none => .stuck
theorem con_ty {K : Fg} {mg : MG} {H B : Hp} {a : Addr} {d : D} {T : String} (c : Con K mg H B a d) (h : isTy T d = true) : tyV K T (.ref a) H := by
  cases d with
  | lst ds =>
    obtain ⟨vs, e, _⟩ := c
    have : T = "list" := by simpa [isTy] using h
    exact .inl ⟨this, vs, SqL.of e⟩
  | dct t es =>
    have : T = "dict" := by simpa [isTy] using h
    cases t with
    | false => obtain ⟨kvs, e, _⟩ := c; exact .inr (.inr (.inl ⟨this, .inl ⟨kvs, e⟩⟩))
    | true => obtain ⟨kvs, e, _⟩ := c; exact .inr (.inr (.inl ⟨this, .inr ⟨kvs, e⟩⟩))
  | _ => exact c.elim
section
variable {X : Cx} {p : FP} {W : Wx}
theorem cMut_goes {i : Nat} {o : Option (D × D)} {io : Bool} {env : Env} {G : Bool × D × Env → Prop} (h : Goes p W (cMut i o io env) G) : ∃ dl' res, o = some (dl', res) ∧ G (false, res, env.set i (owS io dl')) := by
  cases o with
  | none => exact h.elim
  | some r => exact ⟨r.1, r.2, rfl, h⟩
theorem m1_ok {T : String} {r : V → List V → Hp → VK → Prop} {g : G1} {i : Nat} {f : CE} (hv : VM1 X.K X.mg r g) {σ : L2.St} {H : Hp} {Q : VK} (h : tX X p W (cM1 T i g f) σ H Q) : tBM X.K T r (tVar i) (tA X p W (aCons (oVal f) aNil)) σ H Q := by
  obtain ⟨env, B, E, h⟩ := h
  unfold cM1 at h
  cases ho : own? env[i]? with
  | none => rw [ho] at h; exact h.elim
  | some q =>
    obtain ⟨io0, d0⟩ := q
    rw [ho] at h
    dsimp only at h
    cases hty : isTy T d0 with
    | false => rw [hty] at h; exact h.elim
    | true =>
      rw [hty] at h
      obtain ⟨a, ea, c0, n0⟩ := E.owned (own?_some ho)
      refine ⟨.ref a, ea, con_ty c0 hty, env, B, E, ?_⟩
      have h := Goes.bind h
      unfold aCons oVal aNil
      cases e : f env with
      | stuck => rw [e] at h; exact h
      | exc c => rw [e] at h; exact h
      | ok r1 =>
        rw [e] at h
        obtain ⟨m, d, e1⟩ := r1
        intro vs H1 B1 E1 F1 rv
        have h : Goes p W (match own? e1[i]? with | some (io, dl) => cMut i (g dl d) io e1 | none => .stuck) _ := h
        cases ho1 : own? e1[i]? with
        | none => rw [ho1] at h; exact h.elim
        | some q =>
          obtain ⟨io, dl⟩ := q
          rw [ho1] at h
          obtain ⟨dl', res, hg, h⟩ := cMut_goes h
          cases rv with
          | cons r1 rr =>
            cases rr
            have r1 : Rep X.K X.mg B1 _ d := r1
            obtain ⟨a1, ea1, c1, n1⟩ := E1.owned (own?_some ho1)
            rw [ea] at ea1; cases ea1
            refine hv dl d dl' res hg a _ H1 B1 Q c1 E1.sub r1 n1 fun v o' c' r' => ?_
            obtain ⟨E2, F2⟩ := E1.write (own?_some ho1) ea c'
            exact h v _ B1 E2 (F1.trans F2) r'
theorem m0_ok {T : String} {r : V → List V → Hp → VK → Prop} {g : G0} {i : Nat} (hv : VM0 X.K X.mg r g) {σ : L2.St} {H : Hp} {Q : VK} (h : tX X p W (cM0 T i g) σ H Q) : tBM0 X.K T r (tVar i) σ H Q := by
  obtain ⟨env, B, E, h⟩ := h
  unfold cM0 at h
  cases ho : own? env[i]? with
  | none => rw [ho] at h; exact h.elim
  | some q =>
    obtain ⟨io, dl⟩ := q
    rw [ho] at h
    dsimp only at h
    cases hty : isTy T dl with
    | false => rw [hty] at h; exact h.elim
    | true =>
      rw [hty] at h
      obtain ⟨dl', res, hg, h⟩ := cMut_goes h
      obtain ⟨a, ea, c0, n0⟩ := E.owned (own?_some ho)
      refine ⟨.ref a, ea, con_ty c0 hty, hv dl dl' res hg a H B Q c0 E.sub n0 fun v o' c' r' => ?_⟩
      obtain ⟨E2, F2⟩ := E.write (own?_some ho) ea c'
      exact h v _ B E2 F2 r'
theorem de_m1 {x name : Str} {xp apos cpos : Pos} {e : Expr} {T id : String} {r : V → List V → Hp → VK → Prop} {g : G1} {i : Nat} {f : CE} (hv : VM1 X.K X.mg r g) (hN : X.N[i]? = some x) (hx : Vis X.env.scope x) (pa : PlainAttrs T) (slot : PySem.Slot T name id) (hty : typeOf (.builtin id) = pure (.type "method_descriptor")) (hm : MtM X id r) (he : DE X p W e f)
    (hbase : attributeBase (.Name x xp) name X.env (eval (.Name x xp) X.env) = eval (.Name x xp) X.env := by rfl)
    (hfew : ((backTo cpos (starEach (e :: []) X.env)).all (fun x => !x.1) && (backToKw cpos (keywordEach [] X.env)).all (fun x => x.1.isSome)
      && decide ((e :: []).length + ([] : List Keyword).length + (if ([] : List Keyword).isEmpty then 0 else 1) < 30)) = true := by rfl)
    (hline : (apos.endLine == cpos.line) = true := by rfl) (hs : starEach (e :: []) X.env = (false, eval e X.env) :: starEach [] X.env := by rfl) (hplain : (backTo cpos (starEach [] X.env)).any (·.1) = false := by rfl)
    (hd : (x == ("__debug__" : Str)) = false := by decide) (hcd : (x == ("__classdict__" : Str)) = false := by decide) :
    DE X p W (.Call (.Attribute (.Name x xp) name apos) [e] [] cpos) (cM1 T i g f) :=
  pe_imp (pe_bm pa slot hty hm (pe_var hN hx hd hcd) (da_cons (db_val he) da_nil hs) hbase hfew hline hs hplain) fun _ _ _ q => m1_ok hv q
theorem de_m0 {x name : Str} {xp apos cpos : Pos} {T id : String} {r : V → List V → Hp → VK → Prop} {g : G0} {i : Nat} (hv : VM0 X.K X.mg r g) (hN : X.N[i]? = some x) (hx : Vis X.env.scope x) (pa : PlainAttrs T) (slot : PySem.Slot T name id) (hty : typeOf (.builtin id) = pure (.type "method_descriptor")) (hm : MtM X id r)
    (hbase : attributeBase (.Name x xp) name X.env (eval (.Name x xp) X.env) = eval (.Name x xp) X.env := by rfl) (hline : (apos.endLine == cpos.line) = true := by rfl)
    (hd : (x == ("__debug__" : Str)) = false := by decide) (hcd : (x == ("__classdict__" : Str)) = false := by decide) :
    DE X p W (.Call (.Attribute (.Name x xp) name apos) [] [] cpos) (cM0 T i g) :=
  pe_imp (pe_bm0 pa slot hty hm (pe_var hN hx hd hcd) hbase hline) fun _ _ _ q => m0_ok hv q
end
def appendD : G1 := fun dl d => match dl with
  | .lst ds => if okT ds.length then some (.lst (ds ++ [d]), .non) else none
  | _ => none
def extendD : G1 := fun dl d => match dl, d with
  | .lst ds, .lst es => if okL (ds.length + es.length) then some (.lst (ds ++ es), .non) else none
  | _, _ => none
def popD : G0 := fun dl => match dl with
  | .lst ds => match ds[ds.length - 1]? with
    | some d => some (.lst ds.dropLast, d)
    | none => none
  | _ => none
theorem RepL.dropLast {K : Fg} {mg : MG} {B : Hp} {vs : List V} {ds : List D} (h : RepL K mg B vs ds) : RepL K mg B vs.dropLast ds.dropLast := by
  rw [List.dropLast_eq_take, List.dropLast_eq_take, h.length]; exact h.take _
theorem vm_append {K : Fg} {mg : MG} : VM1 K mg rAppend appendD := by
  intro dl d dl' res hg a y H B Q c s r n k
  unfold appendD at hg
  cases dl with
  | lst ds =>
    dsimp only at hg
    split at hg
    · rename_i hz
      cases hg
      obtain ⟨vs, e, rl⟩ := c
      refine ⟨a, vs, y, rfl, rfl, e, by rw [rl.length]; exact of_decide_eq_true hz, k _ _ ⟨_, upd_same, rl.append (.one r)⟩ .non⟩
    · cases hg
  | _ => cases hg
theorem vm_extend {K : Fg} {mg : MG} : VM1 K mg rExtend extendD := by
  intro dl d dl' res hg a y H B Q c s r n k
  unfold extendD at hg
  cases dl with
  | lst ds =>
    cases d with
    | lst es =>
      dsimp only at hg
      split at hg
      · rename_i hz
        cases hg
        obtain ⟨vs, e, rl⟩ := c
        obtain ⟨b, ws, rfl, e2, r2⟩ : ∃ b ws, y = .ref b ∧ B b = some (.lst ws) ∧ RepL K mg B ws es := by
          cases r with | lst h1 h2 => exact ⟨_, _, rfl, h1, h2⟩
        refine ⟨a, b, vs, ws, rfl, rfl, e, s _ _ e2, by rw [rl.length, r2.length]; exact of_decide_eq_true hz, k _ _ ⟨_, upd_same, rl.append r2⟩ .non⟩
      · cases hg
    | _ => cases hg
  | _ => cases hg
theorem vm_pop {K : Fg} {mg : MG} : VM0 K mg rPop popD := by
  intro dl dl' res hg a H B Q c s n k
  unfold popD at hg
  cases dl with
  | lst ds =>
    dsimp only at hg
    cases q : ds[ds.length - 1]? with
    | none => rw [q] at hg; cases hg
    | some d =>
      rw [q] at hg; cases hg
      obtain ⟨vs, e, rl⟩ := c
      obtain ⟨y, ey, ry⟩ := rl.get q
      exact ⟨a, vs, y, rfl, rfl, e, by rw [rl.length]; exact ey, k _ _ ⟨_, upd_same, rl.dropLast⟩ ry⟩
  | _ => cases hg
end DL

set_option Elab.async false
set_option linter.all false
set_option maxRecDepth 100000
set_option maxHeartbeats 4000000
namespace DL
open PySem PySem.Spec PyProof.Rows L2

abbrev GS := D → D → D → Option D
def VS (K : Fg) (mg : MG) (r : TSet) (g : GS) : Prop :=
  ∀ dl k d dl', g dl k d = some dl' → ∀ a y v H B Q, Con K mg H B a dl → Sub B H → Rep K mg B y k → Rep K mg B v d → B a = none → (∀ o', Con K mg (upd H a o') B a dl' → Q (upd H a o')) → r (.ref a) y v H Q
def rSetA : TSet := fun o i v H Q => rSetL o i v H Q ∨ rSetD o i v H Q
theorem set_any {X : Cx} (hu : X.A.units + 1 < cLine) : PSet X rSetA := by
  intro pins s σ H o i v ov iv u Q I ro ri rv h
  rcases h with h | h
  · exact set_list pins s σ H o i v ov iv u Q I ro ri rv h
  · exact set_dict hu pins s σ H o i v ov iv u Q I ro ri rv h
def putE {κ : Type} [DecidableEq κ] (f : D → Option κ) (es : List (D × D)) (k : κ) (kd d : D) : List (D × D) :=
  if (es.any fun e => decide (f e.1 = some k)) = true then es.map fun e => if f e.1 = some k then (e.1, d) else e else es ++ [(kd, d)]
def putD : GS := fun dl k d => match dl with
  | .lst ds => match k with
    | .int i => (ixN ds.length i).map fun j => .lst (ds.set j d)
    | _ => none
  | .dct false es => match keyOf? k with
    | some q => if okT es.length then some (.dct false (putE keyOf? es q (keyD q) d)) else none
    | none => none
  | .dct true es => match tupKey? k with
    | some q => if okT es.length then some (.dct true (putE tupKey? es q (.tup (q.map keyD)) d)) else none
    | none => none
  | _ => none
section
variable {K : Fg} {mg : MG}
theorem RepK.app {B : Hp} {k : Key} {v : V} {d : D} (h : Rep K mg B v d) : ∀ {kvs : List (Key × V)} {es : List (D × D)}, RepK K mg B kvs es → RepK K mg B (kvs ++ [(k, v)]) (es ++ [(keyD k, d)])
  | _, _, .nil => .cons h .nil
  | _, _, .cons q r => .cons q (r.app h)
theorem RepT.app {B : Hp} {k : List Key} {v : V} {d : D} (h : Rep K mg B v d) : ∀ {kvs : List (List Key × V)} {es : List (D × D)}, RepT K mg B kvs es → RepT K mg B (kvs ++ [(k, v)]) (es ++ [(.tup (k.map keyD), d)])
  | _, _, .nil => .cons h .nil
  | _, _, .cons q r => .cons q (r.app h)
theorem RepK.any {B : Hp} (k : Key) : ∀ {kvs : List (Key × V)} {es : List (D × D)}, RepK K mg B kvs es → (kvs.any fun kv => decide (kv.1 = k)) = es.any fun e => decide (keyOf? e.1 = some k)
  | _, _, .nil => rfl
  | _, _, .cons (k := k') _ r => by
    have e : decide (k' = k) = decide (keyOf? (keyD k') = some k) := by rw [keyOf_keyD]; simp
    rw [List.any_cons, List.any_cons, r.any k]
    exact congrArg (· || _) e
theorem RepT.any {B : Hp} (k : List Key) : ∀ {kvs : List (List Key × V)} {es : List (D × D)}, RepT K mg B kvs es → (kvs.any fun kv => decide (kv.1 = k)) = es.any fun e => decide (tupKey? e.1 = some k)
  | _, _, .nil => rfl
  | _, _, .cons (k := k') _ r => by
    have e : decide (k' = k) = decide (tupKey? (D.tup (k'.map keyD)) = some k) := by show _ = decide (keysOf? (k'.map keyD) = some k); rw [keysOf_keyD]; simp
    rw [List.any_cons, List.any_cons, r.any k]
    exact congrArg (· || _) e
theorem RepK.rep {B : Hp} (k : Key) {v : V} {d : D} (h : Rep K mg B v d) : ∀ {kvs : List (Key × V)} {es : List (D × D)}, RepK K mg B kvs es → RepK K mg B (kvs.map fun kv => if kv.1 = k then (kv.1, v) else kv) (es.map fun e => if keyOf? e.1 = some k then (e.1, d) else e)
  | _, _, .nil => .nil
  | _, _, .cons (k := k') q r => by
    rw [List.map_cons, List.map_cons]
    by_cases e : k' = k
    · rw [if_pos e, if_pos (by rw [keyOf_keyD, e])]; exact .cons h (r.rep k h)
    · rw [if_neg e, if_neg (by rw [keyOf_keyD]; exact fun z => e (Option.some.inj z))]; exact .cons q (r.rep k h)
theorem RepT.rep {B : Hp} (k : List Key) {v : V} {d : D} (h : Rep K mg B v d) : ∀ {kvs : List (List Key × V)} {es : List (D × D)}, RepT K mg B kvs es → RepT K mg B (kvs.map fun kv => if kv.1 = k then (kv.1, v) else kv) (es.map fun e => if tupKey? e.1 = some k then (e.1, d) else e)
  | _, _, .nil => .nil
  | _, _, .cons (k := k') q r => by
    rw [List.map_cons, List.map_cons]
    by_cases e : k' = k
    · rw [if_pos e, if_pos (by show keysOf? (k'.map keyD) = some k; rw [keysOf_keyD, e])]; exact .cons h (r.rep k h)
    · rw [if_neg e, if_neg (by show ¬ keysOf? (k'.map keyD) = some k; rw [keysOf_keyD]; exact fun z => e (Option.some.inj z))]; exact .cons q (r.rep k h)
theorem RepK.put {B : Hp} (k : Key) {v : V} {d : D} (h : Rep K mg B v d) {kvs : List (Key × V)} {es : List (D × D)} (r : RepK K mg B kvs es) : RepK K mg B (putK kvs k v) (putE keyOf? es k (keyD k) d) := by
  unfold putK putE
  rw [r.any k]
  split
  · exact r.rep k h
  · exact r.app h
theorem RepT.put {B : Hp} (k : List Key) {v : V} {d : D} (h : Rep K mg B v d) {kvs : List (List Key × V)} {es : List (D × D)} (r : RepT K mg B kvs es) : RepT K mg B (putK kvs k v) (putE tupKey? es k (.tup (k.map keyD)) d) := by
  unfold putK putE
  rw [r.any k]
  split
  · exact r.rep k h
  · exact r.app h
theorem vs_put : VS K mg rSetA putD := by
  intro dl k d dl' hg a y v H B Q c s rk rv n q
  unfold putD at hg
  split at hg
  · rename_i ds
    split at hg
    · rename_i i
      obtain ⟨vs, e, rl⟩ := c
      cases hj : ixN ds.length i with
      | none => rw [hj] at hg; cases hg
      | some j =>
        rw [hj] at hg; cases hg
        exact .inl ⟨a, vs, i, j, rfl, by cases rk; rfl, e, by rw [rl.length]; exact hj, q _ ⟨_, upd_same, rl.set rv j⟩⟩
    · cases hg
  · rename_i es
    split at hg
    · rename_i q' hq
      split at hg
      · rename_i hz
        cases hg
        obtain ⟨kvs, e, rl⟩ := c
        refine .inr ⟨a, _, rfl, .inl ⟨kvs, q', e, keyOf_rep (H := H) (.inl rk) hq, by rw [rl.length]; exact of_decide_eq_true hz, rfl⟩, q _ ⟨_, upd_same, rl.put q' rv⟩⟩
      · cases hg
    · cases hg
  · rename_i es
    split at hg
    · rename_i q' hq
      split at hg
      · rename_i hz
        cases hg
        obtain ⟨kvs, e, rl⟩ := c
        cases k with
        | tup ds =>
          obtain ⟨b, ws, rfl, h1, h2⟩ : ∃ b ws, y = .ref b ∧ B b = some (.tup ws) ∧ RepL K mg B ws ds := by
            cases rk with | tup h1 h2 => exact ⟨_, _, rfl, h1, h2⟩
          have hks := keysOf_rep h2 hq
          subst hks
          exact .inr ⟨a, _, rfl, .inr ⟨kvs, q', b, e, rfl, s _ _ h1, by rw [rl.length]; exact of_decide_eq_true hz, rfl⟩, q _ ⟨_, upd_same, rl.put q' rv⟩⟩
        | _ => cases hq
      · cases hg
    · cases hg
  · cases hg
end
def sPut (i : Nat) (fk f : CE) : CS := fun env => (f env).bind fun r => match own? r.2.2[i]? with
  | some _ => (fk r.2.2).bind fun q => match own? q.2.2[i]? with
    | some (io, dl) => match putD dl q.2.1 r.2.1 with
      | some dl' => .ok (.nx, q.2.2.set i (owS io dl'))
      | none => .stuck
    | none => .stuck
  | none => .stuck
section
variable {X : Cx} {p : FP} {W : Wx} {pos : Pos}
theorem put_ok {i : Nat} {fk f : CE} {D : Ends} {σ : L2.St} {H : Hp} (h : tS X p W (sPut i fk f) D σ H) : tAsg (tX X p W f) (gSub (tVar i) (tX X p W fk) rSetA) D σ H := by
  obtain ⟨env, B, E, h⟩ := h
  refine ⟨env, B, E, (Goes.bind h).imp ?_⟩
  rintro ⟨m, d, e1⟩ h v H1 B1 E1 F1 r1
  obtain ⟨B2, E2, F2, r2, _⟩ := freeze E E1 F1 r1
  dsimp only at h
  cases ho : own? e1[i]? with
  | none => rw [ho] at h; exact h.elim
  | some q0 =>
    obtain ⟨io0, d0⟩ := q0
    rw [ho] at h
    obtain ⟨a, ea, c0, n0⟩ := E2.owned (own?_some ho)
    refine ⟨.ref a, ea, e1, B2, E2, (Goes.bind h).imp ?_⟩
    rintro ⟨mk, k, e2⟩ h y H3 B3 E3 F3 r3
    obtain ⟨B4, E4, F4, r4, _⟩ := freeze E2 E3 F3 r3
    dsimp only at h
    cases ho2 : own? e2[i]? with
    | none => rw [ho2] at h; exact h.elim
    | some q0 =>
      obtain ⟨io, dl⟩ := q0
      rw [ho2] at h
      dsimp only at h
      cases hp : putD dl k d with
      | none => rw [hp] at h; exact h.elim
      | some dl' =>
        rw [hp] at h
        obtain ⟨a1, ea1, c1, n1⟩ := E4.owned (own?_some ho2)
        rw [ea] at ea1; cases ea1
        refine vs_put dl k d dl' hp a y v H3 B4 _ c1 E4.sub r4 (r2.mono F4.base) n1 fun o' c' => ?_
        obtain ⟨E5, F5⟩ := E4.write (own?_some ho2) ea c'
        exact h σ _ B4 E5 (F2.base.trans F4.base)
theorem ds_put {i : Nat} {x : Str} {k e : Expr} {fk f : CE} {xp spos : Pos} (hu : X.A.units + 1 < cLine) (hN : X.N[i]? = some x) (hx : Vis X.env.scope x) (hk : DE X p W k fk) (he : DE X p W e f) (ha : ∀ v, assign (.Subscript (.Name x xp) k spos) X.env v = (do
      let ov ← holding [v] (eval (.Name x xp) X.env)
      let iv ← holding [v, ov] (eval k X.env)
      standAt spos
      holding [v, ov, iv] (setItem ov iv v)
      release [v, ov, iv] []) := by intro _; rfl) (hs : swapsWithSole [.Subscript (.Name x xp) k spos] e pos.line X.env = pure false := by rfl) (hw : swappedStores [.Subscript (.Name x xp) k spos] e X.env = pure none := by rfl)
    (h1 : (assignEach [.Subscript (.Name x xp) k spos] X.env).map (·.2) = [assign (.Subscript (.Name x xp) k spos) X.env] := by rfl) (hd : (x == ("__debug__" : Str)) = false := by decide) (hcd : (x == ("__classdict__" : Str)) = false := by decide) :
    DS X p W (.Assign [.Subscript (.Name x xp) k spos] e pos) (sPut i fk f) := ps_imp (ps_asg he (pg_sub (pe_var hN hx hd hcd) hk (set_any hu) ha) hs hw h1) fun _ _ _ h => put_ok h
end
section
variable {X : Cx} {p : FP} {W : Wx} {pos : Pos}
theorem slot_val {H B : Hp} {σ : L2.St} {env : Env} {i : Nat} {d : D} (E : ER X.K X.mg p H B σ env) (h : rd env (.slot i) = some d) : ∃ v, σ[i]? = some (some v) := by
  rcases rd_slot h with h | h | h
  · obtain ⟨v, e, _⟩ := E.sh i d h; exact ⟨v, e⟩
  · obtain ⟨a, e, _⟩ := E.ow i d h; exact ⟨_, e⟩
  · obtain ⟨a, _, e, _⟩ := E.ioo i d h; exact ⟨_, e⟩
def setSl (i : Nat) (m : Bool) (d : D) (e1 : Env) : R (Fl × Env) := match e1[i]? with
  | some (.io _) => .stuck
  | some _ => .ok (.nx, e1.set i (if m then .ow d else .sh d))
  | none => .stuck
theorem setV {i : Nat} {m : Bool} {d : D} {D' : Ends} {σ : L2.St} {env e1 : Env} {H B B0 H1 B1 : Hp} {v : V} (E : ER X.K X.mg p H B σ env) (E1 : ER X.K X.mg p H1 B1 σ e1) (F1 : Fx σ env H B H1 B1 e1) (s0 : Sub B0 B) (r1 : Res X.K X.mg H H1 B1 m v d)
    (h : Goes p W (setSl i m d e1) fun r => match r.1 with
      | .nx => ∀ σ' H' B', ER X.K X.mg p H' B' σ' r.2 → Sub B0 B' → D'.nx σ' H'
      | .bk => ∀ σ' H' B', ER X.K X.mg p H' B' σ' r.2 → Sub B0 B' → D'.bk σ' H'
      | .ct => ∀ σ' H' B', ER X.K X.mg p H' B' σ' r.2 → Sub B0 B' → D'.ct σ' H'
      | .rt m d => ∀ v σ' H' B', ER X.K X.mg p H' B' σ' r.2 → RetV X.K X.mg p H' B' m v d → D'.rt v H') : D'.nx (σ.set i (some v)) H1 := by
  unfold setSl at h
  cases hs : e1[i]? with
  | none => rw [hs] at h; exact h.elim
  | some sl =>
    have hi : i < e1.length := (List.getElem?_eq_some_iff.mp hs).1
    have h2 : ∀ σ' H' B', ER X.K X.mg p H' B' σ' (e1.set i (if m then .ow d else .sh d)) → Sub B0 B' → D'.nx σ' H' := by
      rw [hs] at h
      cases sl with
      | io _ => exact h.elim
      | un => exact h
      | sh _ => exact h
      | ow _ => exact h
    have nio : ∀ x, sl ≠ .io x := fun x q => by rw [hs, q] at h; exact h.elim
    cases m with
    | true =>
      obtain ⟨a, rfl, c, n, z⟩ := r1
      exact h2 _ _ _ (E.take E1 F1 hi c n z) (s0.trans F1.base)
    | false =>
      refine h2 _ _ _ ?_ (s0.trans F1.base)
      have : gN i d e1 = some (e1.set i (.sh d)) := by
        unfold gN; rw [hs]
        cases sl with
        | io x => exact absurd rfl (nio x)
        | _ => rfl
      exact (tgt_name E1 r1 this).1
def sAug (i : Nat) (f2 : D → D → Option (Bool × D)) (fb : CB) : CS := fun env => match rd env (.slot i) with
  | some _ => (fb env).bind fun r => (app2 f2 (.slot i) r.1 r.2).bind fun q => setSl i q.1 q.2.1 q.2.2
  | none => .stuck
theorem aug_ok {i : Nat} {f2 : D → D → Option (Bool × D)} {r : R2} {e : Expr} {fb : CB} {D : Ends} {σ : L2.St} {H : Hp} (hv : VR2 X.K X.mg r f2) (h : tS X p W (sAug i f2 fb) D σ H) : tAug i (tB X p W fb) r D σ H := by
  obtain ⟨env, B, E, h⟩ := h
  unfold sAug at h
  cases hr : rd env (.slot i) with
  | none => rw [hr] at h; exact h.elim
  | some d0 =>
    rw [hr] at h
    obtain ⟨x, ex⟩ := slot_val E hr
    refine ⟨x, ex, env, B, E, (Goes.bind h).imp ?_⟩
    rintro ⟨o, e1⟩ h v H1 B1 E1 F1 r1
    exact app2_goes (σ := σ) (o1 := .slot i) hv E1 ex r1 (Goes.bind h) fun m d z H' B' g x' rz => setV E (E1.ext x') (F1.trans x'.fx) Sub.rfl' (rz.back F1.dom) g
theorem ds_aug {i : Nat} {x : Str} {e : Expr} {op : Operator} {r : R2} {f2 : D → D → Option (Bool × D)} {fb : CB} {pos' : Pos} (hN : X.N.Nodup) (hi : X.N[i]? = some x) (hx : Loc X.env.scope x) (ho : OpR X (inplaceOp op) r) (hv : VR2 X.K X.mg r f2) (he : DB X p W e fb) (hf : X.fn x = true ∨ X.env.scope.names.lookup x = some .local := by first | exact .inl rfl | exact .inr rfl | assumption) :
    DS X p W (.AugAssign (.Name x pos') op e pos) (sAug i f2 fb) := ps_imp (ps_aug hN hi hx he (ti := r) (fun pins s σ H x y v u Q I r1 r2 q => ho pins s σ H x y v u Q I r1 r2 q) hf) fun _ _ _ h => aug_ok (e := e) hv h
/-- values, the fresh ones kept -/
abbrev CM := Env → R (List (Bool × D) × Env)
def mNil : CM := fun env => .ok ([], env)
def mCons (f : CE) (g : CM) : CM := fun env => (f env).bind fun r => (g r.2.2).bind fun q => .ok ((r.1, r.2.1) :: q.1, q.2)
inductive ResL (K : Fg) (mg : MG) (H H' B' : Hp) : List V → List (Bool × D) → Prop
  | nil : ResL K mg H H' B' [] []
  | cons {v : V} {m : Bool} {d : D} {vs : List V} {ds : List (Bool × D)} : Res K mg H H' B' m v d → ResL K mg H H' B' vs ds → (m = true → ∀ (j : Nat) u e, vs[j]? = some u → ds[j]? = some (true, e) → u ≠ v) → ResL K mg H H' B' (v :: vs) ((m, d) :: ds)
theorem ResL.back {K : Fg} {mg : MG} {H H1 H' B' : Hp} (h : ∀ a, H a ≠ none → H1 a ≠ none) : ∀ {vs : List V} {ds : List (Bool × D)}, ResL K mg H1 H' B' vs ds → ResL K mg H H' B' vs ds
  | _, _, .nil => .nil
  | _, _, .cons r rr n => .cons (r.back h) (rr.back h) n
theorem ResL.freshAt {K : Fg} {mg : MG} {H H' B' : Hp} {u : V} {e : D} : ∀ {vs : List V} {ds : List (Bool × D)} {j : Nat}, ResL K mg H H' B' vs ds → vs[j]? = some u → ds[j]? = some (true, e) → ∃ a, u = .ref a ∧ H a = none
  | _, _, j, .nil, h, _ => by simp at h
  | _, _, 0, .cons r rr n, h1, h2 => by
    simp at h1 h2
    obtain ⟨h2, h3⟩ := h2
    subst h1 h2 h3
    obtain ⟨a, e, _, _, z⟩ := r
    exact ⟨a, e, z⟩
  | _, _, j + 1, .cons r rr n, h1, h2 => rr.freshAt (by simpa using h1) (by simpa using h2)
def tM (X : Cx) (p : FP) (W : Wx) (f : CM) : TA := fun σ H Q => ∃ env B, ER X.K X.mg p H B σ env ∧ Goes p W (f env) fun r =>
  ∀ vs H' B', ER X.K X.mg p H' B' σ r.2 → Fx σ env H B H' B' r.2 → ResL X.K X.mg H H' B' vs r.1 → Q vs H'
abbrev DM (X : Cx) (p : FP) (W : Wx) (es : List Expr) (f : CM) : Prop := PA X es (tM X p W f)
theorem dm_nil : DM X p W [] mNil := pa_imp pa_nil fun σ H Q ⟨env, B, E, h⟩ => h [] H B E Fx.rfl' .nil
theorem dm_cons {e : Expr} {es : List Expr} {f : CE} {g : CM} (h1 : DE X p W e f) (h2 : DM X p W es g) (hs : starEach (e :: es) X.env = (false, eval e X.env) :: starEach es X.env := by rfl) : DM X p W (e :: es) (mCons f g) := by
  refine pa_imp (pa_cons h1 h2 hs) ?_
  rintro σ H Q ⟨env, B, E, h⟩
  refine ⟨env, B, E, (Goes.bind h).imp ?_⟩
  rintro ⟨m, d, e1⟩ h v1 H1 B1 E1 F1 r1
  refine ⟨e1, B1, E1, (Goes.bind h).imp ?_⟩
  rintro ⟨ds, e2⟩ h vs H2 B2 E2 F2 r2
  refine h (v1 :: vs) H2 B2 E2 (F1.trans F2) ?_
  cases m with
  | false => exact .cons (Rep.mono F2.base r1) (r2.back F1.dom) (fun q => by cases q)
  | true =>
    obtain ⟨a, rfl, c, n, z⟩ := r1
    have no : ¬ Owned σ e1 a := fun q => by
      obtain ⟨o, e⟩ := E.there (F1.own a q)
      rw [z] at e; cases e
    obtain ⟨o, ho⟩ := c.there
    have n2 : B2 a = none := by
      cases e : B2 a with
      | none => rfl
      | some x =>
        rcases F2.new a x e with q | q | q
        · rw [n] at q; cases q
        · rw [ho] at q; cases q
        · exact absurd q no
    refine .cons ⟨a, rfl, c.mono (fun o h => F2.keep a o h no) F2.base, n2, z⟩ (r2.back F1.dom) fun _ j u e h1 h2 hu => ?_
    obtain ⟨b, hb, zb⟩ := r2.freshAt h1 h2
    rw [hb] at hu
    cases hu
    rw [ho] at zb; cases zb
def sPar (i j : Nat) (f : CM) : CS := fun env => (f env).bind fun r => match r.1 with
  | [x, y] => (setSl i x.1 x.2 r.2).bind fun q => setSl j y.1 y.2 q.2
  | _ => .stuck
end
end DL

set_option Elab.async false
set_option linter.all false
set_option maxRecDepth 100000
set_option maxHeartbeats 4000000
namespace DL
open PySem PySem.Spec PyProof.Rows L2

section
variable {X : Cx} {p : FP} {W : Wx} {pos : Pos}
theorem ER.take0 {K : Fg} {mg : MG} {H B : Hp} {σ : L2.St} {env : Env} (E : ER K mg p H B σ env) {i : Nat} {a : Addr} {d : D} (hi : i < env.length)
    (c : Con K mg H B a d) (n : B a = none) (z : p.H0 a = none) (no : ¬ Owned σ env a) : ER K mg p H B (σ.set i (some (.ref a))) (env.set i (.ow d)) := by
  have hi' : i < σ.length := by rw [E.len]; exact hi
  have at_ : ∀ j b, OwnAt (σ.set i (some (.ref a))) (env.set i (.ow d)) j b → (j = i ∧ b = a) ∨ (j ≠ i ∧ OwnAt σ env j b) := by
    rintro j b ⟨q, d', q'⟩
    by_cases hj : j = i
    · subst hj
      rw [List.getElem?_set_self hi'] at q
      cases q; exact .inl ⟨rfl, rfl⟩
    · rw [List.getElem?_set_ne (Ne.symm hj)] at q
      rw [List.getElem?_set_ne (Ne.symm hj)] at q'
      exact .inr ⟨hj, q, d', q'⟩
  refine ⟨E.sub, E.b0, E.new, E.frm, E.iod, by simp [E.len], fun j d' q => ?_, fun j d' q => ?_, fun j d' q => ?_, fun j k b q q' => ?_⟩
  · rcases get_set q with ⟨_, w⟩ | ⟨hj, w⟩
    · cases w
    · obtain ⟨v, e, r⟩ := E.sh j d' w
      exact ⟨v, by rw [List.getElem?_set_ne (Ne.symm hj)]; exact e, r⟩
  · rcases get_set q with ⟨hj, w⟩ | ⟨hj, w⟩
    · cases w; subst hj
      exact ⟨a, List.getElem?_set_self hi', c, n, z⟩
    · obtain ⟨b, e, r⟩ := E.ow j d' w
      exact ⟨b, by rw [List.getElem?_set_ne (Ne.symm hj)]; exact e, r⟩
  · rcases get_set q with ⟨_, w⟩ | ⟨hj, w⟩
    · cases w
    · obtain ⟨b, e0, e, r⟩ := E.ioo j d' w
      exact ⟨b, e0, by rw [List.getElem?_set_ne (Ne.symm hj)]; exact e, r⟩
  · rcases at_ j b q with ⟨h1, h2⟩ | ⟨h1, h2⟩ <;> rcases at_ k b q' with ⟨h3, h4⟩ | ⟨h3, h4⟩
    · rw [h1, h3]
    · exact absurd ⟨k, by rw [← h2]; exact h4⟩ no
    · exact absurd ⟨j, by rw [← h4]; exact h2⟩ no
    · exact E.dis j k b h2 h4
theorem setSl_some {i : Nat} {m : Bool} {d : D} {e1 : Env} {G : Fl × Env → Prop} (h : Goes p W (setSl i m d e1) G) : i < e1.length ∧ (∀ x, e1[i]? ≠ some (.io x)) ∧ G (.nx, e1.set i (if m then .ow d else .sh d)) := by
  unfold setSl at h
  cases hs : e1[i]? with
  | none => rw [hs] at h; exact h.elim
  | some sl =>
    have hi : i < e1.length := (List.getElem?_eq_some_iff.mp hs).1
    rw [hs] at h
    cases sl with
    | io _ => exact h.elim
    | un => exact ⟨hi, fun x q => (by cases q), h⟩
    | sh _ => exact ⟨hi, fun x q => (by cases q), h⟩
    | ow _ => exact ⟨hi, fun x q => (by cases q), h⟩
/-- one of several values is put into its slot -/
theorem ER.put1 {H B : Hp} {σ : L2.St} {env : Env} (E : ER X.K X.mg p H B σ env) {i : Nat} {m : Bool} {v : V} {d : D} (hi : i < env.length) (nio : ∀ x, env[i]? ≠ some (.io x)) {H0 : Hp} (h0 : ∀ a, H0 a = none → p.H0 a = none) (r : Res X.K X.mg H0 H B m v d)
    (no : ∀ a, v = .ref a → m = true → ¬ Owned σ env a) : ER X.K X.mg p H B (σ.set i (some v)) (env.set i (if m then .ow d else .sh d)) ∧ ∀ a, Owned (σ.set i (some v)) (env.set i (if m then .ow d else .sh d)) a → Owned σ env a ∨ (m = true ∧ v = .ref a) := by
  cases m with
  | true =>
    obtain ⟨a, rfl, c, n, z⟩ := r
    refine ⟨E.take0 hi c n (h0 a z) (no a rfl rfl), fun b hb => ?_⟩
    obtain ⟨j, q, x, q'⟩ := hb
    by_cases hj : j = i
    · subst hj
      rw [List.getElem?_set_self (by rw [E.len]; exact hi)] at q
      exact .inr ⟨rfl, by cases q; rfl⟩
    · rw [List.getElem?_set_ne (Ne.symm hj)] at q
      rw [List.getElem?_set_ne (Ne.symm hj)] at q'
      exact .inl ⟨j, q, x, q'⟩
  | false =>
    have : gN i d env = some (env.set i (.sh d)) := by
      unfold gN
      cases hs : env[i]? with
      | none => exact absurd hi (by rw [List.getElem?_eq_none_iff] at hs; omega)
      | some sl =>
        cases sl with
        | io x => exact absurd hs (nio x)
        | _ => rfl
    have T := tgt_name E r this
    exact ⟨T.1, fun a h => .inl (T.2.2.2.2 a h)⟩
theorem par_ok {i j : Nat} {f : CM} {D : Ends} {σ : L2.St} {H : Hp} (h : tS X p W (sPar i j f) D σ H) : tPar i j (tM X p W f) D σ H := by
  obtain ⟨env, B, E, h⟩ := h
  refine ⟨env, B, E, (Goes.bind h).imp ?_⟩
  rintro ⟨ds, e1⟩ h vs H1 B1 E1 F1 r1
  have hds : ∃ x y, ds = [x, y] := by
    dsimp only at h
    split at h
    · exact ⟨_, _, rfl⟩
    · exact h.elim
  obtain ⟨⟨mx, dx⟩, ⟨my, dy⟩, rfl⟩ := hds
  · dsimp only at r1
    cases r1 with
    | cons ra rr na =>
      cases rr with
      | cons rb rr nb =>
        cases rr
        rename_i v w
        refine ⟨v, w, rfl, ?_⟩
        obtain ⟨hi, nio, h⟩ := setSl_some (Goes.bind h)
        obtain ⟨hj, njo, h⟩ := setSl_some h
        have h0 : ∀ a, H a = none → p.H0 a = none := fun a => E.h0
        have noO : ∀ a m v d, Res X.K X.mg H H1 B1 m v d → v = .ref a → m = true → ¬ Owned σ e1 a := fun a m v d r hv hm q => by
          subst hm
          obtain ⟨b, e, _, _, z⟩ := r
          rw [hv] at e; cases e
          obtain ⟨o, e⟩ := E.there (F1.own a q)
          rw [z] at e; cases e
        obtain ⟨E2, o2⟩ := E1.put1 hi nio h0 ra fun a => noO a _ _ _ ra
        obtain ⟨E3, o3⟩ := E2.put1 hj njo h0 rb fun a hw hm q => by
          rcases o2 a q with q | ⟨q1, q2⟩
          · exact noO a _ _ _ rb hw hm q
          · subst hm q1
            exact na rfl 0 w dy rfl rfl (hw.trans q2.symm)
        exact h _ _ _ E3 F1.base
theorem ds_par {i j : Nat} {x y : Str} {a b : Expr} {f : CM} {px py pt : Pos} {kt k2 pt2} (hc : X.calm = true) (hN : X.N.Nodup) (hi : X.N[i]? = some x) (hj : X.N[j]? = some y) (hij : i ≠ j)
    (hx : X.env.scope.names.lookup x = some .local) (hy : X.env.scope.names.lookup y = some .local) (ha : DM X p W [a, b] f)
    (hw : swappedStores [.Tuple [.Name x px, .Name y py] kt pt] (.Tuple [a, b] k2 pt2) X.env = pure (some [x, y]))
    (hs : swapsWithSole [.Tuple [.Name x px, .Name y py] kt pt] (.Tuple [a, b] k2 pt2) pos.line X.env = pure false) :
    DS X p W (.Assign [.Tuple [.Name x px, .Name y py] kt pt] (.Tuple [a, b] k2 pt2) pos) (sPar i j f) :=
  ps_imp (ps_par hc hN hi hj hij hx hy ha hw hs) fun _ _ _ h => par_ok h
def forL (g : Gt) (f : CS) : List D → Env → R (Fl × Env)
  | [], env => .ok (.nx, env)
  | d :: ds, env => (R.of (g d env)).bind fun e1 => (f e1).bind fun r => match r.1 with
    | .nx => forL g f ds r.2
    | .ct => forL g f ds r.2
    | .bk => .ok (.nx, r.2)
    | .rt m d => .ok (.rt m d, r.2)
def sFor (g : Gt) (it : CI) (f : CS) : CS := fun env => (it env).bind fun r => forL g f r.1 r.2
theorem for_ok {ts : List Nat} {g : Gt} {it : CI} {f : CS} {D : Ends} {σ : L2.St} {H : Hp} (h : tS X p W (sFor g it f) D σ H) : tFor (tI X p W it) (tG X p ts g) (tS X p W f) D σ H := by
  obtain ⟨env, B, E, h⟩ := h
  refine ⟨env, B, E, (Goes.bind h).imp ?_⟩
  rintro ⟨ds, e1⟩ h J H1 B1 E1 F1 w
  dsimp only at h
  generalize hG : (fun r : Fl × Env => match r.1 with
      | .nx => ∀ σ' H' B', ER X.K X.mg p H' B' σ' r.2 → Sub B B' → D.nx σ' H'
      | .bk => ∀ σ' H' B', ER X.K X.mg p H' B' σ' r.2 → Sub B B' → D.bk σ' H'
      | .ct => ∀ σ' H' B', ER X.K X.mg p H' B' σ' r.2 → Sub B B' → D.ct σ' H'
      | .rt m d => ∀ v σ' H' B', ER X.K X.mg p H' B' σ' r.2 → RetV X.K X.mg p H' B' m v d → D.rt v H') = G at h
  refine ⟨fun i m σ2 H2 => m = ds.length - i ∧ i ≤ ds.length ∧ ∃ e2 B2, ER X.K X.mg p H2 B2 σ2 e2 ∧ Sub B1 B2 ∧ Goes p W (forL g f (ds.drop i) e2) G, ⟨_, rfl, Nat.zero_le _, e1, B1, E1, Sub.rfl', h⟩, ?_⟩
  rintro i m σ2 H2 ⟨em, hi, e2, B2, E2, s2, h⟩
  rcases Nat.lt_or_ge i ds.length with hl | hl
  · right
    refine ⟨w.goes i H2 hl (s2.trans E2.sub), fun σ3 H3 => ∃ e3 B3, ER X.K X.mg p H3 B3 σ3 e3 ∧ Sub B1 B3 ∧ Goes p W (forL g f (ds.drop (i + 1)) e3) G, fun σ3 H3 ⟨e3, B3, q⟩ => ⟨ds.length - (i + 1), by omega, rfl, hl, e3, B3, q⟩, ?_⟩
    intro x H3 y
    obtain ⟨d, B3, hd, x3, rd⟩ := w.turn s2 E2.sub hl y
    have ed : ds.drop i = d :: ds.drop (i + 1) := by
      rw [List.drop_eq_getElem_cons hl]
      have := List.getElem?_eq_getElem hl
      rw [hd] at this
      rw [← Option.some.inj this]
    rw [ed] at h
    unfold forL at h
    obtain ⟨e4, hg, h⟩ := of_bind h
    refine ⟨e2, B3, d, e4, E2.ext x3, rd, hg, fun σ4 T => ⟨e4, B3, T.1, (Goes.bind h).imp ?_⟩⟩
    rintro ⟨fl, e5⟩ h
    cases fl with
    | nx => exact fun σ' H' B' E' S' => ⟨e5, B', E', (s2.trans x3.base).trans S', h⟩
    | ct => exact fun σ' H' B' E' S' => ⟨e5, B', E', (s2.trans x3.base).trans S', h⟩
    | bk => exact fun σ' H' B' E' S' => (by subst hG; exact h σ' H' B' E' (F1.base.trans ((s2.trans x3.base).trans S')))
    | rt m d => exact fun v σ' H' B' E' r' => (by subst hG; exact h v σ' H' B' E' r')
  · left
    have : i = ds.length := Nat.le_antisymm hi hl
    subst this
    rw [List.drop_length] at h
    subst hG
    exact ⟨w.stops H2 (s2.trans E2.sub), h σ2 H2 B2 E2 (F1.base.trans s2)⟩
theorem ds_for {tg iter : Expr} {body : List Stmt} {ts : List Nat} {g : Gt} {it : CI} {f : CS} (hp : PassesOwn (model X.prog X.w) X.A X.env X.xe) (hc : X.calm = true) (hi : DI X p W tg iter it) (hg : DG X p tg ts g) (hb : DSs X p W body f) (hs : ∀ x, foldedSetIterable iter X.env x = pure x := by intro _; rfl) :
    DS X p W (.For tg iter body [] pos) (sFor g it f) := ps_imp (ps_for hp hc hi hg hb hs) fun _ _ _ h => for_ok h
def whL (c : CT) (f : CS) : Nat → Env → R (Fl × Env)
  | 0, _ => .stuck
  | n + 1, env => (c env).bind fun r => match r.1 with
    | true => (f r.2).bind fun q => match q.1 with
      | .nx => whL c f n q.2
      | .ct => whL c f n q.2
      | .bk => .ok (.nx, q.2)
      | .rt m d => .ok (.rt m d, q.2)
    | false => .ok (.nx, r.2)
def sWhile (n : Nat) (c : CT) (f : CS) : CS := whL c f n
theorem while_ok {n : Nat} {c : CT} {f : CS} {D : Ends} {σ : L2.St} {H : Hp} (h : tS X p W (sWhile n c f) D σ H) : tWhile (tT X p W c) (tS X p W f) D σ H := by
  obtain ⟨env, B, E, h⟩ := h
  generalize hG : (fun r : Fl × Env => match r.1 with
      | .nx => ∀ σ' H' B', ER X.K X.mg p H' B' σ' r.2 → Sub B B' → D.nx σ' H'
      | .bk => ∀ σ' H' B', ER X.K X.mg p H' B' σ' r.2 → Sub B B' → D.bk σ' H'
      | .ct => ∀ σ' H' B', ER X.K X.mg p H' B' σ' r.2 → Sub B B' → D.ct σ' H'
      | .rt m d => ∀ v σ' H' B', ER X.K X.mg p H' B' σ' r.2 → RetV X.K X.mg p H' B' m v d → D.rt v H') = G at h
  refine ⟨fun m σ2 H2 => ∃ e2 B2, ER X.K X.mg p H2 B2 σ2 e2 ∧ Sub B B2 ∧ Goes p W (whL c f m e2) G, ⟨n, env, B, E, Sub.rfl', h⟩, ?_⟩
  rintro m σ2 H2 ⟨e2, B2, E2, s2, h⟩
  cases m with
  | zero => exact h.elim
  | succ m =>
    unfold whL at h
    refine ⟨e2, B2, E2, (Goes.bind h).imp ?_⟩
    rintro ⟨k, e3⟩ h H3 B3 E3 F3
    cases k with
    | false =>
      rw [if_neg (by intro q; cases q)]
      subst hG
      exact h σ2 H3 B3 E3 (s2.trans F3.base)
    | true =>
      rw [if_pos rfl]
      refine ⟨fun σ4 H4 => ∃ e4 B4, ER X.K X.mg p H4 B4 σ4 e4 ∧ Sub B B4 ∧ Goes p W (whL c f m e4) G, fun σ4 H4 q => ⟨m, Nat.lt_succ_self _, q⟩, e3, B3, E3, (Goes.bind h).imp ?_⟩
      rintro ⟨fl, e5⟩ h
      cases fl with
      | nx => exact fun σ' H' B' E' S' => ⟨e5, B', E', (s2.trans F3.base).trans S', h⟩
      | ct => exact fun σ' H' B' E' S' => ⟨e5, B', E', (s2.trans F3.base).trans S', h⟩
      | bk => exact fun σ' H' B' E' S' => (by subst hG; exact h σ' H' B' E' ((s2.trans F3.base).trans S'))
      | rt m d => exact fun v σ' H' B' E' r' => (by subst hG; exact h v σ' H' B' E' r')
theorem ds_while {c : Expr} {body : List Stmt} {fc : CT} {f : CS} (n : Nat) (hp : PassesOwn (model X.prog X.w) X.A X.env X.xe) (hc : DT X p W c fc) (hb : DSs X p W body f) : DS X p W (.While c body [] pos) (sWhile n fc f) := ps_imp (ps_while hp hc hb) fun _ _ _ h => while_ok h
end
end DL

set_option Elab.async false
set_option linter.all false
set_option maxRecDepth 100000
set_option maxHeartbeats 4000000
namespace DL
open PySem PySem.Spec PyProof.Rows L2

/-- arguments to: fresh?, result, the changed argument's new content -/
abbrev FSem := List D → R ((Bool × D) × Option D)
def WE (mg : MG) (E : XK) : Wx := fun c H' => ∀ C, mg c = some (.ref C) → E (.ref C) none H'
/-- the j-th argument -/
def ArgD (K : Fg) (mg : MG) (H B : Hp) (q : Option (Nat × Addr)) (j : Nat) (v : V) (d : D) : Prop :=
  (∃ a, q = some (j, a) ∧ v = .ref a ∧ Con K mg H B a d ∧ B a = none) ∨ ((∀ a, q ≠ some (j, a)) ∧ Rep K mg B v d)
structure ArgsD (K : Fg) (mg : MG) (H B : Hp) (q : Option (Nat × Addr)) (vs : List V) (ds : List D) : Prop where
  len : vs.length = ds.length
  at_ : ∀ (j : Nat) v d, vs[j]? = some v → ds[j]? = some d → ArgD K mg H B q j v d
  iod : ∀ i a, q = some (i, a) → i < vs.length
def IoV (K : Fg) (mg : MG) (H B : Hp) : Option (Nat × Addr) → Option D → Prop
  | none, _ => True
  | some (_, a), some d => Con K mg H B a d ∧ B a = none
  | some _, none => False
/-- what a call leaves -/
structure CallEnd (K : Fg) (mg : MG) (H B : Hp) (q : Option (Nat × Addr)) (H' B' : Hp) (v : V) (r : (Bool × D) × Option D) : Prop where
  frm : Frm ⟨H, B, q⟩ H'
  base : Sub B B'
  sub : Sub B' H'
  new : ∀ a o, B' a = some o → B a = some o ∨ H a = none
  ret : RetV K mg ⟨H, B, q⟩ H' B' r.1.1 v r.1.2
  io : IoV K mg H' B' q r.2
def spD (K : Fg) (mg : MG) (n : Nat) (io : Option Nat) (F : FSem) : Sp := fun vs H Q E => vs.length = n ∧ ∃ (B : Hp) (ds : List D) (q : Option (Nat × Addr)), Sub B H ∧ q.map (·.1) = io ∧ ArgsD K mg H B q vs ds ∧
  Goes ⟨H, B, q⟩ (WE mg E) (F ds) fun r => ∀ v H' B', CallEnd K mg H B q H' B' v r → Q v H'
/-- a def's promise where no value is being written -/
structure FnG (P : Program) (w : World) (K : Fg) (mg : MG) (base : Heap) (k : Nat) (f : Addr) (fd : FuncData) (ps : List Str) (sp : Sp) : Prop where
  len : ∀ vs H Q E, sp vs H Q E → vs.length = ps.length
  run : ∀ (A : Around) (outer : List PySem.Env) (s : Shared) (H : Hp) (args : Args) (us : List Value) (vs : List V) (Q : VK) (E : XK), A.guards = some [] → Room k A → Env0 P w K mg base A outer s H → BindsTo s fd args (ps.zip us) → Vals vs us → sp vs H Q E →
    codeAny (model P w) A (.call (.ref f) args) (CR (L2N.CX P w) outer P w H s Q E) s
theorem FnG.mono {P : Program} {w : World} {K : Fg} {mg : MG} {base : Heap} {j k : Nat} {f : Addr} {fd : FuncData} {ps : List Str} {sp : Sp} (F : FnG P w K mg base j f fd ps sp) (h : j ≤ k) : FnG P w K mg base k f fd ps sp :=
  ⟨F.len, fun A outer s H args us vs Q E hg hr => F.run A outer s H args us vs Q E hg (hr.mono h)⟩

def entryS (io : Option Nat) : Nat → List D → List Slot
  | _, [] => []
  | j, d :: ds => (if io = some j then .io d else .sh d) :: entryS io (j + 1) ds
def entryE (io : Option Nat) (ds : List D) (n : Nat) : Env := entryS io 0 ds ++ List.replicate (n - ds.length) .un
def ioVal (io : Option Nat) (env : Env) : R (Option D) := match io with
  | none => .ok none
  | some i => match env[i]? with
    | some (.io d) => .ok (some d)
    | _ => .stuck
def fnD (io : Option Nat) (np n : Nat) (f : CS) : FSem := fun ds => if ds.length = np then (f (entryE io ds n)).bind fun r => match r.1 with
  | .rt m d => (ioVal io r.2).bind fun q => .ok ((m, d), q)
  | .nx => (ioVal io r.2).bind fun q => .ok ((false, .non), q)
  | _ => .stuck
  else .stuck
theorem entryS_length {io : Option Nat} : ∀ {ds : List D} {j : Nat}, (entryS io j ds).length = ds.length
  | [], _ => rfl
  | _ :: ds, j => by simp [entryS, entryS_length (ds := ds)]
theorem entryS_get {io : Option Nat} {s : Slot} : ∀ {ds : List D} {j i : Nat}, (entryS io j ds)[i]? = some s → ∃ d, ds[i]? = some d ∧ s = if io = some (j + i) then .io d else .sh d
  | [], _, _, h => by simp [entryS] at h
  | d :: ds, j, 0, h => by
    simp [entryS] at h
    exact ⟨d, rfl, h.symm⟩
  | d :: ds, j, i + 1, h => by
    simp [entryS] at h
    obtain ⟨d', h1, h2⟩ := entryS_get h
    refine ⟨d', by simpa using h1, ?_⟩
    rw [h2, Nat.add_assoc, Nat.add_comm 1 i]
theorem entryE_get {io : Option Nat} {ds : List D} {n i : Nat} {s : Slot} (h : (entryE io ds n)[i]? = some s) : s = .un ∨ ∃ d, ds[i]? = some d ∧ s = if io = some i then .io d else .sh d := by
  unfold entryE at h
  by_cases hi : i < ds.length
  · rw [List.getElem?_append_left (by rw [entryS_length]; exact hi)] at h
    obtain ⟨d, h1, h2⟩ := entryS_get h
    rw [Nat.zero_add] at h2
    exact .inr ⟨d, h1, h2⟩
  · rw [List.getElem?_append_right (by rw [entryS_length]; omega), List.getElem?_replicate] at h
    split at h
    · cases h; exact .inl rfl
    · cases h
theorem start_get {N : List Str} {vs : List V} {i : Nat} {v : V} (h : vs[i]? = some v) : (L2.start N vs)[i]? = some (some v) := by
  unfold L2.start
  have hi := (List.getElem?_eq_some_iff.mp h).1
  rw [List.getElem?_append_left (by simpa using hi), List.getElem?_map, h]; rfl
theorem start_some {N : List Str} {vs : List V} {i : Nat} {v : V} (h : (L2.start N vs)[i]? = some (some v)) : vs[i]? = some v := by
  unfold L2.start at h
  by_cases hi : i < vs.length
  · rw [List.getElem?_append_left (by simpa using hi), List.getElem?_map] at h
    cases e : vs[i]? with
    | none => rw [e] at h; cases h
    | some u => rw [e] at h; cases h; rfl
  · rw [List.getElem?_append_right (by simpa using hi), List.getElem?_replicate] at h
    split at h <;> cases h
section
variable {K : Fg} {mg : MG}
theorem entry_er {H B : Hp} {q : Option (Nat × Addr)} {io : Option Nat} {vs : List V} {ds : List D} {N : List Str} (s : Sub B H) (hq : q.map (·.1) = io) (A : ArgsD K mg H B q vs ds) (hl : ds.length ≤ N.length) :
    ER K mg ⟨H, B, q⟩ H B (L2.start N vs) (entryE io ds N.length) := by
  have isio : ∀ j, io = some j → ∃ a, q = some (j, a) := fun j e => by
    cases q with
    | none => rw [← hq] at e; cases e
    | some p => obtain ⟨i, a⟩ := p; rw [← hq] at e; cases e; exact ⟨a, rfl⟩
  have slot : ∀ (j : Nat) s, (entryE io ds N.length)[j]? = some s → s = .un ∨ ∃ v d, vs[j]? = some v ∧ ds[j]? = some d ∧ ((s = .io d ∧ ∃ a, q = some (j, a) ∧ v = .ref a ∧ Con K mg H B a d ∧ B a = none) ∨ (s = .sh d ∧ Rep K mg B v d)) := fun j s h => by
    rcases entryE_get h with h | ⟨d, h1, h2⟩
    · exact .inl h
    · have hj : j < vs.length := by rw [A.len]; exact (List.getElem?_eq_some_iff.mp h1).1
      have hv := List.getElem?_eq_getElem hj
      refine .inr ⟨_, d, hv, h1, ?_⟩
      by_cases e : io = some j
      · rw [if_pos e] at h2
        obtain ⟨a, ha⟩ := isio j e
        rcases A.at_ j _ d hv h1 with ⟨b, e1, e2, c, n⟩ | ⟨n, _⟩
        · exact .inl ⟨h2, b, e1, e2, c, n⟩
        · exact absurd ha (n a)
      · rw [if_neg e] at h2
        rcases A.at_ j _ d hv h1 with ⟨b, e1, _⟩ | ⟨_, r⟩
        · exact absurd (by rw [← hq, e1]; rfl) e
        · exact .inr ⟨h2, r⟩
  have own : ∀ (j : Nat) a, OwnAt (L2.start N vs) (entryE io ds N.length) j a → q = some (j, a) := by
    rintro j a ⟨e, d, h⟩
    have e := start_some e
    rcases h with h | h
    · rcases slot j _ h with z | ⟨v, d', h1, h2, ⟨z, _⟩ | ⟨z, _⟩⟩ <;> cases z
    · rcases slot j _ h with z | ⟨v, d', h1, h2, ⟨z, b, e1, e2, _⟩ | ⟨z, _⟩⟩
      · cases z
      · rw [h1] at e; cases e; cases e2; exact e1
      · cases z
  refine ⟨s, Sub.rfl', fun a o h => .inl h, fun a o h _ => h, fun i a h => ?_, ?_, fun j d h => ?_, fun j d h => ?_, fun j d h => ?_, fun i j a h1 h2 => ?_⟩
  · have hi := A.iod i a h
    have hv := List.getElem?_eq_getElem hi
    have hd := List.getElem?_eq_getElem (show i < ds.length by rw [← A.len]; exact hi)
    rcases A.at_ i _ _ hv hd with ⟨b, e1, _, c, _⟩ | ⟨n, _⟩
    · have e1 : q = some (i, b) := e1
      have h : q = some (i, a) := h
      rw [h] at e1; cases e1
      obtain ⟨o, ho⟩ := c.there
      rw [ho]; simp
    · exact absurd h (n a)
  · unfold L2.start entryE
    rw [List.length_append, List.length_map, List.length_replicate, List.length_append, List.length_replicate, entryS_length, A.len]
  · rcases slot j _ h with z | ⟨v, d', h1, h2, ⟨z, _⟩ | ⟨z, r⟩⟩
    · cases z
    · cases z
    · cases z; exact ⟨v, start_get h1, r⟩
  · rcases slot j _ h with z | ⟨v, d', h1, h2, ⟨z, _⟩ | ⟨z, r⟩⟩ <;> cases z
  · rcases slot j _ h with z | ⟨v, d', h1, h2, ⟨z, b, e1, e2, c, n⟩ | ⟨z, r⟩⟩
    · cases z
    · cases z; subst e2; exact ⟨b, e1, start_get h1, c, n⟩
    · cases z
  · have e1 := own i a h1
    have e2 := own j a h2
    rw [e1] at e2; cases e2; rfl
end
def IoAt (env : Env) (od : Option D) : Option Nat → Prop
  | none => od = none
  | some i => ∃ d, env[i]? = some (.io d) ∧ od = some d
theorem ioVal_ok {p : FP} {W : Wx} {io : Option Nat} {env : Env} {G : Option D → Prop} (h : Goes p W (ioVal io env) G) : ∃ q, IoAt env q io ∧ G q := by
  unfold ioVal at h
  cases io with
  | none => exact ⟨none, rfl, h⟩
  | some i =>
    dsimp only at h
    split at h
    · rename_i d e; exact ⟨some d, ⟨d, e, rfl⟩, h⟩
    · exact h.elim
theorem call_end {K : Fg} {mg : MG} {H B H' B' : Hp} {q : Option (Nat × Addr)} {io : Option Nat} {σ : L2.St} {env : Env} {m : Bool} {v : V} {d : D} {od : Option D} (hq : q.map (·.1) = io) (E : ER K mg ⟨H, B, q⟩ H' B' σ env) (r : RetV K mg ⟨H, B, q⟩ H' B' m v d)
    (ho : IoAt env od io) : CallEnd K mg H B q H' B' v ((m, d), od) := by
  refine ⟨fun a o h hi => E.frm a o h hi, E.b0, E.sub, fun a o h => E.new a o h, r, ?_⟩
  cases q with
  | none => trivial
  | some p =>
    obtain ⟨i, a⟩ := p
    subst hq
    obtain ⟨d', e, rfl⟩ := ho
    obtain ⟨b, e0, _, c, n⟩ := E.ioo i d' e
    cases e0
    exact ⟨c, n⟩
section
variable {P : Program} {w : World} {K : Fg} {mg : MG} {base : Heap} {x qual : Str} {params : Arguments} {body : List Stmt} {scope : Scope} {dvs : List V} {kws : List (Str × V)} {f : Addr} {fd : FuncData}
/-- what may be let out -/
def Okx (X : Cx) (W : Wx) : Prop := ∃ E : XK, L2N.Takes X (fun cls d _ H => E cls d H) ∧ ∀ c C H', X.mg c = some (.ref C) → W c H' → E (.ref C) none H'
theorem fnG_of {N ps : List Str} {k np : Nat} {io : Option Nat} {g : CS} (F : FunD K x qual params body scope dvs kws f fd) (S : FnScope N ps scope) (hnp : ps.length = np)
    (hbody : ∀ (cdv : Value) (A : Around) (outer : List PySem.Env) (s : Shared) (H : Hp) (E : XK) (p : FP), p.io.map (·.1) = io → Sub p.B0 p.H0 → A.guards = some [] → Room k (A.deeper (envOfC qual scope s.heap.objs.size f cdv)) →
      DSs (cxOf (L2N.CX P w) P w K mg base N qual scope f cdv A outer s H E) p (WE mg E) body g) : FnG P w K mg base (k + 1) f fd ps (spD K mg np io (fnD io np N.length g)) := by
  obtain ⟨oc, od, dV, kV, doc, pm, an, cdv, ct, osl, rfl, lk, hcd, _, _⟩ := F.ex
  refine ⟨fun vs H Q E h => h.1.trans hnp.symm, fun A outer s H args us vs Q E hg hr e0 hb r hsp => ?_⟩
  have hv := hsp.1
  have Kh : K.In s.heap := e0.mod.kin.keeps (fun b o q => (e0.bs b o q).1)
  have Lh : s.heap.NoLimit := e0.mod.nolimit.keeps (fun b o q => (e0.bs b o q).1)
  have kinds : ∀ z ∈ ps.zip us, scope.names.lookup z.1 = some .local ∨ (scope.names.lookup z.1 = some .cell ∧ ((cellsFrom (s.heap.objs.size + 1) scope.names []).lookup z.1).isSome = true) := by
    rintro ⟨y, u⟩ hz
    have hy := S.par y (List.of_mem_zip hz).1
    rcases hy with hy | hy
    · exact Or.inl hy
    · exact Or.inr ⟨hy, PySem.W.cellsFrom_some _ _ _ (Or.inl hy)⟩
  apply codeAny_call_function hr.depth (Kh _ _ lk) rfl S.co S.gen rfl (PySem.W.codeRec_of Kh hcd)
  apply hb
  apply wpAny_newFunctionEnv_cells S.kind kinds
  intro env henv s1 x1
  subst henv
  apply And.intro (Lh.keeps x1.toInCall.keep)
  apply codeAny_func
  obtain ⟨_, B, ds, q, sB, hq, hA, hF⟩ := hsp
  have body_ := hbody cdv A outer s H E ⟨H, B, q⟩ hq sB hg (hr.deeper _)
  have J0 : Inv (cxOf (L2N.CX P w) P w K mg base N qual scope f cdv A outer s H E) [] (L2.start N vs) H s1 := inv_start S hr.hd e0 (hv.trans hnp.symm) r x1
  have hl : ds.length ≤ N.length := by
    have hp := congrArg List.length S.pre
    rw [List.length_take] at hp
    rw [← hA.len, hv, ← hnp]
    omega
  have E0 := entry_er (N := N) sB hq hA hl
  have start_ : tS (cxOf (L2N.CX P w) P w K mg base N qual scope f cdv A outer s H E) ⟨H, B, q⟩ (WE mg E) g { nx := fun _ H' => Q .non H', rt := Q } (L2.start N vs) H := by
    refine ⟨_, B, E0, ?_⟩
    unfold fnD at hF
    split at hF
    · refine (Goes.bind hF).imp ?_
      rintro ⟨fl, e1⟩ h
      cases fl with
      | nx =>
        intro σ' H' B' E' _
        obtain ⟨od, ho, h⟩ := ioVal_ok (Goes.bind h)
        exact h .non H' B' (call_end hq E' .non ho)
      | bk => exact h.elim
      | ct => exact h.elim
      | rt m d =>
        intro v σ' H' B' E' r'
        obtain ⟨od, ho, h⟩ := ioVal_ok (Goes.bind h)
        exact h v H' B' (call_end hq E' r' ho)
    · exact hF.elim
  have run_ := body_.run [] s1 (L2.start N vs) H _ J0 start_
  refine wpAny_mono run_ (fun fl s' hs => ?_) (fun e s' hs => hs)
  have done_ : ∀ {σ' : L2.St} {H' : Hp} {v : V} {u : Value}, Inv (cxOf (L2N.CX P w) P w K mg base N qual scope f cdv A outer s H E) [] σ' H' s' → RelV v u → Q v H' → L2.CE outer P w H s Q u s' :=
    fun {_ H' v _} J rv z => ⟨v, H', J.os, J.bare, J.base, J.hok, rv, z⟩
  cases fl with
  | next => obtain ⟨σ', H', J, z⟩ := hs; exact done_ (v := V.non) (u := Value.none) J rfl z
  | ret u => obtain ⟨v, σ', H', J, rv, z⟩ := hs; exact done_ J rv z
  | brk => obtain ⟨_, _, _, z⟩ := hs; exact z.elim
  | cont => obtain ⟨_, _, _, z⟩ := hs; exact z.elim
end
end DL

set_option Elab.async false
set_option linter.all false
set_option maxRecDepth 100000
set_option maxHeartbeats 4000000
namespace DL
open PySem PySem.Spec PyProof.Rows L2

/-- a def of the module by its name -/
structure Ctr (P : Program) (w : World) (K : Fg) (mg : MG) (base : Heap) (k : Nat) (x : Str) (io : Option Nat) (F : FSem) : Prop where
  ex : ∃ (f : Addr) (fd : FuncData) (ps : List Str) (np : Nat), FnG P w K mg base k f fd ps (spD K mg np io F) ∧ mg x = some (.ref f) ∧ PySem.W.keepIn K (.ref f) = true ∧ Binds K fd ps [] ∧ (∀ ds, ds.length ≠ np → F ds = .stuck) ∧ ∀ j, io = some j → j < np
theorem Ctr.mono {P : Program} {w : World} {K : Fg} {mg : MG} {base : Heap} {j k : Nat} {x : Str} {io : Option Nat} {F : FSem} (c : Ctr P w K mg base j x io F) (h : j ≤ k) : Ctr P w K mg base k x io F := by
  obtain ⟨f, fd, ps, np, F, r⟩ := c.ex
  exact ⟨f, fd, ps, np, F.mono h, r⟩
/-- the context is ready for calls that go k deep -/
structure Rdy (X : Cx) (W : Wx) (k : Nat) : Prop where
  room : Room k X.A
  gd : X.A.guards = some []
  okx : Okx X W
abbrev Cal (X : Cx) (k : Nat) (x : Str) (io : Option Nat) (F : FSem) : Prop := Ctr X.prog X.w X.K X.mg X.base k x io F
theorem okx_never {X : Cx} : Okx X W0 := ⟨fun _ _ _ => False, fun u s' ⟨_, _, _, _, _, _, _, _, _, _, _, _, _, _, _, _, h⟩ => h.elim, fun c C H' _ h => h⟩

/-- the operands of a call: at io an owned name, elsewhere values -/
def argsOf (io : Option Nat) (env : Env) : Nat → List Op → Option (List D)
  | _, [] => some []
  | j, o :: os => match (if io = some j then (match o with
      | .slot i => (own? env[i]?).map (·.2)
      | .val _ => none) else (match o with
      | .val d => some d
      | .slot i => (match env[i]? with
        | some (.sh d) => some d
        | _ => none))), argsOf io env (j + 1) os with
    | some d, some ds => some (d :: ds)
    | _, _ => none
def backIo (io : Option Nat) (os : List Op) (env : Env) (od : Option D) : R Env := match io with
  | none => .ok env
  | some j => match os[j]? with
    | some (.slot i) => match own? env[i]?, od with
      | some (b, _), some d => .ok (env.set i (owS b d))
      | _, _ => .stuck
    | _ => .stuck
def callO (io : Option Nat) (F : FSem) (os : List Op) (env : Env) : R (Bool × D × Env) := match argsOf io env 0 os with
  | some ds => (F ds).bind fun q => (backIo io os env q.2).bind fun e => .ok (q.1.1, q.1.2, e)
  | none => .stuck
def cCall (io : Option Nat) (F : FSem) (as : CA) : CE := fun env => (as env).bind fun r => callO io F r.1 r.2
section
variable {K : Fg} {mg : MG} {p : FP}
theorem argsOf_len {io : Option Nat} {env : Env} : ∀ {os : List Op} {j : Nat} {ds : List D}, argsOf io env j os = some ds → ds.length = os.length
  | [], _, _, h => by cases h; rfl
  | o :: os, j, ds, h => by
    unfold argsOf at h
    split at h
    · rename_i d ds' _ h2
      cases h
      simp [argsOf_len h2]
    · cases h
theorem OpL.length {σ : L2.St} {B : Hp} : ∀ {vs : List V} {os : List Op}, OpL K mg σ B vs os → vs.length = os.length
  | _, _, .nil => rfl
  | _, _, .cons _ r => by simp [r.length]
theorem argsOf_get {H B : Hp} {σ : L2.St} {env : Env} (E : ER K mg p H B σ env) {io : Option Nat} : ∀ {vs : List V} {os : List Op} {j : Nat} {ds : List D}, OpL K mg σ B vs os → argsOf io env j os = some ds →
    ∀ (k : Nat) v d, vs[k]? = some v → ds[k]? = some d → (io = some (j + k) ∧ ∃ i b a, os[k]? = some (.slot i) ∧ env[i]? = some (owS b d) ∧ σ[i]? = some (some (.ref a)) ∧ v = .ref a ∧ Con K mg H B a d ∧ B a = none) ∨ (io ≠ some (j + k) ∧ Rep K mg B v d)
  | _, [], j, ds, .nil, h, k, v, d, hv, _ => by simp at hv
  | _, o :: os, j, ds, .cons (v := v0) ro rr, h, k, v, d, hv, hd => by
    unfold argsOf at h
    split at h
    · rename_i d0 ds0 h1 h2
      cases h
      cases k with
      | zero =>
        simp at hv hd
        subst hv hd
        by_cases hi : io = some j
        · rw [if_pos hi] at h1
          cases o with
          | val _ => cases h1
          | slot i =>
            have ro : σ[i]? = some (some v0) := ro
            dsimp only at h1
            cases q : own? env[i]? with
            | none => rw [q] at h1; cases h1
            | some bd =>
              rw [q] at h1
              obtain ⟨b, dd⟩ := bd
              cases h1
              obtain ⟨a, ea, c, n⟩ := E.owned (own?_some q)
              rw [ro] at ea; cases ea
              exact .inl ⟨hi, i, b, a, rfl, own?_some q, ro, rfl, c, n⟩
        · rw [if_neg hi] at h1
          refine .inr ⟨hi, ?_⟩
          cases o with
          | val _ => cases h1; exact ro
          | slot i =>
            have ro : σ[i]? = some (some v0) := ro
            dsimp only at h1
            split at h1
            · rename_i dd e
              cases h1
              obtain ⟨u, e2, r⟩ := E.sh i _ e
              rw [ro] at e2; cases e2; exact r
            · cases h1
      | succ k =>
        simp at hv hd
        have ih := argsOf_get E rr h2 k v d hv hd
        rw [show j + 1 + k = j + (k + 1) by omega] at ih
        simpa using ih
    · cases h
/-- back from a call that changes nothing -/
theorem ER.backN {H B H' B' : Hp} {σ : L2.St} {env : Env} {v : V} {r : (Bool × D) × Option D} (E : ER K mg p H B σ env) (c : CallEnd K mg H B none H' B' v r) : ER K mg p H' B' σ env ∧ Fx σ env H B H' B' env ∧ Res K mg H H' B' r.1.1 v r.1.2 := by
  have x : Ext H B H' B' := ⟨fun a o h => c.frm a o h (fun i q => (by cases q)), c.base, c.sub, c.new⟩
  exact ⟨E.ext x, x.fx, c.ret⟩
/-- back from a call that changed the thing of slot i -/
theorem ER.backI {H B H' B' : Hp} {σ : L2.St} {env : Env} {v : V} {r : (Bool × D) × Option D} {j i : Nat} {a : Addr} {b : Bool} {d d' : D} (E : ER K mg p H B σ env) (hs : env[i]? = some (owS b d)) (ha : σ[i]? = some (some (.ref a)))
    (c : CallEnd K mg H B (some (j, a)) H' B' v r) (hd : r.2 = some d') : ER K mg p H' B' σ (env.set i (owS b d')) ∧ Fx σ env H B H' B' (env.set i (owS b d')) ∧ Res K mg H H' B' r.1.1 v r.1.2 := by
  have hio := c.io
  rw [hd] at hio
  obtain ⟨hc, hn⟩ := hio
  obtain ⟨o', ho'⟩ := hc.there
  obtain ⟨a1, ea, c0, n0⟩ := E.owned hs
  rw [ha] at ea; cases ea
  obtain ⟨o, ho⟩ := c0.there
  have x : Ext H B (upd H' a o) B' := ⟨fun y u h => by
      by_cases hy : y = a
      · subst hy; rw [upd_same]; rw [ho] at h; exact h
      · rw [upd_ne hy]; exact c.frm y u h (fun k q => hy (by cases q; rfl)),
    c.base, fun y u h => by rw [upd_ne (ne_of_none h hn)]; exact c.sub y u h, c.new⟩
  have e : upd (upd H' a o) a o' = H' := by
    funext y
    by_cases hy : y = a
    · subst hy; rw [upd_same]; exact ho'.symm
    · rw [upd_ne hy, upd_ne hy]
  obtain ⟨E2, F2⟩ := (E.ext x).write (o' := o') hs ha (by rw [e]; exact hc)
  rw [e] at E2 F2
  refine ⟨E2, x.fx.trans F2, ?_⟩
  have ret := c.ret
  exact ret
end
section
variable {X : Cx} {p : FP} {W : Wx}
/-- the callee's promise, from what the caller wants -/
theorem call_pre {np : Nat} {io : Option Nat} {F : FSem} {H0 B0 H B : Hp} {σ : L2.St} {env0 env : Env} {vs : List V} {os : List Op} {Q : VK} {E : XK} (hE : ∀ c C H', X.mg c = some (.ref C) → W c H' → E (.ref C) none H') (hst : ∀ ds, ds.length ≠ np → F ds = .stuck) (hin : ∀ j, io = some j → j < np)
    (E0 : ER X.K X.mg p H0 B0 σ env0) (E1 : ER X.K X.mg p H B σ env) (F1 : Fx σ env0 H0 B0 H B env) (ro : OpL X.K X.mg σ B vs os)
    (h : Goes p W (callO io F os env) fun r => ∀ v H' B', ER X.K X.mg p H' B' σ r.2.2 → Fx σ env0 H0 B0 H' B' r.2.2 → Res X.K X.mg H0 H' B' r.1 v r.2.1 → Q v H') : spD X.K X.mg np io F vs H Q E := by
  unfold callO at h
  cases ha : argsOf io env 0 os with
  | none => rw [ha] at h; exact h.elim
  | some ds =>
    rw [ha] at h
    have hl : vs.length = ds.length := by rw [argsOf_len ha]; exact ro.length
    have hget := argsOf_get E1 ro ha
    dsimp only at h
    have hlen : vs.length = np := by
      by_cases q : ds.length = np
      · exact hl.trans q
      · exfalso
        rw [hst ds q] at h
        exact h
    -- the place of the changed argument
    by_cases hio : ∃ j, io = some j ∧ j < vs.length
    · obtain ⟨j, rfl, hj⟩ := hio
      have hv := List.getElem?_eq_getElem hj
      have hd := List.getElem?_eq_getElem (show j < ds.length by rw [← hl]; exact hj)
      rcases hget j _ _ hv hd with ⟨_, i, b, a, hos, hs, hσ, hva, hc, hn⟩ | ⟨n, _⟩
      · refine ⟨hlen, B, ds, some (j, a), E1.sub, rfl, ⟨hl, fun k v d h1 h2 => ?_, fun i a q => by cases q; exact hj⟩, ?_⟩
        · rcases hget k v d h1 h2 with ⟨e, i', b', a', g1, g2, g3, g4, g5, g6⟩ | ⟨n, r⟩
          · rw [Nat.zero_add] at e
            cases e
            rw [hv] at h1; cases h1
            rw [g4] at hva; cases hva
            exact .inl ⟨a, rfl, g4, g5, g6⟩
          · exact .inr ⟨fun a' q => n (by cases q; rw [Nat.zero_add]), r⟩
        · have h := Goes.bind h
          cases e : F ds with
          | stuck => rw [e] at h; exact h
          | exc c =>
            rw [e] at h
            intro H' hf C hC
            refine hE c C H' hC (h H' fun x o hx hx2 => hf x o (E1.frm x o hx hx2) fun k q => ?_)
            cases q
            cases b with
            | false => obtain ⟨a', e', _, _, z⟩ := E1.ow i _ hs; rw [hσ] at e'; cases e'; rw [z] at hx; cases hx
            | true => obtain ⟨a', e0, e', _⟩ := E1.ioo i _ hs; rw [hσ] at e'; cases e'; exact hx2 i e0
          | ok r =>
            rw [e] at h
            have h : Goes p W (backIo (some j) os env r.2) _ := Goes.bind h
            unfold backIo at h
            dsimp only at h
            rw [hos] at h
            have ho : own? env[i]? = some (b, ds[j]) := by rw [hs]; cases b <;> rfl
            dsimp only at h
            rw [ho] at h
            cases hr : r.2 with
            | none => rw [hr] at h; exact h.elim
            | some d' =>
              rw [hr] at h
              intro v H' B' ce
              obtain ⟨E2, F2, R2⟩ := E1.backI hs hσ ce hr
              exact h v H' B' E2 (F1.trans F2) (R2.back F1.dom)
      · exact absurd (by rw [Nat.zero_add]) n
    · have nio : ∀ k v, vs[k]? = some v → io ≠ some (0 + k) := fun k v hk q => hio ⟨k, by rw [q, Nat.zero_add], (List.getElem?_eq_some_iff.mp hk).1⟩
      cases io with
      | some j =>
        exact absurd ⟨j, rfl, by rw [hlen]; exact hin j rfl⟩ hio
      | none =>
        refine ⟨hlen, B, ds, none, E1.sub, rfl, ⟨hl, fun k v d h1 h2 => ?_, fun i a q => by cases q⟩, ?_⟩
        · rcases hget k v d h1 h2 with ⟨e, _⟩ | ⟨n, r⟩
          · cases e
          · exact .inr ⟨fun a q => (by cases q), r⟩
        · have h := Goes.bind h
          cases e : F ds with
          | stuck => rw [e] at h; exact h
          | exc c =>
            rw [e] at h
            intro H' hf C hC
            exact hE c C H' hC (h H' fun x o hx hx2 => hf x o (E1.frm x o hx hx2) fun k q => by cases q)
          | ok r =>
            rw [e] at h
            intro v H' B' ce
            obtain ⟨E2, F2, R2⟩ := E1.backN ce
            exact h v H' B' E2 (F1.trans F2) (R2.back F1.dom)
section
variable {k : Nat} {x : Str} {io : Option Nat} {F : FSem} {xp pos : Pos} {e : Expr} {es : List Expr} {as : CA}
theorem run_fnG {f : Addr} {fd : FuncData} {ps : List Str} {sp : Sp} {E : XK} {pins : List (Addr × Obj)} {σ : L2.St} {H : Hp} {s : Shared} {Q : VK} {us : List Value} {vs : List V} (G : FnG X.prog X.w X.K X.mg X.base k f fd ps sp) (hr : Room k X.A) (hgd : X.A.guards = some []) (hb : Binds X.K fd ps [])
    (hx : Passes (L2N.CX X.prog X.w) X E) (I : Inv X pins σ H s) (r : Vals vs us) (h : sp vs H Q E) : wpAny (model X.prog X.w) X.A (call (.ref f) us) (EP X pins σ Q) X.xe s := by
  have hl : us.length = ps.length := r.length.symm.trans (G.len _ _ _ _ h)
  have hbind := hb s us I.kIn (by rw [List.append_nil]; exact hl)
  rw [List.append_nil] at hbind
  have go := G.run X.A X.stack s H ⟨us, []⟩ us vs Q E hgd hr I.env0 hbind r h
  apply wpAny_call
  refine codeAny_mono go ?_
  intro res s' hq
  match res, hq with
  | .error e, hq => exact hx pins σ H s e s' I hq
  | .ok (.ret u), hq => exact I.after hq
  | .ok .next, hq => exact hq.elim
  | .ok .brk, hq => exact hq.elim
  | .ok .cont, hq => exact hq.elim
def tCallG (spx : Sp) (E : XK) (t : TA) : TE := fun σ H Q => t σ H fun vs H1 => spx vs H1 Q E
theorem call_ok {np : Nat} {E : XK} (hE : ∀ c C H', X.mg c = some (.ref C) → W c H' → E (.ref C) none H') (hst : ∀ ds, ds.length ≠ np → F ds = .stuck) (hin : ∀ j, io = some j → j < np) {σ : L2.St} {H : Hp} {Q : VK} (h : tX X p W (cCall io F as) σ H Q) :
    tCallG (spD X.K X.mg np io F) E (tA X p W as) σ H Q := by
  obtain ⟨env, B, E0, h⟩ := h
  refine ⟨env, B, E0, (Goes.bind h).imp ?_⟩
  rintro ⟨os, e1⟩ h vs H1 B1 E1 F1 r1
  exact call_pre hE hst hin E0 E1 F1 r1 h
theorem de_call (R : Rdy X W k) (c : Cal X k x io F) (hg : Gl X x) (ha : DA X p W (e :: es) as) (hdb : (x == ("__debug__" : Str)) = false := by decide) (he : starEach (e :: es) X.env = (false, eval e X.env) :: starEach es X.env := by rfl) (hpl : (backTo pos (starEach es X.env)).any (·.1) = false := by rfl) :
    DE X p W (.Call (.Name x xp) (e :: es) [] pos) (cCall io F as) := by
  obtain ⟨f, fd, ps, np, G, hm, hk, hb, hst, hin⟩ := c.ex
  obtain ⟨E, tk, hE⟩ := R.okx
  have hx : Passes (L2N.CX X.prog X.w) X E := L2N.passes_call tk fun _ _ _ _ h => h
  have pe : PE X (.Call (.Name x xp) (e :: es) [] pos) (tCallG (spD X.K X.mg np io F) E (tA X p W as)) := by
    constructor
    intro pins s σ H Q I h
    apply wpAny_Call_Name_kw
    refine ld_glob I hg hm ?_ hdb
    refine PySem.W.callWith_K (h₀ := X.base) I.ok.mod.kin hk ?_ he hpl
    refine thn (ha.run pos pins s σ H _ I h) ?_
    rintro us s1 ⟨vs, H1, I1, r, q⟩
    exact ⟨I1.kIn, run_fnG G R.room R.gd hb hx I1 r q⟩
  exact pe_imp pe fun _ _ _ q => call_ok hE hst hin q
theorem de_call0 (R : Rdy X W k) (c : Cal X k x io F) (hg : Gl X x) (hdb : (x == ("__debug__" : Str)) = false := by decide) : DE X p W (.Call (.Name x xp) [] [] pos) (cCall io F aNil) := by
  obtain ⟨f, fd, ps, np, G, hm, hk, hb, hst, hin⟩ := c.ex
  obtain ⟨E, tk, hE⟩ := R.okx
  have hx : Passes (L2N.CX X.prog X.w) X E := L2N.passes_call tk fun _ _ _ _ h => h
  have pe : PE X (.Call (.Name x xp) [] [] pos) (tCallG (spD X.K X.mg np io F) E tNil) := by
    constructor
    intro pins s σ H Q I h
    apply wpAny_Call_Name_kw
    refine ld_glob I hg hm ?_ hdb
    exact PySem.W.callWith_K0 I.kIn hk (run_fnG (us := []) G R.room R.gd hb hx I .nil h)
  refine pe_imp pe fun σ H Q q => ?_
  obtain ⟨env, B, E0, h⟩ := q
  exact call_pre (os := []) hE hst hin E0 E0 Fx.rfl' .nil h
/-- a call of one of several defs, taken as a value -/
def cCallV (tab : Str → Option FSem) (ff : CE) (as : CA) : CE := fun env => (ff env).bind fun r => match r.2.1 with
  | .fn n => match tab n with
    | some F => cCall none F as r.2.2
    | none => .stuck
  | _ => .stuck
theorem de_callV {fe : Expr} {ff : CE} {tab : Str → Option FSem} (R : Rdy X W k) (ht : ∀ n F, tab n = some F → Cal X k n none F) (hf : DE X p W fe ff) (ha : DA X p W (e :: es) as)
    (hev : eval (.Call fe (e :: es) [] pos) X.env = (do callWith pos (← eval fe X.env) [] (backTo pos (starEach (e :: es) X.env)) (backToKw pos (keywordEach [] X.env))) := by rfl)
    (he : starEach (e :: es) X.env = (false, eval e X.env) :: starEach es X.env := by rfl) (hpl : (backTo pos (starEach es X.env)).any (·.1) = false := by rfl) : DE X p W (.Call fe (e :: es) [] pos) (cCallV tab ff as) := by
  constructor
  intro pins s σ H Q I h
  obtain ⟨E, tk, hE⟩ := R.okx
  have hx : Passes (L2N.CX X.prog X.w) X E := L2N.passes_call tk fun _ _ _ _ h => h
  refine PyProof.Rows.Call_ ?_ hev
  have pre : tX X p W ff σ H (fun v H1 => ∃ n f G, v = .ref f ∧ X.mg n = some (.ref f) ∧ tab n = some G ∧ tX X p W (cCall none G as) σ H1 Q) := by
    obtain ⟨env, B, E0, h⟩ := h
    refine ⟨env, B, E0, (Goes.bind h).imp ?_⟩
    rintro ⟨m, d, e1⟩ h v H1 B1 E1 F1 r1
    cases d with
    | fn n =>
      cases m with
      | true => obtain ⟨a, _, c, _⟩ := r1; exact c.elim
      | false =>
        obtain ⟨f, rfl, hm⟩ : ∃ f, v = .ref f ∧ X.mg n = some (.ref f) := by cases r1 with | fn h => exact ⟨_, rfl, h⟩
        dsimp only at h
        cases hn : tab n with
        | none => rw [hn] at h; exact h.elim
        | some G =>
          rw [hn] at h
          exact ⟨n, f, G, rfl, hm, hn, e1, B1, E1, Goes.imp h fun r g v H' B' E' F' r' => g v H' B' E' (F1.trans F') (r'.back F1.dom)⟩
    | _ => exact h.elim
  refine thn (hf.run pins s σ H _ I pre) ?_
  rintro u s1 ⟨v, H1, I1, r1, n, f, G, rfl, hm, hn, h1⟩
  obtain ⟨f', fd, ps, np, FG, hm', hk, hb, hst, hin⟩ := (ht n G hn).ex
  rw [hm] at hm'
  cases hm'
  cases r1
  refine PySem.W.callWith_K (h₀ := X.base) I1.ok.mod.kin hk ?_ he hpl
  refine thn (ha.run pos pins s1 σ H1 _ I1 (call_ok hE hst hin h1)) ?_
  rintro us s2 ⟨vs, H2, I2, r, q⟩
  exact ⟨I2.kIn, run_fnG FG R.room R.gd hb hx I2 r q⟩
end
end
end DL

set_option Elab.async false
set_option linter.all false
set_option maxRecDepth 100000
set_option maxHeartbeats 4000000
namespace DL
open PySem PySem.Spec PyProof.Rows L2

def sRaise (c : Str) : CS := fun _ => .exc c
/-- an own class below Exception -/
structure ExcD (K : Fg) (mg : MG) (c : Str) (C : Addr) : Prop where
  gl : mg c = some (.ref C)
  ex : PySem.W.excIn K C [.type "Exception", .type "BaseException", .type "object"] "Exception.__new__" = true
  kp : PySem.W.keepIn K (.ref C) = true
  sb : PySem.W.subIn K (.ref C) (.type "BaseException") = some true
  ty : PySem.W.typeIn K (.ref C) = some (.type "type")
section
variable {X : Cx} {p : FP} {W : Wx} {pos : Pos}
theorem ds_raise {c m : Str} {C : Addr} {j k : Nat} {np p2 cpos : Pos} (hc : X.calm = true) (R : Rdy X W k) (e : ExcD X.K X.mg c C) (hg : Gl X c) (hdb : (c == ("__debug__" : Str)) = false := by decide) :
    DS X p W (.Raise (some (.Call (.Name c np) [.Constant (.str m) j p2] [] cpos)) none pos) (sRaise c) := by
  obtain ⟨E, tk, hE⟩ := R.okx
  refine ps_imp (L2N.ps_raise hc tk (L2N.pmk_own PySem.F.excBase_Exception e.ex e.gl e.kp (raises_own e.sb e.ty) hg hdb)) ?_
  rintro D σ H ⟨env, B, E0, h⟩
  exact hE c C H e.gl (h H fun a o q hi => E0.frm a o q hi)
theorem Rd_reads {pins : List (Addr × Obj)} {σ : L2.St} {H : Hp} {s : Shared} (I : Inv X pins σ H s) : ∀ {v : V} {d : PyData}, Dp X.K H v d → ∀ {u : Value}, RelV v u → ∃ as, Reads s.heap u d as := by
  intro v d h
  refine Dp.rec (motive_1 := fun v d _ => ∀ {u : Value}, RelV v u → ∃ as, Reads s.heap u d as) (motive_2 := fun vs ds _ => ∀ {us : List Value}, Vals vs us → ∃ as, ReadsAll s.heap us ds as) ?_ ?_ ?_ ?_ ?_ ?_ ?_ ?_ h
  · intro u r; cases r; exact ⟨_, .none⟩
  · intro b u r; cases r; exact ⟨_, .bool b⟩
  · intro i u r; obtain ⟨t, rfl⟩ := r; exact ⟨_, .int i t⟩
  · intro x u r; obtain ⟨t, rfl⟩ := r; exact ⟨_, .str x t⟩
  · intro a xs ds hs _ ih u r
    cases r
    obtain ⟨its, rv, ⟨o, n, e, hc, _, hd⟩, _⟩ := I.list hs
    obtain ⟨as, h⟩ := ih rv
    exact ⟨_, .list e hc hd (by simpa using h)⟩
  · intro a xs ds hs _ ih u r
    cases r
    obtain ⟨its, rv, ⟨o, e, hc, n, hd⟩, _⟩ := I.tuple hs
    obtain ⟨as, h⟩ := ih rv
    exact ⟨_, .tuple e hc hd (by simpa using h)⟩
  · intro us r; cases r; exact ⟨_, .nil⟩
  · intro v d vs ds _ _ ih1 ih2 us r
    cases r with
    | cons r rr =>
      obtain ⟨as, h1⟩ := ih1 r
      obtain ⟨bs, h2⟩ := ih2 rr
      exact ⟨_, .cons h1 h2⟩
def okRepr (d : PyData) : Bool := d.canLay0 && d.showable && !d.hasDict && decide (d.shown.length ≤ 16777216) && decide (d.depth ≤ 60)
def rReprD (K : Fg) : List V → Hp → VK → Prop := fun xs H Q => ∃ v d, xs = [v] ∧ Dp K H v d ∧ okRepr d = true ∧ Q (.str d.shown) H
theorem cr_reprD (hgd : X.A.guards = some []) (hu : X.A.units + 65 < cLine) : CallR X (.builtin "repr") (rReprD X.K) := by
  intro pins s σ H xs us Q I rv h
  obtain ⟨v, d, rfl, hd, hok, q⟩ := h
  simp only [okRepr, Bool.and_eq_true, decide_eq_true_eq, Bool.not_eq_true'] at hok
  obtain ⟨⟨⟨⟨_, hs⟩, hnd⟩, hz⟩, hdep⟩ := hok
  have hz : d.shown.length ≤ sizeLine := hz
  cases rv with
  | cons r rr =>
    cases rr
    obtain ⟨as, hr⟩ := Rd_reads I hd r
    have fin : ∀ (h' : Heap) (t t' : Nat), (∀ b o, s.heap.get? b = some o → h'.get? b = some o) → EP X pins σ Q (.str d.shown t') { s with heap := h', toks := t } := fun h' t t' k => ⟨.str d.shown, H, I.kept (t' := t) k, ⟨t', rfl⟩, q⟩
    cases hr with
    | none => exact PySem.P.repr_of_none (fin s.heap _ _ fun _ _ e => e)
    | bool b => exact PySem.P.repr_of_bool (fin s.heap _ _ fun _ _ e => e)
    | int i t => exact PySem.P.repr_of_int (by simpa [PyData.showable] using hs) (fin s.heap _ _ fun _ _ e => e)
    | str x t => exact PySem.P.repr_of_str (fin s.heap _ _ fun _ _ e => e) (by simpa only [PyData.shown] using hz)
    | list h1 h2 h3 h4 => exact repr_of_reads' (.list h1 h2 h3 h4) hs (fun q => by rw [q] at hnd; cases hnd) hgd (by omega) (fun _ _ e => e) (fun h' u tk k => fin h' tk u k) hz
    | tuple h1 h2 h3 h4 => exact repr_of_reads' (.tuple h1 h2 h3 h4) hs (fun q => by rw [q] at hnd; cases hnd) hgd (by omega) (fun _ _ e => e) (fun h' u tk k => fin h' tk u k) hz
    | dict h1 h2 h3 h4 h5 => simp [PyData.hasDict] at hnd
def reprD : List D → Option (Bool × D)
  | [d] => if okRepr (toPy d) then some (false, .str (toPy d).shown) else none
  | _ => none
theorem vr_repr {K : Fg} {mg : MG} : VRn K mg (rReprD K) reprD := by
  intro ds m d h xs H B Q s rx k
  unfold reprD at h
  split at h
  · rename_i d0
    obtain ⟨hl, h⟩ := ite_some h; cases h
    cases rx with
    | cons r rr =>
      cases rr
      have hl2 := hl
      simp only [okRepr, Bool.and_eq_true] at hl2
      exact ⟨_, _, rfl, r.dp s hl2.1.1.1.1, hl, Rep.res s k (.str _)⟩
  · cases h
end
end DL

set_option Elab.async false
set_option linter.all false
set_option maxRecDepth 100000
set_option maxHeartbeats 4000000
namespace DL
open PySem PySem.Spec PyProof.Rows L2

abbrev CP := Env → R (Option Int × Env)
def pNo : CP := fun env => .ok (none, env)
def pSm (f : CB) : CP := fun env => (f env).bind fun r => match rd r.2 r.1 with
  | some (.int i) => .ok (some i, r.2)
  | _ => .stuck
def tP (X : Cx) (p : FP) (W : Wx) (f : CP) : TO := fun σ H Q => ∃ env B, ER X.K X.mg p H B σ env ∧ Goes p W (f env) fun r =>
  ∀ H' B', ER X.K X.mg p H' B' σ r.2 → Fx σ env H B H' B' r.2 → Q r.1 H'
abbrev DP (X : Cx) (p : FP) (W : Wx) (e : Option Expr) (f : CP) : Prop := PO X e (tP X p W f)
section
variable {X : Cx} {p : FP} {W : Wx}
theorem po_imp {e : Option Expr} {t t' : TO} (h : PO X e t) (i : ∀ σ H Q, t' σ H Q → t σ H Q) : PO X e t' := ⟨fun pins s σ H Q I q => h.run pins s σ H Q I (i σ H Q q)⟩
theorem dp_no : DP X p W none pNo := po_imp po_none fun σ H Q ⟨env, B, E, h⟩ => h H B E Fx.rfl'
theorem dp_sm {e : Expr} {f : CB} (h : DB X p W e f) : DP X p W (some e) (pSm f) := by
  refine po_imp (po_some h) ?_
  rintro σ H Q ⟨env, B, E, h⟩
  refine ⟨env, B, E, (Goes.bind h).imp ?_⟩
  rintro ⟨o, e1⟩ h v H1 B1 E1 F1 r1
  dsimp only at h
  split at h
  · rename_i i hi
    exact ⟨i, (E1.rep1 r1 hi).int, h H1 B1 E1 F1⟩
  · exact h.elim
end
def cutD (ds : List D) (lo hi : Option Int) : List D := (ds.drop (HT.sIx ds.length 0 lo)).take (HT.sIx ds.length ds.length hi - HT.sIx ds.length 0 lo)
def sliceD (d : D) (lo hi : Option Int) : Option (Bool × D) := match d with
  | .lst ds => some (true, .lst (cutD ds lo hi))
  | .scr ds => some (true, .lst (cutD ds lo hi))
  | .tup ds => some (false, .tup (cutD ds lo hi))
  | .ktup ds => if HT.sIx ds.length 0 lo = 0 ∧ HT.sIx ds.length ds.length hi = ds.length then some (false, .ktup ds) else some (false, .tup (cutD ds lo hi))
  | .str z => if okL z.length then some (false, .str (cutS z lo hi)) else none
  | _ => none
def rSlX (K : Fg) : V → Option Int → Option Int → Hp → VK → Prop := fun x lo hi H Q => rSlL K x lo hi H Q ∨ rSlA K x lo hi H Q ∨ rSlS x lo hi H Q
theorem sl_any {X : Cx} : SlR X (rSlX X.K) := by
  intro pins s σ H x v vl vu lo hi sl Q I rx hs pl pu h
  rcases h with h | h | h
  · exact sl_list pins s σ H x v vl vu lo hi sl Q I rx hs pl pu h
  · exact sl_tupA pins s σ H x v vl vu lo hi sl Q I rx hs pl pu h
  · exact sl_str pins s σ H x v vl vu lo hi sl Q I rx hs pl pu h
section
variable {K : Fg} {mg : MG}
theorem RepL.cut {B : Hp} {vs : List V} {ds : List D} (r : RepL K mg B vs ds) (lo hi : Option Int) : RepL K mg B (cutV vs lo hi) (cutD ds lo hi) := by
  unfold cutV cutD
  rw [r.length]
  exact (r.drop _).take _
theorem cut_all (xs : List V) (lo hi : Option Int) (h : HT.sIx xs.length 0 lo = 0 ∧ HT.sIx xs.length xs.length hi = xs.length) : cutV xs lo hi = xs := by
  unfold cutV; rw [h.1, h.2]; simp
def VSl (K : Fg) (mg : MG) (r : V → Option Int → Option Int → Hp → VK → Prop) (f : D → Option Int → Option Int → Option (Bool × D)) : Prop :=
  ∀ a lo hi m d, f a lo hi = some (m, d) → ∀ x H B Q, Sub B H → Rep1 K mg H B x a → (∀ v H' B', Ext H B H' B' → Res K mg H H' B' m v d → Q v H') → r x lo hi H Q
theorem new_lst' {H B : Hp} {vs : List V} {ds : List D} {Q : VK} (s : Sub B H) (k : ∀ v H' B', Ext H B H' B' → Res K mg H H' B' true v (.lst ds) → Q v H') (r : RepL K mg B vs ds) : ∀ q, H q = none → Q (.ref q) (upd H q (.lst vs)) := fun q n =>
  k _ _ B (Ext.newH s n) ⟨q, rfl, ⟨vs, upd_same, r⟩, none_of_sub s n, n⟩
theorem new_tup' {H B : Hp} {vs : List V} {ds : List D} {Q : VK} (s : Sub B H) (k : ∀ v H' B', Ext H B H' B' → Res K mg H H' B' false v (.tup ds) → Q v H') (r : RepL K mg B vs ds) : ∀ q, H q = none → Q (.ref q) (upd H q (.tup vs)) := fun q n =>
  k _ _ _ (Ext.newB s n) (.tup upd_same (r.mono (Ext.newB (o := .tup vs) s n).base))
theorem vs_slice : VSl K mg (rSlX K) sliceD := by
  intro a lo hi m d h x H B Q s rx k
  unfold sliceD at h
  cases a with
  | lst ds =>
    cases h
    obtain ⟨q, vs, rfl, h1, h2⟩ := rx.lst s
    exact .inl ⟨q, vs, rfl, SqL.of h1, new_lst' s k (h2.cut lo hi)⟩
  | scr ds =>
    cases h
    obtain ⟨q, vs, rfl, h1, h2⟩ := rx.scr s
    exact .inl ⟨q, vs, rfl, h1, new_lst' s k (h2.cut lo hi)⟩
  | tup ds =>
    cases h
    have hr : Rep K mg B x (.tup ds) := by
      rcases rx with r | ⟨_, _, c⟩
      · exact r
      · exact c.elim
    obtain ⟨q, vs, rfl, h1, h2⟩ := rx.tup s
    refine .inr (.inl ⟨q, vs, rfl, SqT.of h1, fun hw => ?_, fun _ => new_tup' s k (h2.cut lo hi)⟩)
    have e : cutD ds lo hi = ds := by
      unfold cutD
      rw [h2.length] at hw
      rw [hw.1, hw.2]; simp
    refine Rep.res s k ?_
    rw [e]; exact hr
  | ktup ds =>
    obtain ⟨q, vs, rfl, h1, h2⟩ := rx.ktup s
    have hr : Rep K mg B (.ref q) (.ktup ds) := by
      rcases rx with r | ⟨_, _, c⟩
      · exact r
      · exact c.elim
    by_cases hn : HT.sIx ds.length 0 lo = 0 ∧ HT.sIx ds.length ds.length hi = ds.length
    · have h : some (false, D.ktup ds) = some (m, d) := by rw [← h]; exact (if_pos hn).symm
      cases h
      refine .inr (.inl ⟨q, vs, rfl, h1, fun _ => Rep.res s k hr, fun hw => absurd (by rw [h2.length]; exact hn) hw⟩)
    · have h : some (false, D.tup (cutD ds lo hi)) = some (m, d) := by rw [← h]; exact (if_neg hn).symm
      cases h
      refine .inr (.inl ⟨q, vs, rfl, h1, fun hw => absurd (by rw [h2.length] at hw; exact hw) hn, fun _ => new_tup' s k (h2.cut lo hi)⟩)
  | str z =>
    obtain ⟨hl, h⟩ := ite_some h; cases h
    exact .inr (.inr ⟨z, rx.str, okL_le hl, Rep.res s k (.str _)⟩)
  | _ => cases h
end
def cSl (f : CB) (lo hi : CP) : CE := fun env => (f env).bind fun r => (lo r.2).bind fun q => (hi q.2).bind fun z => match rd z.2 r.1 with
  | some d => (R.of (sliceD d q.1 z.1)).bind fun w => .ok (w.1, w.2, z.2)
  | none => .stuck
section
variable {X : Cx} {p : FP} {W : Wx} {pos p2 : Pos} {e : Expr} {lo hi : Option Expr}
theorem de_slice {f : CB} {fl fh : CP} (he : DB X p W e f) (hl : DP X p W lo fl) (hu : DP X p W hi fh) : DE X p W (.Subscript e (.Slice lo hi none p2) pos) (cSl f fl fh) := by
  refine pe_imp (pe_slice sl_any he hl hu) ?_
  rintro σ H Q ⟨env, B, E, h⟩
  refine ⟨env, B, E, (Goes.bind h).imp ?_⟩
  rintro ⟨o, e1⟩ h v H1 B1 E1 F1 r1
  refine ⟨e1, B1, E1, (Goes.bind h).imp ?_⟩
  rintro ⟨l, e2⟩ h H2 B2 E2 F2
  refine ⟨e2, B2, E2, (Goes.bind h).imp ?_⟩
  rintro ⟨u, e3⟩ h H3 B3 E3 F3
  dsimp only at h
  cases hr : rd e3 o with
  | none => rw [hr] at h; exact h.elim
  | some d =>
    rw [hr] at h
    obtain ⟨⟨m, d'⟩, hd, h⟩ := of_bind h
    exact vs_slice d l u m d' hd v H3 B3 Q E3.sub (E3.rep1 (r1.mono (F2.base.trans F3.base)) hr) fun w H' B' x z => h w H' B' (E3.ext x) (((F1.trans F2).trans F3).trans x.fx) (z.back ((F1.trans F2).trans F3).dom)
end
end DL

set_option Elab.async false
set_option linter.all false
set_option maxRecDepth 100000
set_option maxHeartbeats 4000000
namespace DL
open PySem PySem.Spec PyProof.Rows L2

/-- the block's context, what is held kept -/
abbrev BlkH (X : Cx) (scope : Scope) (s : Shared) (H : Hp) (C : Addr) (cl : List (Str × Addr)) (fp : List Addr) : Cx := (BlkX X scope s H C cl fp).tr X.pn (fun _ _ => False)
section
variable {X : Cx}
theorem hot_blk (hc : L2H.HotC X) {scope : Scope} {s : Shared} {H : Hp} {C : Addr} {cl : List (Str × Addr)} {fp : List Addr} : L2H.HotC (BlkH X scope s H C cl fp) := hc
theorem hot_start {pins : List (Addr × Obj)} {σ : L2.St} {H : Hp} {s : Shared} {scope : Scope} {own : List (Str × Nat)} {fp : List Addr} (J : Inv X pins σ H s) (ok : BlkOk X.N X.env.scope scope own) (hN : X.N.Nodup) (hfp : ∀ b ∈ fp, FpOk X pins H b ∧ b < s.heap.objs.size) :
    Inv (BlkH X scope s H s.heap.objs.size (cellsFrom (s.heap.objs.size + 1) scope.names (cloFrom X.env.cells scope.names [])) fp) [] (wipe σ (own.map (·.2))) H
      { s with heap := pushCells (s.heap.push { cls := .type "dict", data := .dict #[] }) scope.names } := by
  have B := block_start J ok hN hfp
  refine ⟨B.ok.toTry _ _, B.os, B.bare, B.base, B.loc, B.cell, B.free, B.freeC, ?_, B.hok, B.len⟩
  intro q hq
  have hq : q ∈ X.pn := by simpa using hq
  obtain ⟨g1, g2, g3, g4, g5⟩ := J.pin q (List.mem_append_left _ hq)
  refine ⟨pushCells_keeps _ _ _ _ (Heap.get?_push_of_some _ g1), g2, ?_, ?_, g5⟩
  · exact Nat.ne_of_lt (Heap.lt_size g1)
  · intro hm
    rcases List.mem_cons.mp (J.stkSub q.1 hm) with z | z
    · exact g3 z
    · exact g4 z
theorem lcH_core {pins : List (Addr × Obj)} {s0 : Shared} {σ : L2.St} {H0 : Hp} {Q : VK} {elt tg iter : Expr} {ifs : List Expr} {scope : Scope} {own : List (Str × Nat)} {pos pos' : Pos} {wi : TI} {g : TG} {tt : TT} {te : TE} {use : Option (Value → Sem Unit)} {Qf : Value → Shared → Prop}
    (hot : L2H.HotC X) (hN : X.N.Nodup) (I0 : Inv X pins σ H0 s0) (hi : L2H.PIH X tg iter wi) (ok : BlkOk X.N X.env.scope scope own)
    (hg : ∀ s H C cl fp, PG (BlkH X scope s H C cl fp) tg g) (ht : ∀ s H C cl fp, PTs (BlkH X scope s H C cl fp) ifs tt) (he : ∀ s H C cl fp, PE (BlkH X scope s H C cl fp) elt te)
    (hs : ∀ x, foldedSetIterable iter X.env x = pure x) (h : tLc wi g tt te (own.map (·.2)) σ H0 Q)
    (fin : ∀ P C z m H', Inv X pins σ H' z → Q (.ref P) H' → z.heap.Ns C m → FpOk X pins H' C → compPost (model X.prog X.w) X.A X.xe use Qf (.ref P) C (.ok .next) z) :
    wpAny (model X.prog X.w) X.A (comprehension (.ListComp elt [⟨tg, iter, ifs, 0⟩] scope pos) scope X.env pos' (newList []) false (eval iter X.env) use) Qf X.xe s0 := by
  have caught : ∀ y ∈ scope.names, y.2 = .free → ∃ c, X.env.cells.lookup y.1 = some c := by
    intro y hy e
    rcases ok.free y hy e with k | k
    · exact I0.ok.has _ (Or.inl k)
    · exact I0.ok.has _ (Or.inr k)
  have first := thn (hi.run pins s0 σ H0 _ I0 h) (Q' := fun v z => wpAny (model X.prog X.w) X.A (pyIter v) (fun itv z2 => L2H.PIEH X pins σ tg _ itv z2) X.xe z) fun _ _ z => z
  refine wpAny_comprehension_free (use := use) rfl hs (closure_ok caught) ok.kind (fun y hy e => by rw [ok.uniq y hy, e]) (thn first fun xv z1 hx => thn hx fun itv z2 hz2 => ?_)
  obtain ⟨it, fp, tn, J, H2, rfl, I2, T, turn0, free0, step0⟩ := hz2
  refine wpAny_newObj_type (newEnv_comp ?_) (by show 0 ≤ sizeLine; decide)
  generalize eP : z2.heap.objs.size = P
  have freeP : H2 P = none := I2.hok.fresh (Nat.le_of_eq eP)
  obtain ⟨Wt, ⟨n0, start0⟩, turns⟩ := step0 P freeP
  generalize e3 : ({ z2 with heap := z2.heap.push { cls := .type "list", data := .seq ([] : List Value).toArray } } : Shared) = z3
  have hp3 : z3.heap = z2.heap.push { cls := .type "list", data := .seq ([] : List Value).toArray } := by rw [← e3]
  have I3 : Inv X pins σ (upd H2 P (.lst [])) z3 := by
    rw [← e3]
    apply I2.laid (t' := z2.toks) (fun b o e => Heap.get?_push_of_some _ e) (Nat.le_of_eq eP)
    refine ⟨Nat.zero_le _, [], 0, .nil, ?_⟩
    rw [← eP]; exact Heap.get?_push_size _ rfl
  have small : ∀ b ∈ fp, b < z2.heap.objs.size := by
    intro b hb
    obtain ⟨o, e, _⟩ := T.obj _ _ turn0 b hb
    exact Heap.lt_size e
  have free3 : ∀ b ∈ fp, FpOk X pins (upd H2 P (.lst [])) b ∧ b < z3.heap.objs.size := by
    intro b hb
    have hlt := small b hb
    refine ⟨⟨?_, (free0 b hb).2⟩, by rw [hp3, Heap.size_push]; exact Nat.lt_succ_of_lt hlt⟩
    rw [upd_ne (by rw [← eP]; exact Nat.ne_of_lt hlt)]
    exact (free0 b hb).1
  have turn3 : tn 0 z3.heap := T.keep _ _ _ turn0 (fun b _ o e => by rw [hp3]; exact Heap.get?_push_of_some _ e)
  have I4 := hot_start I3 ok hN free3
  show codeAny _ _ (.compStart (.ListComp elt [⟨tg, iter, ifs, 0⟩] scope pos) 0 (.ref it) (.ref P) (compEnvC scope (cellsFrom (z3.heap.objs.size + 1) scope.names (cloFrom X.env.cells scope.names [])) z3.heap.objs.size X.env))
    (compPost (model X.prog X.w) X.A X.xe use Qf (.ref P) z3.heap.objs.size) { z3 with heap := pushCells (z3.heap.push { cls := .type "dict", data := .dict #[] }) scope.names }
  generalize ecl : cellsFrom (z3.heap.objs.size + 1) scope.names (cloFrom X.env.cells scope.names []) = cl at I4 ⊢
  have pg := hg z3 (upd H2 P (.lst [])) z3.heap.objs.size cl fp
  have pt := ht z3 (upd H2 P (.lst [])) z3.heap.objs.size cl fp
  have pe := he z3 (upd H2 P (.lst [])) z3.heap.objs.size cl fp
  have none3 : ∀ b ∈ fp, (upd H2 P (.lst [])) b = none := fun b hb => (free3 b hb).1.1
  generalize e4 : ({ z3 with heap := pushCells (z3.heap.push { cls := .type "dict", data := .dict #[] }) scope.names } : Shared) = z4 at I4 ⊢
  have turn4 : tn 0 z4.heap := T.keep _ _ _ turn3 (fun b _ o e => by rw [← e4]; exact pushCells_keeps _ _ _ _ (Heap.get?_push_of_some _ e))
  have hotB : L2H.HotC (BlkH X scope z3 (upd H2 P (.lst [])) z3.heap.objs.size cl fp) := hot
  have still : ∀ {σ' : L2.St} {H' : Hp} {z' : Shared}, Inv (BlkH X scope z3 (upd H2 P (.lst [])) z3.heap.objs.size cl fp) [] σ' H' z' → (∀ b ∈ fp, H' b = none) → ∀ b ∈ fp, FpOk (BlkH X scope z3 (upd H2 P (.lst [])) z3.heap.objs.size cl fp) [] H' b := by
    intro σ' H' z' I' hn b hb
    refine ⟨hn b hb, (I'.ok.exf b hb).1, I'.ok.exfs b hb, Or.inl hb, (fun x c e => (I'.ok.exf b hb).2 x c e), fun q hq => ?_⟩
    have hq : q ∈ X.pn := by simpa using hq
    exact (free3 b hb).1.2.2.2.2.2 q (List.mem_append_left _ hq)
  have loop : codeAny (model X.prog X.w) X.A (.compLoop (.ListComp elt [⟨tg, iter, ifs, 0⟩] scope pos) 0 (.ref it) (.ref P) (compEnvC scope cl z3.heap.objs.size X.env)) (compPost (model X.prog X.w) X.A X.xe use Qf (.ref P) z3.heap.objs.size) z4 := by
    apply compLoop_any (fun n z => ∃ i H', Inv (BlkH X scope z3 (upd H2 P (.lst [])) z3.heap.objs.size cl fp) [] (wipe σ (own.map (·.2))) H' z ∧ tn i z.heap ∧ (∀ b ∈ fp, H' b = none) ∧ Wt i n H') ?_ n0 ⟨0, _, I4, turn4, none3, start0⟩
    rintro n z5 ⟨i, H5, I5, turn5, none5, w5⟩
    rcases turns i n H5 w5 with ⟨stop, done⟩ | ⟨go, Nx, hNx, step⟩
    · have ended := T.done (BlkH X scope z3 (upd H2 P (.lst [])) z3.heap.objs.size cl fp) rfl rfl rfl hotB i [] z5 _ H5 (fun _ _ => False) I5 (still I5 none5) turn5 stop
      refine thnF ended ?_
      rintro r z6 ⟨rfl, I6⟩
      have I7 : Inv X pins σ H5 z6 := I3.call' (ch := fp) I6.os I6.base I6.hok I6.bare (fun b hb => ⟨(free3 b hb).1.2.2.2.1, (free3 b hb).1.2.1, (free3 b hb).1.2.2.2.2.1, (free3 b hb).1.2.2.2.2.2⟩)
      have noC : H5 z3.heap.objs.size = none := I6.free
      obtain ⟨m, hm, _⟩ := I6.loc
      exact fin P z3.heap.objs.size z6 m H5 I7 done hm (I3.fpOk (Nat.le_refl _) noC)
    · have got := T.item (BlkH X scope z3 (upd H2 P (.lst [])) z3.heap.objs.size cl fp) rfl rfl rfl hotB i [] z5 _ H5 (fun _ _ => False) I5 (still I5 none5) turn5 go
      refine thnF got ?_
      rintro r z6 ⟨u, rfl, h6⟩
      refine thnF h6 ?_
      rintro _ z7 ⟨x, H7, I7, r7, y7, turn7, none7⟩
      have P7 := I7.pinned (still I7 none7) (T.obj _ _ turn7)
      refine thnF (pg.run _ z7 _ H7 x u _ P7 r7 (step x H7 y7)) ?_
      rintro _ z8 ⟨σ8, H8, I8, same8, q8⟩
      refine thnF (pt.run _ z8 σ8 H8 _ I8 q8) ?_
      rintro b z9 ⟨H9, I9, q9⟩
      have next : ∀ {z' : Shared} {H' : Hp}, Inv (BlkH X scope z3 (upd H2 P (.lst [])) z3.heap.objs.size cl fp) ([] ++ pinsAt fp z7.heap) σ8 H' z' → Nx H' →
          ∃ m, m < n ∧ ∃ i H', Inv (BlkH X scope z3 (upd H2 P (.lst [])) z3.heap.objs.size cl fp) [] (wipe σ (own.map (·.2))) H' z' ∧ tn i z'.heap ∧ (∀ b ∈ fp, H' b = none) ∧ Wt i m H' := by
        intro z' H' I' nx
        obtain ⟨m', hm, w'⟩ := hNx H' nx
        have held : ∀ b ∈ fp, ∀ o, z7.heap.get? b = some o → z'.heap.get? b = some o ∧ H' b = none := by
          intro b hb o e
          have z := I'.pin (b, o) (List.mem_append_right _ (List.mem_append_right _ (mem_pinsAt hb e)))
          exact ⟨z.1, z.2.1⟩
        have hl : (wipe σ (own.map (·.2))).length = σ8.length := by rw [← same8, wipe_length]
        refine ⟨m', hm, i + 1, H', (I'.unpinned (pins := [])).weak hl (fun j v e => ?_), T.keep _ _ _ turn7 (fun b hb o e => (held b hb o e).1), fun b hb => ?_, w'⟩
        · rw [← same8] at e
          exact (wipe_some e).1
        · obtain ⟨o, e, _⟩ := T.obj _ _ turn7 b hb
          exact (held b hb o e).2
      cases b with
      | true =>
        simp only [if_true] at q9 ⊢
        refine thnF (pe.run _ z9 σ8 H9 _ I9 q9) ?_
        rintro v z10 ⟨yv, H10, I10, r10, acc, at10, room, nx⟩
        exact app_ok (X := BlkH X scope z3 (upd H2 P (.lst [])) z3.heap.objs.size cl fp) I10 at10 room r10 (fun z11 I11 => next I11 nx)
      | false =>
        simp only [Bool.false_eq_true, if_false] at q9 ⊢
        exact next I9 q9
  exact codeAny_compStart_list loop (T.self X.A 0 _ _ _ turn4 loop)
end
end DL

set_option Elab.async false
set_option linter.all false
set_option maxRecDepth 100000
set_option maxHeartbeats 4000000
namespace DL
open PySem PySem.Spec PyProof.Rows L2

section
variable {X : Cx} {p : FP} {W : Wx}
theorem di_range1H {tg a : Expr} {fs : CA} {q pos : Pos} (hg : Gl X "range") (hm : X.mg "range" = none) (ha : DA X p W [a] fs) (hs : starEach [a] X.env = [(false, eval a X.env)] := by rfl) : L2H.PIH X tg (.Call (.Name "range" q) [a] [] pos) (tI X p W (iL rngD1 fs)) := by
  have h0 := L2H.pi_range1H (tg := tg) (p := q) (pos := pos) hg hm ha hs
  refine ⟨fun pins s σ H Q I h => h0.run pins s σ H Q I ?_⟩
  obtain ⟨env, B, E, h⟩ := h
  refine ⟨env, B, E, (Goes.bind h).imp ?_⟩
  rintro ⟨os, e1⟩ h vs H1 B1 E1 F1 r1
  obtain ⟨ds, q, hr, hq, h⟩ := iL_goes h
  have h := fun J w => h J H1 B1 E1 F1 w
  have rr := E1.rep1L r1 hr
  unfold rngD1 at hq
  split at hq
  · rename_i j
    split at hq
    · rename_i hj
      cases hq
      refine ⟨j, rep1L_one rr, (smallI_ok hj).1, (smallI_ok hj).2, h (Itr 0 j.toNat) ?_⟩
      have e0 : rng 0 j = (List.range j.toNat).map fun k : Nat => D.int (0 + (k : Int)) := by unfold rng; rw [Int.sub_zero]
      rw [e0]
      exact walkD_range
    · cases hq
  · cases hq
theorem ds_setCH {i : Nat} {y : Str} {py : Pos} {elt tg iter : Expr} {ifs : List Expr} {scope : Scope} {own : List (Str × Nat)} {pos pos' : Pos} {ts : List Nat} {it : CI} {g : Gt} {tt : CT} {f : CE} (hot : L2H.HotC X) (hN : X.N.Nodup) (hy : X.N[i]? = some y) (hyl : X.env.scope.names.lookup y = some .local)
    (hsw : swapsWith (.ListComp elt [⟨tg, iter, ifs, 0⟩] scope pos') (some (.Name y py)) pos.line X.env = pure true) (hi : L2H.PIH X tg iter (tI X p W it)) (ok : BlkOk X.N X.env.scope scope own)
    (hts : ∀ t ∈ ts, t ∈ own.map (·.2)) (hg : ∀ s H C cl fp, DG (BlkH X scope s H C cl fp) p tg ts g) (ht : ∀ s H C cl fp, DTs (BlkH X scope s H C cl fp) p W0 ifs tt)
    (he : ∀ s H C cl fp, DE (BlkH X scope s H C cl fp) p W0 elt f) (hs : ∀ x, foldedSetIterable iter X.env x = pure x := by intro _; rfl) :
    DS X p W (.Assign [.Name y py] (.ListComp elt [⟨tg, iter, ifs, 0⟩] scope pos') pos) (sAsg i (cComp (own.map (·.2)) g tt f it)) := by
  constructor
  intro pins s σ H D I h
  have hh := cComp_ok hts (asg_ok h)
  rw [exec_Assign_Name_used _ _ _ _ hsw]
  apply wpAny_bind
  apply wpAny_standAt
  apply wpAny_bind
  show wpAny _ X.A (do let _ ← comprehension (.ListComp elt [⟨tg, iter, ifs, 0⟩] scope pos') scope X.env (firstIterPos [⟨tg, iter, ifs, 0⟩] pos') (newList []) false (eval iter X.env) (some (assign (.Name y py) X.env))) _ _ s
  apply wpAny_bind
  refine thn (lcH_core (Qf := fun _ z => SP X pins D .next z) hot hN I hi ok hg ht he hs hh ?_) (fun _ z hq => wpAny_pure (wpAny_pure hq))
  intro P C z m H' J q hn f
  show wpAny _ _ (assign (.Name y py) X.env (.ref P)) _ _ _
  refine wpAny_assign_Name (store_ok2 (v := V.ref P) J hN hy (Or.inl hyl) rfl ?_ (Or.inr hyl))
  rintro z2 J2 ⟨a, sb, ha⟩
  have ne : C ≠ a := by
    rcases ha with w | w
    · rw [w]; exact f.2.1
    · intro e; exact f.2.2.2.2.1 y a w e.symm
  refine ⟨m, hn.sameBut sb ne, fun h3 sb3 => ⟨_, H', ?_, q⟩⟩
  exact J2.turned (t' := z2.toks) (fun b o hb e => (sb3.2 b hb).trans e) f.1 f.2.1 f.2.2.2.1 f.2.2.2.2.1 f.2.2.2.2.2
theorem call_isE' {a D : Addr} {oe : Obj} (C : ExcC X.K D) (hm : (a, oe) ∈ X.pn) (hz : Zc (.ref D) none oe) (hf : ∃ vs, oe.data = .fields vs) : CallR X (.builtin "isinstance") (rIsE X.K D a) := by
  rintro pins s σ H xs us Q I r ⟨c, cv, b, rfl, hcv, e, q⟩
  cases r with
  | cons rx rr =>
    cases rr with
    | cons rt rr =>
      cases rr
      cases rx
      obtain rfl := hcv _ rt
      have hget := (I.pin (a, oe) (List.mem_append_left _ hm)).1
      have J : PySem.W.InstAt s.heap a oe D none := by
        obtain ⟨vs, hv⟩ := hf
        obtain ⟨oc, od, oda, osl⟩ := oe
        obtain ⟨h1, h2⟩ := hz
        dsimp only at h1 h2 hv
        subst h1; subst h2; subst hv
        exact ⟨hget, rfl, rfl, trivial⟩
      have kit := PySem.W.handS_kitx_exc (x := a) (ox := oe) C.hg C.hk C.hs C.hd C.ha C.hn C.ht C.hm
      exact PySem.W.kia_one kit I.kIn J e (fun z => nomatch z) (fun tk => ⟨.bl b, H, I.kept (t' := tk) (fun _ _ z => z), rfl, q⟩)
end
/-- what isinstance says of an error of the class at D, by the classes' names -/
structure ErrT (K : Fg) (mg : MG) (D : Addr) (tab : Str → Option Bool) : Prop where
  exc : ExcC K D
  tab_ : ∀ n b, tab n = some b → ∃ C, mg n = some (.ref C) ∧ PySem.W.kitOne K (.ref D) (.ref C) = some b
def isD (a : Addr) (tab : Str → Option Bool) : List D → Option (Bool × D)
  | [.adr b, .fn n] => if b = a then (tab n).map fun k => (false, .bl k) else none
  | _ => none
theorem vr_is {K : Fg} {mg : MG} {C a : Addr} {tab : Str → Option Bool} (T : ErrT K mg C tab) : VRn K mg (rIsE K C a) (isD a tab) := by
  intro ds m d h xs H B Q s rx k
  unfold isD at h
  split at h
  · rename_i b n
    split at h
    · rename_i hb
      subst hb
      cases ht : tab n with
      | none => rw [ht] at h; cases h
      | some q =>
        rw [ht] at h; cases h
        obtain ⟨C', g1, g2⟩ := T.tab_ n q ht
        cases rx with
        | cons r1 rr =>
          cases rr with
          | cons r2 rr =>
            cases rr
            have e1 : ∀ {v : V}, Rep1 K mg H B v (.adr b) → v = .ref b := fun r => by
              rcases r with r | ⟨_, _, c⟩
              · cases r; rfl
              · exact c.elim
            have e2 : ∀ {v : V}, Rep1 K mg H B v (.fn n) → v = .ref C' := fun r => by
              rcases r with r | ⟨_, _, c⟩
              · cases r with | fn h => rw [g1] at h; cases h; rfl
              · exact c.elim
            refine ⟨.ref C', .ref C', q, by rw [e1 r1, e2 r2], fun u hu => hu, g2, Rep.res s k (.bl _)⟩
    · cases h
  · cases h
/-- the promise: q is the held error (its place, its object), of the class at C -/
structure FnE (P : Program) (w : World) (K : Fg) (mg : MG) (base : Heap) (k : Nat) (f : Addr) (fd : FuncData) (ps : List Str) (F : Addr → Addr → FSem) : Prop where
  run : ∀ (A : Around) (outer : List PySem.Env) (s : Shared) (H : Hp) (args : Args) (q : Addr × Obj) (C : Addr) (Q : VK), L2H.RoomH k A → L2H.Hot1 A q → L2H.PinOk outer H s q → Env0 P w K mg base A outer s H → BindsTo s fd args (ps.zip [.ref q.1]) →
    q.2.cls = .ref C → q.2.dict = none → Goes ⟨H, fun _ => none, none⟩ W0 (F C q.1 [.adr q.1]) (fun r => ∀ v H' B', CallEnd K mg H (fun _ => none) none H' B' v r → Q v H') →
    codeAny (model P w) A (.call (.ref f) args) (CR (L2N.CX P w) outer P w H s Q (fun _ _ _ => False)) s
section
variable {P : Program} {w : World} {K : Fg} {mg : MG} {base : Heap} {x qual : Str} {params : Arguments} {body : List Stmt} {scope : Scope} {dvs : List V} {kws : List (Str × V)} {f : Addr} {fd : FuncData}
theorem fnE_of {N ps : List Str} {k : Nat} {g : Addr → Addr → CS} (F : FunD K x qual params body scope dvs kws f fd) (S : FnScope N ps scope) (hnp : ps.length = 1)
    (hbody : ∀ (cdv : Value) (A : Around) (outer : List PySem.Env) (s : Shared) (H : Hp) (p : FP) (q : Addr × Obj) (C : Addr), L2H.Hot1 A q → Zc (.ref C) none q.2 → L2H.RoomH k (A.deeper (envOfC qual scope s.heap.objs.size f cdv)) →
      DSs (L2H.cxH (L2N.CX P w) P w K mg base N qual scope f cdv A outer s H (fun _ _ _ => False) q) p W0 body (g C q.1)) : FnE P w K mg base (k + 1) f fd ps (fun C a => fnD none 1 N.length (g C a)) := by
  obtain ⟨oc, od, dV, kV, doc, pm, an, cdv, ct, osl, rfl, lk, hcd, _, _⟩ := F.ex
  constructor
  intro A outer s H args q C Q hr hot hpin e0 hb hcls hdict hF
  have Kh : K.In s.heap := e0.mod.kin.keeps (fun b o q => (e0.bs b o q).1)
  have Lh : s.heap.NoLimit := e0.mod.nolimit.keeps (fun b o q => (e0.bs b o q).1)
  have kinds : ∀ z ∈ ps.zip [Value.ref q.1], scope.names.lookup z.1 = some .local ∨ (scope.names.lookup z.1 = some .cell ∧ ((cellsFrom (s.heap.objs.size + 1) scope.names []).lookup z.1).isSome = true) := by
    rintro ⟨y, u⟩ hz
    have hy := S.par y (List.of_mem_zip hz).1
    rcases hy with hy | hy
    · exact Or.inl hy
    · exact Or.inr ⟨hy, PySem.W.cellsFrom_some _ _ _ (Or.inl hy)⟩
  apply codeAny_call_function hr.depth (Kh _ _ lk) rfl S.co S.gen rfl (PySem.W.codeRec_of Kh hcd)
  apply hb
  apply wpAny_newFunctionEnv_cells S.kind kinds
  intro env henv s1 x1
  subst henv
  apply And.intro (Lh.keeps x1.toInCall.keep)
  apply codeAny_func
  have body_ := hbody cdv A outer s H ⟨H, fun _ => none, none⟩ q C hot ⟨hcls, hdict⟩ (hr.deeper _)
  have rv : Vals [V.ref q.1] [Value.ref q.1] := .cons rfl .nil
  have J0 : Inv (L2H.cxH (L2N.CX P w) P w K mg base N qual scope f cdv A outer s H (fun _ _ _ => False) q) [] (L2.start N [.ref q.1]) H s1 := L2H.inv_startH S hpin e0 hnp.symm rv x1
  have hA : ArgsD K mg H (fun _ => none) none [V.ref q.1] [D.adr q.1] := ⟨rfl, fun j v d h1 h2 => by
    cases j with
    | zero => simp at h1 h2; subst h1 h2; exact .inr ⟨fun a z => (by cases z), .adr⟩
    | succ j => simp at h1, fun i a z => by cases z⟩
  have hl : [D.adr q.1].length ≤ N.length := by
    have hp := congrArg List.length S.pre
    rw [List.length_take, hnp] at hp
    show 1 ≤ _
    omega
  have E0 := entry_er (K := K) (mg := mg) (N := N) (H := H) (B := fun _ => none) (io := none) (fun _ _ z => by cases z) rfl hA hl
  have start_ : tS (L2H.cxH (L2N.CX P w) P w K mg base N qual scope f cdv A outer s H (fun _ _ _ => False) q) ⟨H, fun _ => none, none⟩ W0 (g C q.1) { nx := fun _ H' => Q .non H', rt := Q } (L2.start N [.ref q.1]) H := by
    refine ⟨_, _, E0, ?_⟩
    unfold fnD at hF
    split at hF
    · refine (Goes.bind hF).imp ?_
      rintro ⟨fl, e1⟩ h
      cases fl with
      | nx =>
        intro σ' H' B' E' _
        obtain ⟨od, ho, h⟩ := ioVal_ok (Goes.bind h)
        exact h .non H' B' (call_end (io := none) rfl E' .non ho)
      | bk => exact h.elim
      | ct => exact h.elim
      | rt m d =>
        intro v σ' H' B' E' r'
        obtain ⟨od, ho, h⟩ := ioVal_ok (Goes.bind h)
        exact h v H' B' (call_end (io := none) rfl E' r' ho)
    · exact hF.elim
  have run_ := body_.run [] s1 (L2.start N [.ref q.1]) H _ J0 start_
  refine wpAny_mono run_ (fun fl s' hs => ?_) (fun e s' hs => hs)
  have done_ : ∀ {σ' : L2.St} {H' : Hp} {v : V} {u : Value}, Inv (L2H.cxH (L2N.CX P w) P w K mg base N qual scope f cdv A outer s H (fun _ _ _ => False) q) [] σ' H' s' → RelV v u → Q v H' → L2.CE outer P w H s Q u s' :=
    fun {_ H' v _} J rv z => ⟨v, H', J.os, J.bare, J.base, J.hok, rv, z⟩
  cases fl with
  | next => obtain ⟨σ', H', J, z⟩ := hs; exact done_ (v := V.non) (u := Value.none) J rfl z
  | ret u => obtain ⟨v, σ', H', J, rv, z⟩ := hs; exact done_ J rv z
  | brk => obtain ⟨_, _, _, z⟩ := hs; exact z.elim
  | cont => obtain ⟨_, _, _, z⟩ := hs; exact z.elim
end
end DL

set_option Elab.async false
set_option linter.all false
set_option maxRecDepth 100000
set_option maxHeartbeats 4000000
namespace DL
open PySem PySem.Spec PyProof.Rows L2

def sTry (errs : Str → Option Str) (f : CS) : CS := fun env => match f env with
  | .ok r => .ok r
  | .exc c => match errs c with
    | some t => .ok (.rt false (.str t), [])
    | none => .stuck
  | .stuck => .stuck
/-- the def that a handler calls, by its name -/
structure CtrE (P : Program) (w : World) (K : Fg) (mg : MG) (base : Heap) (k : Nat) (x : Str) (F : Addr → Addr → FSem) : Prop where
  ex : ∃ (f : Addr) (fd : FuncData) (e : Str), FnE P w K mg base k f fd [e] F ∧ mg x = some (.ref f) ∧ PySem.W.keepIn K (.ref f) = true ∧ Binds K fd [e] []
/-- errors that are caught and told -/
structure Caught (K : Fg) (mg : MG) (C0 : Addr) (F : Addr → Addr → FSem) (errs : Str → Option Str) : Prop where
  ok : ∀ c t, errs c = some t → ∀ C, mg c = some (.ref C) → PySem.W.exmOne K (.ref C) (.ref C0) = some true ∧ ∀ a, F C a [.adr a] = .ok ((false, .str t), none)
section
variable {X : Cx} {p : FP} {W : Wx}
/-- the call of it -/
def tCallE (i : Nat) (F : Addr → Addr → FSem) (a : Addr) (cls : Value) (d : Option Addr) : TE := fun σ H Q => σ[i]? = some (some (.ref a)) ∧ H a = none ∧ ∃ C, cls = .ref C ∧ d = none ∧ ∃ t, F C a [.adr a] = .ok ((false, .str t), none) ∧ ∀ H', Sub H H' → Q (.str t) H'
theorem pe_callE {k i : Nat} {x n : Str} {F : Addr → Addr → FSem} {xp np cpos : Pos} {a : Addr} {oe : Obj} {cls : Value} {d : Option Addr} {pn : List (Addr × Obj)} (hr : Room k X.A) (c : CtrE X.prog X.w X.K X.mg X.base k x F) (hg : Gl X x) (hN : X.N[i]? = some n) (hv : Vis X.env.scope n)
    (hz : L2N.Zn cls d oe) (hf : ∃ vs, oe.data = .fields vs) (hdb : (x == ("__debug__" : Str)) = false := by decide) (hd : (n == ("__debug__" : Str)) = false := by decide) (hcd : (n == ("__classdict__" : Str)) = false := by decide)
    (he : starEach [Expr.Name n np] X.env = (false, eval (.Name n np) X.env) :: starEach [] X.env := by rfl) (hpl : (backTo cpos (starEach [] X.env)).any (·.1) = false := by rfl) :
    PE (X.suite a ((a, oe) :: pn)) (.Call (.Name x xp) [.Name n np] [] cpos) (tCallE i F a cls d) := by
  obtain ⟨f, fd, e, G, hm, hk, hb⟩ := c.ex
  constructor
  rintro pins s σ H Q I ⟨hi, ha, C, rfl, rfl, t, hF, hQ⟩
  apply wpAny_Call_Name_kw
  refine ld_glob I hg hm ?_ hdb
  have args : PA (X.suite a ((a, oe) :: pn)) [.Name n np] (tCons (tVar i) tNil) := pa_cons (pe_var hN hv hd hcd) pa_nil he
  refine PySem.W.callWith_K (h₀ := X.base) I.ok.mod.kin hk (thn (args.run cpos pins s σ H (fun vs H1 => vs = [.ref a] ∧ H1 = H) I ⟨.ref a, hi, rfl, rfl⟩) ?_) he hpl
  rintro us s1 ⟨vs, H1, I1, r1, rfl, rfl⟩
  refine ⟨I1.kIn, ?_⟩
  cases r1 with
  | cons r rr =>
    cases rr
    cases r
    have hbind := hb s1 [.ref a] I1.kIn rfl
    rw [List.append_nil] at hbind
    have pin := I1.pin (a, oe) (List.mem_append_left _ List.mem_cons_self)
    have pok : L2H.PinOk (X.suite a ((a, oe) :: pn)).stack H1 s1 (a, oe) := ⟨pin.1, pin.2.1, (fun hm => by
      rcases List.mem_cons.mp (I1.stkSub a hm) with z | z
      · exact pin.2.2.1 z
      · exact pin.2.2.2.1 z), pin.2.2.2.2⟩
    have hot : L2H.Hot1 (X.suite a ((a, oe) :: pn)).A (a, oe) := by
      obtain ⟨vs, hv⟩ := hf
      exact ⟨rfl, vs, hv, hz.2.2 vs hv⟩
    have room : L2H.RoomH k (X.suite a ((a, oe) :: pn)).A := ⟨hr.dp, hr.un⟩
    have go := G.run (X.suite a ((a, oe) :: pn)).A X.stack s1 H1 ⟨[.ref a], []⟩ (a, oe) C Q room hot pok I1.env0 hbind hz.1 hz.2.1 (by
      rw [hF]
      intro v H' B' ce
      have hv : v = .str t := by
        have r := ce.ret
        cases r; rfl
      subst hv
      exact hQ H' fun b o hb => ce.frm b o hb fun j q => (by cases q))
    apply wpAny_call
    refine codeAny_mono go ?_
    intro res s' hq
    match res, hq with
    | .error e, hq =>
      obtain ⟨_, _, _, _, _, _, _, _, _, _, _, _, z⟩ := hq
      exact z.elim
    | .ok (.ret u), hq => exact I1.after hq
    | .ok .next, hq => exact hq.elim
    | .ok .brk, hq => exact hq.elim
    | .ok .cont, hq => exact hq.elim
theorem takes_len {Wd : WX} (tk : L2N.Takes X Wd) : L2N.Takes X (fun cls d _ H => ∀ σ : L2.St, σ.length = X.N.length → Wd cls d σ H) := by
  rintro u s' ⟨a, B, sI, pins, σ, H, cls, d, e, I, nb, up, sky, na, os, ag, h⟩
  exact tk u s' ⟨a, B, sI, pins, σ, H, cls, d, e, I, nb, up, sky, na, os, ag, h σ I.len⟩
theorem ds_tryE {k i : Nat} {cx n fx : Str} {C0 : Addr} {FE : Addr → Addr → FSem} {errs : Str → Option Str} {body : List Stmt} {f : CS} {xp np np2 cpos rpos hpos pos : Pos} (R : Rdy X W k) (hio : p.io = none) (hB : Sub p.B0 p.H0)
    (hs : X.stack = X.env :: X.outer) (hf : X.env.frame = some X.env.locals) (hN : X.N.Nodup) (hi : X.N[i]? = some n) (hln : X.env.kindOf n = some .local) (hv : Vis X.env.scope n) (hc : Names X cx (.ref C0)) (c : CtrE X.prog X.w X.K X.mg X.base k fx FE) (hg : Gl X fx) (ct : Caught X.K X.mg C0 FE errs)
    (hb : ∀ (pn : List (Addr × Obj)) (xe : Value → Shared → Prop) (W' : Wx), Rdy (X.tr pn xe) W' k → PassesOwn (model X.prog X.w) X.A X.env xe → DSs (X.tr pn xe) p W' body f)
    (hdb : (fx == ("__debug__" : Str)) = false := by decide) (hd : (n == ("__debug__" : Str)) = false := by decide) (hcd : (n == ("__classdict__" : Str)) = false := by decide)
    (he : starEach [Expr.Name n np2] X.env = (false, eval (.Name n np2) X.env) :: starEach [] X.env := by rfl) (hpl : (backTo cpos (starEach [] X.env)).any (·.1) = false := by rfl) :
    DS X p W (.Try body [.ExceptHandler (some (.Name cx np)) (some n) [.Return (some (.Call (.Name fx xp) [.Name n np2] [] cpos)) rpos] hpos] [] [] pos) (sTry errs f) := by
  obtain ⟨E, tk, hE⟩ := R.okx
  refine ps_imp (L2N.ps_try_as (i := i) (c := .ref C0) (Wout := fun cls d _ H => E cls d H) (ts := fun a cls d => tRet (tCallE i FE a cls d))
    (tb := fun Wd => tS X p (fun c H' => ∀ C, X.mg c = some (.ref C) → ∀ σ : L2.St, σ.length = X.N.length → Wd (.ref C) none σ H') f) hs hf hN hi hln hc tk ?_ ?_) ?_
  · intro Wd pn xe tkd hp
    refine hb pn xe _ ⟨R.room, R.gd, _, takes_len tkd, ?_⟩ hp
    intro c C H' hC h
    exact h C hC
  · intro a oe cls d pn hz hfl
    exact pss_one (ps_ret (pe_callE R.room c hg hi hv hz hfl hdb hd hcd he hpl))
  · rintro D σ H ⟨env, B, E0, h⟩
    refine ⟨env, B, E0, ?_⟩
    unfold sTry at h
    cases e : f env with
    | stuck => rw [e] at h; exact h
    | ok r => rw [e] at h; exact h
    | exc c0 =>
      rw [e] at h
      dsimp only at h
      cases ht : errs c0 with
      | none => rw [ht] at h; exact h.elim
      | some t =>
        rw [ht] at h
        intro H' hfr C hC σ' hl
        obtain ⟨h1, h2⟩ := ct.ok c0 t ht C hC
        refine ⟨true, h1, fun _ a ha => ⟨?_, ha, C, rfl, rfl, t, h2 a, fun H'' hsub => ?_⟩, fun z => by cases z⟩
        · have : i < σ'.length := by rw [hl]; exact (List.getElem?_eq_some_iff.mp hi).1
          exact List.getElem?_set_self this
        · have keep : ∀ b o, p.H0 b = some o → H'' b = some o := fun b o hb => hsub b o (hfr b o hb fun j q => by rw [hio] at q; cases q)
          refine h (.str t) [] H'' p.B0 ⟨fun b o q => keep b o (hB b o q), Sub.rfl', fun _ _ q => .inl q, fun b o q _ => keep b o q, fun j b q => (by rw [hio] at q; cases q), rfl, ?_, ?_, ?_, ?_⟩ (.str t)
          · intro j d q; simp at q
          · intro j d q; simp at q
          · intro j d q; simp at q
          · rintro j j' b ⟨q, _⟩ _; simp at q
end
end DL

set_option Elab.async false
set_option linter.all false
set_option maxRecDepth 100000
set_option maxHeartbeats 4000000
namespace DL
open PySem PySem.Spec PyProof.Rows L2

theorem Rdy.blk {X : Cx} {W : Wx} {k : Nat} (R : Rdy X W k) {scope : Scope} {s : Shared} {H : Hp} {C : Addr} {cl : List (Str × Addr)} {fp : List Addr} : Rdy (BlkX X scope s H C cl fp) W0 k := ⟨R.room, R.gd, okx_never⟩
theorem Rdy.u65 {X : Cx} {W : Wx} {k : Nat} (R : Rdy X W k) : X.A.units + 65 < cLine := by have := R.room.un; omega
theorem Rdy.u1 {X : Cx} {W : Wx} {k : Nat} (R : Rdy X W k) : X.A.units + 1 < cLine := by have := R.room.un; omega
/-- what a def's body stands in -/
theorem rdy_of {P : Program} {w : World} {K : Fg} {mg : MG} {base : Heap} {N : List Str} {qual : Str} {scope : Scope} {f : Addr} {cd : Value} {A : Around} {outer : List PySem.Env} {s : Shared} {H : Hp} {E : XK} {k : Nat} (hg : A.guards = some []) (hr : Room k (A.deeper (envOfC qual scope s.heap.objs.size f cd))) :
    Rdy (cxOf (L2N.CX P w) P w K mg base N qual scope f cd A outer s H E) (WE mg E) k := ⟨hr, hg, E, L2N.takes_of rfl rfl rfl rfl, fun c C H' hC h => h C hC⟩
def visB (sc : Scope) (x : Str) : Bool := match sc.names.lookup x with
  | some .local => true
  | some .cell => true
  | some .free => true
  | _ => false
theorem vis_ok {sc : Scope} {x : Str} (h : visB sc x = true) : Vis sc x := by
  unfold visB at h
  split at h
  · rename_i e; exact .inl e
  · rename_i e; exact .inr (.inl e)
  · rename_i e; exact .inr (.inr e)
  · cases h
def locB (sc : Scope) (x : Str) : Bool := match sc.names.lookup x with
  | some .local => true
  | some .cell => true
  | _ => false
theorem loc_ok {sc : Scope} {x : Str} (h : locB sc x = true) : Loc sc x := by
  unfold locB at h
  split at h
  · rename_i e; exact .inl e
  · rename_i e; exact .inr e
  · cases h
def fnB (X : Cx) (x : Str) : Bool := X.fn x || (match X.env.scope.names.lookup x with
  | some .local => true
  | _ => false)
theorem fn_ok {X : Cx} {x : Str} (h : fnB X x = true) : X.fn x = true ∨ X.env.scope.names.lookup x = some .local := by
  unfold fnB at h
  rcases Bool.or_eq_true_iff.mp h with h | h
  · exact .inl h
  · right
    split at h
    · assumption
    · cases h
section
variable {X : Cx} {p : FP} {W : Wx} {k : Nat} {a b c e : Expr} {es : List Expr} {pos xp : Pos} {x : Str} {fa fb fc : CB} {as : CA} {f g : CE}
theorem gV (i : Nat) (hN : X.N[i]? = some x := by kernel_rfl) (hv : visB X.env.scope x = true := by kernel_rfl) (hd : (x == ("__debug__" : Str)) = false := by kernel_rfl) (hcd : (x == ("__classdict__" : Str)) = false := by kernel_rfl) : PE X (.Name x xp) (tVar i) := pe_var hN (vis_ok hv) hd hcd
theorem bV (i : Nat) (hN : X.N[i]? = some x := by kernel_rfl) (hv : visB X.env.scope x = true := by kernel_rfl) (hd : (x == ("__debug__" : Str)) = false := by kernel_rfl) (hcd : (x == ("__classdict__" : Str)) = false := by kernel_rfl) : DB X p W (.Name x xp) (oVar i) := db_var (gV i hN hv hd hcd)
theorem eV (i : Nat) (hN : X.N[i]? = some x := by kernel_rfl) (hv : visB X.env.scope x = true := by kernel_rfl) (hd : (x == ("__debug__" : Str)) = false := by kernel_rfl) (hcd : (x == ("__classdict__" : Str)) = false := by kernel_rfl) : DE X p W (.Name x xp) (cVar i) := de_var (gV i hN hv hd hcd)
theorem nV (i : Nat) (nd : X.N.Nodup) (hN : X.N[i]? = some x := by kernel_rfl) (hl : locB X.env.scope x = true := by kernel_rfl) (hf : fnB X x = true := by kernel_rfl) : DG X p (.Name x xp) [i] (gN i) := dg_name (pg_name nd hN (loc_ok hl) (fn_ok hf))
/-- a whole number of the module -/
theorem eI {i : Int} (hm : ∃ t, X.mg x = some (.int i t)) (hg : X.env.kindOf x = some .globalImplicit := by kernel_rfl) (hd : (x == ("__debug__" : Str)) = false := by kernel_rfl) : DE X p W (.Name x xp) (cC (.int i)) := by
  obtain ⟨t, hm⟩ := hm
  exact de_const (v := .int i) (pe_glob hg hm ⟨t, rfl⟩ hd) fun _ => .int i
theorem eF (hm : ∃ a, X.mg x = some (.ref a)) (hg : X.env.kindOf x = some .globalImplicit := by kernel_rfl) (hd : (x == ("__debug__" : Str)) = false := by kernel_rfl) : DE X p W (.Name x xp) (cC (.fn x)) := by
  obtain ⟨a, hm⟩ := hm
  exact de_fn hg hm hd
/-- a tuple of the module -/
theorem eK {ds : List D} (hm : ∃ a vs, X.mg x = some (.ref a) ∧ (∃ (o : Obj) (its : Array Value) (n : Nat), X.K.lookup a = some o ∧ o.cls = .type "tuple" ∧ o.data = .seq its n ∧ its.size ≤ sizeLine ∧ Vals vs its.toList) ∧ RepL X.K X.mg (fun _ => none) vs ds) (hg : X.env.kindOf x = some .globalImplicit := by kernel_rfl) (hd : (x == ("__debug__" : Str)) = false := by kernel_rfl) : DE X p W (.Name x xp) (cC (.ktup ds)) := by
  obtain ⟨a, vs, hm, hk, hr⟩ := hm
  exact de_const (v := .ref a) (pe_glob hg hm rfl hd) fun B => .ktup (.inr hk) (hr.mono fun _ _ h => by cases h)
theorem xAdd (ha : DB X p W a fa) (hb : DB X p W b fb) : DE X p W (.BinOp a .Add b pos) (c2 addD fa fb) := de_bin op_addX vr_add ha hb
theorem xSub (ha : DB X p W a fa) (hb : DB X p W b fb) : DE X p W (.BinOp a .Sub b pos) (c2 subD fa fb) := de_bin op_sub vr_sub ha hb
theorem xMul (ha : DB X p W a fa) (hb : DB X p W b fb) : DE X p W (.BinOp a .Mult b pos) (c2 mulD fa fb) := de_bin op_mulX vr_mul ha hb
theorem xDiv (ha : DB X p W a fa) (hb : DB X p W b fb) : DE X p W (.BinOp a .FloorDiv b pos) (c2 fdivD fa fb) := de_bin op_fdiv vr_fdiv ha hb
theorem xMod (ha : DB X p W a fa) (hb : DB X p W b fb) : DE X p W (.BinOp a .Mod b pos) (c2 modD fa fb) := de_bin op_mod vr_mod ha hb
theorem xPow (ha : DB X p W a fa) (hb : DB X p W b fb) : DE X p W (.BinOp a .Pow b pos) (c2 powD fa fb) := de_bin op_pow vr_pow ha hb
theorem xShl (ha : DB X p W a fa) (hb : DB X p W b fb) : DE X p W (.BinOp a .LShift b pos) (c2 shlD fa fb) := de_bin op_shl vr_shl ha hb
theorem xShr (ha : DB X p W a fa) (hb : DB X p W b fb) : DE X p W (.BinOp a .RShift b pos) (c2 shrD fa fb) := de_bin op_shr vr_shr ha hb
theorem xBAnd (ha : DB X p W a fa) (hb : DB X p W b fb) : DE X p W (.BinOp a .BitAnd b pos) (c2 (bitD Builtin.bitAnd) fa fb) := de_bin op_and (vr_bit _) ha hb
theorem xBOr (ha : DB X p W a fa) (hb : DB X p W b fb) : DE X p W (.BinOp a .BitOr b pos) (c2 (bitD Builtin.bitOr) fa fb) := de_bin op_or (vr_bit _) ha hb
theorem xBXor (ha : DB X p W a fa) (hb : DB X p W b fb) : DE X p W (.BinOp a .BitXor b pos) (c2 (bitD Builtin.bitXor) fa fb) := de_bin op_xor (vr_bit _) ha hb
theorem xNeg (ha : DB X p W a fa) : DE X p W (.UnaryOp .USub a pos) (c1 negD fa) := de_un un_neg vr_neg ha
theorem Rdy.u64 {X : Cx} {W : Wx} {k : Nat} (R : Rdy X W k) : X.A.units + 64 < cLine := by have := R.room.un; omega
theorem xEq (U : X.A.units + 65 < cLine) (ha : DB X p W a fa) (hb : DB X p W b fb) : DE X p W (.Compare a [.Eq] [b] pos) (c2 (eqD false) fa fb) := de_cmp (op_eqX (by omega)) vr_eq ha hb (nomark _)
theorem xNe (U : X.A.units + 65 < cLine) (ha : DB X p W a fa) (hb : DB X p W b fb) : DE X p W (.Compare a [.NotEq] [b] pos) (c2 (eqD true) fa fb) := de_cmp (op_neX (by omega)) vr_ne ha hb (nomark _)
theorem xLt (ha : DB X p W a fa) (hb : DB X p W b fb) : DE X p W (.Compare a [.Lt] [b] pos) (c2 ltD fa fb) := de_cmp op_lt (vr_cmp _) ha hb (nomark _)
theorem xLe (ha : DB X p W a fa) (hb : DB X p W b fb) : DE X p W (.Compare a [.LtE] [b] pos) (c2 leD fa fb) := de_cmp op_le (vr_cmp _) ha hb (nomark _)
theorem xGt (ha : DB X p W a fa) (hb : DB X p W b fb) : DE X p W (.Compare a [.Gt] [b] pos) (c2 gtD fa fb) := de_cmp op_gt (vr_cmp _) ha hb (nomark _)
theorem xGe (ha : DB X p W a fa) (hb : DB X p W b fb) : DE X p W (.Compare a [.GtE] [b] pos) (c2 geD fa fb) := de_cmp op_ge (vr_cmp _) ha hb (nomark _)
theorem xIs (ha : DB X p W a fa) (hb : DB X p W b fb) : DE X p W (.Compare a [.Is] [b] pos) (c2 (isND false) fa fb) := de_cmp op_isN vr_isN ha hb (nomark _)
theorem xNotIs (ha : DB X p W a fa) (hb : DB X p W b fb) : DE X p W (.Compare a [.IsNot] [b] pos) (c2 (isND true) fa fb) := de_cmp op_notN vr_notN ha hb (nomark _)
theorem xIn (U : X.A.units + 65 < cLine) (ha : DB X p W a fa) (hb : DB X p W b fb) (hm : behindInMarks .In b = false := by with_unfolding_all rfl) : DE X p W (.Compare a [.In] [b] pos) (c2 (inD false) fa fb) := de_cmp (op_inX U) (vr_in false) ha hb hm
theorem xNotIn (U : X.A.units + 65 < cLine) (ha : DB X p W a fa) (hb : DB X p W b fb) (hm : behindInMarks .NotIn b = false := by with_unfolding_all rfl) : DE X p W (.Compare a [.NotIn] [b] pos) (c2 (inD true) fa fb) := de_cmp (op_notInX U) (vr_in true) ha hb hm
theorem xIx (U : X.A.units + 65 < cLine) (ha : DB X p W a fa) (hb : DB X p W b fb) (hs : PlainIx b := by exact fun _ _ => rfl) : DE X p W (.Subscript a b pos) (c2 ixD fa fb) := de_ix (ix_any (by omega)) vr_ix ha hb hs
theorem tEq (U : X.A.units + 65 < cLine) (ha : DB X p W a fa) (hb : DB X p W b fb) : DT X p W (.Compare a [.Eq] [b] pos) (tOf (c2 (eqD false) fa fb)) := dt_cmp (op_eqX (by omega)) vr_eq ha hb (nomark _)
theorem tNe (U : X.A.units + 65 < cLine) (ha : DB X p W a fa) (hb : DB X p W b fb) : DT X p W (.Compare a [.NotEq] [b] pos) (tOf (c2 (eqD true) fa fb)) := dt_cmp (op_neX (by omega)) vr_ne ha hb (nomark _)
theorem tLt (ha : DB X p W a fa) (hb : DB X p W b fb) : DT X p W (.Compare a [.Lt] [b] pos) (tOf (c2 ltD fa fb)) := dt_cmp op_lt (vr_cmp _) ha hb (nomark _)
theorem tLe (ha : DB X p W a fa) (hb : DB X p W b fb) : DT X p W (.Compare a [.LtE] [b] pos) (tOf (c2 leD fa fb)) := dt_cmp op_le (vr_cmp _) ha hb (nomark _)
theorem tGt (ha : DB X p W a fa) (hb : DB X p W b fb) : DT X p W (.Compare a [.Gt] [b] pos) (tOf (c2 gtD fa fb)) := dt_cmp op_gt (vr_cmp _) ha hb (nomark _)
theorem tGe (ha : DB X p W a fa) (hb : DB X p W b fb) : DT X p W (.Compare a [.GtE] [b] pos) (tOf (c2 geD fa fb)) := dt_cmp op_ge (vr_cmp _) ha hb (nomark _)
theorem tIs (ha : DB X p W a fa) (hb : DB X p W b fb) : DT X p W (.Compare a [.Is] [b] pos) (tOf (c2 (isND false) fa fb)) := dt_cmp op_isN vr_isN ha hb (nomark _)
theorem tNotIs (ha : DB X p W a fa) (hb : DB X p W b fb) : DT X p W (.Compare a [.IsNot] [b] pos) (tOf (c2 (isND true) fa fb)) := dt_cmp op_notN vr_notN ha hb (nomark _)
theorem tIn (U : X.A.units + 65 < cLine) (ha : DB X p W a fa) (hb : DB X p W b fb) (hm : behindInMarks .In b = false := by with_unfolding_all rfl) : DT X p W (.Compare a [.In] [b] pos) (tOf (c2 (inD false) fa fb)) := dt_cmp (op_inX U) (vr_in false) ha hb hm
theorem tNotIn (U : X.A.units + 65 < cLine) (ha : DB X p W a fa) (hb : DB X p W b fb) (hm : behindInMarks .NotIn b = false := by with_unfolding_all rfl) : DT X p W (.Compare a [.NotIn] [b] pos) (tOf (c2 (inD true) fa fb)) := dt_cmp (op_notInX U) (vr_in true) ha hb hm
theorem xLeLt (ha : DB X p W a fa) (hb : DB X p W b fb) (hc : DB X p W c fc) (hm : lastMarks [.LtE, .Lt] [b, c] = false := by with_unfolding_all rfl) : DE X p W (.Compare a [.LtE, .Lt] [b, c] pos) (cCh leD ltD fa fb fc) := de_chain op_le (vr_cmp _) op_lt (vr_cmp _) ha hb hc hm
theorem tLeLt (ha : DB X p W a fa) (hb : DB X p W b fb) (hc : DB X p W c fc) (hm : lastMarks [.LtE, .Lt] [b, c] = false := by with_unfolding_all rfl) : DT X p W (.Compare a [.LtE, .Lt] [b, c] pos) (tOf (cCh leD ltD fa fb fc)) := dt_chain op_le (vr_cmp _) op_lt (vr_cmp _) ha hb hc hm
theorem xLeLe (ha : DB X p W a fa) (hb : DB X p W b fb) (hc : DB X p W c fc) (hm : lastMarks [.LtE, .LtE] [b, c] = false := by with_unfolding_all rfl) : DE X p W (.Compare a [.LtE, .LtE] [b, c] pos) (cCh leD leD fa fb fc) := de_chain op_le (vr_cmp _) op_le (vr_cmp _) ha hb hc hm
theorem tLeLe (ha : DB X p W a fa) (hb : DB X p W b fb) (hc : DB X p W c fc) (hm : lastMarks [.LtE, .LtE] [b, c] = false := by with_unfolding_all rfl) : DT X p W (.Compare a [.LtE, .LtE] [b, c] pos) (tOf (cCh leD leD fa fb fc)) := dt_chain op_le (vr_cmp _) op_le (vr_cmp _) ha hb hc hm
theorem xLtLe (ha : DB X p W a fa) (hb : DB X p W b fb) (hc : DB X p W c fc) (hm : lastMarks [.Lt, .LtE] [b, c] = false := by with_unfolding_all rfl) : DE X p W (.Compare a [.Lt, .LtE] [b, c] pos) (cCh ltD leD fa fb fc) := de_chain op_lt (vr_cmp _) op_le (vr_cmp _) ha hb hc hm
theorem tLtLe (ha : DB X p W a fa) (hb : DB X p W b fb) (hc : DB X p W c fc) (hm : lastMarks [.Lt, .LtE] [b, c] = false := by with_unfolding_all rfl) : DT X p W (.Compare a [.Lt, .LtE] [b, c] pos) (tOf (cCh ltD leD fa fb fc)) := dt_chain op_lt (vr_cmp _) op_le (vr_cmp _) ha hb hc hm
theorem xLtLt (ha : DB X p W a fa) (hb : DB X p W b fb) (hc : DB X p W c fc) (hm : lastMarks [.Lt, .Lt] [b, c] = false := by with_unfolding_all rfl) : DE X p W (.Compare a [.Lt, .Lt] [b, c] pos) (cCh ltD ltD fa fb fc) := de_chain op_lt (vr_cmp _) op_lt (vr_cmp _) ha hb hc hm
theorem tLtLt (ha : DB X p W a fa) (hb : DB X p W b fb) (hc : DB X p W c fc) (hm : lastMarks [.Lt, .Lt] [b, c] = false := by with_unfolding_all rfl) : DT X p W (.Compare a [.Lt, .Lt] [b, c] pos) (tOf (cCh ltD ltD fa fb fc)) := dt_chain op_lt (vr_cmp _) op_lt (vr_cmp _) ha hb hc hm
theorem kLen (hm : X.mg "len" = none) (ha : DA X p W (e :: es) as) (hg : X.env.kindOf "len" = some .globalImplicit := by kernel_rfl) (he : starEach (e :: es) X.env = (false, eval e X.env) :: starEach es X.env := by rfl) (hpl : (backTo pos (starEach es X.env)).any (·.1) = false := by rfl) : DE X p W (.Call (.Name "len" xp) (e :: es) [] pos) (cN lenD as) :=
  de_callB call_lenX vr_len hg hm (by kernel_rfl) ha (by decide) (by decide) he hpl
theorem kAbs (hm : X.mg "abs" = none) (ha : DA X p W (e :: es) as) (hg : X.env.kindOf "abs" = some .globalImplicit := by kernel_rfl) (he : starEach (e :: es) X.env = (false, eval e X.env) :: starEach es X.env := by rfl) (hpl : (backTo pos (starEach es X.env)).any (·.1) = false := by rfl) : DE X p W (.Call (.Name "abs" xp) (e :: es) [] pos) (cN absD as) :=
  de_callB call_abs vr_abs hg hm (by kernel_rfl) ha (by decide) (by decide) he hpl
theorem kInt (hm : X.mg "int" = none) (ha : DA X p W (e :: es) as) (hg : X.env.kindOf "int" = some .globalImplicit := by kernel_rfl) (he : starEach (e :: es) X.env = (false, eval e X.env) :: starEach es X.env := by rfl) (hpl : (backTo pos (starEach es X.env)).any (·.1) = false := by rfl) : DE X p W (.Call (.Name "int" xp) (e :: es) [] pos) (cN intD as) :=
  de_callTy call_int1 vr_int hg hm (by kernel_rfl) ha (by decide) (by decide) he hpl
theorem kStr (hm : X.mg "str" = none) (ha : DA X p W (e :: es) as) (hg : X.env.kindOf "str" = some .globalImplicit := by kernel_rfl) (he : starEach (e :: es) X.env = (false, eval e X.env) :: starEach es X.env := by rfl) (hpl : (backTo pos (starEach es X.env)).any (·.1) = false := by rfl) : DE X p W (.Call (.Name "str" xp) (e :: es) [] pos) (cN strD as) :=
  de_callTy call_str_int vr_str hg hm (by kernel_rfl) ha (by decide) (by decide) he hpl
theorem kTuple (hm : X.mg "tuple" = none) (ha : DA X p W (e :: es) as) (hg : X.env.kindOf "tuple" = some .globalImplicit := by kernel_rfl) (he : starEach (e :: es) X.env = (false, eval e X.env) :: starEach es X.env := by rfl) (hpl : (backTo pos (starEach es X.env)).any (·.1) = false := by rfl) : DE X p W (.Call (.Name "tuple" xp) (e :: es) [] pos) (cN tupleD as) :=
  de_callTy call_tuple_of vr_tuple hg hm (by kernel_rfl) ha (by decide) (by decide) he hpl
theorem kList (hm : X.mg "list" = none) (ha : DA X p W (e :: es) as) (hg : X.env.kindOf "list" = some .globalImplicit := by kernel_rfl) (he : starEach (e :: es) X.env = (false, eval e X.env) :: starEach es X.env := by rfl) (hpl : (backTo pos (starEach es X.env)).any (·.1) = false := by rfl) : DE X p W (.Call (.Name "list" xp) (e :: es) [] pos) (cN listD as) :=
  de_callTy call_list_of vr_list hg hm (by kernel_rfl) ha (by decide) (by decide) he hpl
theorem kSum (hm : X.mg "sum" = none) (ha : DA X p W (e :: es) as) (hc : X.calm = true := by kernel_rfl) (hg : X.env.kindOf "sum" = some .globalImplicit := by kernel_rfl) (he : starEach (e :: es) X.env = (false, eval e X.env) :: starEach es X.env := by rfl) (hpl : (backTo pos (starEach es X.env)).any (·.1) = false := by rfl) : DE X p W (.Call (.Name "sum" xp) (e :: es) [] pos) (cN sumD as) :=
  de_callB (cr_sumX hc) vr_sum hg hm (by kernel_rfl) ha (by decide) (by decide) he hpl
theorem kAny (hm : X.mg "any" = none) (ha : DA X p W (e :: es) as) (hc : X.calm = true := by kernel_rfl) (hg : X.env.kindOf "any" = some .globalImplicit := by kernel_rfl) (he : starEach (e :: es) X.env = (false, eval e X.env) :: starEach es X.env := by rfl) (hpl : (backTo pos (starEach es X.env)).any (·.1) = false := by rfl) : DE X p W (.Call (.Name "any" xp) (e :: es) [] pos) (cN anyD as) :=
  de_callB (cr_any hc) vr_any hg hm (by kernel_rfl) ha (by decide) (by decide) he hpl
theorem kAll (hm : X.mg "all" = none) (ha : DA X p W (e :: es) as) (hc : X.calm = true := by kernel_rfl) (hg : X.env.kindOf "all" = some .globalImplicit := by kernel_rfl) (he : starEach (e :: es) X.env = (false, eval e X.env) :: starEach es X.env := by rfl) (hpl : (backTo pos (starEach es X.env)).any (·.1) = false := by rfl) : DE X p W (.Call (.Name "all" xp) (e :: es) [] pos) (cN allD as) :=
  de_callB (cr_all hc) vr_all hg hm (by kernel_rfl) ha (by decide) (by decide) he hpl
theorem kMax (hm : X.mg "max" = none) (ha : DA X p W (e :: es) as) (hc : X.calm = true := by kernel_rfl) (hg : X.env.kindOf "max" = some .globalImplicit := by kernel_rfl) (he : starEach (e :: es) X.env = (false, eval e X.env) :: starEach es X.env := by rfl) (hpl : (backTo pos (starEach es X.env)).any (·.1) = false := by rfl) : DE X p W (.Call (.Name "max" xp) (e :: es) [] pos) (cN maxD as) :=
  de_callB (cr_maxX hc) vr_max hg hm (by kernel_rfl) ha (by decide) (by decide) he hpl
theorem kMin (hm : X.mg "min" = none) (ha : DA X p W (e :: es) as) (hc : X.calm = true := by kernel_rfl) (hg : X.env.kindOf "min" = some .globalImplicit := by kernel_rfl) (he : starEach (e :: es) X.env = (false, eval e X.env) :: starEach es X.env := by rfl) (hpl : (backTo pos (starEach es X.env)).any (·.1) = false := by rfl) : DE X p W (.Call (.Name "min" xp) (e :: es) [] pos) (cN minD as) :=
  de_callB (cr_minX hc) vr_min hg hm (by kernel_rfl) ha (by decide) (by decide) he hpl
theorem kRepr (R : Rdy X W k) (hm : X.mg "repr" = none) (ha : DA X p W (e :: es) as) (hg : X.env.kindOf "repr" = some .globalImplicit := by kernel_rfl) (he : starEach (e :: es) X.env = (false, eval e X.env) :: starEach es X.env := by rfl) (hpl : (backTo pos (starEach es X.env)).any (·.1) = false := by rfl) : DE X p W (.Call (.Name "repr" xp) (e :: es) [] pos) (cN reprD as) :=
  de_callB (cr_reprD R.gd R.u65) vr_repr hg hm (by kernel_rfl) ha (by decide) (by decide) he hpl
end
end DL

set_option Elab.async false
set_option linter.all false
set_option maxRecDepth 100000
set_option maxHeartbeats 4000000
namespace DL
open PySem PySem.Spec PyProof.Rows L2

abbrev CRg := Env → R ((Int × Int) × Env)
def cRg1 (a : CB) : CRg := fun env => (a env).bind fun r => match rd r.2 r.1 with
  | some (.int j) => .ok ((0, j), r.2)
  | _ => .stuck
def cRg2 (a b : CB) : CRg := fun env => (a env).bind fun r => (b r.2).bind fun q => match rd q.2 r.1, rd q.2 q.1 with
  | some (.int i), some (.int j) => .ok ((i, j), q.2)
  | _, _ => .stuck
def rgOkB (a b : Int) : Bool := smallI a && smallI b && decide ((b - a).toNat ≤ 16777216)
def cTupRg (f : CRg) : CE := fun env => (f env).bind fun r => match rgOkB r.1.1 r.1.2 with
  | true => .ok (false, .tup (rng r.1.1 r.1.2), r.2)
  | false => .stuck
def cLstRg (f : CRg) : CE := fun env => (f env).bind fun r => match rgOkB r.1.1 r.1.2 with
  | true => .ok (true, .lst (rng r.1.1 r.1.2), r.2)
  | false => .stuck
def tRgD (X : Cx) (p : FP) (W : Wx) (f : CRg) : L2.St → Hp → (Int → Int → Hp → Prop) → Prop := fun σ H Q => ∃ env B, ER X.K X.mg p H B σ env ∧ Goes p W (f env) fun r =>
  ∀ H' B', ER X.K X.mg p H' B' σ r.2 → Fx σ env H B H' B' r.2 → Q r.1.1 r.1.2 H'
section
variable {X : Cx} {p : FP} {W : Wx} {a b e : Expr} {fa fb : CB} {f : CRg} {pos xp : Pos}
theorem dr_1 (hm : X.mg "range" = none) (ha : DB X p W a fa) (hg : X.env.kindOf "range" = some .globalImplicit := by kernel_rfl) (na : starEach [a] X.env = (false, eval a X.env) :: starEach [] X.env := by rfl) : PRg X (.Call (.Name "range" xp) [a] [] pos) (tRgD X p W (cRg1 fa)) := by
  have h0 := prg_1 (p := xp) (pos := pos) hg hm ha na
  intro pins s σ H Q I h
  refine h0 pins s σ H Q I ?_
  obtain ⟨env, B, E, h⟩ := h
  refine ⟨env, B, E, (Goes.bind h).imp ?_⟩
  rintro ⟨o, e1⟩ h v H1 B1 E1 F1 r1
  dsimp only at h
  split at h
  · rename_i j hj
    exact ⟨j, (E1.rep1 r1 hj).int, h H1 B1 E1 F1⟩
  · exact h.elim
theorem dr_2 (hm : X.mg "range" = none) (ha : DB X p W a fa) (hb : DB X p W b fb) (hg : X.env.kindOf "range" = some .globalImplicit := by kernel_rfl) (na : starEach [a, b] X.env = (false, eval a X.env) :: starEach [b] X.env := by rfl)
    (nb : starEach [b] X.env = (false, eval b X.env) :: starEach [] X.env := by rfl) (hp : (backTo pos (starEach [b] X.env)).any (·.1) = false := by rfl) : PRg X (.Call (.Name "range" xp) [a, b] [] pos) (tRgD X p W (cRg2 fa fb)) := by
  have h0 := prg_2 (p := xp) (pos := pos) hg hm ha hb na nb hp
  intro pins s σ H Q I h
  refine h0 pins s σ H Q I ?_
  obtain ⟨env, B, E, h⟩ := h
  refine ⟨env, B, E, (Goes.bind h).imp ?_⟩
  rintro ⟨o, e1⟩ h v H1 B1 E1 F1 r1
  refine ⟨e1, B1, E1, (Goes.bind h).imp ?_⟩
  rintro ⟨o2, e2⟩ h v2 H2 B2 E2 F2 r2
  dsimp only at h
  split at h
  · rename_i i j hi hj
    exact ⟨i, j, (E2.rep1 (r1.mono F2.base) hi).int, (E2.rep1 r2 hj).int, h H2 B2 E2 (F1.trans F2)⟩
  · exact h.elim
theorem rgOk_of {i j : Int} (h : rgOkB i j = true) : RgOk i j := by
  unfold rgOkB at h
  rw [Bool.and_eq_true, Bool.and_eq_true] at h
  have h1 := smallI_ok h.1.1
  have h2 := smallI_ok h.1.2
  exact ⟨h1.1, h1.2, h2.1, h2.2, of_decide_eq_true h.2⟩
theorem rep_rg {K : Fg} {mg : MG} {B : Hp} {i j : Int} : RepL K mg B (rgV i j) (rng i j) := RepL.map _ fun _ => .int _
theorem de_tupRg (hm : X.mg "tuple" = none) (h : PRg X e (tRgD X p W f)) (hc : X.calm = true := by kernel_rfl) (hg : X.env.kindOf "tuple" = some .globalImplicit := by kernel_rfl) (na : starEach [e] X.env = (false, eval e X.env) :: starEach [] X.env := by rfl) :
    DE X p W (.Call (.Name "tuple" xp) [e] [] pos) (cTupRg f) := by
  refine pe_imp (pe_tupRg hc hg hm h na) ?_
  rintro σ H Q ⟨env, B, E, h⟩
  refine ⟨env, B, E, (Goes.bind h).imp ?_⟩
  rintro ⟨⟨i, j⟩, e1⟩ h H1 B1 E1 F1
  dsimp only at h
  cases ho : rgOkB i j with
  | false => rw [ho] at h; exact h.elim
  | true =>
    rw [ho] at h
    refine ⟨rgOk_of ho, fun q hq => ?_⟩
    have x := Ext.newB E1.sub (o := .tup (rgV i j)) hq
    exact h _ _ _ (E1.ext x) (F1.trans x.fx) (.tup upd_same rep_rg)
theorem de_lstRg (hm : X.mg "list" = none) (h : PRg X e (tRgD X p W f)) (hc : X.calm = true := by kernel_rfl) (hg : X.env.kindOf "list" = some .globalImplicit := by kernel_rfl) (na : starEach [e] X.env = (false, eval e X.env) :: starEach [] X.env := by rfl) :
    DE X p W (.Call (.Name "list" xp) [e] [] pos) (cLstRg f) := by
  refine pe_imp (pe_listRg hc hg hm h na) ?_
  rintro σ H Q ⟨env, B, E, h⟩
  refine ⟨env, B, E, (Goes.bind h).imp ?_⟩
  rintro ⟨⟨i, j⟩, e1⟩ h H1 B1 E1 F1
  dsimp only at h
  cases ho : rgOkB i j with
  | false => rw [ho] at h; exact h.elim
  | true =>
    rw [ho] at h
    refine ⟨rgOk_of ho, fun q hq => ?_⟩
    have x := Ext.newH (B := B1) E1.sub (o := .lst (rgV i j)) hq
    refine h _ _ _ (E1.ext x) (F1.trans x.fx) ⟨q, rfl, ⟨_, upd_same, rep_rg⟩, none_of_sub E1.sub hq, ?_⟩
    cases e : H q with
    | none => rfl
    | some u => exact absurd hq (F1.dom q (by rw [e]; simp))
end
def indexD (dl d : D) : Option D := match dl with
  | .lst ds => if okEq dl && okEq d then ((toPyL ds).findIdx? fun z => PyData.eqv z (toPy d)).map fun (j : Nat) => .int (j : Int) else none
  | _ => none
def cRM (i : Nat) (g : D → D → Option D) (f : CB) : CE := fun env => match rd env (.slot i) with
  | some (.lst _) => (f env).bind fun r => match rd r.2 (.slot i), rd r.2 r.1 with
    | some dl, some d => (R.of (g dl d)).bind fun w => .ok (false, w, r.2)
    | _, _ => .stuck
  | _ => .stuck
section
variable {X : Cx} {p : FP} {W : Wx} {o e : Expr} {f : CB} {apos cpos : Pos}
theorem de_index {i : Nat} {x : Str} {xp : Pos} (U : X.A.units + 65 < cLine) (ho : PE X (.Name x xp) (tVar i)) (he : DB X p W e f)
    (hbase : attributeBase (.Name x xp) "index" X.env (eval (.Name x xp) X.env) = eval (.Name x xp) X.env := by rfl)
    (hfew : ((backTo cpos (starEach (e :: []) X.env)).all (fun x => !x.1) && (backToKw cpos (keywordEach [] X.env)).all (fun x => x.1.isSome)
      && decide ((e :: []).length + ([] : List Keyword).length + (if ([] : List Keyword).isEmpty then 0 else 1) < 30)) = true := by rfl)
    (hline : (apos.endLine == cpos.line) = true := by rfl) (hs : starEach (e :: []) X.env = (false, eval e X.env) :: starEach [] X.env := by rfl) (hplain : (backTo cpos (starEach [] X.env)).any (·.1) = false := by rfl) :
    DE X p W (.Call (.Attribute (.Name x xp) "index" apos) [e] [] cpos) (cRM i indexD f) := by
  refine pe_imp (pe_bm PySem.F.plainAttrs_list PySem.F.slot_list_index PySem.F.type_list_index (mt_indexD U) ho (da_cons he da_nil hs) hbase hfew hline hs hplain) ?_
  rintro σ H Q ⟨env, B, E, h⟩
  unfold cRM at h
  split at h
  · rename_i ds0 h0
    obtain ⟨v0, ev0⟩ := slot_val E h0
    have R0 := E.rep1 (o := .slot i) ev0 h0
    obtain ⟨a, vs0, rfl, q1, _⟩ := R0.lst E.sub
    refine ⟨.ref a, ev0, .inl ⟨rfl, _, SqL.of q1⟩, env, B, E, ?_⟩
    have h := Goes.bind h
    unfold aCons aNil
    cases er : f env with
    | stuck => rw [er] at h; exact h
    | exc c => rw [er] at h; exact h
    | ok r =>
      rw [er] at h
      intro vs H1 B1 E1 F1 rv
      have h : Goes p W (match rd r.2 (.slot i), rd r.2 r.1 with | some dl, some d => (R.of (indexD dl d)).bind fun w => .ok (false, w, r.2) | _, _ => .stuck) _ := h
      split at h
      · rename_i dl d hl hd
        obtain ⟨w, hw, h⟩ := of_bind h
        cases rv with
        | cons r1 rr =>
          cases rr
          have Rl := E1.rep1 (o := .slot i) ev0 hl
          have Rd := E1.rep1 r1 hd
          unfold indexD at hw
          split at hw
          · rename_i ds
            split at hw
            · rename_i hok
              rw [Bool.and_eq_true] at hok
              obtain ⟨j, hj, ej⟩ := Option.map_eq_some_iff.mp hw
              obtain ⟨hlt, hz, hno⟩ := List.findIdx?_eq_some_iff_getElem.mp hj
              have dl1 : Dp X.K H1 (.ref a) (.list (toPyL ds)) := Rl.dp E1.sub (okEq_lay hok.1)
              refine ⟨a, _, toPy d, toPyL ds, j, (toPyL ds)[j], rfl, rfl, dl1, Rd.dp E1.sub (okEq_lay hok.2), hok.1, hok.2, List.getElem?_eq_getElem hlt, hz, fun m z' hm hz' => ?_, ?_⟩
              · obtain ⟨hl', e'⟩ := List.getElem?_eq_some_iff.mp hz'
                have := hno m hm
                rw [e'] at this
                simpa using this
              · subst ej
                exact h _ H1 B1 E1 F1 (.int _)
            · cases hw
          · cases hw
      · exact h.elim
  · exact h.elim
/-- ints that are added in place -/
def addI (x y : D) : Option (Bool × D) := match x, y with
  | .int i, .int j => some (false, .int (i + j))
  | _, _ => none
theorem vr_addI {K : Fg} {mg : MG} : VR2 K mg (rI0 fun i j => .int (i + j)) addI := by
  intro a b m d h x y H B Q s rx ry k
  unfold addI at h
  split at h
  · cases h; exact ⟨_, _, rx.int, ry.int, Rep.res s k (.int _)⟩
  · cases h
theorem passes_cx {P : Program} {w : World} {K : Fg} {mg : MG} {base : Heap} {N : List Str} {qual : Str} {scope : Scope} {f : Addr} {cd : Value} {A : Around} {outer : List PySem.Env} {s : Shared} {H : Hp} {E : XK} :
    PassesOwn (model P w) (A.deeper (envOfC qual scope s.heap.objs.size f cd)) (envOfC qual scope s.heap.objs.size f cd) (cxOf (L2N.CX P w) P w K mg base N qual scope f cd A outer s H E).xe := passes_of (X := cxOf (L2N.CX P w) P w K mg base N qual scope f cd A outer s H E) rfl
theorem io_none {p : FP} (h : p.io.map (·.1) = none) : p.io = none := by
  cases e : p.io with
  | none => rfl
  | some q => rw [e] at h; cases h
end
end DL
namespace DL
open PySem PySem.Spec PyProof.Rows L2
theorem dss_stuck {X : Cx} {p : FP} {W : Wx} {st : List Stmt} : DSs X p W st (fun _ => .stuck) := ⟨fun pins s σ H D I h => by
  obtain ⟨env, B, E, q⟩ := h
  exact q.elim⟩
theorem u65H {k : Nat} {A : Around} (h : L2H.RoomH k A) : A.units + 65 < cLine := by have := h.un; omega
end DL
namespace DL
open PySem PySem.Spec PyProof.Rows L2
theorem gl {X : Cx} {x : Str} (h : X.env.kindOf x = some .globalImplicit) : Gl X x := h
end DL

set_option Elab.async false
set_option linter.all false
set_option maxRecDepth 100000
set_option maxHeartbeats 4000000
namespace DL
open PySem PySem.Spec PyProof.Rows L2

def obsX (n : Nat) (chk : Fg → Bool) (fn : List He.DefD) (g : Addr → Option Obj) : He.AlD :=
  (chk (He.frG g (He.asD g n)) && (He.obsD [] fn (He.frG g (He.asD g n))).1, (He.obsD [] fn (He.frG g (He.asD g n))).2)
theorem obsX_says {chk : Fg → Bool} {fn : List He.DefD} {K : Fg} (e : (chk K && (He.obsD [] fn K).1, (He.obsD [] fn K).2) = He.valD fn) : chk K = true ∧ He.SaysD [] fn K := by
  have e1 : (chk K && (He.obsD [] fn K).1) = true := (Prod.ext_iff.mp e).1
  have e2 : (He.obsD [] fn K).2 = (He.valD fn).2 := (Prod.ext_iff.mp e).2
  rw [Bool.and_eq_true] at e1
  exact ⟨e1.1, Prod.ext e1.2 e2⟩
def hookX (n : Nat) (chk : Fg → Bool) (fn : List He.DefD) : PySem.W.Hook where
  α := He.AlD
  obs := fun s => obsX n chk fn s.heap.get?
  val := fun _ => He.valD fn
  says := fun _ h => ∃ K : Fg, K.In h ∧ chk K = true ∧ He.SaysD [] fn K
  of := fun _ _ e => ⟨_, He.frG_in, obsX_says e⟩
  keeps := fun _ _ _ ⟨K, hK, c⟩ k => ⟨K, PySem.W.Frag.In.keeps hK k, c⟩
theorem obsX_eq {n : Nat} {chk : Fg → Bool} {fn : List He.DefD} {g : Addr → Option Obj} {s : Shared} (h : ∀ a, g a = s.heap.get? a) : obsX n chk fn g = (hookX n chk fn).obs s := by
  obtain rfl : g = s.heap.get? := funext h
  rfl
theorem law_callG {P : Program} {w : World} {K : Fg} {mg mb : MG} {k : Nat} {fa a : Addr} {fd : FuncData} {x : Str} {sp : Sp} {z : Shared} {vs : List Value} {ns : List Int} (Kz : K.In z.heap) (gz : z.heap.Ns mainGlobals mg) (bz : z.heap.Ns builtinsNs mb) (bb : ∀ x : Str, x ≠ "__name__" → mb x = bootBuiltins x)
    (lz : z.heap.NoLimit) (nog : z.gens = #[]) (ha : z.heap.get? a = some { cls := .type "list", data := .seq vs.toArray }) (hi : IntsAre vs ns) (hl : ns.length ≤ sizeLine) (room : Room k callerA)
    (F : ∀ base : Heap, K.In base → base.Ns mainGlobals mg → FnG P w K mg base k fa fd [x] sp) (bind_ : ∀ (s : Shared) (u : Value), BindsTo s fd ⟨[u], []⟩ [(x, u)])
    (hsp : ∀ H : Hp, Only H → SqL K H a (ns.map V.int) → sp [.ref a] H (fun v _ => v = .bl true) fun _ _ _ => False) :
    codeAny (model P w) callerA (.call (.ref fa) ⟨[.ref a], []⟩) (fun r z' => r = .ok (.ret (.bool true)) ∧ OldK z.heap z'.heap ∧ z'.os = z.os ∧ AllBare z'.gens) z := by
  have rel := vals_ints hi
  -- from a heap that tracks the script at most
  have from_ : ∀ H : Hp, Only H → SqL K H a (ns.map V.int) → HOk P w H z.heap → (∀ b, H b ≠ none → b = a) → (H a ≠ none → K.lookup a = none) →
      codeAny (model P w) callerA (.call (.ref fa) ⟨[.ref a], []⟩) (fun r z' => r = .ok (.ret (.bool true)) ∧ OldK z.heap z'.heap ∧ z'.os = z.os ∧ AllBare z'.gens) z := by
    intro H only seq ok one own
    have free_ : ∀ {b : Addr} {o : Obj} {es : Array DictEntry} {ep : Nat}, z.heap.get? b = some o → o.data = .dict es ep → H b = none := by
      intro b o es ep e d
      cases q : H b with
      | none => rfl
      | some u =>
        obtain rfl : b = a := one b (by rw [q]; simp)
        rw [ha] at e
        cases e
        cases (show Data.seq vs.toArray _ = Data.dict es ep from d)
    have ns_ : ∀ {b : Addr} {m : MG}, z.heap.Ns b m → (hidT z.heap H).Ns b m := by
      rintro b m ⟨o, es, ep, e, d, r⟩
      exact ⟨o, es, ep, hidT_get e (free_ e d), d, r⟩
    have Kb : K.In (hidT z.heap H) := by
      intro b o e
      refine hidT_get (Kz b o e) ?_
      cases q : H b with
      | none => rfl
      | some u =>
        obtain rfl : b = a := one b (by rw [q]; simp)
        rw [own (by rw [q]; simp)] at e
        cases e
    have mod_ : Mod K mg (hidT z.heap H) := by
      obtain ⟨mc, l1, l2⟩ := lz
      exact ⟨Kb, ns_ gz, ⟨mb, ns_ bz, bb⟩, ⟨mc, ns_ l1, l2⟩⟩
    have env_ : Env0 P w K mg (hidT z.heap H) callerA [] z H := ⟨rfl, mod_, (fun b o e => of_hidT e), Nat.le_of_eq (hidT_size _ _), trivial, (fun b hb => by cases hb), ok, .of_eq nog⟩
    have go := (F _ Kb (ns_ gz)).run callerA [] z H ⟨[.ref a], []⟩ [.ref a] [.ref a] _ _ rfl room env_ (bind_ z (.ref a)) (.cons rfl .nil) (hsp H only seq)
    refine codeAny_mono go ?_
    intro r z' h
    match r, h with
    | .error e, h =>
      obtain ⟨_, _, _, _, _, _, _, _, _, _, _, _, bad⟩ := h
      exact bad.elim
    | .ok .next, h => exact h.elim
    | .ok .brk, h => exact h.elim
    | .ok .cont, h => exact h.elim
    | .ok (.ret u), h =>
      obtain ⟨v, H', os, bare, un, ok', rv, hv⟩ := h
      obtain rfl : v = .bl true := hv
      obtain rfl : u = Value.bool true := rv
      refine ⟨rfl, OldK.of_keep ?_, os, bare⟩
      intro b o e
      rcases only b with q | ⟨ob, xs, q⟩
      · exact un.keep b o e q (fun m => by cases m) (by simp)
      · have q2 := un.frzs b ob _ q
        have e1 := (ok b _ q).1
        have e2 := (ok' b _ q2).1
        rw [e] at e1
        cases e1
        exact e2
  cases hk : K.lookup a with
  | some o =>
    have e := Kz a o hk
    rw [ha] at e
    cases e
    apply from_ (fun _ => none) (fun _ => Or.inl rfl)
    · exact Or.inr ⟨_, vs.toArray, _, hk, rfl, rfl, rfl, by rw [List.size_toArray, hi.length]; exact hl, by simpa using rel⟩
    · intro b u q
      cases (show (none : Option HO) = some u from q)
    · intro b q; exact absurd rfl q
    · intro q; exact absurd rfl q
  | none =>
    apply from_ (fun b => if b = a then some (.frz { cls := .type "list", data := .seq vs.toArray } (.lst (ns.map V.int))) else none)
    · intro b
      by_cases hb : b = a
      · exact Or.inr ⟨_, _, if_pos hb⟩
      · exact Or.inl (if_neg hb)
    · exact Or.inl (Or.inr ⟨{ cls := .type "list", data := .seq vs.toArray }, if_pos rfl⟩)
    · intro b u q
      by_cases hb : b = a
      · cases (if_pos hb).symm.trans q
        subst hb
        exact ⟨ha, by rw [List.length_map]; exact hl, vs, _, rel, ha⟩
      · cases (if_neg hb).symm.trans q
    · intro b q
      by_cases hb : b = a
      · exact hb
      · exact absurd (if_neg hb) q
    · intro _; exact hk
theorem walk_ofG {l : PySem.W.OpenLaw} {n k : Nat} {q : Program} {loose : List Str} {XP : (Str → Option Value) → Heap → Prop} {YP : World → Heap → Prop} {d : DefRec} {x : Str} (hn : l.most = some n) (hn2 : n ≤ sizeLine) (hdf : d.params.defaults = []) (room : Room k callerA)
    (F : ∀ (w : World) (mg : MG) (fa : Addr) (h : Heap), YP w h → h.Ns mainGlobals mg → mg d.name = some (.ref fa) → ∃ (K : Fg) (fd : FuncData) (sp : Sp), K.In h ∧ (∀ (s : Shared) (u : Value), BindsTo s fd ⟨[u], []⟩ [(x, u)]) ∧
      (∀ (H : Hp) (a : Addr) (ns : List Int), ns.length ≤ n → Only H → SqL K H a (ns.map V.int) → sp [.ref a] H (fun v _ => v = .bl true) fun _ _ _ => False) ∧ ∀ base : Heap, K.In base → base.Ns mainGlobals mg → FnG l.prog w K mg base k fa fd [x] sp) :
    PySem.W.WalkO q loose XP YP l.row.toRowW d [] (fun f vs => PySem.call f vs) := by
  apply Att.attach_call hn hdf
  intro w s0 s1 mg mb fa o pm cd doc a vs ns G Y ho hd hcd hmg hobj hints hlen hg
  obtain ⟨K, fd, sp, KX, hb, hsp, hF⟩ := F w mg fa _ Y G.T.g hmg
  exact law_callG KX G.T.g G.T.b G.T.builtins G.T.nolimit hg hobj hints (Nat.le_trans hlen hn2) room hF hb (fun H hO hS => hsp H a ns hlen hO hS)
/-- the promise of the law, from what it says of data -/
theorem sp_law {K : Fg} {mg : MG} {F : FSem} {n : Nat} (h : ∀ ns : List Int, ns.length ≤ n → ∃ od, F [.scr (ns.map D.int)] = .ok ((false, .bl true), od)) (H : Hp) (a : Addr) (ns : List Int) (hl : ns.length ≤ n) (hS : SqL K H a (ns.map V.int)) :
    spD K mg 1 none F [.ref a] H (fun v _ => v = .bl true) fun _ _ _ => False := by
  obtain ⟨od, e⟩ := h ns hl
  have r : RepL K mg H (ns.map V.int) (ns.map D.int) := RepL.map ns fun i => .int i
  refine ⟨rfl, H, [.scr (ns.map D.int)], none, Sub.rfl', rfl, ⟨rfl, fun j v d h1 h2 => ?_, fun i a q => by cases q⟩, ?_⟩
  · cases j with
    | zero => simp at h1 h2; subst h1; subst h2; exact .inr ⟨fun _ q => (by cases q), .scr hS r⟩
    | succ j => simp at h1
  · rw [e]
    intro v H' B' ce
    have rv := ce.ret
    cases rv
    rfl
end DL

set_option Elab.async false
set_option linter.all false
set_option maxRecDepth 100000
set_option maxHeartbeats 4000000
set_option autoImplicit false
namespace DL
open PySem L2
section
variable {f g : CS} {c d : CE} {a b : CB} {as : CA} {t u : CT} {it : CI} {cm : CM} {lo hi : CP} {env e : Env} {i j : Nat} {x v : D} {o o2 : Op} {os : List Op} {m k : Bool} {ds : List D} {gt : Gt} {own : List Nat} {io : Option Nat} {F : FSem}
def kSeq (g : CS) : Fl × Env → R (Fl × Env) := fun r => match r.1 with | .nx => g r.2 | .bk => .ok (.bk, r.2) | .ct => .ok (.ct, r.2) | .rt m d => .ok (.rt m d, r.2)
@[simp] theorem ev_sSeq : sSeq f g env = (f env).bind (kSeq g) := nr rfl
@[simp] theorem ev_kSeq1 : kSeq g (.nx, e) = g e := nr rfl
@[simp] theorem ev_kSeq2 : kSeq g (.bk, e) = .ok (.bk, e) := nr rfl
@[simp] theorem ev_kSeq3 : kSeq g (.ct, e) = .ok (.ct, e) := nr rfl
@[simp] theorem ev_kSeq4 : kSeq g (.rt m x, e) = .ok (.rt m x, e) := nr rfl
@[simp] theorem ev_sNil : sNil env = .ok (.nx, env) := nr rfl
@[simp] theorem ev_sBrk : sBrk env = .ok (.bk, env) := nr rfl
@[simp] theorem ev_sCnt : sCnt env = .ok (.ct, env) := nr rfl
def kExp : Bool × D × Env → R (Fl × Env) := fun r => .ok (.nx, r.2.2)
@[simp] theorem ev_sExp : sExp c env = (c env).bind kExp := nr rfl
@[simp] theorem ev_kExp : kExp (m, x, e) = .ok (.nx, e) := nr rfl
def kRet : Bool × D × Env → R (Fl × Env) := fun r => .ok (.rt r.1 r.2.1, r.2.2)
@[simp] theorem ev_sRet : sRet c env = (c env).bind kRet := nr rfl
@[simp] theorem ev_kRet : kRet (m, x, e) = .ok (.rt m x, e) := nr rfl
@[simp] theorem ev_sRetN : sRetN env = .ok (.rt false .non, env) := nr rfl
@[simp] theorem ev_sRetV : sRetV i env = match env[i]? with | some (.ow d) => .ok (.rt true d, env.set i .un) | some (.sh d) => .ok (.rt false d, env) | _ => .stuck := nr rfl
def kIf (f g : CS) : Bool × Env → R (Fl × Env) := fun r => match r.1 with | true => f r.2 | false => g r.2
@[simp] theorem ev_sIf : sIf t f g env = (t env).bind (kIf f g) := nr rfl
@[simp] theorem ev_kIf1 : kIf f g (true, e) = f e := nr rfl
@[simp] theorem ev_kIf2 : kIf f g (false, e) = g e := nr rfl
def okS : Option Slot → Bool
  | some (.io _) => false
  | some _ => true
  | none => false
@[simp] theorem ev_okS1 : okS (some .un) = true := rfl
@[simp] theorem ev_okS2 : okS (some (.sh x)) = true := rfl
@[simp] theorem ev_okS3 : okS (some (.ow x)) = true := rfl
@[simp] theorem ev_okS4 : okS (some (.io x)) = false := rfl
@[simp] theorem ev_setSl : setSl i m x env = if okS env[i]? then .ok (.nx, env.set i (if m then .ow x else .sh x)) else .stuck := by
  unfold setSl
  cases env[i]? with
  | none => rfl
  | some s => cases s <;> rfl
def kAsg (i : Nat) : Bool × D × Env → R (Fl × Env) := fun r => match r.2.2[i]? with | some (.io _) => .stuck | some _ => .ok (.nx, r.2.2.set i (if r.1 then .ow r.2.1 else .sh r.2.1)) | none => .stuck
@[simp] theorem ev_sAsg : sAsg i c env = (c env).bind (kAsg i) := nr rfl
@[simp] theorem ev_kAsg : kAsg i (m, x, e) = setSl i m x e := nr rfl
def kNx : Env → R (Fl × Env) := fun e => .ok (.nx, e)
@[simp] theorem ev_kNx : kNx e = .ok (.nx, e) := nr rfl
def kAsgT (gt : Gt) : Bool × D × Env → R (Fl × Env) := fun r => (R.of (gt r.2.1 r.2.2)).bind kNx
@[simp] theorem ev_sAsgT : sAsgT gt c env = (c env).bind (kAsgT gt) := nr rfl
@[simp] theorem ev_kAsgT : kAsgT gt (m, x, e) = (R.of (gt x e)).bind kNx := nr rfl
@[simp] theorem ev_sRaise {n : Str} : sRaise n env = .exc n := nr rfl
def kFor (gt : Gt) (f : CS) : List D × Env → R (Fl × Env) := fun r => forL gt f r.1 r.2
@[simp] theorem ev_sFor : sFor gt it f env = (it env).bind (kFor gt f) := nr rfl
@[simp] theorem ev_kFor : kFor gt f (ds, e) = forL gt f ds e := nr rfl
def kPut2 (i : Nat) (v : D) : Bool × D × Env → R (Fl × Env) := fun q => match own? q.2.2[i]? with | some (io, dl) => (match putD dl q.2.1 v with | some dl' => .ok (.nx, q.2.2.set i (owS io dl')) | none => .stuck) | none => .stuck
def kPut1 (i : Nat) (c : CE) : Bool × D × Env → R (Fl × Env) := fun r => match own? r.2.2[i]? with | some _ => (c r.2.2).bind (kPut2 i r.2.1) | none => .stuck
@[simp] theorem ev_sPut : sPut i c d env = (d env).bind (kPut1 i c) := nr rfl
@[simp] theorem ev_kPut1 : kPut1 i c (m, x, e) = match own? e[i]? with | some _ => (c e).bind (kPut2 i x) | none => .stuck := nr rfl
@[simp] theorem ev_kPut2 : kPut2 i v (m, x, e) = match own? e[i]? with | some (io, dl) => (match putD dl x v with | some dl' => .ok (.nx, e.set i (owS io dl')) | none => .stuck) | none => .stuck := nr rfl
def kAug2 (i : Nat) : Bool × D × Env → R (Fl × Env) := fun q => setSl i q.1 q.2.1 q.2.2
@[simp] theorem ev_kAug2 : kAug2 i (m, x, e) = setSl i m x e := nr rfl
def kAug1 (i : Nat) (h : D → D → Option (Bool × D)) : Op × Env → R (Fl × Env) := fun r => (app2 h (.slot i) r.1 r.2).bind (kAug2 i)
@[simp] theorem ev_kAug1 {h : D → D → Option (Bool × D)} : kAug1 i h (o, e) = (app2 h (.slot i) o e).bind (kAug2 i) := nr rfl
@[simp] theorem ev_sAug {h : D → D → Option (Bool × D)} : sAug i h a env = match rd env (.slot i) with | some _ => (a env).bind (kAug1 i h) | none => .stuck := nr rfl
def kPar2 (j : Nat) (y : Bool × D) : Fl × Env → R (Fl × Env) := fun q => setSl j y.1 y.2 q.2
@[simp] theorem ev_kPar2 {y : Bool × D} {w : Fl} : kPar2 j y (w, e) = setSl j y.1 y.2 e := nr rfl
def kPar (i j : Nat) : List (Bool × D) × Env → R (Fl × Env) := fun r => match r.1 with | [x, y] => (setSl i x.1 x.2 r.2).bind (kPar2 j y) | _ => .stuck
@[simp] theorem ev_kPar {y z : Bool × D} : kPar i j ([y, z], e) = (setSl i y.1 y.2 e).bind (kPar2 j z) := nr rfl
@[simp] theorem ev_sPar : sPar i j cm env = (cm env).bind (kPar i j) := nr rfl
@[simp] theorem ev_mNil : mNil env = .ok ([], env) := nr rfl
def kM2 (m : Bool) (x : D) : List (Bool × D) × Env → R (List (Bool × D) × Env) := fun q => .ok ((m, x) :: q.1, q.2)
@[simp] theorem ev_kM2 {q : List (Bool × D)} : kM2 m x (q, e) = .ok ((m, x) :: q, e) := nr rfl
def kM1 (cm : CM) : Bool × D × Env → R (List (Bool × D) × Env) := fun r => (cm r.2.2).bind (kM2 r.1 r.2.1)
@[simp] theorem ev_kM1 : kM1 cm (m, x, e) = (cm e).bind (kM2 m x) := nr rfl
@[simp] theorem ev_mCons : mCons c cm env = (c env).bind (kM1 cm) := nr rfl
@[simp] theorem ev_cC : cC x env = .ok (false, x, env) := nr rfl
@[simp] theorem ev_cVar : cVar i env = match env[i]? with | some (.sh d) => .ok (false, d, env) | some (.ow d) => .ok (false, d, env.set i (.sh d)) | _ => .stuck := nr rfl
@[simp] theorem ev_oVar : oVar i env = match env[i]? with | some (.sh _) => .ok (.slot i, env) | some (.ow _) => .ok (.slot i, env) | some (.io _) => .ok (.slot i, env) | _ => .stuck := nr rfl
def kVal : Bool × D × Env → R (Op × Env) := fun r => .ok (.val r.2.1, r.2.2)
@[simp] theorem ev_oVal : oVal c env = (c env).bind kVal := nr rfl
@[simp] theorem ev_kVal : kVal (m, x, e) = .ok (.val x, e) := nr rfl
@[simp] theorem ev_aNil : aNil env = .ok ([], env) := nr rfl
def kA2 (o : Op) : List Op × Env → R (List Op × Env) := fun q => .ok (o :: q.1, q.2)
@[simp] theorem ev_kA2 : kA2 o (os, e) = .ok (o :: os, e) := nr rfl
def kA1 (as : CA) : Op × Env → R (List Op × Env) := fun r => (as r.2).bind (kA2 r.1)
@[simp] theorem ev_kA1 : kA1 as (o, e) = (as e).bind (kA2 o) := nr rfl
@[simp] theorem ev_aCons : aCons a as env = (a env).bind (kA1 as) := nr rfl
def kStar3 (ds : List D) : List Op × Env → R (List Op × Env) := fun q => .ok (ds.map .val ++ q.1, q.2)
@[simp] theorem ev_kStar3 : kStar3 ds (os, e) = .ok (ds.map .val ++ os, e) := nr rfl
def kStar2 (as : CA) (e : Env) : List D → R (List Op × Env) := fun ds => (as e).bind (kStar3 ds)
@[simp] theorem ev_kStar2 : kStar2 as e ds = (as e).bind (kStar3 ds) := nr rfl
def kStar (as : CA) : Op × Env → R (List Op × Env) := fun r => match rd r.2 r.1 with | some d => (R.of (seqD d)).bind (kStar2 as r.2) | none => .stuck
@[simp] theorem ev_kStar : kStar as (o, e) = match rd e o with | some d => (R.of (seqD d)).bind (kStar2 as e) | none => .stuck := nr rfl
@[simp] theorem ev_aStar : aStar a as env = (a env).bind (kStar as) := nr rfl
def kE (env : Env) : Bool × D → R (Bool × D × Env) := fun r => .ok (r.1, r.2, env)
@[simp] theorem ev_kE : kE env (m, x) = .ok (m, x, env) := nr rfl
@[simp] theorem ev_app1 {h : D → Option (Bool × D)} : app1 h o env = match rd env o with | some a => (R.of (h a)).bind (kE env) | none => .stuck := nr rfl
@[simp] theorem ev_app2 {h : D → D → Option (Bool × D)} : app2 h o o2 env = match rd env o, rd env o2 with | some a, some b => (R.of (h a b)).bind (kE env) | _, _ => .stuck := nr rfl
@[simp] theorem ev_appN {h : List D → Option (Bool × D)} : appN h os env = match rdL env os with | some ds => (R.of (h ds)).bind (kE env) | none => .stuck := nr rfl
def kC1 (h : D → Option (Bool × D)) : Op × Env → R (Bool × D × Env) := fun r => app1 h r.1 r.2
@[simp] theorem ev_kC1 {h : D → Option (Bool × D)} : kC1 h (o, e) = app1 h o e := nr rfl
@[simp] theorem ev_c1 {h : D → Option (Bool × D)} : c1 h a env = (a env).bind (kC1 h) := nr rfl
def kC2b (h : D → D → Option (Bool × D)) (o : Op) : Op × Env → R (Bool × D × Env) := fun q => app2 h o q.1 q.2
@[simp] theorem ev_kC2b {h : D → D → Option (Bool × D)} : kC2b h o (o2, e) = app2 h o o2 e := nr rfl
def kC2 (h : D → D → Option (Bool × D)) (b : CB) : Op × Env → R (Bool × D × Env) := fun r => (b r.2).bind (kC2b h r.1)
@[simp] theorem ev_kC2 {h : D → D → Option (Bool × D)} : kC2 h b (o, e) = (b e).bind (kC2b h o) := nr rfl
@[simp] theorem ev_c2 {h : D → D → Option (Bool × D)} : c2 h a b env = (a env).bind (kC2 h b) := nr rfl
def kCN (h : List D → Option (Bool × D)) : List Op × Env → R (Bool × D × Env) := fun r => appN h r.1 r.2
@[simp] theorem ev_kCN {h : List D → Option (Bool × D)} : kCN h (os, e) = appN h os e := nr rfl
@[simp] theorem ev_cN {h : List D → Option (Bool × D)} : cN h as env = (as env).bind (kCN h) := nr rfl
@[simp] theorem ev_rdv : rd env (.val x) = some x := nr rfl
@[simp] theorem ev_rds : rd env (.slot i) = match env[i]? with | some (.sh d) => some d | some (.ow d) => some d | some (.io d) => some d | _ => none := nr rfl
@[simp] theorem ev_rdLn : rdL env [] = some [] := nr rfl
@[simp] theorem ev_rdLc : rdL env (o :: os) = match rd env o, rdL env os with | some d, some ds => some (d :: ds) | _, _ => none := nr rfl
def kCIf (c d : CE) : Bool × Env → R (Bool × D × Env) := fun r => if r.1 then c r.2 else d r.2
@[simp] theorem ev_cIf : cIf t c d env = (t env).bind (kCIf c d) := nr rfl
@[simp] theorem ev_kCIf1 : kCIf c d (true, e) = c e := nr rfl
@[simp] theorem ev_kCIf2 : kCIf c d (false, e) = d e := nr rfl
def kTOf : Bool × D × Env → R (Bool × Env) := fun r => match r.2.1 with | .bl k => .ok (k, r.2.2) | _ => .stuck
@[simp] theorem ev_tOf : tOf c env = (c env).bind kTOf := nr rfl
@[simp] theorem ev_kTOf : kTOf (m, .bl k, e) = .ok (k, e) := nr rfl
def kCh3 (h : D → D → Option (Bool × D)) (c : CB) (o : Op) (e : Env) : Bool × Env → R (Bool × D × Env) := fun k => if k.1 then (c e).bind (kC2b h o) else .ok (false, .bl false, e)
@[simp] theorem ev_kCh3a {h : D → D → Option (Bool × D)} {e2 : Env} : kCh3 h b o e (true, e2) = (b e).bind (kC2b h o) := nr rfl
@[simp] theorem ev_kCh3b {h : D → D → Option (Bool × D)} {e2 : Env} : kCh3 h b o e (false, e2) = .ok (false, .bl false, e) := nr rfl
@[simp] theorem ev_asB {r : R (Bool × D × Env)} : asB r = r.bind kTOf := by cases r <;> rfl
def kCh2 (f g : D → D → Option (Bool × D)) (c : CB) (o : Op) : Op × Env → R (Bool × D × Env) := fun q => (asB (app2 f o q.1 q.2)).bind (kCh3 g c q.1 q.2)
@[simp] theorem ev_kCh2 {f1 f2 : D → D → Option (Bool × D)} : kCh2 f1 f2 b o (o2, e) = (asB (app2 f1 o o2 e)).bind (kCh3 f2 b o2 e) := nr rfl
def kCh1 (f g : D → D → Option (Bool × D)) (b c : CB) : Op × Env → R (Bool × D × Env) := fun r => (b r.2).bind (kCh2 f g c r.1)
@[simp] theorem ev_kCh1 {f1 f2 : D → D → Option (Bool × D)} : kCh1 f1 f2 a b (o, e) = (a e).bind (kCh2 f1 f2 b o) := nr rfl
@[simp] theorem ev_cCh {f1 f2 : D → D → Option (Bool × D)} {z : CB} : cCh f1 f2 a b z env = (a env).bind (kCh1 f1 f2 b z) := nr rfl
def kTru2 (e : Env) : Bool → R (Bool × Env) := fun k => .ok (k, e)
@[simp] theorem ev_kTru2 : kTru2 e k = .ok (k, e) := nr rfl
def kTru : Op × Env → R (Bool × Env) := fun r => match rd r.2 r.1 with | some d => (R.of (truD d)).bind (kTru2 r.2) | none => .stuck
@[simp] theorem ev_tTru : tTru a env = (a env).bind kTru := nr rfl
@[simp] theorem ev_kTru : kTru (o, e) = match rd e o with | some d => (R.of (truD d)).bind (kTru2 e) | none => .stuck := nr rfl
def kAnd (u : CT) : Bool × Env → R (Bool × Env) := fun r => if r.1 then u r.2 else .ok (false, r.2)
@[simp] theorem ev_tAnd : tAnd' t u env = (t env).bind (kAnd u) := nr rfl
@[simp] theorem ev_kAnd1 : kAnd u (true, e) = u e := nr rfl
@[simp] theorem ev_kAnd2 : kAnd u (false, e) = .ok (false, e) := nr rfl
def kOr (u : CT) : Bool × Env → R (Bool × Env) := fun r => if r.1 then .ok (true, r.2) else u r.2
@[simp] theorem ev_tOr : tOr' t u env = (t env).bind (kOr u) := nr rfl
@[simp] theorem ev_kOr1 : kOr u (true, e) = .ok (true, e) := nr rfl
@[simp] theorem ev_kOr2 : kOr u (false, e) = u e := nr rfl
def kNot : Bool × Env → R (Bool × Env) := fun r => .ok (!r.1, r.2)
@[simp] theorem ev_tNot : tNot' t env = (t env).bind kNot := nr rfl
@[simp] theorem ev_kNot : kNot (k, e) = .ok (!k, e) := nr rfl
@[simp] theorem ev_tYes : tYesC env = .ok (true, env) := nr rfl
def kCNot2 (e : Env) : Bool → R (Bool × D × Env) := fun k => .ok (false, .bl (!k), e)
@[simp] theorem ev_kCNot2 : kCNot2 e k = .ok (false, .bl (!k), e) := nr rfl
def kCNot : Bool × D × Env → R (Bool × D × Env) := fun r => (R.of (truD r.2.1)).bind (kCNot2 r.2.2)
@[simp] theorem ev_cNot : cNot c env = (c env).bind kCNot := nr rfl
@[simp] theorem ev_kCNot : kCNot (m, x, e) = (R.of (truD x)).bind (kCNot2 e) := nr rfl
def kCAnd2 (d : CE) (x : D) (e : Env) : Bool → R (Bool × D × Env) := fun k => if k then d e else (.ok (false, x, e))
@[simp] theorem ev_kCAnd2a : kCAnd2 d x e true = d e := nr rfl
@[simp] theorem ev_kCAnd2b : kCAnd2 d x e false = (.ok (false, x, e)) := nr rfl
def kCAnd (d : CE) : Bool × D × Env → R (Bool × D × Env) := fun r => (R.of (truD r.2.1)).bind (kCAnd2 d r.2.1 r.2.2)
@[simp] theorem ev_kCAnd : kCAnd d (m, x, e) = (R.of (truD x)).bind (kCAnd2 d x e) := nr rfl
@[simp] theorem ev_cAnd : cAnd c d env = (c env).bind (kCAnd d) := nr rfl
def kCOr2 (d : CE) (x : D) (e : Env) : Bool → R (Bool × D × Env) := fun k => if k then (.ok (false, x, e)) else d e
@[simp] theorem ev_kCOr2a : kCOr2 d x e true = (.ok (false, x, e)) := nr rfl
@[simp] theorem ev_kCOr2b : kCOr2 d x e false = d e := nr rfl
def kCOr (d : CE) : Bool × D × Env → R (Bool × D × Env) := fun r => (R.of (truD r.2.1)).bind (kCOr2 d r.2.1 r.2.2)
@[simp] theorem ev_kCOr : kCOr d (m, x, e) = (R.of (truD x)).bind (kCOr2 d x e) := nr rfl
@[simp] theorem ev_cOr : cOr c d env = (c env).bind (kCOr d) := nr rfl
def kTup2 : List D × Env → R (Bool × D × Env) := fun q => if okL q.1.length then .ok (false, .tup q.1, q.2) else .stuck
@[simp] theorem ev_kTup2 (h : okL ds.length = true) : kTup2 (ds, e) = .ok (false, .tup ds, e) := if_pos h
def kTup : List Op × Env → R (Bool × D × Env) := fun r => (R.of (frzL r.1 r.2)).bind kTup2
@[simp] theorem ev_kTup : kTup (os, e) = (R.of (frzL os e)).bind kTup2 := nr rfl
@[simp] theorem ev_cTup : cTup as env = (as env).bind kTup := nr rfl
def kLst2 : List D × Env → R (Bool × D × Env) := fun q => if okL q.1.length then .ok (true, .lst q.1, q.2) else .stuck
@[simp] theorem ev_kLst2 (h : okL ds.length = true) : kLst2 (ds, e) = .ok (true, .lst ds, e) := if_pos h
def kLst : List Op × Env → R (Bool × D × Env) := fun r => (R.of (frzL r.1 r.2)).bind kLst2
@[simp] theorem ev_kLst : kLst (os, e) = (R.of (frzL os e)).bind kLst2 := nr rfl
@[simp] theorem ev_cLst : cLst as env = (as env).bind kLst := nr rfl
@[simp] theorem ev_frzLn : frzL [] env = some ([], env) := nr rfl
@[simp] theorem ev_frzLc : frzL (o :: os) env = match frzO o env with | some (d, e1) => (match frzL os e1 with | some (ds, e2) => some (d :: ds, e2) | none => none) | none => none := nr rfl
@[simp] theorem ev_frzOv : frzO (.val x) env = some (x, env) := nr rfl
@[simp] theorem ev_frzOs : frzO (.slot i) env = match env[i]? with | some (.sh d) => some (d, env) | some (.ow d) => some (d, env.set i (.sh d)) | _ => none := nr rfl
def kI (e : Env) : List D → R (List D × Env) := fun ds => .ok (ds, e)
@[simp] theorem ev_kI : kI e ds = .ok (ds, e) := nr rfl
def kISeq : Bool × D × Env → R (List D × Env) := fun r => (R.of (iterD r.2.1)).bind (kI r.2.2)
@[simp] theorem ev_iSeq : iSeq c env = (c env).bind kISeq := nr rfl
@[simp] theorem ev_kISeq : kISeq (m, x, e) = (R.of (iterD x)).bind (kI e) := nr rfl
def kIL (h : List D → Option (List D)) : List Op × Env → R (List D × Env) := fun r => match rdL r.2 r.1 with | some ds => (R.of (h ds)).bind (kI r.2) | none => .stuck
@[simp] theorem ev_iL {h : List D → Option (List D)} : iL h as env = (as env).bind (kIL h) := nr rfl
@[simp] theorem ev_kIL {h : List D → Option (List D)} : kIL h (os, e) = match rdL e os with | some ds => (R.of (h ds)).bind (kI e) | none => .stuck := nr rfl
def kIV (h : D → Option (List D)) : Bool × D × Env → R (List D × Env) := fun r => (R.of (h r.2.1)).bind (kI r.2.2)
@[simp] theorem ev_iV {h : D → Option (List D)} : iV h c env = (c env).bind (kIV h) := nr rfl
@[simp] theorem ev_kIV {h : D → Option (List D)} : kIV h (m, x, e) = (R.of (h x)).bind (kI e) := nr rfl
@[simp] theorem ev_gN : gN i x env = if okS env[i]? then some (env.set i (.sh x)) else none := by
  unfold gN
  cases env[i]? with
  | none => rfl
  | some s => cases s <;> rfl
@[simp] theorem ev_gsN : gsN [] env = some env := nr rfl
@[simp] theorem ev_gsC {gs : Gts} : gsC gt gs (x :: ds) env = match gt x env with | some e1 => gs ds e1 | none => none := nr rfl
@[simp] theorem ev_gTt {gs : Gts} : gT gs (.tup ds) env = gs ds env := nr rfl
def kSl3 (o : Op) (p : Option Int) : Option Int × Env → R (Bool × D × Env) := fun z => match rd z.2 o with | some d => (R.of (sliceD d p z.1)).bind (kE z.2) | none => .stuck
def kSl2 (o : Op) (hi : CP) : Option Int × Env → R (Bool × D × Env) := fun q => (hi q.2).bind (kSl3 o q.1)
def kSl1 (lo hi : CP) : Op × Env → R (Bool × D × Env) := fun r => (lo r.2).bind (kSl2 r.1 hi)
@[simp] theorem ev_cSl : cSl a lo hi env = (a env).bind (kSl1 lo hi) := nr rfl
@[simp] theorem ev_kSl1 : kSl1 lo hi (o, e) = (lo e).bind (kSl2 o hi) := nr rfl
@[simp] theorem ev_kSl2 {p : Option Int} : kSl2 o hi (p, e) = (hi e).bind (kSl3 o p) := nr rfl
@[simp] theorem ev_kSl3 {p q : Option Int} : kSl3 o p (q, e) = match rd e o with | some d => (R.of (sliceD d p q)).bind (kE e) | none => .stuck := nr rfl
@[simp] theorem ev_pNo : pNo env = .ok (none, env) := nr rfl
def kSm : Op × Env → R (Option Int × Env) := fun r => match rd r.2 r.1 with | some (.int i) => .ok (some i, r.2) | _ => .stuck
@[simp] theorem ev_pSm : pSm a env = (a env).bind kSm := nr rfl
@[simp] theorem ev_kSm : kSm (o, e) = match rd e o with | some (.int i) => .ok (some i, e) | _ => .stuck := nr rfl
def kComp2 (e : Env) (own : List Nat) : List D × Env → R (Bool × D × Env) := fun q => .ok (true, .lst q.1, restE e q.2 own)
@[simp] theorem ev_kComp2 {e2 : Env} : kComp2 e own (ds, e2) = .ok (true, .lst ds, restE e e2 own) := nr rfl
def kComp (own : List Nat) (gt : Gt) (t : CT) (c : CE) : List D × Env → R (Bool × D × Env) := fun r => (compL own gt t c r.1 (wipeE r.2 own) []).bind (kComp2 r.2 own)
@[simp] theorem ev_cComp : cComp own gt t c it env = (it env).bind (kComp own gt t c) := nr rfl
@[simp] theorem ev_kComp : kComp own gt t c (ds, e) = (compL own gt t c ds (wipeE e own) []).bind (kComp2 e own) := nr rfl
def kCall3 (m : Bool) (x : D) : Env → R (Bool × D × Env) := fun e => .ok (m, x, e)
@[simp] theorem ev_kCall3 : kCall3 m x e = .ok (m, x, e) := nr rfl
def kCall2 (io : Option Nat) (os : List Op) (e : Env) : (Bool × D) × Option D → R (Bool × D × Env) := fun q => (backIo io os e q.2).bind (kCall3 q.1.1 q.1.2)
@[simp] theorem ev_kCall2 {od : Option D} : kCall2 io os e ((m, x), od) = (backIo io os e od).bind (kCall3 m x) := nr rfl
def kCall (io : Option Nat) (F : FSem) : List Op × Env → R (Bool × D × Env) := fun r => callO io F r.1 r.2
@[simp] theorem ev_kCall : kCall io F (os, e) = callO io F os e := nr rfl
@[simp] theorem ev_cCall : cCall io F as env = (as env).bind (kCall io F) := nr rfl
@[simp] theorem ev_callO : callO io F os env = match argsOf io env 0 os with | some ds => (F ds).bind (kCall2 io os env) | none => .stuck := nr rfl
def kCallV (tab : Str → Option FSem) (as : CA) : Bool × D × Env → R (Bool × D × Env) := fun r => match r.2.1 with | .fn n => (match tab n with | some F => cCall none F as r.2.2 | none => .stuck) | _ => .stuck
@[simp] theorem ev_cCallV {tab : Str → Option FSem} : cCallV tab c as env = (c env).bind (kCallV tab as) := nr rfl
@[simp] theorem ev_kCallV {tab : Str → Option FSem} {n : Str} : kCallV tab as (m, .fn n, e) = match tab n with | some F => cCall none F as e | none => .stuck := nr rfl
@[simp] theorem ev_own_ow : own? (some (.ow x)) = some (false, x) := nr rfl
@[simp] theorem ev_own_io : own? (some (.io x)) = some (true, x) := nr rfl
@[simp] theorem ev_owSf : owS false x = .ow x := nr rfl
@[simp] theorem ev_owSt : owS true x = .io x := nr rfl
@[simp] theorem ev_cMut {q : Option (D × D)} {k : Bool} : cMut i q k env = match q with | some r => .ok (false, r.2, env.set i (owS k r.1)) | none => .stuck := nr rfl
def kMm (i : Nat) (h : G1) : Bool × D × Env → R (Bool × D × Env) := fun r => match own? r.2.2[i]? with | some (io, dl) => cMut i (h dl r.2.1) io r.2.2 | none => .stuck
@[simp] theorem ev_kMm {h : G1} : kMm i h (m, x, e) = match own? e[i]? with | some (io, dl) => cMut i (h dl x) io e | none => .stuck := nr rfl
@[simp] theorem ev_cM1 {T : String} {h : G1} : cM1 T i h c env = match own? env[i]? with | some (_, d0) => (match isTy T d0 with | true => (c env).bind (kMm i h) | false => .stuck) | none => .stuck := nr rfl
@[simp] theorem ev_isTyl : isTy "list" (.lst ds) = true := nr rfl
def kRM2 (e : Env) : D → R (Bool × D × Env) := fun w => .ok (false, w, e)
@[simp] theorem ev_kRM2 : kRM2 e x = .ok (false, x, e) := nr rfl
def kRM (i : Nat) (h : D → D → Option D) : Op × Env → R (Bool × D × Env) := fun r => match rd r.2 (.slot i), rd r.2 r.1 with | some dl, some d => (R.of (h dl d)).bind (kRM2 r.2) | _, _ => .stuck
@[simp] theorem ev_kRM {h : D → D → Option D} : kRM i h (o, e) = match rd e (.slot i), rd e o with | some dl, some d => (R.of (h dl d)).bind (kRM2 e) | _, _ => .stuck := nr rfl
@[simp] theorem ev_cRM {h : D → D → Option D} : cRM i h a env = match rd env (.slot i) with | some (.lst _) => (a env).bind (kRM i h) | _ => .stuck := nr rfl
@[simp] theorem ev_wn : wipeE env [] = env := nr rfl
@[simp] theorem ev_wc {v : Nat} {vs : List Nat} : wipeE env (v :: vs) = (wipeE env vs).set v .un := nr rfl
@[simp] theorem ev_rn : restE env e [] = e := nr rfl
@[simp] theorem ev_rc {v : Nat} {vs : List Nat} : restE env e (v :: vs) = (restE env e vs).set v (backS env[v]?) := nr rfl
@[simp] theorem ev_bk1 : backS (some (.sh x)) = .sh x := nr rfl
@[simp] theorem ev_bk2 : backS (some .un) = .un := nr rfl
@[simp] theorem ev_bk3 : backS (some (.ow x)) = .un := nr rfl
@[simp] theorem ev_argn : argsOf io env j [] = some [] := nr rfl
@[simp] theorem ev_argc : argsOf io env j (o :: os) = match (if io = some j then (match o with | .slot i => (own? env[i]?).map (·.2) | .val _ => none) else (match o with | .val d => some d | .slot i => (match env[i]? with | some (.sh d) => some d | _ => none))), argsOf io env (j + 1) os with | some d, some ds => some (d :: ds) | _, _ => none := nr rfl
@[simp] theorem ev_bi0 {od : Option D} : backIo none os env od = .ok env := nr rfl
@[simp] theorem ev_bi1 {od : Option D} : backIo (some j) os env od = match os[j]? with | some (.slot i) => (match own? env[i]?, od with | some (b, _), some d => .ok (env.set i (owS b d)) | _, _ => .stuck) | _ => .stuck := nr rfl
def kFn2 (m : Bool) (x : D) : Option D → R ((Bool × D) × Option D) := fun q => .ok ((m, x), q)
@[simp] theorem ev_kFn2 {q : Option D} : kFn2 m x q = .ok ((m, x), q) := nr rfl
def kFn (io : Option Nat) : Fl × Env → R ((Bool × D) × Option D) := fun r => match r.1 with | .rt m d => (ioVal io r.2).bind (kFn2 m d) | .nx => (ioVal io r.2).bind (kFn2 false .non) | _ => .stuck
@[simp] theorem ev_kFn1 : kFn io (.rt m x, e) = (ioVal io e).bind (kFn2 m x) := nr rfl
@[simp] theorem ev_kFnn : kFn io (.nx, e) = (ioVal io e).bind (kFn2 false .non) := nr rfl
theorem ev_fnD {np n : Nat} (h : ds.length = np) : fnD io np n f ds = (f (entryE io ds n)).bind (kFn io) := if_pos h
@[simp] theorem ev_iov0 : ioVal none env = .ok none := nr rfl
@[simp] theorem ev_iov1 : ioVal (some i) env = match env[i]? with | some (.io d) => .ok (some d) | _ => .stuck := nr rfl
def kTry (errs : Str → Option Str) : R (Fl × Env) → R (Fl × Env) := fun r => match r with | .ok r => .ok r | .exc c => (match errs c with | some t => .ok (.rt false (.str t), []) | none => .stuck) | .stuck => .stuck
@[simp] theorem ev_sTry {er : Str → Option Str} : sTry er f env = kTry er (f env) := nr rfl
@[simp] theorem ev_kTry1 {er : Str → Option Str} {r : Fl × Env} : kTry er (.ok r) = .ok r := nr rfl
@[simp] theorem ev_kTry2 {er : Str → Option Str} {n : Str} : kTry er (.exc n) = match er n with | some t => .ok (.rt false (.str t), []) | none => .stuck := nr rfl
def kTupRg : (Int × Int) × Env → R (Bool × D × Env) := fun r => match rgOkB r.1.1 r.1.2 with | true => .ok (false, .tup (rng r.1.1 r.1.2), r.2) | false => .stuck
@[simp] theorem ev_cTupRg {h : CRg} : cTupRg h env = (h env).bind kTupRg := nr rfl
@[simp] theorem ev_kTupRg {p q : Int} (h : rgOkB p q = true) : kTupRg ((p, q), e) = .ok (false, .tup (rng p q), e) := by unfold kTupRg; simp only; rw [h]
def kLstRg : (Int × Int) × Env → R (Bool × D × Env) := fun r => match rgOkB r.1.1 r.1.2 with | true => .ok (true, .lst (rng r.1.1 r.1.2), r.2) | false => .stuck
@[simp] theorem ev_cLstRg {h : CRg} : cLstRg h env = (h env).bind kLstRg := nr rfl
@[simp] theorem ev_kLstRg {p q : Int} (h : rgOkB p q = true) : kLstRg ((p, q), e) = .ok (true, .lst (rng p q), e) := by unfold kLstRg; simp only; rw [h]
def kRg1 : Op × Env → R ((Int × Int) × Env) := fun r => match rd r.2 r.1 with | some (.int j) => .ok ((0, j), r.2) | _ => .stuck
@[simp] theorem ev_cRg1 : cRg1 a env = (a env).bind kRg1 := nr rfl
@[simp] theorem ev_kRg1 : kRg1 (o, e) = match rd e o with | some (.int j) => .ok ((0, j), e) | _ => .stuck := nr rfl
def kRg2b (o : Op) : Op × Env → R ((Int × Int) × Env) := fun q => match rd q.2 o, rd q.2 q.1 with | some (.int i), some (.int j) => .ok ((i, j), q.2) | _, _ => .stuck
@[simp] theorem ev_kRg2b : kRg2b o (o2, e) = match rd e o, rd e o2 with | some (.int i), some (.int j) => .ok ((i, j), e) | _, _ => .stuck := nr rfl
def kRg2 (b : CB) : Op × Env → R ((Int × Int) × Env) := fun r => (b r.2).bind (kRg2b r.1)
@[simp] theorem ev_kRg2 : kRg2 b (o, e) = (b e).bind (kRg2b o) := nr rfl
@[simp] theorem ev_cRg2 : cRg2 a b env = (a env).bind (kRg2 b) := nr rfl
end
@[simp] theorem ev_addI (a b : Int) : addD (.int a) (.int b) = some (false, .int (a + b)) := nr rfl
@[simp] theorem ev_subI (a b : Int) : subD (.int a) (.int b) = some (false, .int (a - b)) := nr rfl
@[simp] theorem ev_ixl (ds : List D) (i : Int) : ixD (.lst ds) (.int i) = (atI ds i).map fun d => (false, d) := nr rfl
@[simp] theorem ev_ixt (ds : List D) (i : Int) : ixD (.tup ds) (.int i) = (atI ds i).map fun d => (false, d) := nr rfl
@[simp] theorem ev_lenl (ds : List D) : lenD [.lst ds] = some (false, .int ds.length) := nr rfl
@[simp] theorem ev_lent (ds : List D) : lenD [.tup ds] = some (false, .int ds.length) := nr rfl
@[simp] theorem ev_lens (ds : List D) : lenD [.scr ds] = some (false, .int ds.length) := nr rfl
@[simp] theorem ev_int (i : Int) : DL.intD [.int i] = some (false, .int i) := nr rfl
@[simp] theorem ev_intb (k : Bool) : DL.intD [.bl k] = some (false, .int (if k then 1 else 0)) := nr rfl
theorem ev_mul {a b : Int} (h : a.natAbs < 18446744073709551616 ∨ b.natAbs < 18446744073709551616) : mulD (.int a) (.int b) = some (false, .int (a * b)) := by
  unfold mulD
  simp only [Bool.or_eq_true, decide_eq_true_eq, h, if_true]
theorem ev_fdiv {a b : Int} (h : 0 < b) (h2 : b < 1073741824) : fdivD (.int a) (.int b) = some (false, .int (a / b)) := by
  unfold fdivD; simp [h, h2]
theorem ev_mod {a b : Int} (h : 0 < b) : modD (.int a) (.int b) = some (false, .int (a % b)) := by
  unfold modD; simp [h]
@[simp] theorem ev_lt (a b : Int) : ltD (.int a) (.int b) = some (false, .bl (decide (a < b))) := nr rfl
@[simp] theorem ev_le (a b : Int) : leD (.int a) (.int b) = some (false, .bl (decide (a ≤ b))) := nr rfl
@[simp] theorem ev_gt (a b : Int) : gtD (.int a) (.int b) = some (false, .bl (decide (b < a))) := nr rfl
@[simp] theorem ev_ge (a b : Int) : geD (.int a) (.int b) = some (false, .bl (decide (b ≤ a))) := nr rfl
end DL

set_option Elab.async false
set_option linter.all false
set_option maxRecDepth 100000
set_option maxHeartbeats 4000000
namespace DL
open PySem L2

def kThen {α β γ : Type} (f : α → R β) (g : β → R γ) : α → R γ := fun a => (f a).bind g
@[simp] theorem ev_kThen {α β γ : Type} {f : α → R β} {g : β → R γ} {a : α} : kThen f g a = (f a).bind g := nr rfl
@[simp] theorem ev_bb {α β γ : Type} {r : R α} {f : α → R β} {g : β → R γ} : (r.bind f).bind g = r.bind (kThen f g) := by cases r <;> rfl
abbrev nT (l : List Int) : D := .tup (l.map D.int)
abbrev nL (l : List Int) : D := .lst (l.map D.int)
theorem atI_nat {α : Type} {xs : List α} {k : Nat} (h : k < xs.length) : atI xs (k : Int) = some xs[k] := by
  unfold atI ixN
  rw [if_pos (by omega), if_pos (by omega)]
  simp [h]
theorem atI_g {α : Type} {xs : List α} {k : Nat} {x : α} (h : xs[k]? = some x) : atI xs (k : Int) = some x := by
  obtain ⟨hk, e⟩ := List.getElem?_eq_some_iff.mp h
  rw [atI_nat hk, e]
@[simp] theorem atI0 {α : Type} (x : α) (xs : List α) : atI (x :: xs) 0 = some x := atI_g (k := 0) rfl
@[simp] theorem atI1 {α : Type} (x y : α) (xs : List α) : atI (x :: y :: xs) 1 = some y := atI_g (k := 1) rfl
@[simp] theorem nox_ok {α : Type} (a : α) : nox (R.ok a) = .ok a := nr rfl
theorem okT_lt {n : Nat} (h : n < 16777216) : okT n = true := decide_eq_true h
theorem okL_le' {n : Nat} (h : n ≤ 16777216) : okL n = true := decide_eq_true h
@[simp] theorem ev_fn1 {io : Option Nat} {n : Nat} {f : CS} {a : D} : fnD io 1 n f [a] = (f (entryE io [a] n)).bind (kFn io) := if_pos rfl
@[simp] theorem ev_fn2 {io : Option Nat} {n : Nat} {f : CS} {a b : D} : fnD io 2 n f [a, b] = (f (entryE io [a, b] n)).bind (kFn io) := if_pos rfl
@[simp] theorem ev_fn3 {io : Option Nat} {n : Nat} {f : CS} {a b c : D} : fnD io 3 n f [a, b, c] = (f (entryE io [a, b, c] n)).bind (kFn io) := if_pos rfl
@[simp] theorem ev_fn4 {io : Option Nat} {n : Nat} {f : CS} {a b c d : D} : fnD io 4 n f [a, b, c, d] = (f (entryE io [a, b, c, d] n)).bind (kFn io) := if_pos rfl
@[simp] theorem ev_fn5 {io : Option Nat} {n : Nat} {f : CS} {a b c d e : D} : fnD io 5 n f [a, b, c, d, e] = (f (entryE io [a, b, c, d, e] n)).bind (kFn io) := if_pos rfl
@[simp] theorem ev_fn6 {io : Option Nat} {n : Nat} {f : CS} {a b c d e h : D} : fnD io 6 n f [a, b, c, d, e, h] = (f (entryE io [a, b, c, d, e, h] n)).bind (kFn io) := if_pos rfl
@[simp] theorem ev_okL0 : okL 0 = true := okL_le' (by decide)
@[simp] theorem ev_okL1 : okL 1 = true := okL_le' (by decide)
@[simp] theorem ev_okL2 : okL 2 = true := okL_le' (by decide)
@[simp] theorem ev_okL3 : okL 3 = true := okL_le' (by decide)
@[simp] theorem ev_okL4 : okL 4 = true := okL_le' (by decide)
@[simp] theorem ev_okL5 : okL 5 = true := okL_le' (by decide)
@[simp] theorem ev_okL6 : okL 6 = true := okL_le' (by decide)
@[simp] theorem ev_okL7 : okL 7 = true := okL_le' (by decide)
@[simp] theorem ev_okL8 : okL 8 = true := okL_le' (by decide)
@[simp] theorem ev_okL9 : okL 9 = true := okL_le' (by decide)
@[simp] theorem ev_okL10 : okL 10 = true := okL_le' (by decide)
@[simp] theorem ev_okL11 : okL 11 = true := okL_le' (by decide)
@[simp] theorem ev_okL12 : okL 12 = true := okL_le' (by decide)
@[simp] theorem ev_okL13 : okL 13 = true := okL_le' (by decide)
@[simp] theorem ev_okL14 : okL 14 = true := okL_le' (by decide)
@[simp] theorem frz_app {ds : List D} {os : List Op} {env : Env} : frzL (ds.map .val ++ os) env = (frzL os env).map fun r => (ds ++ r.1, r.2) := by
  induction ds with
  | nil => cases h : frzL os env <;> simp [h]
  | cons d ds ih =>
    rw [List.map_cons, List.cons_append, ev_frzLc, ev_frzOv]
    simp only
    rw [ih]
    cases h : frzL os env <;> simp
@[simp] theorem frz_vals {ds : List D} {env : Env} : frzL (ds.map .val) env = some (ds, env) := by
  have := frz_app (ds := ds) (os := []) (env := env)
  rw [List.append_nil] at this
  rw [this]; simp
@[simp] theorem ev_seqL (l : List D) : seqD (.lst l) = some l := nr rfl
@[simp] theorem ev_seqT (l : List D) : seqD (.tup l) = some l := nr rfl
def kSt3 (own : List Nat) : Bool × D × Env → R (Option D × Env) := fun q => .ok (some q.2.1, wipeE q.2.2 own)
def kSt2 (own : List Nat) (f : CE) : Bool × Env → R (Option D × Env) := fun r => match r.1 with
  | true => (nox (f r.2)).bind (kSt3 own)
  | false => .ok (none, wipeE r.2 own)
def kSt1 (own : List Nat) (tt : CT) (f : CE) : Env → R (Option D × Env) := fun e => (nox (tt e)).bind (kSt2 own f)
def cstep (own : List Nat) (g : Gt) (tt : CT) (f : CE) (d : D) (env : Env) : R (Option D × Env) := (R.of (g d env)).bind (kSt1 own tt f)
@[simp] theorem ev_cstep {own : List Nat} {g : Gt} {tt : CT} {f : CE} {d : D} {env : Env} : cstep own g tt f d env = (R.of (g d env)).bind (kSt1 own tt f) := nr rfl
@[simp] theorem ev_kSt1 {own : List Nat} {tt : CT} {f : CE} {e : Env} : kSt1 own tt f e = (nox (tt e)).bind (kSt2 own f) := nr rfl
@[simp] theorem ev_kSt2a {own : List Nat} {f : CE} {e : Env} : kSt2 own f (true, e) = (nox (f e)).bind (kSt3 own) := nr rfl
@[simp] theorem ev_kSt2b {own : List Nat} {f : CE} {e : Env} : kSt2 own f (false, e) = .ok (none, wipeE e own) := nr rfl
@[simp] theorem ev_kSt3 {own : List Nat} {m : Bool} {d : D} {e : Env} : kSt3 own (m, d, e) = .ok (some d, wipeE e own) := nr rfl
theorem compL_eq {own : List Nat} {g : Gt} {tt : CT} {f : CE} {d : D} {ds : List D} {env : Env} {acc : List D} : compL own g tt f (d :: ds) env acc = (R.of (g d env)).bind fun e1 => (nox (tt e1)).bind fun r => match r.1 with
    | true => (nox (f r.2)).bind fun q => match okT acc.length with
      | true => compL own g tt f ds (wipeE q.2.2 own) (acc ++ [q.2.1])
      | false => .stuck
    | false => compL own g tt f ds (wipeE r.2 own) acc := rfl
theorem compL_cons {own : List Nat} {g : Gt} {tt : CT} {f : CE} {d : D} {ds : List D} {env env' : Env} {acc : List D} {o : Option D} (h : cstep own g tt f d env = .ok (o, env')) (hl : acc.length < 16777216) :
    compL own g tt f (d :: ds) env acc = compL own g tt f ds env' (acc ++ o.toList) := by
  unfold cstep kSt1 at h
  rw [compL_eq]
  cases h1 : R.of (g d env) with
  | ok e1 =>
    rw [h1] at h
    simp only [R.bind_ok] at h ⊢
    cases h2 : nox (tt e1) with
    | ok r =>
      rw [h2] at h
      simp only [R.bind_ok] at h ⊢
      unfold kSt2 at h
      cases h3 : r.1 with
      | true =>
        rw [h3] at h
        simp only at h ⊢
        cases h4 : nox (f r.2) with
        | ok q =>
          rw [h4] at h
          unfold kSt3 at h
          simp only [R.bind_ok, R.ok.injEq, Prod.mk.injEq] at h ⊢
          obtain ⟨rfl, rfl⟩ := h
          rw [okT_lt hl]
          rfl
        | exc c => rw [h4] at h; cases h
        | stuck => rw [h4] at h; cases h
      | false =>
        rw [h3] at h
        simp only [R.ok.injEq, Prod.mk.injEq] at h ⊢
        obtain ⟨rfl, rfl⟩ := h
        simp
    | exc c => rw [h2] at h; cases h
    | stuck => rw [h2] at h; cases h
  | exc c => rw [h1] at h; cases h
  | stuck => rw [h1] at h; cases h
def kCc (own : List Nat) (g : Gt) (tt : CT) (f : CE) (ds acc : List D) : Option D × Env → R (List D × Env) := fun r => compL own g tt f ds r.2 (acc ++ r.1.toList)
theorem compL_lit {β : Type} {own : List Nat} {g : Gt} {tt : CT} {f : CE} {d : D} {ds : List D} {env : Env} {acc : List D} {K : List D × Env → R β} {r : R β} (hl : acc.length < 16777216)
    (h : (cstep own g tt f d env).bind (fun q => (kCc own g tt f ds acc q).bind K) = r) (hr : ∃ a, cstep own g tt f d env = .ok a) : (compL own g tt f (d :: ds) env acc).bind K = r := by
  obtain ⟨⟨o, e⟩, ha⟩ := hr
  rw [compL_cons ha hl]
  rw [ha] at h
  exact h
theorem compL_ix {own : List Nat} {g : Gt} {tt : CT} {f : CE} (E : Nat → Env) (o : Nat → Option D) : ∀ (ds : List D) (k : Nat) (acc : List D), (∀ j d, ds[j]? = some d → cstep own g tt f d (E (k + j)) = .ok (o (k + j), E (k + j + 1))) → acc.length + ds.length ≤ 16777216 →
    compL own g tt f ds (E k) acc = .ok (acc ++ (List.range' k ds.length).filterMap o, E (k + ds.length))
  | [], k, acc, h, hl => by simp [compL]
  | d :: ds, k, acc, h, hl => by
    have h0 := h 0 d rfl
    simp only [Nat.add_zero] at h0
    have hl' : acc.length + (ds.length + 1) ≤ 16777216 := hl
    rw [compL_cons h0 (by omega), compL_ix E o ds (k + 1) _ (fun j d hd => by
      have := h (j + 1) d (by simpa using hd)
      rwa [show k + (j + 1) = k + 1 + j by omega] at this) (by
        have : (o k).toList.length ≤ 1 := by cases o k <;> simp
        rw [List.length_append]; omega)]
    rw [List.length_cons, List.range'_succ, show k + 1 + ds.length = k + (ds.length + 1) by omega]
    cases e : o k <;> simp [List.filterMap_cons, e]
theorem compL_pure {own : List Nat} {g : Gt} {tt : CT} {f : CE} {env : Env} (o : D → Option D) : ∀ (ds : List D) (acc : List D), (∀ d ∈ ds, cstep own g tt f d env = .ok (o d, env)) → acc.length + ds.length ≤ 16777216 →
    compL own g tt f ds env acc = .ok (acc ++ ds.filterMap o, env)
  | [], acc, h, hl => by simp [compL]
  | d :: ds, acc, h, hl => by
    have hl' : acc.length + (ds.length + 1) ≤ 16777216 := hl
    rw [compL_cons (h d (List.mem_cons_self ..)) (by omega), compL_pure o ds _ (fun d hd => h d (List.mem_cons_of_mem _ hd)) (by
        have : (o d).toList.length ≤ 1 := by cases o d <;> simp
        rw [List.length_append]; omega)]
    cases e : o d <;> simp [List.filterMap_cons, e]
theorem forL_eq {g : Gt} {f : CS} {d : D} {ds : List D} {env : Env} : forL g f (d :: ds) env = (R.of (g d env)).bind fun e1 => (f e1).bind fun r => match r.1 with
    | .nx => forL g f ds r.2
    | .ct => forL g f ds r.2
    | .bk => .ok (.nx, r.2)
    | .rt m d => .ok (.rt m d, r.2) := rfl
def kF2 (g : Gt) (f : CS) (ds : List D) : Fl × Env → R (Fl × Env) := fun r => match r.1 with
    | .nx => forL g f ds r.2
    | .ct => forL g f ds r.2
    | .bk => .ok (.nx, r.2)
    | .rt m d => .ok (.rt m d, r.2)
def kF1 (g : Gt) (f : CS) (ds : List D) : Env → R (Fl × Env) := fun e => (f e).bind (kF2 g f ds)
theorem forL_lit {g : Gt} {f : CS} {d : D} {ds : List D} {env : Env} : forL g f (d :: ds) env = (R.of (g d env)).bind (kF1 g f ds) := nr rfl
theorem forL_nil {g : Gt} {f : CS} {env : Env} : forL g f [] env = .ok (.nx, env) := nr rfl
@[simp] theorem ev_kF1 {g : Gt} {f : CS} {ds : List D} {e : Env} : kF1 g f ds e = (f e).bind (kF2 g f ds) := nr rfl
@[simp] theorem ev_kF2a {g : Gt} {f : CS} {ds : List D} {e : Env} : kF2 g f ds (.nx, e) = forL g f ds e := nr rfl
@[simp] theorem ev_kF2b {g : Gt} {f : CS} {ds : List D} {e : Env} : kF2 g f ds (.ct, e) = forL g f ds e := nr rfl
@[simp] theorem ev_kF2c {g : Gt} {f : CS} {ds : List D} {e : Env} : kF2 g f ds (.bk, e) = .ok (.nx, e) := nr rfl
@[simp] theorem ev_kF2d {g : Gt} {f : CS} {ds : List D} {e : Env} {m : Bool} {d : D} : kF2 g f ds (.rt m d, e) = .ok (.rt m d, e) := nr rfl
theorem forL_ix {g : Gt} {f : CS} (E : Nat → Env) : ∀ (ds : List D) (k : Nat), (∀ j d, ds[j]? = some d → (R.of (g d (E (k + j)))).bind f = .ok (.nx, E (k + j + 1))) → forL g f ds (E k) = .ok (.nx, E (k + ds.length))
  | [], k, h => rfl
  | d :: ds, k, h => by
    have h0 := h 0 d rfl
    simp only [Nat.add_zero] at h0
    have ih := forL_ix E ds (k + 1) (fun j d hd => by
      have := h (j + 1) d (by simpa using hd)
      rwa [show k + (j + 1) = k + 1 + j by omega] at this)
    rw [forL_eq]
    cases h1 : R.of (g d (E k)) with
    | ok e1 =>
      rw [h1] at h0
      simp only [R.bind_ok] at h0 ⊢
      rw [h0]
      simp only [R.bind_ok]
      rw [ih, List.length_cons, show k + 1 + ds.length = k + (ds.length + 1) by omega]
    | exc c => rw [h1] at h0; cases h0
    | stuck => rw [h1] at h0; cases h0
/-- an invariant by the number of turns; a break stays at its number -/
theorem forL_inv {g : Gt} {f : CS} (P : Nat → Env → Prop) : ∀ (ds : List D) (k : Nat) (env : Env), (∀ j d e, ds[j]? = some d → P (k + j) e → ∃ fl e', (R.of (g d e)).bind f = .ok (fl, e') ∧ (fl = .nx ∨ fl = .ct ∨ fl = .bk) ∧ P (k + j + 1) e') → P k env →
    ∃ j e', j ≤ ds.length ∧ forL g f ds env = .ok (.nx, e') ∧ P (k + j) e'
  | [], k, env, h, p => ⟨0, env, Nat.le_refl _, rfl, p⟩
  | d :: ds, k, env, h, p => by
    obtain ⟨fl, e1, h0, hf, p1⟩ := h 0 d env rfl p
    simp only [Nat.add_zero] at p1
    rw [forL_eq]
    cases h1 : R.of (g d env) with
    | ok e2 =>
      rw [h1] at h0
      simp only [R.bind_ok] at h0 ⊢
      rw [h0]
      simp only [R.bind_ok]
      have ih := forL_inv P ds (k + 1) e1 (fun j d e hd pe => by
        have := h (j + 1) d e (by simpa using hd)
        rw [show k + (j + 1) = k + 1 + j by omega] at this
        exact this pe) p1
      obtain ⟨j, e', hj, q1, q2⟩ := ih
      have q2' : P (k + (j + 1)) e' := by rwa [show k + (j + 1) = k + 1 + j by omega]
      rcases hf with rfl | rfl | rfl
      · exact ⟨j + 1, e', Nat.succ_le_succ hj, q1, q2'⟩
      · exact ⟨j + 1, e', Nat.succ_le_succ hj, q1, q2'⟩
      · exact ⟨1, e1, by simp, rfl, p1⟩
    | exc c => rw [h1] at h0; cases h0
    | stuck => rw [h1] at h0; cases h0
/-- what a walk ends with -/
def Sat {α : Type} (r : R α) (G : α → Prop) : Prop := ∃ a, r = .ok a ∧ G a
@[simp] theorem sat_ok {α : Type} {a : α} {G : α → Prop} : Sat (R.ok a) G ↔ G a := ⟨fun ⟨b, e, h⟩ => by cases e; exact h, fun h => ⟨a, rfl, h⟩⟩
theorem sat_bind {α β : Type} {r : R α} {K : α → R β} {G : β → Prop} (P : α → Prop) (h1 : Sat r P) (h2 : ∀ x, P x → Sat (K x) G) : Sat (r.bind K) G := by
  obtain ⟨a, rfl, ha⟩ := h1
  exact h2 a ha
theorem sat_eq {α : Type} {r : R α} {G : α → Prop} (a : α) (h : r = .ok a) (hg : G a) : Sat r G := ⟨a, h, hg⟩
theorem sat_for {β : Type} {g : Gt} {f : CS} {ds : List D} {env : Env} {K : Fl × Env → R β} {G : β → Prop} (P : Nat → Env → Prop)
    (hs : ∀ j d e, ds[j]? = some d → P j e → Sat ((R.of (g d e)).bind f) fun r => (r.1 = .nx ∨ r.1 = .ct ∨ r.1 = .bk) ∧ P (j + 1) r.2) (h0 : P 0 env)
    (hk : ∀ j e, j ≤ ds.length → P j e → Sat (K (.nx, e)) G) : Sat ((forL g f ds env).bind K) G := by
  obtain ⟨j, e', hj, h1, h2⟩ := forL_inv (g := g) (f := f) P ds 0 env (fun j d e hd he => by
    rw [Nat.zero_add] at he
    obtain ⟨⟨fl, e'⟩, h1, h2, h3⟩ := hs j d e hd he
    exact ⟨fl, e', h1, h2, by rwa [Nat.zero_add]⟩) h0
  rw [h1]
  rw [Nat.zero_add] at h2
  exact hk j e' hj h2
theorem sat_for0 {g : Gt} {f : CS} {ds : List D} {env : Env} {G : Fl × Env → Prop} (P : Nat → Env → Prop)
    (hs : ∀ j d e, ds[j]? = some d → P j e → Sat ((R.of (g d e)).bind f) fun r => (r.1 = .nx ∨ r.1 = .ct ∨ r.1 = .bk) ∧ P (j + 1) r.2) (h0 : P 0 env)
    (hk : ∀ j e, j ≤ ds.length → P j e → G (.nx, e)) : Sat (forL g f ds env) G := by
  have : forL g f ds env = (forL g f ds env).bind .ok := by cases forL g f ds env <;> rfl
  rw [this]
  exact sat_for P hs h0 fun j e hj he => sat_ok.mpr (hk j e hj he)
theorem rng_get {lo hi : Int} {j : Nat} {d : D} (h : (rng lo hi)[j]? = some d) : d = .int (lo + (j : Int)) ∧ (j : Int) < hi - lo := by
  unfold rng at h
  obtain ⟨hj, e⟩ := List.getElem?_eq_some_iff.mp h
  rw [List.getElem_map, List.getElem_range] at e
  rw [List.length_map, List.length_range] at hj
  exact ⟨e.symm, by omega⟩
@[simp] theorem rng_len (lo hi : Int) : (rng lo hi).length = (hi - lo).toNat := by simp [rng]
theorem rng0 (n : Nat) : rng 0 (n : Int) = (List.range n).map fun k : Nat => D.int (k : Int) := by
  unfold rng
  rw [show ((n : Int) - 0).toNat = n by omega]
  exact List.map_congr_left fun k _ => by rw [Int.zero_add]
theorem rngD1_ok {i : Int} (h : -1000000 ≤ i) (h2 : i < 1000000000) : rngD1 [.int i] = some (rng 0 i) := by
  unfold rngD1 smallI
  simp only
  rw [if_pos]
  rw [Bool.and_eq_true, decide_eq_true_eq, decide_eq_true_eq]
  omega
theorem rngD2_ok {i j : Int} (h : -1000000 ≤ i) (h2 : i < 1000000000) (h3 : -1000000 ≤ j) (h4 : j < 1000000000) : rngD2 [.int i, .int j] = some (rng i j) := by
  unfold rngD2 smallI
  simp only
  rw [if_pos]
  rw [Bool.and_eq_true, Bool.and_eq_true, Bool.and_eq_true, decide_eq_true_eq, decide_eq_true_eq, decide_eq_true_eq, decide_eq_true_eq]
  omega
theorem toPyL_ints (l : List Int) : toPyL (l.map D.int) = l.map PyData.int := by
  induction l with
  | nil => simp [toPyL]
  | cons a l ih => simp [toPyL, toPy, ih]
theorem layAll_ints (l : List Int) : PyData.canLayAll0 (l.map PyData.int) = true := by
  induction l with
  | nil => simp [PyData.canLayAll0]
  | cons a l ih => simp [PyData.canLayAll0, PyData.canLay0, ih]
theorem depAll_ints (l : List Int) : PyData.depthAll (l.map PyData.int) = 0 := by
  induction l with
  | nil => simp [PyData.depthAll]
  | cons a l ih => simp [PyData.depthAll, PyData.depth, ih]
theorem eqvAll_ints (a b : List Int) : PyData.eqvAll (a.map PyData.int) (b.map PyData.int) = (a == b) := by
  induction a generalizing b with
  | nil => cases b <;> simp [PyData.eqvAll]
  | cons x a ih => cases b with
    | nil => simp [PyData.eqvAll]
    | cons y b => simp only [List.map_cons, PyData.eqvAll, PyData.eqv, ih]; rfl
theorem okEq_int (a : Int) : okEq (.int a) = true := by simp [okEq, toPy, SeqAt.shaped, PyData.canLay0, PyData.depth]
theorem okEq_non : okEq .non = true := by simp [okEq, toPy, SeqAt.shaped, PyData.canLay0, PyData.depth]
theorem okEq_bl (b : Bool) : okEq (.bl b) = true := by simp [okEq, toPy, SeqAt.shaped, PyData.canLay0, PyData.depth]
theorem okEq_nT (l : List Int) : okEq (nT l) = true := by simp [okEq, toPy, SeqAt.shaped, PyData.canLay0, PyData.depth, toPyL_ints, layAll_ints, depAll_ints]
theorem okEq_nL (l : List Int) : okEq (nL l) = true := by simp [okEq, toPy, SeqAt.shaped, PyData.canLay0, PyData.depth, toPyL_ints, layAll_ints, depAll_ints]
@[simp] theorem ev_eqI (k : Bool) (a b : Int) : eqD k (.int a) (.int b) = some (false, .bl (xor k (a == b))) := by
  show (if okEq (.int a) && okEq (.int b) then some (false, D.bl (xor k (eqv (.int a) (.int b)))) else none) = _
  rw [okEq_int, okEq_int]
  simp [eqv, toPy, PyData.eqv]
@[simp] theorem ev_eqB (k : Bool) (a b : Bool) : eqD k (.bl a) (.bl b) = some (false, .bl (xor k (a == b))) := by
  show (if okEq (.bl a) && okEq (.bl b) then some (false, D.bl (xor k (eqv (.bl a) (.bl b)))) else none) = _
  rw [okEq_bl, okEq_bl]
  simp [eqv, toPy, PyData.eqv]
@[simp] theorem ev_eqNN (k : Bool) : eqD k .non .non = some (false, .bl (!k)) := by
  show (if okEq .non && okEq .non then some (false, D.bl (xor k (eqv .non .non))) else none) = _
  rw [okEq_non]
  simp [eqv, toPy, PyData.eqv]
@[simp] theorem ev_eqS (k : Bool) (a b : Str) : eqD k (.str a) (.str b) = some (false, .bl (xor k (a == b))) := nr rfl
theorem ev_eqT (k : Bool) (a b : List Int) : eqD k (nT a) (nT b) = some (false, .bl (xor k (a == b))) := by
  show (if okEq (nT a) && okEq (nT b) then some (false, D.bl (xor k (eqv (nT a) (nT b)))) else none) = _
  rw [okEq_nT, okEq_nT]
  simp [eqv, toPy, PyData.eqv, toPyL_ints, eqvAll_ints]
theorem ev_eqL (k : Bool) (a b : List Int) : eqD k (nL a) (nL b) = some (false, .bl (xor k (a == b))) := by
  show (if okEq (nL a) && okEq (nL b) then some (false, D.bl (xor k (eqv (nL a) (nL b)))) else none) = _
  rw [okEq_nL, okEq_nL]
  simp [eqv, toPy, PyData.eqv, toPyL_ints, eqvAll_ints]
@[simp] theorem ev_sumT (l : List Int) : sumD [.tup (l.map D.int)] = some (false, .int l.sum) := by unfold sumD; simp only; rw [intsD_map]; rfl
@[simp] theorem ev_sumL (l : List Int) : sumD [.lst (l.map D.int)] = some (false, .int l.sum) := by unfold sumD; simp only; rw [intsD_map]; rfl
theorem ev_all (l : List Bool) : allD [.lst (l.map D.bl)] = some (false, .bl (l.all id)) := by unfold allD; simp only; rw [blsD_map]; rfl
theorem ev_any (l : List Bool) : anyD [.lst (l.map D.bl)] = some (false, .bl (l.any id)) := by unfold anyD; simp only; rw [blsD_map]; rfl
@[simp] theorem ev_tupL (l : List D) : tupleD [.lst l] = some (false, .tup l) := nr rfl
@[simp] theorem ev_tupT (l : List D) : tupleD [.tup l] = some (false, .tup l) := nr rfl
@[simp] theorem ev_listL (l : List D) : listD [.lst l] = some (true, .lst l) := nr rfl
@[simp] theorem ev_listT (l : List D) : listD [.tup l] = some (true, .lst l) := nr rfl
@[simp] theorem ev_iterL (l : List D) : iterD (.lst l) = some l := nr rfl
@[simp] theorem ev_iterT (l : List D) : iterD (.tup l) = some l := nr rfl
@[simp] theorem ev_iterS (l : List D) : iterD (.scr l) = some l := nr rfl
@[simp] theorem ev_enL (l : List D) : enumD (.lst l) = some (enumL l) := nr rfl
@[simp] theorem ev_enT (l : List D) : enumD (.tup l) = some (enumL l) := nr rfl
theorem cut_lo (ds : List D) {i : Int} (h : 0 ≤ i) : cutD ds (some i) none = ds.drop i.toNat := by
  obtain ⟨k, rfl⟩ := Int.eq_ofNat_of_zero_le h
  unfold cutD
  rw [HT.sIx_nat, HT.sIx_none, Int.toNat_natCast]
  by_cases hk : k ≤ ds.length
  · rw [Nat.min_eq_left hk]; exact List.take_of_length_le (by simp)
  · rw [Nat.min_eq_right (by omega), List.drop_eq_nil_of_le (Nat.le_refl _), List.drop_eq_nil_of_le (by omega), List.take_nil]
theorem cut_hi (ds : List D) {i : Int} (h : 0 ≤ i) : cutD ds none (some i) = ds.take i.toNat := by
  obtain ⟨k, rfl⟩ := Int.eq_ofNat_of_zero_le h
  unfold cutD
  rw [HT.sIx_nat, HT.sIx_none, Int.toNat_natCast, List.drop_zero, Nat.sub_zero]
  by_cases hk : k ≤ ds.length
  · rw [Nat.min_eq_left hk]
  · rw [Nat.min_eq_right (by omega), List.take_of_length_le (Nat.le_refl _), List.take_of_length_le (by omega)]
theorem cut_lh (ds : List D) {i j : Int} (h : 0 ≤ i) (h2 : 0 ≤ j) : cutD ds (some i) (some j) = (ds.take j.toNat).drop i.toNat := by
  obtain ⟨k, rfl⟩ := Int.eq_ofNat_of_zero_le h
  obtain ⟨m, rfl⟩ := Int.eq_ofNat_of_zero_le h2
  unfold cutD
  rw [HT.sIx_nat, HT.sIx_nat, Int.toNat_natCast, Int.toNat_natCast, List.drop_take]
  apply List.ext_getElem?
  intro q
  rw [List.getElem?_take, List.getElem?_take, List.getElem?_drop, List.getElem?_drop]
  by_cases hk : k ≤ ds.length
  · rw [Nat.min_eq_left hk]
    by_cases hq : k + q < ds.length
    · by_cases hm : q < m - k
      · rw [if_pos hm, if_pos (by omega)]
      · rw [if_neg hm, if_neg (by omega)]
    · rw [List.getElem?_eq_none (by omega)]; simp
  · rw [Nat.min_eq_right (by omega : ds.length ≤ k)]
    rw [List.getElem?_eq_none (by omega : ds.length ≤ ds.length + q), List.getElem?_eq_none (by omega : ds.length ≤ k + q)]; simp
@[simp] theorem ev_slT (l : List D) (a b : Option Int) : sliceD (.tup l) a b = some (false, .tup (cutD l a b)) := nr rfl
@[simp] theorem ev_slL (l : List D) (a b : Option Int) : sliceD (.lst l) a b = some (true, .lst (cutD l a b)) := nr rfl
@[simp] theorem ev_slS (l : List D) (a b : Option Int) : sliceD (.scr l) a b = some (true, .lst (cutD l a b)) := nr rfl
theorem ev_addT {a b : List D} (h : a.length + b.length ≤ 16777216) : addD (.tup a) (.tup b) = some (false, .tup (a ++ b)) := by unfold addD; simp only; rw [if_pos (okL_le' h)]
theorem ev_addL {a b : List D} (h : a.length + b.length ≤ 16777216) : addD (.lst a) (.lst b) = some (true, .lst (a ++ b)) := by unfold addD; simp only; rw [if_pos (okL_le' h)]
theorem ev_app {ds : List D} {d : D} (h : ds.length < 16777216) : appendD (.lst ds) d = some (.lst (ds ++ [d]), .non) := by unfold appendD; simp only; rw [if_pos (okT_lt h)]
theorem ev_ext {ds es : List D} (h : ds.length + es.length ≤ 16777216) : extendD (.lst ds) (.lst es) = some (.lst (ds ++ es), .non) := by unfold extendD; simp only; rw [if_pos (okL_le' h)]
@[simp] theorem ev_bit (f : Int → Int → Int) (a b : Int) : bitD f (.int a) (.int b) = some (false, .int (f a b)) := nr rfl
@[simp] theorem ev_abs (a : Int) : absD [.int a] = some (false, .int (if a < 0 then -a else a)) := nr rfl
@[simp] theorem ev_isNi (k : Bool) (a : Int) : isND k (.int a) .non = some (false, .bl k) := nr rfl
@[simp] theorem ev_isNn (k : Bool) : isND k .non .non = some (false, .bl (!k)) := nr rfl
@[simp] theorem ev_tTrb (b : Bool) : truD (.bl b) = some b := nr rfl
theorem cutm_lo (l : List Int) {i : Int} (h : 0 ≤ i) : cutD (l.map D.int) (some i) none = (l.drop i.toNat).map D.int := by rw [cut_lo _ h, List.map_drop]
theorem cutm_hi (l : List Int) {i : Int} (h : 0 ≤ i) : cutD (l.map D.int) none (some i) = (l.take i.toNat).map D.int := by rw [cut_hi _ h, List.map_take]
theorem cutm_lh (l : List Int) {i j : Int} (h : 0 ≤ i) (h2 : 0 ≤ j) : cutD (l.map D.int) (some i) (some j) = ((l.take j.toNat).drop i.toNat).map D.int := by rw [cut_lh _ h h2, List.map_drop, List.map_take]
theorem ev_appI {l : List Int} {v : Int} (h : l.length < 16777216) : appendD (.lst (l.map D.int)) (.int v) = some (.lst ((l ++ [v]).map D.int), .non) := by rw [ev_app (by simpa using h), List.map_append]; rfl
theorem ev_addTI {a : List Int} {v : Int} (h : a.length < 16777216) : addD (.tup (a.map D.int)) (.tup [.int v]) = some (false, .tup ((a ++ [v]).map D.int)) := by rw [ev_addT (by simp; omega), List.map_append]; rfl
theorem ev_addTT {a b : List Int} (h : a.length + b.length ≤ 16777216) : addD (.tup (a.map D.int)) (.tup (b.map D.int)) = some (false, .tup ((a ++ b).map D.int)) := by rw [ev_addT (by simpa using h), List.map_append]
theorem atI_m {l : List Int} {k : Nat} (h : k < l.length) : atI (l.map D.int) (k : Int) = some (.int l[k]) := by
  apply atI_g; rw [List.getElem?_map, List.getElem?_eq_getElem h]; rfl
theorem atI_m' {l : List Int} {i : Int} {x : Int} (h : 0 ≤ i) (hx : l[i.toNat]? = some x) : atI (l.map D.int) i = some (.int x) := by
  obtain ⟨k, rfl⟩ := Int.eq_ofNat_of_zero_le h
  apply atI_g; rw [List.getElem?_map]; simp at hx; rw [hx]; rfl
def sk (f : Nat → D) : Nat → Slot
  | 0 => .un
  | k + 1 => .sh (f k)
@[simp] theorem ev_sk0 (f : Nat → D) : sk f 0 = .un := nr rfl
@[simp] theorem ev_sk1 (f : Nat → D) (k : Nat) : sk f (k + 1) = .sh (f k) := nr rfl
@[simp] theorem ev_oksk (f : Nat → D) (k : Nat) : okS (some (sk f k)) = true := by cases k <;> rfl
theorem eq_for {β : Type} {g : Gt} {f : CS} {ds : List D} {env : Env} {K : Fl × Env → R β} {r : R β} (E : Nat → Env) (h0 : env = E 0)
    (hs : ∀ j d, ds[j]? = some d → (R.of (g d (E j))).bind f = .ok (.nx, E (j + 1))) (hk : K (.nx, E ds.length) = r) : (forL g f ds env).bind K = r := by
  rw [h0, forL_ix E ds 0 (fun j d hd => by rw [Nat.zero_add]; exact hs j d hd), Nat.zero_add]
  exact hk
theorem forL_all {f : CS} {v : Nat} {env : Env} (hv : okS env[v]? = true) : ∀ {ds : List D} {s : Slot}, (∀ d ∈ ds, f (env.set v (.sh d)) = .ok (.nx, env.set v (.sh d))) → okS (some s) = true → ∃ s', okS (some s') = true ∧ forL (gN v) f ds (env.set v s) = .ok (.nx, env.set v s')
  | [], s, _, h => ⟨s, h, rfl⟩
  | d :: ds, s, hs, h => by
    have hl : v < env.length := by
      by_cases q : v < env.length
      · exact q
      · rw [List.getElem?_eq_none (by omega)] at hv; cases hv
    obtain ⟨s', h1, h2⟩ := forL_all hv (ds := ds) (s := .sh d) (fun d hd => hs d (List.mem_cons_of_mem _ hd)) rfl
    refine ⟨s', h1, ?_⟩
    rw [forL_lit, ev_gN, List.getElem?_set_self hl, h]
    simp only [if_true, R.of_some, R.bind_ok, ev_kF1, List.set_set]
    rw [hs d (List.mem_cons_self ..)]
    simp only [R.bind_ok, ev_kF2a]
    exact h2
theorem eq_for_all {β : Type} {f : CS} {v : Nat} {env : Env} {ds : List D} {K : Fl × Env → R β} {r : R β} {s0 : Slot} (hv : env[v]? = some s0) (h0 : okS (some s0) = true) (hs : ∀ d ∈ ds, f (env.set v (.sh d)) = .ok (.nx, env.set v (.sh d)))
    (hk : ∀ s, okS (some s) = true → K (.nx, env.set v s) = r) : (forL (gN v) f ds env).bind K = r := by
  obtain ⟨s', h1, h2⟩ := forL_all (env := env) (v := v) (s := s0) (by rw [hv]; exact h0) hs h0
  have he : env.set v s0 = env := by
    apply List.ext_getElem?
    intro i
    by_cases h : v = i
    · subst h
      rw [hv, List.getElem?_set_self (List.getElem?_eq_some_iff.mp hv).1]
    · rw [List.getElem?_set_ne h]
  rw [he] at h2
  rw [h2]
  exact hk s' h1
theorem rep_sg (d : D) : ∀ n : Nat, rep n [d] = List.replicate n d
  | 0 => rfl
  | n + 1 => by
    have ih := rep_sg d n
    unfold rep at ih ⊢
    rw [List.replicate_succ, List.flatten_cons, ih]; rfl
theorem mul_rep (d : D) {n : Int} (h0 : 0 ≤ n) (h : n ≤ 1000) : mulD (.tup [d]) (.int n) = some (false, .tup (List.replicate n.toNat d)) := by
  unfold mulD
  simp only
  rw [if_pos, rep_sg]
  simp only [Bool.and_eq_true, decide_eq_true_eq]
  refine ⟨?_, ?_, ?_⟩
  · simp
  · omega
  · omega
theorem eq_comp {β : Type} {own : List Nat} {g : Gt} {tt : CT} {f : CE} {ds : List D} {env : Env} {K : List D × Env → R β} {r : R β} (o : D → Option D) (hs : ∀ d ∈ ds, cstep own g tt f d env = .ok (o d, env))
    (hl : ds.length ≤ 16777216) (hk : K (ds.filterMap o, env) = r) : (compL own g tt f ds env []).bind K = r := by
  rw [compL_pure o ds [] hs (by simpa using hl)]
  exact hk
theorem eq_compE {β : Type} {own : List Nat} {g : Gt} {tt : CT} {f : CE} {ds : List D} {env : Env} {K : List D × Env → R β} {r : R β} (E : Nat → Env) (o : Nat → Option D) (h0 : env = E 0)
    (hs : ∀ j d, ds[j]? = some d → cstep own g tt f d (E j) = .ok (o j, E (j + 1))) (hl : ds.length ≤ 16777216) (hk : K ((List.range ds.length).filterMap o, E ds.length) = r) : (compL own g tt f ds env []).bind K = r := by
  rw [h0, compL_ix E o ds 0 [] (fun j d hd => by rw [Nat.zero_add]; exact hs j d hd) (by simpa using hl), Nat.zero_add, List.nil_append, ← List.range_eq_range']
  exact hk
theorem eq_comp2 {β : Type} {own : List Nat} {g : Gt} {tt : CT} {f : CE} {d1 d2 : D} {o1 o2 : Option D} {env : Env} {K : List D × Env → R β} {r : R β} (h1 : cstep own g tt f d1 env = .ok (o1, env)) (h2 : cstep own g tt f d2 env = .ok (o2, env))
    (hk : K (o1.toList ++ o2.toList, env) = r) : (compL own g tt f [d1, d2] env []).bind K = r := by
  rw [compL_cons h1 (by decide), compL_cons h2 (by cases o1 <;> simp)]
  exact hk
theorem eq_comp4 {β : Type} {own : List Nat} {g : Gt} {tt : CT} {f : CE} {d1 d2 d3 d4 v1 v2 v3 v4 : D} {env : Env} {K : List D × Env → R β} {r : R β} (h1 : cstep own g tt f d1 env = .ok (some v1, env)) (h2 : cstep own g tt f d2 env = .ok (some v2, env))
    (h3 : cstep own g tt f d3 env = .ok (some v3, env)) (h4 : cstep own g tt f d4 env = .ok (some v4, env)) (hk : K ([v1, v2, v3, v4], env) = r) : (compL own g tt f [d1, d2, d3, d4] env []).bind K = r := by
  rw [compL_cons h1 (by decide), compL_cons h2 (by simp), compL_cons h3 (by simp), compL_cons h4 (by simp)]
  exact hk
def rngI (lo hi : Int) : List Int := (List.range (hi - lo).toNat).map fun k : Nat => lo + (k : Int)
theorem rng_map (lo hi : Int) : rng lo hi = (rngI lo hi).map D.int := by unfold rng rngI; rw [List.map_map]; rfl
theorem inD_pair {x a b : List Int} (h : x = a ∨ x = b) : inD true (.tup (x.map D.int)) (.lst [.tup (a.map D.int), .tup (b.map D.int)]) = some (false, .bl false) := by
  have h1 : inSeq true (.tup (x.map D.int)) [.tup (a.map D.int), .tup (b.map D.int)] = none := rfl
  have h2 : okEq (.tup (x.map D.int)) = true := okEq_nT x
  have h3 : okEq (.lst [.tup (a.map D.int), .tup (b.map D.int)]) = true := by
    simp [okEq, toPy, toPyL, SeqAt.shaped, PyData.canLay0, PyData.canLayAll0, PyData.depth, PyData.depthAll, toPyL_ints, layAll_ints, depAll_ints]
  unfold inD
  simp only
  rw [h1, h2, h3]
  have h4 : ∀ y : List Int, eqv (.tup (y.map D.int)) (.tup (x.map D.int)) = (y == x) := fun y => by simp [eqv, toPy, PyData.eqv, toPyL_ints, eqvAll_ints]
  simp only [List.any_cons, List.any_nil, h4]
  rcases h with rfl | rfl <;> simp
theorem fm_congr {α β : Type} {f g : α → Option β} : ∀ {l : List α}, (∀ x ∈ l, f x = g x) → l.filterMap f = l.filterMap g
  | [], _ => rfl
  | x :: l, h => by rw [List.filterMap_cons, List.filterMap_cons, h x (List.mem_cons_self ..), fm_congr fun y hy => h y (List.mem_cons_of_mem _ hy)]
/-- what is read of a pair of a place and a number -/
def oP (φ : Int → Int → Option D) : D → Option D
  | .tup [.int k, .int x] => φ k x
  | _ => none
theorem enum_fm (l : List Int) (φ : Int → Int → Option D) : (enumL (l.map D.int)).filterMap (oP φ) = (List.range l.length).filterMap fun k : Nat => φ (k : Int) ((l[k]?).getD 0) := by
  unfold enumL
  rw [List.filterMap_map, List.length_map]
  apply fm_congr
  intro k hk
  rw [List.mem_range] at hk
  simp [oP, List.getElem?_eq_getElem hk]
theorem fm_if {n : Nat} (P : Nat → Bool) (f : Nat → D) : (List.range n).filterMap (fun k => if P k then some (f k) else none) = ((List.range n).filter P).map f := by
  induction List.range n with
  | nil => rfl
  | cons a l ih =>
    rw [List.filterMap_cons, List.filter_cons, ih]
    cases h : P a <;> simp
theorem fm_some {n : Nat} (f : Nat → D) : (List.range n).filterMap (fun k => some (f k)) = (List.range n).map f := by
  induction List.range n with
  | nil => rfl
  | cons a l ih => rw [List.filterMap_cons, List.map_cons, ih]
/-- what is read of a number -/
def oI (φ : Int → Option D) : D → Option D
  | .int k => φ k
  | _ => none
theorem rng_fm (n : Nat) (φ : Int → Option D) : (rng 0 (n : Int)).filterMap (oI φ) = (List.range n).filterMap fun k : Nat => φ (k : Int) := by
  rw [rng0, List.filterMap_map]
  apply fm_congr
  intro k hk
  rfl
theorem filt_one {o : D → Option D} {C : Nat} {x : Int} (hx : 0 ≤ x ∧ x < (C : Int)) (h : ∀ y : Int, 0 ≤ y → y < (C : Int) → o (.int y) = if y = x then some (.int y) else none) : (rng 0 (C : Int)).filterMap o = [.int x] := by
  have key : ∀ n : Nat, n ≤ C → ((List.range n).map fun k : Nat => D.int (k : Int)).filterMap o = if x < (n : Int) then [.int x] else [] := by
    intro n
    induction n with
    | zero => intro _; rw [if_neg (by omega)]; rfl
    | succ n ih =>
      intro hn
      rw [List.range_succ, List.map_append, List.filterMap_append, ih (by omega)]
      simp only [List.map_cons, List.map_nil, List.filterMap_cons, List.filterMap_nil]
      rw [h n (by omega) (by omega)]
      by_cases e : (n : Int) = x
      · rw [if_neg (by omega), if_pos e, if_pos (by omega), ← e]; rfl
      · rw [if_neg e]
        by_cases e2 : x < (n : Int)
        · rw [if_pos e2, if_pos (by omega)]; rfl
        · rw [if_neg e2, if_neg (by omega)]; rfl
  rw [rng0, key C (Nat.le_refl _), if_pos hx.2]
theorem rgOkB_ok {a b : Int} (h : -1000000 ≤ a) (h2 : a < 1000000) (h3 : -1000000 ≤ b) (h4 : b < 1000000) : rgOkB a b = true := by
  unfold rgOkB smallI
  simp only [Bool.and_eq_true, decide_eq_true_eq]
  omega
theorem ev_addT3 {a b : List Int} {v : Int} (h : a.length + 1 + b.length ≤ 16777216) : addD (.tup ((a ++ [v]).map D.int)) (.tup (b.map D.int)) = some (false, .tup ((a ++ v :: b).map D.int)) := by
  rw [ev_addTT (by simp; omega)]; simp
/-- a number or None -/
def dO : Option Int → D
  | some x => .int x
  | none => .non
@[simp] theorem dO_some (x : Int) : dO (some x) = .int x := rfl
@[simp] theorem dO_none : dO none = .non := rfl
theorem eqD_dO (k : Bool) (x : Option Int) : eqD k (dO x) (dO x) = some (false, .bl (!k)) := by
  cases x with
  | none => rw [dO_none, ev_eqNN]
  | some x => rw [dO_some, ev_eqI]; simp
theorem atI_mO {l : List (Option Int)} {k : Nat} (h : k < l.length) : atI (l.map dO) (k : Int) = some (dO l[k]) := by
  apply atI_g; rw [List.getElem?_map, List.getElem?_eq_getElem h]; rfl
theorem map_some (l : List Int) : (l.map some).map dO = l.map D.int := by rw [List.map_map]; rfl
mutual
def wR : D → Nat
  | .non => 1
  | .bl _ => 1
  | .int i => if -999999999999 ≤ i ∧ i ≤ 999999999999 then 1 else 2000000
  | .str s => if PyData.strOk s then s.cps.size + 1 else 2000000
  | .lst xs => wRL xs + 1
  | .tup xs => wRL xs + 1
  | _ => 2000000
def wRL : List D → Nat
  | [] => 0
  | x :: xs => wR x + wRL xs
end
mutual
def dR : D → Nat
  | .lst xs => dRL xs + 1
  | .tup xs => dRL xs + 1
  | _ => 0
def dRL : List D → Nat
  | [] => 0
  | x :: xs => max (dR x) (dRL xs)
end
mutual
theorem wR_ok : ∀ d : D, wR d ≤ 1000000 → (toPy d).canLay0 = true ∧ (toPy d).showable = true ∧ (toPy d).leavesShort 13 = true ∧ (toPy d).bulk + 1 ≤ wR d ∧ (toPy d).depth = dR d
  | .non, h => by simp [toPy, PyData.canLay0, PyData.showable, PyData.leavesShort, PyData.bulk, wR, PyData.depth, dR]
  | .bl b, h => by simp [toPy, PyData.canLay0, PyData.showable, PyData.leavesShort, PyData.bulk, wR, PyData.depth, dR]
  | .int i, h => by
    unfold wR at h
    split at h
    · rename_i hi
      have h13 : (PyData.shown (.int i)).length ≤ 13 := PyData.shown_int_le2 hi.1 hi.2
      have hlog : i.natAbs.log2 < 1920 := by
        by_cases z : i.natAbs = 0
        · rw [z]; decide
        · rw [Nat.log2_lt z]
          have : i.natAbs < 2 ^ 40 := by omega
          exact Nat.lt_of_lt_of_le this (Nat.pow_le_pow_right (by omega) (by omega))
      unfold wR
      rw [if_pos hi]
      simp [toPy, PyData.canLay0, PyData.showable, PyData.leavesShort, PyData.bulk, PyData.depth, dR, h13, hlog]
    · omega
  | .str s, h => by
    unfold wR at h
    split at h
    · rename_i hi
      unfold wR
      rw [if_pos hi]
      have hc : (s.cps.toList.all fun c => decide (c < 16 ^ 8)) = true := by
        unfold PyData.strOk at hi
        rw [List.all_eq_true]
        intro c hc
        have := Array.all_eq_true'.mp hi c (by simpa using hc)
        simp only [decide_eq_true_eq] at this ⊢
        omega
      refine ⟨by simpa [toPy, PyData.canLay0] using hi, by simp [toPy, PyData.showable], by simpa [toPy, PyData.leavesShort] using hc, by simp [toPy, PyData.bulk], by simp [toPy, PyData.depth, dR]⟩
    · omega
  | .lst xs, h => by
    unfold wR at h
    obtain ⟨a, b, c, d, e⟩ := wRL_ok xs (by omega)
    refine ⟨by simpa [toPy, PyData.canLay0] using a, by simpa [toPy, PyData.showable] using b, by simpa [toPy, PyData.leavesShort] using c, ?_, by simp [toPy, PyData.depth, dR, e]⟩
    unfold wR toPy PyData.bulk
    omega
  | .tup xs, h => by
    unfold wR at h
    obtain ⟨a, b, c, d, e⟩ := wRL_ok xs (by omega)
    refine ⟨by simpa [toPy, PyData.canLay0] using a, by simpa [toPy, PyData.showable] using b, by simpa [toPy, PyData.leavesShort] using c, ?_, by simp [toPy, PyData.depth, dR, e]⟩
    unfold wR toPy PyData.bulk
    omega
  | .ktup xs, h => by unfold wR at h; omega
  | .dct _ _, h => by unfold wR at h; omega
  | .fn _, h => by unfold wR at h; omega
  | .adr _, h => by unfold wR at h; omega
  | .scr _, h => by unfold wR at h; omega
theorem wRL_ok : ∀ xs : List D, wRL xs ≤ 1000000 → PyData.canLayAll0 (toPyL xs) = true ∧ PyData.showableAll (toPyL xs) = true ∧ PyData.leavesShortAll 13 (toPyL xs) = true ∧ PyData.bulkAll (toPyL xs) ≤ wRL xs ∧ PyData.depthAll (toPyL xs) = dRL xs
  | [], h => by simp [toPyL, PyData.canLayAll0, PyData.showableAll, PyData.leavesShortAll, PyData.bulkAll, wRL, PyData.depthAll, dRL]
  | x :: xs, h => by
    unfold wRL at h
    obtain ⟨a1, b1, c1, d1, e1⟩ := wR_ok x (by omega)
    obtain ⟨a, b, c, d, e⟩ := wRL_ok xs (by omega)
    refine ⟨by simp [toPyL, PyData.canLayAll0, a1, a], by simp [toPyL, PyData.showableAll, b1, b], by simp [toPyL, PyData.leavesShortAll, c1, c], ?_, by simp [toPyL, PyData.depthAll, dRL, e, e1]⟩
    unfold wRL toPyL PyData.bulkAll
    omega
end
theorem okR {d : D} (h : wR d ≤ 1000000) (h2 : dR d ≤ 60) : okRepr (toPy d) = true := by
  obtain ⟨a, b, c, e, f⟩ := wR_ok d h
  have h20 : (2 : Nat) ^ 20 = 1048576 := by decide
  have hl : (toPy d).shown.length ≤ sizeLine := PyData.shown_fits_bulk (B := 13) (by omega) (by omega) c (by omega)
  unfold okRepr
  rw [a, b, PyData.hasDict_of_canLay _ a, decide_eq_true (show (toPy d).depth ≤ 60 by omega)]
  have : (toPy d).shown.length ≤ 16777216 := hl
  rw [decide_eq_true this]
  rfl
theorem ev_repr {d : D} (h : wR d ≤ 1000000) (h2 : dR d ≤ 60) : reprD [d] = some (false, .str (toPy d).shown) := by
  unfold reprD; simp only; rw [if_pos (okR h h2)]
theorem wRL_ints {l : List Int} (h : ∀ x ∈ l, -999999999999 ≤ x ∧ x ≤ 999999999999) : wRL (l.map D.int) = l.length := by
  induction l with
  | nil => simp [wRL]
  | cons a l ih =>
    rw [List.map_cons]
    unfold wRL wR
    rw [if_pos (h a (List.mem_cons_self ..)), ih fun x hx => h x (List.mem_cons_of_mem _ hx), List.length_cons]
    omega
theorem wRL_dO {l : List (Option Int)} (h : ∀ x, some x ∈ l → -999999999999 ≤ x ∧ x ≤ 999999999999) : wRL (l.map dO) = l.length := by
  induction l with
  | nil => simp [wRL]
  | cons a l ih =>
    rw [List.map_cons]
    unfold wRL
    rw [ih fun x hx => h x (List.mem_cons_of_mem _ hx), List.length_cons]
    cases a with
    | none => simp [wR]; omega
    | some a => rw [dO_some]; unfold wR; rw [if_pos (h a (List.mem_cons_self ..))]; omega
theorem dRL_dO (l : List (Option Int)) : dRL (l.map dO) = 0 := by
  induction l with
  | nil => simp [dRL]
  | cons a l ih => rw [List.map_cons]; unfold dRL; rw [ih]; cases a <;> simp [dR]
theorem dRL_ints (l : List Int) : dRL (l.map D.int) = 0 := by
  induction l with
  | nil => simp [dRL]
  | cons a l ih => rw [List.map_cons]; unfold dRL dR; rw [ih]; rfl
theorem strOk_told : PyData.strOk "told" = true := by kernel_rfl
theorem wR_told (v : D) : wR (.tup [.str "told", v]) = wR v + 6 := by
  simp only [wR, wRL, strOk_told, if_true]
  have : (Str.ofString "told").cps.size = 4 := by kernel_rfl
  rw [this]; omega
theorem wR_ints {l : List Int} (h : ∀ x ∈ l, -999999999999 ≤ x ∧ x ≤ 999999999999) : wR (.tup (l.map D.int)) = l.length + 1 := by unfold wR; rw [wRL_ints h]
theorem dR_ints (l : List Int) : dR (.tup (l.map D.int)) = 1 := by unfold dR; rw [dRL_ints]
theorem dR_told (v : D) : dR (.tup [.str "told", v]) = dR v + 1 := by simp [dR, dRL]
end DL

set_option Elab.async false
set_option linter.all false
set_option maxRecDepth 100000
set_option maxHeartbeats 4000000
namespace DL
open PySem PySem.Spec PyProof.Rows L2
abbrev nSet (w : World) : Obj := { cls := .type "set", dict := none, data := .set #[] 0 (.fresh 0 0 (!w.params.followText "set-order")) }
section
variable {P : Program} {w : World} {A : Around} {E : Value → Shared → Prop} {s : Shared}
set_option maxHeartbeats 8000000 in
theorem set_of_list {l : Addr} {its : Array Value} (ns : List Int) {Q : Value → Shared → Prop} (hh : A.handled = none) (hl : s.heap.IsList l its) (hi : IntsAre its.toList ns) (hb : ns.length + 1 < scanBound)
    (q : ∀ (h' : Heap) (tk c : Nat), SetR w h' s.heap.objs.size (fun j => decide (j ∈ ns)) c → c ≤ ns.length → (∀ b o, s.heap.get? b = some o → h'.get? b = some o) → Q (.ref s.heap.objs.size) { s with heap := h', toks := tk }) : wpAny (model P w) A (call (.type "set") [.ref l]) Q E s := by
  have hz : its.size = ns.length := by have z := IntsAre.length hi; rwa [Array.length_toList] at z
  obtain ⟨c, tl, hmro⟩ := F.called_set.mro
  have hmade := F.called_set.made; have hsub := F.called_set.sub
  refine wpAny_call (codeAny_of_tree (show wpAny _ _ (callAny (.type "set") _) _ _ _ from ?_))
  refine wpAny_pure ⟨Code.quiet_builtin _ (by first | decide +kernel), codeAny_builtin F.entry_type_call ?_⟩
  rw [Around.under_plain (by exact weight_type_call_type "set" [.ref l] []) rfl]
  have h1 := F.called_set.notType; have h2 := F.called_set.canCreate; have hct := F.typeCall_set_1 (.ref l)
  repeat any_goals first | assumption | wp_step
  refine codeAny_mono (code_set_led1 (.ref l) (E := E) (Q₁ := fun ob z => ob = .ref s.heap.objs.size ∧ z = { s with heap := s.heap.push (nSet w) }) ⟨rfl, rfl⟩) fun r s₁ hr => ?_
  cases r with
  | error e => exact hr
  | ok fl =>
    cases fl with
    | ret obj =>
      obtain ⟨rfl, rfl⟩ := hr
      have hS : (s.heap.push (nSet w)).get? s.heap.objs.size = some (nSet w) := by exact Heap.get?_push_size _ rfl
      have hT : Shared.TypeIs { s with heap := s.heap.push (nSet w) } (.ref s.heap.objs.size) "set" := ⟨_, hS, rfl⟩
      have hli := F.called_set.init.lookup; have hbi := F.called_set.init.bind (.ref s.heap.objs.size)
      repeat any_goals first | assumption | wp_step
      refine codeAny_mono (codeAny_call_builtin (R := wants (fun v z => v = .none ∧ ∃ h' tk c, z = { s with heap := h', toks := tk } ∧ SetR w h' s.heap.objs.size (fun j => decide (j ∈ ns)) c ∧ c ≤ ns.length ∧ ∀ b o, s.heap.get? b = some o → h'.get? b = some o) E) F.called_set.init.plain F.entry_set_init (check_set_init_1 hT ?_)) fun r₂ s₂ hr₂ => ?_
      · obtain ⟨ol, hol, hcl, nl, hdl⟩ := hl
        obtain ⟨k1, k2, k3, k4⟩ := ol
        simp only at hcl hdl
        subst hcl; subst hdl
        have hol2 : (s.heap.push (nSet w)).get? l = some { cls := .type "list", dict := k2, data := .seq its nl, slots := k4 } := Heap.get?_push_of_some _ hol
        have e1 := F.sub_list_set; have e2 := F.sub_list_frozenset
        have e3 : (Value.type "list" == Value.type "dict") = false := by decide
        have hl1 : (s.heap.push (nSet w)).IsList l its := ⟨_, hol2, rfl, nl, rfl⟩
        unfold Builtin.«set.__init__» noKeywords Builtin.Frozenset.updateFrom
        generalize hPI : pyIter = PI
        wp_walk
        subst hPI
        refine wpAny_pyIter_list hl1 (wpAny_bind (wpAny_runValue ?_))
        have lt0 : l < s.heap.objs.size := Heap.lt_size hol
        have hh3 : A.in1.in1.in1.handled = none := by simp only [Around.in1]; simpa using hh
        have ne1 : l ≠ (s.heap.push (nSet w)).objs.size := by rw [Heap.size_push]; exact Nat.ne_of_lt (Nat.lt_add_right 1 lt0)
        have nf : s.heap.objs.size ∉ [(s.heap.push (nSet w)).objs.size, l] := by
          rw [Heap.size_push]
          intro z
          rcases List.mem_cons.mp z with z | z
          · exact absurd z (Nat.ne_of_lt (Nat.lt_succ_self _))
          · exact absurd (List.mem_singleton.mp z) (Nat.ne_of_gt lt0)
        have vals : ∀ (i : Nat) (v : Value), its[i]? = some v → ∃ k t, ns[i]? = some k ∧ v = .int k t := fun i v hv => by
          have lt : i < ns.length := by rw [← hz]; exact (Array.getElem?_eq_some_iff.mp hv).1
          obtain ⟨t, e⟩ := IntsAre.int_at hi i v (by rw [Array.getElem?_toList]; exact hv)
          exact ⟨ns[i], t, List.getElem?_eq_getElem lt, by rw [e, List.getD_eq_getElem?_getD, List.getElem?_eq_getElem lt] <;> rfl⟩
        refine set_update_ints ((Walks.list hh3 _ l ne1 its).toS) s.heap.objs.size nf ns hz hb vals (its.size - 0) 0 _ (by omega) (Nat.zero_le _) ⟨⟨_, Heap.get?_push_size _ rfl, rfl, rfl⟩, (hl1.push _)⟩ ?g0 ?g1
        case g0 => exact ⟨0, Nat.le_refl 0, setR_new_at (Heap.get?_push_of_some _ hS)⟩
        case g1 =>
          intro z c' hm hc' hS'
          obtain ⟨h', g2, d', tk', os'⟩ := z
          have eg : g2 = s.gens := hm.gens
          have ed : d' = s.drawn := hm.drawn
          have eo : os' = s.os := hm.os
          subst eg; subst ed; subst eo
          refine wpAny_pure (show wpAny _ _ (ret Value.none) _ _ _ from ?_)
          rw [hz] at hc'
          refine wpAny_pure ⟨rfl, h', tk', c', rfl, hS', hc', fun b o e => ?_⟩
          have hb0 : b < s.heap.objs.size := Heap.lt_size e
          have hb2 : b ≠ (s.heap.push (nSet w)).objs.size := by rw [Heap.size_push]; exact Nat.ne_of_lt (Nat.lt_add_right 1 hb0)
          refine hm.heap b o (fun z => ?_) (Heap.get?_push_of_some _ (Heap.get?_push_of_some _ e))
          rcases List.mem_cons.mp z with z | z
          · exact absurd z (Nat.ne_of_lt hb0)
          · exact hb2 (List.mem_singleton.mp z)
      · cases r₂ with
        | error e => exact hr₂
        | ok fl₂ =>
          cases fl₂ with
          | ret r =>
            obtain ⟨rfl, h', tk, c', rfl, hS', hc', hk'⟩ := hr₂
            repeat any_goals first | assumption | wp_step
            exact q _ _ _ hS' hc' hk'
          | _ => exact hr₂.elim
    | _ => exact hr.elim
end
/-- the ints of a list, put in order, each once -/
def insI (a : Int) : List Int → List Int
  | [] => [a]
  | b :: l => if a < b then a :: b :: l else if a = b then b :: l else b :: insI a l
def srtSet (l : List Int) : List Int := l.foldr insI []
theorem insI_mem (a : Int) : ∀ (l : List Int) (k : Int), k ∈ insI a l ↔ k = a ∨ k ∈ l
  | [], k => by simp [insI]
  | b :: l, k => by
    unfold insI
    split
    · simp
    · split
      · rename_i e; subst e; simp
      · rw [List.mem_cons, insI_mem a l k, List.mem_cons]
        constructor
        · rintro (h | h | h)
          · exact .inr (.inl h)
          · exact .inl h
          · exact .inr (.inr h)
        · rintro (h | h | h)
          · exact .inr (.inl h)
          · exact .inl h
          · exact .inr (.inr h)
theorem insI_srt (a : Int) : ∀ (l : List Int), l.Pairwise (· < ·) → (insI a l).Pairwise (· < ·)
  | [], _ => by simp [insI]
  | b :: l, h => by
    have h2 := List.pairwise_cons.mp h
    unfold insI
    split
    · rename_i e
      refine List.pairwise_cons.mpr ⟨fun c hc => ?_, h⟩
      rcases List.mem_cons.mp hc with rfl | hc
      · exact e
      · exact Int.lt_trans e (h2.1 c hc)
    · split
      · exact h
      · rename_i e1 e2
        refine List.pairwise_cons.mpr ⟨fun c hc => ?_, insI_srt a l h2.2⟩
        rcases (insI_mem a l c).mp hc with rfl | hc
        · omega
        · exact h2.1 c hc
theorem srtSet_mem (l : List Int) (k : Int) : k ∈ srtSet l ↔ k ∈ l := by
  unfold srtSet
  induction l with
  | nil => simp
  | cons a l ih => rw [List.foldr_cons, insI_mem, ih, List.mem_cons]
theorem srtSet_srt (l : List Int) : (srtSet l).Pairwise (· < ·) := by
  unfold srtSet
  induction l with
  | nil => exact .nil
  | cons a l ih => rw [List.foldr_cons]; exact insI_srt a _ ih
theorem srt_uniq : ∀ {a b : List Int}, a.Pairwise (· < ·) → b.Pairwise (· < ·) → (∀ k, k ∈ a ↔ k ∈ b) → a = b
  | [], [], _, _, _ => rfl
  | [], y :: b, _, _, h => absurd ((h y).mpr (List.mem_cons_self ..)) (by simp)
  | x :: a, [], _, _, h => absurd ((h x).mp (List.mem_cons_self ..)) (by simp)
  | x :: a, y :: b, ha, hb, h => by
    have ha2 := List.pairwise_cons.mp ha
    have hb2 := List.pairwise_cons.mp hb
    have e : x = y := by
      have h1 := (h x).mp (List.mem_cons_self ..)
      have h2 := (h y).mpr (List.mem_cons_self ..)
      rcases List.mem_cons.mp h1 with h1 | h1
      · exact h1
      · rcases List.mem_cons.mp h2 with h2 | h2
        · exact h2.symm
        · have := ha2.1 y h2; have := hb2.1 x h1; omega
    subst e
    congr 1
    refine srt_uniq ha2.2 hb2.2 fun k => ?_
    constructor
    · intro hk
      rcases List.mem_cons.mp ((h k).mp (List.mem_cons_of_mem _ hk)) with e | e
      · have := ha2.1 k hk; omega
      · exact e
    · intro hk
      rcases List.mem_cons.mp ((h k).mpr (List.mem_cons_of_mem _ hk)) with e | e
      · have := hb2.1 k hk; omega
      · exact e
theorem srtSet_len (l : List Int) : (srtSet l).length ≤ l.length := by
  unfold srtSet
  have : ∀ (a : Int) (m : List Int), (insI a m).length ≤ m.length + 1 := by
    intro a m
    induction m with
    | nil => simp [insI]
    | cons b m ih =>
      unfold insI
      split
      · simp
      · split
        · simp
        · simp only [List.length_cons]; omega
  induction l with
  | nil => simp
  | cons a l ih => rw [List.foldr_cons, List.length_cons]; have := this a (l.foldr insI []); omega
end DL

set_option Elab.async false
set_option linter.all false
set_option maxRecDepth 100000
set_option maxHeartbeats 4000000
namespace DL
open PySem PySem.Spec PyProof.Rows L2
theorem setR_card {w : World} {h : Heap} {a : Addr} {ns : List Int} {c : Nat} (R : SetR w h a (fun j => decide (j ∈ ns)) c) : c = (srtSet ns).length := by
  obtain ⟨o, es, ep, t, _, _, _, _, nd, hm, _, _, hn, _, _⟩ := R
  have hp : (es.toList.map keyOf).Perm (srtSet ns) := by
    refine (List.perm_ext_iff_of_nodup nd ((srtSet_srt ns).imp fun h => by omega)).mpr fun k => ?_
    rw [← hm k, srtSet_mem, decide_eq_true_eq]
  have := hp.length_eq
  rw [List.length_map, Array.length_toList] at this
  omega
/-- set(x) of ints, then something about it -/
def tSortSet (K : Fg) (ta : TE) : TE := fun σ H Q => ta σ H fun x H1 => ∃ (l : Addr) (ns : List Int), x = .ref l ∧ SqL K H1 l (ns.map V.int) ∧ ns.length ≤ 4000 ∧ (srtSet ns).length < 64 ∧ ∀ p, H1 p = none → Q (.ref p) (upd H1 p (.lst ((srtSet ns).map V.int)))
def tLenSetA (K : Fg) (ta : TE) : TE := fun σ H Q => ta σ H fun x H1 => ∃ (l : Addr) (ns : List Int), x = .ref l ∧ SqL K H1 l (ns.map V.int) ∧ ns.length ≤ 4000 ∧ Q (.int ((srtSet ns).length : Nat)) H1
section
variable {X : Cx} {a : Expr} {ta : TE} {p p2 q pos : Pos}
theorem pe_sortSet (hg : Gl X "sorted") (hm : X.mg "sorted" = none) (hg2 : Gl X "set") (hm2 : X.mg "set" = none) (ha : PE X a ta) (hc : X.calm = true := by kernel_rfl)
    (na : starEach [a] X.env = (false, eval a X.env) :: starEach [] X.env := by rfl) : PE X (.Call (.Name "sorted" p) [.Call (.Name "set" p2) [a] [] q] [] pos) (tSortSet X.K ta) := by
  refine ⟨fun pins s σ H Q I h => Call_ (ld_blt I hg hm boot_sorted ?_)⟩
  refine callWith_builtin1 (args_cons (Call_ (ld_blt I hg2 hm2 boot_set ?_)) rfl) rfl rfl
  refine callWith_type1 (args_cons (thn (ha.run pins s σ H _ I h) fun v s1 ⟨x, H1, I1, r1, q1⟩ => args_nil ?_) na) na rfl
  obtain ⟨l, ns, rfl, hq, hl, h64, q1⟩ := q1
  cases r1
  obtain ⟨its, r, pl, hz⟩ := I1.list hq
  have hlen : its.toArray.size = ns.length := by rw [List.size_toArray, ← r.length, List.length_map]
  refine set_of_list ns (I1.ok.hd hc) pl.isList (by simpa using r.ints) (by unfold scanBound; omega) fun h' tk c R hc' hk => args_nil ?_
  have hcd := setR_card R
  have I2 : Inv X pins σ H1 { s1 with heap := h', toks := tk } := I1.kept fun b o e => hk b o e
  refine sorted_set R (I2.ok.hd hc) (by omega) fun s' z out cc ms k g o hp hg hi hs hm hl => ?_
  have e1 : ms = srtSet ns := srt_uniq hs (srtSet_srt ns) fun k => by rw [hm k, srtSet_mem, decide_eq_true_eq]
  subst e1
  have hn : H1 z = none := I2.hok.fresh hp
  have hsz : ((srtSet ns).map V.int).length ≤ sizeLine := by rw [List.length_map, sizeLine_eq]; omega
  have J : Inv X pins σ (upd H1 z (.lst ((srtSet ns).map V.int))) { ({ s1 with heap := h', toks := tk } : Shared) with heap := s'.heap, gens := s'.gens, drawn := s'.drawn, toks := s'.toks } :=
    I2.call (ch := []) (Un.laid k hp hn) (I2.hok.laid k hp ⟨hsz, out.toList, cc, vals_of_ints hi, hg⟩) (by rw [g]; exact I2.bare) (fun _ z => nomatch z)
  have e : s' = { ({ s1 with heap := h', toks := tk } : Shared) with heap := s'.heap, gens := s'.gens, drawn := s'.drawn, toks := s'.toks } := by
    cases s'; cases s1; cases o; rfl
  rw [e]
  exact ⟨.ref z, _, J, rfl, q1 z hn⟩
theorem pe_lenSetA (hg : Gl X "len") (hm : X.mg "len" = none) (hg2 : Gl X "set") (hm2 : X.mg "set" = none) (ha : PE X a ta) (hc : X.calm = true := by kernel_rfl)
    (na : starEach [a] X.env = (false, eval a X.env) :: starEach [] X.env := by rfl) : PE X (.Call (.Name "len" p) [.Call (.Name "set" p2) [a] [] q] [] pos) (tLenSetA X.K ta) := by
  refine ⟨fun pins s σ H Q I h => Call_ (ld_blt I hg hm boot_len ?_)⟩
  refine callWith_builtin1 (args_cons (Call_ (ld_blt I hg2 hm2 boot_set ?_)) rfl) rfl rfl
  refine callWith_type1 (args_cons (thn (ha.run pins s σ H _ I h) fun v s1 ⟨x, H1, I1, r1, q1⟩ => args_nil ?_) na) na rfl
  obtain ⟨l, ns, rfl, hq, hl, q1⟩ := q1
  cases r1
  obtain ⟨its, r, pl, hz⟩ := I1.list hq
  have hlen : its.toArray.size = ns.length := by rw [List.size_toArray, ← r.length, List.length_map]
  refine set_of_list ns (I1.ok.hd hc) pl.isList (by simpa using r.ints) (by unfold scanBound; omega) fun h' tk c R hc' hk => args_nil ?_
  have hcd := setR_card R
  have I2 : Inv X pins σ H1 { s1 with heap := h', toks := tk } := I1.kept fun b o e => hk b o e
  obtain ⟨o, es, ep, t, ho, hex, hd, _, _, _, _, hf, hn, _, _⟩ := R
  refine call_len_set ho hex hd hf (by omega) ⟨.int ((srtSet ns).length : Nat), H1, I2.tok _, ⟨_, by rw [hn, hcd]⟩, q1⟩
end
def sortSetD (d : D) : Option (Bool × D) := match d with
  | .lst ds => match intsD ds with
    | some ns => if decide (ns.length ≤ 4000) && decide ((srtSet ns).length < 64) then some (true, .lst ((srtSet ns).map .int)) else none
    | none => none
  | _ => none
def lenSetD (d : D) : Option (Bool × D) := match d with
  | .lst ds => match intsD ds with
    | some ns => if decide (ns.length ≤ 4000) then some (false, .int ((srtSet ns).length : Nat)) else none
    | none => none
  | _ => none
/-- a value, then f of it -/
def cF (f : D → Option (Bool × D)) (c : CE) : CE := fun env => (c env).bind fun r => (R.of (f r.2.1)).bind fun q => .ok (q.1, q.2, r.2.2)
section
variable {X : Cx} {p : FP} {W : Wx} {a : Expr} {c : CE} {x1 x2 x3 pos : Pos}
theorem cF_pre {f : D → Option (Bool × D)} {σ : L2.St} {H : Hp} {Q : VK} (h : tX X p W (cF f c) σ H Q) : tX X p W c σ H fun v H1 => ∃ env B d z env' B', ER X.K X.mg p H1 B' σ env' ∧ Fx σ env H B H1 B' env' ∧ Rep X.K X.mg B' v d ∧ f d = some z ∧
    ∀ u H2 B2, ER X.K X.mg p H2 B2 σ env' → Fx σ env H B H2 B2 env' → Res X.K X.mg H H2 B2 z.1 u z.2 → Q u H2 := by
  obtain ⟨env, B, E, h⟩ := h
  refine ⟨env, B, E, (Goes.bind h).imp ?_⟩
  rintro ⟨m, d, e1⟩ h v H1 B1 E1 F1 r1
  obtain ⟨z, hz, h⟩ := of_goes h
  obtain ⟨B2, E2, F2, r2, _⟩ := freeze E E1 F1 r1
  exact ⟨env, B, d, z, e1, B2, E2, F2, r2, hz, h⟩
theorem res_new {σ : L2.St} {env env' : Env} {H B H1 B1 : Hp} {vs : List V} {ds : List D} (E : ER X.K X.mg p H1 B1 σ env') (F : Fx σ env H B H1 B1 env') (r : RepL X.K X.mg B1 vs ds) {q : Addr} (hq : H1 q = none) :
    ER X.K X.mg p (upd H1 q (.lst vs)) B1 σ env' ∧ Fx σ env H B (upd H1 q (.lst vs)) B1 env' ∧ Res X.K X.mg H (upd H1 q (.lst vs)) B1 true (.ref q) (.lst ds) := by
  have x := Ext.newH E.sub (o := .lst vs) hq
  refine ⟨E.ext x, F.trans x.fx, q, rfl, ⟨vs, upd_same, r⟩, none_of_sub E.sub hq, ?_⟩
  cases z : H q with
  | none => rfl
  | some u => exact absurd hq (F.dom q (by rw [z]; simp))
theorem de_sortSet (hm : X.mg "sorted" = none) (hm2 : X.mg "set" = none) (ha : DE X p W a c) (hc : X.calm = true := by kernel_rfl) (hg : X.env.kindOf "sorted" = some .globalImplicit := by kernel_rfl) (hg2 : X.env.kindOf "set" = some .globalImplicit := by kernel_rfl)
    (na : starEach [a] X.env = (false, eval a X.env) :: starEach [] X.env := by rfl) : DE X p W (.Call (.Name "sorted" x1) [.Call (.Name "set" x2) [a] [] x3] [] pos) (cF sortSetD c) := by
  refine pe_imp (pe_sortSet hg hm hg2 hm2 ha hc na) fun σ H Q h => ?_
  obtain ⟨env0, B0, E0, h⟩ := cF_pre h
  refine ⟨env0, B0, E0, h.imp fun r h v H1 B1 E1 F1 r1 => ?_⟩
  obtain ⟨env, B, d, z, e1, B2, E2, F2, r2, hz, k⟩ := h v H1 B1 E1 F1 r1
  unfold sortSetD at hz
  split at hz
  · rename_i ds
    split at hz
    · rename_i ns hns
      obtain ⟨hl, hz⟩ := ite_some hz
      cases hz
      simp only [Bool.and_eq_true, decide_eq_true_eq] at hl
      cases r2 with
      | lst h1 h2 =>
        have e := h2.ints hns
        subst e
        refine ⟨_, ns, rfl, SqL.of (E2.sub _ _ h1), hl.1, hl.2, fun q hq => ?_⟩
        obtain ⟨a1, a2, a3⟩ := res_new E2 F2 (repL_ints (srtSet ns)) hq
        exact k _ _ _ a1 a2 a3
    · cases hz
  · cases hz
theorem de_lenSet (hm : X.mg "len" = none) (hm2 : X.mg "set" = none) (ha : DE X p W a c) (hc : X.calm = true := by kernel_rfl) (hg : X.env.kindOf "len" = some .globalImplicit := by kernel_rfl) (hg2 : X.env.kindOf "set" = some .globalImplicit := by kernel_rfl)
    (na : starEach [a] X.env = (false, eval a X.env) :: starEach [] X.env := by rfl) : DE X p W (.Call (.Name "len" x1) [.Call (.Name "set" x2) [a] [] x3] [] pos) (cF lenSetD c) := by
  refine pe_imp (pe_lenSetA hg hm hg2 hm2 ha hc na) fun σ H Q h => ?_
  obtain ⟨env0, B0, E0, h⟩ := cF_pre h
  refine ⟨env0, B0, E0, h.imp fun r h v H1 B1 E1 F1 r1 => ?_⟩
  obtain ⟨env, B, d, z, e1, B2, E2, F2, r2, hz, k⟩ := h v H1 B1 E1 F1 r1
  unfold lenSetD at hz
  split at hz
  · rename_i ds
    split at hz
    · rename_i ns hns
      obtain ⟨hl, hz⟩ := ite_some hz
      cases hz
      cases r2 with
      | lst h1 h2 =>
        have e := h2.ints hns
        subst e
        exact ⟨_, ns, rfl, SqL.of (E2.sub _ _ h1), of_decide_eq_true hl, k _ _ _ E2 F2 (.int _)⟩
    · cases hz
  · cases hz
end
end DL

set_option Elab.async false
set_option linter.all false
set_option maxRecDepth 100000
set_option maxHeartbeats 4000000
namespace DL
open PySem PySem.Spec PyProof.Rows L2
def fStuck : FSem := fun _ => .stuck
theorem fnG_stuck {P : Program} {w : World} {K : Fg} {mg : MG} {base : Heap} {k np : Nat} {f : Addr} {fd : FuncData} {ps : List Str} {io : Option Nat} (hn : ps.length = np) : FnG P w K mg base k f fd ps (spD K mg np io fStuck) :=
  ⟨fun vs H Q E h => h.1.trans hn.symm, fun A outer s H args us vs Q E _ _ _ _ _ h => by
    obtain ⟨_, B, ds, q, _, _, _, h⟩ := h
    exact h.elim⟩
def rExtT (K : Fg) : V → List V → Hp → VK → Prop := fun x vs H Q => ∃ l b xs zs, x = .ref l ∧ vs = [.ref b] ∧ H l = some (.lst xs) ∧ SqT K H b zs ∧ xs.length + zs.length ≤ sizeLine ∧ Q .non (upd H l (.lst (xs ++ zs)))
def rExtA (K : Fg) : V → List V → Hp → VK → Prop := fun x vs H Q => rExtend x vs H Q ∨ rExtT K x vs H Q
theorem tuple_obj {h : Heap} {b : Addr} {its : Array Value} (p : h.IsTuple b its) : ∃ d n sl, h.get? b = some { cls := .type "tuple", dict := d, data := .seq its n, slots := sl } := by
  obtain ⟨⟨c1, c2, c3, c4⟩, e, hc, n, hd⟩ := p
  simp only at hc hd
  subst hc; subst hd
  exact ⟨c2, n, c4, e⟩
def zipL (a b : List D) : List D := List.zipWith (fun x y => D.tup [x, y]) a b
def zipD (a b : D) : Option (List D) := match a, b with
  | .lst xs, .lst ys => some (zipL xs ys)
  | .tup xs, .tup ys => some (zipL xs ys)
  | .ktup xs, .ktup ys => some (zipL xs ys)
  | .tup xs, .ktup ys => some (zipL xs ys)
  | .ktup xs, .tup ys => some (zipL xs ys)
  | _, _ => none
def iZip (f g : CE) : CI := fun env => (f env).bind fun r => (g r.2.2).bind fun q => (R.of (zipD r.2.1 q.2.1)).bind fun ds => .ok (ds, q.2.2)
theorem zipL_get {a b : List D} {i : Nat} {x y : D} (h1 : a[i]? = some x) (h2 : b[i]? = some y) : (zipL a b)[i]? = some (.tup [x, y]) := by
  unfold zipL
  rw [List.getElem?_zipWith, h1, h2]
theorem zipL_len (a b : List D) : (zipL a b).length = min a.length b.length := by unfold zipL; rw [List.length_zipWith]
section
variable {X : Cx} {p : FP} {W : Wx}
theorem iZip_ok {f g : CE} {σ : L2.St} {H : Hp} {R' : It → Hp → Prop} (h : tI X p W (iZip f g) σ H R') : tA X p W (aCons (oVal f) (aCons (oVal g) aNil)) σ H fun vs H' => ∃ v u d e ds env B env' B', vs = [v, u] ∧ zipD d e = some ds ∧ ER X.K X.mg p H' B' σ env' ∧ Fx σ env H B H' B' env' ∧ Rep X.K X.mg B' v d ∧ Rep X.K X.mg B' u e ∧ ∀ J, WalkD X.K X.mg J ds B' → R' J H' := by
  obtain ⟨env, B, E, h⟩ := h
  refine ⟨env, B, E, ?_⟩
  have h := Goes.bind h
  unfold aCons oVal aNil
  cases e : f env with
  | stuck => rw [e] at h; exact h
  | exc c => rw [e] at h; exact h
  | ok r =>
    rw [e] at h
    have h : Goes p W ((g r.2.2).bind fun q => (R.of (zipD r.2.1 q.2.1)).bind fun ds => .ok (ds, q.2.2)) _ := h
    have h := Goes.bind h
    cases e2 : g r.2.2 with
    | stuck => rw [e2] at h; simp only [R.bind_ok, e2]; exact h
    | exc c => rw [e2] at h; simp only [R.bind_ok, e2]; exact h
    | ok q =>
      rw [e2] at h
      obtain ⟨ds, hz, h⟩ := of_goes h
      simp only [R.bind_ok, e2]
      intro vs H' B' E' F' r'
      cases r' with
      | cons r1 rr =>
        cases rr with
        | cons r2 rr =>
          cases rr
          exact ⟨_, _, _, _, ds, env, B, _, B', rfl, hz, E', F', r1, r2, fun J w => h J H' B' E' F' w⟩
theorem walkD_zip {K : Fg} {mg : MG} {B : Hp} {a b : Addr} {vs us : List V} {ds es : List D} (h : SqL K B a vs) (h2 : SqL K B b us) (r : RepL K mg B vs ds) (r2 : RepL K mg B us es) : WalkD K mg (Itz K a b) (zipL ds es) B where
  goes := fun i H hi s => by
    rw [zipL_len] at hi
    have l1 : i < vs.length := by rw [r.length]; omega
    have l2 : i < us.length := by rw [r2.length]; omega
    exact ⟨vs, us, vs[i], us[i], sql_mono s h, sql_mono s h2, List.getElem?_eq_getElem l1, List.getElem?_eq_getElem l2⟩
  stops := fun H s => ⟨vs, us, sql_mono s h, sql_mono s h2, by rw [zipL_len, r.length, r2.length]; omega⟩
  yields := fun i H x H' hi s y => by
    obtain ⟨T, u1, u2, rfl, n, e, q1, q2⟩ := y
    obtain ⟨d, hd, rd⟩ := r.get' (q1 vs (sql_mono s h))
    obtain ⟨d2, hd2, rd2⟩ := r2.get' (q2 us (sql_mono s h2))
    exact ⟨_, zipL_get hd hd2, .inr ⟨T, _, _, rfl, n, e, rfl, .cons rd (.cons rd2 .nil)⟩⟩
theorem walkD_zipT {K : Fg} {mg : MG} {B : Hp} {a b : Addr} {vs us : List V} {ds es : List D} (h : SqT K B a vs) (h2 : SqT K B b us) (r : RepL K mg B vs ds) (r2 : RepL K mg B us es) : WalkD K mg (RZ.ItzT K a b) (zipL ds es) B where
  goes := fun i H hi s => by
    rw [zipL_len] at hi
    have l1 : i < vs.length := by rw [r.length]; omega
    have l2 : i < us.length := by rw [r2.length]; omega
    exact ⟨vs, us, vs[i], us[i], sqt_mono s h, sqt_mono s h2, List.getElem?_eq_getElem l1, List.getElem?_eq_getElem l2⟩
  stops := fun H s => ⟨vs, us, sqt_mono s h, sqt_mono s h2, by rw [zipL_len, r.length, r2.length]; omega⟩
  yields := fun i H x H' hi s y => by
    obtain ⟨T, u1, u2, rfl, n, e, q1, q2⟩ := y
    obtain ⟨d, hd, rd⟩ := r.get' (q1 vs (sqt_mono s h))
    obtain ⟨d2, hd2, rd2⟩ := r2.get' (q2 us (sqt_mono s h2))
    exact ⟨_, zipL_get hd hd2, .inr ⟨T, _, _, rfl, n, e, rfl, .cons rd (.cons rd2 .nil)⟩⟩
theorem di_zip {a b : Expr} {elts : List Expr} {kk : Nat} {tpos : Pos} {f g : CE} {q pos : Pos} (hg : Gl X "zip") (hm : X.mg "zip" = none) (ha : DE X p W a f) (hb : DE X p W b g)
    (hs : starEach [a, b] X.env = (false, eval a X.env) :: starEach [b] X.env := by rfl) (hs2 : starEach [b] X.env = (false, eval b X.env) :: starEach [] X.env := by rfl) (hpl : (backTo pos (starEach [b] X.env)).any (·.1) = false := by rfl) : DI X p W (.Tuple elts kk tpos) (.Call (.Name "zip" q) [a, b] [] pos) (iZip f g) := by
  refine pi_imp (RZ.pi_zipA hg hm (da_cons (db_val ha) (da_cons (db_val hb) da_nil hs2) hs) hs hpl) fun σ H Q h => ?_
  obtain ⟨env, B, E, h⟩ := iZip_ok h
  refine ⟨env, B, E, h.imp fun r h vs H' B' E' F' r' => ?_⟩
  obtain ⟨v, u, d, e, ds, env0, B0, env', B1, rfl, hz, E1, F1, r1, r2, h⟩ := h vs H' B' E' F' r'
  unfold zipD at hz
  split at hz <;> first | (cases hz; done) | skip
  · cases hz
    cases r1 with | lst a1 a2 => cases r2 with | lst b1 b2 =>
    exact ⟨_, _, _, _, rfl, .inl ⟨SqL.of (E1.sub _ _ a1), SqL.of (E1.sub _ _ b1), h _ (walkD_zip (SqL.of a1) (SqL.of b1) a2 b2)⟩⟩
  · cases hz
    cases r1 with | tup a1 a2 => cases r2 with | tup b1 b2 =>
    exact ⟨_, _, _, _, rfl, .inr ⟨SqT.of (E1.sub _ _ a1), SqT.of (E1.sub _ _ b1), h _ (walkD_zipT (SqT.of a1) (SqT.of b1) a2 b2)⟩⟩
  · cases hz
    cases r1 with | ktup a1 a2 => cases r2 with | ktup b1 b2 =>
    exact ⟨_, _, _, _, rfl, .inr ⟨sqt_mono E1.sub a1, sqt_mono E1.sub b1, h _ (walkD_zipT a1 b1 a2 b2)⟩⟩
  · cases hz
    cases r1 with | tup a1 a2 => cases r2 with | ktup b1 b2 =>
    exact ⟨_, _, _, _, rfl, .inr ⟨SqT.of (E1.sub _ _ a1), sqt_mono E1.sub b1, h _ (walkD_zipT (SqT.of a1) b1 a2 b2)⟩⟩
  · cases hz
    cases r1 with | ktup a1 a2 => cases r2 with | tup b1 b2 =>
    exact ⟨_, _, _, _, rfl, .inr ⟨sqt_mono E1.sub a1, SqT.of (E1.sub _ _ b1), h _ (walkD_zipT a1 (SqT.of b1) a2 b2)⟩⟩
def gTL (gs : Gts) : Gt := fun d env => match d with
  | .lst ds => gs ds env
  | _ => none
theorem dg_lst {es : List Expr} {k n : Nat} {pos : Pos} {ts : List Nat} {gs : Gts} (hc : X.calm = true) (h : DGs X p es ts gs) (hl : ∀ ds env env', gs ds env = some env' → ds.length = n)
    (hn : (assignEach es X.env).length = n := by rfl) (hst : (assignEach es X.env).findIdx? (·.1) = none := by rfl) : DG X p (.Tuple es k pos) ts (gTL gs) := by
  refine pg_imp (pg_lst hc h hn hst) ?_
  rintro v σ H Q ⟨env, B, d, env', E, r, hg, q⟩
  unfold gTL at hg
  split at hg
  · cases r with
    | lst h1 h2 => exact ⟨_, _, rfl, SqL.of (E.sub _ _ h1), by rw [h2.length]; exact hl _ _ _ hg, env, B, _, env', E, h2, hg, q⟩
  · cases hg
def dspE (ks : List Str) (ds : List D) : List (D × D) := List.zipWith (fun k d => (D.str k, d)) ks ds
def cDsp (ks : List Str) (as : CA) : CE := fun env => (as env).bind fun r => (R.of (frzL r.1 r.2)).bind fun q => if decide (ks.length ≤ 15) && decide (ks.Nodup) && decide (q.1.length = ks.length) then .ok (true, .dct false (dspE ks q.1), q.2) else .stuck
def pairsK (ks : List Str) (vs : List V) : List (Key × V) := List.zipWith (fun k v => ((Sum.inr k : Key), v)) ks vs
structure DPs (X : Cx) (p : FP) (W : Wx) (pos : Pos) (keys : List (Option Expr)) (values : List Expr) (ks : List Str) (as : CA) : Prop where
  ex : ∃ trs, PPs X pos keys values trs ∧ ∀ σ H Q, tA X p W as σ H (fun vs H' => Q ((pairsK ks vs).map fun kv => (kV kv.1, kv.2)) H') → tPairs trs σ H Q
theorem dp_nil {pos : Pos} : DPs X p W pos [] [] [] aNil := ⟨[], pps_nil, fun σ H Q ⟨env, B, E, h⟩ => h [] H B E Fx.rfl' .nil⟩
theorem dp_cons {pos : Pos} {k : Str} {v ke : Expr} {keys : List (Option Expr)} {values : List Expr} {ks : List Str} {f : CB} {as : CA} (hk : PE X ke (tC (.str k))) (hv : DB X p W v f) (hr : DPs X p W pos keys values ks as) :
    DPs X p W pos (some ke :: keys) (v :: values) (k :: ks) (aCons f as) := by
  obtain ⟨trs, h1, h2⟩ := hr.ex
  refine ⟨_, pps_cons hk hv h1, ?_⟩
  rintro σ H Q ⟨env, B, E, h⟩
  refine ⟨env, B, E, (Goes.bind h).imp ?_⟩
  rintro ⟨o, e1⟩ h v1 H1 B1 E1 F1 r1
  refine h2 σ H1 _ ⟨e1, B1, E1, (Goes.bind h).imp ?_⟩
  rintro ⟨os, e2⟩ h vs H2 B2 E2 F2 r2
  exact h (v1 :: vs) H2 B2 E2 (F1.trans F2) (.cons (r1.mono F2.base) r2)
end
end DL

set_option Elab.async false
set_option linter.all false
set_option maxRecDepth 100000
set_option maxHeartbeats 4000000
namespace AutoSeqT
open PySem PySem.Calls AutoSeq1
theorem ext_tup (l : Addr) (its : Array Value) (n : Nat) (b : Addr) (its2 : Array Value) (n2 : Nat) (dd : Option Addr) (sl : Array (Option Value)) (hs0 : ¬(!its.isEmpty && Builtin.List.listTooLong (its.size + its2.size)) = true) (hs1 : its.size ≤ sizeLine) (hs2 : its.size + its2.size ≤ sizeLine + 1) :
    Meets (Builtin.«list.extend» ⟨[.ref l, .ref b], []⟩) (fun _ R s => s.heap.get? l = some { cls := .type "list", dict := none, data := .seq its n, slots := #[] } ∧ s.heap.get? b = some { cls := .type "tuple", dict := dd, data := .seq its2 n2, slots := sl } ∧
      R (.ok (.ret Value.none)) { s with heap := s.heap.update l (Obj.mapSeq fun x => x ++ its2), toks := s.toks }) := by
  refine .of_wp fun prog w A R s h => ?_
  obtain ⟨hp, g, d, tk, os⟩ := s
  obtain ⟨hl, hb, h⟩ := h
  have f1 := idx_int; have f2 := sub_tuple_tuple; have f3 := sub_list_list; have f4 := sub_tuple_list
  have f5 := sub_list_tuple
  have hz' : (its ++ its2).size ≤ sizeLine + 1 := by rw [Array.size_append]; omega
  wp_walk using (wpAny_updateSeq hl rfl (hz := hs1) (_hz' := hz')), wpAny_loadPart' hl, wpAny_loadPart' hb
  exact ⟨_, rfl, h⟩
end AutoSeqT
namespace DL
open PySem PySem.Spec PyProof.Rows L2
theorem mt_extA {X : Cx} : MtM X "list.extend" (rExtA X.K) := by
  intro pins s σ H x vs v us Q I rx rv h
  rcases h with h | h
  · exact mt_extend pins s σ H x vs v us Q I rx rv h
  obtain ⟨l, b, xs, zs, rfl, rfl, hH, hB, hz, q⟩ := h
  cases rx
  obtain ⟨u, rfl, ru⟩ := rv.one
  cases ru
  obtain ⟨z, its, n, r, hl, e⟩ := I.lstM hH
  obtain ⟨its2, r2, pt, hz2⟩ := I.tuple hB
  obtain ⟨dd, n2, sl, e2⟩ := tuple_obj pt
  have l1 := r.length
  have l2 := r2.length
  have hsz : its.toArray.size + its2.toArray.size ≤ sizeLine := by rw [List.size_toArray, List.size_toArray]; omega
  have hlong : ¬ (!its.toArray.isEmpty && Builtin.List.listTooLong (its.toArray.size + its2.toArray.size)) = true := by
    rw [notLongL hsz, Bool.and_false]; decide
  refine call_meets F.slot_list_extend ⟨_, e, rfl⟩ F.entry_list_extend (F.args_list_extend_2 _ _) (AutoSeqT.ext_tup l its.toArray n b its2.toArray n2 dd sl hlong (by omega) (by omega)) ⟨e, e2, ?_⟩
  exact ⟨.non, _, I.lset (its' := its ++ its2) hH e (by simp) (r.append r2) (by rw [List.length_append]; omega), rfl, q⟩
def extD2 : G1 := fun dl d => match dl, d with
  | .lst ds, .lst es => if okL (ds.length + es.length) then some (.lst (ds ++ es), .non) else none
  | .lst ds, .tup es => if okL (ds.length + es.length) then some (.lst (ds ++ es), .non) else none
  | _, _ => none
theorem vm_ext2 {K : Fg} {mg : MG} : VM1 K mg (rExtA K) extD2 := by
  intro dl d dl' res hg a y H B Q c s r n k
  unfold extD2 at hg
  split at hg
  · obtain ⟨hz, hg⟩ := ite_some hg
    cases hg
    obtain ⟨vs, e, rl⟩ := c
    cases r with
    | lst h1 h2 => exact .inl ⟨a, _, vs, _, rfl, rfl, e, s _ _ h1, by rw [rl.length, h2.length]; exact of_decide_eq_true hz, k _ _ ⟨_, upd_same, rl.append h2⟩ .non⟩
  · obtain ⟨hz, hg⟩ := ite_some hg
    cases hg
    obtain ⟨vs, e, rl⟩ := c
    cases r with
    | tup h1 h2 => exact .inr ⟨a, _, vs, _, rfl, rfl, e, SqT.of (s _ _ h1), by rw [rl.length, h2.length]; exact of_decide_eq_true hz, k _ _ ⟨_, upd_same, rl.append h2⟩ .non⟩
  · cases hg
theorem putK_new {k : Key} {v : V} : ∀ {l : List (Key × V)}, (∀ x ∈ l, x.1 ≠ k) → putK l k v = l ++ [(k, v)]
  | l, h => by
    unfold putK
    rw [if_neg]
    intro q
    obtain ⟨x, hx, e⟩ := List.any_eq_true.mp q
    exact h x hx (by simpa using e)
theorem merge_new : ∀ (more l : List (Key × V)), ((l ++ more).map (·.1)).Nodup → mergeK l more = l ++ more
  | [], l, _ => by rw [List.append_nil]; rfl
  | (k, v) :: more, l, h => by
    have hk : ∀ x ∈ l, x.1 ≠ k := by
      intro x hx e
      rw [List.map_append, List.nodup_append] at h
      exact h.2.2 x.1 (List.mem_map.mpr ⟨x, hx, rfl⟩) k (by simp) e
    have e : mergeK l ((k, v) :: more) = mergeK (putK l k v) more := rfl
    rw [e, putK_new hk, merge_new more (l ++ [(k, v)]) (by simpa using h), List.append_assoc]
    rfl
theorem pairsK_keys : ∀ (ks : List Str) (vs : List V), ((pairsK ks vs).map (·.1)).Sublist (ks.map fun k => (Sum.inr k : Key))
  | [], _ => by simp [pairsK]
  | k :: ks, [] => by simp [pairsK]
  | k :: ks, v :: vs => by
    have := pairsK_keys ks vs
    unfold pairsK at this ⊢
    rw [List.zipWith_cons_cons, List.map_cons, List.map_cons]
    exact this.cons_cons _
theorem repK_pairs {K : Fg} {mg : MG} {B : Hp} : ∀ {ks : List Str} {vs : List V} {ds : List D}, RepL K mg B vs ds → RepK K mg B (pairsK ks vs) (dspE ks ds)
  | [], _, _, _ => by unfold pairsK dspE; simp only [List.zipWith_nil_left]; exact .nil
  | k :: ks, _, _, .nil => by unfold pairsK dspE; simp only [List.zipWith_nil_right]; exact .nil
  | k :: ks, _, _, .cons r rr => by
    have := repK_pairs (ks := ks) rr
    unfold pairsK dspE at this ⊢
    rw [List.zipWith_cons_cons, List.zipWith_cons_cons]
    exact .cons (k := Sum.inr k) r this
section
variable {X : Cx} {p : FP} {W : Wx}
theorem de_dsp {pos : Pos} {keys : List (Option Expr)} {values : List Expr} {ks : List Str} {as : CA} (hd : DPs X p W pos keys values ks as) (hall : keys.all (·.isSome) = true := by rfl) (hl : keys.length = values.length := by rfl) (h0 : keys ≠ [] := by exact fun h => nomatch h) (h15 : keys.length ≤ 15 := by decide) :
    DE X p W (.Dict keys values pos) (cDsp ks as) := by
  obtain ⟨trs, h1, h2⟩ := hd.ex
  refine pe_imp (pe_disp h1 hall hl h0 h15) ?_
  rintro σ H Q ⟨env, B, E, h⟩ p0 hp0
  have x0 := Ext.newH E.sub (o := .dK []) hp0
  have no0 : ¬ Owned σ env p0 := fun q => by obtain ⟨o, e⟩ := E.there q; rw [hp0] at e; cases e
  refine h2 σ _ _ ⟨env, B, E.ext x0, (Goes.bind h).imp ?_⟩
  rintro ⟨os, e1⟩ h vs H2 B2 E2 F2 r2
  obtain ⟨⟨ds, e2⟩, hf, h⟩ := of_goes h
  obtain ⟨hq, h⟩ := if_goes h
  simp only [Bool.and_eq_true, decide_eq_true_eq] at hq
  obtain ⟨B3, E3, F3, r3⟩ := E2.frzL r2 hf
  have F23 := F2.trans F3
  have FF := x0.fx.trans F23
  have hat : H2 p0 = some (.dK []) := F2.keep _ _ upd_same no0
  have no3 : ¬ Owned σ e2 p0 := fun q => no0 (F23.own _ q)
  have b0 : B p0 = none := by
    cases e : B p0 with
    | none => rfl
    | some o => rw [E.sub _ _ e] at hp0; cases hp0
  have n3 : B3 p0 = none := by
    cases e : B3 p0 with
    | none => rfl
    | some o =>
      rcases F23.new _ _ e with q | q | q
      · rw [b0] at q; cases q
      · rw [upd_same] at q; cases q
      · exact absurd q no0
  have hmk : mergeK [] (pairsK ks vs) = pairsK ks vs := by
    have := merge_new (pairsK ks vs) [] (by
      rw [List.nil_append]
      exact (pairsK_keys ks vs).nodup (List.Pairwise.map _ (fun a b hab e => hab (Sum.inr.inj e)) hq.1.2))
    rwa [List.nil_append] at this
  refine ⟨hat, pairsK ks vs, rfl, ?_, ?_⟩
  · have : (pairsK ks vs).length ≤ ks.length := by unfold pairsK; rw [List.length_zipWith]; omega
    omega
  rw [hmk]
  refine h (.ref p0) _ B3 (E3.priv n3 (E.h0 hp0) no3) ⟨fun a o e n => ?_, fun a e => ?_, FF.base, FF.new, FF.own⟩ ⟨p0, rfl, ⟨_, upd_same, repK_pairs r3⟩, n3, hp0⟩
  · have : a ≠ p0 := fun z => by rw [z, hp0] at e; cases e
    rw [upd_ne this]; exact FF.keep a o e n
  · by_cases z : a = p0
    · rw [z, upd_same]; simp
    · rw [upd_ne z]; exact FF.dom a e
end
end DL

set_option Elab.async false
set_option linter.all false
set_option maxRecDepth 100000
set_option maxHeartbeats 4000000
namespace DL
open PySem L2
section
variable {f g c d : CE} {env e : Env} {m : Bool} {x y v : D} {ds : List D} {i n : Nat} {ks : List Str} {as : CA} {os : List Op} {t : CT} {s : CS}
def kZip2 (x : D) : Bool × D × Env → R (List D × Env) := fun q => (R.of (zipD x q.2.1)).bind (kI q.2.2)
def kZip (g : CE) : Bool × D × Env → R (List D × Env) := fun r => (g r.2.2).bind (kZip2 r.2.1)
@[simp] theorem ev_iZip : iZip f g env = (f env).bind (kZip g) := nr rfl
@[simp] theorem ev_kZip : kZip g (m, x, e) = (g e).bind (kZip2 x) := nr rfl
@[simp] theorem ev_kZip2 : kZip2 v (m, x, e) = (R.of (zipD v x)).bind (kI e) := nr rfl
@[simp] theorem ev_zipLL {a b : List D} : zipD (.lst a) (.lst b) = some (zipL a b) := nr rfl
@[simp] theorem ev_zipTT {a b : List D} : zipD (.tup a) (.tup b) = some (zipL a b) := nr rfl
def kF3 (e : Env) : Bool × D → R (Bool × D × Env) := fun q => .ok (q.1, q.2, e)
def kFv (h : D → Option (Bool × D)) : Bool × D × Env → R (Bool × D × Env) := fun r => (R.of (h r.2.1)).bind (kF3 r.2.2)
@[simp] theorem ev_cF {h : D → Option (Bool × D)} : cF h c env = (c env).bind (kFv h) := nr rfl
@[simp] theorem ev_kFv {h : D → Option (Bool × D)} : kFv h (m, x, e) = (R.of (h x)).bind (kF3 e) := nr rfl
@[simp] theorem ev_kF3 : kF3 e (m, x) = .ok (m, x, e) := nr rfl
@[simp] theorem ev_gTL {gs : Gts} : gTL gs (.lst ds) env = gs ds env := nr rfl
def kDsp2 (ks : List Str) : List D × Env → R (Bool × D × Env) := fun q => if decide (ks.length ≤ 15) && decide (ks.Nodup) && decide (q.1.length = ks.length) then .ok (true, .dct false (dspE ks q.1), q.2) else .stuck
def kDsp (ks : List Str) : List Op × Env → R (Bool × D × Env) := fun r => (R.of (frzL r.1 r.2)).bind (kDsp2 ks)
@[simp] theorem ev_cDsp : cDsp ks as env = (as env).bind (kDsp ks) := nr rfl
@[simp] theorem ev_kDsp : kDsp ks (os, e) = (R.of (frzL os e)).bind (kDsp2 ks) := nr rfl
theorem ev_kDsp2 (h : (decide (ks.length ≤ 15) && decide (ks.Nodup) && decide (ds.length = ks.length)) = true) : kDsp2 ks (ds, e) = .ok (true, .dct false (dspE ks ds), e) := if_pos h
@[simp] theorem ev_cM0 {T : String} {h : G0} : cM0 T i h env = match own? env[i]? with | some (io, dl) => (match isTy T dl with | true => cMut i (h dl) io env | false => .stuck) | none => .stuck := nr rfl
theorem ev_pop {l : List D} {x : D} : popD (.lst (l ++ [x])) = some (.lst l, x) := by
  unfold popD
  simp
theorem ev_ext2T {a b : List D} (h : a.length + b.length ≤ 16777216) : extD2 (.lst a) (.tup b) = some (.lst (a ++ b), .non) := by unfold extD2; simp only; rw [if_pos (okL_le' h)]
theorem ev_addIv (a b : Int) : addI (.int a) (.int b) = some (false, .int (a + b)) := rfl
@[simp] theorem ev_sWh : sWhile n t s env = whL t s n env := nr rfl
end
theorem whL_inv {t : CT} {s : CS} (P : Nat → Env → Prop) (Q : Env → Prop) (hs : ∀ k e, P k e → (∃ e1, t e = .ok (false, e1) ∧ Q e1) ∨ (∃ e1 e2 k', t e = .ok (true, e1) ∧ s e1 = .ok (.nx, e2) ∧ k' < k ∧ P k' e2)) :
    ∀ (n k : Nat) (e : Env), k < n → P k e → ∃ e', whL t s n e = .ok (.nx, e') ∧ Q e'
  | 0, _, _, h, _ => absurd h (by omega)
  | n + 1, k, e, h, p => by
    have hw : whL t s (n + 1) e = (t e).bind fun r => match r.1 with
      | true => (s r.2).bind fun q => match q.1 with
        | .nx => whL t s n q.2
        | .ct => whL t s n q.2
        | .bk => .ok (.nx, q.2)
        | .rt m d => .ok (.rt m d, q.2)
      | false => .ok (.nx, r.2) := rfl
    rcases hs k e p with ⟨e1, h1, q⟩ | ⟨e1, e2, k', h1, h2, hk, p2⟩
    · exact ⟨e1, by rw [hw, h1]; rfl, q⟩
    · obtain ⟨e', h3, q⟩ := whL_inv P Q hs n k' e2 (by omega) p2
      exact ⟨e', by rw [hw, h1]; simp only [R.bind_ok]; rw [h2]; simp only [R.bind_ok]; exact h3, q⟩
theorem eq_while {β : Type} {t : CT} {s : CS} {n : Nat} {env : Env} {K : Fl × Env → R β} {r : R β} (P : Nat → Env → Prop) (Q : Env → Prop) (k : Nat) (hk : k < n) (h0 : P k env)
    (hs : ∀ k e, P k e → (∃ e1, t e = .ok (false, e1) ∧ Q e1) ∨ (∃ e1 e2 k', t e = .ok (true, e1) ∧ s e1 = .ok (.nx, e2) ∧ k' < k ∧ P k' e2)) (hr : ∀ e, Q e → K (.nx, e) = r) : (whL t s n env).bind K = r := by
  obtain ⟨e', h1, h2⟩ := whL_inv P Q hs n k env hk h0
  rw [h1]; exact hr e' h2
def kU2 (own : List Nat) : List D × Env → R (List D × Env) := fun a => .ok (a.1, wipeE a.2 own)
def kU1 (own vs1 : List Nat) (g1 : Gt) (t1 : CT) (f : CE) (acc : List D) : List D × Env → R (List D × Env) := fun q => (compL vs1 g1 t1 f q.1 (wipeE q.2 vs1) acc).bind (kU2 own)
def kU0 (own vs1 : List Nat) (g1 : Gt) (t1 : CT) (f : CE) (it1 : CI) (acc : List D) : Bool × Env → R (List D × Env) := fun r => match r.1 with
  | true => (nox (it1 r.2)).bind (kU1 own vs1 g1 t1 f acc)
  | false => .ok (acc, wipeE r.2 own)
def kUt (own : List Nat) (tt : CT) (vs1 : List Nat) (g1 : Gt) (t1 : CT) (f : CE) (it1 : CI) (acc : List D) : Env → R (List D × Env) := fun e => (nox (tt e)).bind (kU0 own vs1 g1 t1 f it1 acc)
def c2step (own : List Nat) (g : Gt) (tt : CT) (vs1 : List Nat) (g1 : Gt) (t1 : CT) (f : CE) (it1 : CI) (d : D) (env : Env) (acc : List D) : R (List D × Env) := (R.of (g d env)).bind (kUt own tt vs1 g1 t1 f it1 acc)
@[simp] theorem ev_c2step {own : List Nat} {g : Gt} {tt : CT} {vs1 : List Nat} {g1 : Gt} {t1 : CT} {f : CE} {it1 : CI} {d : D} {env : Env} {acc : List D} : c2step own g tt vs1 g1 t1 f it1 d env acc = (R.of (g d env)).bind (kUt own tt vs1 g1 t1 f it1 acc) := nr rfl
@[simp] theorem ev_kUt {own : List Nat} {tt : CT} {vs1 : List Nat} {g1 : Gt} {t1 : CT} {f : CE} {it1 : CI} {e : Env} {acc : List D} : kUt own tt vs1 g1 t1 f it1 acc e = (nox (tt e)).bind (kU0 own vs1 g1 t1 f it1 acc) := nr rfl
@[simp] theorem ev_kU0t {own vs1 : List Nat} {g1 : Gt} {t1 : CT} {f : CE} {it1 : CI} {e : Env} {acc : List D} : kU0 own vs1 g1 t1 f it1 acc (true, e) = (nox (it1 e)).bind (kU1 own vs1 g1 t1 f acc) := nr rfl
@[simp] theorem ev_kU0f {own vs1 : List Nat} {g1 : Gt} {t1 : CT} {f : CE} {it1 : CI} {e : Env} {acc : List D} : kU0 own vs1 g1 t1 f it1 acc (false, e) = .ok (acc, wipeE e own) := nr rfl
@[simp] theorem ev_kU1 {own vs1 : List Nat} {g1 : Gt} {t1 : CT} {f : CE} {ds : List D} {e : Env} {acc : List D} : kU1 own vs1 g1 t1 f acc (ds, e) = (compL vs1 g1 t1 f ds (wipeE e vs1) acc).bind (kU2 own) := nr rfl
@[simp] theorem ev_kU2 {own : List Nat} {e : Env} {acc : List D} : kU2 own (acc, e) = .ok (acc, wipeE e own) := nr rfl
theorem compL2_cons {own : List Nat} {g : Gt} {tt : CT} {vs1 : List Nat} {g1 : Gt} {t1 : CT} {f : CE} {it1 : CI} {d : D} {ds : List D} {env e' : Env} {acc acc' : List D} (h : c2step own g tt vs1 g1 t1 f it1 d env acc = .ok (acc', e')) :
    compL2 own g tt vs1 g1 t1 f it1 (d :: ds) env acc = compL2 own g tt vs1 g1 t1 f it1 ds e' acc' := by
  unfold c2step kUt kU0 kU1 kU2 at h
  have he : compL2 own g tt vs1 g1 t1 f it1 (d :: ds) env acc = (R.of (g d env)).bind fun e1 => (nox (tt e1)).bind fun r => match r.1 with
    | true => (nox (it1 r.2)).bind fun q => (compL vs1 g1 t1 f q.1 (wipeE q.2 vs1) acc).bind fun a => compL2 own g tt vs1 g1 t1 f it1 ds (wipeE a.2 own) a.1
    | false => compL2 own g tt vs1 g1 t1 f it1 ds (wipeE r.2 own) acc := rfl
  rw [he]
  cases h1 : R.of (g d env) with
  | ok e1 =>
    rw [h1] at h
    simp only [R.bind_ok] at h ⊢
    cases h2 : nox (tt e1) with
    | ok r =>
      rw [h2] at h
      simp only [R.bind_ok] at h ⊢
      cases h3 : r.1 with
      | true =>
        rw [h3] at h
        simp only at h ⊢
        cases h4 : nox (it1 r.2) with
        | ok q =>
          rw [h4] at h
          simp only [R.bind_ok] at h ⊢
          cases h5 : compL vs1 g1 t1 f q.1 (wipeE q.2 vs1) acc with
          | ok a =>
            rw [h5] at h
            simp only [R.bind_ok, R.ok.injEq, Prod.mk.injEq] at h ⊢
            rw [h.1, h.2]
          | exc c => rw [h5] at h; cases h
          | stuck => rw [h5] at h; cases h
        | exc c => rw [h4] at h; cases h
        | stuck => rw [h4] at h; cases h
      | false =>
        rw [h3] at h
        simp only [R.ok.injEq, Prod.mk.injEq] at h ⊢
        rw [h.1, h.2]
    | exc c => rw [h2] at h; cases h
    | stuck => rw [h2] at h; cases h
  | exc c => rw [h1] at h; cases h
  | stuck => rw [h1] at h; cases h
theorem compL2_pure {own : List Nat} {g : Gt} {tt : CT} {vs1 : List Nat} {g1 : Gt} {t1 : CT} {f : CE} {it1 : CI} {env : Env} (φ : D → List D) (M : Nat) : ∀ (ds : List D) (acc : List D), (∀ d ∈ ds, (φ d).length ≤ M) → acc.length + M * ds.length ≤ 16000000 →
    (∀ d ∈ ds, ∀ acc : List D, acc.length ≤ 16000000 → c2step own g tt vs1 g1 t1 f it1 d env acc = .ok (acc ++ φ d, env)) → compL2 own g tt vs1 g1 t1 f it1 ds env acc = .ok (acc ++ ds.flatMap φ, env)
  | [], acc, _, _, _ => by rw [List.flatMap_nil, List.append_nil]; rfl
  | d :: ds, acc, hM, hl, h => by
    rw [List.length_cons, Nat.mul_add, Nat.mul_one] at hl
    have h1 := hM d (List.mem_cons_self ..)
    rw [compL2_cons (h d (List.mem_cons_self ..) acc (by omega)), compL2_pure φ M ds (acc ++ φ d) (fun d hd => hM d (List.mem_cons_of_mem _ hd)) (by rw [List.length_append]; omega) fun d hd => h d (List.mem_cons_of_mem _ hd)]
    rw [List.flatMap_cons, List.append_assoc]
def kComp22 (e : Env) (own : List Nat) : List D × Env → R (Bool × D × Env) := fun q => .ok (true, .lst q.1, restE e q.2 own)
def kComp21 (own : List Nat) (g : Gt) (tt : CT) (vs1 : List Nat) (g1 : Gt) (t1 : CT) (f : CE) (it1 : CI) : List D × Env → R (Bool × D × Env) := fun r => (compL2 own g tt vs1 g1 t1 f it1 r.1 (wipeE r.2 own) []).bind (kComp22 r.2 own)
@[simp] theorem ev_cComp2 {own : List Nat} {g : Gt} {tt : CT} {vs1 : List Nat} {g1 : Gt} {t1 : CT} {f : CE} {it1 it : CI} {env : Env} : cComp2 own g tt vs1 g1 t1 f it1 it env = (it env).bind (kComp21 own g tt vs1 g1 t1 f it1) := nr rfl
@[simp] theorem ev_kComp21 {own : List Nat} {g : Gt} {tt : CT} {vs1 : List Nat} {g1 : Gt} {t1 : CT} {f : CE} {it1 : CI} {ds : List D} {e : Env} : kComp21 own g tt vs1 g1 t1 f it1 (ds, e) = (compL2 own g tt vs1 g1 t1 f it1 ds (wipeE e own) []).bind (kComp22 e own) := nr rfl
@[simp] theorem ev_kComp22 {own : List Nat} {ds : List D} {e e2 : Env} : kComp22 e own (ds, e2) = .ok (true, .lst ds, restE e e2 own) := nr rfl
theorem forL_inv_ex {g : Gt} {f : CS} {ds : List D} {env : Env} (P : Nat → Env → Prop) (h0 : P 0 env)
    (hs : ∀ j d e, ds[j]? = some d → P j e → ∃ e', (R.of (g d e)).bind f = .ok (.nx, e') ∧ P (j + 1) e') : ∃ e', forL g f ds env = .ok (.nx, e') ∧ P ds.length e' := by
  have key : ∀ (ds : List D) (k : Nat) (env : Env), (∀ j d e, ds[j]? = some d → P (k + j) e → ∃ e', (R.of (g d e)).bind f = .ok (.nx, e') ∧ P (k + j + 1) e') → P k env → ∃ e', forL g f ds env = .ok (.nx, e') ∧ P (k + ds.length) e' := by
    intro ds
    induction ds with
    | nil => intro k env _ p; exact ⟨env, rfl, p⟩
    | cons d ds ih =>
      intro k env h p
      obtain ⟨e1, h1, p1⟩ := h 0 d env rfl p
      obtain ⟨e2, h2, p2⟩ := ih (k + 1) e1 (fun j d e hd pe => by
        have := h (j + 1) d e (by simpa using hd)
        rw [show k + (j + 1) = k + 1 + j by omega] at this
        exact this pe) p1
      refine ⟨e2, ?_, by rw [List.length_cons, show k + (ds.length + 1) = k + 1 + ds.length by omega]; exact p2⟩
      rw [forL_lit]
      cases hq : R.of (g d env) with
      | ok e3 =>
        rw [hq] at h1
        simp only [R.bind_ok] at h1 ⊢
        rw [ev_kF1, h1]
        simp only [R.bind_ok, ev_kF2a]
        exact h2
      | exc c => rw [hq] at h1; cases h1
      | stuck => rw [hq] at h1; cases h1
  obtain ⟨e', h1, h2⟩ := key ds 0 env (fun j d e hd pe => by rw [Nat.zero_add] at pe ⊢; exact hs j d e hd pe) h0
  rw [Nat.zero_add] at h2
  exact ⟨e', h1, h2⟩
theorem sat_forN {β : Type} {g : Gt} {f : CS} {ds : List D} {env : Env} {K : Fl × Env → R β} {G : β → Prop} (P : Nat → Env → Prop) (h0 : P 0 env)
    (hs : ∀ j d e, ds[j]? = some d → P j e → Sat ((R.of (g d e)).bind f) fun r => r.1 = .nx ∧ P (j + 1) r.2) (hk : ∀ e, P ds.length e → Sat (K (.nx, e)) G) : Sat ((forL g f ds env).bind K) G := by
  obtain ⟨e', h1, h2⟩ := forL_inv_ex (g := g) (f := f) P h0 fun j d e hd pe => by
    obtain ⟨⟨fl, e'⟩, q1, q2, q3⟩ := hs j d e hd pe
    simp only at q2 q3
    subst q2
    exact ⟨e', q1, q3⟩
  rw [h1]
  exact hk e' h2
theorem eq_of_sat {α : Type} {r : R α} {v : α} (h : Sat r fun x => x = v) : r = .ok v := by
  obtain ⟨a, h1, rfl⟩ := h
  exact h1
def kCd (own : List Nat) (g : Gt) (tt : CT) (f : CE) (ds acc : List D) : Option D × Env → R (List D × Env) := fun r => match r.1 with
  | some v => (match okT acc.length with | true => compL own g tt f ds r.2 (acc ++ [v]) | false => .stuck)
  | none => compL own g tt f ds r.2 acc
theorem compL_step {own : List Nat} {g : Gt} {tt : CT} {f : CE} {d : D} {ds : List D} {env : Env} {acc : List D} : compL own g tt f (d :: ds) env acc = (cstep own g tt f d env).bind (kCd own g tt f ds acc) := by
  rw [compL_eq]
  unfold cstep kSt1 kSt2 kSt3 kCd
  cases R.of (g d env) with
  | ok e1 =>
    simp only [R.bind_ok]
    cases nox (tt e1) with
    | ok r =>
      simp only [R.bind_ok]
      cases h : r.1 with
      | true =>
        simp only
        cases nox (f r.2) <;> rfl
      | false => rfl
    | exc c => rfl
    | stuck => rfl
  | exc c => rfl
  | stuck => rfl
theorem kCd_some {own : List Nat} {g : Gt} {tt : CT} {f : CE} {ds acc : List D} {v : D} {e : Env} (h : okT acc.length = true) : kCd own g tt f ds acc (some v, e) = compL own g tt f ds e (acc ++ [v]) := by
  unfold kCd; simp only; rw [h]
theorem compL_nil {own : List Nat} {g : Gt} {tt : CT} {f : CE} {env : Env} {acc : List D} : compL own g tt f [] env acc = .ok (acc, env) := nr rfl
theorem okT0 : okT 0 = true := okT_lt (by decide)
theorem okT1 : okT 1 = true := okT_lt (by decide)
theorem okT2 : okT 2 = true := okT_lt (by decide)
theorem okT3 : okT 3 = true := okT_lt (by decide)
theorem okT4 : okT 4 = true := okT_lt (by decide)
theorem okT5 : okT 5 = true := okT_lt (by decide)
theorem okT6 : okT 6 = true := okT_lt (by decide)
theorem okT7 : okT 7 = true := okT_lt (by decide)
theorem okT8 : okT 8 = true := okT_lt (by decide)
theorem compL_E {own : List Nat} {g : Gt} {tt : CT} {f : CE} {ds : List D} {env : Env} (E : Nat → Env) (o : Nat → Option D) (h0 : env = E 0)
    (hs : ∀ j d, ds[j]? = some d → cstep own g tt f d (E j) = .ok (o j, E (j + 1))) (hl : ds.length ≤ 16777216) : compL own g tt f ds env [] = .ok ((List.range ds.length).filterMap o, E ds.length) := by
  rw [h0, compL_ix E o ds 0 [] (fun j d hd => by rw [Nat.zero_add]; exact hs j d hd) (by simpa using hl), Nat.zero_add, List.nil_append, ← List.range_eq_range']
def ext2 (rs : List (List Int)) : List (List Int) := rs.flatMap fun r => [r ++ [0], r ++ [1]]
def rowsK : Nat → List (List Int)
  | 0 => [[]]
  | k + 1 => ext2 (rowsK k)
def rT (rs : List (List Int)) : List D := rs.map fun r => .tup (r.map D.int)
theorem rowsK_len : ∀ k, (rowsK k).length = 2 ^ k
  | 0 => rfl
  | k + 1 => by
    have ih := rowsK_len k
    show (ext2 (rowsK k)).length = _
    unfold ext2
    rw [List.length_flatMap]
    have : ((rowsK k).map fun r => ([r ++ [0], r ++ [1]] : List (List Int)).length) = (rowsK k).map fun _ => 2 := rfl
    rw [this, List.map_const', List.sum_replicate_nat, ih, Nat.pow_succ]
theorem rT_len (rs : List (List Int)) : (rT rs).length = rs.length := by simp [rT]
theorem ext2_len (rs : List (List Int)) : (ext2 rs).length = 2 * rs.length := by
  induction rs with
  | nil => rfl
  | cons r rs ih =>
    show ([r ++ [0], r ++ [1]] ++ ext2 rs).length = _
    rw [List.length_append, ih]; simp; omega
theorem ext2_take {rs : List (List Int)} {m : Nat} (h : m < rs.length) : rT (ext2 (rs.take m)) ++ [.tup ((rs[m] ++ [0]).map D.int), .tup ((rs[m] ++ [1]).map D.int)] = rT (ext2 (rs.take (m + 1))) := by
  have e : rs.take (m + 1) = rs.take m ++ [rs[m]] := by rw [List.take_succ, List.getElem?_eq_getElem h]; rfl
  rw [e]
  unfold ext2 rT
  rw [List.flatMap_append]
  conv => rhs; rw [List.map_append]
  rfl
theorem rT_get {rs : List (List Int)} {m : Nat} {d : D} (h : (rT rs)[m]? = some d) : ∃ hm : m < rs.length, d = .tup (rs[m].map D.int) := by
  unfold rT at h
  rw [List.getElem?_map] at h
  by_cases q : m < rs.length
  · rw [List.getElem?_eq_getElem q] at h
    exact ⟨q, (Option.some.inj h).symm⟩
  · rw [List.getElem?_eq_none (by omega)] at h; cases h

end DL

set_option Elab.async false
set_option linter.all false
set_option maxRecDepth 100000
set_option maxHeartbeats 4000000
namespace DL
open PySem PySem.Spec PyProof.Rows L2
def sAugW (i j : Nat) (c : Int) : CS := fun env => match own? env[i]?, rd env (.slot j) with
  | some (io, .lst ds), some (.int z) => match ixN ds.length z with
    | some q => match ds[q]? with
      | some (.int v) => .ok (.nx, env.set i (owS io (.lst (ds.set q (.int (v + c))))))
      | _ => .stuck
    | none => .stuck
  | _, _ => .stuck
section
variable {X : Cx} {p : FP} {W : Wx} {pos : Pos}
def rGetQ : V → V → Hp → VK → Prop := fun o i H Q => ∃ a xs k j v, o = .ref a ∧ i = .int k ∧ H a = some (.lst xs) ∧ ixN xs.length k = some j ∧ xs[j]? = some v ∧ Q v H
theorem get_lst : PGet X rGetQ := by
  intro pins s σ H o i ov iv Q I ro ri h
  obtain ⟨a, xs, k, j, z, rfl, rfl, hp, hj, hv, q⟩ := h
  cases ro
  obtain ⟨t, rfl⟩ := ri
  obtain ⟨its, n, r, ho, hz⟩ := I.lst hp
  obtain ⟨h1, h2, h3, h4⟩ := ixN_seq hj
  obtain ⟨u, eu, ru⟩ := r.get hv
  have hl := r.length
  have hn := line63
  have isl : s.heap.IsList a its.toArray := ⟨_, ho, rfl, _, rfl⟩
  have fin : EP X pins σ Q u s := ⟨z, H, I, ru, q⟩
  by_cases h0 : 0 ≤ k
  · have hk : k.toNat = j := by
      rw [seqIndex_of h0 h4] at h1
      exact Option.some.inj h1
    exact wpAny_getItem_list isl h0 (by omega) (by rw [hk]; simpa using eu) fin
  · have hk : (k + (its.toArray.size : Int)).toNat = j := by
      rw [seqIndex_neg (by omega) h3] at h1
      rw [List.size_toArray, ← hl]
      exact Option.some.inj h1
    exact wpAny_getItem_list_neg isl (by omega) (by rw [List.size_toArray] <;> omega) (by omega) (by rw [hk]; simpa using eu) fin
theorem ds_augW {i j : Nat} {x y : Str} {c : Int} {e : Expr} {xp yp tpos : Pos} (ho : PE X (.Name x xp) (tVar i)) (hi : PE X (.Name y yp) (tVar j)) (he : PE X e (tC (.int c)))
    (ha : ∀ ov iv new, augStore (.Name y yp) ov iv new = (do holding [new, ov, iv] (setItem ov iv new); release [new, ov, iv] []; pure .next) := by intros; rfl) :
    DS X p W (.AugAssign (.Subscript (.Name x xp) (.Name y yp) tpos) .Add e pos) (sAugW i j c) := by
  refine ps_imp (ps_augS ho hi get_lst he ip_add set_list ha) ?_
  rintro D σ H ⟨env, B, E, h⟩
  unfold sAugW at h
  split at h
  · rename_i io ds z q1 q2
    split at h
    · rename_i q hq
      split at h
      · rename_i v hv
        obtain ⟨a, ea, c0, n0⟩ := E.owned (own?_some q1)
        obtain ⟨vs, e0, rl⟩ := c0
        obtain ⟨w, ew⟩ := slot_val E q2
        have rw' := E.rep1 (o := .slot j) ew q2
        cases rw'.int
        obtain ⟨u, eu, ru⟩ := rl.get hv
        cases ru
        have hq' : ixN vs.length z = some q := by rw [rl.length]; exact hq
        refine ⟨.ref a, ea, .int z, ew, a, vs, z, q, _, rfl, rfl, e0, hq', eu, v, c, rfl, rfl, a, vs, z, q, rfl, rfl, e0, hq', ?_⟩
        obtain ⟨E5, F5⟩ := E.write (o' := .lst (vs.set q (.int (v + c)))) (d' := .lst (ds.set q (.int (v + c)))) (own?_some q1) ea ⟨_, upd_same, rl.set (.int _) q⟩
        exact h σ _ B E5 Sub.rfl'
      · exact h.elim
    · exact h.elim
  · exact h.elim
def kixD (ys : List Str) (d : D) : Option D := match d with
  | .str z => (ys.findIdx? fun y => y == z).map fun (j : Nat) => .int (j : Int)
  | _ => none
def cKix (ys : List Str) (f : CB) : CE := fun env => (f env).bind fun r => match rd r.2 r.1 with
  | some d => (R.of (kixD ys d)).bind fun w => .ok (false, w, r.2)
  | none => .stuck
/-- a tuple of texts of the module -/
def KTup (K : Fg) (mg : MG) (x : Str) (ys : List Str) : Prop := ∃ a, mg x = some (.ref a) ∧ ∃ (o : Obj) (its : Array Value) (n : Nat), K.lookup a = some o ∧ o.cls = .type "tuple" ∧ o.dict = none ∧ o.data = .seq its n ∧ its.size ≤ sizeLine ∧ Vals (ys.map V.str) its.toList
theorem rep_strs {K : Fg} {mg : MG} {B : Hp} : ∀ ys : List Str, RepL K mg B (ys.map V.str) (ys.map D.str)
  | [] => .nil
  | y :: ys => .cons (.str y) (rep_strs ys)
theorem KTup.k {K : Fg} {mg : MG} {x : Str} {ys : List Str} (h : KTup K mg x ys) : ∃ a vs, mg x = some (.ref a) ∧ (∃ (o : Obj) (its : Array Value) (n : Nat), K.lookup a = some o ∧ o.cls = .type "tuple" ∧ o.data = .seq its n ∧ its.size ≤ sizeLine ∧ Vals vs its.toList) ∧ RepL K mg (fun _ => none) vs (ys.map D.str) := by
  obtain ⟨a, hm, o, its, n, h1, h2, h3, h4, h5, h6⟩ := h
  exact ⟨a, ys.map V.str, hm, ⟨o, its, n, h1, h2, h4, h5, h6⟩, rep_strs ys⟩
theorem de_kix {x : Str} {ys : List Str} {e : Expr} {f : CB} {xp apos cpos : Pos} (hm : KTup X.K X.mg x ys) (he : DB X p W e f) (hg : X.env.kindOf x = some .globalImplicit := by kernel_rfl) (hd : (x == ("__debug__" : Str)) = false := by kernel_rfl)
    (hbase : attributeBase (.Name x xp) "index" X.env (eval (.Name x xp) X.env) = eval (.Name x xp) X.env := by rfl)
    (hfew : ((backTo cpos (starEach (e :: []) X.env)).all (fun x => !x.1) && (backToKw cpos (keywordEach [] X.env)).all (fun x => x.1.isSome)
      && decide ((e :: []).length + ([] : List Keyword).length + (if ([] : List Keyword).isEmpty then 0 else 1) < 30)) = true := by rfl)
    (hline : (apos.endLine == cpos.line) = true := by rfl) (hs : starEach (e :: []) X.env = (false, eval e X.env) :: starEach [] X.env := by rfl) (hplain : (backTo cpos (starEach [] X.env)).any (·.1) = false := by rfl) :
    DE X p W (.Call (.Attribute (.Name x xp) "index" apos) [e] [] cpos) (cKix ys f) := by
  obtain ⟨a, hm, o, its, n, h1, h2, h3, h4, h5, h6⟩ := hm
  refine pe_imp (pe_bm PySem.F.plainAttrs_tuple PySem.F.slot_tuple_index PySem.F.type_tuple_index mt_tup_index (pe_glob (v := .ref a) hg hm rfl hd) (da_cons he da_nil hs) hbase hfew hline hs hplain) ?_
  rintro σ H Q ⟨env, B, E, h⟩
  refine ⟨.inr (.inl ⟨rfl, o, h1, h2, h3⟩), env, B, E, ?_⟩
  unfold cKix at h
  have h := Goes.bind h
  unfold aCons aNil
  cases er : f env with
  | stuck => rw [er] at h; exact h
  | exc c => rw [er] at h; exact h
  | ok r =>
    rw [er] at h
    intro vs H1 B1 E1 F1 rv
    have h : Goes p W (match rd r.2 r.1 with | some d => (R.of (kixD ys d)).bind fun w => .ok (false, w, r.2) | none => .stuck) _ := h
    split at h
    · rename_i d hd
      obtain ⟨w, hw, h⟩ := of_bind h
      cases rv with
      | cons r1 rr =>
        cases rr
        have Rd := E1.rep1 r1 hd
        unfold kixD at hw
        split at hw
        · rename_i z
          obtain ⟨j, hj, ej⟩ := Option.map_eq_some_iff.mp hw
          obtain ⟨hlt, hz, hno⟩ := List.findIdx?_eq_some_iff_getElem.mp hj
          cases Rd.str
          subst ej
          refine ⟨a, ys, z, j, rfl, rfl, .inr ⟨o, its, n, h1, h2, h4, h5, h6⟩, ?_, ?_, h _ H1 B1 E1 F1 (.int _)⟩
          · rw [List.getElem?_eq_getElem hlt, eq_of_beq hz]
          · intro m hm e
            obtain ⟨hl', e'⟩ := List.getElem?_eq_some_iff.mp e
            have := hno m hm
            rw [e'] at this
            simp at this
        · cases hw
    · exact h.elim
def mulI (x y : D) : Option (Bool × D) := match x, y with
  | .int i, .int j => if decide (i.natAbs < 18446744073709551616) || decide (j.natAbs < 18446744073709551616) then some (false, .int (i * j)) else none
  | _, _ => none
theorem vr_mulI {K : Fg} {mg : MG} : VR2 K mg (rI CMul fun i j => .int (i * j)) mulI := by
  intro a b m d h x y H B Q s rx ry k
  unfold mulI at h
  split at h
  · rename_i i j
    obtain ⟨hl, h⟩ := ite_some h; cases h
    refine ⟨_, _, rx.int, ry.int, ?_, Rep.res s k (.int _)⟩
    rcases (Bool.or_eq_true _ _).mp hl with e | e
    · have := of_decide_eq_true e; exact .inl ⟨by omega, by omega⟩
    · have := of_decide_eq_true e; exact .inr ⟨by omega, by omega⟩
  · cases h
/-- a tuple of texts of the module: the test -/
def ktB (K : Fg) (x : Str) (ys : List Str) : Bool := match K.lookup (He.ga K x) with
  | some ⟨.type c, none, .seq its _, _⟩ => decide (c = "tuple") && (decide (its.size ≤ sizeLine) && He.relAll (ys.map V.str) its.toList)
  | _ => false
theorem ktB_ok {K : Fg} {x : Str} {ys : List Str} (h : ktB K x ys = true) : ∃ (o : Obj) (its : Array Value) (n : Nat), K.lookup (He.ga K x) = some o ∧ o.cls = .type "tuple" ∧ o.dict = none ∧ o.data = .seq its n ∧ its.size ≤ sizeLine ∧ Vals (ys.map V.str) its.toList := by
  unfold ktB at h
  split at h
  · rename_i c its n sl q
    rw [Bool.and_eq_true, Bool.and_eq_true] at h
    obtain ⟨h1, h2, h3⟩ := h
    exact ⟨_, its, n, q, congrArg Value.type (of_decide_eq_true h1), rfl, rfl, of_decide_eq_true h2, He.relAll_ok h3⟩
  · cases h
end
end DL

set_option Elab.async false
set_option linter.all false
set_option maxRecDepth 100000
set_option maxHeartbeats 4000000
namespace DL
open PySem PySem.Spec PyProof.Rows L2
section
variable {P : Program} {w : World} {A : Around} {E : Value → Shared → Prop} {s : Shared}
set_option maxHeartbeats 8000000 in
theorem set_of_tuple {l : Addr} {its : Array Value} (ns : List Int) {Q : Value → Shared → Prop} (hh : A.handled = none) (hl : s.heap.IsTuple l its) (hi : IntsAre its.toList ns) (hb : ns.length + 1 < scanBound)
    (q : ∀ (h' : Heap) (tk c : Nat), SetR w h' s.heap.objs.size (fun j => decide (j ∈ ns)) c → c ≤ ns.length → (∀ b o, s.heap.get? b = some o → h'.get? b = some o) → Q (.ref s.heap.objs.size) { s with heap := h', toks := tk }) : wpAny (model P w) A (call (.type "set") [.ref l]) Q E s := by
  have hz : its.size = ns.length := by have z := IntsAre.length hi; rwa [Array.length_toList] at z
  obtain ⟨c, tl, hmro⟩ := F.called_set.mro
  have hmade := F.called_set.made; have hsub := F.called_set.sub
  refine wpAny_call (codeAny_of_tree (show wpAny _ _ (callAny (.type "set") _) _ _ _ from ?_))
  refine wpAny_pure ⟨Code.quiet_builtin _ (by first | decide +kernel), codeAny_builtin F.entry_type_call ?_⟩
  rw [Around.under_plain (by exact weight_type_call_type "set" [.ref l] []) rfl]
  have h1 := F.called_set.notType; have h2 := F.called_set.canCreate; have hct := F.typeCall_set_1 (.ref l)
  repeat any_goals first | assumption | wp_step
  refine codeAny_mono (code_set_led1 (.ref l) (E := E) (Q₁ := fun ob z => ob = .ref s.heap.objs.size ∧ z = { s with heap := s.heap.push (nSet w) }) ⟨rfl, rfl⟩) fun r s₁ hr => ?_
  cases r with
  | error e => exact hr
  | ok fl =>
    cases fl with
    | ret obj =>
      obtain ⟨rfl, rfl⟩ := hr
      have hS : (s.heap.push (nSet w)).get? s.heap.objs.size = some (nSet w) := by exact Heap.get?_push_size _ rfl
      have hT : Shared.TypeIs { s with heap := s.heap.push (nSet w) } (.ref s.heap.objs.size) "set" := ⟨_, hS, rfl⟩
      have hli := F.called_set.init.lookup; have hbi := F.called_set.init.bind (.ref s.heap.objs.size)
      repeat any_goals first | assumption | wp_step
      refine codeAny_mono (codeAny_call_builtin (R := wants (fun v z => v = .none ∧ ∃ h' tk c, z = { s with heap := h', toks := tk } ∧ SetR w h' s.heap.objs.size (fun j => decide (j ∈ ns)) c ∧ c ≤ ns.length ∧ ∀ b o, s.heap.get? b = some o → h'.get? b = some o) E) F.called_set.init.plain F.entry_set_init (check_set_init_1 hT ?_)) fun r₂ s₂ hr₂ => ?_
      · obtain ⟨ol, hol, hcl, nl, hdl⟩ := hl
        obtain ⟨k1, k2, k3, k4⟩ := ol
        simp only at hcl hdl
        subst hcl; subst hdl
        have hol2 : (s.heap.push (nSet w)).get? l = some { cls := .type "tuple", dict := k2, data := .seq its nl, slots := k4 } := Heap.get?_push_of_some _ hol
        have e1 := F.sub_tuple_set; have e2 := F.sub_tuple_frozenset
        have e3 : (Value.type "tuple" == Value.type "dict") = false := by decide
        have hl1 : (s.heap.push (nSet w)).IsTuple l its := ⟨_, hol2, rfl, nl, rfl⟩
        unfold Builtin.«set.__init__» noKeywords Builtin.Frozenset.updateFrom
        generalize hPI : pyIter = PI
        wp_walk
        subst hPI
        refine wpAny_pyIter_tuple hl1 (wpAny_bind (wpAny_runValue ?_))
        have lt0 : l < s.heap.objs.size := Heap.lt_size hol
        have hh3 : A.in1.in1.in1.handled = none := by simp only [Around.in1]; simpa using hh
        have ne1 : l ≠ (s.heap.push (nSet w)).objs.size := by rw [Heap.size_push]; exact Nat.ne_of_lt (Nat.lt_add_right 1 lt0)
        have nf : s.heap.objs.size ∉ [(s.heap.push (nSet w)).objs.size, l] := by
          rw [Heap.size_push]
          intro z
          rcases List.mem_cons.mp z with z | z
          · exact absurd z (Nat.ne_of_lt (Nat.lt_succ_self _))
          · exact absurd (List.mem_singleton.mp z) (Nat.ne_of_gt lt0)
        have vals : ∀ (i : Nat) (v : Value), its[i]? = some v → ∃ k t, ns[i]? = some k ∧ v = .int k t := fun i v hv => by
          have lt : i < ns.length := by rw [← hz]; exact (Array.getElem?_eq_some_iff.mp hv).1
          obtain ⟨t, e⟩ := IntsAre.int_at hi i v (by rw [Array.getElem?_toList]; exact hv)
          exact ⟨ns[i], t, List.getElem?_eq_getElem lt, by rw [e, List.getD_eq_getElem?_getD, List.getElem?_eq_getElem lt] <;> rfl⟩
        refine set_update_ints ((Walks.tuple hh3 _ l ne1 its).toS) s.heap.objs.size nf ns hz hb vals (its.size - 0) 0 _ (by omega) (Nat.zero_le _) ⟨⟨_, Heap.get?_push_size _ rfl, rfl, rfl⟩, (hl1.push _)⟩ ?g0 ?g1
        case g0 => exact ⟨0, Nat.le_refl 0, setR_new_at (Heap.get?_push_of_some _ hS)⟩
        case g1 =>
          intro z c' hm hc' hS'
          obtain ⟨h', g2, d', tk', os'⟩ := z
          have eg : g2 = s.gens := hm.gens
          have ed : d' = s.drawn := hm.drawn
          have eo : os' = s.os := hm.os
          subst eg; subst ed; subst eo
          refine wpAny_pure (show wpAny _ _ (ret Value.none) _ _ _ from ?_)
          rw [hz] at hc'
          refine wpAny_pure ⟨rfl, h', tk', c', rfl, hS', hc', fun b o e => ?_⟩
          have hb0 : b < s.heap.objs.size := Heap.lt_size e
          have hb2 : b ≠ (s.heap.push (nSet w)).objs.size := by rw [Heap.size_push]; exact Nat.ne_of_lt (Nat.lt_add_right 1 hb0)
          refine hm.heap b o (fun z => ?_) (Heap.get?_push_of_some _ (Heap.get?_push_of_some _ e))
          rcases List.mem_cons.mp z with z | z
          · exact absurd z (Nat.ne_of_lt hb0)
          · exact hb2 (List.mem_singleton.mp z)
      · cases r₂ with
        | error e => exact hr₂
        | ok fl₂ =>
          cases fl₂ with
          | ret r =>
            obtain ⟨rfl, h', tk, c', rfl, hS', hc', hk'⟩ := hr₂
            repeat any_goals first | assumption | wp_step
            exact q _ _ _ hS' hc' hk'
          | _ => exact hr₂.elim
    | _ => exact hr.elim
end
def tSortSetB (K : Fg) (ta : TE) : TE := fun σ H Q => ta σ H fun x H1 => ∃ (l : Addr) (ns : List Int), x = .ref l ∧ (SqL K H1 l (ns.map V.int) ∨ SqT K H1 l (ns.map V.int)) ∧ ns.length ≤ 4000 ∧ (srtSet ns).length < 64 ∧ ∀ p, H1 p = none → Q (.ref p) (upd H1 p (.lst ((srtSet ns).map V.int)))
section
variable {X : Cx} {a : Expr} {ta : TE} {p p2 q pos : Pos}
theorem pe_sortSetB (hg : Gl X "sorted") (hm : X.mg "sorted" = none) (hg2 : Gl X "set") (hm2 : X.mg "set" = none) (ha : PE X a ta) (hc : X.calm = true := by kernel_rfl)
    (na : starEach [a] X.env = (false, eval a X.env) :: starEach [] X.env := by rfl) : PE X (.Call (.Name "sorted" p) [.Call (.Name "set" p2) [a] [] q] [] pos) (tSortSetB X.K ta) := by
  refine ⟨fun pins s σ H Q I h => Call_ (ld_blt I hg hm boot_sorted ?_)⟩
  refine callWith_builtin1 (args_cons (Call_ (ld_blt I hg2 hm2 boot_set ?_)) rfl) rfl rfl
  refine callWith_type1 (args_cons (thn (ha.run pins s σ H _ I h) fun v s1 ⟨x, H1, I1, r1, q1⟩ => args_nil ?_) na) na rfl
  obtain ⟨l, ns, rfl, hq, hl, h64, q1⟩ := q1
  cases r1
  have so : ∀ {A' : Around} {E' Q' : Value → Shared → Prop}, A'.handled = none → (∀ (h' : Heap) (tk c : Nat), SetR X.w h' s1.heap.objs.size (fun j => decide (j ∈ ns)) c → c ≤ ns.length → (∀ b o, s1.heap.get? b = some o → h'.get? b = some o) → Q' (.ref s1.heap.objs.size) { s1 with heap := h', toks := tk }) → wpAny (model X.prog X.w) A' (call (.type "set") [.ref l]) Q' E' s1 := by
    intro A' E' Q' hh k
    rcases hq with hq | hq
    · obtain ⟨its, r, pl, hz⟩ := I1.list hq
      exact set_of_list ns hh pl.isList (by simpa using r.ints) (by unfold scanBound; omega) k
    · obtain ⟨its, r, pl, hz⟩ := I1.tuple hq
      exact set_of_tuple ns hh pl (by simpa using r.ints) (by unfold scanBound; omega) k
  refine so (I1.ok.hd hc) fun h' tk c R hc' hk => args_nil ?_
  have hcd := setR_card R
  have I2 : Inv X pins σ H1 { s1 with heap := h', toks := tk } := I1.kept fun b o e => hk b o e
  refine sorted_set R (I2.ok.hd hc) (by omega) fun s' z out cc ms k g o hp hg hi hs hm hl => ?_
  have e1 : ms = srtSet ns := srt_uniq hs (srtSet_srt ns) fun k => by rw [hm k, srtSet_mem, decide_eq_true_eq]
  subst e1
  have hn : H1 z = none := I2.hok.fresh hp
  have hsz : ((srtSet ns).map V.int).length ≤ sizeLine := by rw [List.length_map, sizeLine_eq]; omega
  have J : Inv X pins σ (upd H1 z (.lst ((srtSet ns).map V.int))) { ({ s1 with heap := h', toks := tk } : Shared) with heap := s'.heap, gens := s'.gens, drawn := s'.drawn, toks := s'.toks } :=
    I2.call (ch := []) (Un.laid k hp hn) (I2.hok.laid k hp ⟨hsz, out.toList, cc, vals_of_ints hi, hg⟩) (by rw [g]; exact I2.bare) (fun _ z => nomatch z)
  have e : s' = { ({ s1 with heap := h', toks := tk } : Shared) with heap := s'.heap, gens := s'.gens, drawn := s'.drawn, toks := s'.toks } := by
    cases s'; cases s1; cases o; rfl
  rw [e]
  exact ⟨.ref z, _, J, rfl, q1 z hn⟩
end
/-- sorted(set(x)) of a list or of a tuple -/
def sortSetBD (d : D) : Option (Bool × D) := match d with
  | .lst ds => match intsD ds with
    | some ns => if decide (ns.length ≤ 4000) && decide ((srtSet ns).length < 64) then some (true, .lst ((srtSet ns).map .int)) else none
    | none => none
  | .tup ds => match intsD ds with
    | some ns => if decide (ns.length ≤ 4000) && decide ((srtSet ns).length < 64) then some (true, .lst ((srtSet ns).map .int)) else none
    | none => none
  | _ => none
def revLD (d : D) : Option (Bool × D) := match d with
  | .lst ds => some (true, .lst ds.reverse)
  | _ => none
theorem RepL.snoc {K : Fg} {mg : MG} {B : Hp} : ∀ {vs : List V} {ds : List D} {v : V} {d : D}, RepL K mg B vs ds → Rep K mg B v d → RepL K mg B (vs ++ [v]) (ds ++ [d])
  | _, _, _, _, .nil, r => .cons r .nil
  | _, _, _, _, .cons a b, r => .cons a (RepL.snoc b r)
theorem RepL.rev {K : Fg} {mg : MG} {B : Hp} : ∀ {vs : List V} {ds : List D}, RepL K mg B vs ds → RepL K mg B vs.reverse ds.reverse
  | _, _, .nil => .nil
  | _, _, .cons a b => by rw [List.reverse_cons, List.reverse_cons]; exact RepL.snoc (RepL.rev b) a
section
variable {X : Cx} {p : FP} {W : Wx} {a : Expr} {c : CE} {x1 x2 x3 pos p1 p2 p3 : Pos}
theorem de_sortSetB (hm : X.mg "sorted" = none) (hm2 : X.mg "set" = none) (ha : DE X p W a c) (hc : X.calm = true := by kernel_rfl) (hg : X.env.kindOf "sorted" = some .globalImplicit := by kernel_rfl) (hg2 : X.env.kindOf "set" = some .globalImplicit := by kernel_rfl)
    (na : starEach [a] X.env = (false, eval a X.env) :: starEach [] X.env := by rfl) : DE X p W (.Call (.Name "sorted" x1) [.Call (.Name "set" x2) [a] [] x3] [] pos) (cF sortSetBD c) := by
  refine pe_imp (pe_sortSetB hg hm hg2 hm2 ha hc na) fun σ H Q h => ?_
  obtain ⟨env0, B0, E0, h⟩ := cF_pre h
  refine ⟨env0, B0, E0, h.imp fun r h v H1 B1 E1 F1 r1 => ?_⟩
  obtain ⟨env, B, d, z, e1, B2, E2, F2, r2, hz, k⟩ := h v H1 B1 E1 F1 r1
  unfold sortSetBD at hz
  split at hz
  · rename_i ds
    split at hz
    · rename_i ns hns
      obtain ⟨hl, hz⟩ := ite_some hz
      cases hz
      simp only [Bool.and_eq_true, decide_eq_true_eq] at hl
      cases r2 with
      | lst h1 h2 =>
        have e := h2.ints hns
        subst e
        refine ⟨_, ns, rfl, .inl (SqL.of (E2.sub _ _ h1)), hl.1, hl.2, fun q hq => ?_⟩
        obtain ⟨a1, a2, a3⟩ := res_new E2 F2 (repL_ints (srtSet ns)) hq
        exact k _ _ _ a1 a2 a3
    · cases hz
  · rename_i ds
    split at hz
    · rename_i ns hns
      obtain ⟨hl, hz⟩ := ite_some hz
      cases hz
      simp only [Bool.and_eq_true, decide_eq_true_eq] at hl
      cases r2 with
      | tup h1 h2 =>
        have e := h2.ints hns
        subst e
        refine ⟨_, ns, rfl, .inr (SqT.of (E2.sub _ _ h1)), hl.1, hl.2, fun q hq => ?_⟩
        obtain ⟨a1, a2, a3⟩ := res_new E2 F2 (repL_ints (srtSet ns)) hq
        exact k _ _ _ a1 a2 a3
    · cases hz
  · cases hz
theorem de_revL {k : Nat} (ha : DE X p W a c) : DE X p W (.Subscript a (.Slice none none (some (.UnaryOp .USub (.Constant (.int 1) k p1) p2)) p3) pos) (cF revLD c) := by
  refine pe_imp (pe_revL ha) fun σ H Q h => ?_
  obtain ⟨env0, B0, E0, h⟩ := cF_pre h
  refine ⟨env0, B0, E0, h.imp fun r h v H1 B1 E1 F1 r1 => ?_⟩
  obtain ⟨env, B, d, z, e1, B2, E2, F2, r2, hz, k⟩ := h v H1 B1 E1 F1 r1
  unfold revLD at hz
  split at hz
  · rename_i ds
    cases hz
    cases r2 with
    | lst h1 h2 =>
      refine ⟨_, _, rfl, SqL.of (E2.sub _ _ h1), fun q hq => ?_⟩
      obtain ⟨a1, a2, a3⟩ := res_new E2 F2 h2.rev hq
      exact k _ _ _ a1 a2 a3
  · cases hz
end
end DL

set_option Elab.async false
set_option linter.all false
set_option maxRecDepth 100000
set_option maxHeartbeats 4000000
namespace DLS
open PySem PySem.W PySem.Calls PySem.SeqAt PyProof.Rows
section
variable {prog : Program} {w : World} {A : Around} {E : Value → Shared → Prop} {s : Shared}
theorem collect_tuple {l : Addr} {vs : List Value} {Q : List Value → Shared → Prop} (hl : s.heap.IsTuple l vs.toArray)
    (h : Q vs { s with heap := (s.heap.push (seqObj "list" #[] 0)).update s.heap.objs.size (Obj.mapSeq (· ++ vs.toArray)) }) (hsz : vs.length ≤ sizeLine) :
    wpAny (model prog w) A (collect (.ref l)) Q E s := by
  obtain ⟨o, ho, hc, n, hd⟩ := id hl
  unfold collect
  refine wpAny_bind (wpAny_runValue (codeAny_builtin entry_proto_collect' ?_))
  show wpAny _ _ (do again (.builtin "list.__iadd__" ⟨[← newList [], .ref l], []⟩)) _ _ s
  refine wpAny_bind (wpAny_newList (wpAny_pure ⟨Code.quiet_builtin _ (by decide +kernel), codeAny_builtin entry_list_iadd' ?_⟩))
  show wpAny _ _ (Builtin.List.listExtendWith (.ref s.heap.objs.size) (.ref l) (.ref s.heap.objs.size)) _ _ { s with heap := s.heap.push (seqObj "list" #[] 0) }
  unfold Builtin.List.listExtendWith
  have ho' : (s.heap.push (seqObj "list" #[] 0)).get? l = some o := Heap.get?_push_of_some _ ho
  refine wpAny_bind (wpAny_typeOf (T := "tuple") ⟨o, ho', hc⟩ ?_)
  have ht : (Value.type "tuple" == Value.type "tuple") = true := by rfl
  rw [if_pos (by rw [ht]; simp)]
  refine wpAny_bind (listItems_at ho' hd ?_)
  refine wpAny_bind (listItems_at (xs := #[]) (n := 0) (Heap.get?_push_size _ rfl) rfl ?_)
  rw [if_neg (by simp)]
  refine wpAny_bind (listUpdate_at (xs := #[]) (n := 0) (Heap.get?_push_size _ rfl) rfl ?_ (Nat.zero_le _) (by show (#[] ++ vs.toArray).size ≤ sizeLine + 1; simp only [Array.size_append, List.size_toArray, List.length_nil]; omega))
  refine wpAny_pure ?_
  show wpAny (model prog w) A (do
      let o ← load s.heap.objs.size
      match o.data with
      | .seq xs _ => pure xs.toList
      | _ => unsupported "internal:collect") Q E { s with heap := (s.heap.push (seqObj "list" #[] 0)).update s.heap.objs.size (Obj.mapSeq (· ++ vs.toArray)) }
  refine wpAny_bind (wpAny_load (get?_update_seq (Heap.get?_push_size _ rfl) _) ?_)
  show wpAny _ _ (pure ((#[] : Array Value) ++ vs.toArray).toList) Q E _
  rw [show ((#[] : Array Value) ++ vs.toArray).toList = vs by simp]
  exact wpAny_pure h
theorem sorted_of_sortA {l : Addr} {vs : List Value} {kw : List (Str × Value)} {Q : Value → Shared → Prop} (hl : s.heap.IsList l vs.toArray ∨ s.heap.IsTuple l vs.toArray) (hL : vs.length ≤ sizeLine) (ha1 : argsOk "sorted" ⟨[.ref l], kw⟩) (ha2 : ∀ x, argsOk "list.sort" ⟨[.ref x], kw⟩)
    (body : ∀ E' : Value → Shared → Prop, wpAny (model prog w) A.in1.in1 (Builtin.«list.sort» ⟨[.ref (s.heap.objs.size + 1)], kw⟩) (fun f s' => f = .done (.ret .none) ∧ Q (.ref (s.heap.objs.size + 1)) s') E' { s with heap := copyHeap s.heap vs }) :
    wpAny (model prog w) A (call (.builtin "sorted") [.ref l] kw) Q E s := by
  rcases hl with hl | hl
  · exact sorted_of_sort hl hL ha1 ha2 body
  refine call_function_entry_kw kind_sorted plain_sorted entry_sorted ha1 ?_
  unfold Builtin.«sorted»
  refine wpAny_bind (m := checkCount "sorted" 1 1 _) (wpAny_pure ?_)
  refine wpAny_bind (collect_tuple hl ?_ hL)
  refine wpAny_bind (wpAny_newList ?_ hL)
  have hsz : ((s.heap.push (seqObj "list" #[] 0)).update s.heap.objs.size (Obj.mapSeq (· ++ vs.toArray))).objs.size = s.heap.objs.size + 1 := by
    rw [Heap.size_update, size_push']
  show wpAny _ _ _ _ _ { s with heap := copyHeap s.heap vs }
  rw [hsz]
  refine wpAny_bind (wpAny_holding (wpAny_call_entry_kw slot_list_sort ⟨_, copyHeap_at s.heap vs, rfl⟩ entry_list_sort ?body (ha2 _)))
  case body =>
    show wpAny (model prog w) A.in1.in1 (Builtin.«list.sort» ⟨[.ref (s.heap.objs.size + 1)], kw⟩) _ _ _
    refine wpAny_mono (body _) (fun f s' hf => ?_) fun _ _ e => e
    obtain ⟨rfl, hq⟩ := hf
    exact ⟨_, rfl, wpAny_pure ⟨_, rfl, hq⟩⟩
theorem call_tuple_lt {Q : Value → Shared → Prop} {l b : Addr} {items items2 : Array Value} {e r : Nat → Bool} (hl : s.heap.IsTuple l items) (hb : s.heap.IsTuple b items2)
    (he : ∀ j (h1 : j < items.size) (h2 : j < items2.size), EqAt A.in1 s items[j] items2[j] (e j)) (hr : ∀ j (h1 : j < items.size) (h2 : j < items2.size), e j = false → RcLt A.in1 s items[j] items2[j] (r j))
    (h : Q (.bool (firstLt e r (decide (items.size < items2.size)) (List.range (min items.size items2.size)))) s) : wpAny (model prog w) A (call (.builtin "tuple.__lt__") [.ref l, .ref b]) Q E s := by
  obtain ⟨⟨cls, dd, data, sl⟩, ho, hc, n, hd⟩ := id hl
  obtain ⟨⟨cls2, dd2, data2, sl2⟩, ho2, hc2, n2, hd2⟩ := id hb
  simp only at hc hd hc2 hd2
  subst hc hd hc2 hd2
  exact call_meets F.slot_tuple_lt ⟨_, ho, rfl⟩ F.entry_tuple_lt (F.args_tuple_lt_2 _ _) (tuple_ltAt l b items items2 n n2 dd dd2 sl sl2 e r) ⟨ho, ho2, he, hr, h⟩
theorem oneLt_tup {xs ys : List PyData} {a b : Value} {as bs : List Addr} {Q : Bool → Shared → Prop} (ra : Reads s.heap a (.tuple xs) as) (rb : Reads s.heap b (.tuple ys) bs) (h : alike (.tuple xs) (.tuple ys) = true)
    (hu : A.units + min (PyData.tuple xs).depth (PyData.tuple ys).depth < cLine) (hq : Q (dataLt (.tuple xs) (.tuple ys)) s) : wpAny (model prog w) A (oneLt' true a b) Q E s := by
  have hal : alikeAll xs ys = true := by simpa [alike] using h
  cases ra with
  | @tuple l o vs n _ as₁ h1 h2 h3 h4 =>
    cases rb with
    | @tuple l' o' vs' n' _ bs₁ k1 k2 k3 k4 =>
      have n1 : vs.size = xs.length := by simpa using ReadsAll.length _ _ _ h4
      have n2 : vs'.size = ys.length := by simpa using ReadsAll.length _ _ _ k4
      rw [dataLt_tuple, ← firstLt_toks xs ys hal, ← n1, ← n2] at hq
      rw [oneLt'_eq]
      simp only [if_true]
      refine wpAny_bind (wpAny_cRoomFor (room_here hu) ?_)
      refine wpAny_bind (wpAny_callSpecialIfBound?_slot (T := "tuple") ⟨_, h1, h2⟩ F.slot_tuple_lt (call_tuple_lt (e := pairEq xs ys) (r := fun j => dataLt (xs.getD j .none) (ys.getD j .none)) ⟨_, h1, h2, _, h3⟩ ⟨_, k1, k2, _, k3⟩ (fun j j1 j2 => ?_) (fun j j1 j2 hj => ?_) ?_))
      · have := eqAt_alikeAll xs ys A.in1 s vs.toList vs'.toList _ _ h4 k4 hal (room_in hu) j (by simpa using j1) (by simpa using j2)
        simpa using this
      · have := rcLt_alikeAll xs ys A.in1 s vs.toList vs'.toList _ _ h4 k4 hal (room_in hu) j (by simpa using j1) (by simpa using j2) hj
        simpa using this
      · exact wpAny_truthy_bool hq
theorem firsts_some : ∀ (vs : List Value) (ds : List PyData) {Q : List (Option Value) → Shared → Prop}, EachIs (fun v d => ∃ as, Reads s.heap v d as) vs ds → (∀ d, d ∈ ds → ∃ xs, d = .tuple xs) → (∀ os : List (Option Value), (∀ r, ds.head? = some (.tuple []) → os.head? = some r → r = none) → os.length = vs.length → Q os s) → wpAny (model prog w) A (vs.mapM firstOfTuple') Q E s
  | [], _, _, _, _, h => by rw [List.mapM_nil]; exact wpAny_pure (h [] (fun _ _ e => by simp at e) rfl)
  | v :: vs, _, Q, .cons (b := d) ⟨as, r⟩ t, ht, h => by
    obtain ⟨xs, rfl⟩ := ht d (List.mem_cons_self ..)
    cases r with
    | @tuple a o ys n _ _ ho hc hd hr =>
      rw [List.mapM_cons]
      refine wpAny_bind ?_
      rw [kas_first_eq]
      refine wpAny_bind (Looks.here (show Looks (model prog w) s.heap (typeOf (.ref a)) o.cls from (Looks.ld ho).andThen .now) ?_)
      rw [hc, if_neg (by first | decide | simp)]
      refine wpAny_bind (listItems_at ho hd (wpAny_pure ?_))
      refine wpAny_bind (firsts_some vs _ (Q := fun bs s' => wpAny (model prog w) A (pure (ys[0]? :: bs)) Q E s') t (fun d hd => ht d (List.mem_cons_of_mem _ hd)) fun os _ hl => wpAny_pure ?_)
      refine h _ (fun r e1 e2 => ?_) (by simp [hl])
      have e1 : PyData.tuple xs = .tuple [] := Option.some.inj e1
      injection e1 with e1
      subst e1
      have hz := ReadsAll.length _ _ _ hr
      have e2 : ys[0]? = r := Option.some.inj e2
      rw [← e2, Array.getElem?_eq_none]
      simpa using hz
/-- values that read as alike tuples, the first of them empty, can be sorted -/
theorem sortsAt_0 {vs : List Value} {ds : List PyData} (e : EachIs (fun v d => ∃ as, Reads s.heap v d as) vs ds) (hal : AllAlike ds) (ht : ∀ d, d ∈ ds → ∃ xs, d = .tuple xs) (h0 : ds.head? = some (.tuple [])) (hu : ∀ d, d ∈ ds → A.units + d.depth < cLine) : SortsAt prog w A s (dataKind s.heap ds) vs := by
  have room : ∀ {d d' : PyData}, d ∈ ds → A.units + min d.depth d'.depth < cLine := fun {d d'} hd => Nat.lt_of_le_of_lt (Nat.add_le_add_left (Nat.min_le_left _ _) _) (hu d hd)
  refine ⟨fun v hv => ?_, oneType', ?_, fun h2 E Q hq => ?_⟩
  · obtain ⟨d, hd, as, r⟩ := e.left v hv
    exact ⟨_, dataKind_some hal hd r⟩
  · intro E x y a b Q ha hb hq
    obtain ⟨d, as, hd, ra, rfl⟩ := dataKind_inv ha
    obtain ⟨d', as', hd', rb, rfl⟩ := dataKind_inv hb
    obtain ⟨xs, rfl⟩ := ht d hd
    obtain ⟨ys, rfl⟩ := ht d' hd'
    rw [keyLt'_oneType]
    exact oneLt_tup ra rb (hal _ hd _ hd') (room hd) hq
  · obtain ⟨v₁, rest, rfl⟩ : ∃ v₁ rest, vs = v₁ :: rest := by
      match vs, h2 with
      | v₁ :: rest, _ => exact ⟨v₁, rest, rfl⟩
    rw [keyKind'_eq, List.mapM_toArray, map_eq_pure_bind]
    refine wpAny_bind (wpAny_bind (firsts_some _ ds e ht fun os ho hl => wpAny_pure ?_))
    obtain ⟨o1, orest, rfl⟩ : ∃ o1 orest, os = o1 :: orest := by
      match os, hl with
      | o1 :: orest, _ => exact ⟨o1, orest, rfl⟩
      | [], hl => simp at hl
    obtain rfl := ho o1 h0 rfl
    rw [if_neg (by simp), if_neg (by simp)]
    rw [oneTypeOnly'_eq, List.mapM_toArray, map_eq_pure_bind]
    refine wpAny_bind (wpAny_bind (wpAny_bind (kas_mapM (r := Value.type "tuple") _ (fun v hv Q' hq => ?_) (wpAny_pure ?_))))
    · obtain ⟨d, hd, as, r⟩ := e.left v hv
      obtain ⟨xs, rfl⟩ := ht d hd
      exact (looks_reads r).here hq
    · have hT2 : (Value.type "tuple" == Value.type "tuple") = true := by rfl
      have hall : ((List.map (fun _ => Value.type "tuple") (v₁ :: rest)).toArray.all fun x => x == Value.type "tuple") = true := by
        simp only [List.all_toArray, List.all_map, List.all_eq_true]
        intro _ _
        exact hT2
      have h0 : (List.map (fun _ => Value.type "tuple") (v₁ :: rest)).toArray[0]? = some (Value.type "tuple") := by simp
      rw [h0]
      simp only [hall, if_true]
      exact wpAny_pure (wpAny_pure hq)
/-- data that can be sorted -/
def SrtOk (ds : List PyData) : Prop := Sortable ds ∨ ((∀ d, d ∈ ds → ∃ xs, d = .tuple xs) ∧ ds.head? = some (.tuple []))
theorem sortsAt_any {vs : List Value} {ds : List PyData} (e : EachIs (fun v d => ∃ as, Reads s.heap v d as) vs ds) (hal : AllAlike ds) (hk : SrtOk ds) (hu : ∀ d, d ∈ ds → A.units + d.depth < cLine) : SortsAt prog w A s (dataKind s.heap ds) vs := by
  rcases hk with hk | ⟨h1, h2⟩
  · exact SortsAt.data e hal hk hu
  · exact sortsAt_0 e hal h1 h2 hu
variable {β : Type} {R : Value → β → Prop} {enc : β → PyData} {vs : List Value} {bs : List β}
theorem sorted_dataA {l : Addr} {Q : Value → Shared → Prop} (hl : s.heap.IsList l vs.toArray ∨ s.heap.IsTuple l vs.toArray) (e : EachIs R vs bs) (er : EachIs (fun v b => ∃ as, Reads s.heap v (enc b) as) vs bs) (hal : AllAlike (bs.map enc)) (hk : SrtOk (bs.map enc)) (hL : bs.length ≤ sizeLine)
    (hu : ∀ b, b ∈ bs → A.units + 2 + (enc b).depth < cLine) (h : ∀ out, out.length = bs.length → EachIs R out (bs.mergeSort (dataLe false enc)) → Q (.ref (s.heap.objs.size + 1)) { s with heap := sortedAll s.heap vs (List.toArray out) }) :
    wpAny (model prog w) A (call (.builtin "sorted") [.ref l]) Q E s := by
  have er' : EachIs (fun v b => ∃ as, Reads (sortingHeap (copyHeap s.heap vs) (s.heap.objs.size + 1) vs) v (enc b) as) vs bs := er.mono fun _ _ ⟨as, r⟩ => ⟨as, PyProof.Rows.Reads.keeps (fun _ _ => sorting_copy_old) r⟩
  have S : SortsAt prog w A.in1.in1 { s with heap := sortingHeap (copyHeap s.heap vs) (s.heap.objs.size + 1) vs } (dataKind (sortingHeap (copyHeap s.heap vs) (s.heap.objs.size + 1) vs) (bs.map enc)) vs :=
    sortsAt_any (s := { s with heap := sortingHeap (copyHeap s.heap vs) (s.heap.objs.size + 1) vs }) (each_map (R := fun v d => ∃ as, Reads (sortingHeap (copyHeap s.heap vs) (s.heap.objs.size + 1) vs) v d as) enc er') hal hk (bound_map hu)
  have hv : vs.length ≤ sizeLine := by rw [e.length]; exact hL
  exact sorted_of_sortA hl hv (args_sorted1 _) (fun _ => args_list_sort _) fun _ => list_sort_vals (s := { s with heap := copyHeap s.heap vs }) (copyHeap_at s.heap vs) S hv ⟨rfl, h _ (by rw [sortVals_length false rfl]; exact e.length) (sortVals_data false e er' hal)⟩
theorem sorted_rev_dataA {l : Addr} {b : Bool} {Q : Value → Shared → Prop} (hl : s.heap.IsList l vs.toArray ∨ s.heap.IsTuple l vs.toArray) (e : EachIs R vs bs) (er : EachIs (fun v b => ∃ as, Reads s.heap v (enc b) as) vs bs) (hal : AllAlike (bs.map enc)) (hk : SrtOk (bs.map enc)) (hL : bs.length ≤ sizeLine)
    (hu : ∀ b, b ∈ bs → A.units + 2 + (enc b).depth < cLine) (h : ∀ out, out.length = bs.length → EachIs R out (bs.mergeSort (dataLe b enc)) → Q (.ref (s.heap.objs.size + 1)) { s with heap := sortedAll s.heap vs (List.toArray out) }) :
    wpAny (model prog w) A (call (.builtin "sorted") [.ref l] [(Str.ofString "reverse", .bool b)]) Q E s := by
  have er' : EachIs (fun v b => ∃ as, Reads (sortingHeap (copyHeap s.heap vs) (s.heap.objs.size + 1) vs) v (enc b) as) vs bs := er.mono fun _ _ ⟨as, r⟩ => ⟨as, PyProof.Rows.Reads.keeps (fun _ _ => sorting_copy_old) r⟩
  have S : SortsAt prog w A.in1.in1 { s with heap := sortingHeap (copyHeap s.heap vs) (s.heap.objs.size + 1) vs } (dataKind (sortingHeap (copyHeap s.heap vs) (s.heap.objs.size + 1) vs) (bs.map enc)) vs :=
    sortsAt_any (s := { s with heap := sortingHeap (copyHeap s.heap vs) (s.heap.objs.size + 1) vs }) (each_map (R := fun v d => ∃ as, Reads (sortingHeap (copyHeap s.heap vs) (s.heap.objs.size + 1) vs) v d as) enc er') hal hk (bound_map hu)
  have hv : vs.length ≤ sizeLine := by rw [e.length]; exact hL
  exact sorted_of_sortA hl hv (args_sorted_rev _ _) (fun _ => args_list_sort_rev _ _) fun _ => list_sort_rev_vals (s := { s with heap := copyHeap s.heap vs }) (copyHeap_at s.heap vs) S hv ⟨rfl, h _ (by rw [sortVals_length b rfl]; exact e.length) (sortVals_data b e er' hal)⟩
end
end DLS

set_option Elab.async false
set_option linter.all false
set_option maxRecDepth 100000
set_option maxHeartbeats 4000000
namespace DL
open PySem PySem.Spec PyProof.Rows L2
open PySem.W (EachIs dataLe AllAlike alike sort_maps)
theorem each_zip {X : Cx} {pins : List (Addr × Obj)} {σ : L2.St} {H : Hp} {s : Shared} (I : Inv X pins σ H s) : ∀ {its : List Value} {xs : List V} {ps : List PyData}, Vals xs its → DpAll X.K H xs ps → EachIs (fun u (b : V × PyData) => RelV b.1 u ∧ ∃ as, Reads s.heap u b.2 as) its (xs.zip ps)
  | _, _, _, .nil, .nil => .nil
  | _, _, _, .cons r rr, .cons h hh => .cons ⟨r, Rd_reads I h r⟩ (each_zip I rr hh)
theorem vals_each : ∀ {out : List Value} {bs : List (V × PyData)}, EachIs (fun u (b : V × PyData) => RelV b.1 u) out bs → Vals (bs.map (·.1)) out
  | _, _, .nil => .nil
  | _, _, .cons h t => .cons h (vals_each t)
theorem dpAll_len {K : Fg} {H : Hp} : ∀ {xs : List V} {ps : List PyData}, DpAll K H xs ps → xs.length = ps.length
  | _, _, .nil => rfl
  | _, _, .cons _ t => by rw [List.length_cons, List.length_cons, dpAll_len t]
def srtL (rev : Bool) (xs : List V) (ps : List PyData) : List V := ((xs.zip ps).mergeSort (dataLe rev (·.2))).map (·.1)
def tSort (K : Fg) (rev : Bool) (ta : TE) : TE := fun σ H Q => ta σ H fun x H1 => ∃ (l : Addr) (xs : List V) (ps : List PyData), x = .ref l ∧ (SqL K H1 l xs ∨ SqT K H1 l xs) ∧ DpAll K H1 xs ps ∧ AllAlike ps ∧ DLS.SrtOk ps ∧ (∀ d, d ∈ ps → d.depth ≤ 60) ∧ ∀ p, H1 p = none → Q (.ref p) (upd H1 p (.lst (srtL rev xs ps)))
theorem snd_zip : ∀ {xs : List V} {ps : List PyData}, xs.length = ps.length → (xs.zip ps).map (·.2) = ps
  | [], [], _ => rfl
  | x :: xs, p :: ps, h => by rw [List.zip_cons_cons, List.map_cons, snd_zip (by simpa using h)]
section
variable {X : Cx} {a : Expr} {ta : TE} {p p2 q pos : Pos}
theorem sort_end {rev : Bool} {pins : List (Addr × Obj)} {s : Shared} {σ : L2.St} {H : Hp} {l : Addr} {xs : List V} {ps : List PyData} {Q : VK} {kw : List (Str × Value)} (I : Inv X pins σ H s) (U : X.A.units + 65 < cLine) (hq : SqL X.K H l xs ∨ SqT X.K H l xs) (hd : DpAll X.K H xs ps) (hal : AllAlike ps) (hk : DLS.SrtOk ps) (hdep : ∀ d, d ∈ ps → d.depth ≤ 60)
    (hkw : (rev = false ∧ kw = []) ∨ kw = [(Str.ofString "reverse", .bool rev)]) (q : ∀ p, H p = none → Q (.ref p) (upd H p (.lst (srtL rev xs ps)))) : wpAny (model X.prog X.w) X.A (call (.builtin "sorted") [.ref l] kw) (EP X pins σ Q) X.xe s := by
  obtain ⟨its, rv, hl, hz⟩ : ∃ its : List Value, Vals xs its ∧ (s.heap.IsList l its.toArray ∨ s.heap.IsTuple l its.toArray) ∧ xs.length ≤ sizeLine := by
    rcases hq with hq | hq
    · obtain ⟨its, rv, hl, hz⟩ := I.list hq
      exact ⟨its, rv, .inl hl.isList, hz⟩
    · obtain ⟨its, rv, hl, hz⟩ := I.tuple hq
      exact ⟨its, rv, .inr hl, hz⟩
  have ez := each_zip I rv hd
  have hlen := dpAll_len hd
  have hs := snd_zip hlen
  have e1 : EachIs (fun u (b : V × PyData) => RelV b.1 u) its (xs.zip ps) := ez.mono fun _ _ h => h.1
  have e2 : EachIs (fun u (b : V × PyData) => ∃ as, Reads s.heap u ((fun b : V × PyData => b.2) b) as) its (xs.zip ps) := ez.mono fun _ _ h => h.2
  have hzl : (xs.zip ps).length ≤ sizeLine := by rw [List.length_zip]; omega
  have hu : ∀ b, b ∈ xs.zip ps → X.A.units + 2 + ((fun b : V × PyData => b.2) b).depth < cLine := by
    intro b hb
    have hm : b.2 ∈ ps := by rw [← hs]; exact List.mem_map.mpr ⟨b, hb, rfl⟩
    have := hdep _ hm
    show X.A.units + 2 + b.2.depth < cLine
    omega
  have fin : ∀ out : List Value, out.length = (xs.zip ps).length → EachIs (fun u (b : V × PyData) => RelV b.1 u) out ((xs.zip ps).mergeSort (dataLe rev (fun b : V × PyData => b.2))) → EP X pins σ Q (.ref (s.heap.objs.size + 1)) { s with heap := sortedAll s.heap its (List.toArray out) } := by
    intro out ho he
    have hv : Vals (srtL rev xs ps) out := vals_each he
    obtain ⟨ep, he'⟩ := PyProof.Rows.sortedAll_at s.heap its out.toArray
    have hsl : (srtL rev xs ps).length ≤ sizeLine := by
      unfold srtL
      rw [List.length_map, List.length_mergeSort]
      exact hzl
    exact ⟨.ref _, upd H (s.heap.objs.size + 1) (.lst (srtL rev xs ps)), I.laid (t' := s.toks) (fun _ _ => PyProof.Rows.sortedAll_old) (Nat.le_succ _) ⟨hsl, out, ep, hv, he'⟩, rfl, q _ (I.hok.fresh (Nat.le_succ _))⟩
  rcases hkw with ⟨rfl, rfl⟩ | rfl
  · exact DLS.sorted_dataA hl e1 e2 (by rw [hs]; exact hal) (by rw [hs]; exact hk) hzl hu fin
  · exact DLS.sorted_rev_dataA hl e1 e2 (by rw [hs]; exact hal) (by rw [hs]; exact hk) hzl hu fin
theorem pe_sort (U : X.A.units + 65 < cLine) (hg : Gl X "sorted") (hm : X.mg "sorted" = none) (ha : PE X a ta)
    (na : starEach [a] X.env = (false, eval a X.env) :: starEach [] X.env := by rfl) : PE X (.Call (.Name "sorted" p) [a] [] pos) (tSort X.K false ta) := by
  refine ⟨fun pins s σ H Q I h => Call_ (ld_blt I hg hm boot_sorted ?_)⟩
  refine callWith_builtin1 (args_cons (thn (ha.run pins s σ H _ I h) fun v s1 ⟨x, H1, I1, r1, q1⟩ => args_nil ?_) na) na rfl
  obtain ⟨l, xs, ps, rfl, hq, hd, hal, hk, hdep, q1⟩ := q1
  cases r1
  exact sort_end I1 U hq hd hal hk hdep (.inl ⟨rfl, rfl⟩) q1
end
def isT1 : PyData → Bool
  | .tuple (_ :: _) => true
  | _ => false
def notTN : PyData → Bool
  | .none => false
  | .tuple _ => false
  | _ => true
def isTp : PyData → Bool
  | .tuple _ => true
  | _ => false
def isT0 : List PyData → Bool
  | .tuple [] :: _ => true
  | _ => false
def srtOkB (ps : List PyData) : Bool := ps.all isT1 || ps.all notTN || (ps.all isTp && isT0 ps)
theorem srtOkB_ok {ps : List PyData} (h : srtOkB ps = true) : DLS.SrtOk ps := by
  unfold srtOkB at h
  rw [Bool.or_eq_true, Bool.or_eq_true, Bool.and_eq_true, List.all_eq_true, List.all_eq_true, List.all_eq_true] at h
  rcases h with (h | h) | ⟨h, h0⟩
  · refine .inl (.inl fun d hd => ?_)
    have := h d hd
    unfold isT1 at this
    split at this
    · exact ⟨_, _, rfl⟩
    · cases this
  · refine .inl (.inr fun d hd => ?_)
    have := h d hd
    unfold notTN at this
    split at this
    · cases this
    · cases this
    · rename_i h1 h2; exact ⟨h1, h2⟩
  · refine .inr ⟨fun d hd => ?_, ?_⟩
    · have := h d hd
      unfold isTp at this
      split at this
      · exact ⟨_, rfl⟩
      · cases this
    · unfold isT0 at h0
      split at h0
      · rfl
      · cases h0
def okSort (ps : List PyData) : Bool := PyData.canLayAll0 ps && (ps.all fun a => ps.all fun b => alike a b) && srtOkB ps && ps.all fun d => decide (d.depth ≤ 60)
def sortD (rev : Bool) (d : D) : Option (Bool × D) := match d with
  | .lst ds => if okSort (toPyL ds) then some (true, .lst (ds.mergeSort (dataLe rev toPy))) else none
  | .tup ds => if okSort (toPyL ds) then some (true, .lst (ds.mergeSort (dataLe rev toPy))) else none
  | _ => none
theorem toPyL_map : ∀ ds : List D, toPyL ds = ds.map toPy
  | [] => rfl
  | d :: ds => by rw [toPyL, List.map_cons, toPyL_map ds]
theorem repL_pairs {K : Fg} {mg : MG} {B : Hp} : ∀ {zs : List (V × D)}, (∀ z, z ∈ zs → Rep K mg B z.1 z.2) → RepL K mg B (zs.map (·.1)) (zs.map (·.2))
  | [], _ => .nil
  | z :: zs, h => .cons (h z (List.mem_cons_self ..)) (repL_pairs fun y hy => h y (List.mem_cons_of_mem _ hy))
theorem repL_zip {K : Fg} {mg : MG} {B : Hp} : ∀ {xs : List V} {ds : List D}, RepL K mg B xs ds → (∀ z, z ∈ xs.zip ds → Rep K mg B z.1 z.2) ∧ (xs.zip ds).map (·.2) = ds
  | _, _, .nil => ⟨fun z hz => by simp at hz, rfl⟩
  | _, _, .cons r rr => by
    obtain ⟨h1, h2⟩ := repL_zip rr
    refine ⟨fun z hz => ?_, by rw [List.zip_cons_cons, List.map_cons, h2]⟩
    rw [List.zip_cons_cons] at hz
    rcases List.mem_cons.mp hz with rfl | hz
    · exact r
    · exact h1 z hz
theorem srt_rep {K : Fg} {mg : MG} {B : Hp} {rev : Bool} {xs : List V} {ds : List D} (r : RepL K mg B xs ds) : RepL K mg B (srtL rev xs (toPyL ds)) (ds.mergeSort (dataLe rev toPy)) := by
  obtain ⟨h1, h2⟩ := repL_zip r
  have e1 : srtL rev xs (toPyL ds) = ((xs.zip ds).mergeSort (dataLe rev (fun z : V × D => toPy z.2))).map (·.1) := by
    unfold srtL
    rw [toPyL_map, List.zip_map_right]
    have := sort_maps (r := dataLe rev (fun z : V × D => toPy z.2)) (s := dataLe rev (fun z : V × PyData => z.2)) (Prod.map id toPy) (l := xs.zip ds) (fun _ _ _ _ => rfl)
    rw [← this, List.map_map]; rfl
  have e2 : ds.mergeSort (dataLe rev toPy) = ((xs.zip ds).mergeSort (dataLe rev (fun z : V × D => toPy z.2))).map (·.2) := by
    have := sort_maps (r := dataLe rev (fun z : V × D => toPy z.2)) (s := dataLe rev toPy) (fun z : V × D => z.2) (l := xs.zip ds) (fun _ _ _ _ => rfl)
    rw [this, h2]
  rw [e1, e2]
  exact repL_pairs fun z hz => h1 z (List.mem_mergeSort.mp hz)
section
variable {X : Cx} {p : FP} {W : Wx} {a : Expr} {c : CE} {x1 x2 x3 pos : Pos}
theorem okSort_ok {ps : List PyData} (h : okSort ps = true) : PyData.canLayAll0 ps = true ∧ AllAlike ps ∧ DLS.SrtOk ps ∧ ∀ d, d ∈ ps → d.depth ≤ 60 := by
  unfold okSort at h
  rw [Bool.and_eq_true, Bool.and_eq_true, Bool.and_eq_true] at h
  obtain ⟨⟨⟨h1, h2⟩, h3⟩, h4⟩ := h
  rw [List.all_eq_true] at h2 h4
  exact ⟨h1, fun d hd d' hd' => List.all_eq_true.mp (h2 d hd) d' hd', srtOkB_ok h3, fun d hd => of_decide_eq_true (h4 d hd)⟩
theorem sort_pre {rev : Bool} {σ : L2.St} {H : Hp} {Q : VK} (h : tX X p W (cF (sortD rev) c) σ H Q) : tSort X.K rev (tX X p W c) σ H Q := by
  obtain ⟨env0, B0, E0, h⟩ := cF_pre h
  refine ⟨env0, B0, E0, h.imp fun r h v H1 B1 E1 F1 r1 => ?_⟩
  obtain ⟨env, B, d, z, e1, B2, E2, F2, r2, hz, k⟩ := h v H1 B1 E1 F1 r1
  unfold sortD at hz
  split at hz
  · rename_i ds
    obtain ⟨hl, hz⟩ := ite_some hz
    cases hz
    obtain ⟨o1, o2, o3, o4⟩ := okSort_ok hl
    cases r2 with
    | lst h1 h2 =>
      refine ⟨_, _, toPyL ds, rfl, .inl (SqL.of (E2.sub _ _ h1)), (h2.mono E2.sub).dp o1, o2, o3, o4, fun q hq => ?_⟩
      obtain ⟨a1, a2, a3⟩ := res_new E2 F2 (srt_rep (rev := rev) h2) hq
      exact k _ _ _ a1 a2 a3
  · rename_i ds
    obtain ⟨hl, hz⟩ := ite_some hz
    cases hz
    obtain ⟨o1, o2, o3, o4⟩ := okSort_ok hl
    cases r2 with
    | tup h1 h2 =>
      refine ⟨_, _, toPyL ds, rfl, .inr (SqT.of (E2.sub _ _ h1)), (h2.mono E2.sub).dp o1, o2, o3, o4, fun q hq => ?_⟩
      obtain ⟨a1, a2, a3⟩ := res_new E2 F2 (srt_rep (rev := rev) h2) hq
      exact k _ _ _ a1 a2 a3
  · cases hz
theorem de_sort (U : X.A.units + 65 < cLine) (hm : X.mg "sorted" = none) (ha : DE X p W a c) (hg : X.env.kindOf "sorted" = some .globalImplicit := by kernel_rfl)
    (na : starEach [a] X.env = (false, eval a X.env) :: starEach [] X.env := by rfl) : DE X p W (.Call (.Name "sorted" x1) [a] [] pos) (cF (sortD false) c) :=
  pe_imp (pe_sort U hg hm ha na) fun σ H Q h => sort_pre h
def rS (K : Fg) (rev : Bool) : V → Hp → VK → Prop := fun x H1 Q => ∃ (l : Addr) (xs : List V) (ps : List PyData), x = .ref l ∧ (SqL K H1 l xs ∨ SqT K H1 l xs) ∧ DpAll K H1 xs ps ∧ AllAlike ps ∧ DLS.SrtOk ps ∧ (∀ d, d ∈ ps → d.depth ≤ 60) ∧ ∀ p, H1 p = none → Q (.ref p) (upd H1 p (.lst (srtL rev xs ps)))
def rSrtR (K : Fg) : List V → List V → Hp → VK → Prop := fun vs zs H Q => match vs, zs with
  | [x], [.bl true] => rS K true x H Q
  | _, _ => False
theorem cr_sortR (U : X.A.units + 65 < cLine) : CallRK X (.builtin "sorted") [Str.ofString "reverse"] (rSrtR X.K) := by
  intro pins s σ H vs zs us ws Q I r rz h
  unfold rSrtR at h
  split at h
  · obtain ⟨l, xs, ps, rfl, hq, hd, hal, hk, hdep, q⟩ := h
    rw [Vals.ref1 r]
    obtain ⟨w1, rfl, e1⟩ := vals1 rz
    obtain rfl : w1 = Value.bool true := e1
    exact sort_end (rev := true) I U hq hd hal hk hdep (.inr rfl) q
  · exact h.elim
theorem de_sortR {j : Nat} {p3 kp : Pos} (U : X.A.units + 65 < cLine) (hm : X.mg "sorted" = none) (ha : DE X p W a c) (hg : X.env.kindOf "sorted" = some .globalImplicit := by kernel_rfl)
    (na : starEach [a] X.env = (false, eval a X.env) :: starEach [] X.env := by rfl)
    (he : backTo pos (starEach [a] X.env) = (false, eval a X.env) :: backTo pos (starEach [] X.env) := by rfl) (hpl : (backTo pos (starEach [a] X.env)).any (·.1) = false := by rfl)
    (hall : (backToKw pos (keywordEach [⟨some "reverse", .Constant (.bool true) j p3, kp⟩] X.env)).all (·.1.isSome) = true := by rfl) (hnone : (backToKw pos (keywordEach [⟨some "reverse", .Constant (.bool true) j p3, kp⟩] X.env)).any (·.1.isNone) = false := by rfl) (hks : (backToKw pos (keywordEach [⟨some "reverse", .Constant (.bool true) j p3, kp⟩] X.env)).filterMap (·.1) = [Str.ofString "reverse"] := by rfl) :
    DE X p W (.Call (.Name "sorted" x1) [a] [⟨some "reverse", .Constant (.bool true) j p3, kp⟩] pos) (cF (sortD true) c) :=
  pe_imp (pe_callBK (ks := [Str.ofString "reverse"]) (cr_sortR U) hg hm boot_sorted (pa_cons ha pa_nil na) (pk_cons pe_bl pk_nil) (he := he) (hpl := hpl) (hall := hall) (hnone := hnone) (hks := hks)) fun σ H Q h => sort_pre h
end
end DL

set_option Elab.async false
set_option linter.all false
set_option maxRecDepth 100000
set_option maxHeartbeats 4000000
namespace DL
open PySem PySem.Spec PyProof.Rows L2
section
variable {X : Cx} {p : FP} {W : Wx} {pos : Pos}
theorem ps_parC {i j : Nat} {x y : Str} {a b : Expr} {ta : TA} {px py pt : Pos} {kt k2 pt2} (hc : X.calm = true) (hN : X.N.Nodup) (hi : X.N[i]? = some x) (hj : X.N[j]? = some y)
    (hx : Loc X.env.scope x) (hy : Loc X.env.scope y) (ha : PA X [a, b] ta)
    (hw : swappedStores [.Tuple [.Name x px, .Name y py] kt pt] (.Tuple [a, b] k2 pt2) X.env = pure none)
    (hs : swapsWithSole [.Tuple [.Name x px, .Name y py] kt pt] (.Tuple [a, b] k2 pt2) pos.line X.env = pure false)
    (hn : (assignEach [.Name x px, .Name y py] X.env).length = 2) (hst : (assignEach [.Name x px, .Name y py] X.env).findIdx? (·.1) = none)
    (h1 : (assignEach [.Tuple [.Name x px, .Name y py] kt pt] X.env).map (·.2) = [assign (.Tuple [.Name x px, .Name y py] kt pt) X.env])
    (g1 : (assignEach [.Name x px, .Name y py] X.env).map (·.2) = assign (.Name x px) X.env :: (assignEach [.Name y py] X.env).map (·.2)) (g2 : (assignEach [.Name y py] X.env).map (·.2) = assign (.Name y py) X.env :: (assignEach [] X.env).map (·.2))
    (fx : X.fn x = true ∨ X.env.scope.names.lookup x = some .local := by first | exact .inl rfl | exact .inr rfl | assumption) (fy : X.fn y = true ∨ X.env.scope.names.lookup y = some .local := by first | exact .inl rfl | exact .inr rfl | assumption) :
    PS X (.Assign [.Tuple [.Name x px, .Name y py] kt pt] (.Tuple [a, b] k2 pt2) pos) (tPar i j ta) := by
  refine ⟨fun pins s σ H D I h => ?_⟩
  refine wpAny_Assign_stores (Tuple_ (thn (ha.run _ pins s σ H _ I h) fun us s1 ⟨vs, H1, I1, r1, q1⟩ => ?_)) hs hw
  obtain ⟨v, w, e1, q1⟩ := q1
  subst e1
  refine wpAny_newObj_type ?_ (by
    have := r1.length
    show us.toArray.size ≤ sizeLine
    rw [List.size_toArray, ← this]; show 2 ≤ sizeLine; decide)
  have I2 : Inv X pins σ H1 { s1 with heap := s1.heap.push { cls := .type "tuple", data := .seq us.toArray } } := I1.kept (t' := s1.toks) fun b o e => Heap.get?_push_of_some _ e
  rw [h1]
  have hl : us.toArray.size = 2 := by rw [List.size_toArray, ← r1.length]; rfl
  refine assign_Tuple_tuple (items := us.toArray) (I.ok.hd hc) (IsTup.new s1.heap _) (by rw [hn, hl]) hst fun h' hx' => ?_
  have I3 : Inv X pins σ H1 { s1 with heap := h' } := I2.kept (h' := h') (t' := s1.toks) fun b o e => hx' b o (Nat.ne_of_lt (Heap.lt_size e)) e
  have G := (pgs_cons (pg_name (pos := px) hN hi hx fx) (pgs_cons (pg_name (pos := py) hN hj hy fy) pgs_nil g2) g1).run pins _ σ H1 [v, w] us D.nx I3 r1 ⟨v, [w], rfl, ⟨w, [], rfl, rfl, q1⟩⟩
  have e : us.toArray.toList = us := by simp
  rw [e]
  exact thn G fun _ s2 q => q
theorem ds_parC {i j : Nat} {x y : Str} {a b : Expr} {f : CM} {px py pt : Pos} {kt k2 pt2} (hc : X.calm = true) (hN : X.N.Nodup) (hi : X.N[i]? = some x) (hj : X.N[j]? = some y)
    (hx : Loc X.env.scope x) (hy : Loc X.env.scope y) (ha : DM X p W [a, b] f)
    (hw : swappedStores [.Tuple [.Name x px, .Name y py] kt pt] (.Tuple [a, b] k2 pt2) X.env = pure none := by rfl)
    (hs : swapsWithSole [.Tuple [.Name x px, .Name y py] kt pt] (.Tuple [a, b] k2 pt2) pos.line X.env = pure false := by rfl)
    (hn : (assignEach [.Name x px, .Name y py] X.env).length = 2 := by rfl) (hst : (assignEach [.Name x px, .Name y py] X.env).findIdx? (·.1) = none := by rfl)
    (h1 : (assignEach [.Tuple [.Name x px, .Name y py] kt pt] X.env).map (·.2) = [assign (.Tuple [.Name x px, .Name y py] kt pt) X.env] := by rfl)
    (g1 : (assignEach [.Name x px, .Name y py] X.env).map (·.2) = assign (.Name x px) X.env :: (assignEach [.Name y py] X.env).map (·.2) := by rfl) (g2 : (assignEach [.Name y py] X.env).map (·.2) = assign (.Name y py) X.env :: (assignEach [] X.env).map (·.2) := by rfl)
    (fx : X.fn x = true ∨ X.env.scope.names.lookup x = some .local := by first | exact .inl rfl | exact .inr rfl | assumption) (fy : X.fn y = true ∨ X.env.scope.names.lookup y = some .local := by first | exact .inl rfl | exact .inr rfl | assumption) :
    DS X p W (.Assign [.Tuple [.Name x px, .Name y py] kt pt] (.Tuple [a, b] k2 pt2) pos) (sPar i j f) :=
  ps_imp (ps_parC hc hN hi hj hx hy ha hw hs hn hst h1 g1 g2 fx fy) fun _ _ _ h => par_ok h
end
end DL

set_option Elab.async false
set_option linter.all false
set_option maxRecDepth 100000
set_option maxHeartbeats 4000000
namespace HT
open PySem PySem.Spec PyProof.Rows
section
variable {prog : Program} {w : World} {A : Around} {E : Value → Shared → Prop} {s : Shared}
theorem adjust_rev (n : Nat) : Builtin.Slice.sliceAdjust none none (-1) (n : Int) = ((n : Int) - 1, -1) := by
  unfold Builtin.Slice.sliceAdjust
  simp
theorem places_rev (n : Nat) : Builtin.Slice.slicePlaces ((n : Int) - 1) (-1) (-1) = n := by
  unfold Builtin.Slice.slicePlaces
  have h1 : ¬ ((-1 : Int) > 0) := by omega
  have h2 : -(-1 : Int) = 1 := by omega
  simp only [h1, if_false, h2, Int.ediv_one]
  split <;> omega
theorem sliceApplied_rev {sl : Addr} {vl vu vs : Value} {n : Nat} {Q : Int × Int × Nat → Shared → Prop} (hs : s.heap.IsSliceOf sl vl vu vs) (pl : IsPart vl none) (pu : IsPart vu none) (ps : IsPart vs (some (-1)))
    (h : Q ((n : Int) - 1, -1, n) s) : wpAny (model prog w) A (Builtin.Slice.sliceApplied (.ref sl) (pure (n : Int))) Q E s := by
  obtain ⟨os, hos, hcs, hds⟩ := id hs
  unfold Builtin.Slice.sliceApplied Builtin.Slice.sliceFields
  refine wpAny_bind (wpAny_bind (wpAny_field hos hds (x := vl) rfl (wpAny_bind (wpAny_field hos hds (x := vu) rfl (wpAny_bind (wpAny_field hos hds (x := vs) rfl (wpAny_pure ?_)))))))
  refine wpAny_bind (slicePart_ ps ?_)
  show wpAny _ _ (if ((-1 : Int) == 0) = true then _ else _) _ _ s
  rw [if_neg (by decide)]
  refine wpAny_bind (slicePart_ pl (wpAny_bind (slicePart_ pu (wpAny_bind (wpAny_pure ?_)))))
  show wpAny _ _ (match Builtin.Slice.sliceAdjust none none (-1) (n : Int) with | (lo, hi) => pure (lo, (-1 : Int), Builtin.Slice.slicePlaces lo hi (-1))) _ _ s
  rw [adjust_rev n]
  show wpAny _ _ (pure ((n : Int) - 1, (-1 : Int), Builtin.Slice.slicePlaces ((n : Int) - 1) (-1) (-1))) _ _ s
  rw [places_rev]
  exact wpAny_pure h
theorem fmc {α β : Type} {f g : α → Option β} : ∀ {l : List α}, (∀ x ∈ l, f x = g x) → l.filterMap f = l.filterMap g
  | [], _ => rfl
  | x :: l, h => by rw [List.filterMap_cons, List.filterMap_cons, h x (List.mem_cons_self ..), fmc fun y hy => h y (List.mem_cons_of_mem _ hy)]
theorem pick_rev (xs : Array Value) : ((List.range xs.size).filterMap fun (m : Nat) => xs[((xs.size : Int) - 1 + (m : Int) * (-1)).toNat]?).toArray = xs.toList.reverse.toArray := by
  congr 1
  have e : ∀ m ∈ List.range xs.size, xs[((xs.size : Int) - 1 + (m : Int) * (-1)).toNat]? = (some ∘ fun m => (xs.toList.reverse)[m]?.getD .none) m := by
    intro m hm
    have hm := List.mem_range.mp hm
    have : ((xs.size : Int) - 1 + (m : Int) * (-1)).toNat = xs.size - 1 - m := by omega
    rw [this]
    have h2 : m < xs.toList.length := by rw [Array.length_toList]; exact hm
    simp only [Function.comp_apply]
    rw [List.getElem?_reverse h2, ← Array.getElem?_toList, Array.length_toList]
    rw [List.getElem?_eq_getElem (by rw [Array.length_toList]; omega)]
    rfl
  have e2 : (List.range xs.size).filterMap (fun (m : Nat) => xs[((xs.size : Int) - 1 + (m : Int) * (-1)).toNat]?) = (List.range xs.size).filterMap (some ∘ fun m => (xs.toList.reverse)[m]?.getD .none) := by
    exact fmc e
  rw [e2, List.filterMap_eq_map]
  apply List.ext_getElem
  · simp
  · intro i h1 h2
    rw [List.getElem_map, List.getElem_range, List.getElem?_eq_getElem h2]; rfl
theorem getItem_tuple_rev {t sl : Addr} {items : Array Value} {vl vu vs : Value} {Q : Value → Shared → Prop} (ht : IsTup s.heap t items) (hs : s.heap.IsSliceOf sl vl vu vs) (pl : IsPart vl none) (pu : IsPart vu none) (ps : IsPart vs (some (-1)))
    (h : Q (.ref s.heap.objs.size) { s with heap := s.heap.push { cls := .type "tuple", data := .seq items.toList.reverse.toArray } })
    (hsz : items.size ≤ sizeLine) : wpAny (model prog w) A (getItem (.ref t) (.ref sl)) Q E s := by
  have htake : sizeOk (.seq items.toList.reverse.toArray) := by
    show items.toList.reverse.toArray.size ≤ sizeLine
    rw [List.size_toArray, List.length_reverse, Array.length_toList]
    exact hsz
  obtain ⟨os, hos, hcs, hds⟩ := id hs
  have hTs : s.TypeIs (.ref sl) "slice" := ⟨os, hos, hcs⟩
  unfold getItem
  try with_reducible refine wpAny_holding ?_
  first | refine wpAny_bind (wpAny_pure ?_) | skip
  refine wpAny_bind (wpAny_sequenceKey ht.typeIs (by decide) ?_)
  refine wpAny_bind (wpAny_callSpecial?_slot (name := Str.ofString "__getitem__") ht.typeIs PyProof.Rows.slot_tuple_getitem
    (wpAny_call_entry PyProof.Rows.slot_tuple_getitem ht.typeIs entry_tuple_getitem ?_ (args_tuple_getitem _ _)))
  show wpAny _ _ (Builtin.Tuple.tupleItemsOf (.ref t) >>= _) _ _ s
  refine wpAny_bind (tupleItemsOf_ ht ?_)
  refine wpAny_bind (wpAny_typeOf hTs ?_)
  rw [if_pos (by decide)]
  refine wpAny_bind (sliceApplied_rev hs pl pu ps ?_)
  have hno : ¬ ((((items.size : Int) - 1) == 0 && (-1 : Int) == 1 && items.size == items.size) = true) := by
    intro q
    rw [Bool.and_eq_true, Bool.and_eq_true] at q
    exact absurd q.1.2 (by decide)
  show wpAny _ _ (if (((items.size : Int) - 1) == 0 && (-1 : Int) == 1 && items.size == items.size) = true then _ else _) _ _ s
  rw [if_neg hno, pick_rev]
  first
    | exact wpAny_bind (m := Builtin.Tuple.tupleExact _) (wpAny_newObj_type (wpAny_pure ⟨_, rfl, wpAny_pure h⟩) htake)
    | exact wpAny_bind (m := Builtin.Tuple.tupleExact _) (wpAny_newObj_type (wpAny_bind (wpAny_pure (wpAny_pure ⟨_, rfl, wpAny_pure h⟩))) htake)
    | exact wpAny_bind (wpAny_bind (m := Builtin.Tuple.tupleExact _) (wpAny_newObj_type (wpAny_pure (wpAny_pure ⟨_, rfl, wpAny_pure h⟩)) htake))
    | exact wpAny_bind (wpAny_bind (m := Builtin.Tuple.tupleExact _) (wpAny_newObj_type (wpAny_pure ⟨_, rfl, wpAny_pure h⟩) htake))
end
end HT
namespace DL
open PySem PySem.Spec PyProof.Rows L2
/-- xs[::-1] of a list or of a tuple -/
def tRevB (K : Fg) (te : TE) : TE := fun σ H Q => te σ H fun x H1 => ∃ a xs, x = .ref a ∧ ((SqL K H1 a xs ∧ ∀ p, H1 p = none → Q (.ref p) (upd H1 p (.lst xs.reverse))) ∨ (SqT K H1 a xs ∧ ∀ p, H1 p = none → Q (.ref p) (upd H1 p (.tup xs.reverse))))
section
variable {X : Cx}
theorem pe_revB {e : Expr} {te : TE} {k : Nat} {p1 p2 p3 pos : Pos} (he : PE X e te) : PE X (.Subscript e (.Slice none none (some (.UnaryOp .USub (.Constant (.int 1) k p1) p2)) p3) pos) (tRevB X.K te) := by
  refine ⟨fun pins s σ H Q I h => ?_⟩
  refine Subscript_ (thn (he.run pins s σ H _ I h) fun v s1 ⟨x, H1, I1, r1, q1⟩ => ?_)
  obtain ⟨a, xs, ex, q⟩ := q1
  subst ex
  cases r1
  have hst : PO X (some (.UnaryOp .USub (.Constant (.int 1) k p1) p2)) (tPart (tUn (rU fun i => .int (-i)) (tC (.int 1)))) := po_some (pe_un un_neg pe_int)
  refine wpAny_Slice (thn (po_none.run pins s1 σ H1 (fun o H2 => o = none ∧ H2 = H1) I1 ⟨rfl, rfl⟩) fun vl s2 ⟨l, H2, I2, pl, el, e2⟩ => ?_)
  subst el e2
  refine thn (po_none.run pins s2 σ H2 (fun o H3 => o = none ∧ H3 = H2) I2 ⟨rfl, rfl⟩) fun vu s3 ⟨u, H3, I3, pu, eu, e3⟩ => ?_
  subst eu e3
  refine thn (hst.run pins s3 σ H3 (fun o H4 => o = some (-1) ∧ H4 = H3) I3 ⟨1, rfl, -1, rfl, rfl, rfl⟩) fun vs s4 ⟨o, H4, I4, ps, eo, e4⟩ => ?_
  subst eo e4
  have I5 : Inv X pins σ H4 { s4 with heap := s4.heap.push { cls := .type "slice", data := .fields #[vl, vu, vs] } } := I4.kept (t' := s4.toks) fun b ob q => Heap.get?_push_of_some _ q
  show wpAny (model X.prog X.w) X.A (subscriptTail e (.Slice none none (some (.UnaryOp .USub (.Constant (.int 1) k p1) p2)) p3) (.ref a) (.ref s4.heap.objs.size)) (EP X pins σ Q) X.xe { s4 with heap := s4.heap.push { cls := .type "slice", data := .fields #[vl, vu, vs] } }
  rcases q with ⟨hx, q⟩ | ⟨hx, q⟩
  · obtain ⟨its, r, ht, hz⟩ := I5.list hx
    have hlen := r.length
    refine tail_any (ops := [.ref a, .ref s4.heap.objs.size]) ht.isList.typeIs (PySem.slot_list_getitem.lookup) ?_ (by with_unfolding_all rfl)
    refine wpAny_getItem_list_slice ht.isList (Heap.IsSliceOf.new _ vl vu vs) pl pu ps (by decide) ?_ (by rw [List.size_toArray]; omega)
    rw [PySem.W.krv_pick]
    refine ⟨.ref _, _, I5.laid (t' := s4.toks) (o := .lst xs.reverse) (fun b ob q => Heap.get?_push_of_some _ q) (Nat.le_refl _) ?_, rfl, q _ (I5.hok.fresh (Nat.le_refl _))⟩
    exact ⟨by rw [List.length_reverse]; exact hz, _, 0, r.reverse, Heap.get?_push_size _ rfl⟩
  · obtain ⟨its, r, ht, hz⟩ := I5.tuple hx
    have hlen := r.length
    refine tail_any (ops := [.ref a, .ref s4.heap.objs.size]) ht.typeIs (PyProof.Rows.slot_tuple_getitem.lookup) ?_ (by with_unfolding_all rfl)
    refine HT.getItem_tuple_rev ht (Heap.IsSliceOf.new _ vl vu vs) pl pu ps ?_ (by rw [List.size_toArray]; omega)
    refine ⟨.ref _, _, I5.laid (t' := s4.toks) (o := .tup xs.reverse) (fun b ob q => Heap.get?_push_of_some _ q) (Nat.le_refl _) ?_, rfl, q _ (I5.hok.fresh (Nat.le_refl _))⟩
    exact ⟨by rw [List.length_reverse]; exact hz, _, r.reverse, IsTup.new _ _⟩
end
def revBD (d : D) : Option (Bool × D) := match d with
  | .lst ds => some (true, .lst ds.reverse)
  | .tup ds => some (false, .tup ds.reverse)
  | _ => none
section
variable {X : Cx} {p : FP} {W : Wx} {a : Expr} {c : CE} {x1 x2 x3 pos p1 p2 p3 : Pos}
theorem de_revB {k : Nat} (ha : DE X p W a c) : DE X p W (.Subscript a (.Slice none none (some (.UnaryOp .USub (.Constant (.int 1) k p1) p2)) p3) pos) (cF revBD c) := by
  refine pe_imp (pe_revB ha) fun σ H Q h => ?_
  obtain ⟨env0, B0, E0, h⟩ := cF_pre h
  refine ⟨env0, B0, E0, h.imp fun r h v H1 B1 E1 F1 r1 => ?_⟩
  obtain ⟨env, B, d, z, e1, B2, E2, F2, r2, hz, k⟩ := h v H1 B1 E1 F1 r1
  unfold revBD at hz
  split at hz
  · rename_i ds
    cases hz
    cases r2 with
    | lst h1 h2 =>
      refine ⟨_, _, rfl, .inl ⟨SqL.of (E2.sub _ _ h1), fun q hq => ?_⟩⟩
      obtain ⟨a1, a2, a3⟩ := res_new E2 F2 h2.rev hq
      exact k _ _ _ a1 a2 a3
  · rename_i ds
    cases hz
    cases r2 with
    | @tup a0 vs0 _ h1 h2 =>
      refine ⟨_, _, rfl, .inr ⟨SqT.of (E2.sub _ _ h1), fun q hq => ?_⟩⟩
      have x := Ext.newB E2.sub (o := .tup vs0.reverse) hq
      exact k (.ref q) _ _ (E2.ext x) (F2.trans x.fx) (.tup upd_same (h2.rev.mono x.base))
  · cases hz
end
end DL

set_option Elab.async false
set_option linter.all false
set_option maxRecDepth 100000
set_option maxHeartbeats 4000000
namespace DL
open PySem PySem.Spec PyProof.Rows L2
open PySem.W (dataLt alike)
def rGtA (K : Fg) : R2 := fun x y H Q => ∃ d e, Dp K H x d ∧ Dp K H y e ∧ SeqAt.shaped d = true ∧ SeqAt.shaped e = true ∧ alike d e = true ∧ d ≠ .none ∧ Q (.bl (dataLt e d)) H
theorem op_gtA {X : Cx} (hu : X.A.units + 65 < cLine) : OpR X (compareOp .Gt) (rGtA X.K) := by
  intro pins s σ H x y v u Q I rx ry h
  obtain ⟨d, e, hd, he, sd, se, ha, hn, q⟩ := h
  obtain ⟨as, r1⟩ := Dp.reads I d x v hd rx
  obtain ⟨bs, r2⟩ := Dp.reads I e y u he ry
  have hdep : d.depth ≤ 64 := of_decide_eq_true (Bool.and_eq_true_iff.mp sd).2
  exact PySem.W.gt_data r1 r2 ha hn (by omega) ⟨.bl _, H, I, rfl, q⟩
def gtA (a b : D) : Option (Bool × D) := match a, b with
  | .int i, .int j => some (false, .bl (decide (j < i)))
  | .tup xs, .tup ys => if okEq (.tup xs) && okEq (.tup ys) && alike (toPy (.tup xs)) (toPy (.tup ys)) then some (false, .bl (dataLt (toPy (.tup ys)) (toPy (.tup xs)))) else none
  | _, _ => none
def rGtX (K : Fg) : R2 := fun x y H Q => rI0 (fun i j => .bl (decide (j < i))) x y H Q ∨ rGtA K x y H Q
theorem op_gtX {X : Cx} (hu : X.A.units + 65 < cLine) : OpR X (compareOp .Gt) (rGtX X.K) := OpR.or op_gt (op_gtA hu)
theorem toPy_tup (xs : List D) : toPy (.tup xs) = .tuple (toPyL xs) := by rw [toPy]
theorem vr_gtA {K : Fg} {mg : MG} : VR2 K mg (rGtX K) gtA := by
  intro a b m d h x y H B Q s rx ry k
  unfold gtA at h
  split at h
  · cases h; exact .inl ⟨_, _, rx.int, ry.int, Rep.res s k (.bl _)⟩
  · rename_i xs ys
    obtain ⟨hl, h⟩ := ite_some h
    cases h
    rw [Bool.and_eq_true, Bool.and_eq_true] at hl
    refine .inr ⟨_, _, rx.dp s (okEq_lay hl.1.1), ry.dp s (okEq_lay hl.1.2), hl.1.1, hl.1.2, hl.2, by rw [toPy_tup]; simp, Rep.res s k (.bl _)⟩
  · cases h
section
variable {X : Cx} {p : FP} {W : Wx} {a b : Expr} {fa fb : CB} {pos : Pos}
theorem xGtA (U : X.A.units + 65 < cLine) (ha : DB X p W a fa) (hb : DB X p W b fb) : DE X p W (.Compare a [.Gt] [b] pos) (c2 gtA fa fb) := de_cmp (op_gtX U) vr_gtA ha hb (nomark _)
theorem tGtA (U : X.A.units + 65 < cLine) (ha : DB X p W a fa) (hb : DB X p W b fb) : DT X p W (.Compare a [.Gt] [b] pos) (tOf (c2 gtA fa fb)) := dt_cmp (op_gtX U) vr_gtA ha hb (nomark _)
end
section
variable {X : Cx}
def rCountD (K : Fg) : V → List V → Hp → VK → Prop := fun x xs H Q => ∃ (a : Addr) (y : V) (d : PyData) (ds : List PyData), x = V.ref a ∧ xs = [y] ∧ Dp K H (V.ref a) (.list ds) ∧ Dp K H y d ∧
  SeqAt.shaped (.list ds) = true ∧ SeqAt.shaped d = true ∧ Q (.int (ds.countP fun z => PyData.eqv z d : Nat)) H
theorem mt_countD (hu : X.A.units + 65 < cLine) : MtR X "list.count" (rCountD X.K) := by
  intro pins s σ H x xs v us Q I rx rxs h
  obtain ⟨a, y, d, ds, rfl, rfl, hl, hy, sl, sd, q⟩ := h
  cases rx
  cases rxs with
  | cons ry rt =>
    rename_i uy ut
    cases rt
    obtain ⟨bs, r1⟩ := Dp.reads I d y uy hy ry
    have hxs : PyData.canLayAll0 ds = true := SeqAt.canLay_of_shaped sl
    have hroom : X.A.units + 1 + min (PyData.depthAll ds) d.depth < cLine := room_in_shaped sd hu
    cases hl with
    | lst hs ha =>
      obtain ⟨its, rv, ⟨⟨cls, dd, data, sls⟩, n, ho, hc, hdn, hdt⟩, hlen⟩ := I.list hs
      simp only at hc hdt
      subst hc hdt
      obtain ⟨as, h4⟩ := Dp.readsAll I ds _ its ha rv
      have hmap : its.map (SeqAt.readOf s.heap) = ds := SeqAt.readsAll_map ds its as hxs h4
      have e : its.toArray.toList.countP (fun u => PyData.eqv (SeqAt.readOf s.heap u) d) = ds.countP fun z => PyData.eqv z d := by
        rw [← hmap, List.countP_map]; rfl
      refine call_meets PySem.F.slot_list_count ⟨_, ho, rfl⟩ PySem.F.entry_list_count (PySem.F.args_list_count_2 _ _)
        (SeqAt.list_countAt a its.toArray n dd sls uy (fun u => PyData.eqv (SeqAt.readOf s.heap u) d)) ⟨ho, SeqAt.items_eqAt (vs := its.toArray) (show ReadsAll s.heap its.toArray.toList ds as from h4) r1 hxs (SeqAt.canLay_of_shaped sd) hroom, ?_⟩
      rw [e]
      exact ⟨.int _, H, I.tok _, ⟨_, rfl⟩, q⟩
end
def countD (dl d : D) : Option D := match dl with
  | .lst ds => if okEq dl && okEq d then some (.int ((toPyL ds).countP fun z => PyData.eqv z (toPy d) : Nat)) else none
  | _ => none
section
variable {X : Cx} {p : FP} {W : Wx} {o e : Expr} {f : CB} {apos cpos : Pos}
theorem de_count {i : Nat} {x : Str} {xp : Pos} (U : X.A.units + 65 < cLine) (ho : PE X (.Name x xp) (tVar i)) (he : DB X p W e f)
    (hbase : attributeBase (.Name x xp) "count" X.env (eval (.Name x xp) X.env) = eval (.Name x xp) X.env := by rfl)
    (hfew : ((backTo cpos (starEach (e :: []) X.env)).all (fun x => !x.1) && (backToKw cpos (keywordEach [] X.env)).all (fun x => x.1.isSome)
      && decide ((e :: []).length + ([] : List Keyword).length + (if ([] : List Keyword).isEmpty then 0 else 1) < 30)) = true := by rfl)
    (hline : (apos.endLine == cpos.line) = true := by rfl) (hs : starEach (e :: []) X.env = (false, eval e X.env) :: starEach [] X.env := by rfl) (hplain : (backTo cpos (starEach [] X.env)).any (·.1) = false := by rfl) :
    DE X p W (.Call (.Attribute (.Name x xp) "count" apos) [e] [] cpos) (cRM i countD f) := by
  refine pe_imp (pe_bm PySem.F.plainAttrs_list PySem.F.slot_list_count PySem.F.type_list_count (mt_countD U) ho (da_cons he da_nil hs) hbase hfew hline hs hplain) ?_
  rintro σ H Q ⟨env, B, E, h⟩
  unfold cRM at h
  split at h
  · rename_i ds0 h0
    obtain ⟨v0, ev0⟩ := slot_val E h0
    have R0 := E.rep1 (o := .slot i) ev0 h0
    obtain ⟨a, vs0, rfl, q1, _⟩ := R0.lst E.sub
    refine ⟨.ref a, ev0, .inl ⟨rfl, _, SqL.of q1⟩, env, B, E, ?_⟩
    have h := Goes.bind h
    unfold aCons aNil
    cases er : f env with
    | stuck => rw [er] at h; exact h
    | exc c => rw [er] at h; exact h
    | ok r =>
      rw [er] at h
      intro vs H1 B1 E1 F1 rv
      have h : Goes p W (match rd r.2 (.slot i), rd r.2 r.1 with | some dl, some d => (R.of (countD dl d)).bind fun w => .ok (false, w, r.2) | _, _ => .stuck) _ := h
      split at h
      · rename_i dl d hl hd
        obtain ⟨w, hw, h⟩ := of_bind h
        cases rv with
        | cons r1 rr =>
          cases rr
          have Rl := E1.rep1 (o := .slot i) ev0 hl
          have Rd := E1.rep1 r1 hd
          unfold countD at hw
          split at hw
          · rename_i ds
            split at hw
            · rename_i hok
              rw [Bool.and_eq_true] at hok
              cases hw
              have dl1 : Dp X.K H1 (.ref a) (.list (toPyL ds)) := Rl.dp E1.sub (okEq_lay hok.1)
              exact ⟨a, _, toPy d, toPyL ds, rfl, rfl, dl1, Rd.dp E1.sub (okEq_lay hok.2), hok.1, hok.2, h _ H1 B1 E1 F1 (.int _)⟩
            · cases hw
          · cases hw
      · exact h.elim
  · exact h.elim
end
mutual
def injD : D → Bool
  | .int _ => true
  | .tup xs => injL xs
  | _ => false
def injL : List D → Bool
  | [] => true
  | x :: xs => injD x && injL xs
end
mutual
theorem toPy_inj : ∀ (a b : D), injD a = true → injD b = true → toPy a = toPy b → a = b
  | .int i, b, _, hb, e => by
    cases b <;> simp [injD] at hb <;> simp [toPy] at e
    rw [e]
  | .tup xs, b, ha, hb, e => by
    cases b <;> simp [injD] at hb <;> simp [toPy] at e
    rw [injD] at ha
    rw [toPyL_inj xs _ ha hb e]
  | .non, _, h, _, _ => by simp [injD] at h
  | .bl _, _, h, _, _ => by simp [injD] at h
  | .str _, _, h, _, _ => by simp [injD] at h
  | .lst _, _, h, _, _ => by simp [injD] at h
  | .ktup _, _, h, _, _ => by simp [injD] at h
  | .scr _, _, h, _, _ => by simp [injD] at h
  | .fn _, _, h, _, _ => by simp [injD] at h
  | .adr _, _, h, _, _ => by simp [injD] at h
  | .dct _ _, _, h, _, _ => by simp [injD] at h
theorem toPyL_inj : ∀ (a b : List D), injL a = true → injL b = true → toPyL a = toPyL b → a = b
  | [], b, _, _, e => by cases b with
    | nil => rfl
    | cons y ys => simp [toPyL] at e
  | x :: xs, b, ha, hb, e => by cases b with
    | nil => simp [toPyL] at e
    | cons y ys =>
      rw [injL, Bool.and_eq_true] at ha hb
      rw [toPyL, toPyL] at e
      injection e with e1 e2
      rw [toPy_inj x y ha.1 hb.1 e1, toPyL_inj xs ys ha.2 hb.2 e2]
end
def minO (d : D) (ds : List D) : D := ds.foldl (fun a y => if dataLt (toPy y) (toPy a) then y else a) d
theorem minO_py : ∀ (ds : List D) (d : D), toPy (minO d ds) = PySem.W.minD (toPy d) (toPyL ds)
  | [], _ => rfl
  | y :: ds, d => by
    have ih := minO_py ds (if dataLt (toPy y) (toPy d) then y else d)
    have e : toPy (if dataLt (toPy y) (toPy d) then y else d) = if dataLt (toPy y) (toPy d) then toPy y else toPy d := by split <;> rfl
    rw [e] at ih
    exact ih
theorem minO_mem : ∀ (ds : List D) (d : D), minO d ds ∈ d :: ds
  | [], d => List.mem_cons_self ..
  | y :: ds, d => by
    have ih := minO_mem ds (if dataLt (toPy y) (toPy d) then y else d)
    have ih : minO d (y :: ds) ∈ (if dataLt (toPy y) (toPy d) then y else d) :: ds := ih
    rcases List.mem_cons.mp ih with h | h
    · rw [h]
      split
      · exact List.mem_cons_of_mem _ (List.mem_cons_self ..)
      · exact List.mem_cons_self ..
    · exact List.mem_cons_of_mem _ (List.mem_cons_of_mem _ h)
def okMin (ps : List PyData) : Bool := PyData.canLayAll0 ps && (ps.all fun a => ps.all fun b => alike a b) && (ps.all isTp) && ps.all fun d => decide (d.depth ≤ 60)
def rMinA (K : Fg) : List V → Hp → VK → Prop := fun vs H Q => ∃ (l : Addr) (xs : List V) (x : PyData) (ps : List PyData), vs = [.ref l] ∧ SqL K H l xs ∧ DpAll K H xs (x :: ps) ∧ PyData.canLayAll0 (x :: ps) = true ∧ PySem.W.AlikeAll (x :: ps) ∧ PyData.depthAll (x :: ps) ≤ 60 ∧
  ∀ (i : Nat) (v : V), xs[i]? = some v → (x :: ps)[i]? = some (PySem.W.minD x ps) → Q v H
theorem vals_get : ∀ {xs : List V} {us : List Value}, Vals xs us → ∀ (i : Nat) (u : Value), us[i]? = some u → ∃ x, xs[i]? = some x ∧ RelV x u
  | _, _, .nil, _, _, h => by simp at h
  | _, _, .cons r _, 0, u, h => ⟨_, rfl, by simp at h; rw [← h]; exact r⟩
  | _, _, .cons _ t, i + 1, u, h => by
    obtain ⟨x, h1, h2⟩ := vals_get t i u (by simpa using h)
    exact ⟨x, by simpa using h1, h2⟩
theorem canLay_mem : ∀ {ps : List PyData} {d : PyData}, PyData.canLayAll0 ps = true → d ∈ ps → d.canLay0 = true
  | p :: ps, d, h, hd => by
    rw [PyData.canLayAll0, Bool.and_eq_true] at h
    rcases List.mem_cons.mp hd with rfl | hd
    · exact h.1
    · exact canLay_mem h.2 hd
theorem minD_mem : ∀ (ps : List PyData) (x : PyData), PySem.W.minD x ps ∈ x :: ps
  | [], x => List.mem_cons_self ..
  | y :: ps, x => by
    have ih := minD_mem ps (if dataLt y x then y else x)
    have ih : PySem.W.minD x (y :: ps) ∈ (if dataLt y x then y else x) :: ps := ih
    rcases List.mem_cons.mp ih with h | h
    · rw [h]
      split
      · exact List.mem_cons_of_mem _ (List.mem_cons_self ..)
      · exact List.mem_cons_self ..
    · exact List.mem_cons_of_mem _ (List.mem_cons_of_mem _ h)
theorem cr_minA {X : Cx} (hc : X.calm = true) (U : X.A.units + 65 < cLine) : CallR X (.builtin "min") (rMinA X.K) := by
  intro pins s σ H vs us Q I r h
  obtain ⟨l, xs, x, ps, rfl, hs, hd, hlay, hal, hdep, q⟩ := h
  obtain ⟨its, rv, hl, _⟩ := I.list hs
  rw [Vals.ref1 r]
  obtain ⟨as, h4⟩ := Dp.readsAll I (x :: ps) _ its hd rv
  have hmap : its.map (SeqAt.readOf s.heap) = x :: ps := SeqAt.readsAll_map (x :: ps) its as hlay h4
  refine PySem.W.min_list_data (I.ok.hd hc) hl.isList h4 hal (by omega) fun i v h' tk bs hv hr hk => ?_
  have hv' : its[i]? = some v := by simpa using hv
  obtain ⟨y, hy, ry⟩ := vals_get rv i v hv'
  obtain ⟨hi, _⟩ := List.getElem?_eq_some_iff.mp hv'
  have hm : (x :: ps)[i]? = some (SeqAt.readOf s.heap v) := by rw [← hmap, List.getElem?_map, hv']; rfl
  obtain ⟨cs, r0, _, hmem, _⟩ := PySem.W.readsAll_at h4 i v hv'
  have hlm : ∀ d ∈ x :: ps, d.canLay0 = true := by
    intro d hd
    exact canLay_mem hlay hd
  have e1 : SeqAt.readOf s.heap v = (x :: ps).getD i .none := SeqAt.readOf_eq (hlm _ hmem) r0
  have e2 : SeqAt.readOf h' v = (x :: ps).getD i .none := SeqAt.readOf_eq (hlm _ hmem) (PySem.W.reads_keeps hk r0)
  have hmm : PySem.W.minD x ps ∈ x :: ps := minD_mem ps x
  have e3 : SeqAt.readOf h' v = PySem.W.minD x ps := SeqAt.readOf_eq (hlm _ hmm) hr
  exact ⟨y, H, I.kept hk, ry, q i y hy (by rw [hm, e1, ← e2, e3])⟩
def minA (l : List D) : Option (Bool × D) := match l with
  | [.lst (d :: ds)] => if okMin (toPyL (d :: ds)) && injL (d :: ds) then some (false, minO d ds) else none
  | _ => none
def minX (l : List D) : Option (Bool × D) := match minD l with
  | some r => some r
  | none => minA l
theorem injL_mem : ∀ {ds : List D} {d : D}, injL ds = true → d ∈ ds → injD d = true
  | x :: ds, d, h, hd => by
    rw [injL, Bool.and_eq_true] at h
    rcases List.mem_cons.mp hd with rfl | hd
    · exact h.1
    · exact injL_mem h.2 hd
theorem depAll_le {n : Nat} : ∀ {ps : List PyData}, (∀ d ∈ ps, d.depth ≤ n) → PyData.depthAll ps ≤ n
  | [], _ => by simp [PyData.depthAll]
  | p :: ps, h => by
    rw [PyData.depthAll]
    have h1 := h p (List.mem_cons_self ..)
    have h2 := depAll_le fun d hd => h d (List.mem_cons_of_mem _ hd)
    omega
theorem toPyL_get {ds : List D} {i : Nat} {d : D} (h : ds[i]? = some d) : (toPyL ds)[i]? = some (toPy d) := by rw [toPyL_map, List.getElem?_map, h]; rfl
def rMinX2 (K : Fg) : List V → Hp → VK → Prop := fun vs H Q => rMinX K vs H Q ∨ rMinA K vs H Q
theorem vr_minX {K : Fg} {mg : MG} : VRn K mg (rMinX2 K) minX := by
  intro l m z h vs H B Q s r k
  unfold minX at h
  split at h
  · rename_i q hq
    cases h
    exact .inl (vr_min _ _ _ hq _ _ _ _ s r k)
  · unfold minA at h
    split at h
    · rename_i d ds hn
      obtain ⟨hl, h⟩ := ite_some h
      cases h
      rw [Bool.and_eq_true] at hl
      obtain ⟨ho, hj⟩ := hl
      unfold okMin at ho
      rw [Bool.and_eq_true, Bool.and_eq_true, Bool.and_eq_true] at ho
      obtain ⟨⟨⟨o1, o2⟩, o3⟩, o4⟩ := ho
      rw [List.all_eq_true] at o2 o3 o4
      cases r with
      | cons r rr =>
        cases rr
        obtain ⟨p, vs, rfl, h1, h2⟩ := r.lst s
        have hd := (h2.mono s).dp o1
        refine .inr ⟨p, vs, toPy d, toPyL ds, rfl, SqL.of h1, ?_, o1, ⟨fun a ha b hb => List.all_eq_true.mp (o2 a ha) b hb, fun a ha e => ?_⟩, depAll_le fun a ha => of_decide_eq_true (o4 a ha), fun i v hv hp => ?_⟩
        · rw [toPyL] at hd; exact hd
        · have := o3 a ha
          rw [e] at this
          cases this
        · obtain ⟨d', hd', rd⟩ := h2.get' hv
          have e1 := toPyL_get hd'
          rw [toPyL, hp, ← minO_py] at e1
          have e2 : d' = minO d ds := toPy_inj _ _ (injL_mem hj (List.mem_of_getElem? hd')) (injL_mem hj (minO_mem ds d)) (Option.some.inj e1).symm
          rw [e2] at rd
          exact Rep.res s k rd
    · cases h
section
variable {X : Cx} {p : FP} {W : Wx} {e : Expr} {es : List Expr} {as : CA} {xp pos : Pos}
theorem kMinA (U : X.A.units + 65 < cLine) (hm : X.mg "min" = none) (ha : DA X p W (e :: es) as) (hc : X.calm = true := by kernel_rfl) (hg : X.env.kindOf "min" = some .globalImplicit := by kernel_rfl) (he : starEach (e :: es) X.env = (false, eval e X.env) :: starEach es X.env := by rfl) (hpl : (backTo pos (starEach es X.env)).any (·.1) = false := by rfl) : DE X p W (.Call (.Name "min" xp) (e :: es) [] pos) (cN minX as) :=
  de_callB (CallR.or (cr_minX hc) (cr_minA hc U)) vr_minX hg hm (by kernel_rfl) ha (by decide) (by decide) he hpl
end
end DL

set_option Elab.async false
set_option linter.all false
set_option maxRecDepth 100000
set_option maxHeartbeats 4000000
namespace DL
open PySem PySem.Spec PyProof.Rows L2
theorem putK_keys (kvs : List (Key × V)) (k : Key) (v : V) [Decidable (k ∈ kvs.map (·.1))] : (putK kvs k v).map (·.1) = if k ∈ kvs.map (·.1) then kvs.map (·.1) else kvs.map (·.1) ++ [k] := by
  unfold putK
  by_cases h : k ∈ kvs.map (·.1)
  · rw [if_pos h]
    obtain ⟨p, hp, e⟩ := List.mem_map.mp h
    have ha : (kvs.any fun kv => decide (kv.1 = k)) = true := List.any_eq_true.mpr ⟨p, hp, decide_eq_true e⟩
    rw [if_pos ha, List.map_map]
    apply List.map_congr_left
    intro q _
    show (if q.1 = k then (q.1, v) else q).1 = q.1
    split <;> rfl
  · rw [if_neg h]
    have ha : ¬ (kvs.any fun kv => decide (kv.1 = k)) = true := by
      intro z
      obtain ⟨p, hp, e⟩ := List.any_eq_true.mp z
      exact h (List.mem_map.mpr ⟨p, hp, of_decide_eq_true e⟩)
    rw [if_neg ha, List.map_append]; rfl
def kfold (ns : List Int) : List (Key × V) := ns.foldl (fun kvs n => putK kvs (Sum.inl n) (V.bl true)) []
theorem kfold_snoc (ns : List Int) (n : Int) : kfold (ns ++ [n]) = putK (kfold ns) (Sum.inl n) (V.bl true) := by unfold kfold; rw [List.foldl_append]; rfl
theorem kfold_keysR : ∀ ms : List Int, ∃ is : List Int, (kfold ms.reverse).map (·.1) = is.map Sum.inl ∧ is.Nodup ∧ ∀ k, k ∈ is ↔ k ∈ ms.reverse
  | [] => ⟨[], rfl, List.nodup_nil, fun k => Iff.rfl⟩
  | n :: ms => by
    obtain ⟨is, h1, h2, h3⟩ := kfold_keysR ms
    have hm : ((Sum.inl n : Key) ∈ (kfold ms.reverse).map (·.1)) ↔ n ∈ is := by
      rw [h1, List.mem_map]
      constructor
      · rintro ⟨a, ha, e⟩
        injection e with e
        rwa [← e]
      · intro h; exact ⟨n, h, rfl⟩
    by_cases h : n ∈ is
    · haveI : Decidable ((Sum.inl n : Key) ∈ (kfold ms.reverse).map (·.1)) := .isTrue (hm.mpr h)
      rw [List.reverse_cons, kfold_snoc, putK_keys, if_pos (hm.mpr h), h1]
      refine ⟨is, rfl, h2, fun k => ?_⟩
      rw [List.mem_append, List.mem_singleton, h3]
      constructor
      · exact .inl
      · rintro (z | rfl)
        · exact z
        · exact (h3 _).mp h
    · haveI : Decidable ((Sum.inl n : Key) ∈ (kfold ms.reverse).map (·.1)) := .isFalse fun z => h (hm.mp z)
      rw [List.reverse_cons, kfold_snoc, putK_keys, if_neg fun z => h (hm.mp z), h1]
      refine ⟨is ++ [n], by rw [List.map_append]; rfl, ?_, fun k => ?_⟩
      · rw [List.nodup_append]
        exact ⟨h2, by simp, fun a ha b hb e => h (by rw [List.mem_singleton.mp hb] at e; rw [← e]; exact ha)⟩
      · rw [List.mem_append, List.mem_append, h3]
theorem kfold_keys (ns : List Int) : ∃ is : List Int, (kfold ns).map (·.1) = is.map Sum.inl ∧ is.Nodup ∧ ∀ k, k ∈ is ↔ k ∈ ns := by
  have := kfold_keysR ns.reverse
  rwa [List.reverse_reverse] at this
theorem kfold_len (ns : List Int) : (kfold ns).length = (srtSet ns).length := by
  obtain ⟨is, h1, h2, h3⟩ := kfold_keys ns
  have hp : is.Perm (srtSet ns) := (List.perm_ext_iff_of_nodup h2 ((srtSet_srt ns).imp fun h => by omega)).mpr fun k => by rw [h3, srtSet_mem]
  rw [← hp.length_eq, ← List.length_map (f := fun kv : Key × V => kv.1), h1, List.length_map]
theorem dc_set {K : Fg} {l : Addr} {ns : List Int} {σ : L2.St} {i : Nat} {D : Addr} {H1 : Hp} {Qd : Hp → Prop} (hi : i < σ.length) (hq : SqL K H1 l (ns.map V.int)) (hD : H1 D = none) (hl : ns.length ≤ 4000) (hd : Qd (upd H1 D (.dK (kfold ns)))) :
    ∃ W : Nat → Nat → Hp → Prop, (∃ m, W 0 m (upd H1 D (.dK []))) ∧ ∀ j m H, W j m H →
      ((Itl K l).stop j H ∧ Qd H) ∨ ((Itl K l).go j H ∧ ∃ Nx : Hp → Prop, (∀ H', Nx H' → ∃ m', m' < m ∧ W (j + 1) m' H') ∧ ∀ x H', (Itl K l).yld j H x H' → gName i x (wipe σ [i]) H' fun σ2 H2 => wipe σ2 [i] = wipe σ [i] ∧ tYes σ2 H2 fun b H3 =>
        if b = true then tVar i σ2 H3 fun y H4 => tC (.bl true) σ2 H4 fun z H5 => ∃ kvs k, y = kV k ∧ H5 D = some (.dK kvs) ∧ kvs.length < sizeLine ∧ Nx (upd H5 D (.dK (putK kvs k z))) else Nx H3) := by
  have hq' : ∀ kvs, SqL K (upd H1 D (.dK kvs)) l (ns.map V.int) := fun kvs => sql_mono (fun a o e => by
    rw [upd_ne]
    · exact e
    · intro z; rw [z, hD] at e; cases e) hq
  refine ⟨fun j m H => m = ns.length - j ∧ j ≤ ns.length ∧ H = upd H1 D (.dK (kfold (ns.take j))), ⟨ns.length, by simp, Nat.zero_le _, rfl⟩, ?_⟩
  rintro j m H ⟨rfl, hj, rfl⟩
  by_cases hlt : j < ns.length
  · refine .inr ⟨⟨_, .int ns[j], hq' _, by rw [List.getElem?_map, List.getElem?_eq_getElem hlt]; rfl⟩, fun H' => H' = upd H1 D (.dK (kfold (ns.take (j + 1)))), fun H' e => ⟨ns.length - (j + 1), by omega, rfl, hlt, e⟩, fun x H' y => ?_⟩
    obtain ⟨e, y⟩ := y
    subst e
    have hx := y _ (hq' _)
    rw [List.getElem?_map, List.getElem?_eq_getElem hlt] at hx
    have hx := (Option.some.inj hx).symm
    subst hx
    have hlen : i < (wipe σ [i]).length := by rw [wipe_length]; exact hi
    show wipe ((wipe σ [i]).set i (some (V.int ns[j]))) [i] = wipe σ [i] ∧ _
    refine ⟨by show ((σ.set i none).set i _).set i none = σ.set i none; rw [List.set_set, List.set_set], ?_⟩
    refine ⟨V.int ns[j], by rw [List.getElem?_set_self hlen], ?_⟩
    have hk : (kfold (ns.take j)).length < sizeLine := by
      rw [kfold_len, sizeLine_eq]
      have := srtSet_len (ns.take j)
      have h2 : (ns.take j).length ≤ ns.length := by rw [List.length_take]; omega
      omega
    refine ⟨_, Sum.inl ns[j], rfl, upd_same, hk, ?_⟩
    rw [upd_upd, ← kfold_snoc, List.take_append_getElem hlt]
  · have e : j = ns.length := by omega
    subst e
    rw [List.take_length]
    exact .inl ⟨⟨_, hq' _, by rw [List.length_map]; exact Nat.le_refl _⟩, hd⟩
def cLenDc (i : Nat) (c : CE) : CE := fun env => if i < env.length then cF lenSetD c env else .stuck
section
variable {X : Cx} {p : FP} {W : Wx} {a : Expr} {c : CE} {x : Str} {scope : Scope} {own : List (Str × Nat)} {x1 pos pos2 p1 p2 p3 : Pos} {k0 i : Nat}
def tLenDc (K : Fg) (i : Nat) (ta : TE) : TE := fun σ H Q => tDc (tSeqI K ta) (gName i) tYes (tVar i) (tC (.bl true)) [i] σ H fun x H2 => ∃ D kvs, x = .ref D ∧ H2 D = some (.dK kvs) ∧ Q (.int kvs.length) H2
theorem pe_lenDc {ta : TE} (hc : X.calm = true) (hN : X.N.Nodup) (hg : Gl X "len") (hm : X.mg "len" = none) (ha : PE X a ta) (ok : BlkOk X.N X.env.scope scope own) (ho : own.map (·.2) = [i])
    (hn : ∀ (s : Shared) (H : Hp) (C : Addr) (cl : List (Str × Addr)) (fp : List Addr), PG (X.blk s H scope (compEnvC scope cl C X.env) fp) (.Name x p3) (gName i))
    (hk : ∀ (s : Shared) (H : Hp) (C : Addr) (cl : List (Str × Addr)) (fp : List Addr), PE (X.blk s H scope (compEnvC scope cl C X.env) fp) (.Name x p1) (tVar i)) (hs : ∀ x, foldedSetIterable a X.env x = pure x := by intro _; rfl) :
    PE X (.Call (.Name "len" x1) [.DictComp (.Name x p1) (.Constant (.bool true) k0 p2) [⟨.Name x p3, a, [], 0⟩] scope pos2] [] pos) (tLenDc X.K i ta) := by
  have hd := pe_dc (vx := .Constant (.bool true) k0 p2) (tv := tC (.bl true)) (pos := pos2) hc hN (pi_seq (tg := .Name x p3) ha) ok hn (fun _ _ _ _ _ => pts_nil) hk (fun _ _ _ _ _ => pe_bl) hs
  rw [ho] at hd
  refine ⟨fun pins s σ H Q I h => Call_ (ld_blt I hg hm boot_len ?_)⟩
  refine callWith_builtin1 (args_cons (thn (hd.run pins s σ H _ I h) fun v s1 ⟨x, H1, I1, r1, q1⟩ => args_nil ?_) rfl) rfl rfl
  obtain ⟨D, kvs, rfl, hD, q⟩ := q1
  cases r1
  exact d_len I1 (.inl hD) fun t s' I' => ⟨.int _, H1, I', ⟨_, rfl⟩, q⟩
theorem de_lenDc (hm : X.mg "len" = none) (hN : X.N.Nodup) (ha : DE X p W a c) (ok : BlkOk X.N X.env.scope scope own) (ho : own.map (·.2) = [i])
    (hn : ∀ (s : Shared) (H : Hp) (C : Addr) (cl : List (Str × Addr)) (fp : List Addr), PG (X.blk s H scope (compEnvC scope cl C X.env) fp) (.Name x p3) (gName i))
    (hk : ∀ (s : Shared) (H : Hp) (C : Addr) (cl : List (Str × Addr)) (fp : List Addr), PE (X.blk s H scope (compEnvC scope cl C X.env) fp) (.Name x p1) (tVar i)) (hc : X.calm = true := by kernel_rfl) (hg : X.env.kindOf "len" = some .globalImplicit := by kernel_rfl) (hs : ∀ x, foldedSetIterable a X.env x = pure x := by intro _; rfl) :
    DE X p W (.Call (.Name "len" x1) [.DictComp (.Name x p1) (.Constant (.bool true) k0 p2) [⟨.Name x p3, a, [], 0⟩] scope pos2] [] pos) (cLenDc i c) := by
  refine pe_imp (pe_lenDc hc hN hg hm ha ok ho hn hk hs) fun σ H Q h => ?_
  have hi : i < σ.length := by
    obtain ⟨env, B, E, h⟩ := h
    unfold cLenDc at h
    split at h
    · rename_i hi; rw [E.len]; exact hi
    · exact h.elim
  have h : tX X p W (cF lenSetD c) σ H Q := by
    obtain ⟨env, B, E, h⟩ := h
    unfold cLenDc at h
    split at h
    · exact ⟨env, B, E, h⟩
    · exact h.elim
  obtain ⟨env0, B0, E0, h⟩ := cF_pre h
  refine ⟨env0, B0, E0, h.imp fun r h v H1 B1 E1 F1 r1 => ?_⟩
  obtain ⟨env, B, d, z, e1, B2, E2, F2, r2, hz, k⟩ := h v H1 B1 E1 F1 r1
  unfold lenSetD at hz
  split at hz
  · rename_i ds
    split at hz
    · rename_i ns hns
      obtain ⟨hl, hz⟩ := ite_some hz
      cases hz
      cases r2 with
      | lst h1 h2 =>
        have e := h2.ints hns
        subst e
        refine .inl ⟨_, _, rfl, SqL.of (E2.sub _ _ h1), fun D hD => ?_⟩
        refine dc_set hi (SqL.of (E2.sub _ _ h1)) hD (of_decide_eq_true hl) ⟨D, kfold ns, rfl, upd_same, ?_⟩
        rw [kfold_len]
        have x := Ext.newH (B := B2) E2.sub (o := .dK (kfold ns)) hD
        exact k _ _ _ (E2.ext x) (F2.trans x.fx) (.int _)
    · cases hz
  · cases hz
end
end DL

set_option Elab.async false
set_option linter.all false
set_option maxRecDepth 100000
set_option maxHeartbeats 4000000
namespace DL
open PySem PySem.Spec PyProof.Rows L2
def rInTA (K : Fg) : R2 := fun x y H Q => ∃ d ds, Dp K H x d ∧ Dp K H y (.tuple ds) ∧ SeqAt.shaped d = true ∧ SeqAt.shaped (.tuple ds) = true ∧ Q (.bl (ds.any fun z => PyData.eqv z d)) H
theorem op_inTA {X : Cx} (hu : X.A.units + 65 < cLine) : OpR X (compareOp .In) (rInTA X.K) := by
  intro pins s σ H x y v u Q I rx ry h
  obtain ⟨d, ds, hd, he, sd, se, q⟩ := h
  obtain ⟨as, r1⟩ := Dp.reads I d x v hd rx
  obtain ⟨bs, r2⟩ := Dp.reads I (.tuple ds) y u he ry
  exact SeqAt.in_tuple_reads r2 r1 (SeqAt.canLay_of_shaped se) (SeqAt.canLay_of_shaped sd) (room_in_shaped sd hu) ⟨.bl _, H, I, rfl, q⟩
def inA (x c : D) : Option (Bool × D) := match c with
  | .tup ds => if okEq x && okEq (.tup ds) then some (false, .bl (ds.any fun z => eqv z x)) else none
  | _ => none
theorem vr_inA {K : Fg} {mg : MG} : VR2 K mg (rInTA K) inA := by
  intro a b m d h x y H B Q s rx ry k
  unfold inA at h
  split at h
  · rename_i ds
    obtain ⟨hl, h⟩ := ite_some h
    cases h
    rw [Bool.and_eq_true] at hl
    have q : Q (.bl (ds.any fun z => eqv z a)) H := Rep.res s k (.bl _)
    have h1 := rx.dp s (okEq_lay hl.1)
    have h2 := ry.dp s (okEq_lay hl.2)
    exact ⟨toPy a, toPyL ds, h1, by simpa [toPy] using h2, hl.1, by simpa [okEq, toPy] using hl.2, by rw [any_toPy]; exact q⟩
  · cases h
section
variable {X : Cx} {p : FP} {W : Wx} {a b : Expr} {fa fb : CB} {pos : Pos}
theorem xInA (U : X.A.units + 65 < cLine) (ha : DB X p W a fa) (hb : DB X p W b fb) (hm : behindInMarks .In b = false := by with_unfolding_all rfl) : DE X p W (.Compare a [.In] [b] pos) (c2 inA fa fb) := de_cmp (op_inTA U) vr_inA ha hb hm
end
end DL

set_option Elab.async false
set_option linter.all false
set_option maxRecDepth 100000
set_option maxHeartbeats 0
namespace Lw
open PySem PySem.Spec PyProof.Rows L2 DL
def top (i : Nat) : Stmt := PySem.Challenge.pw_knavesasked_k22_whole_facts_told_by_seve.main.body.getD i (.Pass ⟨0, 0, 0, 0⟩)
abbrev s__law_stream : Stmt := top 31
abbrev N__law_stream : List Str := ["script", "numbers", "cell", "rest", "k", "stirred"]
theorem sc__law_stream : FnScope N__law_stream ["script"] (defScope s__law_stream) := ⟨by kernel_rfl, by kernel_rfl, by kernel_rfl, by decide +kernel, by kernel_rfl, by decide +kernel, by decide +kernel⟩
theorem nd__law_stream : List.Nodup N__law_stream := sc__law_stream.nd
abbrev s__law_next : Stmt := top 30
abbrev N__law_next : List Str := ["state", "many", "turn"]
theorem sc__law_next : FnScope N__law_next ["state", "many"] (defScope s__law_next) := ⟨by kernel_rfl, by kernel_rfl, by kernel_rfl, by decide +kernel, by kernel_rfl, by decide +kernel, by decide +kernel⟩
theorem nd__law_next : List.Nodup N__law_next := sc__law_next.nd
abbrev s__law_reports : Stmt := top 36
abbrev N__law_reports : List Str := ["state", "many", "size", "hidden", "gaps", "rows", "k", "free", "row", "at", "told"]
theorem sc__law_reports : FnScope N__law_reports ["state"] (defScope s__law_reports) := ⟨by kernel_rfl, by kernel_rfl, by kernel_rfl, by decide +kernel, by kernel_rfl, by decide +kernel, by decide +kernel⟩
theorem nd__law_reports : List.Nodup N__law_reports := sc__law_reports.nd
abbrev s__law_bits : Stmt := top 32
abbrev N__law_bits : List Str := ["many", "rows", "k", "longer", "row"]
theorem sc__law_bits : FnScope N__law_bits ["many"] (defScope s__law_bits) := ⟨by kernel_rfl, by kernel_rfl, by kernel_rfl, by decide +kernel, by kernel_rfl, by decide +kernel, by decide +kernel⟩
theorem nd__law_bits : List.Nodup N__law_bits := sc__law_bits.nd
abbrev s__law_largest : Stmt := top 37
abbrev N__law_largest : List Str := ["pairs", "rows", "pair", "most", "row", "one"]
theorem sc__law_largest : FnScope N__law_largest ["pairs"] (defScope s__law_largest) := ⟨by kernel_rfl, by kernel_rfl, by kernel_rfl, by decide +kernel, by kernel_rfl, by decide +kernel, by decide +kernel⟩
theorem nd__law_largest : List.Nodup N__law_largest := sc__law_largest.nd
abbrev s_strength : Stmt := top 27
abbrev N_strength : List Str := ["many", "facts"]
theorem sc_strength : FnScope N_strength ["many", "facts"] (defScope s_strength) := ⟨by kernel_rfl, by kernel_rfl, by kernel_rfl, by decide +kernel, by kernel_rfl, by decide +kernel, by decide +kernel⟩
theorem nd_strength : List.Nodup N_strength := sc_strength.nd
abbrev s_check_reports : Stmt := top 10
abbrev N_check_reports : List Str := ["reports", "row", "one"]
theorem sc_check_reports : FnScope N_check_reports ["reports"] (defScope s_check_reports) := ⟨by kernel_rfl, by kernel_rfl, by kernel_rfl, by decide +kernel, by kernel_rfl, by decide +kernel, by decide +kernel⟩
theorem nd_check_reports : List.Nodup N_check_reports := sc_check_reports.nd
abbrev s_against : Stmt := top 12
abbrev N_against : List Str := ["row", "facts", "one", "fact"]
theorem sc_against : FnScope N_against ["row", "facts"] (defScope s_against) := ⟨by kernel_rfl, by kernel_rfl, by kernel_rfl, by decide +kernel, by kernel_rfl, by decide +kernel, by decide +kernel⟩
theorem nd_against : List.Nodup N_against := sc_against.nd
abbrev s_known_liars : Stmt := top 14
abbrev N_known_liars : List Str := ["reports", "facts", "at", "row"]
theorem sc_known_liars : FnScope N_known_liars ["reports", "facts"] (defScope s_known_liars) := ⟨by kernel_rfl, by kernel_rfl, by kernel_rfl, by decide +kernel, by kernel_rfl, by decide +kernel, by decide +kernel⟩
theorem nd_known_liars : List.Nodup N_known_liars := sc_known_liars.nd
abbrev s_all_facts : Stmt := top 16
abbrev N_all_facts : List Str := ["many", "rows", "_", "row", "one"]
theorem sc_all_facts : FnScope N_all_facts ["many"] (defScope s_all_facts) := ⟨by kernel_rfl, by kernel_rfl, by kernel_rfl, by decide +kernel, by kernel_rfl, by decide +kernel, by decide +kernel⟩
theorem nd_all_facts : List.Nodup N_all_facts := sc_all_facts.nd
abbrev s_fewest_free : Stmt := top 18
abbrev N_fewest_free : List Str := ["reports", "facts"]
theorem sc_fewest_free : FnScope N_fewest_free ["reports"] (defScope s_fewest_free) := ⟨by kernel_rfl, by kernel_rfl, by kernel_rfl, by decide +kernel, by kernel_rfl, by decide +kernel, by decide +kernel⟩
theorem nd_fewest_free : List.Nodup N_fewest_free := sc_fewest_free.nd
abbrev s_agree : Stmt := top 21
abbrev N_agree : List Str := ["row", "other", "one", "two"]
theorem sc_agree : FnScope N_agree ["row", "other"] (defScope s_agree) := ⟨by kernel_rfl, by kernel_rfl, by kernel_rfl, by decide +kernel, by kernel_rfl, by decide +kernel, by decide +kernel⟩
theorem nd_agree : List.Nodup N_agree := sc_agree.nd
abbrev s_clashes : Stmt := top 22
abbrev N_clashes : List Str := ["reports", "pairs", "one", "two"]
theorem sc_clashes : FnScope N_clashes ["reports"] (defScope s_clashes) := ⟨by kernel_rfl, by kernel_rfl, by kernel_rfl, by decide +kernel, by kernel_rfl, by decide +kernel, by decide +kernel⟩
theorem nd_clashes : List.Nodup N_clashes := sc_clashes.nd
abbrev s_apart : Stmt := top 23
abbrev N_apart : List Str := ["reports", "pairs", "rows", "best", "longer", "row", "used", "first", "free", "pair", "one"]
theorem sc_apart : FnScope N_apart ["reports"] (defScope s_apart) := ⟨by kernel_rfl, by kernel_rfl, by kernel_rfl, by decide +kernel, by kernel_rfl, by decide +kernel, by decide +kernel⟩
theorem nd_apart : List.Nodup N_apart := sc_apart.nd
abbrev s_majority : Stmt := top 25
abbrev N_majority : List Str := ["reports", "found", "at", "column", "ones", "zeros", "row"]
theorem sc_majority : FnScope N_majority ["reports"] (defScope s_majority) := ⟨by kernel_rfl, by kernel_rfl, by kernel_rfl, by decide +kernel, by kernel_rfl, by decide +kernel, by decide +kernel⟩
theorem nd_majority : List.Nodup N_majority := sc_majority.nd
abbrev s_check_free : Stmt := top 11
abbrev N_check_free : List Str := ["most"]
theorem sc_check_free : FnScope N_check_free ["most"] (defScope s_check_free) := ⟨by kernel_rfl, by kernel_rfl, by kernel_rfl, by decide +kernel, by kernel_rfl, by decide +kernel, by decide +kernel⟩
theorem nd_check_free : List.Nodup N_check_free := sc_check_free.nd
abbrev s_facts_left : Stmt := top 17
abbrev N_facts_left : List Str := ["reports", "most", "facts"]
theorem sc_facts_left : FnScope N_facts_left ["reports", "most"] (defScope s_facts_left) := ⟨by kernel_rfl, by kernel_rfl, by kernel_rfl, by decide +kernel, by kernel_rfl, by decide +kernel, by decide +kernel⟩
theorem nd_facts_left : List.Nodup N_facts_left := sc_facts_left.nd
abbrev s_sure_facts : Stmt := top 19
abbrev N_sure_facts : List Str := ["reports", "most", "found", "at", "facts"]
theorem sc_sure_facts : FnScope N_sure_facts ["reports", "most"] (defScope s_sure_facts) := ⟨by kernel_rfl, by kernel_rfl, by kernel_rfl, by decide +kernel, by kernel_rfl, by decide +kernel, by decide +kernel⟩
theorem nd_sure_facts : List.Nodup N_sure_facts := sc_sure_facts.nd
abbrev s_surely_free : Stmt := top 20
abbrev N_surely_free : List Str := ["reports", "most", "found", "rows", "facts", "at", "row"]
theorem sc_surely_free : FnScope N_surely_free ["reports", "most"] (defScope s_surely_free) := ⟨by kernel_rfl, by kernel_rfl, by kernel_rfl, by decide +kernel, by kernel_rfl, by decide +kernel, by decide +kernel⟩
theorem nd_surely_free : List.Nodup N_surely_free := sc_surely_free.nd
abbrev s_is_safe : Stmt := top 26
abbrev N_is_safe : List Str := ["reports", "most"]
theorem sc_is_safe : FnScope N_is_safe ["reports", "most"] (defScope s_is_safe) := ⟨by kernel_rfl, by kernel_rfl, by kernel_rfl, by decide +kernel, by kernel_rfl, by decide +kernel, by decide +kernel⟩
theorem nd_is_safe : List.Nodup N_is_safe := sc_is_safe.nd
abbrev s_check_facts : Stmt := top 15
abbrev N_check_facts : List Str := ["reports", "facts", "one"]
theorem sc_check_facts : FnScope N_check_facts ["reports", "facts"] (defScope s_check_facts) := ⟨by kernel_rfl, by kernel_rfl, by kernel_rfl, by decide +kernel, by kernel_rfl, by decide +kernel, by decide +kernel⟩
theorem nd_check_facts : List.Nodup N_check_facts := sc_check_facts.nd
abbrev s_liars_for : Stmt := top 13
abbrev N_liars_for : List Str := ["reports", "facts"]
theorem sc_liars_for : FnScope N_liars_for ["reports", "facts"] (defScope s_liars_for) := ⟨by kernel_rfl, by kernel_rfl, by kernel_rfl, by decide +kernel, by kernel_rfl, by decide +kernel, by decide +kernel⟩
theorem nd_liars_for : List.Nodup N_liars_for := sc_liars_for.nd
abbrev s_check_apart : Stmt := top 24
abbrev N_check_apart : List Str := ["reports", "paper", "pairs", "used", "pair", "one"]
theorem sc_check_apart : FnScope N_check_apart ["reports", "paper"] (defScope s_check_apart) := ⟨by kernel_rfl, by kernel_rfl, by kernel_rfl, by decide +kernel, by kernel_rfl, by decide +kernel, by decide +kernel⟩
theorem nd_check_apart : List.Nodup N_check_apart := sc_check_apart.nd
abbrev s__law_error : Stmt := top 29
abbrev N__law_error : List Str := ["e", "kinds", "names", "k"]
theorem sc__law_error : FnScope N__law_error ["e"] (defScope s__law_error) := ⟨by kernel_rfl, by kernel_rfl, by kernel_rfl, by decide +kernel, by kernel_rfl, by decide +kernel, by decide +kernel⟩
theorem nd__law_error : List.Nodup N__law_error := sc__law_error.nd
abbrev s__law_told : Stmt := top 34
abbrev N__law_told : List Str := ["kind", "reports", "one", "e"]
theorem sc__law_told : FnScope N__law_told ["kind", "reports", "one"] (defScope s__law_told) := ⟨by kernel_rfl, by kernel_rfl, by kernel_rfl, by decide +kernel, by kernel_rfl, by decide +kernel, by decide +kernel⟩
theorem nd__law_told : List.Nodup N__law_told := sc__law_told.nd
abbrev s__law_same : Stmt := top 33
abbrev N__law_same : List Str := ["told", "due"]
theorem sc__law_same : FnScope N__law_same ["told", "due"] (defScope s__law_same) := ⟨by kernel_rfl, by kernel_rfl, by kernel_rfl, by decide +kernel, by kernel_rfl, by decide +kernel, by decide +kernel⟩
theorem nd__law_same : List.Nodup N__law_same := sc__law_same.nd
abbrev s__law_wrong : Stmt := top 35
abbrev N__law_wrong : List Str := ["reports", "facts", "k", "at", "told"]
theorem sc__law_wrong : FnScope N__law_wrong ["reports", "facts"] (defScope s__law_wrong) := ⟨by kernel_rfl, by kernel_rfl, by kernel_rfl, by decide +kernel, by kernel_rfl, by decide +kernel, by decide +kernel⟩
theorem nd__law_wrong : List.Nodup N__law_wrong := sc__law_wrong.nd
abbrev s_law : Stmt := top 38
abbrev N_law : List Str := ("script" : Str) :: ("state" : Str) :: ("turn" : Str) :: ("reports" : Str) :: ("kept" : Str) :: ("many" : Str) :: ("size" : Str) :: ("most" : Str) :: ("every" : Str) :: ("left" : Str) :: ("fewest" : Str) :: ("pairs" : Str) :: ("one" : Str) :: ("far" : Str) :: ("votes" : Str) :: ("more" : Str) :: ("due" : Str) :: ("rest" : Str) :: ("sure" : Str) :: ("free" : Str) :: ("facts" : Str) :: ("paper" : Str) :: ("used" : Str) :: ("pair" : Str) :: ("good" : Str) :: ("bound" : Str) :: ("split" : Str) :: ("odd" : Str) :: ("bad" : Str) :: ("ends" : Str) :: ("two" : Str) :: ("a" : Str) :: ("b" : Str) :: ("at" : Str) :: ("row" : Str) :: ("k" : Str) :: []
theorem sc_law : FnScope N_law ["script"] (defScope s_law) := ⟨by kernel_rfl, by kernel_rfl, by kernel_rfl, by decide +kernel, by kernel_rfl, by decide +kernel, by decide +kernel⟩
theorem nd_law : List.Nodup N_law := sc_law.nd
structure Facts (K : Fg) (mg : MG) : Prop where
  b_abs : mg "abs" = none
  b_all : mg "all" = none
  b_any : mg "any" = none
  b_enumerate : mg "enumerate" = none
  b_int : mg "int" = none
  b_isinstance : mg "isinstance" = none
  b_len : mg "len" = none
  b_list : mg "list" = none
  b_max : mg "max" = none
  b_min : mg "min" = none
  b_range : mg "range" = none
  b_repr : mg "repr" = none
  b_set : mg "set" = none
  b_sorted : mg "sorted" = none
  b_sum : mg "sum" = none
  b_tuple : mg "tuple" = none
  b_zip : mg "zip" = none
  e_BadPaper : ExcD K mg "BadPaper" (He.ga K "BadPaper")
  e_Missing : ExcD K mg "Missing" (He.ga K "Missing")
  e_NotAllowed : ExcD K mg "NotAllowed" (He.ga K "NotAllowed")
  e_TooLarge : ExcD K mg "TooLarge" (He.ga K "TooLarge")
  i_MAX_FACTS : ∃ t, mg "MAX_FACTS" = some (.int (6) t)
  i_MAX_FOLK : ∃ t, mg "MAX_FOLK" = some (.int (8) t)
  k_SayError : mg "SayError" = some (.ref (He.ga K "SayError"))
  m_BadForm : ∃ a, mg "BadForm" = some (.ref a)
  m_BadPaper : ∃ a, mg "BadPaper" = some (.ref a)
  m_Missing : ∃ a, mg "Missing" = some (.ref a)
  m_NotAllowed : ∃ a, mg "NotAllowed" = some (.ref a)
  m_TooLarge : ∃ a, mg "TooLarge" = some (.ref a)
  m_apart : ∃ a, mg "apart" = some (.ref a)
  m_check_apart : ∃ a, mg "check_apart" = some (.ref a)
  m_check_reports : ∃ a, mg "check_reports" = some (.ref a)
  m_clashes : ∃ a, mg "clashes" = some (.ref a)
  m_facts_left : ∃ a, mg "facts_left" = some (.ref a)
  m_fewest_free : ∃ a, mg "fewest_free" = some (.ref a)
  m_is_safe : ∃ a, mg "is_safe" = some (.ref a)
  m_liars_for : ∃ a, mg "liars_for" = some (.ref a)
  m_majority : ∃ a, mg "majority" = some (.ref a)
  m_sure_facts : ∃ a, mg "sure_facts" = some (.ref a)
  m_surely_free : ∃ a, mg "surely_free" = some (.ref a)
  g_NotAllowed : mg "NotAllowed" = some (.ref (He.ga K "NotAllowed"))
  g_TooLarge : mg "TooLarge" = some (.ref (He.ga K "TooLarge"))
  g_Missing : mg "Missing" = some (.ref (He.ga K "Missing"))
  g_BadPaper : mg "BadPaper" = some (.ref (He.ga K "BadPaper"))
  g_BadForm : mg "BadForm" = some (.ref (He.ga K "BadForm"))
  x_NotAllowed : ExcC K (He.ga K "NotAllowed")
  s_NotAllowed : PySem.W.exmOne K (.ref (He.ga K "NotAllowed")) (.ref (He.ga K "SayError")) = some true
  k_NotAllowed_NotAllowed : PySem.W.kitOne K (.ref (He.ga K "NotAllowed")) (.ref (He.ga K "NotAllowed")) = some true
  k_NotAllowed_TooLarge : PySem.W.kitOne K (.ref (He.ga K "NotAllowed")) (.ref (He.ga K "TooLarge")) = some false
  k_NotAllowed_Missing : PySem.W.kitOne K (.ref (He.ga K "NotAllowed")) (.ref (He.ga K "Missing")) = some false
  k_NotAllowed_BadPaper : PySem.W.kitOne K (.ref (He.ga K "NotAllowed")) (.ref (He.ga K "BadPaper")) = some false
  k_NotAllowed_BadForm : PySem.W.kitOne K (.ref (He.ga K "NotAllowed")) (.ref (He.ga K "BadForm")) = some false
  x_TooLarge : ExcC K (He.ga K "TooLarge")
  s_TooLarge : PySem.W.exmOne K (.ref (He.ga K "TooLarge")) (.ref (He.ga K "SayError")) = some true
  k_TooLarge_NotAllowed : PySem.W.kitOne K (.ref (He.ga K "TooLarge")) (.ref (He.ga K "NotAllowed")) = some false
  k_TooLarge_TooLarge : PySem.W.kitOne K (.ref (He.ga K "TooLarge")) (.ref (He.ga K "TooLarge")) = some true
  k_TooLarge_Missing : PySem.W.kitOne K (.ref (He.ga K "TooLarge")) (.ref (He.ga K "Missing")) = some false
  k_TooLarge_BadPaper : PySem.W.kitOne K (.ref (He.ga K "TooLarge")) (.ref (He.ga K "BadPaper")) = some false
  k_TooLarge_BadForm : PySem.W.kitOne K (.ref (He.ga K "TooLarge")) (.ref (He.ga K "BadForm")) = some false
  x_Missing : ExcC K (He.ga K "Missing")
  s_Missing : PySem.W.exmOne K (.ref (He.ga K "Missing")) (.ref (He.ga K "SayError")) = some true
  k_Missing_NotAllowed : PySem.W.kitOne K (.ref (He.ga K "Missing")) (.ref (He.ga K "NotAllowed")) = some false
  k_Missing_TooLarge : PySem.W.kitOne K (.ref (He.ga K "Missing")) (.ref (He.ga K "TooLarge")) = some false
  k_Missing_Missing : PySem.W.kitOne K (.ref (He.ga K "Missing")) (.ref (He.ga K "Missing")) = some true
  k_Missing_BadPaper : PySem.W.kitOne K (.ref (He.ga K "Missing")) (.ref (He.ga K "BadPaper")) = some false
  k_Missing_BadForm : PySem.W.kitOne K (.ref (He.ga K "Missing")) (.ref (He.ga K "BadForm")) = some false
  x_BadPaper : ExcC K (He.ga K "BadPaper")
  s_BadPaper : PySem.W.exmOne K (.ref (He.ga K "BadPaper")) (.ref (He.ga K "SayError")) = some true
  k_BadPaper_NotAllowed : PySem.W.kitOne K (.ref (He.ga K "BadPaper")) (.ref (He.ga K "NotAllowed")) = some false
  k_BadPaper_TooLarge : PySem.W.kitOne K (.ref (He.ga K "BadPaper")) (.ref (He.ga K "TooLarge")) = some false
  k_BadPaper_Missing : PySem.W.kitOne K (.ref (He.ga K "BadPaper")) (.ref (He.ga K "Missing")) = some false
  k_BadPaper_BadPaper : PySem.W.kitOne K (.ref (He.ga K "BadPaper")) (.ref (He.ga K "BadPaper")) = some true
  k_BadPaper_BadForm : PySem.W.kitOne K (.ref (He.ga K "BadPaper")) (.ref (He.ga K "BadForm")) = some false
  n_NotAllowed_TooLarge : He.ga K "NotAllowed" ≠ He.ga K "TooLarge"
  n_NotAllowed_Missing : He.ga K "NotAllowed" ≠ He.ga K "Missing"
  n_NotAllowed_BadPaper : He.ga K "NotAllowed" ≠ He.ga K "BadPaper"
  n_TooLarge_Missing : He.ga K "TooLarge" ≠ He.ga K "Missing"
  n_TooLarge_BadPaper : He.ga K "TooLarge" ≠ He.ga K "BadPaper"
  n_Missing_BadPaper : He.ga K "Missing" ≠ He.ga K "BadPaper"
  d__law_stream : ∃ fd, FunD K "_law_stream" "_law_stream" (defArgs s__law_stream) (defBody s__law_stream) (defScope s__law_stream) [] [] (He.ga K "_law_stream") fd ∧ mg "_law_stream" = some (.ref (He.ga K "_law_stream"))
  d__law_next : ∃ fd, FunD K "_law_next" "_law_next" (defArgs s__law_next) (defBody s__law_next) (defScope s__law_next) [] [] (He.ga K "_law_next") fd ∧ mg "_law_next" = some (.ref (He.ga K "_law_next"))
  d__law_reports : ∃ fd, FunD K "_law_reports" "_law_reports" (defArgs s__law_reports) (defBody s__law_reports) (defScope s__law_reports) [] [] (He.ga K "_law_reports") fd ∧ mg "_law_reports" = some (.ref (He.ga K "_law_reports"))
  d__law_bits : ∃ fd, FunD K "_law_bits" "_law_bits" (defArgs s__law_bits) (defBody s__law_bits) (defScope s__law_bits) [] [] (He.ga K "_law_bits") fd ∧ mg "_law_bits" = some (.ref (He.ga K "_law_bits"))
  d__law_largest : ∃ fd, FunD K "_law_largest" "_law_largest" (defArgs s__law_largest) (defBody s__law_largest) (defScope s__law_largest) [] [] (He.ga K "_law_largest") fd ∧ mg "_law_largest" = some (.ref (He.ga K "_law_largest"))
  d_strength : ∃ fd, FunD K "strength" "strength" (defArgs s_strength) (defBody s_strength) (defScope s_strength) [] [] (He.ga K "strength") fd ∧ mg "strength" = some (.ref (He.ga K "strength"))
  d_check_reports : ∃ fd, FunD K "check_reports" "check_reports" (defArgs s_check_reports) (defBody s_check_reports) (defScope s_check_reports) [] [] (He.ga K "check_reports") fd ∧ mg "check_reports" = some (.ref (He.ga K "check_reports"))
  d_against : ∃ fd, FunD K "against" "against" (defArgs s_against) (defBody s_against) (defScope s_against) [] [] (He.ga K "against") fd ∧ mg "against" = some (.ref (He.ga K "against"))
  d_known_liars : ∃ fd, FunD K "known_liars" "known_liars" (defArgs s_known_liars) (defBody s_known_liars) (defScope s_known_liars) [] [] (He.ga K "known_liars") fd ∧ mg "known_liars" = some (.ref (He.ga K "known_liars"))
  d_all_facts : ∃ fd, FunD K "all_facts" "all_facts" (defArgs s_all_facts) (defBody s_all_facts) (defScope s_all_facts) [] [] (He.ga K "all_facts") fd ∧ mg "all_facts" = some (.ref (He.ga K "all_facts"))
  d_fewest_free : ∃ fd, FunD K "fewest_free" "fewest_free" (defArgs s_fewest_free) (defBody s_fewest_free) (defScope s_fewest_free) [] [] (He.ga K "fewest_free") fd ∧ mg "fewest_free" = some (.ref (He.ga K "fewest_free"))
  d_agree : ∃ fd, FunD K "agree" "agree" (defArgs s_agree) (defBody s_agree) (defScope s_agree) [] [] (He.ga K "agree") fd ∧ mg "agree" = some (.ref (He.ga K "agree"))
  d_clashes : ∃ fd, FunD K "clashes" "clashes" (defArgs s_clashes) (defBody s_clashes) (defScope s_clashes) [] [] (He.ga K "clashes") fd ∧ mg "clashes" = some (.ref (He.ga K "clashes"))
  d_apart : ∃ fd, FunD K "apart" "apart" (defArgs s_apart) (defBody s_apart) (defScope s_apart) [] [] (He.ga K "apart") fd ∧ mg "apart" = some (.ref (He.ga K "apart"))
  d_majority : ∃ fd, FunD K "majority" "majority" (defArgs s_majority) (defBody s_majority) (defScope s_majority) [] [] (He.ga K "majority") fd ∧ mg "majority" = some (.ref (He.ga K "majority"))
  d_check_free : ∃ fd, FunD K "check_free" "check_free" (defArgs s_check_free) (defBody s_check_free) (defScope s_check_free) [] [] (He.ga K "check_free") fd ∧ mg "check_free" = some (.ref (He.ga K "check_free"))
  d_facts_left : ∃ fd, FunD K "facts_left" "facts_left" (defArgs s_facts_left) (defBody s_facts_left) (defScope s_facts_left) [] [] (He.ga K "facts_left") fd ∧ mg "facts_left" = some (.ref (He.ga K "facts_left"))
  d_sure_facts : ∃ fd, FunD K "sure_facts" "sure_facts" (defArgs s_sure_facts) (defBody s_sure_facts) (defScope s_sure_facts) [] [] (He.ga K "sure_facts") fd ∧ mg "sure_facts" = some (.ref (He.ga K "sure_facts"))
  d_surely_free : ∃ fd, FunD K "surely_free" "surely_free" (defArgs s_surely_free) (defBody s_surely_free) (defScope s_surely_free) [] [] (He.ga K "surely_free") fd ∧ mg "surely_free" = some (.ref (He.ga K "surely_free"))
  d_is_safe : ∃ fd, FunD K "is_safe" "is_safe" (defArgs s_is_safe) (defBody s_is_safe) (defScope s_is_safe) [] [] (He.ga K "is_safe") fd ∧ mg "is_safe" = some (.ref (He.ga K "is_safe"))
  d_check_facts : ∃ fd, FunD K "check_facts" "check_facts" (defArgs s_check_facts) (defBody s_check_facts) (defScope s_check_facts) [] [] (He.ga K "check_facts") fd ∧ mg "check_facts" = some (.ref (He.ga K "check_facts"))
  d_liars_for : ∃ fd, FunD K "liars_for" "liars_for" (defArgs s_liars_for) (defBody s_liars_for) (defScope s_liars_for) [] [] (He.ga K "liars_for") fd ∧ mg "liars_for" = some (.ref (He.ga K "liars_for"))
  d_check_apart : ∃ fd, FunD K "check_apart" "check_apart" (defArgs s_check_apart) (defBody s_check_apart) (defScope s_check_apart) [] [] (He.ga K "check_apart") fd ∧ mg "check_apart" = some (.ref (He.ga K "check_apart"))
  d__law_error : ∃ fd, FunD K "_law_error" "_law_error" (defArgs s__law_error) (defBody s__law_error) (defScope s__law_error) [] [] (He.ga K "_law_error") fd ∧ mg "_law_error" = some (.ref (He.ga K "_law_error"))
  d__law_told : ∃ fd, FunD K "_law_told" "_law_told" (defArgs s__law_told) (defBody s__law_told) (defScope s__law_told) [] [] (He.ga K "_law_told") fd ∧ mg "_law_told" = some (.ref (He.ga K "_law_told"))
  d__law_same : ∃ fd, FunD K "_law_same" "_law_same" (defArgs s__law_same) (defBody s__law_same) (defScope s__law_same) [] [] (He.ga K "_law_same") fd ∧ mg "_law_same" = some (.ref (He.ga K "_law_same"))
  d__law_wrong : ∃ fd, FunD K "_law_wrong" "_law_wrong" (defArgs s__law_wrong) (defBody s__law_wrong) (defScope s__law_wrong) [] [] (He.ga K "_law_wrong") fd ∧ mg "_law_wrong" = some (.ref (He.ga K "_law_wrong"))
  d_law : ∃ fd, FunD K "law" "law" (defArgs s_law) (defBody s_law) (defScope s_law) [] [] (He.ga K "law") fd ∧ mg "law" = some (.ref (He.ga K "law"))
def clsO (K : Fg) (C : Addr) : Option Str := if C = He.ga K "NotAllowed" then some "NotAllowed" else if C = He.ga K "TooLarge" then some "TooLarge" else if C = He.ga K "Missing" then some "Missing" else if C = He.ga K "BadPaper" then some "BadPaper" else none
def tabC (c : Str) : Str → Option Bool := fun n => if n = "NotAllowed" ∨ n = "TooLarge" ∨ n = "Missing" ∨ n = "BadPaper" ∨ n = "BadForm" then some (decide (c = n)) else none
section
variable {K : Fg} {mg : MG}
theorem errT_NotAllowed (Φ : Facts K mg) : ErrT K mg (He.ga K "NotAllowed") (tabC "NotAllowed") := ⟨Φ.x_NotAllowed, fun n b h => by
  unfold tabC at h
  split at h
  · rename_i hn
    cases h
    rcases hn with e | e | e | e | e
    · rw [e]; exact ⟨_, Φ.g_NotAllowed, Φ.k_NotAllowed_NotAllowed.trans (by kernel_rfl)⟩
    · rw [e]; exact ⟨_, Φ.g_TooLarge, Φ.k_NotAllowed_TooLarge.trans (by kernel_rfl)⟩
    · rw [e]; exact ⟨_, Φ.g_Missing, Φ.k_NotAllowed_Missing.trans (by kernel_rfl)⟩
    · rw [e]; exact ⟨_, Φ.g_BadPaper, Φ.k_NotAllowed_BadPaper.trans (by kernel_rfl)⟩
    · rw [e]; exact ⟨_, Φ.g_BadForm, Φ.k_NotAllowed_BadForm.trans (by kernel_rfl)⟩
  · cases h⟩
theorem errT_TooLarge (Φ : Facts K mg) : ErrT K mg (He.ga K "TooLarge") (tabC "TooLarge") := ⟨Φ.x_TooLarge, fun n b h => by
  unfold tabC at h
  split at h
  · rename_i hn
    cases h
    rcases hn with e | e | e | e | e
    · rw [e]; exact ⟨_, Φ.g_NotAllowed, Φ.k_TooLarge_NotAllowed.trans (by kernel_rfl)⟩
    · rw [e]; exact ⟨_, Φ.g_TooLarge, Φ.k_TooLarge_TooLarge.trans (by kernel_rfl)⟩
    · rw [e]; exact ⟨_, Φ.g_Missing, Φ.k_TooLarge_Missing.trans (by kernel_rfl)⟩
    · rw [e]; exact ⟨_, Φ.g_BadPaper, Φ.k_TooLarge_BadPaper.trans (by kernel_rfl)⟩
    · rw [e]; exact ⟨_, Φ.g_BadForm, Φ.k_TooLarge_BadForm.trans (by kernel_rfl)⟩
  · cases h⟩
theorem errT_Missing (Φ : Facts K mg) : ErrT K mg (He.ga K "Missing") (tabC "Missing") := ⟨Φ.x_Missing, fun n b h => by
  unfold tabC at h
  split at h
  · rename_i hn
    cases h
    rcases hn with e | e | e | e | e
    · rw [e]; exact ⟨_, Φ.g_NotAllowed, Φ.k_Missing_NotAllowed.trans (by kernel_rfl)⟩
    · rw [e]; exact ⟨_, Φ.g_TooLarge, Φ.k_Missing_TooLarge.trans (by kernel_rfl)⟩
    · rw [e]; exact ⟨_, Φ.g_Missing, Φ.k_Missing_Missing.trans (by kernel_rfl)⟩
    · rw [e]; exact ⟨_, Φ.g_BadPaper, Φ.k_Missing_BadPaper.trans (by kernel_rfl)⟩
    · rw [e]; exact ⟨_, Φ.g_BadForm, Φ.k_Missing_BadForm.trans (by kernel_rfl)⟩
  · cases h⟩
theorem errT_BadPaper (Φ : Facts K mg) : ErrT K mg (He.ga K "BadPaper") (tabC "BadPaper") := ⟨Φ.x_BadPaper, fun n b h => by
  unfold tabC at h
  split at h
  · rename_i hn
    cases h
    rcases hn with e | e | e | e | e
    · rw [e]; exact ⟨_, Φ.g_NotAllowed, Φ.k_BadPaper_NotAllowed.trans (by kernel_rfl)⟩
    · rw [e]; exact ⟨_, Φ.g_TooLarge, Φ.k_BadPaper_TooLarge.trans (by kernel_rfl)⟩
    · rw [e]; exact ⟨_, Φ.g_Missing, Φ.k_BadPaper_Missing.trans (by kernel_rfl)⟩
    · rw [e]; exact ⟨_, Φ.g_BadPaper, Φ.k_BadPaper_BadPaper.trans (by kernel_rfl)⟩
    · rw [e]; exact ⟨_, Φ.g_BadForm, Φ.k_BadPaper_BadForm.trans (by kernel_rfl)⟩
  · cases h⟩
theorem errT_of (Φ : Facts K mg) {C : Addr} {c : Str} (h : clsO K C = some c) : ErrT K mg C (tabC c) := by
  unfold clsO at h
  by_cases e1 : C = He.ga K "NotAllowed"
  · rw [if_pos e1] at h; cases h; rw [e1]; exact errT_NotAllowed Φ
  rw [if_neg e1] at h
  by_cases e2 : C = He.ga K "TooLarge"
  · rw [if_pos e2] at h; cases h; rw [e2]; exact errT_TooLarge Φ
  rw [if_neg e2] at h
  by_cases e3 : C = He.ga K "Missing"
  · rw [if_pos e3] at h; cases h; rw [e3]; exact errT_Missing Φ
  rw [if_neg e3] at h
  by_cases e4 : C = He.ga K "BadPaper"
  · rw [if_pos e4] at h; cases h; rw [e4]; exact errT_BadPaper Φ
  rw [if_neg e4] at h
  cases h
end
section
variable {P : Program} {w : World} {K : Fg} {mg : MG} {base : Heap}
def S__law_stream : CS :=
  (sSeq (sAsg 1 (cLst aNil))
  (sSeq (sFor (gN 2) (iSeq (cSl (oVar 0) pNo (pSm (oVal (cC (.int 63))))))
  (sSeq (sAsg 3 (cN absD (aCons (oVal (cN intD (aCons (oVar 2) aNil))) aNil)))
  (sIf (tOf (c2 geD (oVar 3) (oVal (c2 powD (oVal (cC (.int 10))) (oVal (cC (.int 18)))))))
  (sFor (gN 4) (iL rngD1 (aCons (oVal (cC (.int 60))) aNil))
  (sSeq (sExp (cM1 "list" 1 appendD (c2 modD (oVal (cN intD (aCons (oVar 3) aNil))) (oVal (cC (.int 1009))))))
  (sSeq (sAsg 3 (c2 fdivD (oVar 3) (oVal (cC (.int 1009)))))
  (sIf (tOf (c2 (eqD false) (oVar 3) (oVal (cC (.int 0)))))
  sBrk
  sNil))))
  (sSeq (sAsg 5 (c2 modD (oVal (cN intD (aCons (oVar 3) aNil))) (oVal (cC (.int 2147483647)))))
  (sFor (gN 4) (iL rngD1 (aCons (oVal (cC (.int 10))) aNil))
  (sSeq (sAsg 5 (c2 modD (oVal (cN intD (aCons (oVal (c2 addD (oVal (c2 addD (oVal (c2 mulD (oVar 5) (oVal (cC (.int 48271))))) (oVal (c2 mulD (oVal (cC (.int 7))) (oVar 4))))) (oVal (cC (.int 11))))) aNil))) (oVal (cC (.int 2147483647)))))
  (sExp (cM1 "list" 1 appendD (c2 modD (oVal (c2 modD (oVal (cN intD (aCons (oVal (c2 addD (oVal (c2 mulD (oVar 5) (oVal (cC (.int 69621))))) (oVar 4))) aNil))) (oVal (cC (.int 2147483629))))) (oVal (cC (.int 1009))))))))))))
  (sSeq (sIf (tOf (c2 (eqD false) (oVal (cN lenD (aCons (oVar 1) aNil))) (oVal (cC (.int 0)))))
  (sExp (cM1 "list" 1 appendD (cC (.int 0))))
  sNil)
  (sRetV 1))))
def F__law_stream : FSem := fnD none 1 (List.length N__law_stream) S__law_stream
theorem fn__law_stream (Φ : Facts K mg) {fd : FuncData} (F : FunD K "_law_stream" "_law_stream" (defArgs s__law_stream) (defBody s__law_stream) (defScope s__law_stream) [] [] (He.ga K "_law_stream") fd) : FnG P w K mg base 1 (He.ga K "_law_stream") fd ["script"] (spD K mg 1 none F__law_stream) := by
  refine fnG_of (k := 0) (N := N__law_stream) F sc__law_stream rfl ?_
  intro cdv A outer s H E p hio0 hB hgd hroom
  have R := rdy_of (P := P) (w := w) (K := K) (mg := mg) (base := base) (N := N__law_stream) (outer := outer) (E := E) (H := H) hgd hroom
  have U := R.u65
  have HP := passes_cx (P := P) (w := w) (K := K) (mg := mg) (base := base) (N := N__law_stream) (qual := "_law_stream") (scope := defScope s__law_stream) (f := He.ga K "_law_stream") (cd := cdv) (A := A) (outer := outer) (s := s) (H := H) (E := E)
  exact (dss_cons (ds_set nd__law_stream (by kernel_rfl) (loc_ok (by kernel_rfl)) (de_lst da_nil))
  (dss_cons (ds_for HP (by kernel_rfl) (di_seq (de_slice (bV 0) dp_no (dp_sm (db_val de_int)))) (nV 2 nd__law_stream)
  (dss_cons (ds_set nd__law_stream (by kernel_rfl) (loc_ok (by kernel_rfl)) (kAbs Φ.b_abs (da_cons (db_val (kInt Φ.b_int (da_cons (bV 2) da_nil))) da_nil)))
  (dss_one (ds_if (tGe (bV 3) (db_val (xPow (db_val de_int) (db_val de_int))))
  (dss_one (ds_for HP (by kernel_rfl) (di_range1 (gl (by kernel_rfl)) Φ.b_range (da_cons (db_val de_int) da_nil)) (nV 4 nd__law_stream)
  (dss_cons (ds_expr (de_m1 vm_append (by kernel_rfl) (vis_ok (by kernel_rfl)) PySem.F.plainAttrs_list PySem.F.slot_list_append PySem.F.type_list_append mt_append (xMod (db_val (kInt Φ.b_int (da_cons (bV 3) da_nil))) (db_val de_int))))
  (dss_cons (ds_set nd__law_stream (by kernel_rfl) (loc_ok (by kernel_rfl)) (xDiv (bV 3) (db_val de_int)))
  (dss_one (ds_if (tEq U (bV 3) (db_val de_int))
  (dss_one ds_break)
  dss_nil))))))
  (dss_cons (ds_set nd__law_stream (by kernel_rfl) (loc_ok (by kernel_rfl)) (xMod (db_val (kInt Φ.b_int (da_cons (bV 3) da_nil))) (db_val de_int)))
  (dss_one (ds_for HP (by kernel_rfl) (di_range1 (gl (by kernel_rfl)) Φ.b_range (da_cons (db_val de_int) da_nil)) (nV 4 nd__law_stream)
  (dss_cons (ds_set nd__law_stream (by kernel_rfl) (loc_ok (by kernel_rfl)) (xMod (db_val (kInt Φ.b_int (da_cons (db_val (xAdd (db_val (xAdd (db_val (xMul (bV 5) (db_val de_int))) (db_val (xMul (db_val de_int) (bV 4))))) (db_val de_int))) da_nil))) (db_val de_int)))
  (dss_one (ds_expr (de_m1 vm_append (by kernel_rfl) (vis_ok (by kernel_rfl)) PySem.F.plainAttrs_list PySem.F.slot_list_append PySem.F.type_list_append mt_append (xMod (db_val (xMod (db_val (kInt Φ.b_int (da_cons (db_val (xAdd (db_val (xMul (bV 5) (db_val de_int))) (bV 4))) da_nil))) (db_val de_int))) (db_val de_int)))))))))))))
  (dss_cons (ds_if (tEq U (db_val (kLen Φ.b_len (da_cons (bV 1) da_nil))) (db_val de_int))
  (dss_one (ds_expr (de_m1 vm_append (by kernel_rfl) (vis_ok (by kernel_rfl)) PySem.F.plainAttrs_list PySem.F.slot_list_append PySem.F.type_list_append mt_append de_int)))
  dss_nil)
  (dss_one (ds_retV (gV 1))))))
theorem c__law_stream (Φ : Facts K mg) : Ctr P w K mg base 1 "_law_stream" none F__law_stream := by
  obtain ⟨fd, F, hm⟩ := Φ.d__law_stream
  exact ⟨_, fd, ["script"], 1, fn__law_stream Φ F, hm, F.kp, F.bindsN (fun _ _ _ _ _ _ us hl => match us, hl with | [_], _ => rfl), fun ds h => if_neg h, fun j h => by cases h <;> decide⟩
def S__law_next : CS :=
  (sSeq (sPut 0 (cC (.int 1)) (c2 addD (oVal (c2 ixD (oVar 0) (oVal (cC (.int 1))))) (oVal (cC (.int 1)))))
  (sSeq (sAsg 2 (c2 fdivD (oVal (c2 ixD (oVar 0) (oVal (cC (.int 1))))) (oVal (cN lenD (aCons (oVal (c2 ixD (oVar 0) (oVal (cC (.int 0))))) aNil)))))
  (sRet (c2 modD (oVal (cN intD (aCons (oVal (c2 addD (oVal (c2 addD (oVal (c2 ixD (oVal (c2 ixD (oVar 0) (oVal (cC (.int 0))))) (oVal (c2 modD (oVal (c2 ixD (oVar 0) (oVal (cC (.int 1))))) (oVal (cN lenD (aCons (oVal (c2 ixD (oVar 0) (oVal (cC (.int 0))))) aNil))))))) (oVal (c2 mulD (oVar 2) (oVal (cC (.int 389))))))) (oVal (c2 mulD (oVal (c2 mulD (oVal (c2 ixD (oVar 0) (oVal (cC (.int 1))))) (oVar 2))) (oVal (cC (.int 17))))))) aNil))) (oVar 1)))))
def F__law_next : FSem := fnD (some 0) 2 (List.length N__law_next) S__law_next
theorem fn__law_next (Φ : Facts K mg) {fd : FuncData} (F : FunD K "_law_next" "_law_next" (defArgs s__law_next) (defBody s__law_next) (defScope s__law_next) [] [] (He.ga K "_law_next") fd) : FnG P w K mg base 1 (He.ga K "_law_next") fd ["state", "many"] (spD K mg 2 (some 0) F__law_next) := by
  refine fnG_of (k := 0) (N := N__law_next) F sc__law_next rfl ?_
  intro cdv A outer s H E p hio0 hB hgd hroom
  have R := rdy_of (P := P) (w := w) (K := K) (mg := mg) (base := base) (N := N__law_next) (outer := outer) (E := E) (H := H) hgd hroom
  have U := R.u65
  exact (dss_cons (ds_put (by have := U; omega) (by kernel_rfl) (vis_ok (by kernel_rfl)) de_int (xAdd (db_val (xIx U (bV 0) (db_val de_int))) (db_val de_int)))
  (dss_cons (ds_set nd__law_next (by kernel_rfl) (loc_ok (by kernel_rfl)) (xDiv (db_val (xIx U (bV 0) (db_val de_int))) (db_val (kLen Φ.b_len (da_cons (db_val (xIx U (bV 0) (db_val de_int))) da_nil)))))
  (dss_one (ds_ret (xMod (db_val (kInt Φ.b_int (da_cons (db_val (xAdd (db_val (xAdd (db_val (xIx U (db_val (xIx U (bV 0) (db_val de_int))) (db_val (xMod (db_val (xIx U (bV 0) (db_val de_int))) (db_val (kLen Φ.b_len (da_cons (db_val (xIx U (bV 0) (db_val de_int))) da_nil))))))) (db_val (xMul (bV 2) (db_val de_int))))) (db_val (xMul (db_val (xMul (db_val (xIx U (bV 0) (db_val de_int))) (bV 2))) (db_val de_int))))) da_nil))) (bV 1))))))
theorem c__law_next (Φ : Facts K mg) : Ctr P w K mg base 1 "_law_next" (some 0) F__law_next := by
  obtain ⟨fd, F, hm⟩ := Φ.d__law_next
  exact ⟨_, fd, ["state", "many"], 2, fn__law_next Φ F, hm, F.kp, F.bindsN (fun _ _ _ _ _ _ us hl => match us, hl with | [_, _], _ => rfl), fun ds h => if_neg h, fun j h => by cases h <;> decide⟩
def S__law_reports : CS :=
  (sSeq (sPar 1 2 (mCons (c2 addD (oVal (cC (.int 1))) (oVal (cCall (some 0) F__law_next (aCons (oVar 0) (aCons (oVal (cC (.int 6))) aNil))))) (mCons (c2 addD (oVal (cC (.int 1))) (oVal (cCall (some 0) F__law_next (aCons (oVar 0) (aCons (oVal (cC (.int 4))) aNil))))) mNil)))
  (sSeq (sAsg 3 (cComp [6] (gN 6) tYesC (cCall (some 0) F__law_next (aCons (oVar 0) (aCons (oVal (cC (.int 2))) aNil))) (iL rngD1 (aCons (oVar 2) aNil))))
  (sSeq (sAsg 4 (cCall (some 0) F__law_next (aCons (oVar 0) (aCons (oVal (cC (.int 2))) aNil))))
  (sSeq (sAsg 5 (cLst aNil))
  (sSeq (sFor (gN 6) (iL rngD1 (aCons (oVar 1) aNil))
  (sSeq (sAsg 7 (c2 (eqD false) (oVal (cCall (some 0) F__law_next (aCons (oVar 0) (aCons (oVal (cC (.int 3))) aNil)))) (oVal (cC (.int 0)))))
  (sSeq (sAsg 8 (cComp [9] (gN 9) tYesC (c2 ixD (oVal (cLst (aCons (oVal (c2 ixD (oVar 3) (oVar 9))) (aCons (oVal (cCall (some 0) F__law_next (aCons (oVar 0) (aCons (oVal (cC (.int 2))) aNil)))) aNil)))) (oVal (cN intD (aCons (oVar 7) aNil)))) (iL rngD1 (aCons (oVar 2) aNil))))
  (sExp (cM1 "list" 5 appendD (cN tupleD (aCons (oVal (cComp [10] (gN 10) tYesC (c2 ixD (oVal (cLst (aCons (oVar 10) (aCons (oVal (cC .non)) aNil)))) (oVal (cN intD (aCons (oVal (cAnd (c2 (eqD false) (oVar 4) (oVal (cC (.int 1)))) (c2 (eqD false) (oVal (cCall (some 0) F__law_next (aCons (oVar 0) (aCons (oVal (cC (.int 4))) aNil)))) (oVal (cC (.int 0)))))) aNil)))) (iSeq (cVar 8)))) aNil)))))))
  (sRet (cN tupleD (aCons (oVar 5) aNil))))))))
def F__law_reports : FSem := fnD (some 0) 1 (List.length N__law_reports) S__law_reports
theorem fn__law_reports (Φ : Facts K mg) {fd : FuncData} (F : FunD K "_law_reports" "_law_reports" (defArgs s__law_reports) (defBody s__law_reports) (defScope s__law_reports) [] [] (He.ga K "_law_reports") fd) : FnG P w K mg base 2 (He.ga K "_law_reports") fd ["state"] (spD K mg 1 (some 0) F__law_reports) := by
  refine fnG_of (k := 1) (N := N__law_reports) F sc__law_reports rfl ?_
  intro cdv A outer s H E p hio0 hB hgd hroom
  have R := rdy_of (P := P) (w := w) (K := K) (mg := mg) (base := base) (N := N__law_reports) (outer := outer) (E := E) (H := H) hgd hroom
  have U := R.u65
  have HP := passes_cx (P := P) (w := w) (K := K) (mg := mg) (base := base) (N := N__law_reports) (qual := "_law_reports") (scope := defScope s__law_reports) (f := He.ga K "_law_reports") (cd := cdv) (A := A) (outer := outer) (s := s) (H := H) (E := E)
  exact (dss_cons (ds_par (by kernel_rfl) nd__law_reports (by kernel_rfl) (by kernel_rfl) (by decide) (by kernel_rfl) (by kernel_rfl) (dm_cons (xAdd (db_val de_int) (db_val (de_call R ((c__law_next Φ).mono (by decide)) (gl (by kernel_rfl)) (da_cons (bV 0) (da_cons (db_val de_int) da_nil))))) (dm_cons (xAdd (db_val de_int) (db_val (de_call R ((c__law_next Φ).mono (by decide)) (gl (by kernel_rfl)) (da_cons (bV 0) (da_cons (db_val de_int) da_nil))))) dm_nil)) (by rfl) (by rfl))
  (dss_cons (ds_set nd__law_reports (by kernel_rfl) (loc_ok (by kernel_rfl)) (de_comp (by kernel_rfl) nd__law_reports (di_range1 (gl (by kernel_rfl)) Φ.b_range (da_cons (bV 2) da_nil)) (blkOk_by (own := [("k", 6)]) (by kernel_rfl)) (by decide) (fun _ _ _ _ _ => (nV 6 nd__law_reports)) (fun _ _ _ _ _ => dts_nil) (fun _ _ _ _ _ => (de_call R.blk ((c__law_next Φ).mono (by decide)) (gl (by kernel_rfl)) (da_cons (bV 0) (da_cons (db_val de_int) da_nil))))))
  (dss_cons (ds_set nd__law_reports (by kernel_rfl) (loc_ok (by kernel_rfl)) (de_call R ((c__law_next Φ).mono (by decide)) (gl (by kernel_rfl)) (da_cons (bV 0) (da_cons (db_val de_int) da_nil))))
  (dss_cons (ds_set nd__law_reports (by kernel_rfl) (loc_ok (by kernel_rfl)) (de_lst da_nil))
  (dss_cons (ds_for HP (by kernel_rfl) (di_range1 (gl (by kernel_rfl)) Φ.b_range (da_cons (bV 1) da_nil)) (nV 6 nd__law_reports)
  (dss_cons (ds_set nd__law_reports (by kernel_rfl) (loc_ok (by kernel_rfl)) (xEq U (db_val (de_call R ((c__law_next Φ).mono (by decide)) (gl (by kernel_rfl)) (da_cons (bV 0) (da_cons (db_val de_int) da_nil)))) (db_val de_int)))
  (dss_cons (ds_setC (by kernel_rfl) nd__law_reports (by kernel_rfl) (by kernel_rfl) (sw_true rfl (by kernel_rfl) (by kernel_rfl) (by kernel_rfl)) (di_range1 (gl (by kernel_rfl)) Φ.b_range (da_cons (bV 2) da_nil)) (blkOk_by (own := [("at", 9)]) (by kernel_rfl)) (by decide) (fun _ _ _ _ _ => (nV 9 nd__law_reports)) (fun _ _ _ _ _ => dts_nil) (fun _ _ _ _ _ => (xIx (by exact U) (db_val (de_lst (da_cons (db_val (xIx (by exact U) (bV 3) (bV 9))) (da_cons (db_val (de_call R.blk ((c__law_next Φ).mono (by decide)) (gl (by kernel_rfl)) (da_cons (bV 0) (da_cons (db_val de_int) da_nil)))) da_nil)))) (db_val (kInt Φ.b_int (da_cons (bV 7) da_nil))))))
  (dss_one (ds_expr (de_m1 vm_append (by kernel_rfl) (vis_ok (by kernel_rfl)) PySem.F.plainAttrs_list PySem.F.slot_list_append PySem.F.type_list_append mt_append (kTuple Φ.b_tuple (da_cons (db_val (de_comp (by kernel_rfl) nd__law_reports (di_seq (eV 8)) (blkOk_by (own := [("told", 10)]) (by kernel_rfl)) (by decide) (fun _ _ _ _ _ => (nV 10 nd__law_reports)) (fun _ _ _ _ _ => dts_nil) (fun _ _ _ _ _ => (xIx (by exact U) (db_val (de_lst (da_cons (bV 10) (da_cons (db_val de_non) da_nil)))) (db_val (kInt Φ.b_int (da_cons (db_val (de_andv (xEq (by exact U) (bV 4) (db_val de_int)) (de_bone (xEq (by exact U) (db_val (de_call R.blk ((c__law_next Φ).mono (by decide)) (gl (by kernel_rfl)) (da_cons (bV 0) (da_cons (db_val de_int) da_nil)))) (db_val de_int))))) da_nil))))))) da_nil))))))))
  (dss_one (ds_ret (kTuple Φ.b_tuple (da_cons (bV 5) da_nil)))))))))
theorem c__law_reports (Φ : Facts K mg) : Ctr P w K mg base 2 "_law_reports" (some 0) F__law_reports := by
  obtain ⟨fd, F, hm⟩ := Φ.d__law_reports
  exact ⟨_, fd, ["state"], 1, fn__law_reports Φ F, hm, F.kp, F.bindsN (fun _ _ _ _ _ _ us hl => match us, hl with | [_], _ => rfl), fun ds h => if_neg h, fun j h => by cases h <;> decide⟩
def S__law_bits : CS :=
  (sSeq (sAsg 1 (cLst (aCons (oVal (cTup aNil)) aNil)))
  (sSeq (sFor (gN 2) (iL rngD1 (aCons (oVar 0) aNil))
  (sSeq (sAsg 3 (cLst aNil))
  (sSeq (sFor (gN 4) (iSeq (cVar 1))
  (sExp (cM1 "list" 3 extendD (cLst (aCons (oVal (c2 addD (oVar 4) (oVal (cTup (aCons (oVal (cC (.int 0))) aNil))))) (aCons (oVal (c2 addD (oVar 4) (oVal (cTup (aCons (oVal (cC (.int 1))) aNil))))) aNil))))))
  (sAsg 1 (cVar 3)))))
  (sRetV 1)))
def F__law_bits : FSem := fnD none 1 (List.length N__law_bits) S__law_bits
theorem fn__law_bits (Φ : Facts K mg) {fd : FuncData} (F : FunD K "_law_bits" "_law_bits" (defArgs s__law_bits) (defBody s__law_bits) (defScope s__law_bits) [] [] (He.ga K "_law_bits") fd) : FnG P w K mg base 1 (He.ga K "_law_bits") fd ["many"] (spD K mg 1 none F__law_bits) := by
  refine fnG_of (k := 0) (N := N__law_bits) F sc__law_bits rfl ?_
  intro cdv A outer s H E p hio0 hB hgd hroom
  have R := rdy_of (P := P) (w := w) (K := K) (mg := mg) (base := base) (N := N__law_bits) (outer := outer) (E := E) (H := H) hgd hroom
  have U := R.u65
  have HP := passes_cx (P := P) (w := w) (K := K) (mg := mg) (base := base) (N := N__law_bits) (qual := "_law_bits") (scope := defScope s__law_bits) (f := He.ga K "_law_bits") (cd := cdv) (A := A) (outer := outer) (s := s) (H := H) (E := E)
  exact (dss_cons (ds_set nd__law_bits (by kernel_rfl) (loc_ok (by kernel_rfl)) (de_lst (da_cons (db_val (de_tup da_nil)) da_nil)))
  (dss_cons (ds_for HP (by kernel_rfl) (di_range1 (gl (by kernel_rfl)) Φ.b_range (da_cons (bV 0) da_nil)) (nV 2 nd__law_bits)
  (dss_cons (ds_set nd__law_bits (by kernel_rfl) (loc_ok (by kernel_rfl)) (de_lst da_nil))
  (dss_cons (ds_for HP (by kernel_rfl) (di_seq (eV 1)) (nV 4 nd__law_bits)
  (dss_one (ds_expr (de_m1 vm_extend (by kernel_rfl) (vis_ok (by kernel_rfl)) PySem.F.plainAttrs_list PySem.F.slot_list_extend PySem.F.type_list_extend mt_extend (de_lst (da_cons (db_val (xAdd (bV 4) (db_val (de_tup (da_cons (db_val de_int) da_nil))))) (da_cons (db_val (xAdd (bV 4) (db_val (de_tup (da_cons (db_val de_int) da_nil))))) da_nil)))))))
  (dss_one (ds_set nd__law_bits (by kernel_rfl) (loc_ok (by kernel_rfl)) (eV 3))))))
  (dss_one (ds_retV (gV 1)))))
theorem c__law_bits (Φ : Facts K mg) : Ctr P w K mg base 1 "_law_bits" none F__law_bits := by
  obtain ⟨fd, F, hm⟩ := Φ.d__law_bits
  exact ⟨_, fd, ["many"], 1, fn__law_bits Φ F, hm, F.kp, F.bindsN (fun _ _ _ _ _ _ us hl => match us, hl with | [_], _ => rfl), fun ds h => if_neg h, fun j h => by cases h <;> decide⟩
def S__law_largest : CS :=
  (sSeq (sAsg 1 (cLst (aCons (oVal (cTup aNil)) aNil)))
  (sSeq (sFor (gN 2) (iSeq (cVar 0))
  (sAsg 1 (c2 addD (oVar 1) (oVal (cComp [4] (gN 4) (tNot' (tTru (oVal (cN anyD (aCons (oVal (cComp [5] (gN 5) tYesC (cOr (c2 (inD false) (oVal (c2 ixD (oVar 2) (oVal (cC (.int 0))))) (oVar 5)) (c2 (inD false) (oVal (c2 ixD (oVar 2) (oVal (cC (.int 1))))) (oVar 5))) (iSeq (cVar 4)))) aNil))))) (c2 addD (oVar 4) (oVal (cTup (aCons (oVar 2) aNil)))) (iSeq (cVar 1)))))))
  (sSeq (sAsg 3 (cN maxD (aCons (oVal (cComp [4] (gN 4) tYesC (cN lenD (aCons (oVar 4) aNil)) (iSeq (cVar 1)))) aNil)))
  (sRet (c2 ixD (oVal (cF (sortD false) (cComp [4] (gN 4) (tOf (c2 (eqD false) (oVal (cN lenD (aCons (oVar 4) aNil))) (oVar 3))) (cVar 4) (iSeq (cVar 1))))) (oVal (cC (.int 0))))))))
def F__law_largest : FSem := fnD none 1 (List.length N__law_largest) S__law_largest
theorem fn__law_largest (Φ : Facts K mg) {fd : FuncData} (F : FunD K "_law_largest" "_law_largest" (defArgs s__law_largest) (defBody s__law_largest) (defScope s__law_largest) [] [] (He.ga K "_law_largest") fd) : FnG P w K mg base 1 (He.ga K "_law_largest") fd ["pairs"] (spD K mg 1 none F__law_largest) := by
  refine fnG_of (k := 0) (N := N__law_largest) F sc__law_largest rfl ?_
  intro cdv A outer s H E p hio0 hB hgd hroom
  have R := rdy_of (P := P) (w := w) (K := K) (mg := mg) (base := base) (N := N__law_largest) (outer := outer) (E := E) (H := H) hgd hroom
  have U := R.u65
  have HP := passes_cx (P := P) (w := w) (K := K) (mg := mg) (base := base) (N := N__law_largest) (qual := "_law_largest") (scope := defScope s__law_largest) (f := He.ga K "_law_largest") (cd := cdv) (A := A) (outer := outer) (s := s) (H := H) (E := E)
  exact (dss_cons (ds_set nd__law_largest (by kernel_rfl) (loc_ok (by kernel_rfl)) (de_lst (da_cons (db_val (de_tup da_nil)) da_nil)))
  (dss_cons (ds_for HP (by kernel_rfl) (di_seq (eV 0)) (nV 2 nd__law_largest)
  (dss_one (ds_set nd__law_largest (by kernel_rfl) (loc_ok (by kernel_rfl)) (xAdd (bV 1) (db_val (de_comp (by kernel_rfl) nd__law_largest (di_seq (eV 1)) (blkOk_by (own := [("row", 4)]) (by kernel_rfl)) (by decide) (fun _ _ _ _ _ => (nV 4 nd__law_largest)) (fun _ _ _ _ _ => (dts_one (dt_not (dt_tru (db_val (kAny Φ.b_any (da_cons (db_val (de_comp (by kernel_rfl) nd__law_largest (di_seq (eV 4)) (blkOk_by (own := [("one", 5)]) (by kernel_rfl)) (by decide) (fun _ _ _ _ _ => (nV 5 nd__law_largest)) (fun _ _ _ _ _ => dts_nil) (fun _ _ _ _ _ => (de_orv (xIn (by exact U) (db_val (xIx (by exact U) (bV 2) (db_val de_int))) (bV 5)) (de_bone (xIn (by exact U) (db_val (xIx (by exact U) (bV 2) (db_val de_int))) (bV 5))))))) da_nil))))))) (fun _ _ _ _ _ => (xAdd (bV 4) (db_val (de_tup (da_cons (bV 2) da_nil)))))))))))
  (dss_cons (ds_set nd__law_largest (by kernel_rfl) (loc_ok (by kernel_rfl)) (kMax Φ.b_max (da_cons (db_val (de_comp (by kernel_rfl) nd__law_largest (di_seq (eV 1)) (blkOk_by (own := [("row", 4)]) (by kernel_rfl)) (by decide) (fun _ _ _ _ _ => (nV 4 nd__law_largest)) (fun _ _ _ _ _ => dts_nil) (fun _ _ _ _ _ => (kLen Φ.b_len (da_cons (bV 4) da_nil))))) da_nil)))
  (dss_one (ds_ret (xIx U (db_val (de_sort U Φ.b_sorted (de_comp (by kernel_rfl) nd__law_largest (di_seq (eV 1)) (blkOk_by (own := [("row", 4)]) (by kernel_rfl)) (by decide) (fun _ _ _ _ _ => (nV 4 nd__law_largest)) (fun _ _ _ _ _ => (dts_one (tEq (by exact U) (db_val (kLen Φ.b_len (da_cons (bV 4) da_nil))) (bV 3)))) (fun _ _ _ _ _ => (eV 4))))) (db_val de_int)))))))
theorem c__law_largest (Φ : Facts K mg) : Ctr P w K mg base 1 "_law_largest" none F__law_largest := by
  obtain ⟨fd, F, hm⟩ := Φ.d__law_largest
  exact ⟨_, fd, ["pairs"], 1, fn__law_largest Φ F, hm, F.kp, F.bindsN (fun _ _ _ _ _ _ us hl => match us, hl with | [_], _ => rfl), fun ds h => if_neg h, fun j h => by cases h <;> decide⟩
def S_strength : CS :=
  (sSeq (sIf (tOr' (tOf (c2 gtA (oVar 0) (oVal (cC (.int (8)))))) (tOf (c2 gtA (oVar 1) (oVal (cC (.int (6)))))))
  (sRaise "TooLarge")
  sNil)
  (sSeq (sIf (tOr' (tOf (c2 ltD (oVar 0) (oVal (cC (.int 1))))) (tOf (c2 ltD (oVar 1) (oVal (cC (.int 1))))))
  (sRaise "NotAllowed")
  sNil)
  (sRet (c2 fdivD (oVal (c2 subD (oVar 0) (oVal (cC (.int 1))))) (oVal (cC (.int 2)))))))
def F_strength : FSem := fnD none 2 (List.length N_strength) S_strength
theorem fn_strength (Φ : Facts K mg) {fd : FuncData} (F : FunD K "strength" "strength" (defArgs s_strength) (defBody s_strength) (defScope s_strength) [] [] (He.ga K "strength") fd) : FnG P w K mg base 1 (He.ga K "strength") fd ["many", "facts"] (spD K mg 2 none F_strength) := by
  refine fnG_of (k := 0) (N := N_strength) F sc_strength rfl ?_
  intro cdv A outer s H E p hio0 hB hgd hroom
  have R := rdy_of (P := P) (w := w) (K := K) (mg := mg) (base := base) (N := N_strength) (outer := outer) (E := E) (H := H) hgd hroom
  have U := R.u65
  exact (dss_cons (ds_if (dt_w (dw_or (tGtA U (bV 0) (db_val (eI Φ.i_MAX_FOLK))) (dw_or1 (tGtA U (bV 1) (db_val (eI Φ.i_MAX_FACTS))))))
  (dss_one (ds_raise (by kernel_rfl) R Φ.e_TooLarge (gl (by kernel_rfl))))
  dss_nil)
  (dss_cons (ds_if (dt_w (dw_or (tLt (bV 0) (db_val de_int)) (dw_or1 (tLt (bV 1) (db_val de_int)))))
  (dss_one (ds_raise (by kernel_rfl) R Φ.e_NotAllowed (gl (by kernel_rfl))))
  dss_nil)
  (dss_one (ds_ret (xDiv (db_val (xSub (bV 0) (db_val de_int))) (db_val de_int))))))
theorem c_strength (Φ : Facts K mg) : Ctr P w K mg base 1 "strength" none F_strength := by
  obtain ⟨fd, F, hm⟩ := Φ.d_strength
  exact ⟨_, fd, ["many", "facts"], 2, fn_strength Φ F, hm, F.kp, F.bindsN (fun _ _ _ _ _ _ us hl => match us, hl with | [_, _], _ => rfl), fun ds h => if_neg h, fun j h => by cases h <;> decide⟩
def S_check_reports : CS :=
  (sSeq (sIf (tOr' (tOf (c2 gtD (oVal (cN lenD (aCons (oVar 0) aNil))) (oVal (cC (.int (8)))))) (tTru (oVal (cN anyD (aCons (oVal (cComp [1] (gN 1) tYesC (c2 gtD (oVal (cN lenD (aCons (oVar 1) aNil))) (oVal (cC (.int (6))))) (iSeq (cVar 0)))) aNil)))))
  (sRaise "TooLarge")
  sNil)
  (sSeq (sIf (tOr' (tOf (c2 (eqD false) (oVal (cN lenD (aCons (oVar 0) aNil))) (oVal (cC (.int 0))))) (tOr' (tOf (c2 (eqD false) (oVal (cN lenD (aCons (oVal (c2 ixD (oVar 0) (oVal (cC (.int 0))))) aNil))) (oVal (cC (.int 0))))) (tTru (oVal (cN anyD (aCons (oVal (cComp [1] (gN 1) tYesC (c2 (eqD true) (oVal (cN lenD (aCons (oVar 1) aNil))) (oVal (cN lenD (aCons (oVal (c2 ixD (oVar 0) (oVal (cC (.int 0))))) aNil)))) (iSeq (cVar 0)))) aNil))))))
  (sRaise "NotAllowed")
  sNil)
  (sSeq (sIf (tNot' (tTru (oVal (cN allD (aCons (oVal (cComp2 [1, 2] (gN 1) tYesC [2] (gN 2) tYesC (c2 (inD false) (oVar 2) (oVal (cTup (aCons (oVal (cC (.int 0))) (aCons (oVal (cC (.int 1))) (aCons (oVal (cC .non)) aNil)))))) (iSeq (cVar 1)) (iSeq (cVar 0)))) aNil)))))
  (sRaise "NotAllowed")
  sNil)
  (sRet (cC .non)))))
def F_check_reports : FSem := fnD none 1 (List.length N_check_reports) S_check_reports
theorem fn_check_reports (Φ : Facts K mg) {fd : FuncData} (F : FunD K "check_reports" "check_reports" (defArgs s_check_reports) (defBody s_check_reports) (defScope s_check_reports) [] [] (He.ga K "check_reports") fd) : FnG P w K mg base 1 (He.ga K "check_reports") fd ["reports"] (spD K mg 1 none F_check_reports) := by
  refine fnG_of (k := 0) (N := N_check_reports) F sc_check_reports rfl ?_
  intro cdv A outer s H E p hio0 hB hgd hroom
  have R := rdy_of (P := P) (w := w) (K := K) (mg := mg) (base := base) (N := N_check_reports) (outer := outer) (E := E) (H := H) hgd hroom
  have U := R.u65
  exact (dss_cons (ds_if (dt_w (dw_or (tGt (db_val (kLen Φ.b_len (da_cons (bV 0) da_nil))) (db_val (eI Φ.i_MAX_FOLK))) (dw_or1 (dt_tru (db_val (kAny Φ.b_any (da_cons (db_val (de_comp (by kernel_rfl) nd_check_reports (di_seq (eV 0)) (blkOk_by (own := [("row", 1)]) (by kernel_rfl)) (by decide) (fun _ _ _ _ _ => (nV 1 nd_check_reports)) (fun _ _ _ _ _ => dts_nil) (fun _ _ _ _ _ => (xGt (db_val (kLen Φ.b_len (da_cons (bV 1) da_nil))) (db_val (eI Φ.i_MAX_FACTS)))))) da_nil)))))))
  (dss_one (ds_raise (by kernel_rfl) R Φ.e_TooLarge (gl (by kernel_rfl))))
  dss_nil)
  (dss_cons (ds_if (dt_w (dw_or (tEq U (db_val (kLen Φ.b_len (da_cons (bV 0) da_nil))) (db_val de_int)) (dw_or (tEq U (db_val (kLen Φ.b_len (da_cons (db_val (xIx U (bV 0) (db_val de_int))) da_nil))) (db_val de_int)) (dw_or1 (dt_tru (db_val (kAny Φ.b_any (da_cons (db_val (de_comp (by kernel_rfl) nd_check_reports (di_seq (eV 0)) (blkOk_by (own := [("row", 1)]) (by kernel_rfl)) (by decide) (fun _ _ _ _ _ => (nV 1 nd_check_reports)) (fun _ _ _ _ _ => dts_nil) (fun _ _ _ _ _ => (xNe (by exact U) (db_val (kLen Φ.b_len (da_cons (bV 1) da_nil))) (db_val (kLen Φ.b_len (da_cons (db_val (xIx (by exact U) (bV 0) (db_val de_int))) da_nil))))))) da_nil))))))))
  (dss_one (ds_raise (by kernel_rfl) R Φ.e_NotAllowed (gl (by kernel_rfl))))
  dss_nil)
  (dss_cons (ds_if (dt_not (dt_tru (db_val (kAll Φ.b_all (da_cons (db_val (de_comp2 (by kernel_rfl) nd_check_reports (di_seq (eV 0)) (blkOk_by (own := [("row", 1), ("one", 2)]) (by kernel_rfl)) (vs1 := [2]) (by decide) (by decide) (by decide) (fun _ _ _ _ _ => (nV 1 nd_check_reports)) (fun _ _ _ _ _ => dts_nil) (fun _ _ _ _ _ => (di_seq (eV 1))) (fun _ _ _ _ _ => (nV 2 nd_check_reports)) (fun _ _ _ _ _ => dts_nil) (fun _ _ _ _ _ => (xIn (by exact U) (bV 2) (db_val (de_tup (da_cons (db_val de_int) (da_cons (db_val de_int) (da_cons (db_val de_non) da_nil))))))))) da_nil)))))
  (dss_one (ds_raise (by kernel_rfl) R Φ.e_NotAllowed (gl (by kernel_rfl))))
  dss_nil)
  (dss_one (ds_ret de_non)))))
theorem c_check_reports (Φ : Facts K mg) : Ctr P w K mg base 1 "check_reports" none F_check_reports := by
  obtain ⟨fd, F, hm⟩ := Φ.d_check_reports
  exact ⟨_, fd, ["reports"], 1, fn_check_reports Φ F, hm, F.kp, F.bindsN (fun _ _ _ _ _ _ us hl => match us, hl with | [_], _ => rfl), fun ds h => if_neg h, fun j h => by cases h <;> decide⟩
def S_against : CS :=
  (sRet (cN sumD (aCons (oVal (cComp [2, 3] (gT (gsC (gN 2) (gsC (gN 3) gsN))) tYesC (cN intD (aCons (oVal (cAnd (c2 (isND true) (oVar 2) (oVal (cC .non))) (c2 (eqD true) (oVar 2) (oVar 3)))) aNil)) (iZip (cVar 0) (cVar 1)))) aNil)))
def F_against : FSem := fnD none 2 (List.length N_against) S_against
theorem fn_against (Φ : Facts K mg) {fd : FuncData} (F : FunD K "against" "against" (defArgs s_against) (defBody s_against) (defScope s_against) [] [] (He.ga K "against") fd) : FnG P w K mg base 1 (He.ga K "against") fd ["row", "facts"] (spD K mg 2 none F_against) := by
  refine fnG_of (k := 0) (N := N_against) F sc_against rfl ?_
  intro cdv A outer s H E p hio0 hB hgd hroom
  have R := rdy_of (P := P) (w := w) (K := K) (mg := mg) (base := base) (N := N_against) (outer := outer) (E := E) (H := H) hgd hroom
  have U := R.u65
  exact (dss_one (ds_ret (kSum Φ.b_sum (da_cons (db_val (de_comp (by kernel_rfl) nd_against (di_zip (gl (by kernel_rfl)) Φ.b_zip (eV 0) (eV 1)) (blkOk_by (own := [("one", 2), ("fact", 3)]) (by kernel_rfl)) (by decide) (fun _ _ _ _ _ => (dg_tup (by kernel_rfl) (dgs_cons (nV 2 nd_against) (dgs_cons (nV 3 nd_against) dgs_nil)) (fun _ _ _ h => gsC_len (fun _ _ _ h => gsC_len (fun _ _ _ h => gsN_len h) h) h))) (fun _ _ _ _ _ => dts_nil) (fun _ _ _ _ _ => (kInt Φ.b_int (da_cons (db_val (de_andv (xNotIs (bV 2) (db_val de_non)) (de_bone (xNe (by exact U) (bV 2) (bV 3))))) da_nil))))) da_nil))))
theorem c_against (Φ : Facts K mg) : Ctr P w K mg base 1 "against" none F_against := by
  obtain ⟨fd, F, hm⟩ := Φ.d_against
  exact ⟨_, fd, ["row", "facts"], 2, fn_against Φ F, hm, F.kp, F.bindsN (fun _ _ _ _ _ _ us hl => match us, hl with | [_, _], _ => rfl), fun ds h => if_neg h, fun j h => by cases h <;> decide⟩
def S_known_liars : CS :=
  (sRet (cN tupleD (aCons (oVal (cComp [2, 3] (gT (gsC (gN 2) (gsC (gN 3) gsN))) (tOf (c2 gtD (oVal (cCall none F_against (aCons (oVal (cVar 3)) (aCons (oVal (cVar 1)) aNil)))) (oVal (cC (.int 0))))) (cVar 2) (iV enumD (cVar 0)))) aNil)))
def F_known_liars : FSem := fnD none 2 (List.length N_known_liars) S_known_liars
theorem fn_known_liars (Φ : Facts K mg) {fd : FuncData} (F : FunD K "known_liars" "known_liars" (defArgs s_known_liars) (defBody s_known_liars) (defScope s_known_liars) [] [] (He.ga K "known_liars") fd) : FnG P w K mg base 2 (He.ga K "known_liars") fd ["reports", "facts"] (spD K mg 2 none F_known_liars) := by
  refine fnG_of (k := 1) (N := N_known_liars) F sc_known_liars rfl ?_
  intro cdv A outer s H E p hio0 hB hgd hroom
  have R := rdy_of (P := P) (w := w) (K := K) (mg := mg) (base := base) (N := N_known_liars) (outer := outer) (E := E) (H := H) hgd hroom
  have U := R.u65
  exact (dss_one (ds_ret (kTuple Φ.b_tuple (da_cons (db_val (de_comp (by kernel_rfl) nd_known_liars (di_enum (gl (by kernel_rfl)) Φ.b_enumerate (eV 0)) (blkOk_by (own := [("at", 2), ("row", 3)]) (by kernel_rfl)) (by decide) (fun _ _ _ _ _ => (dg_tup (by kernel_rfl) (dgs_cons (nV 2 nd_known_liars) (dgs_cons (nV 3 nd_known_liars) dgs_nil)) (fun _ _ _ h => gsC_len (fun _ _ _ h => gsC_len (fun _ _ _ h => gsN_len h) h) h))) (fun _ _ _ _ _ => (dts_one (tGt (db_val (de_call R.blk ((c_against Φ).mono (by decide)) (gl (by kernel_rfl)) (da_cons (db_val (eV 3)) (da_cons (db_val (eV 1)) da_nil)))) (db_val de_int)))) (fun _ _ _ _ _ => (eV 2)))) da_nil))))
theorem c_known_liars (Φ : Facts K mg) : Ctr P w K mg base 2 "known_liars" none F_known_liars := by
  obtain ⟨fd, F, hm⟩ := Φ.d_known_liars
  exact ⟨_, fd, ["reports", "facts"], 2, fn_known_liars Φ F, hm, F.kp, F.bindsN (fun _ _ _ _ _ _ us hl => match us, hl with | [_, _], _ => rfl), fun ds h => if_neg h, fun j h => by cases h <;> decide⟩
def S_all_facts : CS :=
  (sSeq (sAsg 1 (cLst (aCons (oVal (cTup aNil)) aNil)))
  (sSeq (sFor (gN 2) (iL rngD1 (aCons (oVar 0) aNil))
  (sAsg 1 (cComp2 [3, 4] (gN 3) tYesC [4] (gN 4) tYesC (cTup (aStar (oVar 3) (aCons (oVar 4) aNil))) (iSeq (cTup (aCons (oVal (cC (.int 0))) (aCons (oVal (cC (.int 1))) aNil)))) (iSeq (cVar 1)))))
  (sRetV 1)))
def F_all_facts : FSem := fnD none 1 (List.length N_all_facts) S_all_facts
theorem fn_all_facts (Φ : Facts K mg) {fd : FuncData} (F : FunD K "all_facts" "all_facts" (defArgs s_all_facts) (defBody s_all_facts) (defScope s_all_facts) [] [] (He.ga K "all_facts") fd) : FnG P w K mg base 1 (He.ga K "all_facts") fd ["many"] (spD K mg 1 none F_all_facts) := by
  refine fnG_of (k := 0) (N := N_all_facts) F sc_all_facts rfl ?_
  intro cdv A outer s H E p hio0 hB hgd hroom
  have R := rdy_of (P := P) (w := w) (K := K) (mg := mg) (base := base) (N := N_all_facts) (outer := outer) (E := E) (H := H) hgd hroom
  have U := R.u65
  have HP := passes_cx (P := P) (w := w) (K := K) (mg := mg) (base := base) (N := N_all_facts) (qual := "all_facts") (scope := defScope s_all_facts) (f := He.ga K "all_facts") (cd := cdv) (A := A) (outer := outer) (s := s) (H := H) (E := E)
  exact (dss_cons (ds_set nd_all_facts (by kernel_rfl) (loc_ok (by kernel_rfl)) (de_lst (da_cons (db_val (de_tup da_nil)) da_nil)))
  (dss_cons (ds_for HP (by kernel_rfl) (di_range1 (gl (by kernel_rfl)) Φ.b_range (da_cons (bV 0) da_nil)) (nV 2 nd_all_facts)
  (dss_one (ds_setC2 (by kernel_rfl) nd_all_facts (by kernel_rfl) (by kernel_rfl) (sw_true rfl (by kernel_rfl) (by kernel_rfl) (by kernel_rfl)) (di_seq (eV 1)) (blkOk_by (own := [("row", 3), ("one", 4)]) (by kernel_rfl)) (vs1 := [4]) (by decide) (by decide) (by decide) (fun _ _ _ _ _ => (nV 3 nd_all_facts)) (fun _ _ _ _ _ => dts_nil) (fun _ _ _ _ _ => (di_seq (de_tup (da_cons (db_val de_int) (da_cons (db_val de_int) da_nil))))) (fun _ _ _ _ _ => (nV 4 nd_all_facts)) (fun _ _ _ _ _ => dts_nil) (fun _ _ _ _ _ => (de_tup (da_star (bV 3) (da_cons (bV 4) da_nil)))))))
  (dss_one (ds_retV (gV 1)))))
theorem c_all_facts (Φ : Facts K mg) : Ctr P w K mg base 1 "all_facts" none F_all_facts := by
  obtain ⟨fd, F, hm⟩ := Φ.d_all_facts
  exact ⟨_, fd, ["many"], 1, fn_all_facts Φ F, hm, F.kp, F.bindsN (fun _ _ _ _ _ _ us hl => match us, hl with | [_], _ => rfl), fun ds h => if_neg h, fun j h => by cases h <;> decide⟩
def S_fewest_free : CS :=
  (sSeq (sExp (cCall none F_check_reports (aCons (oVal (cVar 0)) aNil)))
  (sRet (cN minX (aCons (oVal (cComp [1] (gN 1) tYesC (cN lenD (aCons (oVal (cCall none F_known_liars (aCons (oVal (cVar 0)) (aCons (oVal (cVar 1)) aNil)))) aNil)) (iSeq (cCall none F_all_facts (aCons (oVal (cN lenD (aCons (oVal (c2 ixD (oVar 0) (oVal (cC (.int 0))))) aNil))) aNil))))) aNil))))
def F_fewest_free : FSem := fnD none 1 (List.length N_fewest_free) S_fewest_free
theorem fn_fewest_free (Φ : Facts K mg) {fd : FuncData} (F : FunD K "fewest_free" "fewest_free" (defArgs s_fewest_free) (defBody s_fewest_free) (defScope s_fewest_free) [] [] (He.ga K "fewest_free") fd) : FnG P w K mg base 3 (He.ga K "fewest_free") fd ["reports"] (spD K mg 1 none F_fewest_free) := by
  refine fnG_of (k := 2) (N := N_fewest_free) F sc_fewest_free rfl ?_
  intro cdv A outer s H E p hio0 hB hgd hroom
  have R := rdy_of (P := P) (w := w) (K := K) (mg := mg) (base := base) (N := N_fewest_free) (outer := outer) (E := E) (H := H) hgd hroom
  have U := R.u65
  exact (dss_cons (ds_expr (de_call R ((c_check_reports Φ).mono (by decide)) (gl (by kernel_rfl)) (da_cons (db_val (eV 0)) da_nil)))
  (dss_one (ds_ret (kMinA U Φ.b_min (da_cons (db_val (de_comp (by kernel_rfl) nd_fewest_free (di_seq (de_call R ((c_all_facts Φ).mono (by decide)) (gl (by kernel_rfl)) (da_cons (db_val (kLen Φ.b_len (da_cons (db_val (xIx U (bV 0) (db_val de_int))) da_nil))) da_nil))) (blkOk_by (own := [("facts", 1)]) (by kernel_rfl)) (by decide) (fun _ _ _ _ _ => (nV 1 nd_fewest_free)) (fun _ _ _ _ _ => dts_nil) (fun _ _ _ _ _ => (kLen Φ.b_len (da_cons (db_val (de_call R.blk ((c_known_liars Φ).mono (by decide)) (gl (by kernel_rfl)) (da_cons (db_val (eV 0)) (da_cons (db_val (eV 1)) da_nil)))) da_nil))))) da_nil)))))
theorem c_fewest_free (Φ : Facts K mg) : Ctr P w K mg base 3 "fewest_free" none F_fewest_free := by
  obtain ⟨fd, F, hm⟩ := Φ.d_fewest_free
  exact ⟨_, fd, ["reports"], 1, fn_fewest_free Φ F, hm, F.kp, F.bindsN (fun _ _ _ _ _ _ us hl => match us, hl with | [_], _ => rfl), fun ds h => if_neg h, fun j h => by cases h <;> decide⟩
def S_agree : CS :=
  (sRet (cN allD (aCons (oVal (cComp [2, 3] (gT (gsC (gN 2) (gsC (gN 3) gsN))) tYesC (cOr (c2 (isND false) (oVar 2) (oVal (cC .non))) (cOr (c2 (isND false) (oVar 3) (oVal (cC .non))) (c2 (eqD false) (oVar 2) (oVar 3)))) (iZip (cVar 0) (cVar 1)))) aNil)))
def F_agree : FSem := fnD none 2 (List.length N_agree) S_agree
theorem fn_agree (Φ : Facts K mg) {fd : FuncData} (F : FunD K "agree" "agree" (defArgs s_agree) (defBody s_agree) (defScope s_agree) [] [] (He.ga K "agree") fd) : FnG P w K mg base 1 (He.ga K "agree") fd ["row", "other"] (spD K mg 2 none F_agree) := by
  refine fnG_of (k := 0) (N := N_agree) F sc_agree rfl ?_
  intro cdv A outer s H E p hio0 hB hgd hroom
  have R := rdy_of (P := P) (w := w) (K := K) (mg := mg) (base := base) (N := N_agree) (outer := outer) (E := E) (H := H) hgd hroom
  have U := R.u65
  exact (dss_one (ds_ret (kAll Φ.b_all (da_cons (db_val (de_comp (by kernel_rfl) nd_agree (di_zip (gl (by kernel_rfl)) Φ.b_zip (eV 0) (eV 1)) (blkOk_by (own := [("one", 2), ("two", 3)]) (by kernel_rfl)) (by decide) (fun _ _ _ _ _ => (dg_tup (by kernel_rfl) (dgs_cons (nV 2 nd_agree) (dgs_cons (nV 3 nd_agree) dgs_nil)) (fun _ _ _ h => gsC_len (fun _ _ _ h => gsC_len (fun _ _ _ h => gsN_len h) h) h))) (fun _ _ _ _ _ => dts_nil) (fun _ _ _ _ _ => (de_orv (xIs (bV 2) (db_val de_non)) (de_orv (xIs (bV 3) (db_val de_non)) (de_bone (xEq (by exact U) (bV 2) (bV 3)))))))) da_nil))))
theorem c_agree (Φ : Facts K mg) : Ctr P w K mg base 1 "agree" none F_agree := by
  obtain ⟨fd, F, hm⟩ := Φ.d_agree
  exact ⟨_, fd, ["row", "other"], 2, fn_agree Φ F, hm, F.kp, F.bindsN (fun _ _ _ _ _ _ us hl => match us, hl with | [_, _], _ => rfl), fun ds h => if_neg h, fun j h => by cases h <;> decide⟩
def S_clashes : CS :=
  (sSeq (sExp (cCall none F_check_reports (aCons (oVal (cVar 0)) aNil)))
  (sSeq (sAsg 1 (cComp2 [2, 3] (gN 2) tYesC [3] (gN 3) tYesC (cTup (aCons (oVar 2) (aCons (oVar 3) aNil))) (iL rngD2 (aCons (oVal (c2 addD (oVar 2) (oVal (cC (.int 1))))) (aCons (oVal (cN lenD (aCons (oVar 0) aNil))) aNil))) (iL rngD1 (aCons (oVal (cN lenD (aCons (oVar 0) aNil))) aNil))))
  (sRet (cN tupleD (aCons (oVal (cComp [2, 3] (gT (gsC (gN 2) (gsC (gN 3) gsN))) (tNot' (tTru (oVal (cCall none F_agree (aCons (oVal (c2 ixD (oVar 0) (oVar 2))) (aCons (oVal (c2 ixD (oVar 0) (oVar 3))) aNil)))))) (cTup (aCons (oVar 2) (aCons (oVar 3) aNil))) (iSeq (cVar 1)))) aNil)))))
def F_clashes : FSem := fnD none 1 (List.length N_clashes) S_clashes
theorem fn_clashes (Φ : Facts K mg) {fd : FuncData} (F : FunD K "clashes" "clashes" (defArgs s_clashes) (defBody s_clashes) (defScope s_clashes) [] [] (He.ga K "clashes") fd) : FnG P w K mg base 2 (He.ga K "clashes") fd ["reports"] (spD K mg 1 none F_clashes) := by
  refine fnG_of (k := 1) (N := N_clashes) F sc_clashes rfl ?_
  intro cdv A outer s H E p hio0 hB hgd hroom
  have R := rdy_of (P := P) (w := w) (K := K) (mg := mg) (base := base) (N := N_clashes) (outer := outer) (E := E) (H := H) hgd hroom
  have U := R.u65
  exact (dss_cons (ds_expr (de_call R ((c_check_reports Φ).mono (by decide)) (gl (by kernel_rfl)) (da_cons (db_val (eV 0)) da_nil)))
  (dss_cons (ds_setC2 (by kernel_rfl) nd_clashes (by kernel_rfl) (by kernel_rfl) (sw_true rfl (by kernel_rfl) (by kernel_rfl) (by kernel_rfl)) (di_range1 (gl (by kernel_rfl)) Φ.b_range (da_cons (db_val (kLen Φ.b_len (da_cons (bV 0) da_nil))) da_nil)) (blkOk_by (own := [("one", 2), ("two", 3)]) (by kernel_rfl)) (vs1 := [3]) (by decide) (by decide) (by decide) (fun _ _ _ _ _ => (nV 2 nd_clashes)) (fun _ _ _ _ _ => dts_nil) (fun _ _ _ _ _ => (di_range2 (gl (by kernel_rfl)) Φ.b_range (da_cons (db_val (xAdd (bV 2) (db_val de_int))) (da_cons (db_val (kLen Φ.b_len (da_cons (bV 0) da_nil))) da_nil)))) (fun _ _ _ _ _ => (nV 3 nd_clashes)) (fun _ _ _ _ _ => dts_nil) (fun _ _ _ _ _ => (de_tup (da_cons (bV 2) (da_cons (bV 3) da_nil)))))
  (dss_one (ds_ret (kTuple Φ.b_tuple (da_cons (db_val (de_comp (by kernel_rfl) nd_clashes (di_seq (eV 1)) (blkOk_by (own := [("one", 2), ("two", 3)]) (by kernel_rfl)) (by decide) (fun _ _ _ _ _ => (dg_tup (by kernel_rfl) (dgs_cons (nV 2 nd_clashes) (dgs_cons (nV 3 nd_clashes) dgs_nil)) (fun _ _ _ h => gsC_len (fun _ _ _ h => gsC_len (fun _ _ _ h => gsN_len h) h) h))) (fun _ _ _ _ _ => (dts_one (dt_not (dt_tru (db_val (de_call R.blk ((c_agree Φ).mono (by decide)) (gl (by kernel_rfl)) (da_cons (db_val (xIx (by exact U) (bV 0) (bV 2))) (da_cons (db_val (xIx (by exact U) (bV 0) (bV 3))) da_nil)))))))) (fun _ _ _ _ _ => (de_tup (da_cons (bV 2) (da_cons (bV 3) da_nil)))))) da_nil))))))
theorem c_clashes (Φ : Facts K mg) : Ctr P w K mg base 2 "clashes" none F_clashes := by
  obtain ⟨fd, F, hm⟩ := Φ.d_clashes
  exact ⟨_, fd, ["reports"], 1, fn_clashes Φ F, hm, F.kp, F.bindsN (fun _ _ _ _ _ _ us hl => match us, hl with | [_], _ => rfl), fun ds h => if_neg h, fun j h => by cases h <;> decide⟩
def S_apart : CS :=
  (sSeq (sAsg 1 (cCall none F_clashes (aCons (oVal (cVar 0)) aNil)))
  (sSeq (sAsg 2 (cLst (aCons (oVal (cTup aNil)) aNil)))
  (sSeq (sAsg 3 (cTup aNil))
  (sSeq (sWhile 1000 (tOf (c2 gtD (oVal (cN lenD (aCons (oVar 2) aNil))) (oVal (cC (.int 0)))))
  (sSeq (sAsg 3 (cN minX (aCons (oVar 2) aNil)))
  (sSeq (sAsg 4 (cLst aNil))
  (sSeq (sFor (gN 5) (iSeq (cVar 2))
  (sSeq (sAsg 6 (cComp2 [9, 10] (gN 9) tYesC [10] (gN 10) tYesC (cVar 10) (iSeq (cVar 9)) (iSeq (cVar 5))))
  (sSeq (sAsg 7 (cIf (tOf (c2 gtD (oVal (cN lenD (aCons (oVar 5) aNil))) (oVal (cC (.int 0))))) (c2 ixD (oVar 5) (oVal (c1 negD (oVal (cC (.int 1)))))) (cTup (aCons (oVal (c1 negD (oVal (cC (.int 1))))) (aCons (oVal (c1 negD (oVal (cC (.int 1))))) aNil)))))
  (sSeq (sAsg 8 (cComp [9] (gN 9) (tAnd' (tOf (c2 gtA (oVar 9) (oVar 7))) (tAnd' (tOf (c2 (inD true) (oVal (c2 ixD (oVar 9) (oVal (cC (.int 0))))) (oVar 6))) (tOf (c2 (inD true) (oVal (c2 ixD (oVar 9) (oVal (cC (.int 1))))) (oVar 6))))) (cVar 9) (iSeq (cVar 1))))
  (sExp (cM1 "list" 4 extendD (cComp [9] (gN 9) tYesC (cTup (aStar (oVar 5) (aCons (oVar 9) aNil))) (iSeq (cVar 8)))))))))
  (sAsg 2 (cVar 4))))))
  (sRetV 3)))))
def F_apart : FSem := fnD none 1 (List.length N_apart) S_apart
theorem fn_apart (Φ : Facts K mg) {fd : FuncData} (F : FunD K "apart" "apart" (defArgs s_apart) (defBody s_apart) (defScope s_apart) [] [] (He.ga K "apart") fd) : FnG P w K mg base 3 (He.ga K "apart") fd ["reports"] (spD K mg 1 none F_apart) := by
  refine fnG_of (k := 2) (N := N_apart) F sc_apart rfl ?_
  intro cdv A outer s H E p hio0 hB hgd hroom
  have R := rdy_of (P := P) (w := w) (K := K) (mg := mg) (base := base) (N := N_apart) (outer := outer) (E := E) (H := H) hgd hroom
  have U := R.u65
  have HP := passes_cx (P := P) (w := w) (K := K) (mg := mg) (base := base) (N := N_apart) (qual := "apart") (scope := defScope s_apart) (f := He.ga K "apart") (cd := cdv) (A := A) (outer := outer) (s := s) (H := H) (E := E)
  exact (dss_cons (ds_set nd_apart (by kernel_rfl) (loc_ok (by kernel_rfl)) (de_call R ((c_clashes Φ).mono (by decide)) (gl (by kernel_rfl)) (da_cons (db_val (eV 0)) da_nil)))
  (dss_cons (ds_set nd_apart (by kernel_rfl) (loc_ok (by kernel_rfl)) (de_lst (da_cons (db_val (de_tup da_nil)) da_nil)))
  (dss_cons (ds_set nd_apart (by kernel_rfl) (loc_ok (by kernel_rfl)) (de_tup da_nil))
  (dss_cons (ds_while 1000 HP (tGt (db_val (kLen Φ.b_len (da_cons (bV 2) da_nil))) (db_val de_int))
  (dss_cons (ds_set nd_apart (by kernel_rfl) (loc_ok (by kernel_rfl)) (kMinA U Φ.b_min (da_cons (bV 2) da_nil)))
  (dss_cons (ds_set nd_apart (by kernel_rfl) (loc_ok (by kernel_rfl)) (de_lst da_nil))
  (dss_cons (ds_for HP (by kernel_rfl) (di_seq (eV 2)) (nV 5 nd_apart)
  (dss_cons (ds_set nd_apart (by kernel_rfl) (loc_ok (by kernel_rfl)) (de_comp2 (by kernel_rfl) nd_apart (di_seq (eV 5)) (blkOk_by (own := [("pair", 9), ("one", 10)]) (by kernel_rfl)) (vs1 := [10]) (by decide) (by decide) (by decide) (fun _ _ _ _ _ => (nV 9 nd_apart)) (fun _ _ _ _ _ => dts_nil) (fun _ _ _ _ _ => (di_seq (eV 9))) (fun _ _ _ _ _ => (nV 10 nd_apart)) (fun _ _ _ _ _ => dts_nil) (fun _ _ _ _ _ => (eV 10))))
  (dss_cons (ds_set nd_apart (by kernel_rfl) (loc_ok (by kernel_rfl)) (de_if (tGt (db_val (kLen Φ.b_len (da_cons (bV 5) da_nil))) (db_val de_int)) (xIx U (bV 5) (db_val (xNeg (db_val de_int)))) (de_tup (da_cons (db_val (xNeg (db_val de_int))) (da_cons (db_val (xNeg (db_val de_int))) da_nil)))))
  (dss_cons (ds_setC (by kernel_rfl) nd_apart (by kernel_rfl) (by kernel_rfl) (sw_true rfl (by kernel_rfl) (by kernel_rfl) (by kernel_rfl)) (di_seq (eV 1)) (blkOk_by (own := [("pair", 9)]) (by kernel_rfl)) (by decide) (fun _ _ _ _ _ => (nV 9 nd_apart)) (fun _ _ _ _ _ => (dts_one (dt_w (dw_and (tGtA (by exact U) (bV 9) (bV 7)) (dw_and (tNotIn (by exact U) (db_val (xIx (by exact U) (bV 9) (db_val de_int))) (bV 6)) (dw_and1 (tNotIn (by exact U) (db_val (xIx (by exact U) (bV 9) (db_val de_int))) (bV 6)))))))) (fun _ _ _ _ _ => (eV 9)))
  (dss_one (ds_expr (de_m1 vm_extend (by kernel_rfl) (vis_ok (by kernel_rfl)) PySem.F.plainAttrs_list PySem.F.slot_list_extend PySem.F.type_list_extend mt_extend (de_comp (by kernel_rfl) nd_apart (di_seq (eV 8)) (blkOk_by (own := [("pair", 9)]) (by kernel_rfl)) (by decide) (fun _ _ _ _ _ => (nV 9 nd_apart)) (fun _ _ _ _ _ => dts_nil) (fun _ _ _ _ _ => (de_tup (da_star (bV 5) (da_cons (bV 9) da_nil))))))))))))
  (dss_one (ds_set nd_apart (by kernel_rfl) (loc_ok (by kernel_rfl)) (eV 4)))))))
  (dss_one (ds_retV (gV 3)))))))
theorem c_apart (Φ : Facts K mg) : Ctr P w K mg base 3 "apart" none F_apart := by
  obtain ⟨fd, F, hm⟩ := Φ.d_apart
  exact ⟨_, fd, ["reports"], 1, fn_apart Φ F, hm, F.kp, F.bindsN (fun _ _ _ _ _ _ us hl => match us, hl with | [_], _ => rfl), fun ds h => if_neg h, fun j h => by cases h <;> decide⟩
def S_majority : CS :=
  (sSeq (sExp (cCall none F_check_reports (aCons (oVal (cVar 0)) aNil)))
  (sSeq (sAsg 1 (cLst aNil))
  (sSeq (sFor (gN 2) (iL rngD1 (aCons (oVal (cN lenD (aCons (oVal (c2 ixD (oVar 0) (oVal (cC (.int 0))))) aNil))) aNil))
  (sSeq (sAsg 3 (cComp [6] (gN 6) tYesC (c2 ixD (oVar 6) (oVar 2)) (iSeq (cVar 0))))
  (sSeq (sPar 4 5 (mCons (cRM 3 countD (oVal (cC (.int 1)))) (mCons (cRM 3 countD (oVal (cC (.int 0)))) mNil)))
  (sExp (cM1 "list" 1 appendD (cIf (tOf (c2 (eqD false) (oVar 4) (oVar 5))) (cC .non) (cN intD (aCons (oVal (c2 gtA (oVar 4) (oVar 5))) aNil))))))))
  (sRet (cN tupleD (aCons (oVar 1) aNil))))))
def F_majority : FSem := fnD none 1 (List.length N_majority) S_majority
theorem fn_majority (Φ : Facts K mg) {fd : FuncData} (F : FunD K "majority" "majority" (defArgs s_majority) (defBody s_majority) (defScope s_majority) [] [] (He.ga K "majority") fd) : FnG P w K mg base 2 (He.ga K "majority") fd ["reports"] (spD K mg 1 none F_majority) := by
  refine fnG_of (k := 1) (N := N_majority) F sc_majority rfl ?_
  intro cdv A outer s H E p hio0 hB hgd hroom
  have R := rdy_of (P := P) (w := w) (K := K) (mg := mg) (base := base) (N := N_majority) (outer := outer) (E := E) (H := H) hgd hroom
  have U := R.u65
  have HP := passes_cx (P := P) (w := w) (K := K) (mg := mg) (base := base) (N := N_majority) (qual := "majority") (scope := defScope s_majority) (f := He.ga K "majority") (cd := cdv) (A := A) (outer := outer) (s := s) (H := H) (E := E)
  exact (dss_cons (ds_expr (de_call R ((c_check_reports Φ).mono (by decide)) (gl (by kernel_rfl)) (da_cons (db_val (eV 0)) da_nil)))
  (dss_cons (ds_set nd_majority (by kernel_rfl) (loc_ok (by kernel_rfl)) (de_lst da_nil))
  (dss_cons (ds_for HP (by kernel_rfl) (di_range1 (gl (by kernel_rfl)) Φ.b_range (da_cons (db_val (kLen Φ.b_len (da_cons (db_val (xIx U (bV 0) (db_val de_int))) da_nil))) da_nil)) (nV 2 nd_majority)
  (dss_cons (ds_setC (by kernel_rfl) nd_majority (by kernel_rfl) (by kernel_rfl) (sw_true rfl (by kernel_rfl) (by kernel_rfl) (by kernel_rfl)) (di_seq (eV 0)) (blkOk_by (own := [("row", 6)]) (by kernel_rfl)) (by decide) (fun _ _ _ _ _ => (nV 6 nd_majority)) (fun _ _ _ _ _ => dts_nil) (fun _ _ _ _ _ => (xIx (by exact U) (bV 6) (bV 2))))
  (dss_cons (ds_par (by kernel_rfl) nd_majority (by kernel_rfl) (by kernel_rfl) (by decide) (by kernel_rfl) (by kernel_rfl) (dm_cons (de_count U (gV 3) (db_val de_int)) (dm_cons (de_count U (gV 3) (db_val de_int)) dm_nil)) (by rfl) (by rfl))
  (dss_one (ds_expr (de_m1 vm_append (by kernel_rfl) (vis_ok (by kernel_rfl)) PySem.F.plainAttrs_list PySem.F.slot_list_append PySem.F.type_list_append mt_append (de_if (tEq U (bV 4) (bV 5)) de_non (kInt Φ.b_int (da_cons (db_val (xGtA U (bV 4) (bV 5))) da_nil)))))))))
  (dss_one (ds_ret (kTuple Φ.b_tuple (da_cons (bV 1) da_nil)))))))
theorem c_majority (Φ : Facts K mg) : Ctr P w K mg base 2 "majority" none F_majority := by
  obtain ⟨fd, F, hm⟩ := Φ.d_majority
  exact ⟨_, fd, ["reports"], 1, fn_majority Φ F, hm, F.kp, F.bindsN (fun _ _ _ _ _ _ us hl => match us, hl with | [_], _ => rfl), fun ds h => if_neg h, fun j h => by cases h <;> decide⟩
def S_check_free : CS :=
  (sSeq (sIf (tOf (c2 ltD (oVar 0) (oVal (cC (.int 0)))))
  (sRaise "NotAllowed")
  sNil)
  (sRet (cC .non)))
def F_check_free : FSem := fnD none 1 (List.length N_check_free) S_check_free
theorem fn_check_free (Φ : Facts K mg) {fd : FuncData} (F : FunD K "check_free" "check_free" (defArgs s_check_free) (defBody s_check_free) (defScope s_check_free) [] [] (He.ga K "check_free") fd) : FnG P w K mg base 1 (He.ga K "check_free") fd ["most"] (spD K mg 1 none F_check_free) := by
  refine fnG_of (k := 0) (N := N_check_free) F sc_check_free rfl ?_
  intro cdv A outer s H E p hio0 hB hgd hroom
  have R := rdy_of (P := P) (w := w) (K := K) (mg := mg) (base := base) (N := N_check_free) (outer := outer) (E := E) (H := H) hgd hroom
  have U := R.u65
  exact (dss_cons (ds_if (tLt (bV 0) (db_val de_int))
  (dss_one (ds_raise (by kernel_rfl) R Φ.e_NotAllowed (gl (by kernel_rfl))))
  dss_nil)
  (dss_one (ds_ret de_non)))
theorem c_check_free (Φ : Facts K mg) : Ctr P w K mg base 1 "check_free" none F_check_free := by
  obtain ⟨fd, F, hm⟩ := Φ.d_check_free
  exact ⟨_, fd, ["most"], 1, fn_check_free Φ F, hm, F.kp, F.bindsN (fun _ _ _ _ _ _ us hl => match us, hl with | [_], _ => rfl), fun ds h => if_neg h, fun j h => by cases h <;> decide⟩
def S_facts_left : CS :=
  (sSeq (sExp (cCall none F_check_reports (aCons (oVal (cVar 0)) aNil)))
  (sSeq (sExp (cCall none F_check_free (aCons (oVal (cVar 1)) aNil)))
  (sRet (cComp [2] (gN 2) (tOf (c2 leD (oVal (cN lenD (aCons (oVal (cCall none F_known_liars (aCons (oVal (cVar 0)) (aCons (oVal (cVar 2)) aNil)))) aNil))) (oVar 1))) (cVar 2) (iSeq (cCall none F_all_facts (aCons (oVal (cN lenD (aCons (oVal (c2 ixD (oVar 0) (oVal (cC (.int 0))))) aNil))) aNil)))))))
def F_facts_left : FSem := fnD none 2 (List.length N_facts_left) S_facts_left
theorem fn_facts_left (Φ : Facts K mg) {fd : FuncData} (F : FunD K "facts_left" "facts_left" (defArgs s_facts_left) (defBody s_facts_left) (defScope s_facts_left) [] [] (He.ga K "facts_left") fd) : FnG P w K mg base 3 (He.ga K "facts_left") fd ["reports", "most"] (spD K mg 2 none F_facts_left) := by
  refine fnG_of (k := 2) (N := N_facts_left) F sc_facts_left rfl ?_
  intro cdv A outer s H E p hio0 hB hgd hroom
  have R := rdy_of (P := P) (w := w) (K := K) (mg := mg) (base := base) (N := N_facts_left) (outer := outer) (E := E) (H := H) hgd hroom
  have U := R.u65
  exact (dss_cons (ds_expr (de_call R ((c_check_reports Φ).mono (by decide)) (gl (by kernel_rfl)) (da_cons (db_val (eV 0)) da_nil)))
  (dss_cons (ds_expr (de_call R ((c_check_free Φ).mono (by decide)) (gl (by kernel_rfl)) (da_cons (db_val (eV 1)) da_nil)))
  (dss_one (ds_ret (de_comp (by kernel_rfl) nd_facts_left (di_seq (de_call R ((c_all_facts Φ).mono (by decide)) (gl (by kernel_rfl)) (da_cons (db_val (kLen Φ.b_len (da_cons (db_val (xIx U (bV 0) (db_val de_int))) da_nil))) da_nil))) (blkOk_by (own := [("facts", 2)]) (by kernel_rfl)) (by decide) (fun _ _ _ _ _ => (nV 2 nd_facts_left)) (fun _ _ _ _ _ => (dts_one (tLe (db_val (kLen Φ.b_len (da_cons (db_val (de_call R.blk ((c_known_liars Φ).mono (by decide)) (gl (by kernel_rfl)) (da_cons (db_val (eV 0)) (da_cons (db_val (eV 2)) da_nil)))) da_nil))) (bV 1)))) (fun _ _ _ _ _ => (eV 2)))))))
theorem c_facts_left (Φ : Facts K mg) : Ctr P w K mg base 3 "facts_left" none F_facts_left := by
  obtain ⟨fd, F, hm⟩ := Φ.d_facts_left
  exact ⟨_, fd, ["reports", "most"], 2, fn_facts_left Φ F, hm, F.kp, F.bindsN (fun _ _ _ _ _ _ us hl => match us, hl with | [_, _], _ => rfl), fun ds h => if_neg h, fun j h => by cases h <;> decide⟩
def S_sure_facts : CS :=
  (sSeq (sAsg 2 (cCall none F_facts_left (aCons (oVal (cVar 0)) (aCons (oVal (cVar 1)) aNil))))
  (sSeq (sIf (tOf (c2 (eqD false) (oVal (cN lenD (aCons (oVar 2) aNil))) (oVal (cC (.int 0)))))
  (sRaise "Missing")
  sNil)
  (sRet (cN tupleD (aCons (oVal (cComp [3] (gN 3) tYesC (cIf (tTru (oVal (cN allD (aCons (oVal (cComp [4] (gN 4) tYesC (c2 (eqD false) (oVal (c2 ixD (oVar 4) (oVar 3))) (oVal (c2 ixD (oVal (c2 ixD (oVar 2) (oVal (cC (.int 0))))) (oVar 3)))) (iSeq (cVar 2)))) aNil)))) (c2 ixD (oVal (c2 ixD (oVar 2) (oVal (cC (.int 0))))) (oVar 3)) (cC .non)) (iL rngD1 (aCons (oVal (cN lenD (aCons (oVal (c2 ixD (oVar 0) (oVal (cC (.int 0))))) aNil))) aNil)))) aNil)))))
def F_sure_facts : FSem := fnD none 2 (List.length N_sure_facts) S_sure_facts
theorem fn_sure_facts (Φ : Facts K mg) {fd : FuncData} (F : FunD K "sure_facts" "sure_facts" (defArgs s_sure_facts) (defBody s_sure_facts) (defScope s_sure_facts) [] [] (He.ga K "sure_facts") fd) : FnG P w K mg base 4 (He.ga K "sure_facts") fd ["reports", "most"] (spD K mg 2 none F_sure_facts) := by
  refine fnG_of (k := 3) (N := N_sure_facts) F sc_sure_facts rfl ?_
  intro cdv A outer s H E p hio0 hB hgd hroom
  have R := rdy_of (P := P) (w := w) (K := K) (mg := mg) (base := base) (N := N_sure_facts) (outer := outer) (E := E) (H := H) hgd hroom
  have U := R.u65
  exact (dss_cons (ds_set nd_sure_facts (by kernel_rfl) (loc_ok (by kernel_rfl)) (de_call R ((c_facts_left Φ).mono (by decide)) (gl (by kernel_rfl)) (da_cons (db_val (eV 0)) (da_cons (db_val (eV 1)) da_nil))))
  (dss_cons (ds_if (tEq U (db_val (kLen Φ.b_len (da_cons (bV 2) da_nil))) (db_val de_int))
  (dss_one (ds_raise (by kernel_rfl) R Φ.e_Missing (gl (by kernel_rfl))))
  dss_nil)
  (dss_one (ds_ret (kTuple Φ.b_tuple (da_cons (db_val (de_comp (by kernel_rfl) nd_sure_facts (di_range1 (gl (by kernel_rfl)) Φ.b_range (da_cons (db_val (kLen Φ.b_len (da_cons (db_val (xIx U (bV 0) (db_val de_int))) da_nil))) da_nil)) (blkOk_by (own := [("at", 3)]) (by kernel_rfl)) (by decide) (fun _ _ _ _ _ => (nV 3 nd_sure_facts)) (fun _ _ _ _ _ => dts_nil) (fun _ _ _ _ _ => (de_if (dt_tru (db_val (kAll Φ.b_all (da_cons (db_val (de_comp (by kernel_rfl) nd_sure_facts (di_seq (eV 2)) (blkOk_by (own := [("facts", 4)]) (by kernel_rfl)) (by decide) (fun _ _ _ _ _ => (nV 4 nd_sure_facts)) (fun _ _ _ _ _ => dts_nil) (fun _ _ _ _ _ => (xEq (by exact U) (db_val (xIx (by exact U) (bV 4) (bV 3))) (db_val (xIx (by exact U) (db_val (xIx (by exact U) (bV 2) (db_val de_int))) (bV 3))))))) da_nil)))) (xIx (by exact U) (db_val (xIx (by exact U) (bV 2) (db_val de_int))) (bV 3)) de_non)))) da_nil))))))
theorem c_sure_facts (Φ : Facts K mg) : Ctr P w K mg base 4 "sure_facts" none F_sure_facts := by
  obtain ⟨fd, F, hm⟩ := Φ.d_sure_facts
  exact ⟨_, fd, ["reports", "most"], 2, fn_sure_facts Φ F, hm, F.kp, F.bindsN (fun _ _ _ _ _ _ us hl => match us, hl with | [_, _], _ => rfl), fun ds h => if_neg h, fun j h => by cases h <;> decide⟩
def S_surely_free : CS :=
  (sSeq (sAsg 2 (cCall none F_facts_left (aCons (oVal (cVar 0)) (aCons (oVal (cVar 1)) aNil))))
  (sSeq (sIf (tOf (c2 (eqD false) (oVal (cN lenD (aCons (oVar 2) aNil))) (oVal (cC (.int 0)))))
  (sRaise "Missing")
  sNil)
  (sSeq (sAsg 3 (cComp [4] (gN 4) tYesC (cCall none F_known_liars (aCons (oVal (cVar 0)) (aCons (oVal (cVar 4)) aNil))) (iSeq (cVar 2))))
  (sRet (cN tupleD (aCons (oVal (cComp [5] (gN 5) (tTru (oVal (cN allD (aCons (oVal (cComp [6] (gN 6) tYesC (c2 (inD false) (oVar 5) (oVar 6)) (iSeq (cVar 3)))) aNil)))) (cVar 5) (iL rngD1 (aCons (oVal (cN lenD (aCons (oVar 0) aNil))) aNil)))) aNil))))))
def F_surely_free : FSem := fnD none 2 (List.length N_surely_free) S_surely_free
theorem fn_surely_free (Φ : Facts K mg) {fd : FuncData} (F : FunD K "surely_free" "surely_free" (defArgs s_surely_free) (defBody s_surely_free) (defScope s_surely_free) [] [] (He.ga K "surely_free") fd) : FnG P w K mg base 4 (He.ga K "surely_free") fd ["reports", "most"] (spD K mg 2 none F_surely_free) := by
  refine fnG_of (k := 3) (N := N_surely_free) F sc_surely_free rfl ?_
  intro cdv A outer s H E p hio0 hB hgd hroom
  have R := rdy_of (P := P) (w := w) (K := K) (mg := mg) (base := base) (N := N_surely_free) (outer := outer) (E := E) (H := H) hgd hroom
  have U := R.u65
  exact (dss_cons (ds_set nd_surely_free (by kernel_rfl) (loc_ok (by kernel_rfl)) (de_call R ((c_facts_left Φ).mono (by decide)) (gl (by kernel_rfl)) (da_cons (db_val (eV 0)) (da_cons (db_val (eV 1)) da_nil))))
  (dss_cons (ds_if (tEq U (db_val (kLen Φ.b_len (da_cons (bV 2) da_nil))) (db_val de_int))
  (dss_one (ds_raise (by kernel_rfl) R Φ.e_Missing (gl (by kernel_rfl))))
  dss_nil)
  (dss_cons (ds_set nd_surely_free (by kernel_rfl) (loc_ok (by kernel_rfl)) (de_comp (by kernel_rfl) nd_surely_free (di_seq (eV 2)) (blkOk_by (own := [("facts", 4)]) (by kernel_rfl)) (by decide) (fun _ _ _ _ _ => (nV 4 nd_surely_free)) (fun _ _ _ _ _ => dts_nil) (fun _ _ _ _ _ => (de_call R.blk ((c_known_liars Φ).mono (by decide)) (gl (by kernel_rfl)) (da_cons (db_val (eV 0)) (da_cons (db_val (eV 4)) da_nil))))))
  (dss_one (ds_ret (kTuple Φ.b_tuple (da_cons (db_val (de_comp (by kernel_rfl) nd_surely_free (di_range1 (gl (by kernel_rfl)) Φ.b_range (da_cons (db_val (kLen Φ.b_len (da_cons (bV 0) da_nil))) da_nil)) (blkOk_by (own := [("at", 5)]) (by kernel_rfl)) (by decide) (fun _ _ _ _ _ => (nV 5 nd_surely_free)) (fun _ _ _ _ _ => (dts_one (dt_tru (db_val (kAll Φ.b_all (da_cons (db_val (de_comp (by kernel_rfl) nd_surely_free (di_seq (eV 3)) (blkOk_by (own := [("row", 6)]) (by kernel_rfl)) (by decide) (fun _ _ _ _ _ => (nV 6 nd_surely_free)) (fun _ _ _ _ _ => dts_nil) (fun _ _ _ _ _ => (xIn (by exact U) (bV 5) (bV 6))))) da_nil)))))) (fun _ _ _ _ _ => (eV 5)))) da_nil)))))))
theorem c_surely_free (Φ : Facts K mg) : Ctr P w K mg base 4 "surely_free" none F_surely_free := by
  obtain ⟨fd, F, hm⟩ := Φ.d_surely_free
  exact ⟨_, fd, ["reports", "most"], 2, fn_surely_free Φ F, hm, F.kp, F.bindsN (fun _ _ _ _ _ _ us hl => match us, hl with | [_, _], _ => rfl), fun ds h => if_neg h, fun j h => by cases h <;> decide⟩
def S_is_safe : CS :=
  (sRet (c2 (inD true) (oVal (cC .non)) (oVal (cCall none F_sure_facts (aCons (oVal (cVar 0)) (aCons (oVal (cVar 1)) aNil))))))
def F_is_safe : FSem := fnD none 2 (List.length N_is_safe) S_is_safe
theorem fn_is_safe (Φ : Facts K mg) {fd : FuncData} (F : FunD K "is_safe" "is_safe" (defArgs s_is_safe) (defBody s_is_safe) (defScope s_is_safe) [] [] (He.ga K "is_safe") fd) : FnG P w K mg base 5 (He.ga K "is_safe") fd ["reports", "most"] (spD K mg 2 none F_is_safe) := by
  refine fnG_of (k := 4) (N := N_is_safe) F sc_is_safe rfl ?_
  intro cdv A outer s H E p hio0 hB hgd hroom
  have R := rdy_of (P := P) (w := w) (K := K) (mg := mg) (base := base) (N := N_is_safe) (outer := outer) (E := E) (H := H) hgd hroom
  have U := R.u65
  exact (dss_one (ds_ret (xNotIn U (db_val de_non) (db_val (de_call R ((c_sure_facts Φ).mono (by decide)) (gl (by kernel_rfl)) (da_cons (db_val (eV 0)) (da_cons (db_val (eV 1)) da_nil)))))))
theorem c_is_safe (Φ : Facts K mg) : Ctr P w K mg base 5 "is_safe" none F_is_safe := by
  obtain ⟨fd, F, hm⟩ := Φ.d_is_safe
  exact ⟨_, fd, ["reports", "most"], 2, fn_is_safe Φ F, hm, F.kp, F.bindsN (fun _ _ _ _ _ _ us hl => match us, hl with | [_, _], _ => rfl), fun ds h => if_neg h, fun j h => by cases h <;> decide⟩
def S_check_facts : CS :=
  (sSeq (sExp (cCall none F_check_reports (aCons (oVal (cVar 0)) aNil)))
  (sSeq (sIf (tOr' (tOf (c2 (eqD true) (oVal (cN lenD (aCons (oVar 1) aNil))) (oVal (cN lenD (aCons (oVal (c2 ixD (oVar 0) (oVal (cC (.int 0))))) aNil))))) (tNot' (tTru (oVal (cN allD (aCons (oVal (cComp [2] (gN 2) tYesC (c2 (inD false) (oVar 2) (oVal (cTup (aCons (oVal (cC (.int 0))) (aCons (oVal (cC (.int 1))) aNil))))) (iSeq (cVar 1)))) aNil))))))
  (sRaise "NotAllowed")
  sNil)
  (sRet (cC .non))))
def F_check_facts : FSem := fnD none 2 (List.length N_check_facts) S_check_facts
theorem fn_check_facts (Φ : Facts K mg) {fd : FuncData} (F : FunD K "check_facts" "check_facts" (defArgs s_check_facts) (defBody s_check_facts) (defScope s_check_facts) [] [] (He.ga K "check_facts") fd) : FnG P w K mg base 2 (He.ga K "check_facts") fd ["reports", "facts"] (spD K mg 2 none F_check_facts) := by
  refine fnG_of (k := 1) (N := N_check_facts) F sc_check_facts rfl ?_
  intro cdv A outer s H E p hio0 hB hgd hroom
  have R := rdy_of (P := P) (w := w) (K := K) (mg := mg) (base := base) (N := N_check_facts) (outer := outer) (E := E) (H := H) hgd hroom
  have U := R.u65
  exact (dss_cons (ds_expr (de_call R ((c_check_reports Φ).mono (by decide)) (gl (by kernel_rfl)) (da_cons (db_val (eV 0)) da_nil)))
  (dss_cons (ds_if (dt_w (dw_or (tNe U (db_val (kLen Φ.b_len (da_cons (bV 1) da_nil))) (db_val (kLen Φ.b_len (da_cons (db_val (xIx U (bV 0) (db_val de_int))) da_nil)))) (dw_or1 (dt_not (dt_tru (db_val (kAll Φ.b_all (da_cons (db_val (de_comp (by kernel_rfl) nd_check_facts (di_seq (eV 1)) (blkOk_by (own := [("one", 2)]) (by kernel_rfl)) (by decide) (fun _ _ _ _ _ => (nV 2 nd_check_facts)) (fun _ _ _ _ _ => dts_nil) (fun _ _ _ _ _ => (xIn (by exact U) (bV 2) (db_val (de_tup (da_cons (db_val de_int) (da_cons (db_val de_int) da_nil)))))))) da_nil))))))))
  (dss_one (ds_raise (by kernel_rfl) R Φ.e_NotAllowed (gl (by kernel_rfl))))
  dss_nil)
  (dss_one (ds_ret de_non))))
theorem c_check_facts (Φ : Facts K mg) : Ctr P w K mg base 2 "check_facts" none F_check_facts := by
  obtain ⟨fd, F, hm⟩ := Φ.d_check_facts
  exact ⟨_, fd, ["reports", "facts"], 2, fn_check_facts Φ F, hm, F.kp, F.bindsN (fun _ _ _ _ _ _ us hl => match us, hl with | [_, _], _ => rfl), fun ds h => if_neg h, fun j h => by cases h <;> decide⟩
def S_liars_for : CS :=
  (sSeq (sExp (cCall none F_check_facts (aCons (oVal (cVar 0)) (aCons (oVal (cVar 1)) aNil))))
  (sRet (cCall none F_known_liars (aCons (oVal (cVar 0)) (aCons (oVal (cVar 1)) aNil)))))
def F_liars_for : FSem := fnD none 2 (List.length N_liars_for) S_liars_for
theorem fn_liars_for (Φ : Facts K mg) {fd : FuncData} (F : FunD K "liars_for" "liars_for" (defArgs s_liars_for) (defBody s_liars_for) (defScope s_liars_for) [] [] (He.ga K "liars_for") fd) : FnG P w K mg base 3 (He.ga K "liars_for") fd ["reports", "facts"] (spD K mg 2 none F_liars_for) := by
  refine fnG_of (k := 2) (N := N_liars_for) F sc_liars_for rfl ?_
  intro cdv A outer s H E p hio0 hB hgd hroom
  have R := rdy_of (P := P) (w := w) (K := K) (mg := mg) (base := base) (N := N_liars_for) (outer := outer) (E := E) (H := H) hgd hroom
  have U := R.u65
  exact (dss_cons (ds_expr (de_call R ((c_check_facts Φ).mono (by decide)) (gl (by kernel_rfl)) (da_cons (db_val (eV 0)) (da_cons (db_val (eV 1)) da_nil))))
  (dss_one (ds_ret (de_call R ((c_known_liars Φ).mono (by decide)) (gl (by kernel_rfl)) (da_cons (db_val (eV 0)) (da_cons (db_val (eV 1)) da_nil))))))
theorem c_liars_for (Φ : Facts K mg) : Ctr P w K mg base 3 "liars_for" none F_liars_for := by
  obtain ⟨fd, F, hm⟩ := Φ.d_liars_for
  exact ⟨_, fd, ["reports", "facts"], 2, fn_liars_for Φ F, hm, F.kp, F.bindsN (fun _ _ _ _ _ _ us hl => match us, hl with | [_, _], _ => rfl), fun ds h => if_neg h, fun j h => by cases h <;> decide⟩
def S_check_apart : CS :=
  (sSeq (sExp (cCall none F_check_reports (aCons (oVal (cVar 0)) aNil)))
  (sSeq (sAsg 2 (cCall none F_clashes (aCons (oVal (cVar 0)) aNil)))
  (sSeq (sIf (tNot' (tTru (oVal (cN allD (aCons (oVal (cComp [4] (gN 4) tYesC (c2 inA (oVal (cN tupleD (aCons (oVar 4) aNil))) (oVar 2)) (iSeq (cVar 1)))) aNil)))))
  (sRaise "BadPaper")
  sNil)
  (sSeq (sAsg 3 (cComp2 [4, 5] (gN 4) tYesC [5] (gN 5) tYesC (cVar 5) (iSeq (cVar 4)) (iSeq (cVar 1))))
  (sSeq (sIf (tOf (c2 ltD (oVal (cLenDc 5 (cVar 3))) (oVal (cN lenD (aCons (oVar 3) aNil)))))
  (sRaise "BadPaper")
  sNil)
  (sRet (cC (.bl true))))))))
def F_check_apart : FSem := fnD none 2 (List.length N_check_apart) S_check_apart
theorem fn_check_apart (Φ : Facts K mg) {fd : FuncData} (F : FunD K "check_apart" "check_apart" (defArgs s_check_apart) (defBody s_check_apart) (defScope s_check_apart) [] [] (He.ga K "check_apart") fd) : FnG P w K mg base 3 (He.ga K "check_apart") fd ["reports", "paper"] (spD K mg 2 none F_check_apart) := by
  refine fnG_of (k := 2) (N := N_check_apart) F sc_check_apart rfl ?_
  intro cdv A outer s H E p hio0 hB hgd hroom
  have R := rdy_of (P := P) (w := w) (K := K) (mg := mg) (base := base) (N := N_check_apart) (outer := outer) (E := E) (H := H) hgd hroom
  have U := R.u65
  exact (dss_cons (ds_expr (de_call R ((c_check_reports Φ).mono (by decide)) (gl (by kernel_rfl)) (da_cons (db_val (eV 0)) da_nil)))
  (dss_cons (ds_set nd_check_apart (by kernel_rfl) (loc_ok (by kernel_rfl)) (de_call R ((c_clashes Φ).mono (by decide)) (gl (by kernel_rfl)) (da_cons (db_val (eV 0)) da_nil)))
  (dss_cons (ds_if (dt_not (dt_tru (db_val (kAll Φ.b_all (da_cons (db_val (de_comp (by kernel_rfl) nd_check_apart (di_seq (eV 1)) (blkOk_by (own := [("pair", 4)]) (by kernel_rfl)) (by decide) (fun _ _ _ _ _ => (nV 4 nd_check_apart)) (fun _ _ _ _ _ => dts_nil) (fun _ _ _ _ _ => (xInA (by exact U) (db_val (kTuple Φ.b_tuple (da_cons (bV 4) da_nil))) (bV 2))))) da_nil)))))
  (dss_one (ds_raise (by kernel_rfl) R Φ.e_BadPaper (gl (by kernel_rfl))))
  dss_nil)
  (dss_cons (ds_setC2 (by kernel_rfl) nd_check_apart (by kernel_rfl) (by kernel_rfl) (sw_true rfl (by kernel_rfl) (by kernel_rfl) (by kernel_rfl)) (di_seq (eV 1)) (blkOk_by (own := [("pair", 4), ("one", 5)]) (by kernel_rfl)) (vs1 := [5]) (by decide) (by decide) (by decide) (fun _ _ _ _ _ => (nV 4 nd_check_apart)) (fun _ _ _ _ _ => dts_nil) (fun _ _ _ _ _ => (di_seq (eV 4))) (fun _ _ _ _ _ => (nV 5 nd_check_apart)) (fun _ _ _ _ _ => dts_nil) (fun _ _ _ _ _ => (eV 5)))
  (dss_cons (ds_if (tLt (db_val (de_lenDc Φ.b_len nd_check_apart (eV 3) (blkOk_by (own := [("one", 5)]) (by kernel_rfl)) rfl (fun _ _ _ _ _ => pg_name nd_check_apart (by kernel_rfl) (loc_ok (by kernel_rfl)) (fn_ok (by kernel_rfl))) (fun _ _ _ _ _ => gV 5))) (db_val (kLen Φ.b_len (da_cons (bV 3) da_nil))))
  (dss_one (ds_raise (by kernel_rfl) R Φ.e_BadPaper (gl (by kernel_rfl))))
  dss_nil)
  (dss_one (ds_ret de_bl)))))))
theorem c_check_apart (Φ : Facts K mg) : Ctr P w K mg base 3 "check_apart" none F_check_apart := by
  obtain ⟨fd, F, hm⟩ := Φ.d_check_apart
  exact ⟨_, fd, ["reports", "paper"], 2, fn_check_apart Φ F, hm, F.kp, F.bindsN (fun _ _ _ _ _ _ us hl => match us, hl with | [_, _], _ => rfl), fun ds h => if_neg h, fun j h => by cases h <;> decide⟩
def K__law_error (tab : Str → Option Bool) (a : Addr) : CS :=
  (sAsg 1 (cLst (aCons (oVal (cN (isD a tab) (aCons (oVar 0) (aCons (oVal (cC (.fn "NotAllowed"))) aNil)))) (aCons (oVal (cN (isD a tab) (aCons (oVar 0) (aCons (oVal (cC (.fn "TooLarge"))) aNil)))) (aCons (oVal (cN (isD a tab) (aCons (oVar 0) (aCons (oVal (cC (.fn "Missing"))) aNil)))) (aCons (oVal (cN (isD a tab) (aCons (oVar 0) (aCons (oVal (cC (.fn "BadPaper"))) aNil)))) (aCons (oVal (cN (isD a tab) (aCons (oVar 0) (aCons (oVal (cC (.fn "BadForm"))) aNil)))) aNil)))))))
def R__law_error : CS :=
  (sSeq (sAsg 2 (cComp [3] (gN 3) (tTru (oVal (c2 ixD (oVar 1) (oVar 3)))) (c2 ixD (oVal (cLst (aCons (oVal (cC (.str "refused"))) (aCons (oVal (cC (.str "large"))) (aCons (oVal (cC (.str "missing"))) (aCons (oVal (cC (.str "paper"))) (aCons (oVal (cC (.str "form"))) aNil))))))) (oVar 3)) (iL rngD1 (aCons (oVal (cC (.int 5))) aNil))))
  (sRet (c2 ixD (oVal (cLst (aCons (oVal (cC (.str "odd"))) (aCons (oVal (c2 ixD (oVal (c2 addD (oVar 2) (oVal (cLst (aCons (oVal (cC (.str ""))) aNil))))) (oVal (cC (.int 0))))) aNil)))) (oVal (cN intD (aCons (oVal (c2 (eqD false) (oVal (cN lenD (aCons (oVar 2) aNil))) (oVal (cC (.int 1))))) aNil))))))
def S__law_error (tab : Str → Option Bool) (a : Addr) : CS := sSeq (K__law_error tab a) R__law_error
def G__law_error (K : Fg) (C a : Addr) : CS := match clsO K C with | some c => S__law_error (tabC c) a | none => fun _ => .stuck
def F__law_error (K : Fg) (C a : Addr) : FSem := fnD none 1 (List.length N__law_error) (G__law_error K C a)
theorem cE__law_error (Φ : Facts K mg) (k : Nat) : CtrE P w K mg base (k + 1) "_law_error" (F__law_error K) := by
  obtain ⟨fd, F, hm⟩ := Φ.d__law_error
  refine ⟨_, fd, "e", fnE_of (k := k) (N := N__law_error) F sc__law_error rfl ?_, hm, F.kp, F.bindsN (fun _ _ _ _ _ _ us hl => match us, hl with | [_], _ => rfl)⟩
  rintro cdv A outer s H p ⟨a, oe⟩ C hot1 hz hroom
  have U := u65H hroom
  have hot : L2H.HotC (L2H.cxH (L2N.CX P w) P w K mg base N__law_error "_law_error" (defScope s__law_error) (He.ga K "_law_error") cdv A outer s H (fun _ _ _ => False) (a, oe)) := ⟨(a, oe), hot1, List.mem_cons_self⟩
  have hfl : ∃ vs, oe.data = .fields vs := by obtain ⟨_, vs, h, _⟩ := hot1; exact ⟨vs, h⟩
  unfold G__law_error
  cases hc : clsO K C with
  | none => exact dss_stuck
  | some c =>
    have T := errT_of Φ hc
    exact (dss_cons (ds_set nd__law_error (by kernel_rfl) (loc_ok (by kernel_rfl)) (de_lst (da_cons (db_val (de_callB (call_isE' T.exc List.mem_cons_self hz hfl) (vr_is T) (gl (by kernel_rfl)) Φ.b_isinstance (by kernel_rfl) (da_cons (bV 0) (da_cons (db_val (eF Φ.m_NotAllowed)) da_nil)))) (da_cons (db_val (de_callB (call_isE' T.exc List.mem_cons_self hz hfl) (vr_is T) (gl (by kernel_rfl)) Φ.b_isinstance (by kernel_rfl) (da_cons (bV 0) (da_cons (db_val (eF Φ.m_TooLarge)) da_nil)))) (da_cons (db_val (de_callB (call_isE' T.exc List.mem_cons_self hz hfl) (vr_is T) (gl (by kernel_rfl)) Φ.b_isinstance (by kernel_rfl) (da_cons (bV 0) (da_cons (db_val (eF Φ.m_Missing)) da_nil)))) (da_cons (db_val (de_callB (call_isE' T.exc List.mem_cons_self hz hfl) (vr_is T) (gl (by kernel_rfl)) Φ.b_isinstance (by kernel_rfl) (da_cons (bV 0) (da_cons (db_val (eF Φ.m_BadPaper)) da_nil)))) (da_cons (db_val (de_callB (call_isE' T.exc List.mem_cons_self hz hfl) (vr_is T) (gl (by kernel_rfl)) Φ.b_isinstance (by kernel_rfl) (da_cons (bV 0) (da_cons (db_val (eF Φ.m_BadForm)) da_nil)))) da_nil)))))))
  (dss_cons (ds_setCH hot nd__law_error (by kernel_rfl) (by kernel_rfl) (sw_true rfl (by kernel_rfl) (by kernel_rfl) (by kernel_rfl)) (di_range1H (gl (by kernel_rfl)) Φ.b_range (da_cons (db_val de_int) da_nil)) (blkOk_by (own := [("k", 3)]) (by kernel_rfl)) (by decide) (fun _ _ _ _ _ => (nV 3 nd__law_error)) (fun _ _ _ _ _ => (dts_one (dt_tru (db_val (xIx (by exact U) (bV 1) (bV 3)))))) (fun _ _ _ _ _ => (xIx (by exact U) (db_val (de_lst (da_cons (db_val de_str) (da_cons (db_val de_str) (da_cons (db_val de_str) (da_cons (db_val de_str) (da_cons (db_val de_str) da_nil))))))) (bV 3))))
  (dss_one (ds_ret (xIx U (db_val (de_lst (da_cons (db_val de_str) (da_cons (db_val (xIx U (db_val (xAdd (bV 2) (db_val (de_lst (da_cons (db_val de_str) da_nil))))) (db_val de_int))) da_nil)))) (db_val (kInt Φ.b_int (da_cons (db_val (xEq U (db_val (kLen Φ.b_len (da_cons (bV 2) da_nil))) (db_val de_int))) da_nil))))))))
theorem isD_self (a : Addr) (tab : Str → Option Bool) (n : Str) : isD a tab [.adr a, .fn n] = (tab n).map fun k => (false, .bl k) := by
  show (if a = a then (tab n).map fun k => (false, D.bl k) else none) = _
  exact if_pos rfl
theorem err_kinds (a : Addr) (tab : Str → Option Bool) (b1 b2 b3 b4 b5 : Bool) (h1 : tab "NotAllowed" = some b1) (h2 : tab "TooLarge" = some b2) (h3 : tab "Missing" = some b3) (h4 : tab "BadPaper" = some b4) (h5 : tab "BadForm" = some b5) :
    K__law_error tab a (entryE none [.adr a] 4) = .ok (.nx, [.sh (.adr a), .ow (.lst [.bl b1, .bl b2, .bl b3, .bl b4, .bl b5]), .un, .un]) := by
  simp [K__law_error, sAsg, cLst, aCons, oVal, cN, oVar, cC, aNil, appN, rdL, rd, entryE, entryS, isD_self, h1, h2, h3, h4, h5, frzL, frzO, okL]
def errFin (r : R (Fl × DL.Env)) : R ((Bool × D) × Option D) := r.bind fun r => match r.1 with
  | .rt m d => (ioVal none r.2).bind fun q => .ok ((m, d), q)
  | .nx => (ioVal none r.2).bind fun q => .ok ((false, .non), q)
  | _ => .stuck
theorem err_val {K : Fg} {C a : Addr} {c t : Str} {b1 b2 b3 b4 b5 : Bool} (hc : clsO K C = some c) (h1 : tabC c "NotAllowed" = some b1) (h2 : tabC c "TooLarge" = some b2) (h3 : tabC c "Missing" = some b3) (h4 : tabC c "BadPaper" = some b4) (h5 : tabC c "BadForm" = some b5)
    (hr : ∀ a, errFin (R__law_error [.sh (.adr a), .ow (.lst [.bl b1, .bl b2, .bl b3, .bl b4, .bl b5]), .un, .un]) = .ok ((false, .str t), none)) : F__law_error K C a [.adr a] = .ok ((false, .str t), none) := by
  have e : F__law_error K C a [.adr a] = errFin (G__law_error K C a (entryE none [.adr a] 4)) := rfl
  rw [e]
  unfold G__law_error
  rw [hc]
  show errFin (sSeq (K__law_error (tabC c) a) R__law_error (entryE none [.adr a] 4)) = _
  unfold sSeq
  rw [err_kinds a (tabC c) b1 b2 b3 b4 b5 h1 h2 h3 h4 h5]
  exact hr a
theorem cls1 {K : Fg} : clsO K (He.ga K "NotAllowed") = some "NotAllowed" := if_pos rfl
theorem cls2 (Φ : Facts K mg) : clsO K (He.ga K "TooLarge") = some "TooLarge" := by
  unfold clsO; rw [if_neg (Ne.symm Φ.n_NotAllowed_TooLarge), if_pos rfl]; try rfl
theorem cls3 (Φ : Facts K mg) : clsO K (He.ga K "Missing") = some "Missing" := by
  unfold clsO; rw [if_neg (Ne.symm Φ.n_NotAllowed_Missing), if_neg (Ne.symm Φ.n_TooLarge_Missing), if_pos rfl]; try rfl
theorem cls4 (Φ : Facts K mg) : clsO K (He.ga K "BadPaper") = some "BadPaper" := by
  unfold clsO; rw [if_neg (Ne.symm Φ.n_NotAllowed_BadPaper), if_neg (Ne.symm Φ.n_TooLarge_BadPaper), if_neg (Ne.symm Φ.n_Missing_BadPaper), if_pos rfl]; try rfl
def errs : Str → Option Str := fun n => if n = "NotAllowed" then some "refused" else if n = "TooLarge" then some "large" else if n = "Missing" then some "missing" else if n = "BadPaper" then some "paper" else none
theorem caught (Φ : Facts K mg) : Caught K mg (He.ga K "SayError") (F__law_error K) errs := by
  refine ⟨fun c t ht C hC => ?_⟩
  unfold errs at ht
  by_cases e1 : c = "NotAllowed"
  · rw [if_pos e1] at ht; cases ht
    rw [e1, Φ.g_NotAllowed] at hC; cases hC
    exact ⟨Φ.s_NotAllowed, fun a => err_val (b1 := true) (b2 := false) (b3 := false) (b4 := false) (b5 := false) cls1 (by kernel_rfl) (by kernel_rfl) (by kernel_rfl) (by kernel_rfl) (by kernel_rfl) fun a => by kernel_rfl⟩
  rw [if_neg e1] at ht
  by_cases e2 : c = "TooLarge"
  · rw [if_pos e2] at ht; cases ht
    rw [e2, Φ.g_TooLarge] at hC; cases hC
    exact ⟨Φ.s_TooLarge, fun a => err_val (b1 := false) (b2 := true) (b3 := false) (b4 := false) (b5 := false) (cls2 Φ) (by kernel_rfl) (by kernel_rfl) (by kernel_rfl) (by kernel_rfl) (by kernel_rfl) fun a => by kernel_rfl⟩
  rw [if_neg e2] at ht
  by_cases e3 : c = "Missing"
  · rw [if_pos e3] at ht; cases ht
    rw [e3, Φ.g_Missing] at hC; cases hC
    exact ⟨Φ.s_Missing, fun a => err_val (b1 := false) (b2 := false) (b3 := true) (b4 := false) (b5 := false) (cls3 Φ) (by kernel_rfl) (by kernel_rfl) (by kernel_rfl) (by kernel_rfl) (by kernel_rfl) fun a => by kernel_rfl⟩
  rw [if_neg e3] at ht
  by_cases e4 : c = "BadPaper"
  · rw [if_pos e4] at ht; cases ht
    rw [e4, Φ.g_BadPaper] at hC; cases hC
    exact ⟨Φ.s_BadPaper, fun a => err_val (b1 := false) (b2 := false) (b3 := false) (b4 := true) (b5 := false) (cls4 Φ) (by kernel_rfl) (by kernel_rfl) (by kernel_rfl) (by kernel_rfl) (by kernel_rfl) fun a => by kernel_rfl⟩
  rw [if_neg e4] at ht
  cases ht
def T__law_told_0 : Str → Option FSem := fun n => if n = "check_reports" then some F_check_reports else if n = "fewest_free" then some F_fewest_free else if n = "clashes" then some F_clashes else if n = "apart" then some F_apart else if n = "majority" then some F_majority else none
theorem ht__law_told_0 (Φ : Facts K mg) : ∀ n G, T__law_told_0 n = some G → Ctr P w K mg base 5 n none G := by
  intro n G h
  unfold T__law_told_0 at h
  by_cases e_check_reports : n = "check_reports"
  · rw [if_pos e_check_reports] at h; cases h; rw [e_check_reports]; exact (c_check_reports Φ).mono (by decide)
  rw [if_neg e_check_reports] at h
  by_cases e_fewest_free : n = "fewest_free"
  · rw [if_pos e_fewest_free] at h; cases h; rw [e_fewest_free]; exact (c_fewest_free Φ).mono (by decide)
  rw [if_neg e_fewest_free] at h
  by_cases e_clashes : n = "clashes"
  · rw [if_pos e_clashes] at h; cases h; rw [e_clashes]; exact (c_clashes Φ).mono (by decide)
  rw [if_neg e_clashes] at h
  by_cases e_apart : n = "apart"
  · rw [if_pos e_apart] at h; cases h; rw [e_apart]; exact (c_apart Φ).mono (by decide)
  rw [if_neg e_apart] at h
  by_cases e_majority : n = "majority"
  · rw [if_pos e_majority] at h; cases h; rw [e_majority]; exact (c_majority Φ).mono (by decide)
  rw [if_neg e_majority] at h
  cases h
def T__law_told_1 : Str → Option FSem := fun n => if n = "facts_left" then some F_facts_left else if n = "sure_facts" then some F_sure_facts else if n = "surely_free" then some F_surely_free else if n = "is_safe" then some F_is_safe else if n = "liars_for" then some F_liars_for else if n = "check_apart" then some F_check_apart else none
theorem ht__law_told_1 (Φ : Facts K mg) : ∀ n G, T__law_told_1 n = some G → Ctr P w K mg base 5 n none G := by
  intro n G h
  unfold T__law_told_1 at h
  by_cases e_facts_left : n = "facts_left"
  · rw [if_pos e_facts_left] at h; cases h; rw [e_facts_left]; exact (c_facts_left Φ).mono (by decide)
  rw [if_neg e_facts_left] at h
  by_cases e_sure_facts : n = "sure_facts"
  · rw [if_pos e_sure_facts] at h; cases h; rw [e_sure_facts]; exact (c_sure_facts Φ).mono (by decide)
  rw [if_neg e_sure_facts] at h
  by_cases e_surely_free : n = "surely_free"
  · rw [if_pos e_surely_free] at h; cases h; rw [e_surely_free]; exact (c_surely_free Φ).mono (by decide)
  rw [if_neg e_surely_free] at h
  by_cases e_is_safe : n = "is_safe"
  · rw [if_pos e_is_safe] at h; cases h; rw [e_is_safe]; exact (c_is_safe Φ).mono (by decide)
  rw [if_neg e_is_safe] at h
  by_cases e_liars_for : n = "liars_for"
  · rw [if_pos e_liars_for] at h; cases h; rw [e_liars_for]; exact (c_liars_for Φ).mono (by decide)
  rw [if_neg e_liars_for] at h
  by_cases e_check_apart : n = "check_apart"
  · rw [if_pos e_check_apart] at h; cases h; rw [e_check_apart]; exact (c_check_apart Φ).mono (by decide)
  rw [if_neg e_check_apart] at h
  cases h
def S__law_told : CS :=
  (sTry errs
  (sSeq (sIf (tOf (c2 ltD (oVar 0) (oVal (cC (.int 5)))))
  (sRet (cTup (aCons (oVal (cC (.str "told"))) (aCons (oVal (cCallV T__law_told_0 (c2 ixD (oVal (cLst (aCons (oVal (cC (.fn "check_reports"))) (aCons (oVal (cC (.fn "fewest_free"))) (aCons (oVal (cC (.fn "clashes"))) (aCons (oVal (cC (.fn "apart"))) (aCons (oVal (cC (.fn "majority"))) aNil))))))) (oVar 0)) (aCons (oVal (cVar 1)) aNil))) aNil))))
  sNil)
  (sSeq (sIf (tOf (c2 ltD (oVar 0) (oVal (cC (.int 11)))))
  (sRet (cTup (aCons (oVal (cC (.str "told"))) (aCons (oVal (cCallV T__law_told_1 (c2 ixD (oVal (cLst (aCons (oVal (cC (.fn "facts_left"))) (aCons (oVal (cC (.fn "sure_facts"))) (aCons (oVal (cC (.fn "surely_free"))) (aCons (oVal (cC (.fn "is_safe"))) (aCons (oVal (cC (.fn "liars_for"))) (aCons (oVal (cC (.fn "check_apart"))) aNil)))))))) (oVal (c2 subD (oVar 0) (oVal (cC (.int 5)))))) (aCons (oVal (cVar 1)) (aCons (oVal (cVar 2)) aNil)))) aNil))))
  sNil)
  (sRet (cTup (aCons (oVal (cC (.str "told"))) (aCons (oVal (cCall none F_strength (aCons (oVal (cVar 1)) (aCons (oVal (cVar 2)) aNil)))) aNil)))))))
def F__law_told : FSem := fnD none 3 (List.length N__law_told) S__law_told
theorem fn__law_told (Φ : Facts K mg) {fd : FuncData} (F : FunD K "_law_told" "_law_told" (defArgs s__law_told) (defBody s__law_told) (defScope s__law_told) [] [] (He.ga K "_law_told") fd) : FnG P w K mg base 6 (He.ga K "_law_told") fd ["kind", "reports", "one"] (spD K mg 3 none F__law_told) := by
  refine fnG_of (k := 5) (N := N__law_told) F sc__law_told rfl ?_
  intro cdv A outer s H E p hio0 hB hgd hroom
  have R := rdy_of (P := P) (w := w) (K := K) (mg := mg) (base := base) (N := N__law_told) (outer := outer) (E := E) (H := H) hgd hroom
  have U := R.u65
  have hio : p.io = none := io_none hio0
  exact (dss_one (ds_tryE R hio hB rfl rfl nd__law_told (i := 3) (by kernel_rfl) (by kernel_rfl) (vis_ok (by kernel_rfl)) ⟨gl (by kernel_rfl), by kernel_rfl, .inl Φ.k_SayError⟩ (cE__law_error Φ _) (gl (by kernel_rfl)) (caught Φ)
  (fun pn xe W' R hp => (dss_cons (ds_if (tLt (bV 0) (db_val de_int))
  (dss_one (ds_ret (de_tup (da_cons (db_val de_str) (da_cons (db_val (de_callV R (ht__law_told_0 Φ) (xIx U (db_val (de_lst (da_cons (db_val (eF Φ.m_check_reports)) (da_cons (db_val (eF Φ.m_fewest_free)) (da_cons (db_val (eF Φ.m_clashes)) (da_cons (db_val (eF Φ.m_apart)) (da_cons (db_val (eF Φ.m_majority)) da_nil))))))) (bV 0)) (da_cons (db_val (eV 1)) da_nil))) da_nil)))))
  dss_nil)
  (dss_cons (ds_if (tLt (bV 0) (db_val de_int))
  (dss_one (ds_ret (de_tup (da_cons (db_val de_str) (da_cons (db_val (de_callV R (ht__law_told_1 Φ) (xIx U (db_val (de_lst (da_cons (db_val (eF Φ.m_facts_left)) (da_cons (db_val (eF Φ.m_sure_facts)) (da_cons (db_val (eF Φ.m_surely_free)) (da_cons (db_val (eF Φ.m_is_safe)) (da_cons (db_val (eF Φ.m_liars_for)) (da_cons (db_val (eF Φ.m_check_apart)) da_nil)))))))) (db_val (xSub (bV 0) (db_val de_int)))) (da_cons (db_val (eV 1)) (da_cons (db_val (eV 2)) da_nil)))) da_nil)))))
  dss_nil)
  (dss_one (ds_ret (de_tup (da_cons (db_val de_str) (da_cons (db_val (de_call R ((c_strength Φ).mono (by decide)) (gl (by kernel_rfl)) (da_cons (db_val (eV 1)) (da_cons (db_val (eV 2)) da_nil)))) da_nil))))))))))
theorem c__law_told (Φ : Facts K mg) : Ctr P w K mg base 6 "_law_told" none F__law_told := by
  obtain ⟨fd, F, hm⟩ := Φ.d__law_told
  exact ⟨_, fd, ["kind", "reports", "one"], 3, fn__law_told Φ F, hm, F.kp, F.bindsN (fun _ _ _ _ _ _ us hl => match us, hl with | [_, _, _], _ => rfl), fun ds h => if_neg h, fun j h => by cases h <;> decide⟩
def S__law_same : CS :=
  (sRet (c2 (eqD false) (oVal (cN reprD (aCons (oVal (cLst (aCons (oVar 0) aNil))) aNil))) (oVal (cN reprD (aCons (oVal (cLst (aCons (oVar 1) aNil))) aNil)))))
def F__law_same : FSem := fnD none 2 (List.length N__law_same) S__law_same
theorem fn__law_same (Φ : Facts K mg) {fd : FuncData} (F : FunD K "_law_same" "_law_same" (defArgs s__law_same) (defBody s__law_same) (defScope s__law_same) [] [] (He.ga K "_law_same") fd) : FnG P w K mg base 1 (He.ga K "_law_same") fd ["told", "due"] (spD K mg 2 none F__law_same) := by
  refine fnG_of (k := 0) (N := N__law_same) F sc__law_same rfl ?_
  intro cdv A outer s H E p hio0 hB hgd hroom
  have R := rdy_of (P := P) (w := w) (K := K) (mg := mg) (base := base) (N := N__law_same) (outer := outer) (E := E) (H := H) hgd hroom
  have U := R.u65
  exact (dss_one (ds_ret (xEq U (db_val (kRepr R Φ.b_repr (da_cons (db_val (de_lst (da_cons (bV 0) da_nil))) da_nil))) (db_val (kRepr R Φ.b_repr (da_cons (db_val (de_lst (da_cons (bV 1) da_nil))) da_nil))))))
theorem c__law_same (Φ : Facts K mg) : Ctr P w K mg base 1 "_law_same" none F__law_same := by
  obtain ⟨fd, F, hm⟩ := Φ.d__law_same
  exact ⟨_, fd, ["told", "due"], 2, fn__law_same Φ F, hm, F.kp, F.bindsN (fun _ _ _ _ _ _ us hl => match us, hl with | [_, _], _ => rfl), fun ds h => if_neg h, fun j h => by cases h <;> decide⟩
def S__law_wrong : CS :=
  (sRet (cN tupleD (aCons (oVal (cComp [2] (gN 2) (tTru (oVal (cN anyD (aCons (oVal (cComp [3, 4] (gT (gsC (gN 3) (gsC (gN 4) gsN))) tYesC (cAnd (c2 (isND true) (oVar 4) (oVal (cC .non))) (c2 (eqD true) (oVar 4) (oVal (c2 ixD (oVar 1) (oVar 3))))) (iV enumD (c2 ixD (oVar 0) (oVar 2))))) aNil)))) (cVar 2) (iL rngD1 (aCons (oVal (cN lenD (aCons (oVar 0) aNil))) aNil)))) aNil)))
def F__law_wrong : FSem := fnD none 2 (List.length N__law_wrong) S__law_wrong
theorem fn__law_wrong (Φ : Facts K mg) {fd : FuncData} (F : FunD K "_law_wrong" "_law_wrong" (defArgs s__law_wrong) (defBody s__law_wrong) (defScope s__law_wrong) [] [] (He.ga K "_law_wrong") fd) : FnG P w K mg base 1 (He.ga K "_law_wrong") fd ["reports", "facts"] (spD K mg 2 none F__law_wrong) := by
  refine fnG_of (k := 0) (N := N__law_wrong) F sc__law_wrong rfl ?_
  intro cdv A outer s H E p hio0 hB hgd hroom
  have R := rdy_of (P := P) (w := w) (K := K) (mg := mg) (base := base) (N := N__law_wrong) (outer := outer) (E := E) (H := H) hgd hroom
  have U := R.u65
  exact (dss_one (ds_ret (kTuple Φ.b_tuple (da_cons (db_val (de_comp (by kernel_rfl) nd__law_wrong (di_range1 (gl (by kernel_rfl)) Φ.b_range (da_cons (db_val (kLen Φ.b_len (da_cons (bV 0) da_nil))) da_nil)) (blkOk_by (own := [("k", 2)]) (by kernel_rfl)) (by decide) (fun _ _ _ _ _ => (nV 2 nd__law_wrong)) (fun _ _ _ _ _ => (dts_one (dt_tru (db_val (kAny Φ.b_any (da_cons (db_val (de_comp (by kernel_rfl) nd__law_wrong (di_enum (gl (by kernel_rfl)) Φ.b_enumerate (xIx (by exact U) (bV 0) (bV 2))) (blkOk_by (own := [("at", 3), ("told", 4)]) (by kernel_rfl)) (by decide) (fun _ _ _ _ _ => (dg_tup (by kernel_rfl) (dgs_cons (nV 3 nd__law_wrong) (dgs_cons (nV 4 nd__law_wrong) dgs_nil)) (fun _ _ _ h => gsC_len (fun _ _ _ h => gsC_len (fun _ _ _ h => gsN_len h) h) h))) (fun _ _ _ _ _ => dts_nil) (fun _ _ _ _ _ => (de_andv (xNotIs (bV 4) (db_val de_non)) (de_bone (xNe (by exact U) (bV 4) (db_val (xIx (by exact U) (bV 1) (bV 3))))))))) da_nil)))))) (fun _ _ _ _ _ => (eV 2)))) da_nil))))
theorem c__law_wrong (Φ : Facts K mg) : Ctr P w K mg base 1 "_law_wrong" none F__law_wrong := by
  obtain ⟨fd, F, hm⟩ := Φ.d__law_wrong
  exact ⟨_, fd, ["reports", "facts"], 2, fn__law_wrong Φ F, hm, F.kp, F.bindsN (fun _ _ _ _ _ _ us hl => match us, hl with | [_, _], _ => rfl), fun ds h => if_neg h, fun j h => by cases h <;> decide⟩
def S_law : CS :=
  (sSeq (sAsg 1 (cLst (aCons (oVal (cCall none F__law_stream (aCons (oVal (cVar 0)) aNil))) (aCons (oVal (cC (.int 0))) aNil))))
  (sSeq (sFor (gN 2) (iL rngD1 (aCons (oVal (cC (.int 7))) aNil))
  (sSeq (sAsg 3 (cCall (some 0) F__law_reports (aCons (oVar 1) aNil)))
  (sSeq (sAsg 4 (cN reprD (aCons (oVar 3) aNil)))
  (sSeq (sPar 5 6 (mCons (cN lenD (aCons (oVar 3) aNil)) (mCons (cN lenD (aCons (oVal (c2 ixD (oVar 3) (oVal (cC (.int 0))))) aNil)) mNil)))
  (sSeq (sAsg 7 (cCall (some 0) F__law_next (aCons (oVar 1) (aCons (oVal (c2 addD (oVar 5) (oVal (cC (.int 1))))) aNil))))
  (sSeq (sAsg 8 (cCall none F__law_bits (aCons (oVal (cVar 6)) aNil)))
  (sSeq (sAsg 9 (cComp [20] (gN 20) (tOf (c2 leD (oVal (cN lenD (aCons (oVal (cCall none F__law_wrong (aCons (oVal (cVar 3)) (aCons (oVal (cVar 20)) aNil)))) aNil))) (oVar 7))) (cVar 20) (iSeq (cVar 8))))
  (sSeq (sAsg 10 (cN minX (aCons (oVal (cComp [20] (gN 20) tYesC (cN lenD (aCons (oVal (cCall none F__law_wrong (aCons (oVal (cVar 3)) (aCons (oVal (cVar 20)) aNil)))) aNil)) (iSeq (cVar 8)))) aNil)))
  (sSeq (sAsg 11 (cLst aNil))
  (sSeq (sFor (gN 12) (iL rngD1 (aCons (oVar 5) aNil))
  (sExp (cM1 "list" 11 extendD (cComp [30] (gN 30) (tTru (oVal (cN anyD (aCons (oVal (cComp [31, 32] (gT (gsC (gN 31) (gsC (gN 32) gsN))) tYesC (cAnd (c2 (inD true) (oVal (cC .non)) (oVal (cLst (aCons (oVar 31) (aCons (oVar 32) aNil))))) (c2 (eqD true) (oVar 31) (oVar 32))) (iZip (c2 ixD (oVar 3) (oVar 12)) (c2 ixD (oVar 3) (oVar 30))))) aNil)))) (cTup (aCons (oVar 12) (aCons (oVar 30) aNil))) (iL rngD2 (aCons (oVal (c2 addD (oVar 12) (oVal (cC (.int 1))))) (aCons (oVar 5) aNil)))))))
  (sSeq (sAsg 13 (cCall none F__law_largest (aCons (oVal (cVar 11)) aNil)))
  (sSeq (sAsg 14 (cComp [33] (gN 33) tYesC (cComp [34] (gN 34) tYesC (c2 ixD (oVar 34) (oVar 33)) (iSeq (cVar 3))) (iL rngD1 (aCons (oVar 6) aNil))))
  (sSeq (sAsg 15 (cN tupleD (aCons (oVal (cComp [34] (gN 34) tYesC (c2 ixD (oVal (cLst (aCons (oVal (cN intD (aCons (oVal (c2 gtD (oVal (cRM 34 countD (oVal (cC (.int 1))))) (oVal (cRM 34 countD (oVal (cC (.int 0))))))) aNil))) (aCons (oVal (cC .non)) aNil)))) (oVal (cN intD (aCons (oVal (c2 (eqD false) (oVal (cRM 34 countD (oVal (cC (.int 1))))) (oVal (cRM 34 countD (oVal (cC (.int 0))))))) aNil)))) (iSeq (cVar 14)))) aNil)))
  (sSeq (sAsg 16 (cLst (aCons (oVal (cTup (aCons (oVal (cC (.str "told"))) (aCons (oVal (cC .non)) aNil)))) (aCons (oVal (cTup (aCons (oVal (cC (.str "told"))) (aCons (oVar 10) aNil)))) (aCons (oVal (cTup (aCons (oVal (cC (.str "told"))) (aCons (oVal (cN tupleD (aCons (oVar 11) aNil))) aNil)))) (aCons (oVal (cTup (aCons (oVal (cC (.str "told"))) (aCons (oVar 13) aNil)))) (aCons (oVal (cTup (aCons (oVal (cC (.str "told"))) (aCons (oVar 15) aNil)))) aNil)))))))
  (sSeq (sIf (tOr' (tNot' (tTru (oVal (cCall none F__law_same (aCons (oVal (cComp [35] (gN 35) tYesC (cCall none F__law_told (aCons (oVal (cVar 35)) (aCons (oVal (cVar 3)) (aCons (oVal (cC (.int 0))) aNil)))) (iL rngD1 (aCons (oVal (cC (.int 5))) aNil)))) (aCons (oVal (cVar 16)) aNil)))))) (tOf (c2 gtD (oVal (cN lenD (aCons (oVar 13) aNil))) (oVar 10))))
  (sRet (cC (.bl false)))
  sNil)
  (sSeq (sAsg 17 (c2 mulD (oVal (cLst (aCons (oVal (cC (.str "missing"))) aNil))) (oVal (cC (.int 3)))))
  (sSeq (sIf (tOf (c2 gtD (oVal (cN lenD (aCons (oVar 9) aNil))) (oVal (cC (.int 0)))))
  (sSeq (sAsg 18 (cN tupleD (aCons (oVal (cComp [33] (gN 33) tYesC (c2 ixD (oVal (cLst (aCons (oVal (cC .non)) (aCons (oVal (c2 ixD (oVal (c2 ixD (oVar 9) (oVal (cC (.int 0))))) (oVar 33))) aNil)))) (oVal (cN intD (aCons (oVal (c2 (eqD false) (oVal (cF lenSetD (cComp [20] (gN 20) tYesC (c2 ixD (oVar 20) (oVar 33)) (iSeq (cVar 9))))) (oVal (cC (.int 1))))) aNil)))) (iL rngD1 (aCons (oVar 6) aNil)))) aNil)))
  (sSeq (sAsg 19 (cN tupleD (aCons (oVal (cComp [35] (gN 35) (tTru (oVal (cN allD (aCons (oVal (cComp [20] (gN 20) tYesC (c2 (inD false) (oVar 35) (oVal (cCall none F__law_wrong (aCons (oVal (cVar 3)) (aCons (oVal (cVar 20)) aNil))))) (iSeq (cVar 9)))) aNil)))) (cVar 35) (iL rngD1 (aCons (oVar 5) aNil)))) aNil)))
  (sAsg 17 (cLst (aCons (oVal (cTup (aCons (oVal (cC (.str "told"))) (aCons (oVar 18) aNil)))) (aCons (oVal (cTup (aCons (oVal (cC (.str "told"))) (aCons (oVar 19) aNil)))) (aCons (oVal (cTup (aCons (oVal (cC (.str "told"))) (aCons (oVal (c2 (inD true) (oVal (cC .non)) (oVar 18))) aNil)))) aNil)))))))
  sNil)
  (sSeq (sIf (tNot' (tTru (oVal (cCall none F__law_same (aCons (oVal (cComp [35] (gN 35) tYesC (cCall none F__law_told (aCons (oVal (cVar 35)) (aCons (oVal (cVar 3)) (aCons (oVal (cVar 7)) aNil)))) (iSeq (cLst (aCons (oVal (cC (.int 5))) (aCons (oVal (cC (.int 6))) (aCons (oVal (cC (.int 7))) (aCons (oVal (cC (.int 8))) aNil)))))))) (aCons (oVal (c2 addD (oVal (cLst (aCons (oVal (cTup (aCons (oVal (cC (.str "told"))) (aCons (oVar 9) aNil)))) aNil))) (oVar 17))) aNil))))))
  (sRet (cC (.bl false)))
  sNil)
  (sSeq (sAsg 20 (c2 ixD (oVar 8) (oVal (cCall (some 0) F__law_next (aCons (oVar 1) (aCons (oVal (cN lenD (aCons (oVar 8) aNil))) aNil))))))
  (sSeq (sIf (tNot' (tTru (oVal (cCall none F__law_same (aCons (oVal (cCall none F__law_told (aCons (oVal (cC (.int 9))) (aCons (oVal (cVar 3)) (aCons (oVal (cVar 20)) aNil))))) (aCons (oVal (cTup (aCons (oVal (cC (.str "told"))) (aCons (oVal (cCall none F__law_wrong (aCons (oVal (cVar 3)) (aCons (oVal (cVar 20)) aNil)))) aNil)))) aNil))))))
  (sRet (cC (.bl false)))
  sNil)
  (sSeq (sFor (gN 21) (iSeq (cLst (aCons (oVar 13) (aCons (oVal (cSl (oVar 13) (pSm (oVal (cC (.int 1)))) pNo)) (aCons (oVal (cF revBD (cVar 13))) (aCons (oVal (cTup aNil)) (aCons (oVal (c2 addD (oVar 13) (oVal (cSl (oVar 13) pNo (pSm (oVal (cC (.int 1)))))))) (aCons (oVal (cTup (aCons (oVal (cTup (aCons (oVal (cC (.int 0))) (aCons (oVal (cC (.int 1))) aNil)))) aNil))) (aCons (oVal (cTup (aCons (oVal (cTup (aCons (oVal (cC (.int 1))) (aCons (oVal (cC (.int 0))) aNil)))) aNil))) (aCons (oVal (cTup (aCons (oVal (cTup (aCons (oVal (cC (.int 0))) (aCons (oVar 5) aNil)))) aNil))) (aCons (oVal (cN tupleD (aCons (oVal (cSl (oVar 11) pNo (pSm (oVal (cC (.int 2)))))) aNil))) (aCons (oVal (cN tupleD (aCons (oVar 11) aNil))) aNil))))))))))))
  (sSeq (sAsg 22 (cLst aNil))
  (sSeq (sFor (gN 23) (iSeq (cVar 21))
  (sAsg 22 (c2 addD (oVar 22) (oVal (cN listD (aCons (oVar 23) aNil))))))
  (sSeq (sAsg 24 (cAnd (cN allD (aCons (oVal (cComp [23] (gN 23) tYesC (c2 (inD false) (oVar 23) (oVar 11)) (iSeq (cVar 21)))) aNil)) (c2 (eqD false) (oVal (cF lenSetD (cVar 22))) (oVal (cN lenD (aCons (oVar 22) aNil))))))
  (sIf (tNot' (tTru (oVal (cCall none F__law_same (aCons (oVal (cCall none F__law_told (aCons (oVal (cC (.int 10))) (aCons (oVal (cVar 3)) (aCons (oVal (cVar 21)) aNil))))) (aCons (oVal (c2 ixD (oVal (cLst (aCons (oVal (cC (.str "paper"))) (aCons (oVal (cTup (aCons (oVal (cC (.str "told"))) (aCons (oVal (cC (.bl true))) aNil)))) aNil)))) (oVal (cN intD (aCons (oVar 24) aNil))))) aNil))))))
  (sRet (cC (.bl false)))
  sNil)))))
  (sSeq (sAsg 25 (cCall none F__law_told (aCons (oVal (cC (.int 11))) (aCons (oVal (cVar 5)) (aCons (oVal (cVar 6)) aNil)))))
  (sSeq (sIf (tOf (c2 (eqD true) (oVar 25) (oVal (cTup (aCons (oVal (cC (.str "told"))) (aCons (oVal (c2 fdivD (oVal (c2 subD (oVar 5) (oVal (cC (.int 1))))) (oVal (cC (.int 2))))) aNil))))))
  (sRet (cC (.bl false)))
  sNil)
  (sSeq (sIf (tAnd' (tNot' (tTru (oVal (cN anyD (aCons (oVal (cComp [34] (gN 34) tYesC (c2 (inD false) (oVal (cC .non)) (oVar 34)) (iSeq (cVar 3)))) aNil))))) (tOf (c2 gtD (oVal (cN lenD (aCons (oVal (cComp [12] (gN 12) (tOf (c2 leD (oVal (cN lenD (aCons (oVal (cCall none F__law_wrong (aCons (oVal (cVar 3)) (aCons (oVal (cVar 12)) aNil)))) aNil))) (oVal (c2 ixD (oVar 25) (oVal (cC (.int 1))))))) (cVar 12) (iSeq (cVar 8)))) aNil))) (oVal (cC (.int 1))))))
  (sRet (cC (.bl false)))
  sNil)
  (sSeq (sAsg 26 (cN tupleD (aCons (oVal (cComp [35] (gN 35) tYesC (c2 ixD (oVal (cTup (aCons (oVal (c2 mulD (oVal (cTup (aCons (oVal (cC (.int 0))) aNil))) (oVar 6))) (aCons (oVal (c2 mulD (oVal (cTup (aCons (oVal (cC (.int 1))) aNil))) (oVar 6))) aNil)))) (oVal (cN intD (aCons (oVal (c2 gtD (oVar 35) (oVal (c2 ixD (oVar 25) (oVal (cC (.int 1))))))) aNil)))) (iL rngD1 (aCons (oVar 5) aNil)))) aNil)))
  (sSeq (sIf (tAnd' (tOf (c2 gtD (oVar 5) (oVal (cC (.int 1))))) (tOf (c2 ltD (oVal (cN lenD (aCons (oVal (c2 ixD (oVal (cCall none F__law_told (aCons (oVal (cC (.int 5))) (aCons (oVal (cVar 26)) (aCons (oVal (c2 addD (oVal (c2 ixD (oVar 25) (oVal (cC (.int 1))))) (oVal (cC (.int 1))))) aNil))))) (oVal (cC (.int 1))))) aNil))) (oVal (cC (.int 2))))))
  (sRet (cC (.bl false)))
  sNil)
  (sSeq (sAsgT (gT (gsC (gN 27) (gsC (gN 16) gsN))) (c2 ixD (oVal (cLst (aCons (oVal (cTup (aCons (oVal (cTup aNil)) (aCons (oVal (cC (.str "refused"))) aNil)))) (aCons (oVal (cTup (aCons (oVal (cTup (aCons (oVal (cTup aNil)) aNil))) (aCons (oVal (cC (.str "refused"))) aNil)))) (aCons (oVal (cTup (aCons (oVal (cTup (aCons (oVal (cTup (aCons (oVal (cC (.int 0))) (aCons (oVal (cC (.int 1))) aNil)))) (aCons (oVal (cTup (aCons (oVal (cC (.int 0))) aNil))) aNil)))) (aCons (oVal (cC (.str "refused"))) aNil)))) (aCons (oVal (cTup (aCons (oVal (cTup (aCons (oVal (cTup (aCons (oVal (cC (.int 2))) aNil))) aNil))) (aCons (oVal (cC (.str "refused"))) aNil)))) (aCons (oVal (cTup (aCons (oVal (c2 mulD (oVal (cTup (aCons (oVal (cTup (aCons (oVal (cC (.int 0))) aNil))) aNil))) (oVal (cC (.int 9))))) (aCons (oVal (cC (.str "large"))) aNil)))) (aCons (oVal (cTup (aCons (oVal (cTup (aCons (oVal (c2 mulD (oVal (cTup (aCons (oVal (cC (.int 0))) aNil))) (oVal (cC (.int 7))))) aNil))) (aCons (oVal (cC (.str "large"))) aNil)))) (aCons (oVal (cTup (aCons (oVal (cTup (aCons (oVal (cTup (aCons (oVal (c1 negD (oVal (cC (.int 1))))) aNil))) aNil))) (aCons (oVal (cC (.str "refused"))) aNil)))) aNil))))))))) (oVal (cCall (some 0) F__law_next (aCons (oVar 1) (aCons (oVal (cC (.int 7))) aNil))))))
  (sSeq (sIf (tOr' (tOf (c2 (eqD true) (oVal (c2 addD (oVal (cComp [35] (gN 35) tYesC (cCall none F__law_told (aCons (oVal (cVar 35)) (aCons (oVal (cVar 27)) (aCons (oVal (c1 negD (oVal (cC (.int 1))))) aNil)))) (iL rngD1 (aCons (oVal (cC (.int 9))) aNil)))) (oVal (cComp [35] (gN 35) tYesC (cCall none F__law_told (aCons (oVal (cVar 35)) (aCons (oVal (cVar 27)) (aCons (oVal (cTup aNil)) aNil)))) (iSeq (cLst (aCons (oVal (cC (.int 9))) (aCons (oVal (cC (.int 10))) aNil)))))))) (oVal (c2 mulD (oVal (cLst (aCons (oVar 16) aNil))) (oVal (cC (.int 11))))))) (tOf (c2 (eqD true) (oVal (cN reprD (aCons (oVar 3) aNil))) (oVar 4))))
  (sRet (cC (.bl false)))
  sNil)
  (sSeq (sAsg 28 (c2 addD (oVal (cComp [35] (gN 35) tYesC (cCall none F__law_told (aCons (oVal (cVar 35)) (aCons (oVal (cVar 3)) (aCons (oVal (c1 negD (oVal (cC (.int 1))))) aNil)))) (iSeq (cLst (aCons (oVal (cC (.int 5))) (aCons (oVal (cC (.int 6))) (aCons (oVal (cC (.int 7))) (aCons (oVal (cC (.int 8))) aNil)))))))) (oVal (cComp [12] (gN 12) tYesC (cCall none F__law_told (aCons (oVal (cC (.int 9))) (aCons (oVal (cVar 3)) (aCons (oVal (cVar 12)) aNil)))) (iSeq (cLst (aCons (oVal (c2 addD (oVar 20) (oVal (cTup (aCons (oVal (cC (.int 0))) aNil))))) (aCons (oVal (cSl (oVar 20) (pSm (oVal (cC (.int 1)))) pNo)) (aCons (oVal (c2 addD (oVal (cTup (aCons (oVal (cC (.int 2))) aNil))) (oVal (cSl (oVar 20) (pSm (oVal (cC (.int 1)))) pNo)))) aNil)))))))))
  (sIf (tOf (c2 (eqD true) (oVar 28) (oVal (c2 mulD (oVal (cLst (aCons (oVal (cC (.str "refused"))) aNil))) (oVal (cC (.int 7)))))))
  (sRet (cC (.bl false)))
  sNil))))))))))))))))))))))))))))))
  (sSeq (sAsg 29 (cLst (aCons (oVal (cCall none F__law_told (aCons (oVal (cC (.int 11))) (aCons (oVal (cC (.int 0))) (aCons (oVal (cC (.int 1))) aNil))))) (aCons (oVal (cCall none F__law_told (aCons (oVal (cC (.int 11))) (aCons (oVal (cC (.int 1))) (aCons (oVal (cC (.int 0))) aNil))))) (aCons (oVal (cCall none F__law_told (aCons (oVal (cC (.int 11))) (aCons (oVal (cC (.int 9))) (aCons (oVal (cC (.int 1))) aNil))))) (aCons (oVal (cCall none F__law_told (aCons (oVal (cC (.int 11))) (aCons (oVal (cC (.int 1))) (aCons (oVal (cC (.int 7))) aNil))))) aNil))))))
  (sRet (cAnd (c2 (eqD false) (oVar 29) (oVal (cLst (aCons (oVal (cC (.str "refused"))) (aCons (oVal (cC (.str "refused"))) (aCons (oVal (cC (.str "large"))) (aCons (oVal (cC (.str "large"))) aNil))))))) (c2 (eqD false) (oVal (cTup (aCons (oVal (cC (.int (8)))) (aCons (oVal (cC (.int (6)))) aNil)))) (oVal (cTup (aCons (oVal (cC (.int 8))) (aCons (oVal (cC (.int 6))) aNil))))))))))
def F_law : FSem := fnD none 1 (List.length N_law) S_law
theorem fn_law (Φ : Facts K mg) {fd : FuncData} (F : FunD K "law" "law" (defArgs s_law) (defBody s_law) (defScope s_law) [] [] (He.ga K "law") fd) : FnG P w K mg base 7 (He.ga K "law") fd ["script"] (spD K mg 1 none F_law) := by
  refine fnG_of (k := 6) (N := N_law) F sc_law rfl ?_
  intro cdv A outer s H E p hio0 hB hgd hroom
  have R := rdy_of (P := P) (w := w) (K := K) (mg := mg) (base := base) (N := N_law) (outer := outer) (E := E) (H := H) hgd hroom
  have U := R.u65
  have HP := passes_cx (P := P) (w := w) (K := K) (mg := mg) (base := base) (N := N_law) (qual := "law") (scope := defScope s_law) (f := He.ga K "law") (cd := cdv) (A := A) (outer := outer) (s := s) (H := H) (E := E)
  exact (dss_cons (ds_set nd_law (by kernel_rfl) (loc_ok (by kernel_rfl)) (de_lst (da_cons (db_val (de_call R ((c__law_stream Φ).mono (by decide)) (gl (by kernel_rfl)) (da_cons (db_val (eV 0)) da_nil))) (da_cons (db_val de_int) da_nil))))
  (dss_cons (ds_for HP (by kernel_rfl) (di_range1 (gl (by kernel_rfl)) Φ.b_range (da_cons (db_val de_int) da_nil)) (nV 2 nd_law)
  (dss_cons (ds_set nd_law (by kernel_rfl) (loc_ok (by kernel_rfl)) (de_call R ((c__law_reports Φ).mono (by decide)) (gl (by kernel_rfl)) (da_cons (bV 1) da_nil)))
  (dss_cons (ds_set nd_law (by kernel_rfl) (loc_ok (by kernel_rfl)) (kRepr R Φ.b_repr (da_cons (bV 3) da_nil)))
  (dss_cons (ds_parC (by kernel_rfl) nd_law (by kernel_rfl) (by kernel_rfl) (loc_ok (by kernel_rfl)) (loc_ok (by kernel_rfl)) (dm_cons (kLen Φ.b_len (da_cons (bV 3) da_nil)) (dm_cons (kLen Φ.b_len (da_cons (db_val (xIx U (bV 3) (db_val de_int))) da_nil)) dm_nil)))
  (dss_cons (ds_set nd_law (by kernel_rfl) (loc_ok (by kernel_rfl)) (de_call R ((c__law_next Φ).mono (by decide)) (gl (by kernel_rfl)) (da_cons (bV 1) (da_cons (db_val (xAdd (bV 5) (db_val de_int))) da_nil))))
  (dss_cons (ds_set nd_law (by kernel_rfl) (loc_ok (by kernel_rfl)) (de_call R ((c__law_bits Φ).mono (by decide)) (gl (by kernel_rfl)) (da_cons (db_val (eV 6)) da_nil)))
  (dss_cons (ds_set nd_law (by kernel_rfl) (loc_ok (by kernel_rfl)) (de_comp (by kernel_rfl) nd_law (di_seq (eV 8)) (blkOk_by (own := [("facts", 20)]) (by kernel_rfl)) (by decide) (fun _ _ _ _ _ => (nV 20 nd_law)) (fun _ _ _ _ _ => (dts_one (tLe (db_val (kLen Φ.b_len (da_cons (db_val (de_call R.blk ((c__law_wrong Φ).mono (by decide)) (gl (by kernel_rfl)) (da_cons (db_val (eV 3)) (da_cons (db_val (eV 20)) da_nil)))) da_nil))) (bV 7)))) (fun _ _ _ _ _ => (eV 20))))
  (dss_cons (ds_set nd_law (by kernel_rfl) (loc_ok (by kernel_rfl)) (kMinA U Φ.b_min (da_cons (db_val (de_comp (by kernel_rfl) nd_law (di_seq (eV 8)) (blkOk_by (own := [("facts", 20)]) (by kernel_rfl)) (by decide) (fun _ _ _ _ _ => (nV 20 nd_law)) (fun _ _ _ _ _ => dts_nil) (fun _ _ _ _ _ => (kLen Φ.b_len (da_cons (db_val (de_call R.blk ((c__law_wrong Φ).mono (by decide)) (gl (by kernel_rfl)) (da_cons (db_val (eV 3)) (da_cons (db_val (eV 20)) da_nil)))) da_nil))))) da_nil)))
  (dss_cons (ds_set nd_law (by kernel_rfl) (loc_ok (by kernel_rfl)) (de_lst da_nil))
  (dss_cons (ds_for HP (by kernel_rfl) (di_range1 (gl (by kernel_rfl)) Φ.b_range (da_cons (bV 5) da_nil)) (nV 12 nd_law)
  (dss_one (ds_expr (de_m1 vm_extend (by kernel_rfl) (vis_ok (by kernel_rfl)) PySem.F.plainAttrs_list PySem.F.slot_list_extend PySem.F.type_list_extend mt_extend (de_comp (by kernel_rfl) nd_law (di_range2 (gl (by kernel_rfl)) Φ.b_range (da_cons (db_val (xAdd (bV 12) (db_val de_int))) (da_cons (bV 5) da_nil))) (blkOk_by (own := [("two", 30)]) (by kernel_rfl)) (by decide) (fun _ _ _ _ _ => (nV 30 nd_law)) (fun _ _ _ _ _ => (dts_one (dt_tru (db_val (kAny Φ.b_any (da_cons (db_val (de_comp (by kernel_rfl) nd_law (di_zip (gl (by kernel_rfl)) Φ.b_zip (xIx (by exact U) (bV 3) (bV 12)) (xIx (by exact U) (bV 3) (bV 30))) (blkOk_by (own := [("a", 31), ("b", 32)]) (by kernel_rfl)) (by decide) (fun _ _ _ _ _ => (dg_tup (by kernel_rfl) (dgs_cons (nV 31 nd_law) (dgs_cons (nV 32 nd_law) dgs_nil)) (fun _ _ _ h => gsC_len (fun _ _ _ h => gsC_len (fun _ _ _ h => gsN_len h) h) h))) (fun _ _ _ _ _ => dts_nil) (fun _ _ _ _ _ => (de_andv (xNotIn (by exact U) (db_val de_non) (db_val (de_lst (da_cons (bV 31) (da_cons (bV 32) da_nil))))) (de_bone (xNe (by exact U) (bV 31) (bV 32))))))) da_nil)))))) (fun _ _ _ _ _ => (de_tup (da_cons (bV 12) (da_cons (bV 30) da_nil)))))))))
  (dss_cons (ds_set nd_law (by kernel_rfl) (loc_ok (by kernel_rfl)) (de_call R ((c__law_largest Φ).mono (by decide)) (gl (by kernel_rfl)) (da_cons (db_val (eV 11)) da_nil)))
  (dss_cons (ds_setC (by kernel_rfl) nd_law (by kernel_rfl) (by kernel_rfl) (sw_true rfl (by kernel_rfl) (by kernel_rfl) (by kernel_rfl)) (di_range1 (gl (by kernel_rfl)) Φ.b_range (da_cons (bV 6) da_nil)) (blkOk_by (own := [("at", 33)]) (by kernel_rfl)) (by decide) (fun _ _ _ _ _ => (nV 33 nd_law)) (fun _ _ _ _ _ => dts_nil) (fun _ _ _ _ _ => (de_comp (by kernel_rfl) nd_law (di_seq (eV 3)) (blkOk_by (own := [("row", 34)]) (by kernel_rfl)) (by decide) (fun _ _ _ _ _ => (nV 34 nd_law)) (fun _ _ _ _ _ => dts_nil) (fun _ _ _ _ _ => (xIx (by exact U) (bV 34) (bV 33))))))
  (dss_cons (ds_set nd_law (by kernel_rfl) (loc_ok (by kernel_rfl)) (kTuple Φ.b_tuple (da_cons (db_val (de_comp (by kernel_rfl) nd_law (di_seq (eV 14)) (blkOk_by (own := [("row", 34)]) (by kernel_rfl)) (by decide) (fun _ _ _ _ _ => (nV 34 nd_law)) (fun _ _ _ _ _ => dts_nil) (fun _ _ _ _ _ => (xIx (by exact U) (db_val (de_lst (da_cons (db_val (kInt Φ.b_int (da_cons (db_val (xGt (db_val (de_count (by exact U) (gV 34) (db_val de_int))) (db_val (de_count (by exact U) (gV 34) (db_val de_int))))) da_nil))) (da_cons (db_val de_non) da_nil)))) (db_val (kInt Φ.b_int (da_cons (db_val (xEq (by exact U) (db_val (de_count (by exact U) (gV 34) (db_val de_int))) (db_val (de_count (by exact U) (gV 34) (db_val de_int))))) da_nil))))))) da_nil)))
  (dss_cons (ds_set nd_law (by kernel_rfl) (loc_ok (by kernel_rfl)) (de_lst (da_cons (db_val (de_tup (da_cons (db_val de_str) (da_cons (db_val de_non) da_nil)))) (da_cons (db_val (de_tup (da_cons (db_val de_str) (da_cons (bV 10) da_nil)))) (da_cons (db_val (de_tup (da_cons (db_val de_str) (da_cons (db_val (kTuple Φ.b_tuple (da_cons (bV 11) da_nil))) da_nil)))) (da_cons (db_val (de_tup (da_cons (db_val de_str) (da_cons (bV 13) da_nil)))) (da_cons (db_val (de_tup (da_cons (db_val de_str) (da_cons (bV 15) da_nil)))) da_nil)))))))
  (dss_cons (ds_if (dt_w (dw_or (dt_not (dt_tru (db_val (de_call R ((c__law_same Φ).mono (by decide)) (gl (by kernel_rfl)) (da_cons (db_val (de_comp (by kernel_rfl) nd_law (di_range1 (gl (by kernel_rfl)) Φ.b_range (da_cons (db_val de_int) da_nil)) (blkOk_by (own := [("k", 35)]) (by kernel_rfl)) (by decide) (fun _ _ _ _ _ => (nV 35 nd_law)) (fun _ _ _ _ _ => dts_nil) (fun _ _ _ _ _ => (de_call R.blk ((c__law_told Φ).mono (by decide)) (gl (by kernel_rfl)) (da_cons (db_val (eV 35)) (da_cons (db_val (eV 3)) (da_cons (db_val de_int) da_nil))))))) (da_cons (db_val (eV 16)) da_nil)))))) (dw_or1 (tGt (db_val (kLen Φ.b_len (da_cons (bV 13) da_nil))) (bV 10)))))
  (dss_one (ds_ret de_bl))
  dss_nil)
  (dss_cons (ds_set nd_law (by kernel_rfl) (loc_ok (by kernel_rfl)) (xMul (db_val (de_lst (da_cons (db_val de_str) da_nil))) (db_val de_int)))
  (dss_cons (ds_if (tGt (db_val (kLen Φ.b_len (da_cons (bV 9) da_nil))) (db_val de_int))
  (dss_cons (ds_set nd_law (by kernel_rfl) (loc_ok (by kernel_rfl)) (kTuple Φ.b_tuple (da_cons (db_val (de_comp (by kernel_rfl) nd_law (di_range1 (gl (by kernel_rfl)) Φ.b_range (da_cons (bV 6) da_nil)) (blkOk_by (own := [("at", 33)]) (by kernel_rfl)) (by decide) (fun _ _ _ _ _ => (nV 33 nd_law)) (fun _ _ _ _ _ => dts_nil) (fun _ _ _ _ _ => (xIx (by exact U) (db_val (de_lst (da_cons (db_val de_non) (da_cons (db_val (xIx (by exact U) (db_val (xIx (by exact U) (bV 9) (db_val de_int))) (bV 33))) da_nil)))) (db_val (kInt Φ.b_int (da_cons (db_val (xEq (by exact U) (db_val (de_lenSet Φ.b_len Φ.b_set (de_comp (by kernel_rfl) nd_law (di_seq (eV 9)) (blkOk_by (own := [("facts", 20)]) (by kernel_rfl)) (by decide) (fun _ _ _ _ _ => (nV 20 nd_law)) (fun _ _ _ _ _ => dts_nil) (fun _ _ _ _ _ => (xIx (by exact U) (bV 20) (bV 33)))))) (db_val de_int))) da_nil))))))) da_nil)))
  (dss_cons (ds_set nd_law (by kernel_rfl) (loc_ok (by kernel_rfl)) (kTuple Φ.b_tuple (da_cons (db_val (de_comp (by kernel_rfl) nd_law (di_range1 (gl (by kernel_rfl)) Φ.b_range (da_cons (bV 5) da_nil)) (blkOk_by (own := [("k", 35)]) (by kernel_rfl)) (by decide) (fun _ _ _ _ _ => (nV 35 nd_law)) (fun _ _ _ _ _ => (dts_one (dt_tru (db_val (kAll Φ.b_all (da_cons (db_val (de_comp (by kernel_rfl) nd_law (di_seq (eV 9)) (blkOk_by (own := [("facts", 20)]) (by kernel_rfl)) (by decide) (fun _ _ _ _ _ => (nV 20 nd_law)) (fun _ _ _ _ _ => dts_nil) (fun _ _ _ _ _ => (xIn (by exact U) (bV 35) (db_val (de_call R.blk.blk ((c__law_wrong Φ).mono (by decide)) (gl (by kernel_rfl)) (da_cons (db_val (eV 3)) (da_cons (db_val (eV 20)) da_nil)))))))) da_nil)))))) (fun _ _ _ _ _ => (eV 35)))) da_nil)))
  (dss_one (ds_set nd_law (by kernel_rfl) (loc_ok (by kernel_rfl)) (de_lst (da_cons (db_val (de_tup (da_cons (db_val de_str) (da_cons (bV 18) da_nil)))) (da_cons (db_val (de_tup (da_cons (db_val de_str) (da_cons (bV 19) da_nil)))) (da_cons (db_val (de_tup (da_cons (db_val de_str) (da_cons (db_val (xNotIn U (db_val de_non) (bV 18))) da_nil)))) da_nil))))))))
  dss_nil)
  (dss_cons (ds_if (dt_not (dt_tru (db_val (de_call R ((c__law_same Φ).mono (by decide)) (gl (by kernel_rfl)) (da_cons (db_val (de_comp (by kernel_rfl) nd_law (di_seq (de_lst (da_cons (db_val de_int) (da_cons (db_val de_int) (da_cons (db_val de_int) (da_cons (db_val de_int) da_nil)))))) (blkOk_by (own := [("k", 35)]) (by kernel_rfl)) (by decide) (fun _ _ _ _ _ => (nV 35 nd_law)) (fun _ _ _ _ _ => dts_nil) (fun _ _ _ _ _ => (de_call R.blk ((c__law_told Φ).mono (by decide)) (gl (by kernel_rfl)) (da_cons (db_val (eV 35)) (da_cons (db_val (eV 3)) (da_cons (db_val (eV 7)) da_nil))))))) (da_cons (db_val (xAdd (db_val (de_lst (da_cons (db_val (de_tup (da_cons (db_val de_str) (da_cons (bV 9) da_nil)))) da_nil))) (bV 17))) da_nil))))))
  (dss_one (ds_ret de_bl))
  dss_nil)
  (dss_cons (ds_set nd_law (by kernel_rfl) (loc_ok (by kernel_rfl)) (xIx U (bV 8) (db_val (de_call R ((c__law_next Φ).mono (by decide)) (gl (by kernel_rfl)) (da_cons (bV 1) (da_cons (db_val (kLen Φ.b_len (da_cons (bV 8) da_nil))) da_nil))))))
  (dss_cons (ds_if (dt_not (dt_tru (db_val (de_call R ((c__law_same Φ).mono (by decide)) (gl (by kernel_rfl)) (da_cons (db_val (de_call R ((c__law_told Φ).mono (by decide)) (gl (by kernel_rfl)) (da_cons (db_val de_int) (da_cons (db_val (eV 3)) (da_cons (db_val (eV 20)) da_nil))))) (da_cons (db_val (de_tup (da_cons (db_val de_str) (da_cons (db_val (de_call R ((c__law_wrong Φ).mono (by decide)) (gl (by kernel_rfl)) (da_cons (db_val (eV 3)) (da_cons (db_val (eV 20)) da_nil)))) da_nil)))) da_nil))))))
  (dss_one (ds_ret de_bl))
  dss_nil)
  (dss_cons (ds_for HP (by kernel_rfl) (di_seq (de_lst (da_cons (bV 13) (da_cons (db_val (de_slice (bV 13) (dp_sm (db_val de_int)) dp_no)) (da_cons (db_val (de_revB (eV 13))) (da_cons (db_val (de_tup da_nil)) (da_cons (db_val (xAdd (bV 13) (db_val (de_slice (bV 13) dp_no (dp_sm (db_val de_int)))))) (da_cons (db_val (de_tup (da_cons (db_val (de_tup (da_cons (db_val de_int) (da_cons (db_val de_int) da_nil)))) da_nil))) (da_cons (db_val (de_tup (da_cons (db_val (de_tup (da_cons (db_val de_int) (da_cons (db_val de_int) da_nil)))) da_nil))) (da_cons (db_val (de_tup (da_cons (db_val (de_tup (da_cons (db_val de_int) (da_cons (bV 5) da_nil)))) da_nil))) (da_cons (db_val (kTuple Φ.b_tuple (da_cons (db_val (de_slice (bV 11) dp_no (dp_sm (db_val de_int)))) da_nil))) (da_cons (db_val (kTuple Φ.b_tuple (da_cons (bV 11) da_nil))) da_nil)))))))))))) (nV 21 nd_law)
  (dss_cons (ds_set nd_law (by kernel_rfl) (loc_ok (by kernel_rfl)) (de_lst da_nil))
  (dss_cons (ds_for HP (by kernel_rfl) (di_seq (eV 21)) (nV 23 nd_law)
  (dss_one (ds_set nd_law (by kernel_rfl) (loc_ok (by kernel_rfl)) (xAdd (bV 22) (db_val (kList Φ.b_list (da_cons (bV 23) da_nil)))))))
  (dss_cons (ds_set nd_law (by kernel_rfl) (loc_ok (by kernel_rfl)) (de_andv (kAll Φ.b_all (da_cons (db_val (de_comp (by kernel_rfl) nd_law (di_seq (eV 21)) (blkOk_by (own := [("pair", 23)]) (by kernel_rfl)) (by decide) (fun _ _ _ _ _ => (nV 23 nd_law)) (fun _ _ _ _ _ => dts_nil) (fun _ _ _ _ _ => (xIn (by exact U) (bV 23) (bV 11))))) da_nil)) (de_bone (xEq U (db_val (de_lenSet Φ.b_len Φ.b_set (eV 22))) (db_val (kLen Φ.b_len (da_cons (bV 22) da_nil)))))))
  (dss_one (ds_if (dt_not (dt_tru (db_val (de_call R ((c__law_same Φ).mono (by decide)) (gl (by kernel_rfl)) (da_cons (db_val (de_call R ((c__law_told Φ).mono (by decide)) (gl (by kernel_rfl)) (da_cons (db_val de_int) (da_cons (db_val (eV 3)) (da_cons (db_val (eV 21)) da_nil))))) (da_cons (db_val (xIx U (db_val (de_lst (da_cons (db_val de_str) (da_cons (db_val (de_tup (da_cons (db_val de_str) (da_cons (db_val de_bl) da_nil)))) da_nil)))) (db_val (kInt Φ.b_int (da_cons (bV 24) da_nil))))) da_nil))))))
  (dss_one (ds_ret de_bl))
  dss_nil))))))
  (dss_cons (ds_set nd_law (by kernel_rfl) (loc_ok (by kernel_rfl)) (de_call R ((c__law_told Φ).mono (by decide)) (gl (by kernel_rfl)) (da_cons (db_val de_int) (da_cons (db_val (eV 5)) (da_cons (db_val (eV 6)) da_nil)))))
  (dss_cons (ds_if (tNe U (bV 25) (db_val (de_tup (da_cons (db_val de_str) (da_cons (db_val (xDiv (db_val (xSub (bV 5) (db_val de_int))) (db_val de_int))) da_nil)))))
  (dss_one (ds_ret de_bl))
  dss_nil)
  (dss_cons (ds_if (dt_w (dw_and (dt_not (dt_tru (db_val (kAny Φ.b_any (da_cons (db_val (de_comp (by kernel_rfl) nd_law (di_seq (eV 3)) (blkOk_by (own := [("row", 34)]) (by kernel_rfl)) (by decide) (fun _ _ _ _ _ => (nV 34 nd_law)) (fun _ _ _ _ _ => dts_nil) (fun _ _ _ _ _ => (xIn (by exact U) (db_val de_non) (bV 34))))) da_nil))))) (dw_and1 (tGt (db_val (kLen Φ.b_len (da_cons (db_val (de_comp (by kernel_rfl) nd_law (di_seq (eV 8)) (blkOk_by (own := [("one", 12)]) (by kernel_rfl)) (by decide) (fun _ _ _ _ _ => (nV 12 nd_law)) (fun _ _ _ _ _ => (dts_one (tLe (db_val (kLen Φ.b_len (da_cons (db_val (de_call R.blk ((c__law_wrong Φ).mono (by decide)) (gl (by kernel_rfl)) (da_cons (db_val (eV 3)) (da_cons (db_val (eV 12)) da_nil)))) da_nil))) (db_val (xIx (by exact U) (bV 25) (db_val de_int)))))) (fun _ _ _ _ _ => (eV 12)))) da_nil))) (db_val de_int)))))
  (dss_one (ds_ret de_bl))
  dss_nil)
  (dss_cons (ds_set nd_law (by kernel_rfl) (loc_ok (by kernel_rfl)) (kTuple Φ.b_tuple (da_cons (db_val (de_comp (by kernel_rfl) nd_law (di_range1 (gl (by kernel_rfl)) Φ.b_range (da_cons (bV 5) da_nil)) (blkOk_by (own := [("k", 35)]) (by kernel_rfl)) (by decide) (fun _ _ _ _ _ => (nV 35 nd_law)) (fun _ _ _ _ _ => dts_nil) (fun _ _ _ _ _ => (xIx (by exact U) (db_val (de_tup (da_cons (db_val (xMul (db_val (de_tup (da_cons (db_val de_int) da_nil))) (bV 6))) (da_cons (db_val (xMul (db_val (de_tup (da_cons (db_val de_int) da_nil))) (bV 6))) da_nil)))) (db_val (kInt Φ.b_int (da_cons (db_val (xGt (bV 35) (db_val (xIx (by exact U) (bV 25) (db_val de_int))))) da_nil))))))) da_nil)))
  (dss_cons (ds_if (dt_w (dw_and (tGt (bV 5) (db_val de_int)) (dw_and1 (tLt (db_val (kLen Φ.b_len (da_cons (db_val (xIx U (db_val (de_call R ((c__law_told Φ).mono (by decide)) (gl (by kernel_rfl)) (da_cons (db_val de_int) (da_cons (db_val (eV 26)) (da_cons (db_val (xAdd (db_val (xIx U (bV 25) (db_val de_int))) (db_val de_int))) da_nil))))) (db_val de_int))) da_nil))) (db_val de_int)))))
  (dss_one (ds_ret de_bl))
  dss_nil)
  (dss_cons (ds_asgT (xIx U (db_val (de_lst (da_cons (db_val (de_tup (da_cons (db_val (de_tup da_nil)) (da_cons (db_val de_str) da_nil)))) (da_cons (db_val (de_tup (da_cons (db_val (de_tup (da_cons (db_val (de_tup da_nil)) da_nil))) (da_cons (db_val de_str) da_nil)))) (da_cons (db_val (de_tup (da_cons (db_val (de_tup (da_cons (db_val (de_tup (da_cons (db_val de_int) (da_cons (db_val de_int) da_nil)))) (da_cons (db_val (de_tup (da_cons (db_val de_int) da_nil))) da_nil)))) (da_cons (db_val de_str) da_nil)))) (da_cons (db_val (de_tup (da_cons (db_val (de_tup (da_cons (db_val (de_tup (da_cons (db_val de_int) da_nil))) da_nil))) (da_cons (db_val de_str) da_nil)))) (da_cons (db_val (de_tup (da_cons (db_val (xMul (db_val (de_tup (da_cons (db_val (de_tup (da_cons (db_val de_int) da_nil))) da_nil))) (db_val de_int))) (da_cons (db_val de_str) da_nil)))) (da_cons (db_val (de_tup (da_cons (db_val (de_tup (da_cons (db_val (xMul (db_val (de_tup (da_cons (db_val de_int) da_nil))) (db_val de_int))) da_nil))) (da_cons (db_val de_str) da_nil)))) (da_cons (db_val (de_tup (da_cons (db_val (de_tup (da_cons (db_val (de_tup (da_cons (db_val (xNeg (db_val de_int))) da_nil))) da_nil))) (da_cons (db_val de_str) da_nil)))) da_nil))))))))) (db_val (de_call R ((c__law_next Φ).mono (by decide)) (gl (by kernel_rfl)) (da_cons (bV 1) (da_cons (db_val de_int) da_nil))))) (dg_tup (by kernel_rfl) (dgs_cons (nV 27 nd_law) (dgs_cons (nV 16 nd_law) dgs_nil)) (fun _ _ _ h => gsC_len (fun _ _ _ h => gsC_len (fun _ _ _ h => gsN_len h) h) h)))
  (dss_cons (ds_if (dt_w (dw_or (tNe U (db_val (xAdd (db_val (de_comp (by kernel_rfl) nd_law (di_range1 (gl (by kernel_rfl)) Φ.b_range (da_cons (db_val de_int) da_nil)) (blkOk_by (own := [("k", 35)]) (by kernel_rfl)) (by decide) (fun _ _ _ _ _ => (nV 35 nd_law)) (fun _ _ _ _ _ => dts_nil) (fun _ _ _ _ _ => (de_call R.blk ((c__law_told Φ).mono (by decide)) (gl (by kernel_rfl)) (da_cons (db_val (eV 35)) (da_cons (db_val (eV 27)) (da_cons (db_val (xNeg (db_val de_int))) da_nil))))))) (db_val (de_comp (by kernel_rfl) nd_law (di_seq (de_lst (da_cons (db_val de_int) (da_cons (db_val de_int) da_nil)))) (blkOk_by (own := [("k", 35)]) (by kernel_rfl)) (by decide) (fun _ _ _ _ _ => (nV 35 nd_law)) (fun _ _ _ _ _ => dts_nil) (fun _ _ _ _ _ => (de_call R.blk ((c__law_told Φ).mono (by decide)) (gl (by kernel_rfl)) (da_cons (db_val (eV 35)) (da_cons (db_val (eV 27)) (da_cons (db_val (de_tup da_nil)) da_nil))))))))) (db_val (xMul (db_val (de_lst (da_cons (bV 16) da_nil))) (db_val de_int)))) (dw_or1 (tNe U (db_val (kRepr R Φ.b_repr (da_cons (bV 3) da_nil))) (bV 4)))))
  (dss_one (ds_ret de_bl))
  dss_nil)
  (dss_cons (ds_set nd_law (by kernel_rfl) (loc_ok (by kernel_rfl)) (xAdd (db_val (de_comp (by kernel_rfl) nd_law (di_seq (de_lst (da_cons (db_val de_int) (da_cons (db_val de_int) (da_cons (db_val de_int) (da_cons (db_val de_int) da_nil)))))) (blkOk_by (own := [("k", 35)]) (by kernel_rfl)) (by decide) (fun _ _ _ _ _ => (nV 35 nd_law)) (fun _ _ _ _ _ => dts_nil) (fun _ _ _ _ _ => (de_call R.blk ((c__law_told Φ).mono (by decide)) (gl (by kernel_rfl)) (da_cons (db_val (eV 35)) (da_cons (db_val (eV 3)) (da_cons (db_val (xNeg (db_val de_int))) da_nil))))))) (db_val (de_comp (by kernel_rfl) nd_law (di_seq (de_lst (da_cons (db_val (xAdd (bV 20) (db_val (de_tup (da_cons (db_val de_int) da_nil))))) (da_cons (db_val (de_slice (bV 20) (dp_sm (db_val de_int)) dp_no)) (da_cons (db_val (xAdd (db_val (de_tup (da_cons (db_val de_int) da_nil))) (db_val (de_slice (bV 20) (dp_sm (db_val de_int)) dp_no)))) da_nil))))) (blkOk_by (own := [("one", 12)]) (by kernel_rfl)) (by decide) (fun _ _ _ _ _ => (nV 12 nd_law)) (fun _ _ _ _ _ => dts_nil) (fun _ _ _ _ _ => (de_call R.blk ((c__law_told Φ).mono (by decide)) (gl (by kernel_rfl)) (da_cons (db_val de_int) (da_cons (db_val (eV 3)) (da_cons (db_val (eV 12)) da_nil)))))))))
  (dss_one (ds_if (tNe U (bV 28) (db_val (xMul (db_val (de_lst (da_cons (db_val de_str) da_nil))) (db_val de_int))))
  (dss_one (ds_ret de_bl))
  dss_nil)))))))))))))))))))))))))))))))
  (dss_cons (ds_set nd_law (by kernel_rfl) (loc_ok (by kernel_rfl)) (de_lst (da_cons (db_val (de_call R ((c__law_told Φ).mono (by decide)) (gl (by kernel_rfl)) (da_cons (db_val de_int) (da_cons (db_val de_int) (da_cons (db_val de_int) da_nil))))) (da_cons (db_val (de_call R ((c__law_told Φ).mono (by decide)) (gl (by kernel_rfl)) (da_cons (db_val de_int) (da_cons (db_val de_int) (da_cons (db_val de_int) da_nil))))) (da_cons (db_val (de_call R ((c__law_told Φ).mono (by decide)) (gl (by kernel_rfl)) (da_cons (db_val de_int) (da_cons (db_val de_int) (da_cons (db_val de_int) da_nil))))) (da_cons (db_val (de_call R ((c__law_told Φ).mono (by decide)) (gl (by kernel_rfl)) (da_cons (db_val de_int) (da_cons (db_val de_int) (da_cons (db_val de_int) da_nil))))) da_nil))))))
  (dss_one (ds_ret (de_andv (xEq U (bV 29) (db_val (de_lst (da_cons (db_val de_str) (da_cons (db_val de_str) (da_cons (db_val de_str) (da_cons (db_val de_str) da_nil))))))) (de_bone (xEq U (db_val (de_tup (da_cons (db_val (eI Φ.i_MAX_FOLK)) (da_cons (db_val (eI Φ.i_MAX_FACTS)) da_nil)))) (db_val (de_tup (da_cons (db_val de_int) (da_cons (db_val de_int) da_nil))))))))))))
theorem c_law (Φ : Facts K mg) : Ctr P w K mg base 7 "law" none F_law := by
  obtain ⟨fd, F, hm⟩ := Φ.d_law
  exact ⟨_, fd, ["script"], 1, fn_law Φ F, hm, F.kp, F.bindsN (fun _ _ _ _ _ _ us hl => match us, hl with | [_], _ => rfl), fun ds h => if_neg h, fun j h => by cases h <;> decide⟩
end
end Lw

set_option Elab.async false
set_option linter.all false
set_option maxRecDepth 100000
set_option maxHeartbeats 4000000
namespace Lw
open PySem L2 DL
def St (nums : List Int) (i : Nat) : D := .lst [.lst (nums.map D.int), .int (i : Int)]
def nx (nums : List Int) (i : Nat) (m : Int) : Int := ((nums[i % nums.length]?).getD 0 + ((i / nums.length : Nat) : Int) * 389 + (i : Int) * ((i / nums.length : Nat) : Int) * 17) % m
theorem next_ok {nums : List Int} (hn : nums ≠ []) (hl : nums.length < 1073741824) {i : Nat} (hi : i < 1000000) {m : Int} (hm : 0 < m) :
    F__law_next [St nums i, .int m] = .ok ((false, .int (nx nums (i + 1) m)), some (St nums (i + 1))) := by
  have hp : 0 < nums.length := List.length_pos_iff.mpr hn
  have e1 : ((i : Int) + 1) % (nums.length : Int) = (((i + 1) % nums.length : Nat) : Int) := by simp
  have e2 : ((i : Int) + 1) / (nums.length : Int) = (((i + 1) / nums.length : Nat) : Int) := by simp
  have hx : (i + 1) % nums.length < nums.length := Nat.mod_lt _ hp
  have e3 : atI (nums.map D.int) (((i : Int) + 1) % (nums.length : Int)) = some (.int ((nums[(i + 1) % nums.length]?).getD 0)) := by
    rw [e1]
    apply atI_g
    rw [List.getElem?_map, List.getElem?_eq_getElem hx]; rfl
  have e4 : ((i : Int) + 1).natAbs < 18446744073709551616 := by omega
  unfold F__law_next S__law_next St
  simp [entryE, entryS, ev_fdiv (a := (i : Int) + 1) (b := (nums.length : Int)) (by omega) (by omega), ev_mod (a := (i : Int) + 1) (b := (nums.length : Int)) (by omega), putD, show ixN 2 1 = some 1 from rfl, e3, ev_mul (b := 389) (Or.inr (by decide)), ev_mul (b := 17) (Or.inr (by decide)), ev_mul (a := (i : Int) + 1) (Or.inl e4), ev_mod hm, nx]
theorem pow18 : powD (.int 10) (.int 18) = some (false, .int 1000000000000000000) := by kernel_rfl
def Pin (h : D) (cell : Int) (s5 : Slot) (L : Nat) (j : Nat) (e : DL.Env) : Prop := ∃ (nums : List Int) (rest : Int) (s4 : Slot), e = [.sh h, .ow (.lst (nums.map D.int)), .sh (.int cell), .sh (.int rest), s4, s5] ∧ okS (some s4) = true ∧ nums.length ≤ L + j
def Pin2 (h : D) (cell rest : Int) (L : Nat) (j : Nat) (e : DL.Env) : Prop := ∃ (nums : List Int) (st : Int) (s4 : Slot), e = [.sh h, .ow (.lst (nums.map D.int)), .sh (.int cell), .sh (.int rest), s4, .sh (.int st)] ∧ okS (some s4) = true ∧ nums.length ≤ L + j
def Pout (h : D) (j : Nat) (e : DL.Env) : Prop := ∃ (nums : List Int) (s2 s3 s4 s5 : Slot), e = [.sh h, .ow (.lst (nums.map D.int)), s2, s3, s4, s5] ∧ okS (some s2) = true ∧ okS (some s3) = true ∧ okS (some s4) = true ∧ okS (some s5) = true ∧ nums.length ≤ 60 * j
theorem stream_ok (ns : List Int) (h : ns.length ≤ 63) : ∃ nums : List Int, nums ≠ [] ∧ nums.length ≤ 3781 ∧ F__law_stream [.scr (ns.map D.int)] = .ok ((true, .lst (nums.map D.int)), none) := by
  suffices hs : Sat (F__law_stream [.scr (ns.map D.int)]) fun r => ∃ nums : List Int, nums ≠ [] ∧ nums.length ≤ 3781 ∧ r = ((true, .lst (nums.map D.int)), none) by
    obtain ⟨a, h1, nums, h2, h3, rfl⟩ := hs
    exact ⟨nums, h2, h3, h1⟩
  have hcut : cutD (ns.map D.int) none (some 63) = ns.map D.int := by rw [cut_hi _ (by decide)]; exact List.take_of_length_le (by simpa using h)
  unfold F__law_stream S__law_stream
  simp [entryE, entryS, hcut]
  refine sat_for (Pout (.scr (ns.map D.int))) ?_ ?_ ?_
  · rintro j d e hd ⟨nums, s2, s3, s4, s5, rfl, h2, h3, h4, h5, hl⟩
    obtain ⟨i, hi⟩ : ∃ i : Int, d = .int i := by
      rw [List.getElem?_map] at hd
      cases hx : ns[j]? with
      | none => rw [hx] at hd; cases hd
      | some x => rw [hx] at hd; cases hd; exact ⟨x, rfl⟩
    subst hi
    have hj : j < 63 := by
      obtain ⟨hj, _⟩ := List.getElem?_eq_some_iff.mp hd
      simp at hj; omega
    simp [h2, h3, pow18]
    generalize (if i < 0 then -i else i) = rest
    cases hge : decide (1000000000000000000 ≤ rest) with
    | true =>
      simp [rngD1_ok (i := 60) (by decide) (by decide)]
      refine sat_for0 (Pin (.scr (ns.map D.int)) i s5 nums.length) ?_ ⟨nums, rest, s4, rfl, h4, Nat.le_refl _⟩ ?_
      · rintro j2 d2 e2 hd2 ⟨nums2, rest2, s42, rfl, h42, hl2⟩
        have hj2 : j2 < 60 := by
          obtain ⟨hj, _⟩ := List.getElem?_eq_some_iff.mp hd2
          simpa using hj
        simp [h42, ev_mod (b := 1009) (by decide), ev_fdiv (b := 1009) (by decide) (by decide), ev_app (ds := nums2.map D.int) (by simp; omega)]
        cases hz : (rest2 / 1009 == 0) with
        | true => simp; exact ⟨nums2 ++ [rest2 % 1009], rest2 / 1009, .sh d2, by simp, rfl, by simp; omega⟩
        | false => simp; exact ⟨nums2 ++ [rest2 % 1009], rest2 / 1009, .sh d2, by simp, rfl, by simp; omega⟩
      · rintro j2 e2 hj2 ⟨nums2, rest2, s42, rfl, h42, hl2⟩
        simp at hj2
        exact ⟨.inl rfl, nums2, _, _, _, _, rfl, rfl, rfl, h42, h5, by omega⟩
    | false =>
      simp [h5, ev_mod (b := 2147483647) (by decide), rngD1_ok (i := 10) (by decide) (by decide)]
      refine sat_for0 (Pin2 (.scr (ns.map D.int)) i rest nums.length) ?_ ⟨nums, _, s4, rfl, h4, Nat.le_refl _⟩ ?_
      · rintro j2 d2 e2 hd2 ⟨nums2, rest2, s42, rfl, h42, hl2⟩
        obtain ⟨rfl, hj2⟩ := rng_get hd2
        simp [h42, ev_mod (b := 2147483647) (by decide), ev_mod (b := 2147483629) (by decide), ev_mod (b := 1009) (by decide), ev_mul (b := 48271) (Or.inr (by decide)), ev_mul (a := 7) (Or.inl (by decide)), ev_mul (b := 69621) (Or.inr (by decide)), ev_app (ds := nums2.map D.int) (by simp; omega)]
        exact ⟨nums2 ++ [_], _, _, by simp; exact ⟨rfl, rfl, rfl⟩, rfl, by simp; omega⟩
      · rintro j2 e2 hj2 ⟨nums2, rest2, s42, rfl, h42, hl2⟩
        simp at hj2
        exact ⟨.inl rfl, nums2, _, _, _, _, rfl, rfl, rfl, h42, rfl, by omega⟩
  · exact ⟨[], .un, .un, .un, .un, rfl, rfl, rfl, rfl, rfl, Nat.zero_le _⟩
  · rintro j e hj ⟨nums, s2, s3, s4, s5, rfl, h2, h3, h4, h5, hl⟩
    simp at hj
    cases nums with
    | nil =>
      simp [ev_app (ds := []) (by decide)]
      exact ⟨[0], by simp, by simp, rfl⟩
    | cons x xs =>
      have hne : ((xs.length : Int) + 1 == 0) = false := by rw [beq_eq_false_iff_ne]; omega
      simp [hne]
      exact ⟨x :: xs, by simp, by simp at hl ⊢; omega, by simp⟩
theorem same_ok {d : D} (h : wR d ≤ 999999) (h2 : dR d ≤ 59) : F__law_same [d, d] = .ok ((false, .bl true), none) := by
  have hr : reprD [.lst [d]] = some (false, .str (toPy (.lst [d])).shown) := ev_repr (by simp [wR, wRL]; omega) (by simp [dR, dRL]; omega)
  unfold F__law_same S__law_same
  simp [entryE, entryS, hr]
theorem nx_rng (nums : List Int) (i : Nat) {m : Int} (h : 0 < m) : 0 ≤ nx nums i m ∧ nx nums i m < m := ⟨Int.emod_nonneg _ (by omega), Int.emod_lt_of_pos _ h⟩

theorem set_same {env : DL.Env} {v : Nat} {s0 : DL.Slot} (hv : env[v]? = some s0) : env.set v s0 = env := by
  apply List.ext_getElem?
  intro i
  by_cases h : v = i
  · subst h
    rw [hv, List.getElem?_set_self (List.getElem?_eq_some_iff.mp hv).1]
  · rw [List.getElem?_set_ne h]
theorem sat_for_all {β : Type} {f : CS} {v : Nat} {env : DL.Env} {ds : List D} {K : Fl × DL.Env → R β} {G : β → Prop} {s0 : DL.Slot} (hv : env[v]? = some s0) (h0 : okS (some s0) = true) (hs : ∀ d ∈ ds, f (env.set v (.sh d)) = .ok (.nx, env.set v (.sh d)))
    (hk : ∀ s, okS (some s) = true → Sat (K (.nx, env.set v s)) G) : Sat ((forL (gN v) f ds env).bind K) G := by
  obtain ⟨s', h1, h2⟩ := forL_all (env := env) (v := v) (s := s0) (by rw [hv]; exact h0) hs h0
  rw [set_same hv] at h2
  rw [h2]
  exact hk s' h1
theorem compL_inv {own : List Nat} {g : Gt} {tt : CT} {f : CE} {ds : List D} {env : DL.Env} (P : Nat → List D → DL.Env → Prop) (h0 : P 0 [] env) (hlen : ds.length ≤ 16777216)
    (hs : ∀ k acc e d, ds[k]? = some d → acc.length = k → P k acc e → ∃ v e', cstep own g tt f d e = .ok (some v, e') ∧ P (k + 1) (acc ++ [v]) e') : ∃ l e', compL own g tt f ds env [] = .ok (l, e') ∧ l.length = ds.length ∧ P ds.length l e' := by
  have key : ∀ (ds : List D) (k : Nat) (acc : List D) (env : DL.Env), acc.length = k → k + ds.length ≤ 16777216 → (∀ i acc e d, ds[i]? = some d → acc.length = k + i → P (k + i) acc e → ∃ v e', cstep own g tt f d e = .ok (some v, e') ∧ P (k + i + 1) (acc ++ [v]) e') → P k acc env → ∃ l e', compL own g tt f ds env acc = .ok (l, e') ∧ l.length = k + ds.length ∧ P (k + ds.length) l e' := by
    intro ds
    induction ds with
    | nil => intro k acc env ha _ _ p; exact ⟨acc, env, compL_nil, ha, p⟩
    | cons d ds ih =>
      intro k acc env ha hl hs p
      rw [List.length_cons] at hl
      obtain ⟨v, e1, h1, p1⟩ := hs 0 acc env d rfl ha p
      obtain ⟨l, e2, h2, h3, p2⟩ := ih (k + 1) (acc ++ [v]) e1 (by simp [ha]) (by omega) (fun i acc e d hd hac pe => by
        have := hs (i + 1) acc e d (by simpa using hd)
        rw [show k + (i + 1) = k + 1 + i by omega] at this
        exact this hac pe) p1
      refine ⟨l, e2, ?_, by rw [h3, List.length_cons]; omega, by rw [List.length_cons, show k + (ds.length + 1) = k + 1 + ds.length by omega]; exact p2⟩
      rw [compL_step, h1]
      simp only [R.bind_ok]
      rw [kCd_some (okT_lt (by omega)), h2]
  obtain ⟨l, e', h1, h2, h3⟩ := key ds 0 [] env rfl (by omega) (fun i acc e d hd ha pe => by rw [Nat.zero_add] at *; exact hs i acc e d hd ha pe) h0
  rw [Nat.zero_add] at h2 h3
  exact ⟨l, e', h1, h2, h3⟩
theorem wRL_le {c e : Nat} : ∀ {l : List D}, (∀ d ∈ l, wR d ≤ c ∧ dR d ≤ e) → wRL l ≤ c * l.length ∧ dRL l ≤ e
  | [], _ => by simp [wRL, dRL]
  | x :: l, h => by
    obtain ⟨h1, h2⟩ := h x (List.mem_cons_self ..)
    obtain ⟨i1, i2⟩ := wRL_le fun d hd => h d (List.mem_cons_of_mem _ hd)
    rw [wRL, dRL, List.length_cons, Nat.mul_add]
    exact ⟨by omega, by omega⟩
theorem atI_neg1 {α : Type} {xs : List α} (h : xs ≠ []) : atI xs (-1) = some (xs.getLast h) := by
  have hp := List.length_pos_iff.mpr h
  unfold atI ixN
  rw [if_neg (by omega), if_pos (by omega)]
  have : ((-1 : Int) + (xs.length : Int)).toNat = xs.length - 1 := by omega
  simp only [Option.bind_some, this]
  rw [List.getLast_eq_getElem, List.getElem?_eq_getElem (by omega)]
theorem wN {k : Nat} (h : k ≤ 1000) : wR (.int (k : Int)) = 1 := by rw [wR, if_pos (by omega)]
theorem w2 (a b : D) : wR (.tup [a, b]) = wR a + wR b + 1 := by rw [wR, wRL, wRL, wRL]; omega
theorem w3 (a b c : D) : wR (.tup [a, b, c]) = wR a + wR b + wR c + 1 := by rw [wR, wRL, wRL, wRL, wRL]; omega
theorem nx_nat (nums : List Int) (i : Nat) {m : Nat} (h : 0 < m) : ∃ k : Nat, nx nums i (m : Int) = (k : Int) ∧ k < m := by
  have := nx_rng nums i (m := (m : Int)) (by omega)
  exact ⟨(nx nums i (m : Int)).toNat, by omega, by omega⟩
theorem sat_forN0 {g : Gt} {f : CS} {ds : List D} {env : DL.Env} {G : Fl × DL.Env → Prop} (P : Nat → DL.Env → Prop) (h0 : P 0 env)
    (hs : ∀ j d e, ds[j]? = some d → P j e → Sat ((R.of (g d e)).bind f) fun r => r.1 = .nx ∧ P (j + 1) r.2) (hk : ∀ e, P ds.length e → G (.nx, e)) : Sat (forL g f ds env) G := by
  have : forL g f ds env = (forL g f ds env).bind .ok := by cases forL g f ds env <;> rfl
  rw [this]
  exact sat_forN P h0 hs fun e he => sat_ok.mpr (hk e he)
theorem okEq_of {d : D} (h : wR d ≤ 1000000) (h2 : dR d ≤ 64) : okEq d = true := by
  obtain ⟨a, _, _, _, f⟩ := wR_ok d h
  unfold okEq SeqAt.shaped
  rw [a, decide_eq_true (by omega : (toPy d).depth ≤ 64)]; rfl
theorem eqD_ll {k : Bool} {a b : List D} (ha : okEq (.lst a) = true) (hb : okEq (.lst b) = true) : eqD k (.lst a) (.lst b) = some (false, .bl (xor k (eqv (.lst a) (.lst b)))) := by
  show (if okEq (.lst a) && okEq (.lst b) then some (false, D.bl (xor k (eqv (.lst a) (.lst b)))) else none) = _
  rw [ha, hb]; rfl
theorem er_na : errs (Str.ofString "NotAllowed") = some "refused" := by kernel_rfl
theorem er_mi : errs (Str.ofString "Missing") = some "missing" := by kernel_rfl
theorem er_bp : errs (Str.ofString "BadPaper") = some "paper" := by kernel_rfl
theorem er_tl : errs (Str.ofString "TooLarge") = some "large" := by kernel_rfl
/-- a loop whose last turn raises -/
theorem eq_for_x {β : Type} {f : CS} {v : Nat} {env : DL.Env} {ds : List D} {d : D} {K : Fl × DL.Env → R β} {c : Str} {s0 : DL.Slot} (hv : env[v]? = some s0) (h0 : okS (some s0) = true) (hs : ∀ d ∈ ds, f (env.set v (.sh d)) = .ok (.nx, env.set v (.sh d)))
    (hd : f (env.set v (.sh d)) = .exc c) : (forL (gN v) f (ds ++ [d]) env).bind K = .exc c := by
  have key : ∀ (ds : List D) (s : DL.Slot), (∀ d ∈ ds, f (env.set v (.sh d)) = .ok (.nx, env.set v (.sh d))) → okS (some s) = true → forL (gN v) f (ds ++ [d]) (env.set v s) = .exc c := by
    have hl : v < env.length := (List.getElem?_eq_some_iff.mp hv).1
    intro ds
    induction ds with
    | nil =>
      intro s _ h
      rw [List.nil_append, forL_lit, ev_gN, List.getElem?_set_self hl, h]
      simp only [if_true, R.of_some, R.bind_ok, ev_kF1, List.set_set]
      rw [hd]; rfl
    | cons d1 ds ih =>
      intro s hs h
      rw [List.cons_append, forL_lit, ev_gN, List.getElem?_set_self hl, h]
      simp only [if_true, R.of_some, R.bind_ok, ev_kF1, List.set_set]
      rw [hs d1 (List.mem_cons_self ..)]
      simp only [R.bind_ok, ev_kF2a]
      exact ih _ (fun d hd => hs d (List.mem_cons_of_mem _ hd)) rfl
  have he : env.set v s0 = env := by
    apply List.ext_getElem?
    intro i
    by_cases h : v = i
    · subst h
      rw [hv, List.getElem?_set_self (List.getElem?_eq_some_iff.mp hv).1]
    · rw [List.getElem?_set_ne h]
  have := key ds s0 hs h0
  rw [he] at this
  rw [this]; rfl
theorem eq_for_y {β : Type} {f : CS} {v : Nat} {env : DL.Env} {ds dd : List D} {d : D} {K : Fl × DL.Env → R β} {c : Str} {s0 : DL.Slot} (hT : dd = ds ++ [d]) (hv : env[v]? = some s0) (h0 : okS (some s0) = true) (hs : ∀ d ∈ ds, f (env.set v (.sh d)) = .ok (.nx, env.set v (.sh d)))
    (hd : f (env.set v (.sh d)) = .exc c) : (forL (gN v) f dd env).bind K = .exc c := by rw [hT]; exact eq_for_x hv h0 hs hd
theorem last_or {α : Type} (l : List α) : l = [] ∨ ∃ a x, l = a ++ [x] := by
  rcases List.eq_nil_or_concat l with h | ⟨a, x, h⟩
  · exact .inl h
  · exact .inr ⟨a, x, by simpa using h⟩
theorem atI2 {α : Type} (x y z : α) (xs : List α) : atI (x :: y :: z :: xs) 2 = some z := atI_g (k := 2) rfl
@[simp] theorem ev_seqK (l : List D) : seqD (.ktup l) = some l := nr rfl
theorem augW_eq {i j : Nat} {c : Int} {env : DL.Env} {io : Bool} {ds : List D} {z v : Int} {q : Nat} (h1 : own? env[i]? = some (io, .lst ds)) (h2 : rd env (.slot j) = some (.int z)) (h3 : ixN ds.length z = some q) (h4 : ds[q]? = some (.int v)) :
    sAugW i j c env = .ok (.nx, env.set i (owS io (.lst (ds.set q (.int (v + c)))))) := by
  unfold sAugW; rw [h1, h2]; simp only; rw [h3]; simp only; rw [h4]
theorem ev_mulI {a b : Int} (h : a.natAbs < 18446744073709551616) : mulI (.int a) (.int b) = some (false, .int (a * b)) := by
  unfold mulI; simp only; rw [decide_eq_true h]; rfl
theorem ixN_nat {n k : Nat} (h : k < n) : ixN n (k : Int) = some k := by
  unfold ixN; rw [if_pos (by omega), if_pos (by omega)]; rfl
end Lw

set_option Elab.async false
set_option linter.all false
set_option maxRecDepth 100000
set_option autoImplicit false
set_option maxHeartbeats 4000000
namespace Lw
open PySem L2 DL
theorem compL_M {α : Type} {own : List Nat} {g : Gt} {tt : CT} {f : CE} {env : DL.Env} (enc : α → D) (o : α → Option D) : ∀ (l : List α) (acc : List D), (∀ x ∈ l, cstep own g tt f (enc x) env = .ok (o x, env)) → acc.length + l.length ≤ 16777216 →
    compL own g tt f (l.map enc) env acc = .ok (acc ++ l.filterMap o, env)
  | [], acc, _, _ => by rw [List.map_nil, compL_nil, List.filterMap_nil, List.append_nil]
  | x :: l, acc, h, hl => by
    have hl' : acc.length + (l.length + 1) ≤ 16777216 := hl
    rw [List.map_cons, compL_cons (h x (List.mem_cons_self ..)) (by omega), compL_M enc o l _ (fun y hy => h y (List.mem_cons_of_mem _ hy)) (by cases o x <;> simp <;> omega), List.filterMap_cons]
    cases o x <;> simp
theorem eq_compM {α β : Type} {own : List Nat} {g : Gt} {tt : CT} {f : CE} {env : DL.Env} {K : List D × DL.Env → R β} {r : R β} {enc : α → D} {l : List α} (o : α → Option D) (hs : ∀ x ∈ l, cstep own g tt f (enc x) env = .ok (o x, env))
    (hl : l.length ≤ 16777216) (hk : K (l.filterMap o, env) = r) : (compL own g tt f (l.map enc) env []).bind K = r := by
  rw [compL_M enc o l [] hs (by simpa using hl)]
  exact hk
theorem sat_compM {α β : Type} {own : List Nat} {g : Gt} {tt : CT} {f : CE} {env : DL.Env} {K : List D × DL.Env → R β} {G : β → Prop} {enc : α → D} {l : List α} (o : α → Option D) (hs : ∀ x ∈ l, cstep own g tt f (enc x) env = .ok (o x, env))
    (hl : l.length ≤ 16777216) (hk : Sat (K (l.filterMap o, env)) G) : Sat ((compL own g tt f (l.map enc) env []).bind K) G := by
  rw [compL_M enc o l [] hs (by simpa using hl)]
  exact hk
theorem compL2_M {α : Type} {own : List Nat} {g : Gt} {tt : CT} {vs1 : List Nat} {g1 : Gt} {t1 : CT} {f : CE} {it1 : CI} {env : DL.Env} (enc : α → D) (φ : α → List D) (M : Nat) : ∀ (l : List α) (acc : List D), (∀ x ∈ l, (φ x).length ≤ M) → acc.length + M * l.length ≤ 16000000 →
    (∀ x ∈ l, ∀ acc : List D, acc.length ≤ 16000000 → c2step own g tt vs1 g1 t1 f it1 (enc x) env acc = .ok (acc ++ φ x, env)) → compL2 own g tt vs1 g1 t1 f it1 (l.map enc) env acc = .ok (acc ++ l.flatMap φ, env)
  | [], acc, _, _, _ => by rw [List.map_nil, List.flatMap_nil, List.append_nil]; exact compL2_pure (own := own) (g := g) (tt := tt) (vs1 := vs1) (g1 := g1) (t1 := t1) (f := f) (it1 := it1) (env := env) (fun _ => []) 0 [] acc (by simp) (by simp; omega) (by simp) |>.trans (by simp)
  | x :: l, acc, hM, hl, h => by
    have h1 := hM x (List.mem_cons_self ..)
    have hl' : acc.length + M * (l.length + 1) ≤ 16000000 := hl
    rw [Nat.mul_add, Nat.mul_one] at hl'
    rw [List.map_cons, compL2_cons (h x (List.mem_cons_self ..) acc (by omega)), compL2_M enc φ M l (acc ++ φ x) (fun y hy => hM y (List.mem_cons_of_mem _ hy)) (by rw [List.length_append]; omega) fun y hy => h y (List.mem_cons_of_mem _ hy), List.flatMap_cons, List.append_assoc]
/-- the first turn takes what is owned -/
theorem compL_F {α : Type} {own : List Nat} {g : Gt} {tt : CT} {f : CE} {e0 e1 : DL.Env} {enc : α → D} (o : α → Option D) {l : List α} {acc : List D} (hne : l ≠ []) (hs : ∀ x ∈ l, ∀ e, e = e0 ∨ e = e1 → cstep own g tt f (enc x) e = .ok (o x, e1)) (hl : acc.length + l.length ≤ 16777216) :
    compL own g tt f (l.map enc) e0 acc = .ok (acc ++ l.filterMap o, e1) := by
  cases l with
  | nil => exact absurd rfl hne
  | cons x l =>
    have hl' : acc.length + (l.length + 1) ≤ 16777216 := hl
    rw [List.map_cons, compL_cons (hs x (List.mem_cons_self ..) _ (.inl rfl)) (by omega), compL_M enc o l _ (fun y hy => hs y (List.mem_cons_of_mem _ hy) _ (.inr rfl)) (by cases o x <;> simp <;> omega), List.filterMap_cons]
    cases o x <;> simp
theorem eq_compF {α β : Type} {own : List Nat} {g : Gt} {tt : CT} {f : CE} {e0 : DL.Env} {K : List D × DL.Env → R β} {r : R β} {enc : α → D} {l : List α} (o : α → Option D) (e1 : DL.Env) (hne : l ≠ []) (hs : ∀ x ∈ l, ∀ e, e = e0 ∨ e = e1 → cstep own g tt f (enc x) e = .ok (o x, e1))
    (hl : l.length ≤ 16777216) (hk : K (l.filterMap o, e1) = r) : (compL own g tt f (l.map enc) e0 []).bind K = r := by
  rw [compL_F o hne hs (by simpa using hl)]
  exact hk
theorem range_ne {n : Nat} (h : 1 ≤ n) : List.range n ≠ [] := by
  intro e
  have := congrArg List.length e
  rw [List.length_range, List.length_nil] at this
  omega
/-- lists of places -/
def iD (k : Nat) : D := .int (k : Int)
def nD (l : List Nat) : List D := l.map iD
theorem nD_len (l : List Nat) : (nD l).length = l.length := List.length_map ..
theorem nD_mem {l : List Nat} {d : D} (h : d ∈ nD l) : ∃ k ∈ l, d = .int (k : Int) := by
  obtain ⟨k, hk, rfl⟩ := List.mem_map.mp h
  exact ⟨k, hk, rfl⟩
theorem rng_n (n : Nat) : rng 0 (n : Int) = nD (List.range n) := rng0 n
theorem fm_filter {α β : Type} (l : List α) (P : α → Bool) (f : α → β) : (l.filterMap fun x => if P x then some (f x) else none) = (l.filter P).map f := by
  induction l with
  | nil => rfl
  | cons x l ih => rw [List.filterMap_cons, List.filter_cons]; cases P x <;> simp [ih]
theorem fm_map {α β : Type} (l : List α) (f : α → β) : (l.filterMap fun x => some (f x)) = l.map f := by
  induction l with
  | nil => rfl
  | cons x l ih => simp [ih]
theorem rngn {n : Nat} (h : n ≤ 1000) : rngD1 [.int (n : Int)] = some (nD (List.range n)) := by rw [rngD1_ok (by omega) (by omega), rng_n]
theorem int_beq (a b : Nat) : ((a : Int) == (b : Int)) = (a == b) := by
  rw [Bool.eq_iff_iff, beq_iff_eq, beq_iff_eq]; omega
theorem nD_I (l : List Nat) : nD l = (l.map fun k : Nat => (k : Int)).map D.int := by unfold nD; rw [List.map_map]; rfl
theorem sat_of_eq {β : Type} {r r' : R β} {G : β → Prop} (h : r = r') (g : Sat r' G) : Sat r G := by rw [h]; exact g
theorem zipL_map {α β : Type} (e1 : α → D) (e2 : β → D) : ∀ (a : List α) (b : List β), zipL (a.map e1) (b.map e2) = (a.zip b).map fun p => .tup [e1 p.1, e2 p.2]
  | [], _ => by simp [zipL]
  | _ :: _, [] => by simp [zipL]
  | x :: a, y :: b => by
    have := zipL_map e1 e2 a b
    unfold zipL at this ⊢
    rw [List.map_cons, List.map_cons, List.zipWith_cons_cons, this, List.zip_cons_cons, List.map_cons]
theorem enumL_map {α : Type} (enc : α → D) (d0 : α) (l : List α) : enumL (l.map enc) = (List.range l.length).map fun k => .tup [.int (k : Int), enc ((l[k]?).getD d0)] := by
  unfold enumL
  rw [List.length_map]
  apply List.map_congr_left
  intro k hk
  have hk := List.mem_range.mp hk
  rw [List.getElem?_map, List.getElem?_eq_getElem hk]; rfl
theorem range_get {n j : Nat} {d : D} (h : (nD (List.range n))[j]? = some d) : j < n ∧ d = .int (j : Int) := by
  have hj : j < n := by have := (List.getElem?_eq_some_iff.mp h).1; rwa [nD_len, List.length_range] at this
  unfold nD at h
  rw [List.getElem?_map, List.getElem?_range hj] at h
  exact ⟨hj, (Option.some.inj h).symm⟩
theorem map_get {α : Type} {enc : α → D} {l : List α} {j : Nat} {d : D} (h : (l.map enc)[j]? = some d) : ∃ x, l[j]? = some x ∧ d = enc x := by
  rw [List.getElem?_map] at h
  cases e : l[j]? with
  | none => rw [e] at h; cases h
  | some x => rw [e] at h; exact ⟨x, rfl, (Option.some.inj h).symm⟩
theorem neg_1 : negD (.int 1) = some (false, .int (-1)) := by kernel_rfl
theorem any_bl {α : Type} (l : List α) (P : α → Bool) : anyD [.lst (l.map fun x => D.bl (P x))] = some (false, .bl (l.any P)) := by
  have : (l.map fun x => D.bl (P x)) = (l.map P).map D.bl := by rw [List.map_map]; rfl
  rw [this, ev_any, List.any_map]; rfl
theorem all_bl {α : Type} (l : List α) (P : α → Bool) : allD [.lst (l.map fun x => D.bl (P x))] = some (false, .bl (l.all P)) := by
  have : (l.map fun x => D.bl (P x)) = (l.map P).map D.bl := by rw [List.map_map]; rfl
  rw [this, ev_all, List.all_map]; rfl
theorem okB (s : DL.Slot) : okS (some (backS (some s))) = true := by cases s <;> rfl
theorem lst_len {α : Type} (l : List α) (f : α → D) : lenD [.lst (l.map f)] = some (false, .int (l.length : Int)) := by rw [ev_lenl, List.length_map]
theorem tup_len {α : Type} (l : List α) (f : α → D) : lenD [.tup (l.map f)] = some (false, .int (l.length : Int)) := by rw [ev_lent, List.length_map]
theorem at_map {α : Type} {l : List α} {f : α → D} {k : Nat} {x : α} (h : l[k]? = some x) : atI (l.map f) (k : Int) = some (f x) := by apply atI_g; rw [List.getElem?_map, h]; rfl
theorem at0 {α : Type} {l : List α} {f : α → D} {x : α} (h : l[0]? = some x) : atI (l.map f) 0 = some (f x) := at_map (k := 0) h
end Lw

set_option Elab.async false
set_option linter.all false
set_option maxRecDepth 100000
set_option autoImplicit false
set_option maxHeartbeats 4000000
namespace Lw
open PySem L2 DL
/-- what one tells of a fact -/
abbrev Tv := Option Int
def tvD : Tv → D
  | none => .non
  | some i => .int i
def rwD (r : List Tv) : D := .tup (r.map tvD)
def rpD (R : List (List Tv)) : D := .tup (R.map rwD)
def rI (r : List Int) : D := .tup (r.map D.int)
def TvOk (t : Tv) : Prop := t = none ∨ t = some 0 ∨ t = some 1
structure RpOk (R : List (List Tv)) (m : Nat) : Prop where
  n1 : 1 ≤ R.length
  n6 : R.length ≤ 6
  m1 : 1 ≤ m
  m4 : m ≤ 4
  rows : ∀ r ∈ R, r.length = m ∧ ∀ t ∈ r, TvOk t
theorem RpOk.zero {R : List (List Tv)} {m : Nat} (h : RpOk R m) : ∃ r, R[0]? = some r ∧ r.length = m := by
  have h1 := h.n1
  refine ⟨R[0], List.getElem?_eq_getElem (by omega), (h.rows _ (List.getElem_mem _)).1⟩
theorem rp_len (R : List (List Tv)) : lenD [rpD R] = some (false, .int (R.length : Int)) := tup_len R rwD
theorem rw_len (r : List Tv) : lenD [rwD r] = some (false, .int (r.length : Int)) := tup_len r tvD
theorem rI_len (r : List Int) : lenD [rI r] = some (false, .int (r.length : Int)) := tup_len r D.int
theorem rp_at {R : List (List Tv)} {k : Nat} (h : k < R.length) : ixD (rpD R) (.int (k : Int)) = some (false, rwD ((R[k]?).getD [])) := by
  unfold rpD
  rw [ev_ixt, at_map (List.getElem?_eq_getElem h), List.getElem?_eq_getElem h]; rfl
theorem rp_at0 {R : List (List Tv)} {m : Nat} (h : RpOk R m) : ∃ r, ixD (rpD R) (.int 0) = some (false, rwD r) ∧ r.length = m := by
  obtain ⟨r, h1, h2⟩ := h.zero
  refine ⟨r, ?_, h2⟩
  unfold rpD
  rw [ev_ixt, at0 h1]; rfl
theorem tv_in {t : Tv} (h : TvOk t) : inD false (tvD t) (.tup [.int 0, .int 1, .non]) = some (false, .bl true) := by
  rcases h with rfl | rfl | rfl <;> kernel_rfl
theorem check_reports_ok {R : List (List Tv)} {m : Nat} (h : RpOk R m) : F_check_reports [rpD R] = .ok ((false, .non), none) := by
  obtain ⟨r0, q1, q2⟩ := rp_at0 h
  have h1 := h.n1
  have h6 := h.n6
  have m1 := h.m1
  have m4 := h.m4
  have hl := rp_len R
  have hl0 := rw_len r0
  rw [q2] at hl0
  have e1 : decide ((8 : Int) < (R.length : Int)) = false := decide_eq_false (by omega)
  have e2 : ((R.length : Int) == 0) = false := by rw [beq_eq_false_iff_ne]; omega
  have e3 : ((m : Int) == 0) = false := by rw [beq_eq_false_iff_ne]; omega
  have p1 : ¬ (8 < R.length) := by omega
  have p2 : ¬ R.length = 0 := by omega
  have p2' : R ≠ [] := by intro e; rw [e] at h1; exact absurd h1 (by decide)
  have p3 : ¬ m = 0 := by omega
  have hi : iterD (rpD R) = some (R.map rwD) := rfl
  have a1 := any_bl R fun _ => false
  have a2 : R.any (fun _ => false) = false := by simp
  have a3 := all_bl (R.flatMap fun r => r) fun _ => true
  have a4 : (R.flatMap fun r => r).all (fun _ => true) = true := by simp
  rw [a2] at a1
  rw [a4] at a3
  unfold F_check_reports S_check_reports
  generalize rpD R = RD at *
  simp [-List.map_cons, -List.map_map, entryE, entryS, hl, e1, p1, hi]
  refine eq_compM (fun _ => some (.bl false)) ?_ (by omega) ?_
  · intro r hr
    have hrl := rw_len r
    have hm := (h.rows r hr).1
    rw [hm] at hrl
    have e4 : decide ((6 : Int) < (m : Int)) = false := decide_eq_false (by omega)
    have p4 : ¬ 6 < m := by omega
    simp [-List.map_cons, -List.map_map, hrl, e4, p4]
  · rw [fm_map]
    simp [-List.map_cons, -List.map_map, a1, hl, e2, p2, p2', q1, hl0, e3, p3, hi]
    refine eq_compM (fun _ => some (.bl false)) ?_ (by omega) ?_
    · intro r hr
      have hrl := rw_len r
      have hm := (h.rows r hr).1
      rw [hm] at hrl
      simp [-List.map_cons, -List.map_map, hrl, q1, hl0]
    · rw [fm_map]
      simp [-List.map_cons, -List.map_map, a1, hi]
      rw [compL2_M rwD (fun r => r.map fun _ => D.bl true) 4 R [] (fun r hr => by have := (h.rows r hr).1; rw [List.length_map]; omega) (by simp; omega)]
      · rw [List.nil_append]
        have e : (R.flatMap fun r => r.map fun _ => D.bl true) = (R.flatMap fun r => r).map fun _ => D.bl true := by rw [List.map_flatMap]
        rw [e]
        generalize (R.flatMap fun r => r).map (fun _ => D.bl true) = L at *
        simp [-List.map_cons, -List.map_map, a3]
      · intro r hr acc hacc
        have hi2 : iterD (rwD r) = some (r.map tvD) := rfl
        obtain ⟨hm, ht⟩ := h.rows r hr
        simp [-List.map_cons, -List.map_map, hi2]
        rw [compL_M tvD (fun _ => some (.bl true)) r acc ?_ (by omega), fm_map]
        · simp [-List.map_cons, -List.map_map]
        · intro t hq
          have := tv_in (ht t hq)
          generalize tvD t = T at *
          simp [-List.map_cons, -List.map_map, this]
/-- how often a row tells otherwise -/
def bad (p : Tv × Int) : Bool := match p.1 with
  | none => false
  | some i => i != p.2
def agn (r : List Tv) (f : List Int) : Nat := ((r.zip f).filter bad).length
theorem sum01 {α : Type} (P : α → Bool) : ∀ l : List α, (l.map fun x => if P x then (1 : Int) else 0).sum = ((l.filter P).length : Int)
  | [] => rfl
  | x :: l => by
    rw [List.map_cons, List.sum_cons, sum01 P l, List.filter_cons]
    cases P x <;> simp <;> omega
theorem against_ok {r : List Tv} {f : List Int} (h : r.length ≤ 100) : F_against [rwD r, rI f] = .ok ((false, .int (agn r f : Int)), none) := by
  have hz : zipD (rwD r) (rI f) = some ((r.zip f).map fun p => .tup [tvD p.1, .int p.2]) := by
    show some (zipL (r.map tvD) (f.map D.int)) = _
    rw [zipL_map]
  have hzl : (r.zip f).length ≤ 100 := by rw [List.length_zip]; omega
  have hs : sumD [.lst ((r.zip f).map fun p => D.int (if bad p then 1 else 0))] = some (false, .int (agn r f : Int)) := by
    have e : ((r.zip f).map fun p => D.int (if bad p then 1 else 0)) = ((r.zip f).map fun p => if bad p then (1 : Int) else 0).map D.int := by rw [List.map_map]; rfl
    rw [e, ev_sumL, sum01]; rfl
  unfold F_against S_against
  generalize rwD r = RR at *
  generalize rI f = RF at *
  simp [-List.map_cons, -List.map_map, entryE, entryS, hz]
  refine eq_compM (fun p => some (.int (if bad p then 1 else 0))) ?_ (by omega) ?_
  · rintro ⟨t, x⟩ _
    cases t with
    | none => simp [-List.map_cons, -List.map_map, tvD, bad]
    | some i => by_cases hb : i = x <;> simp [-List.map_cons, -List.map_map, tvD, bad, hb]
  · rw [fm_map]
    generalize ((r.zip f).map fun p => D.int (if bad p then 1 else 0)) = L at *
    simp [-List.map_cons, -List.map_map, hs]
/-- who must be free -/
def KB (R : List (List Tv)) (f : List Int) (k : Nat) : Bool := decide (0 < agn ((R[k]?).getD []) f)
def KL (R : List (List Tv)) (f : List Int) : List Nat := (List.range R.length).filter (KB R f)
theorem rows_at {R : List (List Tv)} {m : Nat} (h : RpOk R m) {k : Nat} (hk : k < R.length) : ((R[k]?).getD []).length = m ∧ ∀ t ∈ (R[k]?).getD [], TvOk t := by
  rw [List.getElem?_eq_getElem hk]
  exact h.rows _ (List.getElem_mem hk)
theorem known_liars_ok {R : List (List Tv)} {m : Nat} (h : RpOk R m) (f : List Int) : F_known_liars [rpD R, rI f] = .ok ((false, .tup (nD (KL R f))), none) := by
  have h6 := h.n6
  have m4 := h.m4
  have he : enumD (rpD R) = some ((List.range R.length).map fun k => .tup [.int (k : Int), rwD ((R[k]?).getD [])]) := by
    show some (enumL (R.map rwD)) = _
    rw [enumL_map]
  have tt : ∀ l : List D, tupleD [.lst l] = some (false, .tup l) := fun _ => rfl
  unfold F_known_liars S_known_liars
  generalize rpD R = RD at *
  have hag : ∀ k < R.length, F_against [rwD ((R[k]?).getD []), rI f] = .ok ((false, .int (agn ((R[k]?).getD []) f : Int)), none) := fun k hk => against_ok (by rw [(rows_at h hk).1]; omega)
  have e : (List.range R.length).filter (KB R f) = KL R f := rfl
  generalize rI f = RF at *
  simp [-List.map_cons, -List.map_map, entryE, entryS, he]
  refine eq_compM (fun k => if KB R f k then some (iD k) else none) ?_ (by rw [List.length_range]; omega) ?_
  · intro k hk
    have hk := List.mem_range.mp hk
    have q := hag k hk
    have hK : KB R f k = decide (0 < agn ((R[k]?).getD []) f) := rfl
    generalize rwD ((R[k]?).getD []) = RK at *
    by_cases hp : 0 < agn ((R[k]?).getD []) f
    · rw [hK, decide_eq_true hp]
      have e1 : decide ((0 : Int) < (agn ((R[k]?).getD []) f : Int)) = true := decide_eq_true (by omega)
      generalize (agn ((R[k]?).getD []) f : Int) = A at *
      simp [-List.map_cons, -List.map_map, q, e1, iD]
    · rw [hK, decide_eq_false hp]
      have e1 : decide ((0 : Int) < (agn ((R[k]?).getD []) f : Int)) = false := decide_eq_false (by omega)
      generalize (agn ((R[k]?).getD []) f : Int) = A at *
      simp [-List.map_cons, -List.map_map, q, e1]
  · rw [fm_filter, e]
    have e2 : (KL R f).map iD = nD (KL R f) := rfl
    rw [e2]
    generalize nD (KL R f) = L
    simp [-List.map_cons, -List.map_map, tt]
theorem agn_any {r : List Tv} {f : List Int} (h : r.length = f.length) : decide (0 < agn r f) = (List.range r.length).any fun j => bad ((r[j]?).getD none, (f[j]?).getD 0) := by
  rw [Bool.eq_iff_iff, decide_eq_true_eq, List.any_eq_true]
  unfold agn
  rw [List.length_pos_iff_exists_mem]
  constructor
  · rintro ⟨p, hp⟩
    obtain ⟨h1, h2⟩ := List.mem_filter.mp hp
    obtain ⟨j, hj, e⟩ := List.mem_iff_getElem.mp h1
    have hj2 := hj
    rw [List.length_zip] at hj2
    have j1 : j < r.length := by omega
    have j2 : j < f.length := by omega
    refine ⟨j, List.mem_range.mpr j1, ?_⟩
    rw [List.getElem_zip] at e
    rw [List.getElem?_eq_getElem j1, List.getElem?_eq_getElem j2]
    show bad (r[j], f[j]) = true
    rw [e]; exact h2
  · rintro ⟨j, hj, hb⟩
    have j1 := List.mem_range.mp hj
    have j2 : j < f.length := by omega
    rw [List.getElem?_eq_getElem j1, List.getElem?_eq_getElem j2] at hb
    refine ⟨(r[j], f[j]), List.mem_filter.mpr ⟨?_, hb⟩⟩
    have hz : j < (r.zip f).length := by rw [List.length_zip]; omega
    have := List.getElem_mem hz
    rwa [List.getElem_zip] at this
theorem law_wrong_ok {R : List (List Tv)} {m : Nat} (h : RpOk R m) {f : List Int} (hf : f.length = m) : F__law_wrong [rpD R, rI f] = .ok ((false, .tup (nD (KL R f))), none) := by
  have h6 := h.n6
  have m4 := h.m4
  have hl := rp_len R
  have rn := rngn (n := R.length) (by omega)
  have tt : ∀ l : List D, tupleD [.lst l] = some (false, .tup l) := fun _ => rfl
  have hat : ∀ k < R.length, ixD (rpD R) (.int (k : Int)) = some (false, rwD ((R[k]?).getD [])) := fun k hk => rp_at hk
  have hfa : ∀ j < m, ixD (rI f) (.int (j : Int)) = some (false, .int ((f[j]?).getD 0)) := fun j hj => by
    unfold rI
    rw [ev_ixt, at_map (List.getElem?_eq_getElem (by omega)), List.getElem?_eq_getElem (by omega)]; rfl
  have e : (List.range R.length).filter (KB R f) = KL R f := rfl
  unfold F__law_wrong S__law_wrong
  generalize rpD R = RD at *
  generalize rI f = RF at *
  simp [-List.map_cons, -List.map_map, entryE, entryS, hl, rn]
  refine eq_compM (fun k => if KB R f k then some (iD k) else none) ?_ (by rw [List.length_range]; omega) ?_
  · intro k hk
    have hk := List.mem_range.mp hk
    have q := hat k hk
    obtain ⟨hm, ht⟩ := rows_at h hk
    have hK : KB R f k = decide (0 < agn ((R[k]?).getD []) f) := rfl
    rw [agn_any (by omega), hm] at hK
    generalize (R[k]?).getD [] = r at *
    have he : enumD (rwD r) = some ((List.range m).map fun j => .tup [.int (j : Int), tvD ((r[j]?).getD none)]) := by
      show some (enumL (r.map tvD)) = _
      rw [enumL_map tvD none, hm]
    have an := any_bl (List.range m) fun j => bad ((r[j]?).getD none, (f[j]?).getD 0)
    rw [← hK] at an
    generalize rwD r = RR at *
    simp [-List.map_cons, -List.map_map, iD, q, he]
    rw [compL_M (fun j : Nat => D.tup [.int (j : Int), tvD ((r[j]?).getD none)]) (fun j => some (.bl (bad ((r[j]?).getD none, (f[j]?).getD 0)))) (List.range m) [] ?_ (by simp; omega), fm_map, List.nil_append]
    · generalize ((List.range m).map fun j => D.bl (bad ((r[j]?).getD none, (f[j]?).getD 0))) = L at *
      cases hb : KB R f k <;> rw [hb] at an <;> simp [-List.map_cons, -List.map_map, an]
    · intro j hj
      have hj := List.mem_range.mp hj
      have qf := hfa j hj
      generalize (f[j]?).getD 0 = x at *
      cases ht2 : (r[j]?).getD none with
      | none => simp [-List.map_cons, -List.map_map, tvD, bad, qf]
      | some i =>
        by_cases hb : i = x
        · simp [-List.map_cons, -List.map_map, tvD, bad, hb, qf]
        · have hb2 : (i == x) = false := beq_eq_false_iff_ne.mpr hb
          simp [-List.map_cons, -List.map_map, tvD, bad, hb, hb2, bne, qf]
  · rw [fm_filter, e]
    have e2 : (KL R f).map iD = nD (KL R f) := rfl
    rw [e2]
    generalize nD (KL R f) = L
    simp [-List.map_cons, -List.map_map, tt]
end Lw

set_option Elab.async false
set_option linter.all false
set_option maxRecDepth 100000
set_option autoImplicit false
set_option maxHeartbeats 4000000
namespace Lw
open PySem L2 DL
/-- all facts -/
def AF : Nat → List (List Int)
  | 0 => [[]]
  | m + 1 => (AF m).flatMap fun r => [r ++ [0], r ++ [1]]
theorem AF_len : ∀ m, (AF m).length = 2 ^ m
  | 0 => rfl
  | m + 1 => by
    have h : ∀ l : List (List Int), (l.flatMap fun r => [r ++ [0], r ++ [1]]).length = 2 * l.length := by
      intro l
      induction l with
      | nil => rfl
      | cons x l ih => rw [List.flatMap_cons, List.length_append, ih]; simp; omega
    rw [AF, h, AF_len m, Nat.pow_succ]; omega
theorem AF_mem : ∀ (m : Nat) (r : List Int), r ∈ AF m ↔ r.length = m ∧ ∀ x ∈ r, x = 0 ∨ x = 1
  | 0, r => by
    rw [AF, List.mem_singleton]
    constructor
    · rintro rfl; exact ⟨rfl, by simp⟩
    · rintro ⟨h, _⟩; exact List.eq_nil_of_length_eq_zero h
  | m + 1, r => by
    rw [AF, List.mem_flatMap]
    constructor
    · rintro ⟨s, hs, hr⟩
      obtain ⟨h1, h2⟩ := (AF_mem m s).mp hs
      simp only [List.mem_cons, List.not_mem_nil, or_false] at hr
      rcases hr with rfl | rfl
      · refine ⟨by simp [h1], fun x hx => ?_⟩
        rcases List.mem_append.mp hx with h | h
        · exact h2 x h
        · exact .inl (List.mem_singleton.mp h)
      · refine ⟨by simp [h1], fun x hx => ?_⟩
        rcases List.mem_append.mp hx with h | h
        · exact h2 x h
        · exact .inr (List.mem_singleton.mp h)
    · rintro ⟨h1, h2⟩
      rcases last_or r with rfl | ⟨s, z, rfl⟩
      · simp at h1
      · refine ⟨s, (AF_mem m s).mpr ⟨by simpa using h1, fun x hx => h2 x (List.mem_append_left _ hx)⟩, ?_⟩
        rcases h2 z (by simp) with rfl | rfl <;> simp
theorem AF_nodup : ∀ m, (AF m).Nodup
  | 0 => by simp [AF]
  | m + 1 => by
    rw [AF, List.Nodup, List.pairwise_flatMap]
    refine ⟨fun r _ => by simp, (AF_nodup m).imp fun {a b} h x hx y hy e => ?_⟩
    simp only [List.mem_cons, List.not_mem_nil, or_false] at hx hy
    have h2 : ∀ u v : Int, a ++ [u] = b ++ [v] → False := fun u v q => h (List.append_inj' q rfl).1
    rcases hx with rfl | rfl <;> rcases hy with rfl | rfl <;> exact h2 _ _ e
theorem rI_snoc (r : List Int) (k : Int) (h : r.length ≤ 1000) : addD (rI r) (.tup [.int k]) = some (false, rI (r ++ [k])) := by
  unfold rI
  rw [ev_addTI (by omega)]
theorem pow6 {m : Nat} (h : m ≤ 6) : 2 ^ m ≤ 64 := Nat.pow_le_pow_right (n := 2) (by decide) h
theorem all_facts_ok {m : Nat} (h : m ≤ 6) : F_all_facts [.int (m : Int)] = .ok ((true, .lst ((AF m).map rI)), none) := by
  have rn := rngn (n := m) (by omega)
  unfold F_all_facts S_all_facts
  simp [-List.map_cons, -List.map_map, entryE, entryS, rn]
  refine eq_for (E := fun k => [.sh (.int (m : Int)), .ow (.lst ((AF k).map rI)), sk (fun j : Nat => .int (j : Int)) k, .un, .un]) (by simp [AF, rI]) ?_ ?_
  · intro j d hd
    obtain ⟨hj, rfl⟩ := range_get hd
    have hp := pow6 (m := j) (by omega)
    have hl := AF_len j
    have hm := AF_mem j
    simp [-List.map_cons, -List.map_append, -List.map_map]
    rw [compL2_M rI (fun r => [rI (r ++ [0]), rI (r ++ [1])]) 2 (AF j) [] (fun _ _ => Nat.le_refl _) (by simp; omega)]
    · have e : (AF (j + 1)).map rI = (AF j).flatMap fun r => [rI (r ++ [0]), rI (r ++ [1])] := by rw [AF, List.map_flatMap]; rfl
      rw [List.nil_append, ← e]
      simp [-List.map_cons, -List.map_append, -List.map_map]
    · intro r hr acc hacc
      have hrl := ((hm r).mp hr).1
      have ho : okL (r.length + 1) = true := okL_le' (by omega)
      have t1 : okT acc.length = true := okT_lt (by omega)
      have t2 : okT (acc.length + 1) = true := okT_lt (by omega)
      have e0 : D.tup (r.map D.int ++ [.int 0]) = rI (r ++ [0]) := by unfold rI; rw [List.map_append]; rfl
      have e1 : D.tup (r.map D.int ++ [.int 1]) = rI (r ++ [1]) := by unfold rI; rw [List.map_append]; rfl
      have ei : rI r = .tup (r.map D.int) := rfl
      rw [ei]
      simp [-List.map_cons, -List.map_append, -List.map_map, compL_step, compL_nil, kCd_some, t1, t2, ho, e0, e1]
  · rw [nD_len, List.length_range]
    simp [-List.map_cons, -List.map_append, -List.map_map]
theorem bits_step {m j : Nat} (hj : j < m) (h : m ≤ 6) {s1 s4 : DL.Slot} (q1 : okS (some s1) = true) (q4 : okS (some s4) = true) {β : Type} {K : Fl × DL.Env → R β} {G : β → Prop}
    (hk : ∀ s1 s4 : DL.Slot, okS (some s1) = true → okS (some s4) = true → Sat (K (.nx, [.sh (.int (m : Int)), s1, .sh (.int (j : Int)), .ow (.lst ((AF (j + 1)).map rI)), s4])) G) :
    Sat ((forL (gN 4) (sExp (cM1 "list" 3 extendD (cLst (aCons (oVal (c2 addD (oVar 4) (oVal (cTup (aCons (oVal (cC (.int 0))) aNil))))) (aCons (oVal (c2 addD (oVar 4) (oVal (cTup (aCons (oVal (cC (.int 1))) aNil))))) aNil))))) ((AF j).map rI) [.sh (.int (m : Int)), s1, .sh (.int (j : Int)), .ow (.lst []), s4]).bind K) G := by
  have hp := pow6 (m := j) (by omega)
  have hl := AF_len j
  have hm := AF_mem j
  refine sat_forN (P := fun k e => ∃ s1 s4 : DL.Slot, e = [.sh (.int (m : Int)), s1, .sh (.int (j : Int)), .ow (.lst (((AF j).take k).flatMap fun r => [rI (r ++ [0]), rI (r ++ [1])])), s4] ∧ okS (some s1) = true ∧ okS (some s4) = true) ⟨s1, s4, by simp, q1, q4⟩ ?_ ?_
  · rintro k d e hd ⟨s1, s4, rfl, q1, q4⟩
    obtain ⟨r, hr, rfl⟩ := map_get hd
    have hkl := (List.getElem?_eq_some_iff.mp hr).1
    have hrl := ((hm r).mp (List.mem_of_getElem? hr)).1
    have e0 := rI_snoc r 0 (by omega)
    have e1 := rI_snoc r 1 (by omega)
    have ht : ((AF j).take (k + 1)).flatMap (fun r => [rI (r ++ [0]), rI (r ++ [1])]) = ((AF j).take k).flatMap (fun r => [rI (r ++ [0]), rI (r ++ [1])]) ++ [rI (r ++ [0]), rI (r ++ [1])] := by
      rw [List.take_add_one, hr, List.flatMap_append]; simp
    have hlen : (((AF j).take k).flatMap (fun r => [rI (r ++ [0]), rI (r ++ [1])])).length ≤ 1000 := by
      have h3 : ∀ l : List (List Int), (l.flatMap fun r => [rI (r ++ [0]), rI (r ++ [1])]).length = 2 * l.length := by
        intro l
        induction l with
        | nil => rfl
        | cons x l ih => rw [List.flatMap_cons, List.length_append, ih]; simp; omega
      rw [h3, List.length_take]; omega
    rw [ht]
    generalize ((AF j).take k).flatMap (fun r => [rI (r ++ [0]), rI (r ++ [1])]) = L at *
    have hx : extendD (.lst L) (.lst [rI (r ++ [0]), rI (r ++ [1])]) = some (.lst (L ++ [rI (r ++ [0]), rI (r ++ [1])]), .non) := by rw [ev_ext (by simp; omega)]
    generalize rI (r ++ [0]) = A at *
    generalize rI (r ++ [1]) = B at *
    generalize rI r = C at *
    simp [-List.map_cons, -List.map_append, -List.map_map, q1, q4, e0, e1, hx]
    exact ⟨_, _, ⟨rfl, rfl⟩, q1, rfl⟩
  · rintro e ⟨s1, s4, rfl, q1, q4⟩
    have e : (AF (j + 1)).map rI = (AF j).flatMap fun r => [rI (r ++ [0]), rI (r ++ [1])] := by rw [AF, List.map_flatMap]; rfl
    rw [List.length_map, List.take_length, ← e]
    exact hk s1 s4 q1 q4
theorem law_bits_ok {m : Nat} (h1 : 1 ≤ m) (h : m ≤ 6) : F__law_bits [.int (m : Int)] = .ok ((false, .lst ((AF m).map rI)), none) := by
  have rn := rngn (n := m) (by omega)
  unfold F__law_bits S__law_bits
  apply eq_of_sat
  simp [-List.map_cons, -List.map_map, entryE, entryS, rn]
  refine sat_forN (P := fun k e => ∃ s1 s2 s3 s4 : DL.Slot, e = [.sh (.int (m : Int)), s1, s2, s3, s4] ∧ ((k = 0 ∧ s1 = .ow (.lst ((AF k).map rI))) ∨ s1 = .sh (.lst ((AF k).map rI))) ∧ okS (some s2) = true ∧ okS (some s3) = true ∧ okS (some s4) = true) ⟨_, .un, .un, .un, rfl, .inl ⟨rfl, by simp [AF, rI]⟩, rfl, rfl, rfl⟩ ?_ ?_
  · rintro j d e hd ⟨s1, s2, s3, s4, rfl, q1, q2, q3, q4⟩
    obtain ⟨hj, rfl⟩ := range_get hd
    have q1 : s1 = .ow (.lst ((AF j).map rI)) ∨ s1 = .sh (.lst ((AF j).map rI)) := q1.imp (fun q => q.2) id
    rcases q1 with rfl | rfl
    · simp [-List.map_cons, -List.map_append, -List.map_map, q2, q3]
      refine bits_step hj h rfl q4 fun s1 s4 q1 q4 => ?_
      simp [-List.map_cons, -List.map_append, -List.map_map, q1]
      exact ⟨_, _, _, _, ⟨rfl, rfl, rfl, rfl⟩, rfl, rfl, rfl, q4⟩
    · simp [-List.map_cons, -List.map_append, -List.map_map, q2, q3]
      refine bits_step hj h rfl q4 fun s1 s4 q1 q4 => ?_
      simp [-List.map_cons, -List.map_append, -List.map_map, q1]
      exact ⟨_, _, _, _, ⟨rfl, rfl, rfl, rfl⟩, rfl, rfl, rfl, q4⟩
  · rintro e ⟨s1, s2, s3, s4, rfl, q1, q2, q3, q4⟩
    rw [nD_len, List.length_range] at q1
    rcases q1 with ⟨q, _⟩ | rfl
    · omega
    · simp [-List.map_cons, -List.map_append, -List.map_map]
end Lw

set_option Elab.async false
set_option linter.all false
set_option maxRecDepth 100000
set_option autoImplicit false
set_option maxHeartbeats 4000000
namespace Lw
open PySem L2 DL
theorem minX_ints {l : List Int} (h : l ≠ []) : minX [.lst (l.map D.int)] = some (false, .int (minI l)) := by
  cases l with
  | nil => exact absurd rfl h
  | cons x l =>
    have e : minD [.lst ((x :: l).map D.int)] = some (false, .int (minI (x :: l))) := by
      rw [List.map_cons]
      unfold minD
      simp only
      rw [← List.map_cons, intsD_map]; rfl
    unfold minX
    rw [e]
theorem AF_ne (m : Nat) : AF m ≠ [] := by
  intro e
  have := AF_len m
  rw [e] at this
  have h2 : 0 < 2 ^ m := Nat.pos_of_ne_zero (by simp)
  rw [List.length_nil] at this
  omega
def wrI (R : List (List Tv)) (f : List Int) : Int := ((KL R f).length : Int)
def MF (R : List (List Tv)) (m : Nat) : Int := minI ((AF m).map (wrI R))
theorem KL_tlen (R : List (List Tv)) (f : List Int) : lenD [.tup (nD (KL R f))] = some (false, .int (wrI R f)) := by rw [ev_lent, nD_len]; rfl
theorem AF64 {m : Nat} (h : m ≤ 4) : (AF m).length ≤ 16 := by
  rw [AF_len]
  exact (Nat.pow_le_pow_right (n := 2) (by decide) h : 2 ^ m ≤ 2 ^ 4)
theorem it_lst (l : List D) : iterD (.lst l) = some l := rfl
theorem fewest_free_ok {R : List (List Tv)} {m : Nat} (h : RpOk R m) : F_fewest_free [rpD R] = .ok ((false, .int (MF R m)), none) := by
  have cr := check_reports_ok h
  obtain ⟨r0, q1, q2⟩ := rp_at0 h
  have hl0 := rw_len r0
  rw [q2] at hl0
  have m4 := h.m4
  have af := all_facts_ok (m := m) (by omega)
  have kl := known_liars_ok h
  have h16 := AF64 m4
  have e : (AF m).map (fun f => D.int (wrI R f)) = ((AF m).map (wrI R)).map D.int := by rw [List.map_map]; rfl
  have mx := minX_ints (l := (AF m).map (wrI R)) (by simpa using AF_ne m)
  have hM : minI ((AF m).map (wrI R)) = MF R m := rfl
  rw [hM, ← e] at mx
  unfold F_fewest_free S_fewest_free
  generalize rpD R = RD at *
  simp [-List.map_cons, -List.map_map, entryE, entryS, cr, q1, hl0, af]
  refine eq_compM (fun f => some (.int (wrI R f))) ?_ (by omega) ?_
  · intro f _
    have k1 := kl f
    have k2 := KL_tlen R f
    generalize D.tup (nD (KL R f)) = T at *
    generalize wrI R f = L at *
    generalize rI f = RF at *
    simp [-List.map_cons, -List.map_map, k1, k2]
  · rw [fm_map]
    generalize (AF m).map (fun f => D.int (wrI R f)) = L at *
    generalize MF R m = X at *
    simp [-List.map_cons, -List.map_map, mx]
/-- the facts there can be -/
def FL (R : List (List Tv)) (m : Nat) (most : Int) : List (List Int) := (AF m).filter fun f => decide (wrI R f ≤ most)
theorem check_free_ok {most : Int} (h : 0 ≤ most) : F_check_free [.int most] = .ok ((false, .non), none) := by
  have e : decide (most < 0) = false := decide_eq_false (by omega)
  unfold F_check_free S_check_free
  simp [entryE, entryS, e, h]
theorem facts_left_ok {R : List (List Tv)} {m : Nat} (h : RpOk R m) {most : Int} (hm : 0 ≤ most) : F_facts_left [rpD R, .int most] = .ok ((true, .lst ((FL R m most).map rI)), none) := by
  have cr := check_reports_ok h
  have cf := check_free_ok hm
  obtain ⟨r0, q1, q2⟩ := rp_at0 h
  have hl0 := rw_len r0
  rw [q2] at hl0
  have m4 := h.m4
  have af := all_facts_ok (m := m) (by omega)
  have kl := known_liars_ok h
  have h16 := AF64 m4
  have e : (AF m).filter (fun f => decide (wrI R f ≤ most)) = FL R m most := rfl
  unfold F_facts_left S_facts_left
  generalize rpD R = RD at *
  simp [-List.map_cons, -List.map_map, entryE, entryS, cr, cf, q1, hl0, af]
  refine eq_compM (fun f => if decide (wrI R f ≤ most) then some (rI f) else none) ?_ (by omega) ?_
  · intro f _
    have k1 := kl f
    have k2 := KL_tlen R f
    generalize D.tup (nD (KL R f)) = T at *
    generalize wrI R f = L at *
    generalize rI f = RF at *
    by_cases hb : L ≤ most <;> simp [-List.map_cons, -List.map_map, k1, k2, hb]
  · rw [fm_filter, e]
    generalize (FL R m most).map rI = L at *
    simp [-List.map_cons, -List.map_map]
theorem FL_mem {R : List (List Tv)} {m : Nat} {most : Int} {f : List Int} : f ∈ FL R m most ↔ (f.length = m ∧ ∀ x ∈ f, x = 0 ∨ x = 1) ∧ wrI R f ≤ most := by
  unfold FL
  rw [List.mem_filter, AF_mem, decide_eq_true_eq]
/-- what is sure -/
def at0I (f : List Int) (j : Nat) : Int := (f[j]?).getD 0
def hd0 (L : List (List Int)) : List Int := (L[0]?).getD []
def sureB (L : List (List Int)) (j : Nat) : Bool := L.all fun f => at0I f j == at0I (hd0 L) j
def sureT (L : List (List Int)) (m : Nat) : List Tv := (List.range m).map fun j => if sureB L j then some (at0I (hd0 L) j) else none
theorem rI_at {f : List Int} {j : Nat} (h : j < f.length) : ixD (rI f) (.int (j : Int)) = some (false, .int (at0I f j)) := by
  unfold rI at0I
  rw [ev_ixt, at_map (List.getElem?_eq_getElem h), List.getElem?_eq_getElem h]; rfl
theorem lst_at0 {L : List (List Int)} (h : L ≠ []) : ixD (.lst (L.map rI)) (.int 0) = some (false, rI (hd0 L)) := by
  cases L with
  | nil => exact absurd rfl h
  | cons x l => rw [ev_ixl, at0 (x := x) rfl]; rfl
theorem hd0_mem {L : List (List Int)} (h : L ≠ []) : hd0 L ∈ L := by
  cases L with
  | nil => exact absurd rfl h
  | cons x l => exact List.mem_cons_self ..
theorem sure_facts_ok {R : List (List Tv)} {m : Nat} (h : RpOk R m) {most : Int} (hm : 0 ≤ most) : F_sure_facts [rpD R, .int most] = if (FL R m most).length == 0 then .exc "Missing" else .ok ((false, rwD (sureT (FL R m most) m)), none) := by
  have fl := facts_left_ok h hm
  obtain ⟨r0, q1, q2⟩ := rp_at0 h
  have hl0 := rw_len r0
  rw [q2] at hl0
  have m4 := h.m4
  have rn := rngn (n := m) (by omega)
  have hmem : ∀ f ∈ FL R m most, f.length = m := fun f hf => (FL_mem.mp hf).1.1
  have tt : ∀ l : List D, tupleD [.lst l] = some (false, .tup l) := fun _ => rfl
  have h16 : (FL R m most).length ≤ 16 := Nat.le_trans (List.length_filter_le _ _) (AF64 m4)
  generalize FL R m most = L at *
  have hll := lst_len L rI
  have itl := it_lst (L.map rI)
  unfold F_sure_facts S_sure_facts
  generalize rpD R = RD at *
  by_cases hL : L = []
  · subst hL
    simp [-List.map_cons, -List.map_map, entryE, entryS, fl]
  · have hz : (L.length == 0) = false := by rw [beq_eq_false_iff_ne]; intro e; exact hL (List.eq_nil_of_length_eq_zero e)
    have hz2 : ((L.length : Int) == 0) = false := by rw [beq_eq_false_iff_ne] at hz ⊢; omega
    rw [hz, if_neg (by decide)]
    have h0 := lst_at0 hL
    have hh := hmem _ (hd0_mem hL)
    have e : rwD (sureT L m) = .tup ((List.range m).map fun j => if sureB L j then .int (at0I (hd0 L) j) else .non) := by
      unfold rwD sureT
      rw [List.map_map]
      refine congrArg D.tup (List.map_congr_left fun j _ => ?_)
      show tvD (if sureB L j then some (at0I (hd0 L) j) else none) = _
      split <;> rfl
    rw [e]
    have key : ∀ j, j < m → ∀ f ∈ L, ixD (rI f) (.int (j : Int)) = some (false, .int (at0I f j)) := fun j hj f hf => rI_at (by rw [hmem f hf]; exact hj)
    have ab := fun j => all_bl L fun f => at0I f j == at0I (hd0 L) j
    have hsb : ∀ j, L.all (fun f => at0I f j == at0I (hd0 L) j) = sureB L j := fun _ => rfl
    generalize hLD : D.lst (L.map rI) = LD at *
    simp [-List.map_cons, -List.map_map, entryE, entryS, fl, hll, hz2, hL, q1, hl0, rn]
    refine eq_compF (fun j => some (if sureB L j then .int (at0I (hd0 L) j) else .non)) [.sh RD, .sh (.int most), .sh LD, .un, .un] (range_ne h.m1) ?_ (by rw [List.length_range]; omega) ?_
    · intro j hj e he
      have hj := List.mem_range.mp hj
      have kj := key j hj
      have k0 := kj _ (hd0_mem hL)
      have aj := ab j
      rw [hsb] at aj
      have inner : ∀ s : DL.Slot, s = .ow LD ∨ s = .sh LD → compL [4] (gN 4) tYesC (c2 (eqD false) (oVal (c2 ixD (oVar 4) (oVar 3))) (oVal (c2 ixD (oVal (c2 ixD (oVar 2) (oVal (cC (.int 0))))) (oVar 3)))) (L.map rI) [.sh RD, .sh (.int most), .sh LD, .sh (.int (j : Int)), .un] [] = .ok (L.map fun f => .bl (at0I f j == at0I (hd0 L) j), [.sh RD, .sh (.int most), .sh LD, .sh (.int (j : Int)), .un]) := by
        intro s hs
        rw [compL_M rI (fun f => some (.bl (at0I f j == at0I (hd0 L) j))) L [] ?_ (by simp; omega), fm_map, List.nil_append]
        intro f hf
        have kf := kj f hf
        simp [-List.map_cons, -List.map_map, kf, h0, k0]
      rcases he with rfl | rfl <;>
      · simp [-List.map_cons, -List.map_map, iD, itl]
        trace_state
        rw [inner (.sh LD) (.inr rfl)]
        generalize (L.map fun f => D.bl (at0I f j == at0I (hd0 L) j)) = Q at *
        cases hb : sureB L j <;> rw [hb] at aj <;> simp [-List.map_cons, -List.map_map, aj, h0, k0]
    · rw [fm_map]
      generalize ((List.range m).map fun j => if sureB L j then D.int (at0I (hd0 L) j) else .non) = Q at *
      simp [-List.map_cons, -List.map_map, tt]
end Lw

set_option Elab.async false
set_option linter.all false
set_option maxRecDepth 100000
set_option autoImplicit false
set_option maxHeartbeats 4000000
namespace Lw
open PySem L2 DL
theorem int_eqv (a b : Int) : eqv (.int a) (.int b) = (a == b) := by simp [eqv, toPy, PyData.eqv]
theorem inD_nD (l : List Nat) (k : Nat) : inD false (.int (k : Int)) (.tup (nD l)) = .some (false, .bl (l.contains k)) := by
  have hf : (nD l).all flatD = true := by rw [List.all_eq_true]; intro d hd; obtain ⟨k, _, rfl⟩ := nD_mem hd; rfl
  have ha : ((nD l).any fun z => eqv z (.int (k : Int))) = l.contains k := by
    unfold nD
    rw [List.any_map, List.contains_eq_any_beq]
    apply Bool.eq_iff_iff.mpr
    rw [List.any_eq_true, List.any_eq_true]
    constructor
    · rintro ⟨x, hx, e⟩
      refine ⟨x, hx, ?_⟩
      have e : eqv (.int (x : Int)) (.int (k : Int)) = true := e
      rw [int_eqv, beq_iff_eq] at e
      rw [beq_iff_eq]; omega
    · rintro ⟨x, hx, e⟩
      refine ⟨x, hx, ?_⟩
      show eqv (.int (x : Int)) (.int (k : Int)) = true
      rw [int_eqv, beq_iff_eq]
      rw [beq_iff_eq] at e
      omega
  unfold inD inSeq
  simp only
  rw [hf, ha]
  simp [flatD]
/-- who is surely free -/
def KC (R : List (List Tv)) (f : List Int) (k : Nat) : Bool := (KL R f).contains k
def SFB (R : List (List Tv)) (L : List (List Int)) (k : Nat) : Bool := L.all fun f => KC R f k
def SF (R : List (List Tv)) (L : List (List Int)) : List Nat := (List.range R.length).filter (SFB R L)
def klD (R : List (List Tv)) (f : List Int) : D := .tup (nD (KL R f))
theorem surely_free_ok {R : List (List Tv)} {m : Nat} (h : RpOk R m) {most : Int} (hm : 0 ≤ most) : F_surely_free [rpD R, .int most] = if (FL R m most).length == 0 then .exc "Missing" else .ok ((false, .tup (nD (SF R (FL R m most)))), none) := by
  have fl := facts_left_ok h hm
  have kl : ∀ f, F_known_liars [rpD R, rI f] = .ok ((false, klD R f), none) := known_liars_ok h
  have hl := rp_len R
  have n6 := h.n6
  have n1 := h.n1
  have rn := rngn (n := R.length) (by omega)
  have tt : ∀ l : List D, tupleD [.lst l] = some (false, .tup l) := fun _ => rfl
  have h16 : (FL R m most).length ≤ 16 := Nat.le_trans (List.length_filter_le _ _) (AF64 h.m4)
  generalize FL R m most = L at *
  have hll := lst_len L rI
  have itl := it_lst (L.map rI)
  have itk := it_lst (L.map (klD R))
  have hin : ∀ (f : List Int) (k : Nat), inD false (.int (k : Int)) (klD R f) = .some (false, .bl (KC R f k)) := fun f k => inD_nD _ k
  have ab := fun k => all_bl L fun f => KC R f k
  have hsb : ∀ k, L.all (fun f => KC R f k) = SFB R L k := fun _ => rfl
  have e : (List.range R.length).filter (SFB R L) = SF R L := rfl
  unfold F_surely_free S_surely_free
  generalize rpD R = RD at *
  by_cases hL : L = []
  · subst hL
    simp [-List.map_cons, -List.map_map, entryE, entryS, fl]
  · have hz : (L.length == 0) = false := by rw [beq_eq_false_iff_ne]; intro e; exact hL (List.eq_nil_of_length_eq_zero e)
    have hz2 : ((L.length : Int) == 0) = false := by rw [beq_eq_false_iff_ne] at hz ⊢; omega
    rw [hz, if_neg (by decide)]
    generalize hLD : D.lst (L.map rI) = LD at *
    simp [-List.map_cons, -List.map_map, entryE, entryS, fl, hll, hz2, hL, itl]
    refine eq_compM (fun f => some (klD R f)) ?_ (by omega) ?_
    · intro f _
      have k1 := kl f
      generalize klD R f = X at *
      generalize rI f = Y at *
      simp [-List.map_cons, -List.map_map, k1]
    · rw [fm_map]
      simp [-List.map_cons, -List.map_map, hl, rn]
      refine eq_compF (fun k => if SFB R L k then some (iD k) else none) [.sh RD, .sh (.int most), .sh LD, .sh (.lst (L.map (klD R))), .un, .un, .un] (range_ne n1) ?_ (by rw [List.length_range]; omega) ?_
      · intro k hk e he
        have ak := ab k
        rw [hsb] at ak
        have inner : compL [6] (gN 6) tYesC (c2 (inD false) (oVar 5) (oVar 6)) (L.map (klD R)) [.sh RD, .sh (.int most), .sh LD, .sh (.lst (L.map (klD R))), .un, .sh (.int (k : Int)), .un] [] = .ok (L.map fun f => .bl (KC R f k), [.sh RD, .sh (.int most), .sh LD, .sh (.lst (L.map (klD R))), .un, .sh (.int (k : Int)), .un]) := by
          rw [compL_M (klD R) (fun f => some (.bl (KC R f k))) L [] ?_ (by simp; omega), fm_map, List.nil_append]
          intro f hf
          have kf := hin f k
          generalize klD R f = X at *
          simp [-List.map_cons, -List.map_map, kf]
        rcases he with rfl | rfl <;>
        · simp [-List.map_cons, -List.map_map, iD, itk]
          rw [inner]
          generalize (L.map fun f => D.bl (KC R f k)) = Q at *
          cases hb : SFB R L k <;> rw [hb] at ak <;> simp [-List.map_cons, -List.map_map, ak]
      · rw [fm_filter, e]
        have e2 : (SF R L).map iD = nD (SF R L) := rfl
        rw [e2]
        generalize nD (SF R L) = Q at *
        simp [-List.map_cons, -List.map_map, tt]
theorem non_in (r : List Tv) (neg : Bool) : inD neg .non (rwD r) = some (false, .bl (xor neg (r.any Option.isNone))) := by
  have hf : (r.map tvD).all flatD = true := by
    rw [List.all_eq_true]; intro d hd; obtain ⟨t, _, rfl⟩ := List.mem_map.mp hd; cases t <;> rfl
  have ha : ((r.map tvD).any fun z => eqv z .non) = r.any Option.isNone := by
    rw [List.any_map]
    have e : ((fun z => eqv z D.non) ∘ tvD) = Option.isNone := by
      funext t
      cases t <;> simp [tvD, eqv, toPy, PyData.eqv]
    rw [e]
  unfold rwD inD inSeq
  simp only
  rw [hf, ha]
  simp [flatD]
theorem is_safe_ok {R : List (List Tv)} {m : Nat} (h : RpOk R m) {most : Int} (hm : 0 ≤ most) : F_is_safe [rpD R, .int most] = if (FL R m most).length == 0 then .exc "Missing" else .ok ((false, .bl (!(sureT (FL R m most) m).any Option.isNone)), none) := by
  have s := sure_facts_ok h hm
  have ni := non_in (sureT (FL R m most) m) true
  rw [Bool.true_xor] at ni
  unfold F_is_safe S_is_safe
  generalize ((FL R m most).length == 0) = B at *
  generalize rwD (sureT (FL R m most) m) = RW at *
  cases B with
  | true => rw [if_pos rfl] at s; simp [entryE, entryS, s]
  | false => rw [if_neg (by decide)] at s; simp [entryE, entryS, s, ni]
def FtOk (m : Nat) (f : List Int) : Prop := f.length = m ∧ ∀ x ∈ f, x = 0 ∨ x = 1
theorem i01_in {x : Int} (h : x = 0 ∨ x = 1) : inD false (.int x) (.tup [.int 0, .int 1]) = some (false, .bl true) := by rcases h with rfl | rfl <;> kernel_rfl
theorem check_facts_ok {R : List (List Tv)} {m : Nat} (h : RpOk R m) {f : List Int} (hf : FtOk m f) : F_check_facts [rpD R, rI f] = .ok ((false, .non), none) := by
  have cr := check_reports_ok h
  obtain ⟨r0, q1, q2⟩ := rp_at0 h
  have hl0 := rw_len r0
  rw [q2] at hl0
  have hfl := rI_len f
  rw [hf.1] at hfl
  have m4 := h.m4
  have hi : iterD (rI f) = some (f.map D.int) := rfl
  have ab := all_bl f fun _ => true
  have ab2 : f.all (fun _ => true) = true := by simp
  rw [ab2] at ab
  have hfl2 := hf.1
  unfold F_check_facts S_check_facts
  generalize rpD R = RD at *
  generalize rI f = RF at *
  simp [-List.map_cons, -List.map_map, entryE, entryS, cr, hfl, q1, hl0, hi]
  refine eq_compM (fun _ => some (.bl true)) ?_ (by omega) ?_
  · intro x hx
    have := i01_in (hf.2 x hx)
    simp [-List.map_cons, -List.map_map, this]
  · rw [fm_map]
    generalize f.map (fun _ => D.bl true) = Q at *
    simp [-List.map_cons, -List.map_map, ab]
theorem liars_for_ok {R : List (List Tv)} {m : Nat} (h : RpOk R m) {f : List Int} (hf : FtOk m f) : F_liars_for [rpD R, rI f] = .ok ((false, klD R f), none) := by
  have cf := check_facts_ok h hf
  have kl : F_known_liars [rpD R, rI f] = .ok ((false, klD R f), none) := known_liars_ok h f
  unfold F_liars_for S_liars_for
  generalize rpD R = RD at *
  generalize rI f = RF at *
  generalize klD R f = X at *
  simp [-List.map_cons, -List.map_map, entryE, entryS, cf, kl]
theorem strength_ok {n m : Nat} (h1 : 1 ≤ n) (h2 : n ≤ 6) (h3 : 1 ≤ m) (h4 : m ≤ 4) : F_strength [.int (n : Int), .int (m : Int)] = .ok ((false, .int (((n : Int) - 1) / 2)), none) := by
  rcases (by omega : n = 1 ∨ n = 2 ∨ n = 3 ∨ n = 4 ∨ n = 5 ∨ n = 6) with rfl | rfl | rfl | rfl | rfl | rfl <;>
  rcases (by omega : m = 1 ∨ m = 2 ∨ m = 3 ∨ m = 4) with rfl | rfl | rfl | rfl <;> kernel_rfl
/-- two rows that tell nothing otherwise -/
def ag1 (p : Tv × Tv) : Bool := p.1.isNone || p.2.isNone || p.1 == p.2
def agr (r s : List Tv) : Bool := (r.zip s).all ag1
theorem agree_ok {r s : List Tv} (h : r.length ≤ 100) : F_agree [rwD r, rwD s] = .ok ((false, .bl (agr r s)), none) := by
  have hz : zipD (rwD r) (rwD s) = some ((r.zip s).map fun p => .tup [tvD p.1, tvD p.2]) := by
    show some (zipL (r.map tvD) (s.map tvD)) = _
    rw [zipL_map]
  have hzl : (r.zip s).length ≤ 100 := by rw [List.length_zip]; omega
  have ab := all_bl (r.zip s) ag1
  have hag : (r.zip s).all ag1 = agr r s := rfl
  rw [hag] at ab
  unfold F_agree S_agree
  generalize rwD r = RR at *
  generalize rwD s = RS at *
  simp [-List.map_cons, -List.map_map, entryE, entryS, hz]
  refine eq_compM (fun p => some (.bl (ag1 p))) ?_ (by omega) ?_
  · rintro ⟨t, u⟩ _
    cases t with
    | none => simp [-List.map_cons, -List.map_map, tvD, ag1]
    | some i =>
      cases u with
      | none => simp [-List.map_cons, -List.map_map, tvD, ag1]
      | some j =>
        have e : ((some i : Tv) == some j) = (i == j) := rfl
        by_cases hb : i = j
        · simp [-List.map_cons, -List.map_map, tvD, ag1, hb]
        · have hb2 : (i == j) = false := beq_eq_false_iff_ne.mpr hb
          simp [-List.map_cons, -List.map_map, tvD, ag1, e, hb, hb2]
  · rw [fm_map]
    generalize ((r.zip s).map fun p => D.bl (ag1 p)) = Q at *
    simp [-List.map_cons, -List.map_map, ab]
end Lw

set_option Elab.async false
set_option linter.all false
set_option maxRecDepth 100000
set_option autoImplicit false
set_option maxHeartbeats 4000000
namespace Lw
open PySem L2 DL
abbrev Pr := Nat × Nat
def prD (p : Pr) : D := .tup [.int (p.1 : Int), .int (p.2 : Int)]
def psD (M : List Pr) : D := .tup (M.map prD)
def PRi (n i : Nat) : List Pr := ((List.range n).drop (i + 1)).map fun j => (i, j)
def PRs (n : Nat) : List Pr := (List.range n).flatMap (PRi n)
def iR (R : List (List Tv)) (k : Nat) : List Tv := (R[k]?).getD []
def clB (R : List (List Tv)) (p : Pr) : Bool := !agr (iR R p.1) (iR R p.2)
def CPi (R : List (List Tv)) (i : Nat) : List Pr := (PRi R.length i).filter (clB R)
def CP (R : List (List Tv)) : List Pr := (List.range R.length).flatMap (CPi R)
theorem CP_eq (R : List (List Tv)) : (PRs R.length).filter (clB R) = CP R := by
  unfold PRs CP
  rw [List.filter_flatMap]; rfl
theorem rng_drop {n i : Nat} (h : i < n) : rng ((i : Int) + 1) (n : Int) = nD ((List.range n).drop (i + 1)) := by
  unfold rng nD
  have e : ((n : Int) - ((i : Int) + 1)).toNat = n - (i + 1) := by omega
  rw [e]
  apply List.ext_getElem
  · simp
  · intro k h1 h2
    simp [iD]
theorem PRi_len (n i : Nat) : (PRi n i).length ≤ n := by unfold PRi; rw [List.length_map, List.length_drop, List.length_range]; omega
theorem PRi_mem {n i : Nat} {p : Pr} : p ∈ PRi n i ↔ p.1 = i ∧ i < p.2 ∧ p.2 < n := by
  unfold PRi
  rw [List.mem_map]
  constructor
  · rintro ⟨j, hj, rfl⟩
    obtain ⟨k, hk, e⟩ := List.mem_iff_getElem.mp hj
    rw [List.getElem_drop, List.getElem_range] at e
    rw [List.length_drop, List.length_range] at hk
    exact ⟨rfl, by show i < j; omega, by show j < n; omega⟩
  · rintro ⟨h1, h2, h3⟩
    refine ⟨p.2, ?_, by rw [← h1]⟩
    rw [List.mem_iff_getElem]
    refine ⟨p.2 - (i + 1), by rw [List.length_drop, List.length_range]; omega, ?_⟩
    rw [List.getElem_drop, List.getElem_range]; omega
theorem PRs_mem {n : Nat} {p : Pr} : p ∈ PRs n ↔ p.1 < p.2 ∧ p.2 < n := by
  unfold PRs
  rw [List.mem_flatMap]
  constructor
  · rintro ⟨i, hi, hp⟩
    obtain ⟨h1, h2, h3⟩ := PRi_mem.mp hp
    omega
  · rintro ⟨h1, h2⟩
    exact ⟨p.1, List.mem_range.mpr (by omega), PRi_mem.mpr ⟨rfl, h1, h2⟩⟩
theorem flat_len {α β : Type} {f : α → List β} {M : Nat} : ∀ {l : List α}, (∀ x ∈ l, (f x).length ≤ M) → (l.flatMap f).length ≤ M * l.length
  | [], _ => by simp
  | x :: l, h => by
    rw [List.flatMap_cons, List.length_append, List.length_cons, Nat.mul_add, Nat.mul_one]
    have h1 := h x (List.mem_cons_self ..)
    have h2 := flat_len (f := f) (M := M) (l := l) fun y hy => h y (List.mem_cons_of_mem _ hy)
    omega
theorem PRs_len {n : Nat} (h : n ≤ 6) : (PRs n).length ≤ 36 := by
  have := flat_len (f := PRi n) (M := n) (l := List.range n) fun i _ => PRi_len n i
  rw [List.length_range] at this
  have h2 : n * n ≤ 6 * 6 := Nat.mul_le_mul h h
  unfold PRs
  omega
theorem CP_len {R : List (List Tv)} (h : R.length ≤ 6) : (CP R).length ≤ 36 := by
  rw [← CP_eq]
  exact Nat.le_trans (List.length_filter_le _ _) (PRs_len h)
theorem CP_mem {R : List (List Tv)} {p : Pr} : p ∈ CP R ↔ (p.1 < p.2 ∧ p.2 < R.length) ∧ clB R p = true := by
  rw [← CP_eq, List.mem_filter, PRs_mem]
theorem clashes_ok {R : List (List Tv)} {m : Nat} (h : RpOk R m) : F_clashes [rpD R] = .ok ((false, psD (CP R)), none) := by
  have cr := check_reports_ok h
  have hl := rp_len R
  have n6 := h.n6
  have m4 := h.m4
  have rn := rngn (n := R.length) (by omega)
  have tt : ∀ l : List D, tupleD [.lst l] = some (false, .tup l) := fun _ => rfl
  have hat : ∀ k < R.length, ixD (rpD R) (.int (k : Int)) = some (false, rwD (iR R k)) := fun k hk => rp_at hk
  have hag : ∀ i < R.length, ∀ j < R.length, F_agree [rwD (iR R i), rwD (iR R j)] = .ok ((false, .bl (agr (iR R i) (iR R j))), none) := fun i hi j hj => agree_ok (by rw [show iR R i = (R[i]?).getD [] from rfl, (rows_at h hi).1]; omega)
  have hpl := PRs_len n6
  unfold F_clashes S_clashes
  generalize rpD R = RD at *
  simp [-List.map_cons, -List.map_map, entryE, entryS, cr, hl, rn]
  have hin : (List.range R.length).flatMap (fun i => (PRi R.length i).map prD) = (PRs R.length).map prD := by unfold PRs; rw [List.map_flatMap]
  unfold nD
  rw [compL2_M iD (fun i => (PRi R.length i).map prD) 6 (List.range R.length) [] (fun i _ => by rw [List.length_map]; exact Nat.le_trans (PRi_len _ _) n6) (by rw [List.length_range]; simp; omega), List.nil_append, hin]
  · simp [-List.map_cons, -List.map_map]
    refine eq_compM (fun p => if clB R p then some (prD p) else none) ?_ (by omega) ?_
    · intro p hp
      obtain ⟨p1, p2⟩ := PRs_mem.mp hp
      have a1 := hat p.1 (by omega)
      have a2 := hat p.2 p2
      have a3 := hag p.1 (by omega) p.2 p2
      have hc : clB R p = !agr (iR R p.1) (iR R p.2) := rfl
      generalize rwD (iR R p.1) = A at *
      generalize rwD (iR R p.2) = B at *
      rw [hc]
      cases hb : agr (iR R p.1) (iR R p.2) <;> rw [hb] at a3 <;> simp [-List.map_cons, -List.map_map, prD, a1, a2, a3, gT]
    · rw [fm_filter, CP_eq]
      have e : D.tup ((CP R).map prD) = psD (CP R) := rfl
      rw [← e]
      generalize (CP R).map prD = Q at *
      simp [-List.map_cons, -List.map_map, tt]
  · intro i hi acc hacc
    have hi := List.mem_range.mp hi
    have r2 : rngD2 [.int ((i : Int) + 1), .int (R.length : Int)] = some (nD ((List.range R.length).drop (i + 1))) := by rw [rngD2_ok (by omega) (by omega) (by omega) (by omega), rng_drop hi]
    simp [-List.map_cons, -List.map_map, -List.map_drop, iD, hl, r2]
    unfold nD
    rw [compL_M iD (fun j => some (prD (i, j))) ((List.range R.length).drop (i + 1)) acc ?_ (by rw [List.length_drop, List.length_range]; omega), fm_map]
    · have e : (PRi R.length i).map prD = ((List.range R.length).drop (i + 1)).map fun j => prD (i, j) := by unfold PRi; rw [List.map_map]; rfl
      rw [e]
      generalize ((List.range R.length).drop (i + 1)).map (fun j => prD (i, j)) = Q at *
      simp [-List.map_cons, -List.map_map]
    · intro j _
      simp [-List.map_cons, -List.map_map, prD, iD]
def tvAt (r : List Tv) (j : Nat) : Tv := (r[j]?).getD none
def cn (R : List (List Tv)) (j : Nat) (x : Int) : Nat := R.countP fun r => tvAt r j == some x
def mj (a b : Nat) : Tv := if a == b then none else some (if b < a then 1 else 0)
def MJ (R : List (List Tv)) (m : Nat) : List Tv := (List.range m).map fun j => mj (cn R j 1) (cn R j 0)
def colD (R : List (List Tv)) (j : Nat) : List D := R.map fun r => tvD (tvAt r j)
theorem wTv {t : Tv} (h : TvOk t) : wR (tvD t) = 1 ∧ dR (tvD t) = 0 := by rcases h with rfl | rfl | rfl <;> exact ⟨by simp [tvD, wR], by simp [tvD, dR]⟩
theorem tvAt_ok {r : List Tv} (h : ∀ t ∈ r, TvOk t) (j : Nat) : TvOk (tvAt r j) := by
  unfold tvAt
  cases e : r[j]? with
  | none => exact .inl rfl
  | some t => exact h t (List.mem_of_getElem? e)
theorem count_ok {R : List (List Tv)} {m : Nat} (h : RpOk R m) (j : Nat) {x : Int} (hx : x = 0 ∨ x = 1) : countD (.lst (colD R j)) (.int x) = some (.int (cn R j x : Int)) := by
  have ho : okEq (.lst (colD R j)) = true := okEq_of (by
    have := wRL_le (l := colD R j) (c := 1) (e := 0) (by
      intro d hd
      obtain ⟨r, hr, rfl⟩ := List.mem_map.mp hd
      have := wTv (tvAt_ok (h.rows r hr).2 j)
      omega)
    have h6 := h.n6
    unfold colD at this
    rw [List.length_map] at this
    unfold colD
    rw [wR]; omega) (by
    have := wRL_le (l := colD R j) (c := 1) (e := 0) (by
      intro d hd
      obtain ⟨r, hr, rfl⟩ := List.mem_map.mp hd
      have := wTv (tvAt_ok (h.rows r hr).2 j)
      omega)
    rw [dR]; omega)
  have hc : (toPyL (colD R j)).countP (fun z => PyData.eqv z (toPy (.int x))) = cn R j x := by
    unfold colD cn
    rw [toPyL_map, List.map_map, List.countP_map]
    apply List.countP_congr
    intro r hr
    show PyData.eqv (toPy (tvD (tvAt r j))) (toPy (.int x)) = true ↔ (tvAt r j == some x) = true
    cases tvAt r j with
    | none => simp [tvD, toPy, PyData.eqv]
    | some i => simp [tvD, toPy, PyData.eqv]
  unfold countD
  simp only
  rw [ho, okEq_int, hc]; rfl
theorem majority_ok {R : List (List Tv)} {m : Nat} (h : RpOk R m) : F_majority [rpD R] = .ok ((false, rwD (MJ R m)), none) := by
  have cr := check_reports_ok h
  obtain ⟨r0, q1, q2⟩ := rp_at0 h
  have hl0 := rw_len r0
  rw [q2] at hl0
  have m4 := h.m4
  have n6 := h.n6
  have rn := rngn (n := m) (by omega)
  have tt : ∀ l : List D, tupleD [.lst l] = some (false, .tup l) := fun _ => rfl
  have hi : iterD (rpD R) = some (R.map rwD) := rfl
  have hrt : ∀ r ∈ R, ∀ j < m, ixD (rwD r) (.int (j : Int)) = some (false, tvD (tvAt r j)) := fun r hr j hj => by
    have := (h.rows r hr).1
    unfold rwD tvAt
    rw [ev_ixt, at_map (List.getElem?_eq_getElem (by omega)), List.getElem?_eq_getElem (by omega)]; rfl
  have c1 := fun j => count_ok h j (x := 1) (.inr rfl)
  have c0 := fun j => count_ok h j (x := 0) (.inl rfl)
  unfold F_majority S_majority
  generalize rpD R = RD at *
  apply eq_of_sat
  simp [-List.map_cons, -List.map_map, entryE, entryS, cr, q1, hl0, rn]
  refine sat_forN (P := fun k e => ∃ s2 s3 s4 s5 : DL.Slot, e = [.sh RD, .ow (.lst (((List.range k).map fun j => mj (cn R j 1) (cn R j 0)).map tvD)), s2, s3, s4, s5, .un] ∧ okS (some s2) = true ∧ okS (some s3) = true ∧ okS (some s4) = true ∧ okS (some s5) = true) ⟨.un, .un, .un, .un, by simp, rfl, rfl, rfl, rfl⟩ ?_ ?_
  · rintro j d e hd ⟨s2, s3, s4, s5, rfl, k2, k3, k4, k5⟩
    obtain ⟨hj, rfl⟩ := range_get hd
    have c1 := c1 j
    have c0 := c0 j
    simp [-List.map_cons, -List.map_append, -List.map_map, k2, k3, hi]
    refine sat_compM (fun r => some (tvD (tvAt r j))) ?_ (by omega) ?_
    · intro r hr
      have := hrt r hr j hj
      generalize rwD r = RR at *
      simp [-List.map_cons, -List.map_map, this]
    · rw [fm_map, show R.map (fun r => tvD (tvAt r j)) = colD R j from rfl]
      have hlen : (((List.range j).map fun j => mj (cn R j 1) (cn R j 0)).map tvD).length < 100 := by rw [List.length_map, List.length_map, List.length_range]; omega
      rw [List.range_succ, List.map_append, List.map_append]
      generalize ((List.range j).map fun j => mj (cn R j 1) (cn R j 0)).map tvD = LL at *
      generalize colD R j = CD at *
      have a1 : ∀ x : D, appendD (.lst LL) x = some (.lst (LL ++ [x]), .non) := fun x => ev_app (by omega)
      have hm : [j].map (fun j => mj (cn R j 1) (cn R j 0)) = [mj (cn R j 1) (cn R j 0)] := rfl
      rw [hm]
      generalize cn R j 1 = a at *
      generalize cn R j 0 = b at *
      have hg : gtA (.int (a : Int)) (.int (b : Int)) = some (false, .bl (decide ((b : Int) < (a : Int)))) := rfl
      unfold mj
      by_cases hab : a = b
      · subst hab
        simp [-List.map_cons, -List.map_append, -List.map_map, k3, k4, k5, c1, c0, a1]
        exact ⟨_, _, _, _, ⟨rfl, rfl, rfl, rfl, rfl⟩, rfl, rfl, rfl, rfl⟩
      · have e1 : ((a : Int) == (b : Int)) = false := by rw [beq_eq_false_iff_ne]; omega
        by_cases hlt : b < a
        · have e2 : decide ((b : Int) < (a : Int)) = true := decide_eq_true (by omega)
          rw [e2] at hg
          simp [-List.map_cons, -List.map_append, -List.map_map, k3, k4, k5, c1, c0, a1, hab, e1, hg, hlt]
          exact ⟨_, _, _, _, ⟨rfl, rfl, rfl, rfl, rfl⟩, rfl, rfl, rfl, rfl⟩
        · have e2 : decide ((b : Int) < (a : Int)) = false := decide_eq_false (by omega)
          rw [e2] at hg
          simp [-List.map_cons, -List.map_append, -List.map_map, k3, k4, k5, c1, c0, a1, hab, e1, hg, hlt]
          exact ⟨_, _, _, _, ⟨rfl, rfl, rfl, rfl, rfl⟩, rfl, rfl, rfl, rfl⟩
  · rintro e ⟨s2, s3, s4, s5, rfl, k2, k3, k4, k5⟩
    rw [nD_len, List.length_range]
    have e : D.tup (((List.range m).map fun j => mj (cn R j 1) (cn R j 0)).map tvD) = rwD (MJ R m) := rfl
    rw [← e]
    generalize ((List.range m).map fun j => mj (cn R j 1) (cn R j 0)).map tvD = LL at *
    simp [-List.map_cons, -List.map_append, -List.map_map, tt]
end Lw

set_option Elab.async false
set_option linter.all false
set_option maxRecDepth 100000
set_option autoImplicit false
set_option maxHeartbeats 4000000
namespace Lw
open PySem L2 DL
def ltP (q p : Pr) : Bool := decide (q.1 < p.1) || (q.1 == p.1 && decide (q.2 < p.2))
def has2 (q : Pr) (x : Nat) : Bool := q.1 == x || q.2 == x
def hit (q p : Pr) : Bool := has2 q p.1 || has2 q p.2
def usd (row : List Pr) (x : Nat) : Bool := row.any fun q => has2 q x
def gtL (row : List Pr) (p : Pr) : Bool := match row.getLast? with
  | none => true
  | some q => ltP q p
def frP (C row : List Pr) : List Pr := C.filter fun p => gtL row p && (!usd row p.1 && !usd row p.2)
def nxt1 (C row : List Pr) : List (List Pr) := (frP C row).map fun p => row ++ [p]
def LV (C : List Pr) : Nat → List (List Pr)
  | 0 => [[]]
  | k + 1 => (LV C k).flatMap (nxt1 C)
def Asc (s : List Pr) : Prop := s.Pairwise fun q p => ltP q p = true
def Dj (s : List Pr) : Prop := s.Pairwise fun q p => hit q p = false
def RowOk (C s : List Pr) : Prop := Asc s ∧ (∀ p ∈ s, p ∈ C) ∧ Dj s
theorem ltP_iff {q p : Pr} : ltP q p = true ↔ q.1 < p.1 ∨ (q.1 = p.1 ∧ q.2 < p.2) := by
  unfold ltP
  rw [Bool.or_eq_true, decide_eq_true_eq, Bool.and_eq_true, beq_iff_eq, decide_eq_true_eq]
theorem ltP_trans {a b c : Pr} (h1 : ltP a b = true) (h2 : ltP b c = true) : ltP a c = true := by
  rw [ltP_iff] at *; omega
theorem usd_hit {row : List Pr} {p : Pr} : (!usd row p.1 && !usd row p.2) = true ↔ ∀ q ∈ row, hit q p = false := by
  unfold usd
  rw [Bool.and_eq_true, Bool.not_eq_true', Bool.not_eq_true', List.any_eq_false, List.any_eq_false]
  constructor
  · rintro ⟨h1, h2⟩ q hq
    have a := h1 q hq
    have b := h2 q hq
    unfold hit
    rw [Bool.not_eq_true] at a b
    rw [a, b]; rfl
  · intro h
    refine ⟨fun q hq => ?_, fun q hq => ?_⟩
    · have := h q hq
      unfold hit at this
      rw [Bool.or_eq_false_iff] at this
      rw [this.1]; decide
    · have := h q hq
      unfold hit at this
      rw [Bool.or_eq_false_iff] at this
      rw [this.2]; decide
theorem asc_snoc {s : List Pr} {p : Pr} (h : Asc s) : gtL s p = true ↔ ∀ q ∈ s, ltP q p = true := by
  rcases last_or s with rfl | ⟨t, z, rfl⟩
  · simp [gtL]
  · have e : (t ++ [z]).getLast? = some z := by simp
    unfold gtL
    rw [e]
    constructor
    · intro hz q hq
      rcases List.mem_append.mp hq with h1 | h1
      · exact ltP_trans ((List.pairwise_append.mp h).2.2 q h1 z (List.mem_singleton.mpr rfl)) hz
      · rw [List.mem_singleton.mp h1]; exact hz
    · intro hq
      exact hq z (by simp)
theorem row_snoc {C s : List Pr} {p : Pr} : RowOk C (s ++ [p]) ↔ RowOk C s ∧ p ∈ C ∧ (∀ q ∈ s, ltP q p = true) ∧ ∀ q ∈ s, hit q p = false := by
  unfold RowOk Asc Dj
  rw [List.pairwise_append, List.pairwise_append]
  constructor
  · rintro ⟨⟨a1, _, a3⟩, b, c1, _, c3⟩
    exact ⟨⟨a1, fun q hq => b q (List.mem_append_left _ hq), c1⟩, b p (by simp), fun q hq => a3 q hq p (List.mem_singleton.mpr rfl), fun q hq => c3 q hq p (List.mem_singleton.mpr rfl)⟩
  · rintro ⟨⟨a, b, c⟩, d, e, f⟩
    refine ⟨⟨a, by simp, fun q hq y hy => by rw [List.mem_singleton.mp hy]; exact e q hq⟩, fun q hq => ?_, c, by simp, fun q hq y hy => by rw [List.mem_singleton.mp hy]; exact f q hq⟩
    rcases List.mem_append.mp hq with h | h
    · exact b q h
    · rw [List.mem_singleton.mp h]; exact d
theorem LV_mem (C : List Pr) : ∀ (k : Nat) (s : List Pr), s ∈ LV C k ↔ s.length = k ∧ RowOk C s
  | 0, s => by
    rw [LV, List.mem_singleton]
    constructor
    · rintro rfl; exact ⟨rfl, List.Pairwise.nil, by simp, List.Pairwise.nil⟩
    · rintro ⟨h, _⟩; exact List.eq_nil_of_length_eq_zero h
  | k + 1, s => by
    rw [LV, List.mem_flatMap]
    constructor
    · rintro ⟨t, ht, hs⟩
      obtain ⟨h1, h2⟩ := (LV_mem C k t).mp ht
      obtain ⟨p, hp, rfl⟩ := List.mem_map.mp hs
      obtain ⟨hp, hq⟩ := List.mem_filter.mp hp
      rw [Bool.and_eq_true] at hq
      refine ⟨by simp [h1], row_snoc.mpr ⟨h2, hp, (asc_snoc h2.1).mp hq.1, usd_hit.mp hq.2⟩⟩
    · rintro ⟨h1, h2⟩
      rcases last_or s with rfl | ⟨t, p, rfl⟩
      · simp at h1
      · obtain ⟨g1, g2, g3, g4⟩ := row_snoc.mp h2
        refine ⟨t, (LV_mem C k t).mpr ⟨by simpa using h1, g1⟩, List.mem_map.mpr ⟨p, List.mem_filter.mpr ⟨g2, ?_⟩, rfl⟩⟩
        rw [Bool.and_eq_true]
        exact ⟨(asc_snoc g1.1).mpr g3, usd_hit.mpr g4⟩
theorem row_take {C s : List Pr} (h : RowOk C s) (k : Nat) : RowOk C (s.take k) :=
  ⟨h.1.sublist (List.take_sublist k s), fun p hp => h.2.1 p (List.mem_of_mem_take hp), h.2.2.sublist (List.take_sublist k s)⟩
/-- the law's rows -/
def noHit (p : Pr) (row : List Pr) : Bool := !row.any fun q => hit q p
def stepL (rows : List (List Pr)) (p : Pr) : List (List Pr) := rows ++ ((rows.filter (noHit p)).map fun row => row ++ [p])
def LR (C : List Pr) : List (List Pr) := C.foldl stepL [[]]
theorem LR_snoc (C : List Pr) (p : Pr) : LR (C ++ [p]) = stepL (LR C) p := by unfold LR; rw [List.foldl_append]; rfl
theorem noHit_iff {p : Pr} {row : List Pr} : noHit p row = true ↔ ∀ q ∈ row, hit q p = false := by
  unfold noHit
  rw [Bool.not_eq_true', List.any_eq_false]
  constructor
  · intro h q hq; have := h q hq; rwa [Bool.not_eq_true] at this
  · intro h q hq; rw [h q hq]; decide
theorem ltP_irr (p : Pr) : ltP p p = false := by
  cases h : ltP p p with
  | false => rfl
  | true => rw [ltP_iff] at h; omega
theorem LR_memR : ∀ (D : List Pr), Asc D.reverse → ∀ s, s ∈ LR D.reverse ↔ RowOk D.reverse s
  | [], _, s => by
    show s ∈ [[]] ↔ _
    rw [List.mem_singleton]
    constructor
    · rintro rfl; exact ⟨List.Pairwise.nil, by simp, List.Pairwise.nil⟩
    · rintro ⟨_, h, _⟩
      cases s with
      | nil => rfl
      | cons x s => exact absurd (h x (List.mem_cons_self ..)) (by simp)
  | p :: D, hA, s => by
    rw [List.reverse_cons] at hA ⊢
    have hA1 : Asc D.reverse := (List.pairwise_append.mp hA).1
    have hAp : ∀ q ∈ D.reverse, ltP q p = true := fun q hq => (List.pairwise_append.mp hA).2.2 q hq p (List.mem_singleton.mpr rfl)
    have ih := LR_memR D hA1
    rw [LR_snoc, stepL, List.mem_append, ih]
    have hup : ∀ {t : List Pr}, RowOk D.reverse t → RowOk (D.reverse ++ [p]) t := fun {t} h => ⟨h.1, fun q hq => List.mem_append_left _ (h.2.1 q hq), h.2.2⟩
    constructor
    · rintro (h | h)
      · exact hup h
      · obtain ⟨t, ht, rfl⟩ := List.mem_map.mp h
        obtain ⟨ht, hn⟩ := List.mem_filter.mp ht
        have ht := (ih t).mp ht
        exact row_snoc.mpr ⟨hup ht, by simp, fun q hq => hAp q (ht.2.1 q hq), noHit_iff.mp hn⟩
    · intro h
      by_cases hp : p ∈ s
      · right
        rcases last_or s with rfl | ⟨t, z, rfl⟩
        · exact absurd hp (by simp)
        · obtain ⟨g1, g2, g3, g4⟩ := row_snoc.mp h
          have hz : z = p := by
            rcases List.mem_append.mp hp with h1 | h1
            · have a := g3 p h1
              rcases List.mem_append.mp g2 with h2 | h2
              · have b := hAp z h2
                have := ltP_trans a b
                rw [ltP_irr] at this; cases this
              · exact List.mem_singleton.mp h2
            · exact (List.mem_singleton.mp h1).symm
          subst hz
          refine List.mem_map.mpr ⟨t, List.mem_filter.mpr ⟨(ih t).mpr ⟨g1.1, fun q hq => ?_, g1.2.2⟩, noHit_iff.mpr g4⟩, rfl⟩
          rcases List.mem_append.mp (g1.2.1 q hq) with h2 | h2
          · exact h2
          · have := g3 q hq
            rw [List.mem_singleton.mp h2, ltP_irr] at this; cases this
      · left
        refine ⟨h.1, fun q hq => ?_, h.2.2⟩
        rcases List.mem_append.mp (h.2.1 q hq) with h2 | h2
        · exact h2
        · rw [List.mem_singleton.mp h2] at hq; exact absurd hq hp
theorem LR_mem {C : List Pr} (h : Asc C) (s : List Pr) : s ∈ LR C ↔ RowOk C s := by
  have := LR_memR C.reverse (by rwa [List.reverse_reverse]) s
  rwa [List.reverse_reverse] at this
/-- the pairs ascend -/
theorem PRi_asc (n i : Nat) : Asc (PRi n i) := by
  unfold PRi Asc
  rw [List.pairwise_map]
  refine (List.Pairwise.sublist (List.drop_sublist _ _) List.pairwise_lt_range).imp fun {a b} h => ?_
  rw [ltP_iff]
  exact .inr ⟨rfl, h⟩
theorem PRs_asc (n : Nat) : Asc (PRs n) := by
  unfold PRs Asc
  rw [List.pairwise_flatMap]
  refine ⟨fun i _ => PRi_asc n i, List.pairwise_lt_range.imp fun {a b} h p hp q hq => ?_⟩
  rw [ltP_iff, (PRi_mem.mp hp).1, (PRi_mem.mp hq).1]
  exact .inl h
theorem CP_asc (R : List (List Tv)) : Asc (CP R) := by rw [← CP_eq]; exact (PRs_asc _).filter _
theorem PRs15 {n : Nat} (h : n ≤ 6) : (PRs n).length ≤ 15 := by
  rcases (by omega : n = 0 ∨ n = 1 ∨ n = 2 ∨ n = 3 ∨ n = 4 ∨ n = 5 ∨ n = 6) with rfl | rfl | rfl | rfl | rfl | rfl | rfl <;> decide
theorem CP15 {R : List (List Tv)} (h : R.length ≤ 6) : (CP R).length ≤ 15 := by
  rw [← CP_eq]
  exact Nat.le_trans (List.length_filter_le _ _) (PRs15 h)
/-- a row has at most half as many pairs as there are folk -/
def flat2 (s : List Pr) : List Nat := s.flatMap fun p => [p.1, p.2]
theorem flat2_len : ∀ s : List Pr, (flat2 s).length = 2 * s.length
  | [] => rfl
  | p :: s => by
    have := flat2_len s
    unfold flat2 at this ⊢
    rw [List.flatMap_cons, List.length_append, this]; simp; omega
theorem hit_false {q p : Pr} : hit q p = false ↔ q.1 ≠ p.1 ∧ q.2 ≠ p.1 ∧ q.1 ≠ p.2 ∧ q.2 ≠ p.2 := by
  unfold hit has2
  rw [Bool.or_eq_false_iff, Bool.or_eq_false_iff, Bool.or_eq_false_iff, beq_eq_false_iff_ne, beq_eq_false_iff_ne, beq_eq_false_iff_ne, beq_eq_false_iff_ne]
  constructor
  · rintro ⟨⟨a, b⟩, c, d⟩; exact ⟨a, b, c, d⟩
  · rintro ⟨a, b, c, d⟩; exact ⟨⟨a, b⟩, c, d⟩
theorem flat2_nodup {s : List Pr} (h : Dj s) (h2 : ∀ p ∈ s, p.1 < p.2) : (flat2 s).Nodup := by
  unfold flat2 List.Nodup
  rw [List.pairwise_flatMap]
  refine ⟨fun p hp => ?_, h.imp fun {a b} q x hx y hy e => ?_⟩
  · have := h2 p hp
    simp
    omega
  · rw [hit_false] at q
    simp only [List.mem_cons, List.not_mem_nil, or_false] at hx hy
    omega
theorem sub_len : ∀ {l m : List Nat}, l.Nodup → l ⊆ m → l.length ≤ m.length
  | [], _, _, _ => Nat.zero_le _
  | x :: l, m, hl, h => by
    obtain ⟨h1, h2⟩ := List.nodup_cons.mp hl
    have hx : x ∈ m := h (List.mem_cons_self ..)
    have hs : l ⊆ m.erase x := by
      intro y hy
      have hne : y ≠ x := fun e => h1 (by rw [← e]; exact hy)
      exact (List.mem_erase_of_ne hne).mpr (h (List.mem_cons_of_mem _ hy))
    have := sub_len h2 hs
    rw [List.length_erase_of_mem hx] at this
    have hpos : 0 < m.length := List.length_pos_of_mem hx
    rw [List.length_cons]
    omega
theorem row_short {R : List (List Tv)} {s : List Pr} (h6 : R.length ≤ 6) (h : RowOk (CP R) s) : s.length ≤ 3 := by
  have hm : ∀ p ∈ s, p.1 < p.2 ∧ p.2 < R.length := fun p hp => (CP_mem.mp (h.2.1 p hp)).1
  have hn := flat2_nodup h.2.2 fun p hp => (hm p hp).1
  have hsub : flat2 s ⊆ List.range R.length := by
    intro x hx
    unfold flat2 at hx
    obtain ⟨p, hp, hx⟩ := List.mem_flatMap.mp hx
    have := hm p hp
    simp only [List.mem_cons, List.not_mem_nil, or_false] at hx
    rw [List.mem_range]
    omega
  have := sub_len hn hsub
  rw [flat2_len, List.length_range] at this
  omega
theorem LV4 {R : List (List Tv)} (h6 : R.length ≤ 6) : LV (CP R) 4 = [] := by
  apply List.eq_nil_iff_forall_not_mem.mpr
  intro s hs
  obtain ⟨h1, h2⟩ := (LV_mem _ _ _).mp hs
  have := row_short h6 h2
  omega
theorem LV_len {C : List Pr} {M : Nat} (h : C.length ≤ M) : ∀ k, (LV C k).length ≤ M ^ k
  | 0 => by simp [LV]
  | k + 1 => by
    have h1 := flat_len (f := nxt1 C) (M := M) (l := LV C k) fun row _ => by
      unfold nxt1 frP
      rw [List.length_map]
      exact Nat.le_trans (List.length_filter_le _ _) h
    have h2 := LV_len h k
    rw [LV, Nat.pow_succ, Nat.mul_comm]
    exact Nat.le_trans h1 (Nat.mul_le_mul_left _ h2)
theorem LR_len : ∀ D : List Pr, (LR D.reverse).length ≤ 2 ^ D.length
  | [] => by simp [LR]
  | p :: D => by
    have ih := LR_len D
    rw [List.reverse_cons, LR_snoc, stepL, List.length_append, List.length_map, List.length_cons, Nat.pow_succ]
    have := List.length_filter_le (noHit p) (LR D.reverse)
    omega
end Lw

set_option Elab.async false
set_option linter.all false
set_option maxRecDepth 100000
set_option autoImplicit false
set_option maxHeartbeats 4000000
namespace Lw
open PySem L2 DL
def pyP (p : Pr) : PyData := .tuple [.int (p.1 : Int), .int (p.2 : Int)]
theorem toPy_prD (p : Pr) : toPy (prD p) = pyP p := by unfold prD pyP; simp [toPy, toPyL]
theorem toPy_psD (M : List Pr) : toPy (psD M) = .tuple (M.map pyP) := by
  unfold psD
  rw [toPy, toPyL_map, List.map_map]
  refine congrArg PyData.tuple (List.map_congr_left fun p _ => toPy_prD p)
def leP (M N : List Pr) : Bool := PySem.W.dataLe false toPy (psD M) (psD N)
def ltD2 (M N : List Pr) : Bool := PySem.W.dataLt (toPy (psD M)) (toPy (psD N))
theorem leP_lt (M N : List Pr) : leP M N = !ltD2 N M := by
  unfold leP
  rw [PySem.W.dataLe_eq]; rfl
def tkP (p : Pr) : List (Int ⊕ List Nat) := [.inl 1, .inl (p.1 : Int), .inl 1, .inl (p.2 : Int), .inl 0]
theorem tk_pyP (p : Pr) : PySem.W.keyToks (pyP p) = tkP p := by unfold pyP tkP; simp [PySem.W.keyToks, PySem.W.keyToksAll]
theorem tk_inj : ∀ M N : List Pr, PySem.W.keyToksAll (M.map pyP) = PySem.W.keyToksAll (N.map pyP) → M = N
  | [], [], _ => rfl
  | [], q :: N, h => by simp [PySem.W.keyToksAll] at h
  | p :: M, [], h => by simp [PySem.W.keyToksAll] at h
  | p :: M, q :: N, h => by
    rw [List.map_cons, List.map_cons, PySem.W.toks_all_cons, PySem.W.toks_all_cons, tk_pyP, tk_pyP] at h
    unfold tkP at h
    simp only [List.cons_append, List.nil_append, List.cons.injEq, Sum.inl.injEq, true_and] at h
    obtain ⟨h1, h2, h3⟩ := h
    have e : p = q := by
      obtain ⟨a, b⟩ := p
      obtain ⟨c, d⟩ := q
      simp only [Prod.mk.injEq]
      simp only at h1 h2
      omega
    rw [e, tk_inj M N h3]
theorem leP_total : PySem.W.TotalLe leP := PySem.W.sortLe_total _ false _
theorem leP_anti {M N : List Pr} (h1 : leP M N = true) (h2 : leP N M = true) : M = N := by
  rw [leP_lt, Bool.not_eq_true'] at h1 h2
  unfold ltD2 at h1 h2
  rw [toPy_psD, toPy_psD, PySem.W.dataLt_tuple] at h1 h2
  exact tk_inj M N ((PyProof.Rows.listOrd PyProof.Rows.itemOrd).total _ _ h2 h1)
def minS (x : List Pr) (l : List (List Pr)) : List Pr := l.foldl (fun a y => if ltD2 y a then y else a) x
theorem minS_spec : ∀ (l : List (List Pr)) (x : List Pr), minS x l ∈ x :: l ∧ ∀ s ∈ x :: l, leP (minS x l) s = true
  | [], x => ⟨List.mem_cons_self .., fun s hs => by
      rw [List.mem_singleton.mp hs]
      rcases leP_total.total x x with h | h <;> exact h⟩
  | y :: l, x => by
    have ih := minS_spec l (if ltD2 y x then y else x)
    have e : minS x (y :: l) = minS (if ltD2 y x then y else x) l := rfl
    rw [e]
    obtain ⟨h1, h2⟩ := ih
    have hz := h2 _ (List.mem_cons_self ..)
    constructor
    · rcases List.mem_cons.mp h1 with h | h
      · rw [h]
        split
        · exact List.mem_cons_of_mem _ (List.mem_cons_self ..)
        · exact List.mem_cons_self ..
      · exact List.mem_cons_of_mem _ (List.mem_cons_of_mem _ h)
    · intro s hs
      have hboth : leP (if ltD2 y x then y else x) x = true ∧ leP (if ltD2 y x then y else x) y = true := by
        cases hb : ltD2 y x with
        | true =>
          have r1 : leP x y = false := by rw [leP_lt, hb]; rfl
          simp only [if_true]
          have h3 : leP y x = true := by
            rcases leP_total.total y x with q | q
            · exact q
            · rw [r1] at q; cases q
          exact ⟨h3, by rcases leP_total.total y y with q | q <;> exact q⟩
        | false =>
          simp only [Bool.false_eq_true, if_false]
          exact ⟨by rcases leP_total.total x x with q | q <;> exact q, by rw [leP_lt, hb]; rfl⟩
      rcases List.mem_cons.mp hs with rfl | hs
      · exact leP_total.trans _ _ _ hz hboth.1
      · rcases List.mem_cons.mp hs with rfl | hs
        · exact leP_total.trans _ _ _ hz hboth.2
        · exact h2 s (List.mem_cons_of_mem _ hs)
theorem minO_psD : ∀ (l : List (List Pr)) (x : List Pr), minO (psD x) (l.map psD) = psD (minS x l)
  | [], _ => rfl
  | y :: l, x => by
    have ih := minO_psD l (if ltD2 y x then y else x)
    have e : psD (if ltD2 y x then y else x) = if PySem.W.dataLt (toPy (psD y)) (toPy (psD x)) then psD y else psD x := by
      unfold ltD2
      split <;> rfl
    rw [e] at ih
    exact ih
def minR (l : List (List Pr)) : List Pr := minS ((l[0]?).getD []) (l.drop 1)
theorem minR_spec {l : List (List Pr)} (h : l ≠ []) : minR l ∈ l ∧ ∀ s ∈ l, leP (minR l) s = true := by
  cases l with
  | nil => exact absurd rfl h
  | cons x l => exact minS_spec l x
theorem layP (M : List Pr) : PyData.canLayAll0 (M.map pyP) = true := by
  induction M with
  | nil => simp [PyData.canLayAll0]
  | cons p M ih => simp [PyData.canLayAll0, pyP, PyData.canLay0, ih]
theorem depP (M : List Pr) : PyData.depthAll (M.map pyP) ≤ 1 := by
  induction M with
  | nil => simp [PyData.depthAll]
  | cons p M ih =>
    have : (pyP p).depth = 1 := by simp [pyP, PyData.depth, PyData.depthAll]
    rw [List.map_cons, PyData.depthAll, this]
    omega
theorem alikeP : ∀ M N : List Pr, PySem.W.alikeAll (M.map pyP) (N.map pyP) = true
  | [], _ => by simp [PySem.W.alikeAll]
  | _ :: _, [] => by simp [PySem.W.alikeAll]
  | p :: M, q :: N => by
    rw [List.map_cons, List.map_cons, PySem.W.alikeAll, alikeP M N]
    simp [pyP, PySem.W.alike, PySem.W.alikeAll]
theorem py_rows (A : List (List Pr)) : toPyL (A.map psD) = A.map fun M => PyData.tuple (M.map pyP) := by
  rw [toPyL_map, List.map_map]
  exact List.map_congr_left fun M _ => toPy_psD M
theorem layR (A : List (List Pr)) : PyData.canLayAll0 (A.map fun M => PyData.tuple (M.map pyP)) = true := by
  induction A with
  | nil => simp [PyData.canLayAll0]
  | cons M A ih => simp only [List.map_cons, PyData.canLayAll0, PyData.canLay0, layP, ih]; rfl
theorem alikeR (A : List (List Pr)) : ((A.map fun M => PyData.tuple (M.map pyP)).all fun a => (A.map fun M => PyData.tuple (M.map pyP)).all fun b => PySem.W.alike a b) = true := by
  rw [List.all_eq_true]
  intro a ha
  rw [List.all_eq_true]
  intro b hb
  obtain ⟨x, _, rfl⟩ := List.mem_map.mp ha
  obtain ⟨y, _, rfl⟩ := List.mem_map.mp hb
  rw [PySem.W.alike]
  exact alikeP x y
theorem depR (A : List (List Pr)) : ((A.map fun M => PyData.tuple (M.map pyP)).all fun d => decide (d.depth ≤ 60)) = true := by
  rw [List.all_eq_true]
  intro a ha
  obtain ⟨x, _, rfl⟩ := List.mem_map.mp ha
  have := depP x
  rw [decide_eq_true_eq, PyData.depth]
  omega
theorem tpR (A : List (List Pr)) : (A.map fun M => PyData.tuple (M.map pyP)).all isTp = true := by
  rw [List.all_eq_true]
  intro a ha
  obtain ⟨x, _, rfl⟩ := List.mem_map.mp ha
  rfl
theorem injP : ∀ M : List Pr, injL (M.map prD) = true
  | [] => rfl
  | p :: M => by rw [List.map_cons, injL, injP M]; simp [prD, injD, injL]
theorem injR : ∀ A : List (List Pr), injL (A.map psD) = true
  | [] => rfl
  | M :: A => by rw [List.map_cons, injL, injR A]; simp [psD, injD, injP]
theorem minX_rows {A : List (List Pr)} (h : A ≠ []) : minX [.lst (A.map psD)] = some (false, psD (minR A)) := by
  cases A with
  | nil => exact absurd rfl h
  | cons x l =>
    have e1 : minD [.lst ((x :: l).map psD)] = none := by
      rw [List.map_cons]
      unfold minD psD
      simp only [intsD]
      rfl
    have e2 : okMin (toPyL ((x :: l).map psD)) = true := by
      rw [py_rows]
      unfold okMin
      rw [layR, alikeR, tpR, depR]; rfl
    have e3 := injR (x :: l)
    unfold minX
    rw [e1]
    unfold minA
    rw [List.map_cons] at e2 e3 ⊢
    simp only
    rw [e2, e3, minO_psD]; rfl
theorem sort_rowsP {A : List (List Pr)} (h : (∀ r ∈ A, r ≠ []) ∨ ∃ B, A = [] :: B) : sortD false (.lst (A.map psD)) = some (true, .lst ((A.mergeSort leP).map psD)) := by
  have ho : okSort (toPyL (A.map psD)) = true := by
    rw [py_rows]
    unfold okSort srtOkB
    have h2 : ((A.map fun M => PyData.tuple (M.map pyP)).all isT1 || (A.map fun M => PyData.tuple (M.map pyP)).all notTN || ((A.map fun M => PyData.tuple (M.map pyP)).all isTp && isT0 (A.map fun M => PyData.tuple (M.map pyP)))) = true := by
      rcases h with h | ⟨B, rfl⟩
      · have : (A.map fun M => PyData.tuple (M.map pyP)).all isT1 = true := by
          rw [List.all_eq_true]
          intro a ha
          obtain ⟨x, hx, rfl⟩ := List.mem_map.mp ha
          cases x with
          | nil => exact absurd rfl (h [] hx)
          | cons y ys => rfl
        rw [this]; simp
      · rw [tpR]
        have : isT0 ((([] : List Pr) :: B).map fun M => PyData.tuple (M.map pyP)) = true := rfl
        rw [this]; simp
    rw [layR, alikeR, h2, depR]; rfl
  unfold sortD
  simp only
  rw [if_pos ho, PySem.W.sort_maps (r := leP) (s := PySem.W.dataLe false toPy) psD fun _ _ _ _ => rfl]
theorem sort_head {A : List (List Pr)} (h : A ≠ []) : (A.mergeSort leP)[0]? = some (minR A) := by
  have hp := List.mergeSort_perm A leP
  cases hs : A.mergeSort leP with
  | nil =>
    rw [hs] at hp
    exact absurd (List.Perm.eq_nil hp.symm) h
  | cons y l =>
    have hpw := PySem.W.sort_pairwise leP_total A
    rw [hs] at hpw hp
    obtain ⟨m1, m2⟩ := minR_spec h
    have hy : y ∈ A := hp.mem_iff.mp (List.mem_cons_self ..)
    have h1 := m2 y hy
    have hm : minR A ∈ y :: l := hp.mem_iff.mpr m1
    have h2 : leP y (minR A) = true := by
      rcases List.mem_cons.mp hm with e | e
      · rw [e]; rcases leP_total.total y y with q | q <;> exact q
      · exact (List.pairwise_cons.mp hpw).1 _ e
    rw [leP_anti h2 h1]; rfl
theorem minR_eq {A B : List (List Pr)} (h : ∀ s, s ∈ A ↔ s ∈ B) (hA : A ≠ []) : minR A = minR B := by
  have hB : B ≠ [] := by
    intro e
    obtain ⟨x, hx⟩ := List.exists_mem_of_ne_nil A hA
    have := (h x).mp hx
    rw [e] at this; exact absurd this (by simp)
  obtain ⟨a1, a2⟩ := minR_spec hA
  obtain ⟨b1, b2⟩ := minR_spec hB
  exact leP_anti (a2 _ ((h _).mpr b1)) (b2 _ ((h _).mp a1))
/-- the pairs' own order -/
def ltI (a b c d : Int) : Bool := decide (a < c) || (a == c && decide (b < d))
theorem gt_pair (a b c d : Int) : gtA (.tup [.int c, .int d]) (.tup [.int a, .int b]) = some (false, .bl (ltI a b c d)) := by
  have ho : ∀ x y : Int, okEq (.tup [.int x, .int y]) = true := fun x y => by simp [okEq, toPy, toPyL, SeqAt.shaped, PyData.canLay0, PyData.canLayAll0, PyData.depth, PyData.depthAll]
  have ht : ∀ x y : Int, toPy (.tup [.int x, .int y]) = .tuple [.int x, .int y] := fun x y => by simp [toPy, toPyL]
  have hal : PySem.W.alike (.tuple [.int c, .int d]) (.tuple [.int a, .int b]) = true := by simp [PySem.W.alike, PySem.W.alikeAll]
  have hlt : PySem.W.dataLt (.tuple [.int a, .int b]) (.tuple [.int c, .int d]) = ltI a b c d := by
    rw [PySem.W.dataLt_pair (by simp [PySem.W.alike]) (by simp [PySem.W.alike]), PySem.W.dataLt_int, PySem.W.dataLt_int]
    unfold ltI
    simp only [PyData.eqv, beq_iff_eq]
    by_cases h : a = c
    · subst h
      rw [if_pos rfl]
      by_cases h2 : b = d
      · subst h2; simp
      · simp [h2]
    · rw [if_neg h]; simp [h]
  unfold gtA
  simp only
  rw [ho, ho, ht, ht, hal, hlt]; rfl
end Lw

set_option Elab.async false
set_option linter.all false
set_option maxRecDepth 100000
set_option autoImplicit false
set_option maxHeartbeats 4000000
namespace Lw
open PySem L2 DL
theorem inD_nDL (neg : Bool) (l : List Nat) (k : Nat) : inD neg (.int (k : Int)) (.lst (nD l)) = .some (false, .bl (xor neg (l.contains k))) := by
  have hf : (nD l).all flatD = true := by rw [List.all_eq_true]; intro d hd; obtain ⟨k, _, rfl⟩ := nD_mem hd; rfl
  have ha : ((nD l).any fun z => eqv z (.int (k : Int))) = l.contains k := by
    unfold nD
    rw [List.any_map, List.contains_eq_any_beq]
    apply Bool.eq_iff_iff.mpr
    rw [List.any_eq_true, List.any_eq_true]
    constructor
    · rintro ⟨x, hx, e⟩
      refine ⟨x, hx, ?_⟩
      have e : eqv (.int (x : Int)) (.int (k : Int)) = true := e
      rw [int_eqv, beq_iff_eq] at e
      rw [beq_iff_eq]; omega
    · rintro ⟨x, hx, e⟩
      refine ⟨x, hx, ?_⟩
      show eqv (.int (x : Int)) (.int (k : Int)) = true
      rw [int_eqv, beq_iff_eq]
      rw [beq_iff_eq] at e
      omega
  unfold inD inSeq
  simp only
  rw [hf, ha]
  simp [flatD]
theorem usd_flat (row : List Pr) (x : Nat) : (flat2 row).contains x = usd row x := by
  unfold flat2 usd has2
  rw [Bool.eq_iff_iff, List.contains_iff_mem, List.mem_flatMap, List.any_eq_true]
  constructor
  · rintro ⟨p, hp, hx⟩
    refine ⟨p, hp, ?_⟩
    simp only [List.mem_cons, List.not_mem_nil, or_false] at hx
    rw [Bool.or_eq_true, beq_iff_eq, beq_iff_eq]
    rcases hx with h | h
    · exact .inl h.symm
    · exact .inr h.symm
  · rintro ⟨p, hp, hx⟩
    refine ⟨p, hp, ?_⟩
    rw [Bool.or_eq_true, beq_iff_eq, beq_iff_eq] at hx
    simp only [List.mem_cons, List.not_mem_nil, or_false]
    rcases hx with h | h
    · exact .inl h.symm
    · exact .inr h.symm
def lastD (row : List Pr) : D := match row.getLast? with
  | none => .tup [.int (-1), .int (-1)]
  | some q => prD q
theorem gt_last (row : List Pr) (p : Pr) : gtA (prD p) (lastD row) = some (false, .bl (gtL row p)) := by
  unfold lastD gtL
  cases row.getLast? with
  | none =>
    show gtA (.tup [.int (p.1 : Int), .int (p.2 : Int)]) (.tup [.int (-1), .int (-1)]) = _
    rw [gt_pair]
    have : ltI (-1) (-1) (p.1 : Int) (p.2 : Int) = true := by
      unfold ltI
      rw [decide_eq_true (by omega : (-1 : Int) < (p.1 : Int))]; rfl
    rw [this]
  | some q =>
    show gtA (.tup [.int (p.1 : Int), .int (p.2 : Int)]) (.tup [.int (q.1 : Int), .int (q.2 : Int)]) = _
    rw [gt_pair]
    have : ltI (q.1 : Int) (q.2 : Int) (p.1 : Int) (p.2 : Int) = ltP q p := by
      unfold ltI ltP
      rw [int_beq]
      have e1 : decide ((q.1 : Int) < (p.1 : Int)) = decide (q.1 < p.1) := by rw [decide_eq_decide]; omega
      have e2 : decide ((q.2 : Int) < (p.2 : Int)) = decide (q.2 < p.2) := by rw [decide_eq_decide]; omega
      rw [e1, e2]
    rw [this]
def AB : CS := (sSeq (sAsg 6 (cComp2 [9, 10] (gN 9) tYesC [10] (gN 10) tYesC (cVar 10) (iSeq (cVar 9)) (iSeq (cVar 5))))
  (sSeq (sAsg 7 (cIf (tOf (c2 gtD (oVal (cN lenD (aCons (oVar 5) aNil))) (oVal (cC (.int 0))))) (c2 ixD (oVar 5) (oVal (c1 negD (oVal (cC (.int 1)))))) (cTup (aCons (oVal (c1 negD (oVal (cC (.int 1))))) (aCons (oVal (c1 negD (oVal (cC (.int 1))))) aNil)))))
  (sSeq (sAsg 8 (cComp [9] (gN 9) (tAnd' (tOf (c2 gtA (oVar 9) (oVar 7))) (tAnd' (tOf (c2 (inD true) (oVal (c2 ixD (oVar 9) (oVal (cC (.int 0))))) (oVar 6))) (tOf (c2 (inD true) (oVal (c2 ixD (oVar 9) (oVal (cC (.int 1))))) (oVar 6))))) (cVar 9) (iSeq (cVar 1))))
  (sExp (cM1 "list" 4 extendD (cComp [9] (gN 9) tYesC (cTup (aStar (oVar 5) (aCons (oVar 9) aNil))) (iSeq (cVar 8))))))))
theorem it_psD (M : List Pr) : iterD (psD M) = some (M.map prD) := rfl
theorem ps_len (M : List Pr) : lenD [psD M] = some (false, .int (M.length : Int)) := tup_len M prD
theorem last_at {t : List Pr} {z : Pr} : ixD (psD (t ++ [z])) (.int (-1)) = some (false, prD z) := by
  unfold psD
  rw [ev_ixt, List.map_append, List.map_cons, List.map_nil, atI_neg1 (by simp)]
  simp
theorem row_step {C row : List Pr} {RD : D} (hr : row.length ≤ 3) (hC : C.length ≤ 15) {s2 s3 s6 s7 s8 : DL.Slot} {LL : List D} (hL : LL.length ≤ 1000000) (k6 : okS (some s6) = true) (k7 : okS (some s7) = true) (k8 : okS (some s8) = true) :
    Sat (AB [.sh RD, .sh (psD C), s2, s3, .ow (.lst LL), .sh (psD row), s6, s7, s8, .un, .un]) fun r => r.1 = .nx ∧ ∃ s6 s7 s8 : DL.Slot, r.2 = [.sh RD, .sh (psD C), s2, s3, .ow (.lst (LL ++ (nxt1 C row).map psD)), .sh (psD row), s6, s7, s8, .un, .un] ∧ okS (some s6) = true ∧ okS (some s7) = true ∧ okS (some s8) = true := by
  have ir := it_psD row
  have ic := it_psD C
  have hl := ps_len row
  have hfl := flat2_len row
  have hu : ∀ x : Nat, inD true (.int (x : Int)) (.lst (nD (flat2 row))) = some (false, .bl (!usd row x)) := fun x => by rw [inD_nDL, usd_flat, Bool.true_xor]
  have hg := gt_last row
  have hsnoc : ∀ p : Pr, D.tup (row.map prD ++ [prD p]) = psD (row ++ [p]) := fun p => by unfold psD; rw [List.map_append]; rfl
  have hst : ∀ (gs : List D), (psD row) = .tup (row.map prD) := fun _ => rfl
  have ho : okL (row.length + 1) = true := okL_le' (by omega)
  have hfr : (frP C row).length ≤ 15 := Nat.le_trans (List.length_filter_le _ _) hC
  have hx : extendD (.lst LL) (.lst ((nxt1 C row).map psD)) = some (.lst (LL ++ (nxt1 C row).map psD), .non) := by rw [ev_ext (by unfold nxt1; rw [List.length_map, List.length_map]; omega)]
  have hlast : ∀ (row' : List Pr), row' = row → (if (0 : Int) < (row.length : Int) then ixD (psD row) (.int (-1)) else some (false, .tup [.int (-1), .int (-1)])) = some (false, lastD row) := by
    intro row' _
    rcases last_or row with e | ⟨t, z, e⟩
    · subst e; rfl
    · rw [if_pos (by rw [e, List.length_append]; simp), e, last_at]
      unfold lastD
      rw [List.getLast?_append, List.getLast?_singleton]; rfl
  have hlast := hlast row rfl
  unfold AB
  simp [-List.map_cons, -List.map_append, -List.map_map, ir]
  rw [compL2_M prD (fun p => [.int (p.1 : Int), .int (p.2 : Int)]) 2 row [] (fun _ _ => Nat.le_refl _) (by rw [List.length_nil]; omega), List.nil_append]
  · have e : (row.flatMap fun p => [D.int (p.1 : Int), .int (p.2 : Int)]) = nD (flat2 row) := by unfold nD flat2; rw [List.map_flatMap]; rfl
    rw [e]
    generalize nD (flat2 row) = UL at *
    have hcomp : compL [9] (gN 9) (tAnd' (tOf (c2 gtA (oVar 9) (oVar 7))) (tAnd' (tOf (c2 (inD true) (oVal (c2 ixD (oVar 9) (oVal (cC (.int 0))))) (oVar 6))) (tOf (c2 (inD true) (oVal (c2 ixD (oVar 9) (oVal (cC (.int 1))))) (oVar 6))))) (cVar 9) (C.map prD) [.sh RD, .sh (psD C), s2, s3, .ow (.lst LL), .sh (psD row), .ow (.lst UL), .sh (lastD row), s8, .un, .un] [] = .ok ((frP C row).map prD, [.sh RD, .sh (psD C), s2, s3, .ow (.lst LL), .sh (psD row), .ow (.lst UL), .sh (lastD row), s8, .un, .un]) := by
      rw [compL_M prD (fun p => if gtL row p && (!usd row p.1 && !usd row p.2) then some (prD p) else none) C [] ?_ (by simp; omega), fm_filter, List.nil_append]
      · rfl
      · intro p _
        have a1 := hg p
        have a2 := hu p.1
        have a3 := hu p.2
        have i0 : ixD (prD p) (.int 0) = some (false, .int (p.1 : Int)) := rfl
        have i1 : ixD (prD p) (.int 1) = some (false, .int (p.2 : Int)) := rfl
        generalize prD p = PD at *
        generalize lastD row = LD at *
        cases b1 : gtL row p <;> rw [b1] at a1 <;> cases b2 : usd row p.1 <;> rw [b2] at a2 <;> cases b3 : usd row p.2 <;> rw [b3] at a3 <;> simp [-List.map_cons, -List.map_append, -List.map_map, a1, a2, a3, i0, i1]
    have hcomp2 : compL [9] (gN 9) tYesC (cTup (aStar (oVar 5) (aCons (oVar 9) aNil))) ((frP C row).map prD) [.sh RD, .sh (psD C), s2, s3, .ow (.lst LL), .sh (psD row), .ow (.lst UL), .sh (lastD row), .sh (.lst ((frP C row).map prD)), .un, .un] [] = .ok ((nxt1 C row).map psD, [.sh RD, .sh (psD C), s2, s3, .ow (.lst LL), .sh (psD row), .ow (.lst UL), .sh (lastD row), .sh (.lst ((frP C row).map prD)), .un, .un]) := by
      rw [compL_M prD (fun p => some (psD (row ++ [p]))) (frP C row) [] ?_ (by simp; omega), fm_map, List.nil_append]
      · unfold nxt1
        rw [List.map_map]; rfl
      · intro p _
        have a1 := hsnoc p
        rw [hst []]
        generalize prD p = PD at *
        generalize lastD row = LD at *
        generalize psD (row ++ [p]) = PP at *
        have hml : (row.map prD).length = row.length := List.length_map ..
        rw [← hml] at ho
        generalize row.map prD = RP at *
        simp [-List.map_cons, -List.map_append, -List.map_map, ho, a1]
    by_cases hpos : (0 : Int) < (row.length : Int)
    · rw [if_pos hpos] at hlast
      have hp2 : row ≠ [] := by intro e; rw [e] at hpos; exact absurd hpos (by decide)
      have e1 : decide ((0 : Int) < (row.length : Int)) = true := decide_eq_true hpos
      have hp3 : 0 < row.length := by omega
      generalize lastD row = LD at *
      generalize (nxt1 C row).map psD = NX at *
      generalize (frP C row).map prD = FR at *
      simp [-List.map_cons, -List.map_append, -List.map_map, k6, k7, k8, hl, e1, hp3, neg_1, hlast, ic, hcomp, hcomp2, hx]
      exact ⟨_, _, _, ⟨rfl, rfl, rfl⟩, rfl, rfl, rfl⟩
    · rw [if_neg hpos] at hlast
      have hp2 : row = [] := List.eq_nil_of_length_eq_zero (by omega)
      have e1 : decide ((0 : Int) < (row.length : Int)) = false := decide_eq_false hpos
      have hl2 : lastD row = .tup [.int (-1), .int (-1)] := by injection hlast with q; injection q with _ q; exact q.symm
      rw [hl2] at hcomp hcomp2
      generalize (nxt1 C row).map psD = NX at *
      generalize (frP C row).map prD = FR at *
      generalize psD row = PR at *
      simp [-List.map_cons, -List.map_append, -List.map_map, k6, k7, k8, hl, e1, hp2, neg_1, hlast, ic, hcomp, hcomp2, hx]
      exact ⟨_, _, _, ⟨rfl, rfl, rfl⟩, rfl, rfl, rfl⟩
  · intro p _ acc hacc
    have t1 : okT acc.length = true := okT_lt (by omega)
    have t2 : okT (acc.length + 1) = true := okT_lt (by omega)
    have ip : iterD (prD p) = some [.int (p.1 : Int), .int (p.2 : Int)] := rfl
    generalize prD p = PD at *
    simp [-List.map_cons, -List.map_append, -List.map_map, ip, compL_step, compL_nil, kCd_some, t1, t2]
end Lw

set_option Elab.async false
set_option linter.all false
set_option maxRecDepth 100000
set_option autoImplicit false
set_option maxHeartbeats 4000000
namespace Lw
open PySem L2 DL
/-- the last level that has rows -/
def lvN (C : List Pr) : Nat := if LV C 1 = [] then 0 else if LV C 2 = [] then 1 else if LV C 3 = [] then 2 else 3
def bestR (C : List Pr) : List Pr := minR (LV C (lvN C))
def bestK (C : List Pr) : Nat → List Pr
  | 0 => []
  | k + 1 => minR (LV C k)
theorem LV_nil {C : List Pr} {k : Nat} (h : LV C k = []) : LV C (k + 1) = [] := by rw [LV, h]; rfl
theorem lvN_spec {C : List Pr} (h4 : LV C 4 = []) : LV C (lvN C) ≠ [] ∧ LV C (lvN C + 1) = [] := by
  unfold lvN
  by_cases h1 : LV C 1 = []
  · rw [if_pos h1]; exact ⟨by simp [LV], h1⟩
  · rw [if_neg h1]
    by_cases h2 : LV C 2 = []
    · rw [if_pos h2]; exact ⟨h1, h2⟩
    · rw [if_neg h2]
      by_cases h3 : LV C 3 = []
      · rw [if_pos h3]; exact ⟨h2, h3⟩
      · rw [if_neg h3]; exact ⟨h3, h4⟩
theorem lv_uniq {C : List Pr} (h4 : LV C 4 = []) {k : Nat} (h1 : LV C k ≠ []) (h2 : LV C (k + 1) = []) : k = lvN C := by
  obtain ⟨a, b⟩ := lvN_spec h4
  have mono : ∀ j i, i ≤ j → LV C i = [] → LV C j = [] := by
    intro j
    induction j with
    | zero => intro i hi h; rw [show i = 0 by omega] at h; exact h
    | succ j ih =>
      intro i hi h
      by_cases e : i = j + 1
      · rw [← e]; exact h
      · exact LV_nil (ih i (by omega) h)
  rcases Nat.lt_trichotomy k (lvN C) with q | q | q
  · exact absurd (mono _ _ q h2) a
  · exact q
  · exact absurd (mono _ _ q b) h1
def AW : CS := (sSeq (sAsg 3 (cN minX (aCons (oVar 2) aNil)))
  (sSeq (sAsg 4 (cLst aNil))
  (sSeq (sFor (gN 5) (iSeq (cVar 2)) AB)
  (sAsg 2 (cVar 4)))))
theorem ab_eq : S_apart = (sSeq (sAsg 1 (cCall none F_clashes (aCons (oVal (cVar 0)) aNil)))
  (sSeq (sAsg 2 (cLst (aCons (oVal (cTup aNil)) aNil)))
  (sSeq (sAsg 3 (cTup aNil))
  (sSeq (sWhile 1000 (tOf (c2 gtD (oVal (cN lenD (aCons (oVar 2) aNil))) (oVal (cC (.int 0))))) AW)
  (sRetV 3))))) := rfl
theorem lvl_step {C : List Pr} {RD : D} {i : Nat} (hC : C.length ≤ 15) (hi : i ≤ 3) (hL : LV C i ≠ []) (hrow : ∀ s ∈ LV C i, s.length ≤ 3) {s2 s3 s4 s5 s6 s7 s8 : DL.Slot} (q2 : s2 = .ow (.lst ((LV C i).map psD)) ∨ s2 = .sh (.lst ((LV C i).map psD)))
    (q3 : okS (some s3) = true) (q4 : okS (some s4) = true) (q5 : okS (some s5) = true) (q6 : okS (some s6) = true) (q7 : okS (some s7) = true) (q8 : okS (some s8) = true) :
    Sat (AW [.sh RD, .sh (psD C), s2, s3, s4, s5, s6, s7, s8, .un, .un]) fun r => r.1 = .nx ∧ ∃ s4 s5 s6 s7 s8 : DL.Slot, r.2 = [.sh RD, .sh (psD C), .sh (.lst ((LV C (i + 1)).map psD)), .sh (psD (minR (LV C i))), s4, s5, s6, s7, s8, .un, .un] ∧ okS (some s4) = true ∧ okS (some s5) = true ∧ okS (some s6) = true ∧ okS (some s7) = true ∧ okS (some s8) = true := by
  have mx := minX_rows hL
  have hpw : 15 ^ i ≤ 15 ^ 3 := Nat.pow_le_pow_right (by decide) hi
  have hli := LV_len (C := C) hC i
  have key : ∀ (s2 : DL.Slot) (sL : DL.Slot), okS (some s5) = true → Sat ((forL (gN 5) AB ((LV C i).map psD) [.sh RD, .sh (psD C), .sh (.lst ((LV C i).map psD)), .sh (psD (minR (LV C i))), .ow (.lst []), s5, s6, s7, s8, .un, .un]).bind (kSeq (sAsg 2 (cVar 4)))) fun r => r.1 = .nx ∧ ∃ s4 s5 s6 s7 s8 : DL.Slot, r.2 = [.sh RD, .sh (psD C), .sh (.lst ((LV C (i + 1)).map psD)), .sh (psD (minR (LV C i))), s4, s5, s6, s7, s8, .un, .un] ∧ okS (some s4) = true ∧ okS (some s5) = true ∧ okS (some s6) = true ∧ okS (some s7) = true ∧ okS (some s8) = true := by
    intro _ _ q5
    refine sat_forN (P := fun k e => ∃ s5 s6 s7 s8 : DL.Slot, e = [.sh RD, .sh (psD C), .sh (.lst ((LV C i).map psD)), .sh (psD (minR (LV C i))), .ow (.lst ((((LV C i).take k).flatMap (nxt1 C)).map psD)), s5, s6, s7, s8, .un, .un] ∧ okS (some s5) = true ∧ okS (some s6) = true ∧ okS (some s7) = true ∧ okS (some s8) = true) ⟨s5, s6, s7, s8, by simp, q5, q6, q7, q8⟩ ?_ ?_
    · rintro k d e hd ⟨s5, s6, s7, s8, rfl, q5, q6, q7, q8⟩
      obtain ⟨row, hr, rfl⟩ := map_get hd
      have hkl := (List.getElem?_eq_some_iff.mp hr).1
      have ht : (((LV C i).take (k + 1)).flatMap (nxt1 C)).map psD = (((LV C i).take k).flatMap (nxt1 C)).map psD ++ (nxt1 C row).map psD := by
        rw [List.take_add_one, hr, List.flatMap_append, List.map_append]; simp
      have hlen : ((((LV C i).take k).flatMap (nxt1 C)).map psD).length ≤ 1000000 := by
        have h1 := flat_len (f := nxt1 C) (M := 15) (l := (LV C i).take k) fun row _ => by
          unfold nxt1 frP
          rw [List.length_map]
          exact Nat.le_trans (List.length_filter_le _ _) hC
        rw [List.length_map]
        have h2 : ((LV C i).take k).length ≤ (LV C i).length := by rw [List.length_take]; omega
        have h3 : 15 ^ 3 = 3375 := by decide
        omega
      have st := row_step (C := C) (row := row) (RD := RD) (hrow row (List.mem_of_getElem? hr)) hC (s2 := .sh (.lst ((LV C i).map psD))) (s3 := .sh (psD (minR (LV C i)))) (LL := (((LV C i).take k).flatMap (nxt1 C)).map psD) hlen q6 q7 q8
      rw [ht]
      obtain ⟨r, hr1, hr2, s6', s7', s8', hr3, k6, k7, k8⟩ := st
      obtain ⟨fl, en⟩ := r
      simp only at hr2 hr3
      subst hr2 hr3
      simp [-List.map_cons, -List.map_append, -List.map_map, q5, hr1]
      exact ⟨_, _, _, _, ⟨rfl, rfl, rfl, rfl⟩, rfl, k6, k7, k8⟩
    · rintro e ⟨s5, s6, s7, s8, rfl, q5, q6, q7, q8⟩
      have e : ((LV C i).flatMap (nxt1 C)).map psD = (LV C (i + 1)).map psD := rfl
      rw [List.length_map, List.take_length, e]
      simp [-List.map_cons, -List.map_append, -List.map_map]
      exact ⟨_, _, _, _, _, ⟨rfl, rfl, rfl, rfl, rfl⟩, rfl, q5, q6, q7, q8⟩
  unfold AW
  rcases q2 with rfl | rfl <;>
  · simp [-List.map_cons, -List.map_append, -List.map_map, mx, q3, q4]
    exact key s3 s3 q5
theorem apart_ok {R : List (List Tv)} {m : Nat} (h : RpOk R m) : F_apart [rpD R] = .ok ((false, psD (bestR (CP R))), none) := by
  have cl := clashes_ok h
  have h6 := h.n6
  have hC := CP15 h6
  have h4 := LV4 h6
  have hLV : ∀ k, ∀ s ∈ LV (CP R) k, s.length ≤ 3 := fun k s hs => row_short h6 ((LV_mem _ _ _).mp hs).2
  have hlen := LV_len (C := CP R) hC
  have hun : ∀ k, LV (CP R) k ≠ [] → LV (CP R) (k + 1) = [] → k = lvN (CP R) := fun k => lv_uniq h4
  have hb : bestR (CP R) = minR (LV (CP R) (lvN (CP R))) := rfl
  unfold F_apart
  rw [ab_eq]
  generalize rpD R = RD at *
  generalize CP R = C at *
  simp [-List.map_cons, -List.map_append, -List.map_map, entryE, entryS, cl]
  refine eq_while (P := fun k e => ∃ i : Nat, ∃ s2 s4 s5 s6 s7 s8 : DL.Slot, e = [.sh RD, .sh (psD C), s2, .sh (psD (bestK C i)), s4, s5, s6, s7, s8, .un, .un] ∧ i + k = 4 ∧ (i = 0 ∨ LV C (i - 1) ≠ []) ∧ (s2 = .ow (.lst ((LV C i).map psD)) ∨ s2 = .sh (.lst ((LV C i).map psD))) ∧ okS (some s4) = true ∧ okS (some s5) = true ∧ okS (some s6) = true ∧ okS (some s7) = true ∧ okS (some s8) = true)
    (Q := fun e => ∃ i : Nat, ∃ s2 s4 s5 s6 s7 s8 : DL.Slot, e = [.sh RD, .sh (psD C), s2, .sh (psD (minR (LV C i))), s4, s5, s6, s7, s8, .un, .un] ∧ LV C i ≠ [] ∧ LV C (i + 1) = []) 4 (by omega) ⟨0, _, .un, .un, .un, .un, .un, rfl, rfl, .inl rfl, .inl rfl, rfl, rfl, rfl, rfl, rfl⟩ ?_ ?_
  · rintro k e ⟨i, s2, s4, s5, s6, s7, s8, rfl, hk, hi, q2, q4, q5, q6, q7, q8⟩
    have hll := lst_len (LV C i) psD
    by_cases hL : LV C i = []
    · left
      have e1 : decide ((0 : Int) < ((LV C i).length : Int)) = false := by rw [hL]; rfl
      have hi0 : i ≠ 0 := by intro e; rw [e] at hL; simp [LV] at hL
      obtain ⟨i', rfl⟩ : ∃ i', i = i' + 1 := ⟨i - 1, by omega⟩
      refine ⟨[.sh RD, .sh (psD C), s2, .sh (psD (bestK C (i' + 1))), s4, s5, s6, s7, s8, .un, .un], ?_, i', s2, s4, s5, s6, s7, s8, rfl, hi.resolve_left hi0, hL⟩
      generalize D.lst ((LV C (i' + 1)).map psD) = LD at *
      rcases q2 with rfl | rfl <;> simp [-List.map_cons, -List.map_append, -List.map_map, hll, hL]
    · right
      have e1 : decide ((0 : Int) < ((LV C i).length : Int)) = true := decide_eq_true (by have := List.length_pos_iff.mpr hL; omega)
      have hp1 : 0 < (LV C i).length := List.length_pos_iff.mpr hL
      have hi4 : i < 4 := by
        rcases Nat.lt_or_ge i 4 with q | q
        · exact q
        · exfalso
          have : i = 4 := by omega
          rw [this] at hL; exact hL h4
      have st := lvl_step (C := C) (RD := RD) (i := i) hC (by omega) hL (hLV i) (s2 := s2) (s3 := .sh (psD (bestK C i))) q2 rfl q4 q5 q6 q7 q8
      obtain ⟨r, hr1, hr2, s4', s5', s6', s7', s8', hr3, k4, k5, k6, k7, k8⟩ := st
      obtain ⟨fl, en⟩ := r
      simp only at hr2 hr3
      subst hr2 hr3
      refine ⟨_, _, k - 1, ?_, hr1, by omega, i + 1, _, s4', s5', s6', s7', s8', rfl, by omega, .inr hL, .inr rfl, k4, k5, k6, k7, k8⟩
      generalize D.lst ((LV C i).map psD) = LD at *
      rcases q2 with rfl | rfl <;> simp [-List.map_cons, -List.map_append, -List.map_map, hll, hp1]
  · rintro e ⟨i, s2, s4, s5, s6, s7, s8, rfl, h1, h2⟩
    have := hun i h1 h2
    subst this
    rw [hb]
    simp [-List.map_cons, -List.map_append, -List.map_map]
end Lw

set_option Elab.async false
set_option linter.all false
set_option maxRecDepth 100000
set_option autoImplicit false
set_option maxHeartbeats 4000000
namespace Lw
open PySem L2 DL
theorem in_prD (q : Pr) (x : Nat) : inD false (.int (x : Int)) (prD q) = some (false, .bl (has2 q x)) := by
  have e : ∀ a : Nat, eqv (.int (a : Int)) (.int (x : Int)) = (a == x) := fun a => by rw [int_eqv, int_beq]
  unfold prD inD inSeq has2
  simp only [List.all_cons, List.all_nil, List.any_cons, List.any_nil, e, Bool.or_false]
  simp [flatD]
theorem LR_take {C : List Pr} {k : Nat} {p : Pr} (h : C[k]? = some p) : LR (C.take (k + 1)) = stepL (LR (C.take k)) p := by
  rw [List.take_add_one, h]
  exact LR_snoc _ _
theorem LR_lenT (C : List Pr) (k : Nat) (h : C.length ≤ 15) : (LR (C.take k)).length ≤ 32768 := by
  have := LR_len (C.take k).reverse
  rw [List.reverse_reverse, List.length_reverse] at this
  have h2 : (C.take k).length ≤ 15 := by rw [List.length_take]; omega
  have h3 : 2 ^ (C.take k).length ≤ 2 ^ 15 := Nat.pow_le_pow_right (by decide) h2
  omega
theorem LR_0 : ∀ D : List Pr, ∃ B, LR D.reverse = [] :: B
  | [] => ⟨[], rfl⟩
  | p :: D => by
    obtain ⟨B, h⟩ := LR_0 D
    rw [List.reverse_cons, LR_snoc, stepL, h]
    exact ⟨_, rfl⟩
theorem big_len {C s : List Pr} (hA : Asc C) (h4 : LV C 4 = []) (hs : s ∈ LR C) : s.length ≤ lvN C := by
  rcases Nat.lt_or_ge (lvN C) s.length with q | q
  · exfalso
    have h1 := row_take ((LR_mem hA s).mp hs) (lvN C + 1)
    have h2 : s.take (lvN C + 1) ∈ LV C (lvN C + 1) := (LV_mem _ _ _).mpr ⟨by rw [List.length_take]; omega, h1⟩
    rw [(lvN_spec h4).2] at h2
    exact absurd h2 (by simp)
  · exact q
theorem lv_lr {C : List Pr} (hA : Asc C) (s : List Pr) : s ∈ LV C (lvN C) ↔ s ∈ (LR C).filter fun s => s.length == lvN C := by
  rw [List.mem_filter, LR_mem hA, LV_mem, beq_iff_eq]
  exact ⟨fun h => ⟨h.2, h.1⟩, fun h => ⟨h.2, h.1⟩⟩
theorem largest_ok {C : List Pr} (hA : Asc C) (h4 : LV C 4 = []) (hC : C.length ≤ 15) (hsh : ∀ s, RowOk C s → s.length ≤ 3) : F__law_largest [.lst (C.map prD)] = .ok ((false, psD (bestR C)), none) := by
  have hrow : ∀ k, ∀ s ∈ LR (C.take k), s.length ≤ 3 := by
    intro k s hs
    have hA2 : Asc (C.take k) := hA.sublist (List.take_sublist k C)
    have := (LR_mem hA2 s).mp hs
    exact hsh s ⟨this.1, fun p hp => List.mem_of_mem_take (this.2.1 p hp), this.2.2⟩
  unfold F__law_largest S__law_largest
  apply eq_of_sat
  simp [-List.map_cons, -List.map_append, -List.map_map, entryE, entryS]
  refine sat_forN (P := fun k e => ∃ s2 : DL.Slot, e = [.sh (.lst (C.map prD)), .ow (.lst ((LR (C.take k)).map psD)), s2, .un, .un, .un] ∧ okS (some s2) = true) ⟨.un, by simp [LR, psD], rfl⟩ ?_ ?_
  · rintro k d e hd ⟨s2, rfl, q2⟩
    obtain ⟨p, hp, rfl⟩ := map_get hd
    have hl := LR_lenT C k hC
    have hr := hrow k
    rw [LR_take hp, stepL]
    generalize LR (C.take k) = L at *
    have hadd : addD (.lst (L.map psD)) (.lst (((L.filter (noHit p)).map fun row => row ++ [p]).map psD)) = some (true, .lst ((L ++ ((L.filter (noHit p)).map fun row => row ++ [p])).map psD)) := by
      have := List.length_filter_le (noHit p) L
      rw [ev_addL (by rw [List.length_map, List.length_map, List.length_map]; omega), List.map_append]
    have i0 : ixD (prD p) (.int 0) = some (false, .int (p.1 : Int)) := rfl
    have i1 : ixD (prD p) (.int 1) = some (false, .int (p.2 : Int)) := rfl
    have hp1 : ∀ row ∈ L, addD (psD row) (.tup [prD p]) = some (false, psD (row ++ [p])) := fun row hrw => by
      have := hr row hrw
      unfold psD
      rw [ev_addT (by rw [List.length_map]; simp; omega), List.map_append]; rfl
    simp [-List.map_cons, -List.map_append, -List.map_map, q2]
    refine sat_compM (fun row => if noHit p row then some (psD (row ++ [p])) else none) ?_ (by omega) ?_
    · intro row hrw
      have h3 := hr row hrw
      have a1 := hp1 row hrw
      have ir := it_psD row
      have an := any_bl row fun q => hit q p
      have hn : noHit p row = !row.any fun q => hit q p := rfl
      generalize psD row = PR at *
      simp [-List.map_cons, -List.map_append, -List.map_map, ir]
      rw [compL_M prD (fun q => some (.bl (hit q p))) row [] ?_ (by simp; omega), fm_map, List.nil_append]
      · generalize (row.map fun q => D.bl (hit q p)) = Q at *
        rw [hn]
        generalize prD p = PP at *
        cases hb : row.any fun q => hit q p <;> rw [hb] at an <;> simp [-List.map_cons, -List.map_append, -List.map_map, an, a1]
      · intro q _
        have b1 := in_prD q p.1
        have b2 := in_prD q p.2
        have hh : hit q p = (has2 q p.1 || has2 q p.2) := rfl
        rw [hh]
        generalize prD q = Q at *
        generalize prD p = PP at *
        cases c1 : has2 q p.1 <;> rw [c1] at b1 <;> cases c2 : has2 q p.2 <;> rw [c2] at b2 <;> simp [-List.map_cons, -List.map_append, -List.map_map, i0, i1, b1, b2]
    · rw [fm_filter]
      have e : ((L.filter (noHit p)).map fun row => psD (row ++ [p])) = ((L.filter (noHit p)).map fun row => row ++ [p]).map psD := by rw [List.map_map]; rfl
      rw [e]
      generalize (L ++ ((L.filter (noHit p)).map fun row => row ++ [p])).map psD = NL at *
      generalize ((L.filter (noHit p)).map fun row => row ++ [p]).map psD = NX at *
      generalize hLD : D.lst (L.map psD) = LD at *
      simp [-List.map_cons, -List.map_append, -List.map_map, hadd]
  · rintro e ⟨s2, rfl, q2⟩
    rw [List.length_map, List.take_length]
    have hl := LR_lenT C C.length hC
    rw [List.take_length] at hl
    have hmax : maxD [.lst ((LR C).map fun s => D.int (s.length : Int))] = some (false, .int (lvN C : Int)) := by
      have e : ((LR C).map fun s => D.int (s.length : Int)) = ((LR C).map fun s => (s.length : Int)).map D.int := by rw [List.map_map]; rfl
      have hm : (lvN C : Int) ∈ (LR C).map fun s => (s.length : Int) := by
        obtain ⟨x, hx⟩ := List.exists_mem_of_ne_nil _ (lvN_spec h4).1
        have := (lv_lr hA x).mp hx
        obtain ⟨g1, g2⟩ := List.mem_filter.mp this
        rw [beq_iff_eq] at g2
        exact List.mem_map.mpr ⟨x, g1, by rw [g2]⟩
      have hy : ∀ y ∈ (LR C).map fun s => (s.length : Int), y ≤ (lvN C : Int) := by
        intro y hy
        obtain ⟨s, hs, rfl⟩ := List.mem_map.mp hy
        have := big_len hA h4 hs
        omega
      rw [e]
      generalize ((LR C).map fun s => (s.length : Int)) = IL at *
      cases IL with
      | nil => exact absurd hm (by simp)
      | cons x xs =>
        rw [List.map_cons]
        unfold maxD
        simp only
        rw [← List.map_cons, intsD_map, Option.map_some, maxI_eq hm hy]
    have hB : (LR C).filter (fun s => s.length == lvN C) ≠ [] := by
      intro e
      obtain ⟨x, hx⟩ := List.exists_mem_of_ne_nil _ (lvN_spec h4).1
      have := (lv_lr hA x).mp hx
      rw [e] at this; exact absurd this (by simp)
    have hso : (∀ r ∈ (LR C).filter (fun s => s.length == lvN C), r ≠ []) ∨ ∃ B, (LR C).filter (fun s => s.length == lvN C) = [] :: B := by
      by_cases h0 : lvN C = 0
      · right
        obtain ⟨B, hB⟩ := LR_0 C.reverse
        rw [List.reverse_reverse] at hB
        rw [hB, List.filter_cons, h0]
        exact ⟨_, rfl⟩
      · left
        intro r hr
        have := (List.mem_filter.mp hr).2
        rw [beq_iff_eq] at this
        intro e
        rw [e] at this
        exact h0 this.symm
    have hs := sort_rowsP hso
    have hh := sort_head hB
    have hmin := minR_eq (lv_lr hA) (lvN_spec h4).1
    rw [← hmin] at hh
    have hbest : minR (LV C (lvN C)) = bestR C := rfl
    rw [hbest] at hh
    have hat := at0 (f := psD) hh
    generalize ((LR C).filter fun s => s.length == lvN C).mergeSort leP = SB at *
    generalize SB.map psD = SBD at *
    simp [-List.map_cons, -List.map_append, -List.map_map]
    refine sat_compM (fun s => some (.int (s.length : Int))) ?_ (by omega) ?_
    · intro s _
      have := ps_len s
      generalize psD s = S at *
      simp [-List.map_cons, -List.map_append, -List.map_map, this]
    · rw [fm_map]
      generalize ((LR C).map fun s => D.int (s.length : Int)) = ML at *
      simp [-List.map_cons, -List.map_append, -List.map_map, hmax]
      refine sat_compM (fun s => if s.length == lvN C then some (psD s) else none) ?_ (by omega) ?_
      · intro s _
        have := ps_len s
        have e1 := int_beq s.length (lvN C)
        generalize psD s = S at *
        generalize (s.length : Int) = SL at *
        generalize (lvN C : Int) = LN at *
        cases hb : s.length == lvN C <;> rw [hb] at e1 <;> simp [-List.map_cons, -List.map_append, -List.map_map, this, e1]
      · rw [fm_filter]
        generalize ((LR C).filter fun s => s.length == lvN C).map psD = FB at *
        simp [-List.map_cons, -List.map_append, -List.map_map, hs, hat]
end Lw

set_option Elab.async false
set_option linter.all false
set_option maxRecDepth 100000
set_option autoImplicit false
set_option maxHeartbeats 4000000
namespace Lw
open PySem L2 DL
theorem nx01 (nums : List Int) (i : Nat) : nx nums i 2 = 0 ∨ nx nums i 2 = 1 := by
  have := nx_rng nums i (m := 2) (by omega)
  omega
def Bits (n : Nat) (H : List Int) : Prop := H.length = n ∧ ∀ x ∈ H, x = 0 ∨ x = 1
theorem hidden_ok {nums : List Int} (hn : nums ≠ []) (hl : nums.length < 1073741824) {i : Nat} (hi : i < 800000) {m : Nat} (m4 : m ≤ 4) {s1 s2 s3 s4 s5 s7 s8 : DL.Slot} :
    ∃ H : List Int, compL [6] (gN 6) tYesC (cCall (some 0) F__law_next (aCons (oVar 0) (aCons (oVal (cC (.int 2))) aNil))) (nD (List.range m)) [.io (St nums i), s1, s2, s3, s4, s5, .un, s7, s8, .un, .un] [] = .ok (H.map D.int, [.io (St nums (i + m)), s1, s2, s3, s4, s5, .un, s7, s8, .un, .un]) ∧ Bits m H := by
  obtain ⟨l, e', hc, hll, L, rfl, rfl, hb⟩ := compL_inv (own := [6]) (g := gN 6) (tt := tYesC) (f := (cCall (some 0) F__law_next (aCons (oVar 0) (aCons (oVal (cC (.int 2))) aNil)))) (ds := nD (List.range m)) (env := [.io (St nums i), s1, s2, s3, s4, s5, .un, s7, s8, .un, .un])
    (fun k acc e => ∃ L : List Int, acc = L.map D.int ∧ e = [.io (St nums (i + k)), s1, s2, s3, s4, s5, .un, s7, s8, .un, .un] ∧ ∀ x ∈ L, x = 0 ∨ x = 1) ⟨[], rfl, rfl, by simp⟩ (by rw [nD_len, List.length_range]; omega) (by
    rintro k acc e d hd ha ⟨L, rfl, rfl, hb⟩
    obtain ⟨hk, rfl⟩ := range_get hd
    have n1 := next_ok hn hl (i := i + k) (by omega) (m := 2) (by omega)
    rw [show i + (k + 1) = i + k + 1 by omega]
    refine ⟨.int (nx nums (i + k + 1) 2), [.io (St nums (i + k + 1)), s1, s2, s3, s4, s5, .un, s7, s8, .un, .un], ?_, L ++ [nx nums (i + k + 1) 2], by rw [List.map_append]; rfl, rfl, ?_⟩
    · simp [n1]
    · intro x hx
      rcases List.mem_append.mp hx with h | h
      · exact hb x h
      · rw [List.mem_singleton.mp h]; exact nx01 _ _)
  rw [nD_len, List.length_range] at hc hll
  exact ⟨L, hc, by rw [List.length_map] at hll; exact hll, hb⟩
theorem row_ok {nums : List Int} (hn : nums ≠ []) (hl : nums.length < 1073741824) {i : Nat} (hi : i < 800000) {m : Nat} (m4 : m ≤ 4) {H : List Int} (hH : Bits m H) (b : Bool) {s1 s2 s4 s5 s6 s8 : DL.Slot} :
    ∃ W : List Int, compL [9] (gN 9) tYesC (c2 ixD (oVal (cLst (aCons (oVal (c2 ixD (oVar 3) (oVar 9))) (aCons (oVal (cCall (some 0) F__law_next (aCons (oVar 0) (aCons (oVal (cC (.int 2))) aNil)))) aNil)))) (oVal (cN intD (aCons (oVar 7) aNil)))) (nD (List.range m)) [.io (St nums i), s1, s2, .ow (.lst (H.map D.int)), s4, s5, s6, .sh (.bl b), s8, .un, .un] [] = .ok (W.map D.int, [.io (St nums (i + m)), s1, s2, .ow (.lst (H.map D.int)), s4, s5, s6, .sh (.bl b), s8, .un, .un]) ∧ Bits m W := by
  obtain ⟨l, e', hc, hll, L, rfl, rfl, hb⟩ := compL_inv (own := [9]) (g := gN 9) (tt := tYesC) (f := (c2 ixD (oVal (cLst (aCons (oVal (c2 ixD (oVar 3) (oVar 9))) (aCons (oVal (cCall (some 0) F__law_next (aCons (oVar 0) (aCons (oVal (cC (.int 2))) aNil)))) aNil)))) (oVal (cN intD (aCons (oVar 7) aNil))))) (ds := nD (List.range m)) (env := [.io (St nums i), s1, s2, .ow (.lst (H.map D.int)), s4, s5, s6, .sh (.bl b), s8, .un, .un])
    (fun k acc e => ∃ L : List Int, acc = L.map D.int ∧ e = [.io (St nums (i + k)), s1, s2, .ow (.lst (H.map D.int)), s4, s5, s6, .sh (.bl b), s8, .un, .un] ∧ ∀ x ∈ L, x = 0 ∨ x = 1) ⟨[], rfl, rfl, by simp⟩ (by rw [nD_len, List.length_range]; omega) (by
    rintro k acc e d hd ha ⟨L, rfl, rfl, hb⟩
    obtain ⟨hk, rfl⟩ := range_get hd
    have n1 := next_ok hn hl (i := i + k) (by omega) (m := 2) (by omega)
    have hkH : k < H.length := by rw [hH.1]; exact hk
    have hat : atI (H.map D.int) (k : Int) = some (.int H[k]) := at_map (List.getElem?_eq_getElem hkH)
    rw [show i + (k + 1) = i + k + 1 by omega]
    refine ⟨.int (if b then nx nums (i + k + 1) 2 else H[k]), [.io (St nums (i + k + 1)), s1, s2, .ow (.lst (H.map D.int)), s4, s5, s6, .sh (.bl b), s8, .un, .un], ?_, L ++ [if b then nx nums (i + k + 1) 2 else H[k]], by rw [List.map_append]; rfl, rfl, ?_⟩
    · generalize H.map D.int = HD at *
      cases b <;> simp [n1, hat]
    · intro x hx
      rcases List.mem_append.mp hx with h | h
      · exact hb x h
      · rw [List.mem_singleton.mp h]
        cases b
        · exact hH.2 _ (List.getElem_mem hkH)
        · exact nx01 _ _)
  rw [nD_len, List.length_range] at hc hll
  exact ⟨L, hc, by rw [List.length_map] at hll; exact hll, hb⟩
theorem cells_ok {nums : List Int} (hn : nums ≠ []) (hl : nums.length < 1073741824) {i : Nat} (hi : i < 800000) {m : Nat} (m4 : m ≤ 4) {W : List Int} (hW : Bits m W) (g : Int) {s1 s2 s3 s5 s6 s7 s8 : DL.Slot} :
    ∃ (T : List Tv) (j : Nat), compL [10] (gN 10) tYesC (c2 ixD (oVal (cLst (aCons (oVar 10) (aCons (oVal (cC .non)) aNil)))) (oVal (cN intD (aCons (oVal (cAnd (c2 (eqD false) (oVar 4) (oVal (cC (.int 1)))) (c2 (eqD false) (oVal (cCall (some 0) F__law_next (aCons (oVar 0) (aCons (oVal (cC (.int 4))) aNil)))) (oVal (cC (.int 0)))))) aNil)))) (W.map D.int) [.io (St nums i), s1, s2, s3, .sh (.int g), s5, s6, s7, s8, .un, .un] [] = .ok (T.map tvD, [.io (St nums j), s1, s2, s3, .sh (.int g), s5, s6, s7, s8, .un, .un]) ∧ (T.length = m ∧ ∀ t ∈ T, TvOk t) ∧ j ≤ i + m := by
  obtain ⟨l, e', hc, hll, L, j, rfl, rfl, hb, hj⟩ := compL_inv (own := [10]) (g := gN 10) (tt := tYesC) (f := (c2 ixD (oVal (cLst (aCons (oVar 10) (aCons (oVal (cC .non)) aNil)))) (oVal (cN intD (aCons (oVal (cAnd (c2 (eqD false) (oVar 4) (oVal (cC (.int 1)))) (c2 (eqD false) (oVal (cCall (some 0) F__law_next (aCons (oVar 0) (aCons (oVal (cC (.int 4))) aNil)))) (oVal (cC (.int 0)))))) aNil))))) (ds := W.map D.int) (env := [.io (St nums i), s1, s2, s3, .sh (.int g), s5, s6, s7, s8, .un, .un])
    (fun k acc e => ∃ (L : List Tv) (j : Nat), acc = L.map tvD ∧ e = [.io (St nums j), s1, s2, s3, .sh (.int g), s5, s6, s7, s8, .un, .un] ∧ (∀ t ∈ L, TvOk t) ∧ j ≤ i + k) ⟨[], i, rfl, rfl, by simp, by omega⟩ (by rw [List.length_map, hW.1]; omega) (by
    rintro k acc e d hd ha ⟨L, j, rfl, rfl, hb, hj⟩
    obtain ⟨x, hx, rfl⟩ := map_get hd
    have hkW := (List.getElem?_eq_some_iff.mp hx).1
    rw [hW.1] at hkW
    have hx01 := hW.2 x (List.mem_of_getElem? hx)
    have n1 := next_ok hn hl (i := j) (by omega) (m := 4) (by omega)
    have hin : ∀ t : Tv, TvOk t → ∀ t' ∈ L ++ [t], TvOk t' := fun t ht t' h => by
      rcases List.mem_append.mp h with h | h
      · exact hb t' h
      · rw [List.mem_singleton.mp h]; exact ht
    have ht1 : TvOk (some x) := by rcases hx01 with rfl | rfl
                                   · exact .inr (.inl rfl)
                                   · exact .inr (.inr rfl)
    cases hg : g == 1 with
    | false =>
      refine ⟨tvD (some x), [.io (St nums j), s1, s2, s3, .sh (.int g), s5, s6, s7, s8, .un, .un], ?_, L ++ [some x], j, by rw [List.map_append]; rfl, rfl, hin _ ht1, by omega⟩
      simp [hg, tvD]
    | true =>
      cases hq : nx nums (j + 1) 4 == 0 with
      | false =>
        refine ⟨tvD (some x), [.io (St nums (j + 1)), s1, s2, s3, .sh (.int g), s5, s6, s7, s8, .un, .un], ?_, L ++ [some x], j + 1, by rw [List.map_append]; rfl, rfl, hin _ ht1, by omega⟩
        simp [hg, tvD, n1, hq]
      | true =>
        refine ⟨tvD none, [.io (St nums (j + 1)), s1, s2, s3, .sh (.int g), s5, s6, s7, s8, .un, .un], ?_, L ++ [none], j + 1, by rw [List.map_append]; rfl, rfl, hin _ (.inl rfl), by omega⟩
        simp [hg, tvD, n1, hq])
  rw [List.length_map, List.length_map] at hll
  rw [List.length_map] at hj
  rw [hW.1] at hll hj
  exact ⟨L, j, hc, ⟨hll, hb⟩, hj⟩
def RBd : CS := (sSeq (sAsg 7 (c2 (eqD false) (oVal (cCall (some 0) F__law_next (aCons (oVar 0) (aCons (oVal (cC (.int 3))) aNil)))) (oVal (cC (.int 0)))))
  (sSeq (sAsg 8 (cComp [9] (gN 9) tYesC (c2 ixD (oVal (cLst (aCons (oVal (c2 ixD (oVar 3) (oVar 9))) (aCons (oVal (cCall (some 0) F__law_next (aCons (oVar 0) (aCons (oVal (cC (.int 2))) aNil)))) aNil)))) (oVal (cN intD (aCons (oVar 7) aNil)))) (iL rngD1 (aCons (oVar 2) aNil))))
  (sExp (cM1 "list" 5 appendD (cN tupleD (aCons (oVal (cComp [10] (gN 10) tYesC (c2 ixD (oVal (cLst (aCons (oVar 10) (aCons (oVal (cC .non)) aNil)))) (oVal (cN intD (aCons (oVal (cAnd (c2 (eqD false) (oVar 4) (oVal (cC (.int 1)))) (c2 (eqD false) (oVal (cCall (some 0) F__law_next (aCons (oVar 0) (aCons (oVal (cC (.int 4))) aNil)))) (oVal (cC (.int 0)))))) aNil)))) (iSeq (cVar 8)))) aNil))))))
theorem rbody_ok {nums : List Int} (hn : nums ≠ []) (hl : nums.length < 1073741824) {i : Nat} (hi : i < 700000) {n m : Nat} (m4 : m ≤ 4) {H : List Int} (hH : Bits m H) {g : Int} {k : Nat} {Rk : List (List Tv)} (hR : Rk.length ≤ 10) {s7 s8 : DL.Slot} (q7 : okS (some s7) = true) (q8 : okS (some s8) = true) :
    ∃ T j, (T.length = m ∧ ∀ t ∈ T, TvOk t) ∧ j ≤ i + 9 ∧ Sat (RBd [.io (St nums i), .sh (.int (n : Int)), .sh (.int (m : Int)), .ow (.lst (H.map D.int)), .sh (.int g), .ow (.lst (Rk.map rwD)), .sh (.int (k : Int)), s7, s8, .un, .un]) fun r => r.1 = .nx ∧ ∃ s7 s8 : DL.Slot, r.2 = [.io (St nums j), .sh (.int (n : Int)), .sh (.int (m : Int)), .ow (.lst (H.map D.int)), .sh (.int g), .ow (.lst ((Rk ++ [T]).map rwD)), .sh (.int (k : Int)), s7, s8, .un, .un] ∧ okS (some s7) = true ∧ okS (some s8) = true := by
  have n1 := next_ok hn hl (i := i) (by omega) (m := 3) (by omega)
  have rn := rngn (n := m) (by omega)
  have tt : ∀ l : List D, tupleD [.lst l] = some (false, .tup l) := fun _ => rfl
  obtain ⟨W, hW, hW2⟩ := row_ok hn hl (i := i + 1) (by omega) m4 hH (nx nums (i + 1) 3 == 0) (s1 := .sh (.int (n : Int))) (s2 := .sh (.int (m : Int))) (s4 := .sh (.int g)) (s5 := .ow (.lst (Rk.map rwD))) (s6 := .sh (.int (k : Int))) (s8 := s8)
  obtain ⟨T, j, hT, hT2, hj⟩ := cells_ok hn hl (i := i + 1 + m) (by omega) m4 hW2 g (s1 := .sh (.int (n : Int))) (s2 := .sh (.int (m : Int))) (s3 := .ow (.lst (H.map D.int))) (s5 := .ow (.lst (Rk.map rwD))) (s6 := .sh (.int (k : Int))) (s7 := .sh (.bl (nx nums (i + 1) 3 == 0))) (s8 := .sh (.lst (W.map D.int)))
  refine ⟨T, j, hT2, by omega, ?_⟩
  have ha : appendD (.lst (Rk.map rwD)) (rwD T) = some (.lst ((Rk ++ [T]).map rwD), .non) := by rw [ev_app (by rw [List.length_map]; omega), List.map_append]; rfl
  have hr : D.tup (T.map tvD) = rwD T := rfl
  unfold RBd
  generalize (Rk ++ [T]).map rwD = RN at *
  generalize Rk.map rwD = RO at *
  generalize rwD T = RT at *
  generalize W.map D.int = WD at *
  generalize H.map D.int = HD at *
  generalize T.map tvD = TD at *
  simp [-List.map_cons, -List.map_append, -List.map_map, n1, rn, q7, q8, hW, hT, tt, hr, ha]
  exact ⟨_, _, ⟨rfl, rfl⟩, rfl, rfl⟩
theorem law_reports_ok {nums : List Int} (hn : nums ≠ []) (hl : nums.length < 1073741824) {i : Nat} (hi : i < 600000) :
    ∃ R m j, F__law_reports [St nums i] = .ok ((false, rpD R), some (St nums j)) ∧ RpOk R m ∧ j ≤ i + 100 := by
  obtain ⟨a, ha, ha6⟩ := nx_nat nums (i + 1) (m := 6) (by omega)
  have ha : nx nums (i + 1) 6 = (a : Int) := ha
  have n0 := next_ok hn hl (i := i) (by omega) (m := 6) (by omega)
  rw [ha] at n0
  obtain ⟨n, en⟩ : ∃ n : Nat, (1 : Int) + (a : Int) = (n : Int) := ⟨1 + a, by omega⟩
  obtain ⟨c, hc, hc4⟩ := nx_nat nums (i + 1 + 1) (m := 4) (by omega)
  have hc : nx nums (i + 1 + 1) 4 = (c : Int) := hc
  have n1 := next_ok hn hl (i := i + 1) (by omega) (m := 4) (by omega)
  rw [hc] at n1
  obtain ⟨m, em⟩ : ∃ m : Nat, (1 : Int) + (c : Int) = (m : Int) := ⟨1 + c, by omega⟩
  have hn1 : 1 ≤ n := by omega
  have hn6 : n ≤ 6 := by omega
  have hm1 : 1 ≤ m := by omega
  have hm4 : m ≤ 4 := by omega
  obtain ⟨H, hH, hH2⟩ := hidden_ok hn hl (i := i + 1 + 1) (by omega) hm4 (s1 := .sh (.int (n : Int))) (s2 := .sh (.int (m : Int))) (s3 := .un) (s4 := .un) (s5 := .un) (s7 := .un) (s8 := .un)
  have n2 := next_ok hn hl (i := i + 1 + 1 + m) (by omega) (m := 2) (by omega)
  have rm := rngn (n := m) (by omega)
  have rn := rngn (n := n) (by omega)
  have tt : ∀ l : List D, tupleD [.lst l] = some (false, .tup l) := fun _ => rfl
  have hS : Sat (F__law_reports [St nums i]) fun r => ∃ R m j, r = ((false, rpD R), some (St nums j)) ∧ RpOk R m ∧ j ≤ i + 100 := by
    unfold F__law_reports
    have es : S__law_reports = (sSeq (sPar 1 2 (mCons (c2 addD (oVal (cC (.int 1))) (oVal (cCall (some 0) F__law_next (aCons (oVar 0) (aCons (oVal (cC (.int 6))) aNil))))) (mCons (c2 addD (oVal (cC (.int 1))) (oVal (cCall (some 0) F__law_next (aCons (oVar 0) (aCons (oVal (cC (.int 4))) aNil))))) mNil)))
  (sSeq (sAsg 3 (cComp [6] (gN 6) tYesC (cCall (some 0) F__law_next (aCons (oVar 0) (aCons (oVal (cC (.int 2))) aNil))) (iL rngD1 (aCons (oVar 2) aNil))))
  (sSeq (sAsg 4 (cCall (some 0) F__law_next (aCons (oVar 0) (aCons (oVal (cC (.int 2))) aNil))))
  (sSeq (sAsg 5 (cLst aNil))
  (sSeq (sFor (gN 6) (iL rngD1 (aCons (oVar 1) aNil)) RBd)
  (sRet (cN tupleD (aCons (oVar 5) aNil)))))))) := rfl
    rw [es]
    generalize hG : nx nums (i + 1 + 1 + m + 1) 2 = g at *
    simp [-List.map_cons, -List.map_append, -List.map_map, entryE, entryS, n0, en, n1, em, rm, hH, n2, rn]
    refine sat_forN (P := fun k e => ∃ (Rk : List (List Tv)) (j : Nat) (s6 s7 s8 : DL.Slot), e = [.io (St nums j), .sh (.int (n : Int)), .sh (.int (m : Int)), .ow (.lst (H.map D.int)), .sh (.int g), .ow (.lst (Rk.map rwD)), s6, s7, s8, .un, .un] ∧ Rk.length = k ∧ (∀ T ∈ Rk, T.length = m ∧ ∀ t ∈ T, TvOk t) ∧ j ≤ i + 1 + 1 + m + 1 + 9 * k ∧ okS (some s6) = true ∧ okS (some s7) = true ∧ okS (some s8) = true) ⟨[], i + 1 + 1 + m + 1, .un, .un, .un, by simp, rfl, by simp, by omega, rfl, rfl, rfl⟩ ?_ ?_
    · rintro k d e hd ⟨Rk, j, s6, s7, s8, rfl, hRk, hT, hj, q6, q7, q8⟩
      obtain ⟨hk, rfl⟩ := range_get hd
      obtain ⟨T, j2, t1, t2, hsat⟩ := rbody_ok hn hl (i := j) (by omega) (n := n) hm4 hH2 (g := g) (k := k) (Rk := Rk) (by omega) q7 q8
      obtain ⟨r, hr1, hr2, s7', s8', hr3, k7, k8⟩ := hsat
      obtain ⟨fl, ev⟩ := r
      simp only at hr2 hr3
      subst hr2 hr3
      simp [-List.map_cons, -List.map_append, -List.map_map, q6, hr1]
      refine ⟨Rk ++ [T], j2, _, s7', s8', ⟨rfl, rfl, rfl, rfl, rfl⟩, by simp [hRk], ?_, by omega, rfl, k7, k8⟩
      intro T' hT'
      rcases List.mem_append.mp hT' with h | h
      · exact hT T' h
      · rw [List.mem_singleton.mp h]; exact t1
    · rintro e ⟨Rk, j, s6, s7, s8, rfl, hRk, hT, hj, q6, q7, q8⟩
      rw [nD_len, List.length_range] at hRk hj
      have er : D.tup (Rk.map rwD) = rpD Rk := rfl
      have hRp : RpOk Rk m := ⟨by omega, by omega, hm1, hm4, hT⟩
      generalize hRD : Rk.map rwD = RD at er
      simp [-List.map_cons, -List.map_append, -List.map_map, tt, er]
      exact ⟨Rk, m, j, ⟨rfl, rfl⟩, hRp, by omega⟩
  obtain ⟨r, hr, R, m, j, rfl, h1, h2⟩ := hS
  exact ⟨R, m, j, hr, h1, h2⟩
end Lw

set_option Elab.async false
set_option linter.all false
set_option maxRecDepth 100000
set_option autoImplicit false
set_option maxHeartbeats 4000000
namespace Lw
open PySem L2 DL
@[simp] theorem ev_lenDc {i : Nat} {c : CE} {env : DL.Env} : cLenDc i c env = if i < env.length then cF lenSetD c env else .stuck := nr rfl
theorem eqv_prD (a b : Pr) : eqv (prD a) (prD b) = (a == b) := by
  obtain ⟨a1, a2⟩ := a
  obtain ⟨b1, b2⟩ := b
  unfold eqv
  rw [toPy_prD, toPy_prD]
  unfold pyP
  simp only [PyData.eqv, PyData.eqvAll]
  rw [int_beq, int_beq, Bool.and_true]; rfl
theorem any_prD (l : List Pr) (p : Pr) : ((l.map prD).any fun z => eqv z (prD p)) = l.contains p := by
  rw [List.any_map, List.contains_eq_any_beq]
  congr 1
  funext x
  show eqv (prD x) (prD p) = (p == x)
  rw [eqv_prD, Bool.eq_iff_iff, beq_iff_eq, beq_iff_eq]
  exact eq_comm
theorem ok_prD (p : Pr) : okEq (prD p) = true := by simp [okEq, toPy_prD, pyP, SeqAt.shaped, PyData.canLay0, PyData.canLayAll0, PyData.depth, PyData.depthAll]
theorem ok_psD (M : List Pr) : okEq (psD M) = true := by
  unfold okEq SeqAt.shaped
  have := depP M
  rw [toPy_psD, PyData.canLay0, layP, PyData.depth, decide_eq_true (by omega)]; rfl
theorem ok_plD (M : List Pr) : okEq (.lst (M.map prD)) = true := by
  unfold okEq SeqAt.shaped
  have := depP M
  have e : toPy (.lst (M.map prD)) = .list (M.map pyP) := by
    rw [toPy, toPyL_map, List.map_map]
    exact congrArg _ (List.map_congr_left fun p _ => toPy_prD p)
  rw [e, PyData.canLay0, layP, PyData.depth, decide_eq_true (by omega)]; rfl
theorem inA_ps (p : Pr) (M : List Pr) : inA (prD p) (psD M) = some (false, .bl (M.contains p)) := by
  have h := ok_psD M
  unfold psD at h ⊢
  unfold inA
  simp only
  rw [ok_prD, h, any_prD]; rfl
theorem inL_ps (p : Pr) (M : List Pr) : inD false (prD p) (.lst (M.map prD)) = some (false, .bl (M.contains p)) := by
  have h : inSeq false (prD p) (M.map prD) = none := by
    unfold inSeq
    have : flatD (prD p) = false := rfl
    rw [this]; rfl
  unfold inD
  simp only
  rw [h]
  simp only
  rw [ok_prD, ok_plD, any_prD]; simp
/-- pairs apart -/
def nI (l : List Nat) : List Int := l.map fun k : Nat => (k : Int)
def usedB (M : List Pr) : Bool := (srtSet (nI (flat2 M))).length == (flat2 M).length
def clsB (R : List (List Tv)) (M : List Pr) : Bool := M.all fun p => (CP R).contains p
theorem nD_ints (l : List Nat) : intsD (nD l) = some (nI l) := by rw [nD_I, intsD_map]; rfl
theorem lenSet_n (l : List Nat) (h : l.length ≤ 4000) : lenSetD (.lst (nD l)) = some (false, .int ((srtSet (nI l)).length : Int)) := by
  unfold lenSetD
  simp only
  rw [nD_ints]
  simp only
  rw [if_pos (decide_eq_true (by unfold nI; rw [List.length_map]; exact h))]
theorem used_lt (M : List Pr) : decide (((srtSet (nI (flat2 M))).length : Int) < ((flat2 M).length : Int)) = !usedB M := by
  have := srtSet_len (nI (flat2 M))
  have e : (nI (flat2 M)).length = (flat2 M).length := List.length_map ..
  rw [e] at this
  unfold usedB
  rw [Bool.eq_iff_iff, decide_eq_true_eq, Bool.not_eq_true', beq_eq_false_iff_ne]
  omega
theorem check_apart_ok {R : List (List Tv)} {m : Nat} (h : RpOk R m) {M : List Pr} (hM : M.length ≤ 100) : F_check_apart [rpD R, psD M] = if clsB R M && usedB M then .ok ((false, .bl true), none) else .exc "BadPaper" := by
  have cr := check_reports_ok h
  have cl := clashes_ok h
  have it := it_psD M
  have tt : ∀ p : Pr, tupleD [prD p] = some (false, prD p) := fun _ => rfl
  have ab := all_bl M fun p => (CP R).contains p
  have hcl : (M.all fun p => (CP R).contains p) = clsB R M := rfl
  rw [hcl] at ab
  have ia := fun p => inA_ps p (CP R)
  have hfl := flat2_len M
  have hl : lenD [.lst (nD (flat2 M))] = some (false, .int ((flat2 M).length : Int)) := by rw [ev_lenl, nD_len]
  have hs := lenSet_n (flat2 M) (by omega)
  have hu := used_lt M
  unfold F_check_apart S_check_apart
  generalize rpD R = RD at *
  generalize psD (CP R) = CD at *
  generalize psD M = MD at *
  simp [-List.map_cons, -List.map_append, -List.map_map, entryE, entryS, cr, cl, it]
  refine eq_compM (fun p => some (.bl ((CP R).contains p))) ?_ (by omega) ?_
  · intro p _
    have i1 := ia p
    have t1 := tt p
    generalize prD p = PP at *
    generalize (CP R).contains p = B at *
    simp [-List.map_cons, -List.map_append, -List.map_map, t1, i1]
  · rw [fm_map]
    generalize (M.map fun p => D.bl ((CP R).contains p)) = Q at *
    cases hb : clsB R M with
    | false =>
      rw [hb] at ab
      simp [-List.map_cons, -List.map_append, -List.map_map, ab]
    | true =>
      rw [hb] at ab
      simp [-List.map_cons, -List.map_append, -List.map_map, ab, it]
      rw [compL2_M prD (fun p => [.int (p.1 : Int), .int (p.2 : Int)]) 2 M [] (fun _ _ => Nat.le_refl _) (by rw [List.length_nil]; omega), List.nil_append]
      · have e : (M.flatMap fun p => [D.int (p.1 : Int), .int (p.2 : Int)]) = nD (flat2 M) := by unfold nD flat2; rw [List.map_flatMap]; rfl
        rw [e]
        generalize ((srtSet (nI (flat2 M))).length : Int) = A at *
        generalize ((flat2 M).length : Int) = B at *
        generalize nD (flat2 M) = UL at *
        cases hub : usedB M <;> rw [hub] at hu <;> simp only [Bool.not_true, Bool.not_false, decide_eq_true_eq, decide_eq_false_iff_not] at hu <;> simp [-List.map_cons, -List.map_append, -List.map_map, hl, hs, hu]
      · intro p _ acc hacc
        have t1 : okT acc.length = true := okT_lt (by omega)
        have t2 : okT (acc.length + 1) = true := okT_lt (by omega)
        have ip : iterD (prD p) = some [.int (p.1 : Int), .int (p.2 : Int)] := rfl
        generalize prD p = PD at *
        simp [-List.map_cons, -List.map_append, -List.map_map, ip, compL_step, compL_nil, kCd_some, t1, t2]
end Lw

set_option Elab.async false
set_option linter.all false
set_option maxRecDepth 100000
set_option autoImplicit false
set_option maxHeartbeats 4000000
namespace Lw
open PySem L2 DL
theorem et_0 : T__law_told_0 "check_reports" = some F_check_reports := by kernel_rfl
theorem told_0 {a q v : D} {m : Bool} (h : F_check_reports [a] = .ok ((m, v), none)) : F__law_told [.int 0, a, q] = .ok ((false, .tup [.str "told", v]), none) := by
  unfold F__law_told S__law_told
  simp [entryE, entryS, et_0, h, atI, ixN]
theorem told_0x {a q : D} {c e : Str} (h : F_check_reports [a] = .exc c) (he : errs c = some e) : F__law_told [.int 0, a, q] = .ok ((false, .str e), none) := by
  unfold F__law_told S__law_told
  simp [entryE, entryS, et_0, h, he, atI, ixN]
theorem et_1 : T__law_told_0 "fewest_free" = some F_fewest_free := by kernel_rfl
theorem told_1 {a q v : D} {m : Bool} (h : F_fewest_free [a] = .ok ((m, v), none)) : F__law_told [.int 1, a, q] = .ok ((false, .tup [.str "told", v]), none) := by
  unfold F__law_told S__law_told
  simp [entryE, entryS, et_1, h, atI, ixN]
theorem told_1x {a q : D} {c e : Str} (h : F_fewest_free [a] = .exc c) (he : errs c = some e) : F__law_told [.int 1, a, q] = .ok ((false, .str e), none) := by
  unfold F__law_told S__law_told
  simp [entryE, entryS, et_1, h, he, atI, ixN]
theorem et_2 : T__law_told_0 "clashes" = some F_clashes := by kernel_rfl
theorem told_2 {a q v : D} {m : Bool} (h : F_clashes [a] = .ok ((m, v), none)) : F__law_told [.int 2, a, q] = .ok ((false, .tup [.str "told", v]), none) := by
  unfold F__law_told S__law_told
  simp [entryE, entryS, et_2, h, atI, ixN]
theorem told_2x {a q : D} {c e : Str} (h : F_clashes [a] = .exc c) (he : errs c = some e) : F__law_told [.int 2, a, q] = .ok ((false, .str e), none) := by
  unfold F__law_told S__law_told
  simp [entryE, entryS, et_2, h, he, atI, ixN]
theorem et_3 : T__law_told_0 "apart" = some F_apart := by kernel_rfl
theorem told_3 {a q v : D} {m : Bool} (h : F_apart [a] = .ok ((m, v), none)) : F__law_told [.int 3, a, q] = .ok ((false, .tup [.str "told", v]), none) := by
  unfold F__law_told S__law_told
  simp [entryE, entryS, et_3, h, atI, ixN]
theorem told_3x {a q : D} {c e : Str} (h : F_apart [a] = .exc c) (he : errs c = some e) : F__law_told [.int 3, a, q] = .ok ((false, .str e), none) := by
  unfold F__law_told S__law_told
  simp [entryE, entryS, et_3, h, he, atI, ixN]
theorem et_4 : T__law_told_0 "majority" = some F_majority := by kernel_rfl
theorem told_4 {a q v : D} {m : Bool} (h : F_majority [a] = .ok ((m, v), none)) : F__law_told [.int 4, a, q] = .ok ((false, .tup [.str "told", v]), none) := by
  unfold F__law_told S__law_told
  simp [entryE, entryS, et_4, h, atI, ixN]
theorem told_4x {a q : D} {c e : Str} (h : F_majority [a] = .exc c) (he : errs c = some e) : F__law_told [.int 4, a, q] = .ok ((false, .str e), none) := by
  unfold F__law_told S__law_told
  simp [entryE, entryS, et_4, h, he, atI, ixN]
theorem et_5 : T__law_told_1 "facts_left" = some F_facts_left := by kernel_rfl
theorem told_5 {a q v : D} {m : Bool} (h : F_facts_left [a, q] = .ok ((m, v), none)) : F__law_told [.int 5, a, q] = .ok ((false, .tup [.str "told", v]), none) := by
  unfold F__law_told S__law_told
  simp [entryE, entryS, et_5, h, atI, ixN]
theorem told_5x {a q : D} {c e : Str} (h : F_facts_left [a, q] = .exc c) (he : errs c = some e) : F__law_told [.int 5, a, q] = .ok ((false, .str e), none) := by
  unfold F__law_told S__law_told
  simp [entryE, entryS, et_5, h, he, atI, ixN]
theorem et_6 : T__law_told_1 "sure_facts" = some F_sure_facts := by kernel_rfl
theorem told_6 {a q v : D} {m : Bool} (h : F_sure_facts [a, q] = .ok ((m, v), none)) : F__law_told [.int 6, a, q] = .ok ((false, .tup [.str "told", v]), none) := by
  unfold F__law_told S__law_told
  simp [entryE, entryS, et_6, h, atI, ixN]
theorem told_6x {a q : D} {c e : Str} (h : F_sure_facts [a, q] = .exc c) (he : errs c = some e) : F__law_told [.int 6, a, q] = .ok ((false, .str e), none) := by
  unfold F__law_told S__law_told
  simp [entryE, entryS, et_6, h, he, atI, ixN]
theorem et_7 : T__law_told_1 "surely_free" = some F_surely_free := by kernel_rfl
theorem told_7 {a q v : D} {m : Bool} (h : F_surely_free [a, q] = .ok ((m, v), none)) : F__law_told [.int 7, a, q] = .ok ((false, .tup [.str "told", v]), none) := by
  unfold F__law_told S__law_told
  simp [entryE, entryS, et_7, h, atI, ixN]
theorem told_7x {a q : D} {c e : Str} (h : F_surely_free [a, q] = .exc c) (he : errs c = some e) : F__law_told [.int 7, a, q] = .ok ((false, .str e), none) := by
  unfold F__law_told S__law_told
  simp [entryE, entryS, et_7, h, he, atI, ixN]
theorem et_8 : T__law_told_1 "is_safe" = some F_is_safe := by kernel_rfl
theorem told_8 {a q v : D} {m : Bool} (h : F_is_safe [a, q] = .ok ((m, v), none)) : F__law_told [.int 8, a, q] = .ok ((false, .tup [.str "told", v]), none) := by
  unfold F__law_told S__law_told
  simp [entryE, entryS, et_8, h, atI, ixN]
theorem told_8x {a q : D} {c e : Str} (h : F_is_safe [a, q] = .exc c) (he : errs c = some e) : F__law_told [.int 8, a, q] = .ok ((false, .str e), none) := by
  unfold F__law_told S__law_told
  simp [entryE, entryS, et_8, h, he, atI, ixN]
theorem et_9 : T__law_told_1 "liars_for" = some F_liars_for := by kernel_rfl
theorem told_9 {a q v : D} {m : Bool} (h : F_liars_for [a, q] = .ok ((m, v), none)) : F__law_told [.int 9, a, q] = .ok ((false, .tup [.str "told", v]), none) := by
  unfold F__law_told S__law_told
  simp [entryE, entryS, et_9, h, atI, ixN]
theorem told_9x {a q : D} {c e : Str} (h : F_liars_for [a, q] = .exc c) (he : errs c = some e) : F__law_told [.int 9, a, q] = .ok ((false, .str e), none) := by
  unfold F__law_told S__law_told
  simp [entryE, entryS, et_9, h, he, atI, ixN]
theorem et_10 : T__law_told_1 "check_apart" = some F_check_apart := by kernel_rfl
theorem told_10 {a q v : D} {m : Bool} (h : F_check_apart [a, q] = .ok ((m, v), none)) : F__law_told [.int 10, a, q] = .ok ((false, .tup [.str "told", v]), none) := by
  unfold F__law_told S__law_told
  simp [entryE, entryS, et_10, h, atI, ixN]
theorem told_10x {a q : D} {c e : Str} (h : F_check_apart [a, q] = .exc c) (he : errs c = some e) : F__law_told [.int 10, a, q] = .ok ((false, .str e), none) := by
  unfold F__law_told S__law_told
  simp [entryE, entryS, et_10, h, he, atI, ixN]
theorem told_11 {a q v : D} {m : Bool} (h : F_strength [a, q] = .ok ((m, v), none)) : F__law_told [.int 11, a, q] = .ok ((false, .tup [.str "told", v]), none) := by
  unfold F__law_told S__law_told
  simp [entryE, entryS, h]
theorem told_11x {a q : D} {c e : Str} (h : F_strength [a, q] = .exc c) (he : errs c = some e) : F__law_told [.int 11, a, q] = .ok ((false, .str e), none) := by
  unfold F__law_told S__law_told
  simp [entryE, entryS, h, he]
theorem errs_na : errs "NotAllowed" = some "refused" := by kernel_rfl
theorem errs_tl : errs "TooLarge" = some "large" := by kernel_rfl
theorem errs_mi : errs "Missing" = some "missing" := by kernel_rfl
theorem errs_bp : errs "BadPaper" = some "paper" := by kernel_rfl
/-- reports that are none -/
def oddD : Nat → D
  | 0 => .tup []
  | 1 => .tup [.tup []]
  | 2 => .tup [.tup [.int 0, .int 1], .tup [.int 0]]
  | 3 => .tup [.tup [.int 2]]
  | 4 => .tup (List.replicate 9 (.tup [.int 0]))
  | 5 => .tup [.tup (List.replicate 7 (.int 0))]
  | _ => .tup [.tup [.int (-1)]]
def oddE : Nat → Str
  | 4 => "TooLarge"
  | 5 => "TooLarge"
  | _ => "NotAllowed"
def oddW : Nat → Str
  | 4 => "large"
  | 5 => "large"
  | _ => "refused"
theorem odd_cr {k : Nat} (h : k < 7) : F_check_reports [oddD k] = .exc (oddE k) := by
  rcases (by omega : k = 0 ∨ k = 1 ∨ k = 2 ∨ k = 3 ∨ k = 4 ∨ k = 5 ∨ k = 6) with rfl | rfl | rfl | rfl | rfl | rfl | rfl <;> kernel_rfl
theorem odd_w {k : Nat} (h : k < 7) : errs (oddE k) = some (oddW k) := by
  rcases (by omega : k = 0 ∨ k = 1 ∨ k = 2 ∨ k = 3 ∨ k = 4 ∨ k = 5 ∨ k = 6) with rfl | rfl | rfl | rfl | rfl | rfl | rfl <;> kernel_rfl
theorem x_fewest {a : D} {c : Str} (h : F_check_reports [a] = .exc c) : F_fewest_free [a] = .exc c := by
  unfold F_fewest_free S_fewest_free
  simp [entryE, entryS, h]
theorem x_clashes {a : D} {c : Str} (h : F_check_reports [a] = .exc c) : F_clashes [a] = .exc c := by
  unfold F_clashes S_clashes
  simp [entryE, entryS, h]
theorem x_apart {a : D} {c : Str} (h : F_check_reports [a] = .exc c) : F_apart [a] = .exc c := by
  have := x_clashes h
  unfold F_apart S_apart
  simp [entryE, entryS, this]
theorem x_majority {a : D} {c : Str} (h : F_check_reports [a] = .exc c) : F_majority [a] = .exc c := by
  unfold F_majority S_majority
  simp [entryE, entryS, h]
theorem x_left {a b : D} {c : Str} (h : F_check_reports [a] = .exc c) : F_facts_left [a, b] = .exc c := by
  unfold F_facts_left S_facts_left
  simp [entryE, entryS, h]
theorem x_left2 {a b : D} {c : Str} {m : Bool} {v : D} (h : F_check_reports [a] = .ok ((m, v), none)) (g : F_check_free [b] = .exc c) : F_facts_left [a, b] = .exc c := by
  unfold F_facts_left S_facts_left
  simp [entryE, entryS, h, g]
theorem x_sure {a b : D} {c : Str} (h : F_facts_left [a, b] = .exc c) : F_sure_facts [a, b] = .exc c := by
  unfold F_sure_facts S_sure_facts
  simp [entryE, entryS, h]
theorem x_free {a b : D} {c : Str} (h : F_facts_left [a, b] = .exc c) : F_surely_free [a, b] = .exc c := by
  unfold F_surely_free S_surely_free
  simp [entryE, entryS, h]
theorem x_safe {a b : D} {c : Str} (h : F_facts_left [a, b] = .exc c) : F_is_safe [a, b] = .exc c := by
  have := x_sure h
  unfold F_is_safe S_is_safe
  simp [entryE, entryS, this]
theorem x_liars {a b : D} {c : Str} (h : F_check_reports [a] = .exc c) : F_liars_for [a, b] = .exc c := by
  have e : F_check_facts [a, b] = .exc c := by
    unfold F_check_facts S_check_facts
    simp [entryE, entryS, h]
  unfold F_liars_for S_liars_for
  simp [entryE, entryS, e]
theorem x_chapart {a b : D} {c : Str} (h : F_check_reports [a] = .exc c) : F_check_apart [a, b] = .exc c := by
  unfold F_check_apart S_check_apart
  simp [entryE, entryS, h]
theorem free_neg : F_check_free [.int (-1)] = .exc "NotAllowed" := by kernel_rfl
theorem st_01 : F_strength [.int 0, .int 1] = .exc "NotAllowed" := by kernel_rfl
theorem st_10 : F_strength [.int 1, .int 0] = .exc "NotAllowed" := by kernel_rfl
theorem st_91 : F_strength [.int 9, .int 1] = .exc "TooLarge" := by kernel_rfl
theorem st_17 : F_strength [.int 1, .int 7] = .exc "TooLarge" := by kernel_rfl
/-- facts that are none -/
theorem liars_bad1 {R : List (List Tv)} {m : Nat} (h : RpOk R m) {f : List Int} (hf : f.length ≠ m) : F_liars_for [rpD R, rI f] = .exc "NotAllowed" := by
  have cr := check_reports_ok h
  obtain ⟨r0, q1, q2⟩ := rp_at0 h
  have hl0 := rw_len r0
  rw [q2] at hl0
  have hfl := rI_len f
  have hne : ((f.length : Int) == (m : Int)) = false := by rw [beq_eq_false_iff_ne]; omega
  have e : F_check_facts [rpD R, rI f] = .exc "NotAllowed" := by
    unfold F_check_facts S_check_facts
    generalize rpD R = RD at *
    generalize rI f = RF at *
    simp [-List.map_cons, -List.map_map, entryE, entryS, cr, hfl, q1, hl0, hne, hf]
  unfold F_liars_for S_liars_for
  simp [entryE, entryS, e]
theorem liars_bad2 {R : List (List Tv)} {m : Nat} (h : RpOk R m) {f : List Int} (hf : (2 :: f).length = m) (h01 : ∀ x ∈ f, x = 0 ∨ x = 1) : F_liars_for [rpD R, rI (2 :: f)] = .exc "NotAllowed" := by
  have cr := check_reports_ok h
  obtain ⟨r0, q1, q2⟩ := rp_at0 h
  have hl0 := rw_len r0
  rw [q2] at hl0
  have hfl := rI_len (2 :: f)
  rw [hf] at hfl
  have m4 := h.m4
  have hi : iterD (rI (2 :: f)) = some ((2 :: f).map D.int) := rfl
  have ab := all_bl (2 :: f) fun x => x != 2
  have ab2 : (2 :: f).all (fun x => x != 2) = false := by simp
  rw [ab2] at ab
  have i2 : inD false (.int 2) (.tup [.int 0, .int 1]) = some (false, .bl false) := by kernel_rfl
  have e : F_check_facts [rpD R, rI (2 :: f)] = .exc "NotAllowed" := by
    unfold F_check_facts S_check_facts
    generalize rpD R = RD at *
    generalize rI (2 :: f) = RF at *
    simp [-List.map_cons, -List.map_map, entryE, entryS, cr, hfl, q1, hl0, hi]
    refine eq_compM (fun x => some (.bl (x != 2))) ?_ (by omega) ?_
    · intro x hx
      rcases List.mem_cons.mp hx with rfl | hx
      · simp [-List.map_cons, -List.map_map, i2]
      · have a := i01_in (h01 x hx)
        have b : (x != 2) = true := by rcases h01 x hx with rfl | rfl <;> rfl
        simp [-List.map_cons, -List.map_map, a, b]
    · rw [fm_map]
      generalize ((2 :: f).map fun x => D.bl (x != 2)) = Q at *
      simp [-List.map_cons, -List.map_map, ab]
  unfold F_liars_for S_liars_for
  generalize rI (2 :: f) = RF at *
  simp [entryE, entryS, e]
end Lw

set_option Elab.async false
set_option linter.all false
set_option maxRecDepth 100000
set_option autoImplicit false
set_option maxHeartbeats 4000000
namespace Lw
open PySem L2 DL
theorem bad_of {a b x : Int} (h : a ≠ b) : bad (some a, x) = true ∨ bad (some b, x) = true := by
  unfold bad
  simp only [bne_iff_ne]
  omega
theorem clash_free {R : List (List Tv)} {m : Nat} (h : RpOk R m) {f : List Int} (hf : f.length = m) {p : Pr} (hp : p ∈ CP R) : KB R f p.1 = true ∨ KB R f p.2 = true := by
  obtain ⟨⟨h1, h2⟩, hc⟩ := CP_mem.mp hp
  unfold clB at hc
  rw [Bool.not_eq_true'] at hc
  unfold agr at hc
  rw [List.all_eq_false] at hc
  obtain ⟨q, hq, hb⟩ := hc
  obtain ⟨j, hj, e⟩ := List.mem_iff_getElem.mp hq
  rw [List.getElem_zip] at e
  have hj2 := hj
  rw [List.length_zip] at hj2
  have l1 : (iR R p.1).length = m := (rows_at h (k := p.1) (by omega)).1
  have l2 : (iR R p.2).length = m := (rows_at h (k := p.2) h2).1
  have j1 : j < (iR R p.1).length := by omega
  have j2 : j < (iR R p.2).length := by omega
  have k1 : KB R f p.1 = (List.range (iR R p.1).length).any fun j => bad (((iR R p.1)[j]?).getD none, (f[j]?).getD 0) := agn_any (r := iR R p.1) (by omega)
  have k2 : KB R f p.2 = (List.range (iR R p.2).length).any fun j => bad (((iR R p.2)[j]?).getD none, (f[j]?).getD 0) := agn_any (r := iR R p.2) (by omega)
  have g1 : (iR R p.1)[j]? = some ((iR R p.1)[j]) := List.getElem?_eq_getElem j1
  have g2 : (iR R p.2)[j]? = some ((iR R p.2)[j]) := List.getElem?_eq_getElem j2
  rw [k1, k2, List.any_eq_true, List.any_eq_true]
  subst e
  have hab : ∃ a b : Int, (iR R p.1)[j] = some a ∧ (iR R p.2)[j] = some b ∧ a ≠ b := by
    cases ht : (iR R p.1)[j] with
    | none => rw [ht] at hb; exact absurd rfl hb
    | some a =>
      cases hu : (iR R p.2)[j] with
      | none => rw [ht, hu] at hb; exact absurd rfl hb
      | some b =>
        refine ⟨a, b, rfl, rfl, fun e => hb ?_⟩
        rw [ht, hu, e]
        simp [ag1]
  obtain ⟨a, b, ea, eb, hab⟩ := hab
  rw [ea] at g1
  rw [eb] at g2
  rcases bad_of hab (x := (f[j]?).getD 0) with z | z
  · left; exact ⟨j, List.mem_range.mpr j1, by rw [g1]; exact z⟩
  · right; exact ⟨j, List.mem_range.mpr j2, by rw [g2]; exact z⟩
def pk (R : List (List Tv)) (f : List Int) (p : Pr) : Nat := if KB R f p.1 = true then p.1 else p.2
theorem pk_or (R : List (List Tv)) (f : List Int) (p : Pr) : pk R f p = p.1 ∨ pk R f p = p.2 := by
  unfold pk
  split
  · exact .inl rfl
  · exact .inr rfl
theorem row_le_KL {R : List (List Tv)} {m : Nat} (h : RpOk R m) {f : List Int} (hf : f.length = m) {s : List Pr} (hs : RowOk (CP R) s) : s.length ≤ (KL R f).length := by
  have hn : (s.map (pk R f)).Nodup := by
    unfold List.Nodup
    rw [List.pairwise_map]
    refine hs.2.2.imp fun {a b} q e => ?_
    rw [hit_false] at q
    have a1 := pk_or R f a
    have a2 := pk_or R f b
    omega
  have hsub : s.map (pk R f) ⊆ KL R f := by
    intro x hx
    obtain ⟨p, hp, rfl⟩ := List.mem_map.mp hx
    have hc := hs.2.1 p hp
    have hm := (CP_mem.mp hc).1
    unfold KL
    rw [List.mem_filter, List.mem_range]
    unfold pk
    by_cases hb : KB R f p.1 = true
    · rw [if_pos hb]; exact ⟨by omega, hb⟩
    · rw [if_neg hb]; exact ⟨hm.2, (clash_free h hf hc).resolve_left hb⟩
  have := sub_len hn hsub
  rwa [List.length_map] at this
theorem minI_mem : ∀ {l : List Int}, l ≠ [] → minI l ∈ l := by
  intro l hl
  obtain ⟨x, hx, hm⟩ : ∃ x ∈ l, ∀ y ∈ l, x ≤ y := by
    induction l with
    | nil => exact absurd rfl hl
    | cons a l ih =>
      by_cases h : l = []
      · subst h
        exact ⟨a, List.mem_cons_self .., fun y hy => by rw [List.mem_singleton.mp hy]; exact Int.le_refl _⟩
      · obtain ⟨x, hx, hm⟩ := ih h
        by_cases q : a ≤ x
        · refine ⟨a, List.mem_cons_self .., fun y hy => ?_⟩
          rcases List.mem_cons.mp hy with e | e
          · omega
          · have := hm y e; omega
        · refine ⟨x, List.mem_cons_of_mem _ hx, fun y hy => ?_⟩
          rcases List.mem_cons.mp hy with e | e
          · omega
          · exact hm y e
  rw [← minI_eq hx hm]
  exact hx
theorem best_ok {R : List (List Tv)} {m : Nat} (h : RpOk R m) : RowOk (CP R) (bestR (CP R)) := ((LV_mem _ _ _).mp (minR_spec (lvN_spec (LV4 h.n6)).1).1).2
theorem best3 {R : List (List Tv)} {m : Nat} (h : RpOk R m) : (bestR (CP R)).length ≤ 3 := row_short h.n6 (best_ok h)
theorem far_le {R : List (List Tv)} {m : Nat} (h : RpOk R m) : ((bestR (CP R)).length : Int) ≤ MF R m := by
  have hne : (AF m).map (wrI R) ≠ [] := by simpa using AF_ne m
  obtain ⟨f, hf, e⟩ := List.mem_map.mp (minI_mem hne)
  have := row_le_KL h ((AF_mem m f).mp hf).1 (best_ok h)
  unfold MF
  rw [← e]
  unfold wrI
  omega
def allT (R : List (List Tv)) : Bool := !R.any fun r => r.any Option.isNone
def bnd (n : Nat) : Int := ((n : Int) - 1) / 2
theorem row_of {r : List Tv} {f : List Int} {m : Nat} (hr : r.length = m) (hf : f.length = m) (hn : ∀ t ∈ r, t ≠ none) (h : ¬ 0 < agn r f) : r = f.map some := by
  have h0 : decide (0 < agn r f) = false := decide_eq_false h
  rw [agn_any (by omega), List.any_eq_false] at h0
  apply List.ext_getElem
  · rw [List.length_map]; omega
  · intro j h1 h2
    have hb := h0 j (List.mem_range.mpr h1)
    have jf : j < f.length := by omega
    rw [List.getElem?_eq_getElem h1, List.getElem?_eq_getElem jf] at hb
    rw [List.getElem_map]
    have ht := hn r[j] (List.getElem_mem h1)
    have hb : ¬ bad (r[j], f[j]) = true := hb
    cases e : r[j] with
    | none => exact absurd e ht
    | some a =>
      rw [e] at hb
      unfold bad at hb
      simp only [bne_iff_ne, ne_eq, Decidable.not_not] at hb
      rw [hb]
theorem FL_one {R : List (List Tv)} {m : Nat} (h : RpOk R m) (hT : allT R = true) : (FL R m (bnd R.length)).length ≤ 1 := by
  have n1 := h.n1
  have hnd : (FL R m (bnd R.length)).Nodup := (AF_nodup m).filter _
  have heq : ∀ f ∈ FL R m (bnd R.length), ∀ g ∈ FL R m (bnd R.length), f = g := by
    intro f hf g hg
    obtain ⟨⟨f1, _⟩, f2⟩ := FL_mem.mp hf
    obtain ⟨⟨g1, _⟩, g2⟩ := FL_mem.mp hg
    unfold wrI bnd at f2 g2
    have hk : ∃ k, k < R.length ∧ KB R f k = false ∧ KB R g k = false := by
      apply Classical.byContradiction
      intro hno
      have hsub : List.range R.length ⊆ KL R f ++ KL R g := by
        intro k hk
        have hk := List.mem_range.mp hk
        rw [List.mem_append]
        unfold KL
        rw [List.mem_filter, List.mem_filter, List.mem_range]
        cases a : KB R f k with
        | true => exact .inl ⟨hk, rfl⟩
        | false =>
          cases b : KB R g k with
          | true => exact .inr ⟨hk, rfl⟩
          | false => exact absurd ⟨k, hk, a, b⟩ hno
      have := sub_len List.nodup_range hsub
      rw [List.length_append, List.length_range] at this
      omega
    obtain ⟨k, hk, a, b⟩ := hk
    obtain ⟨r1, r2⟩ := rows_at h hk
    have hmem : iR R k ∈ R := by
      unfold iR
      rw [List.getElem?_eq_getElem hk]
      exact List.getElem_mem hk
    have hnn : ∀ t ∈ iR R k, t ≠ none := by
      intro t ht e
      unfold allT at hT
      rw [Bool.not_eq_true', List.any_eq_false] at hT
      refine hT _ hmem (List.any_eq_true.mpr ⟨t, ht, ?_⟩)
      rw [e]; rfl
    have e1 := row_of (r := iR R k) r1 f1 hnn (of_decide_eq_false a)
    have e2 := row_of (r := iR R k) r1 g1 hnn (of_decide_eq_false b)
    rw [e1] at e2
    have e3 := congrArg (List.map fun t : Tv => t.getD 0) e2
    rw [List.map_map, List.map_map] at e3
    have id2 : ∀ l : List Int, l.map ((fun t : Tv => t.getD 0) ∘ some) = l := fun l => by
      have : ((fun t : Tv => t.getD 0) ∘ some) = id := rfl
      rw [this, List.map_id]
    rwa [id2, id2] at e3
  generalize FL R m (bnd R.length) = L at *
  cases L with
  | nil => simp
  | cons x L =>
    cases L with
    | nil => simp
    | cons y L =>
      have := heq x (by simp) y (by simp)
      rw [List.nodup_cons] at hnd
      exact absurd (by rw [this]; simp) hnd.1
/-- reports that are split -/
def spR (n m : Nat) : List (List Tv) := (List.range n).map fun k : Nat => List.replicate m (some (if bnd n < (k : Int) then (1 : Int) else 0))
theorem spR_ok {n m : Nat} (h1 : 1 ≤ n) (h2 : n ≤ 6) (h3 : 1 ≤ m) (h4 : m ≤ 4) : RpOk (spR n m) m := by
  refine ⟨by unfold spR; rw [List.length_map, List.length_range]; exact h1, by unfold spR; rw [List.length_map, List.length_range]; exact h2, h3, h4, fun r hr => ?_⟩
  obtain ⟨k, _, rfl⟩ := List.mem_map.mp hr
  refine ⟨List.length_replicate, fun t ht => ?_⟩
  rw [(List.mem_replicate.mp ht).2]
  split
  · exact .inr (.inr rfl)
  · exact .inr (.inl rfl)
theorem spR_two {n m : Nat} (h1 : 2 ≤ n) (h2 : n ≤ 6) (h3 : 1 ≤ m) (h4 : m ≤ 4) : 2 ≤ (FL (spR n m) m (bnd n + 1)).length := by
  rcases (by omega : n = 2 ∨ n = 3 ∨ n = 4 ∨ n = 5 ∨ n = 6) with rfl | rfl | rfl | rfl | rfl <;>
  rcases (by omega : m = 1 ∨ m = 2 ∨ m = 3 ∨ m = 4) with rfl | rfl | rfl | rfl <;> decide +kernel
theorem set1 {α : Type} (L : List α) (g : α → Int) (x : α) (hx : x ∈ L) : (((srtSet (L.map g)).length : Int) == 1) = L.all fun f => g f == g x := by
  have hg : g x ∈ srtSet (L.map g) := (srtSet_mem _ _).mpr (List.mem_map_of_mem hx)
  have hs := srtSet_srt (L.map g)
  rw [Bool.eq_iff_iff, beq_iff_eq, List.all_eq_true]
  constructor
  · intro h y hy
    have hy2 : g y ∈ srtSet (L.map g) := (srtSet_mem _ _).mpr (List.mem_map_of_mem hy)
    have h : (srtSet (L.map g)).length = 1 := by omega
    obtain ⟨z, hz⟩ := List.length_eq_one_iff.mp h
    rw [hz, List.mem_singleton] at hg hy2
    rw [beq_iff_eq, hg, hy2]
  · intro h
    have e : srtSet (L.map g) = [g x] := srt_uniq hs (List.pairwise_singleton _ _) fun k => by
      rw [srtSet_mem, List.mem_map, List.mem_singleton]
      constructor
      · rintro ⟨y, hy, rfl⟩
        exact beq_iff_eq.mp (h y hy)
      · rintro rfl; exact ⟨x, hx, rfl⟩
    rw [e]; rfl
end Lw

set_option Elab.async false
set_option linter.all false
set_option maxRecDepth 100000
set_option autoImplicit false
set_option maxHeartbeats 4000000
namespace Lw
open PySem L2 DL
def T11 : CS :=
  (sSeq (sAsg 28 (c2 addD (oVal (cComp [35] (gN 35) tYesC (cCall none F__law_told (aCons (oVal (cVar 35)) (aCons (oVal (cVar 3)) (aCons (oVal (c1 negD (oVal (cC (.int 1))))) aNil)))) (iSeq (cLst (aCons (oVal (cC (.int 5))) (aCons (oVal (cC (.int 6))) (aCons (oVal (cC (.int 7))) (aCons (oVal (cC (.int 8))) aNil)))))))) (oVal (cComp [12] (gN 12) tYesC (cCall none F__law_told (aCons (oVal (cC (.int 9))) (aCons (oVal (cVar 3)) (aCons (oVal (cVar 12)) aNil)))) (iSeq (cLst (aCons (oVal (c2 addD (oVar 20) (oVal (cTup (aCons (oVal (cC (.int 0))) aNil))))) (aCons (oVal (cSl (oVar 20) (pSm (oVal (cC (.int 1)))) pNo)) (aCons (oVal (c2 addD (oVal (cTup (aCons (oVal (cC (.int 2))) aNil))) (oVal (cSl (oVar 20) (pSm (oVal (cC (.int 1)))) pNo)))) aNil)))))))))
  (sIf (tOf (c2 (eqD true) (oVar 28) (oVal (c2 mulD (oVal (cLst (aCons (oVal (cC (.str "refused"))) aNil))) (oVal (cC (.int 7))))))) (sRet (cC (.bl false))) sNil))
def T10 : CS :=
  (sSeq (sAsgT (gT (gsC (gN 27) (gsC (gN 16) gsN))) (c2 ixD (oVal (cLst (aCons (oVal (cTup (aCons (oVal (cTup aNil)) (aCons (oVal (cC (.str "refused"))) aNil)))) (aCons (oVal (cTup (aCons (oVal (cTup (aCons (oVal (cTup aNil)) aNil))) (aCons (oVal (cC (.str "refused"))) aNil)))) (aCons (oVal (cTup (aCons (oVal (cTup (aCons (oVal (cTup (aCons (oVal (cC (.int 0))) (aCons (oVal (cC (.int 1))) aNil)))) (aCons (oVal (cTup (aCons (oVal (cC (.int 0))) aNil))) aNil)))) (aCons (oVal (cC (.str "refused"))) aNil)))) (aCons (oVal (cTup (aCons (oVal (cTup (aCons (oVal (cTup (aCons (oVal (cC (.int 2))) aNil))) aNil))) (aCons (oVal (cC (.str "refused"))) aNil)))) (aCons (oVal (cTup (aCons (oVal (c2 mulD (oVal (cTup (aCons (oVal (cTup (aCons (oVal (cC (.int 0))) aNil))) aNil))) (oVal (cC (.int 9))))) (aCons (oVal (cC (.str "large"))) aNil)))) (aCons (oVal (cTup (aCons (oVal (cTup (aCons (oVal (c2 mulD (oVal (cTup (aCons (oVal (cC (.int 0))) aNil))) (oVal (cC (.int 7))))) aNil))) (aCons (oVal (cC (.str "large"))) aNil)))) (aCons (oVal (cTup (aCons (oVal (cTup (aCons (oVal (cTup (aCons (oVal (c1 negD (oVal (cC (.int 1))))) aNil))) aNil))) (aCons (oVal (cC (.str "refused"))) aNil)))) aNil))))))))) (oVal (cCall (some 0) F__law_next (aCons (oVar 1) (aCons (oVal (cC (.int 7))) aNil))))))
  (sSeq (sIf (tOr' (tOf (c2 (eqD true) (oVal (c2 addD (oVal (cComp [35] (gN 35) tYesC (cCall none F__law_told (aCons (oVal (cVar 35)) (aCons (oVal (cVar 27)) (aCons (oVal (c1 negD (oVal (cC (.int 1))))) aNil)))) (iL rngD1 (aCons (oVal (cC (.int 9))) aNil)))) (oVal (cComp [35] (gN 35) tYesC (cCall none F__law_told (aCons (oVal (cVar 35)) (aCons (oVal (cVar 27)) (aCons (oVal (cTup aNil)) aNil)))) (iSeq (cLst (aCons (oVal (cC (.int 9))) (aCons (oVal (cC (.int 10))) aNil)))))))) (oVal (c2 mulD (oVal (cLst (aCons (oVar 16) aNil))) (oVal (cC (.int 11))))))) (tOf (c2 (eqD true) (oVal (cN reprD (aCons (oVar 3) aNil))) (oVar 4)))) (sRet (cC (.bl false))) sNil)
  T11))
def T9 : CS :=
  (sSeq (sAsg 26 (cN tupleD (aCons (oVal (cComp [35] (gN 35) tYesC (c2 ixD (oVal (cTup (aCons (oVal (c2 mulD (oVal (cTup (aCons (oVal (cC (.int 0))) aNil))) (oVar 6))) (aCons (oVal (c2 mulD (oVal (cTup (aCons (oVal (cC (.int 1))) aNil))) (oVar 6))) aNil)))) (oVal (cN intD (aCons (oVal (c2 gtD (oVar 35) (oVal (c2 ixD (oVar 25) (oVal (cC (.int 1))))))) aNil)))) (iL rngD1 (aCons (oVar 5) aNil)))) aNil)))
  (sSeq (sIf (tAnd' (tOf (c2 gtD (oVar 5) (oVal (cC (.int 1))))) (tOf (c2 ltD (oVal (cN lenD (aCons (oVal (c2 ixD (oVal (cCall none F__law_told (aCons (oVal (cC (.int 5))) (aCons (oVal (cVar 26)) (aCons (oVal (c2 addD (oVal (c2 ixD (oVar 25) (oVal (cC (.int 1))))) (oVal (cC (.int 1))))) aNil))))) (oVal (cC (.int 1))))) aNil))) (oVal (cC (.int 2)))))) (sRet (cC (.bl false))) sNil)
  T10))
def T8 : CS :=
  (sSeq (sAsg 25 (cCall none F__law_told (aCons (oVal (cC (.int 11))) (aCons (oVal (cVar 5)) (aCons (oVal (cVar 6)) aNil)))))
  (sSeq (sIf (tOf (c2 (eqD true) (oVar 25) (oVal (cTup (aCons (oVal (cC (.str "told"))) (aCons (oVal (c2 fdivD (oVal (c2 subD (oVar 5) (oVal (cC (.int 1))))) (oVal (cC (.int 2))))) aNil)))))) (sRet (cC (.bl false))) sNil)
  (sSeq (sIf (tAnd' (tNot' (tTru (oVal (cN anyD (aCons (oVal (cComp [34] (gN 34) tYesC (c2 (inD false) (oVal (cC .non)) (oVar 34)) (iSeq (cVar 3)))) aNil))))) (tOf (c2 gtD (oVal (cN lenD (aCons (oVal (cComp [12] (gN 12) (tOf (c2 leD (oVal (cN lenD (aCons (oVal (cCall none F__law_wrong (aCons (oVal (cVar 3)) (aCons (oVal (cVar 12)) aNil)))) aNil))) (oVal (c2 ixD (oVar 25) (oVal (cC (.int 1))))))) (cVar 12) (iSeq (cVar 8)))) aNil))) (oVal (cC (.int 1)))))) (sRet (cC (.bl false))) sNil)
  T9)))
def T7 : CS :=
  (sSeq (sFor (gN 21) (iSeq (cLst (aCons (oVar 13) (aCons (oVal (cSl (oVar 13) (pSm (oVal (cC (.int 1)))) pNo)) (aCons (oVal (cF revBD (cVar 13))) (aCons (oVal (cTup aNil)) (aCons (oVal (c2 addD (oVar 13) (oVal (cSl (oVar 13) pNo (pSm (oVal (cC (.int 1)))))))) (aCons (oVal (cTup (aCons (oVal (cTup (aCons (oVal (cC (.int 0))) (aCons (oVal (cC (.int 1))) aNil)))) aNil))) (aCons (oVal (cTup (aCons (oVal (cTup (aCons (oVal (cC (.int 1))) (aCons (oVal (cC (.int 0))) aNil)))) aNil))) (aCons (oVal (cTup (aCons (oVal (cTup (aCons (oVal (cC (.int 0))) (aCons (oVar 5) aNil)))) aNil))) (aCons (oVal (cN tupleD (aCons (oVal (cSl (oVar 11) pNo (pSm (oVal (cC (.int 2)))))) aNil))) (aCons (oVal (cN tupleD (aCons (oVar 11) aNil))) aNil)))))))))))) (sSeq (sAsg 22 (cLst aNil)) (sSeq (sFor (gN 23) (iSeq (cVar 21)) (sAsg 22 (c2 addD (oVar 22) (oVal (cN listD (aCons (oVar 23) aNil)))))) (sSeq (sAsg 24 (cAnd (cN allD (aCons (oVal (cComp [23] (gN 23) tYesC (c2 (inD false) (oVar 23) (oVar 11)) (iSeq (cVar 21)))) aNil)) (c2 (eqD false) (oVal (cF lenSetD (cVar 22))) (oVal (cN lenD (aCons (oVar 22) aNil)))))) (sIf (tNot' (tTru (oVal (cCall none F__law_same (aCons (oVal (cCall none F__law_told (aCons (oVal (cC (.int 10))) (aCons (oVal (cVar 3)) (aCons (oVal (cVar 21)) aNil))))) (aCons (oVal (c2 ixD (oVal (cLst (aCons (oVal (cC (.str "paper"))) (aCons (oVal (cTup (aCons (oVal (cC (.str "told"))) (aCons (oVal (cC (.bl true))) aNil)))) aNil)))) (oVal (cN intD (aCons (oVar 24) aNil))))) aNil)))))) (sRet (cC (.bl false))) sNil)))))
  T8)
def T6 : CS :=
  (sSeq (sAsg 20 (c2 ixD (oVar 8) (oVal (cCall (some 0) F__law_next (aCons (oVar 1) (aCons (oVal (cN lenD (aCons (oVar 8) aNil))) aNil))))))
  (sSeq (sIf (tNot' (tTru (oVal (cCall none F__law_same (aCons (oVal (cCall none F__law_told (aCons (oVal (cC (.int 9))) (aCons (oVal (cVar 3)) (aCons (oVal (cVar 20)) aNil))))) (aCons (oVal (cTup (aCons (oVal (cC (.str "told"))) (aCons (oVal (cCall none F__law_wrong (aCons (oVal (cVar 3)) (aCons (oVal (cVar 20)) aNil)))) aNil)))) aNil)))))) (sRet (cC (.bl false))) sNil)
  T7))
def T5 : CS :=
  (sSeq (sAsg 17 (c2 mulD (oVal (cLst (aCons (oVal (cC (.str "missing"))) aNil))) (oVal (cC (.int 3)))))
  (sSeq (sIf (tOf (c2 gtD (oVal (cN lenD (aCons (oVar 9) aNil))) (oVal (cC (.int 0))))) (sSeq (sAsg 18 (cN tupleD (aCons (oVal (cComp [33] (gN 33) tYesC (c2 ixD (oVal (cLst (aCons (oVal (cC .non)) (aCons (oVal (c2 ixD (oVal (c2 ixD (oVar 9) (oVal (cC (.int 0))))) (oVar 33))) aNil)))) (oVal (cN intD (aCons (oVal (c2 (eqD false) (oVal (cF lenSetD (cComp [20] (gN 20) tYesC (c2 ixD (oVar 20) (oVar 33)) (iSeq (cVar 9))))) (oVal (cC (.int 1))))) aNil)))) (iL rngD1 (aCons (oVar 6) aNil)))) aNil))) (sSeq (sAsg 19 (cN tupleD (aCons (oVal (cComp [35] (gN 35) (tTru (oVal (cN allD (aCons (oVal (cComp [20] (gN 20) tYesC (c2 (inD false) (oVar 35) (oVal (cCall none F__law_wrong (aCons (oVal (cVar 3)) (aCons (oVal (cVar 20)) aNil))))) (iSeq (cVar 9)))) aNil)))) (cVar 35) (iL rngD1 (aCons (oVar 5) aNil)))) aNil))) (sAsg 17 (cLst (aCons (oVal (cTup (aCons (oVal (cC (.str "told"))) (aCons (oVar 18) aNil)))) (aCons (oVal (cTup (aCons (oVal (cC (.str "told"))) (aCons (oVar 19) aNil)))) (aCons (oVal (cTup (aCons (oVal (cC (.str "told"))) (aCons (oVal (c2 (inD true) (oVal (cC .non)) (oVar 18))) aNil)))) aNil))))))) sNil)
  (sSeq (sIf (tNot' (tTru (oVal (cCall none F__law_same (aCons (oVal (cComp [35] (gN 35) tYesC (cCall none F__law_told (aCons (oVal (cVar 35)) (aCons (oVal (cVar 3)) (aCons (oVal (cVar 7)) aNil)))) (iSeq (cLst (aCons (oVal (cC (.int 5))) (aCons (oVal (cC (.int 6))) (aCons (oVal (cC (.int 7))) (aCons (oVal (cC (.int 8))) aNil)))))))) (aCons (oVal (c2 addD (oVal (cLst (aCons (oVal (cTup (aCons (oVal (cC (.str "told"))) (aCons (oVar 9) aNil)))) aNil))) (oVar 17))) aNil)))))) (sRet (cC (.bl false))) sNil)
  T6)))
def T4 : CS :=
  (sSeq (sIf (tOr' (tNot' (tTru (oVal (cCall none F__law_same (aCons (oVal (cComp [35] (gN 35) tYesC (cCall none F__law_told (aCons (oVal (cVar 35)) (aCons (oVal (cVar 3)) (aCons (oVal (cC (.int 0))) aNil)))) (iL rngD1 (aCons (oVal (cC (.int 5))) aNil)))) (aCons (oVal (cVar 16)) aNil)))))) (tOf (c2 gtD (oVal (cN lenD (aCons (oVar 13) aNil))) (oVar 10)))) (sRet (cC (.bl false))) sNil)
  T5)
def T3 : CS :=
  (sSeq (sAsg 13 (cCall none F__law_largest (aCons (oVal (cVar 11)) aNil)))
  (sSeq (sAsg 14 (cComp [33] (gN 33) tYesC (cComp [34] (gN 34) tYesC (c2 ixD (oVar 34) (oVar 33)) (iSeq (cVar 3))) (iL rngD1 (aCons (oVar 6) aNil))))
  (sSeq (sAsg 15 (cN tupleD (aCons (oVal (cComp [34] (gN 34) tYesC (c2 ixD (oVal (cLst (aCons (oVal (cN intD (aCons (oVal (c2 gtD (oVal (cRM 34 countD (oVal (cC (.int 1))))) (oVal (cRM 34 countD (oVal (cC (.int 0))))))) aNil))) (aCons (oVal (cC .non)) aNil)))) (oVal (cN intD (aCons (oVal (c2 (eqD false) (oVal (cRM 34 countD (oVal (cC (.int 1))))) (oVal (cRM 34 countD (oVal (cC (.int 0))))))) aNil)))) (iSeq (cVar 14)))) aNil)))
  (sSeq (sAsg 16 (cLst (aCons (oVal (cTup (aCons (oVal (cC (.str "told"))) (aCons (oVal (cC .non)) aNil)))) (aCons (oVal (cTup (aCons (oVal (cC (.str "told"))) (aCons (oVar 10) aNil)))) (aCons (oVal (cTup (aCons (oVal (cC (.str "told"))) (aCons (oVal (cN tupleD (aCons (oVar 11) aNil))) aNil)))) (aCons (oVal (cTup (aCons (oVal (cC (.str "told"))) (aCons (oVar 13) aNil)))) (aCons (oVal (cTup (aCons (oVal (cC (.str "told"))) (aCons (oVar 15) aNil)))) aNil)))))))
  T4))))
def T2 : CS :=
  (sSeq (sAsg 11 (cLst aNil))
  (sSeq (sFor (gN 12) (iL rngD1 (aCons (oVar 5) aNil)) (sExp (cM1 "list" 11 extendD (cComp [30] (gN 30) (tTru (oVal (cN anyD (aCons (oVal (cComp [31, 32] (gT (gsC (gN 31) (gsC (gN 32) gsN))) tYesC (cAnd (c2 (inD true) (oVal (cC .non)) (oVal (cLst (aCons (oVar 31) (aCons (oVar 32) aNil))))) (c2 (eqD true) (oVar 31) (oVar 32))) (iZip (c2 ixD (oVar 3) (oVar 12)) (c2 ixD (oVar 3) (oVar 30))))) aNil)))) (cTup (aCons (oVar 12) (aCons (oVar 30) aNil))) (iL rngD2 (aCons (oVal (c2 addD (oVar 12) (oVal (cC (.int 1))))) (aCons (oVar 5) aNil)))))))
  T3))
def T1 : CS :=
  (sSeq (sAsg 9 (cComp [20] (gN 20) (tOf (c2 leD (oVal (cN lenD (aCons (oVal (cCall none F__law_wrong (aCons (oVal (cVar 3)) (aCons (oVal (cVar 20)) aNil)))) aNil))) (oVar 7))) (cVar 20) (iSeq (cVar 8))))
  (sSeq (sAsg 10 (cN minX (aCons (oVal (cComp [20] (gN 20) tYesC (cN lenD (aCons (oVal (cCall none F__law_wrong (aCons (oVal (cVar 3)) (aCons (oVal (cVar 20)) aNil)))) aNil)) (iSeq (cVar 8)))) aNil)))
  T2))
def T0 : CS :=
  (sSeq (sAsg 3 (cCall (some 0) F__law_reports (aCons (oVar 1) aNil)))
  (sSeq (sAsg 4 (cN reprD (aCons (oVar 3) aNil)))
  (sSeq (sPar 5 6 (mCons (cN lenD (aCons (oVar 3) aNil)) (mCons (cN lenD (aCons (oVal (c2 ixD (oVar 3) (oVal (cC (.int 0))))) aNil)) mNil)))
  (sSeq (sAsg 7 (cCall (some 0) F__law_next (aCons (oVar 1) (aCons (oVal (c2 addD (oVar 5) (oVal (cC (.int 1))))) aNil))))
  (sSeq (sAsg 8 (cCall none F__law_bits (aCons (oVal (cVar 6)) aNil)))
  T1)))))
def TZ : CS :=
  (sSeq (sAsg 29 (cLst (aCons (oVal (cCall none F__law_told (aCons (oVal (cC (.int 11))) (aCons (oVal (cC (.int 0))) (aCons (oVal (cC (.int 1))) aNil))))) (aCons (oVal (cCall none F__law_told (aCons (oVal (cC (.int 11))) (aCons (oVal (cC (.int 1))) (aCons (oVal (cC (.int 0))) aNil))))) (aCons (oVal (cCall none F__law_told (aCons (oVal (cC (.int 11))) (aCons (oVal (cC (.int 9))) (aCons (oVal (cC (.int 1))) aNil))))) (aCons (oVal (cCall none F__law_told (aCons (oVal (cC (.int 11))) (aCons (oVal (cC (.int 1))) (aCons (oVal (cC (.int 7))) aNil))))) aNil))))))
  (sRet (cAnd (c2 (eqD false) (oVar 29) (oVal (cLst (aCons (oVal (cC (.str "refused"))) (aCons (oVal (cC (.str "refused"))) (aCons (oVal (cC (.str "large"))) (aCons (oVal (cC (.str "large"))) aNil))))))) (c2 (eqD false) (oVal (cTup (aCons (oVal (cC (.int (8)))) (aCons (oVal (cC (.int (6)))) aNil)))) (oVal (cTup (aCons (oVal (cC (.int 8))) (aCons (oVal (cC (.int 6))) aNil))))))))
theorem S_law_eq : S_law = (sSeq (sAsg 1 (cLst (aCons (oVal (cCall none F__law_stream (aCons (oVal (cVar 0)) aNil))) (aCons (oVal (cC (.int 0))) aNil))))
  (sSeq (sFor (gN 2) (iL rngD1 (aCons (oVal (cC (.int 7))) aNil)) T0)
  TZ)) := rfl
def Post (h0 : D) (nums : List Int) (J : Nat) (e : DL.Env) : Prop := ∃ (j : Nat) (s2 s3 s4 s5 s6 s7 s8 s9 s10 s11 s12 s13 s14 s15 s16 s17 s18 s19 s20 s21 s22 s23 s24 s25 s26 s27 s28 s29 : DL.Slot), e = [.sh h0, .ow (St nums j), s2, s3, s4, s5, s6, s7, s8, s9, s10, s11, s12, s13, s14, s15, s16, s17, s18, s19, s20, s21, s22, s23, s24, s25, s26, s27, s28, s29, .un, .un, .un, .un, .un, .un] ∧ okS (some s2) = true ∧ okS (some s3) = true ∧ okS (some s4) = true ∧ okS (some s5) = true ∧ okS (some s6) = true ∧ okS (some s7) = true ∧ okS (some s8) = true ∧ okS (some s9) = true ∧ okS (some s10) = true ∧ okS (some s11) = true ∧ okS (some s12) = true ∧ okS (some s13) = true ∧ okS (some s14) = true ∧ okS (some s15) = true ∧ okS (some s16) = true ∧ okS (some s17) = true ∧ okS (some s18) = true ∧ okS (some s19) = true ∧ okS (some s20) = true ∧ okS (some s21) = true ∧ okS (some s22) = true ∧ okS (some s23) = true ∧ okS (some s24) = true ∧ okS (some s25) = true ∧ okS (some s26) = true ∧ okS (some s27) = true ∧ okS (some s28) = true ∧ okS (some s29) = true ∧ j ≤ J
def r7 : List D := List.replicate 7 (.str (Str.ofString "refused"))
theorem mul7 : mulD (.lst [.str (Str.ofString "refused")]) (.int 7) = some (true, .lst r7) := by kernel_rfl
theorem eq7 : eqD true (.lst r7) (.lst r7) = some (false, .bl false) := by kernel_rfl
theorem t11_ok {R : List (List Tv)} {m : Nat} (h : RpOk R m) {K : Str} (hrep : reprD [rpD R] = some (false, .str K)) {h0 : D} {nums : List Int} (hn : nums ≠ []) (hl : nums.length < 1073741824) {j J : Nat} (hj : j < 900000) (hJ : j ≤ J) {f : List Int} (hf : FtOk m f) {s2 s4 s5 s6 s7 s8 s9 s10 s11 s12 s13 s14 s15 s16 s17 s18 s19 s21 s22 s23 s24 s25 s26 s27 s28 s29 : DL.Slot} (k2 : okS (some s2) = true) (k4 : okS (some s4) = true) (k5 : okS (some s5) = true) (k6 : okS (some s6) = true) (k7 : okS (some s7) = true) (k8 : okS (some s8) = true) (k9 : okS (some s9) = true) (k10 : okS (some s10) = true) (k11 : okS (some s11) = true) (k12 : okS (some s12) = true) (k13 : okS (some s13) = true) (k14 : okS (some s14) = true) (k15 : okS (some s15) = true) (k16 : okS (some s16) = true) (k17 : okS (some s17) = true) (k18 : okS (some s18) = true) (k19 : okS (some s19) = true) (k21 : okS (some s21) = true) (k22 : okS (some s22) = true) (k23 : okS (some s23) = true) (k24 : okS (some s24) = true) (k25 : okS (some s25) = true) (k26 : okS (some s26) = true) (k27 : okS (some s27) = true) (k28 : okS (some s28) = true) (k29 : okS (some s29) = true) :
    Sat (T11 [.sh h0, .ow (St nums (j)), s2, .sh (rpD R), s4, s5, s6, s7, s8, s9, s10, s11, s12, s13, s14, s15, s16, s17, s18, s19, .sh (rI f), s21, s22, s23, s24, s25, s26, s27, s28, s29, .un, .un, .un, .un, .un, .un]) fun r => r.1 = .nx ∧ Post h0 nums J r.2 := by
  have cr := check_reports_ok h
  have m1 := h.m1
  have m4 := h.m4
  have f1 := hf.1
  have xl := x_left2 cr free_neg
  have a5 := told_5x xl errs_na
  have a6 := told_6x (x_sure xl) errs_na
  have a7 := told_7x (x_free xl) errs_na
  have a8 := told_8x (x_safe xl) errs_na
  have b1 := told_9x (liars_bad1 h (f := f ++ [0]) (by rw [List.length_append]; simp; omega)) errs_na
  have b2 := told_9x (liars_bad1 h (f := f.drop 1) (by rw [List.length_drop]; omega)) errs_na
  have b3 := told_9x (liars_bad2 h (f := f.drop 1) (by rw [List.length_cons, List.length_drop]; omega) fun x hx => hf.2 x (List.mem_of_mem_drop hx)) errs_na
  have p1 := rI_snoc f 0 (by omega)
  have p2 : sliceD (rI f) (some 1) none = some (false, rI (f.drop 1)) := by
    unfold rI
    rw [ev_slT, cut_lo _ (by decide), List.map_drop]; rfl
  have p3 : addD (.tup [.int 2]) (rI (f.drop 1)) = some (false, rI (2 :: f.drop 1)) := by
    unfold rI
    rw [ev_addT (by rw [List.length_map, List.length_drop]; simp; omega)]; rfl
  have er : D.lst [.str (Str.ofString "refused"), .str (Str.ofString "refused"), .str (Str.ofString "refused"), .str (Str.ofString "refused"), .str (Str.ofString "refused"), .str (Str.ofString "refused"), .str (Str.ofString "refused")] = .lst r7 := rfl
  unfold T11
  generalize rpD R = RD at *
  generalize rI (2 :: f.drop 1) = F3 at *
  generalize rI (f.drop 1) = F2 at *
  generalize rI (f ++ [0]) = F1 at *
  generalize rI f = F0 at *
  simp [-List.map_cons, -List.map_append, -List.map_map, -List.append_assoc, -List.map_take, -List.map_drop, k28, k12, compL_step, compL_nil, kCd_some, okT0, okT1, okT2, okT3, okT4, a5, a6, a7, a8, b1, b2, b3, p1, p2, p3, neg_1, ev_addL, er, mul7, eq7]
  exact ⟨j, _, _, _, _, _, _, _, _, _, _, _, _, _, _, _, _, _, _, _, _, _, _, _, _, _, _, _, _, rfl, k2, rfl, k4, k5, k6, k7, k8, k9, k10, k11, okB _, k13, k14, k15, k16, k17, k18, k19, rfl, k21, k22, k23, k24, k25, k26, k27, rfl, k29, by omega⟩
end Lw

set_option Elab.async false
set_option linter.all false
set_option maxRecDepth 100000
set_option autoImplicit false
set_option maxHeartbeats 4000000
namespace Lw
open PySem L2 DL
def z7 : D := .tup (List.replicate 7 (.int 0))
def y9 : D := .tup (List.replicate 9 (.tup [.int 0]))
theorem m9 : mulD (.tup [.tup [.int 0]]) (.int 9) = some (false, y9) := by kernel_rfl
theorem m7 : mulD (.tup [.int 0]) (.int 7) = some (false, z7) := by kernel_rfl
theorem odd_at {q : Nat} (h : q < 7) : atI ([.tup [.tup [], .str (Str.ofString "refused")], .tup [.tup [.tup []], .str (Str.ofString "refused")], .tup [.tup [.tup [.int 0, .int 1], .tup [.int 0]], .str (Str.ofString "refused")], .tup [.tup [.tup [.int 2]], .str (Str.ofString "refused")], .tup [y9, .str (Str.ofString "large")], .tup [.tup [z7], .str (Str.ofString "large")], .tup [.tup [.tup [.int (-1)]], .str (Str.ofString "refused")]] : List D) (q : Int) = some (.tup [oddD q, .str (oddW q)]) := by
  rcases (by omega : q = 0 ∨ q = 1 ∨ q = 2 ∨ q = 3 ∨ q = 4 ∨ q = 5 ∨ q = 6) with rfl | rfl | rfl | rfl | rfl | rfl | rfl <;> kernel_rfl
def w11 (q : Nat) : List D := List.replicate 11 (.str (oddW q))
theorem mul11 {q : Nat} (h : q < 7) : mulD (.lst [.str (oddW q)]) (.int 11) = some (true, .lst (w11 q)) := by
  rcases (by omega : q = 0 ∨ q = 1 ∨ q = 2 ∨ q = 3 ∨ q = 4 ∨ q = 5 ∨ q = 6) with rfl | rfl | rfl | rfl | rfl | rfl | rfl <;> kernel_rfl
theorem eq11 {q : Nat} (h : q < 7) : eqD true (.lst (w11 q)) (.lst (w11 q)) = some (false, .bl false) := by
  rcases (by omega : q = 0 ∨ q = 1 ∨ q = 2 ∨ q = 3 ∨ q = 4 ∨ q = 5 ∨ q = 6) with rfl | rfl | rfl | rfl | rfl | rfl | rfl <;> kernel_rfl
theorem okT8q : okT 8 = true := okT_lt (by decide)
theorem rng9 : rngD1 [.int 9] = some [.int 0, .int 1, .int 2, .int 3, .int 4, .int 5, .int 6, .int 7, .int 8] := by kernel_rfl
theorem t10_ok {R : List (List Tv)} {m : Nat} (h : RpOk R m) {K : Str} (hrep : reprD [rpD R] = some (false, .str K)) {h0 : D} {nums : List Int} (hn : nums ≠ []) (hl : nums.length < 1073741824) {j J : Nat} (hj : j < 800000) (hJ : j + 1 ≤ J) {f : List Int} (hf : FtOk m f) {s2 s5 s6 s7 s8 s9 s10 s11 s12 s13 s14 s15 s16 s17 s18 s19 s21 s22 s23 s24 s25 s26 s27 s28 s29 : DL.Slot} (k2 : okS (some s2) = true) (k5 : okS (some s5) = true) (k6 : okS (some s6) = true) (k7 : okS (some s7) = true) (k8 : okS (some s8) = true) (k9 : okS (some s9) = true) (k10 : okS (some s10) = true) (k11 : okS (some s11) = true) (k12 : okS (some s12) = true) (k13 : okS (some s13) = true) (k14 : okS (some s14) = true) (k15 : okS (some s15) = true) (k16 : okS (some s16) = true) (k17 : okS (some s17) = true) (k18 : okS (some s18) = true) (k19 : okS (some s19) = true) (k21 : okS (some s21) = true) (k22 : okS (some s22) = true) (k23 : okS (some s23) = true) (k24 : okS (some s24) = true) (k25 : okS (some s25) = true) (k26 : okS (some s26) = true) (k27 : okS (some s27) = true) (k28 : okS (some s28) = true) (k29 : okS (some s29) = true) :
    Sat (T10 [.sh h0, .ow (St nums (j)), s2, .sh (rpD R), .sh (.str K), s5, s6, s7, s8, s9, s10, s11, s12, s13, s14, s15, s16, s17, s18, s19, .sh (rI f), s21, s22, s23, s24, s25, s26, s27, s28, s29, .un, .un, .un, .un, .un, .un]) fun r => r.1 = .nx ∧ Post h0 nums J r.2 := by
  obtain ⟨q, e1, hq⟩ := nx_nat nums (j + 1) (m := 7) (by omega)
  have n1 := next_ok hn hl (i := j) (by omega) (m := 7) (by omega)
  rw [show ((7 : Nat) : Int) = 7 from rfl] at e1
  rw [e1] at n1
  have oa := odd_at hq
  have c := odd_cr hq
  have w := odd_w hq
  have a0 := told_0x (q := .int (-1)) c w
  have a1 := told_1x (q := .int (-1)) (x_fewest c) w
  have a2 := told_2x (q := .int (-1)) (x_clashes c) w
  have a3 := told_3x (q := .int (-1)) (x_apart c) w
  have a4 := told_4x (q := .int (-1)) (x_majority c) w
  have a5 := told_5x (q := .int (-1)) (x_left c) w
  have a6 := told_6x (q := .int (-1)) (x_sure (x_left c)) w
  have a7 := told_7x (q := .int (-1)) (x_free (x_left c)) w
  have a8 := told_8x (q := .int (-1)) (x_safe (x_left c)) w
  have a9 := told_9x (q := .tup []) (x_liars c) w
  have a10 := told_10x (q := .tup []) (x_chapart c) w
  have t11 := @t11_ok R m h K hrep h0 nums hn hl (j + 1) J (by omega) (by omega) f hf
  have er : D.lst [.str (oddW q), .str (oddW q), .str (oddW q), .str (oddW q), .str (oddW q), .str (oddW q), .str (oddW q), .str (oddW q), .str (oddW q), .str (oddW q), .str (oddW q)] = .lst (w11 q) := rfl
  have mm := mul11 hq
  have ee := eq11 hq
  unfold T10
  generalize rpD R = RD at *
  generalize rI f = F0 at *
  generalize oddD q = OD at *
  simp [-List.map_cons, -List.map_append, -List.map_map, -List.append_assoc, -List.map_take, -List.map_drop, n1, m9, m7, neg_1, oa, k27, k16, rng9, compL_step, compL_nil, kCd_some, okT0, okT1, okT2, okT3, okT4, okT5, okT6, okT7, okT8q, a0, a1, a2, a3, a4, a5, a6, a7, a8, a9, a10, ev_addL, er, mm, ee, hrep]
  exact t11 k2 (by rfl) k5 k6 k7 k8 k9 k10 k11 k12 k13 k14 k15 (by rfl) k17 k18 k19 k21 k22 k23 k24 k25 k26 (by rfl) k28 k29
end Lw

set_option Elab.async false
set_option linter.all false
set_option maxRecDepth 100000
set_option autoImplicit false
set_option maxHeartbeats 4000000
namespace Lw
open PySem L2 DL
theorem spD (n m : Nat) : D.tup ((List.range n).map fun k : Nat => rwD (List.replicate m (some (if bnd n < (k : Int) then (1 : Int) else 0)))) = rpD (spR n m) := by unfold rpD spR; rw [List.map_map]; rfl
theorem rw_rep (m : Nat) (x : Int) (h : m ≤ 4) : mulD (.tup [.int x]) (.int (m : Int)) = some (false, rwD (List.replicate m (some x))) := by
  rw [mul_rep _ (by omega) (by omega)]
  unfold rwD
  rw [List.map_replicate, show ((m : Int)).toNat = m by omega]; rfl
theorem t9_ok {R : List (List Tv)} {m : Nat} (h : RpOk R m) {K : Str} (hrep : reprD [rpD R] = some (false, .str K)) {h0 : D} {nums : List Int} (hn : nums ≠ []) (hl : nums.length < 1073741824) {j J : Nat} (hj : j < 800000) (hJ : j + 1 ≤ J) {f : List Int} (hf : FtOk m f) {s2 s7 s8 s9 s10 s11 s12 s13 s14 s15 s16 s17 s18 s19 s21 s22 s23 s24 s26 s27 s28 s29 : DL.Slot} (k2 : okS (some s2) = true) (k7 : okS (some s7) = true) (k8 : okS (some s8) = true) (k9 : okS (some s9) = true) (k10 : okS (some s10) = true) (k11 : okS (some s11) = true) (k12 : okS (some s12) = true) (k13 : okS (some s13) = true) (k14 : okS (some s14) = true) (k15 : okS (some s15) = true) (k16 : okS (some s16) = true) (k17 : okS (some s17) = true) (k18 : okS (some s18) = true) (k19 : okS (some s19) = true) (k21 : okS (some s21) = true) (k22 : okS (some s22) = true) (k23 : okS (some s23) = true) (k24 : okS (some s24) = true) (k26 : okS (some s26) = true) (k27 : okS (some s27) = true) (k28 : okS (some s28) = true) (k29 : okS (some s29) = true) :
    Sat (T9 [.sh h0, .ow (St nums (j)), s2, .sh (rpD R), .sh (.str K), .sh (.int (R.length : Int)), .sh (.int (m : Int)), s7, s8, s9, s10, s11, s12, s13, s14, s15, s16, s17, s18, s19, .sh (rI f), s21, s22, s23, s24, .sh (.tup [.str "told", .int (bnd R.length)]), s26, s27, s28, s29, .un, .un, .un, .un, .un, .un]) fun r => r.1 = .nx ∧ Post h0 nums J r.2 := by
  have n1 := h.n1
  have n6 := h.n6
  have m1 := h.m1
  have m4 := h.m4
  have rn := rngn (n := R.length) (by omega)
  have r0 := rw_rep m 0 m4
  have r1 := rw_rep m 1 m4
  have sp := told_5 (facts_left_ok (spR_ok n1 n6 m1 m4) (most := bnd R.length + 1) (by unfold bnd; omega))
  have tt : ∀ l : List D, tupleD [.lst l] = some (false, .tup l) := fun _ => rfl
  have sd := spD R.length m
  have hlen := lst_len (FL (spR R.length m) m (bnd R.length + 1)) rI
  have t10 := @t10_ok R m h K hrep h0 nums hn hl j J hj hJ f hf
  have htwo : 1 < R.length → 2 ≤ (FL (spR R.length m) m (bnd R.length + 1)).length := fun h1 => spR_two h1 n6 m1 m4
  unfold T9
  generalize rpD R = RD at *
  generalize rI f = F0 at *
  generalize (FL (spR R.length m) m (bnd R.length + 1)).map rI = FLD at *
  generalize (FL (spR R.length m) m (bnd R.length + 1)).length = FLL at *
  simp [-List.map_cons, -List.map_append, -List.map_map, -List.append_assoc, -List.map_take, -List.map_drop, rn, k26]
  refine sat_compM (fun k : Nat => some (rwD (List.replicate m (some (if bnd R.length < (k : Int) then (1 : Int) else 0))))) ?_ (by rw [List.length_range]; omega) ?_
  · intro k _
    generalize bnd R.length = B at *
    by_cases hb : B < (k : Int) <;> simp [-List.map_cons, -List.map_append, -List.map_map, -List.append_assoc, -List.map_take, -List.map_drop, iD, r0, r1, hb]
  · rw [fm_map]
    rw [← sd] at sp
    generalize (List.range R.length).map (fun k : Nat => rwD (List.replicate m (some (if bnd R.length < (k : Int) then (1 : Int) else 0)))) = Q at *
    generalize bnd R.length = B at *
    by_cases h1 : 1 < R.length
    · have e1 : decide ((1 : Int) < (R.length : Int)) = true := decide_eq_true (by omega)
      have h2 := htwo h1
      have e2 : decide ((FLL : Int) < 2) = false := decide_eq_false (by omega)
      have e3 : ¬ FLL < 2 := by omega
      simp [-List.map_cons, -List.map_append, -List.map_map, -List.append_assoc, -List.map_take, -List.map_drop, k26, tt, h1, e1, sp, hlen, e2, e3]
      exact t10 k2 (by rfl) (by rfl) k7 k8 k9 k10 k11 k12 k13 k14 k15 k16 k17 k18 k19 k21 k22 k23 k24 (by rfl) (by rfl) k27 k28 k29
    · have e1 : decide ((1 : Int) < (R.length : Int)) = false := decide_eq_false (by omega)
      simp [-List.map_cons, -List.map_append, -List.map_map, -List.append_assoc, -List.map_take, -List.map_drop, k26, tt, h1, e1]
      exact t10 k2 (by rfl) (by rfl) k7 k8 k9 k10 k11 k12 k13 k14 k15 k16 k17 k18 k19 k21 k22 k23 k24 (by rfl) (by rfl) k27 k28 k29
theorem okEq_tI (b : Int) : okEq (.tup [.str "told", .int b]) = true := by
  simp [okEq, toPy, toPyL, SeqAt.shaped, PyData.canLay0, PyData.canLayAll0, PyData.depth, PyData.depthAll, strOk_told]
theorem eq_tI (b : Int) : eqD true (.tup [.str "told", .int b]) (.tup [.str "told", .int b]) = some (false, .bl false) := by
  have h2 : eqv (.tup [.str "told", .int b]) (.tup [.str "told", .int b]) = true := by
    simp [eqv, toPy, toPyL, PyData.eqv, PyData.eqvAll]
  show (if okEq (.tup [.str "told", .int b]) && okEq (.tup [.str "told", .int b]) then some (false, D.bl (xor true (eqv (.tup [.str "told", .int b]) (.tup [.str "told", .int b])))) else none) = _
  rw [okEq_tI, h2]; rfl
theorem t8_ok {R : List (List Tv)} {m : Nat} (h : RpOk R m) {K : Str} (hrep : reprD [rpD R] = some (false, .str K)) {h0 : D} {nums : List Int} (hn : nums ≠ []) (hl : nums.length < 1073741824) {j J : Nat} (hj : j < 800000) (hJ : j + 1 ≤ J) {f : List Int} (hf : FtOk m f) {s2 s7 s9 s10 s11 s12 s13 s14 s15 s16 s17 s18 s19 s21 s22 s23 s24 s25 s26 s27 s28 s29 : DL.Slot} (k2 : okS (some s2) = true) (k7 : okS (some s7) = true) (k9 : okS (some s9) = true) (k10 : okS (some s10) = true) (k11 : okS (some s11) = true) (k12 : okS (some s12) = true) (k13 : okS (some s13) = true) (k14 : okS (some s14) = true) (k15 : okS (some s15) = true) (k16 : okS (some s16) = true) (k17 : okS (some s17) = true) (k18 : okS (some s18) = true) (k19 : okS (some s19) = true) (k21 : okS (some s21) = true) (k22 : okS (some s22) = true) (k23 : okS (some s23) = true) (k24 : okS (some s24) = true) (k25 : okS (some s25) = true) (k26 : okS (some s26) = true) (k27 : okS (some s27) = true) (k28 : okS (some s28) = true) (k29 : okS (some s29) = true) :
    Sat (T8 [.sh h0, .ow (St nums (j)), s2, .sh (rpD R), .sh (.str K), .sh (.int (R.length : Int)), .sh (.int (m : Int)), s7, .sh (.lst ((AF m).map rI)), s9, s10, s11, s12, s13, s14, s15, s16, s17, s18, s19, .sh (rI f), s21, s22, s23, s24, s25, s26, s27, s28, s29, .un, .un, .un, .un, .un, .un]) fun r => r.1 = .nx ∧ Post h0 nums J r.2 := by
  have n1 := h.n1
  have n6 := h.n6
  have m1 := h.m1
  have m4 := h.m4
  have st := told_11 (strength_ok (n := R.length) (m := m) n1 n6 m1 m4)
  have hb : ((R.length : Int) - 1) / 2 = bnd R.length := rfl
  rw [hb] at st
  have fd : fdivD (.int ((R.length : Int) - 1)) (.int 2) = some (false, .int (bnd R.length)) := ev_fdiv (by decide) (by decide)
  have et := eq_tI (bnd R.length)
  have lw := fun f (hf : f ∈ AF m) => law_wrong_ok h ((AF_mem m f).mp hf).1
  have hkl := KL_tlen R
  have an := any_bl R fun r => r.any Option.isNone
  have hi : iterD (rpD R) = some (R.map rwD) := rfl
  have ni := fun r => non_in r false
  have h16 := AF64 m4
  have hone := FL_one h
  have hlen := lst_len (FL R m (bnd R.length)) rI
  have hfl : (AF m).filter (fun f => decide (wrI R f ≤ bnd R.length)) = FL R m (bnd R.length) := rfl
  have hall : allT R = !R.any fun r => r.any Option.isNone := rfl
  have t9 := @t9_ok R m h K hrep h0 nums hn hl j J hj hJ f hf
  unfold T8
  generalize rpD R = RD at *
  generalize rI f = F0 at *
  simp [-List.map_cons, -List.map_append, -List.map_map, -List.append_assoc, -List.map_take, -List.map_drop, k25, st, fd, et, hi]
  refine sat_compM (fun r => some (.bl (r.any Option.isNone))) ?_ (by omega) ?_
  · intro r _
    have q := ni r
    rw [Bool.false_xor] at q
    generalize rwD r = RR at *
    simp [-List.map_cons, -List.map_append, -List.map_map, -List.append_assoc, -List.map_take, -List.map_drop, q]
  · rw [fm_map]
    generalize (R.map fun r => D.bl (r.any Option.isNone)) = Q at *
    cases hA : R.any fun r => r.any Option.isNone with
    | true =>
      rw [hA] at an
      simp [-List.map_cons, -List.map_append, -List.map_map, -List.append_assoc, -List.map_take, -List.map_drop, an]
      exact t9 k2 k7 (by rfl) k9 k10 k11 k12 k13 k14 k15 k16 k17 k18 k19 k21 k22 k23 k24 k26 k27 k28 k29
    | false =>
      rw [hA] at an hall
      have hone := hone hall
      simp [-List.map_cons, -List.map_append, -List.map_map, -List.append_assoc, -List.map_take, -List.map_drop, an, k12]
      refine sat_compM (fun f => if decide (wrI R f ≤ bnd R.length) then some (rI f) else none) ?_ (by omega) ?_
      · intro g hg
        have w1 := lw g hg
        have w2 := hkl g
        generalize D.tup (nD (KL R g)) = T at *
        generalize wrI R g = W at *
        generalize bnd R.length = B at *
        generalize rI g = RG at *
        by_cases hb : W ≤ B <;> simp [-List.map_cons, -List.map_append, -List.map_map, -List.append_assoc, -List.map_take, -List.map_drop, w1, w2, hb]
      · rw [fm_filter, hfl]
        have e2 : decide ((1 : Int) < ((FL R m (bnd R.length)).length : Int)) = false := decide_eq_false (by omega)
        have e3 : ¬ 1 < (FL R m (bnd R.length)).length := by omega
        generalize (FL R m (bnd R.length)).map rI = FLD at *
        generalize (FL R m (bnd R.length)).length = FLL at *
        simp [-List.map_cons, -List.map_append, -List.map_map, -List.append_assoc, -List.map_take, -List.map_drop, hlen, e2, e3]
        exact t9 k2 k7 (by rfl) k9 k10 k11 (okB _) k13 k14 k15 k16 k17 k18 k19 k21 k22 k23 k24 k26 k27 k28 k29
end Lw

set_option Elab.async false
set_option linter.all false
set_option maxRecDepth 100000
set_option autoImplicit false
set_option maxHeartbeats 4000000
namespace Lw
open PySem L2 DL
/-- the body of the loop over papers -/
def PB : CS := (sSeq (sAsg 22 (cLst aNil)) (sSeq (sFor (gN 23) (iSeq (cVar 21)) (sAsg 22 (c2 addD (oVar 22) (oVal (cN listD (aCons (oVar 23) aNil)))))) (sSeq (sAsg 24 (cAnd (cN allD (aCons (oVal (cComp [23] (gN 23) tYesC (c2 (inD false) (oVar 23) (oVar 11)) (iSeq (cVar 21)))) aNil)) (c2 (eqD false) (oVal (cF lenSetD (cVar 22))) (oVal (cN lenD (aCons (oVar 22) aNil)))))) (sIf (tNot' (tTru (oVal (cCall none F__law_same (aCons (oVal (cCall none F__law_told (aCons (oVal (cC (.int 10))) (aCons (oVal (cVar 3)) (aCons (oVal (cVar 21)) aNil))))) (aCons (oVal (c2 ixD (oVal (cLst (aCons (oVal (cC (.str "paper"))) (aCons (oVal (cTup (aCons (oVal (cC (.str "told"))) (aCons (oVal (cC (.bl true))) aNil)))) aNil)))) (oVal (cN intD (aCons (oVar 24) aNil))))) aNil)))))) (sRet (cC (.bl false))) sNil))))
def Pp (d : D) : Prop := ∃ M : List Pr, d = psD M ∧ M.length ≤ 20
theorem paper_ok {R : List (List Tv)} {m : Nat} (h : RpOk R m) {d : D} (hd : Pp d) {h0 stt : D} {s2 s4 s5 s6 s7 s8 s9 s10 s12 s13 s14 s15 s16 s17 s18 s19 s20 s22 s23 s24 s25 s26 s27 s28 s29 : DL.Slot} (k2 : okS (some s2) = true) (k4 : okS (some s4) = true) (k5 : okS (some s5) = true) (k6 : okS (some s6) = true) (k7 : okS (some s7) = true) (k8 : okS (some s8) = true) (k9 : okS (some s9) = true) (k10 : okS (some s10) = true) (k12 : okS (some s12) = true) (k13 : okS (some s13) = true) (k14 : okS (some s14) = true) (k15 : okS (some s15) = true) (k16 : okS (some s16) = true) (k17 : okS (some s17) = true) (k18 : okS (some s18) = true) (k19 : okS (some s19) = true) (k20 : okS (some s20) = true) (k22 : okS (some s22) = true) (k23 : okS (some s23) = true) (k24 : okS (some s24) = true) (k25 : okS (some s25) = true) (k26 : okS (some s26) = true) (k27 : okS (some s27) = true) (k28 : okS (some s28) = true) (k29 : okS (some s29) = true) {s11 : DL.Slot} (q11 : s11 = .ow (.lst ((CP R).map prD)) ∨ s11 = .sh (.lst ((CP R).map prD))) :
    Sat (PB [.sh h0, .ow stt, s2, .sh (rpD R), s4, s5, s6, s7, s8, s9, s10, s11, s12, s13, s14, s15, s16, s17, s18, s19, s20, .sh d, s22, s23, s24, s25, s26, s27, s28, s29, .un, .un, .un, .un, .un, .un]) fun r => r.1 = .nx ∧ ∃ s22 s23 s24 : DL.Slot, r.2 = [.sh h0, .ow stt, s2, .sh (rpD R), s4, s5, s6, s7, s8, s9, s10, s11, s12, s13, s14, s15, s16, s17, s18, s19, s20, .sh d, s22, s23, s24, s25, s26, s27, s28, s29, .un, .un, .un, .un, .un, .un] ∧ okS (some s22) = true ∧ okS (some s23) = true ∧ okS (some s24) = true := by
  obtain ⟨M, rfl, hM⟩ := hd
  have it := it_psD M
  have hin := fun p => inL_ps p (CP R)
  have li : ∀ p : Pr, listD [prD p] = some (true, .lst [.int (p.1 : Int), .int (p.2 : Int)]) := fun _ => rfl
  have hfl := flat2_len M
  have ca := check_apart_ok h (M := M) (by omega)
  have tk : F__law_told [.int 10, rpD R, psD M] = .ok ((false, if clsB R M && usedB M then .tup [.str "told", .bl true] else .str "paper"), none) := by
    cases hB : clsB R M && usedB M with
    | true => rw [hB, if_pos rfl] at ca; exact told_10 ca
    | false => rw [hB, if_neg (by decide)] at ca; exact told_10x ca errs_bp
  have ab := all_bl M fun p => (CP R).contains p
  have hcl : (M.all fun p => (CP R).contains p) = clsB R M := rfl
  rw [hcl] at ab
  have hs := lenSet_n (flat2 M) (by omega)
  have hln : lenD [.lst (nD (flat2 M))] = some (false, .int ((flat2 M).length : Int)) := by rw [ev_lenl, nD_len]
  have hu : (((srtSet (nI (flat2 M))).length : Int) == ((flat2 M).length : Int)) = usedB M := int_beq _ _
  have same_p : F__law_same [.str (Str.ofString "paper"), .str (Str.ofString "paper")] = .ok ((false, .bl true), none) := by kernel_rfl
  have same_t : F__law_same [.tup [.str (Str.ofString "told"), .bl true], .tup [.str (Str.ofString "told"), .bl true]] = .ok ((false, .bl true), none) := by kernel_rfl
  unfold PB
  generalize rpD R = RD at *
  generalize psD M = MD at *
  generalize D.lst ((CP R).map prD) = CL at *
  simp [-List.map_cons, -List.map_append, -List.map_map, -List.append_assoc, -List.map_take, -List.map_drop, k22, it]
  refine sat_forN (P := fun k e => ∃ s23 : DL.Slot, e = [.sh h0, .ow stt, s2, .sh RD, s4, s5, s6, s7, s8, s9, s10, s11, s12, s13, s14, s15, s16, s17, s18, s19, s20, .sh MD, .ow (.lst (nD (flat2 (M.take k)))), s23, s24, s25, s26, s27, s28, s29, .un, .un, .un, .un, .un, .un] ∧ okS (some s23) = true) ⟨s23, by rw [List.take_zero]; rfl, k23⟩ ?_ ?_
  · rintro k d e hd ⟨s23, rfl, q23⟩
    obtain ⟨p, hp, rfl⟩ := map_get hd
    have l1 := li p
    have ht : flat2 (M.take (k + 1)) = flat2 (M.take k) ++ [p.1, p.2] := by rw [List.take_add_one, hp]; unfold flat2; rw [List.flatMap_append]; rfl
    have hl : (flat2 (M.take k)).length ≤ 1000 := by rw [flat2_len, List.length_take]; omega
    have ad : addD (.lst (nD (flat2 (M.take k)))) (.lst [.int (p.1 : Int), .int (p.2 : Int)]) = some (true, .lst (nD (flat2 (M.take (k + 1))))) := by
      rw [ev_addL (by rw [nD_len]; simp; omega), ht]; unfold nD; rw [List.map_append]; rfl
    generalize prD p = PP at *
    generalize nD (flat2 (M.take (k + 1))) = NX at *
    generalize nD (flat2 (M.take k)) = NO at *
    simp [-List.map_cons, -List.map_append, -List.map_map, -List.append_assoc, -List.map_take, -List.map_drop, q23, l1, ad]
  · rintro e ⟨s23, rfl, q23⟩
    rw [List.length_map, List.take_length]
    generalize nD (flat2 M) = UL at *
    generalize ((srtSet (nI (flat2 M))).length : Int) = A at *
    generalize ((flat2 M).length : Int) = B at *
    rcases q11 with rfl | rfl <;>
    · simp [-List.map_cons, -List.map_append, -List.map_map, -List.append_assoc, -List.map_take, -List.map_drop, it, q23]
      refine sat_compM (fun p => some (.bl ((CP R).contains p))) ?_ (by omega) ?_
      · intro p _
        have i1 := hin p
        generalize prD p = PP at *
        generalize (CP R).contains p = BB at *
        simp [-List.map_cons, -List.map_append, -List.map_map, -List.append_assoc, -List.map_take, -List.map_drop, i1]
      · rw [fm_map]
        generalize (M.map fun p => D.bl ((CP R).contains p)) = Q at *
        cases hb : clsB R M with
        | false =>
          rw [hb] at ab tk
          rw [Bool.false_and, if_neg (by decide)] at tk
          simp [-List.map_cons, -List.map_append, -List.map_map, -List.append_assoc, -List.map_take, -List.map_drop, ab, k24, tk, same_p]
          exact ⟨_, _, _, ⟨rfl, rfl, rfl⟩, rfl, okB _, rfl⟩
        | true =>
          rw [hb] at ab tk
          cases hub : usedB M with
          | false =>
            rw [hub] at tk hu
            rw [Bool.true_and, if_neg (by decide)] at tk
            simp [-List.map_cons, -List.map_append, -List.map_map, -List.append_assoc, -List.map_take, -List.map_drop, ab, hs, hln, hu, k24, tk, same_p]
            exact ⟨_, _, _, ⟨rfl, rfl, rfl⟩, rfl, okB _, rfl⟩
          | true =>
            rw [hub] at tk hu
            rw [Bool.true_and, if_pos rfl] at tk
            simp [-List.map_cons, -List.map_append, -List.map_map, -List.append_assoc, -List.map_take, -List.map_drop, ab, hs, hln, hu, k24, tk, same_t]
            exact ⟨_, _, _, ⟨rfl, rfl, rfl⟩, rfl, okB _, rfl⟩
theorem t7_ok {R : List (List Tv)} {m : Nat} (h : RpOk R m) {K : Str} (hrep : reprD [rpD R] = some (false, .str K)) {h0 : D} {nums : List Int} (hn : nums ≠ []) (hl : nums.length < 1073741824) {j J : Nat} (hj : j < 800000) (hJ : j + 1 ≤ J) {f : List Int} (hf : FtOk m f) {s2 s7 s9 s10 s12 s14 s15 s16 s17 s18 s19 s21 s22 s23 s24 s25 s26 s27 s28 s29 : DL.Slot} (k2 : okS (some s2) = true) (k7 : okS (some s7) = true) (k9 : okS (some s9) = true) (k10 : okS (some s10) = true) (k12 : okS (some s12) = true) (k14 : okS (some s14) = true) (k15 : okS (some s15) = true) (k16 : okS (some s16) = true) (k17 : okS (some s17) = true) (k18 : okS (some s18) = true) (k19 : okS (some s19) = true) (k21 : okS (some s21) = true) (k22 : okS (some s22) = true) (k23 : okS (some s23) = true) (k24 : okS (some s24) = true) (k25 : okS (some s25) = true) (k26 : okS (some s26) = true) (k27 : okS (some s27) = true) (k28 : okS (some s28) = true) (k29 : okS (some s29) = true) {s11 : DL.Slot} (q11 : s11 = .ow (.lst ((CP R).map prD)) ∨ s11 = .sh (.lst ((CP R).map prD))) :
    Sat (T7 [.sh h0, .ow (St nums (j)), s2, .sh (rpD R), .sh (.str K), .sh (.int (R.length : Int)), .sh (.int (m : Int)), s7, .sh (.lst ((AF m).map rI)), s9, s10, s11, s12, .sh (psD (bestR (CP R))), s14, s15, s16, s17, s18, s19, .sh (rI f), s21, s22, s23, s24, s25, s26, s27, s28, s29, .un, .un, .un, .un, .un, .un]) fun r => r.1 = .nx ∧ Post h0 nums J r.2 := by
  have t8 := @t8_ok R m h K hrep h0 nums hn hl j J hj hJ f hf
  have b3 := best3 h
  have c15 := CP15 h.n6
  have hps := @paper_ok R m h
  have hfin : ∀ (ds : List D), (∀ d ∈ ds, Pp d) → ∀ {s11 : DL.Slot} (q11 : s11 = .ow (.lst ((CP R).map prD)) ∨ s11 = .sh (.lst ((CP R).map prD))), Sat ((forL (gN 21) PB ds [.sh h0, .ow (St nums (j)), s2, .sh (rpD R), .sh (.str K), .sh (.int (R.length : Int)), .sh (.int (m : Int)), s7, .sh (.lst ((AF m).map rI)), s9, s10, s11, s12, .sh (psD (bestR (CP R))), s14, s15, s16, s17, s18, s19, .sh (rI f), s21, s22, s23, s24, s25, s26, s27, s28, s29, .un, .un, .un, .un, .un, .un]).bind (kSeq T8)) fun r => r.1 = .nx ∧ Post h0 nums J r.2 := by
    intro ds hds s11 q11
    have k11 : okS (some s11) = true := by rcases q11 with rfl | rfl <;> rfl
    refine sat_forN (P := fun k e => ∃ s21 s22 s23 s24 : DL.Slot, e = [.sh h0, .ow (St nums (j)), s2, .sh (rpD R), .sh (.str K), .sh (.int (R.length : Int)), .sh (.int (m : Int)), s7, .sh (.lst ((AF m).map rI)), s9, s10, s11, s12, .sh (psD (bestR (CP R))), s14, s15, s16, s17, s18, s19, .sh (rI f), s21, s22, s23, s24, s25, s26, s27, s28, s29, .un, .un, .un, .un, .un, .un] ∧ okS (some s21) = true ∧ okS (some s22) = true ∧ okS (some s23) = true ∧ okS (some s24) = true) ⟨s21, s22, s23, s24, rfl, k21, k22, k23, k24⟩ ?_ ?_
    · rintro k d e hd ⟨s21, s22, s23, s24, rfl, q21, q22, q23, q24⟩
      have hP := hds d (List.mem_of_getElem? hd)
      obtain ⟨r, r1, r2, z22, z23, z24, r3, g22, g23, g24⟩ := hps hP (h0 := h0) (stt := St nums j) k2 (s4 := .sh (.str K)) rfl (s5 := .sh (.int (R.length : Int))) rfl (s6 := .sh (.int (m : Int))) rfl k7 (s8 := .sh (.lst ((AF m).map rI))) rfl k9 k10 k12 (s13 := .sh (psD (bestR (CP R)))) rfl k14 k15 k16 k17 k18 k19 (s20 := .sh (rI f)) rfl q22 q23 q24 k25 k26 k27 k28 k29 q11
      obtain ⟨fl, en⟩ := r
      simp only at r2 r3
      subst r2 r3
      simp [-List.map_cons, -List.map_append, -List.map_map, -List.append_assoc, -List.map_take, -List.map_drop, q21, r1]
      exact ⟨_, _, _, _, ⟨rfl, rfl, rfl, rfl⟩, rfl, g22, g23, g24⟩
    · rintro e ⟨s21, s22, s23, s24, rfl, q21, q22, q23, q24⟩
      simp
      exact t8 k2 k7 k9 k10 k11 k12 (by rfl) k14 k15 k16 k17 k18 k19 q21 q22 q23 q24 k25 k26 k27 k28 k29
  have epb : PB = (sSeq (sAsg 22 (cLst aNil)) (sSeq (sFor (gN 23) (iSeq (cVar 21)) (sAsg 22 (c2 addD (oVar 22) (oVal (cN listD (aCons (oVar 23) aNil)))))) (sSeq (sAsg 24 (cAnd (cN allD (aCons (oVal (cComp [23] (gN 23) tYesC (c2 (inD false) (oVar 23) (oVar 11)) (iSeq (cVar 21)))) aNil)) (c2 (eqD false) (oVal (cF lenSetD (cVar 22))) (oVal (cN lenD (aCons (oVar 22) aNil)))))) (sIf (tNot' (tTru (oVal (cCall none F__law_same (aCons (oVal (cCall none F__law_told (aCons (oVal (cC (.int 10))) (aCons (oVal (cVar 3)) (aCons (oVal (cVar 21)) aNil))))) (aCons (oVal (c2 ixD (oVal (cLst (aCons (oVal (cC (.str "paper"))) (aCons (oVal (cTup (aCons (oVal (cC (.str "told"))) (aCons (oVal (cC (.bl true))) aNil)))) aNil)))) (oVal (cN intD (aCons (oVar 24) aNil))))) aNil)))))) (sRet (cC (.bl false))) sNil)))) := rfl
  have p0 : ∀ M : List Pr, M.length ≤ 20 → Pp (psD M) := fun M hM => ⟨M, rfl, hM⟩
  have u0 := p0 (bestR (CP R)) (by omega)
  have u1 := p0 ((bestR (CP R)).drop 1) (by rw [List.length_drop]; omega)
  have u2 := p0 (bestR (CP R)).reverse (by rw [List.length_reverse]; omega)
  have u3 : Pp (.tup []) := p0 [] (by simp)
  have u4 := p0 (bestR (CP R) ++ (bestR (CP R)).take 1) (by rw [List.length_append, List.length_take]; omega)
  have u5 : Pp (.tup [.tup [.int 0, .int 1]]) := p0 [(0, 1)] (by simp)
  have u6 : Pp (.tup [.tup [.int 1, .int 0]]) := p0 [(1, 0)] (by simp)
  have u7 : Pp (.tup [.tup [.int 0, .int (R.length : Int)]]) := p0 [(0, R.length)] (by simp)
  have u8 := p0 ((CP R).take 2) (by rw [List.length_take]; omega)
  have u9 := p0 (CP R) (by omega)
  have s1 : sliceD (psD (bestR (CP R))) (some 1) none = some (false, psD ((bestR (CP R)).drop 1)) := by
    unfold psD
    rw [ev_slT, cut_lo _ (by decide), List.map_drop]; rfl
  have s2 : revBD (psD (bestR (CP R))) = some (false, psD (bestR (CP R)).reverse) := by
    unfold psD
    rw [List.map_reverse]; rfl
  have s3 : sliceD (psD (bestR (CP R))) none (some 1) = some (false, psD ((bestR (CP R)).take 1)) := by
    unfold psD
    rw [ev_slT, cut_hi _ (by decide), List.map_take]; rfl
  have s4 : addD (psD (bestR (CP R))) (psD ((bestR (CP R)).take 1)) = some (false, psD (bestR (CP R) ++ (bestR (CP R)).take 1)) := by
    unfold psD
    rw [ev_addT (by rw [List.length_map, List.length_map, List.length_take]; omega), List.map_append]
  have s5 : sliceD (.lst ((CP R).map prD)) none (some 2) = some (true, .lst (((CP R).take 2).map prD)) := by
    rw [ev_slL, cut_hi _ (by decide), List.map_take]; rfl
  have s6 : tupleD [.lst (((CP R).take 2).map prD)] = some (false, psD ((CP R).take 2)) := rfl
  have s7 : tupleD [.lst ((CP R).map prD)] = some (false, psD (CP R)) := rfl
  unfold T7
  rw [← epb]
  generalize D.lst (((CP R).take 2).map prD) = CT at *
  generalize D.lst ((CP R).map prD) = CL at *
  generalize psD ((CP R).take 2) = Z8 at *
  generalize psD (CP R) = Z9 at *
  generalize psD (bestR (CP R) ++ (bestR (CP R)).take 1) = Z4 at *
  generalize psD ((bestR (CP R)).take 1) = Z3 at *
  generalize psD (bestR (CP R)).reverse = Z2 at *
  generalize psD ((bestR (CP R)).drop 1) = Z1 at *
  generalize psD (bestR (CP R)) = Z0 at *
  generalize rpD R = RD at *
  generalize rI f = F0 at *
  rcases q11 with rfl | rfl <;>
  · simp [-List.map_cons, -List.map_append, -List.map_map, -List.append_assoc, -List.map_take, -List.map_drop, s1, s2, s3, s4, s5, s6, s7]
    refine hfin _ ?_ (by first | exact .inl rfl | exact .inr rfl)
    intro d hd
    simp only [List.mem_cons, List.not_mem_nil, or_false] at hd
    rcases hd with rfl | rfl | rfl | rfl | rfl | rfl | rfl | rfl | rfl | rfl
    all_goals assumption
end Lw

set_option Elab.async false
set_option linter.all false
set_option maxRecDepth 100000
set_option autoImplicit false
set_option maxHeartbeats 4000000
namespace Lw
open PySem L2 DL
theorem wI {x : Int} (h : -1000 ≤ x ∧ x ≤ 1000) : wR (.int x) = 1 := by rw [wR, if_pos (by omega)]
theorem wR_ints {l : List Int} {m : Nat} (hl : l.length ≤ m) (h : ∀ x ∈ l, -1000 ≤ x ∧ x ≤ 1000) : wR (.tup (l.map D.int)) ≤ m + 1 ∧ dR (.tup (l.map D.int)) ≤ 1 := by
  have := wRL_le (l := l.map D.int) (c := 1) (e := 0) (by
    intro d hd
    obtain ⟨x, hx, rfl⟩ := List.mem_map.mp hd
    exact ⟨by rw [wI (h x hx)]; omega, by simp [dR]⟩)
  rw [List.length_map] at this
  rw [wR, dR]
  omega
theorem wR_nD {l : List Nat} {m : Nat} (hl : l.length ≤ m) (h : ∀ x ∈ l, x ≤ 1000) : wR (.tup (nD l)) ≤ m + 1 ∧ dR (.tup (nD l)) ≤ 1 := by
  rw [nD_I]
  refine wR_ints (by rw [List.length_map]; exact hl) fun x hx => ?_
  obtain ⟨k, hk, rfl⟩ := List.mem_map.mp hx
  have := h k hk
  omega
theorem KL_w {R : List (List Tv)} (h6 : R.length ≤ 6) (P : Nat → Bool) : wR (.tup (nD ((List.range R.length).filter P))) ≤ 7 ∧ dR (.tup (nD ((List.range R.length).filter P))) ≤ 1 :=
  wR_nD (m := 6) (Nat.le_trans (List.length_filter_le _ _) (by rw [List.length_range]; exact h6)) fun x hx => by have := List.mem_range.mp (List.mem_filter.mp hx).1; omega
theorem rw_w {r : List Tv} (h4 : r.length ≤ 4) (h : ∀ t ∈ r, TvOk t) : wR (rwD r) ≤ 5 ∧ dR (rwD r) ≤ 1 := by
  have := wRL_le (l := r.map tvD) (c := 1) (e := 0) (by
    intro d hd
    obtain ⟨t, ht, rfl⟩ := List.mem_map.mp hd
    have := wTv (h t ht)
    omega)
  rw [List.length_map] at this
  unfold rwD
  rw [wR, dR]
  omega
theorem FL_w {L : List (List Int)} {m : Nat} (m4 : m ≤ 4) (h : L.length ≤ 16) (hm : ∀ f ∈ L, FtOk m f) : wR (.lst (L.map rI)) ≤ 81 ∧ dR (.lst (L.map rI)) ≤ 2 := by
  have := wRL_le (l := L.map rI) (c := 5) (e := 1) (by
    intro d hd
    obtain ⟨f, hf, rfl⟩ := List.mem_map.mp hd
    have h2 := hm f hf
    exact wR_ints (m := 4) (by rw [h2.1]; exact m4) fun x hx => by rcases h2.2 x hx with e | e <;> omega)
  rw [List.length_map] at this
  rw [wR, dR]
  omega
theorem t6_ok {R : List (List Tv)} {m : Nat} (h : RpOk R m) {K : Str} (hrep : reprD [rpD R] = some (false, .str K)) {h0 : D} {nums : List Int} (hn : nums ≠ []) (hl : nums.length < 1073741824) {j J : Nat} (hj : j < 700000) (hJ : j + 2 ≤ J) {s2 s7 s9 s10 s12 s14 s15 s16 s17 s18 s19 s20 s21 s22 s23 s24 s25 s26 s27 s28 s29 : DL.Slot} (k2 : okS (some s2) = true) (k7 : okS (some s7) = true) (k9 : okS (some s9) = true) (k10 : okS (some s10) = true) (k12 : okS (some s12) = true) (k14 : okS (some s14) = true) (k15 : okS (some s15) = true) (k16 : okS (some s16) = true) (k17 : okS (some s17) = true) (k18 : okS (some s18) = true) (k19 : okS (some s19) = true) (k20 : okS (some s20) = true) (k21 : okS (some s21) = true) (k22 : okS (some s22) = true) (k23 : okS (some s23) = true) (k24 : okS (some s24) = true) (k25 : okS (some s25) = true) (k26 : okS (some s26) = true) (k27 : okS (some s27) = true) (k28 : okS (some s28) = true) (k29 : okS (some s29) = true) {s11 : DL.Slot} (q11 : s11 = .ow (.lst ((CP R).map prD)) ∨ s11 = .sh (.lst ((CP R).map prD))) :
    Sat (T6 [.sh h0, .ow (St nums (j)), s2, .sh (rpD R), .sh (.str K), .sh (.int (R.length : Int)), .sh (.int (m : Int)), s7, .sh (.lst ((AF m).map rI)), s9, s10, s11, s12, .sh (psD (bestR (CP R))), s14, s15, s16, s17, s18, s19, s20, s21, s22, s23, s24, s25, s26, s27, s28, s29, .un, .un, .un, .un, .un, .un]) fun r => r.1 = .nx ∧ Post h0 nums J r.2 := by
  have n6 := h.n6
  have hpos : 0 < (AF m).length := List.length_pos_iff.mpr (AF_ne m)
  obtain ⟨q, e1, hq⟩ := nx_nat nums (j + 1) (m := (AF m).length) hpos
  have n1 := next_ok hn hl (i := j) (by omega) (m := ((AF m).length : Int)) (by omega)
  rw [e1] at n1
  have hat : atI ((AF m).map rI) (q : Int) = some (rI (AF m)[q]) := at_map (List.getElem?_eq_getElem hq)
  have hf : FtOk m (AF m)[q] := (AF_mem m _).mp (List.getElem_mem hq)
  have hll := lst_len (AF m) rI
  generalize (AF m)[q] = f at *
  have t7 := @t7_ok R m h K hrep h0 nums hn hl (j + 1) J (by omega) (by omega) f hf
  have tk := told_9 (liars_for_ok h hf)
  have lw : F__law_wrong [rpD R, rI f] = .ok ((false, klD R f), none) := law_wrong_ok h hf.1
  have hw : wR (klD R f) ≤ 7 ∧ dR (klD R f) ≤ 1 := KL_w n6 _
  have sm : F__law_same [.tup [.str "told", klD R f], .tup [.str "told", klD R f]] = _ := same_ok (by rw [wR_told]; omega) (by rw [dR_told]; omega)
  unfold T6
  generalize klD R f = KF at *
  generalize rpD R = RD at *
  generalize rI f = F0 at *
  generalize (AF m).map rI = AD at *
  generalize ((AF m).length : Int) = AL at *
  simp [-List.map_cons, -List.map_append, -List.map_map, -List.append_assoc, -List.map_take, -List.map_drop, hll, n1, hat, k20, tk, lw, sm]
  exact t7 k2 k7 k9 k10 k12 k14 k15 k16 k17 k18 k19 k21 k22 k23 k24 k25 k26 k27 k28 k29 q11
theorem sureT_ok {L : List (List Int)} {m : Nat} (hm : ∀ f ∈ L, FtOk m f) (hL : L ≠ []) : (sureT L m).length = m ∧ ∀ t ∈ sureT L m, TvOk t := by
  have h0 := hm _ (hd0_mem hL)
  refine ⟨by unfold sureT; rw [List.length_map, List.length_range], fun t ht => ?_⟩
  obtain ⟨k, hk, rfl⟩ := List.mem_map.mp ht
  have hk := List.mem_range.mp hk
  split
  · have : at0I (hd0 L) k ∈ hd0 L := by
      unfold at0I
      rw [List.getElem?_eq_getElem (by rw [h0.1]; exact hk)]
      exact List.getElem_mem _
    rcases h0.2 _ this with e | e
    · rw [e]; exact .inr (.inl rfl)
    · rw [e]; exact .inr (.inr rfl)
  · exact .inl rfl
theorem wL4 (a b c d : D) : wR (.lst [a, b, c, d]) = wR a + wR b + wR c + wR d + 1 := by simp only [wR, wRL]; omega
theorem dL4 (a b c d : D) : dR (.lst [a, b, c, d]) = max (dR a) (max (dR b) (max (dR c) (dR d))) + 1 := by simp only [dR, dRL]; omega
theorem bb (s : DL.Slot) : backS (some (backS (some s))) = backS (some s) := by cases s <;> rfl
def m3 : List D := [.str (Str.ofString "missing"), .str (Str.ofString "missing"), .str (Str.ofString "missing")]
theorem mul3 : mulD (.lst [.str (Str.ofString "missing")]) (.int 3) = some (true, .lst [.str (Str.ofString "missing"), .str (Str.ofString "missing"), .str (Str.ofString "missing")]) := by kernel_rfl
theorem w_mi : wR (.str (Str.ofString "missing")) ≤ 20 ∧ dR (.str (Str.ofString "missing")) ≤ 0 := by
  have : PyData.strOk (Str.ofString "missing") = true := by kernel_rfl
  constructor
  · rw [wR, if_pos this]; decide
  · simp [dR]
theorem w_bl (b : Bool) : wR (.bl b) = 1 ∧ dR (.bl b) = 0 := by simp [wR, dR]
theorem len_nil : lenD [.lst ([] : List D)] = some (false, .int 0) := rfl
theorem set_at {L : List (List Int)} (hL : L ≠ []) (h16 : L.length ≤ 16) (j : Nat) : lenSetD (.lst (L.map fun f => D.int (at0I f j))) = some (false, .int ((srtSet (L.map fun f => at0I f j)).length : Int)) ∧ (((srtSet (L.map fun f => at0I f j)).length : Int) == 1) = sureB L j := by
  refine ⟨?_, set1 L (fun f => at0I f j) (hd0 L) (hd0_mem hL)⟩
  have e : (L.map fun f => D.int (at0I f j)) = (L.map fun f => at0I f j).map D.int := by rw [List.map_map]; rfl
  unfold lenSetD
  simp only
  rw [e, intsD_map]
  simp only
  rw [if_pos (decide_eq_true (by rw [List.length_map]; omega))]
theorem t5_ok {R : List (List Tv)} {m : Nat} (h : RpOk R m) {K : Str} (hrep : reprD [rpD R] = some (false, .str K)) {h0 : D} {nums : List Int} (hn : nums ≠ []) (hl : nums.length < 1073741824) {j J : Nat} (hj : j < 700000) (hJ : j + 2 ≤ J) {most : Int} (hm : 0 ≤ most) {s2 s10 s12 s14 s15 s16 s17 s18 s19 s20 s21 s22 s23 s24 s25 s26 s27 s28 s29 : DL.Slot} (k2 : okS (some s2) = true) (k10 : okS (some s10) = true) (k12 : okS (some s12) = true) (k14 : okS (some s14) = true) (k15 : okS (some s15) = true) (k16 : okS (some s16) = true) (k17 : okS (some s17) = true) (k18 : okS (some s18) = true) (k19 : okS (some s19) = true) (k20 : okS (some s20) = true) (k21 : okS (some s21) = true) (k22 : okS (some s22) = true) (k23 : okS (some s23) = true) (k24 : okS (some s24) = true) (k25 : okS (some s25) = true) (k26 : okS (some s26) = true) (k27 : okS (some s27) = true) (k28 : okS (some s28) = true) (k29 : okS (some s29) = true) {s11 : DL.Slot} (q11 : s11 = .ow (.lst ((CP R).map prD)) ∨ s11 = .sh (.lst ((CP R).map prD))) :
    Sat (T5 [.sh h0, .ow (St nums (j)), s2, .sh (rpD R), .sh (.str K), .sh (.int (R.length : Int)), .sh (.int (m : Int)), .sh (.int most), .sh (.lst ((AF m).map rI)), .ow (.lst ((FL R m most).map rI)), s10, s11, s12, .sh (psD (bestR (CP R))), s14, s15, s16, s17, s18, s19, s20, s21, s22, s23, s24, s25, s26, s27, s28, s29, .un, .un, .un, .un, .un, .un]) fun r => r.1 = .nx ∧ Post h0 nums J r.2 := by
  have n6 := h.n6
  have n1 := h.n1
  have m4 := h.m4
  have t6 := @t6_ok R m h K hrep h0 nums hn hl j J hj hJ
  have fl := facts_left_ok h hm
  have b5 := told_5 fl
  have sf := sure_facts_ok h hm
  have su := surely_free_ok h hm
  have is := is_safe_ok h hm
  have hfm : ∀ f ∈ FL R m most, FtOk m f := fun f hf => (FL_mem.mp hf).1
  have h16 : (FL R m most).length ≤ 16 := Nat.le_trans (List.length_filter_le _ _) (AF64 m4)
  have hw := FL_w m4 h16 hfm
  have rn := rngn (n := R.length) (by omega)
  have rm := rngn (n := m) (by omega)
  have tt : ∀ l : List D, tupleD [.lst l] = some (false, .tup l) := fun _ => rfl
  have lw : ∀ f, FtOk m f → F__law_wrong [rpD R, rI f] = .ok ((false, klD R f), none) := fun f hf => law_wrong_ok h hf.1
  have hin : ∀ (f : List Int) (k : Nat), inD false (.int (k : Int)) (klD R f) = .some (false, .bl (KC R f k)) := fun f k => inD_nD _ k
  have k11 : okS (some s11) = true := by rcases q11 with rfl | rfl <;> rfl
  have hll := lst_len (FL R m most) rI
  have wm := w_mi
  generalize FL R m most = L at *
  by_cases hL : L = []
  · subst hL
    rw [if_pos (by rfl)] at sf su is
    have b6 := told_6x sf errs_mi
    have b7 := told_7x su errs_mi
    have b8 := told_8x is errs_mi
    rw [List.map_nil] at b5 hw hll
    have sm : F__law_same [.lst [.tup [.str "told", .lst []], .str (Str.ofString "missing"), .str (Str.ofString "missing"), .str (Str.ofString "missing")], .lst [.tup [.str "told", .lst []], .str (Str.ofString "missing"), .str (Str.ofString "missing"), .str (Str.ofString "missing")]] = _ := same_ok (by rw [wL4, wR_told]; omega) (by rw [dL4, dR_told]; omega)
    have hl2 : (([] : List (List Int)).length : Int) = 0 := rfl
    rw [hl2] at hll
    unfold T5
    rw [List.map_nil]
    generalize rpD R = RD at *
    simp [-List.map_cons, -List.map_append, -List.map_map, -List.append_assoc, -List.map_take, -List.map_drop, k17, mul3, hll, ev_addL, compL_step, compL_nil, kCd_some, okT0, okT1, okT2, okT3, b5, b6, b7, b8, sm]
    exact t6 k2 (by rfl) (by rfl) k10 k12 k14 k15 k16 (by rfl) k18 k19 k20 k21 k22 k23 k24 k25 k26 k27 k28 k29 q11
  · have hz : (L.length == 0) = false := by rw [beq_eq_false_iff_ne]; intro e; exact hL (List.eq_nil_of_length_eq_zero e)
    rw [hz, if_neg (by decide)] at sf su is
    have b6 := told_6 sf
    have b7 := told_7 su
    have b8 := told_8 is
    have hp1 : 0 < L.length := List.length_pos_iff.mpr hL
    have hp2 : decide ((0 : Int) < (L.length : Int)) = true := decide_eq_true (by omega)
    obtain ⟨st1, st2⟩ := sureT_ok hfm hL
    have w1 := rw_w (r := sureT L m) (by omega) st2
    have w2 : wR (.tup (nD (SF R L))) ≤ 7 ∧ dR (.tup (nD (SF R L))) ≤ 1 := KL_w n6 _
    have w3 := w_bl (!(sureT L m).any Option.isNone)
    have ni := non_in (sureT L m) true
    rw [Bool.true_xor] at ni
    have sm : F__law_same [.lst [.tup [.str "told", .lst (L.map rI)], .tup [.str "told", rwD (sureT L m)], .tup [.str "told", .tup (nD (SF R L))], .tup [.str "told", .bl (!(sureT L m).any Option.isNone)]], .lst [.tup [.str "told", .lst (L.map rI)], .tup [.str "told", rwD (sureT L m)], .tup [.str "told", .tup (nD (SF R L))], .tup [.str "told", .bl (!(sureT L m).any Option.isNone)]]] = _ := same_ok (by rw [wL4, wR_told, wR_told, wR_told, wR_told]; omega) (by rw [dL4, dR_told, dR_told, dR_told, dR_told]; omega)
    have e18 : rwD (sureT L m) = .tup ((List.range m).map fun j => if sureB L j then .int (at0I (hd0 L) j) else .non) := by
      unfold rwD sureT
      rw [List.map_map]
      refine congrArg D.tup (List.map_congr_left fun j _ => ?_)
      show tvD (if sureB L j then some (at0I (hd0 L) j) else none) = _
      split <;> rfl
    have e19 : (List.range R.length).filter (SFB R L) = SF R L := rfl
    have key : ∀ j, j < m → ∀ f ∈ L, ixD (rI f) (.int (j : Int)) = some (false, .int (at0I f j)) := fun j hj f hf => rI_at (by rw [(hfm f hf).1]; exact hj)
    have h0L := lst_at0 hL
    have hset := set_at hL h16
    have itl := it_lst (L.map rI)
    have ab := fun k => all_bl L fun f => KC R f k
    have hsb : ∀ k, L.all (fun f => KC R f k) = SFB R L k := fun _ => rfl
    have add1 : ∀ a b c d : D, addD (.lst [a]) (.lst [b, c, d]) = some (true, .lst [a, b, c, d]) := fun _ _ _ _ => by rw [ev_addL (by simp)]; rfl
    generalize (!(sureT L m).any Option.isNone) = SAFE at *
    unfold T5
    generalize hLD : D.lst (L.map rI) = LD at *
    generalize rpD R = RD at *
    simp [-List.map_cons, -List.map_append, -List.map_map, -List.append_assoc, -List.map_take, -List.map_drop, k17, mul3, hll, hp1, hp2, rm]
    refine sat_of_eq (eq_compF (fun j => some (if sureB L j then .int (at0I (hd0 L) j) else .non)) [.sh h0, .ow (St nums (j)), s2, .sh RD, .sh (.str K), .sh (.int (R.length : Int)), .sh (.int (m : Int)), .sh (.int most), .sh (.lst ((AF m).map rI)), .sh LD, s10, s11, s12, .sh (psD (bestR (CP R))), s14, s15, s16, .ow (.lst [.str (Str.ofString "missing"), .str (Str.ofString "missing"), .str (Str.ofString "missing")]), s18, s19, backS (some s20), s21, s22, s23, s24, s25, s26, s27, s28, s29, .un, .un, .un, .un, .un, .un] (range_ne h.m1) ?_ (by rw [List.length_range]; omega) rfl) ?_
    · intro i hi e he
      have hi := List.mem_range.mp hi
      have kj := key i hi
      have k0 := kj _ (hd0_mem hL)
      obtain ⟨ls1, ls2⟩ := hset i
      have inner : ∀ {s2 : DL.Slot} {s10 : DL.Slot} {s11 : DL.Slot} {s12 : DL.Slot} {s14 : DL.Slot} {s15 : DL.Slot} {s16 : DL.Slot} {s17 : DL.Slot} {s18 : DL.Slot} {s19 : DL.Slot} {s21 : DL.Slot} {s22 : DL.Slot} {s23 : DL.Slot} {s24 : DL.Slot} {s25 : DL.Slot} {s26 : DL.Slot} {s27 : DL.Slot} {s28 : DL.Slot} {s29 : DL.Slot}, compL [20] (gN 20) tYesC (c2 ixD (oVar 20) (oVar 33)) (L.map rI) [.sh h0, .ow (St nums (j)), s2, .sh RD, .sh (.str K), .sh (.int (R.length : Int)), .sh (.int (m : Int)), .sh (.int most), .sh (.lst ((AF m).map rI)), .sh LD, s10, s11, s12, .sh (psD (bestR (CP R))), s14, s15, s16, s17, s18, s19, .un, s21, s22, s23, s24, s25, s26, s27, s28, s29, .un, .un, .un, .sh (.int (i : Int)), .un, .un] [] = .ok (L.map fun f => .int (at0I f i), [.sh h0, .ow (St nums (j)), s2, .sh RD, .sh (.str K), .sh (.int (R.length : Int)), .sh (.int (m : Int)), .sh (.int most), .sh (.lst ((AF m).map rI)), .sh LD, s10, s11, s12, .sh (psD (bestR (CP R))), s14, s15, s16, s17, s18, s19, .un, s21, s22, s23, s24, s25, s26, s27, s28, s29, .un, .un, .un, .sh (.int (i : Int)), .un, .un]) := by
        intros
        rw [compL_M rI (fun f => some (.int (at0I f i))) L [] ?_ (by simp; omega), fm_map, List.nil_append]
        intro f hf
        have kf := kj f hf
        generalize rI f = RF at *
        simp [-List.map_cons, -List.map_append, -List.map_map, -List.append_assoc, -List.map_take, -List.map_drop, kf]
      generalize (srtSet (L.map fun f => at0I f i)).length = SL at *
      generalize (L.map fun f => D.int (at0I f i)) = QQ at *
      rcases he with rfl | rfl <;>
      · simp [-List.map_cons, -List.map_append, -List.map_map, -List.append_assoc, -List.map_take, -List.map_drop, iD, itl, k20, h0L, k0]
        rw [inner]
        cases hb : sureB L i <;> rw [hb] at ls2 <;> simp [-List.map_cons, -List.map_append, -List.map_map, -List.append_assoc, -List.map_take, -List.map_drop, ls1, ls2, bb]
    · rw [fm_map]
      generalize ((List.range m).map fun j => if sureB L j then D.int (at0I (hd0 L) j) else .non) = Q18 at *
      simp [-List.map_cons, -List.map_append, -List.map_map, -List.append_assoc, -List.map_take, -List.map_drop, tt, k18, rn]
      refine sat_compM (fun k => if SFB R L k then some (iD k) else none) ?_ (by rw [List.length_range]; omega) ?_
      · intro k hk
        have ak := ab k
        rw [hsb] at ak
        have inner2 : ∀ {s2 : DL.Slot} {s10 : DL.Slot} {s11 : DL.Slot} {s12 : DL.Slot} {s14 : DL.Slot} {s15 : DL.Slot} {s16 : DL.Slot} {s17 : DL.Slot} {s18 : DL.Slot} {s19 : DL.Slot} {s21 : DL.Slot} {s22 : DL.Slot} {s23 : DL.Slot} {s24 : DL.Slot} {s25 : DL.Slot} {s26 : DL.Slot} {s27 : DL.Slot} {s28 : DL.Slot} {s29 : DL.Slot}, compL [20] (gN 20) tYesC (c2 (inD false) (oVar 35) (oVal (cCall none F__law_wrong (aCons (oVal (cVar 3)) (aCons (oVal (cVar 20)) aNil))))) (L.map rI) [.sh h0, .ow (St nums (j)), s2, .sh RD, .sh (.str K), .sh (.int (R.length : Int)), .sh (.int (m : Int)), .sh (.int most), .sh (.lst ((AF m).map rI)), .sh LD, s10, s11, s12, .sh (psD (bestR (CP R))), s14, s15, s16, s17, s18, s19, .un, s21, s22, s23, s24, s25, s26, s27, s28, s29, .un, .un, .un, .un, .un, .sh (.int (k : Int))] [] = .ok (L.map fun f => .bl (KC R f k), [.sh h0, .ow (St nums (j)), s2, .sh RD, .sh (.str K), .sh (.int (R.length : Int)), .sh (.int (m : Int)), .sh (.int most), .sh (.lst ((AF m).map rI)), .sh LD, s10, s11, s12, .sh (psD (bestR (CP R))), s14, s15, s16, s17, s18, s19, .un, s21, s22, s23, s24, s25, s26, s27, s28, s29, .un, .un, .un, .un, .un, .sh (.int (k : Int))]) := by
          intros
          rw [compL_M rI (fun f => some (.bl (KC R f k))) L [] ?_ (by simp; omega), fm_map, List.nil_append]
          intro f hf
          have w1 := lw f (hfm f hf)
          have w2 := hin f k
          generalize klD R f = X at *
          generalize rI f = RF at *
          simp [-List.map_cons, -List.map_append, -List.map_map, -List.append_assoc, -List.map_take, -List.map_drop, w1, w2]
        generalize (L.map fun f => D.bl (KC R f k)) = QQ at *
        simp [-List.map_cons, -List.map_append, -List.map_map, -List.append_assoc, -List.map_take, -List.map_drop, iD, itl]
        rw [inner2]
        cases hb : SFB R L k <;> rw [hb] at ak <;> simp [-List.map_cons, -List.map_append, -List.map_map, -List.append_assoc, -List.map_take, -List.map_drop, ak, bb]
      · rw [fm_filter, e19]
        have e2 : (SF R L).map iD = nD (SF R L) := rfl
        rw [e2]
        rw [e18] at sm ni b6
        generalize nD (SF R L) = Q19 at *
        simp [-List.map_cons, -List.map_append, -List.map_map, -List.append_assoc, -List.map_take, -List.map_drop, tt, k19, ni, add1, compL_step, compL_nil, kCd_some, okT0, okT1, okT2, okT3, b5, b6, b7, b8, sm]
        exact t6 k2 (by rfl) (by rfl) k10 k12 k14 k15 k16 (by rfl) (by rfl) (by rfl) (okB _) k21 k22 k23 k24 k25 k26 k27 k28 k29 q11
end Lw

set_option Elab.async false
set_option linter.all false
set_option maxRecDepth 100000
set_option autoImplicit false
set_option maxHeartbeats 4000000
namespace Lw
open PySem L2 DL
theorem ps_w {M : List Pr} (h : M.length ≤ 20) (hM : ∀ p ∈ M, p.1 ≤ 1000 ∧ p.2 ≤ 1000) : wR (psD M) ≤ 61 ∧ dR (psD M) ≤ 2 := by
  have := wRL_le (l := M.map prD) (c := 3) (e := 1) (by
    intro d hd
    obtain ⟨p, hp, rfl⟩ := List.mem_map.mp hd
    have := hM p hp
    have a := wN (k := p.1) this.1
    have b := wN (k := p.2) this.2
    unfold prD
    constructor
    · rw [wR, wRL, wRL, wRL, a, b]; omega
    · simp [dR, dRL])
  rw [List.length_map] at this
  unfold psD
  rw [wR, dR]
  omega
theorem wL5 (a b c d e : D) : wR (.lst [a, b, c, d, e]) = wR a + wR b + wR c + wR d + wR e + 1 := by simp only [wR, wRL]; omega
theorem dL5 (a b c d e : D) : dR (.lst [a, b, c, d, e]) = max (dR a) (max (dR b) (max (dR c) (max (dR d) (dR e)))) + 1 := by simp only [dR, dRL]; omega
theorem rng5 : rngD1 [.int 5] = some [.int 0, .int 1, .int 2, .int 3, .int 4] := by kernel_rfl
theorem MF_rng {R : List (List Tv)} {m : Nat} (h6 : R.length ≤ 6) : 0 ≤ MF R m ∧ MF R m ≤ 6 := by
  have hne : (AF m).map (wrI R) ≠ [] := by simpa using AF_ne m
  obtain ⟨f, hf, e⟩ := List.mem_map.mp (minI_mem hne)
  have : (KL R f).length ≤ 6 := Nat.le_trans (List.length_filter_le _ _) (by rw [List.length_range]; exact h6)
  unfold MF
  rw [← e]
  unfold wrI
  omega
theorem mj_ok (a b : Nat) : TvOk (mj a b) := by
  unfold mj
  split
  · exact .inl rfl
  · split
    · exact .inr (.inr rfl)
    · exact .inr (.inl rfl)
theorem due_w {R : List (List Tv)} {m : Nat} (h : RpOk R m) : wR (.lst [.tup [.str "told", .non], .tup [.str "told", .int (MF R m)], .tup [.str "told", psD (CP R)], .tup [.str "told", psD (bestR (CP R))], .tup [.str "told", rwD (MJ R m)]]) ≤ 999 ∧ dR (.lst [.tup [.str "told", .non], .tup [.str "told", .int (MF R m)], .tup [.str "told", psD (CP R)], .tup [.str "told", psD (bestR (CP R))], .tup [.str "told", rwD (MJ R m)]]) ≤ 9 := by
  have n6 := h.n6
  have hc : ∀ p ∈ CP R, p.1 ≤ 1000 ∧ p.2 ≤ 1000 := fun p hp => by have := (CP_mem.mp hp).1; omega
  have w1 := ps_w (M := CP R) (by have := CP15 n6; omega) hc
  have w2 := ps_w (M := bestR (CP R)) (by have := best3 h; omega) fun p hp => hc p ((best_ok h).2.1 p hp)
  have w3 := rw_w (r := MJ R m) (by unfold MJ; rw [List.length_map, List.length_range]; exact h.m4) (by
    intro t ht
    obtain ⟨k, _, rfl⟩ := List.mem_map.mp ht
    exact mj_ok _ _)
  have w4 := MF_rng (m := m) n6
  have w5 : wR (.int (MF R m)) = 1 := wI (by omega)
  have w6 : wR D.non = 1 := by rw [wR]
  have d6 : dR D.non = 0 := by simp [dR]
  have d5 : dR (.int (MF R m)) = 0 := by simp [dR]
  constructor
  · rw [wL5, wR_told, wR_told, wR_told, wR_told, wR_told]; omega
  · rw [dL5, dR_told, dR_told, dR_told, dR_told, dR_told]; omega
theorem t4_ok {R : List (List Tv)} {m : Nat} (h : RpOk R m) {K : Str} (hrep : reprD [rpD R] = some (false, .str K)) {h0 : D} {nums : List Int} (hn : nums ≠ []) (hl : nums.length < 1073741824) {j J : Nat} (hj : j < 700000) (hJ : j + 2 ≤ J) {most : Int} (hm : 0 ≤ most) {s2 s12 s14 s15 s17 s18 s19 s20 s21 s22 s23 s24 s25 s26 s27 s28 s29 : DL.Slot} (k2 : okS (some s2) = true) (k12 : okS (some s12) = true) (k14 : okS (some s14) = true) (k15 : okS (some s15) = true) (k17 : okS (some s17) = true) (k18 : okS (some s18) = true) (k19 : okS (some s19) = true) (k20 : okS (some s20) = true) (k21 : okS (some s21) = true) (k22 : okS (some s22) = true) (k23 : okS (some s23) = true) (k24 : okS (some s24) = true) (k25 : okS (some s25) = true) (k26 : okS (some s26) = true) (k27 : okS (some s27) = true) (k28 : okS (some s28) = true) (k29 : okS (some s29) = true) {s11 : DL.Slot} (q11 : s11 = .ow (.lst ((CP R).map prD)) ∨ s11 = .sh (.lst ((CP R).map prD))) :
    Sat (T4 [.sh h0, .ow (St nums (j)), s2, .sh (rpD R), .sh (.str K), .sh (.int (R.length : Int)), .sh (.int (m : Int)), .sh (.int most), .sh (.lst ((AF m).map rI)), .ow (.lst ((FL R m most).map rI)), .sh (.int (MF R m)), s11, s12, .sh (psD (bestR (CP R))), s14, s15, .ow (.lst [.tup [.str "told", .non], .tup [.str "told", .int (MF R m)], .tup [.str "told", psD (CP R)], .tup [.str "told", psD (bestR (CP R))], .tup [.str "told", rwD (MJ R m)]]), s17, s18, s19, s20, s21, s22, s23, s24, s25, s26, s27, s28, s29, .un, .un, .un, .un, .un, .un]) fun r => r.1 = .nx ∧ Post h0 nums J r.2 := by
  have t5 := @t5_ok R m h K hrep h0 nums hn hl j J hj hJ most hm
  have a0 := told_0 (q := .int 0) (check_reports_ok h)
  have a1 := told_1 (q := .int 0) (fewest_free_ok h)
  have a2 := told_2 (q := .int 0) (clashes_ok h)
  have a3 := told_3 (q := .int 0) (apart_ok h)
  have a4 := told_4 (q := .int 0) (majority_ok h)
  have hw := due_w h
  have sm : F__law_same [.lst [.tup [.str "told", .non], .tup [.str "told", .int (MF R m)], .tup [.str "told", psD (CP R)], .tup [.str "told", psD (bestR (CP R))], .tup [.str "told", rwD (MJ R m)]], .lst [.tup [.str "told", .non], .tup [.str "told", .int (MF R m)], .tup [.str "told", psD (CP R)], .tup [.str "told", psD (bestR (CP R))], .tup [.str "told", rwD (MJ R m)]]] = _ := same_ok (by omega) (by omega)
  have hlen := ps_len (bestR (CP R))
  have hfar := far_le h
  have e1 : decide (MF R m < ((bestR (CP R)).length : Int)) = false := decide_eq_false (by omega)
  have e2 : ¬ MF R m < ((bestR (CP R)).length : Int) := by omega
  unfold T4
  generalize psD (CP R) = PC at *
  generalize psD (bestR (CP R)) = PB2 at *
  generalize rwD (MJ R m) = MJD at *
  generalize rpD R = RD at *
  simp [-List.map_cons, -List.map_append, -List.map_map, -List.append_assoc, -List.map_take, -List.map_drop, rng5, compL_step, compL_nil, kCd_some, okT0, okT1, okT2, okT3, okT4, a0, a1, a2, a3, a4, sm, hlen, e1, e2]
  exact t5 k2 (by rfl) k12 k14 k15 (by rfl) k17 k18 k19 k20 k21 k22 k23 k24 k25 k26 k27 k28 k29 q11
theorem t3_ok {R : List (List Tv)} {m : Nat} (h : RpOk R m) {K : Str} (hrep : reprD [rpD R] = some (false, .str K)) {h0 : D} {nums : List Int} (hn : nums ≠ []) (hl : nums.length < 1073741824) {j J : Nat} (hj : j < 700000) (hJ : j + 2 ≤ J) {most : Int} (hm : 0 ≤ most) {s2 s12 s13 s14 s15 s16 s17 s18 s19 s20 s21 s22 s23 s24 s25 s26 s27 s28 s29 : DL.Slot} (k2 : okS (some s2) = true) (k12 : okS (some s12) = true) (k13 : okS (some s13) = true) (k14 : okS (some s14) = true) (k15 : okS (some s15) = true) (k16 : okS (some s16) = true) (k17 : okS (some s17) = true) (k18 : okS (some s18) = true) (k19 : okS (some s19) = true) (k20 : okS (some s20) = true) (k21 : okS (some s21) = true) (k22 : okS (some s22) = true) (k23 : okS (some s23) = true) (k24 : okS (some s24) = true) (k25 : okS (some s25) = true) (k26 : okS (some s26) = true) (k27 : okS (some s27) = true) (k28 : okS (some s28) = true) (k29 : okS (some s29) = true) :
    Sat (T3 [.sh h0, .ow (St nums (j)), s2, .sh (rpD R), .sh (.str K), .sh (.int (R.length : Int)), .sh (.int (m : Int)), .sh (.int most), .sh (.lst ((AF m).map rI)), .ow (.lst ((FL R m most).map rI)), .sh (.int (MF R m)), .ow (.lst ((CP R).map prD)), s12, s13, s14, s15, s16, s17, s18, s19, s20, s21, s22, s23, s24, s25, s26, s27, s28, s29, .un, .un, .un, .un, .un, .un]) fun r => r.1 = .nx ∧ Post h0 nums J r.2 := by
  have n6 := h.n6
  have m4 := h.m4
  have t4 := @t4_ok R m h K hrep h0 nums hn hl j J hj hJ most hm
  have lg := largest_ok (CP_asc R) (LV4 n6) (CP15 n6) fun s hs => row_short n6 hs
  have rn := rngn (n := m) (by omega)
  have tt : ∀ l : List D, tupleD [.lst l] = some (false, .tup l) := fun _ => rfl
  have t7 : tupleD [.lst ((CP R).map prD)] = some (false, psD (CP R)) := rfl
  have hi : iterD (rpD R) = some (R.map rwD) := rfl
  have hrt : ∀ r ∈ R, ∀ i < m, ixD (rwD r) (.int (i : Int)) = some (false, tvD (tvAt r i)) := fun r hr i hj => by
    have := (h.rows r hr).1
    unfold rwD tvAt
    rw [ev_ixt, at_map (List.getElem?_eq_getElem (by omega)), List.getElem?_eq_getElem (by omega)]; rfl
  have g1 := fun i => count_ok h i (x := 1) (.inr rfl)
  have g0 := fun i => count_ok h i (x := 0) (.inl rfl)
  have hmj : ((List.range m).map fun i => tvD (mj (cn R i 1) (cn R i 0))) = (MJ R m).map tvD := by unfold MJ; rw [List.map_map]; rfl
  have hrw : D.tup ((MJ R m).map tvD) = rwD (MJ R m) := rfl
  unfold T3
  generalize psD (bestR (CP R)) = PB2 at *
  generalize psD (CP R) = PC at *
  generalize D.lst ((CP R).map prD) = CL at *
  generalize rpD R = RD at *
  simp [-List.map_cons, -List.map_append, -List.map_map, -List.append_assoc, -List.map_take, -List.map_drop, lg, k13, k14, rn]
  refine sat_compM (fun i => some (.lst (colD R i))) ?_ (by rw [List.length_range]; omega) ?_
  · intro i hi2
    have hi2 := List.mem_range.mp hi2
    have inner : ∀ {s2 : DL.Slot} {s3 : DL.Slot} {s4 : DL.Slot} {s5 : DL.Slot} {s6 : DL.Slot} {s7 : DL.Slot} {s8 : DL.Slot} {s9 : DL.Slot} {s10 : DL.Slot} {s11 : DL.Slot} {s12 : DL.Slot} {s13 : DL.Slot} {s14 : DL.Slot} {s15 : DL.Slot} {s16 : DL.Slot} {s17 : DL.Slot} {s18 : DL.Slot} {s19 : DL.Slot} {s20 : DL.Slot} {s21 : DL.Slot} {s22 : DL.Slot} {s23 : DL.Slot} {s24 : DL.Slot} {s25 : DL.Slot} {s26 : DL.Slot} {s27 : DL.Slot} {s28 : DL.Slot} {s29 : DL.Slot}, compL [34] (gN 34) tYesC (c2 ixD (oVar 34) (oVar 33)) (R.map rwD) [.sh h0, .ow (St nums (j)), s2, s3, s4, s5, s6, s7, s8, s9, s10, s11, s12, s13, s14, s15, s16, s17, s18, s19, s20, s21, s22, s23, s24, s25, s26, s27, s28, s29, .un, .un, .un, .sh (.int (i : Int)), .un, .un] [] = .ok (colD R i, [.sh h0, .ow (St nums (j)), s2, s3, s4, s5, s6, s7, s8, s9, s10, s11, s12, s13, s14, s15, s16, s17, s18, s19, s20, s21, s22, s23, s24, s25, s26, s27, s28, s29, .un, .un, .un, .sh (.int (i : Int)), .un, .un]) := by
      intros
      rw [compL_M rwD (fun r => some (tvD (tvAt r i))) R [] ?_ (by simp; omega), fm_map, List.nil_append]
      · rfl
      · intro r hr
        have := hrt r hr i hi2
        generalize rwD r = RR at *
        simp [-List.map_cons, -List.map_append, -List.map_map, -List.append_assoc, -List.map_take, -List.map_drop, this]
    simp [-List.map_cons, -List.map_append, -List.map_map, -List.append_assoc, -List.map_take, -List.map_drop, iD, hi, inner]
  · rw [fm_map]
    simp [-List.map_cons, -List.map_append, -List.map_map, -List.append_assoc, -List.map_take, -List.map_drop, k14, k15]
    refine sat_compM (fun i => some (tvD (mj (cn R i 1) (cn R i 0)))) ?_ (by rw [List.length_range]; omega) ?_
    · intro i _
      have c1' := g1 i
      have c0' := g0 i
      generalize colD R i = CD at *
      generalize cn R i 1 = a at *
      generalize cn R i 0 = b at *
      unfold mj
      by_cases hab : a = b
      · subst hab
        simp [-List.map_cons, -List.map_append, -List.map_map, -List.append_assoc, -List.map_take, -List.map_drop, c1', c0', tvD]
      · have e1 : ((a : Int) == (b : Int)) = false := by rw [beq_eq_false_iff_ne]; omega
        by_cases hlt : b < a
        · have e2 : decide ((b : Int) < (a : Int)) = true := decide_eq_true (by omega)
          simp [-List.map_cons, -List.map_append, -List.map_map, -List.append_assoc, -List.map_take, -List.map_drop, c1', c0', tvD, hab, e1, e2, hlt]
        · have e2 : decide ((b : Int) < (a : Int)) = false := decide_eq_false (by omega)
          simp [-List.map_cons, -List.map_append, -List.map_map, -List.append_assoc, -List.map_take, -List.map_drop, c1', c0', tvD, hab, e1, e2, hlt]
    · rw [fm_map, hmj]
      generalize ((List.range m).map fun i => D.lst (colD R i)) = VD at *
      generalize (MJ R m).map tvD = ML at *
      simp [-List.map_cons, -List.map_append, -List.map_map, -List.append_assoc, -List.map_take, -List.map_drop, tt, hrw, t7, k15, k16]
      exact t4 k2 k12 (by rfl) (by rfl) k17 k18 k19 k20 k21 k22 k23 k24 k25 k26 k27 k28 k29 (.inr rfl)
end Lw

set_option Elab.async false
set_option linter.all false
set_option maxRecDepth 100000
set_option autoImplicit false
set_option maxHeartbeats 4000000
namespace Lw
open PySem L2 DL
theorem non_in2 (t u : Tv) : inD true .non (.lst [tvD t, tvD u]) = some (false, .bl (!(t.isNone || u.isNone))) := by
  have e : inSeq true .non [tvD t, tvD u] = some (false, .bl (xor true ([t, u].any Option.isNone))) := non_in [t, u] true
  unfold inD
  simp only
  rw [e]
  cases t <;> cases u <;> rfl
theorem any_agr (r s : List Tv) : ((r.zip s).any fun p => !ag1 p) = !agr r s := by unfold agr; rw [List.not_all_eq_any_not]
theorem CPi_eq (R : List (List Tv)) (i : Nat) : (((List.range R.length).drop (i + 1)).filter fun x => clB R (i, x)).map (fun x => prD (i, x)) = (CPi R i).map prD := by
  unfold CPi PRi
  rw [List.filter_map, List.map_map]; rfl
theorem clB_iR (R : List (List Tv)) (i x : Nat) : clB R (i, x) = !agr (iR R i) (iR R x) := rfl
theorem t2_ok {R : List (List Tv)} {m : Nat} (h : RpOk R m) {K : Str} (hrep : reprD [rpD R] = some (false, .str K)) {h0 : D} {nums : List Int} (hn : nums ≠ []) (hl : nums.length < 1073741824) {j J : Nat} (hj : j < 700000) (hJ : j + 2 ≤ J) {most : Int} (hm : 0 ≤ most) {s2 s11 s12 s13 s14 s15 s16 s17 s18 s19 s20 s21 s22 s23 s24 s25 s26 s27 s28 s29 : DL.Slot} (k2 : okS (some s2) = true) (k11 : okS (some s11) = true) (k12 : okS (some s12) = true) (k13 : okS (some s13) = true) (k14 : okS (some s14) = true) (k15 : okS (some s15) = true) (k16 : okS (some s16) = true) (k17 : okS (some s17) = true) (k18 : okS (some s18) = true) (k19 : okS (some s19) = true) (k20 : okS (some s20) = true) (k21 : okS (some s21) = true) (k22 : okS (some s22) = true) (k23 : okS (some s23) = true) (k24 : okS (some s24) = true) (k25 : okS (some s25) = true) (k26 : okS (some s26) = true) (k27 : okS (some s27) = true) (k28 : okS (some s28) = true) (k29 : okS (some s29) = true) :
    Sat (T2 [.sh h0, .ow (St nums (j)), s2, .sh (rpD R), .sh (.str K), .sh (.int (R.length : Int)), .sh (.int (m : Int)), .sh (.int most), .sh (.lst ((AF m).map rI)), .ow (.lst ((FL R m most).map rI)), .sh (.int (MF R m)), s11, s12, s13, s14, s15, s16, s17, s18, s19, s20, s21, s22, s23, s24, s25, s26, s27, s28, s29, .un, .un, .un, .un, .un, .un]) fun r => r.1 = .nx ∧ Post h0 nums J r.2 := by
  have n1 := h.n1
  have n6 := h.n6
  have m4 := h.m4
  have t3 := @t3_ok R m h K hrep h0 nums hn hl j J hj hJ most hm
  have rn := rngn (n := R.length) (by omega)
  have hat : ∀ k < R.length, ixD (rpD R) (.int (k : Int)) = some (false, rwD (iR R k)) := fun k hk => rp_at hk
  have hrl : ∀ k < R.length, (iR R k).length = m := fun k hk => (rows_at h hk).1
  have hzz : ∀ r s : List Tv, zipD (rwD r) (rwD s) = some ((r.zip s).map fun p => .tup [tvD p.1, tvD p.2]) := fun r s => by
    show some (zipL (r.map tvD) (s.map tvD)) = _
    rw [zipL_map]
  unfold T2
  generalize rpD R = RD at *
  simp [-List.map_cons, -List.map_append, -List.map_map, -List.append_assoc, -List.map_take, -List.map_drop, k11, rn]
  refine sat_forN (P := fun k e => ∃ s12 : DL.Slot, e = [.sh h0, .ow (St nums (j)), s2, .sh RD, .sh (.str K), .sh (.int (R.length : Int)), .sh (.int (m : Int)), .sh (.int most), .sh (.lst ((AF m).map rI)), .ow (.lst ((FL R m most).map rI)), .sh (.int (MF R m)), .ow (.lst (((List.range k).flatMap (CPi R)).map prD)), s12, s13, s14, s15, s16, s17, s18, s19, s20, s21, s22, s23, s24, s25, s26, s27, s28, s29, .un, .un, .un, .un, .un, .un] ∧ okS (some s12) = true) ⟨s12, by simp, k12⟩ ?_ ?_
  · rintro i d e hd ⟨s12, rfl, q12⟩
    obtain ⟨hi, rfl⟩ := range_get hd
    have ai := hat i hi
    have li := hrl i hi
    have r2 : rngD2 [.int ((i : Int) + 1), .int (R.length : Int)] = some (nD ((List.range R.length).drop (i + 1))) := by rw [rngD2_ok (by omega) (by omega) (by omega) (by omega), rng_drop hi]
    have hlen : (((List.range i).flatMap (CPi R)).map prD).length ≤ 100 := by
      have := flat_len (f := CPi R) (M := 6) (l := List.range i) fun k _ => Nat.le_trans (List.length_filter_le _ _) (Nat.le_trans (PRi_len _ _) n6)
      rw [List.length_range] at this
      rw [List.length_map]
      omega
    have hlen2 : ((CPi R i).map prD).length ≤ 6 := by
      rw [List.length_map]
      exact Nat.le_trans (List.length_filter_le _ _) (Nat.le_trans (PRi_len _ _) n6)
    have hs : ((List.range (i + 1)).flatMap (CPi R)).map prD = ((List.range i).flatMap (CPi R)).map prD ++ (CPi R i).map prD := by
      rw [List.range_succ, List.flatMap_append, List.map_append]; simp [List.flatMap_cons]
    rw [hs]
    generalize ((List.range i).flatMap (CPi R)).map prD = LL at *
    have hcomp : compL [30] (gN 30) (tTru (oVal (cN anyD (aCons (oVal (cComp [31, 32] (gT (gsC (gN 31) (gsC (gN 32) gsN))) tYesC (cAnd (c2 (inD true) (oVal (cC .non)) (oVal (cLst (aCons (oVar 31) (aCons (oVar 32) aNil))))) (c2 (eqD true) (oVar 31) (oVar 32))) (iZip (c2 ixD (oVar 3) (oVar 12)) (c2 ixD (oVar 3) (oVar 30))))) aNil)))) (cTup (aCons (oVar 12) (aCons (oVar 30) aNil))) (nD ((List.range R.length).drop (i + 1))) [.sh h0, .ow (St nums (j)), s2, .sh RD, .sh (.str K), .sh (.int (R.length : Int)), .sh (.int (m : Int)), .sh (.int most), .sh (.lst ((AF m).map rI)), .ow (.lst ((FL R m most).map rI)), .sh (.int (MF R m)), .ow (.lst LL), .sh (.int (i : Int)), s13, s14, s15, s16, s17, s18, s19, s20, s21, s22, s23, s24, s25, s26, s27, s28, s29, .un, .un, .un, .un, .un, .un] [] = .ok ((CPi R i).map prD, [.sh h0, .ow (St nums (j)), s2, .sh RD, .sh (.str K), .sh (.int (R.length : Int)), .sh (.int (m : Int)), .sh (.int most), .sh (.lst ((AF m).map rI)), .ow (.lst ((FL R m most).map rI)), .sh (.int (MF R m)), .ow (.lst LL), .sh (.int (i : Int)), s13, s14, s15, s16, s17, s18, s19, s20, s21, s22, s23, s24, s25, s26, s27, s28, s29, .un, .un, .un, .un, .un, .un]) := by
      unfold nD
      rw [compL_M iD (fun x => if clB R (i, x) then some (prD (i, x)) else none) ((List.range R.length).drop (i + 1)) [] ?_ (by rw [List.length_drop, List.length_range]; simp; omega), fm_filter, List.nil_append, CPi_eq]
      intro x hx
      have hx : x < R.length := List.mem_range.mp (List.mem_of_mem_drop hx)
      have ax := hat x hx
      have hz := hzz (iR R i) (iR R x)
      have an := any_bl ((iR R i).zip (iR R x)) fun p => !ag1 p
      rw [any_agr, ← clB_iR] at an
      have hzl : ((iR R i).zip (iR R x)).length ≤ 100 := by rw [List.length_zip]; omega
      have inner : compL [31, 32] (gT (gsC (gN 31) (gsC (gN 32) gsN))) tYesC (cAnd (c2 (inD true) (oVal (cC .non)) (oVal (cLst (aCons (oVar 31) (aCons (oVar 32) aNil))))) (c2 (eqD true) (oVar 31) (oVar 32))) (((iR R i).zip (iR R x)).map fun p => .tup [tvD p.1, tvD p.2]) [.sh h0, .ow (St nums (j)), s2, .sh RD, .sh (.str K), .sh (.int (R.length : Int)), .sh (.int (m : Int)), .sh (.int most), .sh (.lst ((AF m).map rI)), .ow (.lst ((FL R m most).map rI)), .sh (.int (MF R m)), .ow (.lst LL), .sh (.int (i : Int)), s13, s14, s15, s16, s17, s18, s19, s20, s21, s22, s23, s24, s25, s26, s27, s28, s29, .sh (.int (x : Int)), .un, .un, .un, .un, .un] [] = .ok (((iR R i).zip (iR R x)).map fun p => .bl (!ag1 p), [.sh h0, .ow (St nums (j)), s2, .sh RD, .sh (.str K), .sh (.int (R.length : Int)), .sh (.int (m : Int)), .sh (.int most), .sh (.lst ((AF m).map rI)), .ow (.lst ((FL R m most).map rI)), .sh (.int (MF R m)), .ow (.lst LL), .sh (.int (i : Int)), s13, s14, s15, s16, s17, s18, s19, s20, s21, s22, s23, s24, s25, s26, s27, s28, s29, .sh (.int (x : Int)), .un, .un, .un, .un, .un]) := by
        rw [compL_M (fun p : Tv × Tv => D.tup [tvD p.1, tvD p.2]) (fun p => some (.bl (!ag1 p))) ((iR R i).zip (iR R x)) [] ?_ (by simp only [List.length_nil]; omega), fm_map, List.nil_append]
        rintro ⟨t, u⟩ _
        have n2 := non_in2 t u
        cases t with
        | none =>
          have g : ag1 (none, u) = true := rfl
          rw [g]
          rw [show (!((none : Tv).isNone || u.isNone)) = false from rfl] at n2
          generalize tvD u = U at *
          simp [-List.map_cons, -List.map_append, -List.map_map, -List.append_assoc, -List.map_take, -List.map_drop, n2, gT]
        | some a =>
          cases u with
          | none =>
            have g : ag1 (some a, none) = true := rfl
            rw [g]
            rw [show (!((some a : Tv).isNone || (none : Tv).isNone)) = false from rfl] at n2
            simp [-List.map_cons, -List.map_append, -List.map_map, -List.append_assoc, -List.map_take, -List.map_drop, n2, gT]
          | some b =>
            have g : ag1 (some a, some b) = (a == b) := rfl
            rw [g]
            rw [show (!((some a : Tv).isNone || (some b : Tv).isNone)) = true from rfl] at n2
            have n2 : inD true .non (.lst [.int a, .int b]) = some (false, .bl true) := n2
            cases hab : (a == b) <;> simp [-List.map_cons, -List.map_append, -List.map_map, -List.append_assoc, -List.map_take, -List.map_drop, n2, gT, tvD, hab]
      generalize (((iR R i).zip (iR R x)).map fun p => D.bl (!ag1 p)) = QQ at *
      generalize (((iR R i).zip (iR R x)).map fun p => D.tup [tvD p.1, tvD p.2]) = ZZ at *
      generalize rwD (iR R i) = RI at *
      generalize rwD (iR R x) = RX at *
      have hp : prD (i, x) = .tup [.int (i : Int), .int (x : Int)] := rfl
      cases hb : clB R (i, x) <;> rw [hb] at an <;> simp [-List.map_cons, -List.map_append, -List.map_map, -List.append_assoc, -List.map_take, -List.map_drop, iD, ai, ax, hz, inner, an, hp]
    have hx : extendD (.lst LL) (.lst ((CPi R i).map prD)) = some (.lst (LL ++ (CPi R i).map prD), .non) := by rw [ev_ext (by omega)]
    generalize (CPi R i).map prD = CI at *
    generalize nD ((List.range R.length).drop (i + 1)) = DI at *
    simp [-List.map_cons, -List.map_append, -List.map_map, -List.append_assoc, -List.map_take, -List.map_drop, q12, r2, hcomp, hx]
  · rintro e ⟨s12, rfl, q12⟩
    rw [nD_len, List.length_range]
    have hcp : (List.range R.length).flatMap (CPi R) = CP R := rfl
    rw [hcp]
    simp
    exact t3 k2 q12 k13 k14 k15 k16 k17 k18 k19 k20 k21 k22 k23 k24 k25 k26 k27 k28 k29
theorem t1_ok {R : List (List Tv)} {m : Nat} (h : RpOk R m) {K : Str} (hrep : reprD [rpD R] = some (false, .str K)) {h0 : D} {nums : List Int} (hn : nums ≠ []) (hl : nums.length < 1073741824) {j J : Nat} (hj : j < 700000) (hJ : j + 2 ≤ J) {most : Int} (hm : 0 ≤ most) {s2 s9 s10 s11 s12 s13 s14 s15 s16 s17 s18 s19 s20 s21 s22 s23 s24 s25 s26 s27 s28 s29 : DL.Slot} (k2 : okS (some s2) = true) (k9 : okS (some s9) = true) (k10 : okS (some s10) = true) (k11 : okS (some s11) = true) (k12 : okS (some s12) = true) (k13 : okS (some s13) = true) (k14 : okS (some s14) = true) (k15 : okS (some s15) = true) (k16 : okS (some s16) = true) (k17 : okS (some s17) = true) (k18 : okS (some s18) = true) (k19 : okS (some s19) = true) (k20 : okS (some s20) = true) (k21 : okS (some s21) = true) (k22 : okS (some s22) = true) (k23 : okS (some s23) = true) (k24 : okS (some s24) = true) (k25 : okS (some s25) = true) (k26 : okS (some s26) = true) (k27 : okS (some s27) = true) (k28 : okS (some s28) = true) (k29 : okS (some s29) = true) :
    Sat (T1 [.sh h0, .ow (St nums (j)), s2, .sh (rpD R), .sh (.str K), .sh (.int (R.length : Int)), .sh (.int (m : Int)), .sh (.int most), .sh (.lst ((AF m).map rI)), s9, s10, s11, s12, s13, s14, s15, s16, s17, s18, s19, s20, s21, s22, s23, s24, s25, s26, s27, s28, s29, .un, .un, .un, .un, .un, .un]) fun r => r.1 = .nx ∧ Post h0 nums J r.2 := by
  have m4 := h.m4
  have t2 := @t2_ok R m h K hrep h0 nums hn hl j J hj hJ most hm
  have lw := fun f (hf : f ∈ AF m) => law_wrong_ok h ((AF_mem m f).mp hf).1
  have hkl := KL_tlen R
  have h16 := AF64 m4
  have hfl : (AF m).filter (fun f => decide (wrI R f ≤ most)) = FL R m most := rfl
  have e : (AF m).map (fun f => D.int (wrI R f)) = ((AF m).map (wrI R)).map D.int := by rw [List.map_map]; rfl
  have mx := minX_ints (l := (AF m).map (wrI R)) (by simpa using AF_ne m)
  have hM : minI ((AF m).map (wrI R)) = MF R m := rfl
  rw [hM, ← e] at mx
  unfold T1
  generalize rpD R = RD at *
  simp [-List.map_cons, -List.map_append, -List.map_map, -List.append_assoc, -List.map_take, -List.map_drop, k9]
  refine sat_compM (fun f => if decide (wrI R f ≤ most) then some (rI f) else none) ?_ (by omega) ?_
  · intro g hg
    have w1 := lw g hg
    have w2 := hkl g
    generalize D.tup (nD (KL R g)) = T at *
    generalize wrI R g = W at *
    generalize rI g = RG at *
    by_cases hb : W ≤ most <;> simp [-List.map_cons, -List.map_append, -List.map_map, -List.append_assoc, -List.map_take, -List.map_drop, w1, w2, hb]
  · rw [fm_filter, hfl]
    generalize (FL R m most).map rI = FLD at *
    simp [-List.map_cons, -List.map_append, -List.map_map, -List.append_assoc, -List.map_take, -List.map_drop, k9, k10]
    refine sat_compM (fun f => some (.int (wrI R f))) ?_ (by omega) ?_
    · intro g hg
      have w1 := lw g hg
      have w2 := hkl g
      generalize D.tup (nD (KL R g)) = T at *
      generalize wrI R g = W at *
      generalize rI g = RG at *
      simp [-List.map_cons, -List.map_append, -List.map_map, -List.append_assoc, -List.map_take, -List.map_drop, w1, w2]
    · rw [fm_map]
      generalize (AF m).map (fun f => D.int (wrI R f)) = Q at *
      simp [-List.map_cons, -List.map_append, -List.map_map, -List.append_assoc, -List.map_take, -List.map_drop, k10, mx, bb]
      exact t2 k2 k11 k12 k13 k14 k15 k16 k17 k18 k19 (okB _) k21 k22 k23 k24 k25 k26 k27 k28 k29
end Lw

set_option Elab.async false
set_option linter.all false
set_option maxRecDepth 100000
set_option autoImplicit false
set_option maxHeartbeats 4000000
namespace Lw
open PySem L2 DL
theorem rp_w {R : List (List Tv)} {m : Nat} (h : RpOk R m) : wR (rpD R) ≤ 31 ∧ dR (rpD R) ≤ 2 := by
  have n6 := h.n6
  have m4 := h.m4
  have := wRL_le (l := R.map rwD) (c := 5) (e := 1) (by
    intro d hd
    obtain ⟨r, hr, rfl⟩ := List.mem_map.mp hd
    obtain ⟨h1, h2⟩ := h.rows r hr
    exact rw_w (by omega) h2)
  rw [List.length_map] at this
  unfold rpD
  rw [wR, dR]
  omega
theorem t0_ok {t : Nat} {h0 : D} {nums : List Int} (hn : nums ≠ []) (hl : nums.length < 1073741824) {j J : Nat} (hj : j < 400000) (hJ : j + 200 ≤ J) {s3 s4 s5 s6 s7 s8 s9 s10 s11 s12 s13 s14 s15 s16 s17 s18 s19 s20 s21 s22 s23 s24 s25 s26 s27 s28 s29 : DL.Slot} (k3 : okS (some s3) = true) (k4 : okS (some s4) = true) (k5 : okS (some s5) = true) (k6 : okS (some s6) = true) (k7 : okS (some s7) = true) (k8 : okS (some s8) = true) (k9 : okS (some s9) = true) (k10 : okS (some s10) = true) (k11 : okS (some s11) = true) (k12 : okS (some s12) = true) (k13 : okS (some s13) = true) (k14 : okS (some s14) = true) (k15 : okS (some s15) = true) (k16 : okS (some s16) = true) (k17 : okS (some s17) = true) (k18 : okS (some s18) = true) (k19 : okS (some s19) = true) (k20 : okS (some s20) = true) (k21 : okS (some s21) = true) (k22 : okS (some s22) = true) (k23 : okS (some s23) = true) (k24 : okS (some s24) = true) (k25 : okS (some s25) = true) (k26 : okS (some s26) = true) (k27 : okS (some s27) = true) (k28 : okS (some s28) = true) (k29 : okS (some s29) = true) :
    Sat (T0 [.sh h0, .ow (St nums (j)), .sh (.int (t : Int)), s3, s4, s5, s6, s7, s8, s9, s10, s11, s12, s13, s14, s15, s16, s17, s18, s19, s20, s21, s22, s23, s24, s25, s26, s27, s28, s29, .un, .un, .un, .un, .un, .un]) fun r => r.1 = .nx ∧ Post h0 nums J r.2 := by
  obtain ⟨R, m, j2, hr, h, hj2⟩ := law_reports_ok hn hl (i := j) (by omega)
  have n1 := h.n1
  have n6 := h.n6
  have m1 := h.m1
  have m4 := h.m4
  obtain ⟨w1, w2⟩ := rp_w h
  have hrep : reprD [rpD R] = some (false, .str (toPy (rpD R)).shown) := ev_repr (by omega) (by omega)
  generalize (toPy (rpD R)).shown = K at hrep
  have n2 := next_ok hn hl (i := j2) (by omega) (m := (R.length : Int) + 1) (by omega)
  have hmost := (nx_rng nums (j2 + 1) (m := (R.length : Int) + 1) (by omega)).1
  generalize nx nums (j2 + 1) ((R.length : Int) + 1) = most at *
  have t1 := @t1_ok R m h K hrep h0 nums hn hl (j2 + 1) J (by omega) (by omega) most hmost
  have hl1 := rp_len R
  obtain ⟨r0, q1, q2⟩ := rp_at0 h
  have hl2 := rw_len r0
  rw [q2] at hl2
  have bt := law_bits_ok m1 (by omega : m ≤ 6)
  unfold T0
  generalize rpD R = RD at *
  simp [-List.map_cons, -List.map_append, -List.map_map, -List.append_assoc, -List.map_take, -List.map_drop, hr, hrep, hl1, q1, hl2, n2, bt, k3, k4, k5, k6, k7, k8]
  exact t1 (by rfl) k9 k10 k11 k12 k13 k14 k15 k16 k17 k18 k19 k20 k21 k22 k23 k24 k25 k26 k27 k28 k29
theorem law_ok (ns : List Int) (h : ns.length ≤ 63) : F_law [.scr (ns.map D.int)] = .ok ((false, .bl true), none) := by
  obtain ⟨nums, hn, hl, hs⟩ := stream_ok ns h
  have a0 := told_11x st_01 errs_na
  have a1 := told_11x st_10 errs_na
  have a2 := told_11x st_91 errs_tl
  have a3 := told_11x st_17 errs_tl
  have rng7 : rngD1 [.int 7] = some (nD (List.range 7)) := rngn (n := 7) (by decide)
  have e4 : eqD false (.lst [.str (Str.ofString "refused"), .str (Str.ofString "refused"), .str (Str.ofString "large"), .str (Str.ofString "large")]) (.lst [.str (Str.ofString "refused"), .str (Str.ofString "refused"), .str (Str.ofString "large"), .str (Str.ofString "large")]) = some (false, .bl true) := by kernel_rfl
  have eC : eqD false (.tup [.int 8, .int 6]) (.tup [.int 8, .int 6]) = some (false, .bl true) := by kernel_rfl
  apply eq_of_sat
  unfold F_law
  rw [S_law_eq]
  simp [-List.map_cons, entryE, entryS, hs, rng7]
  refine sat_forN (P := fun k e => Post (.scr (ns.map D.int)) nums (200 * k) e) ?_ ?_ ?_
  · exact ⟨0, .un, .un, .un, .un, .un, .un, .un, .un, .un, .un, .un, .un, .un, .un, .un, .un, .un, .un, .un, .un, .un, .un, .un, .un, .un, .un, .un, .un, rfl, rfl, rfl, rfl, rfl, rfl, rfl, rfl, rfl, rfl, rfl, rfl, rfl, rfl, rfl, rfl, rfl, rfl, rfl, rfl, rfl, rfl, rfl, rfl, rfl, rfl, rfl, rfl, rfl, by omega⟩
  · rintro k d e hd ⟨j, s2, s3, s4, s5, s6, s7, s8, s9, s10, s11, s12, s13, s14, s15, s16, s17, s18, s19, s20, s21, s22, s23, s24, s25, s26, s27, s28, s29, rfl, k2, k3, k4, k5, k6, k7, k8, k9, k10, k11, k12, k13, k14, k15, k16, k17, k18, k19, k20, k21, k22, k23, k24, k25, k26, k27, k28, k29, hj⟩
    obtain ⟨hk, rfl⟩ := range_get hd
    simp [k2]
    exact t0_ok hn (by omega) (by omega) (by omega) k3 k4 k5 k6 k7 k8 k9 k10 k11 k12 k13 k14 k15 k16 k17 k18 k19 k20 k21 k22 k23 k24 k25 k26 k27 k28 k29
  · rintro e ⟨j, s2, s3, s4, s5, s6, s7, s8, s9, s10, s11, s12, s13, s14, s15, s16, s17, s18, s19, s20, s21, s22, s23, s24, s25, s26, s27, s28, s29, rfl, k2, k3, k4, k5, k6, k7, k8, k9, k10, k11, k12, k13, k14, k15, k16, k17, k18, k19, k20, k21, k22, k23, k24, k25, k26, k27, k28, k29, hj⟩
    unfold TZ
    simp [-List.map_cons, -List.map_append, -List.map_map, -List.append_assoc, -List.map_take, -List.map_drop, k29, a0, a1, a2, a3, e4, eC]
theorem law_true (ns : List Int) (h : ns.length ≤ 63) : ∃ od, F_law [.scr (ns.map D.int)] = .ok ((false, .bl true), od) := ⟨none, law_ok ns h⟩
end Lw

set_option Elab.async false
set_option linter.all false
set_option maxRecDepth 100000
set_option maxHeartbeats 0
namespace Lw
open PySem PySem.Spec PyProof.Rows L2 DL
def D__law_stream : He.DefD := ⟨("_law_stream", none), "_law_stream", "_law_stream", defArgs s__law_stream, defBody s__law_stream, defScope s__law_stream, [], []⟩
def D__law_next : He.DefD := ⟨("_law_next", none), "_law_next", "_law_next", defArgs s__law_next, defBody s__law_next, defScope s__law_next, [], []⟩
def D__law_reports : He.DefD := ⟨("_law_reports", none), "_law_reports", "_law_reports", defArgs s__law_reports, defBody s__law_reports, defScope s__law_reports, [], []⟩
def D__law_bits : He.DefD := ⟨("_law_bits", none), "_law_bits", "_law_bits", defArgs s__law_bits, defBody s__law_bits, defScope s__law_bits, [], []⟩
def D__law_largest : He.DefD := ⟨("_law_largest", none), "_law_largest", "_law_largest", defArgs s__law_largest, defBody s__law_largest, defScope s__law_largest, [], []⟩
def D_strength : He.DefD := ⟨("strength", none), "strength", "strength", defArgs s_strength, defBody s_strength, defScope s_strength, [], []⟩
def D_check_reports : He.DefD := ⟨("check_reports", none), "check_reports", "check_reports", defArgs s_check_reports, defBody s_check_reports, defScope s_check_reports, [], []⟩
def D_against : He.DefD := ⟨("against", none), "against", "against", defArgs s_against, defBody s_against, defScope s_against, [], []⟩
def D_known_liars : He.DefD := ⟨("known_liars", none), "known_liars", "known_liars", defArgs s_known_liars, defBody s_known_liars, defScope s_known_liars, [], []⟩
def D_all_facts : He.DefD := ⟨("all_facts", none), "all_facts", "all_facts", defArgs s_all_facts, defBody s_all_facts, defScope s_all_facts, [], []⟩
def D_fewest_free : He.DefD := ⟨("fewest_free", none), "fewest_free", "fewest_free", defArgs s_fewest_free, defBody s_fewest_free, defScope s_fewest_free, [], []⟩
def D_agree : He.DefD := ⟨("agree", none), "agree", "agree", defArgs s_agree, defBody s_agree, defScope s_agree, [], []⟩
def D_clashes : He.DefD := ⟨("clashes", none), "clashes", "clashes", defArgs s_clashes, defBody s_clashes, defScope s_clashes, [], []⟩
def D_apart : He.DefD := ⟨("apart", none), "apart", "apart", defArgs s_apart, defBody s_apart, defScope s_apart, [], []⟩
def D_majority : He.DefD := ⟨("majority", none), "majority", "majority", defArgs s_majority, defBody s_majority, defScope s_majority, [], []⟩
def D_check_free : He.DefD := ⟨("check_free", none), "check_free", "check_free", defArgs s_check_free, defBody s_check_free, defScope s_check_free, [], []⟩
def D_facts_left : He.DefD := ⟨("facts_left", none), "facts_left", "facts_left", defArgs s_facts_left, defBody s_facts_left, defScope s_facts_left, [], []⟩
def D_sure_facts : He.DefD := ⟨("sure_facts", none), "sure_facts", "sure_facts", defArgs s_sure_facts, defBody s_sure_facts, defScope s_sure_facts, [], []⟩
def D_surely_free : He.DefD := ⟨("surely_free", none), "surely_free", "surely_free", defArgs s_surely_free, defBody s_surely_free, defScope s_surely_free, [], []⟩
def D_is_safe : He.DefD := ⟨("is_safe", none), "is_safe", "is_safe", defArgs s_is_safe, defBody s_is_safe, defScope s_is_safe, [], []⟩
def D_check_facts : He.DefD := ⟨("check_facts", none), "check_facts", "check_facts", defArgs s_check_facts, defBody s_check_facts, defScope s_check_facts, [], []⟩
def D_liars_for : He.DefD := ⟨("liars_for", none), "liars_for", "liars_for", defArgs s_liars_for, defBody s_liars_for, defScope s_liars_for, [], []⟩
def D_check_apart : He.DefD := ⟨("check_apart", none), "check_apart", "check_apart", defArgs s_check_apart, defBody s_check_apart, defScope s_check_apart, [], []⟩
def D__law_error : He.DefD := ⟨("_law_error", none), "_law_error", "_law_error", defArgs s__law_error, defBody s__law_error, defScope s__law_error, [], []⟩
def D__law_told : He.DefD := ⟨("_law_told", none), "_law_told", "_law_told", defArgs s__law_told, defBody s__law_told, defScope s__law_told, [], []⟩
def D__law_same : He.DefD := ⟨("_law_same", none), "_law_same", "_law_same", defArgs s__law_same, defBody s__law_same, defScope s__law_same, [], []⟩
def D__law_wrong : He.DefD := ⟨("_law_wrong", none), "_law_wrong", "_law_wrong", defArgs s__law_wrong, defBody s__law_wrong, defScope s__law_wrong, [], []⟩
def D_law : He.DefD := ⟨("law", none), "law", "law", defArgs s_law, defBody s_law, defScope s_law, [], []⟩
def fns : List He.DefD := [D__law_stream, D__law_next, D__law_reports, D__law_bits, D__law_largest, D_strength, D_check_reports, D_against, D_known_liars, D_all_facts, D_fewest_free, D_agree, D_clashes, D_apart, D_majority, D_check_free, D_facts_left, D_sure_facts, D_surely_free, D_is_safe, D_check_facts, D_liars_for, D_check_apart, D__law_error, D__law_told, D__law_same, D__law_wrong, D_law]
def fas : List He.Fa := [.free "abs", .free "all", .free "any", .free "enumerate", .free "int", .free "isinstance", .free "len", .free "list", .free "max", .free "min", .free "range", .free "repr", .free "set", .free "sorted", .free "sum", .free "tuple", .free "zip", .glo "BadPaper", .glo "Missing", .glo "NotAllowed", .glo "TooLarge", .int "MAX_FACTS" (6), .int "MAX_FOLK" (8), .glo "SayError", .glo "BadForm", .glo "apart", .glo "check_apart", .glo "check_reports", .glo "clashes", .glo "facts_left", .glo "fewest_free", .glo "is_safe", .glo "liars_for", .glo "majority", .glo "sure_facts", .glo "surely_free", .glo "_law_stream", .glo "_law_next", .glo "_law_reports", .glo "_law_bits", .glo "_law_largest", .glo "strength", .glo "against", .glo "known_liars", .glo "all_facts", .glo "agree", .glo "check_free", .glo "check_facts", .glo "_law_error", .glo "_law_told", .glo "_law_same", .glo "_law_wrong", .glo "law"]
def tests (K : Fg) : List Bool := [PySem.W.excIn K (He.ga K "BadPaper") [.type "Exception", .type "BaseException", .type "object"] "Exception.__new__",
  PySem.W.keepIn K (.ref (He.ga K "BadPaper")),
  decide (PySem.W.subIn K (.ref (He.ga K "BadPaper")) (.type "BaseException") = some true),
  decide (PySem.W.typeIn K (.ref (He.ga K "BadPaper")) = some (.type "type")),
  PySem.W.excIn K (He.ga K "Missing") [.type "Exception", .type "BaseException", .type "object"] "Exception.__new__",
  PySem.W.keepIn K (.ref (He.ga K "Missing")),
  decide (PySem.W.subIn K (.ref (He.ga K "Missing")) (.type "BaseException") = some true),
  decide (PySem.W.typeIn K (.ref (He.ga K "Missing")) = some (.type "type")),
  PySem.W.excIn K (He.ga K "NotAllowed") [.type "Exception", .type "BaseException", .type "object"] "Exception.__new__",
  PySem.W.keepIn K (.ref (He.ga K "NotAllowed")),
  decide (PySem.W.subIn K (.ref (He.ga K "NotAllowed")) (.type "BaseException") = some true),
  decide (PySem.W.typeIn K (.ref (He.ga K "NotAllowed")) = some (.type "type")),
  PySem.W.excIn K (He.ga K "TooLarge") [.type "Exception", .type "BaseException", .type "object"] "Exception.__new__",
  PySem.W.keepIn K (.ref (He.ga K "TooLarge")),
  decide (PySem.W.subIn K (.ref (He.ga K "TooLarge")) (.type "BaseException") = some true),
  decide (PySem.W.typeIn K (.ref (He.ga K "TooLarge")) = some (.type "type")),
  He.eqO (PySem.W.findIn K (.ref (He.ga K "NotAllowed")) "__getattribute__") (some (some (.builtin "BaseException.__getattribute__"))),
  He.eqO (PySem.W.findIn K (.ref (He.ga K "NotAllowed")) "__getattr__") (some none),
  PySem.W.hasDictIn K (He.ga K "NotAllowed"),
  He.eqO (PySem.W.findIn K (.ref (He.ga K "NotAllowed")) "__class__") (some (some (.builtin "object.__class__"))),
  He.eqO (PySem.W.specialIn K (.builtin "object.__class__") "__get__") (some (some (.builtin "getset_descriptor.__get__"))),
  decide (PySem.W.takesIn K (.builtin "object.__class__") = some true),
  decide (PySem.W.mroIn K (He.ga K "NotAllowed") (.type "object") = some true),
  decide (PySem.W.exmOne K (.ref (He.ga K "NotAllowed")) (.ref (He.ga K "SayError")) = some true),
  decide (PySem.W.kitOne K (.ref (He.ga K "NotAllowed")) (.ref (He.ga K "NotAllowed")) = some true),
  decide (PySem.W.kitOne K (.ref (He.ga K "NotAllowed")) (.ref (He.ga K "TooLarge")) = some false),
  decide (PySem.W.kitOne K (.ref (He.ga K "NotAllowed")) (.ref (He.ga K "Missing")) = some false),
  decide (PySem.W.kitOne K (.ref (He.ga K "NotAllowed")) (.ref (He.ga K "BadPaper")) = some false),
  decide (PySem.W.kitOne K (.ref (He.ga K "NotAllowed")) (.ref (He.ga K "BadForm")) = some false),
  He.eqO (PySem.W.findIn K (.ref (He.ga K "TooLarge")) "__getattribute__") (some (some (.builtin "BaseException.__getattribute__"))),
  He.eqO (PySem.W.findIn K (.ref (He.ga K "TooLarge")) "__getattr__") (some none),
  PySem.W.hasDictIn K (He.ga K "TooLarge"),
  He.eqO (PySem.W.findIn K (.ref (He.ga K "TooLarge")) "__class__") (some (some (.builtin "object.__class__"))),
  decide (PySem.W.mroIn K (He.ga K "TooLarge") (.type "object") = some true),
  decide (PySem.W.exmOne K (.ref (He.ga K "TooLarge")) (.ref (He.ga K "SayError")) = some true),
  decide (PySem.W.kitOne K (.ref (He.ga K "TooLarge")) (.ref (He.ga K "NotAllowed")) = some false),
  decide (PySem.W.kitOne K (.ref (He.ga K "TooLarge")) (.ref (He.ga K "TooLarge")) = some true),
  decide (PySem.W.kitOne K (.ref (He.ga K "TooLarge")) (.ref (He.ga K "Missing")) = some false),
  decide (PySem.W.kitOne K (.ref (He.ga K "TooLarge")) (.ref (He.ga K "BadPaper")) = some false),
  decide (PySem.W.kitOne K (.ref (He.ga K "TooLarge")) (.ref (He.ga K "BadForm")) = some false),
  He.eqO (PySem.W.findIn K (.ref (He.ga K "Missing")) "__getattribute__") (some (some (.builtin "BaseException.__getattribute__"))),
  He.eqO (PySem.W.findIn K (.ref (He.ga K "Missing")) "__getattr__") (some none),
  PySem.W.hasDictIn K (He.ga K "Missing"),
  He.eqO (PySem.W.findIn K (.ref (He.ga K "Missing")) "__class__") (some (some (.builtin "object.__class__"))),
  decide (PySem.W.mroIn K (He.ga K "Missing") (.type "object") = some true),
  decide (PySem.W.exmOne K (.ref (He.ga K "Missing")) (.ref (He.ga K "SayError")) = some true),
  decide (PySem.W.kitOne K (.ref (He.ga K "Missing")) (.ref (He.ga K "NotAllowed")) = some false),
  decide (PySem.W.kitOne K (.ref (He.ga K "Missing")) (.ref (He.ga K "TooLarge")) = some false),
  decide (PySem.W.kitOne K (.ref (He.ga K "Missing")) (.ref (He.ga K "Missing")) = some true),
  decide (PySem.W.kitOne K (.ref (He.ga K "Missing")) (.ref (He.ga K "BadPaper")) = some false),
  decide (PySem.W.kitOne K (.ref (He.ga K "Missing")) (.ref (He.ga K "BadForm")) = some false),
  He.eqO (PySem.W.findIn K (.ref (He.ga K "BadPaper")) "__getattribute__") (some (some (.builtin "BaseException.__getattribute__"))),
  He.eqO (PySem.W.findIn K (.ref (He.ga K "BadPaper")) "__getattr__") (some none),
  PySem.W.hasDictIn K (He.ga K "BadPaper"),
  He.eqO (PySem.W.findIn K (.ref (He.ga K "BadPaper")) "__class__") (some (some (.builtin "object.__class__"))),
  decide (PySem.W.mroIn K (He.ga K "BadPaper") (.type "object") = some true),
  decide (PySem.W.exmOne K (.ref (He.ga K "BadPaper")) (.ref (He.ga K "SayError")) = some true),
  decide (PySem.W.kitOne K (.ref (He.ga K "BadPaper")) (.ref (He.ga K "NotAllowed")) = some false),
  decide (PySem.W.kitOne K (.ref (He.ga K "BadPaper")) (.ref (He.ga K "TooLarge")) = some false),
  decide (PySem.W.kitOne K (.ref (He.ga K "BadPaper")) (.ref (He.ga K "Missing")) = some false),
  decide (PySem.W.kitOne K (.ref (He.ga K "BadPaper")) (.ref (He.ga K "BadPaper")) = some true),
  decide (PySem.W.kitOne K (.ref (He.ga K "BadPaper")) (.ref (He.ga K "BadForm")) = some false),
  decide (He.ga K "NotAllowed" ≠ He.ga K "TooLarge"),
  decide (He.ga K "NotAllowed" ≠ He.ga K "Missing"),
  decide (He.ga K "NotAllowed" ≠ He.ga K "BadPaper"),
  decide (He.ga K "TooLarge" ≠ He.ga K "Missing"),
  decide (He.ga K "TooLarge" ≠ He.ga K "BadPaper"),
  decide (He.ga K "Missing" ≠ He.ga K "BadPaper")]
def chk (K : Fg) : Bool := fas.all (fun f => f.ok K) && (tests K).all id
theorem fat {K : Fg} (c : chk K = true) (i : Nat) {f : He.Fa} (h : fas[i]? = some f) : f.ok K = true := List.all_eq_true.mp (Bool.and_eq_true_iff.mp c).1 f (List.mem_of_getElem? h)
theorem tst {K : Fg} (c : chk K = true) (i : Nat) {b : Bool} (h : (tests K)[i]? = some b) : b = true := List.all_eq_true.mp (Bool.and_eq_true_iff.mp c).2 b (List.mem_of_getElem? h)
theorem facts {K : Fg} {mg : MG} {h : Heap} (X : K.In h) (G : h.Ns mainGlobals mg) (c : chk K = true) (s : He.SaysD [] fns K) : Facts K mg where
  b_abs := He.free_ok X G (fat c 0 rfl)
  b_all := He.free_ok X G (fat c 1 rfl)
  b_any := He.free_ok X G (fat c 2 rfl)
  b_enumerate := He.free_ok X G (fat c 3 rfl)
  b_int := He.free_ok X G (fat c 4 rfl)
  b_isinstance := He.free_ok X G (fat c 5 rfl)
  b_len := He.free_ok X G (fat c 6 rfl)
  b_list := He.free_ok X G (fat c 7 rfl)
  b_max := He.free_ok X G (fat c 8 rfl)
  b_min := He.free_ok X G (fat c 9 rfl)
  b_range := He.free_ok X G (fat c 10 rfl)
  b_repr := He.free_ok X G (fat c 11 rfl)
  b_set := He.free_ok X G (fat c 12 rfl)
  b_sorted := He.free_ok X G (fat c 13 rfl)
  b_sum := He.free_ok X G (fat c 14 rfl)
  b_tuple := He.free_ok X G (fat c 15 rfl)
  b_zip := He.free_ok X G (fat c 16 rfl)
  e_BadPaper := ⟨He.glo_ok X G (fat c 17 rfl), (tst c 0 rfl), (tst c 1 rfl), of_decide_eq_true (tst c 2 rfl), of_decide_eq_true (tst c 3 rfl)⟩
  e_Missing := ⟨He.glo_ok X G (fat c 18 rfl), (tst c 4 rfl), (tst c 5 rfl), of_decide_eq_true (tst c 6 rfl), of_decide_eq_true (tst c 7 rfl)⟩
  e_NotAllowed := ⟨He.glo_ok X G (fat c 19 rfl), (tst c 8 rfl), (tst c 9 rfl), of_decide_eq_true (tst c 10 rfl), of_decide_eq_true (tst c 11 rfl)⟩
  e_TooLarge := ⟨He.glo_ok X G (fat c 20 rfl), (tst c 12 rfl), (tst c 13 rfl), of_decide_eq_true (tst c 14 rfl), of_decide_eq_true (tst c 15 rfl)⟩
  i_MAX_FACTS := He.int_ok X G (fat c 21 rfl)
  i_MAX_FOLK := He.int_ok X G (fat c 22 rfl)
  k_SayError := He.glo_ok X G (fat c 23 rfl)
  m_BadForm := ⟨_, He.glo_ok X G (fat c 24 rfl)⟩
  m_BadPaper := ⟨_, He.glo_ok X G (fat c 17 rfl)⟩
  m_Missing := ⟨_, He.glo_ok X G (fat c 18 rfl)⟩
  m_NotAllowed := ⟨_, He.glo_ok X G (fat c 19 rfl)⟩
  m_TooLarge := ⟨_, He.glo_ok X G (fat c 20 rfl)⟩
  m_apart := ⟨_, He.glo_ok X G (fat c 25 rfl)⟩
  m_check_apart := ⟨_, He.glo_ok X G (fat c 26 rfl)⟩
  m_check_reports := ⟨_, He.glo_ok X G (fat c 27 rfl)⟩
  m_clashes := ⟨_, He.glo_ok X G (fat c 28 rfl)⟩
  m_facts_left := ⟨_, He.glo_ok X G (fat c 29 rfl)⟩
  m_fewest_free := ⟨_, He.glo_ok X G (fat c 30 rfl)⟩
  m_is_safe := ⟨_, He.glo_ok X G (fat c 31 rfl)⟩
  m_liars_for := ⟨_, He.glo_ok X G (fat c 32 rfl)⟩
  m_majority := ⟨_, He.glo_ok X G (fat c 33 rfl)⟩
  m_sure_facts := ⟨_, He.glo_ok X G (fat c 34 rfl)⟩
  m_surely_free := ⟨_, He.glo_ok X G (fat c 35 rfl)⟩
  g_NotAllowed := He.glo_ok X G (fat c 19 rfl)
  g_TooLarge := He.glo_ok X G (fat c 20 rfl)
  g_Missing := He.glo_ok X G (fat c 18 rfl)
  g_BadPaper := He.glo_ok X G (fat c 17 rfl)
  g_BadForm := He.glo_ok X G (fat c 24 rfl)
  x_NotAllowed := ⟨He.eqO_ok (tst c 16 rfl), He.eqO_ok (tst c 17 rfl), of_decide_eq_true (tst c 10 rfl), (tst c 18 rfl), He.eqO_ok (tst c 19 rfl), He.eqO_ok (tst c 20 rfl), of_decide_eq_true (tst c 21 rfl), of_decide_eq_true (tst c 22 rfl)⟩
  s_NotAllowed := of_decide_eq_true (tst c 23 rfl)
  k_NotAllowed_NotAllowed := of_decide_eq_true (tst c 24 rfl)
  k_NotAllowed_TooLarge := of_decide_eq_true (tst c 25 rfl)
  k_NotAllowed_Missing := of_decide_eq_true (tst c 26 rfl)
  k_NotAllowed_BadPaper := of_decide_eq_true (tst c 27 rfl)
  k_NotAllowed_BadForm := of_decide_eq_true (tst c 28 rfl)
  x_TooLarge := ⟨He.eqO_ok (tst c 29 rfl), He.eqO_ok (tst c 30 rfl), of_decide_eq_true (tst c 14 rfl), (tst c 31 rfl), He.eqO_ok (tst c 32 rfl), He.eqO_ok (tst c 20 rfl), of_decide_eq_true (tst c 21 rfl), of_decide_eq_true (tst c 33 rfl)⟩
  s_TooLarge := of_decide_eq_true (tst c 34 rfl)
  k_TooLarge_NotAllowed := of_decide_eq_true (tst c 35 rfl)
  k_TooLarge_TooLarge := of_decide_eq_true (tst c 36 rfl)
  k_TooLarge_Missing := of_decide_eq_true (tst c 37 rfl)
  k_TooLarge_BadPaper := of_decide_eq_true (tst c 38 rfl)
  k_TooLarge_BadForm := of_decide_eq_true (tst c 39 rfl)
  x_Missing := ⟨He.eqO_ok (tst c 40 rfl), He.eqO_ok (tst c 41 rfl), of_decide_eq_true (tst c 6 rfl), (tst c 42 rfl), He.eqO_ok (tst c 43 rfl), He.eqO_ok (tst c 20 rfl), of_decide_eq_true (tst c 21 rfl), of_decide_eq_true (tst c 44 rfl)⟩
  s_Missing := of_decide_eq_true (tst c 45 rfl)
  k_Missing_NotAllowed := of_decide_eq_true (tst c 46 rfl)
  k_Missing_TooLarge := of_decide_eq_true (tst c 47 rfl)
  k_Missing_Missing := of_decide_eq_true (tst c 48 rfl)
  k_Missing_BadPaper := of_decide_eq_true (tst c 49 rfl)
  k_Missing_BadForm := of_decide_eq_true (tst c 50 rfl)
  x_BadPaper := ⟨He.eqO_ok (tst c 51 rfl), He.eqO_ok (tst c 52 rfl), of_decide_eq_true (tst c 2 rfl), (tst c 53 rfl), He.eqO_ok (tst c 54 rfl), He.eqO_ok (tst c 20 rfl), of_decide_eq_true (tst c 21 rfl), of_decide_eq_true (tst c 55 rfl)⟩
  s_BadPaper := of_decide_eq_true (tst c 56 rfl)
  k_BadPaper_NotAllowed := of_decide_eq_true (tst c 57 rfl)
  k_BadPaper_TooLarge := of_decide_eq_true (tst c 58 rfl)
  k_BadPaper_Missing := of_decide_eq_true (tst c 59 rfl)
  k_BadPaper_BadPaper := of_decide_eq_true (tst c 60 rfl)
  k_BadPaper_BadForm := of_decide_eq_true (tst c 61 rfl)
  n_NotAllowed_TooLarge := of_decide_eq_true (tst c 62 rfl)
  n_NotAllowed_Missing := of_decide_eq_true (tst c 63 rfl)
  n_NotAllowed_BadPaper := of_decide_eq_true (tst c 64 rfl)
  n_TooLarge_Missing := of_decide_eq_true (tst c 65 rfl)
  n_TooLarge_BadPaper := of_decide_eq_true (tst c 66 rfl)
  n_Missing_BadPaper := of_decide_eq_true (tst c 67 rfl)
  d__law_stream := by obtain ⟨fd, F⟩ := s.def_ 0 (d := D__law_stream) rfl; exact ⟨fd, F, He.glo_ok X G (fat c 36 rfl)⟩
  d__law_next := by obtain ⟨fd, F⟩ := s.def_ 1 (d := D__law_next) rfl; exact ⟨fd, F, He.glo_ok X G (fat c 37 rfl)⟩
  d__law_reports := by obtain ⟨fd, F⟩ := s.def_ 2 (d := D__law_reports) rfl; exact ⟨fd, F, He.glo_ok X G (fat c 38 rfl)⟩
  d__law_bits := by obtain ⟨fd, F⟩ := s.def_ 3 (d := D__law_bits) rfl; exact ⟨fd, F, He.glo_ok X G (fat c 39 rfl)⟩
  d__law_largest := by obtain ⟨fd, F⟩ := s.def_ 4 (d := D__law_largest) rfl; exact ⟨fd, F, He.glo_ok X G (fat c 40 rfl)⟩
  d_strength := by obtain ⟨fd, F⟩ := s.def_ 5 (d := D_strength) rfl; exact ⟨fd, F, He.glo_ok X G (fat c 41 rfl)⟩
  d_check_reports := by obtain ⟨fd, F⟩ := s.def_ 6 (d := D_check_reports) rfl; exact ⟨fd, F, He.glo_ok X G (fat c 27 rfl)⟩
  d_against := by obtain ⟨fd, F⟩ := s.def_ 7 (d := D_against) rfl; exact ⟨fd, F, He.glo_ok X G (fat c 42 rfl)⟩
  d_known_liars := by obtain ⟨fd, F⟩ := s.def_ 8 (d := D_known_liars) rfl; exact ⟨fd, F, He.glo_ok X G (fat c 43 rfl)⟩
  d_all_facts := by obtain ⟨fd, F⟩ := s.def_ 9 (d := D_all_facts) rfl; exact ⟨fd, F, He.glo_ok X G (fat c 44 rfl)⟩
  d_fewest_free := by obtain ⟨fd, F⟩ := s.def_ 10 (d := D_fewest_free) rfl; exact ⟨fd, F, He.glo_ok X G (fat c 30 rfl)⟩
  d_agree := by obtain ⟨fd, F⟩ := s.def_ 11 (d := D_agree) rfl; exact ⟨fd, F, He.glo_ok X G (fat c 45 rfl)⟩
  d_clashes := by obtain ⟨fd, F⟩ := s.def_ 12 (d := D_clashes) rfl; exact ⟨fd, F, He.glo_ok X G (fat c 28 rfl)⟩
  d_apart := by obtain ⟨fd, F⟩ := s.def_ 13 (d := D_apart) rfl; exact ⟨fd, F, He.glo_ok X G (fat c 25 rfl)⟩
  d_majority := by obtain ⟨fd, F⟩ := s.def_ 14 (d := D_majority) rfl; exact ⟨fd, F, He.glo_ok X G (fat c 33 rfl)⟩
  d_check_free := by obtain ⟨fd, F⟩ := s.def_ 15 (d := D_check_free) rfl; exact ⟨fd, F, He.glo_ok X G (fat c 46 rfl)⟩
  d_facts_left := by obtain ⟨fd, F⟩ := s.def_ 16 (d := D_facts_left) rfl; exact ⟨fd, F, He.glo_ok X G (fat c 29 rfl)⟩
  d_sure_facts := by obtain ⟨fd, F⟩ := s.def_ 17 (d := D_sure_facts) rfl; exact ⟨fd, F, He.glo_ok X G (fat c 34 rfl)⟩
  d_surely_free := by obtain ⟨fd, F⟩ := s.def_ 18 (d := D_surely_free) rfl; exact ⟨fd, F, He.glo_ok X G (fat c 35 rfl)⟩
  d_is_safe := by obtain ⟨fd, F⟩ := s.def_ 19 (d := D_is_safe) rfl; exact ⟨fd, F, He.glo_ok X G (fat c 31 rfl)⟩
  d_check_facts := by obtain ⟨fd, F⟩ := s.def_ 20 (d := D_check_facts) rfl; exact ⟨fd, F, He.glo_ok X G (fat c 47 rfl)⟩
  d_liars_for := by obtain ⟨fd, F⟩ := s.def_ 21 (d := D_liars_for) rfl; exact ⟨fd, F, He.glo_ok X G (fat c 32 rfl)⟩
  d_check_apart := by obtain ⟨fd, F⟩ := s.def_ 22 (d := D_check_apart) rfl; exact ⟨fd, F, He.glo_ok X G (fat c 26 rfl)⟩
  d__law_error := by obtain ⟨fd, F⟩ := s.def_ 23 (d := D__law_error) rfl; exact ⟨fd, F, He.glo_ok X G (fat c 48 rfl)⟩
  d__law_told := by obtain ⟨fd, F⟩ := s.def_ 24 (d := D__law_told) rfl; exact ⟨fd, F, He.glo_ok X G (fat c 49 rfl)⟩
  d__law_same := by obtain ⟨fd, F⟩ := s.def_ 25 (d := D__law_same) rfl; exact ⟨fd, F, He.glo_ok X G (fat c 50 rfl)⟩
  d__law_wrong := by obtain ⟨fd, F⟩ := s.def_ 26 (d := D__law_wrong) rfl; exact ⟨fd, F, He.glo_ok X G (fat c 51 rfl)⟩
  d_law := by obtain ⟨fd, F⟩ := s.def_ 27 (d := D_law) rfl; exact ⟨fd, F, He.glo_ok X G (fat c 52 rfl)⟩
def loose0 : List PySem.Str := ["SayError", "NotAllowed", "TooLarge", "Missing", "BadPaper", "BadForm", "MAX_FOLK", "MAX_FACTS", "check_reports", "check_free", "against", "liars_for", "known_liars", "check_facts", "all_facts", "facts_left", "fewest_free", "sure_facts", "surely_free", "agree", "clashes", "apart", "check_apart", "majority", "is_safe", "strength", "_law_error", "_law_next", "_law_stream", "_law_bits"]
def loose1 : List PySem.Str := ["_law_same", "_law_told", "_law_wrong", "_law_reports", "_law_largest"]
def loose : List PySem.Str := loose0 ++ loose1
abbrev Rw : PySem.W.OpenRow := PySem.W.OpenLaw.row PySem.Challenge.rw_knavesasked_k22_whole_facts_told_by_seve
abbrev hk : PySem.W.Hook := hookX 4 chk fns
def ob (s : PySem.W.SharedT) : He.AlD := obsX 4 chk fns (HandSHeadRun.getT s)
theorem ob_eq (s : PySem.W.SharedT) : ob s = hk.obs s.abs := obsX_eq (HandSHeadRun.getT_eq s)
theorem run (w : World) : HandSHeadRun.RunEq Rw (PySem.W.view Rw.prog [38]) hk ob 20000 loose w := by
  intro os
  kernel_rfl
end Lw
open PySem PySem.W PySem.Calls PyProof.Rows
theorem PySem.Challenge.cw_knavesasked_k22_whole_facts_told_by_seve_holds : PySem.Challenge.rw_knavesasked_k22_whole_facts_told_by_seve.Holds := by
  w_on; o_law
  refine HandSHeadRun.head_any (r := OpenLaw.row PySem.Challenge.rw_knavesasked_k22_whole_facts_told_by_seve) (q := view (OpenLaw.row PySem.Challenge.rw_knavesasked_k22_whole_facts_told_by_seve).prog [38]) (H := Lw.hk) (ob := Lw.ob) (M := 20000) (loose := Lw.loose) (d := HandSHeadRun.topDef (OpenLaw.row PySem.Challenge.rw_knavesasked_k22_whole_facts_told_by_seve).prog 38) (kwd := []) Lw.ob_eq
    (by kernel_rfl) (fun s => by kernel_rfl) Lw.run (by kernel_rfl) (by kernel_rfl) (by kernel_rfl) (by rfl) (by first | assumption | decide +kernel) (by decide +kernel) ⟨rfl, rfl, rfl, rfl, rfl, by decide +kernel⟩ ?hw ?hc
  case hw => w_witness2
  case hc =>
    refine DL.walk_ofG (l := PySem.Challenge.rw_knavesasked_k22_whole_facts_told_by_seve) (n := 63) (k := 7) (x := "script") rfl (by decide) (by kernel_rfl) ⟨rfl, by decide, by decide⟩ ?F
    intro w mg fa h Y G hmg0
    obtain ⟨K, KX, c, s⟩ := Y
    have hmg : mg ("law" : PySem.Str) = some (.ref fa) := by
      have e : (HandSHeadRun.topDef (OpenLaw.row PySem.Challenge.rw_knavesasked_k22_whole_facts_told_by_seve).prog 38).name = ("law" : PySem.Str) := by kernel_rfl
      rw [← e]
      exact hmg0
    have Φ := Lw.facts KX G c s
    obtain ⟨fd, Fd, hm⟩ := Φ.d_law
    rw [hmg] at hm
    cases hm
    refine ⟨K, fd, DL.spD K mg 1 none Lw.F_law, KX, fun s v => Fd.bindsA (ps := ["script"]) (fun _ _ _ _ _ _ us hl => match us, hl with | [_], _ => rfl) s [v] rfl, fun H a ns hl _ hS => DL.sp_law Lw.law_true H a ns hl hS, fun base _ _ => ?_⟩
    exact Lw.fn_law Φ Fd
