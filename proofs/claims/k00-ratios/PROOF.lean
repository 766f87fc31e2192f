import PyProof.Rows.All
import Wide.All
import OpenK.AllK
import Wide.FinOn
import HandS.ForMost
import HandS.ForExc
import HandS.IsInst
import HandS.Wide
import HandS.WideBits
import HandS.Flow
import HandS.Star
import HandS.Style
import HandS.FStr
import HandS.Conv
import HandS.CallLocal
import HandS.CallSlots
import HandS.ExcCtx
import HandS.HotCalls
import HandS.ExcIs
import HandS.Rev
import HandS.More
import HandS.TupAny
import HandS.TupMul
import HandS.WordsDict
import HandS.ReplaceLit
import HandS.EndBits
import PySem.Challenge.RW_withinwidth_k00_whole_ratios
import HandS.Codes
set_option Elab.async false
set_option linter.all false
set_option maxRecDepth 100000
set_option maxHeartbeats 2000000
/-! DL1: data over the hand layer: values as data D, results Res, the relation Rep, statements' and expressions' readings by mirrors. -/
namespace DL
open PySem PySem.Spec PyProof.Rows L2

/-! ### data -/
inductive D where
  | non | bl (b : Bool) | int (i : Int) | str (s : Str) | ty (n : String) | fn (a : Addr)
  | tup (xs : List D) | lst (xs : List D) | frl (xs : List D) | dic (ks : List Key) (xs : List D) | ml (k : Nat)
abbrev Ren := List (Option D)
abbrev Sto := List (List D)
inductive Res (α : Type) where
  | ok (a : α) (m : Sto) | err (c : Str) (m : Sto) | bad
def Res.bind {α β : Type} (r : Res α) (f : α → Sto → Res β) : Res β :=
  match r with
  | .ok a m => f a m
  | .err c m => .err c m
  | .bad => .bad
@[simp] theorem Res.bind_ok {α β : Type} {a : α} {m : Sto} {f : α → Sto → Res β} : (Res.ok a m).bind f = f a m := rfl
@[simp] theorem Res.bind_err {α β : Type} {c : Str} {m : Sto} {f : α → Sto → Res β} : (Res.err c m).bind f = .err c m := rfl
@[simp] theorem Res.bind_bad {α β : Type} {f : α → Sto → Res β} : (Res.bad : Res α).bind f = .bad := rfl
theorem Res.bind_assoc {α β γ : Type} (r : Res α) (f : α → Sto → Res β) (g : β → Sto → Res γ) : (r.bind f).bind g = r.bind fun a m => (f a m).bind g := by
  cases r <;> rfl
/-- a statement's outcome -/
inductive SR where
  | nx (r : Ren) (m : Sto) | rt (d : D) (m : Sto) | bk (r : Ren) (m : Sto) | ct (r : Ren) (m : Sto) | ex (c : Str) (r : Ren) (m : Sto) | bad
def SR.seq (s : SR) (f : Ren → Sto → SR) : SR :=
  match s with
  | .nx r m => f r m
  | .rt d m => .rt d m
  | .bk r m => .bk r m
  | .ct r m => .ct r m
  | .ex c r m => .ex c r m
  | .bad => .bad
@[simp] theorem SR.seq_nx {r : Ren} {m : Sto} {f : Ren → Sto → SR} : (SR.nx r m).seq f = f r m := rfl
@[simp] theorem SR.seq_rt {d : D} {m : Sto} {f : Ren → Sto → SR} : (SR.rt d m).seq f = .rt d m := rfl
@[simp] theorem SR.seq_bk {r : Ren} {m : Sto} {f : Ren → Sto → SR} : (SR.bk r m).seq f = .bk r m := rfl
@[simp] theorem SR.seq_ct {r : Ren} {m : Sto} {f : Ren → Sto → SR} : (SR.ct r m).seq f = .ct r m := rfl
@[simp] theorem SR.seq_ex {c : Str} {r : Ren} {m : Sto} {f : Ren → Sto → SR} : (SR.ex c r m).seq f = .ex c r m := rfl
@[simp] theorem SR.seq_bad {f : Ren → Sto → SR} : SR.bad.seq f = .bad := rfl
/-- an expression's result goes on as a statement -/
def Res.st {α : Type} (x : Res α) (r : Ren) (f : α → Sto → SR) : SR :=
  match x with
  | .ok a m => f a m
  | .err c m => .ex c r m
  | .bad => .bad
@[simp] theorem Res.st_ok {α : Type} {a : α} {m : Sto} {r : Ren} {f : α → Sto → SR} : (Res.ok a m).st r f = f a m := rfl
@[simp] theorem Res.st_err {α : Type} {c : Str} {m : Sto} {r : Ren} {f : α → Sto → SR} : (Res.err c m : Res α).st r f = .ex c r m := rfl
@[simp] theorem Res.st_bad {α : Type} {r : Ren} {f : α → Sto → SR} : (Res.bad : Res α).st r f = .bad := rfl

/-! ### data and the heap -/
def KT (K : PySem.W.Frag) (a : Addr) (xs : List V) : Prop :=
  ∃ (o : Obj) (its : Array Value) (n : Nat), K.lookup a = some o ∧ o.cls = .type "tuple" ∧ o.data = .seq its n ∧ its.size ≤ sizeLine ∧ Vals xs its.toList
def KL (K : PySem.W.Frag) (a : Addr) (xs : List V) : Prop :=
  ∃ (o : Obj) (its : Array Value) (n : Nat), K.lookup a = some o ∧ o.cls = .type "list" ∧ o.dict = none ∧ o.data = .seq its n ∧ its.size ≤ sizeLine ∧ Vals xs its.toList
theorem has_ne {P : Addr → Prop} {a p : Addr} (hp : P p) (n : ¬ P a) : a ≠ p := by
  rintro rfl
  exact n hp
structure Led where
  ms : List Addr
  hid : List Addr
def Led.has (al : Led) (a : Addr) : Prop := a ∈ al.ms ∨ a ∈ al.hid
def TupAt (K : PySem.W.Frag) (H : Hp) (al : Led) (a : Addr) (xs : List V) : Prop := (¬ al.has a ∧ H a = some (.tup xs)) ∨ KT K a xs
/-- a list that is read only: the script, a list of the top -/
def FrlAt (K : PySem.W.Frag) (H : Hp) (al : Led) (a : Addr) (xs : List V) : Prop := (¬ al.has a ∧ Rd H a (.lst xs)) ∨ KL K a xs
theorem TupAt.sq {K : PySem.W.Frag} {H : Hp} {al : Led} {a : Addr} {xs : List V} (h : TupAt K H al a xs) : SqT K H a xs := by
  rcases h with ⟨_, h⟩ | h
  · exact .inl (.inl h)
  · exact .inr h
theorem FrlAt.sq {K : PySem.W.Frag} {H : Hp} {al : Led} {a : Addr} {xs : List V} (h : FrlAt K H al a xs) : SqL K H a xs := by
  rcases h with ⟨_, h⟩ | h
  · exact .inl h
  · exact .inr h
mutual
/-- v stands for d -/
def Rep (K : PySem.W.Frag) (H : Hp) (al : Led) : D → V → Prop
  | .non, v => v = .non
  | .bl b, v => v = .bl b
  | .int i, v => v = .int i
  | .str s, v => v = .str s
  | .ty n, v => v = .ty n
  | .fn a, v => v = .ref a
  | .tup ds, v => ∃ a vs, v = .ref a ∧ TupAt K H al a vs ∧ Reps K H al ds vs
  | .lst ds, v => ∃ a vs, v = .ref a ∧ (¬ al.has a ∧ H a = some (.lst vs)) ∧ Reps K H al ds vs
  | .frl ds, v => ∃ a vs, v = .ref a ∧ FrlAt K H al a vs ∧ Reps K H al ds vs
  | .dic ks ds, v => ∃ a vs, v = .ref a ∧ ¬ al.has a ∧ H a = some (.dK (ks.zip vs)) ∧ ks.length = vs.length ∧ Reps K H al ds vs
  | .ml k, v => ∃ a, v = .ref a ∧ al.ms[k]? = some a
def Reps (K : PySem.W.Frag) (H : Hp) (al : Led) : List D → List V → Prop
  | [], vs => vs = []
  | d :: ds, vs => ∃ v ws, vs = v :: ws ∧ Rep K H al d v ∧ Reps K H al ds ws
end
mutual
/-- nothing mutable within -/
def D.nm : D → Bool
  | .tup ds => nms ds
  | .lst ds => nms ds
  | .frl ds => nms ds
  | .dic _ ds => nms ds
  | .ml _ => false
  | _ => true
def nms : List D → Bool
  | [] => true
  | d :: ds => d.nm && nms ds
end
/-- the heap goes on: what is tracked and not mutable stays, the mutable ones grow by new ones -/
structure Ext (al : Led) (H : Hp) (al' : Led) (H' : Hp) : Prop where
  pre : ∃ new, al'.ms = al.ms ++ new ∧ ∀ a ∈ new, H a = none
  hidg : ∀ a ∈ al.hid, a ∈ al'.hid
  hidn : ∀ a ∈ al'.hid, a ∈ al.hid ∨ H a = none
  kept : ∀ a o, H a = some o → a ∉ al.ms → H' a = some o
  stay : ∀ a, H a ≠ none → H' a ≠ none
/-- the mutable lists as they stand -/
structure StoOk (K : PySem.W.Frag) (H : Hp) (al : Led) (m : Sto) : Prop where
  nd : al.ms.Nodup
  len : al.ms.length = m.length
  hd : ∀ a ∈ al.hid, H a ≠ none ∧ a ∉ al.ms
  at_ : ∀ (k : Nat) (ds : List D), m[k]? = some ds → ∃ a vs, al.ms[k]? = some a ∧ H a = some (.lst vs) ∧ Reps K H al ds vs ∧ nms ds = true
structure EnvOk (K : PySem.W.Frag) (H : Hp) (al : Led) (r : Ren) (σ : L2.St) : Prop where
  len : σ.length = r.length
  at_ : ∀ (i : Nat) (d : D), r[i]? = some (some d) → ∃ v, σ[i]? = some (some v) ∧ Rep K H al d v

section
variable {K : PySem.W.Frag} {H H' H2 : Hp} {al al' al2 : Led} {m m' m2 : Sto} {r : Ren} {σ : L2.St} {d : D} {ds : List D} {v : V} {vs : List V}
theorem Ext.refl : Ext al H al H := ⟨⟨[], by simp, fun _ h => by simp at h⟩, fun _ h => h, fun _ h => .inl h, fun _ _ h _ => h, fun _ h => h⟩
theorem StoOk.there (s : StoOk K H al m) {a : Addr} (h : a ∈ al.ms) : ∃ vs, H a = some (.lst vs) := by
  obtain ⟨k, hk, e⟩ := List.mem_iff_getElem.mp h
  have hk' : k < m.length := by rw [← s.len]; exact hk
  obtain ⟨b, vs, h1, h2, _⟩ := s.at_ k m[k] (by simp [hk'])
  have : b = a := by
    have e2 : al.ms[k]? = some a := by rw [← e]; simp [hk]
    rw [e2] at h1; exact (Option.some.inj h1).symm
  subst this
  exact ⟨vs, h2⟩
theorem StoOk.ne (s : StoOk K H al m) {a : Addr} (h : H a = none) : ¬ al.has a := fun q => by
  rcases q with q | q
  · obtain ⟨vs, e⟩ := s.there q
    rw [h] at e; cases e
  · exact (s.hd a q).1 h
theorem Ext.trans (e1 : Ext al H al' H') (s1 : StoOk K H' al' m') (e2 : Ext al' H' al2 H2) : Ext al H al2 H2 := by
  obtain ⟨⟨n1, p1, f1⟩, d1, g1, k1, t1⟩ := e1
  obtain ⟨⟨n2, p2, f2⟩, d2, g2, k2, t2⟩ := e2
  refine ⟨⟨n1 ++ n2, by rw [p2, p1, List.append_assoc], fun a ha => ?_⟩, fun a h => d2 a (d1 a h), fun a h => ?_, fun a o h na => ?_, fun a h => t2 a (t1 a h)⟩
  · rcases List.mem_append.mp ha with h | h
    · exact f1 a h
    · cases q : H a with
      | none => rfl
      | some o => exact absurd (f2 a h) (t1 a (by rw [q]; exact fun z => nomatch z))
  · rcases g2 a h with h | h
    · exact g1 a h
    · cases q : H a with
      | none => exact .inr rfl
      | some o => exact absurd h (t1 a (by rw [q]; exact fun z => nomatch z))
  · refine k2 a o (k1 a o h na) fun z => ?_
    rw [p1] at z
    rcases List.mem_append.mp z with z | z
    · exact na z
    · have := f1 a z; rw [h] at this; cases this
theorem Ext.notIn (e : Ext al H al' H') {a : Addr} {o : HO} (h : H a = some o) (n : ¬ al.has a) : ¬ al'.has a := by
  obtain ⟨⟨n1, p1, f1⟩, _, d1, _, _⟩ := e
  intro z
  rcases z with z | z
  · rw [p1] at z
    rcases List.mem_append.mp z with z | z
    · exact n (.inl z)
    · have := f1 a z; rw [h] at this; cases this
  · rcases d1 a z with z | z
    · exact n (.inr z)
    · rw [h] at z; cases z
theorem Ext.keep (e : Ext al H al' H') {a : Addr} {o : HO} (h : H a = some o) (n : ¬ al.has a) : H' a = some o := e.kept a o h fun z => n (.inl z)
theorem Ext.ix (e : Ext al H al' H') {k : Nat} {a : Addr} (h : al.ms[k]? = some a) : al'.ms[k]? = some a := by
  obtain ⟨⟨n1, p1, _⟩, _, _, _, _⟩ := e
  rw [p1, List.getElem?_append_left (List.getElem?_eq_some_iff.mp h).1]
  exact h
theorem TupAt.ext (e : Ext al H al' H') {a : Addr} (h : TupAt K H al a vs) : TupAt K H' al' a vs := by
  rcases h with ⟨n, h⟩ | h
  · exact .inl ⟨e.notIn h n, e.keep h n⟩
  · exact .inr h
theorem FrlAt.ext (e : Ext al H al' H') {a : Addr} (h : FrlAt K H al a vs) : FrlAt K H' al' a vs := by
  rcases h with ⟨n, h | ⟨o, h⟩⟩ | h
  · exact .inl ⟨e.notIn h n, .inl (e.keep h n)⟩
  · exact .inl ⟨e.notIn h n, .inr ⟨o, e.keep h n⟩⟩
  · exact .inr h
mutual
theorem Rep.ext (e : Ext al H al' H') : ∀ {d : D} {v : V}, Rep K H al d v → Rep K H' al' d v
  | .non, _, h => by unfold Rep at h ⊢; exact h
  | .bl _, _, h => by unfold Rep at h ⊢; exact h
  | .int _, _, h => by unfold Rep at h ⊢; exact h
  | .str _, _, h => by unfold Rep at h ⊢; exact h
  | .ty _, _, h => by unfold Rep at h ⊢; exact h
  | .fn _, _, h => by unfold Rep at h ⊢; exact h
  | .tup ds, _, h => by
    unfold Rep at h ⊢
    obtain ⟨a, vs, h1, h2, h3⟩ := h
    exact ⟨a, vs, h1, h2.ext e, Reps.ext e h3⟩
  | .lst ds, _, h => by
    unfold Rep at h ⊢
    obtain ⟨a, vs, h1, h2, h3⟩ := h
    exact ⟨a, vs, h1, ⟨e.notIn h2.2 h2.1, e.keep h2.2 h2.1⟩, Reps.ext e h3⟩
  | .frl ds, _, h => by
    unfold Rep at h ⊢
    obtain ⟨a, vs, h1, h2, h3⟩ := h
    exact ⟨a, vs, h1, h2.ext e, Reps.ext e h3⟩
  | .dic ks ds, _, h => by
    unfold Rep at h ⊢
    obtain ⟨a, vs, h1, h2, h3, h4, h5⟩ := h
    exact ⟨a, vs, h1, e.notIn h3 h2, e.keep h3 h2, h4, Reps.ext e h5⟩
  | .ml k, _, h => by
    unfold Rep at h ⊢
    obtain ⟨a, h1, h2⟩ := h
    exact ⟨a, h1, e.ix h2⟩
theorem Reps.ext (e : Ext al H al' H') : ∀ {ds : List D} {vs : List V}, Reps K H al ds vs → Reps K H' al' ds vs
  | [], _, h => by unfold Reps at h ⊢; exact h
  | d :: ds, _, h => by
    unfold Reps at h ⊢
    obtain ⟨v, ws, h1, h2, h3⟩ := h
    exact ⟨v, ws, h1, Rep.ext e h2, Reps.ext e h3⟩
end
theorem EnvOk.ext (h : EnvOk K H al r σ) (e : Ext al H al' H') : EnvOk K H' al' r σ := ⟨h.len, fun i d q => by
  obtain ⟨v, h1, h2⟩ := h.at_ i d q
  exact ⟨v, h1, h2.ext e⟩⟩
theorem Reps.length : ∀ {ds : List D} {vs : List V}, Reps K H al ds vs → ds.length = vs.length
  | [], _, h => by unfold Reps at h; rw [h]; rfl
  | d :: ds, _, h => by
    unfold Reps at h
    obtain ⟨v, ws, rfl, _, h3⟩ := h
    simp [Reps.length h3]
theorem Reps.cons {ws : List V} (h : Rep K H al d v) (h2 : Reps K H al ds ws) : Reps K H al (d :: ds) (v :: ws) := by
  unfold Reps; exact ⟨v, ws, rfl, h, h2⟩
theorem Reps.nil : Reps K H al [] [] := by unfold Reps; rfl
theorem Reps.get : ∀ {ds : List D} {vs : List V} {i : Nat} {d : D}, Reps K H al ds vs → ds[i]? = some d → ∃ v, vs[i]? = some v ∧ Rep K H al d v
  | [], _, _, _, _, e => by simp at e
  | x :: ds, _, 0, d, h, e => by
    unfold Reps at h
    obtain ⟨v, ws, rfl, h2, h3⟩ := h
    simp at e; subst e
    exact ⟨v, by simp, h2⟩
  | x :: ds, _, i + 1, d, h, e => by
    unfold Reps at h
    obtain ⟨v, ws, rfl, h2, h3⟩ := h
    obtain ⟨u, h4, h5⟩ := Reps.get (i := i) h3 (by simpa using e)
    exact ⟨u, by simpa using h4, h5⟩
theorem Reps.append {es : List D} {ws : List V} : ∀ {ds : List D} {vs : List V}, Reps K H al ds vs → Reps K H al es ws → Reps K H al (ds ++ es) (vs ++ ws)
  | [], _, h, q => by unfold Reps at h; rw [h]; exact q
  | d :: ds, _, h, q => by
    unfold Reps at h
    obtain ⟨v, ws', rfl, h2, h3⟩ := h
    exact Reps.cons h2 (Reps.append h3 q)
theorem Reps.getR : ∀ {ds : List D} {vs : List V} {i : Nat} {v : V}, Reps K H al ds vs → vs[i]? = some v → ∃ d, ds[i]? = some d ∧ Rep K H al d v
  | [], _, _, _, h, e => by unfold Reps at h; rw [h] at e; simp at e
  | x :: ds, _, 0, v, h, e => by
    unfold Reps at h
    obtain ⟨v, ws, rfl, h2, h3⟩ := h
    simp at e; subst e
    exact ⟨x, by simp, h2⟩
  | x :: ds, _, i + 1, v, h, e => by
    unfold Reps at h
    obtain ⟨u, ws, rfl, h2, h3⟩ := h
    obtain ⟨d, h4, h5⟩ := Reps.getR (i := i) h3 (by simpa using e)
    exact ⟨d, by simpa using h4, h5⟩
theorem Reps.take : ∀ {ds : List D} {vs : List V} (n : Nat), Reps K H al ds vs → Reps K H al (ds.take n) (vs.take n)
  | [], _, n, h => by unfold Reps at h; rw [h]; simp; exact Reps.nil
  | d :: ds, _, 0, h => by simp; exact Reps.nil
  | d :: ds, _, n + 1, h => by
    unfold Reps at h
    obtain ⟨v, ws, rfl, h2, h3⟩ := h
    simp only [List.take_succ_cons]
    exact Reps.cons h2 (Reps.take n h3)
theorem Reps.drop : ∀ {ds : List D} {vs : List V} (n : Nat), Reps K H al ds vs → Reps K H al (ds.drop n) (vs.drop n)
  | [], _, n, h => by unfold Reps at h; rw [h]; simp; exact Reps.nil
  | d :: ds, _, 0, h => by simpa using h
  | d :: ds, _, n + 1, h => by
    unfold Reps at h
    obtain ⟨v, ws, rfl, h2, h3⟩ := h
    simpa using Reps.drop n h3
theorem Reps.reverse : ∀ {ds : List D} {vs : List V}, Reps K H al ds vs → Reps K H al ds.reverse vs.reverse
  | [], _, h => by unfold Reps at h; rw [h]; simp; exact Reps.nil
  | d :: ds, _, h => by
    unfold Reps at h
    obtain ⟨v, ws, rfl, h2, h3⟩ := h
    rw [List.reverse_cons, List.reverse_cons]
    exact Reps.append (Reps.reverse h3) (Reps.cons h2 Reps.nil)
theorem Reps.set : ∀ {ds : List D} {vs : List V} (i : Nat), Reps K H al ds vs → Rep K H al d v → Reps K H al (ds.set i d) (vs.set i v)
  | [], _, n, h, q => by unfold Reps at h; rw [h]; simp; exact Reps.nil
  | x :: ds, _, 0, h, q => by
    unfold Reps at h
    obtain ⟨u, ws, rfl, h2, h3⟩ := h
    exact Reps.cons q h3
  | x :: ds, _, n + 1, h, q => by
    unfold Reps at h
    obtain ⟨u, ws, rfl, h2, h3⟩ := h
    exact Reps.cons h2 (Reps.set n h3 q)
/-! the store's part of a smaller ledger; g: which mutable lists stay -/
mutual
theorem Rep.less (sub : ∀ a, al'.has a → al.has a) : ∀ {d : D} {v : V}, (d.nm = true ∨ ∀ (k : Nat) a, al.ms[k]? = some a → al'.ms[k]? = some a) → Rep K H al d v → Rep K H al' d v
  | .non, _, _, h => by unfold Rep at h ⊢; exact h
  | .bl _, _, _, h => by unfold Rep at h ⊢; exact h
  | .int _, _, _, h => by unfold Rep at h ⊢; exact h
  | .str _, _, _, h => by unfold Rep at h ⊢; exact h
  | .ty _, _, _, h => by unfold Rep at h ⊢; exact h
  | .fn _, _, _, h => by unfold Rep at h ⊢; exact h
  | .tup ds, _, n, h => by
    unfold Rep at h ⊢
    unfold D.nm at n
    obtain ⟨a, vs, h1, h2, h3⟩ := h
    refine ⟨a, vs, h1, ?_, Reps.less sub n h3⟩
    rcases h2 with ⟨n, h2⟩ | h2
    · exact .inl ⟨fun z => n (sub a z), h2⟩
    · exact .inr h2
  | .lst ds, _, n, h => by
    unfold Rep at h ⊢
    unfold D.nm at n
    obtain ⟨a, vs, h1, h2, h3⟩ := h
    exact ⟨a, vs, h1, ⟨fun z => h2.1 (sub a z), h2.2⟩, Reps.less sub n h3⟩
  | .frl ds, _, n, h => by
    unfold Rep at h ⊢
    unfold D.nm at n
    obtain ⟨a, vs, h1, h2, h3⟩ := h
    refine ⟨a, vs, h1, ?_, Reps.less sub n h3⟩
    rcases h2 with ⟨n, h2⟩ | h2
    · exact .inl ⟨fun z => n (sub a z), h2⟩
    · exact .inr h2
  | .dic ks ds, _, n, h => by
    unfold Rep at h ⊢
    unfold D.nm at n
    obtain ⟨a, vs, h1, h2, h3, h4, h5⟩ := h
    exact ⟨a, vs, h1, fun z => h2 (sub a z), h3, h4, Reps.less sub n h5⟩
  | .ml k, _, n, h => by
    unfold Rep at h ⊢
    obtain ⟨a, h1, h2⟩ := h
    refine ⟨a, h1, ?_⟩
    rcases n with n | n
    · unfold D.nm at n; cases n
    · exact n k a h2
theorem Reps.less (sub : ∀ a, al'.has a → al.has a) : ∀ {ds : List D} {vs : List V}, (nms ds = true ∨ ∀ (k : Nat) a, al.ms[k]? = some a → al'.ms[k]? = some a) → Reps K H al ds vs → Reps K H al' ds vs
  | [], _, _, h => by unfold Reps at h ⊢; exact h
  | d :: ds, _, n, h => by
    unfold Reps at h ⊢
    unfold nms at n
    rw [Bool.and_eq_true] at n
    obtain ⟨v, ws, h1, h2, h3⟩ := h
    exact ⟨v, ws, h1, Rep.less sub (n.imp And.left id) h2, Reps.less sub (n.imp And.right id) h3⟩
end
/-- a new immutable object -/
theorem Ext.new (s : StoOk K H al m) {p : Addr} {o : HO} (hp : H p = none) : Ext al H al (upd H p o) :=
  ⟨⟨[], by simp, fun _ h => by simp at h⟩, fun _ h => h, fun _ h => .inl h, fun a u e _ => by rw [upd_ne (ne_of_none e hp)]; exact e, fun a e => by
    by_cases h : a = p
    · rw [h, upd_same]; exact fun z => nomatch z
    · rw [upd_ne h]; exact e⟩
theorem StoOk.new (s : StoOk K H al m) {p : Addr} {o : HO} (hp : H p = none) : StoOk K (upd H p o) al m := by
  have e := Ext.new (o := o) s hp
  refine ⟨s.nd, s.len, fun a h => ⟨e.stay a (s.hd a h).1, (s.hd a h).2⟩, fun k ds q => ?_⟩
  obtain ⟨a, vs, h1, h2, h3, h4⟩ := s.at_ k ds q
  refine ⟨a, vs, h1, ?_, h3.ext e, h4⟩
  rw [upd_ne fun z => s.ne hp (by rw [← z]; exact .inl (List.mem_of_getElem? h1))]
  exact h2
/-- a mutable list, or a hidden object, is written -/
theorem TupAt.wr {p : Addr} {o : HO} (hp : al.has p) {a : Addr} (h : TupAt K H al a vs) : TupAt K (upd H p o) al a vs := by
  rcases h with ⟨n, h⟩ | h
  · exact .inl ⟨n, by rw [upd_ne (has_ne (P := al.has) hp n)]; exact h⟩
  · exact .inr h
theorem FrlAt.wr {p : Addr} {o : HO} (hp : al.has p) {a : Addr} (h : FrlAt K H al a vs) : FrlAt K (upd H p o) al a vs := by
  rcases h with ⟨n, h⟩ | h
  · refine .inl ⟨n, ?_⟩
    unfold Rd
    rw [upd_ne (has_ne (P := al.has) hp n)]
    exact h
  · exact .inr h
mutual
theorem Rep.wr {p : Addr} {o : HO} (hp : al.has p) : ∀ {d : D} {v : V}, Rep K H al d v → Rep K (upd H p o) al d v
  | .non, _, h => by unfold Rep at h ⊢; exact h
  | .bl _, _, h => by unfold Rep at h ⊢; exact h
  | .int _, _, h => by unfold Rep at h ⊢; exact h
  | .str _, _, h => by unfold Rep at h ⊢; exact h
  | .ty _, _, h => by unfold Rep at h ⊢; exact h
  | .fn _, _, h => by unfold Rep at h ⊢; exact h
  | .tup ds, _, h => by
    unfold Rep at h ⊢
    obtain ⟨a, vs, h1, h2, h3⟩ := h
    exact ⟨a, vs, h1, h2.wr hp, Reps.wr hp h3⟩
  | .lst ds, _, h => by
    unfold Rep at h ⊢
    obtain ⟨a, vs, h1, h2, h3⟩ := h
    exact ⟨a, vs, h1, ⟨h2.1, by rw [upd_ne (has_ne (P := al.has) hp h2.1)]; exact h2.2⟩, Reps.wr hp h3⟩
  | .frl ds, _, h => by
    unfold Rep at h ⊢
    obtain ⟨a, vs, h1, h2, h3⟩ := h
    exact ⟨a, vs, h1, h2.wr hp, Reps.wr hp h3⟩
  | .dic ks ds, _, h => by
    unfold Rep at h ⊢
    obtain ⟨a, vs, h1, h2, h3, h4, h5⟩ := h
    exact ⟨a, vs, h1, h2, by rw [upd_ne (has_ne (P := al.has) hp h2)]; exact h3, h4, Reps.wr hp h5⟩
  | .ml k, _, h => by unfold Rep at h ⊢; exact h
theorem Reps.wr {p : Addr} {o : HO} (hp : al.has p) : ∀ {ds : List D} {vs : List V}, Reps K H al ds vs → Reps K (upd H p o) al ds vs
  | [], _, h => by unfold Reps at h ⊢; exact h
  | d :: ds, _, h => by
    unfold Reps at h ⊢
    obtain ⟨v, ws, h1, h2, h3⟩ := h
    exact ⟨v, ws, h1, Rep.wr hp h2, Reps.wr hp h3⟩
end
theorem EnvOk.wr {p : Addr} {o : HO} (hp : al.has p) (h : EnvOk K H al r σ) : EnvOk K (upd H p o) al r σ := ⟨h.len, fun i d q => by
  obtain ⟨v, h1, h2⟩ := h.at_ i d q
  exact ⟨v, h1, h2.wr hp⟩⟩
theorem stay_upd {p : Addr} {o : HO} (a : Addr) (h : H a ≠ none) : (upd H p o) a ≠ none := by
  by_cases e : a = p
  · rw [e, upd_same]; exact fun z => nomatch z
  · rw [upd_ne e]; exact h
/-- the k-th mutable list gets new contents -/
theorem Ext.wr {p : Addr} {o : HO} (hp : p ∈ al.ms) : Ext al H al (upd H p o) :=
  ⟨⟨[], by simp, fun _ h => by simp at h⟩, fun _ h => h, fun _ h => .inl h, fun a u e n => by rw [upd_ne (has_ne (P := (· ∈ al.ms)) hp n)]; exact e, fun a h => stay_upd a h⟩
theorem StoOk.wr (s : StoOk K H al m) {k : Nat} {p : Addr} {ds : List D} {vs : List V} (hk : al.ms[k]? = some p) (rp : Reps K H al ds vs) (n : nms ds = true) : StoOk K (upd H p (.lst vs)) al (m.set k ds) := by
  have hp : p ∈ al.ms := List.mem_of_getElem? hk
  refine ⟨s.nd, by rw [List.length_set]; exact s.len, fun a h => ⟨stay_upd a (s.hd a h).1, (s.hd a h).2⟩, fun j es q => ?_⟩
  have hkl : k < m.length := by rw [← s.len]; exact (List.getElem?_eq_some_iff.mp hk).1
  by_cases e : k = j
  · subst e
    rw [List.getElem?_set_self hkl] at q
    cases q
    exact ⟨p, vs, hk, upd_same, rp.wr (.inl hp), n⟩
  · rw [List.getElem?_set_ne e] at q
    obtain ⟨a, ws, h1, h2, h3, h4⟩ := s.at_ j es q
    refine ⟨a, ws, h1, ?_, h3.wr (.inl hp), h4⟩
    rw [upd_ne fun z => e ?_]
    · exact h2
    · subst z
      exact (List.getElem?_inj (List.getElem?_eq_some_iff.mp hk).1 s.nd).mp (hk.trans h1.symm)
end
end DL

set_option Elab.async false
set_option linter.all false
set_option maxRecDepth 100000
set_option maxHeartbeats 2000000
/-! DL2: judgements by mirrors; the core rules. -/
namespace DL
open PySem PySem.Spec PyProof.Rows L2

section
variable {α β γ δ : Type}
/-- what follows a result -/
def Aft (K : PySem.W.Frag) (Rp : Hp → Led → α → β → Prop) (al : Led) (H : Hp) (r : Res α) (Q : β → Hp → Prop) (E : Str → Hp → Prop) : Prop :=
  match r with
  | .ok a m => ∀ b H' al', Ext al H al' H' → StoOk K H' al' m → Rp H' al' a b → Q b H'
  | .err c m => ∀ H' al', Ext al H al' H' → StoOk K H' al' m → E c H'
  | .bad => False
theorem Aft.ext {K : PySem.W.Frag} {Rp : Hp → Led → α → β → Prop} {al al' : Led} {H H' : Hp} {m : Sto} {r : Res α} {Q : β → Hp → Prop} {E : Str → Hp → Prop} (e : Ext al H al' H') (s : StoOk K H' al' m) (h : Aft K Rp al H r Q E) : Aft K Rp al' H' r Q E := by
  cases r with
  | ok a m2 => exact fun b H2 al2 e2 s2 rp => h b H2 al2 (e.trans s e2) s2 rp
  | err c m2 => exact fun H2 al2 e2 s2 => h H2 al2 (e.trans s e2) s2
  | bad => exact h
theorem Aft.bind {K : PySem.W.Frag} {Rp : Hp → Led → α → β → Prop} {Rp2 : Hp → Led → γ → δ → Prop} {al : Led} {H : Hp} {r : Res α} {f : α → Sto → Res γ} {Q : β → Hp → Prop} {Q2 : δ → Hp → Prop} {E : Str → Hp → Prop}
    (h : Aft K Rp2 al H (r.bind f) Q2 E) (k : ∀ a m b H' al', r = .ok a m → Ext al H al' H' → StoOk K H' al' m → Rp H' al' a b → Aft K Rp2 al' H' (f a m) Q2 E → Q b H') : Aft K Rp al H r Q E := by
  cases r with
  | ok a m => exact fun b H' al' e s rp => k a m b H' al' rfl e s rp (h.ext e s)
  | err c m => exact h
  | bad => exact h
theorem Aft.ok {K : PySem.W.Frag} {Rp : Hp → Led → α → β → Prop} {al : Led} {H : Hp} {a : α} {m : Sto} {b : β} {Q : β → Hp → Prop} {E : Str → Hp → Prop} (h : Aft K Rp al H (.ok a m) Q E) (s : StoOk K H al m) (rp : Rp H al a b) : Q b H :=
  h b H al Ext.refl s rp
end
abbrev RD (K : PySem.W.Frag) : Hp → Led → D → V → Prop := fun H al d v => Rep K H al d v
abbrev RDs (K : PySem.W.Frag) : Hp → Led → List D → List V → Prop := fun H al d v => Reps K H al d v
abbrev RB : Hp → Led → Bool → Bool → Prop := fun _ _ a b => a = b
/-- how a class is caught, by its name -/
abbrev Er (mg : Str → Option Value) (W : WX) (σ : L2.St) : Str → Hp → Prop := fun c H => ∀ cls, mg c = some cls → W cls none σ H
abbrev M1 (α : Type) := Ren → Sto → Res α

def tD (K : PySem.W.Frag) (mg : Str → Option Value) (W : WX) (m : M1 D) : TE := fun σ H Q => ∃ al r s, StoOk K H al s ∧ EnvOk K H al r σ ∧ Aft K (RD K) al H (m r s) Q (Er mg W σ)
def tDT (K : PySem.W.Frag) (mg : Str → Option Value) (W : WX) (m : M1 Bool) : TT := fun σ H Q => ∃ al r s, StoOk K H al s ∧ EnvOk K H al r σ ∧ Aft K RB al H (m r s) Q (Er mg W σ)
def tDA (K : PySem.W.Frag) (mg : Str → Option Value) (W : WX) (m : M1 (List D)) : TA := fun σ H Q => ∃ al r s, StoOk K H al s ∧ EnvOk K H al r σ ∧ Aft K (RDs K) al H (m r s) Q (Er mg W σ)
/-- what follows a statement -/
def AftS (K : PySem.W.Frag) (mg : Str → Option Value) (W : WX) (al : Led) (H : Hp) (x : SR) (D : Ends) : Prop :=
  match x with
  | .nx r m => ∀ σ' H' al', Ext al H al' H' → StoOk K H' al' m → EnvOk K H' al' r σ' → D.nx σ' H'
  | .rt d m => ∀ v H' al', Ext al H al' H' → StoOk K H' al' m → Rep K H' al' d v → D.rt v H'
  | .bk r m => ∀ σ' H' al', Ext al H al' H' → StoOk K H' al' m → EnvOk K H' al' r σ' → D.bk σ' H'
  | .ct r m => ∀ σ' H' al', Ext al H al' H' → StoOk K H' al' m → EnvOk K H' al' r σ' → D.ct σ' H'
  | .ex c r m => ∀ σ' H' al', Ext al H al' H' → StoOk K H' al' m → EnvOk K H' al' r σ' → ∀ cls, mg c = some cls → W cls none σ' H'
  | .bad => False
abbrev MS := Ren → Sto → SR
def tDS (K : PySem.W.Frag) (mg : Str → Option Value) (W : WX) (m : MS) : TS := fun D σ H => ∃ al r s, StoOk K H al s ∧ EnvOk K H al r σ ∧ AftS K mg W al H (m r s) D
/-- the judgements -/
abbrev DE (X : Cx) (W : WX) (e : Expr) (m : M1 D) : Prop := PE X e (tD X.K X.mg W m)
abbrev DT (X : Cx) (W : WX) (e : Expr) (m : M1 Bool) : Prop := PT X e (tDT X.K X.mg W m)
abbrev DW (X : Cx) (W : WX) (e : Expr) (m : M1 Bool) : Prop := PW X e (tDT X.K X.mg W m)
abbrev DA (X : Cx) (W : WX) (es : List Expr) (m : M1 (List D)) : Prop := PA X es (tDA X.K X.mg W m)
abbrev DS (X : Cx) (W : WX) (st : Stmt) (m : MS) : Prop := PS X st (tDS X.K X.mg W m)
abbrev DSs (X : Cx) (W : WX) (st : List Stmt) (m : MS) : Prop := PSs X st (tDS X.K X.mg W m)

theorem AftS.ext {K : PySem.W.Frag} {mg : Str → Option Value} {W : WX} {al al' : Led} {H H' : Hp} {m : Sto} {x : SR} {D : Ends} (e : Ext al H al' H') (s : StoOk K H' al' m) (h : AftS K mg W al H x D) : AftS K mg W al' H' x D := by
  cases x with
  | nx r m2 => exact fun σ' H2 al2 e2 s2 q => h σ' H2 al2 (e.trans s e2) s2 q
  | rt d m2 => exact fun v H2 al2 e2 s2 q => h v H2 al2 (e.trans s e2) s2 q
  | bk r m2 => exact fun σ' H2 al2 e2 s2 q => h σ' H2 al2 (e.trans s e2) s2 q
  | ct r m2 => exact fun σ' H2 al2 e2 s2 q => h σ' H2 al2 (e.trans s e2) s2 q
  | ex c r m2 => exact fun σ' H2 al2 e2 s2 q => h σ' H2 al2 (e.trans s e2) s2 q
  | bad => exact h
/-- an expression, then a statement's end -/
theorem AftS.st {α β : Type} {K : PySem.W.Frag} {mg : Str → Option Value} {W : WX} {Rp : Hp → Led → α → β → Prop} {al : Led} {H : Hp} {x : Res α} {r : Ren} {σ : L2.St} {f : α → Sto → SR} {D : Ends} {Q : β → Hp → Prop} (eo : EnvOk K H al r σ) (h : AftS K mg W al H (x.st r f) D)
    (k : ∀ a m b H' al', x = .ok a m → Ext al H al' H' → StoOk K H' al' m → Rp H' al' a b → AftS K mg W al' H' (f a m) D → Q b H') : Aft K Rp al H x Q (Er mg W σ) := by
  cases x with
  | ok a m => exact fun b H' al' e s rp => k a m b H' al' rfl e s rp (AftS.ext e s h)
  | err c m => exact fun H' al' e s cls hc => h σ H' al' e s (eo.ext e) cls hc
  | bad => exact h
theorem AftS.seq {K : PySem.W.Frag} {mg : Str → Option Value} {W : WX} {al : Led} {H : Hp} {x : SR} {f : MS} {D : Ends} {N : L2.St → Hp → Prop} (h : AftS K mg W al H (x.seq f) D)
    (k : ∀ r m σ' H' al', x = .nx r m → Ext al H al' H' → StoOk K H' al' m → EnvOk K H' al' r σ' → AftS K mg W al' H' (f r m) D → N σ' H') : AftS K mg W al H x { D with nx := N } := by
  cases x with
  | nx r m => exact fun σ' H' al' e s q => k r m σ' H' al' rfl e s q (AftS.ext e s h)
  | rt d m => exact h
  | bk r m => exact h
  | ct r m => exact h
  | ex c r m => exact h
  | bad => exact h

section
variable {X : Cx} {W : WX} {e a b c : Expr} {pos : Pos} {m ma mb mc : M1 D}
theorem pe_w {t t' : TE} (h : PE X e t) (k : ∀ σ H Q, t' σ H Q → t σ H Q) : PE X e t' := ⟨fun pins s σ H Q I q => h.run pins s σ H Q I (k σ H Q q)⟩
theorem pt_w {t t' : TT} (h : PT X e t) (k : ∀ σ H Q, t' σ H Q → t σ H Q) : PT X e t' := ⟨fun pins s σ H Q I q => h.run pins s σ H Q I (k σ H Q q)⟩
theorem pw_w {t t' : TT} (h : PW X e t) (k : ∀ σ H Q, t' σ H Q → t σ H Q) : PW X e t' := ⟨fun wh pins s σ H Q I q => h.run wh pins s σ H Q I (k σ H Q q)⟩
theorem pa_w {es : List Expr} {t t' : TA} (h : PA X es t) (k : ∀ σ H Q, t' σ H Q → t σ H Q) : PA X es t' := ⟨fun pos pins s σ H Q I q => h.run pos pins s σ H Q I (k σ H Q q)⟩
theorem ps_w {st : Stmt} {t t' : TS} (h : PS X st t) (k : ∀ D σ H, t' D σ H → t D σ H) : PS X st t' := ⟨fun pins s σ H D I q => h.run pins s σ H D I (k D σ H q)⟩
theorem pss_w {st : List Stmt} {t t' : TS} (h : PSs X st t) (k : ∀ D σ H, t' D σ H → t D σ H) : PSs X st t' := ⟨fun pins s σ H D I q => h.run pins s σ H D I (k D σ H q)⟩

/-! ### names, constants -/
def mVar (i : Nat) : M1 D := fun r s => match r[i]? with
  | some (some d) => .ok d s
  | _ => .bad
def mC (d : D) : M1 D := fun _ s => .ok d s
theorem de_v (i : Nat) {x : Str} {pos : Pos} (hN : X.N[i]? = some x := by rfl) (hv : Vis X.env.scope x := by first | exact Or.inl rfl | exact Or.inr (Or.inl rfl) | exact Or.inr (Or.inr rfl)) (hd : (x == ("__debug__" : Str)) = false := by decide)
    (hcd : (x == ("__classdict__" : Str)) = false := by decide) : DE X W (.Name x pos) (mVar i) := by
  refine pe_w (pe_var hN hv hd hcd) fun σ H Q ⟨al, r, s, so, eo, af⟩ => ?_
  unfold mVar at af
  cases h : r[i]? with
  | none => rw [h] at af; exact af.elim
  | some o =>
    cases o with
    | none => rw [h] at af; exact af.elim
    | some d =>
      rw [h] at af
      obtain ⟨v, h1, h2⟩ := eo.at_ i d h
      exact ⟨v, h1, af.ok so h2⟩
theorem de_c {d : D} {v : V} (h : PE X e (tC v)) (r : ∀ K H al, Rep K H al d v) : DE X W e (mC d) := pe_w h fun σ H Q ⟨al, _, s, so, eo, af⟩ => Aft.ok (a := d) (m := s) af so (r _ _ _)
theorem de_int {i : Int} {j pos} : DE X W (.Constant (.int i) j pos) (mC (.int i)) := de_c pe_int fun _ _ _ => by unfold Rep; rfl
theorem de_bl {i : Bool} {j pos} : DE X W (.Constant (.bool i) j pos) (mC (.bl i)) := de_c pe_bl fun _ _ _ => by unfold Rep; rfl
theorem de_non {j pos} : DE X W (.Constant .none j pos) (mC .non) := de_c pe_non fun _ _ _ => by unfold Rep; rfl
theorem de_str {i : Str} {j pos} : DE X W (.Constant (.str i) j pos) (mC (.str i)) := de_c pe_str fun _ _ _ => by unfold Rep; rfl
theorem de_gI {x : Str} {i : Int} {t : Tok} {pos : Pos} (hm : X.mg x = some (.int i t)) (hg : Gl X x := by rfl) (hd : (x == ("__debug__" : Str)) = false := by decide) : DE X W (.Name x pos) (mC (.int i)) := de_c (pe_glob hg hm (v := .int i) ⟨t, rfl⟩ hd) fun _ _ _ => by unfold Rep; rfl
theorem de_gS {x : Str} {i : Str} {t : Tok} {pos : Pos} (hm : X.mg x = some (.str i t)) (hg : Gl X x := by rfl) (hd : (x == ("__debug__" : Str)) = false := by decide) : DE X W (.Name x pos) (mC (.str i)) := de_c (pe_glob hg hm (v := .str i) ⟨t, rfl⟩ hd) fun _ _ _ => by unfold Rep; rfl

/-! ### operators -/
abbrev Op2 := D → D → Sto → Res D
/-- the values' operation is the data's -/
def Op2Ok (K : PySem.W.Frag) (r : R2) (f : Op2) : Prop := ∀ (H : Hp) (al : Led) (s : Sto) (x y : V) (dx dy : D) (Q : VK), StoOk K H al s → Rep K H al dx x → Rep K H al dy y → Aft K (RD K) al H (f dx dy s) Q (fun _ _ => False) → r x y H Q
def mOp (f : Op2) (ma mb : M1 D) : M1 D := fun r s => (ma r s).bind fun x s1 => (mb r s1).bind fun y s2 => f x y s2
/-- no error of the operation itself -/
def NoErr {α : Type} (r : Res α) : Prop := ∀ c s, r ≠ .err c s
theorem Aft.noErr {α β : Type} {K : PySem.W.Frag} {Rp : Hp → Led → α → β → Prop} {al : Led} {H : Hp} {r : Res α} {Q : β → Hp → Prop} {E E' : Str → Hp → Prop} (n : NoErr r) (h : Aft K Rp al H r Q E) : Aft K Rp al H r Q E' := by
  cases r with
  | ok a m => exact h
  | err c m => exact absurd rfl (n c m)
  | bad => exact h
theorem de_op2 {r : R2} {f : Op2} {t : TE} (h : PE X e t) (ht : ∀ σ H Q, tD X.K X.mg W ma σ H (fun x H1 => tD X.K X.mg W mb σ H1 fun y H2 => r x y H2 Q) → t σ H Q) (hf : Op2Ok X.K r f) (hn : ∀ x y s, NoErr (f x y s)) : DE X W e (mOp f ma mb) := by
  refine pe_w h fun σ H Q ⟨al, rr, s, so, eo, af⟩ => ht σ H Q ⟨al, rr, s, so, eo, ?_⟩
  refine af.bind fun x s1 v1 H1 al1 _ e1 so1 rp1 af1 => ⟨al1, rr, s1, so1, eo.ext e1, ?_⟩
  refine af1.bind fun y s2 v2 H2 al2 _ e2 so2 rp2 af2 => ?_
  exact hf H2 al2 s2 v1 v2 x y Q so2 (rp1.ext e2) rp2 (af2.noErr (hn _ _ _))
theorem de_op {op : Operator} {r : R2} {f : Op2} (ho : OpR X (binaryOp op) r) (hf : Op2Ok X.K r f) (hn : ∀ x y s, NoErr (f x y s)) (ha : DE X W a ma) (hb : DE X W b mb) : DE X W (.BinOp a op b pos) (mOp f ma mb) :=
  de_op2 (pe_op ho ha hb) (fun _ _ _ h => h) hf hn
theorem de_cmp {op : CmpOp} {r : R2} {f : Op2} (ho : OpR X (compareOp op) r) (hf : Op2Ok X.K r f) (hn : ∀ x y s, NoErr (f x y s)) (hm : behindInMarks op b = false) (ha : DE X W a ma) (hb : DE X W b mb) : DE X W (.Compare a [op] [b] pos) (mOp f ma mb) :=
  de_op2 (pe_cmpR ho ha hb hm) (fun _ _ _ h => h) hf hn
/-- data as a truth -/
def D.tru : D → Option Bool
  | .bl b => some b
  | _ => none
def mB (m : M1 D) : M1 Bool := fun r s => (m r s).bind fun d s1 => match d with
  | .bl b => .ok b s1
  | _ => .bad
theorem rep_bl {K : PySem.W.Frag} {H : Hp} {al : Led} {b : Bool} {v : V} (h : Rep K H al (.bl b) v) : v = .bl b := by unfold Rep at h; exact h
theorem rep_int {K : PySem.W.Frag} {H : Hp} {al : Led} {b : Int} {v : V} (h : Rep K H al (.int b) v) : v = .int b := by unfold Rep at h; exact h
theorem rep_str {K : PySem.W.Frag} {H : Hp} {al : Led} {b : Str} {v : V} (h : Rep K H al (.str b) v) : v = .str b := by unfold Rep at h; exact h
theorem rep_non {K : PySem.W.Frag} {H : Hp} {al : Led} {v : V} (h : Rep K H al .non v) : v = .non := by unfold Rep at h; exact h
theorem rep_int' {K : PySem.W.Frag} {H : Hp} {al : Led} {b : Int} : Rep K H al (.int b) (.int b) := by unfold Rep; rfl
theorem rep_bl' {K : PySem.W.Frag} {H : Hp} {al : Led} {b : Bool} : Rep K H al (.bl b) (.bl b) := by unfold Rep; rfl
theorem rep_str' {K : PySem.W.Frag} {H : Hp} {al : Led} {b : Str} : Rep K H al (.str b) (.str b) := by unfold Rep; rfl
theorem rep_non' {K : PySem.W.Frag} {H : Hp} {al : Led} : Rep K H al .non .non := by unfold Rep; rfl
theorem tB_of {m : M1 D} {σ : L2.St} {H : Hp} {Q : Bool → Hp → Prop} {K : PySem.W.Frag} {mg : Str → Option Value} (h : tDT K mg W (mB m) σ H Q) : tD K mg W m σ H fun x H' => ∃ k, x = .bl k ∧ Q k H' := by
  obtain ⟨al, rr, s, so, eo, af⟩ := h
  refine ⟨al, rr, s, so, eo, af.bind fun d s1 v H1 al1 _ e1 so1 rp af1 => ?_⟩
  cases d with
  | bl b => exact ⟨b, rep_bl rp, af1.ok so1 rfl⟩
  | _ => exact af1.elim
theorem dt_cmp {op : CmpOp} {r : R2} {f : Op2} (ho : OpR X (compareOp op) r) (hf : Op2Ok X.K r f) (hn : ∀ x y s, NoErr (f x y s)) (hm : behindInMarks op b = false) (ha : DE X W a ma) (hb : DE X W b mb) : DT X W (.Compare a [op] [b] pos) (mB (mOp f ma mb)) := by
  refine pt_w (pt_cmpR ho ha hb hm) fun σ H Q h => ?_
  obtain ⟨al, rr, s, so, eo, af⟩ := tB_of h
  refine ⟨al, rr, s, so, eo, ?_⟩
  refine af.bind fun x s1 v1 H1 al1 _ e1 so1 rp1 af1 => ⟨al1, rr, s1, so1, eo.ext e1, ?_⟩
  refine af1.bind fun y s2 v2 H2 al2 _ e2 so2 rp2 af2 => ?_
  exact hf H2 al2 s2 v1 v2 x y _ so2 (rp1.ext e2) rp2 (af2.noErr (hn _ _ _))
/-- a value that is a bool, as a test -/
theorem dt_val (h : DE X W e m) (he : ∀ whole, isTrue e X.env whole = (do let v ← whole; standAt e.pos; holding [v] (truthy v)) := by intro _; rfl) : DT X W e (mB m) :=
  pt_w (pt_val h he) fun σ H Q q => tB_of q
def mAnd (ma mb : M1 Bool) : M1 Bool := fun r s => (ma r s).bind fun b s1 => if b then mb r s1 else .ok false s1
def mOr (ma mb : M1 Bool) : M1 Bool := fun r s => (ma r s).bind fun b s1 => if b then .ok true s1 else mb r s1
def mNot (ma : M1 Bool) : M1 Bool := fun r s => (ma r s).bind fun b s1 => .ok (!b) s1
section
variable {na nb : M1 Bool} {rest : List Expr}
theorem dw_and1 (ha : DT X W a na) : DW X W (.BoolOp .And [a] pos) na := pw_and1 ha
theorem dw_or1 (ha : DT X W a na) : DW X W (.BoolOp .Or [a] pos) na := pw_or1 ha
theorem dw_and (ha : DT X W a na) (hb : DW X W (.BoolOp .And (b :: rest) pos) nb) : DW X W (.BoolOp .And (a :: b :: rest) pos) (mAnd na nb) := by
  refine pw_w (pw_and ha hb) fun σ H Q ⟨al, rr, s, so, eo, af⟩ => ⟨al, rr, s, so, eo, ?_⟩
  refine af.bind fun x s1 v1 H1 al1 _ e1 so1 rp1 af1 => ?_
  subst rp1
  cases x with
  | true => exact iteT ⟨al1, rr, s1, so1, eo.ext e1, af1⟩
  | false => exact iteF (Aft.ok (a := false) (m := s1) af1 so1 rfl)
theorem dw_or (ha : DT X W a na) (hb : DW X W (.BoolOp .Or (b :: rest) pos) nb) : DW X W (.BoolOp .Or (a :: b :: rest) pos) (mOr na nb) := by
  refine pw_w (pw_or ha hb) fun σ H Q ⟨al, rr, s, so, eo, af⟩ => ⟨al, rr, s, so, eo, ?_⟩
  refine af.bind fun x s1 v1 H1 al1 _ e1 so1 rp1 af1 => ?_
  subst rp1
  cases x with
  | true => exact iteT (Aft.ok (a := true) (m := s1) af1 so1 rfl)
  | false => exact iteF ⟨al1, rr, s1, so1, eo.ext e1, af1⟩
theorem dt_w (h : DW X W a na) : DT X W a na := PW.pt h
theorem dt_not (ha : DT X W a na) : DT X W (.UnaryOp .Not a pos) (mNot na) := by
  refine pt_w (pt_not ha) fun σ H Q ⟨al, rr, s, so, eo, af⟩ => ⟨al, rr, s, so, eo, ?_⟩
  refine af.bind fun x s1 v1 H1 al1 _ e1 so1 rp1 af1 => ?_
  subst rp1
  exact Aft.ok (a := !x) (m := s1) af1 so1 rfl
end
/-- and, or, not as values, of bools -/
def mAndV (ma mb : M1 D) : M1 D := fun r s => (ma r s).bind fun d s1 => match d with
  | .bl true => mb r s1
  | .bl false => .ok (.bl false) s1
  | _ => .bad
def mOrV (ma mb : M1 D) : M1 D := fun r s => (ma r s).bind fun d s1 => match d with
  | .bl true => .ok (.bl true) s1
  | .bl false => mb r s1
  | _ => .bad
def mNotV (ma : M1 D) : M1 D := fun r s => (ma r s).bind fun d s1 => match d with
  | .bl b => .ok (.bl (!b)) s1
  | _ => .bad
theorem de_one {op} (h : DE X W a ma) : DE X W (.BoolOp op [a] pos) ma := pe_one h
theorem de_and {rest : List Expr} (ha : DE X W a ma) (hb : DE X W (.BoolOp .And (b :: rest) pos) mb) : DE X W (.BoolOp .And (a :: b :: rest) pos) (mAndV ma mb) := by
  refine pe_w (pe_and ha hb) fun σ H Q ⟨al, rr, s, so, eo, af⟩ => ⟨al, rr, s, so, eo, ?_⟩
  refine af.bind fun x s1 v1 H1 al1 _ e1 so1 rp1 af1 => ?_
  cases x with
  | bl k =>
    have := rep_bl rp1; subst this
    cases k with
    | true => exact ⟨true, rfl, iteT ⟨al1, rr, s1, so1, eo.ext e1, af1⟩⟩
    | false => exact ⟨false, rfl, iteF (Aft.ok (a := D.bl false) (m := s1) af1 so1 rep_bl')⟩
  | _ => exact af1.elim
theorem de_or {rest : List Expr} (ha : DE X W a ma) (hb : DE X W (.BoolOp .Or (b :: rest) pos) mb) : DE X W (.BoolOp .Or (a :: b :: rest) pos) (mOrV ma mb) := by
  refine pe_w (pe_or ha hb) fun σ H Q ⟨al, rr, s, so, eo, af⟩ => ⟨al, rr, s, so, eo, ?_⟩
  refine af.bind fun x s1 v1 H1 al1 _ e1 so1 rp1 af1 => ?_
  cases x with
  | bl k =>
    have := rep_bl rp1; subst this
    cases k with
    | true => exact ⟨true, rfl, iteT (Aft.ok (a := D.bl true) (m := s1) af1 so1 rep_bl')⟩
    | false => exact ⟨false, rfl, iteF ⟨al1, rr, s1, so1, eo.ext e1, af1⟩⟩
  | _ => exact af1.elim
theorem de_not (ha : DE X W a ma) : DE X W (.UnaryOp .Not a pos) (mNotV ma) := by
  refine pe_w (pe_not ha) fun σ H Q ⟨al, rr, s, so, eo, af⟩ => ⟨al, rr, s, so, eo, ?_⟩
  refine af.bind fun x s1 v1 H1 al1 _ e1 so1 rp1 af1 => ?_
  cases x with
  | bl k =>
    have := rep_bl rp1; subst this
    exact ⟨k, rfl, Aft.ok (a := D.bl (!k)) (m := s1) af1 so1 rep_bl'⟩
  | _ => exact af1.elim
/-- a if t else b -/
def mIf {α : Type} (t : M1 Bool) (ma mb : M1 α) : M1 α := fun r s => (t r s).bind fun b s1 => if b then ma r s1 else mb r s1
theorem de_if {t : M1 Bool} (hc : DT X W c t) (ha : DE X W a ma) (hb : DE X W b mb) : DE X W (.IfExp c a b pos) (mIf t ma mb) := by
  refine pe_w (pe_ifExp hc ha hb) fun σ H Q ⟨al, rr, s, so, eo, af⟩ => ⟨al, rr, s, so, eo, ?_⟩
  refine af.bind fun x s1 v1 H1 al1 _ e1 so1 rp1 af1 => ?_
  subst rp1
  cases x with
  | true => exact iteT ⟨al1, rr, s1, so1, eo.ext e1, af1⟩
  | false => exact iteF ⟨al1, rr, s1, so1, eo.ext e1, af1⟩
/-! ### arguments, displays -/
def mNil : M1 (List D) := fun _ s => .ok [] s
def mCons (m : M1 D) (ms : M1 (List D)) : M1 (List D) := fun r s => (m r s).bind fun d s1 => (ms r s1).bind fun ds s2 => .ok (d :: ds) s2
theorem da_nil : DA X W [] mNil := pa_w pa_nil fun σ H Q ⟨al, rr, s, so, eo, af⟩ => Aft.ok (a := []) (m := s) af so Reps.nil
theorem da_cons {es : List Expr} {ms : M1 (List D)} (ha : DE X W e m) (hr : DA X W es ms) (hs : starEach (e :: es) X.env = (false, eval e X.env) :: starEach es X.env := by rfl) : DA X W (e :: es) (mCons m ms) := by
  refine pa_w (pa_cons ha hr hs) fun σ H Q ⟨al, rr, s, so, eo, af⟩ => ⟨al, rr, s, so, eo, ?_⟩
  refine af.bind fun x s1 v1 H1 al1 _ e1 so1 rp1 af1 => ⟨al1, rr, s1, so1, eo.ext e1, ?_⟩
  refine af1.bind fun y s2 v2 H2 al2 _ e2 so2 rp2 af2 => ?_
  exact Aft.ok (a := x :: y) (m := s2) af2 so2 (Reps.cons (rp1.ext e2) rp2)
def mTup (ms : M1 (List D)) : M1 D := fun r s => (ms r s).bind fun ds s1 => if ds.length ≤ sizeLine then .ok (.tup ds) s1 else .bad
def mLst (ms : M1 (List D)) : M1 D := fun r s => (ms r s).bind fun ds s1 => if ds.length ≤ sizeLine then .ok (.lst ds) s1 else .bad
theorem rep_tup_new {K : PySem.W.Frag} {H : Hp} {al : Led} {s : Sto} {ds : List D} {vs : List V} {p : Addr} (so : StoOk K H al s) (r : Reps K H al ds vs) (hp : H p = none) : Rep K (upd H p (.tup vs)) al (.tup ds) (.ref p) := by
  unfold Rep
  exact ⟨p, vs, rfl, .inl ⟨so.ne hp, upd_same⟩, r.ext (Ext.new so hp)⟩
theorem rep_lst_new {K : PySem.W.Frag} {H : Hp} {al : Led} {s : Sto} {ds : List D} {vs : List V} {p : Addr} (so : StoOk K H al s) (r : Reps K H al ds vs) (hp : H p = none) : Rep K (upd H p (.lst vs)) al (.lst ds) (.ref p) := by
  unfold Rep
  exact ⟨p, vs, rfl, ⟨so.ne hp, upd_same⟩, r.ext (Ext.new so hp)⟩
theorem Aft.tup {K : PySem.W.Frag} {al : Led} {H : Hp} {s : Sto} {ds : List D} {vs : List V} {p : Addr} {Q : VK} {E : Str → Hp → Prop} (h : Aft K (RD K) al H (.ok (.tup ds) s) Q E) (so : StoOk K H al s) (r : Reps K H al ds vs) (hp : H p = none) : Q (.ref p) (upd H p (.tup vs)) :=
  h (.ref p) _ al (Ext.new so hp) (so.new hp) (rep_tup_new so r hp)
theorem Aft.lst {K : PySem.W.Frag} {al : Led} {H : Hp} {s : Sto} {ds : List D} {vs : List V} {p : Addr} {Q : VK} {E : Str → Hp → Prop} (h : Aft K (RD K) al H (.ok (.lst ds) s) Q E) (so : StoOk K H al s) (r : Reps K H al ds vs) (hp : H p = none) : Q (.ref p) (upd H p (.lst vs)) :=
  h (.ref p) _ al (Ext.new so hp) (so.new hp) (rep_lst_new so r hp)
theorem de_tup {es : List Expr} {x1} {ms : M1 (List D)} (h : DA X W es ms) : DE X W (.Tuple es x1 pos) (mTup ms) := by
  refine pe_w (pe_tup h) fun σ H Q ⟨al, rr, s, so, eo, af⟩ => ⟨al, rr, s, so, eo, ?_⟩
  refine af.bind fun x s1 v1 H1 al1 _ e1 so1 rp1 af1 => ?_
  have hl : x.length = v1.length := Reps.length rp1
  by_cases hz : x.length ≤ sizeLine
  · rw [if_pos hz] at af1
    exact ⟨by rw [← hl]; exact hz, fun p hp => af1.tup so1 rp1 hp⟩
  · rw [if_neg hz] at af1; exact af1.elim
theorem de_lst {es : List Expr} {ms : M1 (List D)} (h : DA X W es ms) : DE X W (.List es pos) (mLst ms) := by
  refine pe_w (pe_lst h) fun σ H Q ⟨al, rr, s, so, eo, af⟩ => ⟨al, rr, s, so, eo, ?_⟩
  refine af.bind fun x s1 v1 H1 al1 _ e1 so1 rp1 af1 => ?_
  have hl : x.length = v1.length := Reps.length rp1
  by_cases hz : x.length ≤ sizeLine
  · rw [if_pos hz] at af1
    exact ⟨by rw [← hl]; exact hz, fun p hp => af1.lst so1 rp1 hp⟩
  · rw [if_neg hz] at af1; exact af1.elim
/-- a list that will change: its own number -/
abbrev Led.more (al : Led) (p : Addr) : Led := ⟨al.ms ++ [p], al.hid⟩
theorem Ext.mut {K : PySem.W.Frag} {al : Led} {H : Hp} {s : Sto} {p : Addr} {o : HO} (so : StoOk K H al s) (hp : H p = none) : Ext al H (al.more p) (upd H p o) :=
  ⟨⟨[p], rfl, fun a ha => by rw [List.mem_singleton.mp ha]; exact hp⟩, fun _ h => h, fun _ h => .inl h, (Ext.new so hp).kept, (Ext.new so hp).stay⟩
theorem StoOk.mut {K : PySem.W.Frag} {al : Led} {H : Hp} {s : Sto} {p : Addr} {ds : List D} {vs : List V} (so : StoOk K H al s) (hp : H p = none) (r : Reps K H al ds vs) (n : nms ds = true) : StoOk K (upd H p (.lst vs)) (al.more p) (s ++ [ds]) := by
  have e := Ext.mut (o := .lst vs) so hp
  have np := so.ne hp
  refine ⟨List.nodup_append.mpr ⟨so.nd, by simp, fun a ha b hb => by rw [List.mem_singleton.mp hb]; exact fun z => np (z ▸ .inl ha)⟩, by simp [so.len], fun a h => ⟨e.stay a (so.hd a h).1, fun z => (List.mem_append.mp z).elim (so.hd a h).2 fun z => (so.hd a h).1 (by rw [List.mem_singleton.mp z]; exact hp)⟩, fun k es q => ?_⟩
  by_cases hk : k < s.length
  · rw [List.getElem?_append_left hk] at q
    obtain ⟨a, ws, h1, h2, h3, h4⟩ := so.at_ k es q
    have ha : a ∈ al.ms := List.mem_of_getElem? h1
    refine ⟨a, ws, e.ix h1, ?_, h3.ext e, h4⟩
    rw [upd_ne (fun z => np (by rw [← z]; exact .inl ha))]
    exact h2
  · rw [List.getElem?_append_right (by omega)] at q
    have hk0 : k - s.length = 0 := by
      have := (List.getElem?_eq_some_iff.mp q).1
      simp at this; omega
    rw [hk0] at q
    have hk' : k = s.length := by omega
    have q' : ds = es := by simpa using q
    subst q'
    refine ⟨p, vs, ?_, upd_same, r.ext e, n⟩
    show (al.ms ++ [p])[k]? = _
    rw [hk', ← so.len, List.getElem?_append_right (Nat.le_refl _)]
    simp
def mLstM (ms : M1 (List D)) : M1 D := fun r s => (ms r s).bind fun ds s1 => if ds.length ≤ sizeLine ∧ nms ds = true then .ok (.ml s1.length) (s1 ++ [ds]) else .bad
theorem Aft.mut {K : PySem.W.Frag} {al : Led} {H : Hp} {s : Sto} {ds : List D} {vs : List V} {p : Addr} {Q : VK} {E : Str → Hp → Prop} (h : Aft K (RD K) al H (.ok (.ml s.length) (s ++ [ds])) Q E) (so : StoOk K H al s) (r : Reps K H al ds vs) (n : nms ds = true) (hp : H p = none) : Q (.ref p) (upd H p (.lst vs)) := by
  refine h (.ref p) _ (al.more p) (Ext.mut so hp) (so.mut hp r n) ?_
  show Rep _ _ _ _ _
  unfold Rep
  refine ⟨p, rfl, ?_⟩
  show (al.ms ++ [p])[s.length]? = _
  rw [← so.len, List.getElem?_append_right (Nat.le_refl _)]
  simp
theorem de_lstM {es : List Expr} {ms : M1 (List D)} (h : DA X W es ms) : DE X W (.List es pos) (mLstM ms) := by
  refine pe_w (pe_lst h) fun σ H Q ⟨al, rr, s, so, eo, af⟩ => ⟨al, rr, s, so, eo, ?_⟩
  refine af.bind fun x s1 v1 H1 al1 _ e1 so1 rp1 af1 => ?_
  have hl : x.length = v1.length := Reps.length rp1
  by_cases hz : x.length ≤ sizeLine ∧ nms x = true
  · rw [if_pos hz] at af1
    exact ⟨by rw [← hl]; exact hz.1, fun p hp => af1.mut so1 rp1 hz.2 hp⟩
  · rw [if_neg hz] at af1; exact af1.elim
end
end DL

set_option Elab.async false
set_option linter.all false
set_option maxRecDepth 100000
set_option maxHeartbeats 2000000
/-! DL3: statements, loops, comprehensions, defs and their calls. -/
namespace DL
open PySem PySem.Spec PyProof.Rows L2

section
variable {X : Cx} {W : WX} {e a b c : Expr} {pos : Pos} {m ma mb mc : M1 D} {st : Stmt} {sts : List Stmt} {n1 n2 : MS}
/-! ### blocks -/
def mNext : MS := fun r s => .nx r s
def mSeq (n1 n2 : MS) : MS := fun r s => (n1 r s).seq n2
theorem AftS.nx {K : PySem.W.Frag} {mg : Str → Option Value} {W : WX} {al : Led} {H : Hp} {r : Ren} {s : Sto} {D : Ends} {σ : L2.St} (h : AftS K mg W al H (.nx r s) D) (so : StoOk K H al s) (eo : EnvOk K H al r σ) : D.nx σ H := h σ H al Ext.refl so eo
theorem dss_nil : DSs X W [] mNext := pss_w pss_nil fun D σ H ⟨al, r, s, so, eo, af⟩ => AftS.nx (r := r) (s := s) af so eo
theorem dss_cons (h1 : DS X W st n1) (h2 : DSs X W sts n2) : DSs X W (st :: sts) (mSeq n1 n2) := by
  refine pss_w (pss_cons h1 h2) fun D σ H ⟨al, r, s, so, eo, af⟩ => ⟨al, r, s, so, eo, ?_⟩
  exact AftS.seq af fun r1 s1 σ1 H1 al1 _ e1 so1 eo1 af1 => ⟨al1, r1, s1, so1, eo1, af1⟩
theorem dss_one (h1 : DS X W st n1) : DSs X W [st] n1 := pss_w (pss_one h1) fun _ _ _ h => h
theorem ds_pass : DS X W (.Pass pos) mNext := ps_w ps_pass fun D σ H ⟨al, r, s, so, eo, af⟩ => AftS.nx (r := r) (s := s) af so eo
theorem ds_doc {x j pos'} : DS X W (.Expr (.Constant (.str x) j pos) pos') mNext := ps_w ps_doc fun D σ H ⟨al, r, s, so, eo, af⟩ => AftS.nx (r := r) (s := s) af so eo
def mBreak : MS := fun r s => .bk r s
def mCont : MS := fun r s => .ct r s
theorem ds_break : DS X W (.Break pos) mBreak := ps_w ps_break fun D σ H ⟨al, r, s, so, eo, af⟩ => (show AftS _ _ _ _ _ (.bk r s) D from af) σ H al Ext.refl so eo
theorem ds_cont : DS X W (.Continue pos) mCont := ps_w ps_continue fun D σ H ⟨al, r, s, so, eo, af⟩ => (show AftS _ _ _ _ _ (.ct r s) D from af) σ H al Ext.refl so eo
/-- code that is never come to -/
def mNever : MS := fun _ _ => .bad
theorem ds_never : DS X W st mNever := ps_w ps_never fun D σ H ⟨al, r, s, so, eo, af⟩ => af
theorem dss_never : DSs X W sts mNever := pss_w pss_never fun D σ H ⟨al, r, s, so, eo, af⟩ => af
def tNeverE : TE := fun _ _ _ => False
theorem de_never : DE X W e (fun _ _ => .bad) := ⟨fun _ _ _ _ _ _ ⟨al, r, s, so, eo, af⟩ => af.elim⟩
theorem dt_never : DT X W e (fun _ _ => .bad) := ⟨fun _ _ _ _ _ _ ⟨al, r, s, so, eo, af⟩ => af.elim⟩
def mExpr (m : M1 D) : MS := fun r s => (m r s).st r fun _ s1 => .nx r s1
theorem ds_expr (he : DE X W e m) (hs : swapsWith e none pos.line X.env = pure false := by rfl) : DS X W (.Expr e pos) (mExpr m) := by
  refine ps_w (ps_expr he hs) fun D σ H ⟨al, r, s, so, eo, af⟩ => ⟨al, r, s, so, eo, ?_⟩
  exact AftS.st eo af fun d s1 v H1 al1 _ e1 so1 rp1 af1 => AftS.nx (r := r) (s := s1) af1 so1 (eo.ext e1)
def mRet (m : M1 D) : MS := fun r s => (m r s).st r fun d s1 => .rt d s1
theorem ds_ret (he : DE X W e m) : DS X W (.Return (some e) pos) (mRet m) := by
  refine ps_w (ps_ret he) fun D σ H ⟨al, r, s, so, eo, af⟩ => ⟨al, r, s, so, eo, ?_⟩
  exact AftS.st eo af fun d s1 v H1 al1 _ e1 so1 rp1 af1 => af1 v H1 al1 Ext.refl so1 rp1
def mRetN : MS := fun _ s => .rt .non s
theorem ds_retN : DS X W (.Return none pos) mRetN := ps_w ps_retN fun D σ H ⟨al, r, s, so, eo, af⟩ => (show AftS _ _ _ _ _ (.rt .non s) D from af) .non H al Ext.refl so rep_non'
def mIfS (t : M1 Bool) (n1 n2 : MS) : MS := fun r s => (t r s).st r fun b s1 => if b then n1 r s1 else n2 r s1
theorem ds_if {as bs : List Stmt} {t : M1 Bool} (hc : DT X W c t) (ha : DSs X W as n1) (hb : DSs X W bs n2) : DS X W (.If c as bs pos) (mIfS t n1 n2) := by
  refine ps_w (ps_if hc ha hb) fun D σ H ⟨al, r, s, so, eo, af⟩ => ⟨al, r, s, so, eo, ?_⟩
  refine AftS.st eo af fun d s1 v H1 al1 _ e1 so1 rp1 af1 => ?_
  subst rp1
  cases d with
  | true => exact iteT ⟨al1, r, s1, so1, eo.ext e1, af1⟩
  | false => exact iteF ⟨al1, r, s1, so1, eo.ext e1, af1⟩

/-! ### targets -/
abbrev MG := D → Ren → Option Ren
def tG (K : PySem.W.Frag) (g : MG) : TG := fun v σ H Q => ∃ al r d r', EnvOk K H al r σ ∧ Rep K H al d v ∧ g d r = some r' ∧ ∀ σ', EnvOk K H al r' σ' → Q σ' H
abbrev MGs := List D → Ren → Option Ren
def tGs (K : PySem.W.Frag) (g : MGs) : TGs := fun vs σ H Q => ∃ al r ds r', EnvOk K H al r σ ∧ Reps K H al ds vs ∧ g ds r = some r' ∧ ∀ σ', EnvOk K H al r' σ' → Q σ' H
abbrev DG (X : Cx) (tg : Expr) (g : MG) : Prop := PG X tg (tG X.K g)
abbrev DGs (X : Cx) (tg : List Expr) (g : MGs) : Prop := PGs X tg (tGs X.K g)
def gN (i : Nat) : MG := fun d r => some (r.set i (some d))
theorem EnvOk.set {K : PySem.W.Frag} {H : Hp} {al : Led} {r : Ren} {σ : L2.St} {d : D} {v : V} (eo : EnvOk K H al r σ) (rp : Rep K H al d v) (i : Nat) : EnvOk K H al (r.set i (some d)) (σ.set i (some v)) := by
  refine ⟨by rw [List.length_set, List.length_set]; exact eo.len, fun j x h => ?_⟩
  by_cases hj : i = j
  · subst hj
    by_cases hl : i < r.length
    · rw [List.getElem?_set_self hl] at h
      cases h
      exact ⟨v, by rw [List.getElem?_set_self (by rw [eo.len]; exact hl)], rp⟩
    · rw [List.getElem?_eq_none (by simpa using hl)] at h; cases h
  · rw [List.getElem?_set_ne hj] at h
    obtain ⟨u, h1, h2⟩ := eo.at_ j x h
    exact ⟨u, by rw [List.getElem?_set_ne hj]; exact h1, h2⟩
theorem pg_w {tg : Expr} {t t' : TG} (h : PG X tg t) (k : ∀ v σ H Q, t' v σ H Q → t v σ H Q) : PG X tg t' := ⟨fun pins s σ H v u Q I r q => h.run pins s σ H v u Q I r (k v σ H Q q)⟩
theorem pgs_w {tg : List Expr} {t t' : TGs} (h : PGs X tg t) (k : ∀ v σ H Q, t' v σ H Q → t v σ H Q) : PGs X tg t' := ⟨fun pins s σ H v u Q I r q => h.run pins s σ H v u Q I r (k v σ H Q q)⟩
theorem dg_n (i : Nat) {x : Str} (hN : X.N.Nodup) (hi : X.N[i]? = some x := by rfl) (hx : Loc X.env.scope x := by first | exact Or.inl rfl | exact Or.inr rfl) (hf : X.fn x = true ∨ X.env.scope.names.lookup x = some .local := by first | exact .inl rfl | exact .inr rfl | assumption) : DG X (.Name x pos) (gN i) :=
  pg_w (pg_name hN hi hx hf) fun v σ H Q ⟨al, r, d, r', eo, rp, h, k⟩ => by
    cases h
    exact k _ (eo.set rp i)
def gNilM : MGs := fun ds r => match ds with
  | [] => some r
  | _ => none
def gConsM (g : MG) (gs : MGs) : MGs := fun ds r => match ds with
  | d :: ds => (g d r).bind fun r1 => gs ds r1
  | _ => none
theorem dgs_nil : DGs X [] gNilM := pgs_w pgs_nil fun v σ H Q ⟨al, r, d, r', eo, rp, h, k⟩ => by
  cases d with
  | nil =>
    cases h
    unfold Reps at rp
    exact ⟨rp, k _ eo⟩
  | cons _ _ => cases h
theorem dgs_cons {e : Expr} {es : List Expr} {g : MG} {gs : MGs} (h1 : DG X e g) (h2 : DGs X es gs) (hs : (assignEach (e :: es) X.env).map (·.2) = assign e X.env :: (assignEach es X.env).map (·.2) := by rfl) : DGs X (e :: es) (gConsM g gs) :=
  pgs_w (pgs_cons h1 h2 hs) fun v σ H Q ⟨al, r, d, r', eo, rp, h, k⟩ => by
    cases d with
    | nil => cases h
    | cons d ds =>
      unfold Reps at rp
      obtain ⟨v, ws, rfl, rp1, rp2⟩ := rp
      have h : (g d r).bind (fun r1 => gs ds r1) = some r' := h
      cases hg : g d r with
      | none => rw [hg] at h; cases h
      | some r1 =>
        rw [hg] at h
        exact ⟨v, ws, rfl, al, r, d, r1, eo, rp1, hg, fun σ1 eo1 => ⟨al, r1, ds, r', eo1, rp2, h, k⟩⟩
def gTupM (n : Nat) (gs : MGs) : MG := fun d r => match d with
  | .tup ds => if ds.length = n then gs ds r else none
  | _ => none
theorem dg_tup {es : List Expr} {k : Nat} {gs : MGs} {n : Nat} (hc : X.calm = true) (h : DGs X es gs) (hn : (assignEach es X.env).length = n := by rfl) (hst : (assignEach es X.env).findIdx? (·.1) = none := by rfl) : DG X (.Tuple es k pos) (gTupM n gs) :=
  pg_w (pg_tup hc h hn hst) fun v σ H Q ⟨al, r, d, r', eo, rp, h, k⟩ => by
    cases d with
    | tup ds =>
      unfold Rep at rp
      obtain ⟨a, vs, rfl, h2, h3⟩ := rp
      have h : (if ds.length = n then gs ds r else none) = some r' := h
      by_cases hl : ds.length = n
      · rw [if_pos hl] at h
        exact ⟨a, vs, rfl, h2.sq, by rw [← Reps.length h3]; exact hl, al, r, ds, r', eo, h3, h, k⟩
      · rw [if_neg hl] at h; cases h
    | _ => cases h
/-- target = value -/
def mAsg (m : M1 D) (g : MG) : MS := fun r s => (m r s).st r fun d s1 => match g d r with
  | some r' => .nx r' s1
  | none => .bad
theorem asg_end {K : PySem.W.Frag} {mg : Str → Option Value} {g : MG} {σ : L2.St} {H : Hp} {al : Led} {r : Ren} {s : Sto} {d : D} {v : V} {D : Ends} (so : StoOk K H al s) (eo : EnvOk K H al r σ) (rp : Rep K H al d v)
    (af : AftS K mg W al H (match g d r with | some r' => SR.nx r' s | none => .bad) D) : tG K g v σ H D.nx := by
  cases hg : g d r with
  | none => rw [hg] at af; exact af.elim
  | some r' =>
    rw [hg] at af
    exact ⟨al, r, d, r', eo, rp, hg, fun σ' eo' => AftS.nx (r := r') (s := s) af so eo'⟩
theorem ds_asg {tg : Expr} {g : MG} (he : DE X W e m) (hg : DG X tg g) (hs : swapsWithSole [tg] e pos.line X.env = pure false := by rfl) (hw : swappedStores [tg] e X.env = pure none := by rfl)
    (h1 : (assignEach [tg] X.env).map (·.2) = [assign tg X.env] := by rfl) : DS X W (.Assign [tg] e pos) (mAsg m g) := by
  refine ps_w (ps_asg he hg hs hw h1) fun D σ H ⟨al, r, s, so, eo, af⟩ => ⟨al, r, s, so, eo, ?_⟩
  exact AftS.st eo af fun d s1 v H1 al1 _ e1 so1 rp1 af1 => asg_end so1 (eo.ext e1) rp1 af1
theorem ds_set (i : Nat) {x : Str} {pos' : Pos} (hN : X.N.Nodup) (he : DE X W e m) (hi : X.N[i]? = some x := by rfl) (hx : Loc X.env.scope x := by first | exact Or.inl rfl | exact Or.inr rfl)
    (hs : swapsWith e (some (.Name x pos')) pos.line X.env = pure false := by rfl) (hf : X.fn x = true ∨ X.env.scope.names.lookup x = some .local := by first | exact .inl rfl | exact .inr rfl | assumption) : DS X W (.Assign [.Name x pos'] e pos) (mAsg m (gN i)) := by
  refine ps_w (ps_set hN hi hx he hs hf) fun D σ H ⟨al, r, s, so, eo, af⟩ => ⟨al, r, s, so, eo, ?_⟩
  exact AftS.st eo af fun d s1 v H1 al1 _ e1 so1 rp1 af1 => AftS.nx (r := r.set i (some d)) (s := s1) af1 so1 ((eo.ext e1).set rp1 i)
/-- a, b = x, y -/
def mPar (i j : Nat) (ms : M1 (List D)) : MS := fun r s => (ms r s).st r fun ds s1 => match ds with
  | [x, y] => .nx ((r.set i (some x)).set j (some y)) s1
  | _ => .bad
theorem reps2 {K : PySem.W.Frag} {H : Hp} {al : Led} {x y : D} {vs : List V} (h : Reps K H al [x, y] vs) : ∃ v w, vs = [v, w] ∧ Rep K H al x v ∧ Rep K H al y w := by
  unfold Reps at h
  obtain ⟨v, ws, rfl, h1, h2⟩ := h
  unfold Reps at h2
  obtain ⟨w, ws, rfl, h3, h4⟩ := h2
  unfold Reps at h4
  subst h4
  exact ⟨v, w, rfl, h1, h3⟩
theorem reps1 {K : PySem.W.Frag} {H : Hp} {al : Led} {x : D} {vs : List V} (h : Reps K H al [x] vs) : ∃ v, vs = [v] ∧ Rep K H al x v := by
  unfold Reps at h
  obtain ⟨v, ws, rfl, h1, h2⟩ := h
  unfold Reps at h2
  subst h2
  exact ⟨v, rfl, h1⟩
theorem reps0 {K : PySem.W.Frag} {H : Hp} {al : Led} {vs : List V} (h : Reps K H al [] vs) : vs = [] := by unfold Reps at h; exact h
theorem ds_par (i j : Nat) {x y : Str} {ms : M1 (List D)} {px py pt : Pos} {kt k2 pt2} (hc : X.calm = true) (hN : X.N.Nodup) (ha : DA X W [a, b] ms) (hi : X.N[i]? = some x := by rfl) (hj : X.N[j]? = some y := by rfl) (hij : i ≠ j := by decide)
    (hx : X.env.scope.names.lookup x = some .local := by rfl) (hy : X.env.scope.names.lookup y = some .local := by rfl)
    (hw : swappedStores [.Tuple [.Name x px, .Name y py] kt pt] (.Tuple [a, b] k2 pt2) X.env = pure (some [x, y]) := by rfl)
    (hs : swapsWithSole [.Tuple [.Name x px, .Name y py] kt pt] (.Tuple [a, b] k2 pt2) pos.line X.env = pure false := by rfl) :
    DS X W (.Assign [.Tuple [.Name x px, .Name y py] kt pt] (.Tuple [a, b] k2 pt2) pos) (mPar i j ms) := by
  refine ps_w (ps_par hc hN hi hj hij hx hy ha hw hs) fun D σ H ⟨al, r, s, so, eo, af⟩ => ⟨al, r, s, so, eo, ?_⟩
  refine AftS.st eo af fun ds s1 vs H1 al1 _ e1 so1 rp1 af1 => ?_
  match ds, rp1, af1 with
  | [x, y], rp1, af1 =>
    obtain ⟨v, w, rfl, r1, r2⟩ := reps2 rp1
    exact ⟨v, w, rfl, AftS.nx (r := (r.set i (some x)).set j (some y)) (s := s1) af1 so1 (((eo.ext e1).set r1 i).set r2 j)⟩
  | [], _, af1 => exact af1.elim
  | [_], _, af1 => exact af1.elim
  | _ :: _ :: _ :: _, _, af1 => exact af1.elim
def mPar3 (i j l : Nat) (ms : M1 (List D)) : MS := fun r s => (ms r s).st r fun ds s1 => match ds with
  | [x, y, z] => .nx (((r.set i (some x)).set j (some y)).set l (some z)) s1
  | _ => .bad
theorem ds_par3 (i j l : Nat) {x y z : Str} {ms : M1 (List D)} {px py pz pt : Pos} {kt k2 pt2} (hc : X.calm = true) (hN : X.N.Nodup) (ha : DA X W [a, b, c] ms) (h : ∀ t, PA X [a, b, c] t → PS X (.Assign [.Tuple [.Name x px, .Name y py, .Name z pz] kt pt] (.Tuple [a, b, c] k2 pt2) pos) (tPar3 i j l t)) :
    DS X W (.Assign [.Tuple [.Name x px, .Name y py, .Name z pz] kt pt] (.Tuple [a, b, c] k2 pt2) pos) (mPar3 i j l ms) := by
  refine ps_w (h _ ha) fun D σ H ⟨al, r, s, so, eo, af⟩ => ⟨al, r, s, so, eo, ?_⟩
  refine AftS.st eo af fun ds s1 vs H1 al1 _ e1 so1 rp1 af1 => ?_
  match ds, rp1, af1 with
  | [x, y, z], rp1, af1 =>
    unfold Reps at rp1
    obtain ⟨u, ws, rfl, r1, rp1⟩ := rp1
    obtain ⟨v, w, rfl, r2, r3⟩ := reps2 rp1
    exact ⟨u, v, w, rfl, AftS.nx (r := ((r.set i (some x)).set j (some y)).set l (some z)) (s := s1) af1 so1 ((((eo.ext e1).set r1 i).set r2 j).set r3 l)⟩
  | [], _, af1 => exact af1.elim
  | [_], _, af1 => exact af1.elim
  | [_, _], _, af1 => exact af1.elim
  | _ :: _ :: _ :: _ :: _, _, af1 => exact af1.elim
/-- name op= e -/
def mAug (i : Nat) (f : Op2) (m : M1 D) : MS := fun r s => match r[i]? with
  | some (some x) => (m r s).st r fun y s1 => (f x y s1).st r fun z s2 => .nx (r.set i (some z)) s2
  | _ => .bad
theorem ds_aug (i : Nat) {x : Str} {op : Operator} {rr : R2} {f : Op2} {pos' : Pos} (hN : X.N.Nodup) (ho : OpR X (inplaceOp op) rr) (hf : Op2Ok X.K rr f) (hn : ∀ x y s, NoErr (f x y s)) (he : DE X W e m) (hi : X.N[i]? = some x := by rfl) (hx : Loc X.env.scope x := by first | exact Or.inl rfl | exact Or.inr rfl)
    (hff : X.fn x = true ∨ X.env.scope.names.lookup x = some .local := by first | exact .inl rfl | exact .inr rfl | assumption) : DS X W (.AugAssign (.Name x pos') op e pos) (mAug i f m) := by
  refine ps_w (ps_aug hN hi hx he ho hff) fun D σ H ⟨al, r, s, so, eo, af⟩ => ?_
  unfold mAug at af
  cases h : r[i]? with
  | none => rw [h] at af; exact af.elim
  | some o =>
    cases o with
    | none => rw [h] at af; exact af.elim
    | some d =>
      rw [h] at af
      obtain ⟨v, h1, h2⟩ := eo.at_ i d h
      refine ⟨v, h1, al, r, s, so, eo, ?_⟩
      refine AftS.st eo af fun y s1 w H1 al1 _ e1 so1 rp1 af1 => ?_
      refine hf H1 al1 s1 v w d y _ so1 (h2.ext e1) rp1 ?_
      refine Aft.noErr (hn _ _ _) (AftS.st (W := W) (mg := X.mg) (eo.ext e1) af1 fun z s2 u H2 al2 _ e2 so2 rp2 af2 => ?_)
      exact AftS.nx (r := r.set i (some z)) (s := s2) af2 so2 (((eo.ext e1).ext e2).set rp2 i)
/-- raise X('..') -/
def mRaise (c : Str) : MS := fun r s => .ex c r s
theorem ds_raise {x t : Str} {j : Nat} {p p2 pos pos2 : Pos} {C : Addr} {bmB : List Value} {B newId initId : String} (hc : X.calm = true) (tk : L2N.Takes X W) (F : ExcBaseFacts B newId initId bmB) (q : PySem.W.excIn X.K C bmB newId = true) (gC : X.mg x = some (.ref C)) (kC : PySem.W.keepIn X.K (.ref C) = true) (r : Raises X (.ref C)) (hg : Gl X x := by rfl)
    (hdb : (x == ("__debug__" : Str)) = false := by decide) : DS X W (.Raise (some (.Call (.Name x p) [.Constant (.str t) j p2] [] pos)) none pos2) (mRaise x) := by
  refine ps_w (L2N.ps_raise hc tk (L2N.pmk_own F q gC kC r hg hdb)) fun D σ H ⟨al, r, s, so, eo, af⟩ => ?_
  exact (show AftS _ _ _ _ _ (.ex x r s) D from af) σ H al Ext.refl so eo _ gC
end

/-! ### what a loop goes over -/
open Classical in
/-- the mutable list k still holds the items -/
noncomputable def okk (k : Option Nat) (all : List D) (s : Sto) : Bool := match k with
  | none => true
  | some k => decide (s[k]? = some all)
open Classical in
theorem okk_some {k : Nat} {all : List D} {s : Sto} (h : okk (some k) all s = true) : s[k]? = some all := by
  unfold okk at h
  exact of_decide_eq_true h
@[simp] theorem okk_none (all : List D) (s : Sto) : okk none all s = true := rfl
/-- an iterator over data: as long as the store bears the items -/
def ItOk (K : PySem.W.Frag) (J : It) (al : Led) (H : Hp) (ds : List D) (k : Option Nat) : Prop :=
  ∀ (i : Nat) (H' : Hp) (al' : Led) (s' : Sto), Ext al H al' H' → StoOk K H' al' s' → okk k ds s' = true →
    (i < ds.length → J.go i H' ∧ ∀ x H2, J.yld i H' x H2 → ∃ d, ds[i]? = some d ∧ Ext al' H' al' H2 ∧ StoOk K H2 al' s' ∧ Rep K H2 al' d x) ∧ (ds.length ≤ i → J.stop i H')
abbrev MI := M1 (List D × Option Nat)
abbrev RI (K : PySem.W.Frag) : Hp → Led → List D × Option Nat → It → Prop := fun H al p J => ItOk K J al H p.1 p.2
def tI (K : PySem.W.Frag) (mg : Str → Option Value) (W : WX) (m : MI) : TI := fun σ H R => ∃ al r s, StoOk K H al s ∧ EnvOk K H al r σ ∧ Aft K (RI K) al H (m r s) R (Er mg W σ)
abbrev DI (X : Cx) (W : WX) (tg iter : Expr) (m : MI) : Prop := PI X tg iter (tI X.K X.mg W m)
noncomputable def loopF (k : Option Nat) (all : List D) (g : MG) (body : MS) : List D → Ren → Sto → SR
  | [], r, s => if okk k all s then .nx r s else .bad
  | d :: ds, r, s => if okk k all s then (match g d r with
    | none => .bad
    | some r1 => match body r1 s with
      | .nx r2 s2 => loopF k all g body ds r2 s2
      | .ct r2 s2 => loopF k all g body ds r2 s2
      | .bk r2 s2 => .nx r2 s2
      | x => x) else .bad
noncomputable def mFor (it : MI) (g : MG) (body : MS) : MS := fun r s => (it r s).st r fun p s1 => loopF p.2 p.1 g body p.1 r s1
theorem for_data {K : PySem.W.Frag} {mg : Str → Option Value} {W : WX} {J : It} {g : MG} {body : MS} {D0 : Ends} {σ : L2.St} {H : Hp} {al : Led} {r : Ren} {s : Sto} {all : List D} {k : Option Nat} (io : ItOk K J al H all k) (so : StoOk K H al s) (eo : EnvOk K H al r σ)
    (af : AftS K mg W al H (loopF k all g body all r s) D0) : ∃ Wv : Nat → Nat → L2.St → Hp → Prop, (∃ m, Wv 0 m σ H) ∧ ∀ i m σ H, Wv i m σ H →
      (J.stop i H ∧ D0.nx σ H) ∨ (J.go i H ∧ ∃ N : L2.St → Hp → Prop, (∀ σ' H', N σ' H' → ∃ m', m' < m ∧ Wv (i + 1) m' σ' H') ∧ ∀ x H', J.yld i H x H' → tG K g x σ H' fun σ2 H2 => tDS K mg W body { D0 with nx := N, ct := N, bk := D0.nx } σ2 H2) := by
  refine ⟨fun i m σ' H' => ∃ al' r' s', m = all.length - i ∧ i ≤ all.length ∧ Ext al H al' H' ∧ StoOk K H' al' s' ∧ EnvOk K H' al' r' σ' ∧ AftS K mg W al' H' (loopF k all g body (all.drop i) r' s') D0, ⟨_, al, r, s, rfl, Nat.zero_le _, Ext.refl, so, eo, by simpa using af⟩, ?_⟩
  rintro i m σ' H' ⟨al', r', s', rfl, hi, ex, so', eo', af'⟩
  by_cases hlt : i < all.length
  · have hd : all.drop i = all[i] :: all.drop (i + 1) := List.drop_eq_getElem_cons hlt
    rw [hd] at af'
    unfold loopF at af'
    by_cases hk : okk k all s' = true
    · rw [if_pos hk] at af'
      obtain ⟨go, yl⟩ := (io i H' al' s' ex so' hk).1 hlt
      refine .inr ⟨go, fun σ2 H2 => ∃ al2 r2 s2, Ext al H al2 H2 ∧ StoOk K H2 al2 s2 ∧ EnvOk K H2 al2 r2 σ2 ∧ AftS K mg W al2 H2 (loopF k all g body (all.drop (i + 1)) r2 s2) D0, fun σ2 H2 ⟨al2, r2, s2, h1, h2, h3, h4⟩ => ⟨_, by omega, al2, r2, s2, rfl, hlt, h1, h2, h3, h4⟩, fun x H2 y => ?_⟩
      obtain ⟨d, e1, e2, so2, rp⟩ := yl x H2 y
      have e1' : d = all[i] := by
        have : all[i]? = some all[i] := by simp [hlt]
        rw [this] at e1; exact (Option.some.inj e1).symm
      subst e1'
      have ex2 := ex.trans so' e2
      cases hg : g all[i] r' with
      | none => rw [hg] at af'; exact af'.elim
      | some r1 =>
        rw [hg] at af'
        dsimp only at af'
        refine ⟨al', r', all[i], r1, eo'.ext e2, rp, hg, fun σ3 eo3 => ⟨al', r1, s', so2, eo3, ?_⟩⟩
        cases hb : body r1 s' with
        | nx r2 s2 =>
          rw [hb] at af'
          exact fun σ4 H4 al4 e4 so4 eo4 => ⟨al4, r2, s2, ex2.trans so2 e4, so4, eo4, AftS.ext (e2.trans so2 e4) so4 af'⟩
        | ct r2 s2 =>
          rw [hb] at af'
          exact fun σ4 H4 al4 e4 so4 eo4 => ⟨al4, r2, s2, ex2.trans so2 e4, so4, eo4, AftS.ext (e2.trans so2 e4) so4 af'⟩
        | bk r2 s2 =>
          rw [hb] at af'
          exact fun σ4 H4 al4 e4 so4 eo4 => af' σ4 H4 al4 (e2.trans so2 e4) so4 eo4
        | rt d s2 =>
          rw [hb] at af'
          exact fun v H4 al4 e4 so4 rp4 => af' v H4 al4 (e2.trans so2 e4) so4 rp4
        | ex c r2 s2 =>
          rw [hb] at af'
          exact fun σ4 H4 al4 e4 so4 eo4 => af' σ4 H4 al4 (e2.trans so2 e4) so4 eo4
        | bad => rw [hb] at af'; exact af'.elim
    · rw [if_neg hk] at af'; exact af'.elim
  · have e : i = all.length := by omega
    subst e
    rw [List.drop_length] at af'
    unfold loopF at af'
    by_cases hk : okk k all s' = true
    · rw [if_pos hk] at af'
      exact .inl ⟨(io _ H' al' s' ex so' hk).2 (Nat.le_refl _), AftS.nx (r := r') (s := s') af' so' eo'⟩
    · rw [if_neg hk] at af'; exact af'.elim
section
variable {X : Cx} {W : WX} {e a b c : Expr} {pos : Pos} {m ma mb mc : M1 D} {st : Stmt} {sts : List Stmt} {n1 n2 : MS}
theorem ds_for {tg iter : Expr} {body : List Stmt} {it : MI} {g : MG} {nb : MS} (hp : PassesOwn (model X.prog X.w) X.A X.env X.xe) (hc : X.calm = true) (hi : DI X W tg iter it) (hg : DG X tg g) (hb : DSs X W body nb)
    (hs : ∀ x, foldedSetIterable iter X.env x = pure x := by intro _; rfl) : DS X W (.For tg iter body [] pos) (mFor it g nb) := by
  refine ps_w (ps_for hp hc hi hg hb hs) fun D σ H ⟨al, r, s, so, eo, af⟩ => ⟨al, r, s, so, eo, ?_⟩
  exact AftS.st eo af fun p s1 J H1 al1 _ e1 so1 rp1 af1 => for_data rp1 so1 (eo.ext e1) af1
/-- what is gone over: a list, a tuple -/
theorem pi_seq {tg l : Expr} {tl : TE} (hl : PE X l tl) : PI X tg l (fun σ H R => tl σ H fun x H1 => ∃ a, x = .ref a ∧ ((∃ xs, SqL X.K H1 a xs) ∧ R (Itl X.K a) H1 ∨ (∃ xs, SqT X.K H1 a xs) ∧ R (Itt X.K a) H1)) := by
  refine ⟨fun pins s σ H R I h => ?_⟩
  refine thn (hl.run pins s σ H _ I h) fun v s1 ⟨x, H1, I1, r1, q1⟩ => ?_
  obtain ⟨a, e, ⟨⟨xs, hq⟩, q⟩ | ⟨⟨xs, hq⟩, q⟩⟩ := q1
  · subst e
    cases r1
    obtain ⟨its, rv, p, hz⟩ := I1.list hq
    refine wpAny_pyIter_list p.isList ?_
    refine ⟨s1.heap.objs.size, [s1.heap.objs.size], _, _, H1, rfl, I1.kept (t' := s1.toks) fun b o e => Heap.get?_push_of_some _ e, turn_list a _, ⟨_, Heap.get?_push_size _ rfl, rfl, rfl⟩, fun b hb => ?_, q⟩
    have e : b = s1.heap.objs.size := by simpa using hb
    subst e
    exact I1.fpOk (Nat.le_refl _) (I1.hok.fresh (Nat.le_refl _))
  · subst e
    cases r1
    obtain ⟨its, rv, p, hz⟩ := I1.tuple hq
    refine wpAny_pyIter_tuple (show s1.heap.IsTuple a its.toArray from p) ?_
    refine ⟨s1.heap.objs.size, [s1.heap.objs.size], _, _, H1, rfl, I1.kept (t' := s1.toks) fun b o e => Heap.get?_push_of_some _ e, turn_tuple a _, ⟨_, Heap.get?_push_size _ rfl, rfl, rfl⟩, fun b hb => ?_, q⟩
    have e : b = s1.heap.objs.size := by simpa using hb
    subst e
    exact I1.fpOk (Nat.le_refl _) (I1.hok.fresh (Nat.le_refl _))
def mItS (m : M1 D) : MI := fun r s => (m r s).bind fun d s1 => match d with
  | .lst ds => .ok (ds, none) s1
  | .frl ds => .ok (ds, none) s1
  | .tup ds => .ok (ds, none) s1
  | .ml k => match s1[k]? with
    | some ds => .ok (ds, some k) s1
    | none => .bad
  | _ => .bad
theorem itOk_l {K : PySem.W.Frag} {H : Hp} {al : Led} {a : Addr} {ds : List D} {k : Option Nat}
    (h : ∀ (H' : Hp) (al' : Led) (s' : Sto), Ext al H al' H' → StoOk K H' al' s' → okk k ds s' = true → ∃ vs, SqL K H' a vs ∧ Reps K H' al' ds vs) : ItOk K (Itl K a) al H ds k := by
  intro i H' al' s' ex so hk
  obtain ⟨vs, sq, rp'⟩ := h H' al' s' ex so hk
  have hl := Reps.length rp'
  refine ⟨fun hi => ?_, fun hi => ⟨vs, sq, by omega⟩⟩
  obtain ⟨v, hv, hr⟩ := Reps.get (i := i) (d := ds[i]) rp' (by simp [hi])
  refine ⟨⟨vs, v, sq, hv⟩, fun x H2 ⟨e1, e2⟩ => ?_⟩
  subst e1
  have := e2 vs sq
  rw [hv] at this
  cases this
  exact ⟨ds[i], by simp [hi], Ext.refl, so, hr⟩
theorem itOk_t {K : PySem.W.Frag} {H : Hp} {al : Led} {a : Addr} {ds : List D} {k : Option Nat}
    (h : ∀ (H' : Hp) (al' : Led) (s' : Sto), Ext al H al' H' → StoOk K H' al' s' → okk k ds s' = true → ∃ vs, SqT K H' a vs ∧ Reps K H' al' ds vs) : ItOk K (Itt K a) al H ds k := by
  intro i H' al' s' ex so hk
  obtain ⟨vs, sq, rp'⟩ := h H' al' s' ex so hk
  have hl := Reps.length rp'
  refine ⟨fun hi => ?_, fun hi => ⟨vs, sq, by omega⟩⟩
  obtain ⟨v, hv, hr⟩ := Reps.get (i := i) (d := ds[i]) rp' (by simp [hi])
  refine ⟨⟨vs, v, sq, hv⟩, fun x H2 ⟨e1, e2⟩ => ?_⟩
  subst e1
  have := e2 vs sq
  rw [hv] at this
  cases this
  exact ⟨ds[i], by simp [hi], Ext.refl, so, hr⟩
end
end DL

set_option Elab.async false
set_option linter.all false
set_option maxRecDepth 100000
set_option maxHeartbeats 2000000
/-! DL4: what is gone over; comprehensions; while; defs and calls. -/
namespace DL
open PySem PySem.Spec PyProof.Rows L2
theorem pi_w {X : Cx} {tg it : Expr} {wi wi' : TI} (h : PI X tg it wi) (k : ∀ σ H R, wi' σ H R → wi σ H R) : PI X tg it wi' := ⟨fun pins s σ H R I q => h.run pins s σ H R I (k σ H R q)⟩
section
variable {X : Cx} {W : WX} {e a b c : Expr} {pos : Pos} {m ma mb mc : M1 D} {tg : Expr}
theorem di_s {l : Expr} (hl : DE X W l m) : DI X W tg l (mItS m) := by
  refine pi_w (pi_seq hl) fun σ H R ⟨al, r, s, so, eo, af⟩ => ⟨al, r, s, so, eo, ?_⟩
  refine af.bind fun d s1 v H1 al1 _ e1 so1 rp1 af1 => ?_
  cases d with
  | lst ds =>
    unfold Rep at rp1
    obtain ⟨a, vs, rfl, h2, h3⟩ := rp1
    exact ⟨a, rfl, .inl ⟨⟨vs, SqL.of h2.2⟩, Aft.ok (a := (ds, none)) (m := s1) af1 so1 (itOk_l fun H' al' s' ex so hk => ⟨vs, SqL.of (ex.keep h2.2 h2.1), h3.ext ex⟩)⟩⟩
  | frl ds =>
    unfold Rep at rp1
    obtain ⟨a, vs, rfl, h2, h3⟩ := rp1
    exact ⟨a, rfl, .inl ⟨⟨vs, h2.sq⟩, Aft.ok (a := (ds, none)) (m := s1) af1 so1 (itOk_l fun H' al' s' ex so hk => ⟨vs, (h2.ext ex).sq, h3.ext ex⟩)⟩⟩
  | tup ds =>
    unfold Rep at rp1
    obtain ⟨a, vs, rfl, h2, h3⟩ := rp1
    exact ⟨a, rfl, .inr ⟨⟨vs, h2.sq⟩, Aft.ok (a := (ds, none)) (m := s1) af1 so1 (itOk_t fun H' al' s' ex so hk => ⟨vs, (h2.ext ex).sq, h3.ext ex⟩)⟩⟩
  | ml k =>
    unfold Rep at rp1
    obtain ⟨a, rfl, h2⟩ := rp1
    dsimp only at af1
    cases hk : s1[k]? with
    | none => rw [hk] at af1; exact af1.elim
    | some ds =>
      rw [hk] at af1
      obtain ⟨a', vs, h3, h4, h5, h6⟩ := so1.at_ k ds hk
      have : a' = a := by rw [h2] at h3; exact (Option.some.inj h3).symm
      subst this
      refine ⟨a', rfl, .inl ⟨⟨vs, SqL.of h4⟩, Aft.ok (a := (ds, some k)) (m := s1) af1 so1 (itOk_l fun H' al' s' ex so hk => ?_)⟩⟩
      have hk' : s'[k]? = some ds := okk_some hk
      obtain ⟨a2, ws, g1, g2, g3, g4⟩ := so.at_ k ds hk'
      have : a2 = a' := by
        have := ex.ix h2
        rw [this] at g1; exact (Option.some.inj g1).symm
      subst this
      exact ⟨ws, SqL.of g2, g3⟩
  | _ => exact af1.elim
def rngD (lo : Int) (n : Nat) : List D := (List.range n).map fun (i : Nat) => D.int (lo + (i : Int))
theorem rngD_get {lo : Int} {n i : Nat} (h : i < n) : (rngD lo n)[i]? = some (.int (lo + (i : Int))) := by
  unfold rngD
  rw [List.getElem?_map, List.getElem?_range h]
  rfl
theorem rngD_len {lo : Int} {n : Nat} : (rngD lo n).length = n := by unfold rngD; rw [List.length_map, List.length_range]
theorem itOk_r {K : PySem.W.Frag} {H : Hp} {al : Led} {lo : Int} {n : Nat} : ItOk K (Itr lo n) al H (rngD lo n) none := by
  intro i H' al' s' ex so hk
  rw [rngD_len]
  refine ⟨fun hi => ⟨hi, fun x H2 ⟨e1, e2⟩ => ?_⟩, fun hi => hi⟩
  subst e1 e2
  exact ⟨_, rngD_get hi, Ext.refl, so, rep_int'⟩
def mRng1 (ms : M1 (List D)) : MI := fun r s => (ms r s).bind fun ds s1 => match ds with
  | [x] => match x with
    | .int j => if -(2 ^ 62) ≤ j ∧ j < 2 ^ 62 then .ok (rngD 0 j.toNat, none) s1 else .bad
    | _ => .bad
  | _ => .bad
theorem di_rng1 {ms : M1 (List D)} {p : Pos} (hm : X.mg "range" = none) (ha : DA X W [a] ms) (hg : Gl X "range" := by rfl) (hs : starEach [a] X.env = [(false, eval a X.env)] := by rfl) : DI X W tg (.Call (.Name "range" p) [a] [] pos) (mRng1 ms) := by
  refine pi_w (pi_range1 hg hm ha hs) fun σ H R ⟨al, r, s, so, eo, af⟩ => ⟨al, r, s, so, eo, ?_⟩
  refine af.bind fun ds s1 vs H1 al1 _ e1 so1 rp1 af1 => ?_
  match ds, rp1, af1 with
  | [x], rp1, af1 =>
    obtain ⟨v, rfl, r1⟩ := reps1 rp1
    cases x with
    | int j =>
      have := rep_int r1
      subst this
      dsimp only at af1
      by_cases h : -(2 ^ 62) ≤ j ∧ j < 2 ^ 62
      · rw [if_pos h] at af1
        exact ⟨j, rfl, h.1, h.2, Aft.ok (a := (rngD 0 j.toNat, none)) (m := s1) af1 so1 itOk_r⟩
      · rw [if_neg h] at af1; exact af1.elim
    | _ => exact af1.elim
  | [], _, af1 => exact af1.elim
  | _ :: _ :: _, _, af1 => exact af1.elim
def mRng2 (ms : M1 (List D)) : MI := fun r s => (ms r s).bind fun ds s1 => match ds with
  | [x, y] => match x, y with
    | .int i, .int j => if -(2 ^ 62) ≤ i ∧ i < 2 ^ 62 ∧ -(2 ^ 62) ≤ j ∧ j < 2 ^ 62 then .ok (rngD i (j - i).toNat, none) s1 else .bad
    | _, _ => .bad
  | _ => .bad
theorem di_rng2 {ms : M1 (List D)} {p : Pos} (hm : X.mg "range" = none) (ha : DA X W [a, b] ms) (hg : Gl X "range" := by rfl) (hs : starEach [a, b] X.env = [(false, eval a X.env), (false, eval b X.env)] := by rfl) (hs2 : starEach [b] X.env = [(false, eval b X.env)] := by rfl) : DI X W tg (.Call (.Name "range" p) [a, b] [] pos) (mRng2 ms) := by
  refine pi_w (pi_range2 hg hm ha hs hs2) fun σ H R ⟨al, r, s, so, eo, af⟩ => ⟨al, r, s, so, eo, ?_⟩
  refine af.bind fun ds s1 vs H1 al1 _ e1 so1 rp1 af1 => ?_
  match ds, rp1, af1 with
  | [x, y], rp1, af1 =>
    obtain ⟨v, w, rfl, r1, r2⟩ := reps2 rp1
    cases x with
    | int i =>
      cases y with
      | int j =>
        have := rep_int r1
        subst this
        have := rep_int r2
        subst this
        dsimp only at af1
        by_cases h : -(2 ^ 62) ≤ i ∧ i < 2 ^ 62 ∧ -(2 ^ 62) ≤ j ∧ j < 2 ^ 62
        · rw [if_pos h] at af1
          exact ⟨i, j, rfl, h, Aft.ok (a := (rngD i (j - i).toNat, none)) (m := s1) af1 so1 itOk_r⟩
        · rw [if_neg h] at af1; exact af1.elim
      | _ => exact af1.elim
    | _ => exact af1.elim
  | [], _, af1 => exact af1.elim
  | [_], _, af1 => exact af1.elim
  | _ :: _ :: _ :: _, _, af1 => exact af1.elim
end

/-! ### list comprehensions -/
def wipeR (r : Ren) : List Nat → Ren
  | [] => r
  | v :: vs => (wipeR r vs).set v none
theorem EnvOk.unset {K : PySem.W.Frag} {H : Hp} {al : Led} {r : Ren} {σ : L2.St} (eo : EnvOk K H al r σ) (i : Nat) : EnvOk K H al (r.set i none) (σ.set i none) := by
  refine ⟨by rw [List.length_set, List.length_set]; exact eo.len, fun j x h => ?_⟩
  by_cases hj : i = j
  · subst hj
    by_cases hl : i < r.length
    · rw [List.getElem?_set_self hl] at h
      cases h
    · rw [List.getElem?_eq_none (by simpa using hl)] at h; cases h
  · rw [List.getElem?_set_ne hj] at h
    obtain ⟨u, h1, h2⟩ := eo.at_ j x h
    exact ⟨u, by rw [List.getElem?_set_ne hj]; exact h1, h2⟩
theorem EnvOk.wipe {K : PySem.W.Frag} {H : Hp} {al : Led} {r : Ren} {σ : L2.St} (eo : EnvOk K H al r σ) : ∀ vs : List Nat, EnvOk K H al (wipeR r vs) (L2.wipe σ vs)
  | [] => eo
  | v :: vs => (EnvOk.wipe eo vs).unset v
theorem wipe_set {σ : L2.St} {i : Nat} {x : Option V} : ∀ {vs : List Nat}, i ∈ vs → L2.wipe (σ.set i x) vs = L2.wipe σ vs
  | [], h => by simp at h
  | v :: vs, h => by
    show (L2.wipe (σ.set i x) vs).set v none = (L2.wipe σ vs).set v none
    by_cases hv : i ∈ vs
    · rw [wipe_set hv]
    · have e : i = v := by
        rcases List.mem_cons.mp h with e | e
        · exact e
        · exact absurd e hv
      subst e
      have out : ∀ (ws : List Nat), i ∉ ws → L2.wipe (σ.set i x) ws = (L2.wipe σ ws).set i x := by
        intro ws
        induction ws with
        | nil => intro _; rfl
        | cons w ws ih =>
          intro hw
          show (L2.wipe (σ.set i x) ws).set w none = ((L2.wipe σ ws).set w none).set i x
          rw [ih (fun z => hw (List.mem_cons_of_mem _ z)), List.set_comm _ _ (fun z => hw (by rw [z]; exact List.mem_cons_self))]
      rw [out vs hv, List.set_set]
theorem wipe_wipe {σ : L2.St} {vs : List Nat} : L2.wipe (L2.wipe σ vs) vs = L2.wipe σ vs := by
  have : ∀ (ws us : List Nat), (∀ w ∈ ws, w ∈ us) → L2.wipe (L2.wipe σ ws) us = L2.wipe σ us := by
    intro ws
    induction ws with
    | nil => intro us _; rfl
    | cons w ws ih =>
      intro us hw
      show L2.wipe ((L2.wipe σ ws).set w none) us = _
      rw [wipe_set (hw w List.mem_cons_self)]
      exact ih us fun x hx => hw x (List.mem_cons_of_mem _ hx)
  exact this vs vs fun _ h => h
/-- a target within a block: its slots are the block's own -/
def GOk (K : PySem.W.Frag) (g : TG) (gm : MG) (vs : List Nat) : Prop := ∀ (al : Led) (r : Ren) (σ : L2.St) (d : D) (v : V) (H : Hp) (r' : Ren) (Q : L2.St → Hp → Prop), EnvOk K H al r σ → Rep K H al d v → gm d r = some r' →
  (∀ σ', EnvOk K H al r' σ' → L2.wipe σ' vs = L2.wipe σ vs → Q σ' H) → g v σ H Q
def GsOk (K : PySem.W.Frag) (g : TGs) (gm : MGs) (vs : List Nat) : Prop := ∀ (al : Led) (r : Ren) (σ : L2.St) (ds : List D) (ws : List V) (H : Hp) (r' : Ren) (Q : L2.St → Hp → Prop), EnvOk K H al r σ → Reps K H al ds ws → gm ds r = some r' →
  (∀ σ', EnvOk K H al r' σ' → L2.wipe σ' vs = L2.wipe σ vs → Q σ' H) → g ws σ H Q
theorem gok_n {K : PySem.W.Frag} {i : Nat} {vs : List Nat} (h : i ∈ vs) : GOk K (gName i) (gN i) vs := fun al r σ d v H r' Q eo rp hg k => by
  cases hg
  exact k _ (eo.set rp i) (wipe_set h)
theorem gsok_nil {K : PySem.W.Frag} {vs : List Nat} : GsOk K gNil gNilM vs := fun al r σ ds ws H r' Q eo rp hg k => by
  cases ds with
  | nil =>
    cases hg
    unfold Reps at rp
    exact ⟨rp, k _ eo rfl⟩
  | cons _ _ => cases hg
theorem gsok_cons {K : PySem.W.Frag} {vs : List Nat} {g : TG} {gm : MG} {gs : TGs} {gms : MGs} (h1 : GOk K g gm vs) (h2 : GsOk K gs gms vs) : GsOk K (gCons g gs) (gConsM gm gms) vs := fun al r σ ds ws H r' Q eo rp hg k => by
  cases ds with
  | nil => cases hg
  | cons d ds =>
    unfold Reps at rp
    obtain ⟨v, ws, rfl, rp1, rp2⟩ := rp
    have hg : (gm d r).bind (fun r1 => gms ds r1) = some r' := hg
    cases hh : gm d r with
    | none => rw [hh] at hg; cases hg
    | some r1 =>
      rw [hh] at hg
      exact ⟨v, ws, rfl, h1 al r σ d v H r1 _ eo rp1 hh fun σ1 eo1 w1 => h2 al r1 σ1 ds ws H r' _ eo1 rp2 hg fun σ2 eo2 w2 => k σ2 eo2 (w2.trans w1)⟩
theorem gok_tup {K : PySem.W.Frag} {vs : List Nat} {n : Nat} {gs : TGs} {gms : MGs} (h : GsOk K gs gms vs) : GOk K (gTup K n gs) (gTupM n gms) vs := fun al r σ d v H r' Q eo rp hg k => by
  cases d with
  | tup ds =>
    unfold Rep at rp
    obtain ⟨a, ws, rfl, h2, h3⟩ := rp
    have hg : (if ds.length = n then gms ds r else none) = some r' := hg
    by_cases hl : ds.length = n
    · rw [if_pos hl] at hg
      exact ⟨a, ws, rfl, h2.sq, by rw [← Reps.length h3]; exact hl, h al r σ ds ws H r' Q eo h3 hg k⟩
    · rw [if_neg hl] at hg; cases hg
  | _ => cases hg
def sure {α : Type} (r : Res α) : Res α := match r with
  | .ok a s => .ok a s
  | _ => .bad
@[simp] theorem sure_ok {α : Type} {a : α} {s : Sto} : sure (.ok a s) = .ok a s := rfl
/-- the turns of a comprehension -/
noncomputable def lcL (k : Option Nat) (all : List D) (g : MG) (t : M1 Bool) (elt : M1 D) (r0 : Ren) : List D → Sto → List D → Res (List D)
  | [], s, acc => if okk k all s then .ok acc s else .bad
  | d :: ds, s, acc => if okk k all s then (match g d r0 with
    | none => .bad
    | some r1 => (sure (t r1 s)).bind fun b s1 => if b then (sure (elt r1 s1)).bind fun y s2 => if acc.length < sizeLine then lcL k all g t elt r0 ds s2 (acc ++ [y]) else .bad else lcL k all g t elt r0 ds s1 acc) else .bad
noncomputable def mLc (it : MI) (vs : List Nat) (g : MG) (t : M1 Bool) (elt : M1 D) : M1 D := fun r s => (it r s).bind fun p s1 => (lcL p.2 p.1 g t elt (wipeR r vs) p.1 s1 []).bind fun acc s2 => .ok (.lst acc) s2
def mYes : M1 Bool := fun _ s => .ok true s
/-- D is hidden -/
abbrev Led.hide (al : Led) (d : Addr) : Led := ⟨al.ms, d :: al.hid⟩
def Led.unhide (al : Led) (d : Addr) : Led := ⟨al.ms, al.hid.filter fun a => decide (a ≠ d)⟩
section
variable {K : PySem.W.Frag} {H : Hp} {al al' : Led} {s : Sto} {r : Ren} {σ : L2.St}
/-- fewer are hidden -/
theorem StoOk.fewer (so : StoOk K H al s) (hm : al'.ms = al.ms) (hh : ∀ a ∈ al'.hid, a ∈ al.hid) : StoOk K H al' s := by
  refine ⟨by rw [hm]; exact so.nd, by rw [hm]; exact so.len, fun a h => ⟨(so.hd a (hh a h)).1, by rw [hm]; exact (so.hd a (hh a h)).2⟩, fun k ds q => ?_⟩
  obtain ⟨a, vs, h1, h2, h3, h4⟩ := so.at_ k ds q
  exact ⟨a, vs, by rw [hm]; exact h1, h2, h3.less (fun a z => z.imp (by rw [hm]; exact id) (hh a)) (.inl h4), h4⟩
theorem Rep.fewer {d : D} {v : V} (h : Rep K H al d v) (hm : al'.ms = al.ms) (hh : ∀ a ∈ al'.hid, a ∈ al.hid) : Rep K H al' d v := h.less (fun a z => z.imp (by rw [hm]; exact id) (hh a)) (.inr fun k a q => by rw [hm]; exact q)
theorem Reps.fewer {d : List D} {v : List V} (h : Reps K H al d v) (hm : al'.ms = al.ms) (hh : ∀ a ∈ al'.hid, a ∈ al.hid) : Reps K H al' d v := h.less (fun a z => z.imp (by rw [hm]; exact id) (hh a)) (.inr fun k a q => by rw [hm]; exact q)
theorem EnvOk.fewer (eo : EnvOk K H al r σ) (hm : al'.ms = al.ms) (hh : ∀ a ∈ al'.hid, a ∈ al.hid) : EnvOk K H al' r σ := ⟨eo.len, fun i d q => by
  obtain ⟨v, h1, h2⟩ := eo.at_ i d q
  exact ⟨v, h1, h2.fewer hm hh⟩⟩
theorem Ext.hide (so : StoOk K H al s) {p : Addr} {o : HO} (hp : H p = none) : Ext al H (al.hide p) (upd H p o) :=
  ⟨⟨[], by simp, fun _ h => by simp at h⟩, fun a h => List.mem_cons_of_mem _ h, fun a h => (List.mem_cons.mp h).elim (fun e => .inr (by rw [e]; exact hp)) .inl, (Ext.new so hp).kept, (Ext.new so hp).stay⟩
theorem StoOk.hide (so : StoOk K H al s) {p : Addr} {o : HO} (hp : H p = none) : StoOk K (upd H p o) (al.hide p) s := by
  have e := Ext.hide (o := o) so hp
  refine ⟨so.nd, so.len, fun a h => ?_, fun k ds q => ?_⟩
  · rcases List.mem_cons.mp h with h | h
    · subst h
      exact ⟨fun z => (by rw [upd_same] at z; cases z), fun z => so.ne hp (.inl z)⟩
    · exact ⟨e.stay a (so.hd a h).1, (so.hd a h).2⟩
  · obtain ⟨a, vs, h1, h2, h3, h4⟩ := so.at_ k ds q
    refine ⟨a, vs, h1, ?_, h3.ext e, h4⟩
    rw [upd_ne fun z => so.ne hp (by rw [← z]; exact .inl (List.mem_of_getElem? h1))]
    exact h2
/-- a hidden object is written -/
theorem StoOk.wrH (so : StoOk K H al s) {p : Addr} {o : HO} (hp : p ∈ al.hid) : StoOk K (upd H p o) al s := by
  refine ⟨so.nd, so.len, fun a h => ⟨stay_upd a (so.hd a h).1, (so.hd a h).2⟩, fun k ds q => ?_⟩
  obtain ⟨a, vs, h1, h2, h3, h4⟩ := so.at_ k ds q
  refine ⟨a, vs, h1, ?_, h3.wr (.inr hp), h4⟩
  rw [upd_ne fun z => (so.hd p hp).2 (by rw [← z]; exact List.mem_of_getElem? h1)]
  exact h2
end
section
variable {X : Cx} {W : WX}
/-- no exception leaves a block -/
abbrev W0 : WX := fun _ _ _ _ => False
theorem takesN0 {X : Cx} : L2N.Takes X W0 := fun _ _ x => by
  obtain ⟨_, _, _, _, _, _, _, _, _, _, _, _, _, _, _, _, z⟩ := x
  exact z.elim
theorem Aft.blk {α β : Type} {K : PySem.W.Frag} {Rp : Hp → Led → α → β → Prop} {al : Led} {H : Hp} {r : Res α} {Q : β → Hp → Prop} {E : Str → Hp → Prop} (hn : sure r ≠ .bad) (k : ∀ a m b H' al', r = .ok a m → Ext al H al' H' → StoOk K H' al' m → Rp H' al' a b → Q b H') : Aft K Rp al H r Q E := by
  cases r with
  | ok a m => exact fun b H' al' e s rp => k a m b H' al' rfl e s rp
  | err c m => exact absurd rfl hn
  | bad => exact absurd rfl hn
theorem lc_data {mg : Str → Option Value} {K : PySem.W.Frag} {J : It} {g : TG} {gm : MG} {tst : M1 Bool} {elt : M1 D} {vs : List Nat} {σ : L2.St} {H1 : Hp} {al1 : Led} {r : Ren} {s1 : Sto} {all : List D} {k : Option Nat} {Dd : Addr} {Qd : Hp → Prop} {tt : TT} {f : List D → Sto → Res D} {Q : VK} {E : Str → Hp → Prop}
    (io : ItOk K J al1 H1 all k) (so1 : StoOk K H1 al1 s1) (eo : EnvOk K H1 al1 r σ) (hD : H1 Dd = none) (hg : GOk K g gm vs) (htt : ∀ σ H Q, tDT K mg W0 tst σ H Q → tt σ H Q)
    (af : Aft K (RD K) al1 H1 ((lcL k all gm tst elt (wipeR r vs) all s1 []).bind f) Q E)
    (hd : ∀ acc s' al' H' accV, Aft K (RD K) al1 H1 (f acc s') Q E → Ext al1 H1 al' H' → StoOk K H' al' s' → ¬ al'.has Dd → H' Dd = some (.lst accV) → Reps K H' al' acc accV → Qd H') :
    ∃ Wv : Nat → Nat → Hp → Prop, (∃ m, Wv 0 m (upd H1 Dd (.lst []))) ∧ ∀ i m H, Wv i m H →
      (J.stop i H ∧ Qd H) ∨ (J.go i H ∧ ∃ Nx : Hp → Prop, (∀ H', Nx H' → ∃ m', m' < m ∧ Wv (i + 1) m' H') ∧ ∀ x H', J.yld i H x H' → g x (wipe σ vs) H' fun σ2 H2 => wipe σ2 vs = wipe σ vs ∧ tt σ2 H2 fun b H3 =>
        if b = true then tD K mg W0 elt σ2 H3 fun y H4 => ∃ acc, H4 Dd = some (.lst acc) ∧ acc.length < sizeLine ∧ Nx (upd H4 Dd (.lst (acc ++ [y]))) else Nx H3) := by
  refine ⟨fun i m H' => m = all.length - i ∧ i ≤ all.length ∧ ∃ al' s' acc accV, Ext al1 H1 al' H' ∧ Dd ∈ al'.hid ∧ StoOk K H' al' s' ∧ H' Dd = some (.lst accV) ∧ Reps K H' al' acc accV ∧ Aft K (RD K) al1 H1 ((lcL k all gm tst elt (wipeR r vs) (all.drop i) s' acc).bind f) Q E,
    ⟨_, rfl, Nat.zero_le _, al1.hide Dd, s1, [], [], Ext.hide so1 hD, List.mem_cons_self, so1.hide hD, upd_same, Reps.nil, by simpa using af⟩, ?_⟩
  rintro i m H' ⟨rfl, hi, al', s', acc, accV, ex, hDm, so', hDl, rpA, af'⟩
  have eo' : EnvOk K H' al' (wipeR r vs) (wipe σ vs) := (eo.ext ex).wipe vs
  by_cases hlt : i < all.length
  · have hdr : all.drop i = all[i] :: all.drop (i + 1) := List.drop_eq_getElem_cons hlt
    rw [hdr] at af'
    unfold lcL at af'
    by_cases hk : okk k all s' = true
    · rw [if_pos hk] at af'
      obtain ⟨go, yl⟩ := (io i H' al' s' ex so' hk).1 hlt
      refine .inr ⟨go, fun H2 => ∃ al2 s2 acc accV, Ext al1 H1 al2 H2 ∧ Dd ∈ al2.hid ∧ StoOk K H2 al2 s2 ∧ H2 Dd = some (.lst accV) ∧ Reps K H2 al2 acc accV ∧ Aft K (RD K) al1 H1 ((lcL k all gm tst elt (wipeR r vs) (all.drop (i + 1)) s2 acc).bind f) Q E,
        fun H2 ⟨al2, s2, acc, accV, h1, h2, h3, h4, h5, h6⟩ => ⟨_, by omega, rfl, hlt, al2, s2, acc, accV, h1, h2, h3, h4, h5, h6⟩, fun x H2 y => ?_⟩
      obtain ⟨d, e1, e2, so2, rp⟩ := yl x H2 y
      have e1' : d = all[i] := by
        have : all[i]? = some all[i] := by simp [hlt]
        rw [this] at e1; exact (Option.some.inj e1).symm
      subst e1'
      have ex2 := ex.trans so' e2
      have keepD : ∀ {al3 : Led} {H3 : Hp}, Ext al' H2 al3 H3 → H3 Dd = some (.lst accV) := fun {al3 H3} e3 => e3.kept Dd _ (e2.kept Dd _ hDl (so'.hd Dd hDm).2) (so2.hd Dd hDm).2
      cases hg' : gm all[i] (wipeR r vs) with
      | none => rw [hg'] at af'; exact af'.elim
      | some r1 =>
        rw [hg'] at af'
        dsimp only at af'
        refine hg al' (wipeR r vs) (wipe σ vs) all[i] x H2 r1 _ (eo'.ext e2) rp hg' fun σ3 eo3 wp => ⟨by rw [wp, wipe_wipe], htt _ _ _ ⟨al', r1, s', so2, eo3, ?_⟩⟩
        refine Aft.blk (fun hb => by rw [hb] at af'; exact af'.elim) fun bb s3 b H3 al3 hr e3 so3 rb => ?_
        rw [hr, sure_ok, Res.bind_ok] at af'
        subst rb
        cases bb with
        | false =>
          exact iteF ⟨al3, s3, acc, accV, ex2.trans so2 e3, e3.hidg _ hDm, so3, keepD e3, (rpA.ext e2).ext e3, af'⟩
        | true =>
          refine iteT ⟨al3, r1, s3, so3, eo3.ext e3, ?_⟩
          refine Aft.blk (fun hb => by rw [if_pos rfl, hb] at af'; exact af'.elim) fun yy s4 y H4 al4 hr2 e4 so4 ry => ?_
          rw [if_pos rfl, hr2, sure_ok, Res.bind_ok] at af'
          have hD4 : H4 Dd = some (.lst accV) := e4.kept Dd _ (keepD e3) (so3.hd Dd (e3.hidg _ hDm)).2
          have hDm4 : Dd ∈ al4.hid := e4.hidg _ (e3.hidg _ hDm)
          by_cases hz : acc.length < sizeLine
          · rw [if_pos hz] at af'
            have hl := Reps.length rpA
            refine ⟨accV, hD4, by rw [← hl]; exact hz, al4, s4, acc ++ [yy], accV ++ [y], ?_, hDm4, so4.wrH hDm4, upd_same, ?_, af'⟩
            · have ex4 := (ex2.trans so2 e3).trans so3 e4
              exact ⟨ex4.pre, ex4.hidg, ex4.hidn, fun a o ha na => by rw [upd_ne (ne_of_none ha hD)]; exact ex4.kept a o ha na, fun a ha => stay_upd a (ex4.stay a ha)⟩
            · exact Reps.append ((((rpA.ext e2).ext e3).ext e4).wr (.inr hDm4)) (Reps.cons (ry.wr (.inr hDm4)) Reps.nil)
          · rw [if_neg hz] at af'; exact af'.elim
    · rw [if_neg hk] at af'; exact af'.elim
  · have e : i = all.length := by omega
    subst e
    rw [List.drop_length] at af'
    unfold lcL at af'
    by_cases hk : okk k all s' = true
    · rw [if_pos hk, Res.bind_ok] at af'
      refine .inl ⟨(io _ H' al' s' ex so' hk).2 (Nat.le_refl _), hd acc s' (al'.unhide Dd) H' accV af' ?_ ?_ ?_ hDl ?_⟩
      · refine ⟨ex.pre, fun a h => ?_, fun a h => ex.hidn a (List.mem_filter.mp h).1, ex.kept, ex.stay⟩
        refine List.mem_filter.mpr ⟨ex.hidg a h, decide_eq_true fun z => ?_⟩
        subst z
        exact (so1.hd _ h).1 hD
      · exact so'.fewer rfl fun a h => (List.mem_filter.mp h).1
      · rintro (z | z)
        · exact (so'.hd _ hDm).2 z
        · exact of_decide_eq_true (List.mem_filter.mp z).2 rfl
      · exact rpA.fewer rfl fun a h => (List.mem_filter.mp h).1
    · rw [if_neg hk] at af'; exact af'.elim
theorem yes_t {K : PySem.W.Frag} {mg : Str → Option Value} {σ : L2.St} {H : Hp} {Q : Bool → Hp → Prop} (h : tDT K mg W0 mYes σ H Q) : tYes σ H Q := by
  obtain ⟨al, r, s, so, eo, af⟩ := h
  exact Aft.ok (a := true) (m := s) af so rfl
theorem lc_end {K : PySem.W.Frag} {al1 al' : Led} {H1 H' : Hp} {s' : Sto} {acc : List D} {accV : List V} {Dd : Addr} {Q : VK} {E : Str → Hp → Prop} (af : Aft K (RD K) al1 H1 (.ok (.lst acc) s') Q E) (ex : Ext al1 H1 al' H') (so : StoOk K H' al' s') (n : ¬ al'.has Dd) (h : H' Dd = some (.lst accV)) (rp : Reps K H' al' acc accV) : Q (.ref Dd) H' := by
  refine af (.ref Dd) H' al' ex so ?_
  show Rep _ _ _ _ _
  unfold Rep
  exact ⟨Dd, accV, rfl, ⟨n, h⟩, rp⟩
/-- [elt for target in iter if ..] -/
theorem de_lc {elt tg iter : Expr} {ifs : List Expr} {scope : Scope} {pos : Pos} {it : MI} {g : TG} {gm : MG} {tt : TT} {tst : M1 Bool} {me : M1 D} (own : List (Str × Nat)) (hc : X.calm = true) (hN : X.N.Nodup) (hi : DI X W tg iter it) (ok : BlkOk X.N X.env.scope scope own)
    (hgo : GOk X.K g gm (own.map (·.2))) (htt : ∀ σ H Q, tDT X.K X.mg W0 tst σ H Q → tt σ H Q)
    (hg : ∀ (s : Shared) (H : Hp) (C : Addr) (cl : List (Str × Addr)) (fp : List Addr), PG (X.blk s H scope (compEnvC scope cl C X.env) fp) tg g) (ht : ∀ (s : Shared) (H : Hp) (C : Addr) (cl : List (Str × Addr)) (fp : List Addr), PTs (X.blk s H scope (compEnvC scope cl C X.env) fp) ifs tt)
    (he : ∀ (s : Shared) (H : Hp) (C : Addr) (cl : List (Str × Addr)) (fp : List Addr), DE (X.blk s H scope (compEnvC scope cl C X.env) fp) W0 elt me) (hs : ∀ x, foldedSetIterable iter X.env x = pure x := by intro _; rfl) :
    DE X W (.ListComp elt [⟨tg, iter, ifs, 0⟩] scope pos) (mLc it (own.map (·.2)) gm tst me) := by
  refine pe_w (pe_lc (te := tD X.K X.mg W0 me) hc hN hi ok hg ht he hs) fun σ H Q ⟨al, r, s, so, eo, af⟩ => ⟨al, r, s, so, eo, ?_⟩
  refine af.bind fun p s1 J H1 al1 _ e1 so1 io af1 => fun Dd hD => ?_
  exact lc_data io so1 (eo.ext e1) hD hgo htt af1 fun acc s' al' H' accV af2 ex so' n hl rp => lc_end af2 ex so' n hl rp
/-- name = [..] -/
theorem ds_setLc {y : Str} {py : Pos} {elt tg iter : Expr} {ifs : List Expr} {scope : Scope} {pos spos : Pos} {it : MI} {g : TG} {gm : MG} {tt : TT} {tst : M1 Bool} {me : M1 D} (i : Nat) (own : List (Str × Nat)) (hc : X.calm = true) (hN : X.N.Nodup) (hi : DI X W tg iter it) (ok : BlkOk X.N X.env.scope scope own)
    (hgo : GOk X.K g gm (own.map (·.2))) (htt : ∀ σ H Q, tDT X.K X.mg W0 tst σ H Q → tt σ H Q)
    (hg : ∀ (s : Shared) (H : Hp) (C : Addr) (cl : List (Str × Addr)) (fp : List Addr), PG (X.blk s H scope (compEnvC scope cl C X.env) fp) tg g) (ht : ∀ (s : Shared) (H : Hp) (C : Addr) (cl : List (Str × Addr)) (fp : List Addr), PTs (X.blk s H scope (compEnvC scope cl C X.env) fp) ifs tt)
    (he : ∀ (s : Shared) (H : Hp) (C : Addr) (cl : List (Str × Addr)) (fp : List Addr), DE (X.blk s H scope (compEnvC scope cl C X.env) fp) W0 elt me)
    (hsw : swapsWith (.ListComp elt [⟨tg, iter, ifs, 0⟩] scope pos) (some (.Name y py)) spos.line X.env = pure true) (hy : X.N[i]? = some y := by rfl) (hyl : X.env.scope.names.lookup y = some .local := by rfl) (hs : ∀ x, foldedSetIterable iter X.env x = pure x := by intro _; rfl) :
    DS X W (.Assign [.Name y py] (.ListComp elt [⟨tg, iter, ifs, 0⟩] scope pos) spos) (mAsg (mLc it (own.map (·.2)) gm tst me) (gN i)) := by
  refine ps_w (ps_setLc (te := tD X.K X.mg W0 me) hc hN hy hyl hsw hi ok hg ht he hs) fun D σ H ⟨al, r, s, so, eo, af⟩ => ⟨al, r, s, so, eo, ?_⟩
  have af0 : Aft X.K (RD X.K) al H ((it r s).bind fun p s1 => (lcL p.2 p.1 gm tst me (wipeR r (own.map (·.2))) p.1 s1 []).bind fun acc s2 => .ok (.lst acc) s2) (fun x H1 => gName i x σ H1 D.nx) (Er X.mg W σ) :=
    AftS.st eo (f := fun d s1 => .nx (r.set i (some d)) s1) af fun d s1 v H1 al1 _ e1 so1 rp1 af1 => AftS.nx (r := r.set i (some d)) (s := s1) af1 so1 ((eo.ext e1).set rp1 i)
  refine af0.bind fun p s1 J H1 al1 _ e1 so1 io af1 => fun Dd hD => ?_
  exact lc_data io so1 (eo.ext e1) hD hgo htt af1 fun acc s' al' H' accV af2 ex so' n hl rp => lc_end af2 ex so' n hl rp
end

/-! ### while -/
def whileN (c : M1 Bool) (body : MS) : Nat → Ren → Sto → SR
  | 0, _, _ => .bad
  | n + 1, r, s => (c r s).st r fun b s1 => if b then (match body r s1 with
    | .nx r2 s2 => whileN c body n r2 s2
    | .ct r2 s2 => whileN c body n r2 s2
    | .bk r2 s2 => .nx r2 s2
    | x => x) else .nx r s1
theorem whileN_more {c : M1 Bool} {body : MS} : ∀ {n : Nat} {r : Ren} {s : Sto}, whileN c body n r s ≠ .bad → whileN c body (n + 1) r s = whileN c body n r s
  | 0, r, s, h => absurd rfl h
  | n + 1, r, s, h => by
    unfold whileN at h
    show ((c r s).st r fun b s1 => if b then (match body r s1 with
      | .nx r2 s2 => whileN c body (n + 1) r2 s2
      | .ct r2 s2 => whileN c body (n + 1) r2 s2
      | .bk r2 s2 => .nx r2 s2
      | x => x) else .nx r s1) = ((c r s).st r fun b s1 => if b then (match body r s1 with
      | .nx r2 s2 => whileN c body n r2 s2
      | .ct r2 s2 => whileN c body n r2 s2
      | .bk r2 s2 => .nx r2 s2
      | x => x) else .nx r s1)
    cases hc : c r s with
    | bad => rfl
    | err _ _ => rfl
    | ok b s1 =>
      rw [hc, Res.st_ok] at h
      rw [Res.st_ok, Res.st_ok]
      cases b with
      | false => rfl
      | true =>
        rw [if_pos rfl] at h
        rw [if_pos rfl, if_pos rfl]
        cases hb : body r s1 with
        | nx r2 s2 => rw [hb] at h; exact whileN_more h
        | ct r2 s2 => rw [hb] at h; exact whileN_more h
        | bk r2 s2 => rfl
        | rt _ _ => rfl
        | ex _ _ _ => rfl
        | bad => rfl
theorem whileN_le {c : M1 Bool} {body : MS} {n k : Nat} {r : Ren} {s : Sto} (h : whileN c body n r s ≠ .bad) : whileN c body (n + k) r s = whileN c body n r s := by
  induction k with
  | zero => rfl
  | succ k ih => rw [← Nat.add_assoc, whileN_more (by rw [ih]; exact h), ih]
open Classical in
noncomputable def mWhile (c : M1 Bool) (body : MS) : MS := fun r s => if h : ∃ n, whileN c body n r s ≠ .bad then whileN c body h.choose r s else .bad
theorem mWhile_of {c : M1 Bool} {body : MS} {n : Nat} {r : Ren} {s : Sto} (h : whileN c body n r s ≠ .bad) : mWhile c body r s = whileN c body n r s := by
  have hx : ∃ n, whileN c body n r s ≠ .bad := ⟨n, h⟩
  unfold mWhile
  rw [dif_pos hx]
  have h2 := hx.choose_spec
  rcases Nat.le_total n hx.choose with q | q
  · obtain ⟨k, e⟩ := Nat.exists_eq_add_of_le q
    rw [e]
    exact whileN_le h
  · obtain ⟨k, e⟩ := Nat.exists_eq_add_of_le q
    rw [e]
    exact (whileN_le h2).symm
theorem mWhile_ex {c : M1 Bool} {body : MS} {r : Ren} {s : Sto} (h : mWhile c body r s ≠ .bad) : ∃ n, whileN c body n r s = mWhile c body r s := by
  unfold mWhile at h ⊢
  by_cases hx : ∃ n, whileN c body n r s ≠ .bad
  · rw [dif_pos hx]
    exact ⟨_, rfl⟩
  · rw [dif_neg hx] at h; exact absurd rfl h
/-- one turn -/
theorem mWhile_eq (c : M1 Bool) (body : MS) (r : Ren) (s : Sto) : mWhile c body r s = (c r s).st r fun b s1 => if b then (match body r s1 with
    | .nx r2 s2 => mWhile c body r2 s2
    | .ct r2 s2 => mWhile c body r2 s2
    | .bk r2 s2 => .nx r2 s2
    | x => x) else .nx r s1 := by
  have key : ∀ n, whileN c body (n + 1) r s ≠ .bad → whileN c body (n + 1) r s = (c r s).st r fun b s1 => if b then (match body r s1 with
    | .nx r2 s2 => mWhile c body r2 s2
    | .ct r2 s2 => mWhile c body r2 s2
    | .bk r2 s2 => .nx r2 s2
    | x => x) else .nx r s1 := by
    intro n h
    unfold whileN at h ⊢
    cases hc : c r s with
    | bad => rfl
    | err _ _ => rfl
    | ok b s1 =>
      rw [hc, Res.st_ok] at h
      rw [Res.st_ok, Res.st_ok]
      cases b with
      | false => rfl
      | true =>
        rw [if_pos rfl] at h
        rw [if_pos rfl, if_pos rfl]
        cases hb : body r s1 with
        | nx r2 s2 => rw [hb] at h; exact (mWhile_of h).symm
        | ct r2 s2 => rw [hb] at h; exact (mWhile_of h).symm
        | bk r2 s2 => rfl
        | rt _ _ => rfl
        | ex _ _ _ => rfl
        | bad => rfl
  by_cases hb : mWhile c body r s = .bad
  · -- no turn ends
    rw [hb]
    symm
    apply Classical.byContradiction
    intro hne
    have : ∃ n, whileN c body n r s ≠ .bad := by
      cases hc : c r s with
      | bad => rw [hc] at hne; exact absurd rfl hne
      | err e s1 => exact ⟨1, by unfold whileN; rw [hc]; exact fun z => nomatch z⟩
      | ok b s1 =>
        rw [hc, Res.st_ok] at hne
        cases b with
        | false => exact ⟨1, by unfold whileN; rw [hc, Res.st_ok]; exact fun z => nomatch z⟩
        | true =>
          rw [if_pos rfl] at hne
          cases hbd : body r s1 with
          | nx r2 s2 =>
            rw [hbd] at hne
            obtain ⟨n, e⟩ := mWhile_ex hne
            refine ⟨n + 1, ?_⟩
            unfold whileN
            rw [hc, Res.st_ok, if_pos rfl, hbd]
            dsimp only
            rw [e]
            exact hne
          | ct r2 s2 =>
            rw [hbd] at hne
            obtain ⟨n, e⟩ := mWhile_ex hne
            refine ⟨n + 1, ?_⟩
            unfold whileN
            rw [hc, Res.st_ok, if_pos rfl, hbd]
            dsimp only
            rw [e]
            exact hne
          | bk r2 s2 => exact ⟨1, by unfold whileN; rw [hc, Res.st_ok, if_pos rfl, hbd]; exact fun z => nomatch z⟩
          | rt _ _ => exact ⟨1, by unfold whileN; rw [hc, Res.st_ok, if_pos rfl, hbd]; exact fun z => nomatch z⟩
          | ex _ _ _ => exact ⟨1, by unfold whileN; rw [hc, Res.st_ok, if_pos rfl, hbd]; exact fun z => nomatch z⟩
          | bad => rw [hbd] at hne; exact absurd rfl hne
    obtain ⟨n, hn⟩ := this
    rw [mWhile_of hn] at hb
    exact hn hb
  · obtain ⟨n, e⟩ := mWhile_ex hb
    cases n with
    | zero => exact absurd e.symm hb
    | succ n => rw [← e]; exact key n (by rw [e]; exact hb)
section
variable {X : Cx} {W : WX}
theorem ds_while {c : Expr} {body : List Stmt} {pos : Pos} {mc : M1 Bool} {nb : MS} (hp : PassesOwn (model X.prog X.w) X.A X.env X.xe) (hc : DT X W c mc) (hb : DSs X W body nb) : DS X W (.While c body [] pos) (mWhile mc nb) := by
  refine ps_w (ps_while hp hc hb) fun D σ H ⟨al, r, s, so, eo, af⟩ => ?_
  have hne : mWhile mc nb r s ≠ .bad := fun z => by rw [z] at af; exact af
  obtain ⟨n0, e0⟩ := mWhile_ex hne
  rw [← e0] at af
  refine ⟨fun n σ' H' => ∃ al' r' s', Ext al H al' H' ∧ StoOk X.K H' al' s' ∧ EnvOk X.K H' al' r' σ' ∧ AftS X.K X.mg W al' H' (whileN mc nb n r' s') D, ⟨n0, al, r, s, Ext.refl, so, eo, af⟩, ?_⟩
  rintro n σ' H' ⟨al', r', s', ex, so', eo', af'⟩
  cases n with
  | zero => exact af'.elim
  | succ n =>
    unfold whileN at af'
    refine ⟨al', r', s', so', eo', ?_⟩
    refine AftS.st eo' af' fun b s1 v H1 al1 _ e1 so1 rb af1 => ?_
    subst rb
    have ex1 := ex.trans so' e1
    cases b with
    | false => exact iteF (AftS.nx (r := r') (s := s1) af1 so1 (eo'.ext e1))
    | true =>
      refine iteT ⟨fun σ2 H2 => ∃ al2 r2 s2, Ext al H al2 H2 ∧ StoOk X.K H2 al2 s2 ∧ EnvOk X.K H2 al2 r2 σ2 ∧ AftS X.K X.mg W al2 H2 (whileN mc nb n r2 s2) D, fun σ2 H2 h => ⟨n, Nat.lt_succ_self n, h⟩, al1, r', s1, so1, eo'.ext e1, ?_⟩
      rw [if_pos rfl] at af1
      cases hbd : nb r' s1 with
      | nx r2 s2 =>
        rw [hbd] at af1
        exact fun σ4 H4 al4 e4 so4 eo4 => ⟨al4, r2, s2, ex1.trans so1 e4, so4, eo4, AftS.ext e4 so4 af1⟩
      | ct r2 s2 =>
        rw [hbd] at af1
        exact fun σ4 H4 al4 e4 so4 eo4 => ⟨al4, r2, s2, ex1.trans so1 e4, so4, eo4, AftS.ext e4 so4 af1⟩
      | bk r2 s2 => rw [hbd] at af1; exact af1
      | rt d s2 => rw [hbd] at af1; exact af1
      | ex c r2 s2 => rw [hbd] at af1; exact af1
      | bad => rw [hbd] at af1; exact af1
end
end DL

set_option Elab.async false
set_option linter.all false
set_option maxRecDepth 100000
set_option maxHeartbeats 2000000
/-! DL5: defs, their promises, their calls. -/
namespace DL
open PySem PySem.Spec PyProof.Rows L2
mutual
/-- the lists made since are lists like others -/
def frz (n0 : Nat) (s : Sto) : D → Option D
  | .ml k => if k < n0 then some (.ml k) else (s[k]?).map .lst
  | .tup ds => (frzs n0 s ds).map .tup
  | .lst ds => (frzs n0 s ds).map .lst
  | .frl ds => (frzs n0 s ds).map .frl
  | .dic ks ds => (frzs n0 s ds).map (.dic ks)
  | .non => some .non
  | .bl b => some (.bl b)
  | .int i => some (.int i)
  | .str x => some (.str x)
  | .ty n => some (.ty n)
  | .fn a => some (.fn a)
def frzs (n0 : Nat) (s : Sto) : List D → Option (List D)
  | [] => some []
  | d :: ds => (frz n0 s d).bind fun x => (frzs n0 s ds).map fun xs => x :: xs
end
mutual
theorem frz_nm {n0 : Nat} {s : Sto} : ∀ {d : D}, d.nm = true → frz n0 s d = some d
  | .ml k, h => by unfold D.nm at h; cases h
  | .tup ds, h => by unfold D.nm at h; unfold frz; rw [frzs_nm h]; rfl
  | .lst ds, h => by unfold D.nm at h; unfold frz; rw [frzs_nm h]; rfl
  | .frl ds, h => by unfold D.nm at h; unfold frz; rw [frzs_nm h]; rfl
  | .dic ks ds, h => by unfold D.nm at h; unfold frz; rw [frzs_nm h]; rfl
  | .non, _ => rfl
  | .bl _, _ => rfl
  | .int _, _ => rfl
  | .str _, _ => rfl
  | .ty _, _ => rfl
  | .fn _, _ => rfl
theorem frzs_nm {n0 : Nat} {s : Sto} : ∀ {ds : List D}, nms ds = true → frzs n0 s ds = some ds
  | [], _ => rfl
  | d :: ds, h => by
    unfold nms at h
    rw [Bool.and_eq_true] at h
    unfold frzs
    rw [frz_nm h.1, frzs_nm h.2]
    rfl
end
section
variable {K : PySem.W.Frag} {H H' : Hp} {al al' : Led} {s s' : Sto}
theorem back_has (ex : Ext al H al' H') : ∀ a, al.has a → al'.has a := fun a h => by
  obtain ⟨⟨n1, p1, _⟩, g, _, _, _⟩ := ex
  rcases h with h | h
  · exact .inl (by rw [p1]; exact List.mem_append_left _ h)
  · exact .inr (g a h)
theorem StoOk.back (so' : StoOk K H' al' s') (so : StoOk K H al s) (ex : Ext al H al' H') : StoOk K H' al (s'.take s.length) := by
  obtain ⟨⟨n1, p1, _⟩, g, _, _, st⟩ := id ex
  have hl : al.ms.length ≤ al'.ms.length := by rw [p1, List.length_append]; omega
  refine ⟨so.nd, ?_, fun a h => ⟨st a (so.hd a h).1, (so.hd a h).2⟩, fun k ds q => ?_⟩
  · rw [List.length_take, ← so'.len, ← so.len]
    omega
  · rw [List.getElem?_take] at q
    split at q
    · rename_i hk
      obtain ⟨a, vs, h1, h2, h3, h4⟩ := so'.at_ k ds q
      rw [p1, List.getElem?_append_left (by rw [so.len]; exact hk)] at h1
      exact ⟨a, vs, h1, h2, h3.less (back_has ex) (.inl h4), h4⟩
    · cases q
mutual
theorem Rep.back (so' : StoOk K H' al' s') (so : StoOk K H al s) (ex : Ext al H al' H') : ∀ {d d' : D} {v : V}, frz s.length s' d = some d' → Rep K H' al' d v → Rep K H' al d' v
  | .ml k, d', v, hf, h => by
    unfold frz at hf
    unfold Rep at h
    obtain ⟨a, rfl, h2⟩ := h
    obtain ⟨⟨n1, p1, f1⟩, g, _, _, _⟩ := id ex
    by_cases hk : k < s.length
    · rw [if_pos hk] at hf
      cases hf
      unfold Rep
      rw [p1, List.getElem?_append_left (by rw [so.len]; exact hk)] at h2
      exact ⟨a, rfl, h2⟩
    · rw [if_neg hk] at hf
      cases hs : s'[k]? with
      | none => rw [hs] at hf; cases hf
      | some ds =>
        rw [hs] at hf
        cases hf
        obtain ⟨b, vs, h3, h4, h5, h6⟩ := so'.at_ k ds hs
        have : b = a := by rw [h2] at h3; exact (Option.some.inj h3).symm
        subst this
        unfold Rep
        refine ⟨b, vs, rfl, ⟨?_, h4⟩, h5.less (back_has ex) (.inl h6)⟩
        rw [p1, List.getElem?_append_right (by rw [so.len]; omega)] at h3
        exact so.ne (f1 b (List.mem_of_getElem? h3))
  | .tup ds, d', v, hf, h => by
    unfold frz at hf
    cases hs : frzs s.length s' ds with
    | none => rw [hs] at hf; cases hf
    | some es =>
      rw [hs] at hf
      cases hf
      unfold Rep at h ⊢
      obtain ⟨a, vs, h1, h2, h3⟩ := h
      refine ⟨a, vs, h1, ?_, Reps.back so' so ex hs h3⟩
      rcases h2 with ⟨n, h2⟩ | h2
      · exact .inl ⟨fun z => n (back_has ex a z), h2⟩
      · exact .inr h2
  | .lst ds, d', v, hf, h => by
    unfold frz at hf
    cases hs : frzs s.length s' ds with
    | none => rw [hs] at hf; cases hf
    | some es =>
      rw [hs] at hf
      cases hf
      unfold Rep at h ⊢
      obtain ⟨a, vs, h1, h2, h3⟩ := h
      exact ⟨a, vs, h1, ⟨fun z => h2.1 (back_has ex a z), h2.2⟩, Reps.back so' so ex hs h3⟩
  | .frl ds, d', v, hf, h => by
    unfold frz at hf
    cases hs : frzs s.length s' ds with
    | none => rw [hs] at hf; cases hf
    | some es =>
      rw [hs] at hf
      cases hf
      unfold Rep at h ⊢
      obtain ⟨a, vs, h1, h2, h3⟩ := h
      refine ⟨a, vs, h1, ?_, Reps.back so' so ex hs h3⟩
      rcases h2 with ⟨n, h2⟩ | h2
      · exact .inl ⟨fun z => n (back_has ex a z), h2⟩
      · exact .inr h2
  | .dic ks ds, d', v, hf, h => by
    unfold frz at hf
    cases hs : frzs s.length s' ds with
    | none => rw [hs] at hf; cases hf
    | some es =>
      rw [hs] at hf
      cases hf
      unfold Rep at h ⊢
      obtain ⟨a, vs, h1, h2, h3, h4, h5⟩ := h
      exact ⟨a, vs, h1, fun z => h2 (back_has ex a z), h3, h4, Reps.back so' so ex hs h5⟩
  | .non, d', v, hf, h => by unfold frz at hf; cases hf; unfold Rep at h ⊢; exact h
  | .bl _, d', v, hf, h => by unfold frz at hf; cases hf; unfold Rep at h ⊢; exact h
  | .int _, d', v, hf, h => by unfold frz at hf; cases hf; unfold Rep at h ⊢; exact h
  | .str _, d', v, hf, h => by unfold frz at hf; cases hf; unfold Rep at h ⊢; exact h
  | .ty _, d', v, hf, h => by unfold frz at hf; cases hf; unfold Rep at h ⊢; exact h
  | .fn _, d', v, hf, h => by unfold frz at hf; cases hf; unfold Rep at h ⊢; exact h
theorem Reps.back (so' : StoOk K H' al' s') (so : StoOk K H al s) (ex : Ext al H al' H') : ∀ {ds ds' : List D} {vs : List V}, frzs s.length s' ds = some ds' → Reps K H' al' ds vs → Reps K H' al ds' vs
  | [], d', v, hf, h => by unfold frzs at hf; cases hf; unfold Reps at h ⊢; exact h
  | d :: ds, d', v, hf, h => by
    unfold frzs at hf
    cases h1 : frz s.length s' d with
    | none => rw [h1] at hf; cases hf
    | some x =>
      rw [h1] at hf
      have hf : (frzs s.length s' ds).map (fun xs => x :: xs) = some d' := hf
      cases h2 : frzs s.length s' ds with
      | none => rw [h2] at hf; cases hf
      | some xs =>
        rw [h2] at hf
        cases hf
        unfold Reps at h ⊢
        obtain ⟨v, ws, e, q1, q2⟩ := h
        exact ⟨v, ws, e, Rep.back so' so ex h1 q1, Reps.back so' so ex h2 q2⟩
end
theorem Ext.back (so : StoOk K H al s) (ex : Ext al H al' H') : Ext al H al H' := ⟨⟨[], by simp, fun _ h => by simp at h⟩, fun _ h => h, fun _ h => .inl h, ex.kept, ex.stay⟩
end
def startR (n : Nat) (ds : List D) : Ren := ds.map some ++ List.replicate (n - ds.length) none
/-- a def's result by its body's mirror; n slots -/
def mFun (n : Nat) (body : MS) (ds : List D) (s : Sto) : Res D := match body (startR n ds) s with
  | .rt d s' => match frz s.length s' d with
    | some d' => .ok d' (s'.take s.length)
    | none => .bad
  | .nx _ s' => .ok .non (s'.take s.length)
  | .ex c _ s' => .err c (s'.take s.length)
  | _ => .bad
/-- .. that hands out a list of its own that may be changed -/
def mFunM (n : Nat) (body : MS) (ds : List D) (s : Sto) : Res D := match body (startR n ds) s with
  | .rt (.ml k) s' => if k < s.length then .bad else match s'[k]? with
    | some es => .ok (.ml s.length) (s'.take s.length ++ [es])
    | none => .bad
  | .ex c _ s' => .err c (s'.take s.length)
  | _ => .bad
abbrev MF := List D → Sto → Res D
def spD (K : PySem.W.Frag) (mg : Str → Option Value) (n : Nat) (m : MF) : Sp := fun vs H Q E => vs.length = n ∧ ∃ al ds s, StoOk K H al s ∧ Reps K H al ds vs ∧ Aft K (RD K) al H (m ds s) Q (fun c H' => ∀ cls, mg c = some cls → E cls none H')
theorem start_ok {K : PySem.W.Frag} {H : Hp} {al : Led} {ds : List D} {vs : List V} {N : List Str} (rp : Reps K H al ds vs) : EnvOk K H al (startR N.length ds) (L2.start N vs) := by
  have hl := Reps.length rp
  refine ⟨?_, fun i d h => ?_⟩
  · unfold startR L2.start
    simp [hl]
  · unfold startR at h
    by_cases hi : i < ds.length
    · rw [List.getElem?_append_left (by simpa using hi), List.getElem?_map] at h
      cases hd : ds[i]? with
      | none => rw [hd] at h; cases h
      | some x =>
        rw [hd] at h
        cases h
        obtain ⟨v, h1, h2⟩ := Reps.get rp hd
        refine ⟨v, ?_, h2⟩
        unfold L2.start
        rw [List.getElem?_append_left (by rw [List.length_map, ← hl]; exact hi), List.getElem?_map, h1]
        rfl
    · rw [List.getElem?_append_right (by simpa using hi), List.getElem?_replicate] at h
      split at h <;> cases h
section
variable {P : Program} {w : World} {K : PySem.W.Frag} {mg : Str → Option Value} {base : Heap}
theorem fun_aft {al : Led} {H : Hp} {ds : List D} {s : Sto} {n : Nat} {mb : MS} {Q : VK} {E : XK} (so : StoOk K H al s) (af : Aft K (RD K) al H (mFun n mb ds s) Q (fun c H' => ∀ cls, mg c = some cls → E cls none H')) :
    AftS K mg (fun cls d _ H => E cls d H) al H (mb (startR n ds) s) { nx := fun _ H' => Q .non H', rt := Q } := by
  unfold mFun at af
  cases hb : mb (startR n ds) s with
  | rt d s' =>
    rw [hb] at af
    dsimp only at af
    cases hf : frz s.length s' d with
    | none => rw [hf] at af; exact af.elim
    | some d' =>
      rw [hf] at af
      exact fun v H' al' ex so' rp => af v H' al (Ext.back so ex) (so'.back so ex) (rp.back so' so ex hf)
  | nx r s' =>
    rw [hb] at af
    exact fun σ' H' al' ex so' eo' => af .non H' al (Ext.back so ex) (so'.back so ex) rep_non'
  | ex c r s' =>
    rw [hb] at af
    exact fun σ' H' al' ex so' eo' cls hc => af H' al (Ext.back so ex) (so'.back so ex) cls hc
  | bk r s' => rw [hb] at af; exact af.elim
  | ct r s' => rw [hb] at af; exact af.elim
  | bad => rw [hb] at af; exact af
theorem funM_aft {al : Led} {H : Hp} {ds : List D} {s : Sto} {n : Nat} {mb : MS} {Q : VK} {E : XK} (so : StoOk K H al s) (af : Aft K (RD K) al H (mFunM n mb ds s) Q (fun c H' => ∀ cls, mg c = some cls → E cls none H')) :
    AftS K mg (fun cls d _ H => E cls d H) al H (mb (startR n ds) s) { nx := fun _ H' => Q .non H', rt := Q } := by
  unfold mFunM at af
  cases hb : mb (startR n ds) s with
  | rt d s' =>
    rw [hb] at af
    cases d with
    | ml k =>
      dsimp only at af
      by_cases hk : k < s.length
      · rw [if_pos hk] at af; exact af.elim
      · rw [if_neg hk] at af
        cases hs : s'[k]? with
        | none => rw [hs] at af; exact af.elim
        | some es =>
          rw [hs] at af
          intro v H' al' ex so' rp
          unfold Rep at rp
          obtain ⟨a, rfl, h2⟩ := rp
          obtain ⟨b, vs, h3, h4, h5, h6⟩ := so'.at_ k es hs
          have : b = a := by rw [h2] at h3; exact (Option.some.inj h3).symm
          subst this
          obtain ⟨⟨n1, p1, f1⟩, g, hn, _, _⟩ := id ex
          have hn1 : b ∈ n1 := by
            rw [p1, List.getElem?_append_right (by rw [so.len]; omega)] at h3
            exact List.mem_of_getElem? h3
          have nb := so.ne (f1 b hn1)
          have sob := so'.back so ex
          have hlen : (s'.take s.length).length = s.length := by rw [← sob.len, so.len]
          have back : ∀ a, (al.more b).has a → al'.has a := fun a h => by
            rcases h with h | h
            · rcases List.mem_append.mp h with h | h
              · exact back_has ex a (.inl h)
              · rw [List.mem_singleton.mp h]
                exact .inl (List.mem_of_getElem? h2)
            · exact back_has ex a (.inr h)
          refine af (.ref b) H' (al.more b) ⟨⟨[b], rfl, fun a ha => by rw [List.mem_singleton.mp ha]; exact f1 b hn1⟩, fun _ h => h, fun _ h => .inl h, ex.kept, ex.stay⟩ ?_ ?_
          · refine ⟨List.nodup_append.mpr ⟨so.nd, by simp, fun a ha c hc => by rw [List.mem_singleton.mp hc]; exact fun z => nb (by rw [← z]; exact .inl ha)⟩, by simp [so.len, hlen], fun a h => ⟨(sob.hd a h).1, fun z => ?_⟩, fun j ds q => ?_⟩
            · rcases List.mem_append.mp z with z | z
              · exact (so.hd a h).2 z
              · rw [List.mem_singleton.mp z] at h
                exact nb (.inr h)
            · by_cases hj : j < s.length
              · rw [List.getElem?_append_left (by rw [hlen]; exact hj)] at q
                rw [List.getElem?_take, if_pos hj] at q
                obtain ⟨c, ws, g1, g2, g3, g4⟩ := so'.at_ j ds q
                rw [p1, List.getElem?_append_left (by rw [so.len]; exact hj)] at g1
                exact ⟨c, ws, by show (al.ms ++ [b])[j]? = _; rw [List.getElem?_append_left (by rw [so.len]; exact hj)]; exact g1, g2, g3.less back (.inl g4), g4⟩
              · rw [List.getElem?_append_right (by rw [hlen]; omega), hlen] at q
                have hj0 : j - s.length = 0 := by
                  have := (List.getElem?_eq_some_iff.mp q).1
                  simp at this; omega
                rw [hj0] at q
                have q' : es = ds := by simpa using q
                subst q'
                have hj' : j = s.length := by omega
                refine ⟨b, vs, ?_, h4, h5.less back (.inl h6), h6⟩
                show (al.ms ++ [b])[j]? = _
                rw [hj', ← so.len, List.getElem?_append_right (Nat.le_refl _)]
                simp
          · show Rep _ _ _ _ _
            unfold Rep
            refine ⟨b, rfl, ?_⟩
            show (al.ms ++ [b])[s.length]? = _
            rw [← so.len, List.getElem?_append_right (Nat.le_refl _)]
            simp
    | _ => exact af.elim
  | nx r s' => rw [hb] at af; exact af.elim
  | ex c r s' =>
    rw [hb] at af
    exact fun σ' H' al' ex so' eo' cls hc => af H' al (Ext.back so ex) (so'.back so ex) cls hc
  | bk r s' => rw [hb] at af; exact af.elim
  | ct r s' => rw [hb] at af; exact af.elim
  | bad => rw [hb] at af; exact af
/-- the wish of a def's body about exceptions -/
abbrev WD (E : XK) : WX := fun cls d _ H => E cls d H
/-- THE RULE: a def of the text, by its body's mirror -/
theorem dfun_of {x qual : Str} {st : Stmt} {f : Addr} {fd : FuncData} {N ps : List Str} {k : Nat} {mb : MS} {mf : MF} (F : Fun K x qual st f fd) (S : FnScope N ps (defScope st))
    (hm : ∀ (al : Led) (H : Hp) (ds : List D) (s : Sto) (Q : VK) (E : XK), StoOk K H al s → Aft K (RD K) al H (mf ds s) Q (fun c H' => ∀ cls, mg c = some cls → E cls none H') → AftS K mg (WD E) al H (mb (startR N.length ds) s) { nx := fun _ H' => Q .non H', rt := Q })
    (hb : ∀ (cdv : Value) (A : Around) (outer : List Env) (s : Shared) (H : Hp) (E : XK), Room k (A.deeper (envOfC qual (defScope st) s.heap.objs.size f cdv)) →
      DSs (cxOf (L2N.CX P w) P w K mg base N qual (defScope st) f cdv A outer s H E) (WD E) (defBody st) mb) :
    FnOk P w K mg base (L2N.CX P w) (k + 1) f fd ps (spD K mg ps.length mf) := by
  obtain ⟨oc, od, kV, doc, pm, an, cdv, ct, osl, rfl, lk, hcd⟩ := F.ex
  refine fn_of lk hcd S (fun vs H Q E h => h.1) fun A outer s H vs Q E hr hsp => ?_
  obtain ⟨hl, al, ds, so_, so, rp, af⟩ := hsp
  exact ⟨_, hb cdv A outer s H E hr, al, startR N.length ds, so_, so, start_ok rp, hm al H ds so_ Q E so af⟩
theorem dfun {x qual : Str} {st : Stmt} {f : Addr} {fd : FuncData} {N ps : List Str} {k : Nat} {mb : MS} (F : Fun K x qual st f fd) (S : FnScope N ps (defScope st))
    (hb : ∀ (cdv : Value) (A : Around) (outer : List Env) (s : Shared) (H : Hp) (E : XK), Room k (A.deeper (envOfC qual (defScope st) s.heap.objs.size f cdv)) →
      DSs (cxOf (L2N.CX P w) P w K mg base N qual (defScope st) f cdv A outer s H E) (WD E) (defBody st) mb) :
    FnOk P w K mg base (L2N.CX P w) (k + 1) f fd ps (spD K mg ps.length (mFun N.length mb)) := dfun_of F S (fun _ _ _ _ _ _ so af => fun_aft so af) hb
theorem dfunM {x qual : Str} {st : Stmt} {f : Addr} {fd : FuncData} {N ps : List Str} {k : Nat} {mb : MS} (F : Fun K x qual st f fd) (S : FnScope N ps (defScope st))
    (hb : ∀ (cdv : Value) (A : Around) (outer : List Env) (s : Shared) (H : Hp) (E : XK), Room k (A.deeper (envOfC qual (defScope st) s.heap.objs.size f cdv)) →
      DSs (cxOf (L2N.CX P w) P w K mg base N qual (defScope st) f cdv A outer s H E) (WD E) (defBody st) mb) :
    FnOk P w K mg base (L2N.CX P w) (k + 1) f fd ps (spD K mg ps.length (mFunM N.length mb)) := dfun_of F S (fun _ _ _ _ _ _ so af => funM_aft so af) hb
/-- a def as callers know it -/
structure Cal (P : Program) (w : World) (K : PySem.W.Frag) (mg : Str → Option Value) (base : Heap) (x : Str) (k n : Nat) (m : MF) : Prop where
  ex : ∃ f : Addr, FnR P w K mg base (L2N.CX P w) k f (spD K mg n m) ∧ mg x = some (.ref f) ∧ PySem.W.keepIn K (.ref f) = true
theorem Cal.mono {x : Str} {j k n : Nat} {m : MF} (c : Cal P w K mg base x j n m) (h : j ≤ k) : Cal P w K mg base x k n m := by
  obtain ⟨f, F, r⟩ := c.ex
  exact ⟨f, F.mono h, r⟩
theorem raw_of {k n : Nat} {m : MF} {f : Addr} {fd : FuncData} {ps : List Str} (F : FnOk P w K mg base (L2N.CX P w) k f fd ps (spD K mg n m)) (b : Binds K fd ps []) : FnR P w K mg base (L2N.CX P w) k f (spD K mg n m) :=
  (F.raw b .nil).imp fun vs H Q E h => by rw [List.append_nil]; exact h
/-- a def of the text that stands behind the name -/
structure Stands (K : PySem.W.Frag) (mg : Str → Option Value) (x : Str) (st : Stmt) (ps : List Str) : Prop where
  ex : ∃ (f : Addr) (fd : FuncData), Fun K x x st f fd ∧ mg x = some (.ref f) ∧ Binds K fd ps []
theorem cal_of {x : Str} {st : Stmt} {N ps : List Str} {k : Nat} {mb : MS} (S : Stands K mg x st ps) (sc : FnScope N ps (defScope st))
    (hb : ∀ (f : Addr) (cdv : Value) (A : Around) (outer : List Env) (s : Shared) (H : Hp) (E : XK), Room k (A.deeper (envOfC x (defScope st) s.heap.objs.size f cdv)) →
      DSs (cxOf (L2N.CX P w) P w K mg base N x (defScope st) f cdv A outer s H E) (WD E) (defBody st) mb) : Cal P w K mg base x (k + 1) ps.length (mFun N.length mb) := by
  obtain ⟨f, fd, F, g, b⟩ := S.ex
  exact ⟨f, raw_of (dfun F sc (hb f)) b, g, F.kp⟩
theorem calM_of {x : Str} {st : Stmt} {N ps : List Str} {k : Nat} {mb : MS} (S : Stands K mg x st ps) (sc : FnScope N ps (defScope st))
    (hb : ∀ (f : Addr) (cdv : Value) (A : Around) (outer : List Env) (s : Shared) (H : Hp) (E : XK), Room k (A.deeper (envOfC x (defScope st) s.heap.objs.size f cdv)) →
      DSs (cxOf (L2N.CX P w) P w K mg base N x (defScope st) f cdv A outer s H E) (WD E) (defBody st) mb) : Cal P w K mg base x (k + 1) ps.length (mFunM N.length mb) := by
  obtain ⟨f, fd, F, g, b⟩ := S.ex
  exact ⟨f, raw_of (dfunM F sc (hb f)) b, g, F.kp⟩
end
section
variable {X : Cx} {W : WX} {e : Expr} {es : List Expr} {pos : Pos} {ms : M1 (List D)}
def mCall (m : MF) (ms : M1 (List D)) : M1 D := fun r s => (ms r s).bind fun ds s1 => m ds s1
theorem call_aft {n : Nat} {m : MF} {σ : L2.St} {H1 : Hp} {al1 : Led} {ds : List D} {s1 : Sto} {vs : List V} {r : Ren} {Q : VK} (hn : ds.length = n) (so1 : StoOk X.K H1 al1 s1) (rp : Reps X.K H1 al1 ds vs) (af : Aft X.K (RD X.K) al1 H1 (m ds s1) Q (Er X.mg W σ)) : spD X.K X.mg n m vs H1 Q (WE W σ) :=
  ⟨by rw [← Reps.length rp]; exact hn, al1, ds, s1, so1, rp, af⟩
theorem run_fnRS {CX : CXT} {k : Nat} {f : Addr} {sp : Sp} {E : L2.St → XK} {pins : List (Addr × Obj)} {σ : L2.St} {H : Hp} {s : Shared} {Q : VK} {us : List Value} {vs : List V} (F : FnR X.prog X.w X.K X.mg X.base CX k f sp) (hr : Room k X.A) (hx : PassesAt CX X σ (E σ))
    (I : Inv X pins σ H s) (r : Vals vs us) (h : sp vs H Q (E σ)) : wpAny (model X.prog X.w) X.A (call (.ref f) us) (EP X pins σ Q) X.xe s := by
  refine wpAny_call (codeAny_mono (F X.A X.stack s H us vs Q (E σ) hr I.env0 r h) fun r s' hq => ?_)
  cases r with
  | error e => exact hx pins H s e s' I hq
  | ok fl =>
    cases fl with
    | ret u => exact I.after hq
    | next => exact False.elim hq
    | brk => exact False.elim hq
    | cont => exact False.elim hq
/-- f(e, ..) -/
theorem de_call {x : Str} {p : Pos} {k n : Nat} {m : MF} (C : Cal X.prog X.w X.K X.mg X.base x k n m) (hr : Room k X.A) (tk : L2N.Takes X W) (ha : DA X W (e :: es) ms) (hl : ∀ r s ds s1, ms r s = .ok ds s1 → ds.length = n) (hg : Gl X x := by rfl)
    (hdb : (x == ("__debug__" : Str)) = false := by decide) (he : starEach (e :: es) X.env = (false, eval e X.env) :: starEach es X.env := by rfl) (hpl : (backTo pos (starEach es X.env)).any (·.1) = false := by rfl) :
    DE X W (.Call (.Name x p) (e :: es) [] pos) (mCall m ms) := by
  obtain ⟨f, F, g, kp⟩ := C.ex
  refine ⟨fun pins s σ H Q I ⟨al, r, s0, so, eo, af⟩ => ?_⟩
  have h : tDA X.K X.mg W ms σ H fun vs H1 => spD X.K X.mg n m vs H1 Q (WE W σ) := ⟨al, r, s0, so, eo, af.bind fun ds s1 vs H1 al1 h e1 so1 rp1 af1 => call_aft (r := r) (hl _ _ _ _ h) so1 rp1 af1⟩
  refine wpAny_Call_Name_kw (ld_glob I hg g ?_ hdb)
  refine PySem.W.callWith_K (h₀ := X.base) I.ok.mod.kin kp (thn (ha.run pos pins s σ H _ I h) fun us s1 ⟨vs, H1, I1, r, q⟩ => ⟨I1.kIn, ?_⟩) he hpl
  exact run_fnRS F hr (L2N.passAt tk σ) I1 r q
/-- f() -/
theorem de_call0 {x : Str} {p : Pos} {k : Nat} {m : MF} (C : Cal X.prog X.w X.K X.mg X.base x k 0 m) (hr : Room k X.A) (tk : L2N.Takes X W) (hg : Gl X x := by rfl) (hdb : (x == ("__debug__" : Str)) = false := by decide) :
    DE X W (.Call (.Name x p) [] [] pos) (mCall m mNil) := by
  obtain ⟨f, F, g, kp⟩ := C.ex
  refine ⟨fun pins s σ H Q I ⟨al, r, s0, so, eo, af⟩ => ?_⟩
  refine wpAny_Call_Name_kw (ld_glob I hg g ?_ hdb)
  exact PySem.W.callWith_K0 I.kIn kp (run_fnRS (us := []) (vs := []) F hr (L2N.passAt tk σ) I .nil (call_aft (r := r) (ds := []) rfl so Reps.nil af))
theorem len_nil {r : Ren} {s : Sto} {ds : List D} {s1 : Sto} (h : mNil r s = .ok ds s1) : ds.length = 0 := by cases h; rfl
theorem len_cons {m : M1 D} {ms : M1 (List D)} {n : Nat} (hl : ∀ r s ds s1, ms r s = .ok ds s1 → ds.length = n) : ∀ r s ds s1, mCons m ms r s = .ok ds s1 → ds.length = n + 1 := fun r s ds s1 h => by
  unfold mCons at h
  cases h1 : m r s with
  | ok d s2 =>
    rw [h1, Res.bind_ok] at h
    cases h2 : ms r s2 with
    | ok es s3 =>
      rw [h2, Res.bind_ok] at h
      cases h
      rw [List.length_cons, hl _ _ _ _ h2]
    | err _ _ => rw [h2] at h; cases h
    | bad => rw [h2] at h; cases h
  | err _ _ => rw [h1] at h; cases h
  | bad => rw [h1] at h; cases h
end
end DL

set_option Elab.async false
set_option linter.all false
set_option maxRecDepth 100000
set_option maxHeartbeats 2000000
/-! DL6: operators on data. -/
namespace DL
open PySem PySem.Spec PyProof.Rows L2
/-! ### reading data -/
/-- a list's items -/
def D.lsO (s : Sto) : D → Option (List D)
  | .lst ds => some ds
  | .ml k => s[k]?
  | _ => none
/-- what is read by place: a list, a tuple -/
def D.sqO (s : Sto) : D → Option (List D)
  | .lst ds => some ds
  | .frl ds => some ds
  | .tup ds => some ds
  | .ml k => s[k]?
  | _ => none
section
variable {K : PySem.W.Frag} {H : Hp} {al : Led} {s : Sto} {d : D} {v : V} {ds : List D} {vs : List V}
theorem lsO_rep (so : StoOk K H al s) (h : d.lsO s = some ds) (r : Rep K H al d v) : ∃ a vs, v = .ref a ∧ H a = some (.lst vs) ∧ Reps K H al ds vs := by
  cases d with
  | lst es =>
    cases h
    unfold Rep at r
    obtain ⟨a, vs, rfl, h2, h3⟩ := r
    exact ⟨a, vs, rfl, h2.2, h3⟩
  | ml k =>
    unfold Rep at r
    obtain ⟨a, rfl, h2⟩ := r
    have h : s[k]? = some ds := h
    obtain ⟨b, vs, h3, h4, h5, h6⟩ := so.at_ k ds h
    rw [h2] at h3
    cases h3
    exact ⟨a, vs, rfl, h4, h5⟩
  | _ => cases h
theorem sqO_rep (so : StoOk K H al s) (h : d.sqO s = some ds) (r : Rep K H al d v) : ∃ a vs, v = .ref a ∧ (SqL K H a vs ∨ SqT K H a vs) ∧ Reps K H al ds vs := by
  cases d with
  | lst es =>
    cases h
    unfold Rep at r
    obtain ⟨a, vs, rfl, h2, h3⟩ := r
    exact ⟨a, vs, rfl, .inl (SqL.of h2.2), h3⟩
  | frl es =>
    cases h
    unfold Rep at r
    obtain ⟨a, vs, rfl, h2, h3⟩ := r
    exact ⟨a, vs, rfl, .inl h2.sq, h3⟩
  | tup es =>
    cases h
    unfold Rep at r
    obtain ⟨a, vs, rfl, h2, h3⟩ := r
    exact ⟨a, vs, rfl, .inr h2.sq, h3⟩
  | ml k =>
    unfold Rep at r
    obtain ⟨a, rfl, h2⟩ := r
    have h : s[k]? = some ds := h
    obtain ⟨b, vs, h3, h4, h5, h6⟩ := so.at_ k ds h
    rw [h2] at h3
    cases h3
    exact ⟨a, vs, rfl, .inl (SqL.of h4), h5⟩
  | _ => cases h
theorem aft_int {i : Int} {Q : VK} {E : Str → Hp → Prop} (h : Aft K (RD K) al H (.ok (.int i) s) Q E) (so : StoOk K H al s) : Q (.int i) H := h.ok so rep_int'
theorem aft_bl {i : Bool} {Q : VK} {E : Str → Hp → Prop} (h : Aft K (RD K) al H (.ok (.bl i) s) Q E) (so : StoOk K H al s) : Q (.bl i) H := h.ok so rep_bl'
theorem aft_str {i : Str} {Q : VK} {E : Str → Hp → Prop} (h : Aft K (RD K) al H (.ok (.str i) s) Q E) (so : StoOk K H al s) : Q (.str i) H := h.ok so rep_str'
end
theorem noErr_if {α : Type} {c : Prop} [Decidable c] {a b : Res α} (ha : NoErr a) (hb : NoErr b) : NoErr (if c then a else b) := by
  split
  · exact ha
  · exact hb
theorem noErr_ok {α : Type} {a : α} {s : Sto} : NoErr (Res.ok a s) := fun _ _ h => nomatch h
theorem noErr_bad {α : Type} : NoErr (Res.bad : Res α) := fun _ _ h => nomatch h

/-! ### arithmetic -/
def CDivG (i j : Int) : Prop := j ≠ 0 ∧ Builtin.divisionGoesByPylong i j = false
instance {i j : Int} : Decidable (CDivG i j) := inferInstanceAs (Decidable (_ ∧ _))
instance {i j : Int} : Decidable (CMulX i j) := inferInstanceAs (Decidable (_ ≤ _))
instance {i j : Int} : Decidable (CShl i j) := inferInstanceAs (Decidable (_ ∧ _))
def CPowX (i j : Int) : Prop := 0 ≤ j ∧ (Builtin.Int.intBits i : Int) * j ≤ 2 ^ 27
instance {i j : Int} : Decidable (CPowX i j) := inferInstanceAs (Decidable (_ ∧ _))
section
variable {X : Cx}
theorem op_fdivG : OpR X (binaryOp .FloorDiv) (rI CDivG fun i j => .int (i.fdiv j)) := opI fun _ _ _ _ _ _ _ hc q => floordiv_int hc.1 q (.inl hc.2)
theorem iop_fdivG : OpR X (inplaceOp .FloorDiv) (rI CDivG fun i j => .int (i.fdiv j)) := opI fun _ _ _ _ _ _ _ hc q => ifloordiv_int hc.1 q (.inl hc.2)
theorem op_powX : OpR X (binaryOp .Pow) (rI CPowX fun i j => .int (i ^ j.toNat)) := opI fun _ _ _ _ _ _ _ hc q => pow_int hc.1 hc.2 q
theorem iop_modG : OpR X (inplaceOp .Mod) (rI (fun _ j => j ≠ 0) fun i j => .int (i.fmod j)) := opI fun i j _ _ _ _ _ hc q => imod_int hc q
theorem iop_mulX : OpR X (inplaceOp .Mult) (rI CMulX fun i j => .int (i * j)) := opI fun _ _ _ _ _ _ _ hc q => imul_int q hc.ok
/-- text * int -/
def rRepS : R2 := fun x y H Q => ∃ (z : Str) (n : Int), x = .str z ∧ y = .int n ∧ -(2 ^ 63) ≤ n ∧ n < 2 ^ 63 ∧ z.length * n.toNat ≤ sizeLine ∧ Q (.str ⟨(List.replicate n.toNat z.cps.toList).flatten.toArray⟩) H
theorem str_fold (c : Array Nat) : ∀ (n : Nat) (acc : Array Nat), ((List.replicate n c).foldl (· ++ ·) acc).toList = acc.toList ++ (List.replicate n c.toList).flatten
  | 0, acc => by simp
  | n + 1, acc => by
    rw [List.replicate_succ, List.foldl_cons, str_fold c n, List.replicate_succ, List.flatten_cons, Array.toList_append, List.append_assoc]
theorem op_repS : OpR X (binaryOp .Mult) rRepS := by
  intro pins s σ H x y v u Q I rx ry h
  obtain ⟨z, n, rfl, rfl, h1, h2, hz, q⟩ := h
  obtain ⟨t, rfl⟩ := rx
  obtain ⟨t', rfl⟩ := ry
  have hs : sizeLine = 16777216 := sizeLine_eq
  refine PySem.P.mul_str ?_ ?_ ?_ ?_
  · have e1 : decide (n < -(2 ^ 63 : Int)) = false := decide_eq_false (by omega)
    have e2 : decide (n ≥ 2 ^ 63) = false := decide_eq_false (by omega)
    rw [e1, e2]; rfl
  · intro hn _ hgt
    have hn1 : 0 < n := by omega
    have h3 : (z.length : Int) * n ≤ 16777216 := by
      have : ((z.length * n.toNat : Nat) : Int) ≤ 16777216 := by
        have := hz
        rw [hs] at this
        exact Int.ofNat_le.mpr this
      rw [Int.natCast_mul, Int.toNat_of_nonneg (by omega)] at this
      exact this
    have h4 : ((2 ^ 63 - 1) / n + 1) * n ≤ (z.length : Int) * n := Int.mul_le_mul_of_nonneg_right (by omega) (by omega)
    have h5 : (2 ^ 63 - 1 : Int) < ((2 ^ 63 - 1) / n + 1) * n := Int.lt_ediv_add_one_mul_self _ hn1
    omega
  · intro _ _
    unfold Builtin.Str.tooLong
    have : ¬ (z.length * n.toNat > sizeLine) := by omega
    first
      | exact decide_eq_false this
      | (simp only [decide_eq_false_iff_not]; exact this)
  · by_cases hn : n < 1
    · rw [if_pos hn]
      have e : n.toNat = 0 := by omega
      refine ⟨by decide, ⟨.str _, H, I.tok _, ⟨_, rfl⟩, ?_⟩⟩
      rw [e] at q
      exact q
    · rw [if_neg hn]
      by_cases hb : (n == 1 || z.length == 0) = true
      · rw [if_pos hb]
        refine ⟨.str z, H, I, ⟨_, rfl⟩, ?_⟩
        have e : (⟨(List.replicate n.toNat z.cps.toList).flatten.toArray⟩ : Str) = z := by
          obtain ⟨c⟩ := z
          rcases (by simpa using hb : n = 1 ∨ (Str.mk c).length = 0) with e | e
          · subst e
            simp
          · have e' : c = #[] := Array.eq_empty_of_size_eq_zero e
            subst e'
            simp
        rw [e] at q
        exact q
      · rw [if_neg hb]
        have e : (List.replicate n.toNat z.cps).foldl (fun x1 x2 => x1 ++ x2) #[] = (List.replicate n.toNat z.cps.toList).flatten.toArray := by
          apply Array.toList_inj.mp
          rw [str_fold]
          simp
        rw [e]
        refine ⟨?_, ⟨.str _, H, I.tok _, ⟨_, rfl⟩, q⟩⟩
        show (List.replicate n.toNat z.cps.toList).flatten.toArray.size ≤ sizeLine
        rw [List.size_toArray, PyProof.Rows.lm_len_rep_flat, Nat.mul_comm, Array.length_toList]
        exact hz
end
end DL

set_option Elab.async false
set_option linter.all false
set_option maxRecDepth 100000
set_option maxHeartbeats 2000000
/-! DL7: the operators' data side. -/
namespace DL
open PySem PySem.Spec PyProof.Rows L2
theorem Op2Ok.or1 {K : PySem.W.Frag} {r r' : R2} {f : Op2} (h : Op2Ok K r f) : Op2Ok K (fun x y H Q => r x y H Q ∨ r' x y H Q) f := fun H al s x y dx dy Q so rx ry af => .inl (h H al s x y dx dy Q so rx ry af)
section
variable {K : PySem.W.Frag}
def strRep (z : Str) (n : Int) : Str := ⟨(List.replicate n.toNat z.cps.toList).flatten.toArray⟩
def lstRep (ds : List D) (n : Int) : List D := (List.replicate n.toNat ds).flatten
theorem reps_rep {H : Hp} {al : Led} {ds : List D} {vs : List V} (r : Reps K H al ds vs) : ∀ n : Nat, Reps K H al (List.replicate n ds).flatten (List.replicate n vs).flatten
  | 0 => Reps.nil
  | n + 1 => by
    rw [List.replicate_succ, List.flatten_cons, List.replicate_succ, List.flatten_cons]
    exact Reps.append r (reps_rep r n)
theorem rep_tup_of {H : Hp} {al : Led} {ds : List D} {v : V} (r : Rep K H al (.tup ds) v) : ∃ a vs, v = .ref a ∧ TupAt K H al a vs ∧ Reps K H al ds vs := by
  unfold Rep at r; exact r
theorem rep_tup_mk {H : Hp} {al : Led} {ds : List D} {a : Addr} {vs : List V} (h : TupAt K H al a vs) (r : Reps K H al ds vs) : Rep K H al (.tup ds) (.ref a) := by
  unfold Rep; exact ⟨a, vs, rfl, h, r⟩
def opAdd : Op2 := fun x y s => match x, y with
  | .int i, .int j => .ok (.int (i + j)) s
  | .str a, .str b => if a.length + b.length ≤ sizeLine then .ok (.str (a ++ b)) s else .bad
  | .tup a, .tup b => if a.length + b.length ≤ sizeLine then .ok (.tup (a ++ b)) s else .bad
  | x, y => match x.lsO s, y.lsO s with
    | some a, some b => if a.length + b.length ≤ sizeLine then .ok (.lst (a ++ b)) s else .bad
    | _, _ => .bad
def rAddAll (K : PySem.W.Frag) : R2 := fun x y H Q => rI0 (fun i j => .int (i + j)) x y H Q ∨ (∃ i j, x = .str i ∧ y = .str j ∧ i.length + j.length ≤ sizeLine ∧ Q (.str (i ++ j)) H) ∨ rCatA K x y H Q ∨ rCat x y H Q
theorem ok_add : Op2Ok K (rAddAll K) opAdd := by
  intro H al s x y dx dy Q so rx ry af
  unfold opAdd at af
  split at af
  · have := rep_int rx
    have := rep_int ry
    subst_vars
    exact .inl ⟨_, _, rfl, rfl, aft_int af so⟩
  · have := rep_str rx
    have := rep_str ry
    subst_vars
    split at af
    · rename_i hz
      exact .inr (.inl ⟨_, _, rfl, rfl, hz, aft_str af so⟩)
    · exact af.elim
  · rename_i a b
    split at af
    · rename_i hz
      obtain ⟨p, vs, rfl, h2, h3⟩ := rep_tup_of rx
      obtain ⟨q, ws, rfl, h5, h6⟩ := rep_tup_of ry
      have l1 := Reps.length h3
      have l2 := Reps.length h6
      refine .inr (.inr (.inl ⟨p, q, vs, ws, rfl, rfl, h2.sq, h5.sq, by omega, fun e => ?_, fun _ e => ?_, fun _ _ r hr => af.tup so (h3.append h6) hr⟩))
      · subst e
        have : a = [] := List.length_eq_zero_iff.mp (by simpa using l1)
        subst this
        exact af.ok so ry
      · subst e
        have : b = [] := List.length_eq_zero_iff.mp (by simpa using l2)
        subst this
        rw [List.append_nil] at af
        exact af.ok so rx
    · exact af.elim
  · split at af
    · rename_i a b h1 h2
      split at af
      · rename_i hz
        obtain ⟨p, vs, rfl, h3, h4⟩ := lsO_rep so h1 rx
        obtain ⟨q, ws, rfl, h5, h6⟩ := lsO_rep so h2 ry
        have l1 := Reps.length h4
        have l2 := Reps.length h6
        exact .inr (.inr (.inr ⟨p, q, vs, ws, rfl, rfl, h3, h5, by omega, fun r hr => af.lst so (h4.append h6) hr⟩))
      · exact af.elim
    · exact af.elim
theorem ne_add : ∀ x y s, NoErr (opAdd x y s) := fun x y s => by
  unfold opAdd
  split
  · exact noErr_ok
  · exact noErr_if noErr_ok noErr_bad
  · exact noErr_if noErr_ok noErr_bad
  · split
    · exact noErr_if noErr_ok noErr_bad
    · exact noErr_bad
def opSub : Op2 := fun x y s => match x, y with
  | .int i, .int j => .ok (.int (i - j)) s
  | _, _ => .bad
theorem ok_sub : Op2Ok K (rI0 fun i j => .int (i - j)) opSub := by
  intro H al s x y dx dy Q so rx ry af
  unfold opSub at af
  split at af
  · have := rep_int rx
    have := rep_int ry
    subst_vars
    exact ⟨_, _, rfl, rfl, aft_int af so⟩
  · exact af.elim
theorem ne_sub : ∀ x y s, NoErr (opSub x y s) := fun x y s => by
  unfold opSub
  split
  · exact noErr_ok
  · exact noErr_bad
def opMul : Op2 := fun x y s => match x, y with
  | .int i, .int j => if CMulX i j then .ok (.int (i * j)) s else .bad
  | .str z, .int n => if -(2 ^ 63) ≤ n ∧ n < 2 ^ 63 ∧ z.length * n.toNat ≤ sizeLine then .ok (.str (strRep z n)) s else .bad
  | .lst ds, .int n => if -(2 ^ 63) ≤ n ∧ n < 2 ^ 63 ∧ ds.length * n.toNat ≤ sizeLine then .ok (.lst (lstRep ds n)) s else .bad
  | _, _ => .bad
def rMulAll : R2 := fun x y H Q => rI CMulX (fun i j => .int (i * j)) x y H Q ∨ rRepS x y H Q ∨ rRep x y H Q
theorem ok_mul : Op2Ok K rMulAll opMul := by
  intro H al s x y dx dy Q so rx ry af
  unfold opMul at af
  split at af
  · have := rep_int rx
    have := rep_int ry
    subst_vars
    split at af
    · rename_i hz
      exact .inl ⟨_, _, rfl, rfl, hz, aft_int af so⟩
    · exact af.elim
  · have := rep_str rx
    have := rep_int ry
    subst_vars
    split at af
    · rename_i hz
      exact .inr (.inl ⟨_, _, rfl, rfl, hz.1, hz.2.1, hz.2.2, aft_str af so⟩)
    · exact af.elim
  · have := rep_int ry
    subst_vars
    split at af
    · rename_i hz
      unfold Rep at rx
      obtain ⟨a, vs, rfl, h2, h3⟩ := rx
      exact .inr (.inr ⟨a, _, vs, rfl, rfl, h2.2, hz.1, hz.2.1, by rw [← Reps.length h3]; exact hz.2.2, fun p hp => af.lst so (reps_rep h3 _) hp⟩)
    · exact af.elim
  · exact af.elim
theorem ne_mul : ∀ x y s, NoErr (opMul x y s) := fun x y s => by
  unfold opMul
  split
  · exact noErr_if noErr_ok noErr_bad
  · exact noErr_if noErr_ok noErr_bad
  · exact noErr_if noErr_ok noErr_bad
  · exact noErr_bad
/-- two ints under a condition -/
def opI (C : Int → Int → Prop) [∀ i j, Decidable (C i j)] (g : Int → Int → Int) : Op2 := fun x y s => match x, y with
  | .int i, .int j => if C i j then .ok (.int (g i j)) s else .bad
  | _, _ => .bad
theorem ok_I {C : Int → Int → Prop} [∀ i j, Decidable (C i j)] {g : Int → Int → Int} : Op2Ok K (rI C fun i j => .int (g i j)) (opI C g) := by
  intro H al s x y dx dy Q so rx ry af
  unfold opI at af
  split at af
  · have := rep_int rx
    have := rep_int ry
    subst_vars
    split at af
    · rename_i hz
      exact ⟨_, _, rfl, rfl, hz, aft_int af so⟩
    · exact af.elim
  · exact af.elim
theorem ne_I {C : Int → Int → Prop} [∀ i j, Decidable (C i j)] {g : Int → Int → Int} : ∀ x y s, NoErr (opI C g x y s) := fun x y s => by
  unfold opI
  split
  · exact noErr_if noErr_ok noErr_bad
  · exact noErr_bad
abbrev CNe (_ j : Int) : Prop := j ≠ 0
abbrev CNn (_ j : Int) : Prop := 0 ≤ j
abbrev opFdiv : Op2 := opI CDivG fun i j => i.fdiv j
abbrev opMod : Op2 := opI CNe fun i j => i.fmod j
abbrev opPow : Op2 := opI CPowX fun i j => i ^ j.toNat
abbrev opShl : Op2 := opI CShl fun i j => i * 2 ^ j.toNat
abbrev opShr : Op2 := opI CNn fun i j => i / 2 ^ j.toNat
/-- comparisons of ints -/
def opB (g : Int → Int → Bool) : Op2 := fun x y s => match x, y with
  | .int i, .int j => .ok (.bl (g i j)) s
  | _, _ => .bad
theorem ok_B {g : Int → Int → Bool} : Op2Ok K (rI0 fun i j => .bl (g i j)) (opB g) := by
  intro H al s x y dx dy Q so rx ry af
  unfold opB at af
  split at af
  · have := rep_int rx
    have := rep_int ry
    subst_vars
    exact ⟨_, _, rfl, rfl, aft_bl af so⟩
  · exact af.elim
theorem ne_B {g : Int → Int → Bool} : ∀ x y s, NoErr (opB g x y s) := fun x y s => by
  unfold opB
  split
  · exact noErr_ok
  · exact noErr_bad
abbrev opLt : Op2 := opB fun i j => decide (i < j)
abbrev opLe : Op2 := opB fun i j => decide (i ≤ j)
abbrev opGt : Op2 := opB fun i j => decide (j < i)
abbrev opGe : Op2 := opB fun i j => decide (j ≤ i)
/-! ### == -/
mutual
def D.py (s : Sto) : D → Option PyData
  | .non => some .none
  | .bl b => some (.bool b)
  | .int i => some (.int i)
  | .str x => some (.str x)
  | .lst ds => (pys s ds).map .list
  | .tup ds => (pys s ds).map .tuple
  | .frl ds => (pys s ds).map .list
  | _ => none
def pys (s : Sto) : List D → Option (List PyData)
  | [] => some []
  | d :: ds => (d.py s).bind fun x => (pys s ds).map fun xs => x :: xs
end
mutual
theorem py_dp {H : Hp} {al : Led} {s : Sto} : ∀ {d : D} {v : V} {p : PyData}, d.py s = some p → Rep K H al d v → Dp K H v p
  | .non, v, p, h, r => by unfold D.py at h; cases h; unfold Rep at r; subst r; exact .non
  | .bl b, v, p, h, r => by unfold D.py at h; cases h; unfold Rep at r; subst r; exact .bl b
  | .int i, v, p, h, r => by unfold D.py at h; cases h; unfold Rep at r; subst r; exact .int i
  | .str x, v, p, h, r => by unfold D.py at h; cases h; unfold Rep at r; subst r; exact .str x
  | .lst ds, v, p, h, r => by
    unfold D.py at h
    cases hs : pys s ds with
    | none => rw [hs] at h; cases h
    | some ps =>
      rw [hs] at h
      cases h
      unfold Rep at r
      obtain ⟨a, vs, rfl, h2, h3⟩ := r
      exact .lst (SqL.of h2.2) (pys_dp hs h3)
  | .frl ds, v, p, h, r => by
    unfold D.py at h
    cases hs : pys s ds with
    | none => rw [hs] at h; cases h
    | some ps =>
      rw [hs] at h
      cases h
      unfold Rep at r
      obtain ⟨a, vs, rfl, h2, h3⟩ := r
      exact .lst h2.sq (pys_dp hs h3)
  | .tup ds, v, p, h, r => by
    unfold D.py at h
    cases hs : pys s ds with
    | none => rw [hs] at h; cases h
    | some ps =>
      rw [hs] at h
      cases h
      unfold Rep at r
      obtain ⟨a, vs, rfl, h2, h3⟩ := r
      exact .tup h2.sq (pys_dp hs h3)
  | .ty _, v, p, h, r => by unfold D.py at h; cases h
  | .fn _, v, p, h, r => by unfold D.py at h; cases h
  | .dic _ _, v, p, h, r => by unfold D.py at h; cases h
  | .ml _, v, p, h, r => by unfold D.py at h; cases h
theorem pys_dp {H : Hp} {al : Led} {s : Sto} : ∀ {ds : List D} {vs : List V} {ps : List PyData}, pys s ds = some ps → Reps K H al ds vs → DpAll K H vs ps
  | [], vs, ps, h, r => by unfold pys at h; cases h; unfold Reps at r; subst r; exact .nil
  | d :: ds, vs, ps, h, r => by
    unfold pys at h
    cases h1 : d.py s with
    | none => rw [h1] at h; cases h
    | some x =>
      rw [h1] at h
      have h : (pys s ds).map (fun xs => x :: xs) = some ps := h
      cases h2 : pys s ds with
      | none => rw [h2] at h; cases h
      | some xs =>
        rw [h2] at h
        cases h
        unfold Reps at r
        obtain ⟨v, ws, rfl, r1, r2⟩ := r
        exact .cons (py_dp h1 r1) (pys_dp h2 r2)
end
/-- are both the same; none where it is not asked here -/
def eqD (s : Sto) (x y : D) : Option Bool := match x, y with
  | .int i, .int j => some (i == j)
  | .str a, .str b => some (a == b)
  | .bl a, .bl b => some (a == b)
  | .non, .non => some true
  | x, y => match x.py s, y.py s with
    | some p, some q => if SeqAt.shaped p = true ∧ SeqAt.shaped q = true then some (PyData.eqv p q) else none
    | _, _ => none
def opEq : Op2 := fun x y s => match eqD s x y with
  | some b => .ok (.bl b) s
  | none => .bad
def opNe : Op2 := fun x y s => match eqD s x y with
  | some b => .ok (.bl (!b)) s
  | none => .bad
def rEqAll (K : PySem.W.Frag) : R2 := fun x y H Q => rEq x y H Q ∨ rEqD K x y H Q
def rNeAll (K : PySem.W.Frag) : R2 := fun x y H Q => rNe x y H Q ∨ rNeD K x y H Q
theorem eq_read {H : Hp} {al : Led} {s : Sto} {x y : V} {dx dy : D} {b : Bool} (h : eqD s dx dy = some b) (rx : Rep K H al dx x) (ry : Rep K H al dy y) :
    (scal x y = true ∧ b = decide (x = y)) ∨ ∃ p q, Dp K H x p ∧ Dp K H y q ∧ SeqAt.shaped p = true ∧ SeqAt.shaped q = true ∧ b = PyData.eqv p q := by
  unfold eqD at h
  split at h
  · have := rep_int rx
    have := rep_int ry
    subst_vars
    cases h
    exact .inl ⟨rfl, dec_int.symm⟩
  · have := rep_str rx
    have := rep_str ry
    subst_vars
    cases h
    exact .inl ⟨rfl, dec_str.symm⟩
  · have := rep_bl rx
    have := rep_bl ry
    subst_vars
    cases h
    exact .inl ⟨rfl, dec_bl.symm⟩
  · have := rep_non rx
    have := rep_non ry
    subst_vars
    cases h
    exact .inl ⟨rfl, by simp⟩
  · split at h
    · rename_i p q h1 h2
      split at h
      · rename_i hz
        cases h
        exact .inr ⟨p, q, py_dp h1 rx, py_dp h2 ry, hz.1, hz.2, rfl⟩
      · cases h
    · cases h
theorem ok_eq : Op2Ok K (rEqAll K) opEq := by
  intro H al s x y dx dy Q so rx ry af
  unfold opEq at af
  split at af
  · rename_i b hb
    rcases eq_read hb rx ry with ⟨h1, rfl⟩ | ⟨p, q, h1, h2, h3, h4, rfl⟩
    · exact .inl ⟨h1, aft_bl af so⟩
    · exact .inr ⟨p, q, h1, h2, h3, h4, aft_bl af so⟩
  · exact af.elim
theorem ok_ne : Op2Ok K (rNeAll K) opNe := by
  intro H al s x y dx dy Q so rx ry af
  unfold opNe at af
  split at af
  · rename_i b hb
    rcases eq_read hb rx ry with ⟨h1, rfl⟩ | ⟨p, q, h1, h2, h3, h4, rfl⟩
    · exact .inl ⟨h1, aft_bl af so⟩
    · exact .inr ⟨p, q, h1, h2, h3, h4, aft_bl af so⟩
  · exact af.elim
theorem ne_eq : ∀ x y s, NoErr (opEq x y s) := fun x y s => by
  unfold opEq
  split
  · exact noErr_ok
  · exact noErr_bad
theorem ne_ne : ∀ x y s, NoErr (opNe x y s) := fun x y s => by
  unfold opNe
  split
  · exact noErr_ok
  · exact noErr_bad
/-- is None; is True, is False -/
def opIsN : Op2 := fun x y s => match y with
  | .non => match x with
    | .non => .ok (.bl true) s
    | _ => .ok (.bl false) s
  | .bl b => match x with
    | .bl a => .ok (.bl (decide (a = b))) s
    | _ => .bad
  | _ => .bad
def opNotN : Op2 := fun x y s => match y with
  | .non => match x with
    | .non => .ok (.bl false) s
    | _ => .ok (.bl true) s
  | .bl b => match x with
    | .bl a => .ok (.bl (!decide (a = b))) s
    | _ => .bad
  | _ => .bad
def rIsAll : R2 := fun x y H Q => (y = .non ∧ Q (.bl (decide (x = .non))) H) ∨ rIsB x y H Q
def rIsNotAll : R2 := fun x y H Q => (y = .non ∧ Q (.bl (!decide (x = .non))) H) ∨ rNotB x y H Q
theorem rep_nnon {H : Hp} {al : Led} {v : V} : ∀ {d : D}, Rep K H al d v → d ≠ .non → v ≠ .non
  | .non, r, n => absurd rfl n
  | .bl _, r, _ => by unfold Rep at r; subst r; exact fun z => nomatch z
  | .int _, r, _ => by unfold Rep at r; subst r; exact fun z => nomatch z
  | .str _, r, _ => by unfold Rep at r; subst r; exact fun z => nomatch z
  | .ty _, r, _ => by unfold Rep at r; subst r; exact fun z => nomatch z
  | .fn _, r, _ => by unfold Rep at r; subst r; exact fun z => nomatch z
  | .tup _, r, _ => by unfold Rep at r; obtain ⟨a, vs, rfl, _⟩ := r; exact fun z => nomatch z
  | .lst _, r, _ => by unfold Rep at r; obtain ⟨a, vs, rfl, _⟩ := r; exact fun z => nomatch z
  | .frl _, r, _ => by unfold Rep at r; obtain ⟨a, vs, rfl, _⟩ := r; exact fun z => nomatch z
  | .dic _ _, r, _ => by unfold Rep at r; obtain ⟨a, vs, rfl, _⟩ := r; exact fun z => nomatch z
  | .ml _, r, _ => by unfold Rep at r; obtain ⟨a, rfl, _⟩ := r; exact fun z => nomatch z
theorem ok_isN : Op2Ok K rIsAll opIsN := by
  intro H al s x y dx dy Q so rx ry af
  unfold opIsN at af
  split at af
  · have := rep_non ry
    subst_vars
    split at af
    · have := rep_non rx
      subst_vars
      exact .inl ⟨rfl, by rw [decide_eq_true rfl]; exact aft_bl af so⟩
    · rename_i hn
      exact .inl ⟨rfl, by rw [decide_eq_false (rep_nnon rx (fun z => hn z))]; exact aft_bl af so⟩
  · have := rep_bl ry
    subst_vars
    split at af
    · have := rep_bl rx
      subst_vars
      exact .inr ⟨_, _, rfl, rfl, aft_bl af so⟩
    · exact af.elim
  · exact af.elim
theorem ok_notN : Op2Ok K rIsNotAll opNotN := by
  intro H al s x y dx dy Q so rx ry af
  unfold opNotN at af
  split at af
  · have := rep_non ry
    subst_vars
    split at af
    · have := rep_non rx
      subst_vars
      exact .inl ⟨rfl, by rw [decide_eq_true rfl]; exact aft_bl af so⟩
    · rename_i hn
      exact .inl ⟨rfl, by rw [decide_eq_false (rep_nnon rx (fun z => hn z))]; exact aft_bl af so⟩
  · have := rep_bl ry
    subst_vars
    split at af
    · have := rep_bl rx
      subst_vars
      exact .inr ⟨_, _, rfl, rfl, aft_bl af so⟩
    · exact af.elim
  · exact af.elim
theorem ne_isN : ∀ x y s, NoErr (opIsN x y s) := fun x y s => by
  unfold opIsN
  split <;> (try split) <;> first | exact noErr_ok | exact noErr_bad
theorem ne_notN : ∀ x y s, NoErr (opNotN x y s) := fun x y s => by
  unfold opNotN
  split <;> (try split) <;> first | exact noErr_ok | exact noErr_bad
/-- by place -/
def opIx : Op2 := fun x y s => match y with
  | .int i => match x with
    | .str z => if z.length ≤ sizeLine then (match atI z.cps.toList i with
      | some c => .ok (.str ⟨#[c]⟩) s
      | none => .bad) else .bad
    | x => match x.sqO s with
      | some ds => match atI ds i with
        | some d => .ok d s
        | none => .bad
      | none => .bad
  | _ => .bad
theorem reps_atI {H : Hp} {al : Led} {ds : List D} {vs : List V} {i : Int} {d : D} (r : Reps K H al ds vs) (h : atI ds i = some d) : ∃ v, atI vs i = some v ∧ Rep K H al d v := by
  have hl := Reps.length r
  unfold atI at h ⊢
  rw [← hl]
  cases hx : ixN ds.length i with
  | none => rw [hx] at h; cases h
  | some j =>
    rw [hx] at h
    exact Reps.get r h
theorem ok_ix : Op2Ok K (rIx K) opIx := by
  intro H al s x y dx dy Q so rx ry af
  unfold opIx at af
  split at af
  · have := rep_int ry
    subst_vars
    split at af
    · have := rep_str rx
      subst_vars
      split at af
      · rename_i hz
        split at af
        · rename_i c hc
          exact .inr (.inr ⟨_, _, c, rfl, rfl, hz, hc, aft_str af so⟩)
        · exact af.elim
      · exact af.elim
    · split at af
      · rename_i ds hds
        split at af
        · rename_i d hd
          obtain ⟨a, vs, rfl, h2, h3⟩ := sqO_rep so hds rx
          obtain ⟨v, h4, h5⟩ := reps_atI h3 hd
          rcases h2 with h2 | h2
          · exact .inl ⟨a, vs, _, v, rfl, rfl, h2, h4, af.ok so h5⟩
          · exact .inr (.inl ⟨a, vs, _, v, rfl, rfl, h2, h4, af.ok so h5⟩)
        · exact af.elim
      · exact af.elim
  · exact af.elim
theorem ne_ix : ∀ x y s, NoErr (opIx x y s) := fun x y s => by
  unfold opIx
  split
  · split
    · split
      · split <;> first | exact noErr_ok | exact noErr_bad
      · exact noErr_bad
    · split
      · split <;> first | exact noErr_ok | exact noErr_bad
      · exact noErr_bad
  · exact noErr_bad
end
/-! ### the rules -/
section
variable {X : Cx} {W : WX} {a b : Expr} {ma mb : M1 D} {pos : Pos}
theorem or_add : OpR X (binaryOp .Add) (rAddAll X.K) := op_add.or (op_add_str.or (op_catA.or op_cat))
theorem or_mul : OpR X (binaryOp .Mult) rMulAll := op_mulX.or (op_repS.or op_rep)
theorem de_add (ha : DE X W a ma) (hb : DE X W b mb) : DE X W (.BinOp a .Add b pos) (mOp opAdd ma mb) := de_op or_add ok_add ne_add ha hb
theorem de_sub (ha : DE X W a ma) (hb : DE X W b mb) : DE X W (.BinOp a .Sub b pos) (mOp opSub ma mb) := de_op op_sub ok_sub ne_sub ha hb
theorem de_mul (ha : DE X W a ma) (hb : DE X W b mb) : DE X W (.BinOp a .Mult b pos) (mOp opMul ma mb) := de_op or_mul ok_mul ne_mul ha hb
theorem de_fdiv (ha : DE X W a ma) (hb : DE X W b mb) : DE X W (.BinOp a .FloorDiv b pos) (mOp opFdiv ma mb) := de_op op_fdivG ok_I ne_I ha hb
theorem de_mod (ha : DE X W a ma) (hb : DE X W b mb) : DE X W (.BinOp a .Mod b pos) (mOp opMod ma mb) := de_op op_modN ok_I ne_I ha hb
theorem de_pow (ha : DE X W a ma) (hb : DE X W b mb) : DE X W (.BinOp a .Pow b pos) (mOp opPow ma mb) := de_op op_powX ok_I ne_I ha hb
theorem de_shl (ha : DE X W a ma) (hb : DE X W b mb) : DE X W (.BinOp a .LShift b pos) (mOp opShl ma mb) := de_op op_shlW ok_I ne_I ha hb
theorem de_shr (ha : DE X W a ma) (hb : DE X W b mb) : DE X W (.BinOp a .RShift b pos) (mOp opShr ma mb) := de_op op_shr ok_I ne_I ha hb
theorem de_lt (ha : DE X W a ma) (hb : DE X W b mb) : DE X W (.Compare a [.Lt] [b] pos) (mOp opLt ma mb) := de_cmp op_lt ok_B ne_B (nomark _) ha hb
theorem de_le (ha : DE X W a ma) (hb : DE X W b mb) : DE X W (.Compare a [.LtE] [b] pos) (mOp opLe ma mb) := de_cmp op_le ok_B ne_B (nomark _) ha hb
theorem de_gt (ha : DE X W a ma) (hb : DE X W b mb) : DE X W (.Compare a [.Gt] [b] pos) (mOp opGt ma mb) := de_cmp op_gt ok_B ne_B (nomark _) ha hb
theorem de_ge (ha : DE X W a ma) (hb : DE X W b mb) : DE X W (.Compare a [.GtE] [b] pos) (mOp opGe ma mb) := de_cmp op_ge ok_B ne_B (nomark _) ha hb
theorem dt_lt (ha : DE X W a ma) (hb : DE X W b mb) : DT X W (.Compare a [.Lt] [b] pos) (mB (mOp opLt ma mb)) := dt_cmp op_lt ok_B ne_B (nomark _) ha hb
theorem dt_le (ha : DE X W a ma) (hb : DE X W b mb) : DT X W (.Compare a [.LtE] [b] pos) (mB (mOp opLe ma mb)) := dt_cmp op_le ok_B ne_B (nomark _) ha hb
theorem dt_gt (ha : DE X W a ma) (hb : DE X W b mb) : DT X W (.Compare a [.Gt] [b] pos) (mB (mOp opGt ma mb)) := dt_cmp op_gt ok_B ne_B (nomark _) ha hb
theorem dt_ge (ha : DE X W a ma) (hb : DE X W b mb) : DT X W (.Compare a [.GtE] [b] pos) (mB (mOp opGe ma mb)) := dt_cmp op_ge ok_B ne_B (nomark _) ha hb
theorem or_eq (hu : X.A.units + 64 < cLine) : OpR X (compareOp .Eq) (rEqAll X.K) := op_eq.or (op_eqD hu)
theorem or_ne (hu : X.A.units + 64 < cLine) : OpR X (compareOp .NotEq) (rNeAll X.K) := op_ne.or (op_neD hu)
theorem de_eq (hu : X.A.units + 64 < cLine) (ha : DE X W a ma) (hb : DE X W b mb) : DE X W (.Compare a [.Eq] [b] pos) (mOp opEq ma mb) := de_cmp (or_eq hu) ok_eq ne_eq (nomark _) ha hb
theorem de_ne (hu : X.A.units + 64 < cLine) (ha : DE X W a ma) (hb : DE X W b mb) : DE X W (.Compare a [.NotEq] [b] pos) (mOp opNe ma mb) := de_cmp (or_ne hu) ok_ne ne_ne (nomark _) ha hb
theorem dt_eq (hu : X.A.units + 64 < cLine) (ha : DE X W a ma) (hb : DE X W b mb) : DT X W (.Compare a [.Eq] [b] pos) (mB (mOp opEq ma mb)) := dt_cmp (or_eq hu) ok_eq ne_eq (nomark _) ha hb
theorem dt_ne (hu : X.A.units + 64 < cLine) (ha : DE X W a ma) (hb : DE X W b mb) : DT X W (.Compare a [.NotEq] [b] pos) (mB (mOp opNe ma mb)) := dt_cmp (or_ne hu) ok_ne ne_ne (nomark _) ha hb
theorem de_is (ha : DE X W a ma) (hb : DE X W b mb) : DE X W (.Compare a [.Is] [b] pos) (mOp opIsN ma mb) := de_cmp (op_isN.or op_isBl) ok_isN ne_isN (nomark _) ha hb
theorem de_isn (ha : DE X W a ma) (hb : DE X W b mb) : DE X W (.Compare a [.IsNot] [b] pos) (mOp opNotN ma mb) := de_cmp (op_notN.or op_notBl) ok_notN ne_notN (nomark _) ha hb
theorem dt_is (ha : DE X W a ma) (hb : DE X W b mb) : DT X W (.Compare a [.Is] [b] pos) (mB (mOp opIsN ma mb)) := dt_cmp (op_isN.or op_isBl) ok_isN ne_isN (nomark _) ha hb
theorem dt_isn (ha : DE X W a ma) (hb : DE X W b mb) : DT X W (.Compare a [.IsNot] [b] pos) (mB (mOp opNotN ma mb)) := dt_cmp (op_notN.or op_notBl) ok_notN ne_notN (nomark _) ha hb
theorem de_ix (ha : DE X W a ma) (hb : DE X W b mb) (hs : PlainIx b := by exact fun _ _ => rfl) : DE X W (.Subscript a b pos) (mOp opIx ma mb) := de_op2 (pe_ix ix_seq ha hb hs) (fun _ _ _ h => h) ok_ix ne_ix
/-- a < b < c -/
def mChain (f g : Op2) (ma mb mc : M1 D) : M1 D := fun r s => (ma r s).bind fun x s1 => (mb r s1).bind fun y s2 => (f x y s2).bind fun z s3 => match z with
  | .bl true => (mc r s3).bind fun w s4 => g y w s4
  | .bl false => .ok (.bl false) s3
  | _ => .bad
theorem chain_read {K : PySem.W.Frag} {mg : Str → Option Value} {f g : Op2} {r r' : R2} {mc : M1 D} {σ : L2.St} {H : Hp} {Q : VK} (hf : Op2Ok K r f) (hg : Op2Ok K r' g) (nf : ∀ x y s, NoErr (f x y s)) (ng : ∀ x y s, NoErr (g x y s)) (h : tD K mg W (mChain f g ma mb mc) σ H Q) :
    tChain r r' (tD K mg W ma) (tD K mg W mb) (tD K mg W mc) σ H Q := by
  obtain ⟨al, rr, s, so, eo, af⟩ := h
  refine ⟨al, rr, s, so, eo, af.bind fun x s1 v1 H1 al1 _ e1 so1 rp1 af1 => ⟨al1, rr, s1, so1, eo.ext e1, ?_⟩⟩
  refine af1.bind fun y s2 v2 H2 al2 _ e2 so2 rp2 af2 => ?_
  refine hf H2 al2 s2 v1 v2 x y _ so2 (rp1.ext e2) rp2 (Aft.noErr (nf _ _ _) (af2.bind fun z s3 v3 H3 al3 _ e3 so3 rp3 af3 => ?_))
  cases z with
  | bl k =>
    have := rep_bl rp3
    subst this
    refine ⟨k, rfl, ?_⟩
    cases k with
    | true =>
      refine iteT ⟨al3, rr, s3, so3, ((eo.ext e1).ext e2).ext e3, ?_⟩
      refine af3.bind fun w s4 v4 H4 al4 _ e4 so4 rp4 af4 => ?_
      exact hg H4 al4 s4 v2 v4 y w _ so4 ((rp2.ext e3).ext e4) rp4 (af4.noErr (ng _ _ _))
    | false => exact iteF (aft_bl af3 so3)
  | _ => exact af3.elim
theorem de_chain {op op' : CmpOp} {r r' : R2} {f g : Op2} {c : Expr} {mc : M1 D} (ho : OpR X (compareOp op) r) (ho' : OpR X (compareOp op') r') (hf : Op2Ok X.K r f) (hg : Op2Ok X.K r' g) (nf : ∀ x y s, NoErr (f x y s)) (ng : ∀ x y s, NoErr (g x y s)) (ha : DE X W a ma) (hb : DE X W b mb) (hc : DE X W c mc)
    (hm : lastMarks [op, op'] [b, c] = false := by with_unfolding_all rfl) : DE X W (.Compare a [op, op'] [b, c] pos) (mChain f g ma mb mc) :=
  pe_w (pe_chain ho ho' ha hb hc hm) fun σ H Q h => chain_read hf hg nf ng h
theorem dt_chain {op op' : CmpOp} {r r' : R2} {f g : Op2} {c : Expr} {mc : M1 D} (ho : OpR X (compareOp op) r) (ho' : OpR X (compareOp op') r') (hf : Op2Ok X.K r f) (hg : Op2Ok X.K r' g) (nf : ∀ x y s, NoErr (f x y s)) (ng : ∀ x y s, NoErr (g x y s)) (ha : DE X W a ma) (hb : DE X W b mb) (hc : DE X W c mc)
    (hm : lastMarks [op, op'] [b, c] = false := by with_unfolding_all rfl) : DT X W (.Compare a [op, op'] [b, c] pos) (mB (mChain f g ma mb mc)) :=
  pt_w (pt_chain ho ho' ha hb hc hm) fun σ H Q h => chain_read hf hg nf ng (tB_of h)
/-- - a -/
def mNeg (m : M1 D) : M1 D := fun r s => (m r s).bind fun d s1 => match d with
  | .int i => .ok (.int (-i)) s1
  | _ => .bad
theorem de_neg (ha : DE X W a ma) : DE X W (.UnaryOp .USub a pos) (mNeg ma) := by
  refine pe_w (pe_un un_neg ha) fun σ H Q ⟨al, rr, s, so, eo, af⟩ => ⟨al, rr, s, so, eo, ?_⟩
  refine af.bind fun x s1 v1 H1 al1 _ e1 so1 rp1 af1 => ?_
  cases x with
  | int i =>
    have := rep_int rp1
    subst this
    exact ⟨i, rfl, aft_int af1 so1⟩
  | _ => exact af1.elim
end
end DL

set_option Elab.async false
set_option linter.all false
set_option maxRecDepth 100000
set_option maxHeartbeats 2000000
/-! DL8: list(reversed(list)); calls of built-ins and their methods; slices; f-strings. -/
namespace DL
open PySem PySem.Spec PyProof.Rows L2
/-! ### list(reversed(l)), at the library's level -/
section
variable {prog : Program} {w : World} {A : Around} {E : Value → Shared → Prop} {s : Shared}
theorem list_init_rev {R : Result → Shared → Prop} {it l S : Addr} {items : Array Value} (hh : A.handled = none) (hit : s.heap.IsRevIter it l ((items.size : Int) - 1)) (hl : s.heap.IsList l items) (hne : l ≠ it) (hn : items.size ≤ sizeLine)
    (hSi : S ≠ it) (hSl : S ≠ l) (hS : s.heap.get? S = some { cls := .type "list", data := .seq #[] })
    (hR : ∀ h' tk acc' c', (∀ b o, b ≠ S → b ≠ it → s.heap.get? b = some o → h'.get? b = some o) → h'.get? S = some { cls := .type "list", dict := none, data := .seq acc' c', slots := #[] } →
      ItemsOf (fun i v => items[items.size - 1 - i]? = some v) acc' items.size → R (.ok (.ret .none)) { s with heap := h', toks := tk }) :
    wpAny (model prog w) A.in1 (Builtin.«list.__init__» ⟨[.ref S, .ref it], []⟩)
      (fun fin s' => match fin with | .done f => R (.ok f) s' | .again c' => c'.quiet = true ∧ codeAny (model prog w) A c' R s') (fun e s' => R (.error e) s') s := by
  have W := (Walks.listRev (prog := prog) (w := w) (A := A.in1) hh it l hne items).toS
  have hSf : S ∉ [it, l] := by simp only [List.mem_cons, List.not_mem_nil, or_false, not_or]; exact ⟨hSi, hSl⟩
  show wpAny _ _ (do let old ← Builtin.List.listItems (.ref S); Builtin.List.listUpdate (.ref S) (fun _ => #[]); letGo old.toList.reverse; Builtin.List.listExtendWith (.ref S) (.ref it) .none) _ _ s
  refine wpAny_bind ?_
  unfold Builtin.List.listItems
  refine wpAny_bind (wpAny_seqItems hS rfl (wpAny_pure ?_))
  show wpAny _ _ (updateSeq S (fun _ => #[]) >>= fun _ => letGo (#[] : Array Value).toList.reverse >>= fun _ => Builtin.List.listExtendWith (.ref S) (.ref it) .none) _ _ s
  refine wpAny_bind (wpAny_updateSeq hS rfl ?_)
  have hS₂ := Heap.get?_update_self (Obj.mapSeq (fun _ => (#[] : Array Value))) hS rfl
  have oth : ∀ b o, b ≠ S → s.heap.get? b = some o → (s.heap.update S (Obj.mapSeq (fun _ => (#[] : Array Value)))).get? b = some o :=
    fun b o hb e => (Heap.get?_update_other _ _ (Ne.symm hb)).trans e
  refine wpAny_bind (wpAny_letGo ?_)
  have hit1 : (s.heap.update S (Obj.mapSeq (fun _ => (#[] : Array Value)))).IsRevIter it l ((items.size : Int) - 1) := hit.at fun o e => oth it o (Ne.symm hSi) e
  have hl1 : (s.heap.update S (Obj.mapSeq (fun _ => (#[] : Array Value)))).IsList l items := by
    obtain ⟨o, ho, r⟩ := hl
    exact ⟨o, oth l o (Ne.symm hSl) ho, r⟩
  have hT : ({ s with heap := s.heap.update S (Obj.mapSeq (fun _ => (#[] : Array Value))) } : Shared).TypeIs (.ref it) "list_reverseiterator" := Heap.IsRevIter.typeIs (s := { s with heap := s.heap.update S (Obj.mapSeq (fun _ => (#[] : Array Value))) }) hit1
  have h1 : Builtin.List.listSameRef (.ref S) (.ref it) = false := by simp [Builtin.List.listSameRef, hSi]
  unfold Builtin.List.listExtendWith
  refine wpAny_bind (wpAny_typeOf hT ?_)
  rw [if_neg (by rw [h1]; decide)]
  refine wpAny_bind (wpAny_pyIter_revIter (s := { s with heap := s.heap.update S (Obj.mapSeq (fun _ => (#[] : Array Value))) }) hit1 ?_)
  refine wpAny_bind (wpAny_holding ?_)
  unfold Builtin.List.listLengthHint
  refine wpAny_bind (wpAny_specialOf hT RT.nolen_lri ?_)
  show wpAny _ A.in1 (specialOf (Value.ref it) (Str.ofString "__length_hint__") >>= _) _ _ _
  refine wpAny_bind (wpAny_specialOf hT RT.hint_lri ?_)
  generalize hid : ("list_reverseiterator.__length_hint__" : String) = id0
  wp_delta
  rw [show splitId id0 = some ("list_reverseiterator", "__length_hint__") from by subst hid; decide +kernel]
  subst hid
  refine wpAny_bind (wpAny_isInstance (b := true) hT (by rw [isSubtype_type]; kernel_rfl) ?_)
  refine wpAny_pure ?_
  rw [if_neg (by decide)]
  have e0 : ((items.size : Nat) : Int) - 1 - ((0 : Nat) : Int) = (items.size : Int) - 1 := by omega
  refine wpAny_pure ⟨plainId_quiet F.plain_extend_loop _, codeAny_extend_loopS W hn _ hSf _ items.size 0 _ _ _ rfl (Nat.zero_le _) ⟨Nat.zero_le _, by rw [e0]; exact hit1, hl1⟩ hS₂ (ItemsOf.nil _) fun s' acc' c' hm hS' hacc => ?_⟩
  rw [Moved.eq_with hm]
  refine hR s'.heap s'.toks acc' c' (fun b o hb hbi e => hm.heap b o (fun hmem => ?_) (oth b o hb e)) hS' hacc
  rcases List.mem_cons.mp hmem with e' | hmem
  · exact hb e'
  · exact hbi (List.mem_singleton.mp hmem)
theorem call_list_rev {Q : Value → Shared → Prop} {it l : Addr} {items : Array Value} (hh : A.handled = none) (hit : s.heap.IsRevIter it l ((items.size : Int) - 1)) (hl : s.heap.IsList l items) (hne : l ≠ it) (hn : items.size ≤ sizeLine)
    (hQ : ∀ h' tk acc' c', (∀ b o, b ≠ it → s.heap.get? b = some o → h'.get? b = some o) →
      h'.get? s.heap.objs.size = some { cls := .type "list", dict := none, data := .seq acc' c', slots := #[] } → ItemsOf (fun i v => items[items.size - 1 - i]? = some v) acc' items.size → Q (.ref s.heap.objs.size) { s with heap := h', toks := tk }) :
    wpAny (model prog w) A (call (.type "list") [.ref it]) Q E s := by
  refine callType_codes (Q₁ := fun obj s₁ => obj = .ref s.heap.objs.size ∧ s₁ = { s with heap := s.heap.push { cls := .type "list", data := .seq #[] } }) F.called_list (F.typeCall_list_1 _) F.entry_list_init
    (code_list_new _ ⟨rfl, rfl⟩) fun obj s₁ h₁ => ?_
  obtain ⟨rfl, rfl⟩ := h₁
  have hS : (s.heap.push { cls := .type "list", data := .seq #[] }).get? s.heap.objs.size = some { cls := .type "list", data := .seq #[] } := Heap.get?_push_size _ rfl
  obtain ⟨oi, hoi, _⟩ := id hit
  obtain ⟨ol, hol, _⟩ := id hl
  have hit1 : (s.heap.push { cls := .type "list", data := .seq #[] }).IsRevIter it l ((items.size : Int) - 1) := hit.at fun o e => Heap.get?_push_of_some _ e
  refine ⟨⟨_, hS, rfl⟩, F.args_list_init_2 _ _, list_init_rev (A := A.in1) hh hit1 (hl.push _) hne hn (Nat.ne_of_gt (Heap.lt_size hoi)) (Nat.ne_of_gt (Heap.lt_size hol)) hS fun h' tk acc' c' hk hS' hacc => ?_⟩
  exact ⟨rfl, hQ h' tk acc' c' (fun b o hb e => hk b o (Nat.ne_of_lt (Heap.lt_size e)) hb (Heap.get?_push_of_some _ e)) hS' hacc⟩
end
section
variable {X : Cx}
/-- list(reversed(l)): a new list -/
def tLstRev (K : PySem.W.Frag) (te : TE) : TE := fun σ H Q => te σ H fun v H1 => ∃ (a : Addr) (xs : List V), v = .ref a ∧ SqL K H1 a xs ∧ ∀ q, H1 q = none → Q (.ref q) (upd H1 q (.lst xs.reverse))
theorem pe_lstRev {e : Expr} {te : TE} {p p2 pos pos2 : Pos} (hc : X.calm = true) (hg : Gl X "list") (hm : X.mg "list" = none) (hg2 : Gl X "reversed") (hm2 : X.mg "reversed" = none) (he : PE X e te)
    (hs : starEach [e] X.env = (false, eval e X.env) :: starEach [] X.env := by rfl)
    (hs2 : starEach [.Call (.Name "reversed" p2) [e] [] pos2] X.env = (false, eval (.Call (.Name "reversed" p2) [e] [] pos2) X.env) :: starEach [] X.env := by rfl) :
    PE X (.Call (.Name "list" p) [.Call (.Name "reversed" p2) [e] [] pos2] [] pos) (tLstRev X.K te) := by
  refine ⟨fun pins s σ H Q I h => ?_⟩
  refine Call_ (ld_blt I hg hm boot_list (PyProof.Rows.callWith_type1 (args_cons ?_ hs2) hs2 rfl))
  refine Call_ (ld_blt I hg2 hm2 PyProof.Rows.boot_reversed (PyProof.Rows.callWith_type1 (args_cons (thn (he.run pins s σ H _ I h) fun u s1 ⟨v, H1, I1, r1, a, xs, ev, hq, q⟩ => args_nil ?_) hs) hs rfl))
  subst ev
  obtain rfl : u = Value.ref a := r1
  obtain ⟨its, rv, p', hz⟩ := I1.list hq
  have hl := rv.length
  obtain ⟨ol, hol, hcl, nl, hdl⟩ := id p'.isList
  refine call_reversed_list p'.isList (args_nil ?_)
  have ha : a ≠ s1.heap.objs.size := Nat.ne_of_lt (Heap.lt_size hol)
  refine call_list_rev (it := s1.heap.objs.size) (l := a) (items := its.toArray) (I1.ok.hd hc) ⟨_, Heap.get?_push_size _ rfl, rfl, rfl⟩ (p'.isList.push _) ha (by simp only [List.size_toArray]; omega) fun h' tk acc c' hk e' hi => ?_
  have kp : ∀ b o, s1.heap.get? b = some o → h'.get? b = some o := fun b o e => hk b o (Nat.ne_of_lt (Heap.lt_size e)) (Heap.get?_push_of_some _ e)
  have sz : ∀ o : Obj, (s1.heap.push o).objs.size = s1.heap.objs.size + 1 := fun o => Heap.size_push _ _
  have hv := RT.vals_rev rv hi
  refine ⟨.ref _, upd H1 _ (.lst xs.reverse), I1.laid kp (by rw [sz]; exact Nat.le_succ _) (show ObjOk X.prog X.w _ _ _ (.lst xs.reverse) from ⟨by rw [List.length_reverse]; exact hz, acc.toList, c', hv, by rw [Array.toArray_toList]; exact e'⟩), rfl, q _ (I1.hok.fresh (by rw [sz]; exact Nat.le_succ _))⟩
end
end DL

set_option Elab.async false
set_option linter.all false
set_option maxRecDepth 100000
set_option maxHeartbeats 2000000
/-! DL9: calls of built-ins and their methods; slices; f-strings. -/
namespace DL
open PySem PySem.Spec PyProof.Rows L2
def CallOk (K : PySem.W.Frag) (r : List V → Hp → VK → Prop) (f : MF) : Prop := ∀ (H : Hp) (al : Led) (s : Sto) (ds : List D) (vs : List V) (Q : VK), StoOk K H al s → Reps K H al ds vs → Aft K (RD K) al H (f ds s) Q (fun _ _ => False) → r vs H Q
section
variable {X : Cx} {W : WX} {e : Expr} {es : List Expr} {ms : M1 (List D)} {r : List V → Hp → VK → Prop} {f : MF} {x : Str} {p pos : Pos} {id T : String}
theorem tCB_of {σ : L2.St} {H : Hp} {Q : VK} {K : PySem.W.Frag} {mg : Str → Option Value} (hf : CallOk K r f) (hn : ∀ ds s, NoErr (f ds s)) (h : tD K mg W (mCall f ms) σ H Q) : tCB r (tDA K mg W ms) σ H Q := by
  obtain ⟨al, rr, s, so, eo, af⟩ := h
  exact ⟨al, rr, s, so, eo, af.bind fun ds s1 vs H1 al1 _ e1 so1 rp1 af1 => hf H1 al1 s1 ds vs Q so1 rp1 (af1.noErr (hn _ _))⟩
theorem de_b (hc : CallR X (.builtin id) r) (hf : CallOk X.K r f) (hn : ∀ ds s, NoErr (f ds s)) (hm : X.mg x = none) (hv : bootBuiltins x = some (.builtin id)) (ha : DA X W (e :: es) ms) (hg : Gl X x := by rfl) (hx : x ≠ "__name__" := by decide) (hdb : (x == ("__debug__" : Str)) = false := by decide)
    (he : starEach (e :: es) X.env = (false, eval e X.env) :: starEach es X.env := by rfl) (hpl : (backTo pos (starEach es X.env)).any (·.1) = false := by rfl) : DE X W (.Call (.Name x p) (e :: es) [] pos) (mCall f ms) :=
  pe_w (pe_callB hc hg hm hv ha hx hdb he hpl) fun σ H Q h => tCB_of hf hn h
theorem de_ty (hc : CallR X (.type T) r) (hf : CallOk X.K r f) (hn : ∀ ds s, NoErr (f ds s)) (hm : X.mg x = none) (hv : bootBuiltins x = some (.type T)) (ha : DA X W (e :: es) ms) (hg : Gl X x := by rfl) (hx : x ≠ "__name__" := by decide) (hdb : (x == ("__debug__" : Str)) = false := by decide)
    (he : starEach (e :: es) X.env = (false, eval e X.env) :: starEach es X.env := by rfl) (hpl : (backTo pos (starEach es X.env)).any (·.1) = false := by rfl) : DE X W (.Call (.Name x p) (e :: es) [] pos) (mCall f ms) :=
  pe_w (pe_callTy hc hg hm hv ha hx hdb he hpl) fun σ H Q h => tCB_of hf hn h
end
/-- a function of one datum, of two -/
def f1 (g : D → Sto → Res D) : MF := fun ds s => match ds with
  | [d] => g d s
  | _ => .bad
def f2 (g : D → D → Sto → Res D) : MF := fun ds s => match ds with
  | [x, y] => g x y s
  | _ => .bad
theorem ne_f1 {g : D → Sto → Res D} (h : ∀ d s, NoErr (g d s)) : ∀ ds s, NoErr (f1 g ds s) := fun ds s => by
  unfold f1
  split
  · exact h _ _
  · exact noErr_bad
theorem ne_f2 {g : D → D → Sto → Res D} (h : ∀ d e s, NoErr (g d e s)) : ∀ ds s, NoErr (f2 g ds s) := fun ds s => by
  unfold f2
  split
  · exact h _ _ _
  · exact noErr_bad
theorem ok_f1 {K : PySem.W.Frag} {r : List V → Hp → VK → Prop} {g : D → Sto → Res D} (h : ∀ (H : Hp) (al : Led) (s : Sto) (d : D) (v : V) (Q : VK), StoOk K H al s → Rep K H al d v → Aft K (RD K) al H (g d s) Q (fun _ _ => False) → r [v] H Q) : CallOk K r (f1 g) := by
  intro H al s ds vs Q so rp af
  unfold f1 at af
  split at af
  · obtain ⟨v, rfl, h1⟩ := reps1 rp
    exact h H al s _ v Q so h1 af
  · exact af.elim
theorem ok_f2 {K : PySem.W.Frag} {r : List V → Hp → VK → Prop} {g : D → D → Sto → Res D} (h : ∀ (H : Hp) (al : Led) (s : Sto) (d e : D) (v w : V) (Q : VK), StoOk K H al s → Rep K H al d v → Rep K H al e w → Aft K (RD K) al H (g d e s) Q (fun _ _ => False) → r [v, w] H Q) : CallOk K r (f2 g) := by
  intro H al s ds vs Q so rp af
  unfold f2 at af
  split at af
  · obtain ⟨v, w, rfl, h1, h2⟩ := reps2 rp
    exact h H al s _ _ v w Q so h1 h2 af
  · exact af.elim
/-! ### data of one kind -/
def intsO : List D → Option (List Int)
  | [] => some []
  | .int i :: ds => (intsO ds).map fun xs => i :: xs
  | _ => none
def blsO : List D → Option (List Bool)
  | [] => some []
  | .bl i :: ds => (blsO ds).map fun xs => i :: xs
  | _ => none
def strsO : List D → Option (List Str)
  | [] => some []
  | .str i :: ds => (strsO ds).map fun xs => i :: xs
  | _ => none
section
variable {K : PySem.W.Frag} {H : Hp} {al : Led} {s : Sto}
theorem ints_v : ∀ {ds : List D} {vs : List V} {xs : List Int}, intsO ds = some xs → Reps K H al ds vs → vs = xs.map V.int
  | [], vs, xs, h, r => by cases h; exact reps0 r
  | .int i :: ds, vs, xs, h, r => by
    have h : (intsO ds).map (fun xs => i :: xs) = some xs := h
    cases hs : intsO ds with
    | none => rw [hs] at h; cases h
    | some ys =>
      rw [hs] at h
      cases h
      unfold Reps at r
      obtain ⟨v, ws, rfl, r1, r2⟩ := r
      rw [rep_int r1, ints_v hs r2]
      rfl
  | .non :: ds, vs, xs, h, r => by cases h
  | .bl _ :: ds, vs, xs, h, r => by cases h
  | .str _ :: ds, vs, xs, h, r => by cases h
  | .ty _ :: ds, vs, xs, h, r => by cases h
  | .fn _ :: ds, vs, xs, h, r => by cases h
  | .tup _ :: ds, vs, xs, h, r => by cases h
  | .lst _ :: ds, vs, xs, h, r => by cases h
  | .frl _ :: ds, vs, xs, h, r => by cases h
  | .dic _ _ :: ds, vs, xs, h, r => by cases h
  | .ml _ :: ds, vs, xs, h, r => by cases h
theorem bls_v : ∀ {ds : List D} {vs : List V} {xs : List Bool}, blsO ds = some xs → Reps K H al ds vs → vs = xs.map V.bl
  | [], vs, xs, h, r => by cases h; exact reps0 r
  | .bl i :: ds, vs, xs, h, r => by
    have h : (blsO ds).map (fun xs => i :: xs) = some xs := h
    cases hs : blsO ds with
    | none => rw [hs] at h; cases h
    | some ys =>
      rw [hs] at h
      cases h
      unfold Reps at r
      obtain ⟨v, ws, rfl, r1, r2⟩ := r
      rw [rep_bl r1, bls_v hs r2]
      rfl
  | .non :: ds, vs, xs, h, r => by cases h
  | .int _ :: ds, vs, xs, h, r => by cases h
  | .str _ :: ds, vs, xs, h, r => by cases h
  | .ty _ :: ds, vs, xs, h, r => by cases h
  | .fn _ :: ds, vs, xs, h, r => by cases h
  | .tup _ :: ds, vs, xs, h, r => by cases h
  | .lst _ :: ds, vs, xs, h, r => by cases h
  | .frl _ :: ds, vs, xs, h, r => by cases h
  | .dic _ _ :: ds, vs, xs, h, r => by cases h
  | .ml _ :: ds, vs, xs, h, r => by cases h
theorem strs_v : ∀ {ds : List D} {vs : List V} {xs : List Str}, strsO ds = some xs → Reps K H al ds vs → vs = xs.map V.str
  | [], vs, xs, h, r => by cases h; exact reps0 r
  | .str i :: ds, vs, xs, h, r => by
    have h : (strsO ds).map (fun xs => i :: xs) = some xs := h
    cases hs : strsO ds with
    | none => rw [hs] at h; cases h
    | some ys =>
      rw [hs] at h
      cases h
      unfold Reps at r
      obtain ⟨v, ws, rfl, r1, r2⟩ := r
      rw [rep_str r1, strs_v hs r2]
      rfl
  | .non :: ds, vs, xs, h, r => by cases h
  | .int _ :: ds, vs, xs, h, r => by cases h
  | .bl _ :: ds, vs, xs, h, r => by cases h
  | .ty _ :: ds, vs, xs, h, r => by cases h
  | .fn _ :: ds, vs, xs, h, r => by cases h
  | .tup _ :: ds, vs, xs, h, r => by cases h
  | .lst _ :: ds, vs, xs, h, r => by cases h
  | .frl _ :: ds, vs, xs, h, r => by cases h
  | .dic _ _ :: ds, vs, xs, h, r => by cases h
  | .ml _ :: ds, vs, xs, h, r => by cases h
end
/-! ### len, abs, int, str, max, min, all, any, sum, list, tuple -/
def gLen : D → Sto → Res D := fun d s => match d with
  | .str z => if z.length ≤ sizeLine then .ok (.int z.length) s else .bad
  | .dic ks ds => if ks.length = ds.length then .ok (.int ks.length) s else .bad
  | d => match d.sqO s with
    | some ds => .ok (.int ds.length) s
    | none => .bad
def gAbs : D → Sto → Res D := fun d s => match d with
  | .int i => .ok (.int (if i < 0 then -i else i)) s
  | _ => .bad
def gInt : D → Sto → Res D := fun d s => match d with
  | .int i => .ok (.int i) s
  | .bl b => .ok (.int (if b then 1 else 0)) s
  | _ => .bad
def gStr : D → Sto → Res D := fun d s => match d with
  | .int i => if i.natAbs.log2 < 1920 then .ok (.str (toString i)) s else .bad
  | _ => .bad
def gMax : D → D → Sto → Res D := fun d e s => match d, e with
  | .int i, .int j => .ok (.int (if j > i then j else i)) s
  | _, _ => .bad
def gMin : D → D → Sto → Res D := fun d e s => match d, e with
  | .int i, .int j => .ok (.int (if j < i then j else i)) s
  | _, _ => .bad
def gAll : D → Sto → Res D := fun d s => match d.lsO s with
  | some ds => match blsO ds with
    | some bs => .ok (.bl (bs.all _root_.id)) s
    | none => .bad
  | none => .bad
def gAny : D → Sto → Res D := fun d s => match d.lsO s with
  | some ds => match blsO ds with
    | some bs => .ok (.bl (bs.any _root_.id)) s
    | none => .bad
  | none => .bad
def gSum : D → Sto → Res D := fun d s => match d.lsO s with
  | some ds => match intsO ds with
    | some bs => .ok (.int bs.sum) s
    | none => .bad
  | none => .bad
def gList : D → Sto → Res D := fun d s => match d.sqO s with
  | some ds => .ok (.lst ds) s
  | none => .bad
def gTuple : D → Sto → Res D := fun d s => match d with
  | .tup ds => .ok (.tup ds) s
  | .lst ds => .ok (.tup ds) s
  | .ml k => match s[k]? with
    | some ds => .ok (.tup ds) s
    | none => .bad
  | _ => .bad
section
variable {X : Cx} {W : WX} {e e2 : Expr} {ma mb : M1 D} {p pos : Pos}
theorem ok_len {K : PySem.W.Frag} : CallOk K (fun xs H Q => (∃ x n, xs = [x] ∧ LenV K x H n ∧ Q (.int n) H) ∨ ∃ a kvs, xs = [V.ref a] ∧ H a = some (.dK kvs) ∧ Q (.int kvs.length) H) (f1 gLen) := ok_f1 fun H al s d v Q so rp af => by
  unfold gLen at af
  split at af
  · have := rep_str rp
    subst this
    split at af
    · rename_i hz
      exact .inl ⟨_, _, rfl, ⟨hz, rfl⟩, aft_int af so⟩
    · exact af.elim
  · rename_i ks ds
    unfold Rep at rp
    obtain ⟨a, vs, rfl, h2, h3, h4, h5⟩ := rp
    split at af
    · exact .inr ⟨a, _, rfl, h3, by rw [List.length_zip, h4, Nat.min_self, ← h4]; exact aft_int af so⟩
    · exact af.elim
  · split at af
    · rename_i ds hds
      obtain ⟨a, vs, rfl, h2, h3⟩ := sqO_rep so hds rp
      refine .inl ⟨_, vs.length, rfl, ?_, by rw [← Reps.length h3]; exact aft_int af so⟩
      rcases h2 with h2 | h2
      · exact .inl ⟨vs, h2, rfl⟩
      · exact .inr ⟨vs, h2, rfl⟩
    · exact af.elim
theorem ne_len : ∀ d s, NoErr (gLen d s) := fun d s => by
  unfold gLen
  split
  · exact noErr_if noErr_ok noErr_bad
  · exact noErr_if noErr_ok noErr_bad
  · split <;> first | exact noErr_ok | exact noErr_bad
def mLen (m : M1 D) : M1 D := mCall (f1 gLen) (mCons m mNil)
theorem de_len (hm : X.mg "len" = none) (ha : DE X W e ma) (hg : Gl X "len" := by rfl) (hs : starEach [e] X.env = (false, eval e X.env) :: starEach [] X.env := by rfl) (hpl : (backTo pos (starEach [] X.env)).any (·.1) = false := by rfl) :
    DE X W (.Call (.Name "len" p) [e] [] pos) (mLen ma) := de_b (call_len.or call_lenD) ok_len (ne_f1 ne_len) hm PySem.boot_len (da_cons ha da_nil hs) hg (by decide) (by decide) hs hpl
theorem ok_abs {K : PySem.W.Frag} : CallOk K (fun xs H Q => ∃ i, xs = [.int i] ∧ Q (.int (if i < 0 then -i else i)) H) (f1 gAbs) := ok_f1 fun H al s d v Q so rp af => by
  unfold gAbs at af
  split at af
  · have := rep_int rp
    subst this
    exact ⟨_, rfl, aft_int af so⟩
  · exact af.elim
theorem ne_abs : ∀ d s, NoErr (gAbs d s) := fun d s => by unfold gAbs; split <;> first | exact noErr_ok | exact noErr_bad
def mAbs (m : M1 D) : M1 D := mCall (f1 gAbs) (mCons m mNil)
theorem de_abs (hm : X.mg "abs" = none) (ha : DE X W e ma) (hg : Gl X "abs" := by rfl) (hs : starEach [e] X.env = (false, eval e X.env) :: starEach [] X.env := by rfl) (hpl : (backTo pos (starEach [] X.env)).any (·.1) = false := by rfl) :
    DE X W (.Call (.Name "abs" p) [e] [] pos) (mAbs ma) := de_b call_abs ok_abs (ne_f1 ne_abs) hm (by decide +kernel) (da_cons ha da_nil hs) hg (by decide) (by decide) hs hpl
theorem ok_int {K : PySem.W.Frag} : CallOk K (fun xs H Q => (∃ i, xs = [.int i] ∧ Q (.int i) H) ∨ ∃ k, xs = [.bl k] ∧ Q (.int (if k then 1 else 0)) H) (f1 gInt) := ok_f1 fun H al s d v Q so rp af => by
  unfold gInt at af
  split at af
  · have := rep_int rp
    subst this
    exact .inl ⟨_, rfl, aft_int af so⟩
  · have := rep_bl rp
    subst this
    exact .inr ⟨_, rfl, aft_int af so⟩
  · exact af.elim
theorem ne_int : ∀ d s, NoErr (gInt d s) := fun d s => by unfold gInt; split <;> first | exact noErr_ok | exact noErr_bad
def mInt (m : M1 D) : M1 D := mCall (f1 gInt) (mCons m mNil)
theorem de_toInt (hm : X.mg "int" = none) (ha : DE X W e ma) (hg : Gl X "int" := by rfl) (hs : starEach [e] X.env = (false, eval e X.env) :: starEach [] X.env := by rfl) (hpl : (backTo pos (starEach [] X.env)).any (·.1) = false := by rfl) :
    DE X W (.Call (.Name "int" p) [e] [] pos) (mInt ma) := de_ty call_int1 ok_int (ne_f1 ne_int) hm (by decide +kernel) (da_cons ha da_nil hs) hg (by decide) (by decide) hs hpl
theorem ok_tostr {K : PySem.W.Frag} : CallOk K (fun xs H Q => ∃ i, xs = [.int i] ∧ i.natAbs.log2 < 1920 ∧ Q (.str (toString i)) H) (f1 gStr) := ok_f1 fun H al s d v Q so rp af => by
  unfold gStr at af
  split at af
  · have := rep_int rp
    subst this
    split at af
    · rename_i hz
      exact ⟨_, rfl, hz, aft_str af so⟩
    · exact af.elim
  · exact af.elim
theorem ne_tostr : ∀ d s, NoErr (gStr d s) := fun d s => by
  unfold gStr
  split
  · exact noErr_if noErr_ok noErr_bad
  · exact noErr_bad
def mStr (m : M1 D) : M1 D := mCall (f1 gStr) (mCons m mNil)
theorem de_toStr (hm : X.mg "str" = none) (ha : DE X W e ma) (hg : Gl X "str" := by rfl) (hs : starEach [e] X.env = (false, eval e X.env) :: starEach [] X.env := by rfl) (hpl : (backTo pos (starEach [] X.env)).any (·.1) = false := by rfl) :
    DE X W (.Call (.Name "str" p) [e] [] pos) (mStr ma) := de_ty call_str_int ok_tostr (ne_f1 ne_tostr) hm (by decide +kernel) (da_cons ha da_nil hs) hg (by decide) (by decide) hs hpl
theorem ok_max {K : PySem.W.Frag} : CallOk K (fun xs H Q => ∃ i j, xs = [.int i, .int j] ∧ Q (.int (if j > i then j else i)) H) (f2 gMax) := ok_f2 fun H al s d e v w Q so rp rq af => by
  unfold gMax at af
  split at af
  · have := rep_int rp
    have := rep_int rq
    subst_vars
    exact ⟨_, _, rfl, aft_int af so⟩
  · exact af.elim
theorem ne_max : ∀ d e s, NoErr (gMax d e s) := fun d e s => by unfold gMax; split <;> first | exact noErr_ok | exact noErr_bad
theorem ok_min {K : PySem.W.Frag} : CallOk K (fun xs H Q => ∃ i j, xs = [.int i, .int j] ∧ Q (.int (if j < i then j else i)) H) (f2 gMin) := ok_f2 fun H al s d e v w Q so rp rq af => by
  unfold gMin at af
  split at af
  · have := rep_int rp
    have := rep_int rq
    subst_vars
    exact ⟨_, _, rfl, aft_int af so⟩
  · exact af.elim
theorem ne_min : ∀ d e s, NoErr (gMin d e s) := fun d e s => by unfold gMin; split <;> first | exact noErr_ok | exact noErr_bad
def mMax (m n : M1 D) : M1 D := mCall (f2 gMax) (mCons m (mCons n mNil))
def mMin (m n : M1 D) : M1 D := mCall (f2 gMin) (mCons m (mCons n mNil))
theorem de_max (hc : X.calm = true) (hm : X.mg "max" = none) (ha : DE X W e ma) (hb : DE X W e2 mb) (hg : Gl X "max" := by rfl) (hs : starEach [e, e2] X.env = (false, eval e X.env) :: starEach [e2] X.env := by rfl) (hs2 : starEach [e2] X.env = (false, eval e2 X.env) :: starEach [] X.env := by rfl) (hpl : (backTo pos (starEach [e2] X.env)).any (·.1) = false := by rfl) :
    DE X W (.Call (.Name "max" p) [e, e2] [] pos) (mMax ma mb) := de_b (call_max2 hc) ok_max (ne_f2 ne_max) hm (by decide +kernel) (da_cons ha (da_cons hb da_nil hs2) hs) hg (by decide) (by decide) hs hpl
theorem de_min (hc : X.calm = true) (hm : X.mg "min" = none) (ha : DE X W e ma) (hb : DE X W e2 mb) (hg : Gl X "min" := by rfl) (hs : starEach [e, e2] X.env = (false, eval e X.env) :: starEach [e2] X.env := by rfl) (hs2 : starEach [e2] X.env = (false, eval e2 X.env) :: starEach [] X.env := by rfl) (hpl : (backTo pos (starEach [e2] X.env)).any (·.1) = false := by rfl) :
    DE X W (.Call (.Name "min" p) [e, e2] [] pos) (mMin ma mb) := de_b (call_min2 hc) ok_min (ne_f2 ne_min) hm (by decide +kernel) (da_cons ha (da_cons hb da_nil hs2) hs) hg (by decide) (by decide) hs hpl
theorem ok_all {K : PySem.W.Frag} : CallOk K (rAll K) (f1 gAll) := ok_f1 fun H al s d v Q so rp af => by
  unfold gAll at af
  split at af
  · rename_i ds hds
    split at af
    · rename_i bs hbs
      obtain ⟨a, vs, rfl, h2, h3⟩ := lsO_rep so hds rp
      have := bls_v hbs h3
      subst this
      exact ⟨a, bs, rfl, SqL.of h2, aft_bl af so⟩
    · exact af.elim
  · exact af.elim
theorem ne_all : ∀ d s, NoErr (gAll d s) := fun d s => by unfold gAll; split <;> (try split) <;> first | exact noErr_ok | exact noErr_bad
def mAll (m : M1 D) : M1 D := mCall (f1 gAll) (mCons m mNil)
theorem de_all (hc : X.calm = true) (hm : X.mg "all" = none) (ha : DE X W e ma) (hg : Gl X "all" := by rfl) (hs : starEach [e] X.env = (false, eval e X.env) :: starEach [] X.env := by rfl) (hpl : (backTo pos (starEach [] X.env)).any (·.1) = false := by rfl) :
    DE X W (.Call (.Name "all" p) [e] [] pos) (mAll ma) := de_b (cr_all hc) ok_all (ne_f1 ne_all) hm (by decide +kernel) (da_cons ha da_nil hs) hg (by decide) (by decide) hs hpl
theorem ok_any {K : PySem.W.Frag} : CallOk K (rAny K) (f1 gAny) := ok_f1 fun H al s d v Q so rp af => by
  unfold gAny at af
  split at af
  · rename_i ds hds
    split at af
    · rename_i bs hbs
      obtain ⟨a, vs, rfl, h2, h3⟩ := lsO_rep so hds rp
      have := bls_v hbs h3
      subst this
      exact ⟨a, bs, rfl, SqL.of h2, aft_bl af so⟩
    · exact af.elim
  · exact af.elim
theorem ne_any : ∀ d s, NoErr (gAny d s) := fun d s => by unfold gAny; split <;> (try split) <;> first | exact noErr_ok | exact noErr_bad
def mAny (m : M1 D) : M1 D := mCall (f1 gAny) (mCons m mNil)
theorem de_any (hc : X.calm = true) (hm : X.mg "any" = none) (ha : DE X W e ma) (hg : Gl X "any" := by rfl) (hs : starEach [e] X.env = (false, eval e X.env) :: starEach [] X.env := by rfl) (hpl : (backTo pos (starEach [] X.env)).any (·.1) = false := by rfl) :
    DE X W (.Call (.Name "any" p) [e] [] pos) (mAny ma) := de_b (cr_any hc) ok_any (ne_f1 ne_any) hm (by decide +kernel) (da_cons ha da_nil hs) hg (by decide) (by decide) hs hpl
theorem ok_sum {K : PySem.W.Frag} : CallOk K (rSum K) (f1 gSum) := ok_f1 fun H al s d v Q so rp af => by
  unfold gSum at af
  split at af
  · rename_i ds hds
    split at af
    · rename_i bs hbs
      obtain ⟨a, vs, rfl, h2, h3⟩ := lsO_rep so hds rp
      have := ints_v hbs h3
      subst this
      exact ⟨a, bs, rfl, SqL.of h2, aft_int af so⟩
    · exact af.elim
  · exact af.elim
theorem ne_sum : ∀ d s, NoErr (gSum d s) := fun d s => by unfold gSum; split <;> (try split) <;> first | exact noErr_ok | exact noErr_bad
def mSum (m : M1 D) : M1 D := mCall (f1 gSum) (mCons m mNil)
theorem de_sum (hc : X.calm = true) (hm : X.mg "sum" = none) (ha : DE X W e ma) (hg : Gl X "sum" := by rfl) (hs : starEach [e] X.env = (false, eval e X.env) :: starEach [] X.env := by rfl) (hpl : (backTo pos (starEach [] X.env)).any (·.1) = false := by rfl) :
    DE X W (.Call (.Name "sum" p) [e] [] pos) (mSum ma) := de_b (cr_sum hc) ok_sum (ne_f1 ne_sum) hm (by decide +kernel) (da_cons ha da_nil hs) hg (by decide) (by decide) hs hpl
theorem ok_list {K : PySem.W.Frag} : CallOk K (fun xs H Q => ∃ p ys, xs = [.ref p] ∧ (SqL K H p ys ∨ SqT K H p ys) ∧ ∀ l, H l = none → Q (.ref l) (upd H l (.lst ys))) (f1 gList) := ok_f1 fun H al s d v Q so rp af => by
  unfold gList at af
  split at af
  · rename_i ds hds
    obtain ⟨a, vs, rfl, h2, h3⟩ := sqO_rep so hds rp
    exact ⟨a, vs, rfl, h2, fun l hl => af.lst so h3 hl⟩
  · exact af.elim
theorem ne_list : ∀ d s, NoErr (gList d s) := fun d s => by unfold gList; split <;> first | exact noErr_ok | exact noErr_bad
def mList (m : M1 D) : M1 D := mCall (f1 gList) (mCons m mNil)
theorem de_list (hm : X.mg "list" = none) (ha : DE X W e ma) (hg : Gl X "list" := by rfl) (hs : starEach [e] X.env = (false, eval e X.env) :: starEach [] X.env := by rfl) (hpl : (backTo pos (starEach [] X.env)).any (·.1) = false := by rfl) :
    DE X W (.Call (.Name "list" p) [e] [] pos) (mList ma) := de_ty call_list_of ok_list (ne_f1 ne_list) hm (by decide +kernel) (da_cons ha da_nil hs) hg (by decide) (by decide) hs hpl
theorem ok_tuple {K : PySem.W.Frag} : CallOk K (fun xs H Q => ∃ p ys, xs = [.ref p] ∧ ((SqL K H p ys ∧ ∀ l, H l = none → Q (.ref l) (upd H l (.tup ys))) ∨ (SqT K H p ys ∧ Q (.ref p) H))) (f1 gTuple) := ok_f1 fun H al s d v Q so rp af => by
  unfold gTuple at af
  split at af
  · have rp' := rp
    unfold Rep at rp
    obtain ⟨a, vs, rfl, h2, h3⟩ := rp
    exact ⟨a, vs, rfl, .inr ⟨h2.sq, af.ok so rp'⟩⟩
  · unfold Rep at rp
    obtain ⟨a, vs, rfl, h2, h3⟩ := rp
    exact ⟨a, vs, rfl, .inl ⟨SqL.of h2.2, fun l hl => af.tup so h3 hl⟩⟩
  · split at af
    · rename_i k _ ds hds
      obtain ⟨a, vs, rfl, h2, h3⟩ := lsO_rep (d := .ml k) so hds rp
      exact ⟨a, vs, rfl, .inl ⟨SqL.of h2, fun l hl => af.tup so h3 hl⟩⟩
    · exact af.elim
  · exact af.elim
theorem ne_tuple : ∀ d s, NoErr (gTuple d s) := fun d s => by unfold gTuple; split <;> (try split) <;> first | exact noErr_ok | exact noErr_bad
def mTuple (m : M1 D) : M1 D := mCall (f1 gTuple) (mCons m mNil)
theorem de_tuple (hm : X.mg "tuple" = none) (ha : DE X W e ma) (hg : Gl X "tuple" := by rfl) (hs : starEach [e] X.env = (false, eval e X.env) :: starEach [] X.env := by rfl) (hpl : (backTo pos (starEach [] X.env)).any (·.1) = false := by rfl) :
    DE X W (.Call (.Name "tuple" p) [e] [] pos) (mTuple ma) := de_ty call_tuple_of ok_tuple (ne_f1 ne_tuple) hm (by decide +kernel) (da_cons ha da_nil hs) hg (by decide) (by decide) hs hpl
/-! ### isinstance(x, T), T a built-in type -/
end
inductive Kd where
  | non | bl | int | str | tup | lst | dic
  deriving DecidableEq
def Kd.nm : Kd → String
  | .non => "NoneType" | .bl => "bool" | .int => "int" | .str => "str" | .tup => "tuple" | .lst => "list" | .dic => "dict"
def D.kd : D → Option Kd
  | .non => some .non | .bl _ => some .bl | .int _ => some .int | .str _ => some .str | .tup _ => some .tup | .lst _ => some .lst | .frl _ => some .lst | .ml _ => some .lst | .dic _ _ => some .dic
  | _ => none
def Kd.isi : Kd → Kd → Bool
  | .bl, .int => true
  | a, b => decide (a = b)
theorem kd_kit (a b : Kd) (hb : b ≠ .non) : kitB a.nm b.nm = some (a.isi b) := by
  cases a <;> cases b <;> first | exact absurd rfl hb | decide +kernel
theorem kd_ty {K : PySem.W.Frag} {H : Hp} {al : Led} {s : Sto} {d : D} {v : V} {k : Kd} (so : StoOk K H al s) (h : d.kd = some k) (rp : Rep K H al d v) : TyX K H v (.type k.nm) := by
  cases d with
  | non => cases h; rw [rep_non rp]; exact .base .non
  | bl b => cases h; rw [rep_bl rp]; exact .base (.bl _)
  | int b => cases h; rw [rep_int rp]; exact .base (.int _)
  | str b => cases h; rw [rep_str rp]; exact .base (.str _)
  | tup ds =>
    cases h
    unfold Rep at rp
    obtain ⟨a, vs, rfl, ⟨_, h2⟩ | ⟨o, its, n, h2, h3, _⟩, _⟩ := rp
    · exact .base (.tup h2)
    · exact .kTuple h2 h3
  | lst ds =>
    cases h
    unfold Rep at rp
    obtain ⟨a, vs, rfl, h2, _⟩ := rp
    exact .base (.lst h2.2)
  | frl ds =>
    cases h
    unfold Rep at rp
    obtain ⟨a, vs, rfl, ⟨_, h2 | ⟨o, h2⟩⟩ | ⟨o, its, n, h2, h3, _⟩, _⟩ := rp
    · exact .base (.lst h2)
    · exact .base (.frz h2)
    · exact .kList h2 h3
  | dic ks ds =>
    cases h
    unfold Rep at rp
    obtain ⟨a, vs, rfl, h2, h3, _⟩ := rp
    exact .base (.dK h3)
  | ml k =>
    cases h
    unfold Rep at rp
    obtain ⟨a, rfl, h2⟩ := rp
    obtain ⟨vs, h3⟩ := so.there (List.mem_of_getElem? h2)
    exact .base (.lst h3)
  | _ => cases h
def mIsi (k : Kd) (m : M1 D) : M1 D := fun r s => (m r s).bind fun d s1 => match d.kd with
  | some a => .ok (.bl (a.isi k)) s1
  | none => .bad
section
variable {X : Cx} {W : WX} {e e2 : Expr} {ma mb : M1 D} {p p2 pos : Pos}
theorem de_isi (k : Kd) {T : Str} (hT : bootBuiltins T = some (.type k.nm)) (hk : k ≠ .non) (hm : X.mg "isinstance" = none) (hmT : X.mg T = none) (ha : DE X W e ma) (hg : Gl X "isinstance" := by rfl) (hgT : Gl X T := by rfl) (hn : T ≠ "__name__" := by decide) (hd : (T == ("__debug__" : Str)) = false := by decide)
    (hs : starEach [e, .Name T p2] X.env = (false, eval e X.env) :: starEach [.Name T p2] X.env := by rfl) (hs2 : starEach [.Name T p2] X.env = (false, eval (.Name T p2) X.env) :: starEach [] X.env := by rfl) (hpl : (backTo pos (starEach [.Name T p2] X.env)).any (·.1) = false := by rfl) :
    DE X W (.Call (.Name "isinstance" p) [e, .Name T p2] [] pos) (mIsi k ma) := by
  refine pe_w (pe_callB call_isi hg hm (by decide +kernel) (pa_cons ha (pa_cons (pe_bltn (v := .ty k.nm) hgT hmT hT rfl hn hd) pa_nil hs2) hs) (by decide) (by decide) hs hpl) fun σ H Q ⟨al, rr, s, so, eo, af⟩ => ⟨al, rr, s, so, eo, ?_⟩
  refine af.bind fun d s1 v H1 al1 _ e1 so1 rp1 af1 => ?_
  cases hd : d.kd with
  | none => rw [hd] at af1; exact af1.elim
  | some a =>
    rw [hd] at af1
    exact ⟨v, .ty k.nm, _, _, _, rfl, .ty _, kd_ty so1 hd rp1, kit_ty (kd_kit a k hk), aft_bl af1 so1⟩
/-! ### methods -/
/-- l.append(e), l a list that may change -/
def mApp (mo ma : M1 D) : M1 D := fun r s => (mo r s).bind fun o s1 => match o with
  | .ml k => (ma r s1).bind fun y s2 => match s2[k]? with
    | some ds => if ds.length < sizeLine ∧ y.nm = true then .ok .non (s2.set k (ds ++ [y])) else .bad
    | none => .bad
  | _ => .bad
theorem rep_ml {K : PySem.W.Frag} {H : Hp} {al : Led} {k : Nat} {v : V} (h : Rep K H al (.ml k) v) : ∃ a, v = .ref a ∧ al.ms[k]? = some a := by unfold Rep at h; exact h
theorem sto_ml {K : PySem.W.Frag} {H : Hp} {al : Led} {s : Sto} {k : Nat} {a : Addr} {ds : List D} (so : StoOk K H al s) (h : al.ms[k]? = some a) (hs : s[k]? = some ds) : ∃ vs, H a = some (.lst vs) ∧ Reps K H al ds vs ∧ nms ds = true := by
  obtain ⟨b, vs, h1, h2, h3, h4⟩ := so.at_ k ds hs
  rw [h] at h1
  cases h1
  exact ⟨vs, h2, h3, h4⟩
theorem nms_append {a b : List D} (h : nms a = true) (h2 : nms b = true) : nms (a ++ b) = true := by
  induction a with
  | nil => exact h2
  | cons x xs ih =>
    unfold nms at h
    rw [Bool.and_eq_true] at h
    show nms (x :: (xs ++ b)) = true
    unfold nms
    rw [Bool.and_eq_true]
    exact ⟨h.1, ih h.2⟩
theorem nms_dropLast : ∀ {a : List D}, nms a = true → nms a.dropLast = true
  | [], _ => rfl
  | [x], _ => rfl
  | x :: y :: xs, h => by
    unfold nms at h
    rw [Bool.and_eq_true] at h
    show nms (x :: (y :: xs).dropLast) = true
    unfold nms
    rw [Bool.and_eq_true]
    exact ⟨h.1, nms_dropLast h.2⟩
theorem reps_dropLast {K : PySem.W.Frag} {H : Hp} {al : Led} {ds : List D} {vs : List V} (h : Reps K H al ds vs) : Reps K H al ds.dropLast vs.dropLast := by
  rw [List.dropLast_eq_take, List.dropLast_eq_take, ← Reps.length h]
  exact h.take _
theorem de_app {o : Expr} {mo : M1 D} {apos cpos : Pos} (ho : DE X W o mo) (ha : DE X W e ma)
    (hs : starEach [e] X.env = (false, eval e X.env) :: starEach [] X.env := by rfl)
    (hbase : attributeBase o "append" X.env (eval o X.env) = eval o X.env := by rfl)
    (hfew : ((backTo cpos (starEach [e] X.env)).all (fun x => !x.1) && (backToKw cpos (keywordEach [] X.env)).all (fun x => x.1.isSome)
      && decide (([e] : List Expr).length + ([] : List Keyword).length + (if ([] : List Keyword).isEmpty then 0 else 1) < 30)) = true := by rfl)
    (hline : (apos.endLine == cpos.line) = true := by rfl) (hplain : (backTo cpos (starEach [] X.env)).any (·.1) = false := by rfl) :
    DE X W (.Call (.Attribute o "append" apos) [e] [] cpos) (mApp mo ma) := by
  refine pe_w (pe_bm PySem.F.plainAttrs_list PySem.F.slot_list_append PySem.F.type_list_append mt_append ho (pa_cons ha pa_nil hs) hbase hfew hline hs hplain) fun σ H Q ⟨al, rr, s, so, eo, af⟩ => ⟨al, rr, s, so, eo, ?_⟩
  refine af.bind fun d s1 v H1 al1 _ e1 so1 rp1 af1 => ?_
  have key : ∀ (k : Nat), d = .ml k → tyV X.K "list" v H1 ∧ tCons (tD X.K X.mg W ma) tNil σ H1 (fun xs H2 => rAppend v xs H2 Q) := fun k hk => by
    subst hk
    obtain ⟨a, rfl, ha1⟩ := rep_ml rp1
    obtain ⟨ws, hw⟩ := so1.there (List.mem_of_getElem? ha1)
    refine ⟨.inl ⟨rfl, ws, SqL.of hw⟩, al1, rr, s1, so1, eo.ext e1, ?_⟩
    refine af1.bind fun y s2 u H2 al2 _ e2 so2 rp2 af2 => ?_
    cases hs2 : s2[k]? with
    | none => rw [hs2] at af2; exact af2.elim
    | some ds =>
      rw [hs2] at af2
      dsimp only at af2
      split at af2
      · rename_i hz
        have ha2 := e2.ix ha1
        obtain ⟨vs, h2, h3, h4⟩ := sto_ml so2 ha2 hs2
        have hm2 : a ∈ al2.ms := List.mem_of_getElem? ha2
        refine ⟨a, vs, u, rfl, rfl, h2, by rw [← Reps.length h3]; exact hz.1, ?_⟩
        exact af2 .non _ al2 (Ext.wr hm2) (so2.wr ha2 (h3.append (Reps.cons rp2 Reps.nil)) (nms_append h4 (by unfold nms; rw [hz.2]; rfl))) rep_non'
      · exact af2.elim
  cases d with
  | ml k => exact key k rfl
  | _ => exact af1.elim
end
end DL

set_option Elab.async false
set_option linter.all false
set_option maxRecDepth 100000
set_option maxHeartbeats 2000000
/-! DL10: more calls; slices; f-strings; calls by a table; defs with *values. -/
namespace DL
open PySem PySem.Spec PyProof.Rows L2
section
variable {X : Cx} {W : WX} {o e e2 : Expr} {es : List Expr} {mo ma mb : M1 D} {p p2 pos : Pos}
/-! ### pop -/
def mPop (mo : M1 D) : M1 D := fun r s => (mo r s).bind fun o s1 => match o with
  | .ml k => match s1[k]? with
    | some ds => match ds[ds.length - 1]? with
      | some y => .ok y (s1.set k ds.dropLast)
      | none => .bad
    | none => .bad
  | _ => .bad
theorem nms_get : ∀ {ds : List D} {i : Nat} {d : D}, nms ds = true → ds[i]? = some d → d.nm = true
  | [], i, d, _, h => by simp at h
  | x :: xs, 0, d, h, q => by
    unfold nms at h
    rw [Bool.and_eq_true] at h
    have : x = d := by simpa using q
    rw [← this]
    exact h.1
  | x :: xs, i + 1, d, h, q => by
    unfold nms at h
    rw [Bool.and_eq_true] at h
    exact nms_get h.2 (by simpa using q)
theorem de_pop {apos cpos : Pos} (ho : DE X W o mo) (hbase : attributeBase o "pop" X.env (eval o X.env) = eval o X.env := by rfl) (hline : (apos.endLine == cpos.line) = true := by rfl) :
    DE X W (.Call (.Attribute o "pop" apos) [] [] cpos) (mPop mo) := by
  refine pe_w (pe_bm0 PySem.F.plainAttrs_list PySem.F.slot_list_pop PySem.F.type_list_pop mt_pop ho hbase hline) fun σ H Q ⟨al, rr, s, so, eo, af⟩ => ⟨al, rr, s, so, eo, ?_⟩
  refine af.bind fun d s1 v H1 al1 _ e1 so1 rp1 af1 => ?_
  cases d with
  | ml k =>
    obtain ⟨a, rfl, ha1⟩ := rep_ml rp1
    dsimp only at af1
    cases hs : s1[k]? with
    | none => rw [hs] at af1; exact af1.elim
    | some ds =>
      rw [hs] at af1
      dsimp only at af1
      obtain ⟨vs, h2, h3, h4⟩ := sto_ml so1 ha1 hs
      cases hg : ds[ds.length - 1]? with
      | none => rw [hg] at af1; exact af1.elim
      | some y =>
        rw [hg] at af1
        obtain ⟨u, hu, ru⟩ := Reps.get h3 hg
        refine ⟨.inl ⟨rfl, vs, SqL.of h2⟩, a, vs, u, rfl, rfl, h2, by rw [← Reps.length h3]; exact hu, ?_⟩
        have hm2 : a ∈ al1.ms := List.mem_of_getElem? ha1
        exact af1 u _ al1 (Ext.wr hm2) (so1.wr ha1 (reps_dropLast h3) (nms_dropLast h4)) (ru.wr (.inl hm2))
  | _ => exact af1.elim
/-! ### list(reversed(l)) -/
def mRvL (m : M1 D) : M1 D := fun r s => (m r s).bind fun d s1 => match d.lsO s1 with
  | some ds => .ok (.lst ds.reverse) s1
  | none => .bad
def mRvLM (m : M1 D) : M1 D := fun r s => (m r s).bind fun d s1 => match d.lsO s1 with
  | some ds => if nms ds = true then .ok (.ml s1.length) (s1 ++ [ds.reverse]) else .bad
  | none => .bad
theorem nms_reverse : ∀ {ds : List D}, nms ds = true → nms ds.reverse = true
  | [], _ => rfl
  | x :: xs, h => by
    unfold nms at h
    rw [Bool.and_eq_true] at h
    rw [List.reverse_cons]
    exact nms_append (nms_reverse h.2) (by unfold nms; rw [h.1]; rfl)
theorem de_rvL {pos2 : Pos} (hc : X.calm = true) (hm : X.mg "list" = none) (hm2 : X.mg "reversed" = none) (he : DE X W e ma) (hg : Gl X "list" := by rfl) (hg2 : Gl X "reversed" := by rfl)
    (hs : starEach [e] X.env = (false, eval e X.env) :: starEach [] X.env := by rfl)
    (hs2 : starEach [.Call (.Name "reversed" p2) [e] [] pos2] X.env = (false, eval (.Call (.Name "reversed" p2) [e] [] pos2) X.env) :: starEach [] X.env := by rfl) :
    DE X W (.Call (.Name "list" p) [.Call (.Name "reversed" p2) [e] [] pos2] [] pos) (mRvL ma) := by
  refine pe_w (pe_lstRev hc hg hm hg2 hm2 he hs hs2) fun σ H Q ⟨al, rr, s, so, eo, af⟩ => ⟨al, rr, s, so, eo, ?_⟩
  refine af.bind fun d s1 v H1 al1 _ e1 so1 rp1 af1 => ?_
  cases hd : d.lsO s1 with
  | none => rw [hd] at af1; exact af1.elim
  | some ds =>
    rw [hd] at af1
    obtain ⟨a, vs, rfl, h2, h3⟩ := lsO_rep so1 hd rp1
    exact ⟨a, vs, rfl, SqL.of h2, fun q hq => af1.lst so1 h3.reverse hq⟩
theorem de_rvLM {pos2 : Pos} (hc : X.calm = true) (hm : X.mg "list" = none) (hm2 : X.mg "reversed" = none) (he : DE X W e ma) (hg : Gl X "list" := by rfl) (hg2 : Gl X "reversed" := by rfl)
    (hs : starEach [e] X.env = (false, eval e X.env) :: starEach [] X.env := by rfl)
    (hs2 : starEach [.Call (.Name "reversed" p2) [e] [] pos2] X.env = (false, eval (.Call (.Name "reversed" p2) [e] [] pos2) X.env) :: starEach [] X.env := by rfl) :
    DE X W (.Call (.Name "list" p) [.Call (.Name "reversed" p2) [e] [] pos2] [] pos) (mRvLM ma) := by
  refine pe_w (pe_lstRev hc hg hm hg2 hm2 he hs hs2) fun σ H Q ⟨al, rr, s, so, eo, af⟩ => ⟨al, rr, s, so, eo, ?_⟩
  refine af.bind fun d s1 v H1 al1 _ e1 so1 rp1 af1 => ?_
  cases hd : d.lsO s1 with
  | none => rw [hd] at af1; exact af1.elim
  | some ds =>
    rw [hd] at af1
    obtain ⟨a, vs, rfl, h2, h3⟩ := lsO_rep so1 hd rp1
    refine ⟨a, vs, rfl, SqL.of h2, fun q hq => ?_⟩
    dsimp only at af1
    split at af1
    · rename_i hz
      exact af1.mut so1 h3.reverse (nms_reverse hz) hq
    · exact af1.elim
/-! ### sep.join(list of texts) -/
def mJoin (mo ma : M1 D) : M1 D := fun r s => (mo r s).bind fun o s1 => match o with
  | .str z => (ma r s1).bind fun d s2 => match d.sqO s2 with
    | some ds => match strsO ds with
      | some ys => if (ys.map (·.length)).sum + ys.length * z.length ≤ 16777216 then .ok (.str (Txt.join z ys)) s2 else .bad
      | none => .bad
    | none => .bad
  | _ => .bad
theorem de_join {apos : Pos} (ho : DE X W o mo) (he : DE X W e ma) (hs : starEach [e] X.env = [(false, eval e X.env)] := by rfl) (hbase : attributeBase o "join" X.env (eval o X.env) = eval o X.env := by rfl) (hline : (apos.endLine == pos.line) = true := by rfl) :
    DE X W (.Call (.Attribute o "join" apos) [e] [] pos) (mJoin mo ma) := by
  refine pe_w (pe_join ho he hs hbase hline) fun σ H Q ⟨al, rr, s, so, eo, af⟩ => ⟨al, rr, s, so, eo, ?_⟩
  refine af.bind fun d s1 v H1 al1 _ e1 so1 rp1 af1 => ?_
  cases d with
  | str z =>
    have := rep_str rp1
    subst this
    refine ⟨⟨z, rfl⟩, al1, rr, s1, so1, eo.ext e1, ?_⟩
    refine af1.bind fun d s2 v H2 al2 _ e2 so2 rp2 af2 => ?_
    cases hd : d.sqO s2 with
    | none => rw [hd] at af2; exact af2.elim
    | some ds =>
      rw [hd] at af2
      dsimp only at af2
      cases hy : strsO ds with
      | none => rw [hy] at af2; exact af2.elim
      | some ys =>
        rw [hy] at af2
        dsimp only at af2
        split at af2
        · rename_i hz
          obtain ⟨a, vs, rfl, h2, h3⟩ := sqO_rep so2 hd rp2
          have := strs_v hy h3
          subst this
          exact ⟨z, a, ys, rfl, rfl, h2, hz, aft_str af2 so2⟩
        · exact af2.elim
  | _ => exact af1.elim
/-! ### x.bit_length() -/
def mBits (mo : M1 D) : M1 D := fun r s => (mo r s).bind fun o s1 => match o with
  | .int i => .ok (.int (Builtin.Int.intBits i : Nat)) s1
  | _ => .bad
theorem de_bits {apos : Pos} (ho : DE X W o mo) (hbase : attributeBase o "bit_length" X.env (eval o X.env) = eval o X.env := by rfl) (hline : (apos.endLine == pos.line) = true := by rfl) :
    DE X W (.Call (.Attribute o "bit_length" apos) [] [] pos) (mBits mo) := by
  refine pe_w (pe_bits ho hbase hline) fun σ H Q ⟨al, rr, s, so, eo, af⟩ => ⟨al, rr, s, so, eo, ?_⟩
  refine af.bind fun d s1 v H1 al1 _ e1 so1 rp1 af1 => ?_
  cases d with
  | int z =>
    have := rep_int rp1
    subst this
    exact ⟨z, rfl, aft_int af1 so1⟩
  | _ => exact af1.elim
/-! ### slices -/
def cutD (xs : List D) (lo hi : Option Int) : List D := (xs.drop (HT.sIx xs.length 0 lo)).take (HT.sIx xs.length xs.length hi - HT.sIx xs.length 0 lo)
theorem reps_cut {K : PySem.W.Frag} {H : Hp} {al : Led} {ds : List D} {vs : List V} (h : Reps K H al ds vs) (lo hi : Option Int) : Reps K H al (cutD ds lo hi) (cutV vs lo hi) := by
  unfold cutD cutV
  rw [Reps.length h]
  exact (h.drop _).take _
/-- a slice's part -/
def pN : M1 (Option Int) := fun _ s => .ok none s
def pS (m : M1 D) : M1 (Option Int) := fun r s => (m r s).bind fun d s1 => match d with
  | .int i => .ok (some i) s1
  | _ => .bad
def tDP (K : PySem.W.Frag) (mg : Str → Option Value) (W : WX) (m : M1 (Option Int)) : TO := fun σ H Q => ∃ al r s, StoOk K H al s ∧ EnvOk K H al r σ ∧ Aft K (fun _ _ a b => a = b) al H (m r s) Q (Er mg W σ)
abbrev DP (X : Cx) (W : WX) (e : Option Expr) (m : M1 (Option Int)) : Prop := PO X e (tDP X.K X.mg W m)
theorem po_w {e : Option Expr} {t t' : TO} (h : PO X e t) (k : ∀ σ H Q, t' σ H Q → t σ H Q) : PO X e t' := ⟨fun pins s σ H Q I q => h.run pins s σ H Q I (k σ H Q q)⟩
theorem dp_n : DP X W none pN := po_w po_none fun σ H Q ⟨al, rr, s, so, eo, af⟩ => Aft.ok (a := none) (m := s) af so rfl
theorem dp_s (h : DE X W e ma) : DP X W (some e) (pS ma) := by
  refine po_w (po_some h) fun σ H Q ⟨al, rr, s, so, eo, af⟩ => ⟨al, rr, s, so, eo, ?_⟩
  refine af.bind fun d s1 v H1 al1 _ e1 so1 rp1 af1 => ?_
  cases d with
  | int z =>
    have := rep_int rp1
    subst this
    exact ⟨z, rfl, Aft.ok (a := some z) (m := s1) af1 so1 rfl⟩
  | _ => exact af1.elim
def mSl (m : M1 D) (ml mh : M1 (Option Int)) : M1 D := fun r s => (m r s).bind fun d s1 => (ml r s1).bind fun lo s2 => (mh r s2).bind fun hi s3 => match d with
  | .str z => if z.length ≤ sizeLine then .ok (.str (cutS z lo hi)) s3 else .bad
  | d => match d.lsO s3 with
    | some ds => .ok (.lst (cutD ds lo hi)) s3
    | none => .bad
theorem de_sl {lo hi : Option Expr} {ml mh : M1 (Option Int)} (he : DE X W e ma) (hl : DP X W lo ml) (hu : DP X W hi mh) : DE X W (.Subscript e (.Slice lo hi none p2) pos) (mSl ma ml mh) := by
  refine pe_w (pe_slice (sl_list.or sl_str) he hl hu) fun σ H Q ⟨al, rr, s, so, eo, af⟩ => ⟨al, rr, s, so, eo, ?_⟩
  refine af.bind fun d s1 v H1 al1 _ e1 so1 rp1 af1 => ⟨al1, rr, s1, so1, eo.ext e1, ?_⟩
  refine af1.bind fun x s2 x' H2 al2 _ e2 so2 ex af2 => ⟨al2, rr, s2, so2, (eo.ext e1).ext e2, ?_⟩
  subst ex
  refine af2.bind fun y s3 y' H3 al3 _ e3 so3 ey af3 => ?_
  subst ey
  have rp3 := (rp1.ext e2).ext e3
  split at af3
  · have := rep_str rp3
    subst this
    split at af3
    · rename_i hz
      exact .inr ⟨_, rfl, hz, aft_str af3 so3⟩
    · exact af3.elim
  · split at af3
    · rename_i ds hds
      obtain ⟨a, vs, rfl, h2, h3⟩ := lsO_rep so3 hds rp3
      exact .inl ⟨a, vs, rfl, SqL.of h2, fun q hq => af3.lst so3 (reps_cut h3 x y) hq⟩
    · exact af3.elim
def mRev (m : M1 D) : M1 D := mRvL m
theorem de_rev {k : Nat} {p1 p2 p3 : Pos} (he : DE X W e ma) : DE X W (.Subscript e (.Slice none none (some (.UnaryOp .USub (.Constant (.int 1) k p1) p2)) p3) pos) (mRev ma) := by
  refine pe_w (pe_revL he) fun σ H Q ⟨al, rr, s, so, eo, af⟩ => ⟨al, rr, s, so, eo, ?_⟩
  refine af.bind fun d s1 v H1 al1 _ e1 so1 rp1 af1 => ?_
  cases hd : d.lsO s1 with
  | none => rw [hd] at af1; exact af1.elim
  | some ds =>
    rw [hd] at af1
    obtain ⟨a, vs, rfl, h2, h3⟩ := lsO_rep so1 hd rp1
    exact ⟨a, vs, rfl, SqL.of h2, fun q hq => af1.lst so1 h3.reverse hq⟩
/-! ### f-strings -/
def mFmt (m : M1 D) : M1 D := fun r s => (m r s).bind fun d s1 => match d with
  | .str y => if y.length ≤ sizeLine then .ok (.str y) s1 else .bad
  | .int i => if i.natAbs.log2 < 1920 then .ok (.str (toString i)) s1 else .bad
  | _ => .bad
theorem de_fmt (he : DE X W e ma) : DE X W (.FormattedValue e (-1) none pos) (mFmt ma) := by
  refine pe_w (pe_fmt he) fun σ H Q ⟨al, rr, s, so, eo, af⟩ => ⟨al, rr, s, so, eo, ?_⟩
  refine af.bind fun d s1 v H1 al1 _ e1 so1 rp1 af1 => ?_
  cases d with
  | str y =>
    have := rep_str rp1
    subst this
    dsimp only at af1
    split at af1
    · rename_i hz
      exact .inl ⟨y, rfl, hz, aft_str af1 so1⟩
    · exact af1.elim
  | int y =>
    have := rep_int rp1
    subst this
    dsimp only at af1
    split at af1
    · rename_i hz
      exact .inr ⟨y, rfl, hz, aft_str af1 so1⟩
    · exact af1.elim
  | _ => exact af1.elim
def mJs : List (M1 D) → Str → Ren → Sto → Res D
  | [], acc, _, s => .ok (.str acc) s
  | m :: ms, acc, r, s => (m r s).bind fun d s1 => match d with
    | .str y => if (acc ++ y).length ≤ sizeLine then mJs ms (acc ++ y) r s1 else .bad
    | _ => .bad
inductive DJ (X : Cx) (W : WX) : List Expr → List (M1 D) → Prop where
  | nil : DJ X W [] []
  | cons {e : Expr} {m : M1 D} {es : List Expr} {ms : List (M1 D)} (h : DE X W e m) (r : DJ X W es ms) : DJ X W (e :: es) (m :: ms)
theorem DJ.pj {es : List Expr} {ms : List (M1 D)} (h : DJ X W es ms) : PJ X es (ms.map fun m => tD X.K X.mg W m) := by
  induction h with
  | nil => exact .nil
  | cons h _ ih => exact .cons h ih
theorem js_read {K : PySem.W.Frag} {mg : Str → Option Value} {σ : L2.St} {Q : VK} : ∀ (ms : List (M1 D)) (acc : Str) (H : Hp) (al : Led) (r : Ren) (s : Sto), StoOk K H al s → EnvOk K H al r σ → Aft K (RD K) al H (mJs ms acc r s) Q (Er mg W σ) →
    tJs (ms.map fun m => tD K mg W m) acc σ H fun out H1 => Q (.str out) H1
  | [], acc, H, al, r, s, so, eo, af => by unfold mJs at af; exact aft_str af so
  | m :: ms, acc, H, al, r, s, so, eo, af => by
    refine ⟨al, r, s, so, eo, ?_⟩
    refine af.bind fun d s1 v H1 al1 _ e1 so1 rp1 af1 => ?_
    cases d with
    | str y =>
      have := rep_str rp1
      subst this
      dsimp only at af1
      split at af1
      · rename_i hz
        exact ⟨y, rfl, hz, js_read ms (acc ++ y) H1 al1 r s1 so1 (eo.ext e1) af1⟩
      · exact af1.elim
    | _ => exact af1.elim
theorem de_js {v1 v2 : Expr} {rest : List Expr} {ms : List (M1 D)} (h : DJ X W (v1 :: v2 :: rest) ms) : DE X W (.JoinedStr (v1 :: v2 :: rest) pos) (mJs ms Str.empty) := by
  refine pe_w (pe_joined h.pj) fun σ H Q ⟨al, rr, s, so, eo, af⟩ => js_read ms Str.empty H al rr s so eo af
/-! ### f(..) by a table -/
inductive Tab (X : Cx) (k n : Nat) : List Expr → List MF → List Addr → Prop where
  | nil : Tab X k n [] [] []
  | cons {x : Str} {q : Pos} {a : Addr} {f : MF} {es : List Expr} {fs : List MF} {as : List Addr} (hg : Gl X x) (hd : (x == ("__debug__" : Str)) = false) (hm : X.mg x = some (.ref a)) (F : FnR X.prog X.w X.K X.mg X.base (L2N.CX X.prog X.w) k a (spD X.K X.mg n f)) (kp : PySem.W.keepIn X.K (.ref a) = true)
      (hs : starEach (.Name x q :: es) X.env = (false, eval (.Name x q) X.env) :: starEach es X.env) (h : Tab X k n es fs as) : Tab X k n (.Name x q :: es) (f :: fs) (a :: as)
theorem tab_nil {k n : Nat} : ∃ as, Tab X k n [] [] as := ⟨[], .nil⟩
theorem tab_cons {k n : Nat} {x : Str} {q : Pos} {f : MF} {es : List Expr} {fs : List MF} (C : Cal X.prog X.w X.K X.mg X.base x k n f) (h : ∃ as, Tab X k n es fs as) (hg : Gl X x := by rfl) (hd : (x == ("__debug__" : Str)) = false := by decide)
    (hs : starEach (.Name x q :: es) X.env = (false, eval (.Name x q) X.env) :: starEach es X.env := by rfl) : ∃ as, Tab X k n (.Name x q :: es) (f :: fs) as := by
  obtain ⟨a, F, hm, kp⟩ := C.ex
  obtain ⟨as, h⟩ := h
  exact ⟨a :: as, .cons hg hd hm F kp hs h⟩
theorem Tab.pa {k n : Nat} {fs : List MF} {as : List Addr} (h : Tab X k n es fs as) : PA X es (fun _ H Q => Q (as.map V.ref) H) := by
  induction h with
  | nil => exact pa_nil
  | @cons x q a f es fs as hg hd hm F kp hs h ih => exact pa_w (pa_cons (pe_glob hg hm (v := .ref a) rfl hd) ih hs) fun σ H Q h => h
theorem Tab.at_ {k n : Nat} {fs : List MF} {as : List Addr} (h : Tab X k n es fs as) : ∀ {i : Nat} {f : MF}, fs[i]? = some f → ∃ a, as[i]? = some a ∧ FnR X.prog X.w X.K X.mg X.base (L2N.CX X.prog X.w) k a (spD X.K X.mg n f) ∧ PySem.W.keepIn X.K (.ref a) = true := by
  induction h with
  | nil => intro i f h; simp at h
  | @cons x q a f es fs as hg hd hm F kp hs h ih =>
    intro i g hi
    cases i with
    | zero =>
      have e : f = g := by simpa using hi
      subst e
      exact ⟨a, rfl, F, kp⟩
    | succ i => exact ih (by simpa using hi)
theorem Tab.len {k n : Nat} {fs : List MF} {as : List Addr} (h : Tab X k n es fs as) : fs.length = as.length := by
  induction h with
  | nil => rfl
  | cons _ _ _ _ _ _ _ ih => rw [List.length_cons, List.length_cons, ih]
def mTab (fs : List MF) (mi : M1 D) (ms : M1 (List D)) : M1 D := fun r s => (mi r s).bind fun i s1 => match i with
  | .int j => match atI fs j with
    | some f => (ms r s1).bind fun ds s2 => f ds s2
    | none => .bad
  | _ => .bad
theorem de_tab {k n : Nat} {fs : List MF} {names as : List Expr} {ix a : Expr} {mi : M1 D} {ms : M1 (List D)} {lp ip : Pos} (hT : ∃ bs, Tab X k n names fs bs) (hr : Room k X.A) (tk : L2N.Takes X W) (hi : DE X W ix mi) (ha : DA X W (a :: as) ms) (hl : ∀ r s ds s1, ms r s = .ok ds s1 → ds.length = n)
    (hz : names.length ≤ sizeLine := by decide) (hx : PlainIx ix := by exact fun _ _ => rfl) (he : starEach (a :: as) X.env = (false, eval a X.env) :: starEach as X.env := by rfl) (hpl : (backTo pos (starEach as X.env)).any (·.1) = false := by rfl)
    (ht : eval (.Call (.Subscript (.List names lp) ix ip) (a :: as) [] pos) X.env = (do callWith pos (← eval (.Subscript (.List names lp) ix ip) X.env) [] (backTo pos (starEach (a :: as) X.env)) (backToKw pos (keywordEach [] X.env))) := by rfl) :
    DE X W (.Call (.Subscript (.List names lp) ix ip) (a :: as) [] pos) (mTab fs mi ms) := by
  obtain ⟨bs, T⟩ := hT
  refine ⟨fun pins s σ H Q I ⟨al, r, s0, so, eo, af⟩ => ?_⟩
  have hlen : bs.length = names.length := by
    have : ∀ {es : List Expr} {fs : List MF} {as : List Addr}, Tab X k n es fs as → as.length = es.length := fun {es fs as} h => by
      induction h with
      | nil => rfl
      | cons _ _ _ _ _ _ _ ih => rw [List.length_cons, List.length_cons, ih]
    exact this T
  refine Call_ (thn ((pe_ix ix_seq (pe_lst T.pa) hi hx).run pins s σ H (fun x H1 => ∃ (c : Addr) (f : MF) (al1 : Led) (s1 : Sto), x = .ref c ∧ FnR X.prog X.w X.K X.mg X.base (L2N.CX X.prog X.w) k c (spD X.K X.mg n f) ∧ PySem.W.keepIn X.K (.ref c) = true ∧
      StoOk X.K H1 al1 s1 ∧ EnvOk X.K H1 al1 r σ ∧ Aft X.K (RD X.K) al1 H1 ((ms r s1).bind fun ds s2 => f ds s2) Q (Er X.mg W σ)) I ?_) fun v s1 ⟨x, H1, I1, r1, c, f, al1, t1, ex, F, kp, so1, eo1, af1⟩ => ?_) ht
  · refine ⟨by rw [List.length_map, hlen]; exact hz, fun q hq => ⟨al, r, s0, so.new hq, eo.ext (Ext.new so hq), ?_⟩⟩
    have af0 := Aft.ext (Ext.new (o := .lst (bs.map V.ref)) so hq) (so.new hq) af
    refine af0.bind fun d s1 v H1 al1 _ e1 so1 rp1 af1 => ?_
    cases d with
    | int j =>
      have := rep_int rp1
      subst this
      dsimp only at af1
      cases hf : atI fs j with
      | none => rw [hf] at af1; exact af1.elim
      | some f =>
        rw [hf] at af1
        obtain ⟨i, hi2⟩ : ∃ i, ixN fs.length j = some i ∧ fs[i]? = some f := by
          unfold atI at hf
          cases hh : ixN fs.length j with
          | none => rw [hh] at hf; cases hf
          | some i => rw [hh] at hf; exact ⟨i, rfl, hf⟩
        obtain ⟨c, hc, F, kp⟩ := T.at_ hi2.2
        refine .inl ⟨q, bs.map V.ref, j, .ref c, rfl, rfl, SqL.of (e1.keep upd_same (so.ne hq)), ?_, c, f, al1, s1, rfl, F, kp, so1, (eo.ext (Ext.new so hq)).ext e1, af1⟩
        unfold atI
        rw [List.length_map, ← T.len, hi2.1]
        show (bs.map V.ref)[i]? = _
        rw [List.getElem?_map, hc]
        rfl
    | _ => exact af1.elim
  · subst ex
    obtain rfl : v = Value.ref c := r1
    have h : tDA X.K X.mg W ms σ H1 fun vs H2 => spD X.K X.mg n f vs H2 Q (WE W σ) := ⟨al1, r, t1, so1, eo1, af1.bind fun ds s2 vs H2 al2 h e2 so2 rp2 af2 => call_aft (r := r) (hl _ _ _ _ h) so2 rp2 af2⟩
    refine PySem.W.callWith_K (h₀ := X.base) I1.ok.mod.kin kp (thn (ha.run pos pins s1 σ H1 _ I1 h) fun us s2 ⟨vs, H2, I2, rr, q⟩ => ⟨I2.kIn, ?_⟩) he hpl
    exact run_fnRS F hr (L2N.passAt tk σ) I2 rr q
end
/-! ### def f(*values) -/
theorem cxUpN {P : Program} {w : World} : StX.CXUp (L2N.CX P w) := by
  rintro outer s H s2 H2 E e s' un kp ho ⟨a, B, H', cls, d, ea, fl, hok, ub, na, os, ag, he⟩
  refine ⟨a, B, H', cls, d, ea, fl, hok, ⟨fun b o q n hb => ub.keep b o (kp b o q) (un.free b o q n (by simp)) hb, fun b o q hb => ub.slot b o (kp b o q) hb, fun b o q n => ub.free b o (kp b o q) (un.free b o q n (by simp)),
    fun b o q hb => ub.there b o (kp b o q) hb, fun b xs q => ub.tups b xs (un.tups b xs q), fun b o xs q => ub.frzs b o xs (un.frzs b o xs q), fun b ps q => ?_⟩, na, os.trans ho, ag, he⟩
  obtain ⟨m1, e1⟩ := un.tbls b ps q
  obtain ⟨m2, e2⟩ := ub.tbls b _ e1
  exact ⟨m1 ++ m2, by rw [e2, Array.append_assoc]⟩
/-- a def of the text that stands behind the name, its parameters' binding aside -/
structure Std (K : PySem.W.Frag) (mg : Str → Option Value) (x : Str) (st : Stmt) : Prop where
  ex : ∃ (f : Addr) (fd : FuncData), Fun K x x st f fd ∧ mg x = some (.ref f)
theorem Std.to {K : PySem.W.Frag} {mg : Str → Option Value} {x : Str} {st : Stmt} {ps : List Str} (h : Std K mg x st)
    (hb : ∀ (kV doc pm : Value) (an : Option Addr) (cdv ct : Value) (us : List Value), us.length = ps.length → bindArgs (PySem.W.fnOf x x (defArgs st) (defBody st) (defScope st) .none kV doc pm an cdv ct) ⟨us, []⟩ = pure (ps.zip us)) : Stands K mg x st ps := by
  obtain ⟨f, fd, F, g⟩ := h.ex
  obtain ⟨oc, od, kV, doc, pm, an, cdv, ct, osl, e, _⟩ := F.ex
  exact ⟨f, fd, F, g, by subst e; exact Binds.all (hb _ _ _ _ _ _)⟩
theorem calV_of {P : Program} {w : World} {K : PySem.W.Frag} {mg : Str → Option Value} {base : Heap} {x pv : Str} {st : Stmt} {N : List Str} {k n : Nat} {mb : MS} (S : Std K mg x st) (sc : FnScope N [pv] (defScope st)) (hn : n ≤ sizeLine)
    (hbd : ∀ (kV doc pm : Value) (an : Option Addr) (cdv ct : Value) (us : List Value), bindArgs (PySem.W.fnOf x x (defArgs st) (defBody st) (defScope st) .none kV doc pm an cdv ct) ⟨us, []⟩ = (newTuple us >>= fun t => pure [(pv, t)]))
    (hb : ∀ (f : Addr) (cdv : Value) (A : Around) (outer : List Env) (s : Shared) (H : Hp) (E : XK), Room k (A.deeper (envOfC x (defScope st) s.heap.objs.size f cdv)) →
      DSs (cxOf (L2N.CX P w) P w K mg base N x (defScope st) f cdv A outer s H E) (WD E) (defBody st) mb) : Cal P w K mg base x (k + 1) n (fun ds => mFun N.length mb [.tup ds]) := by
  obtain ⟨f, fd, F, g⟩ := S.ex
  have kp := F.kp
  obtain ⟨oc, od, kV, doc, pm, an, cdv, ct, osl, rfl, lk, hcd⟩ := F.ex
  refine ⟨f, FnR.imp (StX.fn_star (ps := []) (sp := spD K mg 1 (mFun N.length mb)) lk hcd sc cxUpN (fun us rest h => ?_) fun A outer s H vs Q E hr hsp => ?_) fun vs H Q E ⟨hl, al, ds, s, so, rp, af⟩ => ?_, g, kp⟩
  · have : us = [] := List.eq_nil_of_length_eq_zero h
    subst this
    exact hbd _ _ _ _ _ _ rest
  · obtain ⟨hl, al, ds, so_, so, rp, af⟩ := hsp
    exact ⟨_, hb f cdv A outer s H E hr, al, startR N.length ds, so_, so, start_ok rp, fun_aft so af⟩
  · refine ⟨[], vs, rfl, rfl, by rw [hl]; exact hn, fun p hp => ⟨rfl, al, [.tup ds], s, so.new hp, ?_, af.ext (Ext.new so hp) (so.new hp)⟩⟩
    refine Reps.cons ?_ Reps.nil
    unfold Rep
    exact ⟨p, vs, rfl, .inl ⟨so.ne hp, upd_same⟩, rp.ext (Ext.new so hp)⟩
end DL

set_option Elab.async false
set_option linter.all false
set_option maxRecDepth 100000
set_option maxHeartbeats 2000000
/-! DL11: what runs while an exception is handled: sum, a comprehension over a range, the law's word for an exception. -/
namespace DL
open PySem PySem.Spec PyProof.Rows L2 HotX L2H
abbrev StD := L2.St
section
variable {prog : Program} {w : World} {A : Around} {E : Value → Shared → Prop} {s : Shared}
theorem pyNext_list_end_hot {it l x1 : Addr} {i : Nat} {items : Array Value} {Q : Option Value → Shared → Prop} (hot : HotAt A x1 s.heap) (hne : x1 ≠ it)
    (hit : s.heap.IsListIter it l i) (hl : s.heap.IsList l items) (hx : items[i]? = none)
    (hQ : ∀ h', Heap.ExtBut it s.heap h' → Q none { s with heap := h' }) : wpAny (model prog w) A (pyNext (.ref it)) Q E s := by
  obtain ⟨o, ho, hc, hd⟩ := id hit
  obtain ⟨ol, hol, _, nl, hdl⟩ := hl
  obtain ⟨hh, o1, vs1, h1, d1, c1⟩ := hot
  unfold pyNext
  refine wpAny_bind (wpAny_attempt (wpAny_callSpecial?_slot (name := Str.ofString "__next__") hit.typeIs slot_listiter_next
    (wpAny_call_entry slot_listiter_next hit.typeIs entry_listiter_next ?_ (args_listiter_next _))))
  show wpAny _ _ (field (.ref it) 0 >>= _) _ _ s
  refine wpAny_bind (wpAny_field ho hd (x := .ref l) rfl ?_)
  show wpAny _ _ (if (Value.ref l == Value.none) = true then _ else _) _ _ s
  rw [if_neg (show ¬ ((Value.ref l == Value.none) = true) from Bool.false_ne_true)]
  show wpAny _ _ (field (.ref it) 1 >>= _) _ _ s
  refine wpAny_bind (wpAny_field ho hd (x := .int i 0) rfl ?_)
  show wpAny _ _ (seqItems? (.ref l) >>= _) _ _ s
  refine wpAny_bind (wpAny_seqItems hol hdl ?_)
  simp only [Int.toNat_natCast, hx]
  refine wpAny_bind (wpAny_rule (wpAny_bind (wpAny_setField ho hd (by simp) ?_)))
  show wpAny _ _ (newExc (.type "StopIteration") [] >>= _) _ _ _
  refine wpAny_bind ?_
  simp only [newExc, newTuple]
  refine wpAny_bind (wpAny_newObj_type ?_ (by size_fits))
  refine wpAny_bind (m := firstArgMember _ _) (wpAny_of_eq (a := Value.none) (by first | rfl | (simp only [firstArgMember]; rfl)) ?_)
  refine wpAny_newObj_type ?_ (by size_fits)
  have up : ∀ f : Obj → Obj, (s.heap.update it f).get? x1 = some o1 := fun f => (Heap.get?_update_other _ _ (Ne.symm hne)).trans h1
  refine raiseNew_hot ⟨hh, o1, vs1, Heap.get?_push_of_some _ (Heap.get?_push_of_some _ (up _)), d1, c1⟩ (Nat.ne_of_lt (Heap.lt_size (Heap.get?_push_of_some _ (up _)))) (Heap.get?_push_size _ rfl) rfl (by first | (simp; done) | (simp; omega) | (simp only [Array.size_append]; simp; omega)) ?_
  refine wpAny_bind (wpAny_isInstance (T := "StopIteration") (b := true) ⟨_, Heap.get?_update_self _ (Heap.get?_push_size _ rfl) rfl, rfl⟩ isSubtype_stop ?_)
  refine wpAny_pure (hQ _ fun b o hb e => ?_)
  have e1 := (Heap.get?_update_other (s.heap) (Obj.mapFields (·.setIfInBounds 0 Value.none)) (Ne.symm hb)).trans e
  rw [Heap.get?_update_other _ _ (Nat.ne_of_gt (Heap.lt_size (Heap.get?_push_of_some _ e1)))]
  exact Heap.get?_push_of_some _ (Heap.get?_push_of_some _ e1)
theorem Walks.listH {x1 : Addr} {o1 : Obj} {vs1 : Array Value} (hh : A.handled = some (.ref x1)) (d1 : o1.data = .fields vs1) (c1 : vs1[2]? = some .none) (I ax : Addr) (hne : ax ≠ I) (hn1 : x1 ≠ I) (items : Array Value) :
    Walks prog w A I [I, ax, x1] [I] items.size (fun i v => items[i]? = some v) (fun i h => h.IsListIter I ax i ∧ h.IsList ax items ∧ h.get? x1 = some o1) where
  sub := fun b hb => by simp at hb; simp [hb]
  frame := fun _ _ _ st hk => ⟨st.1.at fun o e => hk I (by simp) o e, st.2.1.at fun o e => hk ax (by simp) o e, hk x1 (by simp) _ st.2.2⟩
  item := fun i s Q E hi st hQ => by
    refine wpAny_pyNext_list_item st.1 st.2.1 (x := items[i]) (by simp [hi]) fun h' hit' hs' => ?_
    exact hQ _ h' s.toks (by simp [hi]) ⟨hit', st.2.1.extBut hs'.extBut hne, hs'.extBut x1 o1 hn1 st.2.2⟩ fun b o hb e => hs'.extBut b o (fun h => hb (by simp [h])) e
  done := fun s Q E st hQ => pyNext_list_end_hot ⟨hh, o1, vs1, st.2.2, d1, c1⟩ hn1 st.1 st.2.1 (by simp) fun h' he' => hQ h' s.toks fun b o hb e => he' b o (fun h => hb (by simp [h])) e
  self := fun _ _ _ _ st hQ => wpAny_pyIter_listiter st.1 hQ
theorem sum_rawH {l x1 : Addr} {its : List Value} {ns : List Int} {Q : Value → Shared → Prop} (hot : HotAt A x1 s.heap) (hl : s.heap.IsList l its.toArray) (hi : IntsAre its ns)
    (h : ∀ h' tk t', (∀ b o, s.heap.get? b = some o → h'.get? b = some o) → Q (.int ns.sum t') { s with heap := h', toks := tk }) : wpAny (model prog w) A (call (.builtin "sum") [.ref l]) Q E s := by
  obtain ⟨xs, e⟩ := hi.allInts.items
  have hn : numsOf (intItems xs).toList = ns := by rw [← e]; exact hi.numsOf
  rw [nums_intItems] at hn
  rw [e] at hl
  obtain ⟨hh, o1, vs1, h1, d1, c1⟩ := hot
  obtain ⟨ol, hol, _⟩ := id hl
  refine call_sum_walkG (wpAny_pyIter_list hl ?_)
  have k : ∀ b o, s.heap.get? b = some o → (s.heap.push ({ cls := .type "list_iterator", data := .fields #[.ref l, rawInt 0] } : Obj)).get? b = some o := fun b o e => Heap.get?_push_of_some _ e
  refine ⟨s.heap.objs.size, _, _, _, _, _, numAt xs, rfl, Walks.listH (x1 := x1) (o1 := o1) (A := A.in1) hh d1 c1 s.heap.objs.size l (Nat.ne_of_lt (Heap.lt_size hol)) (Nat.ne_of_lt (Heap.lt_size h1)) (intItems xs), ⟨⟨_, Heap.get?_push_size _ rfl, rfl, rfl⟩, hl.at fun o e => k l o e, k _ _ h1⟩, fun b hb => ?_, (fun _ _ => intItems_at), fun h' tk t' hk => ?_⟩
  · show b < (s.heap.push _).objs.size
    rw [Heap.size_push]
    rcases List.mem_cons.mp hb with e | hb
    · rw [e]; exact Nat.lt_succ_self _
    · rcases List.mem_cons.mp hb with e | hb
      · rw [e]; exact Nat.lt_succ_of_lt (Heap.lt_size hol)
      · rw [List.mem_singleton.mp hb]; exact Nat.lt_succ_of_lt (Heap.lt_size h1)
  · have := h h' tk t' fun b o e => hk b o (fun hm => by rw [List.mem_singleton.mp hm] at e; exact absurd (Heap.lt_size e) (Nat.lt_irrefl _)) (k b o e)
    have e2 : preSum (numAt xs) (intItems xs).size = ns.sum := by
      rw [show (intItems xs).size = xs.size from by simp [intItems], preSum_eq, List.take_of_length_le (by simp), hn]
    rw [e2]
    exact this
end
section
variable {X : Cx}
theorem cr_sumH (hc : HotC X) : CallR X (.builtin "sum") (rSum X.K) := by
  intro pins s σ H vs us Q I r h
  obtain ⟨a, ns, rfl, hs, q⟩ := h
  obtain ⟨its, rv, hl, _⟩ := I.list hs
  rw [Vals.ref1 r]
  obtain ⟨x1, hot⟩ := hc.at I
  exact sum_rawH hot hl.isList rv.ints fun h' tk t' hk => ⟨.int _, H, I.kept hk, ⟨_, rfl⟩, q⟩
theorem de_sumH {W : WX} {e : Expr} {ma : M1 D} {p pos : Pos} (hc : HotC X) (hm : X.mg "sum" = none) (ha : DE X W e ma) (hg : Gl X "sum" := by rfl) (hs : starEach [e] X.env = (false, eval e X.env) :: starEach [] X.env := by rfl) (hpl : (backTo pos (starEach [] X.env)).any (·.1) = false := by rfl) :
    DE X W (.Call (.Name "sum" p) [e] [] pos) (mSum ma) := de_b (cr_sumH hc) ok_sum (ne_f1 ne_sum) hm (by decide +kernel) (da_cons ha da_nil hs) hg (by decide) (by decide) hs hpl
end
/-! ### a comprehension over a range -/
/-- a range's iterator, an exception being handled: what one asks of it -/
structure HotIt (P : Program) (w : World) (K : PySem.W.Frag) (tg : Expr) (J : It) (it : Addr) (tn : Nat → Heap → Prop) : Prop where
  obj : ∀ i h, tn i h → ∃ o, h.get? it = some o ∧ ∀ v, o.data ≠ .cell v
  keep : ∀ i h h', tn i h → (∀ o, h.get? it = some o → h'.get? it = some o) → tn i h'
  item : ∀ (X : Cx), X.prog = P → X.w = w → X.K = K → ∀ (i : Nat) (pins : List (Addr × Obj)) (s : Shared) (σ : StD) (H : Hp) (E : Value → Shared → Prop), Inv X pins σ H s → FpOk X pins H it → tn i s.heap → J.go i H →
    wpAny (model P w) X.A (pyNext (.ref it)) (fun r s1 => ∃ u, r = some u ∧
      wpAny (model P w) X.A (letOwnedTupleGo tg (.ref it) u) (fun _ s2 => ∃ x H', Inv X pins σ H' s2 ∧ RelV x u ∧ J.yld i H x H' ∧ tn (i + 1) s2.heap ∧ H' it = none) E s1) E s
  done : ∀ (X : Cx), X.prog = P → X.w = w → X.K = K → ∀ (i : Nat) (pins : List (Addr × Obj)) (s : Shared) (σ : StD) (H : Hp) (E : Value → Shared → Prop) (x1 : Addr), HotAt X.A x1 s.heap → Inv X pins σ H s → FpOk X pins H it → tn i s.heap → J.stop i H →
    wpAny (model P w) X.A (pyNext (.ref it)) (fun r s1 => r = none ∧ Inv X pins σ H s1) E s
  self : ∀ (A : Around) (i : Nat) (s : Shared) (Q : Value → Shared → Prop) (E : Value → Shared → Prop), tn i s.heap → Q (.ref it) s → wpAny (model P w) A (pyIter (.ref it)) Q E s
theorem hotIt_range {P : Program} {w : World} {K : PySem.W.Frag} {tg : Expr} (it : Addr) (lo : Int) (n : Nat) : HotIt P w K tg (Itr lo n) it (fun i h => IsRangeIter h it (lo + (i : Nat) * 1) ((n : Int) - (i : Nat)) 1) where
  obj := fun i h st => ⟨_, st, fun v z => by
    have z' : Data.fields _ = Data.cell v := z
    cases z'⟩
  keep := fun i h h' st k => k _ st
  item := by
    intro X hP hw hK i pins s σ H E I hf st hg
    subst hP hw hK
    obtain ⟨f0, f1, f2, f3, f4, f5⟩ := id hf
    have hlt : i < n := hg
    refine wpAny_pyNext_range_item st (by omega) fun h' st' sb => ?_
    have st2 : IsRangeIter h' it (lo + ((i + 1 : Nat) : Int) * 1) ((n : Int) - ((i + 1 : Nat) : Int)) 1 := by
      have e1 : lo + ((i : Nat) : Int) * 1 + 1 = lo + ((i + 1 : Nat) : Int) * 1 := by omega
      have e2 : (n : Int) - ((i : Nat) : Int) - 1 = (n : Int) - ((i + 1 : Nat) : Int) := by omega
      rw [← e1, ← e2]
      exact st'
    have I1 : Inv X pins σ H { s with heap := h', toks := s.toks + 1 } := I.turned (fun b o hb e => (sb.2 b hb).trans e) f0 f1 f3 f4 f5
    refine ⟨_, rfl, go_of (s := { s with heap := h', toks := s.toks + 1 }) (n := "range_iterator") st2 rfl rfl (by decide) ⟨.int (lo + i), H, I1, ⟨s.toks, ?_⟩, ⟨rfl, rfl⟩, st2, f0⟩⟩
    rw [Int.mul_one]
  done := by
    intro X hP hw hK i pins s σ H E x1 hot I hf st hg
    subst hP hw hK
    obtain ⟨f0, f1, f2, f3, f4, f5⟩ := id hf
    exact pyNext_range_end_hot hot st (by have : n ≤ i := hg; omega) fun h' eb => ⟨rfl, I.turned (t' := s.toks) (fun b o _ e => eb b o e) f0 f1 f3 f4 f5⟩
  self := fun _ _ _ _ _ st h => wpAny_pyIter_rangeiter st h
/-- an iterator has come -/
def HotGot (X : Cx) (pins : List (Addr × Obj)) (σ : StD) (tg : Expr) (R : It → Hp → Prop) (itv : Value) (s2 : Shared) : Prop :=
  ∃ (it : Addr) (tn : Nat → Heap → Prop) (J : It) (H' : Hp), itv = .ref it ∧ Inv X pins σ H' s2 ∧ HotIt X.prog X.w X.K tg J it tn ∧ tn 0 s2.heap ∧ FpOk X pins H' it ∧ R J H'
structure PIHot (X : Cx) (tg iter : Expr) (wi : TI) : Prop where
  run : ∀ (pins : List (Addr × Obj)) (s : Shared) (σ : StD) (H : Hp) (R : It → Hp → Prop), Inv X pins σ H s → wi σ H R →
    wpAny (model X.prog X.w) X.A (eval iter X.env) (fun v s1 => wpAny (model X.prog X.w) X.A (pyIter v) (HotGot X pins σ tg R) X.xe s1) X.xe s
section
variable {X : Cx}
theorem hot_it {tg : Expr} {pins : List (Addr × Obj)} {σ : StD} {H : Hp} {s : Shared} {R : It → Hp → Prop} {E : Value → Shared → Prop} {lo hi : Int} {t u v : Tok} {tk : Nat} (I : Inv X pins σ H s) (h1 : -(2 ^ 62) ≤ lo) (h2 : lo < 2 ^ 62) (h3 : -(2 ^ 62) ≤ hi) (h4 : hi < 2 ^ 62)
    (q : R (Itr lo (hi - lo).toNat) H) : wpAny (model X.prog X.w) X.A (pyIter (.ref s.heap.objs.size)) (HotGot X pins σ tg R) E { s with heap := s.heap.push { cls := .type "range", data := .fields #[.int lo t, .int hi u, .int 1 v] }, toks := tk } := by
  refine wpAny_pyIter_range (IsRange.new ..) (small_one h1 h2 h3 h4) ?_
  have I1 : Inv X pins σ H { s with heap := s.heap.push { cls := .type "range", data := .fields #[.int lo t, .int hi u, .int 1 v] }, toks := tk } := I.kept fun b o e => Heap.get?_push_of_some _ e
  refine ⟨_, _, _, H, rfl, I1.kept (t' := tk) fun b o e => Heap.get?_push_of_some _ e, hotIt_range _ lo (hi - lo).toNat, ?_, I1.fpOk (Nat.le_refl _) (I1.hok.fresh (Nat.le_refl _)), q⟩
  have e1 : lo + ((0 : Nat) : Int) * 1 = lo := by simp
  have e2 : (((hi - lo).toNat : Nat) : Int) - ((0 : Nat) : Int) = Builtin.Range.rangeSize lo hi 1 := by rw [rangeSize_one]; split <;> omega
  show IsRangeIter _ _ (lo + ((0 : Nat) : Int) * 1) ((((hi - lo).toNat : Nat) : Int) - ((0 : Nat) : Int)) 1
  rw [e1, e2]
  exact Heap.get?_push_size _ rfl
theorem pi_hotrange {tg a : Expr} {ta : TA} {p pos : Pos} (hg : Gl X "range") (hm : X.mg "range" = none) (ha : PA X [a] ta) (hs : starEach [a] X.env = [(false, eval a X.env)] := by rfl) : PIHot X tg (.Call (.Name "range" p) [a] [] pos) (iRng1 ta) := by
  refine ⟨fun pins s σ H R I h => ?_⟩
  refine Call_ (ld_blt I hg hm boot_range (PyProof.Rows.callWith_type1 (thn (ha.run pos pins s σ H _ I h) fun us s1 ⟨vs, H1, I1, r1, q1⟩ => ?_) hs rfl))
  obtain ⟨j, e, q1, q2, q⟩ := q1
  subst e
  cases r1 with
  | cons r rr =>
    cases rr
    obtain ⟨t, rfl⟩ := r
    refine call_range_1 (hot_it I1 (by omega) (by omega) q1 q2 (by simpa using q))
/-- [elt for tg in range(n)], an exception being handled: the block's footprint is the iterator -/
theorem hot_lc {tg iter elt : Expr} {scope : Scope} {own : List (Str × Nat)} {pos : Pos} {wi : TI} {g : TG} {te : TE} (hc : HotC X) (hN : X.N.Nodup) (hi : PIHot X tg iter wi) (ok : BlkOk X.N X.env.scope scope own)
    (hg : ∀ (s : Shared) (H : Hp) (C : Addr) (cl : List (Str × Addr)) (fp : List Addr), PG (X.blk s H scope (compEnvC scope cl C X.env) fp) tg g)
    (he : ∀ (s : Shared) (H : Hp) (C : Addr) (cl : List (Str × Addr)) (fp : List Addr), PE (X.blk s H scope (compEnvC scope cl C X.env) fp) elt te) (hs : ∀ x, foldedSetIterable iter X.env x = pure x := by intro _; rfl) :
    PE X (.ListComp elt [⟨tg, iter, [], 0⟩] scope pos) (tLc wi g tYes te (own.map (·.2))) := by
  refine ⟨fun pins s σ H Q I h => ?_⟩
  rw [eval_ListComp]
  have hfree : ∀ y ∈ scope.names, y.2 = .free → ∃ c, X.env.cells.lookup y.1 = some c := fun y hy e => by
    rcases ok.free y hy e with k | k
    · exact I.ok.has _ (.inl k)
    · exact I.ok.has _ (.inr k)
  refine wpAny_comprehension_free (use := none) rfl hs (closure_ok hfree) ok.kind (fun y hy e => by rw [ok.uniq y hy, e])
    (thn (hi.run pins s σ H _ I h) fun xv s1 hx => thn hx fun itv s2 h2 => ?_)
  obtain ⟨it, tn, J, H2, e, I2, T, st2, f2, q⟩ := h2
  subst e
  refine wpAny_newObj_type (newEnv_comp ?_) (by show 0 ≤ sizeLine; decide)
  generalize hD : s2.heap.objs.size = D
  have hDn : H2 D = none := I2.hok.fresh (Nat.le_of_eq hD)
  obtain ⟨W, ⟨m0, w0⟩, turn⟩ := q D hDn
  generalize hs3 : ({ s2 with heap := s2.heap.push { cls := .type "list", data := .seq ([] : List Value).toArray } } : Shared) = s3
  have I3 : Inv X pins σ (upd H2 D (.lst [])) s3 := by
    rw [← hs3]
    refine I2.laid (t' := s2.toks) (fun b o e => Heap.get?_push_of_some _ e) (Nat.le_of_eq hD) ⟨Nat.zero_le _, [], 0, .nil, ?_⟩
    rw [← hD]
    exact Heap.get?_push_size _ rfl
  have h3 : s3.heap = s2.heap.push { cls := .type "list", data := .seq ([] : List Value).toArray } := by rw [← hs3]
  have hlt : it < s2.heap.objs.size := by
    obtain ⟨o, e, _⟩ := T.obj _ _ st2
    exact Heap.lt_size e
  have f3 : ∀ b ∈ [it], FpOk X pins (upd H2 D (.lst [])) b ∧ b < s3.heap.objs.size := fun b hb => by
    rw [List.mem_singleton.mp hb]
    refine ⟨⟨?_, f2.2⟩, by rw [h3, Heap.size_push]; exact Nat.lt_succ_of_lt hlt⟩
    rw [upd_ne (by rw [← hD]; exact Nat.ne_of_lt hlt)]
    exact f2.1
  have st3 : tn 0 s3.heap := T.keep _ _ _ st2 fun o e => by rw [h3]; exact Heap.get?_push_of_some _ e
  have I4 := block_start I3 ok hN f3
  have pg := hg s3 (upd H2 D (.lst [])) s3.heap.objs.size (cellsFrom (s3.heap.objs.size + 1) scope.names (cloFrom X.env.cells scope.names [])) [it]
  have pe := he s3 (upd H2 D (.lst [])) s3.heap.objs.size (cellsFrom (s3.heap.objs.size + 1) scope.names (cloFrom X.env.cells scope.names [])) [it]
  show codeAny _ _ (.compStart (.ListComp elt [⟨tg, iter, [], 0⟩] scope pos) 0 (.ref it) (.ref D) (compEnvC scope (cellsFrom (s3.heap.objs.size + 1) scope.names (cloFrom X.env.cells scope.names [])) s3.heap.objs.size X.env)) (compPost (model X.prog X.w) X.A X.xe none (EP X pins σ Q) (.ref D) s3.heap.objs.size) { s3 with heap := pushCells (s3.heap.push { cls := .type "dict", data := .dict #[] }) scope.names }
  have nfp : upd H2 D (.lst []) it = none := (f3 it (by simp)).1.1
  -- the handled exception, and what of it the block cannot reach
  obtain ⟨p, ⟨hh, v1, d1, c1⟩, hp⟩ := id hc
  have P3 := I3.pin p (List.mem_append_left _ hp)
  have pit : p.1 ≠ it := f2.2.2.2.2.2 p (List.mem_append_left _ hp)
  generalize hce : compEnvC scope (cellsFrom (s3.heap.objs.size + 1) scope.names (cloFrom X.env.cells scope.names [])) s3.heap.objs.size X.env = ce at I4 pg pe ⊢
  have cL : ce.locals = s3.heap.objs.size := by subst hce; rfl
  generalize hH3 : upd H2 D (.lst []) = H3 at I3 I4 pg pe w0 nfp f3 P3
  generalize hs4 : ({ s3 with heap := pushCells (s3.heap.push { cls := .type "dict", data := .dict #[] }) scope.names } : Shared) = s4 at I4 ⊢
  have st4 : tn 0 s4.heap := T.keep _ _ _ st3 fun o e => by rw [← hs4]; exact pushCells_keeps _ _ _ _ (Heap.get?_push_of_some _ e)
  have stat : ∀ {σ' : StD} {H' : Hp} {s' : Shared}, Inv (X.blk s3 H3 scope ce [it]) [] σ' H' s' → H' it = none → FpOk (X.blk s3 H3 scope ce [it]) [] H' it := fun {σ' H' s'} I' hn =>
    ⟨hn, (I'.ok.exf it (by simp)).1, I'.ok.exfs it (by simp), .inl (by simp), fun x c e => (I'.ok.exf it (by simp)).2 x c e, fun p hp => absurd (show p ∈ ([] : List (Addr × Obj)) ++ [] from hp) (by simp)⟩
  have hotAt : ∀ {σ' : StD} {H' : Hp} {s' : Shared}, Inv (X.blk s3 H3 scope ce [it]) [] σ' H' s' → HotAt X.A p.1 s'.heap := fun {σ' H' s'} I' => by
    refine ⟨hh, p.2, v1, I'.base.keep p.1 p.2 P3.1 P3.2.1 ?_ ?_, d1, c1⟩
    · intro hm
      exact (List.mem_cons.mp (I3.stkSub p.1 hm)).elim P3.2.2.1 P3.2.2.2.1
    · intro hm
      exact pit (List.mem_singleton.mp hm)
  have loop : codeAny (model X.prog X.w) X.A (.compLoop (.ListComp elt [⟨tg, iter, [], 0⟩] scope pos) 0 (.ref it) (.ref D) ce) (compPost (model X.prog X.w) X.A X.xe none (EP X pins σ Q) (.ref D) s3.heap.objs.size) s4 := by
    refine compLoop_any (fun n s' => ∃ i H', Inv (X.blk s3 H3 scope ce [it]) [] (wipe σ (own.map (·.2))) H' s' ∧ tn i s'.heap ∧ H' it = none ∧ W i n H') ?_ m0 ⟨0, H3, I4, st4, nfp, w0⟩
    rintro n s5 ⟨i, H5, I5, st5, n5, w5⟩
    rcases turn i n H5 w5 with ⟨stop, qq⟩ | ⟨go, Nx, hNx, step⟩
    · have td := T.done (X.blk s3 H3 scope ce [it]) rfl rfl rfl i [] s5 _ H5 (fun _ _ => False) p.1 (hotAt I5) I5 (stat I5 n5) st5 stop
      refine thnF td fun r s6 ⟨hr, I6⟩ => ?_
      subst hr
      have I7 : Inv X pins σ H5 s6 := I3.call' (ch := [it]) I6.os I6.base I6.hok I6.bare fun b hb => ⟨(f3 b hb).1.2.2.2.1, (f3 b hb).1.2.1, (f3 b hb).1.2.2.2.2.1, (f3 b hb).1.2.2.2.2.2⟩
      have nC : H5 s3.heap.objs.size = none := by
        have z : H5 ce.locals = none := I6.free
        rw [cL] at z
        exact z
      obtain ⟨m, hn, _⟩ := I6.loc
      have hn : s6.heap.Ns ce.locals m := hn
      rw [cL] at hn
      obtain ⟨k0, k1, k2, k3, k4, k5⟩ : FpOk X pins H5 s3.heap.objs.size := I3.fpOk (Nat.le_refl _) nC
      exact ⟨m, hn, fun h'' sb => ⟨.ref D, H5, I7.turned (t' := s6.toks) (fun b o hb e => (sb.2 b hb).trans e) k0 k1 k3 k4 k5, rfl, qq⟩⟩
    · have ti := T.item (X.blk s3 H3 scope ce [it]) rfl rfl rfl i [] s5 _ H5 (fun _ _ => False) I5 (stat I5 n5) st5 go
      refine thnF ti fun r s6 ⟨u, hr, h6⟩ => ?_
      subst hr
      refine thnF h6 fun _ s7 ⟨x, H7, I7, r7, y7, st7, n7⟩ => ?_
      have I7' := I7.pinned (fp := [it]) (fun b hb => by rw [List.mem_singleton.mp hb]; exact stat I7 n7) (fun b hb => by rw [List.mem_singleton.mp hb]; exact T.obj _ _ st7)
      refine thnF (pg.run _ s7 _ H7 x u _ I7' r7 (step x H7 y7)) fun _ s8 ⟨σ8, H8, I8, hw8, q8⟩ => ?_
      refine thnF ((pts_nil (X := X.blk s3 H3 scope ce [it])).run _ s8 σ8 H8 _ I8 q8) fun b s9 ⟨H9, I9, q9⟩ => ?_
      have fin : ∀ {s' : Shared} {H' : Hp}, Inv (X.blk s3 H3 scope ce [it]) ([] ++ pinsAt [it] s7.heap) σ8 H' s' → Nx H' → ∃ m, m < n ∧ ∃ i H', Inv (X.blk s3 H3 scope ce [it]) [] (wipe σ (own.map (·.2))) H' s' ∧ tn i s'.heap ∧ H' it = none ∧ W i m H' := fun {s' H'} I' nx => by
        obtain ⟨m', hm, w'⟩ := hNx H' nx
        have pin' : ∀ o, s7.heap.get? it = some o → s'.heap.get? it = some o ∧ H' it = none := fun o e =>
          let z := I'.pin (it, o) (List.mem_append_right _ (List.mem_append_right _ (mem_pinsAt (by simp) e)))
          ⟨z.1, z.2.1⟩
        have hl : (wipe σ (own.map (·.2))).length = σ8.length := by rw [← hw8, wipe_length]
        obtain ⟨o, e, _⟩ := T.obj _ _ st7
        refine ⟨m', hm, i + 1, H', (I'.unpinned (pins := [])).weak hl (fun j v e => ?_), T.keep _ _ _ st7 fun o e => (pin' o e).1, (pin' o e).2, w'⟩
        rw [← hw8] at e
        exact (wipe_some e).1
      cases b with
      | false =>
        simp only [Bool.false_eq_true, if_false] at q9 ⊢
        exact fin I9 q9
      | true =>
        simp only [if_true] at q9 ⊢
        refine thnF (pe.run _ s9 σ8 H9 _ I9 q9) fun z s10 ⟨yv, H10, I10, r10, acc, hD10, hz10, nx⟩ => ?_
        exact app_ok (X := X.blk s3 H3 scope ce [it]) I10 hD10 hz10 r10 fun s11 I11 => fin I11 nx
  exact codeAny_compStart_list loop (T.self X.A 0 _ _ _ st4 loop)
/-- .. by its mirror -/
theorem hot_rng {W : WX} {tg a : Expr} {ms : M1 (List D)} {p pos : Pos} (hm : X.mg "range" = none) (ha : DA X W [a] ms) (hg : Gl X "range" := by rfl) (hs : starEach [a] X.env = [(false, eval a X.env)] := by rfl) : PIHot X tg (.Call (.Name "range" p) [a] [] pos) (tI X.K X.mg W (mRng1 ms)) := by
  have h := pi_hotrange (tg := tg) (p := p) (pos := pos) hg hm ha hs
  refine ⟨fun pins s σ H R I ⟨al, r, s0, so, eo, af⟩ => h.run pins s σ H R I ⟨al, r, s0, so, eo, ?_⟩⟩
  refine af.bind fun ds s1 vs H1 al1 _ e1 so1 rp1 af1 => ?_
  match ds, rp1, af1 with
  | [x], rp1, af1 =>
    obtain ⟨v, rfl, r1⟩ := reps1 rp1
    cases x with
    | int j =>
      have := rep_int r1
      subst this
      dsimp only at af1
      by_cases h : -(2 ^ 62) ≤ j ∧ j < 2 ^ 62
      · rw [if_pos h] at af1
        exact ⟨j, rfl, h.1, h.2, Aft.ok (a := (rngD 0 j.toNat, none)) (m := s1) af1 so1 itOk_r⟩
      · rw [if_neg h] at af1; exact af1.elim
    | _ => exact af1.elim
  | [], _, af1 => exact af1.elim
  | _ :: _ :: _, _, af1 => exact af1.elim
theorem de_lcH {W : WX} {elt tg iter : Expr} {scope : Scope} {pos : Pos} {it : MI} {g : TG} {gm : MG} {me : M1 D} (own : List (Str × Nat)) (hc : HotC X) (hN : X.N.Nodup) (hi : PIHot X tg iter (tI X.K X.mg W it)) (ok : BlkOk X.N X.env.scope scope own)
    (hgo : GOk X.K g gm (own.map (·.2)))
    (hg : ∀ (s : Shared) (H : Hp) (C : Addr) (cl : List (Str × Addr)) (fp : List Addr), PG (X.blk s H scope (compEnvC scope cl C X.env) fp) tg g)
    (he : ∀ (s : Shared) (H : Hp) (C : Addr) (cl : List (Str × Addr)) (fp : List Addr), DE (X.blk s H scope (compEnvC scope cl C X.env) fp) W0 elt me) (hs : ∀ x, foldedSetIterable iter X.env x = pure x := by intro _; rfl) :
    DE X W (.ListComp elt [⟨tg, iter, [], 0⟩] scope pos) (mLc it (own.map (·.2)) gm mYes me) := by
  refine pe_w (hot_lc (te := tD X.K X.mg W0 me) hc hN hi ok hg he hs) fun σ H Q ⟨al, r, s, so, eo, af⟩ => ⟨al, r, s, so, eo, ?_⟩
  refine af.bind fun p s1 J H1 al1 _ e1 so1 io af1 => fun Dd hD => ?_
  exact lc_data io so1 (eo.ext e1) hD hgo (fun _ _ _ h => yes_t h) af1 fun acc s' al' H' accV af2 ex so' n hl rp => lc_end af2 ex so' n hl rp
end
end DL

set_option Elab.async false
set_option linter.all false
set_option maxRecDepth 100000
set_option maxHeartbeats 2000000
/-! DL12: the law's word for an exception; try with one except that hands it out. -/
namespace DL
open PySem PySem.Spec PyProof.Rows L2 HotX L2H
/-- a def that says t of an exception of class C -/
structure FlagOk (P : Program) (w : World) (K : PySem.W.Frag) (mg : Str → Option Value) (base : Heap) (k : Nat) (x : Str) (C : Addr) (t : Str) : Prop where
  ex : ∃ f : Addr, mg x = some (.ref f) ∧ PySem.W.keepIn K (.ref f) = true ∧ ∀ (A : Around) (outer : List Env) (s : Shared) (H : Hp) (Q : VK) (E : XK) (p : Addr × Obj), RoomH k A → Hot1 A p → PinOk outer H s p → L2N.Zn (.ref C) none p.2 → Env0 P w K mg base A outer s H →
    (∃ al s0, StoOk K H al s0 ∧ Aft K (RD K) al H (.ok (.str t) s0) Q (fun _ _ => False)) → codeAny (model P w) A (.call (.ref f) ⟨[.ref p.1], []⟩) (CR (L2N.CX P w) outer P w H s Q E) s
section
variable {X : Cx} {W : WX} {e : Expr} {ma : M1 D}
theorem call_isEp {p : Addr × Obj} {C : Addr} (c : ExcC X.K C) (hp : p ∈ X.pn) (hz : Zc (.ref C) none p.2) (hf : ∃ vs, p.2.data = .fields vs) : CallR X (.builtin "isinstance") (rIsE X.K C p.1) := by
  intro pins s σ H xs us Q I r h
  obtain ⟨d, cv, b, rfl, hcv, e, q⟩ := h
  cases r with
  | cons rx rr =>
    cases rr with
    | cons rt rr =>
      cases rr
      cases rx
      have ec := hcv _ rt
      subst ec
      obtain ⟨hget, _⟩ := I.pin p (List.mem_append.mpr (.inl hp))
      obtain ⟨vs, hv⟩ := hf
      have J : PySem.W.InstAt s.heap p.1 p.2 C none := by
        obtain ⟨a, oe⟩ := p
        obtain ⟨oc, od, oda, osl⟩ := oe
        obtain ⟨h1, h2⟩ := hz
        dsimp only at h1 h2 hv
        subst h1 h2 hv
        exact ⟨hget, rfl, rfl, trivial⟩
      exact PySem.W.kia_one (PySem.W.handS_kitx_exc c.hg c.hk c.hs c.hd c.ha c.hn c.ht c.hm) I.kIn J e (fun z => nomatch z) fun tk => ⟨.bl b, H, I.kept (t' := tk) fun _ _ z => z, rfl, q⟩
/-- isinstance(e, C'), e the exception that is handled -/
def mIsE (a : Addr) (b : Bool) (m : M1 D) : M1 D := fun r s => (m r s).bind fun d s1 => match d with
  | .fn a' => if a' = a then .ok (.bl b) s1 else .bad
  | _ => .bad
theorem de_isE {p : Addr × Obj} {C C' : Addr} {b : Bool} {T : Str} {q q2 pos : Pos} (c : ExcC X.K C) (hp : p ∈ X.pn) (hz : Zc (.ref C) none p.2) (hf : ∃ vs, p.2.data = .fields vs) (hm : X.mg "isinstance" = none) (hT : X.mg T = some (.ref C')) (hk : PySem.W.kitOne X.K (.ref C) (.ref C') = some b) (ha : DE X W e ma)
    (hg : Gl X "isinstance" := by rfl) (hgT : Gl X T := by rfl) (hd : (T == ("__debug__" : Str)) = false := by decide)
    (hs : starEach [e, .Name T q2] X.env = (false, eval e X.env) :: starEach [.Name T q2] X.env := by rfl) (hs2 : starEach [.Name T q2] X.env = (false, eval (.Name T q2) X.env) :: starEach [] X.env := by rfl) (hpl : (backTo pos (starEach [.Name T q2] X.env)).any (·.1) = false := by rfl) :
    DE X W (.Call (.Name "isinstance" q) [e, .Name T q2] [] pos) (mIsE p.1 b ma) := by
  refine pe_w (pe_callB (call_isEp c hp hz hf) hg hm (by decide +kernel) (pa_cons ha (pa_cons (pe_glob (v := .ref C') hgT hT rfl hd) pa_nil hs2) hs) (by decide) (by decide) hs hpl) fun σ H Q ⟨al, rr, s, so, eo, af⟩ => ⟨al, rr, s, so, eo, ?_⟩
  refine af.bind fun d s1 v H1 al1 _ e1 so1 rp1 af1 => ?_
  cases d with
  | fn a' =>
    unfold Rep at rp1
    subst rp1
    dsimp only at af1
    split at af1
    · rename_i ha
      subst ha
      exact ⟨.ref C', .ref C', b, rfl, fun u r => r, hk, aft_bl af1 so1⟩
    · exact af1.elim
  | _ => exact af1.elim
end
/-- THE RULE for that def: its body's mirror, for each exception -/
theorem flag_of {P : Program} {w : World} {K : PySem.W.Frag} {mg : Str → Option Value} {base : Heap} {x pn : Str} {st : Stmt} {N : List Str} {k : Nat} {C : Addr} {t : Str} (mb : Addr → MS) (S : Std K mg x st) (sc : FnScope N [pn] (defScope st))
    (hbd : ∀ (kV doc pm : Value) (an : Option Addr) (cdv ct : Value) (us : List Value), us.length = [pn].length → bindArgs (PySem.W.fnOf x x (defArgs st) (defBody st) (defScope st) .none kV doc pm an cdv ct) ⟨us, []⟩ = pure ([pn].zip us))
    (hmb : ∀ a s, mb a (startR N.length [.fn a]) s = .rt (.str t) s)
    (hb : ∀ (f : Addr) (cdv : Value) (A : Around) (outer : List Env) (s : Shared) (H : Hp) (E : XK) (p : Addr × Obj), Hot1 A p → L2N.Zn (.ref C) none p.2 → RoomH k (A.deeper (envOfC x (defScope st) s.heap.objs.size f cdv)) →
      DSs (cxH (L2N.CX P w) P w K mg base N x (defScope st) f cdv A outer s H E p) (WD E) (defBody st) (mb p.1)) : FlagOk P w K mg base (k + 1) x C t := by
  obtain ⟨f, fd, F, g⟩ := S.ex
  have kp := F.kp
  obtain ⟨oc, od, kV, doc, pm, an, cdv, ct, osl, rfl, lk, hcd⟩ := F.ex
  refine ⟨f, g, kp, fun A outer s H Q E p hr hot hpin hz e0 ⟨al, s0, so, af⟩ => ?_⟩
  have KX : K.In s.heap := e0.mod.kin.keeps fun b o e => (e0.bs b o e).1
  have lim : s.heap.NoLimit := e0.mod.nolimit.keeps fun b o e => (e0.bs b o e).1
  have rv : Vals [V.ref p.1] [Value.ref p.1] := .cons rfl .nil
  have hkind : ∀ y ∈ [pn].zip [Value.ref p.1], (defScope st).names.lookup y.1 = some .local ∨ ((defScope st).names.lookup y.1 = some .cell ∧ ((cellsFrom (s.heap.objs.size + 1) (defScope st).names []).lookup y.1).isSome = true) := fun ⟨n, v⟩ hy => by
    rcases sc.par n (List.of_mem_zip hy).1 with q | q
    · exact .inl q
    · exact .inr ⟨q, PySem.W.cellsFrom_some _ _ _ (.inl q)⟩
  refine codeAny_call_function hr.depth (KX _ _ lk) rfl sc.co sc.gen rfl (PySem.W.codeRec_of KX hcd) (BindsTo.of_eq (hbd kV doc pm an cdv ct [.ref p.1] rfl) _ _ _ _ ?_)
  refine wpAny_newFunctionEnv_cells sc.kind hkind fun env he s1 y => ?_
  subst he
  refine ⟨lim.keeps y.toInCall.keep, codeAny_func ?_⟩
  have I : Inv (cxH (L2N.CX P w) P w K mg base N x (defScope st) f cdv A outer s H E p) [] (L2.start N [V.ref p.1]) H s1 := inv_startH sc hpin e0 rfl rv y
  refine wpAny_mono ((hb f cdv A outer s H E p hot hz (hr.deeper _)).run [] s1 (L2.start N [V.ref p.1]) H { nx := fun _ H' => Q .non H', rt := Q } I ⟨al, startR N.length [.fn p.1], s0, so, start_ok (Reps.cons (by unfold Rep; rfl) Reps.nil), ?_⟩) (fun fl s' hs => ?_) fun e s' hs => hs
  · rw [hmb]
    exact fun v H' al' ex so' rp => af v H' al' ex so' rp
  have fin : ∀ {σ' : L2.St} {H' : Hp} {v : V} {u : Value}, Inv (cxH (L2N.CX P w) P w K mg base N x (defScope st) f cdv A outer s H E p) [] σ' H' s' → RelV v u → Q v H' → CE outer P w H s Q u s' :=
    fun {σ' H' v u} J rv q => ⟨v, H', J.os, J.bare, J.base, J.hok, rv, q⟩
  cases fl with
  | ret u =>
    obtain ⟨v, σ', H', J, rv, q⟩ := hs
    exact fin J rv q
  | next =>
    obtain ⟨σ', H', J, q⟩ := hs
    exact fin (v := V.non) (u := Value.none) J rfl q
  | brk =>
    obtain ⟨_, _, _, q⟩ := hs
    exact False.elim q
  | cont =>
    obtain ⟨_, _, _, q⟩ := hs
    exact False.elim q
/-- try: body, except .. as e: return flag(e) -/
def mTry (mb : MS) (tell : Str → Option Str) : MS := fun r s => match mb r s with
  | .ex c _ s1 => match tell c with
    | some t => .rt (.str t) s1
    | none => .bad
  | x => x
section
variable {X : Cx} {W : WX}
def tsFlag (X : Cx) (k i : Nat) (fl : Str) (a : Addr) (cls : Value) (d : Option Addr) : TS := fun D σ H => ∃ (C : Addr) (t : Str) (σ' : L2.St) (al : Led) (s0 : Sto), cls = .ref C ∧ d = none ∧ FlagOk X.prog X.w X.K X.mg X.base k fl C t ∧ σ = σ'.set i (some (.ref a)) ∧ H a = none ∧ StoOk X.K H al s0 ∧ Aft X.K (RD X.K) al H (.ok (.str t) s0) D.rt (fun _ _ => False)
theorem flag_suite {k i : Nat} {n fl : Str} {p1 p2 p3 p4 : Pos} {a : Addr} {oe : Obj} {cls : Value} {d : Option Addr} {pn : List (Addr × Obj)} (hz : L2N.Zn cls d oe) (hd : ∃ vs, oe.data = .fields vs) (hr : Room k X.A) (hi : X.N[i]? = some n) (hv : Vis X.env.scope n) (hg : Gl X fl)
    (hdn : (n == ("__debug__" : Str)) = false := by decide) (hcn : (n == ("__classdict__" : Str)) = false := by decide) (hdb : (fl == ("__debug__" : Str)) = false := by decide)
    (he : starEach [.Name n p2] X.env = (false, eval (.Name n p2) X.env) :: starEach [] X.env := by rfl) (hpl : (backTo p3 (starEach [] X.env)).any (·.1) = false := by rfl) :
    PSs (X.suite a ((a, oe) :: pn)) [.Return (some (.Call (.Name fl p1) [.Name n p2] [] p3)) p4] (tsFlag X k i fl a cls d) := by
  refine pss_w (pss_cons (ps_ret (te := fun σ H Q => ∃ (C : Addr) (t : Str) (σ' : L2.St) (al : Led) (s0 : Sto), cls = .ref C ∧ d = none ∧ FlagOk X.prog X.w X.K X.mg X.base k fl C t ∧ σ = σ'.set i (some (.ref a)) ∧ H a = none ∧ StoOk X.K H al s0 ∧ Aft X.K (RD X.K) al H (.ok (.str t) s0) Q (fun _ _ => False)) ?_) pss_nil) fun D σ H h => h
  refine ⟨fun pins s σ H Q I ⟨C, t, σ', al, s0, ec, ed, F, es, na, so, af⟩ => ?_⟩
  subst ec ed es
  obtain ⟨f, g, kp, run⟩ := F.ex
  have hlen : i < (σ'.set i (some (V.ref a))).length := by
    rw [I.len]
    exact (List.getElem?_eq_some_iff.mp hi).1
  have hσ : (σ'.set i (some (V.ref a)))[i]? = some (some (V.ref a)) := by
    rw [List.getElem?_set_self (by rw [List.length_set] at hlen; exact hlen)]
  refine wpAny_Call_Name_kw (ld_glob (X := X.suite a ((a, oe) :: pn)) I hg g ?_ hdb)
  have hv' : PE (X.suite a ((a, oe) :: pn)) (.Name n p2) _ := pe_var (X := X.suite a ((a, oe) :: pn)) hi hv hdn hcn
  refine PySem.W.callWith_K (h₀ := X.base) I.ok.mod.kin kp (thn ((pa_cons hv' pa_nil he).run p3 pins s _ H (fun vs H1 => vs = [.ref a] ∧ H1 = H) I ⟨.ref a, hσ, rfl, rfl⟩) fun us s1 ⟨vs, H1, I1, r, ev, eh⟩ => ⟨I1.kIn, ?_⟩) he hpl
  subst ev eh
  obtain ⟨vs1, hd1⟩ := hd
  have hot : Hot1 (X.suite a ((a, oe) :: pn)).A (a, oe) := ⟨rfl, vs1, hd1, hz.2.2 vs1 hd1⟩
  have P1 := I1.pin (a, oe) (List.mem_append_left _ List.mem_cons_self)
  have hpin : PinOk (X.suite a ((a, oe) :: pn)).stack H1 s1 (a, oe) := ⟨P1.1, P1.2.1, fun hm => (List.mem_cons.mp (I1.stkSub a hm)).elim P1.2.2.1 P1.2.2.2.1, P1.2.2.2.2⟩
  have hus : us = [Value.ref a] := by
    cases r with
    | cons r rr => cases rr; cases r; rfl
  subst hus
  refine wpAny_call (codeAny_mono (run _ (X.suite a ((a, oe) :: pn)).stack s1 H1 Q (fun _ _ _ => False) (a, oe) ⟨hr.dp, hr.un⟩ hot hpin hz I1.env0 ⟨al, s0, so, af⟩) fun r s' hq => ?_)
  cases r with
  | error e =>
    obtain ⟨_, _, _, _, _, _, _, _, _, _, _, _, z⟩ := hq
    exact z.elim
  | ok fl =>
    cases fl with
    | ret u => exact I1.after hq
    | next => exact False.elim hq
    | brk => exact False.elim hq
    | cont => exact False.elim hq
theorem ds_try {k i : Nat} {x n fl : Str} {C0 : Addr} {body : List Stmt} {mb : MS} {np p1 p2 p3 p4 pos' pos : Pos} (tell : Str → Option Str) (hs : X.stack = X.env :: X.outer) (hf : X.env.frame = some X.env.locals) (hN : X.N.Nodup) (hc : Names X x (.ref C0)) (tk : L2N.Takes X W) (hr : Room k X.A)
    (hb : ∀ (W' : WX) (pn : List (Addr × Obj)) (xe : Value → Shared → Prop), L2N.Takes (X.tr pn xe) W' → PassesOwn (model X.prog X.w) X.A X.env xe → DSs (X.tr pn xe) W' body mb)
    (hfl : ∀ c t, tell c = some t → ∀ cls, X.mg c = some cls → ∃ C, cls = .ref C ∧ PySem.W.exmOne X.K (.ref C) (.ref C0) = some true ∧ FlagOk X.prog X.w X.K X.mg X.base k fl C t)
    (hi : X.N[i]? = some n := by rfl) (hln : X.env.kindOf n = some .local := by rfl) (hv : Vis X.env.scope n := by exact Or.inl rfl) (hg : Gl X fl := by rfl)
    (hdn : (n == ("__debug__" : Str)) = false := by decide) (hcn : (n == ("__classdict__" : Str)) = false := by decide) (hdb : (fl == ("__debug__" : Str)) = false := by decide)
    (he : starEach [.Name n p2] X.env = (false, eval (.Name n p2) X.env) :: starEach [] X.env := by rfl) (hpl : (backTo p3 (starEach [] X.env)).any (·.1) = false := by rfl) :
    DS X W (.Try body [.ExceptHandler (some (.Name x np)) (some n) [.Return (some (.Call (.Name fl p1) [.Name n p2] [] p3)) p4] pos'] [] [] pos) (mTry mb tell) := by
  refine ps_w (L2N.ps_try_as (tb := fun W' => tDS X.K X.mg W' mb) (ts := tsFlag X k i fl) (Wout := W) hs hf hN hi hln hc tk hb (fun a oe cls d pn hz hd => flag_suite hz hd hr hi hv hg hdn hcn hdb he hpl)) fun D σ H ⟨al, r, s, so, eo, af⟩ => ⟨al, r, s, so, eo, ?_⟩
  unfold mTry at af
  cases hm : mb r s with
  | ex c r1 s1 =>
    rw [hm] at af
    dsimp only at af
    cases ht : tell c with
    | none => rw [ht] at af; exact af.elim
    | some t =>
      rw [ht] at af
      intro σ' H' al' ex so' eo' cls hcls
      obtain ⟨C, e1, e2, F⟩ := hfl c t ht cls hcls
      subst e1
      refine ⟨true, e2, fun _ a na => ⟨C, t, σ', al', s1, rfl, rfl, F, rfl, na, so', fun v H2 al2 ex2 so2 rp2 => af v H2 al2 (ex.trans so' ex2) so2 rp2⟩, fun z => nomatch z⟩
  | nx r1 s1 => rw [hm] at af; exact af
  | rt d s1 => rw [hm] at af; exact af
  | bk r1 s1 => rw [hm] at af; exact af
  | ct r1 s1 => rw [hm] at af; exact af
  | bad => rw [hm] at af; exact af.elim
end
end DL

set_option Elab.async false
set_option linter.all false
set_option maxRecDepth 100000
set_option maxHeartbeats 2000000
/-! DL13: short forms for printed proofs; the law's promise. -/
namespace DL
open PySem PySem.Spec PyProof.Rows L2
abbrev veB : List Value := [.type "ValueError", .type "Exception", .type "BaseException", .type "object"]
/-- an own class under ValueError, as the top has made it -/
structure ExcT (K : PySem.W.Frag) (mg : Str → Option Value) (x : Str) : Prop where
  ex : ∃ C : Addr, mg x = some (.ref C) ∧ PySem.W.excIn K C veB "ValueError.__new__" = true ∧ PySem.W.keepIn K (.ref C) = true ∧ PySem.W.subIn K (.ref C) (.type "BaseException") = some true ∧ PySem.W.typeIn K (.ref C) = some (.type "type")
section
variable {X : Cx} {W : WX} {e : Expr} {m : M1 D}
theorem ds_rz {x t : Str} {j : Nat} {p p2 pos pos2 : Pos} (hc : X.calm = true) (tk : L2N.Takes X W) (h : ExcT X.K X.mg x) (hg : Gl X x := by rfl) (hdb : (x == ("__debug__" : Str)) = false := by decide) :
    DS X W (.Raise (some (.Call (.Name x p) [.Constant (.str t) j p2] [] pos)) none pos2) (mRaise x) := by
  obtain ⟨C, h1, h2, h3, h4, h5⟩ := h.ex
  exact ds_raise hc tk PySem.F.excBase_ValueError h2 h1 h3 (raises_own h4 h5) hg hdb
theorem de_gI' {x : Str} {i : Int} {pos : Pos} (hm : ∃ t, X.mg x = some (.int i t)) (hg : Gl X x := by rfl) (hd : (x == ("__debug__" : Str)) = false := by decide) : DE X W (.Name x pos) (mC (.int i)) := by
  obtain ⟨t, hm⟩ := hm
  exact de_gI hm hg hd
theorem de_gS' {x : Str} {i : Str} {pos : Pos} (hm : ∃ t, X.mg x = some (.str i t)) (hg : Gl X x := by rfl) (hd : (x == ("__debug__" : Str)) = false := by decide) : DE X W (.Name x pos) (mC (.str i)) := by
  obtain ⟨t, hm⟩ := hm
  exact de_gS hm hg hd
theorem ok_Ii {K : PySem.W.Frag} {g : Int → Int → Int} : Op2Ok K (rI0 fun i j => .int (g i j)) (opI (fun _ _ => True) g) := by
  intro H al s x y dx dy Q so rx ry af
  unfold opI at af
  split at af
  · have := rep_int rx
    have := rep_int ry
    subst_vars
    rw [if_pos trivial] at af
    exact ⟨_, _, rfl, rfl, aft_int af so⟩
  · exact af.elim
/-! #### the augmented assignments of ints -/
theorem ds_augFdiv (i : Nat) {x : Str} {pos pos' : Pos} (hN : X.N.Nodup) (he : DE X W e m) (hi : X.N[i]? = some x := by rfl) (hx : Loc X.env.scope x := by first | exact Or.inl rfl | exact Or.inr rfl)
    (hff : X.fn x = true ∨ X.env.scope.names.lookup x = some .local := by first | exact .inl rfl | exact .inr rfl | assumption) : DS X W (.AugAssign (.Name x pos') .FloorDiv e pos) (mAug i opFdiv m) := ds_aug i hN iop_fdivG ok_I ne_I he hi hx hff
theorem ds_augMod (i : Nat) {x : Str} {pos pos' : Pos} (hN : X.N.Nodup) (he : DE X W e m) (hi : X.N[i]? = some x := by rfl) (hx : Loc X.env.scope x := by first | exact Or.inl rfl | exact Or.inr rfl)
    (hff : X.fn x = true ∨ X.env.scope.names.lookup x = some .local := by first | exact .inl rfl | exact .inr rfl | assumption) : DS X W (.AugAssign (.Name x pos') .Mod e pos) (mAug i opMod m) := ds_aug i hN iop_modG ok_I ne_I he hi hx hff
end
theorem kit_self {K : PySem.W.Frag} {C : Addr} : PySem.W.kitOne K (.ref C) (.ref C) = some true := by
  unfold PySem.W.kitOne
  rw [if_pos (by simp)]
theorem kit_other {K : PySem.W.Frag} {C C' : Addr} (h : ¬ C = C') (hd : PySem.W.hasDictIn K C' = true) (ht : PySem.W.typeIn K (.ref C') = some (.type "type")) (hs : PySem.W.subIn K (.ref C) (.ref C') = some false) : PySem.W.kitOne K (.ref C) (.ref C') = some false := by
  obtain ⟨cd, hc, _⟩ := PySem.W.any_some hd
  unfold PySem.W.kitOne PySem.W.kitCls
  rw [if_neg (by simp [h])]
  dsimp only
  rw [hc, ht, if_pos (by rfl)]
  exact hs
/-- a promise that nothing can be held to -/
theorem cal_bad {P : Program} {w : World} {K : PySem.W.Frag} {mg : Str → Option Value} {base : Heap} {x : Str} {st : Stmt} {k n : Nat} (S : Std K mg x st) : Cal P w K mg base x k n (fun _ _ => .bad) := by
  obtain ⟨f, fd, F, g⟩ := S.ex
  refine ⟨f, fun A outer s H us vs Q E hr e0 r h => ?_, g, F.kp⟩
  obtain ⟨_, _, _, _, _, _, af⟩ := h
  exact af.elim
/-! #### x == 'lit' and y.replace('c', '') == '' -/
section
variable {X : Cx} {W : WX} {o : Expr} {mo : M1 D} {a : Expr} {na : M1 D}
def mRepl (m : M1 D) (y z : Str) : M1 D := fun r s => (m r s).bind fun d s1 => match d with
  | .str x => if x.length + (x.length + 1) * z.length ≤ 16777216 then .ok (.str (Txt.replace x y z)) s1 else .bad
  | _ => .bad
/-- a == 'c' and o.replace(y, z) == t: the constant ahead is what gives a token -/
theorem de_eqRepl {y z t u : Str} {j k l n : Nat} {c0 c1 c2 c3 apos pos p1 p2 p3 : Pos} (hu : X.A.units + 64 < cLine) (ha : DE X W a na) (ho : DE X W o mo) (hyz : (y == z) = false := by decide)
    (hst : starEach [.Constant (.str y) j c0, .Constant (.str z) k c1] X.env = [(false, eval (.Constant (.str y) j c0) X.env), (false, eval (.Constant (.str z) k c1) X.env)] := by rfl)
    (hbase : attributeBase o "replace" X.env (eval o X.env) = eval o X.env := by rfl) (hline : (apos.endLine == pos.line) = true := by rfl) :
    DE X W (.BoolOp .And [.Compare a [.Eq] [.Constant (.str u) n c3] p1, .Compare (.Call (.Attribute o "replace" apos) [.Constant (.str y) j c0, .Constant (.str z) k c1] [] pos) [.Eq] [.Constant (.str t) l c2] p2] p3) (mAndV (mOp opEq na (mC (.str u))) (mOp opEq (mRepl mo y z) (mC (.str t)))) := by
  refine ⟨fun pins s σ H Q I ⟨al, r, s0, so, eo, af⟩ => ?_⟩
  have af0 : Aft X.K (RD X.K) al H ((na r s0).bind fun x s1 => (opEq x (.str u) s1).bind fun d s2 => match d with
      | .bl true => mOp opEq (mRepl mo y z) (mC (.str t)) r s2
      | .bl false => .ok (.bl false) s2
      | _ => .bad) Q (Er X.mg W σ) := by
    have e : mAndV (mOp opEq na (mC (.str u))) (mOp opEq (mRepl mo y z) (mC (.str t))) r s0 = ((na r s0).bind fun x s1 => (opEq x (.str u) s1).bind fun d s2 => match d with
      | .bl true => mOp opEq (mRepl mo y z) (mC (.str t)) r s2
      | .bl false => .ok (.bl false) s2
      | _ => .bad) := by
      unfold mAndV
      rw [show mOp opEq na (mC (.str u)) r s0 = (na r s0).bind fun x s1 => opEq x (.str u) s1 from rfl, Res.bind_assoc]
      all_goals rfl
    rw [e] at af
    exact af
  refine BoolOp_and ?_
  have h1 := ha.run pins s σ H (fun x H1 => ∃ al1 s1 dx, StoOk X.K H1 al1 s1 ∧ EnvOk X.K H1 al1 r σ ∧ Rep X.K H1 al1 dx x ∧ Aft X.K (RD X.K) al1 H1 ((opEq dx (.str u) s1).bind fun d s2 => match d with
      | .bl true => mOp opEq (mRepl mo y z) (mC (.str t)) r s2
      | .bl false => .ok (.bl false) s2
      | _ => .bad) Q (Er X.mg W σ)) I ⟨al, r, s0, so, eo, af0.bind fun x s1 v H1 al1 _ e1 so1 rp1 af1 => ⟨al1, s1, x, so1, eo.ext e1, rp1, af1⟩⟩
  refine wpAny_Compare1 (thn h1 fun v s1 ⟨x, H1, I1, r1, al1, t1, dx, so1, eo1, rp1, af1⟩ => ?_) (nomark _)
  refine Calls.Constant_str ?_
  have I2 : Inv X pins σ H1 { s1 with toks := s1.toks + 1 } := I1.tok _
  have q2 : rEqAll X.K x (.str u) H1 fun x H2 => ∃ b al2 s2, x = .bl b ∧ StoOk X.K H2 al2 s2 ∧ EnvOk X.K H2 al2 r σ ∧ Aft X.K (RD X.K) al2 H2 (match b with
      | true => mOp opEq (mRepl mo y z) (mC (.str t)) r s2
      | false => .ok (.bl false) s2) Q (Er X.mg W σ) := by
    refine ok_eq H1 al1 t1 x (.str u) dx (.str u) _ so1 rp1 rep_str' (Aft.noErr (ne_eq _ _ _) (af1.bind fun d s2 v2 H2 al2 _ e2 so2 rp2 af2 => ?_))
    cases d with
    | bl b =>
      refine ⟨b, al2, s2, rep_bl rp2, so2, eo1.ext e2, ?_⟩
      cases b <;> exact af2
    | _ => exact af2.elim
  refine wpAny_mono (PySem.wpAny_toks ((or_eq hu) pins _ σ H1 x (.str u) v (.str u s1.toks) _ I2 r1 ⟨s1.toks, rfl⟩ q2)) (fun v2 s2 q => ?_) fun _ _ z => z.2
  obtain ⟨hk, x2, H2, I3, r3, b, al2, t2, ex, so2, eo2, af2⟩ := q
  have hk1 : 1 ≤ s2.toks := by
    have hk : s1.toks + 1 ≤ s2.toks := hk
    omega
  subst ex
  cases r3
  refine wpAny_truthy_bool ?_
  cases b with
  | false => exact ⟨.bl false, H2, I3, rfl, aft_bl af2 so2⟩
  | true =>
    refine BoolOp_one (wpAny_Compare1 ?_ (nomark _))
    have af3 : Aft X.K (RD X.K) al2 H2 ((mo r t2).bind fun d s1 => (match d with
      | .str x => if x.length + (x.length + 1) * z.length ≤ 16777216 then .ok (.str (Txt.replace x y z)) s1 else .bad
      | _ => .bad : Res D).bind fun d s2 => opEq d (.str t) s2) Q (Er X.mg W σ) := by
      have e : mOp opEq (mRepl mo y z) (mC (.str t)) r t2 = ((mo r t2).bind fun d s1 => (match d with
      | .str x => if x.length + (x.length + 1) * z.length ≤ 16777216 then .ok (.str (Txt.replace x y z)) s1 else .bad
      | _ => .bad : Res D).bind fun d s2 => opEq d (.str t) s2) := by
        rw [show mOp opEq (mRepl mo y z) (mC (.str t)) r t2 = (mRepl mo y z r t2).bind fun d s2 => opEq d (.str t) s2 from rfl]
        unfold mRepl
        rw [Res.bind_assoc]
      have af2' : Aft X.K (RD X.K) al2 H2 (mOp opEq (mRepl mo y z) (mC (.str t)) r t2) Q (Er X.mg W σ) := af2
      rw [e] at af2'
      exact af2'
    have h2 := CwR.pet_replC (apos := apos) (pos := pos) (j := j) (k := k) (c0 := c0) (c1 := c1) ho hyz hst hbase hline pins s2 σ H2 (fun x H3 => ∃ al3 s3 z, x = .str z ∧ StoOk X.K H3 al3 s3 ∧ Aft X.K (RD X.K) al3 H3 (opEq (.str z) (.str t) s3) Q (Er X.mg W σ)) hk1 I3 ⟨al2, r, t2, so2, eo2, af3.bind fun d s3 v H3 al3 _ e3 so3 rp3 af4 => ?_⟩
    · refine thn h2 fun v s3 ⟨x, H3, I4, r4, al3, t3, z, ex, so3, af4⟩ => ?_
      refine Calls.Constant_str ?_
      subst ex
      exact (or_eq hu) pins _ σ H3 (.str z) (.str t) v (.str t s3.toks) _ (I4.tok _) r4 ⟨s3.toks, rfl⟩ (ok_eq H3 al3 t3 _ _ (.str z) (.str t) _ so3 rep_str' rep_str' (Aft.noErr (ne_eq _ _ _) af4))
    · cases d with
      | str w =>
        have := rep_str rp3
        subst this
        dsimp only at af4
        split at af4
        · rename_i hz
          exact ⟨w, rfl, hz, al3, s3, _, rfl, so3, af4⟩
        · exact af4.elim
      | _ => exact af4.elim
end
end DL

set_option Elab.async false
set_option linter.all false
set_option maxRecDepth 100000
set_option maxHeartbeats 2000000
/-! DL14: how mirrors are read: operators at data of known kind. -/
namespace DL
open PySem PySem.Spec PyProof.Rows L2
section
variable {i j : Int} {s : Sto} {a b : Str} {p q : Bool} {d e : D} {ds : List D}
theorem r_add : opAdd (.int i) (.int j) s = .ok (.int (i + j)) s := rfl
theorem r_addS (h : a.length + b.length ≤ sizeLine) : opAdd (.str a) (.str b) s = .ok (.str (a ++ b)) s := by
  show (if _ then _ else _) = _
  rw [if_pos h]
theorem r_sub : opSub (.int i) (.int j) s = .ok (.int (i - j)) s := rfl
theorem r_mul (h : CMulX i j) : opMul (.int i) (.int j) s = .ok (.int (i * j)) s := by
  show (if _ then _ else _) = _
  rw [if_pos h]
theorem r_mulS (h1 : -(2 ^ 63) ≤ j) (h2 : j < 2 ^ 63) (h3 : a.length * j.toNat ≤ sizeLine) : opMul (.str a) (.int j) s = .ok (.str (strRep a j)) s := by
  show (if _ then _ else _) = _
  rw [if_pos ⟨h1, h2, h3⟩]
theorem r_mulL (h1 : -(2 ^ 63) ≤ j) (h2 : j < 2 ^ 63) (h3 : ds.length * j.toNat ≤ sizeLine) : opMul (.lst ds) (.int j) s = .ok (.lst (lstRep ds j)) s := by
  show (if _ then _ else _) = _
  rw [if_pos ⟨h1, h2, h3⟩]
theorem r_fdiv (h : CDivG i j) : opFdiv (.int i) (.int j) s = .ok (.int (i.fdiv j)) s := by
  show (if _ then _ else _) = _
  rw [if_pos h]
theorem r_mod (h : j ≠ 0) : opMod (.int i) (.int j) s = .ok (.int (i.fmod j)) s := by
  show (if _ then _ else _) = _
  rw [if_pos h]
theorem r_pow (h : CPowX i j) : opPow (.int i) (.int j) s = .ok (.int (i ^ j.toNat)) s := by
  show (if _ then _ else _) = _
  rw [if_pos h]
theorem r_shl (h : CShl i j) : opShl (.int i) (.int j) s = .ok (.int (i * 2 ^ j.toNat)) s := by
  show (if _ then _ else _) = _
  rw [if_pos h]
theorem r_lt : opLt (.int i) (.int j) s = .ok (.bl (decide (i < j))) s := rfl
theorem r_le : opLe (.int i) (.int j) s = .ok (.bl (decide (i ≤ j))) s := rfl
theorem r_gt : opGt (.int i) (.int j) s = .ok (.bl (decide (j < i))) s := rfl
theorem r_ge : opGe (.int i) (.int j) s = .ok (.bl (decide (j ≤ i))) s := rfl
theorem r_eq : opEq (.int i) (.int j) s = .ok (.bl (i == j)) s := rfl
theorem r_ne : opNe (.int i) (.int j) s = .ok (.bl (!(i == j))) s := rfl
theorem r_eqB : opEq (.bl p) (.bl q) s = .ok (.bl (p == q)) s := rfl
theorem r_neB : opNe (.bl p) (.bl q) s = .ok (.bl (!(p == q))) s := rfl
theorem r_eqS : opEq (.str a) (.str b) s = .ok (.bl (a == b)) s := rfl
theorem r_neS : opNe (.str a) (.str b) s = .ok (.bl (!(a == b))) s := rfl
theorem r_ix0 : opIx (.tup (d :: ds)) (.int 0) s = .ok d s := by
  show (match atI (d :: ds) 0 with | some d => Res.ok d s | none => .bad) = _
  rw [show atI (d :: ds) 0 = some d from atI_nat (j := 0) rfl]
theorem r_ix1 : opIx (.tup (e :: d :: ds)) (.int 1) s = .ok d s := by
  show (match atI (e :: d :: ds) 1 with | some d => Res.ok d s | none => .bad) = _
  rw [show atI (e :: d :: ds) 1 = some d from atI_nat (j := 1) rfl]
/-! small ints: whatever of them is asked is in reach -/
theorem bits_le {n : Nat} (h : i.natAbs < 2 ^ n) : Builtin.Int.intBits i ≤ n := PyProof.Rows.intBits_le h
theorem cmul {n m : Nat} (hi : i.natAbs < 2 ^ n) (hj : j.natAbs < 2 ^ m) (h : n + m ≤ 134217728) : CMulX i j := by
  have h1 := bits_le hi
  have h2 := bits_le hj
  show (Builtin.Int.intBits i : Int) + (Builtin.Int.intBits j : Int) ≤ 134217728
  omega
theorem cdiv (h0 : j ≠ 0) (hj : j.natAbs < 2 ^ 8000) : CDivG i j := by
  refine ⟨h0, ?_⟩
  unfold Builtin.divisionGoesByPylong
  have h1 : j.natAbs.log2 < 8000 := (Nat.log2_lt (by omega)).mpr hj
  have h2 : ¬ (if (j == 0) = true then 0 else j.natAbs.log2 / 30 + 1) > 300 := by
    split <;> omega
  simp only [h2, decide_false, Bool.false_and]
theorem cshl {n k : Nat} (hi : i.natAbs < 2 ^ n) (h : n + k ≤ 134217728) : CShl i (k : Int) := L2.shl_ok hi h
end
/-! #### statements and expressions as equations (to be used by simp only) -/
theorem q_seq {n1 n2 : MS} {r : Ren} {s : Sto} : mSeq n1 n2 r s = (n1 r s).seq n2 := rfl
theorem q_asg {m : M1 D} {g : MG} {r : Ren} {s : Sto} : mAsg m g r s = (m r s).st r fun d s1 => match g d r with
  | some r' => .nx r' s1
  | none => .bad := rfl
theorem q_gN {i : Nat} {d : D} {r : Ren} : gN i d r = some (r.set i (some d)) := rfl
theorem q_var {i : Nat} {r : Ren} {s : Sto} {d : D} (h : r[i]? = some (some d)) : mVar i r s = .ok d s := by unfold mVar; rw [h]
theorem q_c {d : D} {r : Ren} {s : Sto} : mC d r s = .ok d s := rfl
theorem q_op {f : Op2} {a b : M1 D} {r : Ren} {s : Sto} : mOp f a b r s = (a r s).bind fun x s1 => (b r s1).bind fun y s2 => f x y s2 := rfl
theorem q_call {m : MF} {ms : M1 (List D)} {r : Ren} {s : Sto} : mCall m ms r s = (ms r s).bind fun ds s1 => m ds s1 := rfl
theorem q_cons {m : M1 D} {ms : M1 (List D)} {r : Ren} {s : Sto} : mCons m ms r s = (m r s).bind fun d s1 => (ms r s1).bind fun ds s2 => .ok (d :: ds) s2 := rfl
theorem q_nil {r : Ren} {s : Sto} : mNil r s = .ok [] s := rfl
theorem q_ret {m : M1 D} {r : Ren} {s : Sto} : mRet m r s = (m r s).st r fun d s1 => .rt d s1 := rfl
theorem q_if {t : M1 Bool} {n1 n2 : MS} {r : Ren} {s : Sto} : mIfS t n1 n2 r s = (t r s).st r fun b s1 => if b then n1 r s1 else n2 r s1 := rfl
theorem q_ifE {α : Type} {t : M1 Bool} {a b : M1 α} {r : Ren} {s : Sto} : mIf t a b r s = (t r s).bind fun x s1 => if x then a r s1 else b r s1 := rfl
theorem q_B {m : M1 D} {r : Ren} {s s' : Sto} {b : Bool} (h : m r s = .ok (.bl b) s') : mB m r s = .ok b s' := by unfold mB; rw [h]; rfl
theorem q_tup {ms : M1 (List D)} {r : Ren} {s s' : Sto} {ds : List D} (h : ms r s = .ok ds s') (hl : ds.length ≤ sizeLine) : mTup ms r s = .ok (.tup ds) s' := by
  unfold mTup
  rw [h, Res.bind_ok, if_pos hl]
theorem q_neg {m : M1 D} {r : Ren} {s s' : Sto} {i : Int} (h : m r s = .ok (.int i) s') : mNeg m r s = .ok (.int (-i)) s' := by unfold mNeg; rw [h]; rfl
/-- what is read in one go -/
theorem run_rt {n : Nat} {b : MS} {ds : List D} {s s' : Sto} {d : D} (h : b (startR n ds) s = .rt d s') (hl : s'.length = s.length) (hf : d.nm = true) : mFun n b ds s = .ok d s' := by
  unfold mFun
  rw [h]
  dsimp only
  rw [frz_nm hf]
  dsimp only
  rw [List.take_of_length_le (by omega)]
theorem run_ex {n : Nat} {b : MS} {ds : List D} {s s' : Sto} {c : Str} {r : Ren} (h : b (startR n ds) s = .ex c r s') (hl : s'.length = s.length) : mFun n b ds s = .err c s' := by
  unfold mFun
  rw [h]
  dsimp only
  rw [List.take_of_length_le (by omega)]
theorem run_nx {n : Nat} {b : MS} {ds : List D} {s s' : Sto} {r : Ren} (h : b (startR n ds) s = .nx r s') (hl : s'.length = s.length) : mFun n b ds s = .ok .non s' := by
  unfold mFun
  rw [h]
  dsimp only
  rw [List.take_of_length_le (by omega)]
theorem small_lt {n : Nat} (h : n < 100) : n < sizeLine := Nat.lt_of_lt_of_le h (by decide)
/-! #### comprehensions, item by item -/
theorem lcL_nil {i : Nat} {elt : M1 D} {r0 : Ren} {s : Sto} {all acc : List D} : lcL none all (gN i) mYes elt r0 [] s acc = .ok acc s := by
  unfold lcL
  rw [okk_none, if_pos rfl]
theorem lcL_step {i : Nat} {elt : M1 D} {r0 : Ren} {s : Sto} {all acc : List D} {d y : D} {ds : List D} (h : elt (r0.set i (some d)) s = .ok y s) (hl : acc.length < sizeLine) : lcL none all (gN i) mYes elt r0 (d :: ds) s acc = lcL none all (gN i) mYes elt r0 ds s (acc ++ [y]) := by
  rw [lcL, okk_none, if_pos rfl]
  show ((sure (mYes (r0.set i (some d)) s)).bind _) = _
  rw [show sure (mYes (r0.set i (some d)) s) = .ok true s from rfl, Res.bind_ok, if_pos rfl, h, sure_ok, Res.bind_ok, if_pos hl]
theorem mLc_of {i : Nat} {it : MI} {elt : M1 D} {r : Ren} {s : Sto} {ds out : List D} (hi : it r s = .ok (ds, none) s) (h : lcL none ds (gN i) mYes elt (r.set i none) ds s [] = .ok out s) : mLc it [i] (gN i) mYes elt r s = .ok (.lst out) s := by
  unfold mLc
  rw [hi, Res.bind_ok]
  dsimp only
  rw [show wipeR r [i] = r.set i none from rfl, h]
  rfl
end DL

set_option Elab.async false
set_option linter.all false
set_option maxRecDepth 100000
set_option maxHeartbeats 2000000
/-! k00: the walk: def by def, what it computes. -/
namespace K00
open PySem PySem.Spec PyProof.Rows L2 DL HotX L2H
def top (i : Nat) : Stmt := PySem.Challenge.pw_withinwidth_k00_whole_ratios.main.body.getD i (.Pass ⟨0, 0, 0, 0⟩)
abbrev s_is_integer : Stmt := top 8
abbrev s_is_within : Stmt := top 9
abbrev s_check : Stmt := top 10
abbrev s_figures_of : Stmt := top 14
abbrev s_shared : Stmt := top 19
abbrev s_made : Stmt := top 20
abbrev s_is_ratio : Stmt := top 21
abbrev s_ratio : Stmt := top 22
abbrev s_check_ratios : Stmt := top 23
abbrev s_add : Stmt := top 24
abbrev s_less : Stmt := top 25
abbrev s_product : Stmt := top 26
abbrev s_share : Stmt := top 27
abbrev s_is_below : Stmt := top 28
abbrev s_plus : Stmt := top 29
abbrev s_minus : Stmt := top 30
abbrev s_times : Stmt := top 31
abbrev s_over : Stmt := top 32
abbrev s_raised : Stmt := top 33
abbrev s_power_by : Stmt := top 34
abbrev s_power : Stmt := top 35
abbrev s_compare : Stmt := top 36
abbrev s_floor_of : Stmt := top 37
abbrev s_ceiling_of : Stmt := top 38
abbrev s_of_bits : Stmt := top 39
abbrev s_down_by : Stmt := top 40
abbrev s_up_by : Stmt := top 41
abbrev s_down_to : Stmt := top 42
abbrev s_up_to : Stmt := top 43
abbrev s_halved : Stmt := top 44
abbrev s_shown_ratio : Stmt := top 45
abbrev s_decimal_by : Stmt := top 46
abbrev s_decimal_of : Stmt := top 47
abbrev s_root_under : Stmt := top 48
abbrev s_least_square : Stmt := top 49
abbrev s__law_draws : Stmt := top 51
abbrev s__law_same : Stmt := top 52
abbrev s__law_take : Stmt := top 53
abbrev s__law_pick : Stmt := top 54
abbrev s__law_flag : Stmt := top 55
abbrev s__law_r : Stmt := top 56
abbrev s__law_add : Stmt := top 57
abbrev s__law_sub : Stmt := top 58
abbrev s__law_mul : Stmt := top 59
abbrev s__law_less : Stmt := top 60
abbrev s__law_twos : Stmt := top 61
abbrev s__law_any : Stmt := top 62
abbrev s__law_power : Stmt := top 63
abbrev s__law_told : Stmt := top 64
abbrev s__law_decimal : Stmt := top 65
abbrev s_law : Stmt := top 66
/-- what the walk asks of the module as the top has made it -/
structure Txt (K : PySem.W.Frag) (mg : Str → Option Value) (C : Nat → Addr) : Prop where
  n_sum : mg "sum" = none
  n_abs : mg "abs" = none
  n_all : mg "all" = none
  n_bool : mg "bool" = none
  n_dict : mg "dict" = none
  n_int : mg "int" = none
  n_isinstance : mg "isinstance" = none
  n_len : mg "len" = none
  n_list : mg "list" = none
  n_max : mg "max" = none
  n_range : mg "range" = none
  n_reversed : mg "reversed" = none
  n_str : mg "str" = none
  n_tuple : mg "tuple" = none
  g_LONG_FIGURES : ∃ t, mg "LONG_FIGURES" = some (.int 18 t)
  g_LONG : ∃ t, mg "LONG" = some (.int 1000000000000000000 t)
  g_MOST_BITS : ∃ t, mg "MOST_BITS" = some (.int 20000 t)
  g_MOST_POWER : ∃ t, mg "MOST_POWER" = some (.int 400 t)
  g_MOST_FIGURES : ∃ t, mg "MOST_FIGURES" = some (.int 400 t)
  s_is_integer : Std K mg "is_integer" s_is_integer
  s_is_within : Std K mg "is_within" s_is_within
  s_check : Std K mg "check" s_check
  s_figures_of : Std K mg "figures_of" s_figures_of
  s_shared : Std K mg "shared" s_shared
  s_made : Std K mg "made" s_made
  s_is_ratio : Std K mg "is_ratio" s_is_ratio
  s_ratio : Std K mg "ratio" s_ratio
  s_check_ratios : Std K mg "check_ratios" s_check_ratios
  s_add : Std K mg "add" s_add
  s_less : Std K mg "less" s_less
  s_product : Std K mg "product" s_product
  s_share : Std K mg "share" s_share
  s_is_below : Std K mg "is_below" s_is_below
  s_plus : Std K mg "plus" s_plus
  s_minus : Std K mg "minus" s_minus
  s_times : Std K mg "times" s_times
  s_over : Std K mg "over" s_over
  s_raised : Std K mg "raised" s_raised
  s_power_by : Std K mg "power_by" s_power_by
  s_power : Std K mg "power" s_power
  s_compare : Std K mg "compare" s_compare
  s_floor_of : Std K mg "floor_of" s_floor_of
  s_ceiling_of : Std K mg "ceiling_of" s_ceiling_of
  s_of_bits : Std K mg "of_bits" s_of_bits
  s_down_by : Std K mg "down_by" s_down_by
  s_up_by : Std K mg "up_by" s_up_by
  s_down_to : Std K mg "down_to" s_down_to
  s_up_to : Std K mg "up_to" s_up_to
  s_halved : Std K mg "halved" s_halved
  s_shown_ratio : Std K mg "shown_ratio" s_shown_ratio
  s_decimal_by : Std K mg "decimal_by" s_decimal_by
  s_decimal_of : Std K mg "decimal_of" s_decimal_of
  s_root_under : Std K mg "root_under" s_root_under
  s_least_square : Std K mg "least_square" s_least_square
  s__law_draws : Std K mg "_law_draws" s__law_draws
  s__law_same : Std K mg "_law_same" s__law_same
  s__law_take : Std K mg "_law_take" s__law_take
  s__law_pick : Std K mg "_law_pick" s__law_pick
  s__law_flag : Std K mg "_law_flag" s__law_flag
  s__law_r : Std K mg "_law_r" s__law_r
  s__law_add : Std K mg "_law_add" s__law_add
  s__law_sub : Std K mg "_law_sub" s__law_sub
  s__law_mul : Std K mg "_law_mul" s__law_mul
  s__law_less : Std K mg "_law_less" s__law_less
  s__law_twos : Std K mg "_law_twos" s__law_twos
  s__law_any : Std K mg "_law_any" s__law_any
  s__law_power : Std K mg "_law_power" s__law_power
  s__law_told : Std K mg "_law_told" s__law_told
  s__law_decimal : Std K mg "_law_decimal" s__law_decimal
  s_law : Std K mg "law" s_law
  m0 : mg "WidthError" = some (.ref (C 0))
  m1 : mg "NotRight" = some (.ref (C 1))
  m2 : mg "NotThere" = some (.ref (C 2))
  m3 : mg "NoAnswer" = some (.ref (C 3))
  m4 : mg "Undefined" = some (.ref (C 4))
  m5 : mg "Unclear" = some (.ref (C 5))
  m6 : mg "TooHard" = some (.ref (C 6))
  e_NotRight : ExcT K mg "NotRight"
  x1 : ExcC K (C 1)
  t1 : PySem.W.exmOne K (.ref (C 1)) (.ref (C 0)) = some true
  k11 : PySem.W.kitOne K (.ref (C 1)) (.ref (C 1)) = some true
  k12 : PySem.W.kitOne K (.ref (C 1)) (.ref (C 2)) = some false
  k13 : PySem.W.kitOne K (.ref (C 1)) (.ref (C 3)) = some false
  k14 : PySem.W.kitOne K (.ref (C 1)) (.ref (C 4)) = some false
  k15 : PySem.W.kitOne K (.ref (C 1)) (.ref (C 5)) = some false
  k16 : PySem.W.kitOne K (.ref (C 1)) (.ref (C 6)) = some false
  e_NoAnswer : ExcT K mg "NoAnswer"
  x3 : ExcC K (C 3)
  t3 : PySem.W.exmOne K (.ref (C 3)) (.ref (C 0)) = some true
  k31 : PySem.W.kitOne K (.ref (C 3)) (.ref (C 1)) = some false
  k32 : PySem.W.kitOne K (.ref (C 3)) (.ref (C 2)) = some false
  k33 : PySem.W.kitOne K (.ref (C 3)) (.ref (C 3)) = some true
  k34 : PySem.W.kitOne K (.ref (C 3)) (.ref (C 4)) = some false
  k35 : PySem.W.kitOne K (.ref (C 3)) (.ref (C 5)) = some false
  k36 : PySem.W.kitOne K (.ref (C 3)) (.ref (C 6)) = some false
section
variable {P : Program} {w : World} {K : PySem.W.Frag} {mg : Str → Option Value} {base : Heap} {C : Nat → Addr}
theorem Txt.nmW (T : Txt K mg C) {X : Cx} (hK : X.mg = mg := by rfl) (hg : Gl X "WidthError" := by rfl) : Names X "WidthError" (.ref (C 0)) := ⟨hg, by decide, .inl (by rw [hK]; exact T.m0)⟩
/-! #### is_integer -/
theorem sc_is_integer : FnScope ["value"] ["value"] (defScope s_is_integer) := ⟨rfl, rfl, rfl, by decide +kernel, rfl, by decide +kernel, by decide +kernel⟩
noncomputable def mb_is_integer : MS := (mRet (mAndV (mIsi .int (mVar 0)) (mNotV (mIsi .bl (mVar 0)))))
noncomputable def m_is_integer : MF := mFun 1 mb_is_integer
theorem c_is_integer (T : Txt K mg C) : Cal P w K mg base "is_integer" 1 1 m_is_integer :=
  cal_of (N := ["value"]) (ps := ["value"]) (st := s_is_integer) (mb := mb_is_integer) (T.s_is_integer.to (ps := ["value"]) fun _ _ _ _ _ _ us hl => match us, hl with | [_], _ => rfl) sc_is_integer (fun f cdv A outer s H E hr => (dss_one (ds_ret (de_and (de_isi .int (by decide +kernel) (by decide) T.n_isinstance T.n_int (de_v 0)) (de_one (de_not (de_isi .bl (by decide +kernel) (by decide) T.n_isinstance T.n_bool (de_v 0))))))))
/-! #### is_within -/
theorem sc_is_within : FnScope ["value", "low", "high"] ["value", "low", "high"] (defScope s_is_within) := ⟨rfl, rfl, rfl, by decide +kernel, rfl, by decide +kernel, by decide +kernel⟩
noncomputable def mb_is_within : MS := (mRet (mAndV (mCall m_is_integer (mCons (mVar 0) mNil)) (mChain opLe opLe (mVar 1) (mVar 0) (mVar 2))))
noncomputable def m_is_within : MF := mFun 3 mb_is_within
theorem c_is_within (T : Txt K mg C) : Cal P w K mg base "is_within" 2 3 m_is_within :=
  cal_of (N := ["value", "low", "high"]) (ps := ["value", "low", "high"]) (st := s_is_within) (mb := mb_is_within) (T.s_is_within.to (ps := ["value", "low", "high"]) fun _ _ _ _ _ _ us hl => match us, hl with | [_, _, _], _ => rfl) sc_is_within (fun f cdv A outer s H E hr => (dss_one (ds_ret (de_and (de_call ((c_is_integer T).mono (by decide)) hr (L2N.takes_of rfl rfl rfl rfl) (da_cons (de_v 0) da_nil) (len_cons (fun _ _ _ _ => len_nil))) (de_one (de_chain op_le op_le ok_B ok_B ne_B ne_B (de_v 1) (de_v 0) (de_v 2)))))))
/-! #### check -/
theorem sc_check : FnScope ["is_right"] ["is_right"] (defScope s_check) := ⟨rfl, rfl, rfl, by decide +kernel, rfl, by decide +kernel, by decide +kernel⟩
noncomputable def mb_check : MS := (mIfS (mNot (mB (mVar 0))) (mRaise "NotRight") mNext)
noncomputable def m_check : MF := mFun 1 mb_check
theorem c_check (T : Txt K mg C) : Cal P w K mg base "check" 1 1 m_check :=
  cal_of (N := ["is_right"]) (ps := ["is_right"]) (st := s_check) (mb := mb_check) (T.s_check.to (ps := ["is_right"]) fun _ _ _ _ _ _ us hl => match us, hl with | [_], _ => rfl) sc_check (fun f cdv A outer s H E hr => (dss_one (ds_if (dt_not (dt_val (de_v 0))) (dss_one (ds_rz rfl (L2N.takes_of rfl rfl rfl rfl) T.e_NotRight)) dss_nil)))
/-! #### figures_of -/
theorem sc_figures_of : FnScope ["number", "found", "left", "part"] ["number"] (defScope s_figures_of) := ⟨rfl, rfl, rfl, by decide +kernel, rfl, by decide +kernel, by decide +kernel⟩
noncomputable def mb_figures_of : MS := (mSeq (mPar 1 2 (mCons (mLstM mNil) (mCons (mAbs (mVar 0)) mNil)))
  (mSeq (mWhile (mB (mOp opGe (mVar 2) (mC (.int 1000000000000000000)))) (mSeq (mAsg (mStr (mOp opMod (mVar 2) (mC (.int 1000000000000000000)))) (gN 3))
  (mSeq (mExpr (mApp (mVar 1) (mOp opAdd (mOp opMul (mC (.str "0")) (mOp opSub (mC (.int 18)) (mLen (mVar 3)))) (mVar 3))))
  (mAug 2 opFdiv (mC (.int 1000000000000000000))))))
  (mRet (mOp opAdd (mOp opAdd (mOp opMul (mC (.str "-")) (mInt (mOp opLt (mVar 0) (mC (.int 0))))) (mStr (mVar 2))) (mJoin (mC (.str "")) (mRev (mVar 1)))))))
noncomputable def m_figures_of : MF := mFun 4 mb_figures_of
theorem c_figures_of (T : Txt K mg C) : Cal P w K mg base "figures_of" 1 1 m_figures_of :=
  cal_of (N := ["number", "found", "left", "part"]) (ps := ["number"]) (st := s_figures_of) (mb := mb_figures_of) (T.s_figures_of.to (ps := ["number"]) fun _ _ _ _ _ _ us hl => match us, hl with | [_], _ => rfl) sc_figures_of (fun f cdv A outer s H E hr => (dss_cons (ds_par 1 2 rfl sc_figures_of.nd (da_cons (de_lstM da_nil) (da_cons (de_abs T.n_abs (de_v 0)) da_nil)))
  (dss_cons (ds_while (passes_of rfl) (dt_ge (de_v 2) (de_gI' T.g_LONG)) (dss_cons (ds_set 3 sc_figures_of.nd (de_toStr T.n_str (de_mod (de_v 2) (de_gI' T.g_LONG))))
  (dss_cons (ds_expr (de_app (de_v 1) (de_add (de_mul de_str (de_sub (de_gI' T.g_LONG_FIGURES) (de_len T.n_len (de_v 3)))) (de_v 3))))
  (dss_one (ds_augFdiv 2 sc_figures_of.nd (de_gI' T.g_LONG))))))
  (dss_one (ds_ret (de_add (de_add (de_mul de_str (de_toInt T.n_int (de_lt (de_v 0) de_int))) (de_toStr T.n_str (de_v 2))) (de_join de_str (de_rev (de_v 1)))))))))
/-! #### shared -/
theorem sc_shared : FnScope ["a", "b"] ["a", "b"] (defScope s_shared) := ⟨rfl, rfl, rfl, by decide +kernel, rfl, by decide +kernel, by decide +kernel⟩
noncomputable def mb_shared : MS := (mSeq (mWhile (mB (mOp opGt (mVar 1) (mC (.int 0)))) (mPar 0 1 (mCons (mVar 1) (mCons (mOp opMod (mVar 0) (mVar 1)) mNil))))
  (mRet (mVar 0)))
noncomputable def m_shared : MF := mFun 2 mb_shared
theorem c_shared (T : Txt K mg C) : Cal P w K mg base "shared" 1 2 m_shared :=
  cal_of (N := ["a", "b"]) (ps := ["a", "b"]) (st := s_shared) (mb := mb_shared) (T.s_shared.to (ps := ["a", "b"]) fun _ _ _ _ _ _ us hl => match us, hl with | [_, _], _ => rfl) sc_shared (fun f cdv A outer s H E hr => (dss_cons (ds_while (passes_of rfl) (dt_gt (de_v 1) de_int) (dss_one (ds_par 0 1 rfl sc_shared.nd (da_cons (de_v 1) (da_cons (de_mod (de_v 0) (de_v 1)) da_nil)))))
  (dss_one (ds_ret (de_v 0)))))
/-! #### made -/
theorem sc_made : FnScope ["n", "d", "divisor", "sign"] ["n", "d"] (defScope s_made) := ⟨rfl, rfl, rfl, by decide +kernel, rfl, by decide +kernel, by decide +kernel⟩
noncomputable def mb_made : MS := (mSeq (mAsg (mCall m_shared (mCons (mAbs (mVar 0)) (mCons (mAbs (mVar 1)) mNil))) (gN 2))
  (mSeq (mAsg (mIf (mB (mOp opGt (mVar 1) (mC (.int 0)))) (mC (.int 1)) (mNeg (mC (.int 1)))) (gN 3))
  (mRet (mTup (mCons (mOp opFdiv (mOp opMul (mVar 3) (mVar 0)) (mVar 2)) (mCons (mOp opFdiv (mOp opMul (mVar 3) (mVar 1)) (mVar 2)) mNil))))))
noncomputable def m_made : MF := mFun 4 mb_made
theorem c_made (T : Txt K mg C) : Cal P w K mg base "made" 2 2 m_made :=
  cal_of (N := ["n", "d", "divisor", "sign"]) (ps := ["n", "d"]) (st := s_made) (mb := mb_made) (T.s_made.to (ps := ["n", "d"]) fun _ _ _ _ _ _ us hl => match us, hl with | [_, _], _ => rfl) sc_made (fun f cdv A outer s H E hr => (dss_cons (ds_set 2 sc_made.nd (de_call ((c_shared T).mono (by decide)) hr (L2N.takes_of rfl rfl rfl rfl) (da_cons (de_abs T.n_abs (de_v 0)) (da_cons (de_abs T.n_abs (de_v 1)) da_nil)) (len_cons (len_cons (fun _ _ _ _ => len_nil)))))
  (dss_cons (ds_set 3 sc_made.nd (de_if (dt_gt (de_v 1) de_int) de_int (de_neg de_int)))
  (dss_one (ds_ret (de_tup (da_cons (de_fdiv (de_mul (de_v 3) (de_v 0)) (de_v 2)) (da_cons (de_fdiv (de_mul (de_v 3) (de_v 1)) (de_v 2)) da_nil))))))))
/-! #### is_ratio -/
theorem sc_is_ratio : FnScope ["value"] ["value"] (defScope s_is_ratio) := ⟨rfl, rfl, rfl, by decide +kernel, rfl, by decide +kernel, by decide +kernel⟩
noncomputable def mb_is_ratio : MS := (mSeq (mIfS (mOr (mNot (mB (mIsi .tup (mVar 0)))) (mOr (mB (mOp opNe (mLen (mVar 0)) (mC (.int 2)))) (mOr (mNot (mB (mCall m_is_integer (mCons (mOp opIx (mVar 0) (mC (.int 0))) mNil)))) (mNot (mB (mCall m_is_integer (mCons (mOp opIx (mVar 0) (mC (.int 1))) mNil))))))) (mRet (mC (.bl false))) mNext)
  (mRet (mAndV (mOp opGt (mOp opIx (mVar 0) (mC (.int 1))) (mC (.int 0))) (mOp opEq (mCall m_shared (mCons (mAbs (mOp opIx (mVar 0) (mC (.int 0)))) (mCons (mOp opIx (mVar 0) (mC (.int 1))) mNil))) (mC (.int 1))))))
noncomputable def m_is_ratio : MF := mFun 1 mb_is_ratio
theorem c_is_ratio (T : Txt K mg C) : Cal P w K mg base "is_ratio" 2 1 m_is_ratio :=
  cal_of (N := ["value"]) (ps := ["value"]) (st := s_is_ratio) (mb := mb_is_ratio) (T.s_is_ratio.to (ps := ["value"]) fun _ _ _ _ _ _ us hl => match us, hl with | [_], _ => rfl) sc_is_ratio (fun f cdv A outer s H E hr => (dss_cons (ds_if (dt_w (dw_or (dt_not (dt_val (de_isi .tup (by decide +kernel) (by decide) T.n_isinstance T.n_tuple (de_v 0)))) (dw_or (dt_ne hr.units (de_len T.n_len (de_v 0)) de_int) (dw_or (dt_not (dt_val (de_call ((c_is_integer T).mono (by decide)) hr (L2N.takes_of rfl rfl rfl rfl) (da_cons (de_ix (de_v 0) de_int) da_nil) (len_cons (fun _ _ _ _ => len_nil))))) (dw_or1 (dt_not (dt_val (de_call ((c_is_integer T).mono (by decide)) hr (L2N.takes_of rfl rfl rfl rfl) (da_cons (de_ix (de_v 0) de_int) da_nil) (len_cons (fun _ _ _ _ => len_nil)))))))))) (dss_one (ds_ret de_bl)) dss_nil)
  (dss_one (ds_ret (de_and (de_gt (de_ix (de_v 0) de_int) de_int) (de_one (de_eq hr.units (de_call ((c_shared T).mono (by decide)) hr (L2N.takes_of rfl rfl rfl rfl) (da_cons (de_abs T.n_abs (de_ix (de_v 0) de_int)) (da_cons (de_ix (de_v 0) de_int) da_nil)) (len_cons (len_cons (fun _ _ _ _ => len_nil)))) de_int)))))))
/-! #### ratio -/
theorem sc_ratio : FnScope ["n", "d"] ["n", "d"] (defScope s_ratio) := ⟨rfl, rfl, rfl, by decide +kernel, rfl, by decide +kernel, by decide +kernel⟩
noncomputable def mb_ratio : MS := (mSeq (mExpr (mCall m_check (mCons (mAndV (mCall m_is_integer (mCons (mVar 0) mNil)) (mAndV (mCall m_is_integer (mCons (mVar 1) mNil)) (mOp opNe (mVar 1) (mC (.int 0))))) mNil)))
  (mRet (mCall m_made (mCons (mVar 0) (mCons (mVar 1) mNil)))))
noncomputable def m_ratio : MF := mFun 2 mb_ratio
theorem c_ratio (T : Txt K mg C) : Cal P w K mg base "ratio" 3 2 m_ratio :=
  cal_of (N := ["n", "d"]) (ps := ["n", "d"]) (st := s_ratio) (mb := mb_ratio) (T.s_ratio.to (ps := ["n", "d"]) fun _ _ _ _ _ _ us hl => match us, hl with | [_, _], _ => rfl) sc_ratio (fun f cdv A outer s H E hr => (dss_cons (ds_expr (de_call ((c_check T).mono (by decide)) hr (L2N.takes_of rfl rfl rfl rfl) (da_cons (de_and (de_call ((c_is_integer T).mono (by decide)) hr (L2N.takes_of rfl rfl rfl rfl) (da_cons (de_v 0) da_nil) (len_cons (fun _ _ _ _ => len_nil))) (de_and (de_call ((c_is_integer T).mono (by decide)) hr (L2N.takes_of rfl rfl rfl rfl) (da_cons (de_v 1) da_nil) (len_cons (fun _ _ _ _ => len_nil))) (de_one (de_ne hr.units (de_v 1) de_int)))) da_nil) (len_cons (fun _ _ _ _ => len_nil))))
  (dss_one (ds_ret (de_call ((c_made T).mono (by decide)) hr (L2N.takes_of rfl rfl rfl rfl) (da_cons (de_v 0) (da_cons (de_v 1) da_nil)) (len_cons (len_cons (fun _ _ _ _ => len_nil))))))))
/-! #### check_ratios -/
theorem sc_check_ratios : FnScope ["values", "value"] ["values"] (defScope s_check_ratios) := ⟨rfl, rfl, rfl, by decide +kernel, rfl, by decide +kernel, by decide +kernel⟩
noncomputable def mb_check_ratios : MS := (mExpr (mCall m_check (mCons (mAll (mLc (mItS (mVar 0)) [1] (gN 1) mYes (mCall m_is_ratio (mCons (mVar 1) mNil)))) mNil)))
noncomputable def m_check_ratios : MF := fun ds => mFun 2 mb_check_ratios [.tup ds]
theorem c_check_ratios (T : Txt K mg C) {n : Nat} (hn : n ≤ sizeLine) : Cal P w K mg base "check_ratios" 3 n m_check_ratios :=
  calV_of (N := ["values", "value"]) (st := s_check_ratios) (mb := mb_check_ratios) T.s_check_ratios sc_check_ratios hn (fun _ _ _ _ _ _ us => match us with | [] => rfl | _ :: _ => rfl) (fun f cdv A outer s H E hr => (dss_one (ds_expr (de_call ((c_check T).mono (by decide)) hr (L2N.takes_of rfl rfl rfl rfl) (da_cons (de_all rfl T.n_all (de_lc [("value", 1)] rfl sc_check_ratios.nd (di_s (de_v 0)) (blkOk_by (show blkC ["values", "value"] (defScope s_check_ratios) _ [("value", 1)] = true by decide +kernel)) (gok_n (by simp)) (fun _ _ _ h => yes_t h) (fun _ _ _ _ _ => pg_name (i := 1) sc_check_ratios.nd rfl (Or.inl rfl) (Or.inr rfl)) (fun _ _ _ _ _ => pts_nil) (fun _ _ _ _ _ => (de_call ((c_is_ratio T).mono (by decide)) hr takesN0 (da_cons (de_v 1) da_nil) (len_cons (fun _ _ _ _ => len_nil)))))) da_nil) (len_cons (fun _ _ _ _ => len_nil))))))
/-! #### add -/
theorem sc_add : FnScope ["a", "b"] ["a", "b"] (defScope s_add) := ⟨rfl, rfl, rfl, by decide +kernel, rfl, by decide +kernel, by decide +kernel⟩
noncomputable def mb_add : MS := (mSeq (mIfS (mB (mOp opEq (mOp opIx (mVar 0) (mC (.int 1))) (mOp opIx (mVar 1) (mC (.int 1))))) (mRet (mIf (mB (mOp opEq (mOp opIx (mVar 0) (mC (.int 1))) (mC (.int 1)))) (mTup (mCons (mOp opAdd (mOp opIx (mVar 0) (mC (.int 0))) (mOp opIx (mVar 1) (mC (.int 0)))) (mCons (mC (.int 1)) mNil))) (mCall m_made (mCons (mOp opAdd (mOp opIx (mVar 0) (mC (.int 0))) (mOp opIx (mVar 1) (mC (.int 0)))) (mCons (mOp opIx (mVar 0) (mC (.int 1))) mNil))))) mNext)
  (mRet (mCall m_made (mCons (mOp opAdd (mOp opMul (mOp opIx (mVar 0) (mC (.int 0))) (mOp opIx (mVar 1) (mC (.int 1)))) (mOp opMul (mOp opIx (mVar 1) (mC (.int 0))) (mOp opIx (mVar 0) (mC (.int 1))))) (mCons (mOp opMul (mOp opIx (mVar 0) (mC (.int 1))) (mOp opIx (mVar 1) (mC (.int 1)))) mNil)))))
noncomputable def m_add : MF := mFun 2 mb_add
theorem c_add (T : Txt K mg C) : Cal P w K mg base "add" 3 2 m_add :=
  cal_of (N := ["a", "b"]) (ps := ["a", "b"]) (st := s_add) (mb := mb_add) (T.s_add.to (ps := ["a", "b"]) fun _ _ _ _ _ _ us hl => match us, hl with | [_, _], _ => rfl) sc_add (fun f cdv A outer s H E hr => (dss_cons (ds_if (dt_eq hr.units (de_ix (de_v 0) de_int) (de_ix (de_v 1) de_int)) (dss_one (ds_ret (de_if (dt_eq hr.units (de_ix (de_v 0) de_int) de_int) (de_tup (da_cons (de_add (de_ix (de_v 0) de_int) (de_ix (de_v 1) de_int)) (da_cons de_int da_nil))) (de_call ((c_made T).mono (by decide)) hr (L2N.takes_of rfl rfl rfl rfl) (da_cons (de_add (de_ix (de_v 0) de_int) (de_ix (de_v 1) de_int)) (da_cons (de_ix (de_v 0) de_int) da_nil)) (len_cons (len_cons (fun _ _ _ _ => len_nil))))))) dss_nil)
  (dss_one (ds_ret (de_call ((c_made T).mono (by decide)) hr (L2N.takes_of rfl rfl rfl rfl) (da_cons (de_add (de_mul (de_ix (de_v 0) de_int) (de_ix (de_v 1) de_int)) (de_mul (de_ix (de_v 1) de_int) (de_ix (de_v 0) de_int))) (da_cons (de_mul (de_ix (de_v 0) de_int) (de_ix (de_v 1) de_int)) da_nil)) (len_cons (len_cons (fun _ _ _ _ => len_nil))))))))
/-! #### less -/
theorem sc_less : FnScope ["a", "b"] ["a", "b"] (defScope s_less) := ⟨rfl, rfl, rfl, by decide +kernel, rfl, by decide +kernel, by decide +kernel⟩
noncomputable def mb_less : MS := (mRet (mCall m_add (mCons (mVar 0) (mCons (mTup (mCons (mNeg (mOp opIx (mVar 1) (mC (.int 0)))) (mCons (mOp opIx (mVar 1) (mC (.int 1))) mNil))) mNil))))
noncomputable def m_less : MF := mFun 2 mb_less
theorem c_less (T : Txt K mg C) : Cal P w K mg base "less" 4 2 m_less :=
  cal_of (N := ["a", "b"]) (ps := ["a", "b"]) (st := s_less) (mb := mb_less) (T.s_less.to (ps := ["a", "b"]) fun _ _ _ _ _ _ us hl => match us, hl with | [_, _], _ => rfl) sc_less (fun f cdv A outer s H E hr => (dss_one (ds_ret (de_call ((c_add T).mono (by decide)) hr (L2N.takes_of rfl rfl rfl rfl) (da_cons (de_v 0) (da_cons (de_tup (da_cons (de_neg (de_ix (de_v 1) de_int)) (da_cons (de_ix (de_v 1) de_int) da_nil))) da_nil)) (len_cons (len_cons (fun _ _ _ _ => len_nil)))))))
/-! #### product -/
theorem sc_product : FnScope ["a", "b"] ["a", "b"] (defScope s_product) := ⟨rfl, rfl, rfl, by decide +kernel, rfl, by decide +kernel, by decide +kernel⟩
noncomputable def mb_product : MS := (mRet (mIf (mAnd (mB (mOp opEq (mOp opIx (mVar 0) (mC (.int 1))) (mC (.int 1)))) (mB (mOp opEq (mOp opIx (mVar 1) (mC (.int 1))) (mC (.int 1))))) (mTup (mCons (mOp opMul (mOp opIx (mVar 0) (mC (.int 0))) (mOp opIx (mVar 1) (mC (.int 0)))) (mCons (mC (.int 1)) mNil))) (mCall m_made (mCons (mOp opMul (mOp opIx (mVar 0) (mC (.int 0))) (mOp opIx (mVar 1) (mC (.int 0)))) (mCons (mOp opMul (mOp opIx (mVar 0) (mC (.int 1))) (mOp opIx (mVar 1) (mC (.int 1)))) mNil)))))
noncomputable def m_product : MF := mFun 2 mb_product
theorem c_product (T : Txt K mg C) : Cal P w K mg base "product" 3 2 m_product :=
  cal_of (N := ["a", "b"]) (ps := ["a", "b"]) (st := s_product) (mb := mb_product) (T.s_product.to (ps := ["a", "b"]) fun _ _ _ _ _ _ us hl => match us, hl with | [_, _], _ => rfl) sc_product (fun f cdv A outer s H E hr => (dss_one (ds_ret (de_if (dt_w (dw_and (dt_eq hr.units (de_ix (de_v 0) de_int) de_int) (dw_and1 (dt_eq hr.units (de_ix (de_v 1) de_int) de_int)))) (de_tup (da_cons (de_mul (de_ix (de_v 0) de_int) (de_ix (de_v 1) de_int)) (da_cons de_int da_nil))) (de_call ((c_made T).mono (by decide)) hr (L2N.takes_of rfl rfl rfl rfl) (da_cons (de_mul (de_ix (de_v 0) de_int) (de_ix (de_v 1) de_int)) (da_cons (de_mul (de_ix (de_v 0) de_int) (de_ix (de_v 1) de_int)) da_nil)) (len_cons (len_cons (fun _ _ _ _ => len_nil))))))))
/-! #### share -/
theorem sc_share : FnScope ["a", "b"] ["a", "b"] (defScope s_share) := ⟨rfl, rfl, rfl, by decide +kernel, rfl, by decide +kernel, by decide +kernel⟩
noncomputable def mb_share : MS := (mRet (mCall m_made (mCons (mOp opMul (mOp opIx (mVar 0) (mC (.int 0))) (mOp opIx (mVar 1) (mC (.int 1)))) (mCons (mOp opMul (mOp opIx (mVar 0) (mC (.int 1))) (mOp opIx (mVar 1) (mC (.int 0)))) mNil))))
noncomputable def m_share : MF := mFun 2 mb_share
theorem c_share (T : Txt K mg C) : Cal P w K mg base "share" 3 2 m_share :=
  cal_of (N := ["a", "b"]) (ps := ["a", "b"]) (st := s_share) (mb := mb_share) (T.s_share.to (ps := ["a", "b"]) fun _ _ _ _ _ _ us hl => match us, hl with | [_, _], _ => rfl) sc_share (fun f cdv A outer s H E hr => (dss_one (ds_ret (de_call ((c_made T).mono (by decide)) hr (L2N.takes_of rfl rfl rfl rfl) (da_cons (de_mul (de_ix (de_v 0) de_int) (de_ix (de_v 1) de_int)) (da_cons (de_mul (de_ix (de_v 0) de_int) (de_ix (de_v 1) de_int)) da_nil)) (len_cons (len_cons (fun _ _ _ _ => len_nil)))))))
/-! #### is_below -/
theorem sc_is_below : FnScope ["a", "b"] ["a", "b"] (defScope s_is_below) := ⟨rfl, rfl, rfl, by decide +kernel, rfl, by decide +kernel, by decide +kernel⟩
noncomputable def mb_is_below : MS := (mRet (mOp opLt (mOp opMul (mOp opIx (mVar 0) (mC (.int 0))) (mOp opIx (mVar 1) (mC (.int 1)))) (mOp opMul (mOp opIx (mVar 1) (mC (.int 0))) (mOp opIx (mVar 0) (mC (.int 1))))))
noncomputable def m_is_below : MF := mFun 2 mb_is_below
theorem c_is_below (T : Txt K mg C) : Cal P w K mg base "is_below" 1 2 m_is_below :=
  cal_of (N := ["a", "b"]) (ps := ["a", "b"]) (st := s_is_below) (mb := mb_is_below) (T.s_is_below.to (ps := ["a", "b"]) fun _ _ _ _ _ _ us hl => match us, hl with | [_, _], _ => rfl) sc_is_below (fun f cdv A outer s H E hr => (dss_one (ds_ret (de_lt (de_mul (de_ix (de_v 0) de_int) (de_ix (de_v 1) de_int)) (de_mul (de_ix (de_v 1) de_int) (de_ix (de_v 0) de_int))))))
/-! #### plus -/
theorem sc_plus : FnScope ["a", "b"] ["a", "b"] (defScope s_plus) := ⟨rfl, rfl, rfl, by decide +kernel, rfl, by decide +kernel, by decide +kernel⟩
noncomputable def mb_plus : MS := (mSeq (mExpr (mCall m_check_ratios (mCons (mVar 0) (mCons (mVar 1) mNil))))
  (mRet (mCall m_add (mCons (mVar 0) (mCons (mVar 1) mNil)))))
noncomputable def m_plus : MF := mFun 2 mb_plus
theorem c_plus (T : Txt K mg C) : Cal P w K mg base "plus" 4 2 m_plus :=
  cal_of (N := ["a", "b"]) (ps := ["a", "b"]) (st := s_plus) (mb := mb_plus) (T.s_plus.to (ps := ["a", "b"]) fun _ _ _ _ _ _ us hl => match us, hl with | [_, _], _ => rfl) sc_plus (fun f cdv A outer s H E hr => (dss_cons (ds_expr (de_call ((c_check_ratios T (n := 2) (by decide)).mono (by decide)) hr (L2N.takes_of rfl rfl rfl rfl) (da_cons (de_v 0) (da_cons (de_v 1) da_nil)) (len_cons (len_cons (fun _ _ _ _ => len_nil)))))
  (dss_one (ds_ret (de_call ((c_add T).mono (by decide)) hr (L2N.takes_of rfl rfl rfl rfl) (da_cons (de_v 0) (da_cons (de_v 1) da_nil)) (len_cons (len_cons (fun _ _ _ _ => len_nil))))))))
/-! #### minus -/
theorem sc_minus : FnScope ["a", "b"] ["a", "b"] (defScope s_minus) := ⟨rfl, rfl, rfl, by decide +kernel, rfl, by decide +kernel, by decide +kernel⟩
noncomputable def mb_minus : MS := (mSeq (mExpr (mCall m_check_ratios (mCons (mVar 0) (mCons (mVar 1) mNil))))
  (mRet (mCall m_less (mCons (mVar 0) (mCons (mVar 1) mNil)))))
noncomputable def m_minus : MF := mFun 2 mb_minus
theorem c_minus (T : Txt K mg C) : Cal P w K mg base "minus" 5 2 m_minus :=
  cal_of (N := ["a", "b"]) (ps := ["a", "b"]) (st := s_minus) (mb := mb_minus) (T.s_minus.to (ps := ["a", "b"]) fun _ _ _ _ _ _ us hl => match us, hl with | [_, _], _ => rfl) sc_minus (fun f cdv A outer s H E hr => (dss_cons (ds_expr (de_call ((c_check_ratios T (n := 2) (by decide)).mono (by decide)) hr (L2N.takes_of rfl rfl rfl rfl) (da_cons (de_v 0) (da_cons (de_v 1) da_nil)) (len_cons (len_cons (fun _ _ _ _ => len_nil)))))
  (dss_one (ds_ret (de_call ((c_less T).mono (by decide)) hr (L2N.takes_of rfl rfl rfl rfl) (da_cons (de_v 0) (da_cons (de_v 1) da_nil)) (len_cons (len_cons (fun _ _ _ _ => len_nil))))))))
/-! #### times -/
theorem sc_times : FnScope ["a", "b"] ["a", "b"] (defScope s_times) := ⟨rfl, rfl, rfl, by decide +kernel, rfl, by decide +kernel, by decide +kernel⟩
noncomputable def mb_times : MS := (mSeq (mExpr (mCall m_check_ratios (mCons (mVar 0) (mCons (mVar 1) mNil))))
  (mRet (mCall m_product (mCons (mVar 0) (mCons (mVar 1) mNil)))))
noncomputable def m_times : MF := mFun 2 mb_times
theorem c_times (T : Txt K mg C) : Cal P w K mg base "times" 4 2 m_times :=
  cal_of (N := ["a", "b"]) (ps := ["a", "b"]) (st := s_times) (mb := mb_times) (T.s_times.to (ps := ["a", "b"]) fun _ _ _ _ _ _ us hl => match us, hl with | [_, _], _ => rfl) sc_times (fun f cdv A outer s H E hr => (dss_cons (ds_expr (de_call ((c_check_ratios T (n := 2) (by decide)).mono (by decide)) hr (L2N.takes_of rfl rfl rfl rfl) (da_cons (de_v 0) (da_cons (de_v 1) da_nil)) (len_cons (len_cons (fun _ _ _ _ => len_nil)))))
  (dss_one (ds_ret (de_call ((c_product T).mono (by decide)) hr (L2N.takes_of rfl rfl rfl rfl) (da_cons (de_v 0) (da_cons (de_v 1) da_nil)) (len_cons (len_cons (fun _ _ _ _ => len_nil))))))))
/-! #### over -/
theorem sc_over : FnScope ["a", "b"] ["a", "b"] (defScope s_over) := ⟨rfl, rfl, rfl, by decide +kernel, rfl, by decide +kernel, by decide +kernel⟩
noncomputable def mb_over : MS := (mSeq (mExpr (mCall m_check_ratios (mCons (mVar 0) (mCons (mVar 1) mNil))))
  (mSeq (mIfS (mB (mOp opEq (mOp opIx (mVar 1) (mC (.int 0))) (mC (.int 0)))) (mRaise "NoAnswer") mNext)
  (mRet (mCall m_share (mCons (mVar 0) (mCons (mVar 1) mNil))))))
noncomputable def m_over : MF := mFun 2 mb_over
theorem c_over (T : Txt K mg C) : Cal P w K mg base "over" 4 2 m_over :=
  cal_of (N := ["a", "b"]) (ps := ["a", "b"]) (st := s_over) (mb := mb_over) (T.s_over.to (ps := ["a", "b"]) fun _ _ _ _ _ _ us hl => match us, hl with | [_, _], _ => rfl) sc_over (fun f cdv A outer s H E hr => (dss_cons (ds_expr (de_call ((c_check_ratios T (n := 2) (by decide)).mono (by decide)) hr (L2N.takes_of rfl rfl rfl rfl) (da_cons (de_v 0) (da_cons (de_v 1) da_nil)) (len_cons (len_cons (fun _ _ _ _ => len_nil)))))
  (dss_cons (ds_if (dt_eq hr.units (de_ix (de_v 1) de_int) de_int) (dss_one (ds_rz rfl (L2N.takes_of rfl rfl rfl rfl) T.e_NoAnswer)) dss_nil)
  (dss_one (ds_ret (de_call ((c_share T).mono (by decide)) hr (L2N.takes_of rfl rfl rfl rfl) (da_cons (de_v 0) (da_cons (de_v 1) da_nil)) (len_cons (len_cons (fun _ _ _ _ => len_nil)))))))))
/-! #### raised -/
theorem sc_raised : FnScope ["a", "n", "found"] ["a", "n"] (defScope s_raised) := ⟨rfl, rfl, rfl, by decide +kernel, rfl, by decide +kernel, by decide +kernel⟩
noncomputable def mb_raised : MS := (mSeq (mAsg (mC (.int 1)) (gN 2))
  (mSeq (mWhile (mB (mOp opGt (mVar 1) (mC (.int 0)))) (mSeq (mIfS (mB (mOp opEq (mOp opMod (mVar 1) (mC (.int 2))) (mC (.int 1)))) (mAsg (mOp opMul (mVar 2) (mVar 0)) (gN 2)) mNext)
  (mPar 0 1 (mCons (mOp opMul (mVar 0) (mVar 0)) (mCons (mOp opFdiv (mVar 1) (mC (.int 2))) mNil)))))
  (mRet (mVar 2))))
noncomputable def m_raised : MF := mFun 3 mb_raised
theorem c_raised (T : Txt K mg C) : Cal P w K mg base "raised" 1 2 m_raised :=
  cal_of (N := ["a", "n", "found"]) (ps := ["a", "n"]) (st := s_raised) (mb := mb_raised) (T.s_raised.to (ps := ["a", "n"]) fun _ _ _ _ _ _ us hl => match us, hl with | [_, _], _ => rfl) sc_raised (fun f cdv A outer s H E hr => (dss_cons (ds_set 2 sc_raised.nd de_int)
  (dss_cons (ds_while (passes_of rfl) (dt_gt (de_v 1) de_int) (dss_cons (ds_if (dt_eq hr.units (de_mod (de_v 1) de_int) de_int) (dss_one (ds_set 2 sc_raised.nd (de_mul (de_v 2) (de_v 0)))) dss_nil)
  (dss_one (ds_par 0 1 rfl sc_raised.nd (da_cons (de_mul (de_v 0) (de_v 0)) (da_cons (de_fdiv (de_v 1) de_int) da_nil))))))
  (dss_one (ds_ret (de_v 2))))))
/-! #### power_by -/
theorem sc_power_by : FnScope ["a", "n"] ["a", "n"] (defScope s_power_by) := ⟨rfl, rfl, rfl, by decide +kernel, rfl, by decide +kernel, by decide +kernel⟩
noncomputable def mb_power_by : MS := (mRet (mIf (mB (mOp opGe (mVar 1) (mC (.int 0)))) (mTup (mCons (mCall m_raised (mCons (mOp opIx (mVar 0) (mC (.int 0))) (mCons (mVar 1) mNil))) (mCons (mCall m_raised (mCons (mOp opIx (mVar 0) (mC (.int 1))) (mCons (mVar 1) mNil))) mNil))) (mCall m_made (mCons (mCall m_raised (mCons (mOp opIx (mVar 0) (mC (.int 1))) (mCons (mNeg (mVar 1)) mNil))) (mCons (mCall m_raised (mCons (mOp opIx (mVar 0) (mC (.int 0))) (mCons (mNeg (mVar 1)) mNil))) mNil)))))
noncomputable def m_power_by : MF := mFun 2 mb_power_by
theorem c_power_by (T : Txt K mg C) : Cal P w K mg base "power_by" 3 2 m_power_by :=
  cal_of (N := ["a", "n"]) (ps := ["a", "n"]) (st := s_power_by) (mb := mb_power_by) (T.s_power_by.to (ps := ["a", "n"]) fun _ _ _ _ _ _ us hl => match us, hl with | [_, _], _ => rfl) sc_power_by (fun f cdv A outer s H E hr => (dss_one (ds_ret (de_if (dt_ge (de_v 1) de_int) (de_tup (da_cons (de_call ((c_raised T).mono (by decide)) hr (L2N.takes_of rfl rfl rfl rfl) (da_cons (de_ix (de_v 0) de_int) (da_cons (de_v 1) da_nil)) (len_cons (len_cons (fun _ _ _ _ => len_nil)))) (da_cons (de_call ((c_raised T).mono (by decide)) hr (L2N.takes_of rfl rfl rfl rfl) (da_cons (de_ix (de_v 0) de_int) (da_cons (de_v 1) da_nil)) (len_cons (len_cons (fun _ _ _ _ => len_nil)))) da_nil))) (de_call ((c_made T).mono (by decide)) hr (L2N.takes_of rfl rfl rfl rfl) (da_cons (de_call ((c_raised T).mono (by decide)) hr (L2N.takes_of rfl rfl rfl rfl) (da_cons (de_ix (de_v 0) de_int) (da_cons (de_neg (de_v 1)) da_nil)) (len_cons (len_cons (fun _ _ _ _ => len_nil)))) (da_cons (de_call ((c_raised T).mono (by decide)) hr (L2N.takes_of rfl rfl rfl rfl) (da_cons (de_ix (de_v 0) de_int) (da_cons (de_neg (de_v 1)) da_nil)) (len_cons (len_cons (fun _ _ _ _ => len_nil)))) da_nil)) (len_cons (len_cons (fun _ _ _ _ => len_nil))))))))
/-! #### power -/
theorem sc_power : FnScope ["a", "n"] ["a", "n"] (defScope s_power) := ⟨rfl, rfl, rfl, by decide +kernel, rfl, by decide +kernel, by decide +kernel⟩
noncomputable def mb_power : MS := (mSeq (mExpr (mCall m_check_ratios (mCons (mVar 0) mNil)))
  (mSeq (mExpr (mCall m_check (mCons (mCall m_is_within (mCons (mVar 1) (mCons (mNeg (mC (.int 400))) (mCons (mC (.int 400)) mNil)))) mNil)))
  (mSeq (mIfS (mAnd (mB (mOp opEq (mOp opIx (mVar 0) (mC (.int 0))) (mC (.int 0)))) (mB (mOp opLt (mVar 1) (mC (.int 0))))) (mRaise "NoAnswer") mNext)
  (mRet (mCall m_power_by (mCons (mVar 0) (mCons (mVar 1) mNil)))))))
noncomputable def m_power : MF := mFun 2 mb_power
theorem c_power (T : Txt K mg C) : Cal P w K mg base "power" 4 2 m_power :=
  cal_of (N := ["a", "n"]) (ps := ["a", "n"]) (st := s_power) (mb := mb_power) (T.s_power.to (ps := ["a", "n"]) fun _ _ _ _ _ _ us hl => match us, hl with | [_, _], _ => rfl) sc_power (fun f cdv A outer s H E hr => (dss_cons (ds_expr (de_call ((c_check_ratios T (n := 1) (by decide)).mono (by decide)) hr (L2N.takes_of rfl rfl rfl rfl) (da_cons (de_v 0) da_nil) (len_cons (fun _ _ _ _ => len_nil))))
  (dss_cons (ds_expr (de_call ((c_check T).mono (by decide)) hr (L2N.takes_of rfl rfl rfl rfl) (da_cons (de_call ((c_is_within T).mono (by decide)) hr (L2N.takes_of rfl rfl rfl rfl) (da_cons (de_v 1) (da_cons (de_neg (de_gI' T.g_MOST_POWER)) (da_cons (de_gI' T.g_MOST_POWER) da_nil))) (len_cons (len_cons (len_cons (fun _ _ _ _ => len_nil))))) da_nil) (len_cons (fun _ _ _ _ => len_nil))))
  (dss_cons (ds_if (dt_w (dw_and (dt_eq hr.units (de_ix (de_v 0) de_int) de_int) (dw_and1 (dt_lt (de_v 1) de_int)))) (dss_one (ds_rz rfl (L2N.takes_of rfl rfl rfl rfl) T.e_NoAnswer)) dss_nil)
  (dss_one (ds_ret (de_call ((c_power_by T).mono (by decide)) hr (L2N.takes_of rfl rfl rfl rfl) (da_cons (de_v 0) (da_cons (de_v 1) da_nil)) (len_cons (len_cons (fun _ _ _ _ => len_nil))))))))))
/-! #### compare -/
theorem sc_compare : FnScope ["a", "b"] ["a", "b"] (defScope s_compare) := ⟨rfl, rfl, rfl, by decide +kernel, rfl, by decide +kernel, by decide +kernel⟩
noncomputable def mb_compare : MS := (mSeq (mExpr (mCall m_check_ratios (mCons (mVar 0) (mCons (mVar 1) mNil))))
  (mRet (mOp opSub (mInt (mCall m_is_below (mCons (mVar 1) (mCons (mVar 0) mNil)))) (mInt (mCall m_is_below (mCons (mVar 0) (mCons (mVar 1) mNil)))))))
noncomputable def m_compare : MF := mFun 2 mb_compare
theorem c_compare (T : Txt K mg C) : Cal P w K mg base "compare" 4 2 m_compare :=
  cal_of (N := ["a", "b"]) (ps := ["a", "b"]) (st := s_compare) (mb := mb_compare) (T.s_compare.to (ps := ["a", "b"]) fun _ _ _ _ _ _ us hl => match us, hl with | [_, _], _ => rfl) sc_compare (fun f cdv A outer s H E hr => (dss_cons (ds_expr (de_call ((c_check_ratios T (n := 2) (by decide)).mono (by decide)) hr (L2N.takes_of rfl rfl rfl rfl) (da_cons (de_v 0) (da_cons (de_v 1) da_nil)) (len_cons (len_cons (fun _ _ _ _ => len_nil)))))
  (dss_one (ds_ret (de_sub (de_toInt T.n_int (de_call ((c_is_below T).mono (by decide)) hr (L2N.takes_of rfl rfl rfl rfl) (da_cons (de_v 1) (da_cons (de_v 0) da_nil)) (len_cons (len_cons (fun _ _ _ _ => len_nil))))) (de_toInt T.n_int (de_call ((c_is_below T).mono (by decide)) hr (L2N.takes_of rfl rfl rfl rfl) (da_cons (de_v 0) (da_cons (de_v 1) da_nil)) (len_cons (len_cons (fun _ _ _ _ => len_nil))))))))))
/-! #### floor_of -/
theorem sc_floor_of : FnScope ["a"] ["a"] (defScope s_floor_of) := ⟨rfl, rfl, rfl, by decide +kernel, rfl, by decide +kernel, by decide +kernel⟩
noncomputable def mb_floor_of : MS := (mSeq (mExpr (mCall m_check_ratios (mCons (mVar 0) mNil)))
  (mRet (mOp opFdiv (mOp opIx (mVar 0) (mC (.int 0))) (mOp opIx (mVar 0) (mC (.int 1))))))
noncomputable def m_floor_of : MF := mFun 1 mb_floor_of
theorem c_floor_of (T : Txt K mg C) : Cal P w K mg base "floor_of" 4 1 m_floor_of :=
  cal_of (N := ["a"]) (ps := ["a"]) (st := s_floor_of) (mb := mb_floor_of) (T.s_floor_of.to (ps := ["a"]) fun _ _ _ _ _ _ us hl => match us, hl with | [_], _ => rfl) sc_floor_of (fun f cdv A outer s H E hr => (dss_cons (ds_expr (de_call ((c_check_ratios T (n := 1) (by decide)).mono (by decide)) hr (L2N.takes_of rfl rfl rfl rfl) (da_cons (de_v 0) da_nil) (len_cons (fun _ _ _ _ => len_nil))))
  (dss_one (ds_ret (de_fdiv (de_ix (de_v 0) de_int) (de_ix (de_v 0) de_int))))))
/-! #### ceiling_of -/
theorem sc_ceiling_of : FnScope ["a"] ["a"] (defScope s_ceiling_of) := ⟨rfl, rfl, rfl, by decide +kernel, rfl, by decide +kernel, by decide +kernel⟩
noncomputable def mb_ceiling_of : MS := (mSeq (mExpr (mCall m_check_ratios (mCons (mVar 0) mNil)))
  (mRet (mNeg (mOp opFdiv (mNeg (mOp opIx (mVar 0) (mC (.int 0)))) (mOp opIx (mVar 0) (mC (.int 1)))))))
noncomputable def m_ceiling_of : MF := mFun 1 mb_ceiling_of
theorem c_ceiling_of (T : Txt K mg C) : Cal P w K mg base "ceiling_of" 4 1 m_ceiling_of :=
  cal_of (N := ["a"]) (ps := ["a"]) (st := s_ceiling_of) (mb := mb_ceiling_of) (T.s_ceiling_of.to (ps := ["a"]) fun _ _ _ _ _ _ us hl => match us, hl with | [_], _ => rfl) sc_ceiling_of (fun f cdv A outer s H E hr => (dss_cons (ds_expr (de_call ((c_check_ratios T (n := 1) (by decide)).mono (by decide)) hr (L2N.takes_of rfl rfl rfl rfl) (da_cons (de_v 0) da_nil) (len_cons (fun _ _ _ _ => len_nil))))
  (dss_one (ds_ret (de_neg (de_fdiv (de_neg (de_ix (de_v 0) de_int)) (de_ix (de_v 0) de_int)))))))
/-! #### of_bits -/
theorem sc_of_bits : FnScope ["n", "k"] ["n", "k"] (defScope s_of_bits) := ⟨rfl, rfl, rfl, by decide +kernel, rfl, by decide +kernel, by decide +kernel⟩
noncomputable def mb_of_bits : MS := (mSeq (mWhile (mAnd (mB (mOp opGt (mVar 1) (mC (.int 0)))) (mB (mOp opEq (mOp opMod (mVar 0) (mC (.int 2))) (mC (.int 0))))) (mPar 0 1 (mCons (mOp opFdiv (mVar 0) (mC (.int 2))) (mCons (mOp opSub (mVar 1) (mC (.int 1))) mNil))))
  (mRet (mTup (mCons (mVar 0) (mCons (mOp opShl (mC (.int 1)) (mVar 1)) mNil)))))
noncomputable def m_of_bits : MF := mFun 2 mb_of_bits
theorem c_of_bits (T : Txt K mg C) : Cal P w K mg base "of_bits" 1 2 m_of_bits :=
  cal_of (N := ["n", "k"]) (ps := ["n", "k"]) (st := s_of_bits) (mb := mb_of_bits) (T.s_of_bits.to (ps := ["n", "k"]) fun _ _ _ _ _ _ us hl => match us, hl with | [_, _], _ => rfl) sc_of_bits (fun f cdv A outer s H E hr => (dss_cons (ds_while (passes_of rfl) (dt_w (dw_and (dt_gt (de_v 1) de_int) (dw_and1 (dt_eq hr.units (de_mod (de_v 0) de_int) de_int)))) (dss_one (ds_par 0 1 rfl sc_of_bits.nd (da_cons (de_fdiv (de_v 0) de_int) (da_cons (de_sub (de_v 1) de_int) da_nil)))))
  (dss_one (ds_ret (de_tup (da_cons (de_v 0) (da_cons (de_shl de_int (de_v 1)) da_nil)))))))
/-! #### down_by -/
theorem sc_down_by : FnScope ["a", "k"] ["a", "k"] (defScope s_down_by) := ⟨rfl, rfl, rfl, by decide +kernel, rfl, by decide +kernel, by decide +kernel⟩
noncomputable def mb_down_by : MS := (mRet (mCall m_of_bits (mCons (mOp opFdiv (mOp opShl (mOp opIx (mVar 0) (mC (.int 0))) (mVar 1)) (mOp opIx (mVar 0) (mC (.int 1)))) (mCons (mVar 1) mNil))))
noncomputable def m_down_by : MF := mFun 2 mb_down_by
theorem c_down_by (T : Txt K mg C) : Cal P w K mg base "down_by" 2 2 m_down_by :=
  cal_of (N := ["a", "k"]) (ps := ["a", "k"]) (st := s_down_by) (mb := mb_down_by) (T.s_down_by.to (ps := ["a", "k"]) fun _ _ _ _ _ _ us hl => match us, hl with | [_, _], _ => rfl) sc_down_by (fun f cdv A outer s H E hr => (dss_one (ds_ret (de_call ((c_of_bits T).mono (by decide)) hr (L2N.takes_of rfl rfl rfl rfl) (da_cons (de_fdiv (de_shl (de_ix (de_v 0) de_int) (de_v 1)) (de_ix (de_v 0) de_int)) (da_cons (de_v 1) da_nil)) (len_cons (len_cons (fun _ _ _ _ => len_nil)))))))
/-! #### up_by -/
theorem sc_up_by : FnScope ["a", "k"] ["a", "k"] (defScope s_up_by) := ⟨rfl, rfl, rfl, by decide +kernel, rfl, by decide +kernel, by decide +kernel⟩
noncomputable def mb_up_by : MS := (mRet (mCall m_of_bits (mCons (mNeg (mOp opFdiv (mOp opShl (mNeg (mOp opIx (mVar 0) (mC (.int 0)))) (mVar 1)) (mOp opIx (mVar 0) (mC (.int 1))))) (mCons (mVar 1) mNil))))
noncomputable def m_up_by : MF := mFun 2 mb_up_by
theorem c_up_by (T : Txt K mg C) : Cal P w K mg base "up_by" 2 2 m_up_by :=
  cal_of (N := ["a", "k"]) (ps := ["a", "k"]) (st := s_up_by) (mb := mb_up_by) (T.s_up_by.to (ps := ["a", "k"]) fun _ _ _ _ _ _ us hl => match us, hl with | [_, _], _ => rfl) sc_up_by (fun f cdv A outer s H E hr => (dss_one (ds_ret (de_call ((c_of_bits T).mono (by decide)) hr (L2N.takes_of rfl rfl rfl rfl) (da_cons (de_neg (de_fdiv (de_shl (de_neg (de_ix (de_v 0) de_int)) (de_v 1)) (de_ix (de_v 0) de_int))) (da_cons (de_v 1) da_nil)) (len_cons (len_cons (fun _ _ _ _ => len_nil)))))))
/-! #### down_to -/
theorem sc_down_to : FnScope ["a", "k"] ["a", "k"] (defScope s_down_to) := ⟨rfl, rfl, rfl, by decide +kernel, rfl, by decide +kernel, by decide +kernel⟩
noncomputable def mb_down_to : MS := (mSeq (mExpr (mCall m_check_ratios (mCons (mVar 0) mNil)))
  (mSeq (mExpr (mCall m_check (mCons (mCall m_is_within (mCons (mVar 1) (mCons (mC (.int 0)) (mCons (mC (.int 20000)) mNil)))) mNil)))
  (mRet (mCall m_down_by (mCons (mVar 0) (mCons (mVar 1) mNil))))))
noncomputable def m_down_to : MF := mFun 2 mb_down_to
theorem c_down_to (T : Txt K mg C) : Cal P w K mg base "down_to" 4 2 m_down_to :=
  cal_of (N := ["a", "k"]) (ps := ["a", "k"]) (st := s_down_to) (mb := mb_down_to) (T.s_down_to.to (ps := ["a", "k"]) fun _ _ _ _ _ _ us hl => match us, hl with | [_, _], _ => rfl) sc_down_to (fun f cdv A outer s H E hr => (dss_cons (ds_expr (de_call ((c_check_ratios T (n := 1) (by decide)).mono (by decide)) hr (L2N.takes_of rfl rfl rfl rfl) (da_cons (de_v 0) da_nil) (len_cons (fun _ _ _ _ => len_nil))))
  (dss_cons (ds_expr (de_call ((c_check T).mono (by decide)) hr (L2N.takes_of rfl rfl rfl rfl) (da_cons (de_call ((c_is_within T).mono (by decide)) hr (L2N.takes_of rfl rfl rfl rfl) (da_cons (de_v 1) (da_cons de_int (da_cons (de_gI' T.g_MOST_BITS) da_nil))) (len_cons (len_cons (len_cons (fun _ _ _ _ => len_nil))))) da_nil) (len_cons (fun _ _ _ _ => len_nil))))
  (dss_one (ds_ret (de_call ((c_down_by T).mono (by decide)) hr (L2N.takes_of rfl rfl rfl rfl) (da_cons (de_v 0) (da_cons (de_v 1) da_nil)) (len_cons (len_cons (fun _ _ _ _ => len_nil)))))))))
/-! #### up_to -/
theorem sc_up_to : FnScope ["a", "k"] ["a", "k"] (defScope s_up_to) := ⟨rfl, rfl, rfl, by decide +kernel, rfl, by decide +kernel, by decide +kernel⟩
noncomputable def mb_up_to : MS := (mSeq (mExpr (mCall m_check_ratios (mCons (mVar 0) mNil)))
  (mSeq (mExpr (mCall m_check (mCons (mCall m_is_within (mCons (mVar 1) (mCons (mC (.int 0)) (mCons (mC (.int 20000)) mNil)))) mNil)))
  (mRet (mCall m_up_by (mCons (mVar 0) (mCons (mVar 1) mNil))))))
noncomputable def m_up_to : MF := mFun 2 mb_up_to
theorem c_up_to (T : Txt K mg C) : Cal P w K mg base "up_to" 4 2 m_up_to :=
  cal_of (N := ["a", "k"]) (ps := ["a", "k"]) (st := s_up_to) (mb := mb_up_to) (T.s_up_to.to (ps := ["a", "k"]) fun _ _ _ _ _ _ us hl => match us, hl with | [_, _], _ => rfl) sc_up_to (fun f cdv A outer s H E hr => (dss_cons (ds_expr (de_call ((c_check_ratios T (n := 1) (by decide)).mono (by decide)) hr (L2N.takes_of rfl rfl rfl rfl) (da_cons (de_v 0) da_nil) (len_cons (fun _ _ _ _ => len_nil))))
  (dss_cons (ds_expr (de_call ((c_check T).mono (by decide)) hr (L2N.takes_of rfl rfl rfl rfl) (da_cons (de_call ((c_is_within T).mono (by decide)) hr (L2N.takes_of rfl rfl rfl rfl) (da_cons (de_v 1) (da_cons de_int (da_cons (de_gI' T.g_MOST_BITS) da_nil))) (len_cons (len_cons (len_cons (fun _ _ _ _ => len_nil))))) da_nil) (len_cons (fun _ _ _ _ => len_nil))))
  (dss_one (ds_ret (de_call ((c_up_by T).mono (by decide)) hr (L2N.takes_of rfl rfl rfl rfl) (da_cons (de_v 0) (da_cons (de_v 1) da_nil)) (len_cons (len_cons (fun _ _ _ _ => len_nil)))))))))
/-! #### halved -/
theorem sc_halved : FnScope ["k"] ["k"] (defScope s_halved) := ⟨rfl, rfl, rfl, by decide +kernel, rfl, by decide +kernel, by decide +kernel⟩
noncomputable def mb_halved : MS := (mSeq (mExpr (mCall m_check (mCons (mCall m_is_within (mCons (mVar 0) (mCons (mC (.int 0)) (mCons (mC (.int 20000)) mNil)))) mNil)))
  (mRet (mTup (mCons (mC (.int 1)) (mCons (mOp opShl (mC (.int 1)) (mVar 0)) mNil)))))
noncomputable def m_halved : MF := mFun 1 mb_halved
theorem c_halved (T : Txt K mg C) : Cal P w K mg base "halved" 3 1 m_halved :=
  cal_of (N := ["k"]) (ps := ["k"]) (st := s_halved) (mb := mb_halved) (T.s_halved.to (ps := ["k"]) fun _ _ _ _ _ _ us hl => match us, hl with | [_], _ => rfl) sc_halved (fun f cdv A outer s H E hr => (dss_cons (ds_expr (de_call ((c_check T).mono (by decide)) hr (L2N.takes_of rfl rfl rfl rfl) (da_cons (de_call ((c_is_within T).mono (by decide)) hr (L2N.takes_of rfl rfl rfl rfl) (da_cons (de_v 0) (da_cons de_int (da_cons (de_gI' T.g_MOST_BITS) da_nil))) (len_cons (len_cons (len_cons (fun _ _ _ _ => len_nil))))) da_nil) (len_cons (fun _ _ _ _ => len_nil))))
  (dss_one (ds_ret (de_tup (da_cons de_int (da_cons (de_shl de_int (de_v 0)) da_nil)))))))
/-! #### shown_ratio -/
theorem sc_shown_ratio : FnScope ["a"] ["a"] (defScope s_shown_ratio) := ⟨rfl, rfl, rfl, by decide +kernel, rfl, by decide +kernel, by decide +kernel⟩
noncomputable def mb_shown_ratio : MS := (mSeq (mExpr (mCall m_check_ratios (mCons (mVar 0) mNil)))
  (mRet (mIf (mB (mOp opEq (mOp opIx (mVar 0) (mC (.int 1))) (mC (.int 1)))) (mCall m_figures_of (mCons (mOp opIx (mVar 0) (mC (.int 0))) mNil)) (mOp opAdd (mOp opAdd (mCall m_figures_of (mCons (mOp opIx (mVar 0) (mC (.int 0))) mNil)) (mC (.str "/"))) (mCall m_figures_of (mCons (mOp opIx (mVar 0) (mC (.int 1))) mNil))))))
noncomputable def m_shown_ratio : MF := mFun 1 mb_shown_ratio
theorem c_shown_ratio (T : Txt K mg C) : Cal P w K mg base "shown_ratio" 4 1 m_shown_ratio :=
  cal_of (N := ["a"]) (ps := ["a"]) (st := s_shown_ratio) (mb := mb_shown_ratio) (T.s_shown_ratio.to (ps := ["a"]) fun _ _ _ _ _ _ us hl => match us, hl with | [_], _ => rfl) sc_shown_ratio (fun f cdv A outer s H E hr => (dss_cons (ds_expr (de_call ((c_check_ratios T (n := 1) (by decide)).mono (by decide)) hr (L2N.takes_of rfl rfl rfl rfl) (da_cons (de_v 0) da_nil) (len_cons (fun _ _ _ _ => len_nil))))
  (dss_one (ds_ret (de_if (dt_eq hr.units (de_ix (de_v 0) de_int) de_int) (de_call ((c_figures_of T).mono (by decide)) hr (L2N.takes_of rfl rfl rfl rfl) (da_cons (de_ix (de_v 0) de_int) da_nil) (len_cons (fun _ _ _ _ => len_nil))) (de_add (de_add (de_call ((c_figures_of T).mono (by decide)) hr (L2N.takes_of rfl rfl rfl rfl) (da_cons (de_ix (de_v 0) de_int) da_nil) (len_cons (fun _ _ _ _ => len_nil))) de_str) (de_call ((c_figures_of T).mono (by decide)) hr (L2N.takes_of rfl rfl rfl rfl) (da_cons (de_ix (de_v 0) de_int) da_nil) (len_cons (fun _ _ _ _ => len_nil)))))))))
/-! #### decimal_by -/
theorem sc_decimal_by : FnScope ["a", "k", "whole", "told", "figures", "sign"] ["a", "k"] (defScope s_decimal_by) := ⟨rfl, rfl, rfl, by decide +kernel, rfl, by decide +kernel, by decide +kernel⟩
noncomputable def mb_decimal_by : MS := (mSeq (mAsg (mOp opFdiv (mOp opMul (mAbs (mOp opIx (mVar 0) (mC (.int 0)))) (mCall m_raised (mCons (mC (.int 10)) (mCons (mVar 1) mNil)))) (mOp opIx (mVar 0) (mC (.int 1)))) (gN 2))
  (mSeq (mAsg (mCall m_figures_of (mCons (mVar 2) mNil)) (gN 3))
  (mSeq (mAsg (mOp opAdd (mOp opMul (mC (.str "0")) (mMax (mC (.int 0)) (mOp opSub (mOp opAdd (mVar 1) (mC (.int 1))) (mLen (mVar 3))))) (mVar 3)) (gN 4))
  (mSeq (mAsg (mIf (mAnd (mB (mOp opLt (mOp opIx (mVar 0) (mC (.int 0))) (mC (.int 0)))) (mB (mOp opGt (mVar 2) (mC (.int 0))))) (mC (.str "-")) (mC (.str ""))) (gN 5))
  (mRet (mOp opAdd (mVar 5) (mIf (mB (mOp opEq (mVar 1) (mC (.int 0)))) (mVar 4) (mJs [(mFmt (mSl (mVar 4) pN (pS (mNeg (mVar 1))))), (mC (.str ".")), (mFmt (mSl (mVar 4) (pS (mNeg (mVar 1))) pN))] Str.empty))))))))
noncomputable def m_decimal_by : MF := mFun 6 mb_decimal_by
theorem c_decimal_by (T : Txt K mg C) : Cal P w K mg base "decimal_by" 2 2 m_decimal_by :=
  cal_of (N := ["a", "k", "whole", "told", "figures", "sign"]) (ps := ["a", "k"]) (st := s_decimal_by) (mb := mb_decimal_by) (T.s_decimal_by.to (ps := ["a", "k"]) fun _ _ _ _ _ _ us hl => match us, hl with | [_, _], _ => rfl) sc_decimal_by (fun f cdv A outer s H E hr => (dss_cons (ds_set 2 sc_decimal_by.nd (de_fdiv (de_mul (de_abs T.n_abs (de_ix (de_v 0) de_int)) (de_call ((c_raised T).mono (by decide)) hr (L2N.takes_of rfl rfl rfl rfl) (da_cons de_int (da_cons (de_v 1) da_nil)) (len_cons (len_cons (fun _ _ _ _ => len_nil))))) (de_ix (de_v 0) de_int)))
  (dss_cons (ds_set 3 sc_decimal_by.nd (de_call ((c_figures_of T).mono (by decide)) hr (L2N.takes_of rfl rfl rfl rfl) (da_cons (de_v 2) da_nil) (len_cons (fun _ _ _ _ => len_nil))))
  (dss_cons (ds_set 4 sc_decimal_by.nd (de_add (de_mul de_str (de_max rfl T.n_max de_int (de_sub (de_add (de_v 1) de_int) (de_len T.n_len (de_v 3))))) (de_v 3)))
  (dss_cons (ds_set 5 sc_decimal_by.nd (de_if (dt_w (dw_and (dt_lt (de_ix (de_v 0) de_int) de_int) (dw_and1 (dt_gt (de_v 2) de_int)))) de_str de_str))
  (dss_one (ds_ret (de_add (de_v 5) (de_if (dt_eq hr.units (de_v 1) de_int) (de_v 4) (de_js (.cons (de_fmt (de_sl (de_v 4) dp_n (dp_s (de_neg (de_v 1))))) (.cons de_str (.cons (de_fmt (de_sl (de_v 4) (dp_s (de_neg (de_v 1))) dp_n)) .nil)))))))))))))
/-! #### decimal_of -/
theorem sc_decimal_of : FnScope ["a", "k"] ["a", "k"] (defScope s_decimal_of) := ⟨rfl, rfl, rfl, by decide +kernel, rfl, by decide +kernel, by decide +kernel⟩
noncomputable def mb_decimal_of : MS := (mSeq (mExpr (mCall m_check_ratios (mCons (mVar 0) mNil)))
  (mSeq (mExpr (mCall m_check (mCons (mCall m_is_within (mCons (mVar 1) (mCons (mC (.int 0)) (mCons (mC (.int 400)) mNil)))) mNil)))
  (mRet (mCall m_decimal_by (mCons (mVar 0) (mCons (mVar 1) mNil))))))
noncomputable def m_decimal_of : MF := mFun 2 mb_decimal_of
theorem c_decimal_of (T : Txt K mg C) : Cal P w K mg base "decimal_of" 4 2 m_decimal_of :=
  cal_of (N := ["a", "k"]) (ps := ["a", "k"]) (st := s_decimal_of) (mb := mb_decimal_of) (T.s_decimal_of.to (ps := ["a", "k"]) fun _ _ _ _ _ _ us hl => match us, hl with | [_, _], _ => rfl) sc_decimal_of (fun f cdv A outer s H E hr => (dss_cons (ds_expr (de_call ((c_check_ratios T (n := 1) (by decide)).mono (by decide)) hr (L2N.takes_of rfl rfl rfl rfl) (da_cons (de_v 0) da_nil) (len_cons (fun _ _ _ _ => len_nil))))
  (dss_cons (ds_expr (de_call ((c_check T).mono (by decide)) hr (L2N.takes_of rfl rfl rfl rfl) (da_cons (de_call ((c_is_within T).mono (by decide)) hr (L2N.takes_of rfl rfl rfl rfl) (da_cons (de_v 1) (da_cons de_int (da_cons (de_gI' T.g_MOST_FIGURES) da_nil))) (len_cons (len_cons (len_cons (fun _ _ _ _ => len_nil))))) da_nil) (len_cons (fun _ _ _ _ => len_nil))))
  (dss_one (ds_ret (de_call ((c_decimal_by T).mono (by decide)) hr (L2N.takes_of rfl rfl rfl rfl) (da_cons (de_v 0) (da_cons (de_v 1) da_nil)) (len_cons (len_cons (fun _ _ _ _ => len_nil)))))))))
/-! #### root_under -/
theorem sc_root_under : FnScope ["n", "degree", "found", "nearer"] ["n", "degree"] (defScope s_root_under) := ⟨rfl, rfl, rfl, by decide +kernel, rfl, by decide +kernel, by decide +kernel⟩
noncomputable def mb_root_under : MS := (mSeq (mIfS (mB (mOp opEq (mVar 0) (mC (.int 0)))) (mRet (mC (.int 0))) mNext)
  (mSeq (mAsg (mOp opShl (mC (.int 1)) (mNeg (mOp opFdiv (mNeg (mBits (mVar 0))) (mVar 1)))) (gN 2))
  (mWhile (mB (mC (.bl true))) (mSeq (mAsg (mOp opFdiv (mOp opAdd (mOp opMul (mOp opSub (mVar 1) (mC (.int 1))) (mVar 2)) (mOp opFdiv (mVar 0) (mCall m_raised (mCons (mVar 2) (mCons (mOp opSub (mVar 1) (mC (.int 1))) mNil))))) (mVar 1)) (gN 3))
  (mSeq (mIfS (mB (mOp opGe (mVar 3) (mVar 2))) (mRet (mVar 2)) mNext)
  (mAsg (mVar 3) (gN 2)))))))
noncomputable def m_root_under : MF := mFun 4 mb_root_under
theorem c_root_under (T : Txt K mg C) : Cal P w K mg base "root_under" 2 2 m_root_under :=
  cal_of (N := ["n", "degree", "found", "nearer"]) (ps := ["n", "degree"]) (st := s_root_under) (mb := mb_root_under) (T.s_root_under.to (ps := ["n", "degree"]) fun _ _ _ _ _ _ us hl => match us, hl with | [_, _], _ => rfl) sc_root_under (fun f cdv A outer s H E hr => (dss_cons (ds_if (dt_eq hr.units (de_v 0) de_int) (dss_one (ds_ret de_int)) dss_nil)
  (dss_cons (ds_set 2 sc_root_under.nd (de_shl de_int (de_neg (de_fdiv (de_neg (de_bits (de_v 0))) (de_v 1)))))
  (dss_one (ds_while (passes_of rfl) (dt_val de_bl) (dss_cons (ds_set 3 sc_root_under.nd (de_fdiv (de_add (de_mul (de_sub (de_v 1) de_int) (de_v 2)) (de_fdiv (de_v 0) (de_call ((c_raised T).mono (by decide)) hr (L2N.takes_of rfl rfl rfl rfl) (da_cons (de_v 2) (da_cons (de_sub (de_v 1) de_int) da_nil)) (len_cons (len_cons (fun _ _ _ _ => len_nil)))))) (de_v 1)))
  (dss_cons (ds_if (dt_ge (de_v 3) (de_v 2)) (dss_one (ds_ret (de_v 2))) dss_nil)
  (dss_one (ds_set 2 sc_root_under.nd (de_v 3))))))))))
/-! #### least_square -/
theorem sc_least_square : FnScope ["n"] ["n"] (defScope s_least_square) := ⟨rfl, rfl, rfl, by decide +kernel, rfl, by decide +kernel, by decide +kernel⟩
noncomputable def mb_least_square : MS := (mSeq (mExpr (mCall m_check (mCons (mAndV (mCall m_is_integer (mCons (mVar 0) mNil)) (mOp opGe (mVar 0) (mC (.int 0)))) mNil)))
  (mRet (mCall m_root_under (mCons (mVar 0) (mCons (mC (.int 2)) mNil)))))
noncomputable def m_least_square : MF := mFun 1 mb_least_square
theorem c_least_square (T : Txt K mg C) : Cal P w K mg base "least_square" 3 1 m_least_square :=
  cal_of (N := ["n"]) (ps := ["n"]) (st := s_least_square) (mb := mb_least_square) (T.s_least_square.to (ps := ["n"]) fun _ _ _ _ _ _ us hl => match us, hl with | [_], _ => rfl) sc_least_square (fun f cdv A outer s H E hr => (dss_cons (ds_expr (de_call ((c_check T).mono (by decide)) hr (L2N.takes_of rfl rfl rfl rfl) (da_cons (de_and (de_call ((c_is_integer T).mono (by decide)) hr (L2N.takes_of rfl rfl rfl rfl) (da_cons (de_v 0) da_nil) (len_cons (fun _ _ _ _ => len_nil))) (de_one (de_ge (de_v 0) de_int))) da_nil) (len_cons (fun _ _ _ _ => len_nil))))
  (dss_one (ds_ret (de_call ((c_root_under T).mono (by decide)) hr (L2N.takes_of rfl rfl rfl rfl) (da_cons (de_v 0) (da_cons de_int da_nil)) (len_cons (len_cons (fun _ _ _ _ => len_nil))))))))
/-! #### _law_draws -/
theorem sc__law_draws : FnScope ["script", "draws", "cell", "number", "first", "k", "seed"] ["script"] (defScope s__law_draws) := ⟨rfl, rfl, rfl, by decide +kernel, rfl, by decide +kernel, by decide +kernel⟩
noncomputable def mb__law_draws : MS := (mSeq (mAsg (mLstM mNil) (gN 1))
  (mSeq (mFor (mItS (mVar 0)) (gN 2) (mSeq (mAsg (mAbs (mVar 2)) (gN 3))
  (mSeq (mIfS (mB (mOp opLt (mVar 3) (mOp opPow (mC (.int 10)) (mC (.int 18))))) (mSeq (mAsg (mOp opMod (mInt (mOp opAdd (mOp opMul (mVar 3) (mC (.int 48271))) (mC (.int 11)))) (mC (.int 2147483647))) (gN 4))
  (mSeq (mExpr (mApp (mVar 1) (mOp opMod (mInt (mOp opAdd (mOp opMul (mVar 4) (mC (.int 69621))) (mVar 3))) (mC (.int 2147483629)))))
  (mSeq (mExpr (mApp (mVar 1) (mOp opMod (mInt (mOp opAdd (mVar 4) (mOp opFdiv (mVar 3) (mC (.int 7))))) (mC (.int 1000003)))))
  (mAsg (mC (.int 0)) (gN 3))))) mNext)
  (mFor (mRng1 (mCons (mC (.int 60)) mNil)) (gN 5) (mIfS (mB (mOp opGt (mVar 3) (mC (.int 0)))) (mSeq (mExpr (mApp (mVar 1) (mOp opMod (mInt (mVar 3)) (mC (.int 997)))))
  (mAsg (mOp opFdiv (mVar 3) (mC (.int 997))) (gN 3))) mNext)))))
  (mSeq (mAsg (mC (.int 1)) (gN 6))
  (mSeq (mIfS (mB (mOp opGt (mLen (mVar 0)) (mC (.int 0)))) (mAsg (mOp opAdd (mC (.int 1)) (mAbs (mOp opIx (mVar 0) (mC (.int 0))))) (gN 6)) mNext)
  (mSeq (mFor (mRng1 (mCons (mC (.int 3000)) mNil)) (gN 5) (mSeq (mAsg (mOp opMod (mInt (mOp opAdd (mOp opMul (mVar 6) (mC (.int 48271))) (mC (.int 69621)))) (mC (.int 2147483647))) (gN 6))
  (mExpr (mApp (mVar 1) (mOp opFdiv (mVar 6) (mC (.int 5)))))))
  (mRet (mRvLM (mVar 1))))))))
noncomputable def m__law_draws : MF := mFunM 7 mb__law_draws
theorem c__law_draws (T : Txt K mg C) : Cal P w K mg base "_law_draws" 1 1 m__law_draws :=
  calM_of (N := ["script", "draws", "cell", "number", "first", "k", "seed"]) (ps := ["script"]) (st := s__law_draws) (mb := mb__law_draws) (T.s__law_draws.to (ps := ["script"]) fun _ _ _ _ _ _ us hl => match us, hl with | [_], _ => rfl) sc__law_draws (fun f cdv A outer s H E hr => (dss_cons (ds_set 1 sc__law_draws.nd (de_lstM da_nil))
  (dss_cons (ds_for (passes_of rfl) rfl (di_s (de_v 0)) (dg_n 2 sc__law_draws.nd) (dss_cons (ds_set 3 sc__law_draws.nd (de_abs T.n_abs (de_v 2)))
  (dss_cons (ds_if (dt_lt (de_v 3) (de_pow de_int de_int)) (dss_cons (ds_set 4 sc__law_draws.nd (de_mod (de_toInt T.n_int (de_add (de_mul (de_v 3) de_int) de_int)) de_int))
  (dss_cons (ds_expr (de_app (de_v 1) (de_mod (de_toInt T.n_int (de_add (de_mul (de_v 4) de_int) (de_v 3))) de_int)))
  (dss_cons (ds_expr (de_app (de_v 1) (de_mod (de_toInt T.n_int (de_add (de_v 4) (de_fdiv (de_v 3) de_int))) de_int)))
  (dss_one (ds_set 3 sc__law_draws.nd de_int))))) dss_nil)
  (dss_one (ds_for (passes_of rfl) rfl (di_rng1 T.n_range (da_cons de_int da_nil)) (dg_n 5 sc__law_draws.nd) (dss_one (ds_if (dt_gt (de_v 3) de_int) (dss_cons (ds_expr (de_app (de_v 1) (de_mod (de_toInt T.n_int (de_v 3)) de_int)))
  (dss_one (ds_set 3 sc__law_draws.nd (de_fdiv (de_v 3) de_int)))) dss_nil)))))))
  (dss_cons (ds_set 6 sc__law_draws.nd de_int)
  (dss_cons (ds_if (dt_gt (de_len T.n_len (de_v 0)) de_int) (dss_one (ds_set 6 sc__law_draws.nd (de_add de_int (de_abs T.n_abs (de_ix (de_v 0) de_int))))) dss_nil)
  (dss_cons (ds_for (passes_of rfl) rfl (di_rng1 T.n_range (da_cons de_int da_nil)) (dg_n 5 sc__law_draws.nd) (dss_cons (ds_set 6 sc__law_draws.nd (de_mod (de_toInt T.n_int (de_add (de_mul (de_v 6) de_int) de_int)) de_int))
  (dss_one (ds_expr (de_app (de_v 1) (de_fdiv (de_v 6) de_int))))))
  (dss_one (ds_ret (de_rvLM rfl T.n_list T.n_reversed (de_v 1))))))))))
/-! #### _law_same -/
theorem sc__law_same : FnScope ["actual", "due", "k", "key"] ["actual", "due"] (defScope s__law_same) := ⟨rfl, rfl, rfl, by decide +kernel, rfl, by decide +kernel, by decide +kernel⟩
noncomputable def mb__law_same (m : Nat → MF) (l : Nat) : MS := (mSeq (mIfS (mB (mOp opIsN (mVar 1) (mC .non))) (mRet (mOp opIsN (mVar 0) (mC .non))) mNext)
  (mSeq (mIfS (mOr (mB (mIsi .tup (mVar 1))) (mB (mIsi .lst (mVar 1)))) (mSeq (mIfS (mOr (mB (mOp opNe (mIsi .tup (mVar 1)) (mIsi .tup (mVar 0)))) (mB (mOp opNe (mIsi .lst (mVar 1)) (mIsi .lst (mVar 0))))) (mRet (mC (.bl false))) mNext)
  (mSeq (mIfS (mB (mOp opNe (mLen (mVar 0)) (mLen (mVar 1)))) (mRet (mC (.bl false))) mNext)
  (mSeq (mFor (mRng1 (mCons (mLen (mVar 1)) mNil)) (gN 2) (mIfS (mNot (mB (mCall (m l) (mCons (mOp opIx (mVar 0) (mVar 2)) (mCons (mOp opIx (mVar 1) (mVar 2)) mNil))))) (mRet (mC (.bl false))) mNext))
  (mRet (mC (.bl true)))))) mNext)
  (mSeq (mIfS (mB (mIsi .dic (mVar 1))) (mSeq mNever
  mNever) mNext)
  (mSeq (mIfS (mB (mOp opNe (mIsi .bl (mVar 1)) (mIsi .bl (mVar 0)))) (mRet (mC (.bl false))) mNext)
  (mSeq (mIfS (mOr (mB (mOp opNe (mIsi .int (mVar 1)) (mIsi .int (mVar 0)))) (mB (mOp opNe (mIsi .str (mVar 1)) (mIsi .str (mVar 0))))) (mRet (mC (.bl false))) mNext)
  (mRet (mOp opEq (mVar 0) (mVar 1))))))))
noncomputable def m__law_same : Nat → MF
  | 0 => fun _ _ => .bad
  | l + 1 => mFun 4 (mb__law_same (fun _ => m__law_same l) l)
theorem c__law_same (T : Txt K mg C) : ∀ l, Cal P w K mg base "_law_same" l 2 (m__law_same l)
  | 0 => cal_bad T.s__law_same
  | l + 1 => by
    have ih := c__law_same T l
    exact cal_of (N := ["actual", "due", "k", "key"]) (ps := ["actual", "due"]) (st := s__law_same) (mb := mb__law_same (fun _ => m__law_same l) l) (T.s__law_same.to (ps := ["actual", "due"]) fun _ _ _ _ _ _ us hl => match us, hl with | [_, _], _ => rfl) sc__law_same (fun f cdv A outer s H E hr => (dss_cons (ds_if (dt_is (de_v 1) de_non) (dss_one (ds_ret (de_is (de_v 0) de_non))) dss_nil)
  (dss_cons (ds_if (dt_w (dw_or (dt_val (de_isi .tup (by decide +kernel) (by decide) T.n_isinstance T.n_tuple (de_v 1))) (dw_or1 (dt_val (de_isi .lst (by decide +kernel) (by decide) T.n_isinstance T.n_list (de_v 1)))))) (dss_cons (ds_if (dt_w (dw_or (dt_ne hr.units (de_isi .tup (by decide +kernel) (by decide) T.n_isinstance T.n_tuple (de_v 1)) (de_isi .tup (by decide +kernel) (by decide) T.n_isinstance T.n_tuple (de_v 0))) (dw_or1 (dt_ne hr.units (de_isi .lst (by decide +kernel) (by decide) T.n_isinstance T.n_list (de_v 1)) (de_isi .lst (by decide +kernel) (by decide) T.n_isinstance T.n_list (de_v 0)))))) (dss_one (ds_ret de_bl)) dss_nil)
  (dss_cons (ds_if (dt_ne hr.units (de_len T.n_len (de_v 0)) (de_len T.n_len (de_v 1))) (dss_one (ds_ret de_bl)) dss_nil)
  (dss_cons (ds_for (passes_of rfl) rfl (di_rng1 T.n_range (da_cons (de_len T.n_len (de_v 1)) da_nil)) (dg_n 2 sc__law_same.nd) (dss_one (ds_if (dt_not (dt_val (de_call (ih) hr (L2N.takes_of rfl rfl rfl rfl) (da_cons (de_ix (de_v 0) (de_v 2)) (da_cons (de_ix (de_v 1) (de_v 2)) da_nil)) (len_cons (len_cons (fun _ _ _ _ => len_nil)))))) (dss_one (ds_ret de_bl)) dss_nil)))
  (dss_one (ds_ret de_bl))))) dss_nil)
  (dss_cons (ds_if (dt_val (de_isi .dic (by decide +kernel) (by decide) T.n_isinstance T.n_dict (de_v 1))) (dss_cons ds_never
  (dss_one ds_never)) dss_nil)
  (dss_cons (ds_if (dt_ne hr.units (de_isi .bl (by decide +kernel) (by decide) T.n_isinstance T.n_bool (de_v 1)) (de_isi .bl (by decide +kernel) (by decide) T.n_isinstance T.n_bool (de_v 0))) (dss_one (ds_ret de_bl)) dss_nil)
  (dss_cons (ds_if (dt_w (dw_or (dt_ne hr.units (de_isi .int (by decide +kernel) (by decide) T.n_isinstance T.n_int (de_v 1)) (de_isi .int (by decide +kernel) (by decide) T.n_isinstance T.n_int (de_v 0))) (dw_or1 (dt_ne hr.units (de_isi .str (by decide +kernel) (by decide) T.n_isinstance T.n_str (de_v 1)) (de_isi .str (by decide +kernel) (by decide) T.n_isinstance T.n_str (de_v 0)))))) (dss_one (ds_ret de_bl)) dss_nil)
  (dss_one (ds_ret (de_eq hr.units (de_v 0) (de_v 1))))))))))
/-! #### _law_take -/
theorem sc__law_take : FnScope ["draws", "bound"] ["draws", "bound"] (defScope s__law_take) := ⟨rfl, rfl, rfl, by decide +kernel, rfl, by decide +kernel, by decide +kernel⟩
noncomputable def mb__law_take : MS := (mSeq (mIfS (mB (mOp opEq (mLen (mVar 0)) (mC (.int 0)))) (mRet (mC (.int 0))) mNext)
  (mRet (mOp opMod (mInt (mPop (mVar 0))) (mVar 1))))
noncomputable def m__law_take : MF := mFun 2 mb__law_take
theorem c__law_take (T : Txt K mg C) : Cal P w K mg base "_law_take" 1 2 m__law_take :=
  cal_of (N := ["draws", "bound"]) (ps := ["draws", "bound"]) (st := s__law_take) (mb := mb__law_take) (T.s__law_take.to (ps := ["draws", "bound"]) fun _ _ _ _ _ _ us hl => match us, hl with | [_, _], _ => rfl) sc__law_take (fun f cdv A outer s H E hr => (dss_cons (ds_if (dt_eq hr.units (de_len T.n_len (de_v 0)) de_int) (dss_one (ds_ret de_int)) dss_nil)
  (dss_one (ds_ret (de_mod (de_toInt T.n_int (de_pop (de_v 0))) (de_v 1))))))
/-! #### _law_pick -/
theorem sc__law_pick : FnScope ["draws", "some"] ["draws", "some"] (defScope s__law_pick) := ⟨rfl, rfl, rfl, by decide +kernel, rfl, by decide +kernel, by decide +kernel⟩
noncomputable def mb__law_pick : MS := (mRet (mOp opIx (mVar 1) (mCall m__law_take (mCons (mVar 0) (mCons (mLen (mVar 1)) mNil)))))
noncomputable def m__law_pick : MF := mFun 2 mb__law_pick
theorem c__law_pick (T : Txt K mg C) : Cal P w K mg base "_law_pick" 2 2 m__law_pick :=
  cal_of (N := ["draws", "some"]) (ps := ["draws", "some"]) (st := s__law_pick) (mb := mb__law_pick) (T.s__law_pick.to (ps := ["draws", "some"]) fun _ _ _ _ _ _ us hl => match us, hl with | [_, _], _ => rfl) sc__law_pick (fun f cdv A outer s H E hr => (dss_one (ds_ret (de_ix (de_v 1) (de_call ((c__law_take T).mono (by decide)) hr (L2N.takes_of rfl rfl rfl rfl) (da_cons (de_v 0) (da_cons (de_len T.n_len (de_v 1)) da_nil)) (len_cons (len_cons (fun _ _ _ _ => len_nil))))))))
/-! #### _law_flag -/
theorem sc__law_flag : FnScope ["error", "kinds", "k"] ["error"] (defScope s__law_flag) := ⟨rfl, rfl, rfl, by decide +kernel, rfl, by decide +kernel, by decide +kernel⟩
/-- the mirror of the law's word -/
noncomputable def mb__law_flag (a : Addr) (b1 b2 b3 b4 b5 b6 : Bool) : MS := mSeq (mAsg (mLst (mCons (mIsE a b1 (mVar 0)) (mCons (mIsE a b2 (mVar 0)) (mCons (mIsE a b3 (mVar 0)) (mCons (mIsE a b4 (mVar 0)) (mCons (mIsE a b5 (mVar 0)) (mCons (mIsE a b6 (mVar 0)) mNil))))))) (gN 1))
  (mRet (mOp opAdd (mC (.str "refused ")) (mStr (mSum (mLc (mRng1 (mCons (mC (.int 6)) mNil)) [2] (gN 2) mYes (mOp opMul (mOp opAdd (mVar 2) (mC (.int 1))) (mInt (mOp opIx (mVar 1) (mVar 2)))))))))
theorem flag_ok {i : Nat} {t : Str} {b1 b2 b3 b4 b5 b6 : Bool} {k : Nat} (T : Txt K mg C) (c : ExcC K (C i)) (h1 : PySem.W.kitOne K (.ref (C i)) (.ref (C 1)) = some b1) (h2 : PySem.W.kitOne K (.ref (C i)) (.ref (C 2)) = some b2) (h3 : PySem.W.kitOne K (.ref (C i)) (.ref (C 3)) = some b3)
    (h4 : PySem.W.kitOne K (.ref (C i)) (.ref (C 4)) = some b4) (h5 : PySem.W.kitOne K (.ref (C i)) (.ref (C 5)) = some b5) (h6 : PySem.W.kitOne K (.ref (C i)) (.ref (C 6)) = some b6) (hm : ∀ a s, mb__law_flag a b1 b2 b3 b4 b5 b6 (startR 3 [.fn a]) s = .rt (.str t) s) :
    FlagOk P w K mg base (k + 1) "_law_flag" (C i) t := by
  refine flag_of (N := ["error", "kinds", "k"]) (fun a => mb__law_flag a b1 b2 b3 b4 b5 b6) T.s__law_flag sc__law_flag (fun _ _ _ _ _ _ us hl => match us, hl with | [_], _ => rfl) hm fun f cdv A outer s H E p hot hz hr => ?_
  have hc : ∀ X : Cx, X.A = A.deeper (envOfC "_law_flag" (defScope s__law_flag) s.heap.objs.size f cdv) → X.pn = [p] → HotC X := fun X e1 e2 => ⟨p, by rw [e1]; exact ⟨hot.1, hot.2⟩, by rw [e2]; simp⟩
  obtain ⟨vs, hd, _⟩ := id hot.2
  have hp : p ∈ [p] := by simp
  have zc := hz.zc
  have hu : (A.deeper (envOfC "_law_flag" (defScope s__law_flag) s.heap.objs.size f cdv)).units + 64 < cLine := by have := hr.un; omega
  exact dss_cons (ds_set 1 sc__law_flag.nd (de_lst (da_cons (de_isE c hp zc ⟨vs, hd⟩ T.n_isinstance T.m1 h1 (de_v 0)) (da_cons (de_isE c hp zc ⟨vs, hd⟩ T.n_isinstance T.m2 h2 (de_v 0)) (da_cons (de_isE c hp zc ⟨vs, hd⟩ T.n_isinstance T.m3 h3 (de_v 0)) (da_cons (de_isE c hp zc ⟨vs, hd⟩ T.n_isinstance T.m4 h4 (de_v 0))
      (da_cons (de_isE c hp zc ⟨vs, hd⟩ T.n_isinstance T.m5 h5 (de_v 0)) (da_cons (de_isE c hp zc ⟨vs, hd⟩ T.n_isinstance T.m6 h6 (de_v 0)) da_nil))))))))
    (dss_one (ds_ret (de_add de_str (de_toStr T.n_str (de_sumH (hc _ rfl rfl) T.n_sum (de_lcH [("k", 2)] (hc _ rfl rfl) sc__law_flag.nd (hot_rng T.n_range (da_cons de_int da_nil)) (blkOk_by (show blkC ["error", "kinds", "k"] (defScope s__law_flag) _ [("k", 2)] = true by decide +kernel)) (gok_n (by simp)) (fun _ _ _ _ _ => pg_name (i := 2) sc__law_flag.nd rfl (Or.inl rfl) (Or.inr rfl))
      (fun _ _ _ _ _ => de_mul (de_add (de_v 2) de_int) (de_toInt T.n_int (de_ix (de_v 1) (de_v 2))))))))))
theorem flag_lc (a : Addr) (s : Sto) (b1 b2 b3 b4 b5 b6 : Bool) : mLc (mRng1 (mCons (mC (.int 6)) mNil)) [2] (gN 2) mYes (mOp opMul (mOp opAdd (mVar 2) (mC (.int 1))) (mInt (mOp opIx (mVar 1) (mVar 2)))) [some (.fn a), some (.lst [.bl b1, .bl b2, .bl b3, .bl b4, .bl b5, .bl b6]), none] s
    = .ok (.lst [.int (if b1 then 1 else 0), .int (if b2 then 2 else 0), .int (if b3 then 3 else 0), .int (if b4 then 4 else 0), .int (if b5 then 5 else 0), .int (if b6 then 6 else 0)]) s := by
  refine mLc_of (ds := [.int 0, .int 1, .int 2, .int 3, .int 4, .int 5]) rfl ?_
  refine Eq.trans (lcL_step (y := .int (if b1 then 1 else 0)) (by cases b1 <;> rfl) (small_lt (by simp))) ?_
  refine Eq.trans (lcL_step (y := .int (if b2 then 2 else 0)) (by cases b2 <;> rfl) (small_lt (by simp))) ?_
  refine Eq.trans (lcL_step (y := .int (if b3 then 3 else 0)) (by cases b3 <;> rfl) (small_lt (by simp))) ?_
  refine Eq.trans (lcL_step (y := .int (if b4 then 4 else 0)) (by cases b4 <;> rfl) (small_lt (by simp))) ?_
  refine Eq.trans (lcL_step (y := .int (if b5 then 5 else 0)) (by cases b5 <;> rfl) (small_lt (by simp))) ?_
  refine Eq.trans (lcL_step (y := .int (if b6 then 6 else 0)) (by cases b6 <;> rfl) (small_lt (by simp))) ?_
  exact lcL_nil
theorem flag_s (i : Int) (t : String) (n : Nat) (hi : (Str.ofString "refused " ++ Str.ofString (toString i)) = Str.ofString t) (hl : (Str.ofString "refused ").length + (Str.ofString (toString i)).length ≤ sizeLine) (hs : i.natAbs.log2 < 1920) (a : Addr) (s : Sto) (b1 b2 b3 b4 b5 b6 : Bool)
    (hsum : ([(if b1 then 1 else 0), (if b2 then 2 else 0), (if b3 then 3 else 0), (if b4 then 4 else 0), (if b5 then 5 else 0), (if b6 then 6 else 0)] : List Int).sum = i) : mb__law_flag a b1 b2 b3 b4 b5 b6 (startR 3 [.fn a]) s = .rt (.str t) s := by
  unfold mb__law_flag
  have A : mAsg (mLst (mCons (mIsE a b1 (mVar 0)) (mCons (mIsE a b2 (mVar 0)) (mCons (mIsE a b3 (mVar 0)) (mCons (mIsE a b4 (mVar 0)) (mCons (mIsE a b5 (mVar 0)) (mCons (mIsE a b6 (mVar 0)) mNil))))))) (gN 1) (startR 3 [.fn a]) s = .nx [some (.fn a), some (.lst [.bl b1, .bl b2, .bl b3, .bl b4, .bl b5, .bl b6]), none] s := by
    have e : ∀ b : Bool, mIsE a b (mVar 0) [some (.fn a), none, none] s = .ok (.bl b) s := fun b => by
      show (if a = a then Res.ok (D.bl b) s else .bad) = _
      rw [if_pos rfl]
    show Res.st (mLst _ [some (.fn a), none, none] s) _ _ = _
    unfold mLst mCons
    simp only [e, Res.bind_ok, mNil]
    rfl
  show SR.seq (mAsg _ _ _ _) _ = _
  rw [A]
  show Res.st (mOp opAdd (mC (.str "refused ")) (mStr (mSum _)) _ s) _ _ = _
  have B : mSum (mLc (mRng1 (mCons (mC (.int 6)) mNil)) [2] (gN 2) mYes (mOp opMul (mOp opAdd (mVar 2) (mC (.int 1))) (mInt (mOp opIx (mVar 1) (mVar 2))))) [some (.fn a), some (.lst [.bl b1, .bl b2, .bl b3, .bl b4, .bl b5, .bl b6]), none] s = .ok (.int i) s := by
    show Res.bind (Res.bind (mLc _ _ _ _ _ _ s) _) _ = _
    rw [flag_lc]
    rw [← hsum]
    rfl
  have B2 : mStr (mSum (mLc (mRng1 (mCons (mC (.int 6)) mNil)) [2] (gN 2) mYes (mOp opMul (mOp opAdd (mVar 2) (mC (.int 1))) (mInt (mOp opIx (mVar 1) (mVar 2)))))) [some (.fn a), some (.lst [.bl b1, .bl b2, .bl b3, .bl b4, .bl b5, .bl b6]), none] s = .ok (.str (Str.ofString (toString i))) s := by
    show Res.bind (Res.bind (mSum _ _ s) _) _ = _
    rw [B]
    show (if i.natAbs.log2 < 1920 then _ else _) = _
    rw [if_pos hs]
  show Res.st (Res.bind (mStr _ _ s) _) _ _ = _
  rw [B2, Res.bind_ok, r_addS hl, hi]
  rfl
theorem flag_1 (a : Addr) (s : Sto) : mb__law_flag a true false false false false false (startR 3 [.fn a]) s = .rt (.str "refused 1") s := flag_s 1 "refused 1" 0 (by decide +kernel) (by decide +kernel) (by decide) a s _ _ _ _ _ _ rfl
theorem flag_3 (a : Addr) (s : Sto) : mb__law_flag a false false true false false false (startR 3 [.fn a]) s = .rt (.str "refused 3") s := flag_s 3 "refused 3" 0 (by decide +kernel) (by decide +kernel) (by decide) a s _ _ _ _ _ _ rfl
def tell (c : Str) : Option Str := if c = "NotRight" then some "refused 1" else if c = "NoAnswer" then some "refused 3" else none
theorem tell_ok {c t : Str} {cls : Value} {k : Nat} (T : Txt K mg C) (ht : tell c = some t) (hc : mg c = some cls) : ∃ D, cls = .ref D ∧ PySem.W.exmOne K (.ref D) (.ref (C 0)) = some true ∧ FlagOk P w K mg base (k + 1) "_law_flag" D t := by
  unfold tell at ht
  split at ht
  · rename_i h
    cases ht
    subst h
    exact ⟨C 1, Option.some.inj (hc.symm.trans T.m1), T.t1, flag_ok T T.x1 T.k11 T.k12 T.k13 T.k14 T.k15 T.k16 flag_1⟩
  · split at ht
    · rename_i h
      cases ht
      subst h
      exact ⟨C 3, Option.some.inj (hc.symm.trans T.m3), T.t3, flag_ok T T.x3 T.k31 T.k32 T.k33 T.k34 T.k35 T.k36 flag_3⟩
    · cases ht
/-! #### _law_r -/
theorem sc__law_r : FnScope ["n", "d", "a", "b", "turn"] ["n", "d"] (defScope s__law_r) := ⟨rfl, rfl, rfl, by decide +kernel, rfl, by decide +kernel, by decide +kernel⟩
noncomputable def mb__law_r : MS := (mSeq (mPar 2 3 (mCons (mAbs (mVar 0)) (mCons (mAbs (mVar 1)) mNil)))
  (mSeq (mFor (mRng1 (mCons (mC (.int 400000)) mNil)) (gN 4) (mSeq (mIfS (mB (mOp opEq (mVar 3) (mC (.int 0)))) mBreak mNext)
  (mPar 2 3 (mCons (mVar 3) (mCons (mOp opMod (mInt (mVar 2)) (mVar 3)) mNil)))))
  (mRet (mIf (mB (mOp opGt (mVar 1) (mC (.int 0)))) (mTup (mCons (mOp opFdiv (mVar 0) (mVar 2)) (mCons (mOp opFdiv (mVar 1) (mVar 2)) mNil))) (mTup (mCons (mOp opSub (mC (.int 0)) (mOp opFdiv (mVar 0) (mVar 2))) (mCons (mOp opSub (mC (.int 0)) (mOp opFdiv (mVar 1) (mVar 2))) mNil)))))))
noncomputable def m__law_r : MF := mFun 5 mb__law_r
theorem c__law_r (T : Txt K mg C) : Cal P w K mg base "_law_r" 1 2 m__law_r :=
  cal_of (N := ["n", "d", "a", "b", "turn"]) (ps := ["n", "d"]) (st := s__law_r) (mb := mb__law_r) (T.s__law_r.to (ps := ["n", "d"]) fun _ _ _ _ _ _ us hl => match us, hl with | [_, _], _ => rfl) sc__law_r (fun f cdv A outer s H E hr => (dss_cons (ds_par 2 3 rfl sc__law_r.nd (da_cons (de_abs T.n_abs (de_v 0)) (da_cons (de_abs T.n_abs (de_v 1)) da_nil)))
  (dss_cons (ds_for (passes_of rfl) rfl (di_rng1 T.n_range (da_cons de_int da_nil)) (dg_n 4 sc__law_r.nd) (dss_cons (ds_if (dt_eq hr.units (de_v 3) de_int) (dss_one ds_break) dss_nil)
  (dss_one (ds_par 2 3 rfl sc__law_r.nd (da_cons (de_v 3) (da_cons (de_mod (de_toInt T.n_int (de_v 2)) (de_v 3)) da_nil))))))
  (dss_one (ds_ret (de_if (dt_gt (de_v 1) de_int) (de_tup (da_cons (de_fdiv (de_v 0) (de_v 2)) (da_cons (de_fdiv (de_v 1) (de_v 2)) da_nil))) (de_tup (da_cons (de_sub de_int (de_fdiv (de_v 0) (de_v 2))) (da_cons (de_sub de_int (de_fdiv (de_v 1) (de_v 2))) da_nil)))))))))
/-! #### _law_add -/
theorem sc__law_add : FnScope ["a", "b"] ["a", "b"] (defScope s__law_add) := ⟨rfl, rfl, rfl, by decide +kernel, rfl, by decide +kernel, by decide +kernel⟩
noncomputable def mb__law_add : MS := (mRet (mCall m__law_r (mCons (mOp opAdd (mOp opMul (mOp opIx (mVar 0) (mC (.int 0))) (mOp opIx (mVar 1) (mC (.int 1)))) (mOp opMul (mOp opIx (mVar 1) (mC (.int 0))) (mOp opIx (mVar 0) (mC (.int 1))))) (mCons (mOp opMul (mOp opIx (mVar 0) (mC (.int 1))) (mOp opIx (mVar 1) (mC (.int 1)))) mNil))))
noncomputable def m__law_add : MF := mFun 2 mb__law_add
theorem c__law_add (T : Txt K mg C) : Cal P w K mg base "_law_add" 2 2 m__law_add :=
  cal_of (N := ["a", "b"]) (ps := ["a", "b"]) (st := s__law_add) (mb := mb__law_add) (T.s__law_add.to (ps := ["a", "b"]) fun _ _ _ _ _ _ us hl => match us, hl with | [_, _], _ => rfl) sc__law_add (fun f cdv A outer s H E hr => (dss_one (ds_ret (de_call ((c__law_r T).mono (by decide)) hr (L2N.takes_of rfl rfl rfl rfl) (da_cons (de_add (de_mul (de_ix (de_v 0) de_int) (de_ix (de_v 1) de_int)) (de_mul (de_ix (de_v 1) de_int) (de_ix (de_v 0) de_int))) (da_cons (de_mul (de_ix (de_v 0) de_int) (de_ix (de_v 1) de_int)) da_nil)) (len_cons (len_cons (fun _ _ _ _ => len_nil)))))))
/-! #### _law_sub -/
theorem sc__law_sub : FnScope ["a", "b"] ["a", "b"] (defScope s__law_sub) := ⟨rfl, rfl, rfl, by decide +kernel, rfl, by decide +kernel, by decide +kernel⟩
noncomputable def mb__law_sub : MS := (mRet (mCall m__law_r (mCons (mOp opSub (mOp opMul (mOp opIx (mVar 0) (mC (.int 0))) (mOp opIx (mVar 1) (mC (.int 1)))) (mOp opMul (mOp opIx (mVar 1) (mC (.int 0))) (mOp opIx (mVar 0) (mC (.int 1))))) (mCons (mOp opMul (mOp opIx (mVar 0) (mC (.int 1))) (mOp opIx (mVar 1) (mC (.int 1)))) mNil))))
noncomputable def m__law_sub : MF := mFun 2 mb__law_sub
theorem c__law_sub (T : Txt K mg C) : Cal P w K mg base "_law_sub" 2 2 m__law_sub :=
  cal_of (N := ["a", "b"]) (ps := ["a", "b"]) (st := s__law_sub) (mb := mb__law_sub) (T.s__law_sub.to (ps := ["a", "b"]) fun _ _ _ _ _ _ us hl => match us, hl with | [_, _], _ => rfl) sc__law_sub (fun f cdv A outer s H E hr => (dss_one (ds_ret (de_call ((c__law_r T).mono (by decide)) hr (L2N.takes_of rfl rfl rfl rfl) (da_cons (de_sub (de_mul (de_ix (de_v 0) de_int) (de_ix (de_v 1) de_int)) (de_mul (de_ix (de_v 1) de_int) (de_ix (de_v 0) de_int))) (da_cons (de_mul (de_ix (de_v 0) de_int) (de_ix (de_v 1) de_int)) da_nil)) (len_cons (len_cons (fun _ _ _ _ => len_nil)))))))
/-! #### _law_mul -/
theorem sc__law_mul : FnScope ["a", "b"] ["a", "b"] (defScope s__law_mul) := ⟨rfl, rfl, rfl, by decide +kernel, rfl, by decide +kernel, by decide +kernel⟩
noncomputable def mb__law_mul : MS := (mRet (mCall m__law_r (mCons (mOp opMul (mOp opIx (mVar 0) (mC (.int 0))) (mOp opIx (mVar 1) (mC (.int 0)))) (mCons (mOp opMul (mOp opIx (mVar 0) (mC (.int 1))) (mOp opIx (mVar 1) (mC (.int 1)))) mNil))))
noncomputable def m__law_mul : MF := mFun 2 mb__law_mul
theorem c__law_mul (T : Txt K mg C) : Cal P w K mg base "_law_mul" 2 2 m__law_mul :=
  cal_of (N := ["a", "b"]) (ps := ["a", "b"]) (st := s__law_mul) (mb := mb__law_mul) (T.s__law_mul.to (ps := ["a", "b"]) fun _ _ _ _ _ _ us hl => match us, hl with | [_, _], _ => rfl) sc__law_mul (fun f cdv A outer s H E hr => (dss_one (ds_ret (de_call ((c__law_r T).mono (by decide)) hr (L2N.takes_of rfl rfl rfl rfl) (da_cons (de_mul (de_ix (de_v 0) de_int) (de_ix (de_v 1) de_int)) (da_cons (de_mul (de_ix (de_v 0) de_int) (de_ix (de_v 1) de_int)) da_nil)) (len_cons (len_cons (fun _ _ _ _ => len_nil)))))))
/-! #### _law_less -/
theorem sc__law_less : FnScope ["a", "b"] ["a", "b"] (defScope s__law_less) := ⟨rfl, rfl, rfl, by decide +kernel, rfl, by decide +kernel, by decide +kernel⟩
noncomputable def mb__law_less : MS := (mRet (mOp opLt (mOp opMul (mOp opIx (mVar 0) (mC (.int 0))) (mOp opIx (mVar 1) (mC (.int 1)))) (mOp opMul (mOp opIx (mVar 1) (mC (.int 0))) (mOp opIx (mVar 0) (mC (.int 1))))))
noncomputable def m__law_less : MF := mFun 2 mb__law_less
theorem c__law_less (T : Txt K mg C) : Cal P w K mg base "_law_less" 1 2 m__law_less :=
  cal_of (N := ["a", "b"]) (ps := ["a", "b"]) (st := s__law_less) (mb := mb__law_less) (T.s__law_less.to (ps := ["a", "b"]) fun _ _ _ _ _ _ us hl => match us, hl with | [_, _], _ => rfl) sc__law_less (fun f cdv A outer s H E hr => (dss_one (ds_ret (de_lt (de_mul (de_ix (de_v 0) de_int) (de_ix (de_v 1) de_int)) (de_mul (de_ix (de_v 1) de_int) (de_ix (de_v 0) de_int))))))
/-! #### _law_twos -/
theorem sc__law_twos : FnScope ["many", "found", "k"] ["many"] (defScope s__law_twos) := ⟨rfl, rfl, rfl, by decide +kernel, rfl, by decide +kernel, by decide +kernel⟩
noncomputable def mb__law_twos : MS := (mSeq (mAsg (mC (.int 1)) (gN 1))
  (mSeq (mFor (mRng1 (mCons (mVar 0) mNil)) (gN 2) (mAsg (mOp opMul (mVar 1) (mC (.int 2))) (gN 1)))
  (mRet (mVar 1))))
noncomputable def m__law_twos : MF := mFun 3 mb__law_twos
theorem c__law_twos (T : Txt K mg C) : Cal P w K mg base "_law_twos" 1 1 m__law_twos :=
  cal_of (N := ["many", "found", "k"]) (ps := ["many"]) (st := s__law_twos) (mb := mb__law_twos) (T.s__law_twos.to (ps := ["many"]) fun _ _ _ _ _ _ us hl => match us, hl with | [_], _ => rfl) sc__law_twos (fun f cdv A outer s H E hr => (dss_cons (ds_set 1 sc__law_twos.nd de_int)
  (dss_cons (ds_for (passes_of rfl) rfl (di_rng1 T.n_range (da_cons (de_v 0) da_nil)) (dg_n 2 sc__law_twos.nd) (dss_one (ds_set 1 sc__law_twos.nd (de_mul (de_v 1) de_int))))
  (dss_one (ds_ret (de_v 1))))))
/-! #### _law_any -/
theorem sc__law_any : FnScope ["draws"] ["draws"] (defScope s__law_any) := ⟨rfl, rfl, rfl, by decide +kernel, rfl, by decide +kernel, by decide +kernel⟩
noncomputable def mb__law_any : MS := (mRet (mCall m__law_r (mCons (mOp opAdd (mCall m__law_pick (mCons (mVar 0) (mCons (mLst (mCons (mC (.int 0)) (mCons (mC (.int 1)) (mCons (mNeg (mC (.int 1))) (mCons (mC (.int 7)) (mCons (mNeg (mC (.int 12))) (mCons (mC (.int 360)) (mCons (mNeg (mC (.int 1001))) (mCons (mC (.int 99991)) mNil))))))))) mNil))) (mCall m__law_take (mCons (mVar 0) (mCons (mC (.int 9)) mNil)))) (mCons (mCall m__law_pick (mCons (mVar 0) (mCons (mLst (mCons (mC (.int 1)) (mCons (mC (.int 2)) (mCons (mC (.int 3)) (mCons (mC (.int 8)) (mCons (mC (.int 10)) (mCons (mC (.int 97)) (mCons (mC (.int 1024)) mNil)))))))) mNil))) mNil))))
noncomputable def m__law_any : MF := mFun 1 mb__law_any
theorem c__law_any (T : Txt K mg C) : Cal P w K mg base "_law_any" 3 1 m__law_any :=
  cal_of (N := ["draws"]) (ps := ["draws"]) (st := s__law_any) (mb := mb__law_any) (T.s__law_any.to (ps := ["draws"]) fun _ _ _ _ _ _ us hl => match us, hl with | [_], _ => rfl) sc__law_any (fun f cdv A outer s H E hr => (dss_one (ds_ret (de_call ((c__law_r T).mono (by decide)) hr (L2N.takes_of rfl rfl rfl rfl) (da_cons (de_add (de_call ((c__law_pick T).mono (by decide)) hr (L2N.takes_of rfl rfl rfl rfl) (da_cons (de_v 0) (da_cons (de_lst (da_cons de_int (da_cons de_int (da_cons (de_neg de_int) (da_cons de_int (da_cons (de_neg de_int) (da_cons de_int (da_cons (de_neg de_int) (da_cons de_int da_nil))))))))) da_nil)) (len_cons (len_cons (fun _ _ _ _ => len_nil)))) (de_call ((c__law_take T).mono (by decide)) hr (L2N.takes_of rfl rfl rfl rfl) (da_cons (de_v 0) (da_cons de_int da_nil)) (len_cons (len_cons (fun _ _ _ _ => len_nil))))) (da_cons (de_call ((c__law_pick T).mono (by decide)) hr (L2N.takes_of rfl rfl rfl rfl) (da_cons (de_v 0) (da_cons (de_lst (da_cons de_int (da_cons de_int (da_cons de_int (da_cons de_int (da_cons de_int (da_cons de_int (da_cons de_int da_nil)))))))) da_nil)) (len_cons (len_cons (fun _ _ _ _ => len_nil)))) da_nil)) (len_cons (len_cons (fun _ _ _ _ => len_nil)))))))
/-! #### _law_power -/
theorem sc__law_power : FnScope ["a", "n", "found", "k"] ["a", "n"] (defScope s__law_power) := ⟨rfl, rfl, rfl, by decide +kernel, rfl, by decide +kernel, by decide +kernel⟩
noncomputable def mb__law_power : MS := (mSeq (mAsg (mTup (mCons (mC (.int 1)) (mCons (mC (.int 1)) mNil))) (gN 2))
  (mSeq (mFor (mRng1 (mCons (mVar 1) mNil)) (gN 3) (mAsg (mCall m__law_mul (mCons (mVar 2) (mCons (mVar 0) mNil))) (gN 2)))
  (mRet (mVar 2))))
noncomputable def m__law_power : MF := mFun 4 mb__law_power
theorem c__law_power (T : Txt K mg C) : Cal P w K mg base "_law_power" 3 2 m__law_power :=
  cal_of (N := ["a", "n", "found", "k"]) (ps := ["a", "n"]) (st := s__law_power) (mb := mb__law_power) (T.s__law_power.to (ps := ["a", "n"]) fun _ _ _ _ _ _ us hl => match us, hl with | [_, _], _ => rfl) sc__law_power (fun f cdv A outer s H E hr => (dss_cons (ds_set 2 sc__law_power.nd (de_tup (da_cons de_int (da_cons de_int da_nil))))
  (dss_cons (ds_for (passes_of rfl) rfl (di_rng1 T.n_range (da_cons (de_v 1) da_nil)) (dg_n 3 sc__law_power.nd) (dss_one (ds_set 2 sc__law_power.nd (de_call ((c__law_mul T).mono (by decide)) hr (L2N.takes_of rfl rfl rfl rfl) (da_cons (de_v 2) (da_cons (de_v 0) da_nil)) (len_cons (len_cons (fun _ _ _ _ => len_nil)))))))
  (dss_one (ds_ret (de_v 2))))))
/-! #### _law_told -/
theorem sc__law_told : FnScope ["which", "args", "error"] ["which", "args"] (defScope s__law_told) := ⟨rfl, rfl, rfl, by decide +kernel, rfl, by decide +kernel, by decide +kernel⟩
noncomputable def mb__law_told : MS := (mTry (mSeq (mIfS (mB (mOp opLt (mVar 0) (mC (.int 6)))) (mRet (mTab [m_plus, m_minus, m_times, m_over, m_compare, m_ratio] (mVar 0) (mCons (mOp opIx (mVar 1) (mC (.int 0))) (mCons (mOp opIx (mVar 1) (mC (.int 1))) mNil)))) mNext)
  (mSeq (mIfS (mB (mOp opLt (mVar 0) (mC (.int 11)))) (mRet (mTab [m_floor_of, m_ceiling_of, m_shown_ratio, m_halved, m_least_square] (mOp opSub (mVar 0) (mC (.int 6))) (mCons (mOp opIx (mVar 1) (mC (.int 0))) mNil))) mNext)
  (mRet (mTab [m_power, m_down_to, m_up_to, m_decimal_of] (mOp opSub (mVar 0) (mC (.int 11))) (mCons (mOp opIx (mVar 1) (mC (.int 0))) (mCons (mOp opIx (mVar 1) (mC (.int 1))) mNil)))))) tell)
noncomputable def m__law_told : MF := mFun 3 mb__law_told
theorem c__law_told (T : Txt K mg C) : Cal P w K mg base "_law_told" 6 2 m__law_told :=
  cal_of (N := ["which", "args", "error"]) (ps := ["which", "args"]) (st := s__law_told) (mb := mb__law_told) (T.s__law_told.to (ps := ["which", "args"]) fun _ _ _ _ _ _ us hl => match us, hl with | [_, _], _ => rfl) sc__law_told (fun f cdv A outer s H E hr => (dss_one (ds_try (i := 2) tell rfl rfl sc__law_told.nd T.nmW (L2N.takes_of rfl rfl rfl rfl) hr (fun W' pn xe tk' hp' => (dss_cons (ds_if (dt_lt (de_v 0) de_int) (dss_one (ds_ret (de_tab (tab_cons ((c_plus T).mono (by decide)) (tab_cons ((c_minus T).mono (by decide)) (tab_cons ((c_times T).mono (by decide)) (tab_cons ((c_over T).mono (by decide)) (tab_cons ((c_compare T).mono (by decide)) (tab_cons ((c_ratio T).mono (by decide)) tab_nil)))))) hr tk' (de_v 0) (da_cons (de_ix (de_v 1) de_int) (da_cons (de_ix (de_v 1) de_int) da_nil)) (len_cons (len_cons (fun _ _ _ _ => len_nil)))))) dss_nil)
  (dss_cons (ds_if (dt_lt (de_v 0) de_int) (dss_one (ds_ret (de_tab (tab_cons ((c_floor_of T).mono (by decide)) (tab_cons ((c_ceiling_of T).mono (by decide)) (tab_cons ((c_shown_ratio T).mono (by decide)) (tab_cons ((c_halved T).mono (by decide)) (tab_cons ((c_least_square T).mono (by decide)) tab_nil))))) hr tk' (de_sub (de_v 0) de_int) (da_cons (de_ix (de_v 1) de_int) da_nil) (len_cons (fun _ _ _ _ => len_nil))))) dss_nil)
  (dss_one (ds_ret (de_tab (tab_cons ((c_power T).mono (by decide)) (tab_cons ((c_down_to T).mono (by decide)) (tab_cons ((c_up_to T).mono (by decide)) (tab_cons ((c_decimal_of T).mono (by decide)) tab_nil)))) hr tk' (de_sub (de_v 0) de_int) (da_cons (de_ix (de_v 1) de_int) (da_cons (de_ix (de_v 1) de_int) da_nil)) (len_cons (len_cons (fun _ _ _ _ => len_nil))))))))) (fun c t ht cls hc => tell_ok T ht hc))))
/-! #### _law_decimal -/
theorem sc__law_decimal : FnScope ["a", "k", "whole", "figures", "rest", "behind", "turn", "is_nothing"] ["a", "k"] (defScope s__law_decimal) := ⟨rfl, rfl, rfl, by decide +kernel, rfl, by decide +kernel, by decide +kernel⟩
noncomputable def mb__law_decimal : MS := (mSeq (mAsg (mAbs (mOp opIx (mVar 0) (mC (.int 0)))) (gN 2))
  (mSeq (mPar 3 4 (mCons (mStr (mOp opFdiv (mVar 2) (mOp opIx (mVar 0) (mC (.int 1))))) (mCons (mOp opMod (mInt (mVar 2)) (mOp opIx (mVar 0) (mC (.int 1)))) mNil)))
  (mSeq (mAsg (mC (.str "")) (gN 5))
  (mSeq (mFor (mRng1 (mCons (mVar 1) mNil)) (gN 6) (mSeq (mAsg (mOp opMul (mVar 4) (mC (.int 10))) (gN 4))
  (mPar 5 4 (mCons (mOp opAdd (mVar 5) (mStr (mOp opFdiv (mVar 4) (mOp opIx (mVar 0) (mC (.int 1)))))) (mCons (mOp opMod (mInt (mVar 4)) (mOp opIx (mVar 0) (mC (.int 1)))) mNil)))))
  (mSeq (mAsg (mAndV (mOp opEq (mVar 3) (mC (.str "0"))) (mOp opEq (mRepl (mVar 5) "0" "") (mC (.str "")))) (gN 7))
  (mRet (mOp opAdd (mOp opAdd (mOp opAdd (mIf (mAnd (mB (mOp opLt (mOp opIx (mVar 0) (mC (.int 0))) (mC (.int 0)))) (mNot (mB (mVar 7)))) (mC (.str "-")) (mC (.str ""))) (mVar 3)) (mC (.str "."))) (mVar 5))))))))
noncomputable def m__law_decimal : MF := mFun 8 mb__law_decimal
theorem c__law_decimal (T : Txt K mg C) : Cal P w K mg base "_law_decimal" 1 2 m__law_decimal :=
  cal_of (N := ["a", "k", "whole", "figures", "rest", "behind", "turn", "is_nothing"]) (ps := ["a", "k"]) (st := s__law_decimal) (mb := mb__law_decimal) (T.s__law_decimal.to (ps := ["a", "k"]) fun _ _ _ _ _ _ us hl => match us, hl with | [_, _], _ => rfl) sc__law_decimal (fun f cdv A outer s H E hr => (dss_cons (ds_set 2 sc__law_decimal.nd (de_abs T.n_abs (de_ix (de_v 0) de_int)))
  (dss_cons (ds_par 3 4 rfl sc__law_decimal.nd (da_cons (de_toStr T.n_str (de_fdiv (de_v 2) (de_ix (de_v 0) de_int))) (da_cons (de_mod (de_toInt T.n_int (de_v 2)) (de_ix (de_v 0) de_int)) da_nil)))
  (dss_cons (ds_set 5 sc__law_decimal.nd de_str)
  (dss_cons (ds_for (passes_of rfl) rfl (di_rng1 T.n_range (da_cons (de_v 1) da_nil)) (dg_n 6 sc__law_decimal.nd) (dss_cons (ds_set 4 sc__law_decimal.nd (de_mul (de_v 4) de_int))
  (dss_one (ds_par 5 4 rfl sc__law_decimal.nd (da_cons (de_add (de_v 5) (de_toStr T.n_str (de_fdiv (de_v 4) (de_ix (de_v 0) de_int)))) (da_cons (de_mod (de_toInt T.n_int (de_v 4)) (de_ix (de_v 0) de_int)) da_nil))))))
  (dss_cons (ds_set 7 sc__law_decimal.nd (de_eqRepl hr.units (de_v 3) (de_v 5)))
  (dss_one (ds_ret (de_add (de_add (de_add (de_if (dt_w (dw_and (dt_lt (de_ix (de_v 0) de_int) de_int) (dw_and1 (dt_not (dt_val (de_v 7)))))) de_str de_str) (de_v 3)) de_str) (de_v 5))))))))))
/-! #### law -/
theorem sc_law : FnScope ["script", "draws", "turn", "a", "b", "n", "k", "due", "got", "low", "high", "text", "up", "whole", "down", "above", "number", "root", "bad", "told", "which", "odd"] ["script"] (defScope s_law) := ⟨rfl, rfl, rfl, by decide +kernel, rfl, by decide +kernel, by decide +kernel⟩
noncomputable def mb_law : MS := (mSeq (mAsg (mCall m__law_draws (mCons (mVar 0) mNil)) (gN 1))
  (mSeq (mFor (mRng1 (mCons (mC (.int 12)) mNil)) (gN 2) (mSeq (mAsg (mTup (mCons (mCall m__law_any (mCons (mVar 1) mNil)) (mCons (mCall m__law_any (mCons (mVar 1) mNil)) (mCons (mOp opSub (mCall m__law_take (mCons (mVar 1) (mCons (mC (.int 12)) mNil))) (mC (.int 4))) (mCons (mCall m__law_take (mCons (mVar 1) (mCons (mC (.int 40)) mNil))) mNil))))) (gTupM 4 (gConsM (gN 3) (gConsM (gN 4) (gConsM (gN 5) (gConsM (gN 6) gNilM))))))
  (mSeq (mAsg (mLst (mCons (mCall m__law_add (mCons (mVar 3) (mCons (mVar 4) mNil))) (mCons (mCall m__law_sub (mCons (mVar 3) (mCons (mVar 4) mNil))) (mCons (mCall m__law_mul (mCons (mVar 3) (mCons (mVar 4) mNil))) (mCons (mIf (mB (mOp opNe (mOp opIx (mVar 4) (mC (.int 0))) (mC (.int 0)))) (mCall m__law_r (mCons (mOp opMul (mOp opIx (mVar 3) (mC (.int 0))) (mOp opIx (mVar 4) (mC (.int 1)))) (mCons (mOp opMul (mOp opIx (mVar 3) (mC (.int 1))) (mOp opIx (mVar 4) (mC (.int 0)))) mNil))) (mC (.str "refused 3"))) mNil))))) (gN 7))
  (mSeq (mAsg (mOp opAdd (mVar 7) (mLst (mCons (mOp opSub (mIf (mB (mCall m__law_less (mCons (mVar 4) (mCons (mVar 3) mNil)))) (mC (.int 1)) (mC (.int 0))) (mIf (mB (mCall m__law_less (mCons (mVar 3) (mCons (mVar 4) mNil)))) (mC (.int 1)) (mC (.int 0)))) (mCons (mVar 3) mNil)))) (gN 7))
  (mSeq (mAsg (mOp opAdd (mLc (mRng1 (mCons (mC (.int 5)) mNil)) [20] (gN 20) mYes (mCall m__law_told (mCons (mVar 20) (mCons (mTup (mCons (mVar 3) (mCons (mVar 4) mNil))) mNil)))) (mLst (mCons (mCall m__law_told (mCons (mC (.int 5)) (mCons (mTup (mCons (mOp opMul (mOp opIx (mVar 3) (mC (.int 0))) (mC (.int 6))) (mCons (mOp opMul (mOp opIx (mVar 3) (mC (.int 1))) (mC (.int 6))) mNil))) mNil))) mNil))) (gN 8))
  (mSeq (mIfS (mOr (mNot (mB (mCall (m__law_same 6) (mCons (mVar 8) (mCons (mVar 7) mNil))))) (mNot (mB (mCall (m__law_same 6) (mCons (mCall m__law_told (mCons (mC (.int 5)) (mCons (mTup (mCons (mOp opSub (mC (.int 0)) (mOp opMul (mOp opIx (mVar 3) (mC (.int 0))) (mC (.int 9)))) (mCons (mOp opSub (mC (.int 0)) (mOp opMul (mOp opIx (mVar 3) (mC (.int 1))) (mC (.int 9)))) mNil))) mNil))) (mCons (mVar 3) mNil)))))) (mRet (mC (.bl false))) mNext)
  (mSeq (mAsg (mOp opFdiv (mOp opIx (mVar 3) (mC (.int 0))) (mOp opIx (mVar 3) (mC (.int 1)))) (gN 9))
  (mSeq (mAsg (mIf (mB (mOp opEq (mOp opMul (mVar 9) (mOp opIx (mVar 3) (mC (.int 1)))) (mOp opIx (mVar 3) (mC (.int 0))))) (mVar 9) (mOp opAdd (mVar 9) (mC (.int 1)))) (gN 10))
  (mSeq (mAsg (mIf (mB (mOp opEq (mOp opIx (mVar 3) (mC (.int 1))) (mC (.int 1)))) (mStr (mOp opIx (mVar 3) (mC (.int 0)))) (mOp opAdd (mOp opAdd (mStr (mOp opIx (mVar 3) (mC (.int 0)))) (mC (.str "/"))) (mStr (mOp opIx (mVar 3) (mC (.int 1)))))) (gN 11))
  (mSeq (mIfS (mNot (mB (mCall (m__law_same 6) (mCons (mLst (mCons (mCall m__law_told (mCons (mC (.int 6)) (mCons (mTup (mCons (mVar 3) mNil)) mNil))) (mCons (mCall m__law_told (mCons (mC (.int 7)) (mCons (mTup (mCons (mVar 3) mNil)) mNil))) (mCons (mCall m__law_told (mCons (mC (.int 8)) (mCons (mTup (mCons (mVar 3) mNil)) mNil))) (mCons (mCall m__law_told (mCons (mC (.int 9)) (mCons (mTup (mCons (mVar 6) mNil)) mNil))) mNil))))) (mCons (mLst (mCons (mVar 9) (mCons (mVar 10) (mCons (mVar 11) (mCons (mTup (mCons (mC (.int 1)) (mCons (mCall m__law_twos (mCons (mVar 6) mNil)) mNil))) mNil))))) mNil))))) (mRet (mC (.bl false))) mNext)
  (mSeq (mAsg (mIf (mB (mOp opGe (mVar 5) (mC (.int 0)))) (mCall m__law_power (mCons (mVar 3) (mCons (mVar 5) mNil))) (mIf (mB (mOp opEq (mOp opIx (mVar 3) (mC (.int 0))) (mC (.int 0)))) (mC .non) (mCall m__law_power (mCons (mCall m__law_r (mCons (mOp opIx (mVar 3) (mC (.int 1))) (mCons (mOp opIx (mVar 3) (mC (.int 0))) mNil))) (mCons (mOp opSub (mC (.int 0)) (mVar 5)) mNil))))) (gN 12))
  (mSeq (mIfS (mNot (mB (mCall (m__law_same 6) (mCons (mCall m__law_told (mCons (mC (.int 11)) (mCons (mTup (mCons (mVar 3) (mCons (mVar 5) mNil))) mNil))) (mCons (mIf (mB (mOp opIsN (mVar 12) (mC .non))) (mC (.str "refused 3")) (mVar 12)) mNil))))) (mRet (mC (.bl false))) mNext)
  (mSeq (mAsg (mOp opMul (mOp opIx (mVar 3) (mC (.int 0))) (mCall m__law_twos (mCons (mVar 6) mNil))) (gN 13))
  (mSeq (mPar 14 15 (mCons (mCall m__law_r (mCons (mOp opFdiv (mVar 13) (mOp opIx (mVar 3) (mC (.int 1)))) (mCons (mCall m__law_twos (mCons (mVar 6) mNil)) mNil))) (mCons (mCall m__law_r (mCons (mOp opSub (mC (.int 0)) (mOp opFdiv (mOp opSub (mC (.int 0)) (mVar 13)) (mOp opIx (mVar 3) (mC (.int 1))))) (mCons (mCall m__law_twos (mCons (mVar 6) mNil)) mNil))) mNil)))
  (mSeq (mIfS (mAnd (mNot (mB (mCall (m__law_same 6) (mCons (mLst (mCons (mCall m__law_told (mCons (mC (.int 12)) (mCons (mTup (mCons (mVar 3) (mCons (mVar 6) mNil))) mNil))) (mCons (mCall m__law_told (mCons (mC (.int 13)) (mCons (mTup (mCons (mVar 3) (mCons (mVar 6) mNil))) mNil))) (mCons (mCall m__law_told (mCons (mC (.int 14)) (mCons (mTup (mCons (mVar 3) (mCons (mVar 6) mNil))) mNil))) mNil)))) (mCons (mLst (mCons (mVar 14) (mCons (mVar 15) (mCons (mCall m__law_decimal (mCons (mVar 3) (mCons (mVar 6) mNil))) mNil)))) mNil))))) (mB (mOp opGt (mVar 6) (mC (.int 0))))) (mRet (mC (.bl false))) mNext)
  (mSeq (mAsg (mCall m__law_pick (mCons (mVar 1) (mCons (mLst (mCons (mCall m__law_take (mCons (mVar 1) (mCons (mC (.int 1000)) mNil))) (mCons (mOp opMul (mAbs (mOp opIx (mVar 3) (mC (.int 0)))) (mAbs (mOp opIx (mVar 3) (mC (.int 0))))) (mCons (mOp opSub (mOp opMul (mAbs (mOp opIx (mVar 3) (mC (.int 0)))) (mAbs (mOp opIx (mVar 3) (mC (.int 0))))) (mC (.int 1))) (mCons (mOp opMul (mAbs (mOp opIx (mVar 3) (mC (.int 0)))) (mCall m__law_twos (mCons (mC (.int 90)) mNil))) mNil))))) mNil))) (gN 16))
  (mSeq (mAsg (mMax (mC (.int 0)) (mVar 16)) (gN 16))
  (mSeq (mAsg (mCall m__law_told (mCons (mC (.int 10)) (mCons (mTup (mCons (mVar 16) mNil)) mNil))) (gN 17))
  (mSeq (mIfS (mOr (mNot (mB (mIsi .int (mVar 17)))) (mOr (mB (mOp opGt (mOp opMul (mVar 17) (mVar 17)) (mVar 16))) (mB (mOp opLe (mOp opMul (mOp opAdd (mVar 17) (mC (.int 1))) (mOp opAdd (mVar 17) (mC (.int 1)))) (mVar 16))))) (mRet (mC (.bl false))) mNext)
  (mSeq (mAsg (mCall m__law_pick (mCons (mVar 1) (mCons (mLst (mCons (mC .non) (mCons (mC (.int 1)) (mCons (mTup (mCons (mC (.int 1)) mNil)) (mCons (mTup (mCons (mC (.int 2)) (mCons (mC (.int 4)) mNil))) (mCons (mTup (mCons (mC (.int 1)) (mCons (mC (.int 0)) mNil))) (mCons (mTup (mCons (mC (.int 1)) (mCons (mNeg (mC (.int 2))) mNil))) (mCons (mTup (mCons (mC (.bl true)) (mCons (mC (.int 1)) mNil))) (mCons (mLst (mCons (mC (.int 1)) (mCons (mC (.int 2)) mNil))) (mCons (mTup (mCons (mC (.str "1")) (mCons (mC (.int 2)) mNil))) (mCons (mTup (mCons (mC (.int 1)) (mCons (mC (.int 2)) (mCons (mC (.int 3)) mNil)))) mNil))))))))))) mNil))) (gN 18))
  (mSeq (mIfS (mOr (mB (mOp opNotN (mCall m_is_ratio (mCons (mVar 18) mNil)) (mC (.bl false)))) (mB (mOp opNotN (mCall m_is_ratio (mCons (mVar 3) mNil)) (mC (.bl true))))) (mRet (mC (.bl false))) mNext)
  (mSeq (mAsg (mOp opAdd (mOp opAdd (mLc (mItS (mLst (mCons (mC (.int 0)) (mCons (mC (.int 1)) (mCons (mC (.int 2)) (mCons (mC (.int 3)) (mCons (mC (.int 4)) mNil))))))) [20] (gN 20) mYes (mCall m__law_told (mCons (mVar 20) (mCons (mTup (mCons (mVar 18) (mCons (mVar 3) mNil))) mNil)))) (mLc (mItS (mLst (mCons (mC (.int 0)) (mCons (mC (.int 1)) (mCons (mC (.int 2)) (mCons (mC (.int 3)) (mCons (mC (.int 4)) mNil))))))) [20] (gN 20) mYes (mCall m__law_told (mCons (mVar 20) (mCons (mTup (mCons (mVar 3) (mCons (mVar 18) mNil))) mNil))))) (mLc (mItS (mLst (mCons (mC (.int 6)) (mCons (mC (.int 7)) (mCons (mC (.int 8)) mNil))))) [20] (gN 20) mYes (mCall m__law_told (mCons (mVar 20) (mCons (mTup (mCons (mVar 18) mNil)) mNil))))) (gN 19))
  (mSeq (mAsg (mOp opAdd (mOp opAdd (mVar 19) (mLc (mItS (mLst (mCons (mC (.int 11)) (mCons (mC (.int 12)) (mCons (mC (.int 13)) (mCons (mC (.int 14)) mNil)))))) [20] (gN 20) mYes (mCall m__law_told (mCons (mVar 20) (mCons (mTup (mCons (mVar 18) (mCons (mC (.int 3)) mNil))) mNil))))) (mLc (mItS (mLst (mCons (mC (.int 401)) (mCons (mNeg (mC (.int 401))) (mCons (mC .non) (mCons (mC (.bl true)) mNil)))))) [21] (gN 21) mYes (mCall m__law_told (mCons (mC (.int 11)) (mCons (mTup (mCons (mVar 3) (mCons (mVar 21) mNil))) mNil))))) (gN 19))
  (mSeq (mAsg (mOp opAdd (mOp opAdd (mVar 19) (mLc (mItS (mLst (mCons (mC (.int 12)) (mCons (mC (.int 13)) mNil)))) [20] (gN 20) mYes (mCall m__law_told (mCons (mVar 20) (mCons (mTup (mCons (mVar 3) (mCons (mNeg (mC (.int 1))) mNil))) mNil))))) (mLst (mCons (mCall m__law_told (mCons (mC (.int 14)) (mCons (mTup (mCons (mVar 3) (mCons (mC (.int 401)) mNil))) mNil))) (mCons (mCall m__law_told (mCons (mC (.int 12)) (mCons (mTup (mCons (mVar 3) (mCons (mC (.int 20001)) mNil))) mNil))) (mCons (mCall m__law_told (mCons (mC (.int 10)) (mCons (mTup (mCons (mNeg (mC (.int 1))) mNil)) mNil))) (mCons (mCall m__law_told (mCons (mC (.int 5)) (mCons (mTup (mCons (mC (.int 1)) (mCons (mC (.int 0)) mNil))) mNil))) (mCons (mCall m__law_told (mCons (mC (.int 5)) (mCons (mTup (mCons (mC .non) (mCons (mC (.int 1)) mNil))) mNil))) mNil))))))) (gN 19))
  (mIfS (mB (mOp opNe (mVar 19) (mOp opMul (mLst (mCons (mC (.str "refused 1")) mNil)) (mLen (mVar 19))))) (mRet (mC (.bl false))) mNext)))))))))))))))))))))))))
  (mRet (mC (.bl true)))))
noncomputable def m_law : MF := mFun 22 mb_law
abbrev sc_law_n : Nat := 22
theorem b_law (T : Txt K mg C) (f : Addr) (cdv : Value) (A : Around) (outer : List Env) (s : Shared) (H : Hp) (E : XK) (hr : Room 6 (A.deeper (envOfC "law" (defScope s_law) s.heap.objs.size f cdv))) :
    DSs (cxOf (L2N.CX P w) P w K mg base ["script", "draws", "turn", "a", "b", "n", "k", "due", "got", "low", "high", "text", "up", "whole", "down", "above", "number", "root", "bad", "told", "which", "odd"] "law" (defScope s_law) f cdv A outer s H E) (WD E) (defBody s_law) mb_law := (dss_cons (ds_set 1 sc_law.nd (de_call ((c__law_draws T).mono (by decide)) hr (L2N.takes_of rfl rfl rfl rfl) (da_cons (de_v 0) da_nil) (len_cons (fun _ _ _ _ => len_nil))))
  (dss_cons (ds_for (passes_of rfl) rfl (di_rng1 T.n_range (da_cons de_int da_nil)) (dg_n 2 sc_law.nd) (dss_cons (ds_asg (de_tup (da_cons (de_call ((c__law_any T).mono (by decide)) hr (L2N.takes_of rfl rfl rfl rfl) (da_cons (de_v 1) da_nil) (len_cons (fun _ _ _ _ => len_nil))) (da_cons (de_call ((c__law_any T).mono (by decide)) hr (L2N.takes_of rfl rfl rfl rfl) (da_cons (de_v 1) da_nil) (len_cons (fun _ _ _ _ => len_nil))) (da_cons (de_sub (de_call ((c__law_take T).mono (by decide)) hr (L2N.takes_of rfl rfl rfl rfl) (da_cons (de_v 1) (da_cons de_int da_nil)) (len_cons (len_cons (fun _ _ _ _ => len_nil)))) de_int) (da_cons (de_call ((c__law_take T).mono (by decide)) hr (L2N.takes_of rfl rfl rfl rfl) (da_cons (de_v 1) (da_cons de_int da_nil)) (len_cons (len_cons (fun _ _ _ _ => len_nil)))) da_nil))))) (dg_tup rfl (dgs_cons (dg_n 3 sc_law.nd) (dgs_cons (dg_n 4 sc_law.nd) (dgs_cons (dg_n 5 sc_law.nd) (dgs_cons (dg_n 6 sc_law.nd) dgs_nil))))))
  (dss_cons (ds_set 7 sc_law.nd (de_lst (da_cons (de_call ((c__law_add T).mono (by decide)) hr (L2N.takes_of rfl rfl rfl rfl) (da_cons (de_v 3) (da_cons (de_v 4) da_nil)) (len_cons (len_cons (fun _ _ _ _ => len_nil)))) (da_cons (de_call ((c__law_sub T).mono (by decide)) hr (L2N.takes_of rfl rfl rfl rfl) (da_cons (de_v 3) (da_cons (de_v 4) da_nil)) (len_cons (len_cons (fun _ _ _ _ => len_nil)))) (da_cons (de_call ((c__law_mul T).mono (by decide)) hr (L2N.takes_of rfl rfl rfl rfl) (da_cons (de_v 3) (da_cons (de_v 4) da_nil)) (len_cons (len_cons (fun _ _ _ _ => len_nil)))) (da_cons (de_if (dt_ne hr.units (de_ix (de_v 4) de_int) de_int) (de_call ((c__law_r T).mono (by decide)) hr (L2N.takes_of rfl rfl rfl rfl) (da_cons (de_mul (de_ix (de_v 3) de_int) (de_ix (de_v 4) de_int)) (da_cons (de_mul (de_ix (de_v 3) de_int) (de_ix (de_v 4) de_int)) da_nil)) (len_cons (len_cons (fun _ _ _ _ => len_nil)))) de_str) da_nil))))))
  (dss_cons (ds_set 7 sc_law.nd (de_add (de_v 7) (de_lst (da_cons (de_sub (de_if (dt_val (de_call ((c__law_less T).mono (by decide)) hr (L2N.takes_of rfl rfl rfl rfl) (da_cons (de_v 4) (da_cons (de_v 3) da_nil)) (len_cons (len_cons (fun _ _ _ _ => len_nil))))) de_int de_int) (de_if (dt_val (de_call ((c__law_less T).mono (by decide)) hr (L2N.takes_of rfl rfl rfl rfl) (da_cons (de_v 3) (da_cons (de_v 4) da_nil)) (len_cons (len_cons (fun _ _ _ _ => len_nil))))) de_int de_int)) (da_cons (de_v 3) da_nil)))))
  (dss_cons (ds_set 8 sc_law.nd (de_add (de_lc [("which", 20)] rfl sc_law.nd (di_rng1 T.n_range (da_cons de_int da_nil)) (blkOk_by (show blkC ["script", "draws", "turn", "a", "b", "n", "k", "due", "got", "low", "high", "text", "up", "whole", "down", "above", "number", "root", "bad", "told", "which", "odd"] (defScope s_law) _ [("which", 20)] = true by decide +kernel)) (gok_n (by simp)) (fun _ _ _ h => yes_t h) (fun _ _ _ _ _ => pg_name (i := 20) sc_law.nd rfl (Or.inl rfl) (Or.inr rfl)) (fun _ _ _ _ _ => pts_nil) (fun _ _ _ _ _ => (de_call ((c__law_told T).mono (by decide)) hr takesN0 (da_cons (de_v 20) (da_cons (de_tup (da_cons (de_v 3) (da_cons (de_v 4) da_nil))) da_nil)) (len_cons (len_cons (fun _ _ _ _ => len_nil)))))) (de_lst (da_cons (de_call ((c__law_told T).mono (by decide)) hr (L2N.takes_of rfl rfl rfl rfl) (da_cons de_int (da_cons (de_tup (da_cons (de_mul (de_ix (de_v 3) de_int) de_int) (da_cons (de_mul (de_ix (de_v 3) de_int) de_int) da_nil))) da_nil)) (len_cons (len_cons (fun _ _ _ _ => len_nil)))) da_nil))))
  (dss_cons (ds_if (dt_w (dw_or (dt_not (dt_val (de_call ((c__law_same T 6).mono (by decide)) hr (L2N.takes_of rfl rfl rfl rfl) (da_cons (de_v 8) (da_cons (de_v 7) da_nil)) (len_cons (len_cons (fun _ _ _ _ => len_nil)))))) (dw_or1 (dt_not (dt_val (de_call ((c__law_same T 6).mono (by decide)) hr (L2N.takes_of rfl rfl rfl rfl) (da_cons (de_call ((c__law_told T).mono (by decide)) hr (L2N.takes_of rfl rfl rfl rfl) (da_cons de_int (da_cons (de_tup (da_cons (de_sub de_int (de_mul (de_ix (de_v 3) de_int) de_int)) (da_cons (de_sub de_int (de_mul (de_ix (de_v 3) de_int) de_int)) da_nil))) da_nil)) (len_cons (len_cons (fun _ _ _ _ => len_nil)))) (da_cons (de_v 3) da_nil)) (len_cons (len_cons (fun _ _ _ _ => len_nil))))))))) (dss_one (ds_ret de_bl)) dss_nil)
  (dss_cons (ds_set 9 sc_law.nd (de_fdiv (de_ix (de_v 3) de_int) (de_ix (de_v 3) de_int)))
  (dss_cons (ds_set 10 sc_law.nd (de_if (dt_eq hr.units (de_mul (de_v 9) (de_ix (de_v 3) de_int)) (de_ix (de_v 3) de_int)) (de_v 9) (de_add (de_v 9) de_int)))
  (dss_cons (ds_set 11 sc_law.nd (de_if (dt_eq hr.units (de_ix (de_v 3) de_int) de_int) (de_toStr T.n_str (de_ix (de_v 3) de_int)) (de_add (de_add (de_toStr T.n_str (de_ix (de_v 3) de_int)) de_str) (de_toStr T.n_str (de_ix (de_v 3) de_int)))))
  (dss_cons (ds_if (dt_not (dt_val (de_call ((c__law_same T 6).mono (by decide)) hr (L2N.takes_of rfl rfl rfl rfl) (da_cons (de_lst (da_cons (de_call ((c__law_told T).mono (by decide)) hr (L2N.takes_of rfl rfl rfl rfl) (da_cons de_int (da_cons (de_tup (da_cons (de_v 3) da_nil)) da_nil)) (len_cons (len_cons (fun _ _ _ _ => len_nil)))) (da_cons (de_call ((c__law_told T).mono (by decide)) hr (L2N.takes_of rfl rfl rfl rfl) (da_cons de_int (da_cons (de_tup (da_cons (de_v 3) da_nil)) da_nil)) (len_cons (len_cons (fun _ _ _ _ => len_nil)))) (da_cons (de_call ((c__law_told T).mono (by decide)) hr (L2N.takes_of rfl rfl rfl rfl) (da_cons de_int (da_cons (de_tup (da_cons (de_v 3) da_nil)) da_nil)) (len_cons (len_cons (fun _ _ _ _ => len_nil)))) (da_cons (de_call ((c__law_told T).mono (by decide)) hr (L2N.takes_of rfl rfl rfl rfl) (da_cons de_int (da_cons (de_tup (da_cons (de_v 6) da_nil)) da_nil)) (len_cons (len_cons (fun _ _ _ _ => len_nil)))) da_nil))))) (da_cons (de_lst (da_cons (de_v 9) (da_cons (de_v 10) (da_cons (de_v 11) (da_cons (de_tup (da_cons de_int (da_cons (de_call ((c__law_twos T).mono (by decide)) hr (L2N.takes_of rfl rfl rfl rfl) (da_cons (de_v 6) da_nil) (len_cons (fun _ _ _ _ => len_nil))) da_nil))) da_nil))))) da_nil)) (len_cons (len_cons (fun _ _ _ _ => len_nil)))))) (dss_one (ds_ret de_bl)) dss_nil)
  (dss_cons (ds_set 12 sc_law.nd (de_if (dt_ge (de_v 5) de_int) (de_call ((c__law_power T).mono (by decide)) hr (L2N.takes_of rfl rfl rfl rfl) (da_cons (de_v 3) (da_cons (de_v 5) da_nil)) (len_cons (len_cons (fun _ _ _ _ => len_nil)))) (de_if (dt_eq hr.units (de_ix (de_v 3) de_int) de_int) de_non (de_call ((c__law_power T).mono (by decide)) hr (L2N.takes_of rfl rfl rfl rfl) (da_cons (de_call ((c__law_r T).mono (by decide)) hr (L2N.takes_of rfl rfl rfl rfl) (da_cons (de_ix (de_v 3) de_int) (da_cons (de_ix (de_v 3) de_int) da_nil)) (len_cons (len_cons (fun _ _ _ _ => len_nil)))) (da_cons (de_sub de_int (de_v 5)) da_nil)) (len_cons (len_cons (fun _ _ _ _ => len_nil)))))))
  (dss_cons (ds_if (dt_not (dt_val (de_call ((c__law_same T 6).mono (by decide)) hr (L2N.takes_of rfl rfl rfl rfl) (da_cons (de_call ((c__law_told T).mono (by decide)) hr (L2N.takes_of rfl rfl rfl rfl) (da_cons de_int (da_cons (de_tup (da_cons (de_v 3) (da_cons (de_v 5) da_nil))) da_nil)) (len_cons (len_cons (fun _ _ _ _ => len_nil)))) (da_cons (de_if (dt_is (de_v 12) de_non) de_str (de_v 12)) da_nil)) (len_cons (len_cons (fun _ _ _ _ => len_nil)))))) (dss_one (ds_ret de_bl)) dss_nil)
  (dss_cons (ds_set 13 sc_law.nd (de_mul (de_ix (de_v 3) de_int) (de_call ((c__law_twos T).mono (by decide)) hr (L2N.takes_of rfl rfl rfl rfl) (da_cons (de_v 6) da_nil) (len_cons (fun _ _ _ _ => len_nil)))))
  (dss_cons (ds_par 14 15 rfl sc_law.nd (da_cons (de_call ((c__law_r T).mono (by decide)) hr (L2N.takes_of rfl rfl rfl rfl) (da_cons (de_fdiv (de_v 13) (de_ix (de_v 3) de_int)) (da_cons (de_call ((c__law_twos T).mono (by decide)) hr (L2N.takes_of rfl rfl rfl rfl) (da_cons (de_v 6) da_nil) (len_cons (fun _ _ _ _ => len_nil))) da_nil)) (len_cons (len_cons (fun _ _ _ _ => len_nil)))) (da_cons (de_call ((c__law_r T).mono (by decide)) hr (L2N.takes_of rfl rfl rfl rfl) (da_cons (de_sub de_int (de_fdiv (de_sub de_int (de_v 13)) (de_ix (de_v 3) de_int))) (da_cons (de_call ((c__law_twos T).mono (by decide)) hr (L2N.takes_of rfl rfl rfl rfl) (da_cons (de_v 6) da_nil) (len_cons (fun _ _ _ _ => len_nil))) da_nil)) (len_cons (len_cons (fun _ _ _ _ => len_nil)))) da_nil)))
  (dss_cons (ds_if (dt_w (dw_and (dt_not (dt_val (de_call ((c__law_same T 6).mono (by decide)) hr (L2N.takes_of rfl rfl rfl rfl) (da_cons (de_lst (da_cons (de_call ((c__law_told T).mono (by decide)) hr (L2N.takes_of rfl rfl rfl rfl) (da_cons de_int (da_cons (de_tup (da_cons (de_v 3) (da_cons (de_v 6) da_nil))) da_nil)) (len_cons (len_cons (fun _ _ _ _ => len_nil)))) (da_cons (de_call ((c__law_told T).mono (by decide)) hr (L2N.takes_of rfl rfl rfl rfl) (da_cons de_int (da_cons (de_tup (da_cons (de_v 3) (da_cons (de_v 6) da_nil))) da_nil)) (len_cons (len_cons (fun _ _ _ _ => len_nil)))) (da_cons (de_call ((c__law_told T).mono (by decide)) hr (L2N.takes_of rfl rfl rfl rfl) (da_cons de_int (da_cons (de_tup (da_cons (de_v 3) (da_cons (de_v 6) da_nil))) da_nil)) (len_cons (len_cons (fun _ _ _ _ => len_nil)))) da_nil)))) (da_cons (de_lst (da_cons (de_v 14) (da_cons (de_v 15) (da_cons (de_call ((c__law_decimal T).mono (by decide)) hr (L2N.takes_of rfl rfl rfl rfl) (da_cons (de_v 3) (da_cons (de_v 6) da_nil)) (len_cons (len_cons (fun _ _ _ _ => len_nil)))) da_nil)))) da_nil)) (len_cons (len_cons (fun _ _ _ _ => len_nil)))))) (dw_and1 (dt_gt (de_v 6) de_int)))) (dss_one (ds_ret de_bl)) dss_nil)
  (dss_cons (ds_set 16 sc_law.nd (de_call ((c__law_pick T).mono (by decide)) hr (L2N.takes_of rfl rfl rfl rfl) (da_cons (de_v 1) (da_cons (de_lst (da_cons (de_call ((c__law_take T).mono (by decide)) hr (L2N.takes_of rfl rfl rfl rfl) (da_cons (de_v 1) (da_cons de_int da_nil)) (len_cons (len_cons (fun _ _ _ _ => len_nil)))) (da_cons (de_mul (de_abs T.n_abs (de_ix (de_v 3) de_int)) (de_abs T.n_abs (de_ix (de_v 3) de_int))) (da_cons (de_sub (de_mul (de_abs T.n_abs (de_ix (de_v 3) de_int)) (de_abs T.n_abs (de_ix (de_v 3) de_int))) de_int) (da_cons (de_mul (de_abs T.n_abs (de_ix (de_v 3) de_int)) (de_call ((c__law_twos T).mono (by decide)) hr (L2N.takes_of rfl rfl rfl rfl) (da_cons de_int da_nil) (len_cons (fun _ _ _ _ => len_nil)))) da_nil))))) da_nil)) (len_cons (len_cons (fun _ _ _ _ => len_nil)))))
  (dss_cons (ds_set 16 sc_law.nd (de_max rfl T.n_max de_int (de_v 16)))
  (dss_cons (ds_set 17 sc_law.nd (de_call ((c__law_told T).mono (by decide)) hr (L2N.takes_of rfl rfl rfl rfl) (da_cons de_int (da_cons (de_tup (da_cons (de_v 16) da_nil)) da_nil)) (len_cons (len_cons (fun _ _ _ _ => len_nil)))))
  (dss_cons (ds_if (dt_w (dw_or (dt_not (dt_val (de_isi .int (by decide +kernel) (by decide) T.n_isinstance T.n_int (de_v 17)))) (dw_or (dt_gt (de_mul (de_v 17) (de_v 17)) (de_v 16)) (dw_or1 (dt_le (de_mul (de_add (de_v 17) de_int) (de_add (de_v 17) de_int)) (de_v 16)))))) (dss_one (ds_ret de_bl)) dss_nil)
  (dss_cons (ds_set 18 sc_law.nd (de_call ((c__law_pick T).mono (by decide)) hr (L2N.takes_of rfl rfl rfl rfl) (da_cons (de_v 1) (da_cons (de_lst (da_cons de_non (da_cons de_int (da_cons (de_tup (da_cons de_int da_nil)) (da_cons (de_tup (da_cons de_int (da_cons de_int da_nil))) (da_cons (de_tup (da_cons de_int (da_cons de_int da_nil))) (da_cons (de_tup (da_cons de_int (da_cons (de_neg de_int) da_nil))) (da_cons (de_tup (da_cons de_bl (da_cons de_int da_nil))) (da_cons (de_lst (da_cons de_int (da_cons de_int da_nil))) (da_cons (de_tup (da_cons de_str (da_cons de_int da_nil))) (da_cons (de_tup (da_cons de_int (da_cons de_int (da_cons de_int da_nil)))) da_nil))))))))))) da_nil)) (len_cons (len_cons (fun _ _ _ _ => len_nil)))))
  (dss_cons (ds_if (dt_w (dw_or (dt_isn (de_call ((c_is_ratio T).mono (by decide)) hr (L2N.takes_of rfl rfl rfl rfl) (da_cons (de_v 18) da_nil) (len_cons (fun _ _ _ _ => len_nil))) de_bl) (dw_or1 (dt_isn (de_call ((c_is_ratio T).mono (by decide)) hr (L2N.takes_of rfl rfl rfl rfl) (da_cons (de_v 3) da_nil) (len_cons (fun _ _ _ _ => len_nil))) de_bl)))) (dss_one (ds_ret de_bl)) dss_nil)
  (dss_cons (ds_set 19 sc_law.nd (de_add (de_add (de_lc [("which", 20)] rfl sc_law.nd (di_s (de_lst (da_cons de_int (da_cons de_int (da_cons de_int (da_cons de_int (da_cons de_int da_nil))))))) (blkOk_by (show blkC ["script", "draws", "turn", "a", "b", "n", "k", "due", "got", "low", "high", "text", "up", "whole", "down", "above", "number", "root", "bad", "told", "which", "odd"] (defScope s_law) _ [("which", 20)] = true by decide +kernel)) (gok_n (by simp)) (fun _ _ _ h => yes_t h) (fun _ _ _ _ _ => pg_name (i := 20) sc_law.nd rfl (Or.inl rfl) (Or.inr rfl)) (fun _ _ _ _ _ => pts_nil) (fun _ _ _ _ _ => (de_call ((c__law_told T).mono (by decide)) hr takesN0 (da_cons (de_v 20) (da_cons (de_tup (da_cons (de_v 18) (da_cons (de_v 3) da_nil))) da_nil)) (len_cons (len_cons (fun _ _ _ _ => len_nil)))))) (de_lc [("which", 20)] rfl sc_law.nd (di_s (de_lst (da_cons de_int (da_cons de_int (da_cons de_int (da_cons de_int (da_cons de_int da_nil))))))) (blkOk_by (show blkC ["script", "draws", "turn", "a", "b", "n", "k", "due", "got", "low", "high", "text", "up", "whole", "down", "above", "number", "root", "bad", "told", "which", "odd"] (defScope s_law) _ [("which", 20)] = true by decide +kernel)) (gok_n (by simp)) (fun _ _ _ h => yes_t h) (fun _ _ _ _ _ => pg_name (i := 20) sc_law.nd rfl (Or.inl rfl) (Or.inr rfl)) (fun _ _ _ _ _ => pts_nil) (fun _ _ _ _ _ => (de_call ((c__law_told T).mono (by decide)) hr takesN0 (da_cons (de_v 20) (da_cons (de_tup (da_cons (de_v 3) (da_cons (de_v 18) da_nil))) da_nil)) (len_cons (len_cons (fun _ _ _ _ => len_nil))))))) (de_lc [("which", 20)] rfl sc_law.nd (di_s (de_lst (da_cons de_int (da_cons de_int (da_cons de_int da_nil))))) (blkOk_by (show blkC ["script", "draws", "turn", "a", "b", "n", "k", "due", "got", "low", "high", "text", "up", "whole", "down", "above", "number", "root", "bad", "told", "which", "odd"] (defScope s_law) _ [("which", 20)] = true by decide +kernel)) (gok_n (by simp)) (fun _ _ _ h => yes_t h) (fun _ _ _ _ _ => pg_name (i := 20) sc_law.nd rfl (Or.inl rfl) (Or.inr rfl)) (fun _ _ _ _ _ => pts_nil) (fun _ _ _ _ _ => (de_call ((c__law_told T).mono (by decide)) hr takesN0 (da_cons (de_v 20) (da_cons (de_tup (da_cons (de_v 18) da_nil)) da_nil)) (len_cons (len_cons (fun _ _ _ _ => len_nil))))))))
  (dss_cons (ds_set 19 sc_law.nd (de_add (de_add (de_v 19) (de_lc [("which", 20)] rfl sc_law.nd (di_s (de_lst (da_cons de_int (da_cons de_int (da_cons de_int (da_cons de_int da_nil)))))) (blkOk_by (show blkC ["script", "draws", "turn", "a", "b", "n", "k", "due", "got", "low", "high", "text", "up", "whole", "down", "above", "number", "root", "bad", "told", "which", "odd"] (defScope s_law) _ [("which", 20)] = true by decide +kernel)) (gok_n (by simp)) (fun _ _ _ h => yes_t h) (fun _ _ _ _ _ => pg_name (i := 20) sc_law.nd rfl (Or.inl rfl) (Or.inr rfl)) (fun _ _ _ _ _ => pts_nil) (fun _ _ _ _ _ => (de_call ((c__law_told T).mono (by decide)) hr takesN0 (da_cons (de_v 20) (da_cons (de_tup (da_cons (de_v 18) (da_cons de_int da_nil))) da_nil)) (len_cons (len_cons (fun _ _ _ _ => len_nil))))))) (de_lc [("odd", 21)] rfl sc_law.nd (di_s (de_lst (da_cons de_int (da_cons (de_neg de_int) (da_cons de_non (da_cons de_bl da_nil)))))) (blkOk_by (show blkC ["script", "draws", "turn", "a", "b", "n", "k", "due", "got", "low", "high", "text", "up", "whole", "down", "above", "number", "root", "bad", "told", "which", "odd"] (defScope s_law) _ [("odd", 21)] = true by decide +kernel)) (gok_n (by simp)) (fun _ _ _ h => yes_t h) (fun _ _ _ _ _ => pg_name (i := 21) sc_law.nd rfl (Or.inl rfl) (Or.inr rfl)) (fun _ _ _ _ _ => pts_nil) (fun _ _ _ _ _ => (de_call ((c__law_told T).mono (by decide)) hr takesN0 (da_cons de_int (da_cons (de_tup (da_cons (de_v 3) (da_cons (de_v 21) da_nil))) da_nil)) (len_cons (len_cons (fun _ _ _ _ => len_nil))))))))
  (dss_cons (ds_set 19 sc_law.nd (de_add (de_add (de_v 19) (de_lc [("which", 20)] rfl sc_law.nd (di_s (de_lst (da_cons de_int (da_cons de_int da_nil)))) (blkOk_by (show blkC ["script", "draws", "turn", "a", "b", "n", "k", "due", "got", "low", "high", "text", "up", "whole", "down", "above", "number", "root", "bad", "told", "which", "odd"] (defScope s_law) _ [("which", 20)] = true by decide +kernel)) (gok_n (by simp)) (fun _ _ _ h => yes_t h) (fun _ _ _ _ _ => pg_name (i := 20) sc_law.nd rfl (Or.inl rfl) (Or.inr rfl)) (fun _ _ _ _ _ => pts_nil) (fun _ _ _ _ _ => (de_call ((c__law_told T).mono (by decide)) hr takesN0 (da_cons (de_v 20) (da_cons (de_tup (da_cons (de_v 3) (da_cons (de_neg de_int) da_nil))) da_nil)) (len_cons (len_cons (fun _ _ _ _ => len_nil))))))) (de_lst (da_cons (de_call ((c__law_told T).mono (by decide)) hr (L2N.takes_of rfl rfl rfl rfl) (da_cons de_int (da_cons (de_tup (da_cons (de_v 3) (da_cons de_int da_nil))) da_nil)) (len_cons (len_cons (fun _ _ _ _ => len_nil)))) (da_cons (de_call ((c__law_told T).mono (by decide)) hr (L2N.takes_of rfl rfl rfl rfl) (da_cons de_int (da_cons (de_tup (da_cons (de_v 3) (da_cons de_int da_nil))) da_nil)) (len_cons (len_cons (fun _ _ _ _ => len_nil)))) (da_cons (de_call ((c__law_told T).mono (by decide)) hr (L2N.takes_of rfl rfl rfl rfl) (da_cons de_int (da_cons (de_tup (da_cons (de_neg de_int) da_nil)) da_nil)) (len_cons (len_cons (fun _ _ _ _ => len_nil)))) (da_cons (de_call ((c__law_told T).mono (by decide)) hr (L2N.takes_of rfl rfl rfl rfl) (da_cons de_int (da_cons (de_tup (da_cons de_int (da_cons de_int da_nil))) da_nil)) (len_cons (len_cons (fun _ _ _ _ => len_nil)))) (da_cons (de_call ((c__law_told T).mono (by decide)) hr (L2N.takes_of rfl rfl rfl rfl) (da_cons de_int (da_cons (de_tup (da_cons de_non (da_cons de_int da_nil))) da_nil)) (len_cons (len_cons (fun _ _ _ _ => len_nil)))) da_nil))))))))
  (dss_one (ds_if (dt_ne hr.units (de_v 19) (de_mul (de_lst (da_cons de_str da_nil)) (de_len T.n_len (de_v 19)))) (dss_one (ds_ret de_bl)) dss_nil))))))))))))))))))))))))))
  (dss_one (ds_ret de_bl))))
end
end K00

set_option Elab.async false
set_option linter.all false
set_option maxRecDepth 100000
set_option maxHeartbeats 2000000
set_option exponentiation.threshold 20000
namespace K00
open PySem PySem.Spec PyProof.Rows L2 DL
theorem cst0 : ((0 : Nat) : Int) = 0 := rfl
theorem cst1 : ((1 : Nat) : Int) = 1 := rfl
theorem cst2 : ((2 : Nat) : Int) = 2 := rfl
theorem cst3 : ((3 : Nat) : Int) = 3 := rfl
abbrev rD (n d : Int) : D := .tup [.int n, .int d]
/-! ### shared -/
theorem shared_loop : ∀ (n : Nat) (a b : Int) (s : Sto), b.natAbs < n → 0 ≤ a → 0 ≤ b →
    mWhile (mB (mOp opGt (mVar 1) (mC (.int 0)))) (mPar 0 1 (mCons (mVar 1) (mCons (mOp opMod (mVar 0) (mVar 1)) mNil))) [some (.int a), some (.int b)] s = .nx [some (.int (Int.gcd a b)), some (.int 0)] s
  | 0, a, b, s, h, _, _ => absurd h (Nat.not_lt_zero _)
  | n + 1, a, b, s, h, ha, hb => by
    rw [mWhile_eq]
    by_cases h0 : b = 0
    · subst h0
      have e : (Int.gcd a 0 : Int) = a := by rw [Int.gcd_zero_right]; omega
      rw [e]
      simp only [rD, cst0, cst1, cst2, cst3, mSeq, mAsg, mPar, mRet, mOp, mVar, mC, mCons, mNil, mIfS, mB, mIf, mNeg, mNotV, mNot, mAnd, mOr, mAndV, mOrV, mCall, mNext, mExpr, mRetN, mRaise, gN, startR, mInt, mAbs, mLen, f1, f2, gInt, gAbs, gLen, mChain, D.sqO, D.lsO, mBreak, mIsi, D.kd, Kd.isi, List.map_cons, List.map_nil, List.length_cons, List.length_nil, Nat.reduceAdd, Nat.reduceSub, Nat.zero_add, List.reduceReplicate, List.replicate_zero, List.replicate_succ, List.cons_append, List.nil_append, List.append_nil, List.getElem?_cons_zero, List.getElem?_cons_succ, List.set_cons_zero, List.set_cons_succ, Res.bind_ok, Res.bind_err, Res.bind_bad, Res.st_ok, Res.st_err, Res.st_bad, SR.seq_nx, SR.seq_rt, SR.seq_ex, SR.seq_bk, SR.seq_ct, SR.seq_bad, r_add, r_sub, r_lt, r_le, r_gt, r_ge, r_eq, r_ne, r_eqB, r_neB, r_eqS, r_neS, r_ix0, r_ix1, if_true, if_false, ite_true, ite_false, Bool.false_eq_true, Bool.true_eq_false, Bool.not_true, Bool.not_false, decide_true, decide_false, reduceIte, reduceCtorEq, Int.lt_irrefl]
    · have hp : 0 < b := by omega
      have h2 := Int.fmod_lt_of_pos a hp
      have h3 := Int.fmod_nonneg ha hb
      have h1 := shared_loop n b (a.fmod b) s (by omega) hb h3
      have e : (Int.gcd b (a.fmod b) : Int) = Int.gcd a b := by
        rw [Int.fmod_eq_emod_of_nonneg a hb, Int.gcd_comm a b]
        show ((Nat.gcd b.natAbs (a % b).natAbs : Nat) : Int) = (Nat.gcd b.natAbs a.natAbs : Nat)
        rw [Int.natAbs_emod_of_nonneg ha, Nat.gcd_comm b.natAbs (a.natAbs % b.natAbs), ← Nat.gcd_rec]
      rw [e] at h1
      simp only [rD, cst0, cst1, cst2, cst3, mSeq, mAsg, mPar, mRet, mOp, mVar, mC, mCons, mNil, mIfS, mB, mIf, mNeg, mNotV, mNot, mAnd, mOr, mAndV, mOrV, mCall, mNext, mExpr, mRetN, mRaise, gN, startR, mInt, mAbs, mLen, f1, f2, gInt, gAbs, gLen, mChain, D.sqO, D.lsO, mBreak, mIsi, D.kd, Kd.isi, List.map_cons, List.map_nil, List.length_cons, List.length_nil, Nat.reduceAdd, Nat.reduceSub, Nat.zero_add, List.reduceReplicate, List.replicate_zero, List.replicate_succ, List.cons_append, List.nil_append, List.append_nil, List.getElem?_cons_zero, List.getElem?_cons_succ, List.set_cons_zero, List.set_cons_succ, Res.bind_ok, Res.bind_err, Res.bind_bad, Res.st_ok, Res.st_err, Res.st_bad, SR.seq_nx, SR.seq_rt, SR.seq_ex, SR.seq_bk, SR.seq_ct, SR.seq_bad, r_add, r_sub, r_lt, r_le, r_gt, r_ge, r_eq, r_ne, r_eqB, r_neB, r_eqS, r_neS, r_ix0, r_ix1, if_true, if_false, ite_true, ite_false, Bool.false_eq_true, Bool.true_eq_false, Bool.not_true, Bool.not_false, decide_true, decide_false, reduceIte, reduceCtorEq, hp, r_mod h0]
      exact h1
theorem shared_eq (a b : Int) (s : Sto) (ha : 0 ≤ a) (hb : 0 ≤ b) : m_shared [.int a, .int b] s = .ok (.int (Int.gcd a b)) s := by
  refine run_rt ?_ rfl rfl
  unfold mb_shared
  have h := shared_loop (b.natAbs + 1) a b s (by omega) ha hb
  rw [show startR 2 [.int a, .int b] = [some (.int a), some (.int b)] from rfl]
  show (mWhile _ _ _ _).seq _ = _
  rw [h]
  rfl
/-! ### the pair in lowest terms -/
/-- n / d in lowest terms, d > 0 -/
def rdN (n d : Int) : Int := if 0 < d then n / (Int.gcd n d : Int) else -(n / (Int.gcd n d : Int))
def rdD (n d : Int) : Int := if 0 < d then d / (Int.gcd n d : Int) else -(d / (Int.gcd n d : Int))
theorem absI (i : Int) : (if i < 0 then -i else i) = (i.natAbs : Int) := by split <;> omega
theorem gcd_abs (n d : Int) : Int.gcd (n.natAbs : Int) (d.natAbs : Int) = Int.gcd n d := by simp [Int.gcd]
theorem gcd_pos {n d : Int} (hd : d ≠ 0) : 0 < (Int.gcd n d : Int) := by
  have : 0 < Int.gcd n d := Int.gcd_pos_of_ne_zero_right n hd
  omega
theorem gcd_le {n d : Int} (hd : d ≠ 0) : (Int.gcd n d) ≤ d.natAbs := Nat.le_of_dvd (by omega) (Int.gcd_dvd_natAbs_right n d)
theorem made_eq {n d : Int} (s : Sto) (hd : d ≠ 0) (hn : n.natAbs < 2 ^ 4000) (hdd : d.natAbs < 2 ^ 4000) : m_made [.int n, .int d] s = .ok (rD (rdN n d) (rdD n d)) s := by
  refine run_rt ?_ rfl rfl
  have hg := gcd_pos (n := n) hd
  have hgl := gcd_le (n := n) hd
  have hg0 : (Int.gcd n d : Int) ≠ 0 := by omega
  have hgs : ((Int.gcd n d : Int)).natAbs < 2 ^ 8000 := Nat.lt_of_le_of_lt (by simpa using hgl) (Nat.lt_trans hdd (Nat.pow_lt_pow_right (by decide) (by decide)))
  have one : (1 : Int).natAbs < 2 ^ 2 := by decide
  have mone : (-1 : Int).natAbs < 2 ^ 2 := by decide
  have cd : ∀ i : Int, CDivG i (Int.gcd n d : Int) := fun i => cdiv hg0 hgs
  unfold mb_made
  by_cases hp : 0 < d
  · simp only [rD, cst0, cst1, cst2, cst3, mSeq, mAsg, mPar, mRet, mOp, mVar, mC, mCons, mNil, mIfS, mB, mIf, mNeg, mNotV, mNot, mAnd, mOr, mAndV, mOrV, mCall, mNext, mExpr, mRetN, mRaise, gN, startR, mInt, mAbs, mLen, f1, f2, gInt, gAbs, gLen, mChain, D.sqO, D.lsO, mBreak, mIsi, D.kd, Kd.isi, List.map_cons, List.map_nil, List.length_cons, List.length_nil, Nat.reduceAdd, Nat.reduceSub, Nat.zero_add, List.reduceReplicate, List.replicate_zero, List.replicate_succ, List.cons_append, List.nil_append, List.append_nil, List.getElem?_cons_zero, List.getElem?_cons_succ, List.set_cons_zero, List.set_cons_succ, Res.bind_ok, Res.bind_err, Res.bind_bad, Res.st_ok, Res.st_err, Res.st_bad, SR.seq_nx, SR.seq_rt, SR.seq_ex, SR.seq_bk, SR.seq_ct, SR.seq_bad, r_add, r_sub, r_lt, r_le, r_gt, r_ge, r_eq, r_ne, r_eqB, r_neB, r_eqS, r_neS, r_ix0, r_ix1, if_true, if_false, ite_true, ite_false, Bool.false_eq_true, Bool.true_eq_false, Bool.not_true, Bool.not_false, decide_true, decide_false, reduceIte, reduceCtorEq, absI, shared_eq _ _ _ (Int.natCast_nonneg _) (Int.natCast_nonneg _), gcd_abs, hp, r_mul (cmul one hn (by decide)), r_mul (cmul one hdd (by decide)), r_fdiv (cd _), rdN, rdD, Int.one_mul, mTup]
    simp only [Int.fdiv_eq_ediv_of_nonneg _ (Int.le_of_lt hg)]
    rfl
  · simp only [rD, cst0, cst1, cst2, cst3, mSeq, mAsg, mPar, mRet, mOp, mVar, mC, mCons, mNil, mIfS, mB, mIf, mNeg, mNotV, mNot, mAnd, mOr, mAndV, mOrV, mCall, mNext, mExpr, mRetN, mRaise, gN, startR, mInt, mAbs, mLen, f1, f2, gInt, gAbs, gLen, mChain, D.sqO, D.lsO, mBreak, mIsi, D.kd, Kd.isi, List.map_cons, List.map_nil, List.length_cons, List.length_nil, Nat.reduceAdd, Nat.reduceSub, Nat.zero_add, List.reduceReplicate, List.replicate_zero, List.replicate_succ, List.cons_append, List.nil_append, List.append_nil, List.getElem?_cons_zero, List.getElem?_cons_succ, List.set_cons_zero, List.set_cons_succ, Res.bind_ok, Res.bind_err, Res.bind_bad, Res.st_ok, Res.st_err, Res.st_bad, SR.seq_nx, SR.seq_rt, SR.seq_ex, SR.seq_bk, SR.seq_ct, SR.seq_bad, r_add, r_sub, r_lt, r_le, r_gt, r_ge, r_eq, r_ne, r_eqB, r_neB, r_eqS, r_neS, r_ix0, r_ix1, if_true, if_false, ite_true, ite_false, Bool.false_eq_true, Bool.true_eq_false, Bool.not_true, Bool.not_false, decide_true, decide_false, reduceIte, reduceCtorEq, absI, shared_eq _ _ _ (Int.natCast_nonneg _) (Int.natCast_nonneg _), gcd_abs, hp, r_mul (cmul mone hn (by decide)), r_mul (cmul mone hdd (by decide)), r_fdiv (cd _), rdN, rdD, mTup]
    simp only [Int.fdiv_eq_ediv_of_nonneg _ (Int.le_of_lt hg), Int.neg_mul, Int.one_mul]
    rw [Int.neg_ediv_of_dvd (Int.gcd_dvd_left n d), Int.neg_ediv_of_dvd (Int.gcd_dvd_right n d)]
    rfl
end K00

set_option Elab.async false
set_option linter.all false
set_option maxRecDepth 100000
set_option maxHeartbeats 2000000
set_option exponentiation.threshold 20000
namespace K00
open PySem PySem.Spec PyProof.Rows L2 DL
theorem loopF_nil {all : List D} {g : MG} {body : MS} {r : Ren} {s : Sto} : loopF none all g body [] r s = .nx r s := by
  unfold loopF
  rw [okk_none, if_pos rfl]
theorem loopF_cons {all : List D} {i : Nat} {body : MS} {d : D} {ds : List D} {r : Ren} {s : Sto} : loopF none all (gN i) body (d :: ds) r s = match body (r.set i (some d)) s with
      | .nx r2 s2 => loopF none all (gN i) body ds r2 s2
      | .ct r2 s2 => loopF none all (gN i) body ds r2 s2
      | .bk r2 s2 => .nx r2 s2
      | x => x := by
  rw [loopF, okk_none, if_pos rfl]
  rfl
theorem mRng_lit {n : Int} {r : Ren} {s : Sto} (h1 : -(2 ^ 62) ≤ n) (h2 : n < 2 ^ 62) : mRng1 (mCons (mC (.int n)) mNil) r s = .ok (rngD 0 n.toNat, none) s := by
  show (if _ then _ else _) = _
  rw [if_pos ⟨h1, h2⟩]
theorem mFor_rng {n : Int} {i : Nat} {body : MS} {r : Ren} {s : Sto} (h1 : -(2 ^ 62) ≤ n) (h2 : n < 2 ^ 62) : mFor (mRng1 (mCons (mC (.int n)) mNil)) (gN i) body r s = loopF none (rngD 0 n.toNat) (gN i) body (rngD 0 n.toNat) r s := by
  unfold mFor
  rw [mRng_lit h1 h2]
  rfl
/-! ### _law_r -/
abbrev lrBody : MS := mSeq (mIfS (mB (mOp opEq (mVar 3) (mC (.int 0)))) mBreak mNext) (mPar 2 3 (mCons (mVar 3) (mCons (mOp opMod (mInt (mVar 2)) (mVar 3)) mNil)))
theorem lr_stop {x y : Option D} {a : Int} {t : Option D} {all : List D} {d : D} {ds : List D} {s : Sto} :
    loopF none all (gN 4) lrBody (d :: ds) [x, y, some (.int a), some (.int 0), t] s = .nx [x, y, some (.int a), some (.int 0), some d] s := by
  rw [loopF_cons]
  simp only [rD, cst0, cst1, cst2, cst3, mSeq, mAsg, mPar, mRet, mOp, mVar, mC, mCons, mNil, mIfS, mB, mIf, mNeg, mNotV, mNot, mAnd, mOr, mAndV, mOrV, mCall, mNext, mExpr, mRetN, mRaise, gN, startR, mInt, mAbs, mLen, f1, f2, gInt, gAbs, gLen, mChain, D.sqO, D.lsO, mBreak, mIsi, D.kd, Kd.isi, List.map_cons, List.map_nil, List.length_cons, List.length_nil, Nat.reduceAdd, Nat.reduceSub, Nat.zero_add, List.reduceReplicate, List.replicate_zero, List.replicate_succ, List.cons_append, List.nil_append, List.append_nil, List.getElem?_cons_zero, List.getElem?_cons_succ, List.set_cons_zero, List.set_cons_succ, Res.bind_ok, Res.bind_err, Res.bind_bad, Res.st_ok, Res.st_err, Res.st_bad, SR.seq_nx, SR.seq_rt, SR.seq_ex, SR.seq_bk, SR.seq_ct, SR.seq_bad, r_add, r_sub, r_lt, r_le, r_gt, r_ge, r_eq, r_ne, r_eqB, r_neB, r_eqS, r_neS, r_ix0, r_ix1, if_true, if_false, ite_true, ite_false, Bool.false_eq_true, Bool.true_eq_false, Bool.not_true, Bool.not_false, decide_true, decide_false, reduceIte, reduceCtorEq, beq_self_eq_true]
theorem lr_step {x y : Option D} {a b : Int} {t : Option D} {all : List D} {d : D} {ds : List D} {s : Sto} (hb : b ≠ 0) :
    loopF none all (gN 4) lrBody (d :: ds) [x, y, some (.int a), some (.int b), t] s = loopF none all (gN 4) lrBody ds [x, y, some (.int b), some (.int (a.fmod b)), some d] s := by
  rw [loopF_cons]
  have e : (b == 0) = false := by simpa using hb
  simp only [rD, cst0, cst1, cst2, cst3, mSeq, mAsg, mPar, mRet, mOp, mVar, mC, mCons, mNil, mIfS, mB, mIf, mNeg, mNotV, mNot, mAnd, mOr, mAndV, mOrV, mCall, mNext, mExpr, mRetN, mRaise, gN, startR, mInt, mAbs, mLen, f1, f2, gInt, gAbs, gLen, mChain, D.sqO, D.lsO, mBreak, mIsi, D.kd, Kd.isi, List.map_cons, List.map_nil, List.length_cons, List.length_nil, Nat.reduceAdd, Nat.reduceSub, Nat.zero_add, List.reduceReplicate, List.replicate_zero, List.replicate_succ, List.cons_append, List.nil_append, List.append_nil, List.getElem?_cons_zero, List.getElem?_cons_succ, List.set_cons_zero, List.set_cons_succ, Res.bind_ok, Res.bind_err, Res.bind_bad, Res.st_ok, Res.st_err, Res.st_bad, SR.seq_nx, SR.seq_rt, SR.seq_ex, SR.seq_bk, SR.seq_ct, SR.seq_bad, r_add, r_sub, r_lt, r_le, r_gt, r_ge, r_eq, r_ne, r_eqB, r_neB, r_eqS, r_neS, r_ix0, r_ix1, if_true, if_false, ite_true, ite_false, Bool.false_eq_true, Bool.true_eq_false, Bool.not_true, Bool.not_false, decide_true, decide_false, reduceIte, reduceCtorEq, e, r_mod hb]
theorem gcd_step {a b : Int} (ha : 0 ≤ a) (hb : 0 ≤ b) : (Int.gcd b (a.fmod b) : Int) = Int.gcd a b := by
  rw [Int.fmod_eq_emod_of_nonneg a hb, Int.gcd_comm a b]
  show ((Nat.gcd b.natAbs (a % b).natAbs : Nat) : Int) = (Nat.gcd b.natAbs a.natAbs : Nat)
  rw [Int.natAbs_emod_of_nonneg ha, Nat.gcd_comm b.natAbs (a.natAbs % b.natAbs), ← Nat.gcd_rec]
theorem half_mod {b r : Int} (hr : 0 < r) (hrb : r ≤ b) : 2 * b.fmod r < b := by
  have h1 := Int.fmod_lt_of_pos b hr
  have h2 := Int.fmod_nonneg (a := b) (b := r) (by omega) (by omega)
  have h3 : r * b.fdiv r + b.fmod r = b := Int.mul_fdiv_add_fmod b r
  have h4 : 1 ≤ b.fdiv r := by
    rw [Int.fdiv_eq_ediv_of_nonneg _ (by omega)]
    exact (Int.le_ediv_iff_mul_le hr).mpr (by omega)
  have h5 : r * 1 ≤ r * b.fdiv r := Int.mul_le_mul_of_nonneg_left h4 (by omega)
  omega
theorem lr_loop {x y : Option D} {all : List D} {s : Sto} : ∀ (m : Nat) (ds : List D) (a b : Int) (t : Option D), 0 ≤ a → 0 ≤ b → b.natAbs < 2 ^ m → 2 * m + 1 ≤ ds.length →
    ∃ t', loopF none all (gN 4) lrBody ds [x, y, some (.int a), some (.int b), t] s = .nx [x, y, some (.int (Int.gcd a b)), some (.int 0), t'] s
  | 0, ds, a, b, t, ha, hb, hm, hl => by
    match ds, hl with
    | d :: ds, _ =>
      have h0 : b = 0 := by simp at hm; omega
      subst h0
      refine ⟨some d, ?_⟩
      rw [lr_stop, Int.gcd_zero_right]
      have : ((a.natAbs : Nat) : Int) = a := by omega
      rw [this]
  | m + 1, ds, a, b, t, ha, hb, hm, hl => by
    match ds, hl with
    | d :: d2 :: ds, hl =>
      have stop : ∀ (c : Int) (d : D) (ds : List D) (t : Option D), 0 ≤ c → ∃ t', loopF none all (gN 4) lrBody (d :: ds) [x, y, some (.int c), some (.int 0), t] s = .nx [x, y, some (.int (Int.gcd c 0)), some (.int 0), t'] s := fun c d ds t hc => by
        refine ⟨some d, ?_⟩
        rw [lr_stop, Int.gcd_zero_right]
        have : ((c.natAbs : Nat) : Int) = c := by omega
        rw [this]
      by_cases h0 : b = 0
      · subst h0
        exact stop a d _ t ha
      · rw [lr_step h0, ← gcd_step ha hb]
        have h3 := Int.fmod_nonneg ha hb
        have h2 := Int.fmod_lt_of_pos a (show 0 < b by omega)
        by_cases h1 : a.fmod b = 0
        · rw [h1]
          exact stop b d2 _ _ hb
        · rw [lr_step h1, ← gcd_step hb h3]
          have h4 := half_mod (b := b) (r := a.fmod b) (by omega) (by omega)
          have h5 := Int.fmod_nonneg (a := b) (b := a.fmod b) hb h3
          refine lr_loop m ds (a.fmod b) (b.fmod (a.fmod b)) _ h3 h5 ?_ ?_
          · rw [Nat.pow_succ] at hm
            omega
          · simp only [List.length_cons] at hl
            omega
theorem lawr_eq {n d : Int} (s : Sto) (hd : d ≠ 0) (hn : n.natAbs < 2 ^ 4000) (hdd : d.natAbs < 2 ^ 4000) : m__law_r [.int n, .int d] s = .ok (rD (rdN n d) (rdD n d)) s := by
  refine run_rt ?_ rfl rfl
  have hg := gcd_pos (n := n) hd
  have hgl := gcd_le (n := n) hd
  have hg0 : (Int.gcd n d : Int) ≠ 0 := by omega
  have hgs : ((Int.gcd n d : Int)).natAbs < 2 ^ 8000 := Nat.lt_of_le_of_lt (by simpa using hgl) (Nat.lt_trans hdd (Nat.pow_lt_pow_right (by decide) (by decide)))
  have cd : ∀ i : Int, CDivG i (Int.gcd n d : Int) := fun i => cdiv hg0 hgs
  have hl : 2 * 4000 + 1 ≤ (rngD 0 400000).length := by rw [rngD_len]; decide
  obtain ⟨t', h⟩ := lr_loop (x := some (.int n)) (y := some (.int d)) (all := rngD 0 400000) (s := s) 4000 (rngD 0 400000) (n.natAbs : Int) (d.natAbs : Int) none (by omega) (by omega) (by simpa using hdd) hl
  rw [gcd_abs] at h
  unfold mb__law_r
  have e0 : ((400000 : Int)).toNat = 400000 := rfl
  simp only [rD, cst0, cst1, cst2, cst3, mSeq, mAsg, mPar, mRet, mOp, mVar, mC, mCons, mNil, mIfS, mB, mIf, mNeg, mNotV, mNot, mAnd, mOr, mAndV, mOrV, mCall, mNext, mExpr, mRetN, mRaise, gN, startR, mInt, mAbs, mLen, f1, f2, gInt, gAbs, gLen, mChain, D.sqO, D.lsO, mBreak, mIsi, D.kd, Kd.isi, List.map_cons, List.map_nil, List.length_cons, List.length_nil, Nat.reduceAdd, Nat.reduceSub, Nat.zero_add, List.reduceReplicate, List.replicate_zero, List.replicate_succ, List.cons_append, List.nil_append, List.append_nil, List.getElem?_cons_zero, List.getElem?_cons_succ, List.set_cons_zero, List.set_cons_succ, Res.bind_ok, Res.bind_err, Res.bind_bad, Res.st_ok, Res.st_err, Res.st_bad, SR.seq_nx, SR.seq_rt, SR.seq_ex, SR.seq_bk, SR.seq_ct, SR.seq_bad, r_add, r_sub, r_lt, r_le, r_gt, r_ge, r_eq, r_ne, r_eqB, r_neB, r_eqS, r_neS, r_ix0, r_ix1, if_true, if_false, ite_true, ite_false, Bool.false_eq_true, Bool.true_eq_false, Bool.not_true, Bool.not_false, decide_true, decide_false, reduceIte, reduceCtorEq, absI, mFor_rng (n := 400000) (by decide) (by decide), e0]
  have h' : loopF none (rngD 0 400000) (gN 4) lrBody (rngD 0 400000) [some (.int n), some (.int d), some (.int (n.natAbs : Int)), some (.int (d.natAbs : Int)), none] s = .nx [some (.int n), some (.int d), some (.int (Int.gcd n d)), some (.int 0), t'] s := h
  simp only [lrBody, rD, cst0, cst1, cst2, cst3, mSeq, mAsg, mPar, mRet, mOp, mVar, mC, mCons, mNil, mIfS, mB, mIf, mNeg, mNotV, mNot, mAnd, mOr, mAndV, mOrV, mCall, mNext, mExpr, mRetN, mRaise, gN, startR, mInt, mAbs, mLen, f1, f2, gInt, gAbs, gLen, mChain, D.sqO, D.lsO, mBreak, mIsi, D.kd, Kd.isi, List.map_cons, List.map_nil, List.length_cons, List.length_nil, Nat.reduceAdd, Nat.reduceSub, Nat.zero_add, List.reduceReplicate, List.replicate_zero, List.replicate_succ, List.cons_append, List.nil_append, List.append_nil, List.getElem?_cons_zero, List.getElem?_cons_succ, List.set_cons_zero, List.set_cons_succ, Res.bind_ok, Res.bind_err, Res.bind_bad, Res.st_ok, Res.st_err, Res.st_bad, SR.seq_nx, SR.seq_rt, SR.seq_ex, SR.seq_bk, SR.seq_ct, SR.seq_bad, r_add, r_sub, r_lt, r_le, r_gt, r_ge, r_eq, r_ne, r_eqB, r_neB, r_eqS, r_neS, r_ix0, r_ix1, if_true, if_false, ite_true, ite_false, Bool.false_eq_true, Bool.true_eq_false, Bool.not_true, Bool.not_false, decide_true, decide_false, reduceIte, reduceCtorEq] at h'
  rw [h']
  by_cases hp : 0 < d
  · simp only [rD, cst0, cst1, cst2, cst3, mSeq, mAsg, mPar, mRet, mOp, mVar, mC, mCons, mNil, mIfS, mB, mIf, mNeg, mNotV, mNot, mAnd, mOr, mAndV, mOrV, mCall, mNext, mExpr, mRetN, mRaise, gN, startR, mInt, mAbs, mLen, f1, f2, gInt, gAbs, gLen, mChain, D.sqO, D.lsO, mBreak, mIsi, D.kd, Kd.isi, List.map_cons, List.map_nil, List.length_cons, List.length_nil, Nat.reduceAdd, Nat.reduceSub, Nat.zero_add, List.reduceReplicate, List.replicate_zero, List.replicate_succ, List.cons_append, List.nil_append, List.append_nil, List.getElem?_cons_zero, List.getElem?_cons_succ, List.set_cons_zero, List.set_cons_succ, Res.bind_ok, Res.bind_err, Res.bind_bad, Res.st_ok, Res.st_err, Res.st_bad, SR.seq_nx, SR.seq_rt, SR.seq_ex, SR.seq_bk, SR.seq_ct, SR.seq_bad, r_add, r_sub, r_lt, r_le, r_gt, r_ge, r_eq, r_ne, r_eqB, r_neB, r_eqS, r_neS, r_ix0, r_ix1, if_true, if_false, ite_true, ite_false, Bool.false_eq_true, Bool.true_eq_false, Bool.not_true, Bool.not_false, decide_true, decide_false, reduceIte, reduceCtorEq, hp, r_fdiv (cd _), rdN, rdD, mTup, Int.fdiv_eq_ediv_of_nonneg _ (Int.le_of_lt hg)]
    rfl
  · simp only [rD, cst0, cst1, cst2, cst3, mSeq, mAsg, mPar, mRet, mOp, mVar, mC, mCons, mNil, mIfS, mB, mIf, mNeg, mNotV, mNot, mAnd, mOr, mAndV, mOrV, mCall, mNext, mExpr, mRetN, mRaise, gN, startR, mInt, mAbs, mLen, f1, f2, gInt, gAbs, gLen, mChain, D.sqO, D.lsO, mBreak, mIsi, D.kd, Kd.isi, List.map_cons, List.map_nil, List.length_cons, List.length_nil, Nat.reduceAdd, Nat.reduceSub, Nat.zero_add, List.reduceReplicate, List.replicate_zero, List.replicate_succ, List.cons_append, List.nil_append, List.append_nil, List.getElem?_cons_zero, List.getElem?_cons_succ, List.set_cons_zero, List.set_cons_succ, Res.bind_ok, Res.bind_err, Res.bind_bad, Res.st_ok, Res.st_err, Res.st_bad, SR.seq_nx, SR.seq_rt, SR.seq_ex, SR.seq_bk, SR.seq_ct, SR.seq_bad, r_add, r_sub, r_lt, r_le, r_gt, r_ge, r_eq, r_ne, r_eqB, r_neB, r_eqS, r_neS, r_ix0, r_ix1, if_true, if_false, ite_true, ite_false, Bool.false_eq_true, Bool.true_eq_false, Bool.not_true, Bool.not_false, decide_true, decide_false, reduceIte, reduceCtorEq, hp, r_fdiv (cd _), rdN, rdD, mTup, Int.fdiv_eq_ediv_of_nonneg _ (Int.le_of_lt hg), Int.zero_sub]
    rfl
end K00

set_option Elab.async false
set_option linter.all false
set_option maxRecDepth 100000
set_option maxHeartbeats 2000000
set_option exponentiation.threshold 20000
namespace K00
open PySem PySem.Spec PyProof.Rows L2 DL
/-! ### lowest terms -/
structure Rt (p q : Int) : Prop where
  pos : 0 < q
  cop : Int.gcd p q = 1
theorem cross_unique {p q u v : Int} (h : Rt p q) (h' : Rt u v) (e : p * v = u * q) : p = u ∧ q = v := by
  have hq := h.pos
  have hv := h'.pos
  have d1 : q.natAbs ∣ v.natAbs := by
    have c : Nat.Coprime q.natAbs p.natAbs := by rw [Nat.coprime_comm]; exact h.cop
    refine c.dvd_of_dvd_mul_left (k := q.natAbs) (m := p.natAbs) (n := v.natAbs) ?_
    rw [← Int.natAbs_mul, e, Int.natAbs_mul]
    exact Nat.dvd_mul_left _ _
  have d2 : v.natAbs ∣ q.natAbs := by
    have c : Nat.Coprime v.natAbs u.natAbs := by rw [Nat.coprime_comm]; exact h'.cop
    refine c.dvd_of_dvd_mul_left (k := v.natAbs) (m := u.natAbs) (n := q.natAbs) ?_
    rw [← Int.natAbs_mul, ← e, Int.natAbs_mul]
    exact Nat.dvd_mul_left _ _
  have e2 : q.natAbs = v.natAbs := Nat.dvd_antisymm d1 d2
  have e3 : q = v := by omega
  subst e3
  exact ⟨Int.eq_of_mul_eq_mul_right (by omega) e, rfl⟩
theorem rd_form {n d : Int} (hd : d ≠ 0) : ∃ (g n' d' : Int), 0 < g ∧ n = g * n' ∧ d = g * d' ∧ Int.gcd n' d' = 1 ∧ rdN n d = (if 0 < d then n' else -n') ∧ rdD n d = (if 0 < d then d' else -d') := by
  obtain ⟨n', hn⟩ := Int.gcd_dvd_left n d
  obtain ⟨d', hd'⟩ := Int.gcd_dvd_right n d
  have hg := gcd_pos (n := n) hd
  have hc : Int.gcd n d = Int.gcd n d * Int.gcd n' d' := by
    have h1 := Int.gcd_mul_left (Int.gcd n d : Int) n' d'
    rw [← hn, ← hd'] at h1
    simpa using h1
  have hc1 : Int.gcd n' d' = 1 := by
    have h0 : 0 < Int.gcd n d := by omega
    have h2 : Int.gcd n d * Int.gcd n' d' = Int.gcd n d * 1 := by omega
    exact Nat.eq_of_mul_eq_mul_left h0 h2
  refine ⟨(Int.gcd n d : Int), n', d', hg, hn, hd', hc1, ?_, ?_⟩
  · unfold rdN
    have e1 : n / (Int.gcd n d : Int) = n' := by
      have h1 : n / (Int.gcd n d : Int) = ((Int.gcd n d : Int) * n') / (Int.gcd n d : Int) := by rw [← hn]
      rw [h1, Int.mul_ediv_cancel_left _ (by omega)]
    rw [e1]
  · unfold rdD
    have e1 : d / (Int.gcd n d : Int) = d' := by
      have h1 : d / (Int.gcd n d : Int) = ((Int.gcd n d : Int) * d') / (Int.gcd n d : Int) := by rw [← hd']
      rw [h1, Int.mul_ediv_cancel_left _ (by omega)]
    rw [e1]
theorem pos_of {g d : Int} (h : 0 < g * d) (hg : 0 < g) : 0 < d := by
  rcases Int.lt_or_le 0 d with q | q
  · exact q
  · have := Int.mul_le_mul_of_nonneg_left q (Int.le_of_lt hg)
    rw [Int.mul_zero] at this
    omega
theorem rd_cross {n d : Int} (hd : d ≠ 0) : rdN n d * d = n * rdD n d := by
  obtain ⟨g, n', d', hg, hn, hd', _, e1, e2⟩ := rd_form (n := n) hd
  rw [e1, e2]
  split
  · rw [hn, hd', Int.mul_left_comm, Int.mul_assoc]
  · rw [hn, hd', Int.neg_mul, Int.mul_neg, Int.mul_left_comm, Int.mul_assoc]
theorem rd_rt {n d : Int} (hd : d ≠ 0) : Rt (rdN n d) (rdD n d) := by
  obtain ⟨g, n', d', hg, hn, hd', hc, e1, e2⟩ := rd_form (n := n) hd
  rw [e1, e2]
  split
  · rename_i hp
    rw [hd'] at hp
    exact ⟨pos_of hp hg, hc⟩
  · rename_i hp
    have hm : 0 < g * -d' := by rw [Int.mul_neg, ← hd']; omega
    exact ⟨pos_of hm hg, by simpa using hc⟩
theorem rd_of {n d p q : Int} (hd : d ≠ 0) (h : Rt p q) (e : p * d = n * q) : rD (rdN n d) (rdD n d) = rD p q := by
  have r := rd_rt (n := n) hd
  have c := rd_cross (n := n) hd
  have e2 : rdN n d * q = p * rdD n d := by
    refine Int.eq_of_mul_eq_mul_right hd ?_
    rw [Int.mul_right_comm, c, Int.mul_right_comm p, e, Int.mul_right_comm]
  obtain ⟨h1, h2⟩ := cross_unique r h (by rw [e2])
  rw [h1, h2]
/-! ### checks -/
theorem isint_int (i : Int) (s : Sto) : m_is_integer [.int i] s = .ok (.bl true) s := run_rt rfl rfl rfl
theorem isint_bl (i : Bool) (s : Sto) : m_is_integer [.bl i] s = .ok (.bl false) s := run_rt rfl rfl rfl
theorem isint_non (s : Sto) : m_is_integer [.non] s = .ok (.bl false) s := run_rt rfl rfl rfl
theorem isint_str (z : Str) (s : Sto) : m_is_integer [.str z] s = .ok (.bl false) s := run_rt rfl rfl rfl
theorem check_t (s : Sto) : m_check [.bl true] s = .ok .non s := by
  refine run_nx (r := [some (.bl true)]) ?_ rfl
  rfl
theorem check_f (s : Sto) : m_check [.bl false] s = .err "NotRight" s := by
  refine run_ex (r := [some (.bl false)]) ?_ rfl
  rfl
theorem within_t {i a b : Int} (s : Sto) (h1 : a ≤ i) (h2 : i ≤ b) : m_is_within [.int i, .int a, .int b] s = .ok (.bl true) s := by
  refine run_rt ?_ rfl rfl
  unfold mb_is_within
  simp only [rD, cst0, cst1, cst2, cst3, mSeq, mAsg, mPar, mRet, mOp, mVar, mC, mCons, mNil, mIfS, mB, mIf, mNeg, mNotV, mNot, mAnd, mOr, mAndV, mOrV, mCall, mNext, mExpr, mRetN, mRaise, gN, startR, mInt, mAbs, mLen, f1, f2, gInt, gAbs, gLen, mChain, D.sqO, D.lsO, mBreak, mIsi, D.kd, Kd.isi, List.map_cons, List.map_nil, List.length_cons, List.length_nil, Nat.reduceAdd, Nat.reduceSub, Nat.zero_add, List.reduceReplicate, List.replicate_zero, List.replicate_succ, List.cons_append, List.nil_append, List.append_nil, List.getElem?_cons_zero, List.getElem?_cons_succ, List.set_cons_zero, List.set_cons_succ, Res.bind_ok, Res.bind_err, Res.bind_bad, Res.st_ok, Res.st_err, Res.st_bad, SR.seq_nx, SR.seq_rt, SR.seq_ex, SR.seq_bk, SR.seq_ct, SR.seq_bad, r_add, r_sub, r_lt, r_le, r_gt, r_ge, r_eq, r_ne, r_eqB, r_neB, r_eqS, r_neS, r_ix0, r_ix1, if_true, if_false, ite_true, ite_false, Bool.false_eq_true, Bool.true_eq_false, Bool.not_true, Bool.not_false, decide_true, decide_false, reduceIte, reduceCtorEq, isint_int, h1, h2]
theorem within_f {i a b : Int} (s : Sto) (h : ¬ (a ≤ i ∧ i ≤ b)) : m_is_within [.int i, .int a, .int b] s = .ok (.bl false) s := by
  refine run_rt ?_ rfl rfl
  unfold mb_is_within
  by_cases h1 : a ≤ i
  · have h2 : ¬ i ≤ b := fun z => h ⟨h1, z⟩
    simp only [rD, cst0, cst1, cst2, cst3, mSeq, mAsg, mPar, mRet, mOp, mVar, mC, mCons, mNil, mIfS, mB, mIf, mNeg, mNotV, mNot, mAnd, mOr, mAndV, mOrV, mCall, mNext, mExpr, mRetN, mRaise, gN, startR, mInt, mAbs, mLen, f1, f2, gInt, gAbs, gLen, mChain, D.sqO, D.lsO, mBreak, mIsi, D.kd, Kd.isi, List.map_cons, List.map_nil, List.length_cons, List.length_nil, Nat.reduceAdd, Nat.reduceSub, Nat.zero_add, List.reduceReplicate, List.replicate_zero, List.replicate_succ, List.cons_append, List.nil_append, List.append_nil, List.getElem?_cons_zero, List.getElem?_cons_succ, List.set_cons_zero, List.set_cons_succ, Res.bind_ok, Res.bind_err, Res.bind_bad, Res.st_ok, Res.st_err, Res.st_bad, SR.seq_nx, SR.seq_rt, SR.seq_ex, SR.seq_bk, SR.seq_ct, SR.seq_bad, r_add, r_sub, r_lt, r_le, r_gt, r_ge, r_eq, r_ne, r_eqB, r_neB, r_eqS, r_neS, r_ix0, r_ix1, if_true, if_false, ite_true, ite_false, Bool.false_eq_true, Bool.true_eq_false, Bool.not_true, Bool.not_false, decide_true, decide_false, reduceIte, reduceCtorEq, isint_int, h1, h2]
  · simp only [rD, cst0, cst1, cst2, cst3, mSeq, mAsg, mPar, mRet, mOp, mVar, mC, mCons, mNil, mIfS, mB, mIf, mNeg, mNotV, mNot, mAnd, mOr, mAndV, mOrV, mCall, mNext, mExpr, mRetN, mRaise, gN, startR, mInt, mAbs, mLen, f1, f2, gInt, gAbs, gLen, mChain, D.sqO, D.lsO, mBreak, mIsi, D.kd, Kd.isi, List.map_cons, List.map_nil, List.length_cons, List.length_nil, Nat.reduceAdd, Nat.reduceSub, Nat.zero_add, List.reduceReplicate, List.replicate_zero, List.replicate_succ, List.cons_append, List.nil_append, List.append_nil, List.getElem?_cons_zero, List.getElem?_cons_succ, List.set_cons_zero, List.set_cons_succ, Res.bind_ok, Res.bind_err, Res.bind_bad, Res.st_ok, Res.st_err, Res.st_bad, SR.seq_nx, SR.seq_rt, SR.seq_ex, SR.seq_bk, SR.seq_ct, SR.seq_bad, r_add, r_sub, r_lt, r_le, r_gt, r_ge, r_eq, r_ne, r_eqB, r_neB, r_eqS, r_neS, r_ix0, r_ix1, if_true, if_false, ite_true, ite_false, Bool.false_eq_true, Bool.true_eq_false, Bool.not_true, Bool.not_false, decide_true, decide_false, reduceIte, reduceCtorEq, isint_int, h1]
theorem within_non {a b : Int} (s : Sto) : m_is_within [.non, .int a, .int b] s = .ok (.bl false) s := by
  refine run_rt ?_ rfl rfl
  unfold mb_is_within
  simp only [rD, cst0, cst1, cst2, cst3, mSeq, mAsg, mPar, mRet, mOp, mVar, mC, mCons, mNil, mIfS, mB, mIf, mNeg, mNotV, mNot, mAnd, mOr, mAndV, mOrV, mCall, mNext, mExpr, mRetN, mRaise, gN, startR, mInt, mAbs, mLen, f1, f2, gInt, gAbs, gLen, mChain, D.sqO, D.lsO, mBreak, mIsi, D.kd, Kd.isi, List.map_cons, List.map_nil, List.length_cons, List.length_nil, Nat.reduceAdd, Nat.reduceSub, Nat.zero_add, List.reduceReplicate, List.replicate_zero, List.replicate_succ, List.cons_append, List.nil_append, List.append_nil, List.getElem?_cons_zero, List.getElem?_cons_succ, List.set_cons_zero, List.set_cons_succ, Res.bind_ok, Res.bind_err, Res.bind_bad, Res.st_ok, Res.st_err, Res.st_bad, SR.seq_nx, SR.seq_rt, SR.seq_ex, SR.seq_bk, SR.seq_ct, SR.seq_bad, r_add, r_sub, r_lt, r_le, r_gt, r_ge, r_eq, r_ne, r_eqB, r_neB, r_eqS, r_neS, r_ix0, r_ix1, if_true, if_false, ite_true, ite_false, Bool.false_eq_true, Bool.true_eq_false, Bool.not_true, Bool.not_false, decide_true, decide_false, reduceIte, reduceCtorEq, isint_non, isint_bl]
theorem within_bl {i : Bool} {a b : Int} (s : Sto) : m_is_within [.bl i, .int a, .int b] s = .ok (.bl false) s := by
  refine run_rt ?_ rfl rfl
  unfold mb_is_within
  simp only [rD, cst0, cst1, cst2, cst3, mSeq, mAsg, mPar, mRet, mOp, mVar, mC, mCons, mNil, mIfS, mB, mIf, mNeg, mNotV, mNot, mAnd, mOr, mAndV, mOrV, mCall, mNext, mExpr, mRetN, mRaise, gN, startR, mInt, mAbs, mLen, f1, f2, gInt, gAbs, gLen, mChain, D.sqO, D.lsO, mBreak, mIsi, D.kd, Kd.isi, List.map_cons, List.map_nil, List.length_cons, List.length_nil, Nat.reduceAdd, Nat.reduceSub, Nat.zero_add, List.reduceReplicate, List.replicate_zero, List.replicate_succ, List.cons_append, List.nil_append, List.append_nil, List.getElem?_cons_zero, List.getElem?_cons_succ, List.set_cons_zero, List.set_cons_succ, Res.bind_ok, Res.bind_err, Res.bind_bad, Res.st_ok, Res.st_err, Res.st_bad, SR.seq_nx, SR.seq_rt, SR.seq_ex, SR.seq_bk, SR.seq_ct, SR.seq_bad, r_add, r_sub, r_lt, r_le, r_gt, r_ge, r_eq, r_ne, r_eqB, r_neB, r_eqS, r_neS, r_ix0, r_ix1, if_true, if_false, ite_true, ite_false, Bool.false_eq_true, Bool.true_eq_false, Bool.not_true, Bool.not_false, decide_true, decide_false, reduceIte, reduceCtorEq, isint_non, isint_bl]
theorem isr_ok {p q : Int} (h : Rt p q) (s : Sto) : m_is_ratio [rD p q] s = .ok (.bl true) s := by
  refine run_rt ?_ rfl rfl
  have hq := h.pos
  have e : Int.gcd (p.natAbs : Int) q = 1 := by
    have := h.cop
    simpa [Int.gcd] using this
  unfold mb_is_ratio
  have e1 : (D.tup [D.int p, D.int q]).kd = some .tup := rfl
  have e2 : Kd.tup.isi .tup = true := rfl
  simp only [rD, cst0, cst1, cst2, cst3, mSeq, mAsg, mPar, mRet, mOp, mVar, mC, mCons, mNil, mIfS, mB, mIf, mNeg, mNotV, mNot, mAnd, mOr, mAndV, mOrV, mCall, mNext, mExpr, mRetN, mRaise, gN, startR, mInt, mAbs, mLen, f1, f2, gInt, gAbs, gLen, mChain, D.sqO, D.lsO, mBreak, mIsi, D.kd, Kd.isi, List.map_cons, List.map_nil, List.length_cons, List.length_nil, Nat.reduceAdd, Nat.reduceSub, Nat.zero_add, List.reduceReplicate, List.replicate_zero, List.replicate_succ, List.cons_append, List.nil_append, List.append_nil, List.getElem?_cons_zero, List.getElem?_cons_succ, List.set_cons_zero, List.set_cons_succ, Res.bind_ok, Res.bind_err, Res.bind_bad, Res.st_ok, Res.st_err, Res.st_bad, SR.seq_nx, SR.seq_rt, SR.seq_ex, SR.seq_bk, SR.seq_ct, SR.seq_bad, r_add, r_sub, r_lt, r_le, r_gt, r_ge, r_eq, r_ne, r_eqB, r_neB, r_eqS, r_neS, r_ix0, r_ix1, if_true, if_false, ite_true, ite_false, Bool.false_eq_true, Bool.true_eq_false, Bool.not_true, Bool.not_false, decide_true, decide_false, reduceIte, reduceCtorEq, e1, e2, isint_int, absI, shared_eq _ _ _ (Int.natCast_nonneg _) (Int.le_of_lt hq), e, hq, Int.natCast_one, beq_self_eq_true]


theorem isr_24 (s : Sto) : m_is_ratio [rD 2 4] s = .ok (.bl false) s := by
  refine run_rt ?_ rfl rfl
  unfold mb_is_ratio
  have e1 : (D.tup [D.int 2, D.int 4]).kd = some .tup := rfl
  have e2 : Kd.tup.isi .tup = true := rfl
  have e3 : ((Int.gcd ((Int.natAbs 2 : Nat) : Int) 4 : Int) == 1) = false := by decide +kernel
  have h4 : (0 : Int) < 4 := by decide
  simp only [rD, cst0, cst1, cst2, cst3, mSeq, mAsg, mPar, mRet, mOp, mVar, mC, mCons, mNil, mIfS, mB, mIf, mNeg, mNotV, mNot, mAnd, mOr, mAndV, mOrV, mCall, mNext, mExpr, mRetN, mRaise, gN, startR, mInt, mAbs, mLen, f1, f2, gInt, gAbs, gLen, mChain, D.sqO, D.lsO, mBreak, mIsi, D.kd, Kd.isi, List.map_cons, List.map_nil, List.length_cons, List.length_nil, Nat.reduceAdd, Nat.reduceSub, Nat.zero_add, List.reduceReplicate, List.replicate_zero, List.replicate_succ, List.cons_append, List.nil_append, List.append_nil, List.getElem?_cons_zero, List.getElem?_cons_succ, List.set_cons_zero, List.set_cons_succ, Res.bind_ok, Res.bind_err, Res.bind_bad, Res.st_ok, Res.st_err, Res.st_bad, SR.seq_nx, SR.seq_rt, SR.seq_ex, SR.seq_bk, SR.seq_ct, SR.seq_bad, r_add, r_sub, r_lt, r_le, r_gt, r_ge, r_eq, r_ne, r_eqB, r_neB, r_eqS, r_neS, r_ix0, r_ix1, if_true, if_false, ite_true, ite_false, Bool.false_eq_true, Bool.true_eq_false, Bool.not_true, Bool.not_false, decide_true, decide_false, reduceIte, reduceCtorEq, e1, e2, isint_int, absI, shared_eq _ _ _ (Int.natCast_nonneg _) (Int.le_of_lt h4), h4, e3, beq_self_eq_true]
theorem isr_bad {d : D} (s : Sto) (h : d = .non ∨ d = .int 1 ∨ d = .tup [.int 1] ∨ d = rD 1 0 ∨ d = rD 1 (-2) ∨ d = .tup [.bl true, .int 1] ∨ d = .lst [.int 1, .int 2] ∨ d = .tup [.str "1", .int 2] ∨ d = .tup [.int 1, .int 2, .int 3]) : m_is_ratio [d] s = .ok (.bl false) s := by
  refine run_rt ?_ rfl rfl
  rcases h with h | h | h | h | h | h | h | h | h <;> subst h <;> first
    | rfl
    | (unfold mb_is_ratio
       have e1 : ∀ ds : List D, (D.tup ds).kd = some .tup := fun _ => rfl
       have e2 : Kd.tup.isi .tup = true := rfl
       have n0 : ¬ (0 : Int) < 0 := by decide
       have n2 : ¬ (0 : Int) < -2 := by decide
       simp only [rD, cst0, cst1, cst2, cst3, mSeq, mAsg, mPar, mRet, mOp, mVar, mC, mCons, mNil, mIfS, mB, mIf, mNeg, mNotV, mNot, mAnd, mOr, mAndV, mOrV, mCall, mNext, mExpr, mRetN, mRaise, gN, startR, mInt, mAbs, mLen, f1, f2, gInt, gAbs, gLen, mChain, D.sqO, D.lsO, mBreak, mIsi, D.kd, Kd.isi, List.map_cons, List.map_nil, List.length_cons, List.length_nil, Nat.reduceAdd, Nat.reduceSub, Nat.zero_add, List.reduceReplicate, List.replicate_zero, List.replicate_succ, List.cons_append, List.nil_append, List.append_nil, List.getElem?_cons_zero, List.getElem?_cons_succ, List.set_cons_zero, List.set_cons_succ, Res.bind_ok, Res.bind_err, Res.bind_bad, Res.st_ok, Res.st_err, Res.st_bad, SR.seq_nx, SR.seq_rt, SR.seq_ex, SR.seq_bk, SR.seq_ct, SR.seq_bad, r_add, r_sub, r_lt, r_le, r_gt, r_ge, r_eq, r_ne, r_eqB, r_neB, r_eqS, r_neS, r_ix0, r_ix1, if_true, if_false, ite_true, ite_false, Bool.false_eq_true, Bool.true_eq_false, Bool.not_true, Bool.not_false, decide_true, decide_false, reduceIte, reduceCtorEq, e1, e2, n0, n2, isint_int, isint_bl, isint_str, beq_self_eq_true])
end K00

set_option Elab.async false
set_option linter.all false
set_option maxRecDepth 100000
set_option maxHeartbeats 2000000
set_option exponentiation.threshold 20000
namespace K00
open PySem PySem.Spec PyProof.Rows L2 DL
theorem q_call1 {f : MF} {m : M1 D} {r : Ren} {s s1 : Sto} {d : D} (h : m r s = .ok d s1) : mCall f (mCons m mNil) r s = f [d] s1 := by
  show ((m r s).bind fun d s1 => (mNil r s1).bind fun ds s2 => Res.ok (d :: ds) s2).bind _ = _
  rw [h]
  rfl
theorem q_call2 {f : MF} {m m' : M1 D} {r : Ren} {s s1 s2 : Sto} {d e : D} (h : m r s = .ok d s1) (h' : m' r s1 = .ok e s2) : mCall f (mCons m (mCons m' mNil)) r s = f [d, e] s2 := by
  show ((m r s).bind fun d s1 => (mCons m' mNil r s1).bind fun ds s2 => Res.ok (d :: ds) s2).bind _ = _
  rw [h, Res.bind_ok]
  show (((m' r s1).bind fun d s1 => (mNil r s1).bind fun ds s2 => Res.ok (d :: ds) s2).bind _).bind _ = _
  rw [h']
  rfl
theorem lcL_map {i : Nat} {elt : M1 D} {r0 : Ren} {s : Sto} {all : List D} (f : D → D) : ∀ (ds acc : List D), (∀ d ∈ ds, elt (r0.set i (some d)) s = .ok (f d) s) → acc.length + ds.length ≤ sizeLine → lcL none all (gN i) mYes elt r0 ds s acc = .ok (acc ++ ds.map f) s
  | [], acc, _, _ => by
    unfold lcL
    rw [okk_none, if_pos rfl]
    simp
  | d :: ds, acc, h, hl => by
    rw [List.length_cons] at hl
    unfold lcL
    rw [okk_none, if_pos rfl]
    show ((sure (mYes (r0.set i (some d)) s)).bind _) = _
    rw [show sure (mYes (r0.set i (some d)) s) = .ok true s from rfl, Res.bind_ok, if_pos rfl, h d List.mem_cons_self, sure_ok, Res.bind_ok, if_pos (by omega),
      lcL_map f ds (acc ++ [f d]) (fun e he => h e (List.mem_cons_of_mem _ he)) (by rw [List.length_append, List.length_cons, List.length_nil]; omega)]
    simp
theorem lc_rng {n : Int} {i : Nat} {elt : M1 D} {r : Ren} {s : Sto} (f : D → D) (h1 : -(2 ^ 62) ≤ n) (h2 : n < 2 ^ 62) (hl : n.toNat ≤ sizeLine) (h : ∀ d ∈ rngD 0 n.toNat, elt ((r.set i none).set i (some d)) s = .ok (f d) s) :
    mLc (mRng1 (mCons (mC (.int n)) mNil)) [i] (gN i) mYes elt r s = .ok (.lst ((rngD 0 n.toNat).map f)) s := by
  unfold mLc
  rw [mRng_lit h1 h2, Res.bind_ok]
  dsimp only
  rw [show wipeR r [i] = r.set i none from rfl, lcL_map f _ [] h (by rw [rngD_len, List.length_nil]; omega)]
  simp
theorem lc_lst {i : Nat} {elt : M1 D} {m : M1 D} {r : Ren} {s : Sto} {ds : List D} (f : D → D) (hm : m r s = .ok (.lst ds) s ∨ m r s = .ok (.tup ds) s ∨ m r s = .ok (.frl ds) s) (hl : ds.length ≤ sizeLine) (h : ∀ d ∈ ds, elt ((r.set i none).set i (some d)) s = .ok (f d) s) :
    mLc (mItS m) [i] (gN i) mYes elt r s = .ok (.lst (ds.map f)) s := by
  unfold mLc
  have e : mItS m r s = .ok (ds, none) s := by
    unfold mItS
    rcases hm with hm | hm | hm <;> rw [hm] <;> rfl
  rw [e, Res.bind_ok]
  dsimp only
  rw [show wipeR r [i] = r.set i none from rfl, lcL_map f _ [] h (by rw [List.length_nil]; omega)]
  simp
theorem blsO_map {α : Type} (g : α → Bool) : ∀ ds : List α, blsO (ds.map fun d => D.bl (g d)) = some (ds.map g)
  | [] => rfl
  | d :: ds => by
    show (blsO (ds.map fun d => D.bl (g d))).map _ = _
    rw [blsO_map g ds]
    rfl
theorem check_eq (b : Bool) (s : Sto) : m_check [.bl b] s = if b then .ok .non s else .err "NotRight" s := by
  cases b
  · exact check_f s
  · exact check_t s
theorem checks_eq {ds : List D} (g : D → Bool) (s : Sto) (hl : ds.length ≤ 100) (h : ∀ d ∈ ds, m_is_ratio [d] s = .ok (.bl (g d)) s) : m_check_ratios ds s = if ds.all g then .ok .non s else .err "NotRight" s := by
  have hz : ds.length ≤ sizeLine := Nat.le_trans hl (by decide)
  have e : mLc (mItS (mVar 0)) [1] (gN 1) mYes (mCall m_is_ratio (mCons (mVar 1) mNil)) [some (.tup ds), none] s = .ok (.lst (ds.map fun d => D.bl (g d))) s := by
    refine lc_lst (fun d => .bl (g d)) (.inr (.inl rfl)) hz fun d hd => ?_
    show (m_is_ratio [d] s) = _
    exact h d hd
  have e2 : mAll (mLc (mItS (mVar 0)) [1] (gN 1) mYes (mCall m_is_ratio (mCons (mVar 1) mNil))) [some (.tup ds), none] s = .ok (.bl (ds.all g)) s := by
    unfold mAll
    rw [q_call1 e]
    show gAll (.lst (ds.map fun d => D.bl (g d))) s = _
    unfold gAll
    show (match blsO (ds.map fun d => D.bl (g d)) with | some bs => _ | none => _) = _
    rw [blsO_map]
    show Res.ok (D.bl ((ds.map g).all _root_.id)) s = _
    rw [List.all_map]
    rfl
  unfold m_check_ratios
  have e3 : mb_check_ratios (startR 2 [.tup ds]) s = if ds.all g then .nx [some (.tup ds), none] s else .ex "NotRight" [some (.tup ds), none] s := by
    unfold mb_check_ratios
    rw [show startR 2 [.tup ds] = [some (.tup ds), none] from rfl]
    have e4 : mCall m_check (mCons (mAll (mLc (mItS (mVar 0)) [1] (gN 1) mYes (mCall m_is_ratio (mCons (mVar 1) mNil)))) mNil) [some (.tup ds), none] s = if ds.all g then .ok .non s else .err "NotRight" s := by
      rw [q_call1 e2, check_eq]
    unfold mExpr
    rw [e4]
    cases ds.all g <;> rfl
  cases hb : ds.all g
  · rw [hb] at e3
    exact run_ex (r := [some (.tup ds), none]) e3 rfl
  · rw [hb] at e3
    exact run_nx (r := [some (.tup ds), none]) e3 rfl
theorem checks1 {p q : Int} (h : Rt p q) (s : Sto) : m_check_ratios [rD p q] s = .ok .non s := by
  rw [checks_eq (fun _ => true) s (by simp) (fun d hd => by rw [List.mem_singleton.mp hd]; exact isr_ok h s)]
  rfl
theorem checks2 {p q u v : Int} (h : Rt p q) (h' : Rt u v) (s : Sto) : m_check_ratios [rD p q, rD u v] s = .ok .non s := by
  rw [checks_eq (fun _ => true) s (by simp) (fun d hd => by
    rcases List.mem_cons.mp hd with e | e
    · rw [e]; exact isr_ok h s
    · rw [List.mem_singleton.mp e]; exact isr_ok h' s)]
  rfl
/-- what is no ratio is told to be none -/
def Bad (d : D) : Prop := ∀ s : Sto, m_is_ratio [d] s = .ok (.bl false) s
theorem checksB1 {d : D} (h : Bad d) (s : Sto) : m_check_ratios [d] s = .err "NotRight" s := by
  rw [checks_eq (fun _ => false) s (by simp) (fun e hd => by rw [List.mem_singleton.mp hd]; exact h s)]
  rfl
open Classical in
theorem checksB2 {d e : D} (h : Bad d ∨ Bad e) (hd : Bad d ∨ ∀ s : Sto, m_is_ratio [d] s = .ok (.bl true) s) (he : Bad e ∨ ∀ s : Sto, m_is_ratio [e] s = .ok (.bl true) s) (s : Sto) : m_check_ratios [d, e] s = .err "NotRight" s := by
  have key : ∀ x : D, (Bad x ∨ ∀ s : Sto, m_is_ratio [x] s = .ok (.bl true) s) → m_is_ratio [x] s = .ok (.bl (decide (¬ Bad x))) s := fun x hx => by
    by_cases hb : Bad x
    · rw [show decide (¬ Bad x) = false from by simp [hb]]
      exact hb s
    · rw [show decide (¬ Bad x) = true from by simp [hb]]
      exact (hx.resolve_left hb) s
  rw [checks_eq (fun x => decide (¬ Bad x)) s (by simp) (fun x hx => by
    rcases List.mem_cons.mp hx with q | q
    · rw [q]; exact key d hd
    · rw [List.mem_singleton.mp q]; exact key e he)]
  have : ([d, e].all fun x => decide (¬ Bad x)) = false := by
    rcases h with h | h <;> simp [h]
  rw [this]
  rfl
end K00

set_option Elab.async false
set_option linter.all false
set_option maxRecDepth 100000
set_option maxHeartbeats 2000000
set_option exponentiation.threshold 20000
namespace K00
open PySem PySem.Spec PyProof.Rows L2 DL
/-! ### sizes -/
abbrev Sm (n : Nat) (i : Int) : Prop := i.natAbs < 2 ^ n
theorem sm_le {n m : Nat} {i : Int} (h : Sm n i) (hm : n ≤ m) : Sm m i := Nat.lt_of_lt_of_le h (Nat.pow_le_pow_right (by decide) hm)
theorem sm_mul {n m : Nat} {i j : Int} (h : Sm n i) (h' : Sm m j) : Sm (n + m) (i * j) := by
  unfold Sm
  rw [Int.natAbs_mul, Nat.pow_add]
  exact Nat.mul_lt_mul'' h h'
theorem sm_add {n m : Nat} {i j : Int} (h : Sm n i) (h' : Sm m j) : Sm (n + m + 1) (i + j) := by
  unfold Sm at *
  have e1 : 2 ^ n ≤ 2 ^ (n + m) := Nat.pow_le_pow_right (by decide) (by omega)
  have e2 : 2 ^ m ≤ 2 ^ (n + m) := Nat.pow_le_pow_right (by decide) (by omega)
  rw [Nat.pow_succ]
  omega
theorem sm_neg {n : Nat} {i : Int} (h : Sm n i) : Sm n (-i) := by unfold Sm; rw [Int.natAbs_neg]; exact h
theorem sm_sub {n m : Nat} {i j : Int} (h : Sm n i) (h' : Sm m j) : Sm (n + m + 1) (i - j) := by rw [Int.sub_eq_add_neg]; exact sm_add h (sm_neg h')
/-- a ratio in lowest terms, not too long -/
structure Rs (n : Nat) (p q : Int) : Prop where
  rt : Rt p q
  sp : Sm n p
  sq : Sm n q
section
variable {p q u v : Int} {s : Sto}
theorem Rs.q0 {n : Nat} (h : Rs n p q) : q ≠ 0 := by have := h.rt.pos; omega
theorem mulne {a b : Int} (ha : a ≠ 0) (hb : b ≠ 0) : a * b ≠ 0 := Int.mul_ne_zero ha hb
abbrev rd (n d : Int) : D := rD (rdN n d) (rdD n d)
theorem r_mulR {n m : Nat} {i j : Int} (hi : Sm n i) (hj : Sm m j) (h : n + m ≤ 134217728) : opMul (.int i) (.int j) s = .ok (.int (i * j)) s := r_mul (cmul hi hj h)
theorem add_eq (h : Rs 900 p q) (h' : Rs 900 u v) : m_add [rD p q, rD u v] s = .ok (rd (p * v + u * q) (q * v)) s := by
  refine run_rt ?_ rfl rfl
  have m1 := r_mulR (s := s) h.sp h'.sq (by decide)
  have m2 := r_mulR (s := s) h'.sp h.sq (by decide)
  have m3 := r_mulR (s := s) h.sq h'.sq (by decide)
  have sa : Sm 4000 (p * v + u * q) := sm_le (sm_add (sm_mul h.sp h'.sq) (sm_mul h'.sp h.sq)) (by decide)
  have sb : Sm 4000 (q * v) := sm_le (sm_mul h.sq h'.sq) (by decide)
  have hm := made_eq s (mulne h.q0 h'.q0) sa sb
  unfold mb_add
  by_cases e : q = v
  · subst e
    have e1 : (q == q) = true := by simp
    by_cases e2 : q = 1
    · subst e2
      have e3 : ((1 : Int) == 1) = true := rfl
      simp only [rD, cst0, cst1, cst2, cst3, mSeq, mAsg, mPar, mRet, mOp, mVar, mC, mCons, mNil, mIfS, mB, mIf, mNeg, mNotV, mNot, mAnd, mOr, mAndV, mOrV, mCall, mNext, mExpr, mRetN, mRaise, gN, startR, mInt, mAbs, mLen, f1, f2, gInt, gAbs, gLen, mChain, D.sqO, D.lsO, mBreak, mIsi, D.kd, Kd.isi, List.map_cons, List.map_nil, List.length_cons, List.length_nil, Nat.reduceAdd, Nat.reduceSub, Nat.zero_add, List.reduceReplicate, List.replicate_zero, List.replicate_succ, List.cons_append, List.nil_append, List.append_nil, List.getElem?_cons_zero, List.getElem?_cons_succ, List.set_cons_zero, List.set_cons_succ, Res.bind_ok, Res.bind_err, Res.bind_bad, Res.st_ok, Res.st_err, Res.st_bad, SR.seq_nx, SR.seq_rt, SR.seq_ex, SR.seq_bk, SR.seq_ct, SR.seq_bad, r_add, r_sub, r_lt, r_le, r_gt, r_ge, r_eq, r_ne, r_eqB, r_neB, r_eqS, r_neS, r_ix0, r_ix1, if_true, if_false, ite_true, ite_false, Bool.false_eq_true, Bool.true_eq_false, Bool.not_true, Bool.not_false, decide_true, decide_false, reduceIte, reduceCtorEq, e3, mTup]
      have : rd (p * 1 + u * 1) (1 * 1) = rD (p + u) 1 := rd_of (by decide) ⟨by decide, by simp⟩ (by simp)
      rw [this]
      rfl
    · have e3 : (q == 1) = false := by simpa using e2
      have hm2 := made_eq (n := p + u) (d := q) s h.q0 (sm_le (sm_add h.sp h'.sp) (by decide)) (sm_le h.sq (by decide))
      simp only [rD, cst0, cst1, cst2, cst3, mSeq, mAsg, mPar, mRet, mOp, mVar, mC, mCons, mNil, mIfS, mB, mIf, mNeg, mNotV, mNot, mAnd, mOr, mAndV, mOrV, mCall, mNext, mExpr, mRetN, mRaise, gN, startR, mInt, mAbs, mLen, f1, f2, gInt, gAbs, gLen, mChain, D.sqO, D.lsO, mBreak, mIsi, D.kd, Kd.isi, List.map_cons, List.map_nil, List.length_cons, List.length_nil, Nat.reduceAdd, Nat.reduceSub, Nat.zero_add, List.reduceReplicate, List.replicate_zero, List.replicate_succ, List.cons_append, List.nil_append, List.append_nil, List.getElem?_cons_zero, List.getElem?_cons_succ, List.set_cons_zero, List.set_cons_succ, Res.bind_ok, Res.bind_err, Res.bind_bad, Res.st_ok, Res.st_err, Res.st_bad, SR.seq_nx, SR.seq_rt, SR.seq_ex, SR.seq_bk, SR.seq_ct, SR.seq_bad, r_add, r_sub, r_lt, r_le, r_gt, r_ge, r_eq, r_ne, r_eqB, r_neB, r_eqS, r_neS, r_ix0, r_ix1, if_true, if_false, ite_true, ite_false, Bool.false_eq_true, Bool.true_eq_false, Bool.not_true, Bool.not_false, decide_true, decide_false, reduceIte, reduceCtorEq, e1, e3, hm2]
      have r := rd_rt (n := p + u) h.q0
      have c := rd_cross (n := p + u) h.q0
      have : rd (p * q + u * q) (q * q) = rd (p + u) q := rd_of (mulne h.q0 h.q0) r (by rw [← Int.mul_assoc, c, ← Int.add_mul, Int.mul_right_comm])
      rw [this]
  · have e1 : (q == v) = false := by simpa using e
    simp only [rD, cst0, cst1, cst2, cst3, mSeq, mAsg, mPar, mRet, mOp, mVar, mC, mCons, mNil, mIfS, mB, mIf, mNeg, mNotV, mNot, mAnd, mOr, mAndV, mOrV, mCall, mNext, mExpr, mRetN, mRaise, gN, startR, mInt, mAbs, mLen, f1, f2, gInt, gAbs, gLen, mChain, D.sqO, D.lsO, mBreak, mIsi, D.kd, Kd.isi, List.map_cons, List.map_nil, List.length_cons, List.length_nil, Nat.reduceAdd, Nat.reduceSub, Nat.zero_add, List.reduceReplicate, List.replicate_zero, List.replicate_succ, List.cons_append, List.nil_append, List.append_nil, List.getElem?_cons_zero, List.getElem?_cons_succ, List.set_cons_zero, List.set_cons_succ, Res.bind_ok, Res.bind_err, Res.bind_bad, Res.st_ok, Res.st_err, Res.st_bad, SR.seq_nx, SR.seq_rt, SR.seq_ex, SR.seq_bk, SR.seq_ct, SR.seq_bad, r_add, r_sub, r_lt, r_le, r_gt, r_ge, r_eq, r_ne, r_eqB, r_neB, r_eqS, r_neS, r_ix0, r_ix1, if_true, if_false, ite_true, ite_false, Bool.false_eq_true, Bool.true_eq_false, Bool.not_true, Bool.not_false, decide_true, decide_false, reduceIte, reduceCtorEq, e1, m1, m2, m3, hm]
theorem Rs.neg {n : Nat} (h : Rs n p q) : Rs n (-p) q := ⟨⟨h.rt.pos, by have := h.rt.cop; simpa using this⟩, sm_neg h.sp, h.sq⟩
theorem less_eq (h : Rs 900 p q) (h' : Rs 900 u v) : m_less [rD p q, rD u v] s = .ok (rd (p * v - u * q) (q * v)) s := by
  refine run_rt ?_ rfl rfl
  have e := add_eq (s := s) h h'.neg
  rw [show p * v + -u * q = p * v - u * q from by rw [Int.neg_mul, Int.sub_eq_add_neg]] at e
  unfold mb_less
  have z2 : ¬ sizeLine < 2 := by decide
  have z3 : 2 ≤ sizeLine := by decide
  simp only [rD, cst0, cst1, cst2, cst3, mSeq, mAsg, mPar, mRet, mOp, mVar, mC, mCons, mNil, mIfS, mB, mIf, mNeg, mNotV, mNot, mAnd, mOr, mAndV, mOrV, mCall, mNext, mExpr, mRetN, mRaise, gN, startR, mInt, mAbs, mLen, f1, f2, gInt, gAbs, gLen, mChain, D.sqO, D.lsO, mBreak, mIsi, D.kd, Kd.isi, List.map_cons, List.map_nil, List.length_cons, List.length_nil, Nat.reduceAdd, Nat.reduceSub, Nat.zero_add, List.reduceReplicate, List.replicate_zero, List.replicate_succ, List.cons_append, List.nil_append, List.append_nil, List.getElem?_cons_zero, List.getElem?_cons_succ, List.set_cons_zero, List.set_cons_succ, Res.bind_ok, Res.bind_err, Res.bind_bad, Res.st_ok, Res.st_err, Res.st_bad, SR.seq_nx, SR.seq_rt, SR.seq_ex, SR.seq_bk, SR.seq_ct, SR.seq_bad, r_add, r_sub, r_lt, r_le, r_gt, r_ge, r_eq, r_ne, r_eqB, r_neB, r_eqS, r_neS, r_ix0, r_ix1, if_true, if_false, ite_true, ite_false, Bool.false_eq_true, Bool.true_eq_false, Bool.not_true, Bool.not_false, decide_true, decide_false, reduceIte, reduceCtorEq, mTup, z3, e]
theorem product_eq (h : Rs 900 p q) (h' : Rs 900 u v) : m_product [rD p q, rD u v] s = .ok (rd (p * u) (q * v)) s := by
  refine run_rt ?_ rfl rfl
  have m1 := r_mulR (s := s) h.sp h'.sp (by decide)
  have m3 := r_mulR (s := s) h.sq h'.sq (by decide)
  have sa : Sm 4000 (p * u) := sm_le (sm_mul h.sp h'.sp) (by decide)
  have sb : Sm 4000 (q * v) := sm_le (sm_mul h.sq h'.sq) (by decide)
  have hm := made_eq s (mulne h.q0 h'.q0) sa sb
  have z3 : 2 ≤ sizeLine := by decide
  unfold mb_product
  by_cases e : q = 1
  · subst e
    have e3 : ((1 : Int) == 1) = true := rfl
    by_cases e2 : v = 1
    · subst e2
      simp only [rD, cst0, cst1, cst2, cst3, mSeq, mAsg, mPar, mRet, mOp, mVar, mC, mCons, mNil, mIfS, mB, mIf, mNeg, mNotV, mNot, mAnd, mOr, mAndV, mOrV, mCall, mNext, mExpr, mRetN, mRaise, gN, startR, mInt, mAbs, mLen, f1, f2, gInt, gAbs, gLen, mChain, D.sqO, D.lsO, mBreak, mIsi, D.kd, Kd.isi, List.map_cons, List.map_nil, List.length_cons, List.length_nil, Nat.reduceAdd, Nat.reduceSub, Nat.zero_add, List.reduceReplicate, List.replicate_zero, List.replicate_succ, List.cons_append, List.nil_append, List.append_nil, List.getElem?_cons_zero, List.getElem?_cons_succ, List.set_cons_zero, List.set_cons_succ, Res.bind_ok, Res.bind_err, Res.bind_bad, Res.st_ok, Res.st_err, Res.st_bad, SR.seq_nx, SR.seq_rt, SR.seq_ex, SR.seq_bk, SR.seq_ct, SR.seq_bad, r_add, r_sub, r_lt, r_le, r_gt, r_ge, r_eq, r_ne, r_eqB, r_neB, r_eqS, r_neS, r_ix0, r_ix1, if_true, if_false, ite_true, ite_false, Bool.false_eq_true, Bool.true_eq_false, Bool.not_true, Bool.not_false, decide_true, decide_false, reduceIte, reduceCtorEq, e3, mTup, m1, z3]
      have : rd (p * u) (1 * 1) = rD (p * u) 1 := rd_of (by decide) ⟨by decide, by simp⟩ (by simp)
      rw [this]
    · have e4 : (v == 1) = false := by simpa using e2
      simp only [rD, cst0, cst1, cst2, cst3, mSeq, mAsg, mPar, mRet, mOp, mVar, mC, mCons, mNil, mIfS, mB, mIf, mNeg, mNotV, mNot, mAnd, mOr, mAndV, mOrV, mCall, mNext, mExpr, mRetN, mRaise, gN, startR, mInt, mAbs, mLen, f1, f2, gInt, gAbs, gLen, mChain, D.sqO, D.lsO, mBreak, mIsi, D.kd, Kd.isi, List.map_cons, List.map_nil, List.length_cons, List.length_nil, Nat.reduceAdd, Nat.reduceSub, Nat.zero_add, List.reduceReplicate, List.replicate_zero, List.replicate_succ, List.cons_append, List.nil_append, List.append_nil, List.getElem?_cons_zero, List.getElem?_cons_succ, List.set_cons_zero, List.set_cons_succ, Res.bind_ok, Res.bind_err, Res.bind_bad, Res.st_ok, Res.st_err, Res.st_bad, SR.seq_nx, SR.seq_rt, SR.seq_ex, SR.seq_bk, SR.seq_ct, SR.seq_bad, r_add, r_sub, r_lt, r_le, r_gt, r_ge, r_eq, r_ne, r_eqB, r_neB, r_eqS, r_neS, r_ix0, r_ix1, if_true, if_false, ite_true, ite_false, Bool.false_eq_true, Bool.true_eq_false, Bool.not_true, Bool.not_false, decide_true, decide_false, reduceIte, reduceCtorEq, e3, e4, m1, m3, hm]
  · have e4 : (q == 1) = false := by simpa using e
    simp only [rD, cst0, cst1, cst2, cst3, mSeq, mAsg, mPar, mRet, mOp, mVar, mC, mCons, mNil, mIfS, mB, mIf, mNeg, mNotV, mNot, mAnd, mOr, mAndV, mOrV, mCall, mNext, mExpr, mRetN, mRaise, gN, startR, mInt, mAbs, mLen, f1, f2, gInt, gAbs, gLen, mChain, D.sqO, D.lsO, mBreak, mIsi, D.kd, Kd.isi, List.map_cons, List.map_nil, List.length_cons, List.length_nil, Nat.reduceAdd, Nat.reduceSub, Nat.zero_add, List.reduceReplicate, List.replicate_zero, List.replicate_succ, List.cons_append, List.nil_append, List.append_nil, List.getElem?_cons_zero, List.getElem?_cons_succ, List.set_cons_zero, List.set_cons_succ, Res.bind_ok, Res.bind_err, Res.bind_bad, Res.st_ok, Res.st_err, Res.st_bad, SR.seq_nx, SR.seq_rt, SR.seq_ex, SR.seq_bk, SR.seq_ct, SR.seq_bad, r_add, r_sub, r_lt, r_le, r_gt, r_ge, r_eq, r_ne, r_eqB, r_neB, r_eqS, r_neS, r_ix0, r_ix1, if_true, if_false, ite_true, ite_false, Bool.false_eq_true, Bool.true_eq_false, Bool.not_true, Bool.not_false, decide_true, decide_false, reduceIte, reduceCtorEq, e4, m1, m3, hm]
theorem share_eq (h : Rs 900 p q) (h' : Rs 900 u v) (h0 : u ≠ 0) : m_share [rD p q, rD u v] s = .ok (rd (p * v) (q * u)) s := by
  refine run_rt ?_ rfl rfl
  have m1 := r_mulR (s := s) h.sp h'.sq (by decide)
  have m3 := r_mulR (s := s) h.sq h'.sp (by decide)
  have hm := made_eq s (mulne h.q0 h0) (sm_le (sm_mul h.sp h'.sq) (by decide)) (sm_le (sm_mul h.sq h'.sp) (by decide))
  unfold mb_share
  simp only [rD, cst0, cst1, cst2, cst3, mSeq, mAsg, mPar, mRet, mOp, mVar, mC, mCons, mNil, mIfS, mB, mIf, mNeg, mNotV, mNot, mAnd, mOr, mAndV, mOrV, mCall, mNext, mExpr, mRetN, mRaise, gN, startR, mInt, mAbs, mLen, f1, f2, gInt, gAbs, gLen, mChain, D.sqO, D.lsO, mBreak, mIsi, D.kd, Kd.isi, List.map_cons, List.map_nil, List.length_cons, List.length_nil, Nat.reduceAdd, Nat.reduceSub, Nat.zero_add, List.reduceReplicate, List.replicate_zero, List.replicate_succ, List.cons_append, List.nil_append, List.append_nil, List.getElem?_cons_zero, List.getElem?_cons_succ, List.set_cons_zero, List.set_cons_succ, Res.bind_ok, Res.bind_err, Res.bind_bad, Res.st_ok, Res.st_err, Res.st_bad, SR.seq_nx, SR.seq_rt, SR.seq_ex, SR.seq_bk, SR.seq_ct, SR.seq_bad, r_add, r_sub, r_lt, r_le, r_gt, r_ge, r_eq, r_ne, r_eqB, r_neB, r_eqS, r_neS, r_ix0, r_ix1, if_true, if_false, ite_true, ite_false, Bool.false_eq_true, Bool.true_eq_false, Bool.not_true, Bool.not_false, decide_true, decide_false, reduceIte, reduceCtorEq, m1, m3, hm]
theorem below_eq (h : Rs 900 p q) (h' : Rs 900 u v) : m_is_below [rD p q, rD u v] s = .ok (.bl (decide (p * v < u * q))) s := by
  refine run_rt ?_ rfl rfl
  have m1 := r_mulR (s := s) h.sp h'.sq (by decide)
  have m2 := r_mulR (s := s) h'.sp h.sq (by decide)
  unfold mb_is_below
  simp only [rD, cst0, cst1, cst2, cst3, mSeq, mAsg, mPar, mRet, mOp, mVar, mC, mCons, mNil, mIfS, mB, mIf, mNeg, mNotV, mNot, mAnd, mOr, mAndV, mOrV, mCall, mNext, mExpr, mRetN, mRaise, gN, startR, mInt, mAbs, mLen, f1, f2, gInt, gAbs, gLen, mChain, D.sqO, D.lsO, mBreak, mIsi, D.kd, Kd.isi, List.map_cons, List.map_nil, List.length_cons, List.length_nil, Nat.reduceAdd, Nat.reduceSub, Nat.zero_add, List.reduceReplicate, List.replicate_zero, List.replicate_succ, List.cons_append, List.nil_append, List.append_nil, List.getElem?_cons_zero, List.getElem?_cons_succ, List.set_cons_zero, List.set_cons_succ, Res.bind_ok, Res.bind_err, Res.bind_bad, Res.st_ok, Res.st_err, Res.st_bad, SR.seq_nx, SR.seq_rt, SR.seq_ex, SR.seq_bk, SR.seq_ct, SR.seq_bad, r_add, r_sub, r_lt, r_le, r_gt, r_ge, r_eq, r_ne, r_eqB, r_neB, r_eqS, r_neS, r_ix0, r_ix1, if_true, if_false, ite_true, ite_false, Bool.false_eq_true, Bool.true_eq_false, Bool.not_true, Bool.not_false, decide_true, decide_false, reduceIte, reduceCtorEq, m1, m2]
theorem plus_eq (h : Rs 900 p q) (h' : Rs 900 u v) : m_plus [rD p q, rD u v] s = .ok (rd (p * v + u * q) (q * v)) s := by
  refine run_rt ?_ rfl rfl
  unfold mb_plus
  simp only [rD, cst0, cst1, cst2, cst3, mSeq, mAsg, mPar, mRet, mOp, mVar, mC, mCons, mNil, mIfS, mB, mIf, mNeg, mNotV, mNot, mAnd, mOr, mAndV, mOrV, mCall, mNext, mExpr, mRetN, mRaise, gN, startR, mInt, mAbs, mLen, f1, f2, gInt, gAbs, gLen, mChain, D.sqO, D.lsO, mBreak, mIsi, D.kd, Kd.isi, List.map_cons, List.map_nil, List.length_cons, List.length_nil, Nat.reduceAdd, Nat.reduceSub, Nat.zero_add, List.reduceReplicate, List.replicate_zero, List.replicate_succ, List.cons_append, List.nil_append, List.append_nil, List.getElem?_cons_zero, List.getElem?_cons_succ, List.set_cons_zero, List.set_cons_succ, Res.bind_ok, Res.bind_err, Res.bind_bad, Res.st_ok, Res.st_err, Res.st_bad, SR.seq_nx, SR.seq_rt, SR.seq_ex, SR.seq_bk, SR.seq_ct, SR.seq_bad, r_add, r_sub, r_lt, r_le, r_gt, r_ge, r_eq, r_ne, r_eqB, r_neB, r_eqS, r_neS, r_ix0, r_ix1, if_true, if_false, ite_true, ite_false, Bool.false_eq_true, Bool.true_eq_false, Bool.not_true, Bool.not_false, decide_true, decide_false, reduceIte, reduceCtorEq, checks2 h.rt h'.rt, add_eq h h']
theorem minus_eq (h : Rs 900 p q) (h' : Rs 900 u v) : m_minus [rD p q, rD u v] s = .ok (rd (p * v - u * q) (q * v)) s := by
  refine run_rt ?_ rfl rfl
  unfold mb_minus
  simp only [rD, cst0, cst1, cst2, cst3, mSeq, mAsg, mPar, mRet, mOp, mVar, mC, mCons, mNil, mIfS, mB, mIf, mNeg, mNotV, mNot, mAnd, mOr, mAndV, mOrV, mCall, mNext, mExpr, mRetN, mRaise, gN, startR, mInt, mAbs, mLen, f1, f2, gInt, gAbs, gLen, mChain, D.sqO, D.lsO, mBreak, mIsi, D.kd, Kd.isi, List.map_cons, List.map_nil, List.length_cons, List.length_nil, Nat.reduceAdd, Nat.reduceSub, Nat.zero_add, List.reduceReplicate, List.replicate_zero, List.replicate_succ, List.cons_append, List.nil_append, List.append_nil, List.getElem?_cons_zero, List.getElem?_cons_succ, List.set_cons_zero, List.set_cons_succ, Res.bind_ok, Res.bind_err, Res.bind_bad, Res.st_ok, Res.st_err, Res.st_bad, SR.seq_nx, SR.seq_rt, SR.seq_ex, SR.seq_bk, SR.seq_ct, SR.seq_bad, r_add, r_sub, r_lt, r_le, r_gt, r_ge, r_eq, r_ne, r_eqB, r_neB, r_eqS, r_neS, r_ix0, r_ix1, if_true, if_false, ite_true, ite_false, Bool.false_eq_true, Bool.true_eq_false, Bool.not_true, Bool.not_false, decide_true, decide_false, reduceIte, reduceCtorEq, checks2 h.rt h'.rt, less_eq h h']
theorem times_eq (h : Rs 900 p q) (h' : Rs 900 u v) : m_times [rD p q, rD u v] s = .ok (rd (p * u) (q * v)) s := by
  refine run_rt ?_ rfl rfl
  unfold mb_times
  simp only [rD, cst0, cst1, cst2, cst3, mSeq, mAsg, mPar, mRet, mOp, mVar, mC, mCons, mNil, mIfS, mB, mIf, mNeg, mNotV, mNot, mAnd, mOr, mAndV, mOrV, mCall, mNext, mExpr, mRetN, mRaise, gN, startR, mInt, mAbs, mLen, f1, f2, gInt, gAbs, gLen, mChain, D.sqO, D.lsO, mBreak, mIsi, D.kd, Kd.isi, List.map_cons, List.map_nil, List.length_cons, List.length_nil, Nat.reduceAdd, Nat.reduceSub, Nat.zero_add, List.reduceReplicate, List.replicate_zero, List.replicate_succ, List.cons_append, List.nil_append, List.append_nil, List.getElem?_cons_zero, List.getElem?_cons_succ, List.set_cons_zero, List.set_cons_succ, Res.bind_ok, Res.bind_err, Res.bind_bad, Res.st_ok, Res.st_err, Res.st_bad, SR.seq_nx, SR.seq_rt, SR.seq_ex, SR.seq_bk, SR.seq_ct, SR.seq_bad, r_add, r_sub, r_lt, r_le, r_gt, r_ge, r_eq, r_ne, r_eqB, r_neB, r_eqS, r_neS, r_ix0, r_ix1, if_true, if_false, ite_true, ite_false, Bool.false_eq_true, Bool.true_eq_false, Bool.not_true, Bool.not_false, decide_true, decide_false, reduceIte, reduceCtorEq, checks2 h.rt h'.rt, product_eq h h']
theorem over_eq (h : Rs 900 p q) (h' : Rs 900 u v) (h0 : u ≠ 0) : m_over [rD p q, rD u v] s = .ok (rd (p * v) (q * u)) s := by
  refine run_rt ?_ rfl rfl
  unfold mb_over
  have e : (u == 0) = false := by simpa using h0
  simp only [rD, cst0, cst1, cst2, cst3, mSeq, mAsg, mPar, mRet, mOp, mVar, mC, mCons, mNil, mIfS, mB, mIf, mNeg, mNotV, mNot, mAnd, mOr, mAndV, mOrV, mCall, mNext, mExpr, mRetN, mRaise, gN, startR, mInt, mAbs, mLen, f1, f2, gInt, gAbs, gLen, mChain, D.sqO, D.lsO, mBreak, mIsi, D.kd, Kd.isi, List.map_cons, List.map_nil, List.length_cons, List.length_nil, Nat.reduceAdd, Nat.reduceSub, Nat.zero_add, List.reduceReplicate, List.replicate_zero, List.replicate_succ, List.cons_append, List.nil_append, List.append_nil, List.getElem?_cons_zero, List.getElem?_cons_succ, List.set_cons_zero, List.set_cons_succ, Res.bind_ok, Res.bind_err, Res.bind_bad, Res.st_ok, Res.st_err, Res.st_bad, SR.seq_nx, SR.seq_rt, SR.seq_ex, SR.seq_bk, SR.seq_ct, SR.seq_bad, r_add, r_sub, r_lt, r_le, r_gt, r_ge, r_eq, r_ne, r_eqB, r_neB, r_eqS, r_neS, r_ix0, r_ix1, if_true, if_false, ite_true, ite_false, Bool.false_eq_true, Bool.true_eq_false, Bool.not_true, Bool.not_false, decide_true, decide_false, reduceIte, reduceCtorEq, checks2 h.rt h'.rt, e, share_eq h h' h0]
theorem over_0 (h : Rs 900 p q) (h' : Rs 900 0 v) : m_over [rD p q, rD 0 v] s = .err "NoAnswer" s := by
  refine run_ex (r := [some (rD p q), some (rD 0 v)]) ?_ rfl
  unfold mb_over
  have e : ((0 : Int) == 0) = true := rfl
  simp only [rD, cst0, cst1, cst2, cst3, mSeq, mAsg, mPar, mRet, mOp, mVar, mC, mCons, mNil, mIfS, mB, mIf, mNeg, mNotV, mNot, mAnd, mOr, mAndV, mOrV, mCall, mNext, mExpr, mRetN, mRaise, gN, startR, mInt, mAbs, mLen, f1, f2, gInt, gAbs, gLen, mChain, D.sqO, D.lsO, mBreak, mIsi, D.kd, Kd.isi, List.map_cons, List.map_nil, List.length_cons, List.length_nil, Nat.reduceAdd, Nat.reduceSub, Nat.zero_add, List.reduceReplicate, List.replicate_zero, List.replicate_succ, List.cons_append, List.nil_append, List.append_nil, List.getElem?_cons_zero, List.getElem?_cons_succ, List.set_cons_zero, List.set_cons_succ, Res.bind_ok, Res.bind_err, Res.bind_bad, Res.st_ok, Res.st_err, Res.st_bad, SR.seq_nx, SR.seq_rt, SR.seq_ex, SR.seq_bk, SR.seq_ct, SR.seq_bad, r_add, r_sub, r_lt, r_le, r_gt, r_ge, r_eq, r_ne, r_eqB, r_neB, r_eqS, r_neS, r_ix0, r_ix1, if_true, if_false, ite_true, ite_false, Bool.false_eq_true, Bool.true_eq_false, Bool.not_true, Bool.not_false, decide_true, decide_false, reduceIte, reduceCtorEq, checks2 h.rt h'.rt, e]
theorem compare_eq (h : Rs 900 p q) (h' : Rs 900 u v) : m_compare [rD p q, rD u v] s = .ok (.int ((if u * q < p * v then 1 else 0) - (if p * v < u * q then 1 else 0))) s := by
  refine run_rt ?_ rfl rfl
  unfold mb_compare
  simp only [rD, cst0, cst1, cst2, cst3, mSeq, mAsg, mPar, mRet, mOp, mVar, mC, mCons, mNil, mIfS, mB, mIf, mNeg, mNotV, mNot, mAnd, mOr, mAndV, mOrV, mCall, mNext, mExpr, mRetN, mRaise, gN, startR, mInt, mAbs, mLen, f1, f2, gInt, gAbs, gLen, mChain, D.sqO, D.lsO, mBreak, mIsi, D.kd, Kd.isi, List.map_cons, List.map_nil, List.length_cons, List.length_nil, Nat.reduceAdd, Nat.reduceSub, Nat.zero_add, List.reduceReplicate, List.replicate_zero, List.replicate_succ, List.cons_append, List.nil_append, List.append_nil, List.getElem?_cons_zero, List.getElem?_cons_succ, List.set_cons_zero, List.set_cons_succ, Res.bind_ok, Res.bind_err, Res.bind_bad, Res.st_ok, Res.st_err, Res.st_bad, SR.seq_nx, SR.seq_rt, SR.seq_ex, SR.seq_bk, SR.seq_ct, SR.seq_bad, r_add, r_sub, r_lt, r_le, r_gt, r_ge, r_eq, r_ne, r_eqB, r_neB, r_eqS, r_neS, r_ix0, r_ix1, if_true, if_false, ite_true, ite_false, Bool.false_eq_true, Bool.true_eq_false, Bool.not_true, Bool.not_false, decide_true, decide_false, reduceIte, reduceCtorEq, checks2 h.rt h'.rt, below_eq h h', below_eq h' h, decide_eq_true_eq]
theorem ratio_eq {n d : Int} (hd : d ≠ 0) (hn : Sm 4000 n) (hdd : Sm 4000 d) : m_ratio [.int n, .int d] s = .ok (rd n d) s := by
  refine run_rt ?_ rfl rfl
  unfold mb_ratio
  have e : (d == 0) = false := by simpa using hd
  simp only [rD, cst0, cst1, cst2, cst3, mSeq, mAsg, mPar, mRet, mOp, mVar, mC, mCons, mNil, mIfS, mB, mIf, mNeg, mNotV, mNot, mAnd, mOr, mAndV, mOrV, mCall, mNext, mExpr, mRetN, mRaise, gN, startR, mInt, mAbs, mLen, f1, f2, gInt, gAbs, gLen, mChain, D.sqO, D.lsO, mBreak, mIsi, D.kd, Kd.isi, List.map_cons, List.map_nil, List.length_cons, List.length_nil, Nat.reduceAdd, Nat.reduceSub, Nat.zero_add, List.reduceReplicate, List.replicate_zero, List.replicate_succ, List.cons_append, List.nil_append, List.append_nil, List.getElem?_cons_zero, List.getElem?_cons_succ, List.set_cons_zero, List.set_cons_succ, Res.bind_ok, Res.bind_err, Res.bind_bad, Res.st_ok, Res.st_err, Res.st_bad, SR.seq_nx, SR.seq_rt, SR.seq_ex, SR.seq_bk, SR.seq_ct, SR.seq_bad, r_add, r_sub, r_lt, r_le, r_gt, r_ge, r_eq, r_ne, r_eqB, r_neB, r_eqS, r_neS, r_ix0, r_ix1, if_true, if_false, ite_true, ite_false, Bool.false_eq_true, Bool.true_eq_false, Bool.not_true, Bool.not_false, decide_true, decide_false, reduceIte, reduceCtorEq, isint_int, e, check_t, made_eq s hd hn hdd]
theorem lawadd_eq (h : Rs 900 p q) (h' : Rs 900 u v) : m__law_add [rD p q, rD u v] s = .ok (rd (p * v + u * q) (q * v)) s := by
  refine run_rt ?_ rfl rfl
  have m1 := r_mulR (s := s) h.sp h'.sq (by decide)
  have m2 := r_mulR (s := s) h'.sp h.sq (by decide)
  have m3 := r_mulR (s := s) h.sq h'.sq (by decide)
  have hm := lawr_eq s (mulne h.q0 h'.q0) (sm_le (sm_add (sm_mul h.sp h'.sq) (sm_mul h'.sp h.sq)) (by decide)) (sm_le (sm_mul h.sq h'.sq) (by decide))
  unfold mb__law_add
  simp only [rD, cst0, cst1, cst2, cst3, mSeq, mAsg, mPar, mRet, mOp, mVar, mC, mCons, mNil, mIfS, mB, mIf, mNeg, mNotV, mNot, mAnd, mOr, mAndV, mOrV, mCall, mNext, mExpr, mRetN, mRaise, gN, startR, mInt, mAbs, mLen, f1, f2, gInt, gAbs, gLen, mChain, D.sqO, D.lsO, mBreak, mIsi, D.kd, Kd.isi, List.map_cons, List.map_nil, List.length_cons, List.length_nil, Nat.reduceAdd, Nat.reduceSub, Nat.zero_add, List.reduceReplicate, List.replicate_zero, List.replicate_succ, List.cons_append, List.nil_append, List.append_nil, List.getElem?_cons_zero, List.getElem?_cons_succ, List.set_cons_zero, List.set_cons_succ, Res.bind_ok, Res.bind_err, Res.bind_bad, Res.st_ok, Res.st_err, Res.st_bad, SR.seq_nx, SR.seq_rt, SR.seq_ex, SR.seq_bk, SR.seq_ct, SR.seq_bad, r_add, r_sub, r_lt, r_le, r_gt, r_ge, r_eq, r_ne, r_eqB, r_neB, r_eqS, r_neS, r_ix0, r_ix1, if_true, if_false, ite_true, ite_false, Bool.false_eq_true, Bool.true_eq_false, Bool.not_true, Bool.not_false, decide_true, decide_false, reduceIte, reduceCtorEq, m1, m2, m3, hm]
theorem lawsub_eq (h : Rs 900 p q) (h' : Rs 900 u v) : m__law_sub [rD p q, rD u v] s = .ok (rd (p * v - u * q) (q * v)) s := by
  refine run_rt ?_ rfl rfl
  have m1 := r_mulR (s := s) h.sp h'.sq (by decide)
  have m2 := r_mulR (s := s) h'.sp h.sq (by decide)
  have m3 := r_mulR (s := s) h.sq h'.sq (by decide)
  have hm := lawr_eq s (mulne h.q0 h'.q0) (sm_le (sm_sub (sm_mul h.sp h'.sq) (sm_mul h'.sp h.sq)) (by decide)) (sm_le (sm_mul h.sq h'.sq) (by decide))
  unfold mb__law_sub
  simp only [rD, cst0, cst1, cst2, cst3, mSeq, mAsg, mPar, mRet, mOp, mVar, mC, mCons, mNil, mIfS, mB, mIf, mNeg, mNotV, mNot, mAnd, mOr, mAndV, mOrV, mCall, mNext, mExpr, mRetN, mRaise, gN, startR, mInt, mAbs, mLen, f1, f2, gInt, gAbs, gLen, mChain, D.sqO, D.lsO, mBreak, mIsi, D.kd, Kd.isi, List.map_cons, List.map_nil, List.length_cons, List.length_nil, Nat.reduceAdd, Nat.reduceSub, Nat.zero_add, List.reduceReplicate, List.replicate_zero, List.replicate_succ, List.cons_append, List.nil_append, List.append_nil, List.getElem?_cons_zero, List.getElem?_cons_succ, List.set_cons_zero, List.set_cons_succ, Res.bind_ok, Res.bind_err, Res.bind_bad, Res.st_ok, Res.st_err, Res.st_bad, SR.seq_nx, SR.seq_rt, SR.seq_ex, SR.seq_bk, SR.seq_ct, SR.seq_bad, r_add, r_sub, r_lt, r_le, r_gt, r_ge, r_eq, r_ne, r_eqB, r_neB, r_eqS, r_neS, r_ix0, r_ix1, if_true, if_false, ite_true, ite_false, Bool.false_eq_true, Bool.true_eq_false, Bool.not_true, Bool.not_false, decide_true, decide_false, reduceIte, reduceCtorEq, m1, m2, m3, hm]
theorem lawmul_eq (h : Rs 900 p q) (h' : Rs 900 u v) : m__law_mul [rD p q, rD u v] s = .ok (rd (p * u) (q * v)) s := by
  refine run_rt ?_ rfl rfl
  have m1 := r_mulR (s := s) h.sp h'.sp (by decide)
  have m3 := r_mulR (s := s) h.sq h'.sq (by decide)
  have hm := lawr_eq s (mulne h.q0 h'.q0) (sm_le (sm_mul h.sp h'.sp) (by decide)) (sm_le (sm_mul h.sq h'.sq) (by decide))
  unfold mb__law_mul
  simp only [rD, cst0, cst1, cst2, cst3, mSeq, mAsg, mPar, mRet, mOp, mVar, mC, mCons, mNil, mIfS, mB, mIf, mNeg, mNotV, mNot, mAnd, mOr, mAndV, mOrV, mCall, mNext, mExpr, mRetN, mRaise, gN, startR, mInt, mAbs, mLen, f1, f2, gInt, gAbs, gLen, mChain, D.sqO, D.lsO, mBreak, mIsi, D.kd, Kd.isi, List.map_cons, List.map_nil, List.length_cons, List.length_nil, Nat.reduceAdd, Nat.reduceSub, Nat.zero_add, List.reduceReplicate, List.replicate_zero, List.replicate_succ, List.cons_append, List.nil_append, List.append_nil, List.getElem?_cons_zero, List.getElem?_cons_succ, List.set_cons_zero, List.set_cons_succ, Res.bind_ok, Res.bind_err, Res.bind_bad, Res.st_ok, Res.st_err, Res.st_bad, SR.seq_nx, SR.seq_rt, SR.seq_ex, SR.seq_bk, SR.seq_ct, SR.seq_bad, r_add, r_sub, r_lt, r_le, r_gt, r_ge, r_eq, r_ne, r_eqB, r_neB, r_eqS, r_neS, r_ix0, r_ix1, if_true, if_false, ite_true, ite_false, Bool.false_eq_true, Bool.true_eq_false, Bool.not_true, Bool.not_false, decide_true, decide_false, reduceIte, reduceCtorEq, m1, m3, hm]
theorem lawless_eq (h : Rs 900 p q) (h' : Rs 900 u v) : m__law_less [rD p q, rD u v] s = .ok (.bl (decide (p * v < u * q))) s := by
  refine run_rt ?_ rfl rfl
  have m1 := r_mulR (s := s) h.sp h'.sq (by decide)
  have m2 := r_mulR (s := s) h'.sp h.sq (by decide)
  unfold mb__law_less
  simp only [rD, cst0, cst1, cst2, cst3, mSeq, mAsg, mPar, mRet, mOp, mVar, mC, mCons, mNil, mIfS, mB, mIf, mNeg, mNotV, mNot, mAnd, mOr, mAndV, mOrV, mCall, mNext, mExpr, mRetN, mRaise, gN, startR, mInt, mAbs, mLen, f1, f2, gInt, gAbs, gLen, mChain, D.sqO, D.lsO, mBreak, mIsi, D.kd, Kd.isi, List.map_cons, List.map_nil, List.length_cons, List.length_nil, Nat.reduceAdd, Nat.reduceSub, Nat.zero_add, List.reduceReplicate, List.replicate_zero, List.replicate_succ, List.cons_append, List.nil_append, List.append_nil, List.getElem?_cons_zero, List.getElem?_cons_succ, List.set_cons_zero, List.set_cons_succ, Res.bind_ok, Res.bind_err, Res.bind_bad, Res.st_ok, Res.st_err, Res.st_bad, SR.seq_nx, SR.seq_rt, SR.seq_ex, SR.seq_bk, SR.seq_ct, SR.seq_bad, r_add, r_sub, r_lt, r_le, r_gt, r_ge, r_eq, r_ne, r_eqB, r_neB, r_eqS, r_neS, r_ix0, r_ix1, if_true, if_false, ite_true, ite_false, Bool.false_eq_true, Bool.true_eq_false, Bool.not_true, Bool.not_false, decide_true, decide_false, reduceIte, reduceCtorEq, m1, m2]
theorem floor_eq (h : Rs 900 p q) : m_floor_of [rD p q] s = .ok (.int (p.fdiv q)) s := by
  refine run_rt ?_ rfl rfl
  unfold mb_floor_of
  simp only [rD, cst0, cst1, cst2, cst3, mSeq, mAsg, mPar, mRet, mOp, mVar, mC, mCons, mNil, mIfS, mB, mIf, mNeg, mNotV, mNot, mAnd, mOr, mAndV, mOrV, mCall, mNext, mExpr, mRetN, mRaise, gN, startR, mInt, mAbs, mLen, f1, f2, gInt, gAbs, gLen, mChain, D.sqO, D.lsO, mBreak, mIsi, D.kd, Kd.isi, List.map_cons, List.map_nil, List.length_cons, List.length_nil, Nat.reduceAdd, Nat.reduceSub, Nat.zero_add, List.reduceReplicate, List.replicate_zero, List.replicate_succ, List.cons_append, List.nil_append, List.append_nil, List.getElem?_cons_zero, List.getElem?_cons_succ, List.set_cons_zero, List.set_cons_succ, Res.bind_ok, Res.bind_err, Res.bind_bad, Res.st_ok, Res.st_err, Res.st_bad, SR.seq_nx, SR.seq_rt, SR.seq_ex, SR.seq_bk, SR.seq_ct, SR.seq_bad, r_add, r_sub, r_lt, r_le, r_gt, r_ge, r_eq, r_ne, r_eqB, r_neB, r_eqS, r_neS, r_ix0, r_ix1, if_true, if_false, ite_true, ite_false, Bool.false_eq_true, Bool.true_eq_false, Bool.not_true, Bool.not_false, decide_true, decide_false, reduceIte, reduceCtorEq, checks1 h.rt, r_fdiv (cdiv h.q0 (sm_le h.sq (by decide)))]
theorem ceil_eq (h : Rs 900 p q) : m_ceiling_of [rD p q] s = .ok (.int (-((-p).fdiv q))) s := by
  refine run_rt ?_ rfl rfl
  unfold mb_ceiling_of
  simp only [rD, cst0, cst1, cst2, cst3, mSeq, mAsg, mPar, mRet, mOp, mVar, mC, mCons, mNil, mIfS, mB, mIf, mNeg, mNotV, mNot, mAnd, mOr, mAndV, mOrV, mCall, mNext, mExpr, mRetN, mRaise, gN, startR, mInt, mAbs, mLen, f1, f2, gInt, gAbs, gLen, mChain, D.sqO, D.lsO, mBreak, mIsi, D.kd, Kd.isi, List.map_cons, List.map_nil, List.length_cons, List.length_nil, Nat.reduceAdd, Nat.reduceSub, Nat.zero_add, List.reduceReplicate, List.replicate_zero, List.replicate_succ, List.cons_append, List.nil_append, List.append_nil, List.getElem?_cons_zero, List.getElem?_cons_succ, List.set_cons_zero, List.set_cons_succ, Res.bind_ok, Res.bind_err, Res.bind_bad, Res.st_ok, Res.st_err, Res.st_bad, SR.seq_nx, SR.seq_rt, SR.seq_ex, SR.seq_bk, SR.seq_ct, SR.seq_bad, r_add, r_sub, r_lt, r_le, r_gt, r_ge, r_eq, r_ne, r_eqB, r_neB, r_eqS, r_neS, r_ix0, r_ix1, if_true, if_false, ite_true, ite_false, Bool.false_eq_true, Bool.true_eq_false, Bool.not_true, Bool.not_false, decide_true, decide_false, reduceIte, reduceCtorEq, checks1 h.rt, r_fdiv (cdiv h.q0 (sm_le h.sq (by decide)))]
end
end K00

set_option Elab.async false
set_option linter.all false
set_option maxRecDepth 100000
set_option maxHeartbeats 2000000
set_option exponentiation.threshold 20000
namespace K00
open PySem PySem.Spec PyProof.Rows L2 DL
theorem st_rt_seq {x : Res D} {r : Ren} {f : Ren → Sto → SR} : (x.st r fun d s1 => SR.rt d s1).seq f = x.st r fun d s1 => SR.rt d s1 := by cases x <;> rfl
/-! ### _law_told -/
/-- what told makes of a def's answer -/
inductive Told : Res D → D → Sto → Prop where
  | ok {d : D} {s : Sto} (h : d.nm = true) : Told (.ok d s) d s
  | err {c t : Str} {s : Sto} (h : tell c = some t) : Told (.err c s) (.str t) s
theorem told_of {w : Int} {xs : List D} {s : Sto} {R : Res D} {d : D} (h : (mSeq (mIfS (mB (mOp opLt (mVar 0) (mC (.int 6)))) (mRet (mTab [m_plus, m_minus, m_times, m_over, m_compare, m_ratio] (mVar 0) (mCons (mOp opIx (mVar 1) (mC (.int 0))) (mCons (mOp opIx (mVar 1) (mC (.int 1))) mNil)))) mNext)
  (mSeq (mIfS (mB (mOp opLt (mVar 0) (mC (.int 11)))) (mRet (mTab [m_floor_of, m_ceiling_of, m_shown_ratio, m_halved, m_least_square] (mOp opSub (mVar 0) (mC (.int 6))) (mCons (mOp opIx (mVar 1) (mC (.int 0))) mNil))) mNext)
  (mRet (mTab [m_power, m_down_to, m_up_to, m_decimal_of] (mOp opSub (mVar 0) (mC (.int 11))) (mCons (mOp opIx (mVar 1) (mC (.int 0))) (mCons (mOp opIx (mVar 1) (mC (.int 1))) mNil))))))
    [some (.int w), some (.tup xs), none] s = R.st [some (.int w), some (.tup xs), none] (fun d s1 => .rt d s1)) (t : Told R d s) : m__law_told [.int w, .tup xs] s = .ok d s := by
  cases t with
  | ok hd =>
    refine run_rt ?_ rfl hd
    unfold mb__law_told mTry
    rw [show startR 3 [.int w, .tup xs] = [some (.int w), some (.tup xs), none] from rfl, h]
    rfl
  | err ht =>
    refine run_rt ?_ rfl rfl
    unfold mb__law_told mTry
    rw [show startR 3 [.int w, .tup xs] = [some (.int w), some (.tup xs), none] from rfl, h]
    show (match tell _ with | some t => SR.rt (.str t) s | none => .bad) = _
    rw [ht]
theorem told0 {x y d : D} {s : Sto} {zs : List D} (t : Told (m_plus [x, y] s) d s) : m__law_told [.int 0, .tup (x :: y :: zs)] s = .ok d s := told_of (by
  have a : atI [m_plus, m_minus, m_times, m_over, m_compare, m_ratio] 0 = some m_plus := atI_nat (j := 0) rfl
  have h : (0 : Int) < 6 := by decide
  simp only [rD, cst0, cst1, cst2, cst3, mSeq, mAsg, mPar, mRet, mOp, mVar, mC, mCons, mNil, mIfS, mB, mIf, mNeg, mNotV, mNot, mAnd, mOr, mAndV, mOrV, mCall, mNext, mExpr, mRetN, mRaise, gN, startR, mInt, mAbs, mLen, f1, f2, gInt, gAbs, gLen, mChain, D.sqO, D.lsO, mBreak, mIsi, D.kd, Kd.isi, List.map_cons, List.map_nil, List.length_cons, List.length_nil, Nat.reduceAdd, Nat.reduceSub, Nat.zero_add, List.reduceReplicate, List.replicate_zero, List.replicate_succ, List.cons_append, List.nil_append, List.append_nil, List.getElem?_cons_zero, List.getElem?_cons_succ, List.set_cons_zero, List.set_cons_succ, Res.bind_ok, Res.bind_err, Res.bind_bad, Res.st_ok, Res.st_err, Res.st_bad, SR.seq_nx, SR.seq_rt, SR.seq_ex, SR.seq_bk, SR.seq_ct, SR.seq_bad, r_add, r_sub, r_lt, r_le, r_gt, r_ge, r_eq, r_ne, r_eqB, r_neB, r_eqS, r_neS, r_ix0, r_ix1, if_true, if_false, ite_true, ite_false, Bool.false_eq_true, Bool.true_eq_false, Bool.not_true, Bool.not_false, decide_true, decide_false, reduceIte, reduceCtorEq, mTab, a, h, st_rt_seq]) t
theorem told1 {x y d : D} {s : Sto} {zs : List D} (t : Told (m_minus [x, y] s) d s) : m__law_told [.int 1, .tup (x :: y :: zs)] s = .ok d s := told_of (by
  have a : atI [m_plus, m_minus, m_times, m_over, m_compare, m_ratio] 1 = some m_minus := atI_nat (j := 1) rfl
  have h : (1 : Int) < 6 := by decide
  simp only [rD, cst0, cst1, cst2, cst3, mSeq, mAsg, mPar, mRet, mOp, mVar, mC, mCons, mNil, mIfS, mB, mIf, mNeg, mNotV, mNot, mAnd, mOr, mAndV, mOrV, mCall, mNext, mExpr, mRetN, mRaise, gN, startR, mInt, mAbs, mLen, f1, f2, gInt, gAbs, gLen, mChain, D.sqO, D.lsO, mBreak, mIsi, D.kd, Kd.isi, List.map_cons, List.map_nil, List.length_cons, List.length_nil, Nat.reduceAdd, Nat.reduceSub, Nat.zero_add, List.reduceReplicate, List.replicate_zero, List.replicate_succ, List.cons_append, List.nil_append, List.append_nil, List.getElem?_cons_zero, List.getElem?_cons_succ, List.set_cons_zero, List.set_cons_succ, Res.bind_ok, Res.bind_err, Res.bind_bad, Res.st_ok, Res.st_err, Res.st_bad, SR.seq_nx, SR.seq_rt, SR.seq_ex, SR.seq_bk, SR.seq_ct, SR.seq_bad, r_add, r_sub, r_lt, r_le, r_gt, r_ge, r_eq, r_ne, r_eqB, r_neB, r_eqS, r_neS, r_ix0, r_ix1, if_true, if_false, ite_true, ite_false, Bool.false_eq_true, Bool.true_eq_false, Bool.not_true, Bool.not_false, decide_true, decide_false, reduceIte, reduceCtorEq, mTab, a, h, st_rt_seq]) t
theorem told2 {x y d : D} {s : Sto} {zs : List D} (t : Told (m_times [x, y] s) d s) : m__law_told [.int 2, .tup (x :: y :: zs)] s = .ok d s := told_of (by
  have a : atI [m_plus, m_minus, m_times, m_over, m_compare, m_ratio] 2 = some m_times := atI_nat (j := 2) rfl
  have h : (2 : Int) < 6 := by decide
  simp only [rD, cst0, cst1, cst2, cst3, mSeq, mAsg, mPar, mRet, mOp, mVar, mC, mCons, mNil, mIfS, mB, mIf, mNeg, mNotV, mNot, mAnd, mOr, mAndV, mOrV, mCall, mNext, mExpr, mRetN, mRaise, gN, startR, mInt, mAbs, mLen, f1, f2, gInt, gAbs, gLen, mChain, D.sqO, D.lsO, mBreak, mIsi, D.kd, Kd.isi, List.map_cons, List.map_nil, List.length_cons, List.length_nil, Nat.reduceAdd, Nat.reduceSub, Nat.zero_add, List.reduceReplicate, List.replicate_zero, List.replicate_succ, List.cons_append, List.nil_append, List.append_nil, List.getElem?_cons_zero, List.getElem?_cons_succ, List.set_cons_zero, List.set_cons_succ, Res.bind_ok, Res.bind_err, Res.bind_bad, Res.st_ok, Res.st_err, Res.st_bad, SR.seq_nx, SR.seq_rt, SR.seq_ex, SR.seq_bk, SR.seq_ct, SR.seq_bad, r_add, r_sub, r_lt, r_le, r_gt, r_ge, r_eq, r_ne, r_eqB, r_neB, r_eqS, r_neS, r_ix0, r_ix1, if_true, if_false, ite_true, ite_false, Bool.false_eq_true, Bool.true_eq_false, Bool.not_true, Bool.not_false, decide_true, decide_false, reduceIte, reduceCtorEq, mTab, a, h, st_rt_seq]) t
theorem told3 {x y d : D} {s : Sto} {zs : List D} (t : Told (m_over [x, y] s) d s) : m__law_told [.int 3, .tup (x :: y :: zs)] s = .ok d s := told_of (by
  have a : atI [m_plus, m_minus, m_times, m_over, m_compare, m_ratio] 3 = some m_over := atI_nat (j := 3) rfl
  have h : (3 : Int) < 6 := by decide
  simp only [rD, cst0, cst1, cst2, cst3, mSeq, mAsg, mPar, mRet, mOp, mVar, mC, mCons, mNil, mIfS, mB, mIf, mNeg, mNotV, mNot, mAnd, mOr, mAndV, mOrV, mCall, mNext, mExpr, mRetN, mRaise, gN, startR, mInt, mAbs, mLen, f1, f2, gInt, gAbs, gLen, mChain, D.sqO, D.lsO, mBreak, mIsi, D.kd, Kd.isi, List.map_cons, List.map_nil, List.length_cons, List.length_nil, Nat.reduceAdd, Nat.reduceSub, Nat.zero_add, List.reduceReplicate, List.replicate_zero, List.replicate_succ, List.cons_append, List.nil_append, List.append_nil, List.getElem?_cons_zero, List.getElem?_cons_succ, List.set_cons_zero, List.set_cons_succ, Res.bind_ok, Res.bind_err, Res.bind_bad, Res.st_ok, Res.st_err, Res.st_bad, SR.seq_nx, SR.seq_rt, SR.seq_ex, SR.seq_bk, SR.seq_ct, SR.seq_bad, r_add, r_sub, r_lt, r_le, r_gt, r_ge, r_eq, r_ne, r_eqB, r_neB, r_eqS, r_neS, r_ix0, r_ix1, if_true, if_false, ite_true, ite_false, Bool.false_eq_true, Bool.true_eq_false, Bool.not_true, Bool.not_false, decide_true, decide_false, reduceIte, reduceCtorEq, mTab, a, h, st_rt_seq]) t
theorem told4 {x y d : D} {s : Sto} {zs : List D} (t : Told (m_compare [x, y] s) d s) : m__law_told [.int 4, .tup (x :: y :: zs)] s = .ok d s := told_of (by
  have a : atI [m_plus, m_minus, m_times, m_over, m_compare, m_ratio] 4 = some m_compare := atI_nat (j := 4) rfl
  have h : (4 : Int) < 6 := by decide
  simp only [rD, cst0, cst1, cst2, cst3, mSeq, mAsg, mPar, mRet, mOp, mVar, mC, mCons, mNil, mIfS, mB, mIf, mNeg, mNotV, mNot, mAnd, mOr, mAndV, mOrV, mCall, mNext, mExpr, mRetN, mRaise, gN, startR, mInt, mAbs, mLen, f1, f2, gInt, gAbs, gLen, mChain, D.sqO, D.lsO, mBreak, mIsi, D.kd, Kd.isi, List.map_cons, List.map_nil, List.length_cons, List.length_nil, Nat.reduceAdd, Nat.reduceSub, Nat.zero_add, List.reduceReplicate, List.replicate_zero, List.replicate_succ, List.cons_append, List.nil_append, List.append_nil, List.getElem?_cons_zero, List.getElem?_cons_succ, List.set_cons_zero, List.set_cons_succ, Res.bind_ok, Res.bind_err, Res.bind_bad, Res.st_ok, Res.st_err, Res.st_bad, SR.seq_nx, SR.seq_rt, SR.seq_ex, SR.seq_bk, SR.seq_ct, SR.seq_bad, r_add, r_sub, r_lt, r_le, r_gt, r_ge, r_eq, r_ne, r_eqB, r_neB, r_eqS, r_neS, r_ix0, r_ix1, if_true, if_false, ite_true, ite_false, Bool.false_eq_true, Bool.true_eq_false, Bool.not_true, Bool.not_false, decide_true, decide_false, reduceIte, reduceCtorEq, mTab, a, h, st_rt_seq]) t
theorem told5 {x y d : D} {s : Sto} {zs : List D} (t : Told (m_ratio [x, y] s) d s) : m__law_told [.int 5, .tup (x :: y :: zs)] s = .ok d s := told_of (by
  have a : atI [m_plus, m_minus, m_times, m_over, m_compare, m_ratio] 5 = some m_ratio := atI_nat (j := 5) rfl
  have h : (5 : Int) < 6 := by decide
  simp only [rD, cst0, cst1, cst2, cst3, mSeq, mAsg, mPar, mRet, mOp, mVar, mC, mCons, mNil, mIfS, mB, mIf, mNeg, mNotV, mNot, mAnd, mOr, mAndV, mOrV, mCall, mNext, mExpr, mRetN, mRaise, gN, startR, mInt, mAbs, mLen, f1, f2, gInt, gAbs, gLen, mChain, D.sqO, D.lsO, mBreak, mIsi, D.kd, Kd.isi, List.map_cons, List.map_nil, List.length_cons, List.length_nil, Nat.reduceAdd, Nat.reduceSub, Nat.zero_add, List.reduceReplicate, List.replicate_zero, List.replicate_succ, List.cons_append, List.nil_append, List.append_nil, List.getElem?_cons_zero, List.getElem?_cons_succ, List.set_cons_zero, List.set_cons_succ, Res.bind_ok, Res.bind_err, Res.bind_bad, Res.st_ok, Res.st_err, Res.st_bad, SR.seq_nx, SR.seq_rt, SR.seq_ex, SR.seq_bk, SR.seq_ct, SR.seq_bad, r_add, r_sub, r_lt, r_le, r_gt, r_ge, r_eq, r_ne, r_eqB, r_neB, r_eqS, r_neS, r_ix0, r_ix1, if_true, if_false, ite_true, ite_false, Bool.false_eq_true, Bool.true_eq_false, Bool.not_true, Bool.not_false, decide_true, decide_false, reduceIte, reduceCtorEq, mTab, a, h, st_rt_seq]) t
theorem told6 {x d : D} {s : Sto} {zs : List D} (t : Told (m_floor_of [x] s) d s) : m__law_told [.int 6, .tup (x :: zs)] s = .ok d s := told_of (by
  have a : atI [m_floor_of, m_ceiling_of, m_shown_ratio, m_halved, m_least_square] 0 = some m_floor_of := atI_nat (j := 0) rfl
  have h : ¬ (6 : Int) < 6 := by decide
  have h2 : (6 : Int) < 11 := by decide
  have h3 : (6 : Int) - 6 = 0 := by decide
  simp only [rD, cst0, cst1, cst2, cst3, mSeq, mAsg, mPar, mRet, mOp, mVar, mC, mCons, mNil, mIfS, mB, mIf, mNeg, mNotV, mNot, mAnd, mOr, mAndV, mOrV, mCall, mNext, mExpr, mRetN, mRaise, gN, startR, mInt, mAbs, mLen, f1, f2, gInt, gAbs, gLen, mChain, D.sqO, D.lsO, mBreak, mIsi, D.kd, Kd.isi, List.map_cons, List.map_nil, List.length_cons, List.length_nil, Nat.reduceAdd, Nat.reduceSub, Nat.zero_add, List.reduceReplicate, List.replicate_zero, List.replicate_succ, List.cons_append, List.nil_append, List.append_nil, List.getElem?_cons_zero, List.getElem?_cons_succ, List.set_cons_zero, List.set_cons_succ, Res.bind_ok, Res.bind_err, Res.bind_bad, Res.st_ok, Res.st_err, Res.st_bad, SR.seq_nx, SR.seq_rt, SR.seq_ex, SR.seq_bk, SR.seq_ct, SR.seq_bad, r_add, r_sub, r_lt, r_le, r_gt, r_ge, r_eq, r_ne, r_eqB, r_neB, r_eqS, r_neS, r_ix0, r_ix1, if_true, if_false, ite_true, ite_false, Bool.false_eq_true, Bool.true_eq_false, Bool.not_true, Bool.not_false, decide_true, decide_false, reduceIte, reduceCtorEq, mTab, h, h2, h3, a, st_rt_seq]) t
theorem told7 {x d : D} {s : Sto} {zs : List D} (t : Told (m_ceiling_of [x] s) d s) : m__law_told [.int 7, .tup (x :: zs)] s = .ok d s := told_of (by
  have a : atI [m_floor_of, m_ceiling_of, m_shown_ratio, m_halved, m_least_square] 1 = some m_ceiling_of := atI_nat (j := 1) rfl
  have h : ¬ (7 : Int) < 6 := by decide
  have h2 : (7 : Int) < 11 := by decide
  have h3 : (7 : Int) - 6 = 1 := by decide
  simp only [rD, cst0, cst1, cst2, cst3, mSeq, mAsg, mPar, mRet, mOp, mVar, mC, mCons, mNil, mIfS, mB, mIf, mNeg, mNotV, mNot, mAnd, mOr, mAndV, mOrV, mCall, mNext, mExpr, mRetN, mRaise, gN, startR, mInt, mAbs, mLen, f1, f2, gInt, gAbs, gLen, mChain, D.sqO, D.lsO, mBreak, mIsi, D.kd, Kd.isi, List.map_cons, List.map_nil, List.length_cons, List.length_nil, Nat.reduceAdd, Nat.reduceSub, Nat.zero_add, List.reduceReplicate, List.replicate_zero, List.replicate_succ, List.cons_append, List.nil_append, List.append_nil, List.getElem?_cons_zero, List.getElem?_cons_succ, List.set_cons_zero, List.set_cons_succ, Res.bind_ok, Res.bind_err, Res.bind_bad, Res.st_ok, Res.st_err, Res.st_bad, SR.seq_nx, SR.seq_rt, SR.seq_ex, SR.seq_bk, SR.seq_ct, SR.seq_bad, r_add, r_sub, r_lt, r_le, r_gt, r_ge, r_eq, r_ne, r_eqB, r_neB, r_eqS, r_neS, r_ix0, r_ix1, if_true, if_false, ite_true, ite_false, Bool.false_eq_true, Bool.true_eq_false, Bool.not_true, Bool.not_false, decide_true, decide_false, reduceIte, reduceCtorEq, mTab, h, h2, h3, a, st_rt_seq]) t
theorem told8 {x d : D} {s : Sto} {zs : List D} (t : Told (m_shown_ratio [x] s) d s) : m__law_told [.int 8, .tup (x :: zs)] s = .ok d s := told_of (by
  have a : atI [m_floor_of, m_ceiling_of, m_shown_ratio, m_halved, m_least_square] 2 = some m_shown_ratio := atI_nat (j := 2) rfl
  have h : ¬ (8 : Int) < 6 := by decide
  have h2 : (8 : Int) < 11 := by decide
  have h3 : (8 : Int) - 6 = 2 := by decide
  simp only [rD, cst0, cst1, cst2, cst3, mSeq, mAsg, mPar, mRet, mOp, mVar, mC, mCons, mNil, mIfS, mB, mIf, mNeg, mNotV, mNot, mAnd, mOr, mAndV, mOrV, mCall, mNext, mExpr, mRetN, mRaise, gN, startR, mInt, mAbs, mLen, f1, f2, gInt, gAbs, gLen, mChain, D.sqO, D.lsO, mBreak, mIsi, D.kd, Kd.isi, List.map_cons, List.map_nil, List.length_cons, List.length_nil, Nat.reduceAdd, Nat.reduceSub, Nat.zero_add, List.reduceReplicate, List.replicate_zero, List.replicate_succ, List.cons_append, List.nil_append, List.append_nil, List.getElem?_cons_zero, List.getElem?_cons_succ, List.set_cons_zero, List.set_cons_succ, Res.bind_ok, Res.bind_err, Res.bind_bad, Res.st_ok, Res.st_err, Res.st_bad, SR.seq_nx, SR.seq_rt, SR.seq_ex, SR.seq_bk, SR.seq_ct, SR.seq_bad, r_add, r_sub, r_lt, r_le, r_gt, r_ge, r_eq, r_ne, r_eqB, r_neB, r_eqS, r_neS, r_ix0, r_ix1, if_true, if_false, ite_true, ite_false, Bool.false_eq_true, Bool.true_eq_false, Bool.not_true, Bool.not_false, decide_true, decide_false, reduceIte, reduceCtorEq, mTab, h, h2, h3, a, st_rt_seq]) t
theorem told9 {x d : D} {s : Sto} {zs : List D} (t : Told (m_halved [x] s) d s) : m__law_told [.int 9, .tup (x :: zs)] s = .ok d s := told_of (by
  have a : atI [m_floor_of, m_ceiling_of, m_shown_ratio, m_halved, m_least_square] 3 = some m_halved := atI_nat (j := 3) rfl
  have h : ¬ (9 : Int) < 6 := by decide
  have h2 : (9 : Int) < 11 := by decide
  have h3 : (9 : Int) - 6 = 3 := by decide
  simp only [rD, cst0, cst1, cst2, cst3, mSeq, mAsg, mPar, mRet, mOp, mVar, mC, mCons, mNil, mIfS, mB, mIf, mNeg, mNotV, mNot, mAnd, mOr, mAndV, mOrV, mCall, mNext, mExpr, mRetN, mRaise, gN, startR, mInt, mAbs, mLen, f1, f2, gInt, gAbs, gLen, mChain, D.sqO, D.lsO, mBreak, mIsi, D.kd, Kd.isi, List.map_cons, List.map_nil, List.length_cons, List.length_nil, Nat.reduceAdd, Nat.reduceSub, Nat.zero_add, List.reduceReplicate, List.replicate_zero, List.replicate_succ, List.cons_append, List.nil_append, List.append_nil, List.getElem?_cons_zero, List.getElem?_cons_succ, List.set_cons_zero, List.set_cons_succ, Res.bind_ok, Res.bind_err, Res.bind_bad, Res.st_ok, Res.st_err, Res.st_bad, SR.seq_nx, SR.seq_rt, SR.seq_ex, SR.seq_bk, SR.seq_ct, SR.seq_bad, r_add, r_sub, r_lt, r_le, r_gt, r_ge, r_eq, r_ne, r_eqB, r_neB, r_eqS, r_neS, r_ix0, r_ix1, if_true, if_false, ite_true, ite_false, Bool.false_eq_true, Bool.true_eq_false, Bool.not_true, Bool.not_false, decide_true, decide_false, reduceIte, reduceCtorEq, mTab, h, h2, h3, a, st_rt_seq]) t
theorem told10 {x d : D} {s : Sto} {zs : List D} (t : Told (m_least_square [x] s) d s) : m__law_told [.int 10, .tup (x :: zs)] s = .ok d s := told_of (by
  have a : atI [m_floor_of, m_ceiling_of, m_shown_ratio, m_halved, m_least_square] 4 = some m_least_square := atI_nat (j := 4) rfl
  have h : ¬ (10 : Int) < 6 := by decide
  have h2 : (10 : Int) < 11 := by decide
  have h3 : (10 : Int) - 6 = 4 := by decide
  simp only [rD, cst0, cst1, cst2, cst3, mSeq, mAsg, mPar, mRet, mOp, mVar, mC, mCons, mNil, mIfS, mB, mIf, mNeg, mNotV, mNot, mAnd, mOr, mAndV, mOrV, mCall, mNext, mExpr, mRetN, mRaise, gN, startR, mInt, mAbs, mLen, f1, f2, gInt, gAbs, gLen, mChain, D.sqO, D.lsO, mBreak, mIsi, D.kd, Kd.isi, List.map_cons, List.map_nil, List.length_cons, List.length_nil, Nat.reduceAdd, Nat.reduceSub, Nat.zero_add, List.reduceReplicate, List.replicate_zero, List.replicate_succ, List.cons_append, List.nil_append, List.append_nil, List.getElem?_cons_zero, List.getElem?_cons_succ, List.set_cons_zero, List.set_cons_succ, Res.bind_ok, Res.bind_err, Res.bind_bad, Res.st_ok, Res.st_err, Res.st_bad, SR.seq_nx, SR.seq_rt, SR.seq_ex, SR.seq_bk, SR.seq_ct, SR.seq_bad, r_add, r_sub, r_lt, r_le, r_gt, r_ge, r_eq, r_ne, r_eqB, r_neB, r_eqS, r_neS, r_ix0, r_ix1, if_true, if_false, ite_true, ite_false, Bool.false_eq_true, Bool.true_eq_false, Bool.not_true, Bool.not_false, decide_true, decide_false, reduceIte, reduceCtorEq, mTab, h, h2, h3, a, st_rt_seq]) t
theorem told11 {x y d : D} {s : Sto} {zs : List D} (t : Told (m_power [x, y] s) d s) : m__law_told [.int 11, .tup (x :: y :: zs)] s = .ok d s := told_of (by
  have a : atI [m_power, m_down_to, m_up_to, m_decimal_of] 0 = some m_power := atI_nat (j := 0) rfl
  have h : ¬ (11 : Int) < 6 := by decide
  have h2 : ¬ (11 : Int) < 11 := by decide
  have h3 : (11 : Int) - 11 = 0 := by decide
  simp only [rD, cst0, cst1, cst2, cst3, mSeq, mAsg, mPar, mRet, mOp, mVar, mC, mCons, mNil, mIfS, mB, mIf, mNeg, mNotV, mNot, mAnd, mOr, mAndV, mOrV, mCall, mNext, mExpr, mRetN, mRaise, gN, startR, mInt, mAbs, mLen, f1, f2, gInt, gAbs, gLen, mChain, D.sqO, D.lsO, mBreak, mIsi, D.kd, Kd.isi, List.map_cons, List.map_nil, List.length_cons, List.length_nil, Nat.reduceAdd, Nat.reduceSub, Nat.zero_add, List.reduceReplicate, List.replicate_zero, List.replicate_succ, List.cons_append, List.nil_append, List.append_nil, List.getElem?_cons_zero, List.getElem?_cons_succ, List.set_cons_zero, List.set_cons_succ, Res.bind_ok, Res.bind_err, Res.bind_bad, Res.st_ok, Res.st_err, Res.st_bad, SR.seq_nx, SR.seq_rt, SR.seq_ex, SR.seq_bk, SR.seq_ct, SR.seq_bad, r_add, r_sub, r_lt, r_le, r_gt, r_ge, r_eq, r_ne, r_eqB, r_neB, r_eqS, r_neS, r_ix0, r_ix1, if_true, if_false, ite_true, ite_false, Bool.false_eq_true, Bool.true_eq_false, Bool.not_true, Bool.not_false, decide_true, decide_false, reduceIte, reduceCtorEq, mTab, h, h2, h3, a, st_rt_seq]) t
theorem told12 {x y d : D} {s : Sto} {zs : List D} (t : Told (m_down_to [x, y] s) d s) : m__law_told [.int 12, .tup (x :: y :: zs)] s = .ok d s := told_of (by
  have a : atI [m_power, m_down_to, m_up_to, m_decimal_of] 1 = some m_down_to := atI_nat (j := 1) rfl
  have h : ¬ (12 : Int) < 6 := by decide
  have h2 : ¬ (12 : Int) < 11 := by decide
  have h3 : (12 : Int) - 11 = 1 := by decide
  simp only [rD, cst0, cst1, cst2, cst3, mSeq, mAsg, mPar, mRet, mOp, mVar, mC, mCons, mNil, mIfS, mB, mIf, mNeg, mNotV, mNot, mAnd, mOr, mAndV, mOrV, mCall, mNext, mExpr, mRetN, mRaise, gN, startR, mInt, mAbs, mLen, f1, f2, gInt, gAbs, gLen, mChain, D.sqO, D.lsO, mBreak, mIsi, D.kd, Kd.isi, List.map_cons, List.map_nil, List.length_cons, List.length_nil, Nat.reduceAdd, Nat.reduceSub, Nat.zero_add, List.reduceReplicate, List.replicate_zero, List.replicate_succ, List.cons_append, List.nil_append, List.append_nil, List.getElem?_cons_zero, List.getElem?_cons_succ, List.set_cons_zero, List.set_cons_succ, Res.bind_ok, Res.bind_err, Res.bind_bad, Res.st_ok, Res.st_err, Res.st_bad, SR.seq_nx, SR.seq_rt, SR.seq_ex, SR.seq_bk, SR.seq_ct, SR.seq_bad, r_add, r_sub, r_lt, r_le, r_gt, r_ge, r_eq, r_ne, r_eqB, r_neB, r_eqS, r_neS, r_ix0, r_ix1, if_true, if_false, ite_true, ite_false, Bool.false_eq_true, Bool.true_eq_false, Bool.not_true, Bool.not_false, decide_true, decide_false, reduceIte, reduceCtorEq, mTab, h, h2, h3, a, st_rt_seq]) t
theorem told13 {x y d : D} {s : Sto} {zs : List D} (t : Told (m_up_to [x, y] s) d s) : m__law_told [.int 13, .tup (x :: y :: zs)] s = .ok d s := told_of (by
  have a : atI [m_power, m_down_to, m_up_to, m_decimal_of] 2 = some m_up_to := atI_nat (j := 2) rfl
  have h : ¬ (13 : Int) < 6 := by decide
  have h2 : ¬ (13 : Int) < 11 := by decide
  have h3 : (13 : Int) - 11 = 2 := by decide
  simp only [rD, cst0, cst1, cst2, cst3, mSeq, mAsg, mPar, mRet, mOp, mVar, mC, mCons, mNil, mIfS, mB, mIf, mNeg, mNotV, mNot, mAnd, mOr, mAndV, mOrV, mCall, mNext, mExpr, mRetN, mRaise, gN, startR, mInt, mAbs, mLen, f1, f2, gInt, gAbs, gLen, mChain, D.sqO, D.lsO, mBreak, mIsi, D.kd, Kd.isi, List.map_cons, List.map_nil, List.length_cons, List.length_nil, Nat.reduceAdd, Nat.reduceSub, Nat.zero_add, List.reduceReplicate, List.replicate_zero, List.replicate_succ, List.cons_append, List.nil_append, List.append_nil, List.getElem?_cons_zero, List.getElem?_cons_succ, List.set_cons_zero, List.set_cons_succ, Res.bind_ok, Res.bind_err, Res.bind_bad, Res.st_ok, Res.st_err, Res.st_bad, SR.seq_nx, SR.seq_rt, SR.seq_ex, SR.seq_bk, SR.seq_ct, SR.seq_bad, r_add, r_sub, r_lt, r_le, r_gt, r_ge, r_eq, r_ne, r_eqB, r_neB, r_eqS, r_neS, r_ix0, r_ix1, if_true, if_false, ite_true, ite_false, Bool.false_eq_true, Bool.true_eq_false, Bool.not_true, Bool.not_false, decide_true, decide_false, reduceIte, reduceCtorEq, mTab, h, h2, h3, a, st_rt_seq]) t
theorem told14 {x y d : D} {s : Sto} {zs : List D} (t : Told (m_decimal_of [x, y] s) d s) : m__law_told [.int 14, .tup (x :: y :: zs)] s = .ok d s := told_of (by
  have a : atI [m_power, m_down_to, m_up_to, m_decimal_of] 3 = some m_decimal_of := atI_nat (j := 3) rfl
  have h : ¬ (14 : Int) < 6 := by decide
  have h2 : ¬ (14 : Int) < 11 := by decide
  have h3 : (14 : Int) - 11 = 3 := by decide
  simp only [rD, cst0, cst1, cst2, cst3, mSeq, mAsg, mPar, mRet, mOp, mVar, mC, mCons, mNil, mIfS, mB, mIf, mNeg, mNotV, mNot, mAnd, mOr, mAndV, mOrV, mCall, mNext, mExpr, mRetN, mRaise, gN, startR, mInt, mAbs, mLen, f1, f2, gInt, gAbs, gLen, mChain, D.sqO, D.lsO, mBreak, mIsi, D.kd, Kd.isi, List.map_cons, List.map_nil, List.length_cons, List.length_nil, Nat.reduceAdd, Nat.reduceSub, Nat.zero_add, List.reduceReplicate, List.replicate_zero, List.replicate_succ, List.cons_append, List.nil_append, List.append_nil, List.getElem?_cons_zero, List.getElem?_cons_succ, List.set_cons_zero, List.set_cons_succ, Res.bind_ok, Res.bind_err, Res.bind_bad, Res.st_ok, Res.st_err, Res.st_bad, SR.seq_nx, SR.seq_rt, SR.seq_ex, SR.seq_bk, SR.seq_ct, SR.seq_bad, r_add, r_sub, r_lt, r_le, r_gt, r_ge, r_eq, r_ne, r_eqB, r_neB, r_eqS, r_neS, r_ix0, r_ix1, if_true, if_false, ite_true, ite_false, Bool.false_eq_true, Bool.true_eq_false, Bool.not_true, Bool.not_false, decide_true, decide_false, reduceIte, reduceCtorEq, mTab, h, h2, h3, a, st_rt_seq]) t
end K00

set_option Elab.async false
set_option linter.all false
set_option maxRecDepth 100000
set_option maxHeartbeats 2000000
set_option exponentiation.threshold 20000
namespace K00
open PySem PySem.Spec PyProof.Rows L2 DL
theorem seq_nx {n1 n2 : MS} {r r1 : Ren} {s s1 : Sto} (h : n1 r s = .nx r1 s1) : mSeq n1 n2 r s = n2 r1 s1 := by
  show (n1 r s).seq n2 = _
  rw [h]
  rfl
theorem seq_rt {n1 n2 : MS} {r : Ren} {s s1 : Sto} {d : D} (h : n1 r s = .rt d s1) : mSeq n1 n2 r s = .rt d s1 := by
  show (n1 r s).seq n2 = _
  rw [h]
  rfl
theorem seq_ex {n1 n2 : MS} {r r1 : Ren} {s s1 : Sto} {c : Str} (h : n1 r s = .ex c r1 s1) : mSeq n1 n2 r s = .ex c r1 s1 := by
  show (n1 r s).seq n2 = _
  rw [h]
  rfl
theorem if_t {t : M1 Bool} {n1 n2 : MS} {r : Ren} {s s1 : Sto} (h : t r s = .ok true s1) : mIfS t n1 n2 r s = n1 r s1 := by
  show (t r s).st r _ = _
  rw [h]
  rfl
theorem if_f {t : M1 Bool} {n1 n2 : MS} {r : Ren} {s s1 : Sto} (h : t r s = .ok false s1) : mIfS t n1 n2 r s = n2 r s1 := by
  show (t r s).st r _ = _
  rw [h]
  rfl
theorem q_cons1 {m : M1 D} {r : Ren} {s s1 : Sto} {d : D} (h : m r s = .ok d s1) : mCons m mNil r s = .ok [d] s1 := by
  show ((m r s).bind fun d s1 => (mNil r s1).bind fun ds s2 => Res.ok (d :: ds) s2) = _
  rw [h]
  rfl
theorem mRng_of {m : M1 D} {n : Int} {r : Ren} {s s1 : Sto} (h : m r s = .ok (.int n) s1) (h1 : -(2 ^ 62) ≤ n) (h2 : n < 2 ^ 62) : mRng1 (mCons m mNil) r s = .ok (rngD 0 n.toNat, none) s1 := by
  unfold mRng1
  rw [q_cons1 h, Res.bind_ok]
  dsimp only
  rw [if_pos ⟨h1, h2⟩]
theorem mFor_of {m : M1 D} {n : Int} {i : Nat} {body : MS} {r : Ren} {s s1 : Sto} (h : m r s = .ok (.int n) s1) (h1 : -(2 ^ 62) ≤ n) (h2 : n < 2 ^ 62) : mFor (mRng1 (mCons m mNil)) (gN i) body r s = loopF none (rngD 0 n.toNat) (gN i) body (rngD 0 n.toNat) r s1 := by
  unfold mFor
  rw [mRng_of h h1 h2]
  rfl
theorem b62 {n : Nat} (h : n ≤ 1000) : -(2 ^ 62) ≤ (n : Int) ∧ (n : Int) < 2 ^ 62 := by
  have e : (2 : Int) ^ 62 = 4611686018427387904 := by decide
  rw [e]
  omega
theorem mFor_len {m : M1 D} {n : Nat} {i : Nat} {body : MS} {r : Ren} {s s1 : Sto} (h : m r s = .ok (.int n) s1) (h1 : n ≤ 1000) : mFor (mRng1 (mCons m mNil)) (gN i) body r s = loopF none (rngD 0 n) (gN i) body (rngD 0 n) r s1 := by
  rw [mFor_of h (b62 h1).1 (b62 h1).2, Int.toNat_natCast]
theorem len_lst {i : Nat} {r : Ren} {s : Sto} {ds : List D} (h : r[i]? = some (some (.lst ds))) : mCall (f1 gLen) (mCons (mVar i) mNil) r s = .ok (.int ds.length) s := by
  rw [q_call1 (q_var h)]
  rfl
theorem len_tup {i : Nat} {r : Ren} {s : Sto} {ds : List D} (h : r[i]? = some (some (.tup ds))) : mCall (f1 gLen) (mCons (mVar i) mNil) r s = .ok (.int ds.length) s := by
  rw [q_call1 (q_var h)]
  rfl
/-! ### _law_same -/
abbrev SameR (l : Nat) (d e : D) (b : Bool) : Prop := ∀ s : Sto, m__law_same l [d, e] s = .ok (.bl b) s
theorem opIsN_f {d : D} (s : Sto) (h : d ≠ .non) : opIsN d .non s = .ok (.bl false) s := by
  cases d <;> first | rfl | exact absurd rfl h
theorem same_int (l : Nat) (i j : Int) : SameR (l + 1) (.int i) (.int j) (i == j) := fun s => by
  refine run_rt ?_ rfl rfl
  unfold mb__law_same
  have k1 : (D.int j).kd = some .int := rfl
  have n1 : opIsN (.int j) .non s = .ok (.bl false) s := rfl
  have a1 : Kd.int.isi .tup = false := rfl
  have a2 : Kd.int.isi .lst = false := rfl
  have a3 : Kd.int.isi .dic = false := rfl
  have a4 : Kd.int.isi .bl = false := rfl
  have a5 : Kd.int.isi .int = true := rfl
  have a6 : Kd.int.isi .str = false := rfl
  simp only [rD, cst0, cst1, cst2, cst3, mSeq, mAsg, mPar, mRet, mOp, mVar, mC, mCons, mNil, mIfS, mB, mIf, mNeg, mNotV, mNot, mAnd, mOr, mAndV, mOrV, mCall, mNext, mExpr, mRetN, mRaise, gN, startR, mInt, mAbs, mLen, f1, f2, gInt, gAbs, gLen, mChain, D.sqO, D.lsO, mBreak, mIsi, D.kd, Kd.isi, List.map_cons, List.map_nil, List.length_cons, List.length_nil, Nat.reduceAdd, Nat.reduceSub, Nat.zero_add, List.reduceReplicate, List.replicate_zero, List.replicate_succ, List.cons_append, List.nil_append, List.append_nil, List.getElem?_cons_zero, List.getElem?_cons_succ, List.set_cons_zero, List.set_cons_succ, Res.bind_ok, Res.bind_err, Res.bind_bad, Res.st_ok, Res.st_err, Res.st_bad, SR.seq_nx, SR.seq_rt, SR.seq_ex, SR.seq_bk, SR.seq_ct, SR.seq_bad, r_add, r_sub, r_lt, r_le, r_gt, r_ge, r_eq, r_ne, r_eqB, r_neB, r_eqS, r_neS, r_ix0, r_ix1, if_true, if_false, ite_true, ite_false, Bool.false_eq_true, Bool.true_eq_false, Bool.not_true, Bool.not_false, decide_true, decide_false, reduceIte, reduceCtorEq, n1, a1, a2, a3, a4, a5, a6, beq_self_eq_true]
theorem same_str (l : Nat) (a b : Str) : SameR (l + 1) (.str a) (.str b) (a == b) := fun s => by
  refine run_rt ?_ rfl rfl
  unfold mb__law_same
  have n1 : opIsN (.str b) .non s = .ok (.bl false) s := rfl
  have a1 : Kd.str.isi .tup = false := rfl
  have a2 : Kd.str.isi .lst = false := rfl
  have a3 : Kd.str.isi .dic = false := rfl
  have a4 : Kd.str.isi .bl = false := rfl
  have a5 : Kd.str.isi .int = false := rfl
  have a6 : Kd.str.isi .str = true := rfl
  simp only [rD, cst0, cst1, cst2, cst3, mSeq, mAsg, mPar, mRet, mOp, mVar, mC, mCons, mNil, mIfS, mB, mIf, mNeg, mNotV, mNot, mAnd, mOr, mAndV, mOrV, mCall, mNext, mExpr, mRetN, mRaise, gN, startR, mInt, mAbs, mLen, f1, f2, gInt, gAbs, gLen, mChain, D.sqO, D.lsO, mBreak, mIsi, D.kd, Kd.isi, List.map_cons, List.map_nil, List.length_cons, List.length_nil, Nat.reduceAdd, Nat.reduceSub, Nat.zero_add, List.reduceReplicate, List.replicate_zero, List.replicate_succ, List.cons_append, List.nil_append, List.append_nil, List.getElem?_cons_zero, List.getElem?_cons_succ, List.set_cons_zero, List.set_cons_succ, Res.bind_ok, Res.bind_err, Res.bind_bad, Res.st_ok, Res.st_err, Res.st_bad, SR.seq_nx, SR.seq_rt, SR.seq_ex, SR.seq_bk, SR.seq_ct, SR.seq_bad, r_add, r_sub, r_lt, r_le, r_gt, r_ge, r_eq, r_ne, r_eqB, r_neB, r_eqS, r_neS, r_ix0, r_ix1, if_true, if_false, ite_true, ite_false, Bool.false_eq_true, Bool.true_eq_false, Bool.not_true, Bool.not_false, decide_true, decide_false, reduceIte, reduceCtorEq, n1, a1, a2, a3, a4, a5, a6, beq_self_eq_true]
inductive SameL (l : Nat) : List D → List D → Bool → Prop where
  | nil : SameL l [] [] true
  | cons {d e : D} {ds es : List D} {b c : Bool} (h : SameR l d e b) (r : SameL l ds es c) : SameL l (d :: ds) (e :: es) (b && c)
theorem SameL.len {l : Nat} {ds es : List D} {c : Bool} (h : SameL l ds es c) : ds.length = es.length := by
  induction h with
  | nil => rfl
  | cons _ _ ih => rw [List.length_cons, List.length_cons, ih]
theorem ix_lst {ds : List D} {d : D} {j : Nat} {s : Sto} (h : ds[j]? = some d) : opIx (.lst ds) (.int ((0 : Int) + (j : Int))) s = .ok d s := by
  show (match atI ds ((0 : Int) + (j : Int)) with | some d => Res.ok d s | none => .bad) = _
  rw [Int.zero_add, atI_nat h]
theorem ix_tup {ds : List D} {d : D} {j : Nat} {s : Sto} (h : ds[j]? = some d) : opIx (.tup ds) (.int ((0 : Int) + (j : Int))) s = .ok d s := by
  show (match atI ds ((0 : Int) + (j : Int)) with | some d => Res.ok d s | none => .bad) = _
  rw [Int.zero_add, atI_nat h]
theorem same_loop {l : Nat} {x y : D} {all ds es : List D} {s : Sto} (hx : ∀ (j : Nat) (d : D), ds[j]? = some d → opIx x (.int ((0 : Int) + (j : Int))) s = .ok d s) (hy : ∀ (j : Nat) (d : D), es[j]? = some d → opIx y (.int ((0 : Int) + (j : Int))) s = .ok d s) :
    ∀ (ds' es' : List D) (j : Nat) (c : Bool) (t u : Option D), SameL l ds' es' c → ds.drop j = ds' → es.drop j = es' → ∃ t',
      loopF none all (gN 2) (mIfS (mNot (mB (mCall (m__law_same l) (mCons (mOp opIx (mVar 0) (mVar 2)) (mCons (mOp opIx (mVar 1) (mVar 2)) mNil))))) (mRet (mC (.bl false))) mNext) ((List.range' j ds'.length).map fun (i : Nat) => D.int ((0 : Int) + (i : Int))) [some x, some y, t, u] s
        = if c then .nx [some x, some y, t', u] s else .rt (.bl false) s := by
  intro ds' es' j c t u h
  induction h generalizing j t with
  | nil =>
    intro _ _
    exact ⟨t, by rw [show (List.range' j ([] : List D).length).map (fun (i : Nat) => D.int ((0 : Int) + (i : Int))) = [] from rfl, loopF_nil]; rfl⟩
  | @cons d e ds'' es'' b c hb hr ih =>
    intro e1 e2
    have g1 : ds[j]? = some d := by
      have := congrArg (fun l => l[0]?) e1
      simpa using this
    have g2 : es[j]? = some e := by
      have := congrArg (fun l => l[0]?) e2
      simpa using this
    have f1 : ds.drop (j + 1) = ds'' := by rw [← List.drop_drop, e1]; rfl
    have f2 : es.drop (j + 1) = es'' := by rw [← List.drop_drop, e2]; rfl
    have r1 : (List.range' j (d :: ds'').length).map (fun (i : Nat) => D.int ((0 : Int) + (i : Int))) = D.int ((0 : Int) + (j : Int)) :: (List.range' (j + 1) ds''.length).map fun (i : Nat) => D.int ((0 : Int) + (i : Int)) := by
      rw [List.length_cons, List.range'_succ]
      rfl
    rw [r1, loopF_cons]
    have hx1 := hx j d g1
    have hy1 := hy j e g2
    have hb1 := hb s
    obtain ⟨t', ht⟩ := ih (j + 1) (some (.int ((0 : Int) + (j : Int)))) f1 f2
    cases b with
    | false =>
      refine ⟨none, ?_⟩
      simp only [rD, cst0, cst1, cst2, cst3, mSeq, mAsg, mPar, mRet, mOp, mVar, mC, mCons, mNil, mIfS, mB, mIf, mNeg, mNotV, mNot, mAnd, mOr, mAndV, mOrV, mCall, mNext, mExpr, mRetN, mRaise, gN, startR, mInt, mAbs, mLen, f1, f2, gInt, gAbs, gLen, mChain, D.sqO, D.lsO, mBreak, mIsi, D.kd, Kd.isi, List.map_cons, List.map_nil, List.length_cons, List.length_nil, Nat.reduceAdd, Nat.reduceSub, Nat.zero_add, List.reduceReplicate, List.replicate_zero, List.replicate_succ, List.cons_append, List.nil_append, List.append_nil, List.getElem?_cons_zero, List.getElem?_cons_succ, List.set_cons_zero, List.set_cons_succ, Res.bind_ok, Res.bind_err, Res.bind_bad, Res.st_ok, Res.st_err, Res.st_bad, SR.seq_nx, SR.seq_rt, SR.seq_ex, SR.seq_bk, SR.seq_ct, SR.seq_bad, r_add, r_sub, r_lt, r_le, r_gt, r_ge, r_eq, r_ne, r_eqB, r_neB, r_eqS, r_neS, r_ix0, r_ix1, if_true, if_false, ite_true, ite_false, Bool.false_eq_true, Bool.true_eq_false, Bool.not_true, Bool.not_false, decide_true, decide_false, reduceIte, reduceCtorEq, hx1, hy1, hb1, Bool.false_and]
    | true =>
      refine ⟨t', ?_⟩
      rw [Bool.true_and, ← ht]
      simp only [rD, cst0, cst1, cst2, cst3, mSeq, mAsg, mPar, mRet, mOp, mVar, mC, mCons, mNil, mIfS, mB, mIf, mNeg, mNotV, mNot, mAnd, mOr, mAndV, mOrV, mCall, mNext, mExpr, mRetN, mRaise, gN, startR, mInt, mAbs, mLen, f1, f2, gInt, gAbs, gLen, mChain, D.sqO, D.lsO, mBreak, mIsi, D.kd, Kd.isi, List.map_cons, List.map_nil, List.length_cons, List.length_nil, Nat.reduceAdd, Nat.reduceSub, Nat.zero_add, List.reduceReplicate, List.replicate_zero, List.replicate_succ, List.cons_append, List.nil_append, List.append_nil, List.getElem?_cons_zero, List.getElem?_cons_succ, List.set_cons_zero, List.set_cons_succ, Res.bind_ok, Res.bind_err, Res.bind_bad, Res.st_ok, Res.st_err, Res.st_bad, SR.seq_nx, SR.seq_rt, SR.seq_ex, SR.seq_bk, SR.seq_ct, SR.seq_bad, r_add, r_sub, r_lt, r_le, r_gt, r_ge, r_eq, r_ne, r_eqB, r_neB, r_eqS, r_neS, r_ix0, r_ix1, if_true, if_false, ite_true, ite_false, Bool.false_eq_true, Bool.true_eq_false, Bool.not_true, Bool.not_false, decide_true, decide_false, reduceIte, reduceCtorEq, hx1, hy1, hb1]
theorem rngD_range' (n : Nat) : rngD 0 n = (List.range' 0 n).map fun (i : Nat) => D.int ((0 : Int) + (i : Int)) := by
  unfold rngD
  rw [List.range_eq_range']
theorem same_lst {l : Nat} {ds es : List D} {c : Bool} (h : SameL l ds es c) (hz : ds.length ≤ 1000) : SameR (l + 1) (.lst ds) (.lst es) c := fun s => by
  refine run_rt ?_ rfl rfl
  have hl := h.len
  unfold mb__law_same
  have n1 : opIsN (.lst es) .non s = .ok (.bl false) s := rfl
  have a1 : Kd.lst.isi .tup = false := rfl
  have a2 : Kd.lst.isi .lst = true := rfl
  have e1 : ((ds.length : Int) == (es.length : Int)) = true := by rw [hl]; simp
  obtain ⟨t', ht⟩ := same_loop (l := l) (x := .lst ds) (y := .lst es) (all := rngD 0 ds.length) (s := s) (fun j d h => ix_lst h) (fun j d h => ix_lst h) ds es 0 c none none h rfl rfl
  rw [← rngD_range'] at ht
  have hr : mFor (mRng1 (mCons (mLen (mVar 1)) mNil)) (gN 2) (mIfS (mNot (mB (mCall (m__law_same l) (mCons (mOp opIx (mVar 0) (mVar 2)) (mCons (mOp opIx (mVar 1) (mVar 2)) mNil))))) (mRet (mC (.bl false))) mNext) [some (.lst ds), some (.lst es), none, none] s = if c then .nx [some (.lst ds), some (.lst es), t', none] s else .rt (.bl false) s := by
    have hlen : mLen (mVar 1) [some (.lst ds), some (.lst es), none, none] s = .ok (.int (es.length : Nat)) s := rfl
    have hz' : es.length ≤ 1000 := hl ▸ hz
    rw [mFor_len hlen hz', ← hl]
    exact ht
  refine Eq.trans (seq_nx (r := [some (.lst ds), some (.lst es), none, none]) (r1 := [some (.lst ds), some (.lst es), none, none]) (s1 := s) ?_) ?_
  · rfl
  have hB : mB (mOp opNe (mLen (mVar 0)) (mLen (mVar 1))) [some (.lst ds), some (.lst es), none, none] s = .ok false s := by
    show Res.ok (!((ds.length : Int) == (es.length : Int))) s = _
    rw [e1]
    rfl
  have hT : ∀ n1 n2 : MS, mIfS (mOr (mB (mIsi .tup (mVar 1))) (mB (mIsi .lst (mVar 1)))) n1 n2 [some (.lst ds), some (.lst es), none, none] s = n1 [some (.lst ds), some (.lst es), none, none] s := fun n1 n2 => if_t rfl
  cases c with
  | true =>
    refine seq_rt ?_
    rw [hT]
    refine Eq.trans (seq_nx (r1 := [some (.lst ds), some (.lst es), none, none]) (s1 := s) ?_) ?_
    · rfl
    refine Eq.trans (seq_nx (if_f hB)) (Eq.trans (seq_nx hr) ?_)
    rfl
  | false =>
    refine seq_rt ?_
    rw [hT]
    refine Eq.trans (seq_nx (r1 := [some (.lst ds), some (.lst es), none, none]) (s1 := s) ?_) ?_
    · rfl
    exact Eq.trans (seq_nx (if_f hB)) (seq_rt hr)
theorem same_tup {l : Nat} {ds es : List D} {c : Bool} (h : SameL l ds es c) (hz : ds.length ≤ 1000) : SameR (l + 1) (.tup ds) (.tup es) c := fun s => by
  refine run_rt ?_ rfl rfl
  have hl := h.len
  unfold mb__law_same
  have n1 : opIsN (.tup es) .non s = .ok (.bl false) s := rfl
  have a1 : Kd.tup.isi .tup = true := rfl
  have a2 : Kd.tup.isi .lst = false := rfl
  have e1 : ((ds.length : Int) == (es.length : Int)) = true := by rw [hl]; simp
  obtain ⟨t', ht⟩ := same_loop (l := l) (x := .tup ds) (y := .tup es) (all := rngD 0 ds.length) (s := s) (fun j d h => ix_tup h) (fun j d h => ix_tup h) ds es 0 c none none h rfl rfl
  rw [← rngD_range'] at ht
  have hr : mFor (mRng1 (mCons (mLen (mVar 1)) mNil)) (gN 2) (mIfS (mNot (mB (mCall (m__law_same l) (mCons (mOp opIx (mVar 0) (mVar 2)) (mCons (mOp opIx (mVar 1) (mVar 2)) mNil))))) (mRet (mC (.bl false))) mNext) [some (.tup ds), some (.tup es), none, none] s = if c then .nx [some (.tup ds), some (.tup es), t', none] s else .rt (.bl false) s := by
    have hlen : mLen (mVar 1) [some (.tup ds), some (.tup es), none, none] s = .ok (.int (es.length : Nat)) s := rfl
    have hz' : es.length ≤ 1000 := hl ▸ hz
    rw [mFor_len hlen hz', ← hl]
    exact ht
  refine Eq.trans (seq_nx (r := [some (.tup ds), some (.tup es), none, none]) (r1 := [some (.tup ds), some (.tup es), none, none]) (s1 := s) ?_) ?_
  · rfl
  have hB : mB (mOp opNe (mLen (mVar 0)) (mLen (mVar 1))) [some (.tup ds), some (.tup es), none, none] s = .ok false s := by
    show Res.ok (!((ds.length : Int) == (es.length : Int))) s = _
    rw [e1]
    rfl
  have hT : ∀ n1 n2 : MS, mIfS (mOr (mB (mIsi .tup (mVar 1))) (mB (mIsi .lst (mVar 1)))) n1 n2 [some (.tup ds), some (.tup es), none, none] s = n1 [some (.tup ds), some (.tup es), none, none] s := fun n1 n2 => if_t rfl
  cases c with
  | true =>
    refine seq_rt ?_
    rw [hT]
    refine Eq.trans (seq_nx (r1 := [some (.tup ds), some (.tup es), none, none]) (s1 := s) ?_) ?_
    · rfl
    refine Eq.trans (seq_nx (if_f hB)) (Eq.trans (seq_nx hr) ?_)
    rfl
  | false =>
    refine seq_rt ?_
    rw [hT]
    refine Eq.trans (seq_nx (r1 := [some (.tup ds), some (.tup es), none, none]) (s1 := s) ?_) ?_
    · rfl
    exact Eq.trans (seq_nx (if_f hB)) (seq_rt hr)
/-- the same are told to be the same -/
theorem sameI (l : Nat) (i : Int) : SameR (l + 1) (.int i) (.int i) true := by have := same_int l i i; rwa [beq_self_eq_true] at this
theorem sameS (l : Nat) (i : Str) : SameR (l + 1) (.str i) (.str i) true := by have := same_str l i i; rwa [beq_self_eq_true] at this
theorem sameD (l : Nat) (n d : Int) : SameR (l + 2) (rD n d) (rD n d) true := same_tup (l := l + 1) (.cons (sameI l n) (.cons (sameI l d) .nil)) (by simp)
end K00

set_option Elab.async false
set_option linter.all false
set_option maxRecDepth 100000
set_option maxHeartbeats 2000000
set_option exponentiation.threshold 20000
namespace K00
open PySem PySem.Spec PyProof.Rows L2 DL
/-! ### powers -/
theorem fdiv2 (n : Nat) : ((n : Int)).fdiv 2 = ((n / 2 : Nat) : Int) := by
  rw [Int.fdiv_eq_ediv_of_nonneg _ (by decide)]; rfl
theorem fmod2 (n : Nat) : ((n : Int)).fmod 2 = ((n % 2 : Nat) : Int) := by
  rw [Int.fmod_eq_emod_of_nonneg _ (by decide)]; rfl
abbrev rsBody : MS := mSeq (mIfS (mB (mOp opEq (mOp opMod (mVar 1) (mC (.int 2))) (mC (.int 1)))) (mAsg (mOp opMul (mVar 2) (mVar 0)) (gN 2)) mNext)
  (mPar 0 1 (mCons (mOp opMul (mVar 0) (mVar 0)) (mCons (mOp opFdiv (mVar 1) (mC (.int 2))) mNil)))
theorem raised_loop {s : Sto} : ∀ (m n : Nat) (a f : Int) (K F : Nat), n < 2 ^ m → Sm K a → Sm F f → F + K * 2 ^ (m + 1) ≤ 10000000 + K →
    ∃ a', mWhile (mB (mOp opGt (mVar 1) (mC (.int 0)))) rsBody [some (.int a), some (.int n), some (.int f)] s = .nx [some (.int a'), some (.int 0), some (.int (f * a ^ n))] s
  | 0, n, a, f, K, F, hn, _, _, _ => by
    have h0 : n = 0 := by simp at hn; exact hn
    subst h0
    refine ⟨a, ?_⟩
    rw [mWhile_eq]
    have e : ¬ (0 : Int) < 0 := by decide
    simp only [rD, cst0, cst1, cst2, cst3, mSeq, mAsg, mPar, mRet, mOp, mVar, mC, mCons, mNil, mIfS, mB, mIf, mNeg, mNotV, mNot, mAnd, mOr, mAndV, mOrV, mCall, mNext, mExpr, mRetN, mRaise, gN, startR, mInt, mAbs, mLen, f1, f2, gInt, gAbs, gLen, mChain, D.sqO, D.lsO, mBreak, mIsi, D.kd, Kd.isi, List.map_cons, List.map_nil, List.length_cons, List.length_nil, Nat.reduceAdd, Nat.reduceSub, Nat.zero_add, List.reduceReplicate, List.replicate_zero, List.replicate_succ, List.cons_append, List.nil_append, List.append_nil, List.getElem?_cons_zero, List.getElem?_cons_succ, List.set_cons_zero, List.set_cons_succ, Res.bind_ok, Res.bind_err, Res.bind_bad, Res.st_ok, Res.st_err, Res.st_bad, SR.seq_nx, SR.seq_rt, SR.seq_ex, SR.seq_bk, SR.seq_ct, SR.seq_bad, r_add, r_sub, r_lt, r_le, r_gt, r_ge, r_eq, r_ne, r_eqB, r_neB, r_eqS, r_neS, r_ix0, r_ix1, if_true, if_false, ite_true, ite_false, Bool.false_eq_true, Bool.true_eq_false, Bool.not_true, Bool.not_false, decide_true, decide_false, reduceIte, reduceCtorEq, e, Int.pow_zero, Int.mul_one]
  | m + 1, n, a, f, K, F, hn, ha, hf, hb => by
    by_cases h0 : n = 0
    · subst h0
      refine ⟨a, ?_⟩
      rw [mWhile_eq]
      have e : ¬ (0 : Int) < 0 := by decide
      simp only [rD, cst0, cst1, cst2, cst3, mSeq, mAsg, mPar, mRet, mOp, mVar, mC, mCons, mNil, mIfS, mB, mIf, mNeg, mNotV, mNot, mAnd, mOr, mAndV, mOrV, mCall, mNext, mExpr, mRetN, mRaise, gN, startR, mInt, mAbs, mLen, f1, f2, gInt, gAbs, gLen, mChain, D.sqO, D.lsO, mBreak, mIsi, D.kd, Kd.isi, List.map_cons, List.map_nil, List.length_cons, List.length_nil, Nat.reduceAdd, Nat.reduceSub, Nat.zero_add, List.reduceReplicate, List.replicate_zero, List.replicate_succ, List.cons_append, List.nil_append, List.append_nil, List.getElem?_cons_zero, List.getElem?_cons_succ, List.set_cons_zero, List.set_cons_succ, Res.bind_ok, Res.bind_err, Res.bind_bad, Res.st_ok, Res.st_err, Res.st_bad, SR.seq_nx, SR.seq_rt, SR.seq_ex, SR.seq_bk, SR.seq_ct, SR.seq_bad, r_add, r_sub, r_lt, r_le, r_gt, r_ge, r_eq, r_ne, r_eqB, r_neB, r_eqS, r_neS, r_ix0, r_ix1, if_true, if_false, ite_true, ite_false, Bool.false_eq_true, Bool.true_eq_false, Bool.not_true, Bool.not_false, decide_true, decide_false, reduceIte, reduceCtorEq, e, Int.pow_zero, Int.mul_one]
    · have hpos : (0 : Int) < (n : Int) := by omega
      have hK : K * 2 ^ (m + 1 + 1) = 2 * (K * 2 ^ (m + 1)) := by rw [Nat.pow_succ 2 (m + 1)]; ac_rfl
      have hK1 : K ≤ K * 2 ^ (m + 1) := Nat.le_mul_of_pos_right K (Nat.pow_pos (by decide))
      have hK3 : 2 * K ≤ K * 2 ^ (m + 1) := by rw [Nat.pow_succ, ← Nat.mul_assoc, Nat.mul_comm 2 K]; exact Nat.mul_le_mul_right 2 (Nat.le_mul_of_pos_right K (Nat.pow_pos (by decide)))
      have hK2 : (K + K) * 2 ^ (m + 1) = 2 * (K * 2 ^ (m + 1)) := by rw [Nat.add_mul]; omega
      have h2 : (2 : Int) ≠ 0 := by decide
      have c2 : CDivG (n : Int) 2 := cdiv h2 (by decide)
      have mm := r_mulR (s := s) ha ha (by omega)
      have hs : Sm (K + K) (a * a) := sm_mul ha ha
      have hn2 : n / 2 < 2 ^ m := by rw [Nat.pow_succ] at hn; omega
      rcases Nat.mod_two_eq_zero_or_one n with e | e
      · obtain ⟨a', h⟩ := raised_loop m (n / 2) (a * a) f (K + K) F hn2 hs hf (by omega)
        refine ⟨a', ?_⟩
        have pe : f * (a * a) ^ (n / 2) = f * a ^ n := by
          have : n = 2 * (n / 2) := by omega
          conv => rhs; rw [this, Int.pow_mul]
          rw [show a ^ 2 = a * a from by rw [Int.pow_succ, Int.pow_succ, Int.pow_zero, Int.one_mul]]
        rw [pe] at h
        rw [mWhile_eq]
        have e0 : (((n % 2 : Nat) : Int) == 1) = false := by rw [e]; rfl
        simp only [rD, cst0, cst1, cst2, cst3, mSeq, mAsg, mPar, mRet, mOp, mVar, mC, mCons, mNil, mIfS, mB, mIf, mNeg, mNotV, mNot, mAnd, mOr, mAndV, mOrV, mCall, mNext, mExpr, mRetN, mRaise, gN, startR, mInt, mAbs, mLen, f1, f2, gInt, gAbs, gLen, mChain, D.sqO, D.lsO, mBreak, mIsi, D.kd, Kd.isi, List.map_cons, List.map_nil, List.length_cons, List.length_nil, Nat.reduceAdd, Nat.reduceSub, Nat.zero_add, List.reduceReplicate, List.replicate_zero, List.replicate_succ, List.cons_append, List.nil_append, List.append_nil, List.getElem?_cons_zero, List.getElem?_cons_succ, List.set_cons_zero, List.set_cons_succ, Res.bind_ok, Res.bind_err, Res.bind_bad, Res.st_ok, Res.st_err, Res.st_bad, SR.seq_nx, SR.seq_rt, SR.seq_ex, SR.seq_bk, SR.seq_ct, SR.seq_bad, r_add, r_sub, r_lt, r_le, r_gt, r_ge, r_eq, r_ne, r_eqB, r_neB, r_eqS, r_neS, r_ix0, r_ix1, if_true, if_false, ite_true, ite_false, Bool.false_eq_true, Bool.true_eq_false, Bool.not_true, Bool.not_false, decide_true, decide_false, reduceIte, reduceCtorEq, hpos, r_mod h2, fmod2, fdiv2, e0, r_fdiv c2, mm]
        exact h
      · obtain ⟨a', h⟩ := raised_loop m (n / 2) (a * a) (f * a) (K + K) (F + K) hn2 hs (sm_mul hf ha) (by omega)
        refine ⟨a', ?_⟩
        have pe : f * a * (a * a) ^ (n / 2) = f * a ^ n := by
          have : n = 2 * (n / 2) + 1 := by omega
          conv => rhs; rw [this, Int.pow_succ, Int.pow_mul]
          rw [show a ^ 2 = a * a from by rw [Int.pow_succ, Int.pow_succ, Int.pow_zero, Int.one_mul]]
          ac_rfl
        rw [pe] at h
        rw [mWhile_eq]
        have e0 : (((n % 2 : Nat) : Int) == 1) = true := by rw [e]; rfl
        have m2 := r_mulR (s := s) hf ha (by omega)
        simp only [rD, cst0, cst1, cst2, cst3, mSeq, mAsg, mPar, mRet, mOp, mVar, mC, mCons, mNil, mIfS, mB, mIf, mNeg, mNotV, mNot, mAnd, mOr, mAndV, mOrV, mCall, mNext, mExpr, mRetN, mRaise, gN, startR, mInt, mAbs, mLen, f1, f2, gInt, gAbs, gLen, mChain, D.sqO, D.lsO, mBreak, mIsi, D.kd, Kd.isi, List.map_cons, List.map_nil, List.length_cons, List.length_nil, Nat.reduceAdd, Nat.reduceSub, Nat.zero_add, List.reduceReplicate, List.replicate_zero, List.replicate_succ, List.cons_append, List.nil_append, List.append_nil, List.getElem?_cons_zero, List.getElem?_cons_succ, List.set_cons_zero, List.set_cons_succ, Res.bind_ok, Res.bind_err, Res.bind_bad, Res.st_ok, Res.st_err, Res.st_bad, SR.seq_nx, SR.seq_rt, SR.seq_ex, SR.seq_bk, SR.seq_ct, SR.seq_bad, r_add, r_sub, r_lt, r_le, r_gt, r_ge, r_eq, r_ne, r_eqB, r_neB, r_eqS, r_neS, r_ix0, r_ix1, if_true, if_false, ite_true, ite_false, Bool.false_eq_true, Bool.true_eq_false, Bool.not_true, Bool.not_false, decide_true, decide_false, reduceIte, reduceCtorEq, hpos, r_mod h2, fmod2, fdiv2, e0, r_fdiv c2, mm, m2]
        exact h
theorem raised_eq {a : Int} {n : Nat} (s : Sto) (ha : Sm 1000 a) (hn : n < 1024) : m_raised [.int a, .int n] s = .ok (.int (a ^ n)) s := by
  refine run_rt ?_ rfl rfl
  obtain ⟨a', h⟩ := raised_loop (s := s) 10 n a 1 1000 1 hn ha (by decide) (by decide)
  rw [Int.one_mul] at h
  unfold mb_raised
  refine Eq.trans (seq_nx (r1 := [some (.int a), some (.int n), some (.int 1)]) (s1 := s) ?_) ?_
  · rfl
  refine Eq.trans (seq_nx h) ?_
  rfl
theorem sm_pow {n : Nat} {a : Int} (h : Sm n a) : ∀ k : Nat, Sm (n * k + 1) (a ^ k)
  | 0 => by unfold Sm; rw [Int.pow_zero, Nat.mul_zero]; decide
  | k + 1 => by
    have := sm_mul (sm_pow h k) h
    rw [Int.pow_succ]
    exact sm_le this (by rw [Nat.mul_succ]; omega)
theorem rt_pow {p q : Int} (h : Rt p q) (k : Nat) : Rt (p ^ k) (q ^ k) := by
  refine ⟨Int.pow_pos h.pos, ?_⟩
  show Nat.gcd (p ^ k).natAbs (q ^ k).natAbs = 1
  rw [Int.natAbs_pow, Int.natAbs_pow]
  exact Nat.Coprime.pow k k h.cop
theorem rs_pow {p q : Int} (h : Rs 20 p q) {k : Nat} (hk : k ≤ 40) : Rs 900 (p ^ k) (q ^ k) := ⟨rt_pow h.rt k, sm_le (sm_pow h.sp k) (by omega), sm_le (sm_pow h.sq k) (by omega)⟩
theorem lawpower_loop {p q : Int} {x : Option D} {s : Sto} {all : List D} (h : Rs 20 p q) : ∀ (ds : List D) (i : Nat) (t : Option D), i + ds.length ≤ 40 → ∃ t',
    loopF none all (gN 3) (mAsg (mCall m__law_mul (mCons (mVar 2) (mCons (mVar 0) mNil))) (gN 2)) ds [some (rD p q), x, some (rD (p ^ i) (q ^ i)), t] s = .nx [some (rD p q), x, some (rD (p ^ (i + ds.length)) (q ^ (i + ds.length))), t'] s
  | [], i, t, _ => ⟨t, by rw [loopF_nil]; rfl⟩
  | d :: ds, i, t, hl => by
    rw [List.length_cons] at hl
    obtain ⟨t', ht⟩ := lawpower_loop (all := all) h ds (i + 1) (some d) (by omega)
    refine ⟨t', ?_⟩
    have hm := lawmul_eq (s := s) (rs_pow h (k := i) (by omega)) (rs_pow h (k := 1) (by decide))
    rw [Int.pow_one, Int.pow_one] at hm
    have e : rd (p ^ i * p) (q ^ i * q) = rD (p ^ (i + 1)) (q ^ (i + 1)) := by
      have r := rt_pow h.rt (i + 1)
      refine rd_of (mulne (Int.pow_ne_zero h.q0) h.q0) r ?_
      rw [Int.pow_succ, Int.pow_succ]
    rw [e] at hm
    rw [loopF_cons, show i + (d :: ds).length = i + 1 + ds.length from by rw [List.length_cons]; omega, ← ht]
    simp only [rD, cst0, cst1, cst2, cst3, mSeq, mAsg, mPar, mRet, mOp, mVar, mC, mCons, mNil, mIfS, mB, mIf, mNeg, mNotV, mNot, mAnd, mOr, mAndV, mOrV, mCall, mNext, mExpr, mRetN, mRaise, gN, startR, mInt, mAbs, mLen, f1, f2, gInt, gAbs, gLen, mChain, D.sqO, D.lsO, mBreak, mIsi, D.kd, Kd.isi, List.map_cons, List.map_nil, List.length_cons, List.length_nil, Nat.reduceAdd, Nat.reduceSub, Nat.zero_add, List.reduceReplicate, List.replicate_zero, List.replicate_succ, List.cons_append, List.nil_append, List.append_nil, List.getElem?_cons_zero, List.getElem?_cons_succ, List.set_cons_zero, List.set_cons_succ, Res.bind_ok, Res.bind_err, Res.bind_bad, Res.st_ok, Res.st_err, Res.st_bad, SR.seq_nx, SR.seq_rt, SR.seq_ex, SR.seq_bk, SR.seq_ct, SR.seq_bad, r_add, r_sub, r_lt, r_le, r_gt, r_ge, r_eq, r_ne, r_eqB, r_neB, r_eqS, r_neS, r_ix0, r_ix1, if_true, if_false, ite_true, ite_false, Bool.false_eq_true, Bool.true_eq_false, Bool.not_true, Bool.not_false, decide_true, decide_false, reduceIte, reduceCtorEq, hm]
theorem lawpower_eq {p q : Int} {n : Nat} (s : Sto) (h : Rs 20 p q) (hn : n ≤ 40) : m__law_power [rD p q, .int n] s = .ok (rD (p ^ n) (q ^ n)) s := by
  refine run_rt ?_ rfl rfl
  obtain ⟨t', ht⟩ := lawpower_loop (x := some (.int n)) (all := rngD 0 n) (s := s) h (rngD 0 n) 0 none (by rw [rngD_len]; omega)
  rw [rngD_len, Nat.zero_add, Int.pow_zero, Int.pow_zero] at ht
  unfold mb__law_power
  refine Eq.trans (seq_nx (r1 := [some (rD p q), some (.int n), some (rD 1 1), none]) (s1 := s) ?_) ?_
  · rfl
  have hv : mVar 1 [some (rD p q), some (.int n), some (rD 1 1), none] s = .ok (.int (n : Nat)) s := rfl
  refine Eq.trans (seq_nx ((mFor_len hv (by omega)).trans ht)) ?_
  rfl
end K00

set_option Elab.async false
set_option linter.all false
set_option maxRecDepth 100000
set_option maxHeartbeats 2000000
set_option exponentiation.threshold 20000
namespace K00
open PySem PySem.Spec PyProof.Rows L2 DL
/-! ### twos, halved -/
theorem mulc_loop {c : Int} (hc : Sm 2 c) {x : Option D} {s : Sto} {all : List D} : ∀ (ds : List D) (i : Nat) (t : Option D), i + ds.length ≤ 100 → ∃ t',
    loopF none all (gN 2) (mAsg (mOp opMul (mVar 1) (mC (.int c))) (gN 1)) ds [x, some (.int (c ^ i)), t] s = .nx [x, some (.int (c ^ (i + ds.length))), t'] s
  | [], i, t, _ => ⟨t, by rw [loopF_nil]; rfl⟩
  | d :: ds, i, t, hl => by
    rw [List.length_cons] at hl
    obtain ⟨t', ht⟩ := mulc_loop hc (all := all) ds (i + 1) (some d) (by omega)
    refine ⟨t', ?_⟩
    have hm := r_mulR (s := s) (sm_pow hc i) hc (by omega)
    rw [← Int.pow_succ] at hm
    rw [show i + (d :: ds).length = i + 1 + ds.length from by rw [List.length_cons]; omega, ← ht, loopF_cons]
    simp only [rD, cst0, cst1, cst2, cst3, mSeq, mAsg, mPar, mRet, mOp, mVar, mC, mCons, mNil, mIfS, mB, mIf, mNeg, mNotV, mNot, mAnd, mOr, mAndV, mOrV, mCall, mNext, mExpr, mRetN, mRaise, gN, startR, mInt, mAbs, mLen, f1, f2, gInt, gAbs, gLen, mChain, D.sqO, D.lsO, mBreak, mIsi, D.kd, Kd.isi, List.map_cons, List.map_nil, List.length_cons, List.length_nil, Nat.reduceAdd, Nat.reduceSub, Nat.zero_add, List.reduceReplicate, List.replicate_zero, List.replicate_succ, List.cons_append, List.nil_append, List.append_nil, List.getElem?_cons_zero, List.getElem?_cons_succ, List.set_cons_zero, List.set_cons_succ, Res.bind_ok, Res.bind_err, Res.bind_bad, Res.st_ok, Res.st_err, Res.st_bad, SR.seq_nx, SR.seq_rt, SR.seq_ex, SR.seq_bk, SR.seq_ct, SR.seq_bad, r_add, r_sub, r_lt, r_le, r_gt, r_ge, r_eq, r_ne, r_eqB, r_neB, r_eqS, r_neS, r_ix0, r_ix1, if_true, if_false, ite_true, ite_false, Bool.false_eq_true, Bool.true_eq_false, Bool.not_true, Bool.not_false, decide_true, decide_false, reduceIte, reduceCtorEq, hm]
theorem twos_eq {n : Nat} (s : Sto) (hn : n ≤ 100) : m__law_twos [.int n] s = .ok (.int (2 ^ n)) s := by
  refine run_rt ?_ rfl rfl
  have h2 : Sm 2 2 := by decide
  obtain ⟨t', ht⟩ := mulc_loop h2 (x := some (.int n)) (all := rngD 0 n) (s := s) (rngD 0 n) 0 none (by rw [rngD_len]; omega)
  rw [rngD_len, Nat.zero_add, Int.pow_zero] at ht
  have hv : mVar 0 [some (.int n), some (.int 1), none] s = .ok (.int (n : Nat)) s := rfl
  have hb := (mFor_len (i := 2) (body := mAsg (mOp opMul (mVar 1) (mC (.int 2))) (gN 1)) hv (by omega)).trans ht
  unfold mb__law_twos
  generalize (2 : Int) ^ n = A at hb ⊢
  refine Eq.trans (seq_nx (r1 := [some (.int n), some (.int 1), none]) (s1 := s) ?_) ?_
  · rfl
  refine Eq.trans (seq_nx hb) ?_
  rfl
theorem shl_one {k : Nat} {s : Sto} (hk : k ≤ 100) : opShl (.int 1) (.int k) s = .ok (.int (2 ^ k)) s := by
  rw [r_shl (cshl (n := 1) (by decide) (by omega)), Int.toNat_natCast, Int.one_mul]
theorem halved_eq {k : Nat} (s : Sto) (hk : k ≤ 100) : m_halved [.int k] s = .ok (rD 1 (2 ^ k)) s := by
  refine run_rt ?_ rfl rfl
  have z3 : 2 ≤ sizeLine := by decide
  unfold mb_halved
  simp only [rD, cst0, cst1, cst2, cst3, mSeq, mAsg, mPar, mRet, mOp, mVar, mC, mCons, mNil, mIfS, mB, mIf, mNeg, mNotV, mNot, mAnd, mOr, mAndV, mOrV, mCall, mNext, mExpr, mRetN, mRaise, gN, startR, mInt, mAbs, mLen, f1, f2, gInt, gAbs, gLen, mChain, D.sqO, D.lsO, mBreak, mIsi, D.kd, Kd.isi, List.map_cons, List.map_nil, List.length_cons, List.length_nil, Nat.reduceAdd, Nat.reduceSub, Nat.zero_add, List.reduceReplicate, List.replicate_zero, List.replicate_succ, List.cons_append, List.nil_append, List.append_nil, List.getElem?_cons_zero, List.getElem?_cons_succ, List.set_cons_zero, List.set_cons_succ, Res.bind_ok, Res.bind_err, Res.bind_bad, Res.st_ok, Res.st_err, Res.st_bad, SR.seq_nx, SR.seq_rt, SR.seq_ex, SR.seq_bk, SR.seq_ct, SR.seq_bad, r_add, r_sub, r_lt, r_le, r_gt, r_ge, r_eq, r_ne, r_eqB, r_neB, r_eqS, r_neS, r_ix0, r_ix1, if_true, if_false, ite_true, ite_false, Bool.false_eq_true, Bool.true_eq_false, Bool.not_true, Bool.not_false, decide_true, decide_false, reduceIte, reduceCtorEq, within_t s (Int.natCast_nonneg k) (show (k : Int) ≤ 20000 by omega), check_t, shl_one hk, mTup, z3]
end K00

set_option Elab.async false
set_option linter.all false
set_option maxRecDepth 100000
set_option maxHeartbeats 2000000
set_option exponentiation.threshold 20000
namespace K00
open PySem PySem.Spec PyProof.Rows L2 DL
/-! ### of_bits -/
abbrev obBody : MS := mPar 0 1 (mCons (mOp opFdiv (mVar 0) (mC (.int 2))) (mCons (mOp opSub (mVar 1) (mC (.int 1))) mNil))
theorem bits_loop {s : Sto} : ∀ (k : Nat) (n : Int), ∃ (n' : Int) (k' : Nat), k' ≤ k ∧ n' * 2 ^ (k - k') = n ∧ (k' = 0 ∨ n' % 2 = 1) ∧
    mWhile (mAnd (mB (mOp opGt (mVar 1) (mC (.int 0)))) (mB (mOp opEq (mOp opMod (mVar 0) (mC (.int 2))) (mC (.int 0))))) obBody [some (.int n), some (.int k)] s = .nx [some (.int n'), some (.int k')] s
  | 0, n => by
    refine ⟨n, 0, Nat.le_refl _, by simp, .inl rfl, ?_⟩
    rw [mWhile_eq]
    have e : ¬ (0 : Int) < 0 := by decide
    simp only [rD, cst0, cst1, cst2, cst3, mSeq, mAsg, mPar, mRet, mOp, mVar, mC, mCons, mNil, mIfS, mB, mIf, mNeg, mNotV, mNot, mAnd, mOr, mAndV, mOrV, mCall, mNext, mExpr, mRetN, mRaise, gN, startR, mInt, mAbs, mLen, f1, f2, gInt, gAbs, gLen, mChain, D.sqO, D.lsO, mBreak, mIsi, D.kd, Kd.isi, List.map_cons, List.map_nil, List.length_cons, List.length_nil, Nat.reduceAdd, Nat.reduceSub, Nat.zero_add, List.reduceReplicate, List.replicate_zero, List.replicate_succ, List.cons_append, List.nil_append, List.append_nil, List.getElem?_cons_zero, List.getElem?_cons_succ, List.set_cons_zero, List.set_cons_succ, Res.bind_ok, Res.bind_err, Res.bind_bad, Res.st_ok, Res.st_err, Res.st_bad, SR.seq_nx, SR.seq_rt, SR.seq_ex, SR.seq_bk, SR.seq_ct, SR.seq_bad, r_add, r_sub, r_lt, r_le, r_gt, r_ge, r_eq, r_ne, r_eqB, r_neB, r_eqS, r_neS, r_ix0, r_ix1, if_true, if_false, ite_true, ite_false, Bool.false_eq_true, Bool.true_eq_false, Bool.not_true, Bool.not_false, decide_true, decide_false, reduceIte, reduceCtorEq, e]
  | k + 1, n => by
    have h2 : (2 : Int) ≠ 0 := by decide
    have hp : (0 : Int) < ((k + 1 : Nat) : Int) := by omega
    have em : n.fmod 2 = n % 2 := Int.fmod_eq_emod_of_nonneg _ (by decide)
    have ed : n.fdiv 2 = n / 2 := Int.fdiv_eq_ediv_of_nonneg _ (by decide)
    rcases (by omega : n % 2 = 0 ∨ n % 2 = 1) with e | e
    · obtain ⟨n', k', h1, h3, h4, h5⟩ := bits_loop k (n / 2)
      refine ⟨n', k', by omega, ?_, h4, ?_⟩
      · rw [show k + 1 - k' = k - k' + 1 from by omega, Int.pow_succ, ← Int.mul_assoc, h3]
        omega
      · rw [mWhile_eq]
        have e0 : ((n % 2) == 0) = true := by rw [e]; rfl
        have e1 : ((k + 1 : Nat) : Int) - 1 = (k : Nat) := by omega
        simp only [rD, cst0, cst1, cst2, cst3, mSeq, mAsg, mPar, mRet, mOp, mVar, mC, mCons, mNil, mIfS, mB, mIf, mNeg, mNotV, mNot, mAnd, mOr, mAndV, mOrV, mCall, mNext, mExpr, mRetN, mRaise, gN, startR, mInt, mAbs, mLen, f1, f2, gInt, gAbs, gLen, mChain, D.sqO, D.lsO, mBreak, mIsi, D.kd, Kd.isi, List.map_cons, List.map_nil, List.length_cons, List.length_nil, Nat.reduceAdd, Nat.reduceSub, Nat.zero_add, List.reduceReplicate, List.replicate_zero, List.replicate_succ, List.cons_append, List.nil_append, List.append_nil, List.getElem?_cons_zero, List.getElem?_cons_succ, List.set_cons_zero, List.set_cons_succ, Res.bind_ok, Res.bind_err, Res.bind_bad, Res.st_ok, Res.st_err, Res.st_bad, SR.seq_nx, SR.seq_rt, SR.seq_ex, SR.seq_bk, SR.seq_ct, SR.seq_bad, r_add, r_sub, r_lt, r_le, r_gt, r_ge, r_eq, r_ne, r_eqB, r_neB, r_eqS, r_neS, r_ix0, r_ix1, if_true, if_false, ite_true, ite_false, Bool.false_eq_true, Bool.true_eq_false, Bool.not_true, Bool.not_false, decide_true, decide_false, reduceIte, reduceCtorEq, hp, r_mod h2, em, ed, e0, r_fdiv (cdiv h2 (by decide)), e1]
        exact h5
    · refine ⟨n, k + 1, Nat.le_refl _, by simp, .inr e, ?_⟩
      rw [mWhile_eq]
      have e0 : ((n % 2) == 0) = false := by rw [e]; rfl
      simp only [rD, cst0, cst1, cst2, cst3, mSeq, mAsg, mPar, mRet, mOp, mVar, mC, mCons, mNil, mIfS, mB, mIf, mNeg, mNotV, mNot, mAnd, mOr, mAndV, mOrV, mCall, mNext, mExpr, mRetN, mRaise, gN, startR, mInt, mAbs, mLen, f1, f2, gInt, gAbs, gLen, mChain, D.sqO, D.lsO, mBreak, mIsi, D.kd, Kd.isi, List.map_cons, List.map_nil, List.length_cons, List.length_nil, Nat.reduceAdd, Nat.reduceSub, Nat.zero_add, List.reduceReplicate, List.replicate_zero, List.replicate_succ, List.cons_append, List.nil_append, List.append_nil, List.getElem?_cons_zero, List.getElem?_cons_succ, List.set_cons_zero, List.set_cons_succ, Res.bind_ok, Res.bind_err, Res.bind_bad, Res.st_ok, Res.st_err, Res.st_bad, SR.seq_nx, SR.seq_rt, SR.seq_ex, SR.seq_bk, SR.seq_ct, SR.seq_bad, r_add, r_sub, r_lt, r_le, r_gt, r_ge, r_eq, r_ne, r_eqB, r_neB, r_eqS, r_neS, r_ix0, r_ix1, if_true, if_false, ite_true, ite_false, Bool.false_eq_true, Bool.true_eq_false, Bool.not_true, Bool.not_false, decide_true, decide_false, reduceIte, reduceCtorEq, hp, r_mod h2, em, e0]
theorem pow2_ne (k : Nat) : (2 : Int) ^ k ≠ 0 := Int.pow_ne_zero (by decide)
theorem ofbits_eq {n : Int} {k : Nat} (s : Sto) (hk : k ≤ 100) : m_of_bits [.int n, .int k] s = .ok (rd n (2 ^ k)) s := by
  obtain ⟨n', k', h1, h3, h4, h5⟩ := bits_loop (s := s) k n
  have r : Rt n' (2 ^ k') := by
    refine ⟨Int.pow_pos (by decide), ?_⟩
    rcases h4 with h4 | h4
    · subst h4; simp
    · show Nat.gcd n'.natAbs ((2 : Int) ^ k').natAbs = 1
      rw [Int.natAbs_pow]
      have c : Nat.Coprime n'.natAbs 2 := by
        have h6 : n'.natAbs % 2 = 1 := by omega
        show Nat.gcd n'.natAbs 2 = 1
        rw [Nat.gcd_comm, Nat.gcd_rec, h6]
        rfl
      exact Nat.Coprime.pow_right k' c
  have e : rd n (2 ^ k) = rD n' (2 ^ k') := rd_of (pow2_ne k) r (by
    rw [← h3, Int.mul_assoc, ← Int.pow_add, show k - k' + k' = k from by omega])
  rw [e]
  refine run_rt ?_ rfl rfl
  unfold mb_of_bits
  refine Eq.trans (seq_nx h5) ?_
  have z3 : 2 ≤ sizeLine := by decide
  simp only [rD, cst0, cst1, cst2, cst3, mSeq, mAsg, mPar, mRet, mOp, mVar, mC, mCons, mNil, mIfS, mB, mIf, mNeg, mNotV, mNot, mAnd, mOr, mAndV, mOrV, mCall, mNext, mExpr, mRetN, mRaise, gN, startR, mInt, mAbs, mLen, f1, f2, gInt, gAbs, gLen, mChain, D.sqO, D.lsO, mBreak, mIsi, D.kd, Kd.isi, List.map_cons, List.map_nil, List.length_cons, List.length_nil, Nat.reduceAdd, Nat.reduceSub, Nat.zero_add, List.reduceReplicate, List.replicate_zero, List.replicate_succ, List.cons_append, List.nil_append, List.append_nil, List.getElem?_cons_zero, List.getElem?_cons_succ, List.set_cons_zero, List.set_cons_succ, Res.bind_ok, Res.bind_err, Res.bind_bad, Res.st_ok, Res.st_err, Res.st_bad, SR.seq_nx, SR.seq_rt, SR.seq_ex, SR.seq_bk, SR.seq_ct, SR.seq_bad, r_add, r_sub, r_lt, r_le, r_gt, r_ge, r_eq, r_ne, r_eqB, r_neB, r_eqS, r_neS, r_ix0, r_ix1, if_true, if_false, ite_true, ite_false, Bool.false_eq_true, Bool.true_eq_false, Bool.not_true, Bool.not_false, decide_true, decide_false, reduceIte, reduceCtorEq, mTup, shl_one (show k' ≤ 100 by omega), z3]
theorem downby_eq {p q : Int} {k : Nat} (s : Sto) (h : Rs 900 p q) (hk : k ≤ 100) : m_down_by [rD p q, .int k] s = .ok (rd ((p * 2 ^ k).fdiv q) (2 ^ k)) s := by
  refine run_rt ?_ rfl rfl
  have c : opShl (.int p) (.int k) s = .ok (.int (p * 2 ^ k)) s := by rw [r_shl (cshl h.sp (by omega)), Int.toNat_natCast]
  unfold mb_down_by
  simp only [rD, cst0, cst1, cst2, cst3, mSeq, mAsg, mPar, mRet, mOp, mVar, mC, mCons, mNil, mIfS, mB, mIf, mNeg, mNotV, mNot, mAnd, mOr, mAndV, mOrV, mCall, mNext, mExpr, mRetN, mRaise, gN, startR, mInt, mAbs, mLen, f1, f2, gInt, gAbs, gLen, mChain, D.sqO, D.lsO, mBreak, mIsi, D.kd, Kd.isi, List.map_cons, List.map_nil, List.length_cons, List.length_nil, Nat.reduceAdd, Nat.reduceSub, Nat.zero_add, List.reduceReplicate, List.replicate_zero, List.replicate_succ, List.cons_append, List.nil_append, List.append_nil, List.getElem?_cons_zero, List.getElem?_cons_succ, List.set_cons_zero, List.set_cons_succ, Res.bind_ok, Res.bind_err, Res.bind_bad, Res.st_ok, Res.st_err, Res.st_bad, SR.seq_nx, SR.seq_rt, SR.seq_ex, SR.seq_bk, SR.seq_ct, SR.seq_bad, r_add, r_sub, r_lt, r_le, r_gt, r_ge, r_eq, r_ne, r_eqB, r_neB, r_eqS, r_neS, r_ix0, r_ix1, if_true, if_false, ite_true, ite_false, Bool.false_eq_true, Bool.true_eq_false, Bool.not_true, Bool.not_false, decide_true, decide_false, reduceIte, reduceCtorEq, c, r_fdiv (cdiv h.q0 (sm_le h.sq (by decide))), ofbits_eq s hk]
theorem upby_eq {p q : Int} {k : Nat} (s : Sto) (h : Rs 900 p q) (hk : k ≤ 100) : m_up_by [rD p q, .int k] s = .ok (rd (-((-p * 2 ^ k).fdiv q)) (2 ^ k)) s := by
  refine run_rt ?_ rfl rfl
  have c : opShl (.int (-p)) (.int k) s = .ok (.int (-p * 2 ^ k)) s := by rw [r_shl (cshl (sm_neg h.sp) (by omega)), Int.toNat_natCast]
  unfold mb_up_by
  simp only [rD, cst0, cst1, cst2, cst3, mSeq, mAsg, mPar, mRet, mOp, mVar, mC, mCons, mNil, mIfS, mB, mIf, mNeg, mNotV, mNot, mAnd, mOr, mAndV, mOrV, mCall, mNext, mExpr, mRetN, mRaise, gN, startR, mInt, mAbs, mLen, f1, f2, gInt, gAbs, gLen, mChain, D.sqO, D.lsO, mBreak, mIsi, D.kd, Kd.isi, List.map_cons, List.map_nil, List.length_cons, List.length_nil, Nat.reduceAdd, Nat.reduceSub, Nat.zero_add, List.reduceReplicate, List.replicate_zero, List.replicate_succ, List.cons_append, List.nil_append, List.append_nil, List.getElem?_cons_zero, List.getElem?_cons_succ, List.set_cons_zero, List.set_cons_succ, Res.bind_ok, Res.bind_err, Res.bind_bad, Res.st_ok, Res.st_err, Res.st_bad, SR.seq_nx, SR.seq_rt, SR.seq_ex, SR.seq_bk, SR.seq_ct, SR.seq_bad, r_add, r_sub, r_lt, r_le, r_gt, r_ge, r_eq, r_ne, r_eqB, r_neB, r_eqS, r_neS, r_ix0, r_ix1, if_true, if_false, ite_true, ite_false, Bool.false_eq_true, Bool.true_eq_false, Bool.not_true, Bool.not_false, decide_true, decide_false, reduceIte, reduceCtorEq, c, r_fdiv (cdiv h.q0 (sm_le h.sq (by decide))), ofbits_eq s hk]
theorem downto_eq {p q : Int} {k : Nat} (s : Sto) (h : Rs 900 p q) (hk : k ≤ 100) : m_down_to [rD p q, .int k] s = .ok (rd ((p * 2 ^ k).fdiv q) (2 ^ k)) s := by
  refine run_rt ?_ rfl rfl
  unfold mb_down_to
  simp only [rD, cst0, cst1, cst2, cst3, mSeq, mAsg, mPar, mRet, mOp, mVar, mC, mCons, mNil, mIfS, mB, mIf, mNeg, mNotV, mNot, mAnd, mOr, mAndV, mOrV, mCall, mNext, mExpr, mRetN, mRaise, gN, startR, mInt, mAbs, mLen, f1, f2, gInt, gAbs, gLen, mChain, D.sqO, D.lsO, mBreak, mIsi, D.kd, Kd.isi, List.map_cons, List.map_nil, List.length_cons, List.length_nil, Nat.reduceAdd, Nat.reduceSub, Nat.zero_add, List.reduceReplicate, List.replicate_zero, List.replicate_succ, List.cons_append, List.nil_append, List.append_nil, List.getElem?_cons_zero, List.getElem?_cons_succ, List.set_cons_zero, List.set_cons_succ, Res.bind_ok, Res.bind_err, Res.bind_bad, Res.st_ok, Res.st_err, Res.st_bad, SR.seq_nx, SR.seq_rt, SR.seq_ex, SR.seq_bk, SR.seq_ct, SR.seq_bad, r_add, r_sub, r_lt, r_le, r_gt, r_ge, r_eq, r_ne, r_eqB, r_neB, r_eqS, r_neS, r_ix0, r_ix1, if_true, if_false, ite_true, ite_false, Bool.false_eq_true, Bool.true_eq_false, Bool.not_true, Bool.not_false, decide_true, decide_false, reduceIte, reduceCtorEq, checks1 h.rt, within_t s (Int.natCast_nonneg k) (show (k : Int) ≤ 20000 by omega), check_t, downby_eq s h hk]
theorem upto_eq {p q : Int} {k : Nat} (s : Sto) (h : Rs 900 p q) (hk : k ≤ 100) : m_up_to [rD p q, .int k] s = .ok (rd (-((-p * 2 ^ k).fdiv q)) (2 ^ k)) s := by
  refine run_rt ?_ rfl rfl
  unfold mb_up_to
  simp only [rD, cst0, cst1, cst2, cst3, mSeq, mAsg, mPar, mRet, mOp, mVar, mC, mCons, mNil, mIfS, mB, mIf, mNeg, mNotV, mNot, mAnd, mOr, mAndV, mOrV, mCall, mNext, mExpr, mRetN, mRaise, gN, startR, mInt, mAbs, mLen, f1, f2, gInt, gAbs, gLen, mChain, D.sqO, D.lsO, mBreak, mIsi, D.kd, Kd.isi, List.map_cons, List.map_nil, List.length_cons, List.length_nil, Nat.reduceAdd, Nat.reduceSub, Nat.zero_add, List.reduceReplicate, List.replicate_zero, List.replicate_succ, List.cons_append, List.nil_append, List.append_nil, List.getElem?_cons_zero, List.getElem?_cons_succ, List.set_cons_zero, List.set_cons_succ, Res.bind_ok, Res.bind_err, Res.bind_bad, Res.st_ok, Res.st_err, Res.st_bad, SR.seq_nx, SR.seq_rt, SR.seq_ex, SR.seq_bk, SR.seq_ct, SR.seq_bad, r_add, r_sub, r_lt, r_le, r_gt, r_ge, r_eq, r_ne, r_eqB, r_neB, r_eqS, r_neS, r_ix0, r_ix1, if_true, if_false, ite_true, ite_false, Bool.false_eq_true, Bool.true_eq_false, Bool.not_true, Bool.not_false, decide_true, decide_false, reduceIte, reduceCtorEq, checks1 h.rt, within_t s (Int.natCast_nonneg k) (show (k : Int) ≤ 20000 by omega), check_t, upby_eq s h hk]
end K00

set_option Elab.async false
set_option linter.all false
set_option maxRecDepth 100000
set_option maxHeartbeats 2000000
set_option exponentiation.threshold 20000
namespace K00
open PySem PySem.Spec PyProof.Rows L2 DL
/-! ### power -/
theorem Rs.more {n m : Nat} {p q : Int} (h : Rs n p q) (hm : n ≤ m) : Rs m p q := ⟨h.rt, sm_le h.sp hm, sm_le h.sq hm⟩
theorem power_pos {p q : Int} {n : Nat} (s : Sto) (h : Rs 20 p q) (hn : n ≤ 40) : m_power [rD p q, .int n] s = .ok (rD (p ^ n) (q ^ n)) s := by
  refine run_rt ?_ rfl rfl
  have hw := within_t s (show (-400 : Int) ≤ (n : Int) by omega) (show (n : Int) ≤ 400 by omega)
  have hneg : ¬ (n : Int) < 0 := by omega
  have hge : (0 : Int) ≤ (n : Int) := by omega
  have hby : m_power_by [rD p q, .int n] s = .ok (rD (p ^ n) (q ^ n)) s := by
    refine run_rt ?_ rfl rfl
    have z3 : 2 ≤ sizeLine := by decide
    unfold mb_power_by
    simp only [rD, cst0, cst1, cst2, cst3, mSeq, mAsg, mPar, mRet, mOp, mVar, mC, mCons, mNil, mIfS, mB, mIf, mNeg, mNotV, mNot, mAnd, mOr, mAndV, mOrV, mCall, mNext, mExpr, mRetN, mRaise, gN, startR, mInt, mAbs, mLen, f1, f2, gInt, gAbs, gLen, mChain, D.sqO, D.lsO, mBreak, mIsi, D.kd, Kd.isi, List.map_cons, List.map_nil, List.length_cons, List.length_nil, Nat.reduceAdd, Nat.reduceSub, Nat.zero_add, List.reduceReplicate, List.replicate_zero, List.replicate_succ, List.cons_append, List.nil_append, List.append_nil, List.getElem?_cons_zero, List.getElem?_cons_succ, List.set_cons_zero, List.set_cons_succ, Res.bind_ok, Res.bind_err, Res.bind_bad, Res.st_ok, Res.st_err, Res.st_bad, SR.seq_nx, SR.seq_rt, SR.seq_ex, SR.seq_bk, SR.seq_ct, SR.seq_bad, r_add, r_sub, r_lt, r_le, r_gt, r_ge, r_eq, r_ne, r_eqB, r_neB, r_eqS, r_neS, r_ix0, r_ix1, if_true, if_false, ite_true, ite_false, Bool.false_eq_true, Bool.true_eq_false, Bool.not_true, Bool.not_false, decide_true, decide_false, reduceIte, reduceCtorEq, hge, raised_eq s (sm_le h.sp (by decide)) (show n < 1024 by omega), raised_eq s (sm_le h.sq (by decide)) (show n < 1024 by omega), mTup, z3]
  unfold mb_power
  by_cases e : p = 0
  · subst e
    have e0 : ((0 : Int) == 0) = true := rfl
    simp only [rD, cst0, cst1, cst2, cst3, mSeq, mAsg, mPar, mRet, mOp, mVar, mC, mCons, mNil, mIfS, mB, mIf, mNeg, mNotV, mNot, mAnd, mOr, mAndV, mOrV, mCall, mNext, mExpr, mRetN, mRaise, gN, startR, mInt, mAbs, mLen, f1, f2, gInt, gAbs, gLen, mChain, D.sqO, D.lsO, mBreak, mIsi, D.kd, Kd.isi, List.map_cons, List.map_nil, List.length_cons, List.length_nil, Nat.reduceAdd, Nat.reduceSub, Nat.zero_add, List.reduceReplicate, List.replicate_zero, List.replicate_succ, List.cons_append, List.nil_append, List.append_nil, List.getElem?_cons_zero, List.getElem?_cons_succ, List.set_cons_zero, List.set_cons_succ, Res.bind_ok, Res.bind_err, Res.bind_bad, Res.st_ok, Res.st_err, Res.st_bad, SR.seq_nx, SR.seq_rt, SR.seq_ex, SR.seq_bk, SR.seq_ct, SR.seq_bad, r_add, r_sub, r_lt, r_le, r_gt, r_ge, r_eq, r_ne, r_eqB, r_neB, r_eqS, r_neS, r_ix0, r_ix1, if_true, if_false, ite_true, ite_false, Bool.false_eq_true, Bool.true_eq_false, Bool.not_true, Bool.not_false, decide_true, decide_false, reduceIte, reduceCtorEq, checks1 h.rt, hw, check_t, e0, hneg, hby]
  · have e0 : (p == 0) = false := by simpa using e
    simp only [rD, cst0, cst1, cst2, cst3, mSeq, mAsg, mPar, mRet, mOp, mVar, mC, mCons, mNil, mIfS, mB, mIf, mNeg, mNotV, mNot, mAnd, mOr, mAndV, mOrV, mCall, mNext, mExpr, mRetN, mRaise, gN, startR, mInt, mAbs, mLen, f1, f2, gInt, gAbs, gLen, mChain, D.sqO, D.lsO, mBreak, mIsi, D.kd, Kd.isi, List.map_cons, List.map_nil, List.length_cons, List.length_nil, Nat.reduceAdd, Nat.reduceSub, Nat.zero_add, List.reduceReplicate, List.replicate_zero, List.replicate_succ, List.cons_append, List.nil_append, List.append_nil, List.getElem?_cons_zero, List.getElem?_cons_succ, List.set_cons_zero, List.set_cons_succ, Res.bind_ok, Res.bind_err, Res.bind_bad, Res.st_ok, Res.st_err, Res.st_bad, SR.seq_nx, SR.seq_rt, SR.seq_ex, SR.seq_bk, SR.seq_ct, SR.seq_bad, r_add, r_sub, r_lt, r_le, r_gt, r_ge, r_eq, r_ne, r_eqB, r_neB, r_eqS, r_neS, r_ix0, r_ix1, if_true, if_false, ite_true, ite_false, Bool.false_eq_true, Bool.true_eq_false, Bool.not_true, Bool.not_false, decide_true, decide_false, reduceIte, reduceCtorEq, checks1 h.rt, hw, check_t, e0, hneg, hby]
theorem power_neg {p q : Int} {m : Nat} (s : Sto) (h : Rs 20 p q) (h0 : p ≠ 0) (hm : m ≤ 40) (hm0 : 0 < m) : m_power [rD p q, .int (-(m : Int))] s = .ok (rd (q ^ m) (p ^ m)) s := by
  refine run_rt ?_ rfl rfl
  have hw := within_t s (show (-400 : Int) ≤ -(m : Int) by omega) (show -(m : Int) ≤ 400 by omega)
  have hge : ¬ (0 : Int) ≤ -(m : Int) := by omega
  have hby : m_power_by [rD p q, .int (-(m : Int))] s = .ok (rd (q ^ m) (p ^ m)) s := by
    refine run_rt ?_ rfl rfl
    have hmd := made_eq (n := q ^ m) (d := p ^ m) s (Int.pow_ne_zero h0) (sm_le (sm_pow h.sq m) (by omega)) (sm_le (sm_pow h.sp m) (by omega))
    unfold mb_power_by
    simp only [rD, cst0, cst1, cst2, cst3, mSeq, mAsg, mPar, mRet, mOp, mVar, mC, mCons, mNil, mIfS, mB, mIf, mNeg, mNotV, mNot, mAnd, mOr, mAndV, mOrV, mCall, mNext, mExpr, mRetN, mRaise, gN, startR, mInt, mAbs, mLen, f1, f2, gInt, gAbs, gLen, mChain, D.sqO, D.lsO, mBreak, mIsi, D.kd, Kd.isi, List.map_cons, List.map_nil, List.length_cons, List.length_nil, Nat.reduceAdd, Nat.reduceSub, Nat.zero_add, List.reduceReplicate, List.replicate_zero, List.replicate_succ, List.cons_append, List.nil_append, List.append_nil, List.getElem?_cons_zero, List.getElem?_cons_succ, List.set_cons_zero, List.set_cons_succ, Res.bind_ok, Res.bind_err, Res.bind_bad, Res.st_ok, Res.st_err, Res.st_bad, SR.seq_nx, SR.seq_rt, SR.seq_ex, SR.seq_bk, SR.seq_ct, SR.seq_bad, r_add, r_sub, r_lt, r_le, r_gt, r_ge, r_eq, r_ne, r_eqB, r_neB, r_eqS, r_neS, r_ix0, r_ix1, if_true, if_false, ite_true, ite_false, Bool.false_eq_true, Bool.true_eq_false, Bool.not_true, Bool.not_false, decide_true, decide_false, reduceIte, reduceCtorEq, hge, Int.neg_neg, raised_eq s (sm_le h.sp (by decide)) (show m < 1024 by omega), raised_eq s (sm_le h.sq (by decide)) (show m < 1024 by omega), hmd]
  unfold mb_power
  have e0 : (p == 0) = false := by simpa using h0
  simp only [rD, cst0, cst1, cst2, cst3, mSeq, mAsg, mPar, mRet, mOp, mVar, mC, mCons, mNil, mIfS, mB, mIf, mNeg, mNotV, mNot, mAnd, mOr, mAndV, mOrV, mCall, mNext, mExpr, mRetN, mRaise, gN, startR, mInt, mAbs, mLen, f1, f2, gInt, gAbs, gLen, mChain, D.sqO, D.lsO, mBreak, mIsi, D.kd, Kd.isi, List.map_cons, List.map_nil, List.length_cons, List.length_nil, Nat.reduceAdd, Nat.reduceSub, Nat.zero_add, List.reduceReplicate, List.replicate_zero, List.replicate_succ, List.cons_append, List.nil_append, List.append_nil, List.getElem?_cons_zero, List.getElem?_cons_succ, List.set_cons_zero, List.set_cons_succ, Res.bind_ok, Res.bind_err, Res.bind_bad, Res.st_ok, Res.st_err, Res.st_bad, SR.seq_nx, SR.seq_rt, SR.seq_ex, SR.seq_bk, SR.seq_ct, SR.seq_bad, r_add, r_sub, r_lt, r_le, r_gt, r_ge, r_eq, r_ne, r_eqB, r_neB, r_eqS, r_neS, r_ix0, r_ix1, if_true, if_false, ite_true, ite_false, Bool.false_eq_true, Bool.true_eq_false, Bool.not_true, Bool.not_false, decide_true, decide_false, reduceIte, reduceCtorEq, checks1 h.rt, hw, check_t, e0, hby]
theorem power_0 {q : Int} {m : Nat} (s : Sto) (h : Rs 20 0 q) (hm : m ≤ 40) (hm0 : 0 < m) : m_power [rD 0 q, .int (-(m : Int))] s = .err "NoAnswer" s := by
  refine run_ex (r := [some (rD 0 q), some (.int (-(m : Int)))]) ?_ rfl
  have hw := within_t s (show (-400 : Int) ≤ -(m : Int) by omega) (show -(m : Int) ≤ 400 by omega)
  have hlt : -(m : Int) < 0 := by omega
  unfold mb_power
  have e0 : ((0 : Int) == 0) = true := rfl
  simp only [rD, cst0, cst1, cst2, cst3, mSeq, mAsg, mPar, mRet, mOp, mVar, mC, mCons, mNil, mIfS, mB, mIf, mNeg, mNotV, mNot, mAnd, mOr, mAndV, mOrV, mCall, mNext, mExpr, mRetN, mRaise, gN, startR, mInt, mAbs, mLen, f1, f2, gInt, gAbs, gLen, mChain, D.sqO, D.lsO, mBreak, mIsi, D.kd, Kd.isi, List.map_cons, List.map_nil, List.length_cons, List.length_nil, Nat.reduceAdd, Nat.reduceSub, Nat.zero_add, List.reduceReplicate, List.replicate_zero, List.replicate_succ, List.cons_append, List.nil_append, List.append_nil, List.getElem?_cons_zero, List.getElem?_cons_succ, List.set_cons_zero, List.set_cons_succ, Res.bind_ok, Res.bind_err, Res.bind_bad, Res.st_ok, Res.st_err, Res.st_bad, SR.seq_nx, SR.seq_rt, SR.seq_ex, SR.seq_bk, SR.seq_ct, SR.seq_bad, r_add, r_sub, r_lt, r_le, r_gt, r_ge, r_eq, r_ne, r_eqB, r_neB, r_eqS, r_neS, r_ix0, r_ix1, if_true, if_false, ite_true, ite_false, Bool.false_eq_true, Bool.true_eq_false, Bool.not_true, Bool.not_false, decide_true, decide_false, reduceIte, reduceCtorEq, checks1 h.rt, hw, check_t, e0, hlt]
theorem rdpow {p q : Int} {m : Nat} (h0 : p ≠ 0) : rd (q ^ m) (p ^ m) = rD (rdN q p ^ m) (rdD q p ^ m) := by
  refine rd_of (Int.pow_ne_zero h0) (rt_pow (rd_rt h0) m) ?_
  rw [← Int.mul_pow, ← Int.mul_pow, rd_cross h0]
end K00

set_option Elab.async false
set_option linter.all false
set_option maxRecDepth 100000
set_option maxHeartbeats 2000000
set_option exponentiation.threshold 20000
namespace K00
open PySem PySem.Spec PyProof.Rows L2 DL
/-! ### digits -/
open TL (tl numL)
/-- the last k digits -/
def padL : Nat → Nat → List Nat
  | 0, _ => []
  | k + 1, n => padL k (n / 10) ++ [48 + n % 10]
theorem padL_len : ∀ (k n : Nat), (padL k n).length = k
  | 0, _ => rfl
  | k + 1, n => by
    show (padL k (n / 10) ++ [48 + n % 10]).length = k + 1
    rw [List.length_append, padL_len k]
    rfl
theorem padL_zero : ∀ k : Nat, padL k 0 = List.replicate k 48
  | 0 => rfl
  | k + 1 => by
    show padL k 0 ++ [48] = _
    rw [padL_zero k, ← List.replicate_succ']
theorem numL_app : ∀ (k q r : Nat), 0 < q → r < 10 ^ k → numL (q * 10 ^ k + r) = numL q ++ padL k r
  | 0, q, r, _, hr => by
    have : r = 0 := by simpa using hr
    subst this
    show _ = numL q ++ []
    rw [List.append_nil, Nat.pow_zero, Nat.mul_one, Nat.add_zero]
  | k + 1, q, r, hq, hr => by
    have h1 : 1 ≤ q * 10 ^ k := Nat.mul_pos hq (Nat.pow_pos (by decide))
    have hr' : r / 10 < 10 ^ k := by rw [Nat.pow_succ] at hr; omega
    have e : q * 10 ^ (k + 1) + r = 10 * (q * 10 ^ k + r / 10) + r % 10 := by
      rw [Nat.pow_succ, ← Nat.mul_assoc]
      omega
    have hm : r % 10 < 10 := Nat.mod_lt _ (by decide)
    have e1 : (q * 10 ^ (k + 1) + r) / 10 = q * 10 ^ k + r / 10 := by omega
    have e2 : (q * 10 ^ (k + 1) + r) % 10 = r % 10 := by omega
    rw [show numL (q * 10 ^ (k + 1) + r) = _ from TL.numL_step (by omega), e1, e2]
    show numL (q * 10 ^ k + r / 10) ++ _ = numL q ++ (padL k (r / 10) ++ [48 + r % 10])
    rw [numL_app k q (r / 10) hq hr', List.append_assoc]
theorem padL_eq : ∀ (k n : Nat), n < 10 ^ k → 0 < k → padL k n = List.replicate (k - (numL n).length) 48 ++ numL n
  | 0, _, _, h => absurd h (Nat.lt_irrefl 0)
  | k + 1, n, hn, _ => by
    show padL k (n / 10) ++ [48 + n % 10] = _
    have hn' : n / 10 < 10 ^ k := by rw [Nat.pow_succ] at hn; omega
    by_cases h : n < 10
    · have e0 : n / 10 = 0 := by omega
      have e1 : n % 10 = n := by omega
      rw [e0, padL_zero, e1, show numL n = _ from TL.numL_lt h]
      simp
    · have hk : 0 < k := by
        rcases Nat.eq_zero_or_pos k with z | z
        · subst z; simp at hn; omega
        · exact z
      rw [padL_eq k (n / 10) hn' hk, show numL n = _ from TL.numL_step (by omega), List.length_append, List.length_singleton, ← List.append_assoc]
      congr 3
      omega
theorem numL_lenle {n k : Nat} (hk : 0 < k) (h : n < 10 ^ k) : (numL n).length ≤ k := TL.numL_len hk h
abbrev tx (n : Int) : Str := Str.ofString (toString n)
theorem tl_nat (n : Nat) : tl (tx (n : Int)) = numL n := TL.tl_num n
theorem ext {x y : Str} (h : tl x = tl y) : x = y := TL.ext_tl h
theorem tl_app (x y : Str) : tl (x ++ y) = tl x ++ tl y := TL.tl_append x y
theorem len_tl (x : Str) : x.length = (tl x).length := TL.len_tl x
theorem tl_0 : tl (Str.ofString "0") = [48] := by decide +kernel
theorem tl_m : tl (Str.ofString "-") = [45] := by decide +kernel
theorem tl_dot : tl (Str.ofString ".") = [46] := by decide +kernel
theorem tl_e : tl (Str.ofString "") = [] := by decide +kernel
theorem tl_neg (n : Nat) (h : 0 < n) : tl (tx (-(n : Int))) = 45 :: numL n := by
  obtain ⟨m, rfl⟩ : ∃ m, n = m + 1 := ⟨n - 1, by omega⟩
  show (Str.ofString (toString (-((m + 1 : Nat) : Int)))).cps.toList = _
  rw [signs_ofString]
  show (("-" ++ Nat.repr (m + 1)) : String).toList.map Char.toNat = _
  rw [String.toList_append, List.map_append, Nat.toList_repr]
  rfl
theorem tl_rep (n : Int) : tl (strRep "0" n) = List.replicate n.toNat 48 := by
  show ((List.replicate n.toNat (tl (Str.ofString "0"))).flatten.toArray).toList = _
  rw [tl_0]
  simp
end K00

set_option Elab.async false
set_option linter.all false
set_option maxRecDepth 100000
set_option maxHeartbeats 2000000
set_option exponentiation.threshold 20000
namespace K00
open PySem PySem.Spec PyProof.Rows L2 DL
open TL (tl numL)
/-! ### figures_of -/
theorem log2_lt {i : Int} (h : i.natAbs < 2 ^ 1900) : i.natAbs.log2 < 1920 := by
  by_cases h0 : i.natAbs = 0
  · rw [h0]; decide
  · exact Nat.lt_trans ((Nat.log2_lt h0).mpr h) (by decide)
theorem r_str {i : Int} {s : Sto} (h : i.natAbs < 2 ^ 1900) : gStr (.int i) s = .ok (.str (tx i)) s := by
  show (if i.natAbs.log2 < 1920 then _ else _) = _
  rw [if_pos (log2_lt h)]
theorem q_str {m : M1 D} {r : Ren} {s s1 : Sto} {i : Int} (h : m r s = .ok (.int i) s1) (hi : i.natAbs < 2 ^ 1900) : mStr m r s = .ok (.str (tx i)) s1 := by
  unfold mStr
  rw [q_call1 h]
  exact r_str hi
theorem get_end (s : Sto) (v : List D) : (s ++ [v])[s.length]? = some v := by simp
theorem set_end (s : Sto) (v u : List D) : (s ++ [v]).set s.length u = s ++ [u] := by simp
theorem q_app {m : M1 D} {r : Ren} {s0 : Sto} {fs : List D} {i : Nat} {y : D} (hi : r[i]? = some (some (.ml s0.length))) (h : m r (s0 ++ [fs]) = .ok y (s0 ++ [fs])) (hl : fs.length < sizeLine) (hy : y.nm = true) : mApp (mVar i) m r (s0 ++ [fs]) = .ok .non (s0 ++ [fs ++ [y]]) := by
  unfold mApp
  rw [q_var hi, Res.bind_ok]
  dsimp only
  rw [h, Res.bind_ok]
  rw [get_end]
  dsimp only
  rw [if_pos ⟨hl, hy⟩, set_end]
theorem q_op2 {f : Op2} {a b : M1 D} {r : Ren} {s s1 s2 : Sto} {x y : D} (ha : a r s = .ok x s1) (hb : b r s1 = .ok y s2) : mOp f a b r s = f x y s2 := by
  show (a r s).bind _ = _
  rw [ha, Res.bind_ok]
  show (b r s1).bind _ = _
  rw [hb]
  rfl
theorem q_asgN {m : M1 D} {i : Nat} {r : Ren} {s s1 : Sto} {d : D} (h : m r s = .ok d s1) : mAsg m (gN i) r s = .nx (r.set i (some d)) s1 := by
  show (m r s).st r _ = _
  rw [h]
  rfl
theorem q_exprN {m : M1 D} {r : Ren} {s s1 : Sto} {d : D} (h : m r s = .ok d s1) : mExpr m r s = .nx r s1 := by
  show (m r s).st r _ = _
  rw [h]
  rfl
theorem q_retN {m : M1 D} {r : Ren} {s s1 : Sto} {d : D} (h : m r s = .ok d s1) : mRet m r s = .rt d s1 := by
  show (m r s).st r _ = _
  rw [h]
  rfl
theorem q_augN {i : Nat} {f : Op2} {m : M1 D} {r : Ren} {s s1 s2 : Sto} {x y z : D} (hx : r[i]? = some (some x)) (hm : m r s = .ok y s1) (hf : f x y s1 = .ok z s2) : mAug i f m r s = .nx (r.set i (some z)) s2 := by
  unfold mAug
  rw [hx]
  dsimp only
  rw [hm, Res.st_ok, hf, Res.st_ok]
abbrev M18 : Int := 1000000000000000000
abbrev fgBody : MS := mSeq (mAsg (mStr (mOp opMod (mVar 2) (mC (.int M18)))) (gN 3))
  (mSeq (mExpr (mApp (mVar 1) (mOp opAdd (mOp opMul (mC (.str "0")) (mOp opSub (mC (.int 18)) (mLen (mVar 3)))) (mVar 3))))
  (mAug 2 opFdiv (mC (.int M18))))
theorem M18e : (10 : Nat) ^ 18 = 1000000000000000000 := by decide
theorem len_str {r : Ren} {s : Sto} {i : Nat} {z : Str} (h : r[i]? = some (some (.str z))) (hl : z.length ≤ sizeLine) : mLen (mVar i) r s = .ok (.int z.length) s := by
  unfold mLen
  rw [q_call1 (q_var h)]
  show (if z.length ≤ sizeLine then _ else _) = _
  rw [if_pos hl]
theorem small_size {n : Nat} (h : n ≤ 100000) : n ≤ sizeLine := Nat.le_trans h (by decide)
theorem fg_step {x p : Option D} {s0 : Sto} {fs : List D} {l : Nat} (hl : l < 2 ^ 1900) (hf : fs.length < 100000) :
    ∃ p', fgBody [x, some (.ml s0.length), some (.int (l : Int)), p] (s0 ++ [fs]) = .nx [x, some (.ml s0.length), some (.int ((l / 10 ^ 18 : Nat) : Int)), p'] (s0 ++ [fs ++ [.str ⟨(padL 18 (l % 10 ^ 18)).toArray⟩]]) := by
  have hm0 : M18 ≠ 0 := by decide
  have em : (l : Int).fmod M18 = ((l % 10 ^ 18 : Nat) : Int) := by
    rw [Int.fmod_eq_emod_of_nonneg _ (by decide), M18e]; rfl
  have ed : (l : Int).fdiv M18 = ((l / 10 ^ 18 : Nat) : Int) := by
    rw [Int.fdiv_eq_ediv_of_nonneg _ (by decide), M18e]; rfl
  have hr : l % 10 ^ 18 < 10 ^ 18 := Nat.mod_lt _ (by decide)
  generalize hq : l % 10 ^ 18 = q at *
  have hlen := numL_lenle (n := q) (k := 18) (by decide) hr
  have hzl : (tx (q : Int)).length = (numL q).length := by rw [len_tl, tl_nat]
  have hqs : ((q : Nat) : Int).natAbs < 2 ^ 1900 := by
    have : (10 : Nat) ^ 18 < 2 ^ 1900 := by decide
    simp only [Int.natAbs_natCast]
    omega
  refine ⟨some (.str (tx (q : Int))), ?_⟩
  have A1 : mAsg (mStr (mOp opMod (mVar 2) (mC (.int M18)))) (gN 3) [x, some (.ml s0.length), some (.int (l : Int)), p] (s0 ++ [fs]) = .nx [x, some (.ml s0.length), some (.int (l : Int)), some (.str (tx (q : Int)))] (s0 ++ [fs]) := by
    refine q_asgN (q_str (i := (q : Int)) ?_ hqs)
    rw [q_op2 (x := .int (l : Int)) (y := .int M18) (s1 := s0 ++ [fs]) (s2 := s0 ++ [fs]) rfl rfl, r_mod hm0, em]
  have B1 : mOp opAdd (mOp opMul (mC (.str "0")) (mOp opSub (mC (.int 18)) (mLen (mVar 3)))) (mVar 3) [x, some (.ml s0.length), some (.int (l : Int)), some (.str (tx (q : Int)))] (s0 ++ [fs]) = .ok (.str ⟨(padL 18 q).toArray⟩) (s0 ++ [fs]) := by
    have h1 : mLen (mVar 3) [x, some (.ml s0.length), some (.int (l : Int)), some (.str (tx (q : Int)))] (s0 ++ [fs]) = .ok (.int (numL q).length) (s0 ++ [fs]) := by
      rw [len_str (z := tx (q : Int)) rfl (small_size (by omega)), hzl]
    have h2 : mOp opSub (mC (.int 18)) (mLen (mVar 3)) [x, some (.ml s0.length), some (.int (l : Int)), some (.str (tx (q : Int)))] (s0 ++ [fs]) = .ok (.int (18 - (numL q).length)) (s0 ++ [fs]) := by
      rw [q_op2 (x := .int 18) (s1 := s0 ++ [fs]) rfl h1, r_sub]
    have hz0 : (Str.ofString "0").length = 1 := by rw [len_tl, tl_0]; rfl
    have h3 : mOp opMul (mC (.str "0")) (mOp opSub (mC (.int 18)) (mLen (mVar 3))) [x, some (.ml s0.length), some (.int (l : Int)), some (.str (tx (q : Int)))] (s0 ++ [fs]) = .ok (.str (strRep "0" (18 - (numL q).length))) (s0 ++ [fs]) := by
      rw [q_op2 (x := .str "0") (s1 := s0 ++ [fs]) rfl h2, r_mulS (by omega) (by omega) (by rw [hz0]; exact small_size (by omega))]
    have hrl : (strRep "0" (18 - ((numL q).length : Int))).length = 18 - (numL q).length := by
      rw [len_tl, tl_rep, List.length_replicate]; omega
    rw [q_op2 h3 (y := .str (tx (q : Int))) (s2 := s0 ++ [fs]) rfl, r_addS (by rw [hrl, hzl]; exact small_size (by omega))]
    congr 2
    refine ext ?_
    rw [tl_app, tl_rep, tl_nat]
    show _ = padL 18 q
    rw [padL_eq 18 q hr (by decide)]
    congr 2
    omega
  refine Eq.trans (seq_nx A1) (Eq.trans (seq_nx (q_exprN (q_app (i := 1) rfl B1 (Nat.lt_of_lt_of_le hf (by decide)) rfl))) ?_)
  have C1 : opFdiv (.int (l : Int)) (.int M18) (s0 ++ [fs ++ [.str ⟨(padL 18 q).toArray⟩]]) = .ok (.int ((l / 10 ^ 18 : Nat) : Int)) (s0 ++ [fs ++ [.str ⟨(padL 18 q).toArray⟩]]) := by
    rw [r_fdiv (cdiv hm0 (by decide)), ed]
  exact q_augN (i := 2) rfl rfl C1

theorem fg_loop {x : Option D} {s0 : Sto} : ∀ (j l : Nat) (fs : List D) (L : List (List Nat)) (p : Option D), l < 10 ^ (18 * (j + 1)) → j ≤ 29 → fs.length + j ≤ 60 → fs = L.map (fun a => D.str ⟨a.toArray⟩) → (∀ a ∈ L, a.length = 18) → ∃ (h : Nat) (L' : List (List Nat)) (p' : Option D),
    L'.length ≤ fs.length + j ∧ (∀ a ∈ L', a.length = 18) ∧ (numL l ++ L.reverse.flatten = numL h ++ L'.reverse.flatten) ∧ h < 10 ^ 18 ∧
      mWhile (mB (mOp opGe (mVar 2) (mC (.int M18)))) fgBody [x, some (.ml s0.length), some (.int (l : Int)), p] (s0 ++ [fs]) = .nx [x, some (.ml s0.length), some (.int (h : Int)), p'] (s0 ++ [L'.map fun a => D.str ⟨a.toArray⟩]) := by
  intro j
  induction j with
  | zero =>
    intro l fs L p hl hj hf hL h18
    refine ⟨l, L, p, ?_, h18, rfl, by simpa using hl, ?_⟩
    · rw [hL, List.length_map]; omega
    · rw [mWhile_eq, ← hL]
      have e : ¬ M18 ≤ (l : Int) := by
        have : l < 10 ^ 18 := by simpa using hl
        rw [M18e] at this
        show ¬ (1000000000000000000 : Int) ≤ (l : Int)
        omega
      have c : mB (mOp opGe (mVar 2) (mC (.int M18))) [x, some (.ml s0.length), some (.int (l : Int)), p] (s0 ++ [fs]) = .ok false (s0 ++ [fs]) := by
        refine q_B ?_
        rw [q_op2 (x := .int (l : Int)) (y := .int M18) (s1 := s0 ++ [fs]) (s2 := s0 ++ [fs]) rfl rfl, r_ge, decide_eq_false e]
      rw [c]
      rfl
  | succ j ih =>
    intro l fs L p hl hj hf hL h18
    by_cases e : M18 ≤ (l : Int)
    · have hq : 0 < l / 10 ^ 18 := by
        have e' : (1000000000000000000 : Int) ≤ (l : Int) := e
        rw [M18e]
        omega
      have hlt : l < 2 ^ 1900 := Nat.lt_of_lt_of_le hl (Nat.le_trans (Nat.pow_le_pow_right (by decide) (show 18 * (j + 1 + 1) ≤ 18 * 30 by omega)) (by decide))
      obtain ⟨p', hs⟩ := fg_step (x := x) (p := p) (s0 := s0) (fs := fs) hlt (by omega)
      have hl2 : l / 10 ^ 18 < 10 ^ (18 * (j + 1)) := by
        rw [Nat.div_lt_iff_lt_mul (Nat.pow_pos (by decide)), ← Nat.pow_add, show 18 * (j + 1) + 18 = 18 * (j + 1 + 1) from by omega]
        exact hl
      obtain ⟨h, L', p'', g1, g2, g3, g4, g5⟩ := ih (l / 10 ^ 18) (fs ++ [.str ⟨(padL 18 (l % 10 ^ 18)).toArray⟩]) (L ++ [padL 18 (l % 10 ^ 18)]) p' hl2 (by omega) (by rw [List.length_append, List.length_singleton]; omega) (by rw [hL, List.map_append]; rfl) (fun a ha => by
        rcases List.mem_append.mp ha with ha | ha
        · exact h18 a ha
        · rw [List.mem_singleton.mp ha, padL_len])
      refine ⟨h, L', p'', ?_, g2, ?_, g4, ?_⟩
      · rw [List.length_append, List.length_singleton] at g1; omega
      · rw [← g3, List.reverse_append, List.flatten_append]
        have := numL_app 18 (l / 10 ^ 18) (l % 10 ^ 18) hq (Nat.mod_lt _ (by decide))
        rw [Nat.mul_comm, Nat.div_add_mod] at this
        rw [this, List.append_assoc]
        simp
      · rw [mWhile_eq]
        have c : mB (mOp opGe (mVar 2) (mC (.int M18))) [x, some (.ml s0.length), some (.int (l : Int)), p] (s0 ++ [fs]) = .ok true (s0 ++ [fs]) := by
          refine q_B ?_
          rw [q_op2 (x := .int (l : Int)) (y := .int M18) (s1 := s0 ++ [fs]) (s2 := s0 ++ [fs]) rfl rfl, r_ge, decide_eq_true e]
        rw [c, Res.st_ok, if_pos rfl, hs]
        exact g5
    · refine ⟨l, L, p, ?_, h18, rfl, ?_, ?_⟩
      · rw [hL, List.length_map]; omega
      · rw [M18e]
        have e' : ¬ (1000000000000000000 : Int) ≤ (l : Int) := e
        omega
      · rw [mWhile_eq, ← hL]
        have c : mB (mOp opGe (mVar 2) (mC (.int M18))) [x, some (.ml s0.length), some (.int (l : Int)), p] (s0 ++ [fs]) = .ok false (s0 ++ [fs]) := by
          refine q_B ?_
          rw [q_op2 (x := .int (l : Int)) (y := .int M18) (s1 := s0 ++ [fs]) (s2 := s0 ++ [fs]) rfl rfl, r_ge, decide_eq_false e]
        rw [c]
        rfl
end K00

set_option Elab.async false
set_option linter.all false
set_option maxRecDepth 100000
set_option maxHeartbeats 2000000
set_option exponentiation.threshold 20000
namespace K00
open PySem PySem.Spec PyProof.Rows L2 DL
open TL (tl numL)
theorem run_rtA {n : Nat} {b : MS} {ds : List D} {s v : Sto} {d : D} (h : b (startR n ds) s = .rt d (s ++ v)) (hf : d.nm = true) : mFun n b ds s = .ok d s := by
  unfold mFun
  rw [h]
  dsimp only
  rw [frz_nm hf]
  dsimp only
  rw [List.take_left]
theorem joinL_nil : ∀ ps : List (List Nat), TL.joinL [] ps = ps.flatten
  | [] => rfl
  | [p] => by show p = _; simp
  | p :: q :: r => by
    show p ++ ([] ++ TL.joinL [] (q :: r)) = _
    rw [joinL_nil (q :: r), List.nil_append]
    rfl
theorem strsO_map : ∀ L : List (List Nat), strsO (L.map fun a => D.str ⟨a.toArray⟩) = some (L.map fun a => ⟨a.toArray⟩)
  | [] => rfl
  | a :: L => by
    show (strsO (L.map fun a => D.str ⟨a.toArray⟩)).map _ = _
    rw [strsO_map L]
    rfl
theorem sum18 : ∀ L : List (List Nat), (∀ a ∈ L, a.length = 18) → ((L.map fun a => (⟨a.toArray⟩ : Str)).map (·.length)).sum = 18 * L.length
  | [], _ => rfl
  | a :: L, h => by
    rw [List.map_cons, List.map_cons, List.sum_cons, sum18 L fun b hb => h b (List.mem_cons_of_mem _ hb), List.length_cons]
    have : (⟨a.toArray⟩ : Str).length = 18 := by
      show a.toArray.size = 18
      rw [List.size_toArray]
      exact h a List.mem_cons_self
    omega
theorem q_int {m : M1 D} {r : Ren} {s s1 : Sto} {b : Bool} (h : m r s = .ok (.bl b) s1) : mInt m r s = .ok (.int (if b then 1 else 0)) s1 := by
  unfold mInt
  rw [q_call1 h]
  rfl
theorem tl_repm (b : Bool) : tl (strRep "-" (if b then 1 else 0)) = if b then [45] else [] := by
  cases b
  · rfl
  · show ((List.replicate ((1 : Int)).toNat (tl (Str.ofString "-"))).flatten.toArray).toList = _
    rw [tl_m]
    rfl
theorem figures_eq {n : Int} (s : Sto) (hn : n.natAbs < 10 ^ 540) : m_figures_of [.int n] s = .ok (.str (tx n)) s := by
  obtain ⟨h, L', p', g1, g2, g3, g4, g5⟩ := fg_loop (x := some (.int n)) (s0 := s) 29 n.natAbs [] [] none hn (by decide) (by decide) rfl (fun a ha => nomatch ha)
  have hL : L'.length ≤ 29 := by simpa using g1
  generalize hFS : (L'.map fun a => D.str ⟨a.toArray⟩) = FS at g5
  refine run_rtA (v := [FS]) ?_ rfl
  unfold mb_figures_of
  have A0 : mPar 1 2 (mCons (mLstM mNil) (mCons (mAbs (mVar 0)) mNil)) (startR 4 [.int n]) s = .nx [some (.int n), some (.ml s.length), some (.int (n.natAbs : Int)), none] (s ++ [[]]) := by
    show SR.nx [some (.int n), some (.ml s.length), some (.int (if n < 0 then -n else n)), none] (s ++ [[]]) = _
    rw [absI]
  refine Eq.trans (seq_nx A0) (Eq.trans (seq_nx g5) ?_)
  refine q_retN ?_
  have B1 : mOp opMul (mC (.str "-")) (mInt (mOp opLt (mVar 0) (mC (.int 0)))) [some (.int n), some (.ml s.length), some (.int (h : Int)), p'] (s ++ [FS]) = .ok (.str (strRep "-" (if decide (n < 0) then 1 else 0))) (s ++ [FS]) := by
    have e1 : mInt (mOp opLt (mVar 0) (mC (.int 0))) [some (.int n), some (.ml s.length), some (.int (h : Int)), p'] (s ++ [FS]) = .ok (.int (if decide (n < 0) then 1 else 0)) (s ++ [FS]) := by
      refine q_int ?_
      rw [q_op2 (x := .int n) (y := .int 0) (s1 := s ++ [FS]) (s2 := s ++ [FS]) rfl rfl, r_lt]
    have hz0 : (Str.ofString "-").length = 1 := by rw [len_tl, tl_m]; rfl
    rw [q_op2 (x := .str "-") (s1 := s ++ [FS]) rfl e1]
    refine r_mulS ?_ ?_ ?_
    · split <;> decide
    · split <;> decide
    · rw [hz0]; refine small_size ?_; split <;> decide
  have hh : ((h : Nat) : Int).natAbs < 2 ^ 1900 := by
    have : (10 : Nat) ^ 18 < 2 ^ 1900 := by decide
    simp only [Int.natAbs_natCast]
    omega
  have l1 : (strRep "-" (if decide (n < 0) then 1 else 0)).length ≤ 1 := by
    rw [len_tl, tl_repm]
    split <;> decide
  have l2 : (tx (h : Int)).length ≤ 18 := by rw [len_tl, tl_nat]; exact numL_lenle (by decide) g4
  have B2 : mOp opAdd (mOp opMul (mC (.str "-")) (mInt (mOp opLt (mVar 0) (mC (.int 0))))) (mStr (mVar 2)) [some (.int n), some (.ml s.length), some (.int (h : Int)), p'] (s ++ [FS]) = .ok (.str (strRep "-" (if decide (n < 0) then 1 else 0) ++ tx (h : Int))) (s ++ [FS]) := by
    rw [q_op2 B1 (q_str (i := (h : Int)) (s1 := s ++ [FS]) rfl hh)]
    exact r_addS (small_size (by omega))
  have l3 : (strRep "-" (if decide (n < 0) then 1 else 0) ++ tx (h : Int)).length ≤ 19 := by
    rw [len_tl, tl_app, List.length_append, ← len_tl, ← len_tl]; omega
  have l4 : (Txt.join "" (L'.reverse.map fun a => (⟨a.toArray⟩ : Str))).length ≤ 522 := by
    rw [len_tl, TL.join_eq, TL.tl_join, show tl (Str.ofString "") = [] from tl_e, joinL_nil, List.map_map]
    have : ∀ M : List (List Nat), (∀ a ∈ M, a.length = 18) → ((M.map (tl ∘ fun a => (⟨a.toArray⟩ : Str))).flatten).length = 18 * M.length := by
      intro M
      induction M with
      | nil => intro _; rfl
      | cons a M ih =>
        intro hM
        rw [List.map_cons, List.flatten_cons, List.length_append, ih fun b hb => hM b (List.mem_cons_of_mem _ hb), List.length_cons]
        have : ((tl ∘ fun a => (⟨a.toArray⟩ : Str)) a).length = 18 := by
          show (a.toArray.toList).length = 18
          exact hM a List.mem_cons_self
        omega
    rw [this _ fun a ha => g2 a (List.mem_reverse.mp ha), List.length_reverse]
    omega
  have B3 : mJoin (mC (.str "")) (mRev (mVar 1)) [some (.int n), some (.ml s.length), some (.int (h : Int)), p'] (s ++ [FS]) = .ok (.str (Txt.join "" (L'.reverse.map fun a => ⟨a.toArray⟩))) (s ++ [FS]) := by
    have e1 : mRev (mVar 1) [some (.int n), some (.ml s.length), some (.int (h : Int)), p'] (s ++ [FS]) = .ok (.lst FS.reverse) (s ++ [FS]) := by
      show (match (s ++ [FS])[s.length]? with | some ds => Res.ok (D.lst ds.reverse) (s ++ [FS]) | none => .bad) = _
      rw [get_end]
    have e2 : strsO FS.reverse = some (L'.reverse.map fun a => ⟨a.toArray⟩) := by
      rw [← hFS, ← List.map_reverse, strsO_map]
    unfold mJoin
    rw [show mC (.str "") [some (.int n), some (.ml s.length), some (.int (h : Int)), p'] (s ++ [FS]) = .ok (.str "") (s ++ [FS]) from rfl, Res.bind_ok]
    dsimp only
    rw [e1, Res.bind_ok]
    show (match strsO FS.reverse with | some ys => _ | none => _) = _
    rw [e2]
    dsimp only
    rw [if_pos ?_]
    rw [sum18 _ fun a ha => g2 a (List.mem_reverse.mp ha), List.length_map, List.length_reverse, show (Str.ofString "").length = 0 from by rw [len_tl, tl_e]; rfl]
    omega
  rw [q_op2 B2 B3, r_addS (small_size (by omega))]
  congr 2
  refine ext ?_
  rw [tl_app, tl_app, tl_repm, tl_nat, TL.join_eq, TL.tl_join, show tl (Str.ofString "") = [] from tl_e, joinL_nil, List.map_map]
  have em : (L'.reverse.map (tl ∘ fun a => (⟨a.toArray⟩ : Str))) = L'.reverse := by
    have : (tl ∘ fun a : List Nat => (⟨a.toArray⟩ : Str)) = id := by funext a; rfl
    rw [this, List.map_id]
  rw [em, List.append_assoc, ← g3]
  simp only [List.reverse_nil, List.flatten_nil, List.append_nil]
  by_cases hneg : n < 0
  · have : n = -((n.natAbs : Nat) : Int) := by omega
    rw [if_pos (decide_eq_true hneg)]
    conv => rhs; rw [this]
    rw [tl_neg _ (by omega)]
    rfl
  · have : n = ((n.natAbs : Nat) : Int) := by omega
    rw [if_neg (by simpa using hneg)]
    conv => rhs; rw [this]
    rw [tl_nat]
    rfl
end K00

set_option Elab.async false
set_option linter.all false
set_option maxRecDepth 100000
set_option maxHeartbeats 2000000
set_option exponentiation.threshold 20000
namespace K00
open PySem PySem.Spec PyProof.Rows L2 DL
open TL (tl numL)
/-! ### shown -/
theorem sz {z : Str} {n : Nat} (h : z.length ≤ n) (hn : n ≤ 100000) : z.length ≤ sizeLine := small_size (by omega)
theorem tx_len {n : Int} {k : Nat} (hk : 0 < k) (h : n.natAbs < 10 ^ k) : (tx n).length ≤ k + 1 := by
  by_cases hn : n < 0
  · have e : n = -((n.natAbs : Nat) : Int) := by omega
    rw [e, len_tl, tl_neg _ (by omega), List.length_cons]
    have := numL_lenle hk h
    omega
  · have e : n = ((n.natAbs : Nat) : Int) := by omega
    rw [e, len_tl, tl_nat]
    have := numL_lenle hk h
    omega
def shownS (p q : Int) : Str := if q = 1 then tx p else tx p ++ "/" ++ tx q
theorem tl_sl : tl (Str.ofString "/") = [47] := by decide +kernel
theorem shown_eq {p q : Int} (s : Sto) (h : Rs 900 p q) (hp : p.natAbs < 10 ^ 500) (hq : q.natAbs < 10 ^ 500) : m_shown_ratio [rD p q] s = .ok (.str (shownS p q)) s := by
  refine run_rt ?_ rfl rfl
  have f1 := figures_eq (n := p) s (Nat.lt_of_lt_of_le hp (Nat.pow_le_pow_right (by decide) (by decide)))
  have f2 := figures_eq (n := q) s (Nat.lt_of_lt_of_le hq (Nat.pow_le_pow_right (by decide) (by decide)))
  have l1 := tx_len (k := 500) (by decide) hp
  have l2 := tx_len (k := 500) (by decide) hq
  have l3 : (Str.ofString "/").length = 1 := by rw [len_tl, tl_sl]; rfl
  have l4 : (tx p ++ "/").length ≤ 502 := by rw [len_tl, tl_app, List.length_append, ← len_tl, ← len_tl, l3]; omega
  unfold mb_shown_ratio shownS
  refine Eq.trans (seq_nx (q_exprN (d := .non) (s1 := s) ?_)) (q_retN ?_)
  · rw [q_call1 (d := rD p q) (s1 := s) rfl]
    exact checks1 h.rt s
  · have c : mB (mOp opEq (mOp opIx (mVar 0) (mC (.int 1))) (mC (.int 1))) (startR 1 [rD p q]) s = .ok (q == 1) s := by
      refine q_B ?_
      rw [q_op2 (x := .int q) (y := .int 1) (s1 := s) (s2 := s) rfl rfl, r_eq]
    show (Res.bind (mB _ _ s) _) = _
    rw [c, Res.bind_ok]
    have g1 : mCall m_figures_of (mCons (mOp opIx (mVar 0) (mC (.int 0))) mNil) (startR 1 [rD p q]) s = .ok (.str (tx p)) s := by
      rw [q_call1 (d := .int p) (s1 := s) rfl, f1]
    have g2 : mCall m_figures_of (mCons (mOp opIx (mVar 0) (mC (.int 1))) mNil) (startR 1 [rD p q]) s = .ok (.str (tx q)) s := by
      rw [q_call1 (d := .int q) (s1 := s) rfl, f2]
    by_cases e : q = 1
    · rw [if_pos e, if_pos (by simpa using e), g1]
    · rw [if_neg e, if_neg (by simpa using e)]
      have g3 : mOp opAdd (mCall m_figures_of (mCons (mOp opIx (mVar 0) (mC (.int 0))) mNil)) (mC (.str "/")) (startR 1 [rD p q]) s = .ok (.str (tx p ++ "/")) s := by
        rw [q_op2 g1 (y := .str "/") (s2 := s) rfl, r_addS (small_size (by omega))]
      rw [q_op2 g3 g2, r_addS (small_size (by omega))]
/-! ### decimals: the plain law -/
/-- the digits: at least one, then a point, then k -/
def decL (W k : Nat) : List Nat := numL (W / 10 ^ k) ++ [46] ++ padL k (W % 10 ^ k)
theorem fig_pad {W k : Nat} : List.replicate (k + 1 - (numL W).length) 48 ++ numL W = numL (W / 10 ^ k) ++ padL k (W % 10 ^ k) := by
  have hm : W % 10 ^ k < 10 ^ k := Nat.mod_lt _ (Nat.pow_pos (by decide))
  rcases Nat.eq_zero_or_pos (W / 10 ^ k) with h | h
  · have hW : W < 10 ^ k := by
      rcases Nat.lt_or_ge W (10 ^ k) with z | z
      · exact z
      · have := Nat.div_pos z (Nat.pow_pos (by decide)); omega
    rw [h, Nat.mod_eq_of_lt hW, show numL 0 = [48] from TL.numL_lt (by decide)]
    rcases Nat.eq_zero_or_pos k with hk | hk
    · subst hk
      have : W = 0 := by simpa using hW
      subst this
      rw [show numL 0 = [48] from TL.numL_lt (by decide)]
      rfl
    · have hl := numL_lenle hk hW
      rw [padL_eq k W hW hk, show k + 1 - (numL W).length = (k - (numL W).length) + 1 from by omega, List.replicate_succ]
      rfl
  · have e := numL_app k (W / 10 ^ k) (W % 10 ^ k) h hm
    rw [Nat.mul_comm, Nat.div_add_mod] at e
    have hl : k + 1 ≤ (numL W).length := by
      rw [e, List.length_append, padL_len]
      have : 0 < (numL (W / 10 ^ k)).length := List.length_pos_iff.mpr (TL.numL_ne _)
      omega
    rw [show k + 1 - (numL W).length = 0 from by omega, e]
    rfl
theorem pad_zero_iff : ∀ (k n : Nat), n < 10 ^ k → ((padL k n).filter (· != 48) = [] ↔ n = 0)
  | 0, n, h => by
    have : n = 0 := by simpa using h
    subst this
    exact ⟨fun _ => rfl, fun _ => rfl⟩
  | k + 1, n, h => by
    have h' : n / 10 < 10 ^ k := by rw [Nat.pow_succ] at h; omega
    have ih := pad_zero_iff k (n / 10) h'
    show (padL k (n / 10) ++ [48 + n % 10]).filter (· != 48) = [] ↔ _
    rw [List.filter_append, List.append_eq_nil_iff, ih]
    constructor
    · rintro ⟨h1, h2⟩
      by_cases h3 : n % 10 = 0
      · omega
      · have : ((48 + n % 10) != 48) = true := by simp [h3]
        rw [List.filter_cons_of_pos (p := fun x => x != 48) this] at h2
        cases h2
    · intro h0
      subst h0
      exact ⟨rfl, rfl⟩

/-! ### decimal_of -/
def decS (p q : Int) (k : Nat) : Str := (if p < 0 ∧ 0 < p.natAbs * 10 ^ k / q.natAbs then Str.ofString "-" else Str.ofString "") ++ (if k = 0 then (⟨(numL (p.natAbs * 10 ^ k / q.natAbs)).toArray⟩ : Str) else ⟨(decL (p.natAbs * 10 ^ k / q.natAbs) k).toArray⟩)
theorem r_max {i j : Int} {s : Sto} : gMax (.int i) (.int j) s = .ok (.int (if j > i then j else i)) s := rfl
theorem q_max {m m' : M1 D} {r : Ren} {s s1 s2 : Sto} {i j : Int} (h : m r s = .ok (.int i) s1) (h' : m' r s1 = .ok (.int j) s2) : mMax m m' r s = .ok (.int (if j > i then j else i)) s2 := by
  unfold mMax
  rw [q_call2 h h']
  rfl
theorem cut_hi {x : Str} {k : Nat} (hk : 0 < k) (hl : k ≤ (tl x).length) : tl (cutS x none (some (-(k : Int)))) = (tl x).take ((tl x).length - k) := by
  have e : x.length = (tl x).length := len_tl x
  show ((x.cps.toList.drop (HT.sIx x.length 0 none)).take (HT.sIx x.length x.length (some (-(k : Int))) - HT.sIx x.length 0 none)) = _
  have h1 : HT.sIx x.length 0 none = 0 := rfl
  have h2 : HT.sIx x.length x.length (some (-(k : Int))) = (tl x).length - k := by
    show (if -(k : Int) < 0 then (-(k : Int) + (x.length : Int)).toNat else _) = _
    rw [if_pos (by omega)]
    omega
  rw [h1, h2]
  rfl
theorem cut_lo {x : Str} {k : Nat} (hk : 0 < k) (hl : k ≤ (tl x).length) : tl (cutS x (some (-(k : Int))) none) = (tl x).drop ((tl x).length - k) := by
  have e : x.length = (tl x).length := len_tl x
  show ((x.cps.toList.drop (HT.sIx x.length 0 (some (-(k : Int))))).take (HT.sIx x.length x.length none - HT.sIx x.length 0 (some (-(k : Int))))) = _
  have h1 : HT.sIx x.length x.length none = x.length := rfl
  have h2 : HT.sIx x.length 0 (some (-(k : Int))) = (tl x).length - k := by
    show (if -(k : Int) < 0 then (-(k : Int) + (x.length : Int)).toNat else _) = _
    rw [if_pos (by omega)]
    omega
  rw [h1, h2, e]
  show List.take _ ((tl x).drop _) = _
  exact List.take_of_length_le (by rw [List.length_drop]; omega)
theorem q_sl {m : M1 D} {ml mh : M1 (Option Int)} {r : Ren} {s : Sto} {z : Str} {lo hi : Option Int} (h : m r s = .ok (.str z) s) (h1 : ml r s = .ok lo s) (h2 : mh r s = .ok hi s) (hz : z.length ≤ sizeLine) : mSl m ml mh r s = .ok (.str (cutS z lo hi)) s := by
  unfold mSl
  rw [h, Res.bind_ok, h1, Res.bind_ok, h2, Res.bind_ok]
  show (if z.length ≤ sizeLine then _ else _) = _
  rw [if_pos hz]
theorem q_fmtS {m : M1 D} {r : Ren} {s : Sto} {z : Str} (h : m r s = .ok (.str z) s) (hz : z.length ≤ sizeLine) : mFmt m r s = .ok (.str z) s := by
  unfold mFmt
  rw [h, Res.bind_ok]
  show (if z.length ≤ sizeLine then _ else _) = _
  rw [if_pos hz]
theorem q_js3 {m1 m2 m3 : M1 D} {r : Ren} {s : Sto} {a b c : Str} (h1 : m1 r s = .ok (.str a) s) (h2 : m2 r s = .ok (.str b) s) (h3 : m3 r s = .ok (.str c) s) (hz : a.length + b.length + c.length ≤ sizeLine) :
    mJs [m1, m2, m3] Str.empty r s = .ok (.str (a ++ b ++ c)) s := by
  have ea : Str.empty ++ a = a := ext (by rw [tl_app]; rfl)
  have l1 : (Str.empty ++ a).length ≤ sizeLine := by rw [ea]; omega
  have l2 : (a ++ b).length ≤ sizeLine := by rw [len_tl, tl_app, List.length_append, ← len_tl, ← len_tl]; omega
  have l3 : (a ++ b ++ c).length ≤ sizeLine := by rw [len_tl, tl_app, tl_app, List.length_append, List.length_append, ← len_tl, ← len_tl, ← len_tl]; omega
  unfold mJs
  rw [h1, Res.bind_ok]
  dsimp only
  rw [if_pos l1, ea]
  unfold mJs
  rw [h2, Res.bind_ok]
  dsimp only
  rw [if_pos l2]
  unfold mJs
  rw [h3, Res.bind_ok]
  dsimp only
  rw [if_pos l3]
  rfl
theorem decby_eq {p q : Int} {k : Nat} (s : Sto) (h : Rs 100 p q) (hk : k ≤ 100) : m_decimal_by [rD p q, .int k] s = .ok (.str (decS p q k)) s := by
  have hq := h.rt.pos
  generalize hW : p.natAbs * 10 ^ k / q.natAbs = W
  have hq1 : 1 ≤ q.natAbs := by omega
  have hWle : W ≤ p.natAbs * 10 ^ k := by rw [← hW]; exact Nat.div_le_self _ _
  have hp10 : p.natAbs < 10 ^ 100 := Nat.lt_of_lt_of_le h.sp (Nat.pow_le_pow_left (by decide) 100)
  have h10k : (10 : Nat) ^ k ≤ 10 ^ 100 := Nat.pow_le_pow_right (by decide) hk
  have hWb : W < 10 ^ 200 := by
    refine Nat.lt_of_le_of_lt hWle ?_
    calc p.natAbs * 10 ^ k ≤ p.natAbs * 10 ^ 100 := Nat.mul_le_mul_left _ h10k
      _ < 10 ^ 100 * 10 ^ 100 := Nat.mul_lt_mul_of_pos_right hp10 (Nat.pow_pos (by decide))
      _ = 10 ^ 200 := by rw [← Nat.pow_add]
  have hfig := figures_eq (n := (W : Int)) s (by
    simp only [Int.natAbs_natCast]
    exact Nat.lt_of_lt_of_le hWb (Nat.pow_le_pow_right (by decide) (by decide)))
  have hnl : (numL W).length ≤ 200 := numL_lenle (by decide) hWb
  have htx : (tx (W : Int)).length = (numL W).length := by rw [len_tl, tl_nat]
  have hra := raised_eq (a := 10) (n := k) s (by decide) (by omega)
  have hw1 : opMul (.int (p.natAbs : Int)) (.int (10 ^ k)) s = .ok (.int ((p.natAbs : Int) * 10 ^ k)) s := r_mulR (n := 100) (m := 4 * k + 1) h.sp (sm_pow (n := 4) (a := 10) (by decide) k) (by omega)
  have eW : ((p.natAbs : Int) * 10 ^ k).fdiv q = (W : Int) := by
    rw [Int.fdiv_eq_ediv_of_nonneg _ (by omega), ← hW]
    have e1 : q = ((q.natAbs : Nat) : Int) := by omega
    have e2 : (p.natAbs : Int) * 10 ^ k = ((p.natAbs * 10 ^ k : Nat) : Int) := by
      rw [Int.natCast_mul, Int.natCast_pow]; rfl
    conv => lhs; rw [e1, e2]
    rfl
  refine run_rt ?_ rfl rfl
  unfold mb_decimal_by
  have A1 : mAsg (mOp opFdiv (mOp opMul (mAbs (mOp opIx (mVar 0) (mC (.int 0)))) (mCall m_raised (mCons (mC (.int 10)) (mCons (mVar 1) mNil)))) (mOp opIx (mVar 0) (mC (.int 1)))) (gN 2) (startR 6 [rD p q, .int k]) s = .nx [some (rD p q), some (.int k), some (.int (W : Int)), none, none, none] s := by
    refine q_asgN (r := [some (rD p q), some (.int k), none, none, none, none]) ?_
    have b1 : mAbs (mOp opIx (mVar 0) (mC (.int 0))) [some (rD p q), some (.int k), none, none, none, none] s = .ok (.int (p.natAbs : Int)) s := by
      show Res.ok (D.int (if p < 0 then -p else p)) s = _
      rw [absI]
    have b2 : mCall m_raised (mCons (mC (.int 10)) (mCons (mVar 1) mNil)) [some (rD p q), some (.int k), none, none, none, none] s = .ok (.int (10 ^ k)) s := by
      rw [q_call2 (d := .int 10) (e := .int k) (s1 := s) (s2 := s) rfl rfl, hra]
    have b3 : mOp opMul (mAbs (mOp opIx (mVar 0) (mC (.int 0)))) (mCall m_raised (mCons (mC (.int 10)) (mCons (mVar 1) mNil))) [some (rD p q), some (.int k), none, none, none, none] s = .ok (.int ((p.natAbs : Int) * 10 ^ k)) s := by rw [q_op2 b1 b2, hw1]
    rw [q_op2 b3 (y := .int q) (s2 := s) rfl, r_fdiv (cdiv (by omega) (sm_le h.sq (by decide))), eW]
  have A2 : mAsg (mCall m_figures_of (mCons (mVar 2) mNil)) (gN 3) [some (rD p q), some (.int k), some (.int (W : Int)), none, none, none] s = .nx [some (rD p q), some (.int k), some (.int (W : Int)), some (.str (tx W)), none, none] s := by
    refine q_asgN ?_
    rw [q_call1 (d := .int (W : Int)) (s1 := s) rfl, hfig]
  have em : (if ((k : Int) + 1 - ((numL W).length : Int)) > 0 then ((k : Int) + 1 - ((numL W).length : Int)) else 0) = ((k + 1 - (numL W).length : Nat) : Int) := by split <;> omega
  have A3 : mAsg (mOp opAdd (mOp opMul (mC (.str "0")) (mMax (mC (.int 0)) (mOp opSub (mOp opAdd (mVar 1) (mC (.int 1))) (mLen (mVar 3))))) (mVar 3)) (gN 4) [some (rD p q), some (.int k), some (.int (W : Int)), some (.str (tx W)), none, none] s
      = .nx [some (rD p q), some (.int k), some (.int (W : Int)), some (.str (tx W)), some (.str (strRep "0" ((k + 1 - (numL W).length : Nat) : Int) ++ tx W)), none] s := by
    refine q_asgN ?_
    have b1 : mLen (mVar 3) [some (rD p q), some (.int k), some (.int (W : Int)), some (.str (tx W)), none, none] s = .ok (.int (numL W).length) s := by
      rw [len_str (z := tx (W : Int)) rfl (small_size (by omega)), htx]
    have b2 : mOp opSub (mOp opAdd (mVar 1) (mC (.int 1))) (mLen (mVar 3)) [some (rD p q), some (.int k), some (.int (W : Int)), some (.str (tx W)), none, none] s = .ok (.int ((k : Int) + 1 - ((numL W).length : Int))) s := by
      rw [q_op2 (x := .int ((k : Int) + 1)) (s1 := s) rfl b1, r_sub]
    have b3 : mMax (mC (.int 0)) (mOp opSub (mOp opAdd (mVar 1) (mC (.int 1))) (mLen (mVar 3))) [some (rD p q), some (.int k), some (.int (W : Int)), some (.str (tx W)), none, none] s = .ok (.int ((k + 1 - (numL W).length : Nat) : Int)) s := by
      rw [q_max (i := 0) (s1 := s) rfl b2, em]
    have hz0 : (Str.ofString "0").length = 1 := by rw [len_tl, tl_0]; rfl
    have b4 : mOp opMul (mC (.str "0")) (mMax (mC (.int 0)) (mOp opSub (mOp opAdd (mVar 1) (mC (.int 1))) (mLen (mVar 3)))) [some (rD p q), some (.int k), some (.int (W : Int)), some (.str (tx W)), none, none] s = .ok (.str (strRep "0" ((k + 1 - (numL W).length : Nat) : Int))) s := by
      rw [q_op2 (x := .str "0") (s1 := s) rfl b3, r_mulS (by omega) (by omega) (by rw [hz0]; exact small_size (by omega))]
    have l1 : (strRep "0" ((k + 1 - (numL W).length : Nat) : Int)).length ≤ 101 := by rw [len_tl, tl_rep, List.length_replicate]; omega
    rw [q_op2 b4 (y := .str (tx W)) (s2 := s) rfl, r_addS (small_size (by omega))]
  generalize hFG : (strRep "0" ((k + 1 - (numL W).length : Nat) : Int) ++ tx W) = FG at A3
  have tFG : tl FG = numL (W / 10 ^ k) ++ padL k (W % 10 ^ k) := by
    rw [← hFG, tl_app, tl_rep, tl_nat, Int.toNat_natCast, fig_pad]
  have lFG : FG.length = (numL (W / 10 ^ k)).length + k := by rw [len_tl, tFG, List.length_append, padL_len]
  have lF : (numL (W / 10 ^ k)).length ≤ 200 := numL_lenle (by decide) (Nat.lt_of_le_of_lt (Nat.div_le_self _ _) hWb)
  have A4 : mAsg (mIf (mAnd (mB (mOp opLt (mOp opIx (mVar 0) (mC (.int 0))) (mC (.int 0)))) (mB (mOp opGt (mVar 2) (mC (.int 0))))) (mC (.str "-")) (mC (.str ""))) (gN 5) [some (rD p q), some (.int k), some (.int (W : Int)), some (.str (tx W)), some (.str FG), none] s
      = .nx [some (rD p q), some (.int k), some (.int (W : Int)), some (.str (tx W)), some (.str FG), some (.str (if p < 0 ∧ 0 < W then Str.ofString "-" else Str.ofString ""))] s := by
    refine q_asgN ?_
    have c1 : mB (mOp opLt (mOp opIx (mVar 0) (mC (.int 0))) (mC (.int 0))) [some (rD p q), some (.int k), some (.int (W : Int)), some (.str (tx W)), some (.str FG), none] s = .ok (decide (p < 0)) s := by
      refine q_B ?_
      rw [q_op2 (x := .int p) (y := .int 0) (s1 := s) (s2 := s) rfl rfl, r_lt]
    have c2 : mB (mOp opGt (mVar 2) (mC (.int 0))) [some (rD p q), some (.int k), some (.int (W : Int)), some (.str (tx W)), some (.str FG), none] s = .ok (decide (0 < W)) s := by
      refine q_B ?_
      rw [q_op2 (x := .int (W : Int)) (y := .int 0) (s1 := s) (s2 := s) rfl rfl, r_gt]
      simp
    show (Res.bind (Res.bind (mB _ _ s) _) _) = _
    rw [c1, Res.bind_ok]
    by_cases e1 : p < 0
    · rw [if_pos (decide_eq_true e1), c2, Res.bind_ok]
      by_cases e2 : 0 < W
      · rw [if_pos (decide_eq_true e2), if_pos ⟨e1, e2⟩]; rfl
      · rw [if_neg (by simpa using e2), if_neg (fun z => e2 z.2)]; rfl
    · rw [if_neg (by simpa using e1), Res.bind_ok, if_neg (by decide), if_neg (fun z => e1 z.1)]; rfl
  refine Eq.trans (seq_nx A1) (Eq.trans (seq_nx A2) (Eq.trans (seq_nx A3) (Eq.trans (seq_nx A4) (q_retN ?_))))
  have lsg : (if p < 0 ∧ 0 < W then Str.ofString "-" else Str.ofString "").length ≤ 1 := by
    split
    · rw [len_tl, tl_m]; decide
    · rw [len_tl, tl_e]; decide
  generalize hSG : (if p < 0 ∧ 0 < W then Str.ofString "-" else Str.ofString "") = SG at lsg
  have cK : mB (mOp opEq (mVar 1) (mC (.int 0))) [some (rD p q), some (.int k), some (.int (W : Int)), some (.str (tx W)), some (.str FG), some (.str SG)] s = .ok ((k : Int) == 0) s := by
    refine q_B ?_
    rw [q_op2 (x := .int (k : Int)) (y := .int 0) (s1 := s) (s2 := s) rfl rfl, r_eq]
  have hres : decS p q k = SG ++ (if k = 0 then (⟨(numL W).toArray⟩ : Str) else ⟨(decL W k).toArray⟩) := by
    unfold decS
    rw [hW, hSG]
  rw [hres]
  by_cases hk0 : k = 0
  · have B : mIf (mB (mOp opEq (mVar 1) (mC (.int 0)))) (mVar 4) (mJs [(mFmt (mSl (mVar 4) pN (pS (mNeg (mVar 1))))), (mC (.str ".")), (mFmt (mSl (mVar 4) (pS (mNeg (mVar 1))) pN))] Str.empty) [some (rD p q), some (.int k), some (.int (W : Int)), some (.str (tx W)), some (.str FG), some (.str SG)] s = .ok (.str FG) s := by
      show (Res.bind (mB _ _ s) _) = _
      rw [cK, Res.bind_ok, if_pos (by rw [hk0]; rfl)]
      rfl
    rw [q_op2 (x := .str SG) (s1 := s) rfl B, r_addS (small_size (by omega)), if_pos hk0]
    congr 2
    have : FG = ⟨(numL W).toArray⟩ := ext (by
      rw [tFG, hk0]
      show numL (W / 1) ++ [] = numL W
      rw [Nat.div_one, List.append_nil])
    rw [this]
  · have hk1 : 0 < k := by omega
    have hkl : k ≤ (tl FG).length := by rw [tFG, List.length_append, padL_len]; omega
    have b1 : mNeg (mVar 1) [some (rD p q), some (.int k), some (.int (W : Int)), some (.str (tx W)), some (.str FG), some (.str SG)] s = .ok (.int (-(k : Int))) s := rfl
    have b2 : pS (mNeg (mVar 1)) [some (rD p q), some (.int k), some (.int (W : Int)), some (.str (tx W)), some (.str FG), some (.str SG)] s = .ok (some (-(k : Int))) s := rfl
    have t1 : tl (cutS FG none (some (-(k : Int)))) = numL (W / 10 ^ k) := by
      rw [cut_hi hk1 hkl, tFG, List.length_append, padL_len, Nat.add_sub_cancel, List.take_left]
    have t2 : tl (cutS FG (some (-(k : Int))) none) = padL k (W % 10 ^ k) := by
      rw [cut_lo hk1 hkl, tFG, List.length_append, padL_len, Nat.add_sub_cancel, List.drop_left]
    have n1 : (cutS FG none (some (-(k : Int)))).length ≤ 200 := by rw [len_tl, t1]; exact lF
    have n2 : (cutS FG (some (-(k : Int))) none).length ≤ 100 := by rw [len_tl, t2, padL_len]; exact hk
    have n3 : (Str.ofString ".").length = 1 := by rw [len_tl, tl_dot]; rfl
    have f1 := q_fmtS (q_sl (m := mVar 4) (ml := pN) (z := FG) (s := s) (r := [some (rD p q), some (.int k), some (.int (W : Int)), some (.str (tx W)), some (.str FG), some (.str SG)]) rfl rfl b2 (small_size (by omega))) (small_size (by omega))
    have f2 := q_fmtS (q_sl (m := mVar 4) (mh := pN) (z := FG) (s := s) (r := [some (rD p q), some (.int k), some (.int (W : Int)), some (.str (tx W)), some (.str FG), some (.str SG)]) rfl b2 rfl (small_size (by omega))) (small_size (by omega))
    have B : mIf (mB (mOp opEq (mVar 1) (mC (.int 0)))) (mVar 4) (mJs [(mFmt (mSl (mVar 4) pN (pS (mNeg (mVar 1))))), (mC (.str ".")), (mFmt (mSl (mVar 4) (pS (mNeg (mVar 1))) pN))] Str.empty) [some (rD p q), some (.int k), some (.int (W : Int)), some (.str (tx W)), some (.str FG), some (.str SG)] s = .ok (.str (cutS FG none (some (-(k : Int))) ++ "." ++ cutS FG (some (-(k : Int))) none)) s := by
      show (Res.bind (mB _ _ s) _) = _
      rw [cK, Res.bind_ok, if_neg (by simp; omega)]
      exact q_js3 f1 rfl f2 (small_size (by omega))
    have lB : (cutS FG none (some (-(k : Int))) ++ "." ++ cutS FG (some (-(k : Int))) none).length ≤ 301 := by
      rw [len_tl, tl_app, tl_app, List.length_append, List.length_append, ← len_tl, ← len_tl, ← len_tl]; omega
    rw [q_op2 (x := .str SG) (s1 := s) rfl B, r_addS (small_size (by omega)), if_neg hk0]
    congr 2
    refine ext ?_
    rw [tl_app, tl_app, tl_app, tl_app, t1, t2, tl_dot]
    rfl
theorem decof_eq {p q : Int} {k : Nat} (s : Sto) (h : Rs 100 p q) (hk : k ≤ 100) : m_decimal_of [rD p q, .int k] s = .ok (.str (decS p q k)) s := by
  refine run_rt ?_ rfl rfl
  unfold mb_decimal_of
  have hb := decby_eq s h hk
  simp only [rD, cst0, cst1, cst2, cst3, mSeq, mAsg, mPar, mRet, mOp, mVar, mC, mCons, mNil, mIfS, mB, mIf, mNeg, mNotV, mNot, mAnd, mOr, mAndV, mOrV, mCall, mNext, mExpr, mRetN, mRaise, gN, startR, mInt, mAbs, mLen, f1, f2, gInt, gAbs, gLen, mChain, D.sqO, D.lsO, mBreak, mIsi, D.kd, Kd.isi, List.map_cons, List.map_nil, List.length_cons, List.length_nil, Nat.reduceAdd, Nat.reduceSub, Nat.zero_add, List.reduceReplicate, List.replicate_zero, List.replicate_succ, List.cons_append, List.nil_append, List.append_nil, List.getElem?_cons_zero, List.getElem?_cons_succ, List.set_cons_zero, List.set_cons_succ, Res.bind_ok, Res.bind_err, Res.bind_bad, Res.st_ok, Res.st_err, Res.st_bad, SR.seq_nx, SR.seq_rt, SR.seq_ex, SR.seq_bk, SR.seq_ct, SR.seq_bad, r_add, r_sub, r_lt, r_le, r_gt, r_ge, r_eq, r_ne, r_eqB, r_neB, r_eqS, r_neS, r_ix0, r_ix1, if_true, if_false, ite_true, ite_false, Bool.false_eq_true, Bool.true_eq_false, Bool.not_true, Bool.not_false, decide_true, decide_false, reduceIte, reduceCtorEq, checks1 h.rt, within_t s (Int.natCast_nonneg k) (show (k : Int) ≤ 400 by omega), check_t, hb]
end K00

set_option Elab.async false
set_option linter.all false
set_option maxRecDepth 100000
set_option maxHeartbeats 2000000
set_option exponentiation.threshold 20000
namespace K00
open PySem PySem.Spec PyProof.Rows L2 DL
open TL (tl numL)
/-! ### _law_decimal -/
abbrev ldBody : MS := mSeq (mAsg (mOp opMul (mVar 4) (mC (.int 10))) (gN 4))
  (mPar 5 4 (mCons (mOp opAdd (mVar 5) (mStr (mOp opFdiv (mVar 4) (mOp opIx (mVar 0) (mC (.int 1)))))) (mCons (mOp opMod (mInt (mVar 4)) (mOp opIx (mVar 0) (mC (.int 1)))) mNil)))
def padS (i n : Nat) : Str := ⟨(padL i n).toArray⟩
theorem tl_padS (i n : Nat) : tl (padS i n) = padL i n := rfl
theorem padS_len (i n : Nat) : (padS i n).length = i := by rw [len_tl, tl_padS, padL_len]
theorem q_par {i j : Nat} {m m' : M1 D} {r : Ren} {s s1 s2 : Sto} {x y : D} (h : m r s = .ok x s1) (h' : m' r s1 = .ok y s2) : mPar i j (mCons m (mCons m' mNil)) r s = .nx ((r.set i (some x)).set j (some y)) s2 := by
  unfold mPar
  have e : mCons m (mCons m' mNil) r s = .ok [x, y] s2 := by
    show ((m r s).bind fun d s1 => (mCons m' mNil r s1).bind fun ds s2 => Res.ok (d :: ds) s2) = _
    rw [h, Res.bind_ok, q_cons1 h']
    rfl
  rw [e]
  rfl
theorem dig_step {r0 Q i : Nat} (hQ : 0 < Q) : (r0 * 10 ^ (i + 1)) / Q = 10 * ((r0 * 10 ^ i) / Q) + ((r0 * 10 ^ i) % Q * 10) / Q ∧ (r0 * 10 ^ (i + 1)) % Q = ((r0 * 10 ^ i) % Q * 10) % Q := by
  have e : r0 * 10 ^ (i + 1) = Q * (10 * ((r0 * 10 ^ i) / Q)) + (r0 * 10 ^ i) % Q * 10 := by
    have h := Nat.div_add_mod (r0 * 10 ^ i) Q
    generalize (r0 * 10 ^ i) / Q = A at *
    generalize hR : (r0 * 10 ^ i) % Q = R at *
    rw [Nat.pow_succ, ← Nat.mul_assoc, ← h, Nat.add_mul]
    congr 1
    rw [Nat.mul_assoc, Nat.mul_comm A 10]
  constructor
  · rw [e, Nat.mul_add_div hQ]
  · rw [e, Nat.mul_add_mod]
theorem ld_loop {p q : Int} {b c d e : Option D} {s : Sto} {all : List D} (hq : 0 < q) (hqs : Sm 100 q) (r0 : Nat) (hr : r0 < q.natAbs) : ∀ (ds : List D) (i : Nat) (t : Option D), i + ds.length ≤ 100 → ∃ t',
    loopF none all (gN 6) ldBody ds [some (rD p q), b, c, d, some (.int ((r0 * 10 ^ i % q.natAbs : Nat) : Int)), some (.str (padS i (r0 * 10 ^ i / q.natAbs))), t, e] s
      = .nx [some (rD p q), b, c, d, some (.int ((r0 * 10 ^ (i + ds.length) % q.natAbs : Nat) : Int)), some (.str (padS (i + ds.length) (r0 * 10 ^ (i + ds.length) / q.natAbs))), t', e] s
  | [], i, t, _ => ⟨t, by rw [loopF_nil]; rfl⟩
  | x :: ds, i, t, hl => by
    rw [List.length_cons] at hl
    obtain ⟨t', ht⟩ := ld_loop (p := p) (b := b) (c := c) (d := d) (e := e) (all := all) (s := s) hq hqs r0 hr ds (i + 1) (some x) (by omega)
    refine ⟨t', ?_⟩
    have hQ : 0 < q.natAbs := by omega
    obtain ⟨e1, e2⟩ := dig_step (r0 := r0) (Q := q.natAbs) (i := i) hQ
    have hR : r0 * 10 ^ i % q.natAbs < q.natAbs := Nat.mod_lt _ hQ
    generalize hRe : r0 * 10 ^ i % q.natAbs = R at *
    generalize hAe : r0 * 10 ^ i / q.natAbs = A at *
    have hd : R * 10 / q.natAbs < 10 := by
      rw [Nat.div_lt_iff_lt_mul hQ]
      omega
    generalize hde : R * 10 / q.natAbs = dg at *
    rw [e1, e2] at ht
    have hq0 : q ≠ 0 := by omega
    have qe : q = ((q.natAbs : Nat) : Int) := by omega
    have m1 : opMul (.int (R : Int)) (.int 10) s = .ok (.int ((R * 10 : Nat) : Int)) s := by
      rw [r_mulR (n := 100) (m := 4) (Nat.lt_trans (by simpa using hR) hqs) (by decide) (by decide)]
      rw [Int.natCast_mul]
      rfl
    have d1 : opFdiv (.int ((R * 10 : Nat) : Int)) (.int q) s = .ok (.int (dg : Int)) s := by
      rw [r_fdiv (cdiv hq0 (sm_le hqs (by decide))), Int.fdiv_eq_ediv_of_nonneg _ (by omega), ← hde]
      conv => lhs; rw [qe]
      rfl
    have d2 : opMod (.int ((R * 10 : Nat) : Int)) (.int q) s = .ok (.int ((R * 10 % q.natAbs : Nat) : Int)) s := by
      rw [r_mod hq0, Int.fmod_eq_emod_of_nonneg _ (by omega)]
      conv => lhs; rw [qe]
      rfl
    have hds : ((dg : Nat) : Int).natAbs < 2 ^ 1900 := by
      have : 10 ≤ 2 ^ 1900 := Nat.le_trans (by decide : 10 ≤ 2 ^ 4) (Nat.pow_le_pow_right (by decide) (by decide))
      simp only [Int.natAbs_natCast]
      omega
    have htl : tl (tx (dg : Int)) = [48 + dg] := by rw [tl_nat, show numL dg = _ from TL.numL_lt hd]
    have hln : (tx (dg : Int)).length = 1 := by rw [len_tl, htl]; rfl
    rw [loopF_cons]
    have S1 : mAsg (mOp opMul (mVar 4) (mC (.int 10))) (gN 4) [some (rD p q), b, c, d, some (.int (R : Int)), some (.str (padS i A)), some x, e] s = .nx [some (rD p q), b, c, d, some (.int ((R * 10 : Nat) : Int)), some (.str (padS i A)), some x, e] s := by
      refine q_asgN ?_
      rw [q_op2 (x := .int (R : Int)) (y := .int 10) (s1 := s) (s2 := s) rfl rfl, m1]
    have b1 : mOp opFdiv (mVar 4) (mOp opIx (mVar 0) (mC (.int 1))) [some (rD p q), b, c, d, some (.int ((R * 10 : Nat) : Int)), some (.str (padS i A)), some x, e] s = .ok (.int (dg : Int)) s := by
      rw [q_op2 (x := .int ((R * 10 : Nat) : Int)) (y := .int q) (s1 := s) (s2 := s) rfl rfl, d1]
    have b2 : mOp opAdd (mVar 5) (mStr (mOp opFdiv (mVar 4) (mOp opIx (mVar 0) (mC (.int 1))))) [some (rD p q), b, c, d, some (.int ((R * 10 : Nat) : Int)), some (.str (padS i A)), some x, e] s = .ok (.str (padS i A ++ tx (dg : Int))) s := by
      rw [q_op2 (x := .str (padS i A)) (s1 := s) rfl (q_str b1 hds), r_addS (by rw [padS_len, hln]; exact small_size (by omega))]
    have b3 : mOp opMod (mInt (mVar 4)) (mOp opIx (mVar 0) (mC (.int 1))) [some (rD p q), b, c, d, some (.int ((R * 10 : Nat) : Int)), some (.str (padS i A)), some x, e] s = .ok (.int ((R * 10 % q.natAbs : Nat) : Int)) s := by
      rw [q_op2 (x := .int ((R * 10 : Nat) : Int)) (y := .int q) (s1 := s) (s2 := s) rfl rfl, d2]
    have pe : padS i A ++ tx (dg : Int) = padS (i + 1) (10 * A + dg) := by
      refine ext ?_
      rw [tl_app, htl, tl_padS, tl_padS]
      show _ = padL i ((10 * A + dg) / 10) ++ [48 + (10 * A + dg) % 10]
      rw [show (10 * A + dg) / 10 = A from by omega, show (10 * A + dg) % 10 = dg from by omega]
    have S2 := Eq.trans (seq_nx (n2 := mPar 5 4 (mCons (mOp opAdd (mVar 5) (mStr (mOp opFdiv (mVar 4) (mOp opIx (mVar 0) (mC (.int 1)))))) (mCons (mOp opMod (mInt (mVar 4)) (mOp opIx (mVar 0) (mC (.int 1)))) mNil))) S1) (q_par (i := 5) (j := 4) b2 b3)
    rw [pe] at S2
    have S3 : ldBody [some (rD p q), b, c, d, some (.int (R : Int)), some (.str (padS i A)), some x, e] s = .nx [some (rD p q), b, c, d, some (.int ((R * 10 % q.natAbs : Nat) : Int)), some (.str (padS (i + 1) (10 * A + dg))), some x, e] s := S2
    rw [show ([some (rD p q), b, c, d, some (.int (R : Int)), some (.str (padS i A)), t, e] : Ren).set 6 (some x) = [some (rD p q), b, c, d, some (.int (R : Int)), some (.str (padS i A)), some x, e] from rfl, S3, show i + (x :: ds).length = i + 1 + ds.length from by rw [List.length_cons]; omega]
    dsimp only
    exact ht
def lawdec (p q : Int) (k : Nat) : Str := (if p < 0 ∧ ¬ (p.natAbs / q.natAbs = 0 ∧ p.natAbs % q.natAbs * 10 ^ k / q.natAbs = 0) then Str.ofString "-" else Str.ofString "") ++ tx ((p.natAbs / q.natAbs : Nat) : Int) ++ "." ++ padS k (p.natAbs % q.natAbs * 10 ^ k / q.natAbs)
theorem dec_same {p q : Int} {k : Nat} (hq : 0 < q) (hk : 0 < k) : lawdec p q k = decS p q k := by
  have hQ : 0 < q.natAbs := by omega
  generalize hQe : q.natAbs = Q at *
  unfold lawdec decS
  rw [hQe]
  generalize hF : p.natAbs / Q = F
  generalize hr : p.natAbs % Q = r0
  have hr0 : r0 < Q := by rw [← hr]; exact Nat.mod_lt _ hQ
  have hW : p.natAbs * 10 ^ k / Q = F * 10 ^ k + r0 * 10 ^ k / Q := by
    have h := Nat.div_add_mod p.natAbs Q
    rw [hF, hr] at h
    rw [← h, Nat.add_mul, Nat.mul_assoc, Nat.mul_add_div hQ]
  have hB : r0 * 10 ^ k / Q < 10 ^ k := by
    rw [Nat.div_lt_iff_lt_mul hQ, Nat.mul_comm (10 ^ k)]
    exact Nat.mul_lt_mul_of_pos_right hr0 (Nat.pow_pos (by decide))
  generalize r0 * 10 ^ k / Q = B at *
  have p10 : 0 < 10 ^ k := Nat.pow_pos (by decide)
  have e1 : (F * 10 ^ k + B) / 10 ^ k = F := by
    rw [Nat.mul_comm, Nat.mul_add_div p10, Nat.div_eq_of_lt hB, Nat.add_zero]
  have e2 : (F * 10 ^ k + B) % 10 ^ k = B := by
    rw [Nat.mul_comm, Nat.mul_add_mod, Nat.mod_eq_of_lt hB]
  have e3 : (0 < F * 10 ^ k + B) ↔ ¬ (F = 0 ∧ B = 0) := by
    constructor
    · rintro h ⟨h1, h2⟩
      subst h1 h2
      simp at h
    · intro h
      rcases Nat.eq_zero_or_pos F with z | z
      · have : 0 < B := by omega
        omega
      · have := Nat.mul_pos z p10
        omega
  rw [hW, if_neg (show ¬ k = 0 by omega)]
  refine ext ?_
  rw [tl_app, tl_app, tl_app, tl_app, tl_nat, tl_dot, tl_padS]
  have e4 : (p < 0 ∧ ¬ (F = 0 ∧ B = 0)) = (p < 0 ∧ 0 < F * 10 ^ k + B) := by rw [← e3]
  simp only [e4]
  have e5 : tl (⟨(decL (F * 10 ^ k + B) k).toArray⟩ : Str) = numL F ++ [46] ++ padL k B := by
    show decL (F * 10 ^ k + B) k = _
    unfold decL
    rw [e1, e2]
  rw [e5, List.append_assoc, List.append_assoc, List.append_assoc]
end K00

set_option Elab.async false
set_option linter.all false
set_option maxRecDepth 100000
set_option maxHeartbeats 2000000
set_option exponentiation.threshold 20000
namespace K00
open PySem PySem.Spec PyProof.Rows L2 DL
open TL (tl numL)
theorem str_beq {a b : Str} : (a == b) = decide (tl a = tl b) := by
  by_cases h : a = b
  · subst h
    simp
  · have h1 : ¬ tl a = tl b := fun z => h (ext z)
    rw [decide_eq_false h1]
    simpa using h
theorem numL0 (F : Nat) : (numL F = [48]) ↔ F = 0 := by
  constructor
  · intro h
    exact TL.numL_inj (h.trans (show [48] = numL 0 from (TL.numL_lt (n := 0) (by decide)).symm))
  · intro h
    subst h
    exact TL.numL_lt (n := 0) (by decide)
theorem q_repl {m : M1 D} {r : Ren} {s s1 : Sto} {x y z : Str} (h : m r s = .ok (.str x) s1) (hz : x.length + (x.length + 1) * z.length ≤ 16777216) : mRepl m y z r s = .ok (.str (Txt.replace x y z)) s1 := by
  unfold mRepl
  rw [h, Res.bind_ok]
  dsimp only
  rw [if_pos hz]
theorem lawdec_eq {p q : Int} {k : Nat} (s : Sto) (h : Rs 100 p q) (hk : k ≤ 100) : m__law_decimal [rD p q, .int k] s = .ok (.str (lawdec p q k)) s := by
  have hq := h.rt.pos
  have hq0 : q ≠ 0 := by omega
  have hQ : 0 < q.natAbs := by omega
  have qe : q = ((q.natAbs : Nat) : Int) := by omega
  have hp10 : p.natAbs < 10 ^ 100 := Nat.lt_of_lt_of_le h.sp (Nat.pow_le_pow_left (by decide) 100)
  have hr0 : p.natAbs % q.natAbs < q.natAbs := Nat.mod_lt _ hQ
  have hFle : p.natAbs / q.natAbs ≤ p.natAbs := Nat.div_le_self _ _
  have eF : ((p.natAbs : Int)).fdiv q = ((p.natAbs / q.natAbs : Nat) : Int) := by
    rw [Int.fdiv_eq_ediv_of_nonneg _ (by omega)]
    conv => lhs; rw [qe]
    rfl
  have eR : ((p.natAbs : Int)).fmod q = ((p.natAbs % q.natAbs : Nat) : Int) := by
    rw [Int.fmod_eq_emod_of_nonneg _ (by omega)]
    conv => lhs; rw [qe]
    rfl
  obtain ⟨t', hl⟩ := ld_loop (p := p) (b := some (.int k)) (c := some (.int (p.natAbs : Int))) (d := some (.str (tx ((p.natAbs / q.natAbs : Nat) : Int)))) (e := none) (all := rngD 0 k) (s := s) hq h.sq (p.natAbs % q.natAbs) hr0 (rngD 0 k) 0 none (by rw [rngD_len]; omega)
  rw [rngD_len, Nat.zero_add, Nat.pow_zero, Nat.mul_one, Nat.mod_eq_of_lt hr0, Nat.div_eq_of_lt hr0] at hl
  unfold lawdec
  have hB : p.natAbs % q.natAbs * 10 ^ k / q.natAbs < 10 ^ k := by
    rw [Nat.div_lt_iff_lt_mul hQ, Nat.mul_comm (10 ^ k)]
    exact Nat.mul_lt_mul_of_pos_right hr0 (Nat.pow_pos (by decide))
  generalize hFe : p.natAbs / q.natAbs = F at *
  generalize hRe : p.natAbs % q.natAbs = r0 at *
  generalize hBe : r0 * 10 ^ k / q.natAbs = B at *
  generalize r0 * 10 ^ k % q.natAbs = RR at *
  have hFs : ((F : Nat) : Int).natAbs < 2 ^ 1900 := by
    simp only [Int.natAbs_natCast]
    exact Nat.lt_of_le_of_lt hFle (Nat.lt_trans h.sp (Nat.pow_lt_pow_right (by decide) (by decide)))
  have lF : (tx (F : Int)).length ≤ 100 := by rw [len_tl, tl_nat]; exact numL_lenle (by decide) (Nat.lt_of_le_of_lt hFle hp10)
  refine run_rt ?_ rfl rfl
  unfold mb__law_decimal
  have A1 : mAsg (mAbs (mOp opIx (mVar 0) (mC (.int 0)))) (gN 2) (startR 8 [rD p q, .int k]) s = .nx [some (rD p q), some (.int k), some (.int (p.natAbs : Int)), none, none, none, none, none] s := by
    refine q_asgN (r := [some (rD p q), some (.int k), none, none, none, none, none, none]) ?_
    show Res.ok (D.int (if p < 0 then -p else p)) s = _
    rw [absI]
  have b1 : mOp opFdiv (mVar 2) (mOp opIx (mVar 0) (mC (.int 1))) [some (rD p q), some (.int k), some (.int (p.natAbs : Int)), none, none, none, none, none] s = .ok (.int (F : Int)) s := by
    rw [q_op2 (x := .int (p.natAbs : Int)) (y := .int q) (s1 := s) (s2 := s) rfl rfl, r_fdiv (cdiv hq0 (sm_le h.sq (by decide))), eF]
  have b2 : mOp opMod (mInt (mVar 2)) (mOp opIx (mVar 0) (mC (.int 1))) [some (rD p q), some (.int k), some (.int (p.natAbs : Int)), none, none, none, none, none] s = .ok (.int (r0 : Int)) s := by
    rw [q_op2 (x := .int (p.natAbs : Int)) (y := .int q) (s1 := s) (s2 := s) rfl rfl, r_mod hq0, eR]
  have A2 := q_par (i := 3) (j := 4) (q_str b1 hFs) b2
  have A3 : mAsg (mC (.str "")) (gN 5) [some (rD p q), some (.int k), some (.int (p.natAbs : Int)), some (.str (tx (F : Int))), some (.int (r0 : Int)), none, none, none] s = .nx [some (rD p q), some (.int k), some (.int (p.natAbs : Int)), some (.str (tx (F : Int))), some (.int (r0 : Int)), some (.str (padS 0 0)), none, none] s := by
    rw [show padS 0 0 = Str.ofString "" from ext (by rw [tl_e]; rfl)]
    rfl
  have hv : mVar 1 [some (rD p q), some (.int k), some (.int (p.natAbs : Int)), some (.str (tx (F : Int))), some (.int (r0 : Int)), some (.str (padS 0 0)), none, none] s = .ok (.int (k : Nat)) s := rfl
  have A4 := (mFor_len (i := 6) (body := ldBody) hv (by omega)).trans hl
  have c1 : mOp opEq (mVar 3) (mC (.str "0")) [some (rD p q), some (.int k), some (.int (p.natAbs : Int)), some (.str (tx (F : Int))), some (.int (RR : Int)), some (.str (padS k B)), t', none] s = .ok (.bl (decide (F = 0))) s := by
    rw [q_op2 (x := .str (tx (F : Int))) (y := .str "0") (s1 := s) (s2 := s) rfl rfl, r_eqS, str_beq, tl_nat, tl_0]
    simp only [numL0]
  have hr1 : Str.ofString "0" = ⟨#[48]⟩ := ext (by rw [tl_0])
  have hr2 : Str.ofString "" = ⟨#[]⟩ := ext (by rw [tl_e])
  have c2 : mOp opEq (mRepl (mVar 5) "0" "") (mC (.str "")) [some (rD p q), some (.int k), some (.int (p.natAbs : Int)), some (.str (tx (F : Int))), some (.int (RR : Int)), some (.str (padS k B)), t', none] s = .ok (.bl (decide (B = 0))) s := by
    have hz : (Str.ofString "").length = 0 := by rw [len_tl, tl_e]; rfl
    rw [q_op2 (q_repl (m := mVar 5) (y := "0") (z := "") (x := padS k B) (s1 := s) rfl (by rw [padS_len, hz]; omega)) (y := .str "") (s2 := s) rfl, r_eqS, str_beq, tl_e, hr1, hr2]
    rw [show tl (Txt.replace (padS k B) ⟨#[48]⟩ ⟨#[]⟩) = (padL k B).filter (· != 48) from replace_strikes _ _]
    simp only [pad_zero_iff k B hB]
  have A5 : mAsg (mAndV (mOp opEq (mVar 3) (mC (.str "0"))) (mOp opEq (mRepl (mVar 5) "0" "") (mC (.str "")))) (gN 7) [some (rD p q), some (.int k), some (.int (p.natAbs : Int)), some (.str (tx (F : Int))), some (.int (RR : Int)), some (.str (padS k B)), t', none] s
      = .nx [some (rD p q), some (.int k), some (.int (p.natAbs : Int)), some (.str (tx (F : Int))), some (.int (RR : Int)), some (.str (padS k B)), t', some (.bl (decide (F = 0 ∧ B = 0)))] s := by
    refine q_asgN ?_
    unfold mAndV
    rw [c1, Res.bind_ok]
    by_cases e : F = 0
    · rw [show decide (F = 0) = true from decide_eq_true e]
      dsimp only
      rw [c2]
      simp [e]
    · rw [show decide (F = 0) = false from decide_eq_false e]
      simp [e]
  refine Eq.trans (seq_nx A1) (Eq.trans (seq_nx A2) (Eq.trans (seq_nx A3) (Eq.trans (seq_nx A4) (Eq.trans (seq_nx A5) (q_retN ?_)))))
  generalize hNN : decide (F = 0 ∧ B = 0) = NN
  have B1 : mIf (mAnd (mB (mOp opLt (mOp opIx (mVar 0) (mC (.int 0))) (mC (.int 0)))) (mNot (mB (mVar 7)))) (mC (.str "-")) (mC (.str "")) [some (rD p q), some (.int k), some (.int (p.natAbs : Int)), some (.str (tx (F : Int))), some (.int (RR : Int)), some (.str (padS k B)), t', some (.bl NN)] s = .ok (.str (if p < 0 ∧ ¬ (F = 0 ∧ B = 0) then Str.ofString "-" else Str.ofString "")) s := by
    have d1 : mB (mOp opLt (mOp opIx (mVar 0) (mC (.int 0))) (mC (.int 0))) [some (rD p q), some (.int k), some (.int (p.natAbs : Int)), some (.str (tx (F : Int))), some (.int (RR : Int)), some (.str (padS k B)), t', some (.bl NN)] s = .ok (decide (p < 0)) s := by
      refine q_B ?_
      rw [q_op2 (x := .int p) (y := .int 0) (s1 := s) (s2 := s) rfl rfl, r_lt]
    have d2 : mNot (mB (mVar 7)) [some (rD p q), some (.int k), some (.int (p.natAbs : Int)), some (.str (tx (F : Int))), some (.int (RR : Int)), some (.str (padS k B)), t', some (.bl NN)] s = .ok (!NN) s := rfl
    show (Res.bind (Res.bind (mB _ _ s) _) _) = _
    rw [d1, Res.bind_ok]
    by_cases e1 : p < 0
    · rw [if_pos (decide_eq_true e1), d2, Res.bind_ok]
      by_cases e2 : F = 0 ∧ B = 0
      · rw [← hNN, decide_eq_true e2, if_neg (by decide), if_neg (fun z => z.2 e2)] <;> rfl
      · rw [← hNN, decide_eq_false e2, if_pos (by decide), if_pos ⟨e1, e2⟩] <;> rfl
    · rw [if_neg (by simpa using e1), Res.bind_ok, if_neg (by decide), if_neg (fun z => e1 z.1)]; rfl
  have lsg : (if p < 0 ∧ ¬ (F = 0 ∧ B = 0) then Str.ofString "-" else Str.ofString "").length ≤ 1 := by
    split
    · rw [len_tl, tl_m]; decide
    · rw [len_tl, tl_e]; decide
  generalize (if p < 0 ∧ ¬ (F = 0 ∧ B = 0) then Str.ofString "-" else Str.ofString "") = SG at *
  have n3 : (Str.ofString ".").length = 1 := by rw [len_tl, tl_dot]; rfl
  have n4 : (SG ++ tx (F : Int)).length ≤ 101 := by rw [len_tl, tl_app, List.length_append, ← len_tl, ← len_tl]; omega
  have n5 : (SG ++ tx (F : Int) ++ ".").length ≤ 102 := by rw [len_tl, tl_app, List.length_append, ← len_tl, ← len_tl]; omega
  have B2 := (q_op2 (f := opAdd) B1 (b := mVar 3) (y := .str (tx (F : Int))) (s2 := s) rfl).trans (r_addS (small_size (by omega)))
  have B3 := (q_op2 (f := opAdd) B2 (b := mC (.str ".")) (y := .str ".") (s2 := s) rfl).trans (r_addS (small_size (by omega)))
  rw [q_op2 B3 (y := .str (padS k B)) (s2 := s) rfl, r_addS (by rw [padS_len]; exact small_size (by omega))]
end K00

set_option Elab.async false
set_option linter.all false
set_option maxRecDepth 100000
set_option maxHeartbeats 2000000
set_option exponentiation.threshold 20000
namespace K00
open PySem PySem.Spec PyProof.Rows L2 DL
/-! ### the whole root -/
theorem amgm (a b : Nat) : 4 * (a * b) ≤ (a + b) * (a + b) := by
  rcases Nat.le_total a b with h | h
  · obtain ⟨c, rfl⟩ := Nat.exists_eq_add_of_le h
    have h1 := Nat.mul_comm a c
    simp only [Nat.add_mul, Nat.mul_add]
    have : 0 ≤ c * c := Nat.zero_le _
    omega
  · obtain ⟨c, rfl⟩ := Nat.exists_eq_add_of_le h
    have h1 := Nat.mul_comm b c
    simp only [Nat.add_mul, Nat.mul_add]
    have : 0 ≤ c * c := Nat.zero_le _
    omega
theorem newton {n f : Nat} (hf : 0 < f) (hn : 0 < n) : 0 < (f + n / f) / 2 ∧ n < ((f + n / f) / 2 + 1) * ((f + n / f) / 2 + 1) := by
  generalize hg : (f + n / f) / 2 = g
  generalize hm : n / f = m at *
  have h1 : n < f * (m + 1) := by rw [← hm]; exact Nat.lt_mul_div_succ n hf
  have h2 := amgm f (m + 1)
  constructor
  · rcases Nat.lt_or_ge f 2 with h | h
    · have : f = 1 := by omega
      subst this
      rw [Nat.div_one] at hm
      omega
    · omega
  · have h3 : f + (m + 1) ≤ 2 * (g + 1) := by omega
    have h4 := Nat.mul_le_mul h3 h3
    have h5 : 2 * (g + 1) * (2 * (g + 1)) = 4 * ((g + 1) * (g + 1)) := by
      rw [Nat.mul_mul_mul_comm]
    omega
theorem newton_stop {n f : Nat} (hf : 0 < f) (h : f ≤ (f + n / f) / 2) : f * f ≤ n := by
  have h1 : f ≤ n / f := by omega
  exact (Nat.le_div_iff_mul_le hf).mp h1
noncomputable abbrev ruBody : MS := mSeq (mAsg (mOp opFdiv (mOp opAdd (mOp opMul (mOp opSub (mVar 1) (mC (.int 1))) (mVar 2)) (mOp opFdiv (mVar 0) (mCall m_raised (mCons (mVar 2) (mCons (mOp opSub (mVar 1) (mC (.int 1))) mNil))))) (mVar 1)) (gN 3))
  (mSeq (mIfS (mB (mOp opGe (mVar 3) (mVar 2))) (mRet (mVar 2)) mNext)
  (mAsg (mVar 3) (gN 2)))
theorem root_loop {n : Nat} {s : Sto} (hn : 0 < n) : ∀ (j f : Nat) (t : Option D), f < j → 0 < f → n < (f + 1) * (f + 1) → f ≤ 2 ^ 500 → ∃ r : Nat, r * r ≤ n ∧ n < (r + 1) * (r + 1) ∧
    mWhile (mB (mC (.bl true))) ruBody [some (.int (n : Int)), some (.int 2), some (.int (f : Int)), t] s = .rt (.int (r : Int)) s
  | 0, f, t, h, _, _, _ => absurd h (Nat.not_lt_zero _)
  | j + 1, f, t, hj, hf, hi, hb => by
    have hs : Sm 600 (f : Int) := by
      have h1 : (2 : Nat) ^ 500 < 2 ^ 600 := Nat.pow_lt_pow_right (by decide) (by decide)
      show ((f : Int)).natAbs < 2 ^ 600
      rw [Int.natAbs_natCast]
      omega
    have hf0 : (f : Int) ≠ 0 := by omega
    have hra := raised_eq (a := (f : Int)) (n := 1) s (sm_le hs (by decide)) (by decide)
    rw [Int.pow_one] at hra
    have m1 : opMul (.int 1) (.int (f : Int)) s = .ok (.int (f : Int)) s := by
      rw [r_mulR (n := 2) (m := 600) (by decide) hs (by decide), Int.one_mul]
    have d1 : opFdiv (.int (n : Int)) (.int (f : Int)) s = .ok (.int ((n / f : Nat) : Int)) s := by
      rw [r_fdiv (cdiv hf0 (sm_le hs (by decide))), Int.fdiv_eq_ediv_of_nonneg _ (by omega)]
      rfl
    have d2 : opFdiv (.int ((f : Int) + ((n / f : Nat) : Int))) (.int 2) s = .ok (.int (((f + n / f) / 2 : Nat) : Int)) s := by
      rw [r_fdiv (cdiv (by decide) (by decide)), Int.fdiv_eq_ediv_of_nonneg _ (by decide)]
      rfl
    have b0 : mOp opSub (mVar 1) (mC (.int 1)) [some (.int (n : Int)), some (.int 2), some (.int (f : Int)), t] s = .ok (.int 1) s := rfl
    have b1 : mOp opMul (mOp opSub (mVar 1) (mC (.int 1))) (mVar 2) [some (.int (n : Int)), some (.int 2), some (.int (f : Int)), t] s = .ok (.int (f : Int)) s := by
      rw [q_op2 b0 (y := .int (f : Int)) (s2 := s) rfl, m1]
    have b2 : mCall m_raised (mCons (mVar 2) (mCons (mOp opSub (mVar 1) (mC (.int 1))) mNil)) [some (.int (n : Int)), some (.int 2), some (.int (f : Int)), t] s = .ok (.int (f : Int)) s := by
      rw [q_call2 (d := .int (f : Int)) (s1 := s) rfl b0]
      exact hra
    have b3 : mOp opFdiv (mVar 0) (mCall m_raised (mCons (mVar 2) (mCons (mOp opSub (mVar 1) (mC (.int 1))) mNil))) [some (.int (n : Int)), some (.int 2), some (.int (f : Int)), t] s = .ok (.int ((n / f : Nat) : Int)) s := by
      rw [q_op2 (x := .int (n : Int)) (s1 := s) rfl b2, d1]
    have b4 : mOp opAdd (mOp opMul (mOp opSub (mVar 1) (mC (.int 1))) (mVar 2)) (mOp opFdiv (mVar 0) (mCall m_raised (mCons (mVar 2) (mCons (mOp opSub (mVar 1) (mC (.int 1))) mNil)))) [some (.int (n : Int)), some (.int 2), some (.int (f : Int)), t] s = .ok (.int ((f : Int) + ((n / f : Nat) : Int))) s := by
      rw [q_op2 b1 b3, r_add]
    have b5 : mOp opFdiv (mOp opAdd (mOp opMul (mOp opSub (mVar 1) (mC (.int 1))) (mVar 2)) (mOp opFdiv (mVar 0) (mCall m_raised (mCons (mVar 2) (mCons (mOp opSub (mVar 1) (mC (.int 1))) mNil))))) (mVar 1) [some (.int (n : Int)), some (.int 2), some (.int (f : Int)), t] s = .ok (.int (((f + n / f) / 2 : Nat) : Int)) s := by
      rw [q_op2 b4 (y := .int 2) (s2 := s) rfl, d2]
    obtain ⟨g1, g2⟩ := newton (n := n) hf hn
    have g3 := newton_stop (n := n) hf
    generalize hge : (f + n / f) / 2 = g at *
    have c1 : mB (mOp opGe (mVar 3) (mVar 2)) [some (.int (n : Int)), some (.int 2), some (.int (f : Int)), some (.int (g : Int))] s = .ok (decide ((f : Int) ≤ (g : Int))) s := by
      refine q_B ?_
      rw [q_op2 (x := .int (g : Int)) (y := .int (f : Int)) (s1 := s) (s2 := s) rfl rfl, r_ge]
    rw [mWhile_eq, show mB (mC (.bl true)) [some (.int (n : Int)), some (.int 2), some (.int (f : Int)), t] s = .ok true s from rfl, Res.st_ok, if_pos rfl]
    by_cases e : f ≤ g
    · refine ⟨f, g3 e, hi, ?_⟩
      have hb2 : ruBody [some (.int (n : Int)), some (.int 2), some (.int (f : Int)), t] s = .rt (.int (f : Int)) s := by
        refine Eq.trans (seq_nx (q_asgN b5)) (seq_rt ?_)
        refine Eq.trans (if_t (s1 := s) ?_) (q_retN (s1 := s) rfl)
        refine c1.trans ?_
        rw [decide_eq_true (by omega)]
      rw [hb2]
    · obtain ⟨r, h1, h2, h3⟩ := root_loop hn j g (some (.int (g : Int))) (by omega) g1 g2 (by omega)
      refine ⟨r, h1, h2, ?_⟩
      have hb2 : ruBody [some (.int (n : Int)), some (.int 2), some (.int (f : Int)), t] s = .nx [some (.int (n : Int)), some (.int 2), some (.int (g : Int)), some (.int (g : Int))] s := by
        refine Eq.trans (seq_nx (q_asgN b5)) (Eq.trans (seq_nx (r1 := [some (.int (n : Int)), some (.int 2), some (.int (f : Int)), some (.int (g : Int))]) (s1 := s) ?_) ?_)
        · refine Eq.trans (if_f (s1 := s) ?_) rfl
          refine c1.trans ?_
          rw [decide_eq_false (by omega)]
        · exact q_asgN (i := 2) (r := [some (.int (n : Int)), some (.int 2), some (.int (f : Int)), some (.int (g : Int))]) (d := .int (g : Int)) rfl
      rw [hb2]
      exact h3
theorem root_eq {n : Nat} (s : Sto) (hn : n < 2 ^ 1000) : ∃ r : Nat, r * r ≤ n ∧ n < (r + 1) * (r + 1) ∧ m_root_under [.int (n : Int), .int 2] s = .ok (.int (r : Int)) s := by
  by_cases h0 : n = 0
  · subst h0
    refine ⟨0, by decide, by decide, run_rt ?_ rfl rfl⟩
    unfold mb_root_under
    exact seq_rt rfl
  · have hpos : 0 < n := by omega
    generalize hbe : Builtin.Int.intBits (n : Int) = bts
    have hb1 : n < 2 ^ bts := by
      rw [← hbe]
      unfold Builtin.Int.intBits
      rw [if_neg (by simpa using h0)]
      exact Nat.lt_log2_self
    have hb2 : bts ≤ 1000 := by rw [← hbe]; exact bits_le (by simpa using hn)
    have ec : -((-(bts : Int)).fdiv 2) = (((bts + 1) / 2 : Nat) : Int) := by
      rw [Int.fdiv_eq_ediv_of_nonneg _ (by decide)]
      omega
    generalize hce : (bts + 1) / 2 = c at *
    have hc : c ≤ 500 := by omega
    have hf0 : n < (2 ^ c + 1) * (2 ^ c + 1) := by
      have h1 : 2 ^ bts ≤ 2 ^ (c + c) := Nat.pow_le_pow_right (by decide) (by omega)
      rw [Nat.pow_add] at h1
      have h2 : 2 ^ c * 2 ^ c ≤ (2 ^ c + 1) * (2 ^ c + 1) := Nat.mul_le_mul (by omega) (by omega)
      omega
    obtain ⟨r, h1, h2, h3⟩ := root_loop (n := n) (s := s) hpos (2 ^ c + 1) (2 ^ c) none (by omega) (Nat.pow_pos (by decide)) hf0 (Nat.pow_le_pow_right (by decide) hc)
    refine ⟨r, h1, h2, run_rt ?_ rfl rfl⟩
    unfold mb_root_under
    have A0 : mIfS (mB (mOp opEq (mVar 0) (mC (.int 0)))) (mRet (mC (.int 0))) mNext (startR 4 [.int (n : Int), .int 2]) s = .nx [some (.int (n : Int)), some (.int 2), none, none] s := by
      refine Eq.trans (if_f (s1 := s) ?_) rfl
      refine q_B ?_
      rw [q_op2 (x := .int (n : Int)) (y := .int 0) (s1 := s) (s2 := s) rfl rfl, r_eq]
      have : ((n : Int) == 0) = false := by simpa using h0
      rw [this]
    have b1 : mNeg (mBits (mVar 0)) [some (.int (n : Int)), some (.int 2), none, none] s = .ok (.int (-(bts : Int))) s := by
      rw [← hbe]
      rfl
    have b2 : mNeg (mOp opFdiv (mNeg (mBits (mVar 0))) (mVar 1)) [some (.int (n : Int)), some (.int 2), none, none] s = .ok (.int (c : Int)) s := by
      rw [← ec]
      refine q_neg ?_
      rw [q_op2 b1 (y := .int 2) (s2 := s) rfl, r_fdiv (cdiv (by decide) (by decide))]
    have b3 : opShl (.int 1) (.int (c : Int)) s = .ok (.int ((2 ^ c : Nat) : Int)) s := by
      rw [r_shl (cshl (n := 1) (by decide) (by omega)), Int.toNat_natCast, Int.one_mul, Int.natCast_pow]
      rfl
    have A1 : mAsg (mOp opShl (mC (.int 1)) (mNeg (mOp opFdiv (mNeg (mBits (mVar 0))) (mVar 1)))) (gN 2) [some (.int (n : Int)), some (.int 2), none, none] s = .nx [some (.int (n : Int)), some (.int 2), some (.int ((2 ^ c : Nat) : Int)), none] s := by
      refine q_asgN ?_
      rw [q_op2 (x := .int 1) (s1 := s) rfl b2, b3]
    exact Eq.trans (seq_nx A0) (Eq.trans (seq_nx A1) h3)
theorem least_eq {n : Nat} (s : Sto) (hn : n < 2 ^ 1000) : ∃ r : Nat, r * r ≤ n ∧ n < (r + 1) * (r + 1) ∧ m_least_square [.int (n : Int)] s = .ok (.int (r : Int)) s := by
  obtain ⟨r, h1, h2, h3⟩ := root_eq s hn
  refine ⟨r, h1, h2, run_rt ?_ rfl rfl⟩
  have hge : (0 : Int) ≤ (n : Int) := by omega
  unfold mb_least_square
  simp only [rD, cst0, cst1, cst2, cst3, mSeq, mAsg, mPar, mRet, mOp, mVar, mC, mCons, mNil, mIfS, mB, mIf, mNeg, mNotV, mNot, mAnd, mOr, mAndV, mOrV, mCall, mNext, mExpr, mRetN, mRaise, gN, startR, mInt, mAbs, mLen, f1, f2, gInt, gAbs, gLen, mChain, D.sqO, D.lsO, mBreak, mIsi, D.kd, Kd.isi, List.map_cons, List.map_nil, List.length_cons, List.length_nil, Nat.reduceAdd, Nat.reduceSub, Nat.zero_add, List.reduceReplicate, List.replicate_zero, List.replicate_succ, List.cons_append, List.nil_append, List.append_nil, List.getElem?_cons_zero, List.getElem?_cons_succ, List.set_cons_zero, List.set_cons_succ, Res.bind_ok, Res.bind_err, Res.bind_bad, Res.st_ok, Res.st_err, Res.st_bad, SR.seq_nx, SR.seq_rt, SR.seq_ex, SR.seq_bk, SR.seq_ct, SR.seq_bad, r_add, r_sub, r_lt, r_le, r_gt, r_ge, r_eq, r_ne, r_eqB, r_neB, r_eqS, r_neS, r_ix0, r_ix1, if_true, if_false, ite_true, ite_false, Bool.false_eq_true, Bool.true_eq_false, Bool.not_true, Bool.not_false, decide_true, decide_false, reduceIte, reduceCtorEq, isint_int, hge, check_t, h3]
theorem least_neg (s : Sto) : m_least_square [.int (-1)] s = .err "NotRight" s := by
  refine run_ex (r := [some (.int (-1))]) ?_ rfl
  have hge : ¬ (0 : Int) ≤ -1 := by decide
  unfold mb_least_square
  simp only [rD, cst0, cst1, cst2, cst3, mSeq, mAsg, mPar, mRet, mOp, mVar, mC, mCons, mNil, mIfS, mB, mIf, mNeg, mNotV, mNot, mAnd, mOr, mAndV, mOrV, mCall, mNext, mExpr, mRetN, mRaise, gN, startR, mInt, mAbs, mLen, f1, f2, gInt, gAbs, gLen, mChain, D.sqO, D.lsO, mBreak, mIsi, D.kd, Kd.isi, List.map_cons, List.map_nil, List.length_cons, List.length_nil, Nat.reduceAdd, Nat.reduceSub, Nat.zero_add, List.reduceReplicate, List.replicate_zero, List.replicate_succ, List.cons_append, List.nil_append, List.append_nil, List.getElem?_cons_zero, List.getElem?_cons_succ, List.set_cons_zero, List.set_cons_succ, Res.bind_ok, Res.bind_err, Res.bind_bad, Res.st_ok, Res.st_err, Res.st_bad, SR.seq_nx, SR.seq_rt, SR.seq_ex, SR.seq_bk, SR.seq_ct, SR.seq_bad, r_add, r_sub, r_lt, r_le, r_gt, r_ge, r_eq, r_ne, r_eqB, r_neB, r_eqS, r_neS, r_ix0, r_ix1, if_true, if_false, ite_true, ite_false, Bool.false_eq_true, Bool.true_eq_false, Bool.not_true, Bool.not_false, decide_true, decide_false, reduceIte, reduceCtorEq, isint_int, hge, check_f]
end K00

set_option Elab.async false
set_option linter.all false
set_option maxRecDepth 100000
set_option maxHeartbeats 2000000
set_option exponentiation.threshold 20000
namespace K00
open PySem PySem.Spec PyProof.Rows L2 DL
/-! ### the draws -/
def IntL (ds : List D) : Prop := ∀ d ∈ ds, ∃ i : Int, d = .int i
theorem IntL.snoc {ds : List D} (h : IntL ds) (i : Int) : IntL (ds ++ [.int i]) := fun d hd => by
  rcases List.mem_append.mp hd with hd | hd
  · exact h d hd
  · exact ⟨i, List.mem_singleton.mp hd⟩
theorem IntL.nms : ∀ {ds : List D}, IntL ds → nms ds = true
  | [], _ => rfl
  | d :: ds, h => by
    obtain ⟨i, rfl⟩ := h d List.mem_cons_self
    unfold DL.nms
    rw [IntL.nms fun e he => h e (List.mem_cons_of_mem _ he)]
    rfl
theorem q_app0 {m : M1 D} {r : Ren} {fs : List D} {i : Nat} {y : D} (hi : r[i]? = some (some (.ml 0))) (h : m r [fs] = .ok y [fs]) (hl : fs.length < sizeLine) (hy : y.nm = true) : mApp (mVar i) m r [fs] = .ok .non [fs ++ [y]] :=
  q_app (s0 := []) hi h hl hy
abbrev inBody : MS := mIfS (mB (mOp opGt (mVar 3) (mC (.int 0)))) (mSeq (mExpr (mApp (mVar 1) (mOp opMod (mInt (mVar 3)) (mC (.int 997))))) (mAsg (mOp opFdiv (mVar 3) (mC (.int 997))) (gN 3))) mNext
theorem q_intI {m : M1 D} {r : Ren} {s s1 : Sto} {b : Int} (h : m r s = .ok (.int b) s1) : mInt m r s = .ok (.int b) s1 := by
  unfold mInt
  rw [q_call1 h]
  rfl
theorem dr_in {a c f sd : Option D} {all : List D} : ∀ (ks : List D) (n : Int) (ds : List D) (t : Option D), IntL ds → ds.length + ks.length ≤ 50000 → ∃ (n' : Int) (ds' : List D) (t' : Option D), IntL ds' ∧ ds'.length ≤ ds.length + ks.length ∧
    loopF none all (gN 5) inBody ks [a, some (.ml 0), c, some (.int n), f, t, sd] [ds] = .nx [a, some (.ml 0), c, some (.int n'), f, t', sd] [ds']
  | [], n, ds, t, h, _ => ⟨n, ds, t, h, Nat.le_refl _, by rw [loopF_nil]⟩
  | k :: ks, n, ds, t, h, hl => by
    rw [List.length_cons] at hl
    have c1 : mB (mOp opGt (mVar 3) (mC (.int 0))) [a, some (.ml 0), c, some (.int n), f, some k, sd] [ds] = .ok (decide (0 < n)) [ds] := by
      refine q_B ?_
      rw [q_op2 (x := .int n) (y := .int 0) (s1 := [ds]) (s2 := [ds]) rfl rfl, r_gt]
    by_cases e : 0 < n
    · obtain ⟨n', ds', t', h1, h2, h3⟩ := dr_in ks (n.fdiv 997) (ds ++ [.int (n.fmod 997)]) (some k) (h.snoc _) (by rw [List.length_append, List.length_singleton]; omega)
      rw [List.length_append, List.length_singleton] at h2
      refine ⟨n', ds', t', h1, by rw [List.length_cons]; omega, ?_⟩
      have b1 : mOp opMod (mInt (mVar 3)) (mC (.int 997)) [a, some (.ml 0), c, some (.int n), f, some k, sd] [ds] = .ok (.int (n.fmod 997)) [ds] := by
        rw [q_op2 (q_intI (m := mVar 3) (b := n) (s1 := [ds]) rfl) (y := .int 997) (s2 := [ds]) rfl, r_mod (by decide)]
      have b2 : mOp opFdiv (mVar 3) (mC (.int 997)) [a, some (.ml 0), c, some (.int n), f, some k, sd] [ds ++ [.int (n.fmod 997)]] = .ok (.int (n.fdiv 997)) [ds ++ [.int (n.fmod 997)]] := by
        rw [q_op2 (x := .int n) (y := .int 997) (s1 := [ds ++ [.int (n.fmod 997)]]) (s2 := [ds ++ [.int (n.fmod 997)]]) rfl rfl, r_fdiv (cdiv (by decide) (by decide))]
      have S1 : inBody [a, some (.ml 0), c, some (.int n), f, some k, sd] [ds] = .nx [a, some (.ml 0), c, some (.int (n.fdiv 997)), f, some k, sd] [ds ++ [.int (n.fmod 997)]] := by
        refine Eq.trans (if_t (c1.trans (by rw [decide_eq_true e]))) ?_
        exact Eq.trans (seq_nx (q_exprN (q_app0 (i := 1) rfl b1 (Nat.lt_of_lt_of_le (show ds.length < 50000 by omega) (by decide)) rfl))) (q_asgN b2)
      rw [loopF_cons, show ([a, some (.ml 0), c, some (.int n), f, t, sd] : Ren).set 5 (some k) = [a, some (.ml 0), c, some (.int n), f, some k, sd] from rfl, S1]
      exact h3
    · obtain ⟨n', ds', t', h1, h2, h3⟩ := dr_in ks n ds (some k) h (by omega)
      refine ⟨n', ds', t', h1, by rw [List.length_cons]; omega, ?_⟩
      have S1 : inBody [a, some (.ml 0), c, some (.int n), f, some k, sd] [ds] = .nx [a, some (.ml 0), c, some (.int n), f, some k, sd] [ds] := by
        refine Eq.trans (if_f (c1.trans (by rw [decide_eq_false e]))) ?_
        rfl
      rw [loopF_cons, show ([a, some (.ml 0), c, some (.int n), f, t, sd] : Ren).set 5 (some k) = [a, some (.ml 0), c, some (.int n), f, some k, sd] from rfl, S1]
      exact h3
noncomputable abbrev outBody : MS := mSeq (mAsg (mAbs (mVar 2)) (gN 3))
  (mSeq (mIfS (mB (mOp opLt (mVar 3) (mOp opPow (mC (.int 10)) (mC (.int 18))))) (mSeq (mAsg (mOp opMod (mInt (mOp opAdd (mOp opMul (mVar 3) (mC (.int 48271))) (mC (.int 11)))) (mC (.int 2147483647))) (gN 4))
  (mSeq (mExpr (mApp (mVar 1) (mOp opMod (mInt (mOp opAdd (mOp opMul (mVar 4) (mC (.int 69621))) (mVar 3))) (mC (.int 2147483629)))))
  (mSeq (mExpr (mApp (mVar 1) (mOp opMod (mInt (mOp opAdd (mVar 4) (mOp opFdiv (mVar 3) (mC (.int 7))))) (mC (.int 1000003)))))
  (mAsg (mC (.int 0)) (gN 3))))) mNext)
  (mFor (mRng1 (mCons (mC (.int 60)) mNil)) (gN 5) inBody))
theorem dr_out1 {a f k sd x : Option D} {z : Int} {ds : List D} (h : IntL ds) (hl : ds.length ≤ 40000) : ∃ (n' : Int) (ds' : List D) (f' k' : Option D), IntL ds' ∧ ds'.length ≤ ds.length + 62 ∧
    outBody [a, some (.ml 0), some (.int z), x, f, k, sd] [ds] = .nx [a, some (.ml 0), some (.int z), some (.int n'), f', k', sd] [ds'] := by
  have A1 : mAsg (mAbs (mVar 2)) (gN 3) [a, some (.ml 0), some (.int z), x, f, k, sd] [ds] = .nx [a, some (.ml 0), some (.int z), some (.int (z.natAbs : Int)), f, k, sd] [ds] := by
    refine q_asgN ?_
    show Res.ok (D.int (if z < 0 then -z else z)) [ds] = _
    rw [absI]
  have c1 : mB (mOp opLt (mVar 3) (mOp opPow (mC (.int 10)) (mC (.int 18)))) [a, some (.ml 0), some (.int z), some (.int (z.natAbs : Int)), f, k, sd] [ds] = .ok (decide ((z.natAbs : Int) < 10 ^ 18)) [ds] := by
    refine q_B ?_
    have e : mOp opPow (mC (.int 10)) (mC (.int 18)) [a, some (.ml 0), some (.int z), some (.int (z.natAbs : Int)), f, k, sd] [ds] = .ok (.int (10 ^ 18)) [ds] := by
      rw [q_op2 (x := .int 10) (y := .int 18) (s1 := [ds]) (s2 := [ds]) rfl rfl, r_pow (by decide)]
      rfl
    rw [q_op2 (x := .int (z.natAbs : Int)) (s1 := [ds]) rfl e, r_lt]
  have mid : ∃ (n1 : Int) (ds1 : List D) (f1 : Option D), IntL ds1 ∧ ds1.length ≤ ds.length + 2 ∧ (mIfS (mB (mOp opLt (mVar 3) (mOp opPow (mC (.int 10)) (mC (.int 18))))) (mSeq (mAsg (mOp opMod (mInt (mOp opAdd (mOp opMul (mVar 3) (mC (.int 48271))) (mC (.int 11)))) (mC (.int 2147483647))) (gN 4))
  (mSeq (mExpr (mApp (mVar 1) (mOp opMod (mInt (mOp opAdd (mOp opMul (mVar 4) (mC (.int 69621))) (mVar 3))) (mC (.int 2147483629)))))
  (mSeq (mExpr (mApp (mVar 1) (mOp opMod (mInt (mOp opAdd (mVar 4) (mOp opFdiv (mVar 3) (mC (.int 7))))) (mC (.int 1000003)))))
  (mAsg (mC (.int 0)) (gN 3))))) mNext) [a, some (.ml 0), some (.int z), some (.int (z.natAbs : Int)), f, k, sd] [ds] = .nx [a, some (.ml 0), some (.int z), some (.int n1), f1, k, sd] [ds1] := by
    by_cases e : (z.natAbs : Int) < 10 ^ 18
    · have hz : Sm 100 ((z.natAbs : Nat) : Int) := by
        have h1 : (10 : Nat) ^ 18 < 2 ^ 100 := by decide
        have h2 : z.natAbs < 10 ^ 18 := by
          have : ((10 : Int) ^ 18) = 1000000000000000000 := by decide
          rw [this] at e
          have : (10 : Nat) ^ 18 = 1000000000000000000 := by decide
          omega
        show ((z.natAbs : Int)).natAbs < 2 ^ 100
        rw [Int.natAbs_natCast]
        omega
      generalize (z.natAbs : Int) = n at *
      generalize hF : (n * 48271 + 11).fmod 2147483647 = F
      have hFs : Sm 100 F := by
        have h1 := Int.fmod_lt_of_pos (n * 48271 + 11) (show (0 : Int) < 2147483647 by decide)
        have h2 := Int.fmod_nonneg_of_pos (n * 48271 + 11) (show (0 : Int) < 2147483647 by decide)
        rw [hF] at h1 h2
        have h3 : (2147483647 : Nat) < 2 ^ 100 := by decide
        show F.natAbs < 2 ^ 100
        omega
      refine ⟨0, ds ++ [.int ((F * 69621 + n).fmod 2147483629)] ++ [.int ((F + n.fdiv 7).fmod 1000003)], some (.int F), (h.snoc _).snoc _, by simp, ?_⟩
      refine Eq.trans (if_t (c1.trans (by rw [decide_eq_true e]))) ?_
      have b1 : mOp opMul (mVar 3) (mC (.int 48271)) [a, some (.ml 0), some (.int z), some (.int n), f, k, sd] [ds] = .ok (.int (n * 48271)) [ds] := by
        rw [q_op2 (x := .int n) (y := .int 48271) (s1 := [ds]) (s2 := [ds]) rfl rfl, r_mulR (m := 20) hz (by decide) (by decide)]
      have b2 : mOp opAdd (mOp opMul (mVar 3) (mC (.int 48271))) (mC (.int 11)) [a, some (.ml 0), some (.int z), some (.int n), f, k, sd] [ds] = .ok (.int (n * 48271 + 11)) [ds] := by
        rw [q_op2 b1 (y := .int 11) (s2 := [ds]) rfl, r_add]
      have b3 : mOp opMod (mInt (mOp opAdd (mOp opMul (mVar 3) (mC (.int 48271))) (mC (.int 11)))) (mC (.int 2147483647)) [a, some (.ml 0), some (.int z), some (.int n), f, k, sd] [ds] = .ok (.int F) [ds] := by
        rw [q_op2 (q_intI b2) (y := .int 2147483647) (s2 := [ds]) rfl, r_mod (by decide), hF]
      have e1 : mOp opMul (mVar 4) (mC (.int 69621)) [a, some (.ml 0), some (.int z), some (.int n), some (.int F), k, sd] [ds] = .ok (.int (F * 69621)) [ds] := by
        rw [q_op2 (x := .int F) (y := .int 69621) (s1 := [ds]) (s2 := [ds]) rfl rfl, r_mulR (m := 20) hFs (by decide) (by decide)]
      have e2 : mOp opAdd (mOp opMul (mVar 4) (mC (.int 69621))) (mVar 3) [a, some (.ml 0), some (.int z), some (.int n), some (.int F), k, sd] [ds] = .ok (.int (F * 69621 + n)) [ds] := by
        rw [q_op2 e1 (y := .int n) (s2 := [ds]) rfl, r_add]
      have e3 : mOp opMod (mInt (mOp opAdd (mOp opMul (mVar 4) (mC (.int 69621))) (mVar 3))) (mC (.int 2147483629)) [a, some (.ml 0), some (.int z), some (.int n), some (.int F), k, sd] [ds] = .ok (.int ((F * 69621 + n).fmod 2147483629)) [ds] := by
        rw [q_op2 (q_intI e2) (y := .int 2147483629) (s2 := [ds]) rfl, r_mod (by decide)]
      generalize hds1 : ds ++ [.int ((F * 69621 + n).fmod 2147483629)] = ds1
      have hl1 : ds1.length = ds.length + 1 := by rw [← hds1]; simp
      have g1 : mOp opFdiv (mVar 3) (mC (.int 7)) [a, some (.ml 0), some (.int z), some (.int n), some (.int F), k, sd] [ds1] = .ok (.int (n.fdiv 7)) [ds1] := by
        rw [q_op2 (x := .int n) (y := .int 7) (s1 := [ds1]) (s2 := [ds1]) rfl rfl, r_fdiv (cdiv (by decide) (by decide))]
      have g2 : mOp opAdd (mVar 4) (mOp opFdiv (mVar 3) (mC (.int 7))) [a, some (.ml 0), some (.int z), some (.int n), some (.int F), k, sd] [ds1] = .ok (.int (F + n.fdiv 7)) [ds1] := by
        rw [q_op2 (x := .int F) (s1 := [ds1]) rfl g1, r_add]
      have g3 : mOp opMod (mInt (mOp opAdd (mVar 4) (mOp opFdiv (mVar 3) (mC (.int 7))))) (mC (.int 1000003)) [a, some (.ml 0), some (.int z), some (.int n), some (.int F), k, sd] [ds1] = .ok (.int ((F + n.fdiv 7).fmod 1000003)) [ds1] := by
        rw [q_op2 (q_intI g2) (y := .int 1000003) (s2 := [ds1]) rfl, r_mod (by decide)]
      refine Eq.trans (seq_nx (q_asgN b3)) (Eq.trans (seq_nx (q_exprN (q_app0 (i := 1) rfl e3 (Nat.lt_of_lt_of_le (show ds.length < 50000 by omega) (by decide)) rfl))) ?_)
      rw [hds1]
      refine Eq.trans (seq_nx (q_exprN (q_app0 (i := 1) rfl g3 (Nat.lt_of_lt_of_le (show ds1.length < 50000 by omega) (by decide)) rfl))) ?_
      rfl
    · exact ⟨(z.natAbs : Int), ds, f, h, by omega, Eq.trans (if_f (c1.trans (by rw [decide_eq_false e]))) rfl⟩
  obtain ⟨n1, ds1, f1, i1, l1, S1⟩ := mid
  obtain ⟨n2, ds2, k2, i2, l2, S2⟩ := dr_in (a := a) (c := some (.int z)) (f := f1) (sd := sd) (all := rngD 0 60) (rngD 0 60) n1 ds1 k i1 (by rw [rngD_len]; omega)
  rw [rngD_len] at l2
  refine ⟨n2, ds2, f1, k2, i2, by omega, ?_⟩
  refine Eq.trans (seq_nx A1) (Eq.trans (seq_nx S1) ?_)
  exact (mFor_rng (n := 60) (by decide) (by decide)).trans S2

theorem dr_out {a sd : Option D} {all : List D} : ∀ (zs : List Int) (ds : List D) (c x f k : Option D), IntL ds → ds.length + 62 * zs.length ≤ 40000 → ∃ (ds' : List D) (c' x' f' k' : Option D), IntL ds' ∧ ds'.length ≤ ds.length + 62 * zs.length ∧
    loopF none all (gN 2) outBody (zs.map D.int) [a, some (.ml 0), c, x, f, k, sd] [ds] = .nx [a, some (.ml 0), c', x', f', k', sd] [ds']
  | [], ds, c, x, f, k, h, _ => ⟨ds, c, x, f, k, h, Nat.le_refl _, by rw [List.map_nil, loopF_nil]⟩
  | z :: zs, ds, c, x, f, k, h, hl => by
    rw [List.length_cons] at hl
    obtain ⟨n1, ds1, f1, k1, i1, l1, S1⟩ := dr_out1 (a := a) (f := f) (k := k) (sd := sd) (x := x) (z := z) h (by omega)
    obtain ⟨ds2, c2, x2, f2, k2, i2, l2, S2⟩ := dr_out (a := a) (sd := sd) (all := all) zs ds1 (some (.int z)) (some (.int n1)) f1 k1 i1 (by omega)
    refine ⟨ds2, c2, x2, f2, k2, i2, by rw [List.length_cons]; omega, ?_⟩
    rw [List.map_cons, loopF_cons, show ([a, some (.ml 0), c, x, f, k, sd] : Ren).set 2 (some (.int z)) = [a, some (.ml 0), some (.int z), x, f, k, sd] from rfl, S1]
    exact S2
abbrev sdBody : MS := mSeq (mAsg (mOp opMod (mInt (mOp opAdd (mOp opMul (mVar 6) (mC (.int 48271))) (mC (.int 69621)))) (mC (.int 2147483647))) (gN 6))
  (mExpr (mApp (mVar 1) (mOp opFdiv (mVar 6) (mC (.int 5)))))
theorem dr_seed {a c x f : Option D} {all : List D} {K : Nat} (hK : K ≤ 2000000) (hK2 : 100 ≤ K) : ∀ (ks : List D) (sd : Int) (ds : List D) (t : Option D), Sm K sd → IntL ds → ds.length + ks.length ≤ 50000 → ∃ (sd' : Int) (ds' : List D) (t' : Option D), IntL ds' ∧
    loopF none all (gN 5) sdBody ks [a, some (.ml 0), c, x, f, t, some (.int sd)] [ds] = .nx [a, some (.ml 0), c, x, f, t', some (.int sd')] [ds']
  | [], sd, ds, t, _, h, _ => ⟨sd, ds, t, h, by rw [loopF_nil]⟩
  | k :: ks, sd, ds, t, hs, h, hl => by
    rw [List.length_cons] at hl
    generalize hF : (sd * 48271 + 69621).fmod 2147483647 = F
    have hFs : Sm 100 F := by
      have h1 := Int.fmod_lt_of_pos (sd * 48271 + 69621) (show (0 : Int) < 2147483647 by decide)
      have h2 := Int.fmod_nonneg_of_pos (sd * 48271 + 69621) (show (0 : Int) < 2147483647 by decide)
      rw [hF] at h1 h2
      have h3 : (2147483647 : Nat) < 2 ^ 100 := by decide
      show F.natAbs < 2 ^ 100
      omega
    obtain ⟨sd', ds', t', h1, h2⟩ := dr_seed (a := a) (c := c) (x := x) (f := f) (all := all) hK hK2 ks F (ds ++ [.int (F.fdiv 5)]) (some k) (sm_le hFs hK2) (h.snoc _) (by rw [List.length_append, List.length_singleton]; omega)
    refine ⟨sd', ds', t', h1, ?_⟩
    have b1 : mOp opMul (mVar 6) (mC (.int 48271)) [a, some (.ml 0), c, x, f, some k, some (.int sd)] [ds] = .ok (.int (sd * 48271)) [ds] := by
      rw [q_op2 (x := .int sd) (y := .int 48271) (s1 := [ds]) (s2 := [ds]) rfl rfl, r_mulR (m := 20) hs (by decide) (by omega)]
    have b2 : mOp opAdd (mOp opMul (mVar 6) (mC (.int 48271))) (mC (.int 69621)) [a, some (.ml 0), c, x, f, some k, some (.int sd)] [ds] = .ok (.int (sd * 48271 + 69621)) [ds] := by
      rw [q_op2 b1 (y := .int 69621) (s2 := [ds]) rfl, r_add]
    have b3 : mOp opMod (mInt (mOp opAdd (mOp opMul (mVar 6) (mC (.int 48271))) (mC (.int 69621)))) (mC (.int 2147483647)) [a, some (.ml 0), c, x, f, some k, some (.int sd)] [ds] = .ok (.int F) [ds] := by
      rw [q_op2 (q_intI b2) (y := .int 2147483647) (s2 := [ds]) rfl, r_mod (by decide), hF]
    have b4 : mOp opFdiv (mVar 6) (mC (.int 5)) [a, some (.ml 0), c, x, f, some k, some (.int F)] [ds] = .ok (.int (F.fdiv 5)) [ds] := by
      rw [q_op2 (x := .int F) (y := .int 5) (s1 := [ds]) (s2 := [ds]) rfl rfl, r_fdiv (cdiv (by decide) (by decide))]
    have S1 : sdBody [a, some (.ml 0), c, x, f, some k, some (.int sd)] [ds] = .nx [a, some (.ml 0), c, x, f, some k, some (.int F)] [ds ++ [.int (F.fdiv 5)]] :=
      Eq.trans (seq_nx (q_asgN b3)) (q_exprN (q_app0 (i := 1) rfl b4 (Nat.lt_of_lt_of_le (show ds.length < 50000 by omega) (by decide)) rfl))
    rw [loopF_cons, show ([a, some (.ml 0), c, x, f, t, some (.int sd)] : Ren).set 5 (some k) = [a, some (.ml 0), c, x, f, some k, some (.int sd)] from rfl, S1]
    exact h2
theorem sm_of_bits {z : Int} {n : Nat} (h : Builtin.Int.intBits z ≤ n) : Sm n z := by
  unfold Builtin.Int.intBits at h
  unfold Sm
  by_cases h0 : z = 0
  · subst h0
    exact Nat.pow_pos (by decide)
  · rw [if_neg (by simpa using h0)] at h
    exact Nat.lt_of_lt_of_le Nat.lt_log2_self (Nat.pow_le_pow_right (by decide) h)
theorem draws_eq (ns : List Int) (hl : ns.length ≤ 63) (hb : ∀ z ∈ ns, Builtin.Int.intBits z ≤ 1048576) : ∃ ds : List D, IntL ds ∧ m__law_draws [.frl (ns.map D.int)] [] = .ok (.ml 0) [ds] := by
  obtain ⟨ds1, c1, x1, f1, k1, i1, l1, S1⟩ := dr_out (a := some (.frl (ns.map D.int))) (sd := none) (all := ns.map D.int) ns [] none none none none (fun _ h => nomatch h) (by rw [List.length_nil]; omega)
  rw [List.length_nil] at l1
  -- the seed
  have hseed : ∃ sd : Int, Sm 1048579 sd ∧ (mIfS (mB (mOp opGt (mLen (mVar 0)) (mC (.int 0)))) (mAsg (mOp opAdd (mC (.int 1)) (mAbs (mOp opIx (mVar 0) (mC (.int 0))))) (gN 6)) mNext) [some (.frl (ns.map D.int)), some (.ml 0), c1, x1, f1, k1, some (.int 1)] [ds1] = .nx [some (.frl (ns.map D.int)), some (.ml 0), c1, x1, f1, k1, some (.int sd)] [ds1] := by
    have hone : Sm 2 1 := by decide
    match ns, hb with
    | [], _ => exact ⟨1, sm_le hone (by omega), rfl⟩
    | z :: zs, hb =>
      have hz := sm_of_bits (hb z List.mem_cons_self)
      refine ⟨1 + (z.natAbs : Int), sm_le (sm_add hone (show Sm 1048576 ((z.natAbs : Nat) : Int) from ?_)) (by omega), ?_⟩
      · unfold Sm at hz ⊢
        rw [Int.natAbs_natCast]
        exact hz
      · refine Eq.trans (if_t (s1 := [ds1]) ?_) ?_
        · refine q_B ?_
          rw [q_op2 (x := .int (((z :: zs).map D.int).length : Nat)) (y := .int 0) (s1 := [ds1]) (s2 := [ds1]) rfl rfl, r_gt, decide_eq_true (by rw [List.map_cons, List.length_cons]; omega)]
        · refine q_asgN (i := 6) (r := [some (.frl ((z :: zs).map D.int)), some (.ml 0), c1, x1, f1, k1, some (.int 1)]) (d := .int (1 + (z.natAbs : Int))) ?_
          have e1 : mOp opIx (mVar 0) (mC (.int 0)) [some (.frl ((z :: zs).map D.int)), some (.ml 0), c1, x1, f1, k1, some (.int 1)] [ds1] = .ok (.int z) [ds1] := by
            show (match atI ((z :: zs).map D.int) 0 with | some d => Res.ok d [ds1] | none => .bad) = _
            rw [List.map_cons, show atI (D.int z :: zs.map D.int) 0 = some (.int z) from atI_nat (j := 0) rfl]
          have e2 : mAbs (mOp opIx (mVar 0) (mC (.int 0))) [some (.frl ((z :: zs).map D.int)), some (.ml 0), c1, x1, f1, k1, some (.int 1)] [ds1] = .ok (.int (z.natAbs : Int)) [ds1] := by
            unfold mAbs
            rw [q_call1 e1]
            show Res.ok (D.int (if z < 0 then -z else z)) [ds1] = _
            rw [absI]
          rw [q_op2 (x := .int 1) (s1 := [ds1]) rfl e2, r_add]
  obtain ⟨sd, hsd, S2⟩ := hseed
  obtain ⟨sd', ds2, t2, i2, S3⟩ := dr_seed (a := some (.frl (ns.map D.int))) (c := c1) (x := x1) (f := f1) (all := rngD 0 3000) (K := 1048579) (by omega) (by omega) (rngD 0 3000) sd ds1 k1 hsd i1 (by rw [rngD_len]; omega)
  refine ⟨ds2.reverse, fun d hd => i2 d (List.mem_reverse.mp hd), ?_⟩
  have body : mb__law_draws (startR 7 [.frl (ns.map D.int)]) [] = .rt (.ml 1) ([ds2] ++ [ds2.reverse]) := by
    unfold mb__law_draws
    refine Eq.trans (seq_nx (r1 := [some (.frl (ns.map D.int)), some (.ml 0), none, none, none, none, none]) (s1 := [[]]) ?_) ?_
    · rfl
    have L1 : mFor (mItS (mVar 0)) (gN 2) outBody [some (.frl (ns.map D.int)), some (.ml 0), none, none, none, none, none] [[]] = .nx [some (.frl (ns.map D.int)), some (.ml 0), c1, x1, f1, k1, none] [ds1] := S1
    refine Eq.trans (seq_nx L1) (Eq.trans (seq_nx (r1 := [some (.frl (ns.map D.int)), some (.ml 0), c1, x1, f1, k1, some (.int 1)]) (s1 := [ds1]) ?_) (Eq.trans (seq_nx S2) (Eq.trans (seq_nx ((mFor_rng (n := 3000) (by decide) (by decide)).trans S3)) ?_)))
    · rfl
    refine q_retN ?_
    show (match (some ds2 : Option (List D)) with | some ds => if nms ds = true then Res.ok (D.ml 1) ([ds2] ++ [ds.reverse]) else .bad | none => .bad) = _
    dsimp only
    rw [if_pos i2.nms]
  show mFunM 7 mb__law_draws [.frl (ns.map D.int)] [] = _
  unfold mFunM
  rw [body]
  rfl
end K00

set_option Elab.async false
set_option linter.all false
set_option maxRecDepth 100000
set_option maxHeartbeats 2000000
set_option exponentiation.threshold 20000
namespace K00
open PySem PySem.Spec PyProof.Rows L2 DL
theorem IntL.dropLast {ds : List D} (h : IntL ds) : IntL ds.dropLast := fun d hd => h d (List.mem_of_mem_take (by rw [List.dropLast_eq_take] at hd; exact hd))
theorem take_eq {ds : List D} {b : Int} (h : IntL ds) (hb : 0 < b) : ∃ (v : Int) (ds' : List D), 0 ≤ v ∧ v < b ∧ IntL ds' ∧ m__law_take [.ml 0, .int b] [ds] = .ok (.int v) [ds'] := by
  have c1 : mB (mOp opEq (mLen (mVar 0)) (mC (.int 0))) [some (.ml 0), some (.int b)] [ds] = .ok ((ds.length : Int) == 0) [ds] := by
    refine q_B ?_
    rw [q_op2 (x := .int (ds.length : Nat)) (y := .int 0) (s1 := [ds]) (s2 := [ds]) rfl rfl, r_eq]
  by_cases e : ds = []
  · subst e
    refine ⟨0, [], by omega, hb, h, run_rt ?_ rfl rfl⟩
    unfold mb__law_take
    exact seq_rt (Eq.trans (if_t (c1.trans (by rfl))) rfl)
  · have hl : 0 < ds.length := List.length_pos_iff.mpr e
    have hlt : ds.length - 1 < ds.length := by omega
    obtain ⟨i, hi⟩ := h ds[ds.length - 1] (List.getElem_mem hlt)
    have hg : ds[ds.length - 1]? = some (.int i) := by rw [List.getElem?_eq_getElem hlt, hi]
    refine ⟨i.fmod b, ds.dropLast, Int.fmod_nonneg_of_pos _ hb, Int.fmod_lt_of_pos _ hb, h.dropLast, run_rt ?_ rfl rfl⟩
    unfold mb__law_take
    have e0 : ((ds.length : Int) == 0) = false := by
      have : ¬ (ds.length : Int) = 0 := by omega
      simpa using this
    refine Eq.trans (seq_nx (r1 := [some (.ml 0), some (.int b)]) (s1 := [ds]) ?_) ?_
    · exact Eq.trans (if_f (c1.trans (by rw [e0]))) rfl
    · have b1 : mPop (mVar 0) [some (.ml 0), some (.int b)] [ds] = .ok (.int i) [ds.dropLast] := by
        show (match ds[ds.length - 1]? with | some y => Res.ok y ([ds].set 0 ds.dropLast) | none => .bad) = _
        rw [hg]
        rfl
      refine q_retN ?_
      rw [q_op2 (q_intI b1) (y := .int b) (s2 := [ds.dropLast]) rfl, r_mod (by omega)]
theorem pick_eq {ds xs : List D} (h : IntL ds) (hx : 0 < xs.length) (hx2 : xs.length ≤ 100) (hn : ∀ x ∈ xs, x.nm = true) : ∃ (x : D) (ds' : List D), x ∈ xs ∧ IntL ds' ∧ m__law_pick [.ml 0, .lst xs] [ds] = .ok x [ds'] := by
  obtain ⟨v, ds', h1, h2, h3, h4⟩ := take_eq (b := (xs.length : Int)) h (by omega)
  have hv : v.toNat < xs.length := by omega
  refine ⟨xs[v.toNat], ds', List.getElem_mem hv, h3, run_rt ?_ rfl (hn _ (List.getElem_mem hv))⟩
  unfold mb__law_pick
  refine q_retN ?_
  have b1 : mCall m__law_take (mCons (mVar 0) (mCons (mLen (mVar 1)) mNil)) [some (.ml 0), some (.lst xs)] [ds] = .ok (.int v) [ds'] := by
    rw [q_call2 (d := .ml 0) (e := .int (xs.length : Nat)) (s1 := [ds]) (s2 := [ds]) rfl rfl, h4]
  refine Eq.trans (q_op2 (r := [some (.ml 0), some (.lst xs)]) (x := .lst xs) (s1 := [ds]) rfl b1) ?_
  show (match atI xs v with | some d => Res.ok d [ds'] | none => .bad) = _
  have ev : v = ((v.toNat : Nat) : Int) := by omega
  have : atI xs v = some xs[v.toNat] := by
    conv => lhs; rw [ev]
    exact atI_nat (by rw [List.getElem?_eq_getElem hv])
  rw [this]
theorem rdN_le {n d : Int} (hd : d ≠ 0) : (rdN n d).natAbs ≤ n.natAbs := by
  obtain ⟨g, n', d', hg, hn, hd', _, e1, e2⟩ := rd_form (n := n) hd
  have : (rdN n d).natAbs = n'.natAbs := by rw [e1]; split <;> simp
  rw [this, hn, Int.natAbs_mul]
  exact Nat.le_mul_of_pos_left _ (by omega)
theorem rdD_le {n d : Int} (hd : d ≠ 0) : (rdD n d).natAbs ≤ d.natAbs := by
  obtain ⟨g, n', d', hg, hn, hd', _, e1, e2⟩ := rd_form (n := n) hd
  have : (rdD n d).natAbs = d'.natAbs := by rw [e2]; split <;> simp
  rw [this]
  conv => rhs; rw [hd', Int.natAbs_mul]
  exact Nat.le_mul_of_pos_left _ (by omega)
theorem rs_rd {n d : Int} {k : Nat} (hd : d ≠ 0) (hn : Sm k n) (hdd : Sm k d) : Rs k (rdN n d) (rdD n d) := ⟨rd_rt hd, Nat.lt_of_le_of_lt (rdN_le hd) hn, Nat.lt_of_le_of_lt (rdD_le hd) hdd⟩
theorem any_eq {ds : List D} (h : IntL ds) : ∃ (p q : Int) (ds' : List D), Rs 20 p q ∧ IntL ds' ∧ m__law_any [.ml 0] [ds] = .ok (rD p q) [ds'] := by
  obtain ⟨x, ds1, hx, i1, e1⟩ := pick_eq (xs := [.int 0, .int 1, .int (-1), .int 7, .int (-12), .int 360, .int (-1001), .int 99991]) h (by decide) (by decide) (by intro x hx; simp only [List.mem_cons, List.not_mem_nil, or_false] at hx; rcases hx with rfl | rfl | rfl | rfl | rfl | rfl | rfl | rfl <;> rfl)
  obtain ⟨v, ds2, v0, v1, i2, e2⟩ := take_eq (b := 9) i1 (by decide)
  obtain ⟨y, ds3, hy, i3, e3⟩ := pick_eq (xs := [.int 1, .int 2, .int 3, .int 8, .int 10, .int 97, .int 1024]) i2 (by decide) (by decide) (by intro x hx; simp only [List.mem_cons, List.not_mem_nil, or_false] at hx; rcases hx with rfl | rfl | rfl | rfl | rfl | rfl | rfl <;> rfl)
  have hx' : ∃ i : Int, x = .int i ∧ -2000 ≤ i ∧ i ≤ 100000 := by
    simp only [List.mem_cons, List.not_mem_nil, or_false] at hx
    rcases hx with rfl | rfl | rfl | rfl | rfl | rfl | rfl | rfl <;> exact ⟨_, rfl, by decide, by decide⟩
  have hy' : ∃ i : Int, y = .int i ∧ 1 ≤ i ∧ i ≤ 1024 := by
    simp only [List.mem_cons, List.not_mem_nil, or_false] at hy
    rcases hy with rfl | rfl | rfl | rfl | rfl | rfl | rfl <;> exact ⟨_, rfl, by decide, by decide⟩
  obtain ⟨i, rfl, h1, h2⟩ := hx'
  obtain ⟨j, rfl, h3, h4⟩ := hy'
  have hj : j ≠ 0 := by omega
  have s1 : Sm 20 (i + v) := by
    show (i + v).natAbs < 2 ^ 20
    have : (2 : Nat) ^ 20 = 1048576 := by decide
    omega
  have s2 : Sm 20 j := by
    show j.natAbs < 2 ^ 20
    have : (2 : Nat) ^ 20 = 1048576 := by decide
    omega
  refine ⟨rdN (i + v) j, rdD (i + v) j, ds3, rs_rd hj s1 s2, i3, run_rt ?_ rfl rfl⟩
  unfold mb__law_any
  refine q_retN ?_
  have b1 : mCall m__law_pick (mCons (mVar 0) (mCons (mLst (mCons (mC (.int 0)) (mCons (mC (.int 1)) (mCons (mNeg (mC (.int 1))) (mCons (mC (.int 7)) (mCons (mNeg (mC (.int 12))) (mCons (mC (.int 360)) (mCons (mNeg (mC (.int 1001))) (mCons (mC (.int 99991)) mNil))))))))) mNil)) [some (.ml 0)] [ds] = .ok (.int i) [ds1] := by
    rw [q_call2 (d := .ml 0) (e := .lst [.int 0, .int 1, .int (-1), .int 7, .int (-12), .int 360, .int (-1001), .int 99991]) (s1 := [ds]) (s2 := [ds]) rfl rfl, e1]
  have b2 : mCall m__law_take (mCons (mVar 0) (mCons (mC (.int 9)) mNil)) [some (.ml 0)] [ds1] = .ok (.int v) [ds2] := by
    rw [q_call2 (d := .ml 0) (e := .int 9) (s1 := [ds1]) (s2 := [ds1]) rfl rfl, e2]
  have b3 : mCall m__law_pick (mCons (mVar 0) (mCons (mLst (mCons (mC (.int 1)) (mCons (mC (.int 2)) (mCons (mC (.int 3)) (mCons (mC (.int 8)) (mCons (mC (.int 10)) (mCons (mC (.int 97)) (mCons (mC (.int 1024)) mNil)))))))) mNil)) [some (.ml 0)] [ds2] = .ok (.int j) [ds3] := by
    rw [q_call2 (d := .ml 0) (e := .lst [.int 1, .int 2, .int 3, .int 8, .int 10, .int 97, .int 1024]) (s1 := [ds2]) (s2 := [ds2]) rfl rfl, e3]
  have b4 := (q_op2 (f := opAdd) b1 b2).trans r_add
  refine Eq.trans (q_call2 b4 b3) ?_
  rw [lawr_eq _ hj (sm_le s1 (by decide)) (sm_le s2 (by decide))]
end K00

set_option Elab.async false
set_option linter.all false
set_option maxRecDepth 100000
set_option maxHeartbeats 2000000
set_option exponentiation.threshold 20000
namespace K00
open PySem PySem.Spec PyProof.Rows L2 DL
/-! ### the law's turn, statement by statement -/
noncomputable abbrev T1 : MS := (mAsg (mTup (mCons (mCall m__law_any (mCons (mVar 1) mNil)) (mCons (mCall m__law_any (mCons (mVar 1) mNil)) (mCons (mOp opSub (mCall m__law_take (mCons (mVar 1) (mCons (mC (.int 12)) mNil))) (mC (.int 4))) (mCons (mCall m__law_take (mCons (mVar 1) (mCons (mC (.int 40)) mNil))) mNil))))) (gTupM 4 (gConsM (gN 3) (gConsM (gN 4) (gConsM (gN 5) (gConsM (gN 6) gNilM))))))
noncomputable abbrev T2 : MS := (mAsg (mLst (mCons (mCall m__law_add (mCons (mVar 3) (mCons (mVar 4) mNil))) (mCons (mCall m__law_sub (mCons (mVar 3) (mCons (mVar 4) mNil))) (mCons (mCall m__law_mul (mCons (mVar 3) (mCons (mVar 4) mNil))) (mCons (mIf (mB (mOp opNe (mOp opIx (mVar 4) (mC (.int 0))) (mC (.int 0)))) (mCall m__law_r (mCons (mOp opMul (mOp opIx (mVar 3) (mC (.int 0))) (mOp opIx (mVar 4) (mC (.int 1)))) (mCons (mOp opMul (mOp opIx (mVar 3) (mC (.int 1))) (mOp opIx (mVar 4) (mC (.int 0)))) mNil))) (mC (.str "refused 3"))) mNil))))) (gN 7))
noncomputable abbrev T3 : MS := (mAsg (mOp opAdd (mVar 7) (mLst (mCons (mOp opSub (mIf (mB (mCall m__law_less (mCons (mVar 4) (mCons (mVar 3) mNil)))) (mC (.int 1)) (mC (.int 0))) (mIf (mB (mCall m__law_less (mCons (mVar 3) (mCons (mVar 4) mNil)))) (mC (.int 1)) (mC (.int 0)))) (mCons (mVar 3) mNil)))) (gN 7))
noncomputable abbrev T4 : MS := (mAsg (mOp opAdd (mLc (mRng1 (mCons (mC (.int 5)) mNil)) [20] (gN 20) mYes (mCall m__law_told (mCons (mVar 20) (mCons (mTup (mCons (mVar 3) (mCons (mVar 4) mNil))) mNil)))) (mLst (mCons (mCall m__law_told (mCons (mC (.int 5)) (mCons (mTup (mCons (mOp opMul (mOp opIx (mVar 3) (mC (.int 0))) (mC (.int 6))) (mCons (mOp opMul (mOp opIx (mVar 3) (mC (.int 1))) (mC (.int 6))) mNil))) mNil))) mNil))) (gN 8))
noncomputable abbrev T5 : MS := (mIfS (mOr (mNot (mB (mCall (m__law_same 6) (mCons (mVar 8) (mCons (mVar 7) mNil))))) (mNot (mB (mCall (m__law_same 6) (mCons (mCall m__law_told (mCons (mC (.int 5)) (mCons (mTup (mCons (mOp opSub (mC (.int 0)) (mOp opMul (mOp opIx (mVar 3) (mC (.int 0))) (mC (.int 9)))) (mCons (mOp opSub (mC (.int 0)) (mOp opMul (mOp opIx (mVar 3) (mC (.int 1))) (mC (.int 9)))) mNil))) mNil))) (mCons (mVar 3) mNil)))))) (mRet (mC (.bl false))) mNext)
noncomputable abbrev T6 : MS := (mAsg (mOp opFdiv (mOp opIx (mVar 3) (mC (.int 0))) (mOp opIx (mVar 3) (mC (.int 1)))) (gN 9))
noncomputable abbrev T7 : MS := (mAsg (mIf (mB (mOp opEq (mOp opMul (mVar 9) (mOp opIx (mVar 3) (mC (.int 1)))) (mOp opIx (mVar 3) (mC (.int 0))))) (mVar 9) (mOp opAdd (mVar 9) (mC (.int 1)))) (gN 10))
noncomputable abbrev T8 : MS := (mAsg (mIf (mB (mOp opEq (mOp opIx (mVar 3) (mC (.int 1))) (mC (.int 1)))) (mStr (mOp opIx (mVar 3) (mC (.int 0)))) (mOp opAdd (mOp opAdd (mStr (mOp opIx (mVar 3) (mC (.int 0)))) (mC (.str "/"))) (mStr (mOp opIx (mVar 3) (mC (.int 1)))))) (gN 11))
noncomputable abbrev T9 : MS := (mIfS (mNot (mB (mCall (m__law_same 6) (mCons (mLst (mCons (mCall m__law_told (mCons (mC (.int 6)) (mCons (mTup (mCons (mVar 3) mNil)) mNil))) (mCons (mCall m__law_told (mCons (mC (.int 7)) (mCons (mTup (mCons (mVar 3) mNil)) mNil))) (mCons (mCall m__law_told (mCons (mC (.int 8)) (mCons (mTup (mCons (mVar 3) mNil)) mNil))) (mCons (mCall m__law_told (mCons (mC (.int 9)) (mCons (mTup (mCons (mVar 6) mNil)) mNil))) mNil))))) (mCons (mLst (mCons (mVar 9) (mCons (mVar 10) (mCons (mVar 11) (mCons (mTup (mCons (mC (.int 1)) (mCons (mCall m__law_twos (mCons (mVar 6) mNil)) mNil))) mNil))))) mNil))))) (mRet (mC (.bl false))) mNext)
noncomputable abbrev T10 : MS := (mAsg (mIf (mB (mOp opGe (mVar 5) (mC (.int 0)))) (mCall m__law_power (mCons (mVar 3) (mCons (mVar 5) mNil))) (mIf (mB (mOp opEq (mOp opIx (mVar 3) (mC (.int 0))) (mC (.int 0)))) (mC .non) (mCall m__law_power (mCons (mCall m__law_r (mCons (mOp opIx (mVar 3) (mC (.int 1))) (mCons (mOp opIx (mVar 3) (mC (.int 0))) mNil))) (mCons (mOp opSub (mC (.int 0)) (mVar 5)) mNil))))) (gN 12))
noncomputable abbrev T11 : MS := (mIfS (mNot (mB (mCall (m__law_same 6) (mCons (mCall m__law_told (mCons (mC (.int 11)) (mCons (mTup (mCons (mVar 3) (mCons (mVar 5) mNil))) mNil))) (mCons (mIf (mB (mOp opIsN (mVar 12) (mC .non))) (mC (.str "refused 3")) (mVar 12)) mNil))))) (mRet (mC (.bl false))) mNext)
noncomputable abbrev T12 : MS := (mAsg (mOp opMul (mOp opIx (mVar 3) (mC (.int 0))) (mCall m__law_twos (mCons (mVar 6) mNil))) (gN 13))
noncomputable abbrev T13 : MS := (mPar 14 15 (mCons (mCall m__law_r (mCons (mOp opFdiv (mVar 13) (mOp opIx (mVar 3) (mC (.int 1)))) (mCons (mCall m__law_twos (mCons (mVar 6) mNil)) mNil))) (mCons (mCall m__law_r (mCons (mOp opSub (mC (.int 0)) (mOp opFdiv (mOp opSub (mC (.int 0)) (mVar 13)) (mOp opIx (mVar 3) (mC (.int 1))))) (mCons (mCall m__law_twos (mCons (mVar 6) mNil)) mNil))) mNil)))
noncomputable abbrev T14 : MS := (mIfS (mAnd (mNot (mB (mCall (m__law_same 6) (mCons (mLst (mCons (mCall m__law_told (mCons (mC (.int 12)) (mCons (mTup (mCons (mVar 3) (mCons (mVar 6) mNil))) mNil))) (mCons (mCall m__law_told (mCons (mC (.int 13)) (mCons (mTup (mCons (mVar 3) (mCons (mVar 6) mNil))) mNil))) (mCons (mCall m__law_told (mCons (mC (.int 14)) (mCons (mTup (mCons (mVar 3) (mCons (mVar 6) mNil))) mNil))) mNil)))) (mCons (mLst (mCons (mVar 14) (mCons (mVar 15) (mCons (mCall m__law_decimal (mCons (mVar 3) (mCons (mVar 6) mNil))) mNil)))) mNil))))) (mB (mOp opGt (mVar 6) (mC (.int 0))))) (mRet (mC (.bl false))) mNext)
noncomputable abbrev T15 : MS := (mAsg (mCall m__law_pick (mCons (mVar 1) (mCons (mLst (mCons (mCall m__law_take (mCons (mVar 1) (mCons (mC (.int 1000)) mNil))) (mCons (mOp opMul (mAbs (mOp opIx (mVar 3) (mC (.int 0)))) (mAbs (mOp opIx (mVar 3) (mC (.int 0))))) (mCons (mOp opSub (mOp opMul (mAbs (mOp opIx (mVar 3) (mC (.int 0)))) (mAbs (mOp opIx (mVar 3) (mC (.int 0))))) (mC (.int 1))) (mCons (mOp opMul (mAbs (mOp opIx (mVar 3) (mC (.int 0)))) (mCall m__law_twos (mCons (mC (.int 90)) mNil))) mNil))))) mNil))) (gN 16))
noncomputable abbrev T16 : MS := (mAsg (mMax (mC (.int 0)) (mVar 16)) (gN 16))
noncomputable abbrev T17 : MS := (mAsg (mCall m__law_told (mCons (mC (.int 10)) (mCons (mTup (mCons (mVar 16) mNil)) mNil))) (gN 17))
noncomputable abbrev T18 : MS := (mIfS (mOr (mNot (mB (mIsi .int (mVar 17)))) (mOr (mB (mOp opGt (mOp opMul (mVar 17) (mVar 17)) (mVar 16))) (mB (mOp opLe (mOp opMul (mOp opAdd (mVar 17) (mC (.int 1))) (mOp opAdd (mVar 17) (mC (.int 1)))) (mVar 16))))) (mRet (mC (.bl false))) mNext)
noncomputable abbrev T19 : MS := (mAsg (mCall m__law_pick (mCons (mVar 1) (mCons (mLst (mCons (mC .non) (mCons (mC (.int 1)) (mCons (mTup (mCons (mC (.int 1)) mNil)) (mCons (mTup (mCons (mC (.int 2)) (mCons (mC (.int 4)) mNil))) (mCons (mTup (mCons (mC (.int 1)) (mCons (mC (.int 0)) mNil))) (mCons (mTup (mCons (mC (.int 1)) (mCons (mNeg (mC (.int 2))) mNil))) (mCons (mTup (mCons (mC (.bl true)) (mCons (mC (.int 1)) mNil))) (mCons (mLst (mCons (mC (.int 1)) (mCons (mC (.int 2)) mNil))) (mCons (mTup (mCons (mC (.str "1")) (mCons (mC (.int 2)) mNil))) (mCons (mTup (mCons (mC (.int 1)) (mCons (mC (.int 2)) (mCons (mC (.int 3)) mNil)))) mNil))))))))))) mNil))) (gN 18))
noncomputable abbrev T20 : MS := (mIfS (mOr (mB (mOp opNotN (mCall m_is_ratio (mCons (mVar 18) mNil)) (mC (.bl false)))) (mB (mOp opNotN (mCall m_is_ratio (mCons (mVar 3) mNil)) (mC (.bl true))))) (mRet (mC (.bl false))) mNext)
noncomputable abbrev T21 : MS := (mAsg (mOp opAdd (mOp opAdd (mLc (mItS (mLst (mCons (mC (.int 0)) (mCons (mC (.int 1)) (mCons (mC (.int 2)) (mCons (mC (.int 3)) (mCons (mC (.int 4)) mNil))))))) [20] (gN 20) mYes (mCall m__law_told (mCons (mVar 20) (mCons (mTup (mCons (mVar 18) (mCons (mVar 3) mNil))) mNil)))) (mLc (mItS (mLst (mCons (mC (.int 0)) (mCons (mC (.int 1)) (mCons (mC (.int 2)) (mCons (mC (.int 3)) (mCons (mC (.int 4)) mNil))))))) [20] (gN 20) mYes (mCall m__law_told (mCons (mVar 20) (mCons (mTup (mCons (mVar 3) (mCons (mVar 18) mNil))) mNil))))) (mLc (mItS (mLst (mCons (mC (.int 6)) (mCons (mC (.int 7)) (mCons (mC (.int 8)) mNil))))) [20] (gN 20) mYes (mCall m__law_told (mCons (mVar 20) (mCons (mTup (mCons (mVar 18) mNil)) mNil))))) (gN 19))
noncomputable abbrev T22 : MS := (mAsg (mOp opAdd (mOp opAdd (mVar 19) (mLc (mItS (mLst (mCons (mC (.int 11)) (mCons (mC (.int 12)) (mCons (mC (.int 13)) (mCons (mC (.int 14)) mNil)))))) [20] (gN 20) mYes (mCall m__law_told (mCons (mVar 20) (mCons (mTup (mCons (mVar 18) (mCons (mC (.int 3)) mNil))) mNil))))) (mLc (mItS (mLst (mCons (mC (.int 401)) (mCons (mNeg (mC (.int 401))) (mCons (mC .non) (mCons (mC (.bl true)) mNil)))))) [21] (gN 21) mYes (mCall m__law_told (mCons (mC (.int 11)) (mCons (mTup (mCons (mVar 3) (mCons (mVar 21) mNil))) mNil))))) (gN 19))
noncomputable abbrev T23 : MS := (mAsg (mOp opAdd (mOp opAdd (mVar 19) (mLc (mItS (mLst (mCons (mC (.int 12)) (mCons (mC (.int 13)) mNil)))) [20] (gN 20) mYes (mCall m__law_told (mCons (mVar 20) (mCons (mTup (mCons (mVar 3) (mCons (mNeg (mC (.int 1))) mNil))) mNil))))) (mLst (mCons (mCall m__law_told (mCons (mC (.int 14)) (mCons (mTup (mCons (mVar 3) (mCons (mC (.int 401)) mNil))) mNil))) (mCons (mCall m__law_told (mCons (mC (.int 12)) (mCons (mTup (mCons (mVar 3) (mCons (mC (.int 20001)) mNil))) mNil))) (mCons (mCall m__law_told (mCons (mC (.int 10)) (mCons (mTup (mCons (mNeg (mC (.int 1))) mNil)) mNil))) (mCons (mCall m__law_told (mCons (mC (.int 5)) (mCons (mTup (mCons (mC (.int 1)) (mCons (mC (.int 0)) mNil))) mNil))) (mCons (mCall m__law_told (mCons (mC (.int 5)) (mCons (mTup (mCons (mC .non) (mCons (mC (.int 1)) mNil))) mNil))) mNil))))))) (gN 19))
noncomputable abbrev T24 : MS := (mIfS (mB (mOp opNe (mVar 19) (mOp opMul (mLst (mCons (mC (.str "refused 1")) mNil)) (mLen (mVar 19))))) (mRet (mC (.bl false))) mNext)
/-- what a turn's names hold -/
structure ST (r : Ren) (p q u v n : Int) (k : Nat) : Prop where
  l : r.length = 22
  d : r[1]? = some (some (.ml 0))
  a : r[3]? = some (some (rD p q))
  b : r[4]? = some (some (rD u v))
  n : r[5]? = some (some (.int n))
  k : r[6]? = some (some (.int (k : Int)))
section
variable {r : Ren} {p q u v n : Int} {k : Nat} {s : Sto}
theorem ST.set (h : ST r p q u v n k) (i : Nat) (x : Option D) (hi : i ≠ 1 ∧ i ≠ 3 ∧ i ≠ 4 ∧ i ≠ 5 ∧ i ≠ 6 := by decide) : ST (r.set i x) p q u v n k := by
  obtain ⟨h1, h2, h3, h4, h5⟩ := hi
  refine ⟨by rw [List.length_set]; exact h.l, ?_, ?_, ?_, ?_, ?_⟩
  · rw [List.getElem?_set_ne h1]; exact h.d
  · rw [List.getElem?_set_ne h2]; exact h.a
  · rw [List.getElem?_set_ne h3]; exact h.b
  · rw [List.getElem?_set_ne h4]; exact h.n
  · rw [List.getElem?_set_ne h5]; exact h.k
theorem ST.got (h : ST r p q u v n k) (i : Nat) (x : D) (hi : i < 22 := by decide) : (r.set i (some x))[i]? = some (some x) := List.getElem?_set_self (by rw [h.l]; exact hi)
theorem ix0_of {m : M1 D} {p q : Int} {r : Ren} {s : Sto} (h : m r s = .ok (rD p q) s) : mOp opIx m (mC (.int 0)) r s = .ok (.int p) s := by
  rw [q_op2 h (y := .int 0) (s2 := s) rfl, r_ix0]
theorem ix1_of {m : M1 D} {p q : Int} {r : Ren} {s : Sto} (h : m r s = .ok (rD p q) s) : mOp opIx m (mC (.int 1)) r s = .ok (.int q) s := by
  rw [q_op2 h (y := .int 1) (s2 := s) rfl, r_ix1]
theorem ST.va (h : ST r p q u v n k) : mVar 3 r s = .ok (rD p q) s := q_var h.a
theorem ST.vb (h : ST r p q u v n k) : mVar 4 r s = .ok (rD u v) s := q_var h.b
theorem ST.vk (h : ST r p q u v n k) : mVar 6 r s = .ok (.int (k : Int)) s := q_var h.k
theorem ST.a0 (h : ST r p q u v n k) : mOp opIx (mVar 3) (mC (.int 0)) r s = .ok (.int p) s := ix0_of h.va
theorem ST.a1 (h : ST r p q u v n k) : mOp opIx (mVar 3) (mC (.int 1)) r s = .ok (.int q) s := ix1_of h.va
theorem ST.b0 (h : ST r p q u v n k) : mOp opIx (mVar 4) (mC (.int 0)) r s = .ok (.int u) s := ix0_of h.vb
theorem ST.b1 (h : ST r p q u v n k) : mOp opIx (mVar 4) (mC (.int 1)) r s = .ok (.int v) s := ix1_of h.vb
theorem q_consN {m : M1 D} {ms : M1 (List D)} {r : Ren} {s : Sto} {d : D} {ds : List D} (h : m r s = .ok d s) (h' : ms r s = .ok ds s) : mCons m ms r s = .ok (d :: ds) s := by
  show ((m r s).bind fun d s1 => (ms r s1).bind fun ds s2 => Res.ok (d :: ds) s2) = _
  rw [h, Res.bind_ok, h', Res.bind_ok]
theorem q_lst {ms : M1 (List D)} {r : Ren} {s s' : Sto} {ds : List D} (h : ms r s = .ok ds s') (hl : ds.length ≤ 100) : mLst ms r s = .ok (.lst ds) s' := by
  unfold mLst
  rw [h, Res.bind_ok, if_pos (Nat.le_trans hl (by decide))]
theorem q_tupN {ms : M1 (List D)} {r : Ren} {s s' : Sto} {ds : List D} (h : ms r s = .ok ds s') (hl : ds.length ≤ 100) : mTup ms r s = .ok (.tup ds) s' := q_tup h (Nat.le_trans hl (by decide))
theorem q_ifT {α : Type} {t : M1 Bool} {a b : M1 α} {r : Ren} {s s1 : Sto} {y : Res α} (h : t r s = .ok true s1) (ha : a r s1 = y) : mIf t a b r s = y := by
  show (t r s).bind _ = _
  rw [h, Res.bind_ok, if_pos rfl, ha]
theorem q_ifF {α : Type} {t : M1 Bool} {a b : M1 α} {r : Ren} {s s1 : Sto} {y : Res α} (h : t r s = .ok false s1) (ha : b r s1 = y) : mIf t a b r s = y := by
  show (t r s).bind _ = _
  rw [h, Res.bind_ok, if_neg (by decide), ha]
theorem r_addL {a b : List D} (h : a.length + b.length ≤ 1000) : opAdd (.lst a) (.lst b) s = .ok (.lst (a ++ b)) s := by
  show (if a.length + b.length ≤ sizeLine then _ else _) = _
  rw [if_pos (Nat.le_trans h (by decide))]
theorem q_notB {m : M1 Bool} {r : Ren} {s s1 : Sto} {b : Bool} (h : m r s = .ok b s1) : mNot m r s = .ok (!b) s1 := by
  show (m r s).bind _ = _
  rw [h]
  rfl
theorem q_orF {a b : M1 Bool} {r : Ren} {s s1 : Sto} {y : Res Bool} (h : a r s = .ok false s1) (h' : b r s1 = y) : mOr a b r s = y := by
  show (a r s).bind _ = _
  rw [h, Res.bind_ok, if_neg (by decide), h']
/-- if not same(..): return False -/
theorem skip_if {t : M1 Bool} {n1 : MS} {r : Ren} {s s1 : Sto} (h : t r s = .ok false s1) : mIfS t n1 mNext r s = .nx r s1 := (if_f h).trans rfl
def ovD (p q u v : Int) : D := if u = 0 then .str "refused 3" else rd (p * v) (q * u)
def cmpI (p q u v : Int) : Int := (if u * q < p * v then 1 else 0) - (if p * v < u * q then 1 else 0)
def D1 (p q u v : Int) : List D := [rd (p * v + u * q) (q * v), rd (p * v - u * q) (q * v), rd (p * u) (q * v), ovD p q u v]
theorem T2_eq (st : ST r p q u v n k) (ha : Rs 900 p q) (hb : Rs 900 u v) : T2 r s = .nx (r.set 7 (some (.lst (D1 p q u v)))) s := by
  refine q_asgN (q_lst ?_ (by unfold D1; simp))
  have m1 := r_mulR (s := s) ha.sp hb.sq (by decide)
  have m2 := r_mulR (s := s) ha.sq hb.sp (by decide)
  have e1 : mCall m__law_add (mCons (mVar 3) (mCons (mVar 4) mNil)) r s = .ok (rd (p * v + u * q) (q * v)) s := by rw [q_call2 st.va st.vb, lawadd_eq ha hb]
  have e2 : mCall m__law_sub (mCons (mVar 3) (mCons (mVar 4) mNil)) r s = .ok (rd (p * v - u * q) (q * v)) s := by rw [q_call2 st.va st.vb, lawsub_eq ha hb]
  have e3 : mCall m__law_mul (mCons (mVar 3) (mCons (mVar 4) mNil)) r s = .ok (rd (p * u) (q * v)) s := by rw [q_call2 st.va st.vb, lawmul_eq ha hb]
  have c : mB (mOp opNe (mOp opIx (mVar 4) (mC (.int 0))) (mC (.int 0))) r s = .ok (!(u == 0)) s := by
    refine q_B ?_
    rw [q_op2 st.b0 (y := .int 0) (s2 := s) rfl, r_ne]
  have e4 : mIf (mB (mOp opNe (mOp opIx (mVar 4) (mC (.int 0))) (mC (.int 0)))) (mCall m__law_r (mCons (mOp opMul (mOp opIx (mVar 3) (mC (.int 0))) (mOp opIx (mVar 4) (mC (.int 1)))) (mCons (mOp opMul (mOp opIx (mVar 3) (mC (.int 1))) (mOp opIx (mVar 4) (mC (.int 0)))) mNil))) (mC (.str "refused 3")) r s = .ok (ovD p q u v) s := by
    by_cases h0 : u = 0
    · refine q_ifF (s1 := s) (c.trans (by subst h0; rfl)) ?_
      unfold ovD
      rw [if_pos h0]
      rfl
    · refine q_ifT (s1 := s) (c.trans (by have : (u == 0) = false := by simpa using h0
                                          rw [this]; rfl)) ?_
      have g1 := (q_op2 (f := opMul) (st.a0 (s := s)) (st.b1 (s := s))).trans m1
      have g2 := (q_op2 (f := opMul) (st.a1 (s := s)) (st.b0 (s := s))).trans m2
      rw [q_call2 g1 g2, lawr_eq s (mulne ha.q0 h0) (sm_le (sm_mul ha.sp hb.sq) (by decide)) (sm_le (sm_mul ha.sq hb.sp) (by decide))]
      unfold ovD
      rw [if_neg h0]
  exact q_consN e1 (q_consN e2 (q_consN e3 (q_consN e4 rfl)))
theorem T3_eq (st : ST r p q u v n k) (ha : Rs 900 p q) (hb : Rs 900 u v) (h7 : r[7]? = some (some (.lst (D1 p q u v)))) : T3 r s = .nx (r.set 7 (some (.lst (D1 p q u v ++ [.int (cmpI p q u v), rD p q])))) s := by
  refine q_asgN ?_
  have c1 : mB (mCall m__law_less (mCons (mVar 4) (mCons (mVar 3) mNil))) r s = .ok (decide (u * q < p * v)) s := by
    refine q_B ?_
    rw [q_call2 st.vb st.va, lawless_eq hb ha]
  have c2 : mB (mCall m__law_less (mCons (mVar 3) (mCons (mVar 4) mNil))) r s = .ok (decide (p * v < u * q)) s := by
    refine q_B ?_
    rw [q_call2 st.va st.vb, lawless_eq ha hb]
  have i1 : mIf (mB (mCall m__law_less (mCons (mVar 4) (mCons (mVar 3) mNil)))) (mC (.int 1)) (mC (.int 0)) r s = .ok (.int (if u * q < p * v then 1 else 0)) s := by
    by_cases e : u * q < p * v
    · rw [if_pos e]; exact q_ifT (c1.trans (by rw [decide_eq_true e])) rfl
    · rw [if_neg e]; exact q_ifF (c1.trans (by rw [decide_eq_false e])) rfl
  have i2 : mIf (mB (mCall m__law_less (mCons (mVar 3) (mCons (mVar 4) mNil)))) (mC (.int 1)) (mC (.int 0)) r s = .ok (.int (if p * v < u * q then 1 else 0)) s := by
    by_cases e : p * v < u * q
    · rw [if_pos e]; exact q_ifT (c2.trans (by rw [decide_eq_true e])) rfl
    · rw [if_neg e]; exact q_ifF (c2.trans (by rw [decide_eq_false e])) rfl
  have i3 := (q_op2 (f := opSub) i1 i2).trans r_sub
  have i4 := q_lst (q_consN i3 (q_cons1 (st.va (s := s)))) (by simp)
  rw [q_op2 (q_var h7) i4, r_addL (by unfold D1; simp)]
  rfl
theorem nm_rD (n d : Int) : (rD n d).nm = true := rfl
theorem nm_ov : (ovD p q u v).nm = true := by
  unfold ovD
  split <;> rfl
theorem told_over (ha : Rs 900 p q) (hb : Rs 900 u v) : Told (m_over [rD p q, rD u v] s) (ovD p q u v) s := by
  unfold ovD
  by_cases h0 : u = 0
  · subst h0
    rw [over_0 ha hb, if_pos rfl]
    exact .err (by decide)
  · rw [over_eq ha hb h0, if_neg h0]
    exact .ok rfl
theorem Told.of {R : Res D} {d : D} {s : Sto} (h : R = .ok d s) (hn : d.nm = true := by rfl) : Told R d s := by rw [h]; exact .ok hn
theorem Told.no {R : Res D} {s : Sto} (h : R = .err "NotRight" s) : Told R (.str "refused 1") s := by rw [h]; exact .err (by decide)
theorem T4_eq (st : ST r p q u v n k) (ha : Rs 900 p q) (hb : Rs 900 u v) : T4 r s = .nx (r.set 8 (some (.lst (D1 p q u v ++ [.int (cmpI p q u v), rD p q])))) s := by
  refine q_asgN ?_
  have st2 : ∀ d : D, ST ((r.set 20 none).set 20 (some d)) p q u v n k := fun d => (st.set 20 none).set 20 (some d)
  have g20 : ∀ d : D, mVar 20 ((r.set 20 none).set 20 (some d)) s = .ok d s := fun d => q_var ((st.set 20 none).got 20 d)
  have ab : ∀ d : D, mTup (mCons (mVar 3) (mCons (mVar 4) mNil)) ((r.set 20 none).set 20 (some d)) s = .ok (.tup [rD p q, rD u v]) s := fun d => q_tupN (q_consN (st2 d).va (q_consN (st2 d).vb rfl)) (by simp)
  have el : ∀ (w : Int) (y : D), m__law_told [.int w, .tup [rD p q, rD u v]] s = .ok y s → mCall m__law_told (mCons (mVar 20) (mCons (mTup (mCons (mVar 3) (mCons (mVar 4) mNil))) mNil)) ((r.set 20 none).set 20 (some (.int w))) s = .ok y s := fun w y h => by rw [q_call2 (g20 _) (ab _), h]
  have L : mLc (mRng1 (mCons (mC (.int 5)) mNil)) [20] (gN 20) mYes (mCall m__law_told (mCons (mVar 20) (mCons (mTup (mCons (mVar 3) (mCons (mVar 4) mNil))) mNil))) r s = .ok (.lst (D1 p q u v ++ [.int (cmpI p q u v)])) s := by
    refine mLc_of (ds := [.int 0, .int 1, .int 2, .int 3, .int 4]) rfl ?_
    refine Eq.trans (lcL_step (el 0 _ (told0 (.of (plus_eq ha hb)))) (small_lt (by simp))) ?_
    refine Eq.trans (lcL_step (el 1 _ (told1 (.of (minus_eq ha hb)))) (small_lt (by simp))) ?_
    refine Eq.trans (lcL_step (el 2 _ (told2 (.of (times_eq ha hb)))) (small_lt (by simp))) ?_
    refine Eq.trans (lcL_step (el 3 _ (told3 (told_over ha hb))) (small_lt (by simp))) ?_
    refine Eq.trans (lcL_step (el 4 _ (told4 (.of (compare_eq ha hb)))) (small_lt (by simp))) ?_
    exact lcL_nil
  have m1 := r_mulR (s := s) (m := 4) ha.sp (j := 6) (by decide) (by decide)
  have m2 := r_mulR (s := s) (m := 4) ha.sq (j := 6) (by decide) (by decide)
  have e6 : rd (p * 6) (q * 6) = rD p q := rd_of (mulne ha.q0 (by decide)) ha.rt (by ac_rfl)
  have t6 : mCall m__law_told (mCons (mC (.int 5)) (mCons (mTup (mCons (mOp opMul (mOp opIx (mVar 3) (mC (.int 0))) (mC (.int 6))) (mCons (mOp opMul (mOp opIx (mVar 3) (mC (.int 1))) (mC (.int 6))) mNil))) mNil)) r s = .ok (rD p q) s := by
    have g1 : mOp opMul (mOp opIx (mVar 3) (mC (.int 0))) (mC (.int 6)) r s = .ok (.int (p * 6)) s := by rw [q_op2 st.a0 (y := .int 6) (s2 := s) rfl, m1]
    have g2 : mOp opMul (mOp opIx (mVar 3) (mC (.int 1))) (mC (.int 6)) r s = .ok (.int (q * 6)) s := by rw [q_op2 st.a1 (y := .int 6) (s2 := s) rfl, m2]
    rw [q_call2 (d := .int 5) (s1 := s) rfl (q_tupN (q_consN g1 (q_consN g2 rfl)) (by simp)), ← e6]
    exact told5 (.of (ratio_eq (mulne ha.q0 (by decide)) (sm_le (sm_mul ha.sp (m := 4) (j := 6) (by decide)) (by decide)) (sm_le (sm_mul ha.sq (m := 4) (j := 6) (by decide)) (by decide))))
  rw [q_op2 L (q_lst (q_consN t6 rfl) (by simp)), r_addL (by unfold D1; simp), List.append_assoc]
  rfl
end
end K00

set_option Elab.async false
set_option linter.all false
set_option maxRecDepth 100000
set_option maxHeartbeats 2000000
set_option exponentiation.threshold 20000
namespace K00
open PySem PySem.Spec PyProof.Rows L2 DL
section
variable {r : Ren} {p q u v n : Int} {k : Nat} {s : Sto}
theorem same_ov : SameR 5 (ovD p q u v) (ovD p q u v) true := by
  unfold ovD
  split
  · exact sameS 4 _
  · exact sameD 3 _ _
theorem T5_eq (st : ST r p q u v n k) (ha : Rs 900 p q) (h7 : r[7]? = some (some (.lst (D1 p q u v ++ [.int (cmpI p q u v), rD p q])))) (h8 : r[8]? = some (some (.lst (D1 p q u v ++ [.int (cmpI p q u v), rD p q])))) : T5 r s = .nx r s := by
  have S1 : SameR 6 (.lst (D1 p q u v ++ [.int (cmpI p q u v), rD p q])) (.lst (D1 p q u v ++ [.int (cmpI p q u v), rD p q])) true :=
    same_lst (.cons (sameD 3 _ _) (.cons (sameD 3 _ _) (.cons (sameD 3 _ _) (.cons same_ov (.cons (sameI 4 _) (.cons (sameD 3 _ _) .nil)))))) (by unfold D1; simp)
  have S2 : SameR 6 (rD p q) (rD p q) true := sameD 4 p q
  have e1 : mCall (m__law_same 6) (mCons (mVar 8) (mCons (mVar 7) mNil)) r s = .ok (.bl true) s := by rw [q_call2 (q_var h8) (q_var h7), S1]
  have m1 := r_mulR (s := s) (m := 5) ha.sp (j := 9) (by decide) (by decide)
  have m2 := r_mulR (s := s) (m := 5) ha.sq (j := 9) (by decide) (by decide)
  have e9 : rd (0 - p * 9) (0 - q * 9) = rD p q := rd_of (by have := mulne ha.q0 (show (9 : Int) ≠ 0 by decide); omega) ha.rt (by
    rw [Int.zero_sub, Int.zero_sub, Int.mul_neg, Int.neg_mul, ← Int.mul_assoc, Int.mul_right_comm])
  have g1 : mOp opSub (mC (.int 0)) (mOp opMul (mOp opIx (mVar 3) (mC (.int 0))) (mC (.int 9))) r s = .ok (.int (0 - p * 9)) s := by
    rw [q_op2 (x := .int 0) (s1 := s) rfl ((q_op2 (f := opMul) (st.a0 (s := s)) (b := mC (.int 9)) (y := .int 9) (s2 := s) rfl).trans m1), r_sub]
  have g2 : mOp opSub (mC (.int 0)) (mOp opMul (mOp opIx (mVar 3) (mC (.int 1))) (mC (.int 9))) r s = .ok (.int (0 - q * 9)) s := by
    rw [q_op2 (x := .int 0) (s1 := s) rfl ((q_op2 (f := opMul) (st.a1 (s := s)) (b := mC (.int 9)) (y := .int 9) (s2 := s) rfl).trans m2), r_sub]
  have z1 : Sm 4000 (0 - p * 9) := by
    rw [Int.zero_sub]
    exact sm_le (sm_neg (sm_mul ha.sp (m := 5) (j := 9) (by decide))) (by decide)
  have z2 : Sm 4000 (0 - q * 9) := by
    rw [Int.zero_sub]
    exact sm_le (sm_neg (sm_mul ha.sq (m := 5) (j := 9) (by decide))) (by decide)
  have t9 : mCall m__law_told (mCons (mC (.int 5)) (mCons (mTup (mCons (mOp opSub (mC (.int 0)) (mOp opMul (mOp opIx (mVar 3) (mC (.int 0))) (mC (.int 9)))) (mCons (mOp opSub (mC (.int 0)) (mOp opMul (mOp opIx (mVar 3) (mC (.int 1))) (mC (.int 9)))) mNil))) mNil)) r s = .ok (rD p q) s := by
    rw [q_call2 (d := .int 5) (s1 := s) rfl (q_tupN (q_consN g1 (q_cons1 g2)) (by simp)), ← e9]
    exact told5 (.of (ratio_eq (by have := mulne ha.q0 (show (9 : Int) ≠ 0 by decide); omega) z1 z2))
  have e2 := (q_call2 (f := m__law_same 6) t9 (st.va (s := s))).trans (S2 s)
  exact skip_if (q_orF (q_notB (q_B e1)) (q_notB (q_B e2)))
theorem T6_eq (st : ST r p q u v n k) (ha : Rs 900 p q) : T6 r s = .nx (r.set 9 (some (.int (p.fdiv q)))) s := by
  refine q_asgN ?_
  rw [q_op2 st.a0 st.a1, r_fdiv (cdiv ha.q0 (sm_le ha.sq (by decide)))]
theorem ceil_form (hq : 0 < q) : -((-p).fdiv q) = if p.fdiv q * q = p then p.fdiv q else p.fdiv q + 1 := by
  rw [Int.fdiv_eq_ediv_of_nonneg _ (by omega), Int.fdiv_eq_ediv_of_nonneg _ (by omega)]
  have h := Int.mul_ediv_add_emod p q
  have h1 := Int.emod_nonneg p (show q ≠ 0 by omega)
  have h2 := Int.emod_lt_of_pos p hq
  generalize p / q = a at *
  generalize p % q = b at *
  by_cases e : b = 0
  · subst e
    have hp : p = q * a := by omega
    rw [if_pos (by rw [hp, Int.mul_comm])]
    have : -p = q * (-a) := by rw [hp, Int.mul_neg]
    rw [this, Int.mul_ediv_cancel_left _ (by omega)]
    omega
  · rw [if_neg (by rw [Int.mul_comm]; omega)]
    have : -p = (q - b) + q * (-a - 1) := by
      rw [Int.mul_sub, Int.mul_neg, Int.mul_one]
      omega
    rw [this, Int.add_mul_ediv_left _ _ (by omega), Int.ediv_eq_zero_of_lt (by omega) (by omega)]
    omega
theorem T7_eq (st : ST r p q u v n k) (ha : Rs 900 p q) (h9 : r[9]? = some (some (.int (p.fdiv q)))) (hs : Sm 1000 (p.fdiv q)) : T7 r s = .nx (r.set 10 (some (.int (-((-p).fdiv q))))) s := by
  refine q_asgN ?_
  have m1 := (q_op2 (f := opMul) (q_var h9 (s := s)) (st.a1 (s := s))).trans (r_mulR hs ha.sq (by decide))
  have c : mB (mOp opEq (mOp opMul (mVar 9) (mOp opIx (mVar 3) (mC (.int 1)))) (mOp opIx (mVar 3) (mC (.int 0)))) r s = .ok (p.fdiv q * q == p) s := by
    refine q_B ?_
    rw [q_op2 m1 st.a0, r_eq]
  rw [ceil_form ha.rt.pos]
  by_cases e : p.fdiv q * q = p
  · rw [if_pos e]
    exact q_ifT (c.trans (by rw [show (p.fdiv q * q == p) = true from by simpa using e])) (q_var h9)
  · rw [if_neg e]
    refine q_ifF (c.trans (by rw [show (p.fdiv q * q == p) = false from by simpa using e])) ?_
    rw [q_op2 (q_var h9) (y := .int 1) (s2 := s) rfl, r_add]
theorem ten500 {i : Int} {m : Nat} (h : Sm m i) (hm : m ≤ 100) : i.natAbs < 10 ^ 500 := Nat.lt_of_lt_of_le (sm_le h hm) (Nat.le_trans (Nat.pow_le_pow_left (by decide) 100) (Nat.pow_le_pow_right (by decide) (by decide)))
theorem T8_eq (st : ST r p q u v n k) (ha : Rs 100 p q) : T8 r s = .nx (r.set 11 (some (.str (shownS p q)))) s := by
  refine q_asgN ?_
  have c : mB (mOp opEq (mOp opIx (mVar 3) (mC (.int 1))) (mC (.int 1))) r s = .ok (q == 1) s := by
    refine q_B ?_
    rw [q_op2 st.a1 (y := .int 1) (s2 := s) rfl, r_eq]
  have g1 := q_str (st.a0 (s := s)) (Nat.lt_trans ha.sp (Nat.pow_lt_pow_right (by decide) (by decide)))
  have g2 := q_str (st.a1 (s := s)) (Nat.lt_trans ha.sq (Nat.pow_lt_pow_right (by decide) (by decide)))
  have l1 := tx_len (k := 500) (by decide) (ten500 ha.sp (Nat.le_refl _))
  have l2 := tx_len (k := 500) (by decide) (ten500 ha.sq (Nat.le_refl _))
  have l3 : (Str.ofString "/").length = 1 := by rw [len_tl, tl_sl]; rfl
  have l4 : (tx p ++ "/").length ≤ 502 := by rw [len_tl, tl_app, List.length_append, ← len_tl, ← len_tl, l3]; omega
  unfold shownS
  by_cases e : q = 1
  · rw [if_pos e]
    exact q_ifT (c.trans (by rw [show (q == 1) = true from by simpa using e])) g1
  · rw [if_neg e]
    refine q_ifF (c.trans (by rw [show (q == 1) = false from by simpa using e])) ?_
    have g3 : mOp opAdd (mStr (mOp opIx (mVar 3) (mC (.int 0)))) (mC (.str "/")) r s = .ok (.str (tx p ++ "/")) s := by
      rw [q_op2 g1 (y := .str "/") (s2 := s) rfl, r_addS (small_size (by omega))]
    rw [q_op2 g3 g2, r_addS (small_size (by omega))]
theorem T9_eq (st : ST r p q u v n k) (ha : Rs 100 p q) (hk : k ≤ 40) (h9 : r[9]? = some (some (.int (p.fdiv q)))) (h10 : r[10]? = some (some (.int (-((-p).fdiv q))))) (h11 : r[11]? = some (some (.str (shownS p q)))) : T9 r s = .nx r s := by
  have h900 := ha.more (show 100 ≤ 900 by decide)
  have t1 : mTup (mCons (mVar 3) mNil) r s = .ok (.tup [rD p q]) s := q_tupN (q_cons1 st.va) (by simp)
  have t2 : mTup (mCons (mVar 6) mNil) r s = .ok (.tup [.int (k : Int)]) s := q_tupN (q_cons1 st.vk) (by simp)
  have e6 : mCall m__law_told (mCons (mC (.int 6)) (mCons (mTup (mCons (mVar 3) mNil)) mNil)) r s = .ok (.int (p.fdiv q)) s := by
    rw [q_call2 (d := .int 6) (s1 := s) rfl t1]
    exact told6 (.of (floor_eq h900))
  have e7 : mCall m__law_told (mCons (mC (.int 7)) (mCons (mTup (mCons (mVar 3) mNil)) mNil)) r s = .ok (.int (-((-p).fdiv q))) s := by
    rw [q_call2 (d := .int 7) (s1 := s) rfl t1]
    exact told7 (.of (ceil_eq h900))
  have e8 : mCall m__law_told (mCons (mC (.int 8)) (mCons (mTup (mCons (mVar 3) mNil)) mNil)) r s = .ok (.str (shownS p q)) s := by
    rw [q_call2 (d := .int 8) (s1 := s) rfl t1]
    exact told8 (.of (shown_eq s h900 (ten500 ha.sp (Nat.le_refl _)) (ten500 ha.sq (Nat.le_refl _))))
  have e9 : mCall m__law_told (mCons (mC (.int 9)) (mCons (mTup (mCons (mVar 6) mNil)) mNil)) r s = .ok (rD 1 (2 ^ k)) s := by
    rw [q_call2 (d := .int 9) (s1 := s) rfl t2]
    exact told9 (.of (halved_eq s (by omega)))
  have et : mCall m__law_twos (mCons (mVar 6) mNil) r s = .ok (.int (2 ^ k)) s := by rw [q_call1 st.vk, twos_eq s (by omega)]
  have tt : mTup (mCons (mC (.int 1)) (mCons (mCall m__law_twos (mCons (mVar 6) mNil)) mNil)) r s = .ok (rD 1 (2 ^ k)) s := q_tupN (q_consN rfl (q_cons1 et)) (by simp)
  have L1 := q_lst (q_consN e6 (q_consN e7 (q_consN e8 (q_cons1 e9)))) (by simp)
  have L2 := q_lst (q_consN (q_var h9 (s := s)) (q_consN (q_var h10) (q_consN (q_var h11) (q_cons1 tt)))) (by simp)
  generalize (2 : Int) ^ k = A at *
  have S1 : SameR 6 (.lst [.int (p.fdiv q), .int (-((-p).fdiv q)), .str (shownS p q), rD 1 A]) (.lst [.int (p.fdiv q), .int (-((-p).fdiv q)), .str (shownS p q), rD 1 A]) true :=
    same_lst (.cons (sameI 4 _) (.cons (sameI 4 _) (.cons (sameS 4 _) (.cons (sameD 3 _ _) .nil)))) (by simp)
  exact skip_if (q_notB (q_B ((q_call2 (f := m__law_same 6) L1 L2).trans (S1 s))))
def upD (p q n : Int) : D := if 0 ≤ n then rD (p ^ n.toNat) (q ^ n.toNat) else if p = 0 then .non else rD (rdN q p ^ (-n).toNat) (rdD q p ^ (-n).toNat)
theorem T10_eq (st : ST r p q u v n k) (ha : Rs 20 p q) (hn1 : -4 ≤ n) (hn2 : n ≤ 7) : T10 r s = .nx (r.set 12 (some (upD p q n))) s := by
  refine q_asgN ?_
  have vn : mVar 5 r s = .ok (.int n) s := q_var st.n
  have c : mB (mOp opGe (mVar 5) (mC (.int 0))) r s = .ok (decide (0 ≤ n)) s := by
    refine q_B ?_
    rw [q_op2 vn (y := .int 0) (s2 := s) rfl, r_ge]
  unfold upD
  by_cases e : 0 ≤ n
  · rw [if_pos e]
    refine q_ifT (c.trans (by rw [decide_eq_true e])) ?_
    have := lawpower_eq (n := n.toNat) s ha (by omega)
    rw [show ((n.toNat : Nat) : Int) = n from by omega] at this
    rw [q_call2 st.va vn, this]
  · rw [if_neg e]
    refine q_ifF (c.trans (by rw [decide_eq_false e])) ?_
    have c2 : mB (mOp opEq (mOp opIx (mVar 3) (mC (.int 0))) (mC (.int 0))) r s = .ok (p == 0) s := by
      refine q_B ?_
      rw [q_op2 st.a0 (y := .int 0) (s2 := s) rfl, r_eq]
    by_cases e2 : p = 0
    · rw [if_pos e2]
      exact q_ifT (c2.trans (by rw [show (p == 0) = true from by simpa using e2])) rfl
    · rw [if_neg e2]
      refine q_ifF (c2.trans (by rw [show (p == 0) = false from by simpa using e2])) ?_
      have g1 : mCall m__law_r (mCons (mOp opIx (mVar 3) (mC (.int 1))) (mCons (mOp opIx (mVar 3) (mC (.int 0))) mNil)) r s = .ok (rd q p) s := by
        rw [q_call2 st.a1 st.a0, lawr_eq s e2 (sm_le ha.sq (by decide)) (sm_le ha.sp (by decide))]
      have g2 : mOp opSub (mC (.int 0)) (mVar 5) r s = .ok (.int (0 - n)) s := by rw [q_op2 (x := .int 0) (s1 := s) rfl vn, r_sub]
      have := lawpower_eq (n := (-n).toNat) s (rs_rd e2 ha.sq ha.sp) (by omega)
      rw [show (((-n).toNat : Nat) : Int) = 0 - n from by omega] at this
      rw [q_call2 g1 g2, this]
theorem T11_eq (st : ST r p q u v n k) (ha : Rs 20 p q) (hn1 : -4 ≤ n) (hn2 : n ≤ 7) (h12 : r[12]? = some (some (upD p q n))) : T11 r s = .nx r s := by
  have vn : mVar 5 r s = .ok (.int n) s := q_var st.n
  have v12 : mVar 12 r s = .ok (upD p q n) s := q_var h12
  have tp : mTup (mCons (mVar 3) (mCons (mVar 5) mNil)) r s = .ok (.tup [rD p q, .int n]) s := q_tupN (q_consN st.va (q_cons1 vn)) (by simp)
  have key : ∃ x : D, SameR 6 x x true ∧ m__law_told [.int 11, .tup [rD p q, .int n]] s = .ok x s ∧ mIf (mB (mOp opIsN (mVar 12) (mC .non))) (mC (.str "refused 3")) (mVar 12) r s = .ok x s := by
    have cN : upD p q n = .non → mB (mOp opIsN (mVar 12) (mC .non)) r s = .ok true s := fun e => by
      refine q_B ?_
      rw [q_op2 v12 (y := .non) (s2 := s) rfl, e]
      rfl
    have cF : upD p q n ≠ .non → mB (mOp opIsN (mVar 12) (mC .non)) r s = .ok false s := fun e => by
      refine q_B ?_
      rw [q_op2 v12 (y := .non) (s2 := s) rfl, opIsN_f s e]
    by_cases e : 0 ≤ n
    · have hu : upD p q n = rD (p ^ n.toNat) (q ^ n.toNat) := by unfold upD; rw [if_pos e]
      refine ⟨_, sameD 4 (p ^ n.toNat) (q ^ n.toNat), ?_, ?_⟩
      · have := power_pos (n := n.toNat) s ha (by omega)
        rw [show ((n.toNat : Nat) : Int) = n from by omega] at this
        exact told11 (.of this)
      · refine q_ifF (cF (by rw [hu]; exact fun z => nomatch z)) ?_
        rw [v12, hu]
    · by_cases e2 : p = 0
      · have hu : upD p q n = .non := by unfold upD; rw [if_neg e, if_pos e2]
        refine ⟨_, sameS 5 "refused 3", ?_, q_ifT (cN hu) rfl⟩
        subst e2
        have := power_0 (m := (-n).toNat) s ha (by omega) (by omega)
        rw [show -(((-n).toNat : Nat) : Int) = n from by omega] at this
        exact told11 (by rw [this]; exact .err (by decide))
      · have hu : upD p q n = rD (rdN q p ^ (-n).toNat) (rdD q p ^ (-n).toNat) := by unfold upD; rw [if_neg e, if_neg e2]
        refine ⟨_, sameD 4 (rdN q p ^ (-n).toNat) (rdD q p ^ (-n).toNat), ?_, ?_⟩
        · have := power_neg (m := (-n).toNat) s ha e2 (by omega) (by omega)
          rw [show -(((-n).toNat : Nat) : Int) = n from by omega, rdpow e2] at this
          exact told11 (.of this)
        · refine q_ifF (cF (by rw [hu]; exact fun z => nomatch z)) ?_
          rw [v12, hu]
  obtain ⟨x, S1, h1, h2⟩ := key
  have e1 : mCall m__law_told (mCons (mC (.int 11)) (mCons (mTup (mCons (mVar 3) (mCons (mVar 5) mNil))) mNil)) r s = .ok x s := by rw [q_call2 (d := .int 11) (s1 := s) rfl tp, h1]
  exact skip_if (q_notB (q_B ((q_call2 (f := m__law_same 6) e1 h2).trans (S1 s))))
theorem T12_eq (st : ST r p q u v n k) (ha : Rs 100 p q) (hk : k ≤ 40) : T12 r s = .nx (r.set 13 (some (.int (p * 2 ^ k)))) s := by
  refine q_asgN ?_
  have et : mCall m__law_twos (mCons (mVar 6) mNil) r s = .ok (.int (2 ^ k)) s := by rw [q_call1 st.vk, twos_eq s (by omega)]
  have z := sm_pow (n := 2) (a := 2) (by decide) k
  generalize (2 : Int) ^ k = A at *
  rw [q_op2 st.a0 et, r_mulR ha.sp z (by omega)]
theorem T13_eq (st : ST r p q u v n k) (ha : Rs 100 p q) (hk : k ≤ 40) (h13 : r[13]? = some (some (.int (p * 2 ^ k)))) : T13 r s = .nx ((r.set 14 (some (rd ((p * 2 ^ k).fdiv q) (2 ^ k)))).set 15 (some (rd (-((-p * 2 ^ k).fdiv q)) (2 ^ k)))) s := by
  have et : mCall m__law_twos (mCons (mVar 6) mNil) r s = .ok (.int (2 ^ k)) s := by rw [q_call1 st.vk, twos_eq s (by omega)]
  have z := sm_pow (n := 2) (a := 2) (by decide) k
  have hne := pow2_ne k
  have fs : ∀ i : Int, (i.fdiv q).natAbs ≤ i.natAbs + 1 := fun i => by
    rw [Int.fdiv_eq_ediv_of_nonneg _ (by have := ha.rt.pos; omega)]
    exact Nat.le_succ_of_le (Int.natAbs_ediv_le_natAbs i q)
  have f1 := fs (p * 2 ^ k)
  have f2 := fs (-p * 2 ^ k)
  generalize (2 : Int) ^ k = A at *
  have zp := sm_mul ha.sp z
  have zn := sm_mul (sm_neg ha.sp) z
  have up : ∀ {m : Nat} {i j : Int}, Sm m i → j.natAbs ≤ i.natAbs + 1 → Sm (m + 1) j := fun {m i j} h1 h2 => by
    unfold Sm at *
    rw [Nat.pow_succ]
    have : 1 ≤ 2 ^ m := Nat.pow_pos (by decide)
    omega
  have cd : ∀ i : Int, CDivG i q := fun i => cdiv ha.q0 (sm_le ha.sq (by decide))
  have g1 : mOp opFdiv (mVar 13) (mOp opIx (mVar 3) (mC (.int 1))) r s = .ok (.int ((p * A).fdiv q)) s := by rw [q_op2 (q_var h13) st.a1, r_fdiv (cd _)]
  have e1 : mCall m__law_r (mCons (mOp opFdiv (mVar 13) (mOp opIx (mVar 3) (mC (.int 1)))) (mCons (mCall m__law_twos (mCons (mVar 6) mNil)) mNil)) r s = .ok (rd ((p * A).fdiv q) A) s := by
    rw [q_call2 g1 et, lawr_eq s hne (sm_le (up zp f1) (by omega)) (sm_le z (by omega))]
  have g2 : mOp opSub (mC (.int 0)) (mVar 13) r s = .ok (.int (-p * A)) s := by
    rw [q_op2 (x := .int 0) (s1 := s) rfl (q_var h13), r_sub, Int.zero_sub, Int.neg_mul]
  have g3 : mOp opSub (mC (.int 0)) (mOp opFdiv (mOp opSub (mC (.int 0)) (mVar 13)) (mOp opIx (mVar 3) (mC (.int 1)))) r s = .ok (.int (-((-p * A).fdiv q))) s := by
    rw [q_op2 (x := .int 0) (s1 := s) rfl ((q_op2 (f := opFdiv) g2 (st.a1 (s := s))).trans (r_fdiv (cd _))), r_sub, Int.zero_sub]
  have e2 : mCall m__law_r (mCons (mOp opSub (mC (.int 0)) (mOp opFdiv (mOp opSub (mC (.int 0)) (mVar 13)) (mOp opIx (mVar 3) (mC (.int 1))))) (mCons (mCall m__law_twos (mCons (mVar 6) mNil)) mNil)) r s = .ok (rd (-((-p * A).fdiv q)) A) s := by
    rw [q_call2 g3 et, lawr_eq s hne (sm_le (sm_neg (up zn f2)) (by omega)) (sm_le z (by omega))]
  exact q_par e1 e2
theorem T14_eq (st : ST r p q u v n k) (ha : Rs 100 p q) (hk : k ≤ 40) (h14 : r[14]? = some (some (rd ((p * 2 ^ k).fdiv q) (2 ^ k)))) (h15 : r[15]? = some (some (rd (-((-p * 2 ^ k).fdiv q)) (2 ^ k)))) : T14 r s = .nx r s := by
  have h900 := ha.more (show 100 ≤ 900 by decide)
  have tp : mTup (mCons (mVar 3) (mCons (mVar 6) mNil)) r s = .ok (.tup [rD p q, .int (k : Int)]) s := q_tupN (q_consN st.va (q_cons1 st.vk)) (by simp)
  have w12 := told12 (zs := []) (Told.of (downto_eq (k := k) s h900 (by omega)))
  have w13 := told13 (zs := []) (Told.of (upto_eq (k := k) s h900 (by omega)))
  have w14 := told14 (zs := []) (Told.of (decof_eq (k := k) s ha (by omega)))
  have wl := lawdec_eq (k := k) s ha (by omega)
  have hd : 0 < k → lawdec p q k = decS p q k := fun h => dec_same ha.rt.pos h
  generalize (2 : Int) ^ k = A at *
  generalize lawdec p q k = Y at *
  generalize decS p q k = Z at *
  have e1 : mCall m__law_told (mCons (mC (.int 12)) (mCons (mTup (mCons (mVar 3) (mCons (mVar 6) mNil))) mNil)) r s = .ok (rd ((p * A).fdiv q) A) s := by rw [q_call2 (d := .int 12) (s1 := s) rfl tp, w12]
  have e2 : mCall m__law_told (mCons (mC (.int 13)) (mCons (mTup (mCons (mVar 3) (mCons (mVar 6) mNil))) mNil)) r s = .ok (rd (-((-p * A).fdiv q)) A) s := by rw [q_call2 (d := .int 13) (s1 := s) rfl tp, w13]
  have e3 : mCall m__law_told (mCons (mC (.int 14)) (mCons (mTup (mCons (mVar 3) (mCons (mVar 6) mNil))) mNil)) r s = .ok (.str Z) s := by rw [q_call2 (d := .int 14) (s1 := s) rfl tp, w14]
  have e4 : mCall m__law_decimal (mCons (mVar 3) (mCons (mVar 6) mNil)) r s = .ok (.str Y) s := by rw [q_call2 st.va st.vk, wl]
  have L1 := q_lst (q_consN e1 (q_consN e2 (q_cons1 e3))) (by simp)
  have L2 := q_lst (q_consN (q_var h14 (s := s)) (q_consN (q_var h15) (q_cons1 e4))) (by simp)
  have S1 : SameR 6 (.lst [rd ((p * A).fdiv q) A, rd (-((-p * A).fdiv q)) A, .str Z]) (.lst [rd ((p * A).fdiv q) A, rd (-((-p * A).fdiv q)) A, .str Y]) (true && (true && ((Z == Y) && true))) :=
    same_lst (.cons (sameD 3 _ _) (.cons (sameD 3 _ _) (.cons (same_str 4 Z Y) .nil))) (by simp)
  have c1 := q_notB (q_B ((q_call2 (f := m__law_same 6) L1 L2).trans (S1 s)))
  refine skip_if ?_
  show (Res.bind (mNot _ _ s) _) = _
  rw [c1, Res.bind_ok]
  by_cases h0 : 0 < k
  · have : (Z == Y) = true := by rw [hd h0]; simp
    rw [this]
    rfl
  · have ck : mB (mOp opGt (mVar 6) (mC (.int 0))) r s = .ok false s := by
      refine q_B ?_
      rw [q_op2 st.vk (y := .int 0) (s2 := s) rfl, r_gt, decide_eq_false (by omega)]
    cases (Z == Y)
    · exact ck
    · rfl
end
end K00

set_option Elab.async false
set_option linter.all false
set_option maxRecDepth 100000
set_option maxHeartbeats 2000000
set_option exponentiation.threshold 20000
namespace K00
open PySem PySem.Spec PyProof.Rows L2 DL
section
variable {r : Ren} {p q u v n : Int} {k : Nat} {s : Sto}
theorem q_consS {m : M1 D} {ms : M1 (List D)} {r : Ren} {s s1 s2 : Sto} {d : D} {ds : List D} (h : m r s = .ok d s1) (h' : ms r s1 = .ok ds s2) : mCons m ms r s = .ok (d :: ds) s2 := by
  show ((m r s).bind fun d s1 => (ms r s1).bind fun ds s2 => Res.ok (d :: ds) s2) = _
  rw [h, Res.bind_ok, h', Res.bind_ok]
theorem T1_eq {ds : List D} (hl : r.length = 22) (h1 : r[1]? = some (some (.ml 0))) (h : IntL ds) : ∃ (p q u v n : Int) (k : Nat) (r' : Ren) (ds' : List D), Rs 20 p q ∧ Rs 20 u v ∧ -4 ≤ n ∧ n ≤ 7 ∧ k < 40 ∧ IntL ds' ∧ ST r' p q u v n k ∧ T1 r [ds] = .nx r' [ds'] := by
  obtain ⟨p, q, ds1, ra, i1, e1⟩ := any_eq h
  obtain ⟨u, v, ds2, rb, i2, e2⟩ := any_eq i1
  obtain ⟨n0, ds3, n1, n2, i3, e3⟩ := take_eq (b := 12) i2 (by decide)
  obtain ⟨k0, ds4, k1, k2, i4, e4⟩ := take_eq (b := 40) i3 (by decide)
  have hk : k0 = ((k0.toNat : Nat) : Int) := by omega
  refine ⟨p, q, u, v, n0 - 4, k0.toNat, (((r.set 3 (some (rD p q))).set 4 (some (rD u v))).set 5 (some (.int (n0 - 4)))).set 6 (some (.int (k0.toNat : Int))), ds4, ra, rb, by omega, by omega, by omega, i4, ?_, ?_⟩
  · refine ⟨by simp [hl], ?_, ?_, ?_, ?_, ?_⟩
    · simpa using h1
    · simp [hl]
    · simp [hl]
    · simp [hl]
    · simp [hl]
  · have b1 : mCall m__law_any (mCons (mVar 1) mNil) r [ds] = .ok (rD p q) [ds1] := by rw [q_call1 (q_var h1), e1]
    have b2 : mCall m__law_any (mCons (mVar 1) mNil) r [ds1] = .ok (rD u v) [ds2] := by rw [q_call1 (q_var h1), e2]
    have b3 : mOp opSub (mCall m__law_take (mCons (mVar 1) (mCons (mC (.int 12)) mNil))) (mC (.int 4)) r [ds2] = .ok (.int (n0 - 4)) [ds3] := by
      have : mCall m__law_take (mCons (mVar 1) (mCons (mC (.int 12)) mNil)) r [ds2] = .ok (.int n0) [ds3] := by rw [q_call2 (q_var h1) (e := .int 12) (s2 := [ds2]) rfl, e3]
      rw [q_op2 this (y := .int 4) (s2 := [ds3]) rfl, r_sub]
    have b4 : mCall m__law_take (mCons (mVar 1) (mCons (mC (.int 40)) mNil)) r [ds3] = .ok (.int (k0.toNat : Int)) [ds4] := by
      rw [← hk, q_call2 (q_var h1) (e := .int 40) (s2 := [ds3]) rfl, e4]
    have b5 := q_tupN (q_consS b1 (q_consS b2 (q_consS b3 (q_cons1 b4)))) (by simp)
    show (Res.st (mTup _ r [ds]) _ _) = _
    rw [b5]
    rfl
theorem T15_eq {ds : List D} (st : ST r p q u v n k) (ha : Rs 20 p q) (h : IntL ds) : ∃ (N : Int) (ds' : List D), Sm 300 N ∧ IntL ds' ∧ T15 r [ds] = .nx (r.set 16 (some (.int N))) [ds'] := by
  obtain ⟨t0, ds1, t1, t2, i1, e1⟩ := take_eq (b := 1000) h (by decide)
  have hp : Sm 20 (p.natAbs : Int) := by have := ha.sp; unfold Sm at *; rw [Int.natAbs_natCast]; exact this
  have a0 : ∀ s : Sto, mAbs (mOp opIx (mVar 3) (mC (.int 0))) r s = .ok (.int (p.natAbs : Int)) s := fun s => by
    unfold mAbs
    rw [q_call1 st.a0]
    show Res.ok (D.int (if p < 0 then -p else p)) s = _
    rw [absI]
  have tw := twos_eq (n := 90) [ds1] (by decide)
  have z90 := sm_pow (n := 2) (a := 2) (by decide) 90
  generalize (2 : Int) ^ 90 = A at *
  generalize (p.natAbs : Int) = P at *
  have b1 : mCall m__law_take (mCons (mVar 1) (mCons (mC (.int 1000)) mNil)) r [ds] = .ok (.int t0) [ds1] := by rw [q_call2 (q_var st.d) (e := .int 1000) (s2 := [ds]) rfl, e1]
  have b2 := (q_op2 (f := opMul) (a0 [ds1]) (a0 [ds1])).trans (r_mulR hp hp (by decide))
  have b3 : mOp opSub (mOp opMul (mAbs (mOp opIx (mVar 3) (mC (.int 0)))) (mAbs (mOp opIx (mVar 3) (mC (.int 0))))) (mC (.int 1)) r [ds1] = .ok (.int (P * P - 1)) [ds1] := by rw [q_op2 b2 (y := .int 1) (s2 := [ds1]) rfl, r_sub]
  have b4 : mCall m__law_twos (mCons (mC (.int 90)) mNil) r [ds1] = .ok (.int A) [ds1] := by rw [q_call1 (d := .int 90) (s1 := [ds1]) rfl]; exact tw
  have b5 := (q_op2 (f := opMul) (a0 [ds1]) b4).trans (r_mulR hp z90 (by decide))
  have L := q_lst (q_consS b1 (q_consS b2 (q_consS b3 (q_cons1 b5)))) (by simp)
  obtain ⟨x, ds2, hx, i2, e2⟩ := pick_eq (xs := [.int t0, .int (P * P), .int (P * P - 1), .int (P * A)]) i1 (by simp) (by simp) (by intro x hx; simp only [List.mem_cons, List.not_mem_nil, or_false] at hx; rcases hx with rfl | rfl | rfl | rfl <;> rfl)
  have hN : ∃ N : Int, x = .int N ∧ Sm 300 N := by
    simp only [List.mem_cons, List.not_mem_nil, or_false] at hx
    rcases hx with rfl | rfl | rfl | rfl
    · refine ⟨t0, rfl, ?_⟩
      have : (1000 : Nat) < 2 ^ 300 := by decide
      show t0.natAbs < 2 ^ 300
      omega
    · exact ⟨_, rfl, sm_le (sm_mul hp hp) (by decide)⟩
    · exact ⟨_, rfl, sm_le (sm_sub (sm_mul hp hp) (m := 2) (j := 1) (by decide)) (by decide)⟩
    · exact ⟨_, rfl, sm_le (sm_mul hp z90) (by decide)⟩
  obtain ⟨N, rfl, hN⟩ := hN
  refine ⟨N, ds2, hN, i2, q_asgN ?_⟩
  have e3 : mCall m__law_pick (mCons (mVar 1) (mCons (mLst (mCons (mCall m__law_take (mCons (mVar 1) (mCons (mC (.int 1000)) mNil))) (mCons (mOp opMul (mAbs (mOp opIx (mVar 3) (mC (.int 0)))) (mAbs (mOp opIx (mVar 3) (mC (.int 0))))) (mCons (mOp opSub (mOp opMul (mAbs (mOp opIx (mVar 3) (mC (.int 0)))) (mAbs (mOp opIx (mVar 3) (mC (.int 0))))) (mC (.int 1))) (mCons (mOp opMul (mAbs (mOp opIx (mVar 3) (mC (.int 0)))) (mCall m__law_twos (mCons (mC (.int 90)) mNil))) mNil))))) mNil)) r [ds] = .ok (.int N) [ds2] := by
    rw [q_call2 (q_var st.d) L, e2]
  exact e3
theorem T16_eq {N : Int} (h16 : r[16]? = some (some (.int N))) : T16 r s = .nx (r.set 16 (some (.int (N.toNat : Int)))) s := by
  refine q_asgN ?_
  rw [q_max (i := 0) (s1 := s) rfl (q_var h16)]
  congr 2
  split <;> omega
theorem T17_18 {M : Nat} (st : ST r p q u v n k) (hM : M < 2 ^ 300) (h16 : r[16]? = some (some (.int (M : Int)))) : ∃ R : Nat, T17 r s = .nx (r.set 17 (some (.int (R : Int)))) s ∧ T18 (r.set 17 (some (.int (R : Int)))) s = .nx (r.set 17 (some (.int (R : Int)))) s := by
  obtain ⟨R, h1, h2, h3⟩ := least_eq (n := M) s (Nat.lt_trans hM (Nat.pow_lt_pow_right (by decide) (by decide)))
  have hR : R ≤ M := by
    rcases Nat.eq_zero_or_pos R with z | z
    · omega
    · exact Nat.le_trans (Nat.le_mul_of_pos_left R z) h1
  have sR : Sm 300 (R : Int) := by show ((R : Int)).natAbs < 2 ^ 300; rw [Int.natAbs_natCast]; omega
  have sR1 : Sm 303 ((R : Int) + 1) := sm_add sR (m := 2) (j := 1) (by decide)
  refine ⟨R, q_asgN ?_, ?_⟩
  · rw [q_call2 (d := .int 10) (s1 := s) rfl (q_tupN (q_cons1 (q_var h16)) (by simp))]
    exact told10 (.of h3)
  · have st2 := st.set 17 (some (.int (R : Int)))
    have v17 : mVar 17 (r.set 17 (some (.int (R : Int)))) s = .ok (.int (R : Int)) s := q_var (st.got 17 _)
    have v16 : mVar 16 (r.set 17 (some (.int (R : Int)))) s = .ok (.int (M : Int)) s := q_var (by rw [List.getElem?_set_ne (by decide)]; exact h16)
    have c1 : mB (mIsi .int (mVar 17)) (r.set 17 (some (.int (R : Int)))) s = .ok true s := by
      refine q_B ?_
      unfold mIsi
      rw [v17]
      rfl
    have m1 := (q_op2 (f := opMul) v17 v17).trans (r_mulR sR sR (by decide))
    have c2 : mB (mOp opGt (mOp opMul (mVar 17) (mVar 17)) (mVar 16)) (r.set 17 (some (.int (R : Int)))) s = .ok false s := by
      refine q_B ?_
      rw [q_op2 m1 v16, r_gt, decide_eq_false]
      have : ((R * R : Nat) : Int) ≤ (M : Int) := by omega
      rw [Int.natCast_mul] at this
      omega
    have a1 : mOp opAdd (mVar 17) (mC (.int 1)) (r.set 17 (some (.int (R : Int)))) s = .ok (.int ((R : Int) + 1)) s := by rw [q_op2 v17 (y := .int 1) (s2 := s) rfl, r_add]
    have m2 := (q_op2 (f := opMul) a1 a1).trans (r_mulR sR1 sR1 (by decide))
    have c3 : mB (mOp opLe (mOp opMul (mOp opAdd (mVar 17) (mC (.int 1))) (mOp opAdd (mVar 17) (mC (.int 1)))) (mVar 16)) (r.set 17 (some (.int (R : Int)))) s = .ok false s := by
      refine q_B ?_
      rw [q_op2 m2 v16, r_le, decide_eq_false]
      have : (M : Int) < (((R + 1) * (R + 1) : Nat) : Int) := by omega
      rw [Int.natCast_mul] at this
      have e : ((R + 1 : Nat) : Int) = (R : Int) + 1 := by omega
      rw [e] at this
      omega
    exact skip_if (q_orF (q_notB c1) (q_orF c2 c3))
/-! ### what is no ratio -/
theorem Bad.of {d : D} (h : d = .non ∨ d = .int 1 ∨ d = .tup [.int 1] ∨ d = rD 2 4 ∨ d = rD 1 0 ∨ d = rD 1 (-2) ∨ d = .tup [.bl true, .int 1] ∨ d = .lst [.int 1, .int 2] ∨ d = .tup [.str "1", .int 2] ∨ d = .tup [.int 1, .int 2, .int 3]) : Bad d := fun s => by
  rcases h with h | h | h | h | h | h | h | h | h | h
  · exact isr_bad s (.inl h)
  · exact isr_bad s (.inr (.inl h))
  · exact isr_bad s (.inr (.inr (.inl h)))
  · subst h; exact isr_24 s
  · exact isr_bad s (.inr (.inr (.inr (.inl h))))
  · exact isr_bad s (.inr (.inr (.inr (.inr (.inl h)))))
  · exact isr_bad s (.inr (.inr (.inr (.inr (.inr (.inl h))))))
  · exact isr_bad s (.inr (.inr (.inr (.inr (.inr (.inr (.inl h)))))))
  · exact isr_bad s (.inr (.inr (.inr (.inr (.inr (.inr (.inr (.inl h))))))))
  · exact isr_bad s (.inr (.inr (.inr (.inr (.inr (.inr (.inr (.inr h))))))))
theorem T19_eq {ds : List D} (st : ST r p q u v n k) (h : IntL ds) : ∃ (x : D) (ds' : List D), Bad x ∧ IntL ds' ∧ T19 r [ds] = .nx (r.set 18 (some x)) [ds'] := by
  obtain ⟨x, ds2, hx, i2, e2⟩ := pick_eq (xs := [.non, .int 1, .tup [.int 1], rD 2 4, rD 1 0, rD 1 (-2), .tup [.bl true, .int 1], .lst [.int 1, .int 2], .tup [.str "1", .int 2], .tup [.int 1, .int 2, .int 3]]) h (by simp) (by simp) (by
    intro x hx
    simp only [List.mem_cons, List.not_mem_nil, or_false] at hx
    rcases hx with rfl | rfl | rfl | rfl | rfl | rfl | rfl | rfl | rfl | rfl <;> rfl)
  refine ⟨x, ds2, Bad.of (by simpa only [List.mem_cons, List.not_mem_nil, or_false] using hx), i2, q_asgN ?_⟩
  have L : mLst (mCons (mC .non) (mCons (mC (.int 1)) (mCons (mTup (mCons (mC (.int 1)) mNil)) (mCons (mTup (mCons (mC (.int 2)) (mCons (mC (.int 4)) mNil))) (mCons (mTup (mCons (mC (.int 1)) (mCons (mC (.int 0)) mNil))) (mCons (mTup (mCons (mC (.int 1)) (mCons (mNeg (mC (.int 2))) mNil))) (mCons (mTup (mCons (mC (.bl true)) (mCons (mC (.int 1)) mNil))) (mCons (mLst (mCons (mC (.int 1)) (mCons (mC (.int 2)) mNil))) (mCons (mTup (mCons (mC (.str "1")) (mCons (mC (.int 2)) mNil))) (mCons (mTup (mCons (mC (.int 1)) (mCons (mC (.int 2)) (mCons (mC (.int 3)) mNil)))) mNil)))))))))) r [ds] = .ok (.lst [.non, .int 1, .tup [.int 1], rD 2 4, rD 1 0, rD 1 (-2), .tup [.bl true, .int 1], .lst [.int 1, .int 2], .tup [.str "1", .int 2], .tup [.int 1, .int 2, .int 3]]) [ds] := by rfl
  rw [q_call2 (q_var st.d) L, e2]
theorem T20_eq {x : D} (st : ST r p q u v n k) (ha : Rs 900 p q) (hx : Bad x) (h18 : r[18]? = some (some x)) : T20 r s = .nx r s := by
  have c1 : mB (mOp opNotN (mCall m_is_ratio (mCons (mVar 18) mNil)) (mC (.bl false))) r s = .ok false s := by
    refine q_B ?_
    rw [q_op2 ((q_call1 (q_var h18)).trans (hx s)) (y := .bl false) (s2 := s) rfl]
    rfl
  have c2 : mB (mOp opNotN (mCall m_is_ratio (mCons (mVar 3) mNil)) (mC (.bl true))) r s = .ok false s := by
    refine q_B ?_
    rw [q_op2 ((q_call1 st.va).trans (isr_ok ha.rt s)) (y := .bl true) (s2 := s) rfl]
    rfl
  exact skip_if (q_orF c1 c2)
end
end K00

set_option Elab.async false
set_option linter.all false
set_option maxRecDepth 100000
set_option maxHeartbeats 2000000
set_option exponentiation.threshold 20000
namespace K00
open PySem PySem.Spec PyProof.Rows L2 DL
section
variable {r : Ren} {p q u v n : Int} {k : Nat} {s : Sto}
theorem q_exprE {m : M1 D} {r : Ren} {s s1 : Sto} {c : Str} (h : m r s = .err c s1) : mExpr m r s = .ex c r s1 := by
  show (m r s).st r _ = _
  rw [h]
  rfl
theorem chk2 {x y : D} {r : Ren} {s : Sto} {R : Res D} (h0 : r[0]? = some (some x)) (h1 : r[1]? = some (some y)) (h : m_check_ratios [x, y] s = R) : mCall m_check_ratios (mCons (mVar 0) (mCons (mVar 1) mNil)) r s = R := by
  rw [q_call2 (q_var h0) (q_var h1), h]
theorem chk1 {x : D} {r : Ren} {s : Sto} {R : Res D} (h0 : r[0]? = some (some x)) (h : m_check_ratios [x] s = R) : mCall m_check_ratios (mCons (mVar 0) mNil) r s = R := by
  rw [q_call1 (q_var h0), h]

theorem plusB {x y : D} (h : m_check_ratios [x, y] s = .err "NotRight" s) : m_plus [x, y] s = .err "NotRight" s := by
  refine run_ex (r := [some x, some y]) ?_ rfl
  unfold mb_plus
  exact seq_ex (q_exprE (chk2 rfl rfl h))
theorem minusB {x y : D} (h : m_check_ratios [x, y] s = .err "NotRight" s) : m_minus [x, y] s = .err "NotRight" s := by
  refine run_ex (r := [some x, some y]) ?_ rfl
  unfold mb_minus
  exact seq_ex (q_exprE (chk2 rfl rfl h))
theorem timesB {x y : D} (h : m_check_ratios [x, y] s = .err "NotRight" s) : m_times [x, y] s = .err "NotRight" s := by
  refine run_ex (r := [some x, some y]) ?_ rfl
  unfold mb_times
  exact seq_ex (q_exprE (chk2 rfl rfl h))
theorem overB {x y : D} (h : m_check_ratios [x, y] s = .err "NotRight" s) : m_over [x, y] s = .err "NotRight" s := by
  refine run_ex (r := [some x, some y]) ?_ rfl
  unfold mb_over
  exact seq_ex (q_exprE (chk2 rfl rfl h))
theorem compareB {x y : D} (h : m_check_ratios [x, y] s = .err "NotRight" s) : m_compare [x, y] s = .err "NotRight" s := by
  refine run_ex (r := [some x, some y]) ?_ rfl
  unfold mb_compare
  exact seq_ex (q_exprE (chk2 rfl rfl h))
theorem floor_ofB {x : D} (h : m_check_ratios [x] s = .err "NotRight" s) : m_floor_of [x] s = .err "NotRight" s := by
  refine run_ex (r := [some x]) ?_ rfl
  unfold mb_floor_of
  exact seq_ex (q_exprE (chk1 rfl h))
theorem ceiling_ofB {x : D} (h : m_check_ratios [x] s = .err "NotRight" s) : m_ceiling_of [x] s = .err "NotRight" s := by
  refine run_ex (r := [some x]) ?_ rfl
  unfold mb_ceiling_of
  exact seq_ex (q_exprE (chk1 rfl h))
theorem shown_ratioB {x : D} (h : m_check_ratios [x] s = .err "NotRight" s) : m_shown_ratio [x] s = .err "NotRight" s := by
  refine run_ex (r := [some x]) ?_ rfl
  unfold mb_shown_ratio
  exact seq_ex (q_exprE (chk1 rfl h))
theorem within_q {y : D} {lo hi : M1 D} {a b : Int} {r : Ren} {s : Sto} {R : Res D} (h1 : r[1]? = some (some y)) (hl : lo r s = .ok (.int a) s) (hh : hi r s = .ok (.int b) s) (h : m_is_within [y, .int a, .int b] s = R) : mCall m_is_within (mCons (mVar 1) (mCons lo (mCons hi mNil))) r s = R := by
  show (mCons (mVar 1) _ r s).bind _ = _
  rw [q_consN (q_var h1) (q_consN hl (q_cons1 hh)), Res.bind_ok, h]
theorem powerB {x y : D} (h : m_check_ratios [x] s = .err "NotRight" s) : m_power [x, y] s = .err "NotRight" s := by
  refine run_ex (r := [some x, some y]) ?_ rfl
  unfold mb_power
  exact seq_ex (q_exprE (chk1 rfl h))
theorem powerW {x y : D} (h : m_check_ratios [x] s = .ok .non s) (hw : m_is_within [y, .int (-400), .int 400] s = .ok (.bl false) s) : m_power [x, y] s = .err "NotRight" s := by
  refine run_ex (r := [some x, some y]) ?_ rfl
  unfold mb_power
  refine Eq.trans (seq_nx (q_exprN (r := [some x, some y]) (chk1 rfl h))) (seq_ex (q_exprE ?_))
  rw [q_call1 (within_q (y := y) (a := (-400)) (b := 400) rfl rfl rfl hw)]
  exact check_f s
theorem down_toB {x y : D} (h : m_check_ratios [x] s = .err "NotRight" s) : m_down_to [x, y] s = .err "NotRight" s := by
  refine run_ex (r := [some x, some y]) ?_ rfl
  unfold mb_down_to
  exact seq_ex (q_exprE (chk1 rfl h))
theorem down_toW {x y : D} (h : m_check_ratios [x] s = .ok .non s) (hw : m_is_within [y, .int 0, .int 20000] s = .ok (.bl false) s) : m_down_to [x, y] s = .err "NotRight" s := by
  refine run_ex (r := [some x, some y]) ?_ rfl
  unfold mb_down_to
  refine Eq.trans (seq_nx (q_exprN (r := [some x, some y]) (chk1 rfl h))) (seq_ex (q_exprE ?_))
  rw [q_call1 (within_q (y := y) (a := 0) (b := 20000) rfl rfl rfl hw)]
  exact check_f s
theorem up_toB {x y : D} (h : m_check_ratios [x] s = .err "NotRight" s) : m_up_to [x, y] s = .err "NotRight" s := by
  refine run_ex (r := [some x, some y]) ?_ rfl
  unfold mb_up_to
  exact seq_ex (q_exprE (chk1 rfl h))
theorem up_toW {x y : D} (h : m_check_ratios [x] s = .ok .non s) (hw : m_is_within [y, .int 0, .int 20000] s = .ok (.bl false) s) : m_up_to [x, y] s = .err "NotRight" s := by
  refine run_ex (r := [some x, some y]) ?_ rfl
  unfold mb_up_to
  refine Eq.trans (seq_nx (q_exprN (r := [some x, some y]) (chk1 rfl h))) (seq_ex (q_exprE ?_))
  rw [q_call1 (within_q (y := y) (a := 0) (b := 20000) rfl rfl rfl hw)]
  exact check_f s
theorem decimal_ofB {x y : D} (h : m_check_ratios [x] s = .err "NotRight" s) : m_decimal_of [x, y] s = .err "NotRight" s := by
  refine run_ex (r := [some x, some y]) ?_ rfl
  unfold mb_decimal_of
  exact seq_ex (q_exprE (chk1 rfl h))
theorem decimal_ofW {x y : D} (h : m_check_ratios [x] s = .ok .non s) (hw : m_is_within [y, .int 0, .int 400] s = .ok (.bl false) s) : m_decimal_of [x, y] s = .err "NotRight" s := by
  refine run_ex (r := [some x, some y]) ?_ rfl
  unfold mb_decimal_of
  refine Eq.trans (seq_nx (q_exprN (r := [some x, some y]) (chk1 rfl h))) (seq_ex (q_exprE ?_))
  rw [q_call1 (within_q (y := y) (a := 0) (b := 400) rfl rfl rfl hw)]
  exact check_f s
theorem ratio_0 (s : Sto) : m_ratio [.int 1, .int 0] s = .err "NotRight" s := by
  refine run_ex (r := [some (.int 1), some (.int 0)]) ?_ rfl
  unfold mb_ratio
  have e : ((0 : Int) == 0) = true := rfl
  simp only [rD, cst0, cst1, cst2, cst3, mSeq, mAsg, mPar, mRet, mOp, mVar, mC, mCons, mNil, mIfS, mB, mIf, mNeg, mNotV, mNot, mAnd, mOr, mAndV, mOrV, mCall, mNext, mExpr, mRetN, mRaise, gN, startR, mInt, mAbs, mLen, f1, f2, gInt, gAbs, gLen, mChain, D.sqO, D.lsO, mBreak, mIsi, D.kd, Kd.isi, List.map_cons, List.map_nil, List.length_cons, List.length_nil, Nat.reduceAdd, Nat.reduceSub, Nat.zero_add, List.reduceReplicate, List.replicate_zero, List.replicate_succ, List.cons_append, List.nil_append, List.append_nil, List.getElem?_cons_zero, List.getElem?_cons_succ, List.set_cons_zero, List.set_cons_succ, Res.bind_ok, Res.bind_err, Res.bind_bad, Res.st_ok, Res.st_err, Res.st_bad, SR.seq_nx, SR.seq_rt, SR.seq_ex, SR.seq_bk, SR.seq_ct, SR.seq_bad, r_add, r_sub, r_lt, r_le, r_gt, r_ge, r_eq, r_ne, r_eqB, r_neB, r_eqS, r_neS, r_ix0, r_ix1, if_true, if_false, ite_true, ite_false, Bool.false_eq_true, Bool.true_eq_false, Bool.not_true, Bool.not_false, decide_true, decide_false, reduceIte, reduceCtorEq, isint_int, e, check_f]
theorem ratio_N (s : Sto) : m_ratio [.non, .int 1] s = .err "NotRight" s := by
  refine run_ex (r := [some .non, some (.int 1)]) ?_ rfl
  unfold mb_ratio
  simp only [rD, cst0, cst1, cst2, cst3, mSeq, mAsg, mPar, mRet, mOp, mVar, mC, mCons, mNil, mIfS, mB, mIf, mNeg, mNotV, mNot, mAnd, mOr, mAndV, mOrV, mCall, mNext, mExpr, mRetN, mRaise, gN, startR, mInt, mAbs, mLen, f1, f2, gInt, gAbs, gLen, mChain, D.sqO, D.lsO, mBreak, mIsi, D.kd, Kd.isi, List.map_cons, List.map_nil, List.length_cons, List.length_nil, Nat.reduceAdd, Nat.reduceSub, Nat.zero_add, List.reduceReplicate, List.replicate_zero, List.replicate_succ, List.cons_append, List.nil_append, List.append_nil, List.getElem?_cons_zero, List.getElem?_cons_succ, List.set_cons_zero, List.set_cons_succ, Res.bind_ok, Res.bind_err, Res.bind_bad, Res.st_ok, Res.st_err, Res.st_bad, SR.seq_nx, SR.seq_rt, SR.seq_ex, SR.seq_bk, SR.seq_ct, SR.seq_bad, r_add, r_sub, r_lt, r_le, r_gt, r_ge, r_eq, r_ne, r_eqB, r_neB, r_eqS, r_neS, r_ix0, r_ix1, if_true, if_false, ite_true, ite_false, Bool.false_eq_true, Bool.true_eq_false, Bool.not_true, Bool.not_false, decide_true, decide_false, reduceIte, reduceCtorEq, isint_non, check_f]
abbrev R1 : D := .str "refused 1"
theorem bad2 {x y : D} (hx : Bad x) (p q : Int) (h : Rt p q) (s : Sto) : m_check_ratios [x, rD p q] s = .err "NotRight" s := checksB2 (.inl hx) (.inl hx) (.inr fun s => isr_ok h s) s
theorem bad2' {x : D} (hx : Bad x) (p q : Int) (h : Rt p q) (s : Sto) : m_check_ratios [rD p q, x] s = .err "NotRight" s := checksB2 (.inr hx) (.inr fun s => isr_ok h s) (.inl hx) s
theorem lc_items {i : Nat} {elt : M1 D} {r : Ren} {s : Sto} {xs : List D} {m : M1 (List D)} (hm : m r s = .ok xs s) (hl : xs.length ≤ 50) (h : ∀ d ∈ xs, elt ((r.set i none).set i (some d)) s = .ok R1 s) : mLc (mItS (mLst m)) [i] (gN i) mYes elt r s = .ok (.lst (xs.map fun _ => R1)) s :=
  lc_lst (fun _ => R1) (.inl (q_lst hm (by omega))) (Nat.le_trans hl (by decide)) h

theorem T21_eq {x : D} (st : ST r p q u v n k) (ha : Rs 900 p q) (hx : Bad x) (h18 : r[18]? = some (some x)) : T21 r s = .nx (r.set 19 (some (.lst (List.replicate 13 R1)))) s := by
  refine q_asgN ?_
  have st2 : ∀ d : D, ST ((r.set 20 none).set 20 (some d)) p q u v n k := fun d => (st.set 20 none).set 20 (some d)
  have g20 : ∀ d : D, mVar 20 ((r.set 20 none).set 20 (some d)) s = .ok d s := fun d => q_var ((st.set 20 none).got 20 d)
  have g18 : ∀ d : D, mVar 18 ((r.set 20 none).set 20 (some d)) s = .ok x s := fun d => q_var (by rw [List.getElem?_set_ne (by decide), List.getElem?_set_ne (by decide)]; exact h18)
  have L1 : mLc (mItS (mLst (mCons (mC (.int 0)) (mCons (mC (.int 1)) (mCons (mC (.int 2)) (mCons (mC (.int 3)) (mCons (mC (.int 4)) mNil))))))) [20] (gN 20) mYes (mCall m__law_told (mCons (mVar 20) (mCons (mTup (mCons (mVar 18) (mCons (mVar 3) mNil))) mNil))) r s = .ok (.lst [R1, R1, R1, R1, R1]) s := by
    refine lc_items (xs := [.int 0, .int 1, .int 2, .int 3, .int 4]) rfl (by simp) fun d hd => ?_
    rw [q_call2 (g20 d) (q_tupN (q_consN (g18 d) (q_cons1 (st2 d).va)) (by simp))]
    have hb := bad2 (y := x) hx p q ha.rt s
    simp only [List.mem_cons, List.not_mem_nil, or_false] at hd
    rcases hd with rfl | rfl | rfl | rfl | rfl
    · exact told0 (.no (plusB hb))
    · exact told1 (.no (minusB hb))
    · exact told2 (.no (timesB hb))
    · exact told3 (.no (overB hb))
    · exact told4 (.no (compareB hb))
  have L2 : mLc (mItS (mLst (mCons (mC (.int 0)) (mCons (mC (.int 1)) (mCons (mC (.int 2)) (mCons (mC (.int 3)) (mCons (mC (.int 4)) mNil))))))) [20] (gN 20) mYes (mCall m__law_told (mCons (mVar 20) (mCons (mTup (mCons (mVar 3) (mCons (mVar 18) mNil))) mNil))) r s = .ok (.lst [R1, R1, R1, R1, R1]) s := by
    refine lc_items (xs := [.int 0, .int 1, .int 2, .int 3, .int 4]) rfl (by simp) fun d hd => ?_
    rw [q_call2 (g20 d) (q_tupN (q_consN (st2 d).va (q_cons1 (g18 d))) (by simp))]
    have hb := bad2' hx p q ha.rt s
    simp only [List.mem_cons, List.not_mem_nil, or_false] at hd
    rcases hd with rfl | rfl | rfl | rfl | rfl
    · exact told0 (.no (plusB hb))
    · exact told1 (.no (minusB hb))
    · exact told2 (.no (timesB hb))
    · exact told3 (.no (overB hb))
    · exact told4 (.no (compareB hb))
  have L3 : mLc (mItS (mLst (mCons (mC (.int 6)) (mCons (mC (.int 7)) (mCons (mC (.int 8)) mNil))))) [20] (gN 20) mYes (mCall m__law_told (mCons (mVar 20) (mCons (mTup (mCons (mVar 18) mNil)) mNil))) r s = .ok (.lst [R1, R1, R1]) s := by
    refine lc_items (xs := [.int 6, .int 7, .int 8]) rfl (by simp) fun d hd => ?_
    rw [q_call2 (g20 d) (q_tupN (q_cons1 (g18 d)) (by simp))]
    have hb := checksB1 hx s
    simp only [List.mem_cons, List.not_mem_nil, or_false] at hd
    rcases hd with rfl | rfl | rfl
    · exact told6 (.no (floor_ofB hb))
    · exact told7 (.no (ceiling_ofB hb))
    · exact told8 (.no (shown_ratioB hb))
  have A1 := (q_op2 (f := opAdd) L1 L2).trans (r_addL (by simp))
  rw [q_op2 A1 L3, r_addL (by simp)]
  rfl
theorem T22_eq {x : D} (st : ST r p q u v n k) (ha : Rs 900 p q) (hx : Bad x) (h18 : r[18]? = some (some x)) (h19 : r[19]? = some (some (.lst (List.replicate 13 R1)))) : T22 r s = .nx (r.set 19 (some (.lst (List.replicate 21 R1)))) s := by
  refine q_asgN ?_
  have L1 : mLc (mItS (mLst (mCons (mC (.int 11)) (mCons (mC (.int 12)) (mCons (mC (.int 13)) (mCons (mC (.int 14)) mNil)))))) [20] (gN 20) mYes (mCall m__law_told (mCons (mVar 20) (mCons (mTup (mCons (mVar 18) (mCons (mC (.int 3)) mNil))) mNil))) r s = .ok (.lst [R1, R1, R1, R1]) s := by
    have g20 : ∀ d : D, mVar 20 ((r.set 20 none).set 20 (some d)) s = .ok d s := fun d => q_var ((st.set 20 none).got 20 d)
    have g18 : ∀ d : D, mVar 18 ((r.set 20 none).set 20 (some d)) s = .ok x s := fun d => q_var (by rw [List.getElem?_set_ne (by decide), List.getElem?_set_ne (by decide)]; exact h18)
    refine lc_items (xs := [.int 11, .int 12, .int 13, .int 14]) rfl (by simp) fun d hd => ?_
    rw [q_call2 (g20 d) (q_tupN (ds := [x, .int 3]) (q_consN (g18 d) rfl) (by simp))]
    have hb := checksB1 hx s
    simp only [List.mem_cons, List.not_mem_nil, or_false] at hd
    rcases hd with rfl | rfl | rfl | rfl
    · exact told11 (.no (powerB hb))
    · exact told12 (.no (down_toB hb))
    · exact told13 (.no (up_toB hb))
    · exact told14 (.no (decimal_ofB hb))
  have L2 : mLc (mItS (mLst (mCons (mC (.int 401)) (mCons (mNeg (mC (.int 401))) (mCons (mC .non) (mCons (mC (.bl true)) mNil)))))) [21] (gN 21) mYes (mCall m__law_told (mCons (mC (.int 11)) (mCons (mTup (mCons (mVar 3) (mCons (mVar 21) mNil))) mNil))) r s = .ok (.lst [R1, R1, R1, R1]) s := by
    have st2 : ∀ d : D, ST ((r.set 21 none).set 21 (some d)) p q u v n k := fun d => (st.set 21 none).set 21 (some d)
    have g21 : ∀ d : D, mVar 21 ((r.set 21 none).set 21 (some d)) s = .ok d s := fun d => q_var ((st.set 21 none).got 21 d)
    refine lc_items (xs := [.int 401, .int (-401), .non, .bl true]) rfl (by simp) fun d hd => ?_
    rw [q_call2 (d := .int 11) (s1 := s) rfl (q_tupN (q_consN (st2 d).va (q_cons1 (g21 d))) (by simp))]
    have hc := checks1 ha.rt s
    simp only [List.mem_cons, List.not_mem_nil, or_false] at hd
    rcases hd with rfl | rfl | rfl | rfl
    · exact told11 (.no (powerW hc (within_f s (by decide))))
    · exact told11 (.no (powerW hc (within_f s (by decide))))
    · exact told11 (.no (powerW hc (within_non s)))
    · exact told11 (.no (powerW hc (within_bl s)))
  have A1 := (q_op2 (f := opAdd) (q_var h19 (s := s)) L1).trans (r_addL (by simp))
  rw [q_op2 A1 L2, r_addL (by simp)]
  rfl
theorem T23_eq (st : ST r p q u v n k) (ha : Rs 900 p q) (h19 : r[19]? = some (some (.lst (List.replicate 21 R1)))) : T23 r s = .nx (r.set 19 (some (.lst (List.replicate 28 R1)))) s := by
  refine q_asgN ?_
  have hc := checks1 ha.rt s
  have L1 : mLc (mItS (mLst (mCons (mC (.int 12)) (mCons (mC (.int 13)) mNil)))) [20] (gN 20) mYes (mCall m__law_told (mCons (mVar 20) (mCons (mTup (mCons (mVar 3) (mCons (mNeg (mC (.int 1))) mNil))) mNil))) r s = .ok (.lst [R1, R1]) s := by
    have st2 : ∀ d : D, ST ((r.set 20 none).set 20 (some d)) p q u v n k := fun d => (st.set 20 none).set 20 (some d)
    have g20 : ∀ d : D, mVar 20 ((r.set 20 none).set 20 (some d)) s = .ok d s := fun d => q_var ((st.set 20 none).got 20 d)
    refine lc_items (xs := [.int 12, .int 13]) rfl (by simp) fun d hd => ?_
    rw [q_call2 (g20 d) (q_tupN (ds := [rD p q, .int (-1)]) (q_consN (st2 d).va rfl) (by simp))]
    simp only [List.mem_cons, List.not_mem_nil, or_false] at hd
    rcases hd with rfl | rfl
    · exact told12 (.no (down_toW hc (within_f s (by decide))))
    · exact told13 (.no (up_toW hc (within_f s (by decide))))
  have t1 : mCall m__law_told (mCons (mC (.int 14)) (mCons (mTup (mCons (mVar 3) (mCons (mC (.int 401)) mNil))) mNil)) r s = .ok R1 s := by
    rw [q_call2 (d := .int 14) (s1 := s) rfl (q_tupN (ds := [rD p q, .int 401]) (q_consN st.va rfl) (by simp))]
    exact told14 (.no (decimal_ofW hc (within_f s (by decide))))
  have t2 : mCall m__law_told (mCons (mC (.int 12)) (mCons (mTup (mCons (mVar 3) (mCons (mC (.int 20001)) mNil))) mNil)) r s = .ok R1 s := by
    rw [q_call2 (d := .int 12) (s1 := s) rfl (q_tupN (ds := [rD p q, .int 20001]) (q_consN st.va rfl) (by simp))]
    exact told12 (.no (down_toW hc (within_f s (by decide))))
  have t3 : mCall m__law_told (mCons (mC (.int 10)) (mCons (mTup (mCons (mNeg (mC (.int 1))) mNil)) mNil)) r s = .ok R1 s := by
    rw [q_call2 (d := .int 10) (s1 := s) rfl (q_tupN (ds := [.int (-1)]) rfl (by simp))]
    exact told10 (.no (least_neg s))
  have t4 : mCall m__law_told (mCons (mC (.int 5)) (mCons (mTup (mCons (mC (.int 1)) (mCons (mC (.int 0)) mNil))) mNil)) r s = .ok R1 s := by
    rw [q_call2 (d := .int 5) (s1 := s) rfl (q_tupN (ds := [.int 1, .int 0]) rfl (by simp))]
    exact told5 (.no (ratio_0 s))
  have t5 : mCall m__law_told (mCons (mC (.int 5)) (mCons (mTup (mCons (mC .non) (mCons (mC (.int 1)) mNil))) mNil)) r s = .ok R1 s := by
    rw [q_call2 (d := .int 5) (s1 := s) rfl (q_tupN (ds := [.non, .int 1]) rfl (by simp))]
    exact told5 (.no (ratio_N s))
  have L2 := q_lst (q_consN t1 (q_consN t2 (q_consN t3 (q_consN t4 (q_cons1 t5))))) (by simp)
  have A1 := (q_op2 (f := opAdd) (q_var h19 (s := s)) L1).trans (r_addL (by simp))
  rw [q_op2 A1 L2, r_addL (by simp)]
  rfl
theorem ne28 (s : Sto) : opNe (.lst (List.replicate 28 R1)) (.lst (List.replicate 28 R1)) s = .ok (.bl false) s := by
  have e : eqD [] (.lst (List.replicate 28 R1)) (.lst (List.replicate 28 R1)) = some true := by decide +kernel
  have e2 : eqD s (.lst (List.replicate 28 R1)) (.lst (List.replicate 28 R1)) = eqD [] (.lst (List.replicate 28 R1)) (.lst (List.replicate 28 R1)) := rfl
  unfold opNe
  rw [e2, e]
  rfl
theorem T24_eq (h19 : r[19]? = some (some (.lst (List.replicate 28 R1)))) : T24 r s = .nx r s := by
  have v19 : mVar 19 r s = .ok (.lst (List.replicate 28 R1)) s := q_var h19
  have e1 : mLen (mVar 19) r s = .ok (.int 28) s := by
    unfold mLen
    rw [q_call1 v19]
    rfl
  have e2 : mOp opMul (mLst (mCons (mC (.str "refused 1")) mNil)) (mLen (mVar 19)) r s = .ok (.lst (List.replicate 28 R1)) s := by
    rw [q_op2 (x := .lst [R1]) (s1 := s) rfl e1, r_mulL (by decide) (by decide) (by decide)]
    rfl
  refine skip_if (q_B ?_)
  rw [q_op2 v19 e2, ne28]
end
end K00

set_option Elab.async false
set_option linter.all false
set_option maxRecDepth 100000
set_option maxHeartbeats 2000000
set_option exponentiation.threshold 20000
namespace K00
open PySem PySem.Spec PyProof.Rows L2 DL
noncomputable abbrev TURN : MS := mSeq T1 (mSeq T2 (mSeq T3 (mSeq T4 (mSeq T5 (mSeq T6 (mSeq T7 (mSeq T8 (mSeq T9 (mSeq T10 (mSeq T11 (mSeq T12 (mSeq T13 (mSeq T14 (mSeq T15 (mSeq T16 (mSeq T17 (mSeq T18 (mSeq T19 (mSeq T20 (mSeq T21 (mSeq T22 (mSeq T23 T24))))))))))))))))))))))
theorem sne {r : Ren} {i j : Nat} {x : Option D} (h : i ≠ j := by decide) : (r.set i x)[j]? = r[j]? := List.getElem?_set_ne h
theorem fdiv_sm {p q : Int} (h : Rs 20 p q) : Sm 1000 (p.fdiv q) := by
  have := h.rt.pos
  rw [Int.fdiv_eq_ediv_of_nonneg _ (by omega)]
  exact sm_le (Nat.lt_of_le_of_lt (Int.natAbs_ediv_le_natAbs p q) h.sp) (by decide)
theorem turn_eq {r : Ren} {ds : List D} (hl : r.length = 22) (h1 : r[1]? = some (some (.ml 0))) (h : IntL ds) : ∃ (r' : Ren) (ds' : List D), r'.length = 22 ∧ r'[1]? = some (some (.ml 0)) ∧ IntL ds' ∧ TURN r [ds] = .nx r' [ds'] := by
  obtain ⟨p, q, u, v, n, k, r1, ds1, ra, rb, n1, n2, hk, i1, s1, E1⟩ := T1_eq hl h1 h
  have a900 := ra.more (show 20 ≤ 900 by decide)
  have a100 := ra.more (show 20 ≤ 100 by decide)
  have b900 := rb.more (show 20 ≤ 900 by decide)
  have E2 := T2_eq (s := [ds1]) s1 a900 b900
  have s2 := s1.set 7 (some (.lst (D1 p q u v)))
  have E3 := T3_eq (s := [ds1]) s2 a900 b900 (s1.got 7 _)
  have s3 := s2.set 7 (some (.lst (D1 p q u v ++ [.int (cmpI p q u v), rD p q])))
  have E4 := T4_eq (s := [ds1]) s3 a900 b900
  have s4 := s3.set 8 (some (.lst (D1 p q u v ++ [.int (cmpI p q u v), rD p q])))
  have E5 := T5_eq (s := [ds1]) s4 a900 ((sne).trans (s2.got 7 _)) (s3.got 8 _)
  generalize ((r1.set 7 (some (.lst (D1 p q u v)))).set 7 (some (.lst (D1 p q u v ++ [.int (cmpI p q u v), rD p q])))).set 8 (some (.lst (D1 p q u v ++ [.int (cmpI p q u v), rD p q]))) = r4 at *
  have E6 := T6_eq (s := [ds1]) s4 a900
  have s6 := s4.set 9 (some (.int (p.fdiv q)))
  have E7 := T7_eq (s := [ds1]) s6 a900 (s4.got 9 _) (fdiv_sm ra)
  have s7 := s6.set 10 (some (.int (-((-p).fdiv q))))
  have E8 := T8_eq (s := [ds1]) s7 a100
  have s8 := s7.set 11 (some (.str (shownS p q)))
  have E9 := T9_eq (s := [ds1]) s8 a100 (by omega) ((sne).trans ((sne).trans (s4.got 9 _))) ((sne).trans (s6.got 10 _)) (s7.got 11 _)
  generalize ((r4.set 9 (some (.int (p.fdiv q)))).set 10 (some (.int (-((-p).fdiv q))))).set 11 (some (.str (shownS p q))) = r8 at *
  have E10 := T10_eq (s := [ds1]) s8 ra n1 n2
  have s10 := s8.set 12 (some (upD p q n))
  have E11 := T11_eq (s := [ds1]) s10 ra n1 n2 (s8.got 12 _)
  have E12 := T12_eq (s := [ds1]) s10 a100 (by omega)
  have s12 := s10.set 13 (some (.int (p * 2 ^ k)))
  have E13 := T13_eq (s := [ds1]) s12 a100 (by omega) (s10.got 13 _)
  have s13 := (s12.set 14 (some (rd ((p * 2 ^ k).fdiv q) (2 ^ k)))).set 15 (some (rd (-((-p * 2 ^ k).fdiv q)) (2 ^ k)))
  have E14 := T14_eq (s := [ds1]) s13 a100 (by omega) ((sne).trans (s12.got 14 _)) ((s12.set 14 _).got 15 _)
  generalize (((r8.set 12 (some (upD p q n))).set 13 (some (.int (p * 2 ^ k)))).set 14 (some (rd ((p * 2 ^ k).fdiv q) (2 ^ k)))).set 15 (some (rd (-((-p * 2 ^ k).fdiv q)) (2 ^ k))) = r14 at *
  obtain ⟨N, ds2, hN, i2, E15⟩ := T15_eq s13 ra i1
  have s15 := s13.set 16 (some (.int N))
  have E16 := T16_eq (s := [ds2]) (s13.got 16 (.int N))
  have s16 := s15.set 16 (some (.int (N.toNat : Int)))
  obtain ⟨R, E17, E18⟩ := T17_18 (s := [ds2]) (M := N.toNat) s16 (by unfold Sm at hN; omega) (s15.got 16 _)
  have s17 := s16.set 17 (some (.int (R : Int)))
  obtain ⟨x, ds3, hx, i3, E19⟩ := T19_eq s17 i2
  have s19 := s17.set 18 (some x)
  have E20 := T20_eq (s := [ds3]) s19 a900 hx (s17.got 18 _)
  have E21 := T21_eq (s := [ds3]) s19 a900 hx (s17.got 18 _)
  have s21 := s19.set 19 (some (.lst (List.replicate 13 R1)))
  have E22 := T22_eq (s := [ds3]) s21 a900 hx ((sne).trans (s17.got 18 _)) (s19.got 19 _)
  have s22 := s21.set 19 (some (.lst (List.replicate 21 R1)))
  have E23 := T23_eq (s := [ds3]) s22 a900 (s21.got 19 _)
  have s23 := s22.set 19 (some (.lst (List.replicate 28 R1)))
  have E24 := T24_eq (s := [ds3]) (s22.got 19 _)
  refine ⟨_, ds3, s23.l, s23.d, i3, ?_⟩
  refine Eq.trans (seq_nx E1) (Eq.trans (seq_nx E2) (Eq.trans (seq_nx E3) (Eq.trans (seq_nx E4) (Eq.trans (seq_nx E5) (Eq.trans (seq_nx E6) (Eq.trans (seq_nx E7) (Eq.trans (seq_nx E8) (Eq.trans (seq_nx E9) (Eq.trans (seq_nx E10) (Eq.trans (seq_nx E11) (Eq.trans (seq_nx E12) (Eq.trans (seq_nx E13) (Eq.trans (seq_nx E14) (Eq.trans (seq_nx E15) (Eq.trans (seq_nx E16) (Eq.trans (seq_nx E17) (Eq.trans (seq_nx E18) (Eq.trans (seq_nx E19) (Eq.trans (seq_nx E20) (Eq.trans (seq_nx E21) (Eq.trans (seq_nx E22) (Eq.trans (seq_nx E23) E24))))))))))))))))))))))
theorem turns_eq {all : List D} : ∀ (ks : List D) (r : Ren) (ds : List D), r.length = 22 → r[1]? = some (some (.ml 0)) → IntL ds → ∃ (r' : Ren) (ds' : List D), IntL ds' ∧ loopF none all (gN 2) TURN ks r [ds] = .nx r' [ds']
  | [], r, ds, _, _, h => ⟨r, ds, h, by rw [loopF_nil]⟩
  | k :: ks, r, ds, hl, h1, h => by
    obtain ⟨r1, ds1, l1, d1, i1, e1⟩ := turn_eq (r := r.set 2 (some k)) (ds := ds) (by rw [List.length_set]; exact hl) ((sne).trans h1) h
    obtain ⟨r2, ds2, i2, e2⟩ := turns_eq ks r1 ds1 l1 d1 i1
    refine ⟨r2, ds2, i2, ?_⟩
    rw [loopF_cons, e1]
    exact e2
theorem law_plain (ns : List Int) (hl : ns.length ≤ 63) (hb : ∀ z ∈ ns, Builtin.Int.intBits z ≤ 1048576) : m_law [.frl (ns.map D.int)] [] = .ok (.bl true) [] := by
  obtain ⟨ds, i0, e0⟩ := draws_eq ns hl hb
  have A0 : mAsg (mCall m__law_draws (mCons (mVar 0) mNil)) (gN 1) (startR 22 [.frl (ns.map D.int)]) [] = .nx ((startR 22 [.frl (ns.map D.int)]).set 1 (some (.ml 0))) [ds] := by
    refine q_asgN ?_
    rw [q_call1 (d := .frl (ns.map D.int)) (s1 := []) rfl, e0]
  obtain ⟨r', ds', i1, e1⟩ := turns_eq (all := rngD 0 12) (rngD 0 12) ((startR 22 [.frl (ns.map D.int)]).set 1 (some (.ml 0))) ds rfl rfl i0
  have A1 : mFor (mRng1 (mCons (mC (.int 12)) mNil)) (gN 2) TURN ((startR 22 [.frl (ns.map D.int)]).set 1 (some (.ml 0))) [ds] = .nx r' [ds'] := (mFor_rng (n := 12) (by decide) (by decide)).trans e1
  refine run_rtA (v := [ds']) ?_ rfl
  unfold mb_law
  exact Eq.trans (seq_nx A0) (Eq.trans (seq_nx A1) rfl)
end K00

set_option Elab.async false
set_option linter.all false
set_option maxRecDepth 100000
set_option maxHeartbeats 2000000
namespace K00
open PySem PySem.Spec PyProof.Rows L2 DL
theorem frl_of {K : PySem.W.Frag} {H : Hp} {al : Led} {a : Addr} {xs : List V} (h : SqL K H a xs) (n : ¬ al.has a) : FrlAt K H al a xs := h.elim (fun h => .inl ⟨n, h⟩) .inr
theorem reps_ints {K : PySem.W.Frag} {H : Hp} {al : Led} : ∀ ns : List Int, Reps K H al (ns.map D.int) (ns.map V.int)
  | [] => Reps.nil
  | _ :: ns => Reps.cons rep_int' (reps_ints ns)
/-- law's promise: a list of at most 63 ints of at most 1048576 bits is handed in, True comes out -/
def spLaw (K : PySem.W.Frag) : Sp := fun vs H Q _ => ∃ (a : Addr) (ns : List Int), vs = [.ref a] ∧ SqL K H a (ns.map V.int) ∧ ns.length ≤ 63 ∧ (∀ z ∈ ns, Builtin.Int.intBits z ≤ 1048576) ∧ ∀ H', Q (.bl true) H'
section
variable {P : Program} {w : World} {K : PySem.W.Frag} {mg : Str → Option Value} {base : Heap} {C : Nat → Addr}
theorem ok_law (T : Txt K mg C) {f : Addr} {fd : FuncData} (F : Fun K "law" "law" s_law f fd) : FnOk P w K mg base (L2N.CX P w) 7 f fd ["script"] (spLaw K) := by
  obtain ⟨oc, od, kV, doc, pm, an, cdv, ct, osl, rfl, lk, hcd⟩ := F.ex
  refine fn_of lk hcd sc_law (fun vs H Q E h => ?_) fun A outer s H vs Q E hr hsp => ?_
  · obtain ⟨a, ns, rfl, _⟩ := h
    rfl
  · obtain ⟨a, ns, rfl, hS, hl, hb, hq⟩ := hsp
    have nh : ∀ a : Addr, ¬ (⟨[], []⟩ : Led).has a := fun a h => h.elim (fun z => nomatch z) (fun z => nomatch z)
    have so : StoOk K H ⟨[], []⟩ [] := ⟨List.nodup_nil, rfl, (fun a h => nomatch h), (fun k ds h => by simp at h)⟩
    have rp : Reps K H ⟨[], []⟩ [.frl (ns.map D.int)] [.ref a] := Reps.cons (by unfold Rep; exact ⟨a, _, rfl, frl_of hS (nh a), reps_ints ns⟩) Reps.nil
    refine ⟨_, b_law T f cdv A outer s H E hr, ⟨[], []⟩, startR _ [.frl (ns.map D.int)], [], so, start_ok rp, fun_aft (n := sc_law_n) so ?_⟩
    show Aft K (RD K) ⟨[], []⟩ H (m_law [.frl (ns.map D.int)] []) Q _
    rw [law_plain ns hl hb]
    exact fun v H' al' ex so' rp => by
      have := rep_bl rp
      subst this
      exact hq H'
end
theorem all_mk {l : PySem.W.OpenLaw} {w : World} {K : PySem.W.Frag} {h : Heap} {mg : Str → Option Value} {fa : Addr} (X : K.In h) (G : h.Ns mainGlobals mg) (hfa : mg "law" = some (.ref fa))
        {f0 : Addr} {od0 an0 : Option Addr} {sl0 : Array (Option Value)} {oc0 kV0 dc0 pm0 cd0 ct0 : Value}
    {f1 : Addr} {od1 an1 : Option Addr} {sl1 : Array (Option Value)} {oc1 kV1 dc1 pm1 cd1 ct1 : Value}
    {f2 : Addr} {od2 an2 : Option Addr} {sl2 : Array (Option Value)} {oc2 kV2 dc2 pm2 cd2 ct2 : Value}
    {f3 : Addr} {od3 an3 : Option Addr} {sl3 : Array (Option Value)} {oc3 kV3 dc3 pm3 cd3 ct3 : Value}
    {f4 : Addr} {od4 an4 : Option Addr} {sl4 : Array (Option Value)} {oc4 kV4 dc4 pm4 cd4 ct4 : Value}
    {f5 : Addr} {od5 an5 : Option Addr} {sl5 : Array (Option Value)} {oc5 kV5 dc5 pm5 cd5 ct5 : Value}
    {f6 : Addr} {od6 an6 : Option Addr} {sl6 : Array (Option Value)} {oc6 kV6 dc6 pm6 cd6 ct6 : Value}
    {f7 : Addr} {od7 an7 : Option Addr} {sl7 : Array (Option Value)} {oc7 kV7 dc7 pm7 cd7 ct7 : Value}
    {f8 : Addr} {od8 an8 : Option Addr} {sl8 : Array (Option Value)} {oc8 kV8 dc8 pm8 cd8 ct8 : Value}
    {f9 : Addr} {od9 an9 : Option Addr} {sl9 : Array (Option Value)} {oc9 kV9 dc9 pm9 cd9 ct9 : Value}
    {f10 : Addr} {od10 an10 : Option Addr} {sl10 : Array (Option Value)} {oc10 kV10 dc10 pm10 cd10 ct10 : Value}
    {f11 : Addr} {od11 an11 : Option Addr} {sl11 : Array (Option Value)} {oc11 kV11 dc11 pm11 cd11 ct11 : Value}
    {f12 : Addr} {od12 an12 : Option Addr} {sl12 : Array (Option Value)} {oc12 kV12 dc12 pm12 cd12 ct12 : Value}
    {f13 : Addr} {od13 an13 : Option Addr} {sl13 : Array (Option Value)} {oc13 kV13 dc13 pm13 cd13 ct13 : Value}
    {f14 : Addr} {od14 an14 : Option Addr} {sl14 : Array (Option Value)} {oc14 kV14 dc14 pm14 cd14 ct14 : Value}
    {f15 : Addr} {od15 an15 : Option Addr} {sl15 : Array (Option Value)} {oc15 kV15 dc15 pm15 cd15 ct15 : Value}
    {f16 : Addr} {od16 an16 : Option Addr} {sl16 : Array (Option Value)} {oc16 kV16 dc16 pm16 cd16 ct16 : Value}
    {f17 : Addr} {od17 an17 : Option Addr} {sl17 : Array (Option Value)} {oc17 kV17 dc17 pm17 cd17 ct17 : Value}
    {f18 : Addr} {od18 an18 : Option Addr} {sl18 : Array (Option Value)} {oc18 kV18 dc18 pm18 cd18 ct18 : Value}
    {f19 : Addr} {od19 an19 : Option Addr} {sl19 : Array (Option Value)} {oc19 kV19 dc19 pm19 cd19 ct19 : Value}
    {f20 : Addr} {od20 an20 : Option Addr} {sl20 : Array (Option Value)} {oc20 kV20 dc20 pm20 cd20 ct20 : Value}
    {f21 : Addr} {od21 an21 : Option Addr} {sl21 : Array (Option Value)} {oc21 kV21 dc21 pm21 cd21 ct21 : Value}
    {f22 : Addr} {od22 an22 : Option Addr} {sl22 : Array (Option Value)} {oc22 kV22 dc22 pm22 cd22 ct22 : Value}
    {f23 : Addr} {od23 an23 : Option Addr} {sl23 : Array (Option Value)} {oc23 kV23 dc23 pm23 cd23 ct23 : Value}
    {f24 : Addr} {od24 an24 : Option Addr} {sl24 : Array (Option Value)} {oc24 kV24 dc24 pm24 cd24 ct24 : Value}
    {f25 : Addr} {od25 an25 : Option Addr} {sl25 : Array (Option Value)} {oc25 kV25 dc25 pm25 cd25 ct25 : Value}
    {f26 : Addr} {od26 an26 : Option Addr} {sl26 : Array (Option Value)} {oc26 kV26 dc26 pm26 cd26 ct26 : Value}
    {f27 : Addr} {od27 an27 : Option Addr} {sl27 : Array (Option Value)} {oc27 kV27 dc27 pm27 cd27 ct27 : Value}
    {f28 : Addr} {od28 an28 : Option Addr} {sl28 : Array (Option Value)} {oc28 kV28 dc28 pm28 cd28 ct28 : Value}
    {f29 : Addr} {od29 an29 : Option Addr} {sl29 : Array (Option Value)} {oc29 kV29 dc29 pm29 cd29 ct29 : Value}
    {f30 : Addr} {od30 an30 : Option Addr} {sl30 : Array (Option Value)} {oc30 kV30 dc30 pm30 cd30 ct30 : Value}
    {f31 : Addr} {od31 an31 : Option Addr} {sl31 : Array (Option Value)} {oc31 kV31 dc31 pm31 cd31 ct31 : Value}
    {f32 : Addr} {od32 an32 : Option Addr} {sl32 : Array (Option Value)} {oc32 kV32 dc32 pm32 cd32 ct32 : Value}
    {f33 : Addr} {od33 an33 : Option Addr} {sl33 : Array (Option Value)} {oc33 kV33 dc33 pm33 cd33 ct33 : Value}
    {f34 : Addr} {od34 an34 : Option Addr} {sl34 : Array (Option Value)} {oc34 kV34 dc34 pm34 cd34 ct34 : Value}
    {f35 : Addr} {od35 an35 : Option Addr} {sl35 : Array (Option Value)} {oc35 kV35 dc35 pm35 cd35 ct35 : Value}
    {f36 : Addr} {od36 an36 : Option Addr} {sl36 : Array (Option Value)} {oc36 kV36 dc36 pm36 cd36 ct36 : Value}
    {f37 : Addr} {od37 an37 : Option Addr} {sl37 : Array (Option Value)} {oc37 kV37 dc37 pm37 cd37 ct37 : Value}
    {f38 : Addr} {od38 an38 : Option Addr} {sl38 : Array (Option Value)} {oc38 kV38 dc38 pm38 cd38 ct38 : Value}
    {f39 : Addr} {od39 an39 : Option Addr} {sl39 : Array (Option Value)} {oc39 kV39 dc39 pm39 cd39 ct39 : Value}
    {f40 : Addr} {od40 an40 : Option Addr} {sl40 : Array (Option Value)} {oc40 kV40 dc40 pm40 cd40 ct40 : Value}
    {f41 : Addr} {od41 an41 : Option Addr} {sl41 : Array (Option Value)} {oc41 kV41 dc41 pm41 cd41 ct41 : Value}
    {f42 : Addr} {od42 an42 : Option Addr} {sl42 : Array (Option Value)} {oc42 kV42 dc42 pm42 cd42 ct42 : Value}
    {f43 : Addr} {od43 an43 : Option Addr} {sl43 : Array (Option Value)} {oc43 kV43 dc43 pm43 cd43 ct43 : Value}
    {f44 : Addr} {od44 an44 : Option Addr} {sl44 : Array (Option Value)} {oc44 kV44 dc44 pm44 cd44 ct44 : Value}
    {f45 : Addr} {od45 an45 : Option Addr} {sl45 : Array (Option Value)} {oc45 kV45 dc45 pm45 cd45 ct45 : Value}
    {f46 : Addr} {od46 an46 : Option Addr} {sl46 : Array (Option Value)} {oc46 kV46 dc46 pm46 cd46 ct46 : Value}
    {f47 : Addr} {od47 an47 : Option Addr} {sl47 : Array (Option Value)} {oc47 kV47 dc47 pm47 cd47 ct47 : Value}
    {f48 : Addr} {od48 an48 : Option Addr} {sl48 : Array (Option Value)} {oc48 kV48 dc48 pm48 cd48 ct48 : Value}
    {f49 : Addr} {od49 an49 : Option Addr} {sl49 : Array (Option Value)} {oc49 kV49 dc49 pm49 cd49 ct49 : Value}
    {f50 : Addr} {od50 an50 : Option Addr} {sl50 : Array (Option Value)} {oc50 kV50 dc50 pm50 cd50 ct50 : Value}
    {t_LONG_FIGURES : Tok}
    {t_LONG : Tok}
    {t_MOST_BITS : Tok}
    {t_MOST_POWER : Tok}
    {t_MOST_FIGURES : Tok}
    {C0 C1 C2 C3 C4 C5 C6 : Addr}
        (a0 : PySem.W.nsIn K mainGlobals "is_integer" = some (some (.ref f0))) (l0 : K.lookup f0 = some ⟨oc0, od0, .func (PySem.W.fnOf "is_integer" "is_integer" (defArgs s_is_integer) (defBody s_is_integer) (defScope s_is_integer) .none kV0 dc0 pm0 an0 cd0 ct0), sl0⟩) (c0 : PySem.W.codeIn K cd0 "is_integer" = true) (k0 : PySem.W.keepIn K (.ref f0) = true)
    (a1 : PySem.W.nsIn K mainGlobals "is_within" = some (some (.ref f1))) (l1 : K.lookup f1 = some ⟨oc1, od1, .func (PySem.W.fnOf "is_within" "is_within" (defArgs s_is_within) (defBody s_is_within) (defScope s_is_within) .none kV1 dc1 pm1 an1 cd1 ct1), sl1⟩) (c1 : PySem.W.codeIn K cd1 "is_within" = true) (k1 : PySem.W.keepIn K (.ref f1) = true)
    (a2 : PySem.W.nsIn K mainGlobals "check" = some (some (.ref f2))) (l2 : K.lookup f2 = some ⟨oc2, od2, .func (PySem.W.fnOf "check" "check" (defArgs s_check) (defBody s_check) (defScope s_check) .none kV2 dc2 pm2 an2 cd2 ct2), sl2⟩) (c2 : PySem.W.codeIn K cd2 "check" = true) (k2 : PySem.W.keepIn K (.ref f2) = true)
    (a3 : PySem.W.nsIn K mainGlobals "figures_of" = some (some (.ref f3))) (l3 : K.lookup f3 = some ⟨oc3, od3, .func (PySem.W.fnOf "figures_of" "figures_of" (defArgs s_figures_of) (defBody s_figures_of) (defScope s_figures_of) .none kV3 dc3 pm3 an3 cd3 ct3), sl3⟩) (c3 : PySem.W.codeIn K cd3 "figures_of" = true) (k3 : PySem.W.keepIn K (.ref f3) = true)
    (a4 : PySem.W.nsIn K mainGlobals "shared" = some (some (.ref f4))) (l4 : K.lookup f4 = some ⟨oc4, od4, .func (PySem.W.fnOf "shared" "shared" (defArgs s_shared) (defBody s_shared) (defScope s_shared) .none kV4 dc4 pm4 an4 cd4 ct4), sl4⟩) (c4 : PySem.W.codeIn K cd4 "shared" = true) (k4 : PySem.W.keepIn K (.ref f4) = true)
    (a5 : PySem.W.nsIn K mainGlobals "made" = some (some (.ref f5))) (l5 : K.lookup f5 = some ⟨oc5, od5, .func (PySem.W.fnOf "made" "made" (defArgs s_made) (defBody s_made) (defScope s_made) .none kV5 dc5 pm5 an5 cd5 ct5), sl5⟩) (c5 : PySem.W.codeIn K cd5 "made" = true) (k5 : PySem.W.keepIn K (.ref f5) = true)
    (a6 : PySem.W.nsIn K mainGlobals "is_ratio" = some (some (.ref f6))) (l6 : K.lookup f6 = some ⟨oc6, od6, .func (PySem.W.fnOf "is_ratio" "is_ratio" (defArgs s_is_ratio) (defBody s_is_ratio) (defScope s_is_ratio) .none kV6 dc6 pm6 an6 cd6 ct6), sl6⟩) (c6 : PySem.W.codeIn K cd6 "is_ratio" = true) (k6 : PySem.W.keepIn K (.ref f6) = true)
    (a7 : PySem.W.nsIn K mainGlobals "ratio" = some (some (.ref f7))) (l7 : K.lookup f7 = some ⟨oc7, od7, .func (PySem.W.fnOf "ratio" "ratio" (defArgs s_ratio) (defBody s_ratio) (defScope s_ratio) .none kV7 dc7 pm7 an7 cd7 ct7), sl7⟩) (c7 : PySem.W.codeIn K cd7 "ratio" = true) (k7 : PySem.W.keepIn K (.ref f7) = true)
    (a8 : PySem.W.nsIn K mainGlobals "check_ratios" = some (some (.ref f8))) (l8 : K.lookup f8 = some ⟨oc8, od8, .func (PySem.W.fnOf "check_ratios" "check_ratios" (defArgs s_check_ratios) (defBody s_check_ratios) (defScope s_check_ratios) .none kV8 dc8 pm8 an8 cd8 ct8), sl8⟩) (c8 : PySem.W.codeIn K cd8 "check_ratios" = true) (k8 : PySem.W.keepIn K (.ref f8) = true)
    (a9 : PySem.W.nsIn K mainGlobals "add" = some (some (.ref f9))) (l9 : K.lookup f9 = some ⟨oc9, od9, .func (PySem.W.fnOf "add" "add" (defArgs s_add) (defBody s_add) (defScope s_add) .none kV9 dc9 pm9 an9 cd9 ct9), sl9⟩) (c9 : PySem.W.codeIn K cd9 "add" = true) (k9 : PySem.W.keepIn K (.ref f9) = true)
    (a10 : PySem.W.nsIn K mainGlobals "less" = some (some (.ref f10))) (l10 : K.lookup f10 = some ⟨oc10, od10, .func (PySem.W.fnOf "less" "less" (defArgs s_less) (defBody s_less) (defScope s_less) .none kV10 dc10 pm10 an10 cd10 ct10), sl10⟩) (c10 : PySem.W.codeIn K cd10 "less" = true) (k10 : PySem.W.keepIn K (.ref f10) = true)
    (a11 : PySem.W.nsIn K mainGlobals "product" = some (some (.ref f11))) (l11 : K.lookup f11 = some ⟨oc11, od11, .func (PySem.W.fnOf "product" "product" (defArgs s_product) (defBody s_product) (defScope s_product) .none kV11 dc11 pm11 an11 cd11 ct11), sl11⟩) (c11 : PySem.W.codeIn K cd11 "product" = true) (k11 : PySem.W.keepIn K (.ref f11) = true)
    (a12 : PySem.W.nsIn K mainGlobals "share" = some (some (.ref f12))) (l12 : K.lookup f12 = some ⟨oc12, od12, .func (PySem.W.fnOf "share" "share" (defArgs s_share) (defBody s_share) (defScope s_share) .none kV12 dc12 pm12 an12 cd12 ct12), sl12⟩) (c12 : PySem.W.codeIn K cd12 "share" = true) (k12 : PySem.W.keepIn K (.ref f12) = true)
    (a13 : PySem.W.nsIn K mainGlobals "is_below" = some (some (.ref f13))) (l13 : K.lookup f13 = some ⟨oc13, od13, .func (PySem.W.fnOf "is_below" "is_below" (defArgs s_is_below) (defBody s_is_below) (defScope s_is_below) .none kV13 dc13 pm13 an13 cd13 ct13), sl13⟩) (c13 : PySem.W.codeIn K cd13 "is_below" = true) (k13 : PySem.W.keepIn K (.ref f13) = true)
    (a14 : PySem.W.nsIn K mainGlobals "plus" = some (some (.ref f14))) (l14 : K.lookup f14 = some ⟨oc14, od14, .func (PySem.W.fnOf "plus" "plus" (defArgs s_plus) (defBody s_plus) (defScope s_plus) .none kV14 dc14 pm14 an14 cd14 ct14), sl14⟩) (c14 : PySem.W.codeIn K cd14 "plus" = true) (k14 : PySem.W.keepIn K (.ref f14) = true)
    (a15 : PySem.W.nsIn K mainGlobals "minus" = some (some (.ref f15))) (l15 : K.lookup f15 = some ⟨oc15, od15, .func (PySem.W.fnOf "minus" "minus" (defArgs s_minus) (defBody s_minus) (defScope s_minus) .none kV15 dc15 pm15 an15 cd15 ct15), sl15⟩) (c15 : PySem.W.codeIn K cd15 "minus" = true) (k15 : PySem.W.keepIn K (.ref f15) = true)
    (a16 : PySem.W.nsIn K mainGlobals "times" = some (some (.ref f16))) (l16 : K.lookup f16 = some ⟨oc16, od16, .func (PySem.W.fnOf "times" "times" (defArgs s_times) (defBody s_times) (defScope s_times) .none kV16 dc16 pm16 an16 cd16 ct16), sl16⟩) (c16 : PySem.W.codeIn K cd16 "times" = true) (k16 : PySem.W.keepIn K (.ref f16) = true)
    (a17 : PySem.W.nsIn K mainGlobals "over" = some (some (.ref f17))) (l17 : K.lookup f17 = some ⟨oc17, od17, .func (PySem.W.fnOf "over" "over" (defArgs s_over) (defBody s_over) (defScope s_over) .none kV17 dc17 pm17 an17 cd17 ct17), sl17⟩) (c17 : PySem.W.codeIn K cd17 "over" = true) (k17 : PySem.W.keepIn K (.ref f17) = true)
    (a18 : PySem.W.nsIn K mainGlobals "raised" = some (some (.ref f18))) (l18 : K.lookup f18 = some ⟨oc18, od18, .func (PySem.W.fnOf "raised" "raised" (defArgs s_raised) (defBody s_raised) (defScope s_raised) .none kV18 dc18 pm18 an18 cd18 ct18), sl18⟩) (c18 : PySem.W.codeIn K cd18 "raised" = true) (k18 : PySem.W.keepIn K (.ref f18) = true)
    (a19 : PySem.W.nsIn K mainGlobals "power_by" = some (some (.ref f19))) (l19 : K.lookup f19 = some ⟨oc19, od19, .func (PySem.W.fnOf "power_by" "power_by" (defArgs s_power_by) (defBody s_power_by) (defScope s_power_by) .none kV19 dc19 pm19 an19 cd19 ct19), sl19⟩) (c19 : PySem.W.codeIn K cd19 "power_by" = true) (k19 : PySem.W.keepIn K (.ref f19) = true)
    (a20 : PySem.W.nsIn K mainGlobals "power" = some (some (.ref f20))) (l20 : K.lookup f20 = some ⟨oc20, od20, .func (PySem.W.fnOf "power" "power" (defArgs s_power) (defBody s_power) (defScope s_power) .none kV20 dc20 pm20 an20 cd20 ct20), sl20⟩) (c20 : PySem.W.codeIn K cd20 "power" = true) (k20 : PySem.W.keepIn K (.ref f20) = true)
    (a21 : PySem.W.nsIn K mainGlobals "compare" = some (some (.ref f21))) (l21 : K.lookup f21 = some ⟨oc21, od21, .func (PySem.W.fnOf "compare" "compare" (defArgs s_compare) (defBody s_compare) (defScope s_compare) .none kV21 dc21 pm21 an21 cd21 ct21), sl21⟩) (c21 : PySem.W.codeIn K cd21 "compare" = true) (k21 : PySem.W.keepIn K (.ref f21) = true)
    (a22 : PySem.W.nsIn K mainGlobals "floor_of" = some (some (.ref f22))) (l22 : K.lookup f22 = some ⟨oc22, od22, .func (PySem.W.fnOf "floor_of" "floor_of" (defArgs s_floor_of) (defBody s_floor_of) (defScope s_floor_of) .none kV22 dc22 pm22 an22 cd22 ct22), sl22⟩) (c22 : PySem.W.codeIn K cd22 "floor_of" = true) (k22 : PySem.W.keepIn K (.ref f22) = true)
    (a23 : PySem.W.nsIn K mainGlobals "ceiling_of" = some (some (.ref f23))) (l23 : K.lookup f23 = some ⟨oc23, od23, .func (PySem.W.fnOf "ceiling_of" "ceiling_of" (defArgs s_ceiling_of) (defBody s_ceiling_of) (defScope s_ceiling_of) .none kV23 dc23 pm23 an23 cd23 ct23), sl23⟩) (c23 : PySem.W.codeIn K cd23 "ceiling_of" = true) (k23 : PySem.W.keepIn K (.ref f23) = true)
    (a24 : PySem.W.nsIn K mainGlobals "of_bits" = some (some (.ref f24))) (l24 : K.lookup f24 = some ⟨oc24, od24, .func (PySem.W.fnOf "of_bits" "of_bits" (defArgs s_of_bits) (defBody s_of_bits) (defScope s_of_bits) .none kV24 dc24 pm24 an24 cd24 ct24), sl24⟩) (c24 : PySem.W.codeIn K cd24 "of_bits" = true) (k24 : PySem.W.keepIn K (.ref f24) = true)
    (a25 : PySem.W.nsIn K mainGlobals "down_by" = some (some (.ref f25))) (l25 : K.lookup f25 = some ⟨oc25, od25, .func (PySem.W.fnOf "down_by" "down_by" (defArgs s_down_by) (defBody s_down_by) (defScope s_down_by) .none kV25 dc25 pm25 an25 cd25 ct25), sl25⟩) (c25 : PySem.W.codeIn K cd25 "down_by" = true) (k25 : PySem.W.keepIn K (.ref f25) = true)
    (a26 : PySem.W.nsIn K mainGlobals "up_by" = some (some (.ref f26))) (l26 : K.lookup f26 = some ⟨oc26, od26, .func (PySem.W.fnOf "up_by" "up_by" (defArgs s_up_by) (defBody s_up_by) (defScope s_up_by) .none kV26 dc26 pm26 an26 cd26 ct26), sl26⟩) (c26 : PySem.W.codeIn K cd26 "up_by" = true) (k26 : PySem.W.keepIn K (.ref f26) = true)
    (a27 : PySem.W.nsIn K mainGlobals "down_to" = some (some (.ref f27))) (l27 : K.lookup f27 = some ⟨oc27, od27, .func (PySem.W.fnOf "down_to" "down_to" (defArgs s_down_to) (defBody s_down_to) (defScope s_down_to) .none kV27 dc27 pm27 an27 cd27 ct27), sl27⟩) (c27 : PySem.W.codeIn K cd27 "down_to" = true) (k27 : PySem.W.keepIn K (.ref f27) = true)
    (a28 : PySem.W.nsIn K mainGlobals "up_to" = some (some (.ref f28))) (l28 : K.lookup f28 = some ⟨oc28, od28, .func (PySem.W.fnOf "up_to" "up_to" (defArgs s_up_to) (defBody s_up_to) (defScope s_up_to) .none kV28 dc28 pm28 an28 cd28 ct28), sl28⟩) (c28 : PySem.W.codeIn K cd28 "up_to" = true) (k28 : PySem.W.keepIn K (.ref f28) = true)
    (a29 : PySem.W.nsIn K mainGlobals "halved" = some (some (.ref f29))) (l29 : K.lookup f29 = some ⟨oc29, od29, .func (PySem.W.fnOf "halved" "halved" (defArgs s_halved) (defBody s_halved) (defScope s_halved) .none kV29 dc29 pm29 an29 cd29 ct29), sl29⟩) (c29 : PySem.W.codeIn K cd29 "halved" = true) (k29 : PySem.W.keepIn K (.ref f29) = true)
    (a30 : PySem.W.nsIn K mainGlobals "shown_ratio" = some (some (.ref f30))) (l30 : K.lookup f30 = some ⟨oc30, od30, .func (PySem.W.fnOf "shown_ratio" "shown_ratio" (defArgs s_shown_ratio) (defBody s_shown_ratio) (defScope s_shown_ratio) .none kV30 dc30 pm30 an30 cd30 ct30), sl30⟩) (c30 : PySem.W.codeIn K cd30 "shown_ratio" = true) (k30 : PySem.W.keepIn K (.ref f30) = true)
    (a31 : PySem.W.nsIn K mainGlobals "decimal_by" = some (some (.ref f31))) (l31 : K.lookup f31 = some ⟨oc31, od31, .func (PySem.W.fnOf "decimal_by" "decimal_by" (defArgs s_decimal_by) (defBody s_decimal_by) (defScope s_decimal_by) .none kV31 dc31 pm31 an31 cd31 ct31), sl31⟩) (c31 : PySem.W.codeIn K cd31 "decimal_by" = true) (k31 : PySem.W.keepIn K (.ref f31) = true)
    (a32 : PySem.W.nsIn K mainGlobals "decimal_of" = some (some (.ref f32))) (l32 : K.lookup f32 = some ⟨oc32, od32, .func (PySem.W.fnOf "decimal_of" "decimal_of" (defArgs s_decimal_of) (defBody s_decimal_of) (defScope s_decimal_of) .none kV32 dc32 pm32 an32 cd32 ct32), sl32⟩) (c32 : PySem.W.codeIn K cd32 "decimal_of" = true) (k32 : PySem.W.keepIn K (.ref f32) = true)
    (a33 : PySem.W.nsIn K mainGlobals "root_under" = some (some (.ref f33))) (l33 : K.lookup f33 = some ⟨oc33, od33, .func (PySem.W.fnOf "root_under" "root_under" (defArgs s_root_under) (defBody s_root_under) (defScope s_root_under) .none kV33 dc33 pm33 an33 cd33 ct33), sl33⟩) (c33 : PySem.W.codeIn K cd33 "root_under" = true) (k33 : PySem.W.keepIn K (.ref f33) = true)
    (a34 : PySem.W.nsIn K mainGlobals "least_square" = some (some (.ref f34))) (l34 : K.lookup f34 = some ⟨oc34, od34, .func (PySem.W.fnOf "least_square" "least_square" (defArgs s_least_square) (defBody s_least_square) (defScope s_least_square) .none kV34 dc34 pm34 an34 cd34 ct34), sl34⟩) (c34 : PySem.W.codeIn K cd34 "least_square" = true) (k34 : PySem.W.keepIn K (.ref f34) = true)
    (a35 : PySem.W.nsIn K mainGlobals "_law_draws" = some (some (.ref f35))) (l35 : K.lookup f35 = some ⟨oc35, od35, .func (PySem.W.fnOf "_law_draws" "_law_draws" (defArgs s__law_draws) (defBody s__law_draws) (defScope s__law_draws) .none kV35 dc35 pm35 an35 cd35 ct35), sl35⟩) (c35 : PySem.W.codeIn K cd35 "_law_draws" = true) (k35 : PySem.W.keepIn K (.ref f35) = true)
    (a36 : PySem.W.nsIn K mainGlobals "_law_same" = some (some (.ref f36))) (l36 : K.lookup f36 = some ⟨oc36, od36, .func (PySem.W.fnOf "_law_same" "_law_same" (defArgs s__law_same) (defBody s__law_same) (defScope s__law_same) .none kV36 dc36 pm36 an36 cd36 ct36), sl36⟩) (c36 : PySem.W.codeIn K cd36 "_law_same" = true) (k36 : PySem.W.keepIn K (.ref f36) = true)
    (a37 : PySem.W.nsIn K mainGlobals "_law_take" = some (some (.ref f37))) (l37 : K.lookup f37 = some ⟨oc37, od37, .func (PySem.W.fnOf "_law_take" "_law_take" (defArgs s__law_take) (defBody s__law_take) (defScope s__law_take) .none kV37 dc37 pm37 an37 cd37 ct37), sl37⟩) (c37 : PySem.W.codeIn K cd37 "_law_take" = true) (k37 : PySem.W.keepIn K (.ref f37) = true)
    (a38 : PySem.W.nsIn K mainGlobals "_law_pick" = some (some (.ref f38))) (l38 : K.lookup f38 = some ⟨oc38, od38, .func (PySem.W.fnOf "_law_pick" "_law_pick" (defArgs s__law_pick) (defBody s__law_pick) (defScope s__law_pick) .none kV38 dc38 pm38 an38 cd38 ct38), sl38⟩) (c38 : PySem.W.codeIn K cd38 "_law_pick" = true) (k38 : PySem.W.keepIn K (.ref f38) = true)
    (a39 : PySem.W.nsIn K mainGlobals "_law_flag" = some (some (.ref f39))) (l39 : K.lookup f39 = some ⟨oc39, od39, .func (PySem.W.fnOf "_law_flag" "_law_flag" (defArgs s__law_flag) (defBody s__law_flag) (defScope s__law_flag) .none kV39 dc39 pm39 an39 cd39 ct39), sl39⟩) (c39 : PySem.W.codeIn K cd39 "_law_flag" = true) (k39 : PySem.W.keepIn K (.ref f39) = true)
    (a40 : PySem.W.nsIn K mainGlobals "_law_r" = some (some (.ref f40))) (l40 : K.lookup f40 = some ⟨oc40, od40, .func (PySem.W.fnOf "_law_r" "_law_r" (defArgs s__law_r) (defBody s__law_r) (defScope s__law_r) .none kV40 dc40 pm40 an40 cd40 ct40), sl40⟩) (c40 : PySem.W.codeIn K cd40 "_law_r" = true) (k40 : PySem.W.keepIn K (.ref f40) = true)
    (a41 : PySem.W.nsIn K mainGlobals "_law_add" = some (some (.ref f41))) (l41 : K.lookup f41 = some ⟨oc41, od41, .func (PySem.W.fnOf "_law_add" "_law_add" (defArgs s__law_add) (defBody s__law_add) (defScope s__law_add) .none kV41 dc41 pm41 an41 cd41 ct41), sl41⟩) (c41 : PySem.W.codeIn K cd41 "_law_add" = true) (k41 : PySem.W.keepIn K (.ref f41) = true)
    (a42 : PySem.W.nsIn K mainGlobals "_law_sub" = some (some (.ref f42))) (l42 : K.lookup f42 = some ⟨oc42, od42, .func (PySem.W.fnOf "_law_sub" "_law_sub" (defArgs s__law_sub) (defBody s__law_sub) (defScope s__law_sub) .none kV42 dc42 pm42 an42 cd42 ct42), sl42⟩) (c42 : PySem.W.codeIn K cd42 "_law_sub" = true) (k42 : PySem.W.keepIn K (.ref f42) = true)
    (a43 : PySem.W.nsIn K mainGlobals "_law_mul" = some (some (.ref f43))) (l43 : K.lookup f43 = some ⟨oc43, od43, .func (PySem.W.fnOf "_law_mul" "_law_mul" (defArgs s__law_mul) (defBody s__law_mul) (defScope s__law_mul) .none kV43 dc43 pm43 an43 cd43 ct43), sl43⟩) (c43 : PySem.W.codeIn K cd43 "_law_mul" = true) (k43 : PySem.W.keepIn K (.ref f43) = true)
    (a44 : PySem.W.nsIn K mainGlobals "_law_less" = some (some (.ref f44))) (l44 : K.lookup f44 = some ⟨oc44, od44, .func (PySem.W.fnOf "_law_less" "_law_less" (defArgs s__law_less) (defBody s__law_less) (defScope s__law_less) .none kV44 dc44 pm44 an44 cd44 ct44), sl44⟩) (c44 : PySem.W.codeIn K cd44 "_law_less" = true) (k44 : PySem.W.keepIn K (.ref f44) = true)
    (a45 : PySem.W.nsIn K mainGlobals "_law_twos" = some (some (.ref f45))) (l45 : K.lookup f45 = some ⟨oc45, od45, .func (PySem.W.fnOf "_law_twos" "_law_twos" (defArgs s__law_twos) (defBody s__law_twos) (defScope s__law_twos) .none kV45 dc45 pm45 an45 cd45 ct45), sl45⟩) (c45 : PySem.W.codeIn K cd45 "_law_twos" = true) (k45 : PySem.W.keepIn K (.ref f45) = true)
    (a46 : PySem.W.nsIn K mainGlobals "_law_any" = some (some (.ref f46))) (l46 : K.lookup f46 = some ⟨oc46, od46, .func (PySem.W.fnOf "_law_any" "_law_any" (defArgs s__law_any) (defBody s__law_any) (defScope s__law_any) .none kV46 dc46 pm46 an46 cd46 ct46), sl46⟩) (c46 : PySem.W.codeIn K cd46 "_law_any" = true) (k46 : PySem.W.keepIn K (.ref f46) = true)
    (a47 : PySem.W.nsIn K mainGlobals "_law_power" = some (some (.ref f47))) (l47 : K.lookup f47 = some ⟨oc47, od47, .func (PySem.W.fnOf "_law_power" "_law_power" (defArgs s__law_power) (defBody s__law_power) (defScope s__law_power) .none kV47 dc47 pm47 an47 cd47 ct47), sl47⟩) (c47 : PySem.W.codeIn K cd47 "_law_power" = true) (k47 : PySem.W.keepIn K (.ref f47) = true)
    (a48 : PySem.W.nsIn K mainGlobals "_law_told" = some (some (.ref f48))) (l48 : K.lookup f48 = some ⟨oc48, od48, .func (PySem.W.fnOf "_law_told" "_law_told" (defArgs s__law_told) (defBody s__law_told) (defScope s__law_told) .none kV48 dc48 pm48 an48 cd48 ct48), sl48⟩) (c48 : PySem.W.codeIn K cd48 "_law_told" = true) (k48 : PySem.W.keepIn K (.ref f48) = true)
    (a49 : PySem.W.nsIn K mainGlobals "_law_decimal" = some (some (.ref f49))) (l49 : K.lookup f49 = some ⟨oc49, od49, .func (PySem.W.fnOf "_law_decimal" "_law_decimal" (defArgs s__law_decimal) (defBody s__law_decimal) (defScope s__law_decimal) .none kV49 dc49 pm49 an49 cd49 ct49), sl49⟩) (c49 : PySem.W.codeIn K cd49 "_law_decimal" = true) (k49 : PySem.W.keepIn K (.ref f49) = true)
    (a50 : PySem.W.nsIn K mainGlobals "law" = some (some (.ref f50))) (l50 : K.lookup f50 = some ⟨oc50, od50, .func (PySem.W.fnOf "law" "law" (defArgs s_law) (defBody s_law) (defScope s_law) .none kV50 dc50 pm50 an50 cd50 ct50), sl50⟩) (c50 : PySem.W.codeIn K cd50 "law" = true) (k50 : PySem.W.keepIn K (.ref f50) = true)
    (n_abs : PySem.W.nsIn K mainGlobals "abs" = some none)
    (n_all : PySem.W.nsIn K mainGlobals "all" = some none)
    (n_bool : PySem.W.nsIn K mainGlobals "bool" = some none)
    (n_dict : PySem.W.nsIn K mainGlobals "dict" = some none)
    (n_int : PySem.W.nsIn K mainGlobals "int" = some none)
    (n_isinstance : PySem.W.nsIn K mainGlobals "isinstance" = some none)
    (n_len : PySem.W.nsIn K mainGlobals "len" = some none)
    (n_list : PySem.W.nsIn K mainGlobals "list" = some none)
    (n_max : PySem.W.nsIn K mainGlobals "max" = some none)
    (n_range : PySem.W.nsIn K mainGlobals "range" = some none)
    (n_reversed : PySem.W.nsIn K mainGlobals "reversed" = some none)
    (n_str : PySem.W.nsIn K mainGlobals "str" = some none)
    (n_sum : PySem.W.nsIn K mainGlobals "sum" = some none)
    (n_tuple : PySem.W.nsIn K mainGlobals "tuple" = some none)
    (g_LONG_FIGURES : PySem.W.nsIn K mainGlobals "LONG_FIGURES" = some (some (.int 18 t_LONG_FIGURES)))
    (g_LONG : PySem.W.nsIn K mainGlobals "LONG" = some (some (.int 1000000000000000000 t_LONG)))
    (g_MOST_BITS : PySem.W.nsIn K mainGlobals "MOST_BITS" = some (some (.int 20000 t_MOST_BITS)))
    (g_MOST_POWER : PySem.W.nsIn K mainGlobals "MOST_POWER" = some (some (.int 400 t_MOST_POWER)))
    (g_MOST_FIGURES : PySem.W.nsIn K mainGlobals "MOST_FIGURES" = some (some (.int 400 t_MOST_FIGURES)))
    (m0 : PySem.W.nsIn K mainGlobals "WidthError" = some (some (.ref C0)))
    (m1 : PySem.W.nsIn K mainGlobals "NotRight" = some (some (.ref C1)))
    (m2 : PySem.W.nsIn K mainGlobals "NotThere" = some (some (.ref C2)))
    (m3 : PySem.W.nsIn K mainGlobals "NoAnswer" = some (some (.ref C3)))
    (m4 : PySem.W.nsIn K mainGlobals "Undefined" = some (some (.ref C4)))
    (m5 : PySem.W.nsIn K mainGlobals "Unclear" = some (some (.ref C5)))
    (m6 : PySem.W.nsIn K mainGlobals "TooHard" = some (some (.ref C6)))
    (hd0 : PySem.W.hasDictIn K C0 = true) (ty0 : PySem.W.typeIn K (.ref C0) = some (.type "type")) (sb0 : PySem.W.subIn K (.ref C0) (.type "BaseException") = some true)
    (hd1 : PySem.W.hasDictIn K C1 = true) (ty1 : PySem.W.typeIn K (.ref C1) = some (.type "type")) (sb1 : PySem.W.subIn K (.ref C1) (.type "BaseException") = some true)
    (hd2 : PySem.W.hasDictIn K C2 = true) (ty2 : PySem.W.typeIn K (.ref C2) = some (.type "type")) (sb2 : PySem.W.subIn K (.ref C2) (.type "BaseException") = some true)
    (hd3 : PySem.W.hasDictIn K C3 = true) (ty3 : PySem.W.typeIn K (.ref C3) = some (.type "type")) (sb3 : PySem.W.subIn K (.ref C3) (.type "BaseException") = some true)
    (hd4 : PySem.W.hasDictIn K C4 = true) (ty4 : PySem.W.typeIn K (.ref C4) = some (.type "type")) (sb4 : PySem.W.subIn K (.ref C4) (.type "BaseException") = some true)
    (hd5 : PySem.W.hasDictIn K C5 = true) (ty5 : PySem.W.typeIn K (.ref C5) = some (.type "type")) (sb5 : PySem.W.subIn K (.ref C5) (.type "BaseException") = some true)
    (hd6 : PySem.W.hasDictIn K C6 = true) (ty6 : PySem.W.typeIn K (.ref C6) = some (.type "type")) (sb6 : PySem.W.subIn K (.ref C6) (.type "BaseException") = some true)
    (xi : PySem.W.specialIn K (.builtin "object.__class__") "__get__" = some (some (.builtin "getset_descriptor.__get__"))) (xj : PySem.W.takesIn K (.builtin "object.__class__") = some true)
    (xa1 : PySem.W.excIn K C1 veB "ValueError.__new__" = true)
    (xb1 : PySem.W.keepIn K (.ref C1) = true)
    (xe1 : PySem.W.findIn K (.ref C1) "__getattribute__" = some (some (.builtin "BaseException.__getattribute__")))
    (xf1 : PySem.W.findIn K (.ref C1) "__getattr__" = some none)
    (xh1 : PySem.W.findIn K (.ref C1) "__class__" = some (some (.builtin "object.__class__")))
    (xk1 : PySem.W.mroIn K C1 (.type "object") = some true)
    (xt1 : PySem.W.subIn K (.ref C1) (.ref C0) = some true)
    (xs2_1 : PySem.W.subIn K (.ref C1) (.ref C2) = some false)
    (xn2_1 : ¬ C1 = C2)
    (xs3_1 : PySem.W.subIn K (.ref C1) (.ref C3) = some false)
    (xn3_1 : ¬ C1 = C3)
    (xs4_1 : PySem.W.subIn K (.ref C1) (.ref C4) = some false)
    (xn4_1 : ¬ C1 = C4)
    (xs5_1 : PySem.W.subIn K (.ref C1) (.ref C5) = some false)
    (xn5_1 : ¬ C1 = C5)
    (xs6_1 : PySem.W.subIn K (.ref C1) (.ref C6) = some false)
    (xn6_1 : ¬ C1 = C6)
    (xa3 : PySem.W.excIn K C3 veB "ValueError.__new__" = true)
    (xb3 : PySem.W.keepIn K (.ref C3) = true)
    (xe3 : PySem.W.findIn K (.ref C3) "__getattribute__" = some (some (.builtin "BaseException.__getattribute__")))
    (xf3 : PySem.W.findIn K (.ref C3) "__getattr__" = some none)
    (xh3 : PySem.W.findIn K (.ref C3) "__class__" = some (some (.builtin "object.__class__")))
    (xk3 : PySem.W.mroIn K C3 (.type "object") = some true)
    (xt3 : PySem.W.subIn K (.ref C3) (.ref C0) = some true)
    (xs1_3 : PySem.W.subIn K (.ref C3) (.ref C1) = some false)
    (xn1_3 : ¬ C3 = C1)
    (xs2_3 : PySem.W.subIn K (.ref C3) (.ref C2) = some false)
    (xn2_3 : ¬ C3 = C2)
    (xs4_3 : PySem.W.subIn K (.ref C3) (.ref C4) = some false)
    (xn4_3 : ¬ C3 = C4)
    (xs5_3 : PySem.W.subIn K (.ref C3) (.ref C5) = some false)
    (xn5_3 : ¬ C3 = C5)
    (xs6_3 : PySem.W.subIn K (.ref C3) (.ref C6) = some false)
    (xn6_3 : ¬ C3 = C6) :
    ∃ fd : FuncData, (∀ (s : Shared) (v : Value), BindsTo s fd ⟨[v], []⟩ [("script", v)]) ∧ ∀ base : Heap, K.In base → base.Ns mainGlobals mg → FnOk l.prog w K mg base (L2N.CX l.prog w) 7 fa fd ["script"] (spLaw K) := by
  have e := hfa.symm.trans (PySem.W.mg_of X G a50)
  cases e
  have T : Txt K mg (fun i => [C0, C1, C2, C3, C4, C5, C6].getD i 0) := {
    s_is_integer := ⟨_, _, fun_mk (st := s_is_integer) l0 c0 k0, PySem.W.mg_of X G a0⟩,
    s_is_within := ⟨_, _, fun_mk (st := s_is_within) l1 c1 k1, PySem.W.mg_of X G a1⟩,
    s_check := ⟨_, _, fun_mk (st := s_check) l2 c2 k2, PySem.W.mg_of X G a2⟩,
    s_figures_of := ⟨_, _, fun_mk (st := s_figures_of) l3 c3 k3, PySem.W.mg_of X G a3⟩,
    s_shared := ⟨_, _, fun_mk (st := s_shared) l4 c4 k4, PySem.W.mg_of X G a4⟩,
    s_made := ⟨_, _, fun_mk (st := s_made) l5 c5 k5, PySem.W.mg_of X G a5⟩,
    s_is_ratio := ⟨_, _, fun_mk (st := s_is_ratio) l6 c6 k6, PySem.W.mg_of X G a6⟩,
    s_ratio := ⟨_, _, fun_mk (st := s_ratio) l7 c7 k7, PySem.W.mg_of X G a7⟩,
    s_check_ratios := ⟨_, _, fun_mk (st := s_check_ratios) l8 c8 k8, PySem.W.mg_of X G a8⟩,
    s_add := ⟨_, _, fun_mk (st := s_add) l9 c9 k9, PySem.W.mg_of X G a9⟩,
    s_less := ⟨_, _, fun_mk (st := s_less) l10 c10 k10, PySem.W.mg_of X G a10⟩,
    s_product := ⟨_, _, fun_mk (st := s_product) l11 c11 k11, PySem.W.mg_of X G a11⟩,
    s_share := ⟨_, _, fun_mk (st := s_share) l12 c12 k12, PySem.W.mg_of X G a12⟩,
    s_is_below := ⟨_, _, fun_mk (st := s_is_below) l13 c13 k13, PySem.W.mg_of X G a13⟩,
    s_plus := ⟨_, _, fun_mk (st := s_plus) l14 c14 k14, PySem.W.mg_of X G a14⟩,
    s_minus := ⟨_, _, fun_mk (st := s_minus) l15 c15 k15, PySem.W.mg_of X G a15⟩,
    s_times := ⟨_, _, fun_mk (st := s_times) l16 c16 k16, PySem.W.mg_of X G a16⟩,
    s_over := ⟨_, _, fun_mk (st := s_over) l17 c17 k17, PySem.W.mg_of X G a17⟩,
    s_raised := ⟨_, _, fun_mk (st := s_raised) l18 c18 k18, PySem.W.mg_of X G a18⟩,
    s_power_by := ⟨_, _, fun_mk (st := s_power_by) l19 c19 k19, PySem.W.mg_of X G a19⟩,
    s_power := ⟨_, _, fun_mk (st := s_power) l20 c20 k20, PySem.W.mg_of X G a20⟩,
    s_compare := ⟨_, _, fun_mk (st := s_compare) l21 c21 k21, PySem.W.mg_of X G a21⟩,
    s_floor_of := ⟨_, _, fun_mk (st := s_floor_of) l22 c22 k22, PySem.W.mg_of X G a22⟩,
    s_ceiling_of := ⟨_, _, fun_mk (st := s_ceiling_of) l23 c23 k23, PySem.W.mg_of X G a23⟩,
    s_of_bits := ⟨_, _, fun_mk (st := s_of_bits) l24 c24 k24, PySem.W.mg_of X G a24⟩,
    s_down_by := ⟨_, _, fun_mk (st := s_down_by) l25 c25 k25, PySem.W.mg_of X G a25⟩,
    s_up_by := ⟨_, _, fun_mk (st := s_up_by) l26 c26 k26, PySem.W.mg_of X G a26⟩,
    s_down_to := ⟨_, _, fun_mk (st := s_down_to) l27 c27 k27, PySem.W.mg_of X G a27⟩,
    s_up_to := ⟨_, _, fun_mk (st := s_up_to) l28 c28 k28, PySem.W.mg_of X G a28⟩,
    s_halved := ⟨_, _, fun_mk (st := s_halved) l29 c29 k29, PySem.W.mg_of X G a29⟩,
    s_shown_ratio := ⟨_, _, fun_mk (st := s_shown_ratio) l30 c30 k30, PySem.W.mg_of X G a30⟩,
    s_decimal_by := ⟨_, _, fun_mk (st := s_decimal_by) l31 c31 k31, PySem.W.mg_of X G a31⟩,
    s_decimal_of := ⟨_, _, fun_mk (st := s_decimal_of) l32 c32 k32, PySem.W.mg_of X G a32⟩,
    s_root_under := ⟨_, _, fun_mk (st := s_root_under) l33 c33 k33, PySem.W.mg_of X G a33⟩,
    s_least_square := ⟨_, _, fun_mk (st := s_least_square) l34 c34 k34, PySem.W.mg_of X G a34⟩,
    s__law_draws := ⟨_, _, fun_mk (st := s__law_draws) l35 c35 k35, PySem.W.mg_of X G a35⟩,
    s__law_same := ⟨_, _, fun_mk (st := s__law_same) l36 c36 k36, PySem.W.mg_of X G a36⟩,
    s__law_take := ⟨_, _, fun_mk (st := s__law_take) l37 c37 k37, PySem.W.mg_of X G a37⟩,
    s__law_pick := ⟨_, _, fun_mk (st := s__law_pick) l38 c38 k38, PySem.W.mg_of X G a38⟩,
    s__law_flag := ⟨_, _, fun_mk (st := s__law_flag) l39 c39 k39, PySem.W.mg_of X G a39⟩,
    s__law_r := ⟨_, _, fun_mk (st := s__law_r) l40 c40 k40, PySem.W.mg_of X G a40⟩,
    s__law_add := ⟨_, _, fun_mk (st := s__law_add) l41 c41 k41, PySem.W.mg_of X G a41⟩,
    s__law_sub := ⟨_, _, fun_mk (st := s__law_sub) l42 c42 k42, PySem.W.mg_of X G a42⟩,
    s__law_mul := ⟨_, _, fun_mk (st := s__law_mul) l43 c43 k43, PySem.W.mg_of X G a43⟩,
    s__law_less := ⟨_, _, fun_mk (st := s__law_less) l44 c44 k44, PySem.W.mg_of X G a44⟩,
    s__law_twos := ⟨_, _, fun_mk (st := s__law_twos) l45 c45 k45, PySem.W.mg_of X G a45⟩,
    s__law_any := ⟨_, _, fun_mk (st := s__law_any) l46 c46 k46, PySem.W.mg_of X G a46⟩,
    s__law_power := ⟨_, _, fun_mk (st := s__law_power) l47 c47 k47, PySem.W.mg_of X G a47⟩,
    s__law_told := ⟨_, _, fun_mk (st := s__law_told) l48 c48 k48, PySem.W.mg_of X G a48⟩,
    s__law_decimal := ⟨_, _, fun_mk (st := s__law_decimal) l49 c49 k49, PySem.W.mg_of X G a49⟩,
    s_law := ⟨_, _, fun_mk (st := s_law) l50 c50 k50, PySem.W.mg_of X G a50⟩,
    n_abs := PySem.W.mg_none_of X G n_abs,
    n_all := PySem.W.mg_none_of X G n_all,
    n_bool := PySem.W.mg_none_of X G n_bool,
    n_dict := PySem.W.mg_none_of X G n_dict,
    n_int := PySem.W.mg_none_of X G n_int,
    n_isinstance := PySem.W.mg_none_of X G n_isinstance,
    n_len := PySem.W.mg_none_of X G n_len,
    n_list := PySem.W.mg_none_of X G n_list,
    n_max := PySem.W.mg_none_of X G n_max,
    n_range := PySem.W.mg_none_of X G n_range,
    n_reversed := PySem.W.mg_none_of X G n_reversed,
    n_str := PySem.W.mg_none_of X G n_str,
    n_sum := PySem.W.mg_none_of X G n_sum,
    n_tuple := PySem.W.mg_none_of X G n_tuple,
    g_LONG_FIGURES := ⟨_, PySem.W.mg_of X G g_LONG_FIGURES⟩,
    g_LONG := ⟨_, PySem.W.mg_of X G g_LONG⟩,
    g_MOST_BITS := ⟨_, PySem.W.mg_of X G g_MOST_BITS⟩,
    g_MOST_POWER := ⟨_, PySem.W.mg_of X G g_MOST_POWER⟩,
    g_MOST_FIGURES := ⟨_, PySem.W.mg_of X G g_MOST_FIGURES⟩,
    m0 := PySem.W.mg_of X G m0,
    m1 := PySem.W.mg_of X G m1,
    m2 := PySem.W.mg_of X G m2,
    m3 := PySem.W.mg_of X G m3,
    m4 := PySem.W.mg_of X G m4,
    m5 := PySem.W.mg_of X G m5,
    m6 := PySem.W.mg_of X G m6,
    e_NotRight := ⟨C1, PySem.W.mg_of X G m1, xa1, xb1, sb1, ty1⟩,
    x1 := ⟨xe1, xf1, sb1, hd1, xh1, xi, xj, xk1⟩,
    t1 := PySem.W.exm_ref sb0 hd0 ty0 xt1,
    k11 := kit_self,
    k12 := kit_other xn2_1 hd2 ty2 xs2_1,
    k13 := kit_other xn3_1 hd3 ty3 xs3_1,
    k14 := kit_other xn4_1 hd4 ty4 xs4_1,
    k15 := kit_other xn5_1 hd5 ty5 xs5_1,
    k16 := kit_other xn6_1 hd6 ty6 xs6_1,
    e_NoAnswer := ⟨C3, PySem.W.mg_of X G m3, xa3, xb3, sb3, ty3⟩,
    x3 := ⟨xe3, xf3, sb3, hd3, xh3, xi, xj, xk3⟩,
    t3 := PySem.W.exm_ref sb0 hd0 ty0 xt3,
    k31 := kit_other xn1_3 hd1 ty1 xs1_3,
    k32 := kit_other xn2_3 hd2 ty2 xs2_3,
    k33 := kit_self,
    k34 := kit_other xn4_3 hd4 ty4 xs4_3,
    k35 := kit_other xn5_3 hd5 ty5 xs5_3,
    k36 := kit_other xn6_3 hd6 ty6 xs6_3 }
  exact ⟨_, fun s v => .of_eq rfl, fun base _ _ => ok_law T (fun_mk (st := s_law) l50 c50 k50)⟩
theorem walk {l : PySem.W.OpenLaw} {q : Program} {loose : List Str} {XP : (Str → Option Value) → Heap → Prop} {YP : World → Heap → Prop} {d : DefRec} {K : Params → PySem.W.Frag} (hn : l.most = some 63) (hdf : d.params.defaults = [])
    (hY : ∀ (w : World) (h : Heap), YP w h → (K w.params).In h)
    (F : ∀ (w : World) (mg : Str → Option Value) (fa : Addr) (h : Heap), (K w.params).In h → h.Ns mainGlobals mg → mg d.name = some (.ref fa) →
      ∃ fd : FuncData, (∀ (s : Shared) (u : Value), BindsTo s fd ⟨[u], []⟩ [("script", u)]) ∧ ∀ base : Heap, (K w.params).In base → base.Ns mainGlobals mg → FnOk l.prog w (K w.params) mg base (L2N.CX l.prog w) 7 fa fd ["script"] (spLaw (K w.params))) :
    PySem.W.WalkO q loose XP YP l.row.toRowW d [] (fun f vs => PySem.call f vs) :=
  L2.walk_ofB (n := 63) (k := 7) (x := "script") (CX := fun w => L2N.CX l.prog w) (sp := fun w => spLaw (K w.params)) hn (by decide) hdf ⟨by decide, by decide, by decide⟩ hY F (fun _ _ a ns hl hb _ hS => ⟨a, ns, rfl, hS, hl, hb, fun _ => rfl⟩) fun _ _ _ _ _ z => by
    obtain ⟨_, _, _, _, _, _, _, _, _, _, _, _, z⟩ := z
    exact z.elim
end K00
open PySem PySem.W PyProof.Rows
set_option maxRecDepth 100000 in
set_option maxHeartbeats 0 in
theorem PySem.Challenge.cw_withinwidth_k00_whole_ratios_holds : PySem.Challenge.rw_withinwidth_k00_whole_ratios.Holds := by
  w_on; o_law; k_head; (case hw => w_witness2)
  k_fill
  refine K00.walk (l := PySem.Challenge.rw_withinwidth_k00_whole_ratios) rfl rfl (fun w h Y => PySem.W.kIn_of Y) ?F
  case F =>
    intro w mg fa h KX G hmg
    refine' K00.all_mk KX G hmg ?a0 ?l0 ?c0 ?k0 ?a1 ?l1 ?c1 ?k1 ?a2 ?l2 ?c2 ?k2 ?a3 ?l3 ?c3 ?k3 ?a4 ?l4 ?c4 ?k4 ?a5 ?l5 ?c5 ?k5 ?a6 ?l6 ?c6 ?k6 ?a7 ?l7 ?c7 ?k7 ?a8 ?l8 ?c8 ?k8 ?a9 ?l9 ?c9 ?k9 ?a10 ?l10 ?c10 ?k10 ?a11 ?l11 ?c11 ?k11 ?a12 ?l12 ?c12 ?k12 ?a13 ?l13 ?c13 ?k13 ?a14 ?l14 ?c14 ?k14 ?a15 ?l15 ?c15 ?k15 ?a16 ?l16 ?c16 ?k16 ?a17 ?l17 ?c17 ?k17 ?a18 ?l18 ?c18 ?k18 ?a19 ?l19 ?c19 ?k19 ?a20 ?l20 ?c20 ?k20 ?a21 ?l21 ?c21 ?k21 ?a22 ?l22 ?c22 ?k22 ?a23 ?l23 ?c23 ?k23 ?a24 ?l24 ?c24 ?k24 ?a25 ?l25 ?c25 ?k25 ?a26 ?l26 ?c26 ?k26 ?a27 ?l27 ?c27 ?k27 ?a28 ?l28 ?c28 ?k28 ?a29 ?l29 ?c29 ?k29 ?a30 ?l30 ?c30 ?k30 ?a31 ?l31 ?c31 ?k31 ?a32 ?l32 ?c32 ?k32 ?a33 ?l33 ?c33 ?k33 ?a34 ?l34 ?c34 ?k34 ?a35 ?l35 ?c35 ?k35 ?a36 ?l36 ?c36 ?k36 ?a37 ?l37 ?c37 ?k37 ?a38 ?l38 ?c38 ?k38 ?a39 ?l39 ?c39 ?k39 ?a40 ?l40 ?c40 ?k40 ?a41 ?l41 ?c41 ?k41 ?a42 ?l42 ?c42 ?k42 ?a43 ?l43 ?c43 ?k43 ?a44 ?l44 ?c44 ?k44 ?a45 ?l45 ?c45 ?k45 ?a46 ?l46 ?c46 ?k46 ?a47 ?l47 ?c47 ?k47 ?a48 ?l48 ?c48 ?k48 ?a49 ?l49 ?c49 ?k49 ?a50 ?l50 ?c50 ?k50 ?n_abs ?n_all ?n_bool ?n_dict ?n_int ?n_isinstance ?n_len ?n_list ?n_max ?n_range ?n_reversed ?n_str ?n_sum ?n_tuple ?g_LONG_FIGURES ?g_LONG ?g_MOST_BITS ?g_MOST_POWER ?g_MOST_FIGURES ?m0 ?m1 ?m2 ?m3 ?m4 ?m5 ?m6 ?hd0 ?ty0 ?sb0 ?hd1 ?ty1 ?sb1 ?hd2 ?ty2 ?sb2 ?hd3 ?ty3 ?sb3 ?hd4 ?ty4 ?sb4 ?hd5 ?ty5 ?sb5 ?hd6 ?ty6 ?sb6 ?xi ?xj ?xa1 ?xb1 ?xe1 ?xf1 ?xh1 ?xk1 ?xt1 ?xs2_1 ?xn2_1 ?xs3_1 ?xn3_1 ?xs4_1 ?xn4_1 ?xs5_1 ?xn5_1 ?xs6_1 ?xn6_1 ?xa3 ?xb3 ?xe3 ?xf3 ?xh3 ?xk3 ?xt3 ?xs1_3 ?xn1_3 ?xs2_3 ?xn2_3 ?xs4_3 ?xn4_3 ?xs5_3 ?xn5_3 ?xs6_3 ?xn6_3
    (case a0 => k_is)
    (case l0 => k_is)
    (case c0 => k_is)
    (case k0 => k_is)
    (case a1 => k_is)
    (case l1 => k_is)
    (case c1 => k_is)
    (case k1 => k_is)
    (case a2 => k_is)
    (case l2 => k_is)
    (case c2 => k_is)
    (case k2 => k_is)
    (case a3 => k_is)
    (case l3 => k_is)
    (case c3 => k_is)
    (case k3 => k_is)
    (case a4 => k_is)
    (case l4 => k_is)
    (case c4 => k_is)
    (case k4 => k_is)
    (case a5 => k_is)
    (case l5 => k_is)
    (case c5 => k_is)
    (case k5 => k_is)
    (case a6 => k_is)
    (case l6 => k_is)
    (case c6 => k_is)
    (case k6 => k_is)
    (case a7 => k_is)
    (case l7 => k_is)
    (case c7 => k_is)
    (case k7 => k_is)
    (case a8 => k_is)
    (case l8 => k_is)
    (case c8 => k_is)
    (case k8 => k_is)
    (case a9 => k_is)
    (case l9 => k_is)
    (case c9 => k_is)
    (case k9 => k_is)
    (case a10 => k_is)
    (case l10 => k_is)
    (case c10 => k_is)
    (case k10 => k_is)
    (case a11 => k_is)
    (case l11 => k_is)
    (case c11 => k_is)
    (case k11 => k_is)
    (case a12 => k_is)
    (case l12 => k_is)
    (case c12 => k_is)
    (case k12 => k_is)
    (case a13 => k_is)
    (case l13 => k_is)
    (case c13 => k_is)
    (case k13 => k_is)
    (case a14 => k_is)
    (case l14 => k_is)
    (case c14 => k_is)
    (case k14 => k_is)
    (case a15 => k_is)
    (case l15 => k_is)
    (case c15 => k_is)
    (case k15 => k_is)
    (case a16 => k_is)
    (case l16 => k_is)
    (case c16 => k_is)
    (case k16 => k_is)
    (case a17 => k_is)
    (case l17 => k_is)
    (case c17 => k_is)
    (case k17 => k_is)
    (case a18 => k_is)
    (case l18 => k_is)
    (case c18 => k_is)
    (case k18 => k_is)
    (case a19 => k_is)
    (case l19 => k_is)
    (case c19 => k_is)
    (case k19 => k_is)
    (case a20 => k_is)
    (case l20 => k_is)
    (case c20 => k_is)
    (case k20 => k_is)
    (case a21 => k_is)
    (case l21 => k_is)
    (case c21 => k_is)
    (case k21 => k_is)
    (case a22 => k_is)
    (case l22 => k_is)
    (case c22 => k_is)
    (case k22 => k_is)
    (case a23 => k_is)
    (case l23 => k_is)
    (case c23 => k_is)
    (case k23 => k_is)
    (case a24 => k_is)
    (case l24 => k_is)
    (case c24 => k_is)
    (case k24 => k_is)
    (case a25 => k_is)
    (case l25 => k_is)
    (case c25 => k_is)
    (case k25 => k_is)
    (case a26 => k_is)
    (case l26 => k_is)
    (case c26 => k_is)
    (case k26 => k_is)
    (case a27 => k_is)
    (case l27 => k_is)
    (case c27 => k_is)
    (case k27 => k_is)
    (case a28 => k_is)
    (case l28 => k_is)
    (case c28 => k_is)
    (case k28 => k_is)
    (case a29 => k_is)
    (case l29 => k_is)
    (case c29 => k_is)
    (case k29 => k_is)
    (case a30 => k_is)
    (case l30 => k_is)
    (case c30 => k_is)
    (case k30 => k_is)
    (case a31 => k_is)
    (case l31 => k_is)
    (case c31 => k_is)
    (case k31 => k_is)
    (case a32 => k_is)
    (case l32 => k_is)
    (case c32 => k_is)
    (case k32 => k_is)
    (case a33 => k_is)
    (case l33 => k_is)
    (case c33 => k_is)
    (case k33 => k_is)
    (case a34 => k_is)
    (case l34 => k_is)
    (case c34 => k_is)
    (case k34 => k_is)
    (case a35 => k_is)
    (case l35 => k_is)
    (case c35 => k_is)
    (case k35 => k_is)
    (case a36 => k_is)
    (case l36 => k_is)
    (case c36 => k_is)
    (case k36 => k_is)
    (case a37 => k_is)
    (case l37 => k_is)
    (case c37 => k_is)
    (case k37 => k_is)
    (case a38 => k_is)
    (case l38 => k_is)
    (case c38 => k_is)
    (case k38 => k_is)
    (case a39 => k_is)
    (case l39 => k_is)
    (case c39 => k_is)
    (case k39 => k_is)
    (case a40 => k_is)
    (case l40 => k_is)
    (case c40 => k_is)
    (case k40 => k_is)
    (case a41 => k_is)
    (case l41 => k_is)
    (case c41 => k_is)
    (case k41 => k_is)
    (case a42 => k_is)
    (case l42 => k_is)
    (case c42 => k_is)
    (case k42 => k_is)
    (case a43 => k_is)
    (case l43 => k_is)
    (case c43 => k_is)
    (case k43 => k_is)
    (case a44 => k_is)
    (case l44 => k_is)
    (case c44 => k_is)
    (case k44 => k_is)
    (case a45 => k_is)
    (case l45 => k_is)
    (case c45 => k_is)
    (case k45 => k_is)
    (case a46 => k_is)
    (case l46 => k_is)
    (case c46 => k_is)
    (case k46 => k_is)
    (case a47 => k_is)
    (case l47 => k_is)
    (case c47 => k_is)
    (case k47 => k_is)
    (case a48 => k_is)
    (case l48 => k_is)
    (case c48 => k_is)
    (case k48 => k_is)
    (case a49 => k_is)
    (case l49 => k_is)
    (case c49 => k_is)
    (case k49 => k_is)
    (case a50 => k_is)
    (case l50 => k_is)
    (case c50 => k_is)
    (case k50 => k_is)
    (case n_abs => k_is)
    (case n_all => k_is)
    (case n_bool => k_is)
    (case n_dict => k_is)
    (case n_int => k_is)
    (case n_isinstance => k_is)
    (case n_len => k_is)
    (case n_list => k_is)
    (case n_max => k_is)
    (case n_range => k_is)
    (case n_reversed => k_is)
    (case n_str => k_is)
    (case n_sum => k_is)
    (case n_tuple => k_is)
    (case g_LONG_FIGURES => k_is)
    (case g_LONG => k_is)
    (case g_MOST_BITS => k_is)
    (case g_MOST_POWER => k_is)
    (case g_MOST_FIGURES => k_is)
    (case m0 => k_is)
    (case m1 => k_is)
    (case m2 => k_is)
    (case m3 => k_is)
    (case m4 => k_is)
    (case m5 => k_is)
    (case m6 => k_is)
    (case hd0 => k_is)
    (case ty0 => k_is)
    (case sb0 => k_is)
    (case hd1 => k_is)
    (case ty1 => k_is)
    (case sb1 => k_is)
    (case hd2 => k_is)
    (case ty2 => k_is)
    (case sb2 => k_is)
    (case hd3 => k_is)
    (case ty3 => k_is)
    (case sb3 => k_is)
    (case hd4 => k_is)
    (case ty4 => k_is)
    (case sb4 => k_is)
    (case hd5 => k_is)
    (case ty5 => k_is)
    (case sb5 => k_is)
    (case hd6 => k_is)
    (case ty6 => k_is)
    (case sb6 => k_is)
    (case xi => k_is)
    (case xj => k_is)
    (case xa1 => k_exc)
    (case xb1 => k_is)
    (case xe1 => k_is)
    (case xf1 => k_is)
    (case xh1 => k_is)
    (case xk1 => k_is)
    (case xt1 => k_is)
    (case xs2_1 => k_is)
    (case xn2_1 => decide)
    (case xs3_1 => k_is)
    (case xn3_1 => decide)
    (case xs4_1 => k_is)
    (case xn4_1 => decide)
    (case xs5_1 => k_is)
    (case xn5_1 => decide)
    (case xs6_1 => k_is)
    (case xn6_1 => decide)
    (case xa3 => k_exc)
    (case xb3 => k_is)
    (case xe3 => k_is)
    (case xf3 => k_is)
    (case xh3 => k_is)
    (case xk3 => k_is)
    (case xt3 => k_is)
    (case xs1_3 => k_is)
    (case xn1_3 => decide)
    (case xs2_3 => k_is)
    (case xn2_3 => decide)
    (case xs4_3 => k_is)
    (case xn4_3 => decide)
    (case xs5_3 => k_is)
    (case xn5_3 => decide)
    (case xs6_3 => k_is)
    (case xn6_3 => decide)
