import PyProof.Rows.All
import HandS.ForMost
import HandS.IsInst
import HandS.Wide
import HandS.Zip
import HandS.Flow
import HandS.TupAny
import HandS.NoneIn
import HandS.Dict
import HandS.More
import HandS.Style
import HandS.Star
import HandS.Text
import HandS.Defaults
import KE.GoesMore
import HandS.Exc
import HandS.Property
import HandS.MakeKw
import HandS.MakeKwOnly
import HandS.FStr
import HandS.WordsExc
import HandS.ExcInit
import HandS.TryMany
import HandS.SlotsOwn
import KE.KOpsOwn
import KE.RegKCallOwn
import KE.KFmtOwn
import HandS.ClsMeth
import HandS.RaiseMore
import HandS.ExcField
import HandS.ExcIs
import KE.KTryMore
import HandS.HotCalls
import HandS.EndTab
import HandS.StrMore
import PyProof.StrOps2
import KE.KDflt
import KE.KUnpackStar
import HandS.Iter
import KE.GoesEnum
import PySem.Challenge.RW_unseenzero_k07_texts_of_forms
set_option Elab.async false
set_option linter.all false
set_option maxRecDepth 100000
set_option maxHeartbeats 2000000
/-! VA: a layer of plain data (D) over the hand layer: slots hold data, the heap is out of sight. -/
namespace VL
open PySem PySem.Spec PyProof.Rows L2

inductive D where
  | non | bl (b : Bool) | int (i : Int) | str (x : Str) | hnd (v : V) | tup (ds : List D) | lst (ds : List D) | dic (ks : List Str) (ds : List D) | ins (C : Addr) (ks : List Str) (ds : List D)
  /-- a lambda at f, with what is known of the objects it is made of -/
  | lam (f : Addr) (as : List (Addr × (Heap → Prop)))

def KSeqT (K : PySem.W.Frag) (a : Addr) (xs : List V) : Prop :=
  ∃ (o : Obj) (its : Array Value) (n : Nat), K.lookup a = some o ∧ o.cls = .type "tuple" ∧ o.data = .seq its n ∧ its.size ≤ sizeLine ∧ Vals xs its.toList
def KSeqL (K : PySem.W.Frag) (a : Addr) (xs : List V) : Prop :=
  ∃ (o : Obj) (its : Array Value) (n : Nat), K.lookup a = some o ∧ o.cls = .type "list" ∧ o.dict = none ∧ o.data = .seq its n ∧ its.size ≤ sizeLine ∧ Vals xs its.toList
def TupM (K : PySem.W.Frag) (M : Addr → Prop) (H : Hp) (a : Addr) (xs : List V) : Prop := (¬ M a ∧ Rd H a (.tup xs)) ∨ KSeqT K a xs
def LstM (K : PySem.W.Frag) (M : Addr → Prop) (H : Hp) (a : Addr) (xs : List V) : Prop := (¬ M a ∧ Rd H a (.lst xs)) ∨ KSeqL K a xs
theorem TupM.sq {K : PySem.W.Frag} {M : Addr → Prop} {H : Hp} {a : Addr} {xs : List V} (h : TupM K M H a xs) : SqT K H a xs := by
  rcases h with ⟨_, h⟩ | h
  · exact .inl h
  · exact .inr h
theorem LstM.sq {K : PySem.W.Frag} {M : Addr → Prop} {H : Hp} {a : Addr} {xs : List V} (h : LstM K M H a xs) : SqL K H a xs := by
  rcases h with ⟨_, h⟩ | h
  · exact .inl h
  · exact .inr h

mutual
def Rep (K : PySem.W.Frag) (M : Addr → Prop) (H : Hp) : D → V → Prop
  | .non, v => v = .non
  | .bl b, v => v = .bl b
  | .int i, v => v = .int i
  | .str x, v => v = .str x
  | .hnd u, v => v = u
  | .tup ds, v => ∃ a xs, v = .ref a ∧ TupM K M H a xs ∧ Reps K M H ds xs
  | .lst ds, v => ∃ a xs, v = .ref a ∧ LstM K M H a xs ∧ Reps K M H ds xs
  | .dic ks ds, v => ∃ (a : Addr) (us : List V), v = .ref a ∧ ¬ M a ∧ us.length = ks.length ∧ H a = some (.dK ((ks.map Sum.inr).zip us)) ∧ Reps K M H ds us
  | .ins C ks ds, v => ∃ (a dx : Addr) (us : List V), v = .ref a ∧ ¬ M a ∧ us.length = ks.length ∧ H a = some (.ins C dx (ks.zip us)) ∧ Reps K M H ds us
  | .lam f as, v => v = .ref f ∧ ∀ p ∈ as, ¬ M p.1 ∧ H p.1 = some (.ext p.2)
def Reps (K : PySem.W.Frag) (M : Addr → Prop) (H : Hp) : List D → List V → Prop
  | [], vs => vs = []
  | d :: ds, vs => ∃ v r, vs = v :: r ∧ Rep K M H d v ∧ Reps K M H ds r
end

/-- what stands outside M in H stands outside M' in H' -/
def Car (M M' : Addr → Prop) (H H' : Hp) : Prop := ∀ b o, ¬ M b → H b = some o → ¬ M' b ∧ H' b = some o
theorem rd_car {M M' : Addr → Prop} {H H' : Hp} {a : Addr} {u : HO} (c : Car M M' H H') (hm : ¬ M a) (h : Rd H a u) : ¬ M' a ∧ Rd H' a u := by
  rcases h with h | ⟨o, h⟩
  · exact ⟨(c _ _ hm h).1, .inl (c _ _ hm h).2⟩
  · exact ⟨(c _ _ hm h).1, .inr ⟨o, (c _ _ hm h).2⟩⟩
theorem TupM.car {K : PySem.W.Frag} {M M' : Addr → Prop} {H H' : Hp} {a : Addr} {xs : List V} (c : Car M M' H H') (h : TupM K M H a xs) : TupM K M' H' a xs := by
  rcases h with ⟨m, h⟩ | h
  · exact .inl (rd_car c m h)
  · exact .inr h
theorem LstM.car {K : PySem.W.Frag} {M M' : Addr → Prop} {H H' : Hp} {a : Addr} {xs : List V} (c : Car M M' H H') (h : LstM K M H a xs) : LstM K M' H' a xs := by
  rcases h with ⟨m, h⟩ | h
  · exact .inl (rd_car c m h)
  · exact .inr h
mutual
theorem Rep.car {K : PySem.W.Frag} {M M' : Addr → Prop} {H H' : Hp} (c : Car M M' H H') : ∀ {d : D} {v : V}, Rep K M H d v → Rep K M' H' d v
  | .non, _, h => h
  | .bl _, _, h => h
  | .int _, _, h => h
  | .str _, _, h => h
  | .hnd _, _, h => h
  | .tup _, _, h => by
    unfold Rep at h ⊢
    obtain ⟨a, xs, e, t, r⟩ := h
    exact ⟨a, xs, e, t.car c, Reps.car c r⟩
  | .lst _, _, h => by
    unfold Rep at h ⊢
    obtain ⟨a, xs, e, t, r⟩ := h
    exact ⟨a, xs, e, t.car c, Reps.car c r⟩
  | .dic _ _, _, h => by
    unfold Rep at h ⊢
    obtain ⟨a, us, e, m, l, t, r⟩ := h
    exact ⟨a, us, e, (c _ _ m t).1, l, (c _ _ m t).2, Reps.car c r⟩
  | .ins _ _ _, _, h => by
    unfold Rep at h ⊢
    obtain ⟨a, dx, us, e, m, l, t, r⟩ := h
    exact ⟨a, dx, us, e, (c _ _ m t).1, l, (c _ _ m t).2, Reps.car c r⟩
  | .lam _ _, _, h => by
    unfold Rep at h ⊢
    exact ⟨h.1, fun p hp => c _ _ (h.2 p hp).1 (h.2 p hp).2⟩
theorem Reps.car {K : PySem.W.Frag} {M M' : Addr → Prop} {H H' : Hp} (c : Car M M' H H') : ∀ {ds : List D} {vs : List V}, Reps K M H ds vs → Reps K M' H' ds vs
  | [], _, h => by
    unfold Reps at h ⊢
    exact h
  | _ :: _, _, h => by
    unfold Reps at h ⊢
    obtain ⟨v, r, e, h1, h2⟩ := h
    exact ⟨v, r, e, Rep.car c h1, Reps.car c h2⟩
end
section
variable {K : PySem.W.Frag} {M M' : Addr → Prop} {H H' : Hp} {ds es : List D} {vs us : List V} {d : D} {v : V}
theorem reps_nil : Reps K M H [] [] := by unfold Reps; rfl
theorem reps_cons (h : Rep K M H d v) (t : Reps K M H ds vs) : Reps K M H (d :: ds) (v :: vs) := by unfold Reps; exact ⟨v, vs, rfl, h, t⟩
theorem Reps.inv (h : Reps K M H (d :: ds) us) : ∃ v vs, us = v :: vs ∧ Rep K M H d v ∧ Reps K M H ds vs := by unfold Reps at h; exact h
theorem Reps.inv0 (h : Reps K M H [] us) : us = [] := by unfold Reps at h; exact h
theorem Reps.app : ∀ {ds es : List D} {vs us : List V}, Reps K M H ds vs → Reps K M H es us → Reps K M H (ds ++ es) (vs ++ us)
  | [], _, _, _, h, t => by rw [h.inv0]; exact t
  | _ :: _, _, _, _, h, t => by
    obtain ⟨v, vs, rfl, h1, h2⟩ := h.inv
    exact reps_cons h1 (Reps.app h2 t)
theorem Reps.len : ∀ {ds : List D} {vs : List V}, Reps K M H ds vs → vs.length = ds.length
  | [], _, h => by rw [h.inv0]; rfl
  | _ :: _, _, h => by
    obtain ⟨v, vs, rfl, h1, h2⟩ := h.inv
    simp [Reps.len h2]
theorem Reps.get : ∀ {ds : List D} {vs : List V} {i : Nat} {d : D}, Reps K M H ds vs → ds[i]? = some d → ∃ v, vs[i]? = some v ∧ Rep K M H d v
  | [], _, _, _, _, e => by simp at e
  | _ :: _, _, 0, _, h, e => by
    obtain ⟨v, vs, rfl, h1, h2⟩ := h.inv
    simp at e
    subst e
    exact ⟨v, by simp, h1⟩
  | _ :: _, _, i + 1, _, h, e => by
    obtain ⟨v, vs, rfl, h1, h2⟩ := h.inv
    obtain ⟨u, e1, e2⟩ := Reps.get (i := i) h2 (by simpa using e)
    exact ⟨u, by simpa using e1, e2⟩
theorem Reps.get' : ∀ {ds : List D} {vs : List V} {i : Nat} {v : V}, Reps K M H ds vs → vs[i]? = some v → ∃ d, ds[i]? = some d ∧ Rep K M H d v
  | [], _, i, _, h, e => by rw [h.inv0] at e; simp at e
  | _ :: _, _, 0, _, h, e => by
    obtain ⟨v, vs, rfl, h1, h2⟩ := h.inv
    simp at e
    subst e
    exact ⟨_, by simp, h1⟩
  | _ :: _, _, i + 1, _, h, e => by
    obtain ⟨v, vs, rfl, h1, h2⟩ := h.inv
    obtain ⟨u, e1, e2⟩ := Reps.get' (i := i) h2 (by simpa using e)
    exact ⟨u, by simpa using e1, e2⟩
theorem Reps.take : ∀ {ds : List D} {vs : List V} (n : Nat), Reps K M H ds vs → Reps K M H (ds.take n) (vs.take n)
  | _, _, 0, _ => by simp [reps_nil]
  | [], _, _ + 1, h => by rw [h.inv0]; simp [reps_nil]
  | _ :: _, _, n + 1, h => by
    obtain ⟨v, vs, rfl, h1, h2⟩ := h.inv
    exact reps_cons h1 (Reps.take n h2)
theorem Reps.drop : ∀ {ds : List D} {vs : List V} (n : Nat), Reps K M H ds vs → Reps K M H (ds.drop n) (vs.drop n)
  | _, _, 0, h => h
  | [], _, _ + 1, h => by rw [h.inv0]; simp [reps_nil]
  | _ :: _, _, n + 1, h => by
    obtain ⟨v, vs, rfl, h1, h2⟩ := h.inv
    exact Reps.drop n h2
theorem Reps.rev {ds : List D} {vs : List V} (h : Reps K M H ds vs) : Reps K M H ds.reverse vs.reverse := by
  induction ds generalizing vs with
  | nil => rw [h.inv0]; exact reps_nil
  | cons d ds ih =>
    obtain ⟨v, vs, rfl, h1, h2⟩ := h.inv
    rw [List.reverse_cons, List.reverse_cons]
    exact (ih h2).app (reps_cons h1 reps_nil)
theorem rep_ints (ns : List Int) : Reps K M H (ns.map D.int) (ns.map V.int) := by
  induction ns with
  | nil => exact reps_nil
  | cons n ns ih => exact reps_cons (by unfold Rep; rfl) ih
theorem Reps.ints : ∀ {ns : List Int} {vs : List V}, Reps K M H (ns.map D.int) vs → vs = ns.map V.int
  | [], _, h => h.inv0
  | _ :: _, _, h => by
    obtain ⟨v, vs, rfl, h1, h2⟩ := h.inv
    unfold Rep at h1
    rw [h1, Reps.ints h2]
    rfl
theorem Reps.bls : ∀ {ns : List Bool} {vs : List V}, Reps K M H (ns.map D.bl) vs → vs = ns.map V.bl
  | [], _, h => h.inv0
  | _ :: _, _, h => by
    obtain ⟨v, vs, rfl, h1, h2⟩ := h.inv
    unfold Rep at h1
    rw [h1, Reps.bls h2]
    rfl
theorem Reps.strs : ∀ {ns : List Str} {vs : List V}, Reps K M H (ns.map D.str) vs → vs = ns.map V.str
  | [], _, h => h.inv0
  | _ :: _, _, h => by
    obtain ⟨v, vs, rfl, h1, h2⟩ := h.inv
    unfold Rep at h1
    rw [h1, Reps.strs h2]
    rfl
theorem rep_int {i : Int} : Rep K M H (.int i) (.int i) := by unfold Rep; rfl
theorem rep_bl {i : Bool} : Rep K M H (.bl i) (.bl i) := by unfold Rep; rfl
theorem rep_str {i : Str} : Rep K M H (.str i) (.str i) := by unfold Rep; rfl
theorem rep_non : Rep K M H .non .non := by unfold Rep; rfl
theorem rep_hnd {v : V} : Rep K M H (.hnd v) v := by unfold Rep; rfl
theorem Rep.int {i : Int} (h : Rep K M H (.int i) v) : v = .int i := by unfold Rep at h; exact h
theorem Rep.bl {i : Bool} (h : Rep K M H (.bl i) v) : v = .bl i := by unfold Rep at h; exact h
theorem Rep.str {i : Str} (h : Rep K M H (.str i) v) : v = .str i := by unfold Rep at h; exact h
theorem Rep.non (h : Rep K M H .non v) : v = .non := by unfold Rep at h; exact h
theorem Rep.hnd {u : V} (h : Rep K M H (.hnd u) v) : v = u := by unfold Rep at h; exact h
theorem Rep.tup (h : Rep K M H (.tup ds) v) : ∃ a xs, v = .ref a ∧ TupM K M H a xs ∧ Reps K M H ds xs := by unfold Rep at h; exact h
theorem Rep.lst (h : Rep K M H (.lst ds) v) : ∃ a xs, v = .ref a ∧ LstM K M H a xs ∧ Reps K M H ds xs := by unfold Rep at h; exact h
theorem Rep.dic {ks : List Str} (h : Rep K M H (.dic ks ds) v) : ∃ (a : Addr) (us : List V), v = .ref a ∧ ¬ M a ∧ us.length = ks.length ∧ H a = some (.dK ((ks.map Sum.inr).zip us)) ∧ Reps K M H ds us := by unfold Rep at h; exact h
theorem Rep.ins {C : Addr} {ks : List Str} (h : Rep K M H (.ins C ks ds) v) : ∃ (a dx : Addr) (us : List V), v = .ref a ∧ ¬ M a ∧ us.length = ks.length ∧ H a = some (.ins C dx (ks.zip us)) ∧ Reps K M H ds us := by unfold Rep at h; exact h
theorem Rep.lam {f : Addr} {as : List (Addr × (Heap → Prop))} (h : Rep K M H (.lam f as) v) : v = .ref f ∧ ∀ p ∈ as, ¬ M p.1 ∧ H p.1 = some (.ext p.2) := by unfold Rep at h; exact h
theorem rep_lam {f : Addr} {as : List (Addr × (Heap → Prop))} (h : ∀ p ∈ as, ¬ M p.1 ∧ H p.1 = some (.ext p.2)) : Rep K M H (.lam f as) (.ref f) := by unfold Rep; exact ⟨rfl, h⟩
theorem rep_dic {a : Addr} {us : List V} {ks : List Str} (m : ¬ M a) (l : us.length = ks.length) (t : H a = some (.dK ((ks.map Sum.inr).zip us))) (r : Reps K M H ds us) : Rep K M H (.dic ks ds) (.ref a) := by unfold Rep; exact ⟨a, us, rfl, m, l, t, r⟩
theorem rep_ins {a dx C : Addr} {us : List V} {ks : List Str} (m : ¬ M a) (l : us.length = ks.length) (t : H a = some (.ins C dx (ks.zip us))) (r : Reps K M H ds us) : Rep K M H (.ins C ks ds) (.ref a) := by unfold Rep; exact ⟨a, dx, us, rfl, m, l, t, r⟩
theorem rep_tup {a : Addr} {xs : List V} (t : TupM K M H a xs) (r : Reps K M H ds xs) : Rep K M H (.tup ds) (.ref a) := by unfold Rep; exact ⟨a, xs, rfl, t, r⟩
theorem rep_lst {a : Addr} {xs : List V} (t : LstM K M H a xs) (r : Reps K M H ds xs) : Rep K M H (.lst ds) (.ref a) := by unfold Rep; exact ⟨a, xs, rfl, t, r⟩
end

/-- a world: the cells that some defs change (A), and what holds of them -/
structure Wd where
  A : Addr → Prop
  I : Hp → Prop
  live : ∀ H a, I H → A a → H a ≠ none
  nx : ∀ H a φ, I H → A a → H a ≠ some (.ext φ)
  /-- what nobody changes -/
  B : Addr → Prop := fun _ => False
  liveB : ∀ H a, I H → B a → H a ≠ none := by exact fun _ _ _ z => False.elim z
  /-- what is in no mask -/
  C : Addr → Prop := fun _ => False
  cb : ∀ a, C a → B a := by exact fun _ z => False.elim z
  stay : ∀ H H' : Hp, I H → (∀ b, A b → H' b = H b) → (∀ b φ, H b = some (.ext φ) → H' b = some (.ext φ)) → (∀ b o, B b → H b = some o → H' b = some o) → I H'
  /-- what is fixed for a def's whole run (for one that raises) -/
  Mf : Addr → Prop := fun _ => False
  Hf : Hp := fun _ => none

def Full (H H' : Hp) : Prop := ∀ b o, H b = some o → H' b = some o
def Ext (W : Wd) (H H' : Hp) : Prop := ∀ b o, ¬ W.A b → H b = some o → H' b = some o
theorem Full.refl (H : Hp) : Full H H := fun _ _ h => h
theorem Full.trans {H H1 H2 : Hp} (a : Full H H1) (b : Full H1 H2) : Full H H2 := fun c o h => b c o (a c o h)
theorem Full.new {H : Hp} {p : Addr} {o : HO} (h : H p = none) : Full H (upd H p o) := fun a u e => by
  rw [upd_ne (ne_of_none e h)]
  exact e
theorem Full.ext {W : Wd} {H H' : Hp} (f : Full H H') : Ext W H H' := fun b o _ h => f b o h
theorem Wd.keep (W : Wd) (H H' : Hp) (h : W.I H) (f : ∀ b o, H b = some o → H' b = some o) : W.I H' := W.stay H H' h (fun b hb => by
  cases q : H b with
  | none => exact absurd q (W.live H b h hb)
  | some o => exact f b o q) (fun b φ e => f b _ e) fun b o _ e => f b o e
theorem Ext.refl {W : Wd} (H : Hp) : Ext W H H := fun _ _ _ h => h
theorem Ext.trans {W : Wd} {H H1 H2 : Hp} (a : Ext W H H1) (b : Ext W H1 H2) : Ext W H H2 := fun c o n h => b c o n (a c o n h)

/-- the mask fits the heap -/
structure MOk (W : Wd) (M : Addr → Prop) (H : Hp) : Prop where
  wm : ∀ a, W.A a → M a
  live : ∀ a, M a → H a ≠ none
  wi : W.I H
  nb : ∀ a, M a → ¬ W.C a
  nx : ∀ a φ, M a → H a ≠ some (.ext φ)
section
variable {K : PySem.W.Frag} {W : Wd} {M M' : Addr → Prop} {H H' : Hp} {ds : List D} {d : D} {v : V} {vs xs : List V} {p : Addr}
theorem MOk.ext (m : MOk W M H) (e : Ext W H H') (wi : W.I H') : MOk W M H' := by
  have nx : ∀ a φ, M a → H' a ≠ some (.ext φ) := fun a φ h z => by
    by_cases ha : W.A a
    · exact W.nx _ _ φ wi ha z
    · cases q : H a with
      | none => exact m.live a h q
      | some o => exact m.nx a φ h (by rw [e a o ha q] at z; rw [q, z])
  refine ⟨m.wm, fun a h => ?_, wi, m.nb, nx⟩
  by_cases ha : W.A a
  · exact W.live _ _ wi ha
  · intro z
    cases q : H a with
    | none => exact m.live a h q
    | some o => rw [e a o ha q] at z; cases z
theorem MOk.full (m : MOk W M H) (e : Full H H') : MOk W M H' := m.ext e.ext (W.keep _ _ m.wi e)
theorem MOk.car (m : MOk W M H) (e : Ext W H H') : Car M M H H' := fun b o n h => ⟨n, e b o (fun z => n (m.wm b z)) h⟩
theorem MOk.fresh (m : MOk W M H) (h : H p = none) : ¬ M p := fun z => m.live p z h
theorem Rep.ext (m : MOk W M H) (e : Ext W H H') (h : Rep K M H d v) : Rep K M H' d v := h.car (m.car e)
theorem Reps.ext (m : MOk W M H) (e : Ext W H H') (h : Reps K M H ds vs) : Reps K M H' ds vs := h.car (m.car e)
/-- a new tuple, a new list -/
theorem MOk.newT (m : MOk W M H) (h : H p = none) (r : Reps K M H ds xs) : Rep K M (upd H p (.tup xs)) (.tup ds) (.ref p) :=
  rep_tup (.inl ⟨m.fresh h, .inl upd_same⟩) (r.ext m (Full.new h).ext)
theorem MOk.newL (m : MOk W M H) (h : H p = none) (r : Reps K M H ds xs) : Rep K M (upd H p (.lst xs)) (.lst ds) (.ref p) :=
  rep_lst (.inl ⟨m.fresh h, .inl upd_same⟩) (r.ext m (Full.new h).ext)
end

/-! ### slots -/
inductive Sl where
  | un | d (x : D) | ml (xs : List D) | md (ks : List Str) (xs : List D) | mi (a C : Addr) (ks : List Str) (xs : List D)

def Mx (M0 : Addr → Prop) (oa : Nat → Option Addr) : Addr → Prop := fun a => M0 a ∨ ∃ i, oa i = some a
def SlotOk (K : PySem.W.Frag) (M : Addr → Prop) (H : Hp) (o : Option Addr) : Sl → Option (Option V) → Prop
  | .un, _ => o = none
  | .d x, u => o = none ∧ ∃ v, u = some (some v) ∧ Rep K M H x v
  | .ml ds, u => ∃ a xs, o = some a ∧ u = some (some (.ref a)) ∧ H a = some (.lst xs) ∧ Reps K M H ds xs
  | .md ks ds, u => ∃ (a : Addr) (us : List V), o = some a ∧ u = some (some (.ref a)) ∧ us.length = ks.length ∧ H a = some (.dK ((ks.map Sum.inr).zip us)) ∧ Reps K M H ds us
  | .mi a C ks ds, u => ∃ (dx : Addr) (us : List V), o = some a ∧ u = some (some (.ref a)) ∧ us.length = ks.length ∧ H a = some (.ins C dx (ks.zip us)) ∧ Reps K M H ds us
structure Sat (K : PySem.W.Frag) (W : Wd) (M0 : Addr → Prop) (H0 : Hp) (oa : Nat → Option Addr) (H : Hp) (σ : L2.St) (ds : List Sl) : Prop where
  wm : ∀ a, W.A a → M0 a
  live : ∀ a, M0 a → H0 a ≠ none
  ext : Ext W H0 H
  wi : W.I H
  ofr : ∀ i a, oa i = some a → H0 a = none ∧ ¬ M0 a
  inj : ∀ i j a, oa i = some a → oa j = some a → i = j
  len : ds.length = σ.length
  out : ∀ i, ds.length ≤ i → oa i = none
  slot : ∀ i s, ds[i]? = some s → SlotOk K (Mx M0 oa) H (oa i) s (σ[i]?)
  fm : ∀ a, W.Mf a → M0 a
  fh : Ext W W.Hf H0
  bl : ∀ a, W.B a → H0 a ≠ none
  nc : ∀ a, M0 a → ¬ W.C a
  nx : ∀ a φ, M0 a → H0 a ≠ some (.ext φ)
section
variable {K : PySem.W.Frag} {W : Wd} {M0 : Addr → Prop} {H0 H H' : Hp} {oa : Nat → Option Addr} {σ : L2.St} {ds : List Sl}
theorem SlotOk.own {M : Addr → Prop} {i : Option Addr} {s : Sl} {u : Option (Option V)} {a : Addr} (h : SlotOk K M H i s u) (e : i = some a) : ∃ ob, H a = some ob := by
  subst e
  cases s with
  | un => cases (show some a = none from h)
  | d x => cases (show some a = none ∧ _ from h).1
  | ml l =>
    obtain ⟨b, xs, e1, e2, e3, _⟩ := h
    cases e1
    exact ⟨_, e3⟩
  | md ks l =>
    obtain ⟨b, xs, e1, e2, e3, e4, _⟩ := h
    cases e1
    exact ⟨_, e4⟩
  | mi b C ks l =>
    obtain ⟨dx, xs, e1, e2, e3, e4, _⟩ := h
    cases e1
    exact ⟨_, e4⟩
theorem Sat.ownLive (S : Sat K W M0 H0 oa H σ ds) {i : Nat} {a : Addr} (h : oa i = some a) : ∃ ob, H a = some ob := by
  by_cases hi : i < ds.length
  · exact (S.slot i ds[i] (by simp [hi])).own h
  · rw [S.out i (by omega)] at h; cases h
theorem SlotOk.nx {M : Addr → Prop} {i : Option Addr} {s : Sl} {u : Option (Option V)} {a : Addr} (h : SlotOk K M H i s u) (e : i = some a) (φ : Heap → Prop) : H a ≠ some (.ext φ) := by
  subst e
  intro z
  cases s with
  | un => cases (show some a = none from h)
  | d x => cases (show some a = none ∧ _ from h).1
  | ml l =>
    obtain ⟨b, xs, e1, e2, e3, _⟩ := h
    cases e1
    rw [e3] at z; cases z
  | md ks l =>
    obtain ⟨b, xs, e1, e2, e3, e4, _⟩ := h
    cases e1
    rw [e4] at z; cases z
  | mi b C ks l =>
    obtain ⟨dx, xs, e1, e2, e3, e4, _⟩ := h
    cases e1
    rw [e4] at z; cases z
/-- no mask has a handle's object -/
theorem Sat.mnx (S : Sat K W M0 H0 oa H σ ds) (a : Addr) (φ : Heap → Prop) (h : Mx M0 oa a) : H a ≠ some (.ext φ) := by
  rcases h with h | ⟨i, h⟩
  · intro z
    by_cases ha : W.A a
    · exact W.nx _ _ φ S.wi ha z
    · cases q : H0 a with
      | none => exact S.live a h q
      | some o => exact S.nx a φ h (by rw [S.ext a o ha q] at z; rw [q, z])
  · by_cases hi : i < ds.length
    · exact (S.slot i ds[i] (by simp [hi])).nx h φ
    · rw [S.out i (by omega)] at h; cases h
theorem Sat.mok (S : Sat K W M0 H0 oa H σ ds) : MOk W (Mx M0 oa) H := by
  refine ⟨fun a h => .inl (S.wm a h), fun a h => ?_, S.wi, fun a h hC => h.elim (fun h => S.nc a h hC) fun ⟨i, z⟩ => S.bl a (W.cb a hC) (S.ofr i a z).1, S.mnx⟩
  rcases h with h | ⟨i, h⟩
  · by_cases ha : W.A a
    · exact W.live _ _ S.wi ha
    · intro z
      cases q : H0 a with
      | none => exact S.live a h q
      | some o => rw [S.ext a o ha q] at z; cases z
  · obtain ⟨xs, e⟩ := S.ownLive h
    rw [e]
    intro z
    cases z
theorem SlotOk.car {M M' : Addr → Prop} {o : Option Addr} {s : Sl} {u : Option (Option V)} (c : Car M M' H H') (ho : ∀ a ob, o = some a → H a = some ob → H' a = some ob) (h : SlotOk K M H o s u) : SlotOk K M' H' o s u := by
  cases s with
  | un => exact h
  | d x =>
    obtain ⟨e, v, e1, r⟩ := h
    exact ⟨e, v, e1, r.car c⟩
  | ml l =>
    obtain ⟨a, xs, e1, e2, e3, r⟩ := h
    exact ⟨a, xs, e1, e2, ho a _ e1 e3, r.car c⟩
  | md ks l =>
    obtain ⟨a, us, e1, e2, e3, e4, r⟩ := h
    exact ⟨a, us, e1, e2, e3, ho a _ e1 e4, r.car c⟩
  | mi a C ks l =>
    obtain ⟨dx, us, e1, e2, e3, e4, r⟩ := h
    exact ⟨dx, us, e1, e2, e3, ho a _ e1 e4, r.car c⟩
theorem Sat.own_nA (S : Sat K W M0 H0 oa H σ ds) {i : Nat} {a : Addr} (h : oa i = some a) : ¬ W.A a := fun z => (S.ofr i a h).2 (S.wm a z)
/-- the heap grows, the world turns -/
theorem Sat.step (S : Sat K W M0 H0 oa H σ ds) (e : Ext W H H') (wi : W.I H') : Sat K W M0 H0 oa H' σ ds :=
  ⟨S.wm, S.live, S.ext.trans e, wi, S.ofr, S.inj, S.len, S.out, fun i s h => (S.slot i s h).car (S.mok.car e) fun a xs h1 h2 => e a _ (S.own_nA h1) h2, S.fm, S.fh, S.bl, S.nc, S.nx⟩
theorem Sat.full (S : Sat K W M0 H0 oa H σ ds) (e : Full H H') : Sat K W M0 H0 oa H' σ ds := S.step e.ext (W.keep _ _ S.wi e)
theorem Sat.get (S : Sat K W M0 H0 oa H σ ds) {i : Nat} {x : D} (h : ds[i]? = some (.d x)) : ∃ v, σ[i]? = some (some v) ∧ Rep K (Mx M0 oa) H x v := (S.slot i _ h).2
/-- a store of data -/
def oaDel (oa : Nat → Option Addr) (i : Nat) : Nat → Option Addr := fun j => if j = i then none else oa j
theorem oaDel_some {oa : Nat → Option Addr} {i j : Nat} {a : Addr} (h : oaDel oa i j = some a) : j ≠ i ∧ oa j = some a := by
  unfold oaDel at h
  by_cases e : j = i
  · rw [if_pos e] at h; cases h
  · rw [if_neg e] at h; exact ⟨e, h⟩
theorem mx_del {i : Nat} {a : Addr} (h : Mx M0 (oaDel oa i) a) : Mx M0 oa a := by
  rcases h with h | ⟨j, h⟩
  · exact .inl h
  · exact .inr ⟨j, (oaDel_some h).2⟩
theorem car_del {i : Nat} : Car (Mx M0 oa) (Mx M0 (oaDel oa i)) H H := fun b o n h => ⟨fun z => n (mx_del z), h⟩
theorem Sat.set (S : Sat K W M0 H0 oa H σ ds) {i : Nat} {x : D} {v : V} (r : Rep K (Mx M0 oa) H x v) : Sat K W M0 H0 (oaDel oa i) H (σ.set i (some v)) (ds.set i (.d x)) := by
  refine ⟨S.wm, S.live, S.ext, S.wi, fun j a h => S.ofr j a (oaDel_some h).2, fun j k a h1 h2 => S.inj j k a (oaDel_some h1).2 (oaDel_some h2).2, by simp [S.len], fun j hj => ?_, fun j s h => ?_, S.fm, S.fh, S.bl, S.nc, S.nx⟩
  · have q := S.out j (by simpa using hj)
    unfold oaDel
    split
    · rfl
    · exact q
  · by_cases e : j = i
    · subst e
      have hl : j < ds.length := by
        have := (List.getElem?_eq_some_iff.mp h).1
        simpa using this
      rw [List.getElem?_set_self hl] at h
      cases h
      refine ⟨by unfold oaDel; simp, v, ?_, r.car car_del⟩
      rw [List.getElem?_set_self (by rw [← S.len]; exact hl)]
    · rw [List.getElem?_set_ne (Ne.symm e)] at h
      rw [List.getElem?_set_ne (Ne.symm e)]
      have q := S.slot j s h
      have e2 : oaDel oa i j = oa j := by unfold oaDel; rw [if_neg e]
      rw [e2]
      exact q.car car_del fun a xs _ z => z
/-- a new list that the def keeps for itself -/
def oaPut (oa : Nat → Option Addr) (i : Nat) (p : Addr) : Nat → Option Addr := fun j => if j = i then some p else oa j
theorem Sat.setown (S : Sat K W M0 H0 oa H σ ds) {i : Nat} {p : Addr} {sl : Sl} (hi : i < ds.length) (h0 : H0 p = none) (hm : ¬ Mx M0 oa p) (hsl : SlotOk K (Mx M0 (oaPut oa i p)) H (some p) sl (some (some (.ref p))))
    (hr : ∀ j s, j ≠ i → ds[j]? = some s → SlotOk K (Mx M0 (oaPut oa i p)) H (oa j) s (σ[j]?)) : Sat K W M0 H0 (oaPut oa i p) H (σ.set i (some (.ref p))) (ds.set i sl) := by
  have hs : ∀ j a, oaPut oa i p j = some a → (j = i ∧ a = p) ∨ (j ≠ i ∧ oa j = some a) := fun j a h => by
    unfold oaPut at h
    by_cases e : j = i
    · rw [if_pos e] at h; cases h; exact .inl ⟨e, rfl⟩
    · rw [if_neg e] at h; exact .inr ⟨e, h⟩
  refine ⟨S.wm, S.live, S.ext, S.wi, fun j a h => ?_, fun j k a h1 h2 => ?_, by simp [S.len], fun j hj => ?_, fun j s h => ?_, S.fm, S.fh, S.bl, S.nc, S.nx⟩
  · rcases hs j a h with ⟨_, e⟩ | ⟨_, e⟩
    · subst e; exact ⟨h0, fun z => hm (.inl z)⟩
    · exact S.ofr j a e
  · rcases hs j a h1 with ⟨e1, e2⟩ | ⟨e1, e2⟩
    · rcases hs k a h2 with ⟨e3, e4⟩ | ⟨e3, e4⟩
      · rw [e1, e3]
      · subst e2; exact absurd (.inr ⟨k, e4⟩) hm
    · rcases hs k a h2 with ⟨e3, e4⟩ | ⟨e3, e4⟩
      · subst e4; exact absurd (.inr ⟨j, e2⟩) hm
      · exact S.inj j k a e2 e4
  · have hj' : ds.length ≤ j := by simpa using hj
    unfold oaPut
    rw [if_neg (by omega)]
    exact S.out j hj'
  · by_cases e : j = i
    · subst e
      rw [List.getElem?_set_self hi] at h
      cases h
      rw [List.getElem?_set_self (by rw [← S.len]; exact hi)]
      have e2 : oaPut oa j p j = some p := by unfold oaPut; simp
      rw [e2]
      exact hsl
    · rw [List.getElem?_set_ne (Ne.symm e)] at h
      rw [List.getElem?_set_ne (Ne.symm e)]
      have e2 : oaPut oa i p j = oa j := by unfold oaPut; rw [if_neg e]
      rw [e2]
      exact hr j s e h
end
end VL

set_option Elab.async false
set_option linter.all false
set_option maxRecDepth 100000
set_option maxHeartbeats 2000000
/-! VB: expressions and tests over plain data. -/
namespace VL
open PySem PySem.Spec PyProof.Rows L2

abbrev WE := List Sl → (D → Prop) → Prop
abbrev WT := List Sl → (Bool → Prop) → Prop
abbrev WL := List Sl → (List D → Prop) → Prop
def LE (K : PySem.W.Frag) (W : Wd) (w : WE) : TE := fun σ H Q => ∃ M0 H0 oa ds P, Sat K W M0 H0 oa H σ ds ∧ w ds P ∧ ∀ d v H', P d → Ext W H H' → W.I H' → Rep K (Mx M0 oa) H' d v → Q v H'
def LT (K : PySem.W.Frag) (W : Wd) (w : WT) : TT := fun σ H Q => ∃ M0 H0 oa ds P, Sat K W M0 H0 oa H σ ds ∧ w ds P ∧ ∀ b H', P b → Ext W H H' → W.I H' → Q b H'
def LA (K : PySem.W.Frag) (W : Wd) (w : WL) : TA := fun σ H Q => ∃ M0 H0 oa ds P, Sat K W M0 H0 oa H σ ds ∧ w ds P ∧ ∀ xs vs H', P xs → Ext W H H' → W.I H' → Reps K (Mx M0 oa) H' xs vs → Q vs H'
abbrev VE (X : Cx) (W : Wd) (e : Expr) (w : WE) : Prop := PE X e (LE X.K W w)
abbrev VT (X : Cx) (W : Wd) (e : Expr) (w : WT) : Prop := PT X e (LT X.K W w)
abbrev VA (X : Cx) (W : Wd) (es : List Expr) (w : WL) : Prop := PA X es (LA X.K W w)

section
variable {X : Cx} {e : Expr} {es : List Expr}
theorem pe_imp {t t' : TE} (h : PE X e t) (f : ∀ σ H Q, t' σ H Q → t σ H Q) : PE X e t' := ⟨fun pins s σ H Q I hw => h.run pins s σ H Q I (f σ H Q hw)⟩
theorem pt_imp {t t' : TT} (h : PT X e t) (f : ∀ σ H Q, t' σ H Q → t σ H Q) : PT X e t' := ⟨fun pins s σ H Q I hw => h.run pins s σ H Q I (f σ H Q hw)⟩
theorem pw_imp {t t' : TT} (h : PW X e t) (f : ∀ σ H Q, t' σ H Q → t σ H Q) : PW X e t' := ⟨fun wh pins s σ H Q I hw => h.run wh pins s σ H Q I (f σ H Q hw)⟩
theorem pa_imp {t t' : TA} (h : PA X es t) (f : ∀ σ H Q, t' σ H Q → t σ H Q) : PA X es t' := ⟨fun pos pins s σ H Q I hw => h.run pos pins s σ H Q I (f σ H Q hw)⟩
end

/-! ### names and constants -/
def slD : Sl → (D → Prop) → Prop
  | .d x, P => P x
  | _, _ => False
def wVar (i : Nat) : WE := fun ds P => slD (ds.getD i .un) P
def wC (d : D) : WE := fun _ P => P d
theorem slD_of {s : Sl} {P : D → Prop} (h : slD s P) : ∃ x, s = .d x ∧ P x := by
  cases s with
  | un => exact h.elim
  | d x => exact ⟨x, rfl, h⟩
  | ml l => exact h.elim
  | md k l => exact h.elim
  | mi a C k l => exact h.elim
theorem getD_get {ds : List Sl} {i : Nat} {x : D} (h : ds.getD i .un = .d x) : ds[i]? = some (.d x) := by
  rw [List.getD_eq_getElem?_getD] at h
  cases e : ds[i]? with
  | none => rw [e] at h; cases h
  | some s => rw [e] at h; exact congrArg some h
section
variable {X : Cx} {W : Wd} {e a b c : Expr} {es rest : List Expr} {pos : Pos}
theorem ve_var (i : Nat) {x : Str} (hN : X.N[i]? = some x := by rfl) (hv : Vis X.env.scope x := by first | exact Or.inl rfl | exact Or.inr (Or.inl rfl) | exact Or.inr (Or.inr rfl)) (hd : (x == ("__debug__" : Str)) = false := by decide)
    (hcd : (x == ("__classdict__" : Str)) = false := by decide) : VE X W (.Name x pos) (wVar i) := pe_imp (pe_var hN hv hd hcd) fun σ H Q ⟨M0, H0, oa, ds, P, S, hw, k⟩ => by
  obtain ⟨x, e, hp⟩ := slD_of hw
  obtain ⟨v, h1, r⟩ := S.get (getD_get e)
  exact ⟨v, h1, k x v H hp (Ext.refl H) S.wi r⟩
/-- a value that is what it is in every heap -/
def Flat (K : PySem.W.Frag) (d : D) (v : V) : Prop := ∀ M H, Rep K M H d v
theorem ve_c {d : D} {v : V} (h : PE X e (tC v)) (f : Flat X.K d v) : VE X W e (wC d) := pe_imp h fun σ H Q ⟨M0, H0, oa, ds, P, S, hw, k⟩ => k d v H hw (Ext.refl H) S.wi (f _ _)
theorem ve_int {i j} : VE X W (.Constant (.int i) j pos) (wC (.int i)) := ve_c pe_int fun _ _ => rep_int
theorem ve_bl {i j} : VE X W (.Constant (.bool i) j pos) (wC (.bl i)) := ve_c pe_bl fun _ _ => rep_bl
theorem ve_non {j} : VE X W (.Constant .none j pos) (wC .non) := ve_c pe_non fun _ _ => rep_non
theorem ve_str {i j} : VE X W (.Constant (.str i) j pos) (wC (.str i)) := ve_c pe_str fun _ _ => rep_str
theorem ve_glob {x : Str} {d : D} {v : V} {u : Value} (hg : Gl X x) (hm : X.mg x = some u) (r : RelV v u) (f : Flat X.K d v) (hd : (x == ("__debug__" : Str)) = false := by decide) : VE X W (.Name x pos) (wC d) := ve_c (pe_glob hg hm r hd) f
theorem ve_ty {x : Str} {n : String} (hg : Gl X x) (hm : X.mg x = none) (hv : bootBuiltins x = some (.type n)) (hn : x ≠ "__name__" := by decide) (hd : (x == ("__debug__" : Str)) = false := by decide) : VE X W (.Name x pos) (wC (.hnd (.ty n))) :=
  ve_c (pe_bltn (v := .ty n) hg hm hv rfl hn hd) fun _ _ => rep_hnd

/-! ### two-place operations -/
def LiftOp (K : PySem.W.Frag) (W : Wd) (f : D → D → (D → Prop) → Prop) (r : R2) : Prop :=
  ∀ (M : Addr → Prop) (H : Hp) (x y : D) (v u : V) (P : D → Prop) (Q : VK), MOk W M H → Rep K M H x v → Rep K M H y u → f x y P → (∀ d z H', P d → Ext W H H' → W.I H' → Rep K M H' d z → Q z H') → r v u H Q
def wOp (f : D → D → (D → Prop) → Prop) (wa wb : WE) : WE := fun ds P => wa ds fun x => wb ds fun y => f x y P
theorem le_op {K : PySem.W.Frag} {f : D → D → (D → Prop) → Prop} {r : R2} {wa wb : WE} (hf : LiftOp K W f r) (σ : L2.St) (H : Hp) (Q : VK) (h : LE K W (wOp f wa wb) σ H Q) : tOp r (LE K W wa) (LE K W wb) σ H Q := by
  obtain ⟨M0, H0, oa, ds, P, S, hw, k⟩ := h
  refine ⟨M0, H0, oa, ds, _, S, hw, fun x v H1 hx e1 i1 r1 => ?_⟩
  refine ⟨M0, H0, oa, ds, _, S.step e1 i1, hx, fun y u H2 hy e2 i2 r2 => ?_⟩
  have S2 := (S.step e1 i1).step e2 i2
  exact hf (Mx M0 oa) H2 x y v u P Q S2.mok (r1.ext (S.step e1 i1).mok e2) r2 hy fun d z H' hp e i r => k d z H' hp ((e1.trans e2).trans e) i r
theorem ve_op {op : Operator} {f : D → D → (D → Prop) → Prop} {r : R2} {wa wb : WE} (ho : OpR X (binaryOp op) r) (hf : LiftOp X.K W f r) (ha : VE X W a wa) (hb : VE X W b wb) : VE X W (.BinOp a op b pos) (wOp f wa wb) :=
  pe_imp (pe_op ho ha hb) (le_op hf)
theorem ve_cmp {op : CmpOp} {f : D → D → (D → Prop) → Prop} {r : R2} {wa wb : WE} (ho : OpR X (compareOp op) r) (hf : LiftOp X.K W f r) (ha : VE X W a wa) (hb : VE X W b wb) (hm : behindInMarks op b = false) : VE X W (.Compare a [op] [b] pos) (wOp f wa wb) :=
  pe_imp (pe_cmpR ho ha hb hm) (le_op hf)
/-- a value that is a bool -/
def asBl : D → (Bool → Prop) → Prop
  | .bl b, P => P b
  | _, _ => False
theorem asBl_of {d : D} {P : Bool → Prop} (h : asBl d P) : ∃ b, d = .bl b ∧ P b := by
  cases d with
  | bl b => exact ⟨b, rfl, h⟩
  | _ => exact h.elim
def wTest (w : WE) : WT := fun ds P => w ds fun d => asBl d P
theorem lt_test {K : PySem.W.Frag} {w : WE} (σ : L2.St) (H : Hp) (Q : Bool → Hp → Prop) (h : LT K W (wTest w) σ H Q) : tB (LE K W w) σ H Q := by
  obtain ⟨M0, H0, oa, ds, P, S, hw, k⟩ := h
  refine ⟨M0, H0, oa, ds, _, S, hw, fun x v H1 hx e1 i1 r1 => ?_⟩
  obtain ⟨b, rfl, hb⟩ := asBl_of hx
  exact ⟨b, r1.bl, k b H1 hb e1 i1⟩
theorem vt_val {w : WE} (h : VE X W e w) (he : ∀ whole, isTrue e X.env whole = (do let v ← whole; standAt e.pos; holding [v] (truthy v)) := by intro _; rfl) : VT X W e (wTest w) := pt_imp (pt_val h he) lt_test
theorem vt_cmp {op : CmpOp} {f : D → D → (D → Prop) → Prop} {r : R2} {wa wb : WE} (ho : OpR X (compareOp op) r) (hf : LiftOp X.K W f r) (ha : VE X W a wa) (hb : VE X W b wb) (hm : behindInMarks op b = false) : VT X W (.Compare a [op] [b] pos) (wTest (wOp f wa wb)) := by
  refine pt_imp (pt_cmpR ho ha hb hm) fun σ H Q h => ?_
  obtain ⟨M0, H0, oa, ds, P, S, hw, k⟩ := h
  show tOp r _ _ σ H _
  refine le_op hf σ H _ ⟨M0, H0, oa, ds, _, S, hw, fun x v H1 hx e1 i1 r1 => ?_⟩
  obtain ⟨b, rfl, hb⟩ := asBl_of hx
  exact ⟨b, r1.bl, k b H1 hb e1 i1⟩

/-- int + int, text + text, list + list, tuple + tuple -/
def addD : D → D → (D → Prop) → Prop
  | .int i, .int j, P => P (.int (i + j))
  | .str i, .str j, P => i.length + j.length ≤ sizeLine ∧ P (.str (i ++ j))
  | _, _, _ => False
def rAddA : R2 := fun x y H Q => (rI0 fun i j => .int (i + j)) x y H Q ∨ (∃ i j, x = .str i ∧ y = .str j ∧ i.length + j.length ≤ sizeLine ∧ Q (.str (i ++ j)) H)
theorem OpR.or {f : Value → Value → Sem Value} {r r' : R2} (h : OpR X f r) (h' : OpR X f r') : OpR X f (fun x y H Q => r x y H Q ∨ r' x y H Q) := by
  intro pins s σ H x y v u Q I r1 r2 q
  rcases q with q | q
  · exact h pins s σ H x y v u Q I r1 r2 q
  · exact h' pins s σ H x y v u Q I r1 r2 q
theorem op_addA : OpR X (binaryOp .Add) rAddA := OpR.or op_add op_add_str
theorem lift_add {K : PySem.W.Frag} : LiftOp K W addD rAddA := by
  intro M H x y v u P Q m r1 r2 h k
  cases x <;> cases y <;> first
    | exact h.elim
    | (rename_i i j; exact .inl ⟨i, j, r1.int, r2.int, k _ _ H h (Ext.refl H) m.wi rep_int⟩)
    | (rename_i i j; exact .inr ⟨i, j, r1.str, r2.str, h.1, k _ _ H h.2 (Ext.refl H) m.wi rep_str⟩)
/-- ints in, under C, a value out -/
def iiD (C : Int → Int → Prop) (g : Int → Int → D) : D → D → (D → Prop) → Prop
  | .int i, .int j, P => C i j ∧ P (g i j)
  | _, _, _ => False
theorem lift_ii {K : PySem.W.Frag} {C : Int → Int → Prop} {g : Int → Int → Int} : LiftOp K W (iiD C fun i j => .int (g i j)) (rI C fun i j => .int (g i j)) := by
  intro M H x y v u P Q m r1 r2 h k
  cases x <;> cases y <;> first
    | exact h.elim
    | (rename_i i j; exact ⟨i, j, r1.int, r2.int, h.1, k _ _ H h.2 (Ext.refl H) m.wi rep_int⟩)
def ii0 (g : Int → Int → D) : D → D → (D → Prop) → Prop
  | .int i, .int j, P => P (g i j)
  | _, _, _ => False
theorem lift_ii0 {K : PySem.W.Frag} {g : Int → Int → Int} : LiftOp K W (ii0 fun i j => .int (g i j)) (rI0 fun i j => .int (g i j)) := by
  intro M H x y v u P Q m r1 r2 h k
  cases x <;> cases y <;> first
    | exact h.elim
    | (rename_i i j; exact ⟨i, j, r1.int, r2.int, k _ _ H h (Ext.refl H) m.wi rep_int⟩)
theorem lift_iib {K : PySem.W.Frag} {g : Int → Int → Bool} : LiftOp K W (ii0 fun i j => .bl (g i j)) (rI0 fun i j => .bl (g i j)) := by
  intro M H x y v u P Q m r1 r2 h k
  cases x <;> cases y <;> first
    | exact h.elim
    | (rename_i i j; exact ⟨i, j, r1.int, r2.int, k _ _ H h (Ext.refl H) m.wi rep_bl⟩)
def CFdiv (_ j : Int) : Prop := j ≠ 0 ∧ j.natAbs.log2 < 9000
theorem op_fdivA : OpR X (binaryOp .FloorDiv) (rI CFdiv fun i j => .int (i.fdiv j)) := opI fun i j _ _ _ _ _ hc q => floordiv_int hc.1 q (.inl (PyProof.noPylong_of_log2 hc.2))
abbrev subD : D → D → (D → Prop) → Prop := ii0 fun i j => .int (i - j)
abbrev mulD : D → D → (D → Prop) → Prop := iiD CMulW fun i j => .int (i * j)
abbrev fdivD : D → D → (D → Prop) → Prop := iiD CFdiv fun i j => .int (i.fdiv j)
abbrev modD : D → D → (D → Prop) → Prop := iiD (fun _ j => j ≠ 0) fun i j => .int (i.fmod j)
abbrev powD : D → D → (D → Prop) → Prop := iiD CPow fun i j => .int (i ^ j.toNat)
theorem ve_add {wa wb : WE} (ha : VE X W a wa) (hb : VE X W b wb) : VE X W (.BinOp a .Add b pos) (wOp addD wa wb) := ve_op op_addA lift_add ha hb
theorem ve_sub {wa wb : WE} (ha : VE X W a wa) (hb : VE X W b wb) : VE X W (.BinOp a .Sub b pos) (wOp subD wa wb) := ve_op op_sub lift_ii0 ha hb
theorem ve_mul {wa wb : WE} (ha : VE X W a wa) (hb : VE X W b wb) : VE X W (.BinOp a .Mult b pos) (wOp mulD wa wb) := ve_op op_mulW lift_ii ha hb
theorem ve_fdiv {wa wb : WE} (ha : VE X W a wa) (hb : VE X W b wb) : VE X W (.BinOp a .FloorDiv b pos) (wOp fdivD wa wb) := ve_op op_fdivA lift_ii ha hb
theorem ve_mod {wa wb : WE} (ha : VE X W a wa) (hb : VE X W b wb) : VE X W (.BinOp a .Mod b pos) (wOp modD wa wb) := ve_op op_modN lift_ii ha hb
theorem ve_pow {wa wb : WE} (ha : VE X W a wa) (hb : VE X W b wb) : VE X W (.BinOp a .Pow b pos) (wOp powD wa wb) := ve_op op_pow lift_ii ha hb

/-- an if whose test is not known -/
theorem vif {b : Bool} {A B : Prop} (h1 : b = true → A) (h0 : b = false → B) : if b = true then A else B := by
  cases b with
  | true => exact iteT (h1 rfl)
  | false => exact iteF (h0 rfl)
theorem vifd {p : Prop} {dp : Decidable p} {A B : Prop} (h1 : p → A) (h0 : ¬ p → B) : if decide p = true then A else B := vif (fun e => h1 (of_decide_eq_true e)) fun e => h0 (of_decide_eq_false e)
theorem vifn {p : Prop} {dp : Decidable p} {A B : Prop} (h1 : ¬ p → A) (h0 : p → B) : if (!decide p) = true then A else B := vif (fun e => h1 (by simpa using e)) fun e => h0 (by simpa using e)

/-! ### comparisons -/
def ltD : D → D → (D → Prop) → Prop
  | .int i, .int j, P => P (.bl (decide (i < j)))
  | .str i, .str j, P => P (.bl (decide (i.cps.toList < j.cps.toList)))
  | _, _, _ => False
def rLtA : R2 := fun x y H Q => (rI0 fun i j => .bl (decide (i < j))) x y H Q ∨ (∃ i j, x = .str i ∧ y = .str j ∧ Q (.bl (decide (i.cps.toList < j.cps.toList))) H)
theorem lift_lt {K : PySem.W.Frag} : LiftOp K W ltD rLtA := by
  intro M H x y v u P Q m r1 r2 h k
  cases x <;> cases y <;> first
    | exact h.elim
    | (rename_i i j; exact .inl ⟨i, j, r1.int, r2.int, k _ _ H h (Ext.refl H) m.wi rep_bl⟩)
    | (rename_i i j; exact .inr ⟨i, j, r1.str, r2.str, k _ _ H h (Ext.refl H) m.wi rep_bl⟩)
abbrev leD : D → D → (D → Prop) → Prop := ii0 fun i j => .bl (decide (i ≤ j))
abbrev gtD : D → D → (D → Prop) → Prop := ii0 fun i j => .bl (decide (j < i))
abbrev geD : D → D → (D → Prop) → Prop := ii0 fun i j => .bl (decide (j ≤ i))
mutual
def toPy : D → PyData
  | .non => .none
  | .bl b => .bool b
  | .int i => .int i
  | .str x => .str x
  | .hnd _ => .dict []
  | .dic _ _ => .dict []
  | .ins _ _ _ => .dict []
  | .lam _ _ => .dict []
  | .tup ds => .tuple (toPys ds)
  | .lst ds => .list (toPys ds)
def toPys : List D → List PyData
  | [] => []
  | d :: ds => toPy d :: toPys ds
end
mutual
theorem dp_of {K : PySem.W.Frag} {M : Addr → Prop} {H : Hp} : ∀ {d : D} {v : V}, Rep K M H d v → (toPy d).canLay0 = true → Dp K H v (toPy d)
  | .non, _, h, _ => by rw [h.non]; unfold toPy; exact .non
  | .bl _, _, h, _ => by rw [h.bl]; unfold toPy; exact .bl _
  | .int _, _, h, _ => by rw [h.int]; unfold toPy; exact .int _
  | .str _, _, h, _ => by rw [h.str]; unfold toPy; exact .str _
  | .hnd _, _, _, c => by unfold toPy PyData.canLay0 at c; cases c
  | .dic _ _, _, _, c => by unfold toPy PyData.canLay0 at c; cases c
  | .ins _ _ _, _, _, c => by unfold toPy PyData.canLay0 at c; cases c
  | .lam _ _, _, _, c => by unfold toPy PyData.canLay0 at c; cases c
  | .tup _, _, h, c => by
    obtain ⟨a, xs, rfl, t, r⟩ := h.tup
    unfold toPy
    unfold toPy PyData.canLay0 at c
    exact .tup t.sq (dps_of r c)
  | .lst _, _, h, c => by
    obtain ⟨a, xs, rfl, t, r⟩ := h.lst
    unfold toPy
    unfold toPy PyData.canLay0 at c
    exact .lst t.sq (dps_of r c)
theorem dps_of {K : PySem.W.Frag} {M : Addr → Prop} {H : Hp} : ∀ {ds : List D} {vs : List V}, Reps K M H ds vs → PyData.canLayAll0 (toPys ds) = true → DpAll K H vs (toPys ds)
  | [], _, h, _ => by rw [h.inv0]; unfold toPys; exact .nil
  | _ :: _, _, h, c => by
    obtain ⟨v, vs, rfl, h1, h2⟩ := h.inv
    unfold toPys
    unfold toPys PyData.canLayAll0 at c
    obtain ⟨c1, c2⟩ := Bool.and_eq_true_iff.mp c
    exact .cons (dp_of h1 c1) (dps_of h2 c2)
end
/-- data that == may be asked of -/
def shp (d : D) : Bool := SeqAt.shaped (toPy d)
def eqv (x y : D) : Bool := PyData.eqv (toPy x) (toPy y)
def eqD : D → D → (D → Prop) → Prop
  | .int i, .int j, P => P (.bl (decide (i = j)))
  | .str i, .str j, P => P (.bl (decide (i = j)))
  | .bl i, .bl j, P => P (.bl (decide (i = j)))
  | x, y, P => shp x = true ∧ shp y = true ∧ P (.bl (eqv x y))
def neD : D → D → (D → Prop) → Prop
  | .int i, .int j, P => P (.bl (!decide (i = j)))
  | .str i, .str j, P => P (.bl (!decide (i = j)))
  | .bl i, .bl j, P => P (.bl (!decide (i = j)))
  | x, y, P => shp x = true ∧ shp y = true ∧ P (.bl (!eqv x y))
def rEqA (K : PySem.W.Frag) : R2 := fun x y H Q => rEq x y H Q ∨ rEqD K x y H Q
def rNeA (K : PySem.W.Frag) : R2 := fun x y H Q => rNe x y H Q ∨ rNeD K x y H Q
theorem dec_v {i j : Int} : decide (V.int i = V.int j) = decide (i = j) := by simp
theorem dec_s {i j : Str} : decide (V.str i = V.str j) = decide (i = j) := by simp
theorem dec_b {i j : Bool} : decide (V.bl i = V.bl j) = decide (i = j) := by simp
theorem lift_eq {K : PySem.W.Frag} : LiftOp K W eqD (rEqA K) := by
  intro M H x y v u P Q m r1 r2 h k
  unfold eqD at h
  split at h
  · rename_i i j
    have e1 := r1.int
    have e2 := r2.int
    subst e1 e2
    exact .inl ⟨rfl, by rw [dec_v]; exact k _ _ H h (Ext.refl H) m.wi rep_bl⟩
  · rename_i i j
    have e1 := r1.str
    have e2 := r2.str
    subst e1 e2
    exact .inl ⟨rfl, by rw [dec_s]; exact k _ _ H h (Ext.refl H) m.wi rep_bl⟩
  · rename_i i j
    have e1 := r1.bl
    have e2 := r2.bl
    subst e1 e2
    exact .inl ⟨rfl, by rw [dec_b]; exact k _ _ H h (Ext.refl H) m.wi rep_bl⟩
  · obtain ⟨h1, h2, h⟩ := h
    exact .inr ⟨toPy x, toPy y, dp_of r1 (SeqAt.canLay_of_shaped h1), dp_of r2 (SeqAt.canLay_of_shaped h2), h1, h2, k _ _ H h (Ext.refl H) m.wi rep_bl⟩
theorem lift_ne {K : PySem.W.Frag} : LiftOp K W neD (rNeA K) := by
  intro M H x y v u P Q m r1 r2 h k
  unfold neD at h
  split at h
  · rename_i i j
    have e1 := r1.int
    have e2 := r2.int
    subst e1 e2
    exact .inl ⟨rfl, by rw [dec_v]; exact k _ _ H h (Ext.refl H) m.wi rep_bl⟩
  · rename_i i j
    have e1 := r1.str
    have e2 := r2.str
    subst e1 e2
    exact .inl ⟨rfl, by rw [dec_s]; exact k _ _ H h (Ext.refl H) m.wi rep_bl⟩
  · rename_i i j
    have e1 := r1.bl
    have e2 := r2.bl
    subst e1 e2
    exact .inl ⟨rfl, by rw [dec_b]; exact k _ _ H h (Ext.refl H) m.wi rep_bl⟩
  · obtain ⟨h1, h2, h⟩ := h
    exact .inr ⟨toPy x, toPy y, dp_of r1 (SeqAt.canLay_of_shaped h1), dp_of r2 (SeqAt.canLay_of_shaped h2), h1, h2, k _ _ H h (Ext.refl H) m.wi rep_bl⟩
theorem op_eqA (hu : X.A.units + 64 < cLine) : OpR X (compareOp .Eq) (rEqA X.K) := OpR.or op_eq (op_eqD hu)
theorem op_neA (hu : X.A.units + 64 < cLine) : OpR X (compareOp .NotEq) (rNeA X.K) := OpR.or op_ne (op_neD hu)
/-- x in xs, flat things -/
def flatD : D → Bool
  | .non | .bl _ | .int _ | .str _ => true
  | _ => false
def fV : D → V
  | .non => .non
  | .bl b => .bl b
  | .int i => .int i
  | .str x => .str x
  | .hnd v => v
  | _ => .non
theorem Rep.flat {K : PySem.W.Frag} {M : Addr → Prop} {H : Hp} {d : D} {v : V} (h : Rep K M H d v) (f : flatD d = true) : v = fV d := by
  cases d with
  | non => exact h.non
  | bl => exact h.bl
  | int => exact h.int
  | str => exact h.str
  | _ => cases f
theorem Reps.flat {K : PySem.W.Frag} {M : Addr → Prop} {H : Hp} : ∀ {ds : List D} {vs : List V}, Reps K M H ds vs → ds.all flatD = true → vs = ds.map fV
  | [], _, h, _ => h.inv0
  | _ :: _, _, h, f => by
    obtain ⟨v, vs, rfl, h1, h2⟩ := h.inv
    obtain ⟨f1, f2⟩ := Bool.and_eq_true_iff.mp f
    rw [h1.flat f1, Reps.flat h2 f2]
    rfl
theorem flat_v {d : D} (f : flatD d = true) : flatV (fV d) = true := by
  cases d <;> first | rfl | cases f
theorem flat_vs : ∀ {ds : List D}, ds.all flatD = true → (ds.map fV).all flatV = true
  | [], _ => rfl
  | _ :: _, f => by
    obtain ⟨f1, f2⟩ := Bool.and_eq_true_iff.mp f
    show (flatV _ && (List.map fV _).all flatV) = true
    rw [flat_v f1, flat_vs f2]
    rfl
def inD (neg : Bool) : D → D → (D → Prop) → Prop
  | x, .lst xs, P => flatD x = true ∧ xs.all flatD = true ∧ P (.bl (if neg then !inV (fV x) (xs.map fV) else inV (fV x) (xs.map fV)))
  | x, .tup xs, P => flatD x = true ∧ xs.all flatD = true ∧ P (.bl (if neg then !inV (fV x) (xs.map fV) else inV (fV x) (xs.map fV)))
  | _, _, _ => False
theorem lift_in {K : PySem.W.Frag} {neg : Bool} : LiftOp K W (inD neg) (rIn K neg) := by
  intro M H x y v u P Q m r1 r2 h k
  cases y with
  | lst xs =>
    obtain ⟨h1, h2, h3⟩ := h
    obtain ⟨a, vs, rfl, t, r⟩ := r2.lst
    have e1 := r1.flat h1
    have e2 := r.flat h2
    subst e1 e2
    exact ⟨a, _, rfl, .inl t.sq, flat_v h1, flat_vs h2, k _ _ H h3 (Ext.refl H) m.wi rep_bl⟩
  | tup xs =>
    obtain ⟨h1, h2, h3⟩ := h
    obtain ⟨a, vs, rfl, t, r⟩ := r2.tup
    have e1 := r1.flat h1
    have e2 := r.flat h2
    subst e1 e2
    exact ⟨a, _, rfl, .inr t.sq, flat_v h1, flat_vs h2, k _ _ H h3 (Ext.refl H) m.wi rep_bl⟩
  | _ => cases x <;> exact h.elim
/-- one sign in a text -/
def inSgn (neg : Bool) : D → D → (D → Prop) → Prop
  | .str c, .str z, P => ∃ n, c = ⟨#[n]⟩ ∧ P (.bl (if neg then !decide (n ∈ z.cps.toList) else decide (n ∈ z.cps.toList)))
  | _, _, _ => False
theorem lift_inS {K : PySem.W.Frag} : LiftOp K W (inSgn false) (fun x y H Q => ∃ (c : Nat) (z : Str), x = .str ⟨#[c]⟩ ∧ y = .str z ∧ Q (.bl (decide (c ∈ z.cps.toList))) H) := by
  intro M H x y v u P Q m r1 r2 h k
  cases x <;> cases y <;> first
    | exact h.elim
    | (rename_i i j; obtain ⟨n, rfl, h⟩ := h; exact ⟨n, j, r1.str, r2.str, k _ _ H h (Ext.refl H) m.wi rep_bl⟩)
theorem lift_ninS {K : PySem.W.Frag} : LiftOp K W (inSgn true) (fun x y H Q => ∃ (c : Nat) (z : Str), x = .str ⟨#[c]⟩ ∧ y = .str z ∧ Q (.bl (!decide (c ∈ z.cps.toList))) H) := by
  intro M H x y v u P Q m r1 r2 h k
  cases x <;> cases y <;> first
    | exact h.elim
    | (rename_i i j; obtain ⟨n, rfl, h⟩ := h; exact ⟨n, j, r1.str, r2.str, k _ _ H h (Ext.refl H) m.wi rep_bl⟩)
def isNn : Bool → D → D → (D → Prop) → Prop := fun neg x y P => match x, y with
  | .non, .non => P (.bl (!neg))
  | .hnd _, .non => False
  | _, .non => P (.bl neg)
  | _, _ => False
theorem lift_isN {K : PySem.W.Frag} : LiftOp K W (isNn false) (fun x y H Q => y = .non ∧ Q (.bl (decide (x = .non))) H) := by
  intro M H x y v u P Q m r1 r2 h k
  have key : ∀ b : Bool, P (.bl b) → decide (v = .non) = b → Q (.bl (decide (v = .non))) H := fun b hp e => by rw [e]; exact k _ _ H hp (Ext.refl H) m.wi rep_bl
  cases y <;> first | (cases x <;> exact h.elim) | skip
  refine ⟨r2.non, ?_⟩
  cases x with
  | non => exact key true h (by rw [r1.non]; rfl)
  | bl => exact key false h (by rw [r1.bl]; rfl)
  | int => exact key false h (by rw [r1.int]; rfl)
  | str => exact key false h (by rw [r1.str]; rfl)
  | hnd => exact h.elim
  | tup => obtain ⟨a, _, e, _⟩ := r1.tup; exact key false h (by rw [e]; rfl)
  | lst => obtain ⟨a, _, e, _⟩ := r1.lst; exact key false h (by rw [e]; rfl)
  | dic => obtain ⟨a, _, e, _⟩ := r1.dic; exact key false h (by rw [e]; rfl)
  | ins => obtain ⟨a, _, _, e, _⟩ := r1.ins; exact key false h (by rw [e]; rfl)
  | lam => exact key false h (by rw [r1.lam.1]; rfl)
theorem lift_notN {K : PySem.W.Frag} : LiftOp K W (isNn true) (fun x y H Q => y = .non ∧ Q (.bl (!decide (x = .non))) H) := by
  intro M H x y v u P Q m r1 r2 h k
  have key : ∀ b : Bool, P (.bl b) → (!decide (v = .non)) = b → Q (.bl (!decide (v = .non))) H := fun b hp e => by rw [e]; exact k _ _ H hp (Ext.refl H) m.wi rep_bl
  cases y <;> first | (cases x <;> exact h.elim) | skip
  refine ⟨r2.non, ?_⟩
  cases x with
  | non => exact key false h (by rw [r1.non]; rfl)
  | bl => exact key true h (by rw [r1.bl]; rfl)
  | int => exact key true h (by rw [r1.int]; rfl)
  | str => exact key true h (by rw [r1.str]; rfl)
  | hnd => exact h.elim
  | tup => obtain ⟨a, _, e, _⟩ := r1.tup; exact key true h (by rw [e]; rfl)
  | lst => obtain ⟨a, _, e, _⟩ := r1.lst; exact key true h (by rw [e]; rfl)
  | dic => obtain ⟨a, _, e, _⟩ := r1.dic; exact key true h (by rw [e]; rfl)
  | ins => obtain ⟨a, _, _, e, _⟩ := r1.ins; exact key true h (by rw [e]; rfl)
  | lam => exact key true h (by rw [r1.lam.1]; rfl)
theorem op_ltA : OpR X (compareOp .Lt) rLtA := OpR.or op_lt op_lt_str

/-! ### and, or, not, if -/
def wAnd (t u : WT) : WT := fun ds P => t ds fun b => if b = true then u ds P else P false
def wOr (t u : WT) : WT := fun ds P => t ds fun b => if b = true then P true else u ds P
def wNot (t : WT) : WT := fun ds P => t ds fun b => P (!b)
abbrev VW (X : Cx) (W : Wd) (e : Expr) (w : WT) : Prop := PW X e (LT X.K W w)
theorem vw_and1 {t : WT} (ha : VT X W a t) : VW X W (.BoolOp .And [a] pos) t := pw_and1 ha
theorem vw_or1 {t : WT} (ha : VT X W a t) : VW X W (.BoolOp .Or [a] pos) t := pw_or1 ha
theorem vw_and {t u : WT} (ha : VT X W a t) (hb : VW X W (.BoolOp .And (b :: rest) pos) u) : VW X W (.BoolOp .And (a :: b :: rest) pos) (wAnd t u) := by
  refine pw_imp (pw_and ha hb) fun σ H Q h => ?_
  obtain ⟨M0, H0, oa, ds, P, S, hw, k⟩ := h
  refine ⟨M0, H0, oa, ds, _, S, hw, fun b H1 hb e1 i1 => ?_⟩
  cases b with
  | true => exact ⟨M0, H0, oa, ds, _, S.step e1 i1, hb, fun b H2 hp e2 i2 => k b H2 hp (e1.trans e2) i2⟩
  | false => exact k false H1 hb e1 i1
theorem vw_or {t u : WT} (ha : VT X W a t) (hb : VW X W (.BoolOp .Or (b :: rest) pos) u) : VW X W (.BoolOp .Or (a :: b :: rest) pos) (wOr t u) := by
  refine pw_imp (pw_or ha hb) fun σ H Q h => ?_
  obtain ⟨M0, H0, oa, ds, P, S, hw, k⟩ := h
  refine ⟨M0, H0, oa, ds, _, S, hw, fun b H1 hb e1 i1 => ?_⟩
  cases b with
  | true => exact k true H1 hb e1 i1
  | false => exact ⟨M0, H0, oa, ds, _, S.step e1 i1, hb, fun b H2 hp e2 i2 => k b H2 hp (e1.trans e2) i2⟩
theorem vt_w {t : WT} (h : VW X W e t) : VT X W e t := h.pt
theorem vt_not {t : WT} (ha : VT X W a t) : VT X W (.UnaryOp .Not a pos) (wNot t) := by
  refine pt_imp (pt_not ha) fun σ H Q h => ?_
  obtain ⟨M0, H0, oa, ds, P, S, hw, k⟩ := h
  exact ⟨M0, H0, oa, ds, _, S, hw, fun b H1 hb e1 i1 => k (!b) H1 hb e1 i1⟩
/-- .. as values -/
def wAndV (wa wb : WE) : WE := fun ds P => wa ds fun x => asBl x fun c => if c = true then wb ds P else P (.bl false)
def wOrV (wa wb : WE) : WE := fun ds P => wa ds fun x => asBl x fun c => if c = true then P (.bl true) else wb ds P
def wNotV (wa : WE) : WE := fun ds P => wa ds fun x => asBl x fun c => P (.bl (!c))
theorem ve_one {op} {w : WE} (h : VE X W a w) : VE X W (.BoolOp op [a] pos) w := pe_one h
theorem ve_and {wa wb : WE} (ha : VE X W a wa) (hb : VE X W (.BoolOp .And (b :: rest) pos) wb) : VE X W (.BoolOp .And (a :: b :: rest) pos) (wAndV wa wb) := by
  refine pe_imp (pe_and ha hb) fun σ H Q h => ?_
  obtain ⟨M0, H0, oa, ds, P, S, hw, k⟩ := h
  refine ⟨M0, H0, oa, ds, _, S, hw, fun x v H1 hx e1 i1 r1 => ?_⟩
  obtain ⟨c, rfl, hc⟩ := asBl_of hx
  refine ⟨c, r1.bl, ?_⟩
  cases c with
  | true => exact ⟨M0, H0, oa, ds, _, S.step e1 i1, hc, fun d v H2 hp e2 i2 r => k d v H2 hp (e1.trans e2) i2 r⟩
  | false => exact k _ _ H1 hc e1 i1 rep_bl
theorem ve_or {wa wb : WE} (ha : VE X W a wa) (hb : VE X W (.BoolOp .Or (b :: rest) pos) wb) : VE X W (.BoolOp .Or (a :: b :: rest) pos) (wOrV wa wb) := by
  refine pe_imp (pe_or ha hb) fun σ H Q h => ?_
  obtain ⟨M0, H0, oa, ds, P, S, hw, k⟩ := h
  refine ⟨M0, H0, oa, ds, _, S, hw, fun x v H1 hx e1 i1 r1 => ?_⟩
  obtain ⟨c, rfl, hc⟩ := asBl_of hx
  refine ⟨c, r1.bl, ?_⟩
  cases c with
  | true => exact k _ _ H1 hc e1 i1 rep_bl
  | false => exact ⟨M0, H0, oa, ds, _, S.step e1 i1, hc, fun d v H2 hp e2 i2 r => k d v H2 hp (e1.trans e2) i2 r⟩
theorem ve_not {wa : WE} (ha : VE X W a wa) : VE X W (.UnaryOp .Not a pos) (wNotV wa) := by
  refine pe_imp (pe_not ha) fun σ H Q h => ?_
  obtain ⟨M0, H0, oa, ds, P, S, hw, k⟩ := h
  refine ⟨M0, H0, oa, ds, _, S, hw, fun x v H1 hx e1 i1 r1 => ?_⟩
  obtain ⟨c, rfl, hc⟩ := asBl_of hx
  exact ⟨c, r1.bl, k _ _ H1 hc e1 i1 rep_bl⟩
def wIf (t : WT) (wa wb : WE) : WE := fun ds P => t ds fun c => if c = true then wa ds P else wb ds P
theorem ve_if {t : WT} {wa wb : WE} (hc : VT X W c t) (ha : VE X W a wa) (hb : VE X W b wb) : VE X W (.IfExp c a b pos) (wIf t wa wb) := by
  refine pe_imp (pe_ifExp hc ha hb) fun σ H Q h => ?_
  obtain ⟨M0, H0, oa, ds, P, S, hw, k⟩ := h
  refine ⟨M0, H0, oa, ds, _, S, hw, fun c H1 hx e1 i1 => ?_⟩
  cases c with
  | true => exact ⟨M0, H0, oa, ds, _, S.step e1 i1, hx, fun d v H2 hp e2 i2 r => k d v H2 hp (e1.trans e2) i2 r⟩
  | false => exact ⟨M0, H0, oa, ds, _, S.step e1 i1, hx, fun d v H2 hp e2 i2 r => k d v H2 hp (e1.trans e2) i2 r⟩
/-- a < b < c -/
def wChain (f g : D → D → (D → Prop) → Prop) (wa wb wc : WE) : WE := fun ds P => wa ds fun x => wb ds fun y => f x y fun z => asBl z fun k => if k = true then wc ds fun w => g y w P else P (.bl false)
theorem le_chain {K : PySem.W.Frag} {f g : D → D → (D → Prop) → Prop} {r r' : R2} {wa wb wc : WE} (hf : LiftOp K W f r) (hg : LiftOp K W g r') (σ : L2.St) (H : Hp) (Q : VK) (h : LE K W (wChain f g wa wb wc) σ H Q) :
    tChain r r' (LE K W wa) (LE K W wb) (LE K W wc) σ H Q := by
  obtain ⟨M0, H0, oa, ds, P, S, hw, k⟩ := h
  refine ⟨M0, H0, oa, ds, _, S, hw, fun x v H1 hx e1 i1 r1 => ?_⟩
  refine ⟨M0, H0, oa, ds, _, S.step e1 i1, hx, fun y u H2 hy e2 i2 r2 => ?_⟩
  have S1 := S.step e1 i1
  have S2 := S1.step e2 i2
  refine hf (Mx M0 oa) H2 x y v u _ _ S2.mok (r1.ext S1.mok e2) r2 hy fun d z H3 hp e3 i3 r3 => ?_
  obtain ⟨c, rfl, hc⟩ := asBl_of hp
  have S3 := S2.step e3 i3
  refine ⟨c, r3.bl, ?_⟩
  cases c with
  | true =>
    refine ⟨M0, H0, oa, ds, _, S3, hc, fun w z' H4 hq e4 i4 r4 => ?_⟩
    have S4 := S3.step e4 i4
    exact hg (Mx M0 oa) H4 y w u z' P Q S4.mok ((r2.ext S2.mok e3).ext S3.mok e4) r4 hq fun d z H' hp e i r => k d z H' hp ((((e1.trans e2).trans e3).trans e4).trans e) i r
  | false => exact k _ _ H3 hc ((e1.trans e2).trans e3) i3 rep_bl
theorem ve_chain {op op' : CmpOp} {f g : D → D → (D → Prop) → Prop} {r r' : R2} {wa wb wc : WE} (ho : OpR X (compareOp op) r) (ho' : OpR X (compareOp op') r') (hf : LiftOp X.K W f r) (hg : LiftOp X.K W g r') (ha : VE X W a wa) (hb : VE X W b wb) (hc : VE X W c wc)
    (hm : lastMarks [op, op'] [b, c] = false := by with_unfolding_all rfl) : VE X W (.Compare a [op, op'] [b, c] pos) (wChain f g wa wb wc) := pe_imp (pe_chain ho ho' ha hb hc hm) (le_chain hf hg)
theorem vt_chain {op op' : CmpOp} {f g : D → D → (D → Prop) → Prop} {r r' : R2} {wa wb wc : WE} (ho : OpR X (compareOp op) r) (ho' : OpR X (compareOp op') r') (hf : LiftOp X.K W f r) (hg : LiftOp X.K W g r') (ha : VE X W a wa) (hb : VE X W b wb) (hc : VE X W c wc)
    (hm : lastMarks [op, op'] [b, c] = false := by with_unfolding_all rfl) : VT X W (.Compare a [op, op'] [b, c] pos) (wTest (wChain f g wa wb wc)) := by
  refine pt_imp (pt_chain ho ho' ha hb hc hm) fun σ H Q h => ?_
  obtain ⟨M0, H0, oa, ds, P, S, hw, k⟩ := h
  refine le_chain hf hg σ H _ ⟨M0, H0, oa, ds, _, S, hw, fun x v H1 hx e1 i1 r1 => ?_⟩
  obtain ⟨b, rfl, hb⟩ := asBl_of hx
  exact ⟨b, r1.bl, k b H1 hb e1 i1⟩

/-! ### argument lists, displays -/
def wNil : WL := fun _ P => P []
def wCons (w : WE) (l : WL) : WL := fun ds P => w ds fun x => l ds fun xs => P (x :: xs)
theorem va_nil : VA X W [] wNil := pa_imp pa_nil fun σ H Q ⟨M0, H0, oa, ds, P, S, hw, k⟩ => k [] [] H hw (Ext.refl H) S.wi reps_nil
theorem va_cons {w : WE} {l : WL} (ha : VE X W e w) (hr : VA X W es l) (hs : starEach (e :: es) X.env = (false, eval e X.env) :: starEach es X.env := by rfl) : VA X W (e :: es) (wCons w l) := by
  refine pa_imp (pa_cons ha hr hs) fun σ H Q h => ?_
  obtain ⟨M0, H0, oa, ds, P, S, hw, k⟩ := h
  refine ⟨M0, H0, oa, ds, _, S, hw, fun x v H1 hx e1 i1 r1 => ?_⟩
  have S1 := S.step e1 i1
  exact ⟨M0, H0, oa, ds, _, S1, hx, fun xs vs H2 hp e2 i2 r2 => k _ _ H2 hp (e1.trans e2) i2 (reps_cons (r1.ext S1.mok e2) r2)⟩
def wTup (l : WL) : WE := fun ds P => l ds fun xs => xs.length ≤ 1000000 ∧ P (.tup xs)
def wLst (l : WL) : WE := fun ds P => l ds fun xs => xs.length ≤ 1000000 ∧ P (.lst xs)
theorem million {n : Nat} (h : n ≤ 1000000) : n ≤ sizeLine := by rw [sizeLine_eq]; omega
theorem ve_tup {l : WL} {x1} (h : VA X W es l) : VE X W (.Tuple es x1 pos) (wTup l) := by
  refine pe_imp (pe_tup h) fun σ H Q h => ?_
  obtain ⟨M0, H0, oa, ds, P, S, hw, k⟩ := h
  refine ⟨M0, H0, oa, ds, _, S, hw, fun xs vs H1 hx e1 i1 r1 => ⟨by rw [r1.len]; exact million hx.1, fun p hp => ?_⟩⟩
  have S1 := S.step e1 i1
  exact k _ _ _ hx.2 (e1.trans (Full.new hp).ext) (W.keep _ _ i1 (Full.new hp)) (S1.mok.newT hp r1)
theorem ve_lst {l : WL} (h : VA X W es l) : VE X W (.List es pos) (wLst l) := by
  refine pe_imp (pe_lst h) fun σ H Q h => ?_
  obtain ⟨M0, H0, oa, ds, P, S, hw, k⟩ := h
  refine ⟨M0, H0, oa, ds, _, S, hw, fun xs vs H1 hx e1 i1 r1 => ⟨by rw [r1.len]; exact million hx.1, fun p hp => ?_⟩⟩
  have S1 := S.step e1 i1
  exact k _ _ _ hx.2 (e1.trans (Full.new hp).ext) (W.keep _ _ i1 (Full.new hp)) (S1.mok.newL hp r1)

/-! ### calls -/
def wCall (f : List D → (D → Prop) → Prop) (l : WL) : WE := fun ds P => l ds fun xs => f xs P
/-- a def's promise by data: f is what it gives -/
def spD (K : PySem.W.Frag) (W : Wd) (f : List D → (D → Prop) → Prop) : Sp := fun vs H Q _ => ∃ M ds P, MOk W M H ∧ Reps K M H ds vs ∧ f ds P ∧ ∀ d v H', P d → Ext W H H' → W.I H' → Rep K M H' d v → Q v H'
theorem ve_call {CX : CXT} {k : Nat} {f : Addr} {fd : FuncData} {ps : List Str} {g : List D → (D → Prop) → Prop} {dvs : List V} {dds : List D} {ds : List Value} {x : Str} {p : Pos} {l : WL} {E : XK}
    (F : FnOk X.prog X.w X.K X.mg X.base CX k f fd ps (spD X.K W g)) (hr : Room k X.A) (hg : Gl X x) (hm : X.mg x = some (.ref f)) (hk : PySem.W.keepIn X.K (.ref f) = true) (hb : Binds X.K fd ps ds) (hd : Vals dvs ds) (hx : Passes CX X E) (hdd : ∀ M H, Reps X.K M H dds dvs)
    (ha : VA X W (e :: es) l) (hdb : (x == ("__debug__" : Str)) = false := by decide) (he : starEach (e :: es) X.env = (false, eval e X.env) :: starEach es X.env := by rfl) (hpl : (backTo pos (starEach es X.env)).any (·.1) = false := by rfl) :
    VE X W (.Call (.Name x p) (e :: es) [] pos) (wCall (fun xs P => g (xs ++ dds) P) l) := by
  refine pe_imp (pe_call F hr hg hm hk hb hd hx ha hdb he hpl) fun σ H Q h => ?_
  obtain ⟨M0, H0, oa, ds, P, S, hw, k⟩ := h
  refine ⟨M0, H0, oa, ds, _, S, hw, fun xs vs H1 hx e1 i1 r1 => ?_⟩
  have S1 := S.step e1 i1
  exact ⟨Mx M0 oa, xs ++ dds, P, S1.mok, r1.app (hdd _ _), hx, fun d v H' hp e i r => k d v H' hp (e1.trans e) i r⟩
def LiftCall (K : PySem.W.Frag) (W : Wd) (f : List D → (D → Prop) → Prop) (r : List V → Hp → VK → Prop) : Prop :=
  ∀ (M : Addr → Prop) (H : Hp) (xs : List D) (vs : List V) (P : D → Prop) (Q : VK), MOk W M H → Reps K M H xs vs → f xs P → (∀ d z H', P d → Ext W H H' → W.I H' → Rep K M H' d z → Q z H') → r vs H Q
theorem le_cb {K : PySem.W.Frag} {f : List D → (D → Prop) → Prop} {r : List V → Hp → VK → Prop} {l : WL} (hf : LiftCall K W f r) (σ : L2.St) (H : Hp) (Q : VK) (h : LE K W (wCall f l) σ H Q) : tCB r (LA K W l) σ H Q := by
  obtain ⟨M0, H0, oa, ds, P, S, hw, k⟩ := h
  refine ⟨M0, H0, oa, ds, _, S, hw, fun xs vs H1 hx e1 i1 r1 => ?_⟩
  exact hf (Mx M0 oa) H1 xs vs P Q (S.step e1 i1).mok r1 hx fun d z H' hp e i r => k d z H' hp (e1.trans e) i r
section
variable {x : Str} {p : Pos} {id T : String} {r : List V → Hp → VK → Prop} {f : List D → (D → Prop) → Prop} {l : WL}
theorem ve_callB (hc : CallR X (.builtin id) r) (hf : LiftCall X.K W f r) (hg : Gl X x) (hm : X.mg x = none) (hv : bootBuiltins x = some (.builtin id)) (ha : VA X W (e :: es) l) (hn : x ≠ "__name__" := by decide) (hdb : (x == ("__debug__" : Str)) = false := by decide)
    (he : starEach (e :: es) X.env = (false, eval e X.env) :: starEach es X.env := by rfl) (hpl : (backTo pos (starEach es X.env)).any (·.1) = false := by rfl) : VE X W (.Call (.Name x p) (e :: es) [] pos) (wCall f l) := pe_imp (pe_callB hc hg hm hv ha hn hdb he hpl) (le_cb hf)
theorem ve_callTy (hc : CallR X (.type T) r) (hf : LiftCall X.K W f r) (hg : Gl X x) (hm : X.mg x = none) (hv : bootBuiltins x = some (.type T)) (ha : VA X W (e :: es) l) (hn : x ≠ "__name__" := by decide) (hdb : (x == ("__debug__" : Str)) = false := by decide)
    (he : starEach (e :: es) X.env = (false, eval e X.env) :: starEach es X.env := by rfl) (hpl : (backTo pos (starEach es X.env)).any (·.1) = false := by rfl) : VE X W (.Call (.Name x p) (e :: es) [] pos) (wCall f l) := pe_imp (pe_callTy hc hg hm hv ha hn hdb he hpl) (le_cb hf)
end
def absD : List D → (D → Prop) → Prop
  | [.int i], P => P (.int (if i < 0 then -i else i))
  | _, _ => False
theorem Reps.one {K : PySem.W.Frag} {M : Addr → Prop} {H : Hp} {d : D} {vs : List V} (h : Reps K M H [d] vs) : ∃ v, vs = [v] ∧ Rep K M H d v := by
  obtain ⟨v, r, rfl, h1, h2⟩ := h.inv
  rw [h2.inv0]
  exact ⟨v, rfl, h1⟩
theorem Reps.two {K : PySem.W.Frag} {M : Addr → Prop} {H : Hp} {d e : D} {vs : List V} (h : Reps K M H [d, e] vs) : ∃ v u, vs = [v, u] ∧ Rep K M H d v ∧ Rep K M H e u := by
  obtain ⟨v, r, rfl, h1, h2⟩ := h.inv
  obtain ⟨u, rfl, h3⟩ := h2.one
  exact ⟨v, u, rfl, h1, h3⟩
theorem lift_abs {K : PySem.W.Frag} : LiftCall K W absD (fun xs H Q => ∃ i, xs = [.int i] ∧ Q (.int (if i < 0 then -i else i)) H) := by
  intro M H xs vs P Q m r h k
  match xs, h with
  | [.int i], h =>
    obtain ⟨v, rfl, r1⟩ := r.one
    exact ⟨i, by rw [r1.int], k _ _ H h (Ext.refl H) m.wi rep_int⟩
def intD : List D → (D → Prop) → Prop
  | [.int i], P => P (.int i)
  | [.bl b], P => P (.int (if b then 1 else 0))
  | _, _ => False
theorem lift_int {K : PySem.W.Frag} : LiftCall K W intD (fun xs H Q => (∃ i, xs = [.int i] ∧ Q (.int i) H) ∨ ∃ k, xs = [.bl k] ∧ Q (.int (if k then 1 else 0)) H) := by
  intro M H xs vs P Q m r h k
  match xs, h with
  | [.int i], h =>
    obtain ⟨v, rfl, r1⟩ := r.one
    exact .inl ⟨i, by rw [r1.int], k _ _ H h (Ext.refl H) m.wi rep_int⟩
  | [.bl i], h =>
    obtain ⟨v, rfl, r1⟩ := r.one
    exact .inr ⟨i, by rw [r1.bl], k _ _ H h (Ext.refl H) m.wi rep_int⟩
def lenD : List D → (D → Prop) → Prop
  | [.tup xs], P => P (.int xs.length)
  | [.lst xs], P => P (.int xs.length)
  | [.str x], P => x.length ≤ sizeLine ∧ P (.int x.length)
  | _, _ => False
theorem lift_len {K : PySem.W.Frag} : LiftCall K W lenD (fun xs H Q => ∃ x n, xs = [x] ∧ LenV K x H n ∧ Q (.int n) H) := by
  intro M H xs vs P Q m r h k
  match xs, h with
  | [.tup ds], h =>
    obtain ⟨v, rfl, r1⟩ := r.one
    obtain ⟨a, ys, rfl, t, r2⟩ := r1.tup
    exact ⟨_, ds.length, rfl, .inr ⟨ys, t.sq, r2.len.symm⟩, k _ _ H h (Ext.refl H) m.wi rep_int⟩
  | [.lst ds], h =>
    obtain ⟨v, rfl, r1⟩ := r.one
    obtain ⟨a, ys, rfl, t, r2⟩ := r1.lst
    exact ⟨_, ds.length, rfl, .inl ⟨ys, t.sq, r2.len.symm⟩, k _ _ H h (Ext.refl H) m.wi rep_int⟩
  | [.str x], h =>
    obtain ⟨v, rfl, r1⟩ := r.one
    have e := r1.str
    subst e
    exact ⟨.str x, x.length, rfl, ⟨h.1, rfl⟩, k _ _ H h.2 (Ext.refl H) m.wi rep_int⟩
/-- all, any of a list of bools -/
def blsOf : List D → Option (List Bool)
  | [] => some []
  | .bl b :: r => (blsOf r).map (b :: ·)
  | _ => none
theorem blsOf_map : ∀ bs : List Bool, blsOf (bs.map D.bl) = some bs
  | [] => rfl
  | b :: r => by show (blsOf (r.map D.bl)).map (b :: ·) = _; rw [blsOf_map r]; rfl
theorem of_blsOf : ∀ {ds : List D} {bs : List Bool}, blsOf ds = some bs → ds = bs.map D.bl
  | [], _, h => by cases h; rfl
  | .bl b :: r, _, h => by
    have h : (blsOf r).map (b :: ·) = some _ := h
    cases e : blsOf r with
    | none => rw [e] at h; cases h
    | some l => rw [e] at h; cases h; rw [of_blsOf e]; rfl
  | .non :: _, _, h => by cases h
  | .int _ :: _, _, h => by cases h
  | .str _ :: _, _, h => by cases h
  | .hnd _ :: _, _, h => by cases h
  | .tup _ :: _, _, h => by cases h
  | .lst _ :: _, _, h => by cases h
  | .dic _ _ :: _, _, h => by cases h
  | .ins _ _ _ :: _, _, h => by cases h
  | .lam _ _ :: _, _, h => by cases h
def allD : List D → (D → Prop) → Prop
  | [.lst ds], P => ∃ bs : List Bool, ds = bs.map D.bl ∧ P (.bl (bs.all id))
  | _, _ => False
def anyD : List D → (D → Prop) → Prop
  | [.lst ds], P => ∃ bs : List Bool, ds = bs.map D.bl ∧ P (.bl (bs.any id))
  | _, _ => False
theorem lift_all {K : PySem.W.Frag} : LiftCall K W allD (rAll K) := by
  intro M H xs vs P Q m r h k
  match xs, h with
  | [.lst ds], h =>
    obtain ⟨bs, rfl, h⟩ := h
    obtain ⟨v, rfl, r1⟩ := r.one
    obtain ⟨a, ys, rfl, t, r2⟩ := r1.lst
    have e := r2.bls
    subst e
    exact ⟨a, bs, rfl, t.sq, k _ _ H h (Ext.refl H) m.wi rep_bl⟩
theorem lift_any {K : PySem.W.Frag} : LiftCall K W anyD (rAny K) := by
  intro M H xs vs P Q m r h k
  match xs, h with
  | [.lst ds], h =>
    obtain ⟨bs, rfl, h⟩ := h
    obtain ⟨v, rfl, r1⟩ := r.one
    obtain ⟨a, ys, rfl, t, r2⟩ := r1.lst
    have e := r2.bls
    subst e
    exact ⟨a, bs, rfl, t.sq, k _ _ H h (Ext.refl H) m.wi rep_bl⟩
/-- list(xs), tuple(xs) -/
def listD : List D → (D → Prop) → Prop
  | [.tup xs], P => P (.lst xs)
  | [.lst xs], P => P (.lst xs)
  | _, _ => False
def tupD : List D → (D → Prop) → Prop
  | [.tup xs], P => P (.tup xs)
  | [.lst xs], P => P (.tup xs)
  | _, _ => False
theorem lift_list {K : PySem.W.Frag} : LiftCall K W listD (fun xs H Q => ∃ p ys, xs = [.ref p] ∧ (SqL K H p ys ∨ SqT K H p ys) ∧ ∀ l, H l = none → Q (.ref l) (upd H l (.lst ys))) := by
  intro M H xs vs P Q m r h k
  match xs, h with
  | [.tup ds], h =>
    obtain ⟨v, rfl, r1⟩ := r.one
    obtain ⟨a, ys, rfl, t, r2⟩ := r1.tup
    exact ⟨a, ys, rfl, .inr t.sq, fun l hl => k _ _ _ h (Full.new hl).ext (W.keep _ _ m.wi (Full.new hl)) (m.newL hl r2)⟩
  | [.lst ds], h =>
    obtain ⟨v, rfl, r1⟩ := r.one
    obtain ⟨a, ys, rfl, t, r2⟩ := r1.lst
    exact ⟨a, ys, rfl, .inl t.sq, fun l hl => k _ _ _ h (Full.new hl).ext (W.keep _ _ m.wi (Full.new hl)) (m.newL hl r2)⟩
theorem lift_tuple {K : PySem.W.Frag} : LiftCall K W tupD (fun xs H Q => ∃ p ys, xs = [.ref p] ∧ ((SqL K H p ys ∧ ∀ l, H l = none → Q (.ref l) (upd H l (.tup ys))) ∨ (SqT K H p ys ∧ Q (.ref p) H))) := by
  intro M H xs vs P Q m r h k
  match xs, h with
  | [.tup ds], h =>
    obtain ⟨v, rfl, r1⟩ := r.one
    obtain ⟨a, ys, rfl, t, r2⟩ := r1.tup
    exact ⟨a, ys, rfl, .inr ⟨t.sq, k _ _ _ h (Ext.refl H) m.wi (rep_tup t r2)⟩⟩
  | [.lst ds], h =>
    obtain ⟨v, rfl, r1⟩ := r.one
    obtain ⟨a, ys, rfl, t, r2⟩ := r1.lst
    exact ⟨a, ys, rfl, .inl ⟨t.sq, fun l hl => k _ _ _ h (Full.new hl).ext (W.keep _ _ m.wi (Full.new hl)) (m.newT hl r2)⟩⟩
/-- str(n) of an int -/
def strD : List D → (D → Prop) → Prop
  | [.int i], P => i.natAbs.log2 < 1920 ∧ P (.str (toString i))
  | _, _ => False
theorem lift_str {K : PySem.W.Frag} : LiftCall K W strD (fun xs H Q => ∃ i, xs = [.int i] ∧ i.natAbs.log2 < 1920 ∧ Q (.str (toString i)) H) := by
  intro M H xs vs P Q m r h k
  match xs, h with
  | [.int i], h =>
    obtain ⟨v, rfl, r1⟩ := r.one
    exact ⟨i, by rw [r1.int], h.1, k _ _ H h.2 (Ext.refl H) m.wi rep_str⟩

/-! ### isinstance by the built-in types -/
inductive Ty where
  | int | str | bool | tuple | list
def Ty.nm : Ty → String
  | .int => "int" | .str => "str" | .bool => "bool" | .tuple => "tuple" | .list => "list"
def isTy : Ty → D → Bool
  | .int, .int _ => true
  | .int, .bl _ => true
  | .str, .str _ => true
  | .bool, .bl _ => true
  | .tuple, .tup _ => true
  | .list, .lst _ => true
  | _, _ => false
def noHnd : D → Bool
  | .hnd _ => false
  | .dic _ _ => false
  | .ins _ _ _ => false
  | .lam _ _ => false
  | _ => true
def isiD (t : Ty) : List D → (D → Prop) → Prop
  | [x, .hnd (.ty _)], P => noHnd x = true ∧ P (.bl (isTy t x))
  | _, _ => False
def tyN : D → String
  | .non => "NoneType" | .bl _ => "bool" | .int _ => "int" | .str _ => "str" | .tup _ => "tuple" | .lst _ => "list" | .hnd _ => "" | .dic _ _ => "" | .ins _ _ _ => "" | .lam _ _ => ""
inductive Kd where
  | non | bl | int | str | tup | lst
def Kd.nm : Kd → String
  | .non => "NoneType" | .bl => "bool" | .int => "int" | .str => "str" | .tup => "tuple" | .lst => "list"
def Kd.isTy : Ty → Kd → Bool
  | .int, .int => true
  | .int, .bl => true
  | .str, .str => true
  | .bool, .bl => true
  | .tuple, .tup => true
  | .list, .lst => true
  | _, _ => false
theorem kit_kd (t : Ty) (k : Kd) : kitB k.nm t.nm = some (Kd.isTy t k) := by cases t <;> cases k <;> decide +kernel
theorem kit_tab (t : Ty) (x : D) (h : noHnd x = true) : kitB (tyN x) t.nm = some (isTy t x) := by
  cases x with
  | non => exact (kit_kd t .non).trans (by cases t <;> rfl)
  | bl => exact (kit_kd t .bl).trans (by cases t <;> rfl)
  | int => exact (kit_kd t .int).trans (by cases t <;> rfl)
  | str => exact (kit_kd t .str).trans (by cases t <;> rfl)
  | tup => exact (kit_kd t .tup).trans (by cases t <;> rfl)
  | lst => exact (kit_kd t .lst).trans (by cases t <;> rfl)
  | _ => cases h
theorem Rep.ty {K : PySem.W.Frag} {M : Addr → Prop} {H : Hp} {d : D} {v : V} (h : Rep K M H d v) (n : noHnd d = true) : TyX K H v (.type (tyN d)) := by
  cases d with
  | non => rw [h.non]; exact .base .non
  | bl => rw [h.bl]; exact .base (.bl _)
  | int => rw [h.int]; exact .base (.int _)
  | str => rw [h.str]; exact .base (.str _)
  | hnd => cases n
  | dic => cases n
  | ins => cases n
  | lam => cases n
  | tup =>
    obtain ⟨a, xs, rfl, t, _⟩ := h.tup
    rcases t with ⟨_, t | ⟨o, t⟩⟩ | ⟨o, its, n, hk, hc, _⟩
    · exact .base (.tup t)
    · exact .fTuple t
    · exact .kTuple hk hc
  | lst =>
    obtain ⟨a, xs, rfl, t, _⟩ := h.lst
    rcases t with ⟨_, t | ⟨o, t⟩⟩ | ⟨o, its, n, hk, hc, _⟩
    · exact .base (.lst t)
    · exact .base (.frz t)
    · exact .kList hk hc
def rIsi1 (K : PySem.W.Frag) (T : String) : List V → Hp → VK → Prop := fun xs H Q => rIsi K (match xs with | [x, .ty _] => [x, .ty T] | _ => []) H Q
theorem ve_isi {x : Str} {p : Pos} (t : Ty) {w : WE} (hg : Gl X "isinstance") (hm : X.mg "isinstance" = none) (hv : bootBuiltins "isinstance" = some (.builtin "isinstance")) (ha : VE X W e w) (hgT : Gl X x) (hmT : X.mg x = none) (hvT : bootBuiltins x = some (.type t.nm)) {px : Pos}
    (hn : x ≠ "__name__" := by decide) (hdb : (x == ("__debug__" : Str)) = false := by decide)
    (hs : starEach [e, .Name x px] X.env = (false, eval e X.env) :: starEach [.Name x px] X.env := by rfl) (hpl : (backTo pos (starEach [.Name x px] X.env)).any (·.1) = false := by rfl) (hs2 : starEach [.Name x px] X.env = (false, eval (.Name x px) X.env) :: starEach [] X.env := by rfl) :
    VE X W (.Call (.Name "isinstance" p) [e, .Name x px] [] pos) (fun ds P => w ds fun d => noHnd d = true ∧ P (.bl (isTy t d))) := by
  have hT : PE X (.Name x px) (tC (.ty t.nm)) := pe_bltn (v := .ty t.nm) hgT hmT hvT rfl hn hdb
  refine pe_imp (pe_callB call_isi hg hm hv (pa_cons ha (pa_cons hT pa_nil hs2) hs) (by decide) (by decide) hs hpl) fun σ H Q h => ?_
  obtain ⟨M0, H0, oa, ds, P, S, hw, k⟩ := h
  refine ⟨M0, H0, oa, ds, _, S, hw, fun d v H1 hx e1 i1 r1 => ?_⟩
  show rIsi X.K [v, .ty t.nm] H1 Q
  exact ⟨v, .ty t.nm, .type (tyN d), .type t.nm, isTy t d, rfl, .ty _, r1.ty hx.1, kit_ty (kit_tab t d hx.1), k _ _ H1 hx.2 e1 i1 rep_bl⟩

/-! ### subscripts -/
def ixD : D → D → (D → Prop) → Prop
  | .tup xs, .int i, P => ∃ d, atI xs i = some d ∧ P d
  | .lst xs, .int i, P => ∃ d, atI xs i = some d ∧ P d
  | .str z, .int i, P => z.length ≤ sizeLine ∧ ∃ c, atI z.cps.toList i = some c ∧ P (.str ⟨#[c]⟩)
  | _, _, _ => False
theorem atI_rep {K : PySem.W.Frag} {M : Addr → Prop} {H : Hp} {ds : List D} {vs : List V} {i : Int} {d : D} (r : Reps K M H ds vs) (h : atI ds i = some d) : ∃ v, atI vs i = some v ∧ Rep K M H d v := by
  unfold atI at h ⊢
  rw [r.len]
  cases e : ixN ds.length i with
  | none => rw [e] at h; cases h
  | some j =>
    rw [e] at h
    exact r.get (i := j) h
theorem lift_ix {K : PySem.W.Frag} : LiftOp K W ixD (rIx K) := by
  intro M H x y v u P Q m r1 r2 h k
  cases x with
  | tup xs =>
    cases y with
    | int i =>
      obtain ⟨d, h1, h2⟩ := h
      obtain ⟨a, vs, rfl, t, r⟩ := r1.tup
      obtain ⟨z, e, rz⟩ := atI_rep r h1
      exact .inr (.inl ⟨a, vs, i, z, rfl, r2.int, t.sq, e, k _ _ H h2 (Ext.refl H) m.wi rz⟩)
    | _ => exact h.elim
  | lst xs =>
    cases y with
    | int i =>
      obtain ⟨d, h1, h2⟩ := h
      obtain ⟨a, vs, rfl, t, r⟩ := r1.lst
      obtain ⟨z, e, rz⟩ := atI_rep r h1
      exact .inl ⟨a, vs, i, z, rfl, r2.int, t.sq, e, k _ _ H h2 (Ext.refl H) m.wi rz⟩
    | _ => exact h.elim
  | str z =>
    cases y with
    | int i =>
      obtain ⟨hz, c, h1, h2⟩ := h
      exact .inr (.inr ⟨z, i, c, r1.str, r2.int, hz, h1, k _ _ H h2 (Ext.refl H) m.wi rep_str⟩)
    | _ => exact h.elim
  | _ => exact h.elim
theorem ve_ix {wa wb : WE} (ha : VE X W a wa) (hb : VE X W b wb) (hs : PlainIx b := by exact fun _ _ => rfl) : VE X W (.Subscript a b pos) (wOp ixD wa wb) := pe_imp (pe_ix ix_seq ha hb hs) (le_op lift_ix)
/-- -n -/
def negD : D → (D → Prop) → Prop
  | .int i, P => P (.int (-i))
  | _, _ => False
def wNeg (w : WE) : WE := fun ds P => w ds fun x => negD x P
theorem ve_neg {w : WE} (ha : VE X W a w) : VE X W (.UnaryOp .USub a pos) (wNeg w) := by
  refine pe_imp (pe_un un_neg ha) fun σ H Q h => ?_
  obtain ⟨M0, H0, oa, ds, P, S, hw, k⟩ := h
  refine ⟨M0, H0, oa, ds, _, S, hw, fun x v H1 hx e1 i1 r1 => ?_⟩
  cases x <;> first | exact hx.elim | skip
  rename_i i
  exact ⟨i, r1.int, k _ _ H1 hx e1 i1 rep_int⟩
end
end VL

set_option Elab.async false
set_option linter.all false
set_option maxRecDepth 100000
set_option maxHeartbeats 2000000
/-! VC: statements, loops, comprehensions, defs over plain data. -/
namespace VL
open PySem PySem.Spec PyProof.Rows L2

structure EndsD where
  nx : List Sl → Prop
  rt : D → Prop
  bk : List Sl → Prop := fun _ => False
  ct : List Sl → Prop := fun _ => False
abbrev WS := EndsD → List Sl → Prop
def LS (K : PySem.W.Frag) (W : Wd) (w : WS) : TS := fun D σ H => ∃ M0 H0 oa ds E, Sat K W M0 H0 oa H σ ds ∧ w E ds ∧
  (∀ ds' oa' σ' H', E.nx ds' → Sat K W M0 H0 oa' H' σ' ds' → D.nx σ' H') ∧ (∀ d v H', E.rt d → Ext W H0 H' → W.I H' → Rep K M0 H' d v → D.rt v H') ∧
  (∀ ds' oa' σ' H', E.bk ds' → Sat K W M0 H0 oa' H' σ' ds' → D.bk σ' H') ∧ (∀ ds' oa' σ' H', E.ct ds' → Sat K W M0 H0 oa' H' σ' ds' → D.ct σ' H')
abbrev VS (X : Cx) (W : Wd) (st : Stmt) (w : WS) : Prop := PS X st (LS X.K W w)
abbrev VSs (X : Cx) (W : Wd) (st : List Stmt) (w : WS) : Prop := PSs X st (LS X.K W w)
theorem ps_imp {X : Cx} {st : Stmt} {t t' : TS} (h : PS X st t) (f : ∀ D σ H, t' D σ H → t D σ H) : PS X st t' := ⟨fun pins s σ H D I hw => h.run pins s σ H D I (f D σ H hw)⟩
theorem pss_imp {X : Cx} {st : List Stmt} {t t' : TS} (h : PSs X st t) (f : ∀ D σ H, t' D σ H → t D σ H) : PSs X st t' := ⟨fun pins s σ H D I hw => h.run pins s σ H D I (f D σ H hw)⟩

theorem mx_sub {M0 : Addr → Prop} {oa : Nat → Option Addr} {a : Addr} (h : M0 a) : Mx M0 oa a := .inl h
theorem Rep.out {K : PySem.W.Frag} {M0 : Addr → Prop} {oa : Nat → Option Addr} {H : Hp} {d : D} {v : V} (h : Rep K (Mx M0 oa) H d v) : Rep K M0 H d v := h.car fun _ _ n q => ⟨fun z => n (.inl z), q⟩

section
variable {X : Cx} {W : Wd} {e c : Expr} {st : Stmt} {rest body body2 : List Stmt} {pos : Pos}
def wNext : WS := fun E ds => E.nx ds
def wSeq (w u : WS) : WS := fun E ds => w { E with nx := u E } ds
theorem vss_nil : VSs X W [] wNext := pss_imp pss_nil fun D σ H ⟨M0, H0, oa, ds, E, S, hw, k1, _⟩ => k1 ds oa σ H hw S
theorem vss_cons {w u : WS} (h1 : VS X W st w) (h2 : VSs X W rest u) : VSs X W (st :: rest) (wSeq w u) := by
  refine pss_imp (pss_cons h1 h2) fun D σ H h => ?_
  obtain ⟨M0, H0, oa, ds, E, S, hw, k1, k2, k3, k4⟩ := h
  exact ⟨M0, H0, oa, ds, _, S, hw, fun ds' oa' σ' H' hn S' => ⟨M0, H0, oa', ds', E, S', hn, k1, k2, k3, k4⟩, k2, k3, k4⟩
theorem vss_one {w : WS} (h1 : VS X W st w) : VSs X W [st] (wSeq w wNext) := vss_cons h1 vss_nil
theorem vs_never : VS X W st (fun _ _ => False) := ps_imp ps_never fun D σ H ⟨M0, H0, oa, ds, E, S, hw, _⟩ => hw
theorem vss_never {sts : List Stmt} : VSs X W sts (fun _ _ => False) := pss_imp pss_never fun D σ H ⟨M0, H0, oa, ds, E, S, hw, _⟩ => hw
/-- a list that a def kept for itself, from here on data -/
def fzS : Sl → Sl
  | .ml xs => .d (.lst xs)
  | .md ks xs => .d (.dic ks xs)
  | .mi _ C ks xs => .d (.ins C ks xs)
  | s => s
def fz (i : Nat) (ds : List Sl) : List Sl := ds.set i (fzS (ds.getD i .un))
theorem Sat.fzd {K : PySem.W.Frag} {M0 : Addr → Prop} {H0 H : Hp} {oa : Nat → Option Addr} {σ : L2.St} {ds : List Sl} (S : Sat K W M0 H0 oa H σ ds) {i : Nat} {a : Addr} {x : D} (hi : i < ds.length) (e1 : oa i = some a) (e2 : σ[i]? = some (some (.ref a)))
    (hr : ¬ Mx M0 (oaDel oa i) a → Car (Mx M0 oa) (Mx M0 (oaDel oa i)) H H → Rep K (Mx M0 (oaDel oa i)) H x (.ref a)) : Sat K W M0 H0 (oaDel oa i) H σ (ds.set i (.d x)) := by
  have nm : ¬ Mx M0 (oaDel oa i) a := by
    rintro (z | ⟨j, z⟩)
    · exact (S.ofr i a e1).2 z
    · obtain ⟨z1, z2⟩ := oaDel_some z
      exact z1 (S.inj j i a z2 e1)
  refine ⟨S.wm, S.live, S.ext, S.wi, fun j a h => S.ofr j a (oaDel_some h).2, fun j k a h1 h2 => S.inj j k a (oaDel_some h1).2 (oaDel_some h2).2, by simp [S.len], fun j hj => ?_, fun j s h => ?_, S.fm, S.fh, S.bl, S.nc, S.nx⟩
  · have z := S.out j (by simpa using hj)
    unfold oaDel
    split
    · rfl
    · exact z
  · by_cases hj : j = i
    · subst hj
      rw [List.getElem?_set_self hi] at h
      cases h
      exact ⟨by unfold oaDel; simp, .ref a, e2, hr nm car_del⟩
    · rw [List.getElem?_set_ne (Ne.symm hj)] at h
      have e2 : oaDel oa i j = oa j := by unfold oaDel; rw [if_neg hj]
      rw [e2]
      exact (S.slot j s h).car car_del fun a xs _ z => z
theorem Sat.fz {K : PySem.W.Frag} {M0 : Addr → Prop} {H0 H : Hp} {oa : Nat → Option Addr} {σ : L2.St} {ds : List Sl} (S : Sat K W M0 H0 oa H σ ds) (i : Nat) : ∃ oa', Sat K W M0 H0 oa' H σ (fz i ds) := by
  by_cases hi : i < ds.length
  · have hg : ds.getD i .un = ds[i] := by simp [List.getD_eq_getElem?_getD, hi]
    have hs := S.slot i ds[i] (by simp [hi])
    cases q : ds[i] with
    | un =>
      refine ⟨oa, ?_⟩
      have : VL.fz i ds = ds := by unfold VL.fz; rw [hg, q]; show ds.set i .un = ds; rw [← q]; simp
      rw [this]; exact S
    | d x =>
      refine ⟨oa, ?_⟩
      have : VL.fz i ds = ds := by unfold VL.fz; rw [hg, q]; show ds.set i (.d x) = ds; rw [← q]; simp
      rw [this]; exact S
    | ml l =>
      rw [q] at hs
      obtain ⟨a, xs, e1, e2, e3, r⟩ := hs
      have ed : VL.fz i ds = ds.set i (.d (.lst l)) := by unfold VL.fz; rw [hg, q]; rfl
      rw [ed]
      exact ⟨_, S.fzd hi e1 e2 fun nm c => rep_lst (.inl ⟨nm, .inl e3⟩) (r.car c)⟩
    | md ks l =>
      rw [q] at hs
      obtain ⟨a, us, e1, e2, e3, e4, r⟩ := hs
      have ed : VL.fz i ds = ds.set i (.d (.dic ks l)) := by unfold VL.fz; rw [hg, q]; rfl
      rw [ed]
      exact ⟨_, S.fzd hi e1 e2 fun nm c => rep_dic nm e3 e4 (r.car c)⟩
    | mi a C ks l =>
      rw [q] at hs
      obtain ⟨dx, us, e1, e2, e3, e4, r⟩ := hs
      have ed : VL.fz i ds = ds.set i (.d (.ins C ks l)) := by unfold VL.fz; rw [hg, q]; rfl
      rw [ed]
      exact ⟨_, S.fzd hi e1 e2 fun nm c => rep_ins nm e3 e4 (r.car c)⟩
  · refine ⟨oa, ?_⟩
    have : VL.fz i ds = ds := by unfold VL.fz; rw [List.set_eq_of_length_le (by omega)]
    rw [this]; exact S
theorem vss_fz (i : Nat) {w : WS} (h : VSs X W rest w) : VSs X W rest (fun E ds => w E (fz i ds)) := pss_imp h fun D σ H ⟨M0, H0, oa, ds, E, S, hw, k⟩ => by
  obtain ⟨oa', S'⟩ := S.fz i
  exact ⟨M0, H0, oa', _, E, S', hw, k⟩

def wSet (i : Nat) (w : WE) : WS := fun E ds => w ds fun d => E.nx (ds.set i (.d d))
theorem ls_set {K : PySem.W.Frag} {i : Nat} {w : WE} {D : Ends} {σ : L2.St} {H : Hp} (h : LS K W (wSet i w) D σ H) : tAsg (LE K W w) (gName i) D σ H := by
  obtain ⟨M0, H0, oa, ds, E, S, hw, k1, k2, k3, k4⟩ := h
  refine ⟨M0, H0, oa, ds, _, S, hw, fun d v H1 hd e1 i1 r1 => ?_⟩
  exact k1 _ _ _ _ hd ((S.step e1 i1).set r1)
theorem vs_set (i : Nat) {x : Str} {w : WE} {pos' : Pos} (hN : X.N.Nodup) (he : VE X W e w) (hi : X.N[i]? = some x := by rfl) (hx : Loc X.env.scope x := by first | exact Or.inl rfl | exact Or.inr rfl) (hs : swapsWith e (some (.Name x pos')) pos.line X.env = pure false := by rfl)
    (hf : X.fn x = true ∨ X.env.scope.names.lookup x = some .local := by first | exact .inl rfl | exact .inr rfl | assumption) : VS X W (.Assign [.Name x pos'] e pos) (wSet i w) := ps_imp (ps_set hN hi hx he hs hf) fun _ _ _ => ls_set
/-- x = []: the list is the def's own -/
def wSetNil (i : Nat) : WS := fun E ds => i < ds.length ∧ E.nx (ds.set i (.ml []))
theorem Sat.newown {K : PySem.W.Frag} {M0 : Addr → Prop} {H0 H : Hp} {oa : Nat → Option Addr} {σ : L2.St} {ds : List Sl} (S : Sat K W M0 H0 oa H σ ds) {i : Nat} (hi : i < ds.length) {p : Addr} (hp : H p = none) {ob : HO} {sl : Sl}
    (hsl : Car (Mx M0 oa) (Mx M0 (oaPut oa i p)) H (upd H p ob) → SlotOk K (Mx M0 (oaPut oa i p)) (upd H p ob) (some p) sl (some (some (.ref p)))) : Sat K W M0 H0 (oaPut oa i p) (upd H p ob) (σ.set i (some (.ref p))) (ds.set i sl) := by
  have f : Full H (upd H p ob) := Full.new hp
  have S1 := S.full f
  have hm : ¬ Mx M0 oa p := S.mok.fresh hp
  have h0 : H0 p = none := by
    cases q : H0 p with
    | none => rfl
    | some o =>
      have nA : ¬ W.A p := fun z => W.live _ _ S.wi z hp
      rw [S.ext p o nA q] at hp; cases hp
  have cr : Car (Mx M0 oa) (Mx M0 (oaPut oa i p)) H (upd H p ob) := fun b o n h => by
    have hb : b ≠ p := ne_of_none h hp
    refine ⟨fun z => ?_, by rw [upd_ne hb]; exact h⟩
    rcases z with z | ⟨j, z⟩
    · exact n (.inl z)
    · unfold oaPut at z
      by_cases e : j = i
      · rw [if_pos e] at z; cases z; exact hb rfl
      · rw [if_neg e] at z; exact n (.inr ⟨j, z⟩)
  refine S1.setown hi h0 hm (hsl cr) fun j s hj hs => ?_
  exact (S.slot j s hs).car cr fun a xs _ z => by rw [upd_ne (ne_of_none z hp)]; exact z
theorem Sat.newml {K : PySem.W.Frag} {M0 : Addr → Prop} {H0 H : Hp} {oa : Nat → Option Addr} {σ : L2.St} {ds : List Sl} (S : Sat K W M0 H0 oa H σ ds) {i : Nat} (hi : i < ds.length) {p : Addr} (hp : H p = none) {xs : List D} {vs : List V}
    (r : Reps K (Mx M0 oa) H xs vs) : Sat K W M0 H0 (oaPut oa i p) (upd H p (.lst vs)) (σ.set i (some (.ref p))) (ds.set i (.ml xs)) :=
  S.newown hi hp fun c => ⟨p, vs, rfl, rfl, upd_same, r.car c⟩
theorem vs_setNil (i : Nat) {x : Str} {pos' lpos : Pos} (hN : X.N.Nodup) (hi : X.N[i]? = some x := by rfl) (hx : Loc X.env.scope x := by first | exact Or.inl rfl | exact Or.inr rfl) (hs : swapsWith (.List [] lpos) (some (.Name x pos')) pos.line X.env = pure false := by rfl)
    (hf : X.fn x = true ∨ X.env.scope.names.lookup x = some .local := by first | exact .inl rfl | exact .inr rfl | assumption) : VS X W (.Assign [.Name x pos'] (.List [] lpos) pos) (wSetNil i) := by
  refine ps_imp (ps_set hN hi hx (pe_lst pa_nil) hs hf) fun D σ H h => ?_
  obtain ⟨M0, H0, oa, ds, E, S, ⟨hl, hn⟩, k1, k2, k3, k4⟩ := h
  exact ⟨by show 0 ≤ sizeLine; exact Nat.zero_le _, fun p hp => k1 _ _ _ _ hn (S.newml hl hp reps_nil)⟩
/-- x = list(e): the list is the def's own -/
def seqD : D → (List D → Prop) → Prop
  | .tup xs, P => P xs
  | .lst xs, P => P xs
  | _, _ => False
def wSetList (i : Nat) (w : WE) : WS := fun E ds => i < ds.length ∧ w ds fun d => seqD d fun xs => E.nx (ds.set i (.ml xs))
theorem seqD_of {K : PySem.W.Frag} {M : Addr → Prop} {H : Hp} {d : D} {v : V} {P : List D → Prop} (h : seqD d P) (r : Rep K M H d v) : ∃ xs a vs, P xs ∧ v = .ref a ∧ (SqL K H a vs ∨ SqT K H a vs) ∧ Reps K M H xs vs := by
  cases d with
  | tup xs => obtain ⟨a, vs, e, t, q⟩ := r.tup; exact ⟨xs, a, vs, h, e, .inr t.sq, q⟩
  | lst xs => obtain ⟨a, vs, e, t, q⟩ := r.lst; exact ⟨xs, a, vs, h, e, .inl t.sq, q⟩
  | _ => exact h.elim
theorem vs_setList (i : Nat) {x : Str} {pos' cpos p : Pos} {w : WE} (hN : X.N.Nodup) (hg : Gl X "list") (hm : X.mg "list" = none) (hv : bootBuiltins "list" = some (.type "list")) (he : VE X W e w) (hi : X.N[i]? = some x := by rfl) (hx : Loc X.env.scope x := by first | exact Or.inl rfl | exact Or.inr rfl)
    (hs : swapsWith (.Call (.Name "list" p) [e] [] cpos) (some (.Name x pos')) pos.line X.env = pure false := by rfl)
    (hf : X.fn x = true ∨ X.env.scope.names.lookup x = some .local := by first | exact .inl rfl | exact .inr rfl | assumption)
    (hs1 : starEach [e] X.env = (false, eval e X.env) :: starEach [] X.env := by rfl) : VS X W (.Assign [.Name x pos'] (.Call (.Name "list" p) [e] [] cpos) pos) (wSetList i w) := by
  refine ps_imp (ps_set hN hi hx (pe_callTy call_list_of hg hm hv (pa_cons he pa_nil hs1) (by decide) (by decide) hs1 (by rfl)) hs hf) fun D σ H h => ?_
  obtain ⟨M0, H0, oa, ds, E, S, ⟨hl, hn⟩, k1, k2, k3, k4⟩ := h
  refine ⟨M0, H0, oa, ds, _, S, hn, fun d v H1 hd e1 i1 r1 => ?_⟩
  obtain ⟨xs, a, vs, hp, rfl, hq, rr⟩ := seqD_of hd r1
  exact ⟨a, vs, rfl, hq, fun p hpn => k1 _ _ _ _ hp ((S.step e1 i1).newml hl hpn rr)⟩
def mlS : Sl → (List D → Prop) → Prop
  | .ml xs, P => P xs
  | _, _ => False
/-- x.append(e), x a list of the def's own -/
def wApp (i : Nat) (w : WE) : WS := fun E ds => mlS (ds.getD i .un) fun xs => w ds fun d => xs.length < 1000000 ∧ E.nx (ds.set i (.ml (xs ++ [d])))
theorem Sat.ml {K : PySem.W.Frag} {M0 : Addr → Prop} {H0 H : Hp} {oa : Nat → Option Addr} {σ : L2.St} {ds : List Sl} (S : Sat K W M0 H0 oa H σ ds) {i : Nat} {P : List D → Prop} (h : mlS (ds.getD i .un) P) :
    ∃ l a xs, ds[i]? = some (.ml l) ∧ P l ∧ oa i = some a ∧ σ[i]? = some (some (.ref a)) ∧ H a = some (.lst xs) ∧ Reps K (Mx M0 oa) H l xs := by
  rw [List.getD_eq_getElem?_getD] at h
  cases e : ds[i]? with
  | none => rw [e] at h; exact h.elim
  | some s =>
    rw [e] at h
    cases s with
    | un => exact h.elim
    | d x => exact h.elim
    | md ks l => exact h.elim
    | mi a C ks l => exact h.elim
    | ml l =>
      obtain ⟨a, xs, e1, e2, e3, r⟩ := S.slot i _ e
      exact ⟨l, a, xs, rfl, h, e1, e2, e3, r⟩
theorem Sat.own_ext {K : PySem.W.Frag} {M0 : Addr → Prop} {H0 H : Hp} {oa : Nat → Option Addr} {σ : L2.St} {ds : List Sl} (S : Sat K W M0 H0 oa H σ ds) {i : Nat} {a : Addr} (hl : i < ds.length) (ho : oa i = some a) (φ : Heap → Prop) : H a ≠ some (.ext φ) := by
  have h := S.slot i _ (List.getElem?_eq_getElem hl)
  rw [ho] at h
  intro z
  cases q : ds[i] with
  | un => rw [q] at h; cases h
  | d x => rw [q] at h; cases h.1
  | ml l =>
    rw [q] at h
    obtain ⟨b, xs, e1, _, e3, _⟩ := h
    cases e1
    rw [z] at e3
    cases e3
  | md ks l =>
    rw [q] at h
    obtain ⟨b, us, e1, _, _, e3, _⟩ := h
    cases e1
    rw [z] at e3
    cases e3
  | mi b C ks l =>
    rw [q] at h
    obtain ⟨dx, us, e1, _, _, e3, _⟩ := h
    cases e1
    rw [z] at e3
    cases e3
/-- the own list of slot i changes -/
theorem Sat.mutown {K : PySem.W.Frag} {M0 : Addr → Prop} {H0 H : Hp} {oa : Nat → Option Addr} {σ : L2.St} {ds : List Sl} (S : Sat K W M0 H0 oa H σ ds) {i : Nat} {a : Addr} {sl : Sl} {ob : HO} (hl : i < ds.length) (ho : oa i = some a)
    (hσ : σ[i]? = some (some (.ref a))) (hsl : Car (Mx M0 oa) (Mx M0 oa) H (upd H a ob) → SlotOk K (Mx M0 oa) (upd H a ob) (some a) sl (some (some (.ref a)))) : Sat K W M0 H0 oa (upd H a ob) σ (ds.set i sl) := by
  have nA := S.own_nA ho
  have cr : Car (Mx M0 oa) (Mx M0 oa) H (upd H a ob) := fun b o n h => ⟨n, by rw [upd_ne (fun z => n (by rw [z]; exact .inr ⟨i, ho⟩))]; exact h⟩
  refine ⟨S.wm, S.live, fun b o n h => ?_, W.stay _ _ S.wi (fun b hb => upd_ne (fun z => nA (by rw [← z]; exact hb))) (fun b φ e => (upd_ne (fun z => S.own_ext hl ho φ (by rw [← z]; exact e))).trans e) (fun b o hB e => (upd_ne (fun z => S.bl b hB (by rw [z]; exact (S.ofr i a ho).1))).trans e), S.ofr, S.inj, by simp [S.len], fun j hj => S.out j (by simpa using hj), fun j s h => ?_, S.fm, S.fh, S.bl, S.nc, S.nx⟩
  · have hb : b ≠ a := fun z => by rw [z, (S.ofr i a ho).1] at h; cases h
    rw [upd_ne hb]
    exact S.ext b o n h
  · by_cases e : j = i
    · subst e
      rw [List.getElem?_set_self hl] at h
      cases h
      rw [ho, hσ]
      exact hsl cr
    · rw [List.getElem?_set_ne (Ne.symm e)] at h
      exact (S.slot j s h).car cr fun b ys h1 h2 => by
        rw [upd_ne (fun z => e (S.inj j i a (by rw [← z]; exact h1) ho))]
        exact h2
theorem Sat.mut {K : PySem.W.Frag} {M0 : Addr → Prop} {H0 H : Hp} {oa : Nat → Option Addr} {σ : L2.St} {ds : List Sl} (S : Sat K W M0 H0 oa H σ ds) {i : Nat} {a : Addr} {l l' : List D} {xs' : List V} (hi : ds[i]? = some (.ml l)) (ho : oa i = some a)
    (hσ : σ[i]? = some (some (.ref a))) (r : Reps K (Mx M0 oa) H l' xs') : Sat K W M0 H0 oa (upd H a (.lst xs')) σ (ds.set i (.ml l')) :=
  S.mutown (List.getElem?_eq_some_iff.mp hi).1 ho hσ fun c => ⟨a, xs', rfl, rfl, upd_same, r.car c⟩
theorem vs_app (i : Nat) {x : Str} {w : WE} {p apos cpos : Pos} (he : VE X W e w) (hN : X.N[i]? = some x := by rfl) (hv : Vis X.env.scope x := by first | exact Or.inl rfl | exact Or.inr (Or.inl rfl) | exact Or.inr (Or.inr rfl))
    (hd : (x == ("__debug__" : Str)) = false := by decide) (hcd : (x == ("__classdict__" : Str)) = false := by decide)
    (hbase : attributeBase (.Name x p) "append" X.env (eval (.Name x p) X.env) = eval (.Name x p) X.env := by rfl)
    (hfew : ((backTo cpos (starEach [e] X.env)).all (fun x => !x.1) && (backToKw cpos (keywordEach [] X.env)).all (fun x => x.1.isSome)
      && decide (([e] : List Expr).length + ([] : List Keyword).length + (if ([] : List Keyword).isEmpty then 0 else 1) < 30)) = true := by rfl)
    (hline : (apos.endLine == cpos.line) = true := by rfl) (hs : starEach [e] X.env = (false, eval e X.env) :: starEach [] X.env := by rfl) (hplain : (backTo cpos (starEach [] X.env)).any (·.1) = false := by rfl)
    (hsw : swapsWith (.Call (.Attribute (.Name x p) "append" apos) [e] [] cpos) none pos.line X.env = pure false := by rfl) :
    VS X W (.Expr (.Call (.Attribute (.Name x p) "append" apos) [e] [] cpos) pos) (wApp i w) := by
  refine ps_imp (ps_expr (pe_bm PySem.F.plainAttrs_list PySem.F.slot_list_append PySem.F.type_list_append mt_append (pe_var hN hv hd hcd) (pa_cons he pa_nil hs) hbase hfew hline hs hplain) hsw) fun D σ H h => ?_
  obtain ⟨M0, H0, oa, ds, E, S, hw, k1, k2, k3, k4⟩ := h
  obtain ⟨l, a, xs, g1, hw, g2, g3, g4, g5⟩ := S.ml hw
  refine ⟨.ref a, g3, .inl ⟨rfl, _, SqL.of g4⟩, ⟨M0, H0, oa, ds, _, S, hw, fun d v H1 hd e1 i1 r1 => ?_⟩⟩
  have S1 := S.step e1 i1
  have h1 : H1 a = some (.lst xs) := e1 a _ (S.own_nA g2) g4
  refine ⟨a, xs, v, rfl, rfl, h1, ?_, ?_⟩
  · have q := hd.1
    rw [← g5.len] at q
    rw [sizeLine_eq]
    omega
  · exact k1 _ _ _ _ hd.2 (S1.mut g1 g2 g3 ((g5.ext S.mok e1).app (reps_cons r1 reps_nil)))

/-! ### return, if, while -/
def wRet (w : WE) : WS := fun E ds => w ds E.rt
def wRetN : WS := fun E _ => E.rt .non
theorem vs_ret {w : WE} (he : VE X W e w) : VS X W (.Return (some e) pos) (wRet w) := by
  refine ps_imp (ps_ret he) fun D σ H h => ?_
  obtain ⟨M0, H0, oa, ds, E, S, hw, k1, k2, k3, k4⟩ := h
  exact ⟨M0, H0, oa, ds, _, S, hw, fun d v H1 hd e1 i1 r1 => k2 d v H1 hd (S.ext.trans e1) i1 r1.out⟩
theorem vs_retN : VS X W (.Return none pos) wRetN := ps_imp ps_retN fun D σ H ⟨M0, H0, oa, ds, E, S, hw, k1, k2, _⟩ => k2 _ _ H hw S.ext S.wi rep_non
theorem vs_pass : VS X W (.Pass pos) wNext := ps_imp ps_pass fun D σ H ⟨M0, H0, oa, ds, E, S, hw, k1, _⟩ => k1 ds oa σ H hw S
theorem vs_break : VS X W (.Break pos) (fun E ds => E.bk ds) := ps_imp ps_break fun D σ H ⟨M0, H0, oa, ds, E, S, hw, k1, k2, k3, _⟩ => k3 ds oa σ H hw S
theorem vs_continue : VS X W (.Continue pos) (fun E ds => E.ct ds) := ps_imp ps_continue fun D σ H ⟨M0, H0, oa, ds, E, S, hw, k1, k2, k3, k4⟩ => k4 ds oa σ H hw S
theorem vs_doc {x j pos'} : VS X W (.Expr (.Constant (.str x) j pos) pos') wNext := ps_imp ps_doc fun D σ H ⟨M0, H0, oa, ds, E, S, hw, k1, _⟩ => k1 ds oa σ H hw S
def wDrop (w : WE) : WS := fun E ds => w ds fun _ => E.nx ds
theorem vs_expr {w : WE} (he : VE X W e w) (hs : swapsWith e none pos.line X.env = pure false := by rfl) : VS X W (.Expr e pos) (wDrop w) := by
  refine ps_imp (ps_expr he hs) fun D σ H h => ?_
  obtain ⟨M0, H0, oa, ds, E, S, hw, k1, k2, k3, k4⟩ := h
  exact ⟨M0, H0, oa, ds, _, S, hw, fun d v H1 hd e1 i1 r1 => k1 _ _ _ _ hd (S.step e1 i1)⟩
def wIfS (t : WT) (a b : WS) : WS := fun E ds => t ds fun c => if c = true then a E ds else b E ds
theorem vs_if {t : WT} {a b : WS} (hc : VT X W c t) (ha : VSs X W body a) (hb : VSs X W body2 b) : VS X W (.If c body body2 pos) (wIfS t a b) := by
  refine ps_imp (ps_if hc ha hb) fun D σ H h => ?_
  obtain ⟨M0, H0, oa, ds, E, S, hw, k⟩ := h
  refine ⟨M0, H0, oa, ds, _, S, hw, fun d H1 hd e1 i1 => ?_⟩
  cases d with
  | true => exact ⟨M0, H0, oa, ds, E, S.step e1 i1, hd, k⟩
  | false => exact ⟨M0, H0, oa, ds, E, S.step e1 i1, hd, k⟩
def wWhile (t : WT) (b : WS) : WS := fun E ds => ∃ Iv : Nat → List Sl → Prop, (∃ m, Iv m ds) ∧ ∀ m ds, Iv m ds → t ds fun c => if c = true then b { E with nx := fun ds' => ∃ m', m' < m ∧ Iv m' ds', ct := fun ds' => ∃ m', m' < m ∧ Iv m' ds', bk := E.nx } ds else E.nx ds
theorem vs_while {t : WT} {b : WS} (hp : PassesOwn (model X.prog X.w) X.A X.env X.xe) (hc : VT X W c t) (hb : VSs X W body b) : VS X W (.While c body [] pos) (wWhile t b) := by
  refine ps_imp (ps_while hp hc hb) fun D σ H h => ?_
  obtain ⟨M0, H0, oa, ds, E, S, ⟨Iv, ⟨m0, h0⟩, turn⟩, k1, k2, k3, k4⟩ := h
  refine ⟨fun m σ H => ∃ oa ds, Iv m ds ∧ Sat X.K W M0 H0 oa H σ ds, ⟨m0, oa, ds, h0, S⟩, ?_⟩
  rintro m σ1 H1 ⟨oa1, ds1, hi, S1⟩
  refine ⟨M0, H0, oa1, ds1, _, S1, turn m ds1 hi, fun c H2 hc e2 i2 => ?_⟩
  have S2 := S1.step e2 i2
  cases c with
  | true =>
    refine ⟨fun σ' H' => ∃ m', m' < m ∧ ∃ oa ds, Iv m' ds ∧ Sat X.K W M0 H0 oa H' σ' ds, fun σ' H' h => h, ?_⟩
    refine ⟨M0, H0, oa1, ds1, _, S2, hc, ?_, k2, ?_, ?_⟩
    · rintro ds' oa' σ' H' ⟨m', hm, hi'⟩ S'
      exact ⟨m', hm, oa', ds', hi', S'⟩
    · intro ds' oa' σ' H' hn S'
      exact k1 ds' oa' σ' H' hn S'
    · rintro ds' oa' σ' H' ⟨m', hm, hi'⟩ S'
      exact ⟨m', hm, oa', ds', hi', S'⟩
  | false => exact k1 _ _ _ _ hc S2
/-- a, b = e, f -/
def wPar (i j : Nat) (wa wb : WE) : WS := fun E ds => wa ds fun x => wb ds fun y => E.nx ((ds.set i (.d x)).set j (.d y))
theorem vs_par (i j : Nat) {x y : Str} {a b : Expr} {wa wb : WE} {px py pt : Pos} {kt k2 pt2} (hc : X.calm = true) (hN : X.N.Nodup) (hij : i ≠ j) (ha : VE X W a wa) (hb : VE X W b wb) (hi : X.N[i]? = some x := by rfl) (hj : X.N[j]? = some y := by rfl)
    (hx : X.env.scope.names.lookup x = some .local := by rfl) (hy : X.env.scope.names.lookup y = some .local := by rfl)
    (hw : swappedStores [.Tuple [.Name x px, .Name y py] kt pt] (.Tuple [a, b] k2 pt2) X.env = pure (some [x, y]) := by rfl)
    (hs : swapsWithSole [.Tuple [.Name x px, .Name y py] kt pt] (.Tuple [a, b] k2 pt2) pos.line X.env = pure false := by rfl) (hs1 : starEach [a, b] X.env = (false, eval a X.env) :: starEach [b] X.env := by rfl) (hs2 : starEach [b] X.env = (false, eval b X.env) :: starEach [] X.env := by rfl) :
    VS X W (.Assign [.Tuple [.Name x px, .Name y py] kt pt] (.Tuple [a, b] k2 pt2) pos) (wPar i j wa wb) := by
  refine ps_imp (ps_par hc hN hi hj hij hx hy (pa_cons ha (pa_cons hb pa_nil hs2) hs1) hw hs) fun D σ H h => ?_
  obtain ⟨M0, H0, oa, ds, E, S, hw, k1, k2, k3, k4⟩ := h
  refine ⟨M0, H0, oa, ds, _, S, hw, fun d v H1 hd e1 i1 r1 => ?_⟩
  have S1 := S.step e1 i1
  refine ⟨M0, H0, oa, ds, _, S1, hd, fun d2 v2 H2 hd2 e2 i2 r2 => ?_⟩
  have S2 := S1.step e2 i2
  have S3 := S2.set (i := i) (r1.ext S1.mok e2)
  exact ⟨v, v2, rfl, k1 _ _ _ _ hd2 (S3.set (i := j) (r2.car car_del))⟩

/-! ### defs -/
def startD (N : List Str) (ds : List D) : List Sl := ds.map Sl.d ++ List.replicate (N.length - ds.length) .un
def endsD (P : D → Prop) : EndsD := { nx := fun _ => P .non, rt := P }
end
theorem startD_get {N : List Str} {ds : List D} {i : Nat} {s : Sl} (h : (startD N ds)[i]? = some s) : s = .un ∨ ∃ x, ds[i]? = some x ∧ s = .d x := by
  unfold startD at h
  by_cases hi : i < ds.length
  · rw [List.getElem?_append_left (by simpa using hi), List.getElem?_map] at h
    cases e : ds[i]? with
    | none => rw [e] at h; cases h
    | some x => rw [e] at h; cases h; exact .inr ⟨x, rfl, rfl⟩
  · rw [List.getElem?_append_right (by simpa using hi), List.getElem?_replicate] at h
    split at h
    · cases h; exact .inl rfl
    · cases h
/-- the world without what a run fixes -/
def Wd.pl (W : Wd) : Wd := { A := W.A, I := W.I, live := W.live, nx := W.nx, B := W.B, liveB := W.liveB, C := W.C, cb := W.cb, stay := W.stay }
theorem sat_start {K : PySem.W.Frag} {W : Wd} {M : Addr → Prop} {H : Hp} {N : List Str} {ds : List D} {vs : List V} (m : MOk W M H) (r : Reps K M H ds vs) (hl : ds.length ≤ N.length) (hm : ∀ a, W.Mf a → M a) (hh : Ext W W.Hf H) : Sat K W M H (fun _ => none) H (L2.start N vs) (startD N ds) := by
  refine ⟨m.wm, m.live, Ext.refl H, m.wi, fun i a h => (by cases h), fun i j a h => (by cases h), ?_, fun i _ => rfl, fun i s h => ?_, hm, hh, fun a h => W.liveB _ _ m.wi h, m.nb, m.nx⟩
  · unfold startD L2.start
    simp [r.len]
  · rcases startD_get h with e | ⟨x, hx, e⟩
    · subst e; rfl
    · subst e
      obtain ⟨v, hv, rv⟩ := r.get hx
      refine ⟨rfl, v, ?_, rv.car fun b o n q => ⟨fun z => n (z.elim id fun ⟨_, z⟩ => nomatch z), q⟩⟩
      have hi : i < vs.length := (List.getElem?_eq_some_iff.mp hv).1
      unfold L2.start
      rw [List.getElem?_append_left (by simpa using hi), List.getElem?_map, hv]
      rfl
/-- THE RULE for a def: its body as a term, its reading on plain data -/
theorem vfn {P : Program} {w : World} {K : PySem.W.Frag} {mg : Str → Option Value} {base : Heap} {W : Wd} {x qual : Str} {st : Stmt} {f : Addr} {fd : FuncData} {N ps : List Str} {k : Nat} {g : List D → (D → Prop) → Prop} (F : Fun K x qual st f fd) (S : FnScope N ps (defScope st))
    (len : ∀ ds P, g ds P → ds.length = ps.length)
    (hb : ∃ wb : WS, (∀ (cdv : Value) (A : Around) (outer : List Env) (s : Shared) (H : Hp) (E : XK), Room k (A.deeper (envOfC qual (defScope st) s.heap.objs.size f cdv)) → VSs (cxOf CX0 P w K mg base N qual (defScope st) f cdv A outer s H E).nox W.pl (defBody st) wb) ∧
      ∀ ds Q, g ds Q → wb (endsD Q) (startD N ds)) : FnOk P w K mg base CX0 (k + 1) f fd ps (spD K W g) := by
  obtain ⟨wb, h1, h2⟩ := hb
  refine F.ok S (fun vs H Q E h => ?_) (fun cdv A outer s H vs Q E hr h => ⟨LS K W.pl wb, h1 cdv A outer s H E hr, ?_⟩)
  · obtain ⟨M, ds, P, m, r, hg, _⟩ := h
    rw [r.len, len ds P hg]
  · obtain ⟨M, ds, P, m, r, hg, k⟩ := h
    have hl : ds.length ≤ N.length := by
      have q := congrArg List.length S.pre
      rw [List.length_take] at q
      rw [len ds P hg]
      omega
    refine ⟨M, H, fun _ => none, startD N ds, endsD P, sat_start (W := W.pl) ⟨m.wm, m.live, m.wi, m.nb, m.nx⟩ r hl (fun _ z => z.elim) (fun _ _ _ z => by cases z), h2 ds P hg, fun ds' oa' σ' H' hn S' => ?_, fun d v H' hd e i r' => k d v H' hd e i r', fun _ _ _ _ z => z.elim, fun _ _ _ _ z => z.elim⟩
    exact k .non .non H' hn S'.ext S'.wi rep_non
end VL

set_option Elab.async false
set_option linter.all false
set_option maxRecDepth 100000
set_option maxHeartbeats 2000000
/-! VD: loops and comprehensions over plain data. -/
namespace VL
open PySem PySem.Spec PyProof.Rows L2

abbrev WI := List Sl → (List D → Prop) → Prop
def ItOk (K : PySem.W.Frag) (W : Wd) (M : Addr → Prop) (H1 : Hp) (J : It) (items : List D) : Prop := ∀ M2 H2, Car M M2 H1 H2 → MOk W M2 H2 →
  (∀ i, i < items.length → J.go i H2) ∧ (∀ i, items.length ≤ i → i ≤ items.length → J.stop i H2) ∧ ∀ i d x H3, items[i]? = some d → J.yld i H2 x H3 → Full H2 H3 ∧ Rep K M2 H3 d x
def LI (K : PySem.W.Frag) (W : Wd) (w : WI) : TI := fun σ H R => ∃ M0 H0 oa ds P, Sat K W M0 H0 oa H σ ds ∧ w ds P ∧ ∀ items J H', P items → items.length ≤ sizeLine → Ext W H H' → W.I H' → ItOk K W (Mx M0 oa) H' J items → R J H'
abbrev VI (X : Cx) (W : Wd) (tg iter : Expr) (w : WI) : Prop := PI X tg iter (LI X.K W w)
section
variable {X : Cx} {tg e : Expr}
theorem pi_imp {iter : Expr} {t t' : TI} (h : PI X tg iter t) (f : ∀ σ H R, t' σ H R → t σ H R) : PI X tg iter t' := ⟨fun pins s σ H R I hw => h.run pins s σ H R I (f σ H R hw)⟩
/-- a list, a tuple, a text that is walked; its length is told -/
def iAny (K : PySem.W.Frag) (tl : TE) : TI := fun σ H R => tl σ H fun x H1 => (∃ a xs, x = .ref a ∧ SqL K H1 a xs ∧ (xs.length ≤ sizeLine → R (Itl K a) H1)) ∨ (∃ a xs, x = .ref a ∧ SqT K H1 a xs ∧ (xs.length ≤ sizeLine → R (Itt K a) H1)) ∨ ∃ z, x = .str z ∧ R (Its z) H1
theorem pi_any {tl : TE} (hl : PE X e tl) : PI X tg e (iAny X.K tl) := by
  refine ⟨fun pins s σ H R I h => ?_⟩
  refine thn (hl.run pins s σ H _ I h) fun v s1 ⟨x, H1, I1, r1, q1⟩ => ?_
  rcases q1 with ⟨a, xs, e, hq, q⟩ | ⟨a, xs, e, hq, q⟩ | ⟨x, ex, q⟩
  · subst e
    cases r1
    obtain ⟨its, rv, p, hz⟩ := I1.list hq
    refine wpAny_pyIter_list p.isList ?_
    refine ⟨s1.heap.objs.size, [s1.heap.objs.size], _, _, H1, rfl, I1.kept (t' := s1.toks) fun b o e => Heap.get?_push_of_some _ e, turn_list a _, ⟨_, Heap.get?_push_size _ rfl, rfl, rfl⟩, fun b hb => ?_, q hz⟩
    have e : b = s1.heap.objs.size := by simpa using hb
    subst e
    exact I1.fpOk (Nat.le_refl _) (I1.hok.fresh (Nat.le_refl _))
  · subst e
    cases r1
    obtain ⟨its, rv, p, hz⟩ := I1.tuple hq
    refine wpAny_pyIter_tuple (show s1.heap.IsTuple a its.toArray from p) ?_
    refine ⟨s1.heap.objs.size, [s1.heap.objs.size], _, _, H1, rfl, I1.kept (t' := s1.toks) fun b o e => Heap.get?_push_of_some _ e, turn_tuple a _, ⟨_, Heap.get?_push_size _ rfl, rfl, rfl⟩, fun b hb => ?_, q hz⟩
    have e : b = s1.heap.objs.size := by simpa using hb
    subst e
    exact I1.fpOk (Nat.le_refl _) (I1.hok.fresh (Nat.le_refl _))
  · subst ex
    obtain ⟨t, rfl⟩ := r1
    cases ha : x.cps.all (· < 128)
    · exact wpAny_pyIter_wide ha (pi_one (tk := s1.toks) I1 _ (turn_str _ x t "str_iterator" (.inr rfl)) ⟨_, Heap.get?_push_size _ rfl, rfl, rfl⟩ q)
    · exact wpAny_pyIter_ascii ha (pi_one (tk := s1.toks) I1 _ (turn_str _ x t "str_ascii_iterator" (.inl rfl)) ⟨_, Heap.get?_push_size _ rfl, rfl, rfl⟩ q)
end
section
variable {K : PySem.W.Frag} {W : Wd} {M : Addr → Prop} {H1 : Hp}
theorem get_lt {α : Type} {xs : List α} {i : Nat} (h : i < xs.length) : ∃ x, xs[i]? = some x := ⟨xs[i], by simp [h]⟩
theorem itok_l {a : Addr} {xs : List V} {ds : List D} (t : LstM K M H1 a xs) (r : Reps K M H1 ds xs) (u : ∀ H ys, SqL K H a xs → SqL K H a ys → ys = xs) : ItOk K W M H1 (Itl K a) ds := fun M2 H2 c m => by
  have t2 := (t.car c).sq
  refine ⟨fun i hi => ?_, fun i hi _ => ⟨xs, t2, by rw [r.len]; exact hi⟩, fun i d x H3 hd hy => ?_⟩
  · obtain ⟨x, hx⟩ := get_lt (xs := xs) (i := i) (by rw [r.len]; exact hi)
    exact ⟨xs, x, t2, hx⟩
  · obtain ⟨e, hy⟩ := hy
    subst e
    obtain ⟨v, hv, rv⟩ := r.get hd
    have := hy xs t2
    rw [hv] at this
    cases this
    exact ⟨Full.refl _, rv.car c⟩
theorem itok_t {a : Addr} {xs : List V} {ds : List D} (t : TupM K M H1 a xs) (r : Reps K M H1 ds xs) : ItOk K W M H1 (Itt K a) ds := fun M2 H2 c m => by
  have t2 := (t.car c).sq
  refine ⟨fun i hi => ?_, fun i hi _ => ⟨xs, t2, by rw [r.len]; exact hi⟩, fun i d x H3 hd hy => ?_⟩
  · obtain ⟨x, hx⟩ := get_lt (xs := xs) (i := i) (by rw [r.len]; exact hi)
    exact ⟨xs, x, t2, hx⟩
  · obtain ⟨e, hy⟩ := hy
    subst e
    obtain ⟨v, hv, rv⟩ := r.get hd
    have := hy xs t2
    rw [hv] at this
    cases this
    exact ⟨Full.refl _, rv.car c⟩
def sgns (z : Str) : List D := z.cps.toList.map fun c => D.str ⟨#[c]⟩
theorem itok_s {z : Str} : ItOk K W M H1 (Its z) (sgns z) := fun M2 H2 c' m => by
  have hl : (sgns z).length = z.cps.size := by simp [sgns]
  refine ⟨fun i hi => by rw [hl] at hi; exact hi, fun i hi _ => by rw [hl] at hi; exact hi, fun i d x H3 hd hy => ?_⟩
  obtain ⟨e, c, hc, ex⟩ := hy
  subst e ex
  unfold sgns at hd
  rw [List.getElem?_map] at hd
  have : z.cps.toList[i]? = some c := by simpa using hc
  rw [this] at hd
  cases hd
  exact ⟨Full.refl _, rep_str⟩
/-- what is walked: the items of a list, a tuple, the signs of a text -/
def itsD : D → (List D → Prop) → Prop
  | .tup xs, P => P xs
  | .lst xs, P => P xs
  | .str z, P => z.length ≤ sizeLine ∧ P (sgns z)
  | _, _ => False
def wIts (w : WE) : WI := fun ds P => w ds fun d => itsD d P
theorem vi_its {X : Cx} {tg e : Expr} {w : WE} (h : VE X W e w) : VI X W tg e (wIts w) := by
  refine pi_imp (pi_any h) fun σ H R h => ?_
  obtain ⟨M0, H0, oa, ds, P, S, hw, k⟩ := h
  refine ⟨M0, H0, oa, ds, _, S, hw, fun d v H1 hd e1 i1 r1 => ?_⟩
  cases d with
  | tup xs =>
    obtain ⟨a, vs, rfl, t, r⟩ := r1.tup
    exact .inr (.inl ⟨a, vs, rfl, t.sq, fun hz => k xs _ H1 hd (by rw [← r.len]; exact hz) e1 i1 (itok_t t r)⟩)
  | lst xs =>
    obtain ⟨a, vs, rfl, t, r⟩ := r1.lst
    refine .inl ⟨a, vs, rfl, t.sq, fun hz => k xs _ H1 hd (by rw [← r.len]; exact hz) e1 i1 ?_⟩
    intro M2 H2 c m
    have t2 := (t.car c).sq
    refine ⟨fun i hi => ?_, fun i hi _ => ⟨vs, t2, by rw [r.len]; exact hi⟩, fun i d x H3 hd hy => ?_⟩
    · obtain ⟨x, hx⟩ := get_lt (xs := vs) (i := i) (by rw [r.len]; exact hi)
      exact ⟨vs, x, t2, hx⟩
    · obtain ⟨e, hy⟩ := hy
      subst e
      obtain ⟨v, hv, rv⟩ := r.get hd
      have := hy vs t2
      rw [hv] at this
      cases this
      exact ⟨Full.refl _, rv.car c⟩
  | str z => exact .inr (.inr ⟨z, r1.str, k _ _ H1 hd.2 (by simpa [sgns, Str.length] using hd.1) e1 i1 itok_s⟩)
  | _ => exact hd.elim
/-- range(n), range(a, b) -/
def rngD (lo : Int) (n : Nat) : List D := (List.range n).map fun (i : Nat) => D.int (lo + (i : Int))
theorem itok_r {lo : Int} {n : Nat} : ItOk K W M H1 (Itr lo n) (rngD lo n) := fun M2 H2 c m => by
  have hl : (rngD lo n).length = n := by simp [rngD]
  refine ⟨fun i hi => by rw [hl] at hi; exact hi, fun i hi _ => by rw [hl] at hi; exact hi, fun i d x H3 hd hy => ?_⟩
  obtain ⟨e, ex⟩ := hy
  subst e ex
  unfold rngD at hd
  rw [List.getElem?_map] at hd
  cases q : (List.range n)[i]? with
  | none => rw [q] at hd; cases hd
  | some j =>
    rw [q] at hd
    have hj := (List.getElem?_eq_some_iff.mp q)
    obtain ⟨_, hj⟩ := hj
    rw [List.getElem_range] at hj
    subst hj
    cases hd
    exact ⟨Full.refl _, rep_int⟩
def rangeD : List D → (List D → Prop) → Prop
  | [.int j], P => j ≤ 1000000 ∧ P (rngD 0 j.toNat)
  | [.int i, .int j], P => -1000000 ≤ i ∧ j ≤ 1000000 ∧ P (rngD i (j - i).toNat)
  | _, _ => False
def wRng (l : WL) : WI := fun ds P => l ds fun xs => rangeD xs P
def rng1 : List D → (List D → Prop) → Prop
  | [.int j], P => -1000000 ≤ j ∧ j ≤ 1000000 ∧ P (rngD 0 j.toNat)
  | _, _ => False
def wRng1 (w : WE) : WI := fun ds P => w ds fun x => rng1 [x] P
theorem vi_range1 {X : Cx} {tg a : Expr} {w : WE} {p pos : Pos} (hg : Gl X "range") (hm : X.mg "range" = none) (ha : VE X W a w) (hs : starEach [a] X.env = [(false, eval a X.env)] := by rfl) (hs1 : starEach [a] X.env = (false, eval a X.env) :: starEach [] X.env := by rfl) : VI X W tg (.Call (.Name "range" p) [a] [] pos) (wRng1 w) := by
  refine pi_imp (pi_range1 hg hm (pa_cons ha pa_nil hs1) hs) fun σ H R h => ?_
  obtain ⟨M0, H0, oa, ds, P, S, hw, k⟩ := h
  refine ⟨M0, H0, oa, ds, _, S, hw, fun d v H1 hd e1 i1 r1 => ?_⟩
  cases d <;> first | exact hd.elim | skip
  rename_i j
  obtain ⟨h0, h1, hd⟩ := hd
  have e := r1.int
  subst e
  refine ⟨j, rfl, by omega, by omega, k _ _ H1 hd ?_ e1 i1 itok_r⟩
  rw [show (rngD 0 j.toNat).length = j.toNat by simp [rngD], sizeLine_eq]
  omega
/-- zip of two lists or of two tuples -/
def zipsD (xs ys : List D) : List D := (xs.zip ys).map fun p => D.tup [p.1, p.2]
theorem zips_get {xs ys : List D} {i : Nat} {d : D} (h : (zipsD xs ys)[i]? = some d) : ∃ x y, xs[i]? = some x ∧ ys[i]? = some y ∧ d = .tup [x, y] := by
  unfold zipsD at h
  rw [List.getElem?_map] at h
  cases q : (xs.zip ys)[i]? with
  | none => rw [q] at h; cases h
  | some p =>
    rw [q] at h
    cases h
    obtain ⟨x, y⟩ := p
    rw [List.getElem?_zip_eq_some] at q
    exact ⟨x, y, q.1, q.2, rfl⟩
theorem zips_len (xs ys : List D) : (zipsD xs ys).length = min xs.length ys.length := by simp [zipsD]
theorem itok_zl {a b : Addr} {xs ys : List V} {ds es : List D} (t : LstM K M H1 a xs) (r : Reps K M H1 ds xs) (t' : LstM K M H1 b ys) (r' : Reps K M H1 es ys) : ItOk K W M H1 (Itz K a b) (zipsD ds es) := fun M2 H2 c m => by
  have u1 := (t.car c).sq
  have u2 := (t'.car c).sq
  refine ⟨fun i hi => ?_, fun i hi _ => ⟨xs, ys, u1, u2, ?_⟩, fun i d x H3 hd hy => ?_⟩
  · rw [zips_len] at hi
    obtain ⟨x, hx⟩ := get_lt (xs := xs) (i := i) (by rw [r.len]; omega)
    obtain ⟨y, hy⟩ := get_lt (xs := ys) (i := i) (by rw [r'.len]; omega)
    exact ⟨xs, ys, x, y, u1, u2, hx, hy⟩
  · rw [zips_len] at hi
    rw [r.len, r'.len]
    omega
  · obtain ⟨T, x', y', rfl, hT, rfl, g1, g2⟩ := hy
    obtain ⟨dx, dy, h1, h2, rfl⟩ := zips_get hd
    obtain ⟨v1, hv1, rv1⟩ := r.get h1
    obtain ⟨v2, hv2, rv2⟩ := r'.get h2
    have q1 := g1 xs u1
    have q2 := g2 ys u2
    rw [hv1] at q1
    rw [hv2] at q2
    cases q1
    cases q2
    exact ⟨Full.new hT, m.newT hT (reps_cons (rv1.car c) (reps_cons (rv2.car c) reps_nil))⟩
theorem itok_zt {a b : Addr} {xs ys : List V} {ds es : List D} (t : TupM K M H1 a xs) (r : Reps K M H1 ds xs) (t' : TupM K M H1 b ys) (r' : Reps K M H1 es ys) : ItOk K W M H1 (RZ.ItzT K a b) (zipsD ds es) := fun M2 H2 c m => by
  have u1 := (t.car c).sq
  have u2 := (t'.car c).sq
  refine ⟨fun i hi => ?_, fun i hi _ => ⟨xs, ys, u1, u2, ?_⟩, fun i d x H3 hd hy => ?_⟩
  · rw [zips_len] at hi
    obtain ⟨x, hx⟩ := get_lt (xs := xs) (i := i) (by rw [r.len]; omega)
    obtain ⟨y, hy⟩ := get_lt (xs := ys) (i := i) (by rw [r'.len]; omega)
    exact ⟨xs, ys, x, y, u1, u2, hx, hy⟩
  · rw [zips_len] at hi
    rw [r.len, r'.len]
    omega
  · obtain ⟨T, x', y', rfl, hT, rfl, g1, g2⟩ := hy
    obtain ⟨dx, dy, h1, h2, rfl⟩ := zips_get hd
    obtain ⟨v1, hv1, rv1⟩ := r.get h1
    obtain ⟨v2, hv2, rv2⟩ := r'.get h2
    have q1 := g1 xs u1
    have q2 := g2 ys u2
    rw [hv1] at q1
    rw [hv2] at q2
    cases q1
    cases q2
    exact ⟨Full.new hT, m.newT hT (reps_cons (rv1.car c) (reps_cons (rv2.car c) reps_nil))⟩
def zipD : D → D → (List D → Prop) → Prop
  | .lst xs, .lst ys, P => xs.length ≤ 1000000 ∧ P (zipsD xs ys)
  | .tup xs, .tup ys, P => xs.length ≤ 1000000 ∧ P (zipsD xs ys)
  | _, _, _ => False
def wZip (wa wb : WE) : WI := fun ds P => wa ds fun x => wb ds fun y => zipD x y P
theorem vi_zip {X : Cx} {e e2 : Expr} {wa wb : WE} {p pos tpos : Pos} {elts : List Expr} {kk : Nat} (hg : Gl X "zip") (hm : X.mg "zip" = none) (ha : VE X W e wa) (hb : VE X W e2 wb)
    (hs : starEach [e, e2] X.env = (false, eval e X.env) :: starEach [e2] X.env := by rfl) (hpl : (backTo pos (starEach [e2] X.env)).any (·.1) = false := by rfl) (hs2 : starEach [e2] X.env = (false, eval e2 X.env) :: starEach [] X.env := by rfl) :
    VI X W (.Tuple elts kk tpos) (.Call (.Name "zip" p) [e, e2] [] pos) (wZip wa wb) := by
  refine pi_imp (RZ.pi_zipA hg hm (pa_cons ha (pa_cons hb pa_nil hs2) hs) hs hpl) fun σ H R h => ?_
  obtain ⟨M0, H0, oa, ds, P, S, hw, k⟩ := h
  refine ⟨M0, H0, oa, ds, _, S, hw, fun x v H1 hx e1 i1 r1 => ?_⟩
  have S1 := S.step e1 i1
  refine ⟨M0, H0, oa, ds, _, S1, hx, fun y u H2 hy e2 i2 r2 => ?_⟩
  have r1' := r1.ext S1.mok e2
  cases x with
  | lst xs =>
    cases y with
    | lst ys =>
      obtain ⟨a, vs, rfl, t, q⟩ := r1'.lst
      obtain ⟨b, us, rfl, t', q'⟩ := r2.lst
      exact ⟨a, b, vs, us, rfl, .inl ⟨t.sq, t'.sq, k _ _ H2 hy.2 (by rw [zips_len, sizeLine_eq]; have := hy.1; omega) (e1.trans e2) i2 (itok_zl t q t' q')⟩⟩
    | _ => exact hy.elim
  | tup xs =>
    cases y with
    | tup ys =>
      obtain ⟨a, vs, rfl, t, q⟩ := r1'.tup
      obtain ⟨b, us, rfl, t', q'⟩ := r2.tup
      exact ⟨a, b, vs, us, rfl, .inr ⟨t.sq, t'.sq, k _ _ H2 hy.2 (by rw [zips_len, sizeLine_eq]; have := hy.1; omega) (e1.trans e2) i2 (itok_zt t q t' q')⟩⟩
    | _ => exact hy.elim
  | _ => exact hy.elim
end

/-! ### targets -/
abbrev WG := D → List Sl → (List Sl → Prop) → Prop
def LG (K : PySem.W.Frag) (W : Wd) (vs : List Nat) (w : WG) : TG := fun v σ H Q => ∃ M0 H0 oa ds d P, Sat K W M0 H0 oa H σ ds ∧ Rep K (Mx M0 oa) H d v ∧ w d ds P ∧
  ∀ ds' oa' σ', P ds' → Sat K W M0 H0 oa' H σ' ds' → wipe σ' vs = wipe σ vs → (∀ j a, oa' j = some a → oa j = some a) → (∀ j, j ∉ vs → oa' j = oa j) → Q σ' H
abbrev VG (X : Cx) (W : Wd) (vs : List Nat) (tg : Expr) (w : WG) : Prop := PG X tg (LG X.K W vs w)
theorem wipe_get (σ : L2.St) (i : Nat) : ∀ vs : List Nat, (wipe σ vs)[i]? = if i ∈ vs then (if i < σ.length then some none else none) else σ[i]?
  | [] => by simp [wipe]
  | v :: vs => by
    unfold wipe
    have ih := wipe_get σ i vs
    by_cases e : v = i
    · subst e
      by_cases hl : v < σ.length
      · rw [List.getElem?_set_self (by rw [wipe_length]; exact hl)]
        simp [hl]
      · rw [List.getElem?_eq_none (by simp [wipe_length]; omega)]
        simp [hl]
    · rw [List.getElem?_set_ne e, ih]
      have : (i ∈ v :: vs) ↔ i ∈ vs := by simp [Ne.symm e]
      simp only [this]
theorem wipe_wipe (σ : L2.St) (vs : List Nat) : wipe (wipe σ vs) vs = wipe σ vs := by
  apply List.ext_getElem?
  intro j
  rw [wipe_get, wipe_get, wipe_length]
  by_cases hj : j ∈ vs
  · simp [hj]
  · simp [hj]
theorem wipe_set {σ : L2.St} {i : Nat} {v : Option V} {vs : List Nat} (h : i ∈ vs) : wipe (σ.set i v) vs = wipe σ vs := by
  apply List.ext_getElem?
  intro j
  rw [wipe_get, wipe_get]
  by_cases hj : j ∈ vs
  · simp [hj]
  · have : i ≠ j := fun e => hj (e ▸ h)
    simp [hj, List.getElem?_set_ne this]
section
variable {X : Cx} {W : Wd} {pos : Pos} {vs : List Nat}
theorem pg_imp {tg : Expr} {t t' : TG} (h : PG X tg t) (f : ∀ v σ H Q, t' v σ H Q → t v σ H Q) : PG X tg t' := ⟨fun pins s σ H v u Q I r hw => h.run pins s σ H v u Q I r (f v σ H Q hw)⟩
theorem pgs_imp {tg : List Expr} {t t' : TGs} (h : PGs X tg t) (f : ∀ v σ H Q, t' v σ H Q → t v σ H Q) : PGs X tg t' := ⟨fun pins s σ H v u Q I r hw => h.run pins s σ H v u Q I r (f v σ H Q hw)⟩
def wgName (i : Nat) : WG := fun d ds P => P (ds.set i (.d d))
theorem vg_name (i : Nat) {x : Str} (hN : X.N.Nodup) (hv : i ∈ vs) (hi : X.N[i]? = some x := by rfl) (hx : Loc X.env.scope x := by first | exact Or.inl rfl | exact Or.inr rfl) (hf : X.fn x = true ∨ X.env.scope.names.lookup x = some .local := by first | exact .inl rfl | exact .inr rfl | assumption) :
    VG X W vs (.Name x pos) (wgName i) := by
  refine pg_imp (pg_name hN hi hx hf) fun v σ H Q h => ?_
  obtain ⟨M0, H0, oa, ds, d, P, S, r, hw, k⟩ := h
  refine k _ _ _ hw (S.set r) (wipe_set hv) (fun j a z => (oaDel_some z).2) fun j hj => ?_
  unfold oaDel
  rw [if_neg (fun e => hj (by rw [e]; exact hv))]
abbrev WGs := List D → List Sl → (List Sl → Prop) → Prop
def LGs (K : PySem.W.Frag) (W : Wd) (vs : List Nat) (w : WGs) : TGs := fun us σ H Q => ∃ M0 H0 oa ds xs P, Sat K W M0 H0 oa H σ ds ∧ Reps K (Mx M0 oa) H xs us ∧ w xs ds P ∧
  ∀ ds' oa' σ', P ds' → Sat K W M0 H0 oa' H σ' ds' → wipe σ' vs = wipe σ vs → (∀ j a, oa' j = some a → oa j = some a) → (∀ j, j ∉ vs → oa' j = oa j) → Q σ' H
def wgNil : WGs := fun xs ds P => match xs with
  | [] => P ds
  | _ => False
def wgCons (w : WG) (u : WGs) : WGs := fun xs ds P => match xs with
  | x :: r => w x ds fun ds' => u r ds' P
  | _ => False
theorem vgs_nil : PGs X [] (LGs X.K W vs wgNil) := pgs_imp pgs_nil fun us σ H Q ⟨M0, H0, oa, ds, xs, P, S, r, hw, k⟩ => by
  cases xs with
  | nil => exact ⟨r.inv0, k ds oa σ hw S rfl (fun _ _ h => h) fun _ _ => rfl⟩
  | cons x xs => exact hw.elim
theorem mx_le {M0 : Addr → Prop} {oa oa' : Nat → Option Addr} (h : ∀ j a, oa' j = some a → oa j = some a) {H : Hp} : Car (Mx M0 oa) (Mx M0 oa') H H := fun b o n q => ⟨fun z => n (z.elim .inl fun ⟨j, z⟩ => .inr ⟨j, h j b z⟩), q⟩
theorem vgs_cons {e : Expr} {es : List Expr} {w : WG} {u : WGs} (h1 : VG X W vs e w) (h2 : PGs X es (LGs X.K W vs u)) (hs : (assignEach (e :: es) X.env).map (·.2) = assign e X.env :: (assignEach es X.env).map (·.2) := by rfl) :
    PGs X (e :: es) (LGs X.K W vs (wgCons w u)) := by
  refine pgs_imp (pgs_cons h1 h2 hs) fun us σ H Q h => ?_
  obtain ⟨M0, H0, oa, ds, xs, P, S, r, hw, k⟩ := h
  cases xs with
  | nil => exact hw.elim
  | cons x xs =>
    obtain ⟨v, vr, rfl, r1, r2⟩ := r.inv
    refine ⟨v, vr, rfl, M0, H0, oa, ds, x, _, S, r1, hw, fun ds' oa' σ' hp S' hwi hsub hout => ?_⟩
    exact ⟨M0, H0, oa', ds', xs, P, S', r2.car (mx_le hsub), hp, fun ds2 oa2 σ2 hq S2 hw2 hs2 ho2 => k ds2 oa2 σ2 hq S2 (hw2.trans hwi) (fun j a z => hsub j a (hs2 j a z)) fun j hj => (ho2 j hj).trans (hout j hj)⟩
/-- (a, b, ..): a tuple of that length -/
def wgTup (n : Nat) (u : WGs) : WG := fun d ds P => match d with
  | .tup xs => xs.length = n ∧ u xs ds P
  | .lst xs => xs.length = n ∧ u xs ds P
  | _ => False
theorem PG.or' {tg : Expr} {t t' : TG} (h : PG X tg t) (h' : PG X tg t') : PG X tg (fun v σ H Q => t v σ H Q ∨ t' v σ H Q) := ⟨fun pins s σ H v u Q I r hw => hw.elim (h.run pins s σ H v u Q I r) (h'.run pins s σ H v u Q I r)⟩
theorem vg_tup {es : List Expr} {k : Nat} {u : WGs} {n : Nat} (hc : X.calm = true) (h : PGs X es (LGs X.K W vs u)) (hn : (assignEach es X.env).length = n := by rfl) (hst : (assignEach es X.env).findIdx? (·.1) = none := by rfl) : VG X W vs (.Tuple es k pos) (wgTup n u) := by
  refine pg_imp (PG.or' (pg_tup hc h hn hst) (pg_unl hc h hn hst)) fun v σ H Q h => ?_
  obtain ⟨M0, H0, oa, ds, d, P, S, r, hw, kk⟩ := h
  cases d <;> first | exact hw.elim | skip
  · rename_i xs
    obtain ⟨a, ys, rfl, t, r2⟩ := r.tup
    exact .inl ⟨a, ys, rfl, t.sq, by rw [r2.len]; exact hw.1, M0, H0, oa, ds, xs, P, S, r2, hw.2, kk⟩
  · rename_i xs
    obtain ⟨a, ys, rfl, t, r2⟩ := r.lst
    exact .inr ⟨a, ys, rfl, t.sq, by rw [r2.len]; exact hw.1, M0, H0, oa, ds, xs, P, S, r2, hw.2, kk⟩
/-- target = e, the target not a single name -/
def wAsg (w : WE) (g : WG) : WS := fun E ds => w ds fun d => g d ds E.nx
theorem vs_asg {tg e : Expr} {w : WE} {g : WG} (he : VE X W e w) (hg : VG X W vs tg g) (hs : swapsWithSole [tg] e pos.line X.env = pure false := by rfl) (hw : swappedStores [tg] e X.env = pure none := by rfl)
    (h1 : (assignEach [tg] X.env).map (·.2) = [assign tg X.env] := by rfl) : VS X W (.Assign [tg] e pos) (wAsg w g) := by
  refine ps_imp (ps_asg he hg hs hw h1) fun D σ H h => ?_
  obtain ⟨M0, H0, oa, ds, E, S, hw, k1, k2, k3, k4⟩ := h
  refine ⟨M0, H0, oa, ds, _, S, hw, fun d v H1 hd e1 i1 r1 => ?_⟩
  exact ⟨M0, H0, oa, ds, d, _, S.step e1 i1, r1, hd, fun ds' oa' σ' hp S' _ _ _ => k1 ds' oa' σ' H1 hp S'⟩

/-! ### for -/
/-- from here on all that stands (but the lists of the def's own) stays -/
noncomputable def base (oa : Nat → Option Addr) (H : Hp) : Hp := fun b => open Classical in if ∃ i, oa i = some b then none else H b
theorem base_own {oa : Nat → Option Addr} {H : Hp} {b : Addr} (h : ∃ i, oa i = some b) : base oa H b = none := by unfold base; rw [if_pos h]
theorem base_not {oa : Nat → Option Addr} {H : Hp} {b : Addr} (h : ¬ ∃ i, oa i = some b) : base oa H b = H b := by unfold base; rw [if_neg h]
variable {K : PySem.W.Frag} {M0 : Addr → Prop} {H0 H H' : Hp} {oa oa' : Nat → Option Addr} {σ σ' : L2.St} {ds ds' : List Sl}
theorem Sat.ext_base (S : Sat K W M0 H0 oa H σ ds) : Ext W H0 (base oa H) := fun b o n h => by
  rw [base_not (fun ⟨i, z⟩ => by rw [(S.ofr i b z).1] at h; cases h)]
  exact S.ext b o n h
theorem Sat.rebase (S : Sat K W M0 H0 oa H σ ds) : Sat K W M0 (base oa H) oa H σ ds := by
  refine ⟨S.wm, fun a h => ?_, fun b o n h => ?_, S.wi, fun i a h => ⟨base_own ⟨i, h⟩, (S.ofr i a h).2⟩, S.inj, S.len, S.out, S.slot, S.fm, S.fh.trans S.ext_base, fun a h => by rw [base_not (fun ⟨i, z⟩ => S.bl a h (S.ofr i a z).1)]; exact W.liveB _ _ S.wi h, S.nc, fun a φ h => by rw [base_not (fun ⟨i, z⟩ => (S.ofr i a z).2 h)]; exact S.mnx a φ (.inl h)⟩
  · rw [base_not (fun ⟨i, z⟩ => (S.ofr i a z).2 h)]
    exact S.mok.live a (.inl h)
  · by_cases q : ∃ i, oa i = some b
    · rw [base_own q] at h; cases h
    · rw [base_not q] at h; exact h
theorem Sat.unbase (S : Sat K W M0 H0 oa H σ ds) (S' : Sat K W M0 (base oa H) oa' H' σ' ds') : Sat K W M0 H0 oa' H' σ' ds' := by
  refine ⟨S.wm, S.live, S.ext_base.trans S'.ext, S'.wi, fun i a h => ⟨?_, (S'.ofr i a h).2⟩, S'.inj, S'.len, S'.out, S'.slot, S.fm, S.fh, S.bl, S.nc, S.nx⟩
  have q := (S'.ofr i a h).1
  cases e : H0 a with
  | none => rfl
  | some o =>
    have nA := S'.own_nA h
    rw [S.ext_base a o nA e] at q
    cases q
theorem Sat.car_base (S : Sat K W M0 H0 oa H σ ds) (S' : Sat K W M0 (base oa H) oa' H' σ' ds') : Car (Mx M0 oa) (Mx M0 oa') H H' := fun b o n h => by
  have nA : ¬ W.A b := fun z => n (.inl (S.wm b z))
  have hb : base oa H b = some o := by rw [base_not (fun ⟨i, z⟩ => n (.inr ⟨i, z⟩))]; exact h
  refine ⟨fun z => ?_, S'.ext b o nA hb⟩
  rcases z with z | ⟨i, z⟩
  · exact n (.inl z)
  · rw [(S'.ofr i b z).1] at hb; cases hb
def wFor (wi : WI) (g : WG) (b : WS) : WS := fun E ds => wi ds fun items => ∃ Iv : Nat → List Sl → Prop, Iv 0 ds ∧
  (∀ i d ds, items[i]? = some d → Iv i ds → g d ds fun ds1 => b { E with nx := Iv (i + 1), ct := Iv (i + 1), bk := E.nx } ds1) ∧ ∀ ds, Iv items.length ds → E.nx ds
theorem vs_for {tg iter : Expr} {body : List Stmt} {wi : WI} {g : WG} {b : WS} (hp : PassesOwn (model X.prog X.w) X.A X.env X.xe) (hc : X.calm = true) (hi : VI X W tg iter wi) (hg : VG X W vs tg g) (hb : VSs X W body b)
    (hs : ∀ x, foldedSetIterable iter X.env x = pure x := by intro _; rfl) : VS X W (.For tg iter body [] pos) (wFor wi g b) := by
  refine ps_imp (ps_for hp hc hi hg hb hs) fun D σ H h => ?_
  obtain ⟨M0, H0, oa, ds, E, S, hw, k1, k2, k3, k4⟩ := h
  refine ⟨M0, H0, oa, ds, _, S, hw, fun items J H1 ⟨Iv, h0, turn, hd⟩ hz e1 i1 ok => ?_⟩
  have S1 := S.step e1 i1
  refine ⟨fun i m σ H => m = items.length - i ∧ i ≤ items.length ∧ ∃ oa' ds, Iv i ds ∧ Sat X.K W M0 (base oa H1) oa' H σ ds, ⟨items.length, by simp, Nat.zero_le _, oa, ds, h0, S1.rebase⟩, ?_⟩
  rintro i m σ2 H2 ⟨rfl, hi, oa2, ds2, iv, S2⟩
  obtain ⟨g1, g2, g3⟩ := ok (Mx M0 oa2) H2 (S1.car_base S2) S2.mok
  by_cases hlt : i < items.length
  · refine .inr ⟨g1 i hlt, fun σ H => ∃ oa' ds, Iv (i + 1) ds ∧ Sat X.K W M0 (base oa H1) oa' H σ ds, fun σ' H' h => ⟨_, ?_, rfl, hlt, h⟩, fun x H3 hy => ?_⟩
    · omega
    obtain ⟨f, r⟩ := g3 i items[i] x H3 (by simp [hlt]) hy
    refine ⟨M0, base oa H1, oa2, ds2, items[i], _, S2.full f, r, turn i _ ds2 (by simp [hlt]) iv, fun ds3 oa3 σ3 hp S3 _ _ _ => ?_⟩
    refine ⟨M0, base oa H1, oa3, ds3, _, S3, hp, ?_, ?_, ?_, ?_⟩
    · intro ds' oa' σ' H' hn S'
      exact ⟨oa', ds', hn, S'⟩
    · intro d v H' hr e i r'
      exact k2 d v H' hr (S1.ext_base.trans e) i r'
    · intro ds' oa' σ' H' hn S'
      exact k1 _ _ _ _ hn (S1.unbase S')
    · intro ds' oa' σ' H' hn S'
      exact ⟨oa', ds', hn, S'⟩
  · have e : i = items.length := by omega
    subst e
    exact .inl ⟨g2 _ (Nat.le_refl _) (Nat.le_refl _), k1 _ _ _ _ (hd ds2 iv) (S1.unbase S2)⟩

/-! ### comprehensions -/
def wipeD (ds : List Sl) (vs : List Nat) : List Sl := (List.range ds.length).map fun i => if i ∈ vs then .un else ds.getD i .un
def noMl (ds : List Sl) (vs : List Nat) : Bool := vs.all fun i => match ds.getD i .un with
  | .ml _ => false
  | .md _ _ => false
  | .mi _ _ _ _ => false
  | _ => true
theorem wipeD_get {i : Nat} {s : Sl} (h : (wipeD ds vs)[i]? = some s) : (i ∈ vs ∧ s = .un) ∨ (i ∉ vs ∧ ds[i]? = some s) := by
  unfold wipeD at h
  rw [List.getElem?_map] at h
  cases q : (List.range ds.length)[i]? with
  | none => rw [q] at h; cases h
  | some j =>
    rw [q] at h
    obtain ⟨hl, hj⟩ := List.getElem?_eq_some_iff.mp q
    rw [List.getElem_range] at hj
    subst hj
    simp at hl
    have h : (if i ∈ vs then Sl.un else ds.getD i .un) = s := Option.some.inj h
    by_cases e : i ∈ vs
    · rw [if_pos e] at h; exact .inl ⟨e, h.symm⟩
    · rw [if_neg e] at h
      refine .inr ⟨e, ?_⟩
      rw [List.getD_eq_getElem?_getD] at h
      simp [hl] at h ⊢
      exact h
/-- the state of a comprehension's block: its own names unset, the new list at D kept apart -/
theorem Sat.blk (S : Sat K W M0 H0 oa H σ ds) {Dl : Addr} (nm : noMl ds vs = true) (hD : H Dl = none) {acc : List V} {H2 : Hp} (c : ∀ b o, ¬ W.A b → H b = some o → H2 b = some o) (wi : W.I H2) (hD2 : H2 Dl = some (.lst acc)) :
    Sat K W (fun a => M0 a ∨ a = Dl) (base oa H2) oa H2 (wipe σ vs) (wipeD ds vs) := by
  have S2 := S.step c wi
  have nC : ¬ W.C Dl := fun z => W.liveB _ _ S.wi (W.cb _ z) hD
  have hv : ∀ i ∈ vs, oa i = none := fun i hi => by
    cases q : oa i with
    | none => rfl
    | some a =>
      have hl : i < ds.length := Nat.lt_of_not_le fun z => by rw [S.out i z] at q; cases q
      have hs := S.slot i ds[i] (by simp [hl])
      have n1 := List.all_eq_true.mp nm i hi
      have hg : ds.getD i .un = ds[i] := by simp [List.getD_eq_getElem?_getD, hl]
      rw [hg] at n1
      cases e : ds[i] with
      | un => rw [e] at hs; rw [← q]; exact hs
      | d x => rw [e] at hs; rw [← q]; exact hs.1
      | ml l => rw [e] at n1; cases n1
      | md ks l => rw [e] at n1; cases n1
      | mi b C ks l => rw [e] at n1; cases n1
  have nD : ∀ i a, oa i = some a → a ≠ Dl := fun i a h z => by
    obtain ⟨xs, q⟩ := S.ownLive h
    rw [z, hD] at q; cases q
  have cr : Car (Mx M0 oa) (Mx (fun a => M0 a ∨ a = Dl) oa) H H2 := fun b o n h => by
    refine ⟨fun z => ?_, c b o (fun z => n (.inl (S.wm b z))) h⟩
    rcases z with (z | z) | z
    · exact n (.inl z)
    · rw [z, hD] at h; cases h
    · exact n (.inr z)
  refine ⟨fun a h => .inl (S.wm a h), fun a h => ?_, fun b o n h => ?_, wi, fun i a h => ⟨base_own ⟨i, h⟩, fun z => z.elim (S.ofr i a h).2 (nD i a h)⟩, S.inj, by simp [wipeD, S.len, wipe_length], fun i h => S.out i (by simpa [wipeD] using h), fun i s h => ?_, fun a h => .inl (S.fm a h), S.fh.trans S2.ext_base, fun a h => by rw [base_not (fun ⟨i, z⟩ => S.bl a h (S.ofr i a z).1)]; exact W.liveB _ _ wi h, fun a h hC => h.elim (fun h => S.nc a h hC) fun z => nC (by rw [← z]; exact hC), fun a φ h => by
    rw [base_not (fun ⟨i, z⟩ => h.elim (S.ofr i a z).2 (nD i a z))]
    rcases h with h | h
    · exact S2.mnx a φ (.inl h)
    · rw [h, hD2]; intro z; cases z⟩
  · rw [base_not (fun ⟨i, z⟩ => h.elim (S.ofr i a z).2 (nD i a z))]
    rcases h with h | h
    · exact S2.mok.live a (.inl h)
    · rw [h, hD2]; intro z; cases z
  · by_cases q : ∃ i, oa i = some b
    · rw [base_own q] at h; cases h
    · rw [base_not q] at h; exact h
  · rcases wipeD_get h with ⟨h1, rfl⟩ | ⟨h1, h2⟩
    · exact hv i h1
    · rw [wipe_get, if_neg h1]
      exact (S.slot i s h2).car cr fun a xs q z => c a _ (S.own_nA q) z
def wLc (wi : WI) (g : WG) (t : WT) (w : WE) (vs : List Nat) : WE := fun ds P => noMl ds vs = true ∧ wi ds fun items => ∃ Iv : Nat → List D → Prop, Iv 0 [] ∧
  (∀ i d acc, items[i]? = some d → Iv i acc → g d (wipeD ds vs) fun ds1 => t ds1 fun b => if b = true then w ds1 fun y => Iv (i + 1) (acc ++ [y]) else Iv (i + 1) acc) ∧ ∀ acc, Iv items.length acc → P (.lst acc)
/-- a comprehension whose list is nobody else's -/
def wLcO (wi : WI) (g : WG) (t : WT) (w : WE) (vs : List Nat) : WL := fun ds P => noMl ds vs = true ∧ wi ds fun items => ∃ Iv : Nat → List D → Prop, Iv 0 [] ∧
  (∀ i d acc, items[i]? = some d → Iv i acc → g d (wipeD ds vs) fun ds1 => t ds1 fun b => if b = true then w ds1 fun y => Iv (i + 1) (acc ++ [y]) else Iv (i + 1) acc) ∧ ∀ acc, Iv items.length acc → P acc
def LEo (K : PySem.W.Frag) (W : Wd) (w : WL) : TE := fun σ H Q => ∃ M0 H0 oa ds P, Sat K W M0 H0 oa H σ ds ∧ w ds P ∧
  ∀ acc us Dl H', P acc → H Dl = none → Ext W H H' → W.I H' → H' Dl = some (.lst us) → Reps K (Mx (fun a => M0 a ∨ a = Dl) oa) H' acc us → Q (.ref Dl) H'
theorem le_lco {wi : WI} {g : WG} {t : WT} {w : WE} {Q : VK} (h : LEo K W (wLcO wi g t w vs) σ H Q) : tLc (LI K W wi) (LG K W vs g) (LT K W t) (LE K W w) vs σ H Q := by
  obtain ⟨M0, H0, oa, ds, P, S, ⟨nm, hw⟩, k⟩ := h
  refine ⟨M0, H0, oa, ds, _, S, hw, fun items J H1 ⟨Iv, h0, turn, hd⟩ hz e1 i1 ok => fun Dl hD => ?_⟩
  have S1 := S.step e1 i1
  have nA : ¬ W.A Dl := fun z => W.live _ _ i1 z hD
  have nB : ¬ W.B Dl := fun z => W.liveB _ _ i1 z hD
  have hMD : ¬ Mx M0 oa Dl := S1.mok.fresh hD
  -- what holds at turn i
  let Wv : Nat → Nat → Hp → Prop := fun i m H => m = items.length - i ∧ i ≤ items.length ∧ (∀ b o, ¬ W.A b → H1 b = some o → H b = some o) ∧ W.I H ∧ ∃ acc us, H Dl = some (.lst us) ∧ acc.length ≤ i ∧ Iv i acc ∧ Reps K (Mx (fun a => M0 a ∨ a = Dl) oa) H acc us
  refine ⟨Wv, ⟨items.length, by simp, Nat.zero_le _, (Full.new hD).ext, W.keep _ _ i1 (Full.new hD), [], [], upd_same, Nat.le_refl _, h0, reps_nil⟩, ?_⟩
  rintro i m H2 ⟨rfl, hi, c2, wi2, acc, us, hD2, hl, iv, ra⟩
  have S2 := S1.blk (vs := vs) nm hD c2 wi2 hD2
  have cr : Car (Mx M0 oa) (Mx (fun a => M0 a ∨ a = Dl) oa) H1 H2 := fun b o n h => by
    refine ⟨fun z => ?_, c2 b o (fun z => n (.inl (S.wm b z))) h⟩
    rcases z with (z | z) | z
    · exact n (.inl z)
    · rw [z, hD] at h; cases h
    · exact n (.inr z)
  obtain ⟨g1, g2, g3⟩ := ok (Mx (fun a => M0 a ∨ a = Dl) oa) H2 cr S2.mok
  by_cases hlt : i < items.length
  · refine .inr ⟨g1 i hlt, fun H => Wv (i + 1) (items.length - (i + 1)) H, fun H' h => ⟨_, by omega, h⟩, fun x H3 hy => ?_⟩
    obtain ⟨f, r⟩ := g3 i items[i] x H3 (by simp [hlt]) hy
    have S3 := S2.full f
    refine ⟨_, _, oa, _, items[i], _, S3, r, turn i _ acc (by simp [hlt]) iv, fun ds4 oa4 σ4 hp S4 hwp hsub hout => ⟨hwp.trans (wipe_wipe σ vs), ?_⟩⟩
    have hv : ∀ i ∈ vs, oa i = none := fun j hj => by
      have q := S2.slot
      cases e : oa j with
      | none => rfl
      | some a =>
        have hl : j < ds.length := Nat.lt_of_not_le fun z => by rw [S.out j z] at e; cases e
        have hs := S.slot j ds[j] (by simp [hl])
        have n1 := List.all_eq_true.mp nm j hj
        have hg : ds.getD j .un = ds[j] := by simp [List.getD_eq_getElem?_getD, hl]
        rw [hg] at n1
        cases e2 : ds[j] with
        | un => rw [e2] at hs; rw [← e]; exact hs
        | d x => rw [e2] at hs; rw [← e]; exact hs.1
        | ml l => rw [e2] at n1; cases n1
        | md ks l => rw [e2] at n1; cases n1
        | mi b C ks l => rw [e2] at n1; cases n1
    have hoa : oa4 = oa := by
      funext j
      by_cases hj : j ∈ vs
      · rw [hv j hj]
        cases e : oa4 j with
        | none => rfl
        | some a =>
          have z := hsub j a e
          rw [hv j hj] at z
          cases z
      · exact hout j hj
    subst hoa
    refine ⟨_, _, oa4, ds4, _, S4, hp, fun b H5 hb e5 i5 => ?_⟩
    have S5 := S4.step e5 i5
    have hD5 : H5 Dl = some (.lst us) := e5 Dl _ nA (f Dl _ hD2)
    have c5 : ∀ b o, ¬ W.A b → H1 b = some o → H5 b = some o := fun b o n h => e5 b o n (f b o (c2 b o n h))
    have ra5 := (ra.ext S2.mok f.ext).ext S3.mok e5
    cases b with
    | true =>
      refine ⟨_, _, oa4, ds4, _, S5, hb, fun y v H6 hy6 e6 i6 r6 => ?_⟩
      have hD6 : H6 Dl = some (.lst us) := e6 Dl _ nA hD5
      have hus : us.length = acc.length := ra.len
      refine ⟨us, hD6, by omega, rfl, hlt, fun b o n h => ?_, W.stay _ _ i6 (fun b hb => upd_ne (fun z => nA (by rw [← z]; exact hb))) (fun b φ e => (upd_ne (fun z => by rw [z, hD6] at e; cases e)).trans e) (fun b o hB e => (upd_ne (fun z => nB (by rw [← z]; exact hB))).trans e), acc ++ [y], us ++ [v], upd_same, by simp; omega, hy6, ?_⟩
      · have hb : b ≠ Dl := ne_of_none h hD
        rw [upd_ne hb]
        exact e6 b o n (c5 b o n h)
      · refine ((ra5.ext S5.mok e6).app (reps_cons r6 reps_nil)).car fun b o n h => ⟨n, ?_⟩
        rw [upd_ne (fun z => n (.inl (.inr z)))]
        exact h
    | false => exact ⟨rfl, hlt, c5, i5, acc, us, hD5, by omega, hb, ra5⟩
  · have e : i = items.length := by omega
    subst e
    have hn : H Dl = none := by
      cases q : H Dl with
      | none => rfl
      | some o => rw [e1 Dl o nA q] at hD; cases hD
    refine .inl ⟨g2 _ (Nat.le_refl _) (Nat.le_refl _), k acc us Dl H2 (hd acc iv) hn (e1.trans c2) wi2 hD2 ra⟩
theorem le_lc {wi : WI} {g : WG} {t : WT} {w : WE} {Q : VK} (h : LE K W (wLc wi g t w vs) σ H Q) : tLc (LI K W wi) (LG K W vs g) (LT K W t) (LE K W w) vs σ H Q := by
  obtain ⟨M0, H0, oa, ds, P, S, hw, k⟩ := h
  refine le_lco ⟨M0, H0, oa, ds, fun acc => P (.lst acc), S, hw, fun acc us Dl H' hp hn e i hD r => ?_⟩
  have hMD : ¬ Mx M0 oa Dl := S.mok.fresh hn
  exact k _ _ H' hp e i (rep_lst (.inl ⟨hMD, .inl hD⟩) (r.car fun b o n h => ⟨fun z => n (z.elim (fun z => .inl (.inl z)) .inr), h⟩))
def wYes : WT := fun _ P => P true
theorem le_yes {Q : Bool → Hp → Prop} (h : LT K W wYes σ H Q) : tYes σ H Q := by
  obtain ⟨M0, H0, oa, ds, P, S, hw, k⟩ := h
  exact k true H hw (Ext.refl H) S.wi
abbrev VTs (X : Cx) (W : Wd) (ifs : List Expr) (t : WT) : Prop := PTs X ifs (LT X.K W t)
theorem vts_nil : VTs X W [] wYes := ⟨fun pins s σ H Q I hw => pts_nil.run pins s σ H Q I (le_yes hw)⟩
theorem vts_one {c : Expr} {t : WT} (h : VT X W c t) : VTs X W [c] t := pts_one h
theorem ve_lc {elt tg iter : Expr} {ifs : List Expr} {scope : Scope} {own : List (Str × Nat)} {wi : WI} {g : WG} {t : WT} {w : WE} (hc : X.calm = true) (hN : X.N.Nodup) (hi : VI X W tg iter wi) (ok : BlkOk X.N X.env.scope scope own)
    (hg : ∀ (s : Shared) (H : Hp) (C : Addr) (cl : List (Str × Addr)) (fp : List Addr), VG (X.blk s H scope (compEnvC scope cl C X.env) fp) W (own.map (·.2)) tg g) (ht : ∀ (s : Shared) (H : Hp) (C : Addr) (cl : List (Str × Addr)) (fp : List Addr), VTs (X.blk s H scope (compEnvC scope cl C X.env) fp) W ifs t)
    (he : ∀ (s : Shared) (H : Hp) (C : Addr) (cl : List (Str × Addr)) (fp : List Addr), VE (X.blk s H scope (compEnvC scope cl C X.env) fp) W elt w) (hs : ∀ x, foldedSetIterable iter X.env x = pure x := by intro _; rfl) :
    VE X W (.ListComp elt [⟨tg, iter, ifs, 0⟩] scope pos) (wLc wi g t w (own.map (·.2))) := pe_imp (pe_lc hc hN hi ok hg ht he hs) fun σ H Q => le_lc
theorem vs_setLc (i : Nat) {y : Str} {py : Pos} {elt tg iter : Expr} {ifs : List Expr} {scope : Scope} {own : List (Str × Nat)} {spos : Pos} {wi : WI} {g : WG} {t : WT} {w : WE} (hc : X.calm = true) (hN : X.N.Nodup) (hy : X.N[i]? = some y) (hyl : X.env.scope.names.lookup y = some .local)
    (hsw : swapsWith (.ListComp elt [⟨tg, iter, ifs, 0⟩] scope pos) (some (.Name y py)) spos.line X.env = pure true) (hi : VI X W tg iter wi) (ok : BlkOk X.N X.env.scope scope own)
    (hg : ∀ (s : Shared) (H : Hp) (C : Addr) (cl : List (Str × Addr)) (fp : List Addr), VG (X.blk s H scope (compEnvC scope cl C X.env) fp) W (own.map (·.2)) tg g) (ht : ∀ (s : Shared) (H : Hp) (C : Addr) (cl : List (Str × Addr)) (fp : List Addr), VTs (X.blk s H scope (compEnvC scope cl C X.env) fp) W ifs t)
    (he : ∀ (s : Shared) (H : Hp) (C : Addr) (cl : List (Str × Addr)) (fp : List Addr), VE (X.blk s H scope (compEnvC scope cl C X.env) fp) W elt w) (hs : ∀ x, foldedSetIterable iter X.env x = pure x := by intro _; rfl) :
    VS X W (.Assign [.Name y py] (.ListComp elt [⟨tg, iter, ifs, 0⟩] scope pos) spos) (wSet i (wLc wi g t w (own.map (·.2)))) := by
  refine ps_imp (ps_setLc (wi := LI X.K W wi) (g := LG X.K W (own.map (·.2)) g) (tt := LT X.K W t) (te := LE X.K W w) hc hN hy hyl hsw hi ok hg ht he hs) fun D σ H h => ?_
  obtain ⟨M0, H0, oa, ds, E, S, hw, k1, k2, k3, k4⟩ := h
  exact le_lc ⟨M0, H0, oa, ds, _, S, hw, fun d v H1 hd e1 i1 r1 => k1 _ _ _ _ hd ((S.step e1 i1).set r1)⟩
/-- a list that a def has of its own is put into slot i -/
theorem Sat.takeown {K : PySem.W.Frag} {M0 : Addr → Prop} {H0 H H' : Hp} {oa : Nat → Option Addr} {σ : L2.St} {ds : List Sl} (S : Sat K W M0 H0 oa H σ ds) {i : Nat} (hi : i < ds.length) {p : Addr} (hp : H p = none) (e : Ext W H H') (wi : W.I H') {xs : List D} {vs : List V}
    (ht : H' p = some (.lst vs)) (r : Reps K (Mx (fun a => M0 a ∨ a = p) oa) H' xs vs) : Sat K W M0 H0 (oaPut oa i p) H' (σ.set i (some (.ref p))) (ds.set i (.ml xs)) := by
  have S1 := S.step e wi
  have hm : ¬ Mx M0 oa p := S.mok.fresh hp
  have h0 : H0 p = none := by
    cases q : H0 p with
    | none => rfl
    | some o =>
      have nA : ¬ W.A p := fun z => W.live _ _ S.wi z hp
      rw [S.ext p o nA q] at hp; cases hp
  have c1 : Car (Mx (fun a => M0 a ∨ a = p) oa) (Mx M0 (oaPut oa i p)) H' H' := fun b o n h => ⟨fun z => by
    rcases z with z | ⟨j, z⟩
    · exact n (.inl (.inl z))
    · unfold oaPut at z
      by_cases e : j = i
      · rw [if_pos e] at z; cases z; exact n (.inl (.inr rfl))
      · rw [if_neg e] at z; exact n (.inr ⟨j, z⟩), h⟩
  have cr : Car (Mx M0 oa) (Mx M0 (oaPut oa i p)) H H' := fun b o n h => by
    have hb : b ≠ p := ne_of_none h hp
    refine ⟨fun z => ?_, (S.mok.car e b o n h).2⟩
    rcases z with z | ⟨j, z⟩
    · exact n (.inl z)
    · unfold oaPut at z
      by_cases e : j = i
      · rw [if_pos e] at z; cases z; exact hb rfl
      · rw [if_neg e] at z; exact n (.inr ⟨j, z⟩)
  refine S1.setown hi h0 hm ⟨p, vs, rfl, rfl, ht, r.car c1⟩ fun j s hj hs => ?_
  exact (S.slot j s hs).car cr fun a ob z h => e a ob (S.own_nA z) h
/-- x = [.. for ..]: the list is the def's own -/
theorem vs_setLcO (i : Nat) {y : Str} {py : Pos} {elt tg iter : Expr} {ifs : List Expr} {scope : Scope} {own : List (Str × Nat)} {spos : Pos} {wi : WI} {g : WG} {t : WT} {w : WE} (hc : X.calm = true) (hN : X.N.Nodup) (hy : X.N[i]? = some y) (hyl : X.env.scope.names.lookup y = some .local)
    (hsw : swapsWith (.ListComp elt [⟨tg, iter, ifs, 0⟩] scope pos) (some (.Name y py)) spos.line X.env = pure true) (hi : VI X W tg iter wi) (ok : BlkOk X.N X.env.scope scope own)
    (hg : ∀ (s : Shared) (H : Hp) (C : Addr) (cl : List (Str × Addr)) (fp : List Addr), VG (X.blk s H scope (compEnvC scope cl C X.env) fp) W (own.map (·.2)) tg g) (ht : ∀ (s : Shared) (H : Hp) (C : Addr) (cl : List (Str × Addr)) (fp : List Addr), VTs (X.blk s H scope (compEnvC scope cl C X.env) fp) W ifs t)
    (he : ∀ (s : Shared) (H : Hp) (C : Addr) (cl : List (Str × Addr)) (fp : List Addr), VE (X.blk s H scope (compEnvC scope cl C X.env) fp) W elt w) (hs : ∀ x, foldedSetIterable iter X.env x = pure x := by intro _; rfl) :
    VS X W (.Assign [.Name y py] (.ListComp elt [⟨tg, iter, ifs, 0⟩] scope pos) spos) (fun E ds => i < ds.length ∧ wLcO wi g t w (own.map (·.2)) ds fun acc => E.nx (ds.set i (.ml acc))) := by
  refine ps_imp (ps_setLc (wi := LI X.K W wi) (g := LG X.K W (own.map (·.2)) g) (tt := LT X.K W t) (te := LE X.K W w) hc hN hy hyl hsw hi ok hg ht he hs) fun D σ H h => ?_
  obtain ⟨M0, H0, oa, ds, E, S, ⟨hl, hw⟩, k1, k2, k3, k4⟩ := h
  exact le_lco ⟨M0, H0, oa, ds, _, S, hw, fun acc us Dl H' hp hn e wi' hD r => k1 _ _ _ _ hp (S.takeown hl hn e wi' hD r)⟩
end
end VL

set_option Elab.async false
set_option linter.all false
set_option maxRecDepth 100000
set_option maxHeartbeats 2000000
/-! VE: slices; the built-ins by their names. -/
namespace VL
open PySem PySem.Spec PyProof.Rows L2
theorem bt_len : bootBuiltins "len" = some (.builtin "len") := by decide +kernel
theorem bt_abs : bootBuiltins "abs" = some (.builtin "abs") := by decide +kernel
theorem bt_all : bootBuiltins "all" = some (.builtin "all") := by decide +kernel
theorem bt_any : bootBuiltins "any" = some (.builtin "any") := by decide +kernel
theorem bt_int : bootBuiltins "int" = some (.type "int") := by decide +kernel
theorem bt_str : bootBuiltins "str" = some (.type "str") := by decide +kernel
theorem bt_bool : bootBuiltins "bool" = some (.type "bool") := by decide +kernel
theorem bt_list : bootBuiltins "list" = some (.type "list") := by decide +kernel
theorem bt_tuple : bootBuiltins "tuple" = some (.type "tuple") := by decide +kernel
theorem bt_isinstance : bootBuiltins "isinstance" = some (.builtin "isinstance") := by decide +kernel
theorem bt_sorted : bootBuiltins "sorted" = some (.builtin "sorted") := by decide +kernel

abbrev WO := List Sl → (Option Int → Prop) → Prop
def LO (K : PySem.W.Frag) (W : Wd) (w : WO) : TO := fun σ H Q => ∃ M0 H0 oa ds P, Sat K W M0 H0 oa H σ ds ∧ w ds P ∧ ∀ b H', P b → Ext W H H' → W.I H' → Q b H'
abbrev VO (X : Cx) (W : Wd) (e : Option Expr) (w : WO) : Prop := PO X e (LO X.K W w)
section
variable {X : Cx} {W : Wd} {e : Expr} {lo hi : Option Expr} {pos p2 : Pos}
theorem po_imp {t t' : TO} (h : PO X lo t) (f : ∀ σ H Q, t' σ H Q → t σ H Q) : PO X lo t' := ⟨fun pins s σ H Q I hw => h.run pins s σ H Q I (f σ H Q hw)⟩
def wNoP : WO := fun _ P => P none
def asInt : D → (Int → Prop) → Prop
  | .int i, P => P i
  | _, _ => False
def wP (w : WE) : WO := fun ds P => w ds fun d => asInt d fun i => P (some i)
theorem vo_none : VO X W none wNoP := po_imp po_none fun σ H Q ⟨M0, H0, oa, ds, P, S, hw, k⟩ => k none H hw (Ext.refl H) S.wi
theorem vo_some {w : WE} (h : VE X W e w) : VO X W (some e) (wP w) := by
  refine po_imp (po_some h) fun σ H Q h => ?_
  obtain ⟨M0, H0, oa, ds, P, S, hw, k⟩ := h
  refine ⟨M0, H0, oa, ds, _, S, hw, fun d v H1 hd e1 i1 r1 => ?_⟩
  cases d <;> first | exact hd.elim | skip
  exact ⟨_, r1.int, k _ H1 hd e1 i1⟩
def cutD (xs : List D) (lo hi : Option Int) : List D := (xs.drop (HT.sIx xs.length 0 lo)).take (HT.sIx xs.length xs.length hi - HT.sIx xs.length 0 lo)
theorem cut_rep {K : PySem.W.Frag} {M : Addr → Prop} {H : Hp} {xs : List D} {vs : List V} (r : Reps K M H xs vs) (lo hi : Option Int) : Reps K M H (cutD xs lo hi) (cutV vs lo hi) := by
  unfold cutD cutV
  rw [r.len]
  exact (r.drop _).take _
def slcD (lo hi : Option Int) : D → (D → Prop) → Prop
  | .lst xs, P => P (.lst (cutD xs lo hi))
  | .tup xs, P => P (.tup (cutD xs lo hi))
  | .str z, P => z.length ≤ sizeLine ∧ P (.str (cutS z lo hi))
  | _, _ => False
def wSlc (w : WE) (l h : WO) : WE := fun ds P => w ds fun x => l ds fun a => h ds fun b => slcD a b x P
def rSlAny (K : PySem.W.Frag) : V → Option Int → Option Int → Hp → VK → Prop := fun x lo hi H Q => (rSlL K x lo hi H Q ∨ rSlA K x lo hi H Q) ∨ rSlS x lo hi H Q
theorem sl_any : SlR X (rSlAny X.K) := (sl_list.or sl_tupA).or sl_str
theorem ve_slice {w : WE} {l h : WO} (he : VE X W e w) (hl : VO X W lo l) (hu : VO X W hi h) : VE X W (.Subscript e (.Slice lo hi none p2) pos) (wSlc w l h) := by
  refine pe_imp (pe_slice sl_any he hl hu) fun σ H Q h => ?_
  obtain ⟨M0, H0, oa, ds, P, S, hw, k⟩ := h
  refine ⟨M0, H0, oa, ds, _, S, hw, fun d v H1 hd e1 i1 r1 => ?_⟩
  have S1 := S.step e1 i1
  refine ⟨M0, H0, oa, ds, _, S1, hd, fun a H2 ha e2 i2 => ?_⟩
  have S2 := S1.step e2 i2
  refine ⟨M0, H0, oa, ds, _, S2, ha, fun b H3 hb e3 i3 => ?_⟩
  have S3 := S2.step e3 i3
  have r3 := (r1.ext S1.mok e2).ext S2.mok e3
  have e13 := (e1.trans e2).trans e3
  cases d with
  | lst xs =>
    obtain ⟨p, vs, rfl, t, r⟩ := r3.lst
    exact .inl (.inl ⟨p, vs, rfl, t.sq, fun q hq => k _ _ _ hb (e13.trans (Full.new hq).ext) (W.keep _ _ i3 (Full.new hq)) (S3.mok.newL hq (cut_rep r a b))⟩)
  | tup xs =>
    obtain ⟨p, vs, rfl, t, r⟩ := r3.tup
    refine .inl (.inr ⟨p, vs, rfl, t.sq, fun hw => ?_, fun hw q hq => k _ _ _ hb (e13.trans (Full.new hq).ext) (W.keep _ _ i3 (Full.new hq)) (S3.mok.newT hq (cut_rep r a b))⟩)
    refine k _ _ _ hb e13 i3 (rep_tup t ?_)
    have e : cutD xs a b = xs := by
      unfold cutD
      rw [← r.len, hw.1, hw.2]
      simp [r.len]
    rw [e]
    exact r
  | str z => exact .inr ⟨z, r3.str, hb.1, k _ _ _ hb.2 e13 i3 rep_str⟩
  | _ => exact hb.elim
end
theorem ve_never {X : Cx} {W : Wd} {e : Expr} : VE X W e (fun _ _ => False) := ⟨fun _ _ _ _ _ _ h => by
  obtain ⟨_, _, _, _, _, _, z, _⟩ := h
  exact z.elim⟩
/-- data of depth at most n, no handle in it, no list too long -/
def okD : Nat → D → Bool
  | _, .non => true
  | _, .bl _ => true
  | _, .int _ => true
  | _, .str _ => true
  | _, .hnd _ => false
  | _, .dic _ _ => false
  | _, .ins _ _ _ => false
  | _, .lam _ _ => false
  | 0, .tup _ => false
  | 0, .lst _ => false
  | n + 1, .tup ds => decide (ds.length ≤ 1000000) && ds.all (okD n)
  | n + 1, .lst ds => decide (ds.length ≤ 1000000) && ds.all (okD n)
theorem okD_nh {n : Nat} {d : D} (h : okD n d = true) : noHnd d = true := by
  cases d <;> first | rfl | (cases n <;> cases h)
theorem zips_same {ds : List D} {d : D} (h : d ∈ zipsD ds ds) : ∃ x ∈ ds, d = .tup [x, x] := by
  obtain ⟨i, hi⟩ := List.getElem?_of_mem h
  obtain ⟨x, y, h1, h2, e⟩ := zips_get hi
  rw [h1] at h2
  cases h2
  exact ⟨x, List.mem_of_getElem? h1, e⟩
theorem all_const {α : Type} (l : List α) : (l.map fun _ => true).all id = true := by
  induction l with
  | nil => rfl
  | cons a l ih => simp [ih]
/-! ### comprehensions by what their element gives -/
inductive All2 (F : D → D → Prop) : List D → List D → Prop
  | nil : All2 F [] []
  | cons {x y : D} {xs ys : List D} : F x y → All2 F xs ys → All2 F (x :: xs) (y :: ys)
theorem All2.app {F : D → D → Prop} {xs ys as bs : List D} (h : All2 F xs ys) (k : All2 F as bs) : All2 F (xs ++ as) (ys ++ bs) := by
  induction h with
  | nil => exact k
  | cons h _ ih => exact .cons h ih
theorem All2.len {F : D → D → Prop} {xs ys : List D} (h : All2 F xs ys) : ys.length = xs.length := by
  induction h with
  | nil => rfl
  | cons _ _ ih => simp [ih]
theorem take_one {α : Type} {l : List α} {i : Nat} {x : α} (h : l[i]? = some x) : l.take (i + 1) = l.take i ++ [x] := by
  rw [List.take_add_one, h]
  rfl
/-- each item gives some y with F -/
theorem lcR {items : List D} {P : List D → Prop} {g : WG} {w : WE} {ds : List Sl} (F : D → D → Prop) (h : ∀ d ∈ items, ∀ R : D → Prop, (∀ y, F d y → R y) → g d ds fun ds1 => w ds1 R) (hP : ∀ ys, All2 F items ys → P ys) :
    ∃ Iv : Nat → List D → Prop, Iv 0 [] ∧ (∀ i d acc, items[i]? = some d → Iv i acc → g d ds fun ds1 => wYes ds1 fun b => if b = true then w ds1 fun y => Iv (i + 1) (acc ++ [y]) else Iv (i + 1) acc) ∧ ∀ acc, Iv items.length acc → P acc := by
  refine ⟨fun i acc => All2 F (items.take i) acc, .nil, fun i d acc hd ha => ?_, fun acc ha => hP acc (by have z : All2 F (items.take items.length) acc := ha; rw [List.take_length] at z; exact z)⟩
  exact h d (List.mem_of_getElem? hd) _ fun y hy => by show All2 F (items.take (i + 1)) (acc ++ [y]); rw [take_one hd]; exact ha.app (.cons hy .nil)
/-- each item gives f of it -/
theorem lcF {items : List D} {P : List D → Prop} {g : WG} {w : WE} {ds : List Sl} (f : D → D) (h : ∀ d ∈ items, ∀ R : D → Prop, R (f d) → g d ds fun ds1 => w ds1 R) (hP : P (items.map f)) :
    ∃ Iv : Nat → List D → Prop, Iv 0 [] ∧ (∀ i d acc, items[i]? = some d → Iv i acc → g d ds fun ds1 => wYes ds1 fun b => if b = true then w ds1 fun y => Iv (i + 1) (acc ++ [y]) else Iv (i + 1) acc) ∧ ∀ acc, Iv items.length acc → P acc := by
  refine ⟨fun i acc => acc = (items.take i).map f, rfl, fun i d acc hd ha => ?_, fun acc ha => by have z : acc = (items.take items.length).map f := ha; rw [z, List.take_length]; exact hP⟩
  subst ha
  refine h d (List.mem_of_getElem? hd) _ ?_
  show (items.take i).map f ++ [f d] = (items.take (i + 1)).map f
  rw [take_one hd, List.map_append]
  rfl
mutual
/-- data with no handle in it -/
def plain : D → Bool
  | .hnd _ => false
  | .dic _ _ => false
  | .ins _ _ _ => false
  | .lam _ _ => false
  | .tup ds => plains ds
  | .lst ds => plains ds
  | _ => true
def plains : List D → Bool
  | [] => true
  | d :: ds => plain d && plains ds
end
theorem plain_nh {d : D} (h : plain d = true) : noHnd d = true := by
  cases d <;> first | rfl | (unfold plain at h; cases h)
theorem plains_all {ds : List D} (h : plains ds = true) : ∀ d ∈ ds, plain d = true := by
  induction ds with
  | nil => intro d hd; cases hd
  | cons a r ih =>
    unfold plains at h
    obtain ⟨h1, h2⟩ := Bool.and_eq_true_iff.mp h
    intro d hd
    cases hd with
    | head => exact h1
    | tail _ hd => exact ih h2 d hd
theorem plain_tup {ds : List D} (h : plain (.tup ds) = true) : plains ds = true := by unfold plain at h; exact h
theorem plain_lst {ds : List D} (h : plain (.lst ds) = true) : plains ds = true := by unfold plain at h; exact h
end VL

set_option Elab.async false
set_option linter.all false
set_option maxRecDepth 100000
set_option maxHeartbeats 2000000
/-! VF: dicts, sums of lists, texts put together, sorting. -/
namespace VL
open PySem PySem.Spec PyProof.Rows L2

/-! ### list + list -/
def rCatL (K : PySem.W.Frag) : R2 := fun x y H Q => ∃ a b xs ys, x = .ref a ∧ y = .ref b ∧ SqL K H a xs ∧ SqL K H b ys ∧ xs.length + ys.length ≤ sizeLine ∧ ∀ p, H p = none → Q (.ref p) (upd H p (.lst (xs ++ ys)))
theorem op_catL {X : Cx} : OpR X (binaryOp .Add) (rCatL X.K) := by
  intro pins s σ H x y v u Q I rx ry h
  obtain ⟨a, b, xs, ys, rfl, rfl, ha, hb, hz, q⟩ := h
  cases rx
  cases ry
  obtain ⟨its, r1, ⟨⟨cls, dd, data, sl⟩, n, ho, hc, hdd, hd⟩, _⟩ := I.list ha
  obtain ⟨its2, r2, ⟨⟨cls2, dd2, data2, sl2⟩, n2, ho2, hc2, hdd2, hd2⟩, _⟩ := I.list hb
  simp only at hc hd hc2 hd2
  subst hc hd hc2 hd2
  have e : its.toArray ++ its2.toArray = (its ++ its2).toArray := by simp
  have l1 := r1.length
  have l2 := r2.length
  refine concat_meets ⟨_, ho, rfl⟩ ⟨_, ho2, rfl⟩ noFill_list_add seq_list_add PySem.F.slot_list_add PySem.F.entry_list_add (PySem.F.args_list_add_2 _ _) (list_addW a b its.toArray its2.toArray n n2 dd dd2 sl sl2 (by rw [List.size_toArray, List.size_toArray]; omega)) ⟨ho, ho2, ?_⟩
  rw [e]
  exact ⟨.ref _, _, I.lnew (t' := s.toks) (r1.append r2) (by rw [List.length_append]; omega), rfl, q _ I.fresh⟩
def addA : D → D → (D → Prop) → Prop
  | .int i, .int j, P => P (.int (i + j))
  | .str i, .str j, P => i.length + j.length ≤ sizeLine ∧ P (.str (i ++ j))
  | .lst i, .lst j, P => i.length + j.length ≤ sizeLine ∧ P (.lst (i ++ j))
  | .tup i, .tup j, P => i.length + j.length ≤ sizeLine ∧ P (.tup (i ++ j))
  | _, _, _ => False
def rAddL (K : PySem.W.Frag) : R2 := fun x y H Q => (rAddA x y H Q ∨ rCatL K x y H Q) ∨ rCatA K x y H Q
section
variable {X : Cx} {W : Wd} {K : PySem.W.Frag}
theorem op_addL : OpR X (binaryOp .Add) (rAddL X.K) := OpR.or (OpR.or op_addA op_catL) op_catA
theorem lift_addL : LiftOp K W addA (rAddL K) := by
  intro M H x y v u P Q m r1 r2 h k
  cases x <;> cases y <;> first
    | exact h.elim
    | (rename_i i j; exact .inl (.inl (.inl ⟨i, j, r1.int, r2.int, k _ _ H h (Ext.refl H) m.wi rep_int⟩)))
    | (rename_i i j; exact .inl (.inl (.inr ⟨i, j, r1.str, r2.str, h.1, k _ _ H h.2 (Ext.refl H) m.wi rep_str⟩)))
    | (obtain ⟨a, xs, rfl, t, q⟩ := r1.lst
       obtain ⟨b, ys, rfl, t', q'⟩ := r2.lst
       exact .inl (.inr ⟨a, b, xs, ys, rfl, rfl, t.sq, t'.sq, by rw [q.len, q'.len]; exact h.1, fun p hp => k _ _ _ h.2 (Full.new hp).ext (W.keep _ _ m.wi (Full.new hp)) (m.newL hp (q.app q'))⟩))
    | (obtain ⟨a, xs, rfl, t, q⟩ := r1.tup
       obtain ⟨b, ys, rfl, t', q'⟩ := r2.tup
       refine .inr ⟨a, b, xs, ys, rfl, rfl, t.sq, t'.sq, by rw [q.len, q'.len]; exact h.1, fun e => ?_, fun _ e => ?_, fun _ _ p hp => k _ _ _ h.2 (Full.new hp).ext (W.keep _ _ m.wi (Full.new hp)) (m.newT hp (q.app q'))⟩
       · refine k _ _ _ h.2 (Ext.refl H) m.wi (rep_tup t' ?_)
         have z := q.app q'
         rw [e] at z
         exact z
       · refine k _ _ _ h.2 (Ext.refl H) m.wi (rep_tup t ?_)
         have z := q.app q'
         rw [e, List.append_nil] at z
         exact z)
theorem ve_addA {a b : Expr} {pos : Pos} {wa wb : WE} (ha : VE X W a wa) (hb : VE X W b wb) : VE X W (.BinOp a .Add b pos) (wOp addA wa wb) := ve_op op_addL lift_addL ha hb

/-! ### dicts with texts as keys -/
def lkp : List Str → List D → Str → Option D
  | k :: ks, x :: xs, s => if k = s then some x else lkp ks xs s
  | _, _, _ => none
abbrev kz (ks : List Str) (us : List V) : List (Key × V) := (ks.map Sum.inr).zip us
theorem lkp_rep {M : Addr → Prop} {H : Hp} {s : Str} : ∀ {ks : List Str} {ds : List D} {us : List V}, Reps K M H ds us → us.length = ks.length →
    (∃ d v, lkp ks ds s = some d ∧ valV (kz ks us) (Sum.inr s) = some v ∧ Rep K M H d v) ∨ (lkp ks ds s = none ∧ valV (kz ks us) (Sum.inr s) = none)
  | [], ds, us, r, l => by
    refine .inr ⟨by cases ds <;> rfl, ?_⟩
    exact valV_nil
  | k :: ks, [], us, r, l => by rw [r.inv0] at l; cases l
  | k :: ks, d :: ds, us, r, l => by
    obtain ⟨v, vs, rfl, h1, h2⟩ := r.inv
    by_cases e : k = s
    · refine .inl ⟨d, v, by unfold lkp; rw [if_pos e], ?_, h1⟩
      exact valV_pos (p := (Sum.inr k, v)) (by rw [e])
    · have n : ¬ (Sum.inr k : Key) = Sum.inr s := fun z => e (Sum.inr.inj z)
      have ek : lkp (k :: ks) (d :: ds) s = lkp ks ds s := by rw [lkp, if_neg e]
      have ev : valV (kz (k :: ks) (v :: vs)) (Sum.inr s) = valV (kz ks vs) (Sum.inr s) := valV_neg (p := (Sum.inr k, v)) n
      rw [ek, ev]
      exact lkp_rep h2 (by simpa using l)
def putKs (ks : List Str) (s : Str) : List Str := if s ∈ ks then ks else ks ++ [s]
def putDs (ks : List Str) (ds : List D) (s : Str) (d : D) : List D := if s ∈ ks then (ks.zip ds).map (fun p => if p.1 = s then d else p.2) else ds ++ [d]
theorem put_map {M : Addr → Prop} {H : Hp} {s : Str} {d : D} {v : V} (rv : Rep K M H d v) : ∀ {ks : List Str} {ds : List D} {us : List V}, Reps K M H ds us → us.length = ks.length →
    ∃ us', us'.length = ks.length ∧ (kz ks us).map (fun kv => if kv.1 = Sum.inr s then (kv.1, v) else kv) = kz ks us' ∧ Reps K M H ((ks.zip ds).map fun p => if p.1 = s then d else p.2) us'
  | [], ds, us, r, l => ⟨[], rfl, rfl, reps_nil⟩
  | k :: ks, [], us, r, l => by rw [r.inv0] at l; cases l
  | k :: ks, x :: ds, us, r, l => by
    obtain ⟨u, vs, rfl, h1, h2⟩ := r.inv
    obtain ⟨us', l', e', r'⟩ := put_map rv h2 (by simpa using l)
    refine ⟨(if k = s then v else u) :: us', by simp [l'], ?_, ?_⟩
    · show (if (Sum.inr k : Key) = Sum.inr s then (Sum.inr k, v) else (Sum.inr k, u)) :: (kz ks vs).map _ = (Sum.inr k, if k = s then v else u) :: kz ks us'
      rw [e']
      by_cases e : k = s
      · rw [if_pos (by rw [e]), if_pos e]
      · rw [if_neg (fun z => e (Sum.inr.inj z)), if_neg e]
    · show Reps K M H ((if k = s then d else x) :: (ks.zip ds).map _) _
      refine reps_cons ?_ r'
      by_cases e : k = s
      · rw [if_pos e, if_pos e]; exact rv
      · rw [if_neg e, if_neg e]; exact h1
theorem kz_any {s : Str} : ∀ {ks : List Str} {us : List V}, us.length = ks.length → ((kz ks us).any fun kv => decide (kv.1 = Sum.inr s)) = decide (s ∈ ks)
  | [], us, _ => rfl
  | k :: ks, [], l => by cases l
  | k :: ks, u :: us, l => by
    have ih := kz_any (s := s) (ks := ks) (us := us) (by simpa using l)
    show (decide ((Sum.inr k : Key) = Sum.inr s) || (kz ks us).any fun kv => decide (kv.1 = Sum.inr s)) = _
    rw [ih]
    by_cases e : k = s
    · simp [e]
    · have n : ¬ (Sum.inr k : Key) = Sum.inr s := fun z => e (Sum.inr.inj z)
      have n2 : ¬ s = k := fun z => e z.symm
      simp [e, n2]
theorem put_rep {M : Addr → Prop} {H : Hp} {s : Str} {d : D} {v : V} {ks : List Str} {ds : List D} {us : List V} (rv : Rep K M H d v) (r : Reps K M H ds us) (l : us.length = ks.length) :
    ∃ us', us'.length = (putKs ks s).length ∧ putK (kz ks us) (Sum.inr s) v = kz (putKs ks s) us' ∧ Reps K M H (putDs ks ds s d) us' := by
  unfold putK putKs putDs
  rw [kz_any l]
  by_cases e : s ∈ ks
  · rw [if_pos (decide_eq_true e), if_pos e, if_pos e]
    exact put_map rv r l
  · simp only [e, decide_false, if_false, Bool.false_eq_true]
    refine ⟨us ++ [v], by simp [l], ?_, r.app (reps_cons rv reps_nil)⟩
    show (ks.map Sum.inr).zip us ++ [(Sum.inr s, v)] = ((ks ++ [s]).map Sum.inr).zip (us ++ [v])
    rw [List.map_append, List.zip_append (by simp [l])]
    rfl
/-- the dict that a slot holds, its own or not -/
def dkS : Sl → (List Str → List D → Prop) → Prop
  | .md ks xs, P => P ks xs
  | .d (.dic ks xs), P => P ks xs
  | _, _ => False
def strS : D → (Str → Prop) → Prop
  | .str s, P => P s
  | _, _ => False
theorem strS_of {d : D} {P : Str → Prop} (h : strS d P) : ∃ s, d = .str s ∧ P s := by
  cases d with
  | str s => exact ⟨s, rfl, h⟩
  | _ => exact h.elim
structure Dk (K : PySem.W.Frag) (W : Wd) (M : Addr → Prop) (H : Hp) (a : Addr) (ks : List Str) (xs : List D) (us : List V) : Prop where
  nA : ¬ W.A a
  len : us.length = ks.length
  at_ : H a = some (.dK (kz ks us))
  r : Reps K M H xs us
theorem Dk.ext {M : Addr → Prop} {H H' : Hp} {a : Addr} {ks : List Str} {xs : List D} {us : List V} (h : Dk K W M H a ks xs us) (m : MOk W M H) (e : Ext W H H') : Dk K W M H' a ks xs us := ⟨h.nA, h.len, e _ _ h.nA h.at_, h.r.ext m e⟩
theorem Sat.dk {M0 : Addr → Prop} {H0 H : Hp} {oa : Nat → Option Addr} {σ : L2.St} {ds : List Sl} (S : Sat K W M0 H0 oa H σ ds) {i : Nat} {P : List Str → List D → Prop} (h : dkS (ds.getD i .un) P) :
    ∃ ks xs a us, P ks xs ∧ σ[i]? = some (some (.ref a)) ∧ Dk K W (Mx M0 oa) H a ks xs us := by
  rw [List.getD_eq_getElem?_getD] at h
  cases e : ds[i]? with
  | none => rw [e] at h; exact h.elim
  | some s =>
    rw [e] at h
    cases s with
    | un => exact h.elim
    | ml l => exact h.elim
    | mi a C ks l => exact h.elim
    | md ks l =>
      obtain ⟨a, us, e1, e2, e3, e4, r⟩ := S.slot i _ e
      exact ⟨ks, l, a, us, h, e2, S.own_nA e1, e3, e4, r⟩
    | d x =>
      cases x with
      | dic ks xs =>
        obtain ⟨_, v, e1, r⟩ := S.slot i _ e
        obtain ⟨a, us, rfl, m, l, t, r2⟩ := r.dic
        exact ⟨ks, xs, a, us, h, e1, fun z => m (.inl (S.wm a z)), l, t, r2⟩
      | _ => exact h.elim
theorem rep_dk {M : Addr → Prop} {H : Hp} {ks : List Str} {xs : List D} {v : V} (m : MOk W M H) (h : Rep K M H (.dic ks xs) v) : ∃ a us, v = .ref a ∧ Dk K W M H a ks xs us := by
  obtain ⟨a, us, rfl, n, l, t, r2⟩ := h.dic
  exact ⟨a, us, rfl, fun z => n (m.wm a z), l, t, r2⟩
theorem dk_get {M : Addr → Prop} {H : Hp} {a : Addr} {ks : List Str} {xs : List D} {us : List V} {s : Str} (h : Dk K W M H a ks xs us) : ∃ o, DGet H a (.str s) o ∧ ((∃ d v, lkp ks xs s = some d ∧ o = some v ∧ Rep K M H d v) ∨ (lkp ks xs s = none ∧ o = none)) := by
  rcases lkp_rep (s := s) h.r h.len with ⟨d, v, e1, e2, r⟩ | ⟨e1, e2⟩
  · exact ⟨some v, by rw [← e2]; exact DGet.k (k := Sum.inr s) h.at_, .inl ⟨d, v, e1, rfl, r⟩⟩
  · exact ⟨none, by rw [← e2]; exact DGet.k (k := Sum.inr s) h.at_, .inr ⟨e1, rfl⟩⟩
section
variable {i : Nat} {x : Str} {k z : Expr} {pos p apos cpos : Pos} {wk wz : WE}
def wDGet (i : Nat) (wk : WE) : WE := fun ds P => dkS (ds.getD i .un) fun ks xs => wk ds fun k => strS k fun s => ∃ d, lkp ks xs s = some d ∧ P d
theorem ve_dget (i : Nat) (hu : X.A.units + 64 < cLine) (hk : VE X W k wk) (hN : X.N[i]? = some x := by rfl) (hv : Vis X.env.scope x := by first | exact Or.inl rfl | exact Or.inr (Or.inl rfl) | exact Or.inr (Or.inr rfl)) (hd : (x == ("__debug__" : Str)) = false := by decide)
    (hcd : (x == ("__classdict__" : Str)) = false := by decide) (hs : NoSl k := by exact fun _ _ => rfl) : VE X W (.Subscript (.Name x p) k pos) (wDGet i wk) := by
  refine pe_imp (L2.pe_dget (by omega) (pe_var hN hv hd hcd) hk hs) fun σ H Q h => ?_
  obtain ⟨M0, H0, oa, ds, P, S, hw, kk⟩ := h
  obtain ⟨ks, xs, a, us, hp, hσ, dk⟩ := S.dk hw
  refine ⟨.ref a, hσ, M0, H0, oa, ds, _, S, hp, fun d v H1 hd e1 i1 r1 => ?_⟩
  obtain ⟨s, rfl, d', hl, hP⟩ := strS_of hd
  have dk1 := dk.ext S.mok e1
  have e := r1.str
  subst e
  obtain ⟨o, g, ⟨d2, v2, h1, rfl, r2⟩ | ⟨h1, _⟩⟩ := dk_get (s := s) dk1
  · rw [hl] at h1
    cases h1
    exact ⟨a, v2, rfl, g, kk _ _ H1 hP e1 i1 r2⟩
  · rw [hl] at h1; cases h1
def wDGet2 (i : Nat) (wk wz : WE) : WE := fun ds P => dkS (ds.getD i .un) fun ks xs => wk ds fun k => strS k fun s => wz ds fun z => P ((lkp ks xs s).getD z)
theorem ve_dget2 (i : Nat) (hu : X.A.units + 64 < cLine) (hk : VE X W k wk) (hz : VE X W z wz) (hN : X.N[i]? = some x := by rfl) (hv : Vis X.env.scope x := by first | exact Or.inl rfl | exact Or.inr (Or.inl rfl) | exact Or.inr (Or.inr rfl)) (hd : (x == ("__debug__" : Str)) = false := by decide)
    (hcd : (x == ("__classdict__" : Str)) = false := by decide) (m : M2 X (.Name x p) "get" apos k z cpos := by exact ⟨rfl, rfl, rfl, rfl⟩) : VE X W (.Call (.Attribute (.Name x p) "get" apos) [k, z] [] cpos) (wDGet2 i wk wz) := by
  refine pe_imp (L2.pe_dget2 (by omega) (pe_var hN hv hd hcd) hk hz m) fun σ H Q h => ?_
  obtain ⟨M0, H0, oa, ds, P, S, hw, kk⟩ := h
  obtain ⟨ks, xs, a, us, hp, hσ, dk⟩ := S.dk hw
  refine ⟨.ref a, hσ, a, rfl, .inl ⟨_, .inl dk.at_⟩, M0, H0, oa, ds, _, S, hp, fun d v H1 hd e1 i1 r1 => ?_⟩
  obtain ⟨s, rfl, hz⟩ := strS_of hd
  have S1 := S.step e1 i1
  refine ⟨M0, H0, oa, ds, _, S1, hz, fun zd zv H2 hzd e2 i2 r2 => ?_⟩
  have dk2 := (dk.ext S.mok e1).ext S1.mok e2
  have e := r1.str
  subst e
  obtain ⟨o, g, ⟨d2, v2, h1, rfl, r3⟩ | ⟨h1, rfl⟩⟩ := dk_get (s := s) dk2
  · rw [h1] at hzd
    exact ⟨_, g, kk _ _ H2 hzd (e1.trans e2) i2 r3⟩
  · rw [h1] at hzd
    exact ⟨_, g, kk _ _ H2 hzd (e1.trans e2) i2 r2⟩
def wSetDic (i : Nat) : WS := fun E ds => i < ds.length ∧ E.nx (ds.set i (.md [] []))
theorem vs_setDic (i : Nat) {pos' lpos : Pos} (hN : X.N.Nodup) (hi : X.N[i]? = some x := by rfl) (hx : Loc X.env.scope x := by first | exact Or.inl rfl | exact Or.inr rfl) (hs : swapsWith (.Dict [] [] lpos) (some (.Name x pos')) pos.line X.env = pure false := by rfl)
    (hf : X.fn x = true ∨ X.env.scope.names.lookup x = some .local := by first | exact .inl rfl | exact .inr rfl | assumption) : VS X W (.Assign [.Name x pos'] (.Dict [] [] lpos) pos) (wSetDic i) := by
  refine ps_imp (ps_set hN hi hx pe_dnewK hs hf) fun D σ H h => ?_
  obtain ⟨M0, H0, oa, ds, E, S, ⟨hl, hn⟩, k1, k2, k3, k4⟩ := h
  exact fun p hp => k1 _ _ _ _ hn (S.newown hl hp fun c => ⟨p, [], rfl, rfl, rfl, upd_same, reps_nil⟩)
def mdS : Sl → (List Str → List D → Prop) → Prop
  | .md ks xs, P => P ks xs
  | _, _ => False
def wDPut (i : Nat) (wk wv : WE) : WS := fun E ds => wv ds fun v => mdS (ds.getD i .un) fun ks xs => wk ds fun k => strS k fun s => ks.length < 1000000 ∧ E.nx (ds.set i (.md (putKs ks s) (putDs ks xs s v)))
theorem vs_dput (i : Nat) {v : Expr} {wv : WE} {pos' : Pos} (hu : X.A.units + 64 < cLine) (hk : VE X W k wk) (hval : VE X W v wv) (hN : X.N[i]? = some x := by rfl) (hv : Vis X.env.scope x := by first | exact Or.inl rfl | exact Or.inr (Or.inl rfl) | exact Or.inr (Or.inr rfl)) (hd : (x == ("__debug__" : Str)) = false := by decide)
    (hcd : (x == ("__classdict__" : Str)) = false := by decide) (hsl : NoSl k := by exact fun _ _ => rfl) (hs : swapsWith v (some (.Subscript (.Name x p) k pos')) pos.line X.env = pure false := by rfl) : VS X W (.Assign [.Subscript (.Name x p) k pos'] v pos) (wDPut i wk wv) := by
  refine ps_imp (L2.ps_dput (by omega) (pe_var hN hv hd hcd) hk hval hs) fun D σ H h => ?_
  obtain ⟨M0, H0, oa, ds, E, S, hw, k1, k2, k3, k4⟩ := h
  refine ⟨M0, H0, oa, ds, _, S, hw, fun dv v1 H1 hd1 e1 i1 r1 => ?_⟩
  have S1 := S.step e1 i1
  obtain ⟨ks, xs, hg, hd2⟩ : ∃ ks xs, ds.getD i .un = .md ks xs ∧ _ := by
    cases q : ds.getD i .un with
    | md ks xs => rw [q] at hd1; exact ⟨ks, xs, rfl, hd1⟩
    | _ => rw [q] at hd1; exact hd1.elim
  have hget : ds[i]? = some (.md ks xs) := by
    rw [List.getD_eq_getElem?_getD] at hg
    cases e : ds[i]? with
    | none => rw [e] at hg; cases hg
    | some s => rw [e] at hg; exact congrArg some hg
  obtain ⟨a, us, o1, o2, o3, o4, o5⟩ := S1.slot i _ hget
  refine ⟨.ref a, o2, M0, H0, oa, ds, _, S1, hd2, fun d v2 H2 hd3 e2 i2 r2 => ?_⟩
  obtain ⟨s, rfl, hl, hn⟩ := strS_of hd3
  have S2 := S1.step e2 i2
  have es := r2.str
  subst es
  obtain ⟨a', us', p1, p2, p3, p4, p5⟩ := S2.slot i _ hget
  rw [o1] at p1
  cases p1
  have l1000 : us'.length < sizeLine := by rw [sizeLine_eq]; omega
  refine ⟨a, _, rfl, DPut.k (k := Sum.inr s) p4 (by show (kz ks us').length < sizeLine; simp [p3]; omega), k1 _ oa _ _ hn ?_⟩
  obtain ⟨us2, q1, q2, q3⟩ := put_rep (s := s) (r1.ext S1.mok e2) p5 p3
  refine S2.mutown (List.getElem?_eq_some_iff.mp hget).1 o1 p2 fun c => ⟨a, us2, rfl, rfl, q1, ?_, q3.car c⟩
  rw [upd_same]
  exact congrArg (fun z => some (HO.dK z)) q2
end
/-! ### dicts as data -/
def rIxD : R2 := fun x y H Q => ∃ a v, x = .ref a ∧ DGet H a y (some v) ∧ Q v H
theorem ix_dic (hu : X.A.units + 64 < cLine) : IxR X rIxD := by
  intro value slice pins s σ H x y v u Q I rx ry h hs
  obtain ⟨a, z, rfl, g, q⟩ := h
  obtain rfl : v = Value.ref a := rx
  exact tail_any (dict_typeIs I g) PySem.F.slot_dict_getitem.lookup (d_getItem (by omega) I g ry fun w' s3 I3 rw' => ⟨z, H, I3, rw', q⟩) hs
def ixA : D → D → (D → Prop) → Prop
  | .tup xs, .int i, P => ∃ d, atI xs i = some d ∧ P d
  | .lst xs, .int i, P => ∃ d, atI xs i = some d ∧ P d
  | .str z, .int i, P => z.length ≤ sizeLine ∧ ∃ c, atI z.cps.toList i = some c ∧ P (.str ⟨#[c]⟩)
  | .dic ks xs, .str s, P => ∃ d, lkp ks xs s = some d ∧ P d
  | _, _, _ => False
theorem lift_ixA : LiftOp K W ixA (fun x y H Q => rIx K x y H Q ∨ rIxD x y H Q) := by
  intro M H x y v u P Q m r1 r2 h k
  cases x with
  | tup xs => cases y with
    | int i => exact .inl (lift_ix (W := W) M H (.tup xs) (.int i) v u P Q m r1 r2 h k)
    | _ => exact h.elim
  | lst xs => cases y with
    | int i => exact .inl (lift_ix (W := W) M H (.lst xs) (.int i) v u P Q m r1 r2 h k)
    | _ => exact h.elim
  | str xs => cases y with
    | int i => exact .inl (lift_ix (W := W) M H (.str xs) (.int i) v u P Q m r1 r2 h k)
    | _ => exact h.elim
  | dic ks xs => cases y with
    | str s =>
      obtain ⟨d, hl, hp⟩ := h
      obtain ⟨a, us, rfl, dk⟩ := rep_dk m r1
      have e := r2.str
      subst e
      obtain ⟨o, g, ⟨d2, v2, h1, rfl, r3⟩ | ⟨h1, _⟩⟩ := dk_get (s := s) dk
      · rw [hl] at h1
        cases h1
        exact .inr ⟨a, v2, rfl, g, k _ _ H hp (Ext.refl H) m.wi r3⟩
      · rw [hl] at h1; cases h1
    | _ => exact h.elim
  | _ => exact h.elim
theorem IxR.or' {r r' : R2} (h : IxR X r) (h' : IxR X r') : IxR X (fun x y H Q => r x y H Q ∨ r' x y H Q) := by
  intro value slice pins s σ H x y v u Q I r1 r2 q hs
  rcases q with q | q
  · exact h value slice pins s σ H x y v u Q I r1 r2 q hs
  · exact h' value slice pins s σ H x y v u Q I r1 r2 q hs
theorem ve_ixA {a b : Expr} {pos : Pos} {wa wb : WE} (hu : X.A.units + 64 < cLine) (ha : VE X W a wa) (hb : VE X W b wb) (hs : PlainIx b := by exact fun _ _ => rfl) : VE X W (.Subscript a b pos) (wOp ixA wa wb) :=
  pe_imp (pe_ix (IxR.or' ix_seq (ix_dic hu)) ha hb hs) (le_op lift_ixA)
/-- k in d, k not in d -/
def rInDic (neg : Bool) : R2 := fun y x H Q => ∃ a o, x = .ref a ∧ DGet H a y o ∧ Q (.bl (if neg then !o.isSome else o.isSome)) H
theorem op_inDic (hu : X.A.units + 64 < cLine) : OpR X (compareOp .In) (rInDic false) := by
  intro pins s σ H y x u v Q I ry rx h
  obtain ⟨a, o, rfl, g, q⟩ := h
  obtain rfl : v = Value.ref a := rx
  exact d_in (by omega) I g ry fun s3 I3 => ⟨.bl o.isSome, H, I3, rfl, q⟩
theorem op_ninDic (hu : X.A.units + 64 < cLine) : OpR X (compareOp .NotIn) (rInDic true) := by
  intro pins s σ H y x u v Q I ry rx h
  obtain ⟨a, o, rfl, g, q⟩ := h
  obtain rfl : v = Value.ref a := rx
  exact d_notIn (by omega) I g ry fun s3 I3 => ⟨.bl (!o.isSome), H, I3, rfl, q⟩
def inDic (neg : Bool) : D → D → (D → Prop) → Prop
  | .str s, .dic ks xs, P => P (.bl (if neg then !(lkp ks xs s).isSome else (lkp ks xs s).isSome))
  | _, _, _ => False
theorem lift_inDic {neg : Bool} : LiftOp K W (inDic neg) (rInDic neg) := by
  intro M H x y v u P Q m r1 r2 h k
  cases x <;> cases y <;> first
    | exact h.elim
    | (rename_i s ks xs
       obtain ⟨a, us, rfl, dk⟩ := rep_dk m r2
       have e := r1.str
       subst e
       obtain ⟨o, g, z⟩ := dk_get (s := s) dk
       have ho : o.isSome = (lkp ks xs s).isSome := by
         rcases z with ⟨d2, v2, h1, rfl, r3⟩ | ⟨h1, rfl⟩
         · rw [h1]; rfl
         · rw [h1]; rfl
       refine ⟨a, o, rfl, g, ?_⟩
       rw [ho]
       exact k _ _ H h (Ext.refl H) m.wi rep_bl)
/-! ### sorting -/
def leS (a b : Str) : Bool := !decide (b.cps.toList < a.cps.toList)
def srt (l : List Str) : List Str := l.mergeSort leS
theorem str_ext {a b : Str} (h : a.cps.toList = b.cps.toList) : a = b := by
  cases a; cases b
  simp at h
  rw [h]
theorem leS_anti {a b : Str} (h1 : leS a b = true) (h2 : leS b a = true) : a = b := by
  unfold leS at h1 h2
  refine str_ext (List.le_antisymm ?_ ?_)
  · simpa using h1
  · simpa using h2
theorem leS_trans (a b c : Str) (h1 : leS a b = true) (h2 : leS b c = true) : leS a c = true := by
  unfold leS at h1 h2 ⊢
  have h1 : a.cps.toList ≤ b.cps.toList := by simpa using h1
  have h2 : b.cps.toList ≤ c.cps.toList := by simpa using h2
  have := List.le_trans h1 h2
  simpa using this
theorem leS_total (a b : Str) : (leS a b || leS b a) = true := by
  unfold leS
  rcases List.le_total a.cps.toList b.cps.toList with h | h
  · have : ¬ b.cps.toList < a.cps.toList := h
    simp [this]
  · have : ¬ a.cps.toList < b.cps.toList := h
    simp [this]
theorem sorted_pw : ∀ {l : List Str} {p : Str}, risingS p l = true → (p :: l).Pairwise (fun a b => leS a b = true)
  | [], p, _ => List.pairwise_singleton ..
  | x :: r, p, h => by
    unfold risingS at h
    obtain ⟨h1, h2⟩ := Bool.and_eq_true_iff.mp h
    have ih := sorted_pw h2
    have hx : leS p x = true := by unfold leS; rw [← lt_meets] at h1; exact h1
    refine List.pairwise_cons.mpr ⟨fun y hy => ?_, ih⟩
    rcases List.mem_cons.mp hy with e | hy
    · rw [e]; exact hx
    · exact leS_trans p x y hx ((List.pairwise_cons.mp ih).1 y hy)
theorem srt_of {ys ks : List Str} (h1 : ys.Perm ks) (h2 : sortedS ys = true) : ys = srt ks := by
  have hp : ys.Pairwise (fun a b => leS a b = true) := by
    cases ys with
    | nil => exact .nil
    | cons x r => exact sorted_pw h2
  have hq : (srt ks).Pairwise (fun a b => leS a b = true) := List.pairwise_mergeSort leS_trans leS_total ks
  exact List.Perm.eq_of_pairwise (fun a b _ _ h1 h2 => leS_anti h1 h2) hp hq (h1.trans (List.mergeSort_perm ks leS).symm)
theorem strs_of : ∀ (ys : List Str), ∀ {M : Addr → Prop} {H : Hp}, Reps K M H (ys.map D.str) (ys.map V.str)
  | [], _, _ => reps_nil
  | _ :: ys, _, _ => reps_cons rep_str (strs_of ys)
def sortD : List D → (D → Prop) → Prop
  | [.dic ks xs], P => xs.length = ks.length → ks.length < 64 ∧ P (.lst ((srt ks).map D.str))
  | [.lst xs], P => ∃ ks : List Str, xs = ks.map D.str ∧ ks.length < 64 ∧ P (.lst ((srt ks).map D.str))
  | _, _ => False
theorem kz_keys {ks : List Str} {us : List V} (l : us.length = ks.length) : (kz ks us).map (·.1) = ks.map Sum.inr := by
  unfold kz
  rw [List.map_fst_zip (by simp [l])]
theorem lift_sorted : LiftCall K W sortD (fun vs H Q => rSortedS K vs H Q ∨ (∃ (a : Addr) (kvs : List (Key × V)) (ks : List Str), vs = [.ref a] ∧ Rd H a (.dK kvs) ∧ kvs.map (·.1) = ks.map Sum.inr ∧ ks.length < 64 ∧
    ∀ ys p, ys.Perm ks → sortedS ys = true → H p = none → Q (.ref p) (upd H p (.lst (ys.map V.str))))) := by
  intro M H xs vs P Q m r h k
  match xs, h with
  | [.dic ks xs], h =>
    obtain ⟨v, rfl, r1⟩ := r.one
    obtain ⟨a, us, rfl, dk⟩ := rep_dk m r1
    obtain ⟨h1, h2⟩ := h (by rw [← dk.r.len, dk.len])
    refine .inr ⟨a, _, ks, rfl, .inl dk.at_, kz_keys dk.len, h1, fun ys p hy hs hp => ?_⟩
    rw [srt_of hy hs]
    exact k _ _ _ h2 (Full.new hp).ext (W.keep _ _ m.wi (Full.new hp)) (m.newL hp (strs_of _))
  | [.lst xs], h =>
    obtain ⟨ks, rfl, h1, h2⟩ := h
    obtain ⟨v, rfl, r1⟩ := r.one
    obtain ⟨a, us, rfl, t, r2⟩ := r1.lst
    have e := r2.strs
    subst e
    refine .inl ⟨a, ks, rfl, t.sq, h1, fun ys p hy hs hp => ?_⟩
    rw [srt_of hy hs]
    exact k _ _ _ h2 (Full.new hp).ext (W.keep _ _ m.wi (Full.new hp)) (m.newL hp (strs_of _))
theorem cr_sortedA (hc : X.calm = true) : CallR X (.builtin "sorted") (fun vs H Q => rSortedS X.K vs H Q ∨ (∃ (a : Addr) (kvs : List (Key × V)) (ks : List Str), vs = [.ref a] ∧ Rd H a (.dK kvs) ∧ kvs.map (·.1) = ks.map Sum.inr ∧ ks.length < 64 ∧
    ∀ ys p, ys.Perm ks → sortedS ys = true → H p = none → Q (.ref p) (upd H p (.lst (ys.map V.str))))) := CallR.or cr_sortedS (call_sortedD hc)
/-- list(d) of a list, a tuple, a dict -/
def listA : List D → (D → Prop) → Prop
  | [.tup xs], P => P (.lst xs)
  | [.lst xs], P => P (.lst xs)
  | [.dic ks xs], P => P (.lst (ks.map D.str))
  | _, _ => False
def rListA (K : PySem.W.Frag) : List V → Hp → VK → Prop := fun xs H Q => (∃ p ys, xs = [.ref p] ∧ (SqL K H p ys ∨ SqT K H p ys) ∧ ∀ l, H l = none → Q (.ref l) (upd H l (.lst ys))) ∨
  (∃ (a : Addr) (kvs : List (Key × V)), xs = [.ref a] ∧ Rd H a (.dK kvs) ∧ ∀ p, H p = none → Q (.ref p) (upd H p (.lst (kvs.map fun kv => kV kv.1))))
theorem cr_listA (hc : X.calm = true) : CallR X (.type "list") (rListA X.K) := CallR.or call_list_of (call_listD hc)
theorem kz_vals {ks : List Str} {us : List V} (l : us.length = ks.length) : ((kz ks us).map fun kv => kV kv.1) = ks.map V.str := by
  have e : ((kz ks us).map fun kv => kV kv.1) = ((kz ks us).map (·.1)).map kV := by rw [List.map_map]; rfl
  rw [e, kz_keys l, List.map_map]
  rfl
theorem lift_listA : LiftCall K W listA (rListA K) := by
  intro M H xs vs P Q m r h k
  match xs, h with
  | [.tup ds], h => exact .inl (lift_list (W := W) M H [.tup ds] vs P Q m r h k)
  | [.lst ds], h => exact .inl (lift_list (W := W) M H [.lst ds] vs P Q m r h k)
  | [.dic ks xs], h =>
    obtain ⟨v, rfl, r1⟩ := r.one
    obtain ⟨a, us, rfl, dk⟩ := rep_dk m r1
    refine .inr ⟨a, _, rfl, .inl dk.at_, fun p hp => ?_⟩
    rw [kz_vals dk.len]
    exact k _ _ _ h (Full.new hp).ext (W.keep _ _ m.wi (Full.new hp)) (m.newL hp (strs_of _))
/-! ### texts -/
def joinD : D → D → (D → Prop) → Prop
  | .str a, .lst xs, P => ∃ ys : List Str, xs = ys.map D.str ∧ (ys.map (·.length)).sum + ys.length * a.length ≤ 16777216 ∧ P (.str (Txt.join a ys))
  | .str a, .tup xs, P => ∃ ys : List Str, xs = ys.map D.str ∧ (ys.map (·.length)).sum + ys.length * a.length ≤ 16777216 ∧ P (.str (Txt.join a ys))
  | _, _, _ => False
def isStr : D → Bool
  | .str _ => true
  | _ => false
def wM1 (f : D → D → (D → Prop) → Prop) (wa wb : WE) : WE := fun ds P => wa ds fun x => isStr x = true ∧ wb ds fun y => f x y P
theorem ve_m1 {o e c : Expr} {wa wb : WE} {f : D → D → (D → Prop) → Prop} {r : V → List V → Hp → VK → Prop} (h : PE X c (tM1 r (LE X.K W wa) (LE X.K W wb))) (hf : LiftOp X.K W f (fun x y H Q => r x [y] H Q)) : VE X W c (wM1 f wa wb) := by
  refine pe_imp h fun σ H Q h => ?_
  obtain ⟨M0, H0, oa, ds, P, S, hw, k⟩ := h
  refine ⟨M0, H0, oa, ds, _, S, hw, fun x v H1 hx e1 i1 r1 => ?_⟩
  have S1 := S.step e1 i1
  obtain ⟨hs, hx⟩ := hx
  refine ⟨?_, M0, H0, oa, ds, _, S1, hx, fun y u H2 hy e2 i2 r2 => ?_⟩
  · cases x <;> first | exact ⟨_, r1.str⟩ | cases hs
  · have S2 := S1.step e2 i2
    exact hf (Mx M0 oa) H2 x y v u P Q S2.mok (r1.ext S1.mok e2) r2 hy fun d z H' hp e i r => k d z H' hp ((e1.trans e2).trans e) i r
theorem lift_join : LiftOp K W joinD (fun x y H Q => ∃ a p, ∃ ys : List Str, x = .str a ∧ [y] = [.ref p] ∧ (SqL K H p (ys.map V.str) ∨ SqT K H p (ys.map V.str)) ∧
      (ys.map (·.length)).sum + ys.length * a.length ≤ 16777216 ∧ Q (.str (Txt.join a ys)) H) := by
  intro M H x y v u P Q m r1 r2 h k
  cases x <;> cases y <;> first
    | exact h.elim
    | (rename_i s ds
       obtain ⟨ys, rfl, h1, h2⟩ := h
       first
         | (obtain ⟨a, us, rfl, t, q⟩ := r2.lst
            have e := q.strs
            subst e
            exact ⟨s, a, ys, r1.str, rfl, .inl t.sq, h1, k _ _ H h2 (Ext.refl H) m.wi rep_str⟩)
         | (obtain ⟨a, us, rfl, t, q⟩ := r2.tup
            have e := q.strs
            subst e
            exact ⟨s, a, ys, r1.str, rfl, .inr t.sq, h1, k _ _ H h2 (Ext.refl H) m.wi rep_str⟩))
theorem ve_join {o e : Expr} {apos pos : Pos} {wa wb : WE} (ho : VE X W o wa) (he : VE X W e wb) (hs : starEach [e] X.env = [(false, eval e X.env)] := by rfl) (hbase : attributeBase o "join" X.env (eval o X.env) = eval o X.env := by rfl) (hline : (apos.endLine == pos.line) = true := by rfl) :
    VE X W (.Call (.Attribute o "join" apos) [e] [] pos) (wM1 joinD wa wb) := ve_m1 (o := o) (e := e) (pe_join ho he hs hbase hline) lift_join
/-- xs[::-1] -/
def revD : D → (D → Prop) → Prop
  | .lst xs, P => P (.lst xs.reverse)
  | _, _ => False
theorem ve_rev {e : Expr} {w : WE} {k : Nat} {p1 p2 p3 pos : Pos} (he : VE X W e w) : VE X W (.Subscript e (.Slice none none (some (.UnaryOp .USub (.Constant (.int 1) k p1) p2)) p3) pos) (fun ds P => w ds fun x => revD x P) := by
  refine pe_imp (pe_revL he) fun σ H Q h => ?_
  obtain ⟨M0, H0, oa, ds, P, S, hw, k⟩ := h
  refine ⟨M0, H0, oa, ds, _, S, hw, fun x v H1 hx e1 i1 r1 => ?_⟩
  cases x with
  | lst xs =>
    obtain ⟨a, us, rfl, t, q⟩ := r1.lst
    exact ⟨a, us, rfl, t.sq, fun p hp => k _ _ _ hx (e1.trans (Full.new hp).ext) (W.keep _ _ i1 (Full.new hp)) ((S.step e1 i1).mok.newL hp q.rev)⟩
  | _ => exact hx.elim
end
end VL

set_option Elab.async false
set_option linter.all false
set_option maxRecDepth 100000
set_option maxHeartbeats 2000000
/-! VG: own lists that are read, stars in displays, defaults and keywords. -/
namespace VL
open PySem PySem.Spec PyProof.Rows L2
section
variable {X : Cx} {W : Wd} {K : PySem.W.Frag} {e : Expr} {pos p : Pos}
/-- a test that reads an own list -/
theorem vt_fz (i : Nat) {t : WT} (h : VT X W e t) : VT X W e (fun ds P => t (fz i ds) P) := pt_imp h fun σ H Q ⟨M0, H0, oa, ds, P, S, hw, k⟩ => by
  obtain ⟨oa', S'⟩ := S.fz i
  exact ⟨M0, H0, oa', _, P, S', hw, k⟩
/-- a flat value out of an own list -/
theorem rep_flat {M M' : Addr → Prop} {H : Hp} {d : D} {v : V} (h : Rep K M H d v) (f : flatD d = true) : Rep K M' H d v := by
  cases d with
  | non => rw [h.non]; exact rep_non
  | bl => rw [h.bl]; exact rep_bl
  | int => rw [h.int]; exact rep_int
  | str => rw [h.str]; exact rep_str
  | _ => cases f
theorem ve_fz (i : Nat) {w : WE} (h : VE X W e w) : VE X W e (fun ds P => w (fz i ds) fun d => flatD d = true ∧ P d) := pe_imp h fun σ H Q ⟨M0, H0, oa, ds, P, S, hw, k⟩ => by
  obtain ⟨oa', S'⟩ := S.fz i
  exact ⟨M0, H0, oa', _, _, S', hw, fun d v H' hp e1 i1 r => k d v H' hp.2 e1 i1 (rep_flat r hp.1)⟩
/-- xs[k] of an own list -/
def lsS : Sl → (List D → Prop) → Prop
  | .ml xs, P => P xs
  | .d (.lst xs), P => P xs
  | _, _ => False
theorem Sat.ls {M0 : Addr → Prop} {H0 H : Hp} {oa : Nat → Option Addr} {σ : L2.St} {ds : List Sl} (S : Sat K W M0 H0 oa H σ ds) {i : Nat} {P : List D → Prop} (h : lsS (ds.getD i .un) P) :
    ∃ l a xs, P l ∧ σ[i]? = some (some (.ref a)) ∧ (∀ H', Ext W H H' → SqL K H' a xs) ∧ Reps K (Mx M0 oa) H l xs := by
  rw [List.getD_eq_getElem?_getD] at h
  cases e : ds[i]? with
  | none => rw [e] at h; exact h.elim
  | some s =>
    rw [e] at h
    cases s with
    | un => exact h.elim
    | md ks l => exact h.elim
    | mi a C ks l => exact h.elim
    | ml l =>
      obtain ⟨a, xs, e1, e2, e3, r⟩ := S.slot i _ e
      exact ⟨l, a, xs, h, e2, fun H' ex => SqL.of (ex a _ (S.own_nA e1) e3), r⟩
    | d x =>
      cases x with
      | lst l =>
        obtain ⟨_, v, e1, r⟩ := S.slot i _ e
        obtain ⟨a, xs, rfl, t, r2⟩ := r.lst
        exact ⟨l, a, xs, h, e1, fun H' ex => (t.car (S.mok.car ex)).sq, r2⟩
      | _ => exact h.elim
def wLIx (i : Nat) (wk : WE) : WE := fun ds P => lsS (ds.getD i .un) fun xs => wk ds fun k => asInt k fun j => ∃ d, atI xs j = some d ∧ P d
theorem ve_lix (i : Nat) {x : Str} {k : Expr} {wk : WE} (hk : VE X W k wk) (hN : X.N[i]? = some x := by rfl) (hv : Vis X.env.scope x := by first | exact Or.inl rfl | exact Or.inr (Or.inl rfl) | exact Or.inr (Or.inr rfl)) (hd : (x == ("__debug__" : Str)) = false := by decide)
    (hcd : (x == ("__classdict__" : Str)) = false := by decide) (hs : PlainIx k := by exact fun _ _ => rfl) : VE X W (.Subscript (.Name x p) k pos) (wLIx i wk) := by
  refine pe_imp (pe_ix ix_seq (pe_var hN hv hd hcd) hk hs) fun σ H Q h => ?_
  obtain ⟨M0, H0, oa, ds, P, S, hw, kk⟩ := h
  obtain ⟨l, a, xs, hp, hσ, hq, r⟩ := S.ls hw
  refine ⟨.ref a, hσ, M0, H0, oa, ds, _, S, hp, fun d v H1 hd e1 i1 r1 => ?_⟩
  cases d <;> first | exact hd.elim | skip
  rename_i j
  obtain ⟨d, h1, h2⟩ := hd
  obtain ⟨z, ez, rz⟩ := atI_rep r h1
  exact .inl ⟨a, xs, j, z, rfl, r1.int, hq H1 e1, ez, kk _ _ H1 h2 e1 i1 (rz.ext S.mok e1)⟩
/-- xs[a:b] of an own list is a new list -/
def wLSlc (i : Nat) (l h : WO) : WE := fun ds P => lsS (ds.getD i .un) fun xs => l ds fun a => h ds fun b => P (.lst (cutD xs a b))
theorem ve_lslc (i : Nat) {x : Str} {lo hi : Option Expr} {p2 : Pos} {l h : WO} (hl : VO X W lo l) (hu : VO X W hi h) (hN : X.N[i]? = some x := by rfl) (hv : Vis X.env.scope x := by first | exact Or.inl rfl | exact Or.inr (Or.inl rfl) | exact Or.inr (Or.inr rfl)) (hd : (x == ("__debug__" : Str)) = false := by decide)
    (hcd : (x == ("__classdict__" : Str)) = false := by decide) : VE X W (.Subscript (.Name x p) (.Slice lo hi none p2) pos) (wLSlc i l h) := by
  refine pe_imp (pe_slice sl_any (pe_var hN hv hd hcd) hl hu) fun σ H Q h => ?_
  obtain ⟨M0, H0, oa, ds, P, S, hw, kk⟩ := h
  obtain ⟨l, a, xs, hp, hσ, hq, r⟩ := S.ls hw
  refine ⟨.ref a, hσ, M0, H0, oa, ds, _, S, hp, fun lo H2 ha e2 i2 => ?_⟩
  have S2 := S.step e2 i2
  refine ⟨M0, H0, oa, ds, _, S2, ha, fun hi H3 hb e3 i3 => ?_⟩
  have S3 := S2.step e3 i3
  have e13 := e2.trans e3
  exact .inl (.inl ⟨a, xs, rfl, hq H3 e13, fun q hqn => kk _ _ _ hb (e13.trans (Full.new hqn).ext) (W.keep _ _ i3 (Full.new hqn)) (S3.mok.newL hqn (cut_rep (r.ext S.mok e13) lo hi))⟩)
/-! ### [*xs, y] -/
def wStar (w : WE) (l : WL) : WL := fun ds P => w ds fun d => seqD d fun xs => l ds fun ys => P (xs ++ ys)
theorem va_star {es : List Expr} {w : WE} {l : WL} {sp : Pos} (he : VE X W e w) (hr : VA X W es l) (hs : starEach (.Starred e sp :: es) X.env = (true, eval e X.env) :: starEach es X.env := by rfl) : VA X W (.Starred e sp :: es) (wStar w l) := by
  refine pa_imp (StX.pa_star he hr hs) fun σ H Q h => ?_
  obtain ⟨M0, H0, oa, ds, P, S, hw, k⟩ := h
  refine ⟨M0, H0, oa, ds, _, S, hw, fun d v H1 hd e1 i1 r1 => ?_⟩
  obtain ⟨xs, a, vs, hp, rfl, hq, rr⟩ := seqD_of hd r1
  have S1 := S.step e1 i1
  exact ⟨a, vs, rfl, hq.symm, M0, H0, oa, ds, _, S1, hp, fun ys us H2 hp2 e2 i2 r2 => k _ _ H2 hp2 (e1.trans e2) i2 ((rr.ext S1.mok e2).app r2)⟩
/-! ### defaults -/
theorem ve_callD {CX : CXT} {k : Nat} {f : Addr} {fd : FuncData} {ps : List Str} {g : List D → (D → Prop) → Prop} {dvs : List V} {dds : List D} {es : List Expr} {x : Str} {l : WL} {E : XK}
    (F : FnOk X.prog X.w X.K X.mg X.base CX k f fd ps (spD X.K W g)) (hr : Room k X.A) (hg : Gl X x) (hm : X.mg x = some (.ref f)) (hk : PySem.W.keepIn X.K (.ref f) = true) (hb : ∃ ds, Vals dvs ds ∧ Binds X.K fd ps ds) (hx : Passes CX X E) (hdd : ∀ M H, Reps X.K M H dds dvs)
    (ha : VA X W (e :: es) l) (hdb : (x == ("__debug__" : Str)) = false := by decide) (he : starEach (e :: es) X.env = (false, eval e X.env) :: starEach es X.env := by rfl) (hpl : (backTo pos (starEach es X.env)).any (·.1) = false := by rfl) :
    VE X W (.Call (.Name x p) (e :: es) [] pos) (wCall (fun xs P => g (xs ++ dds) P) l) := by
  obtain ⟨ds, h1, h2⟩ := hb
  exact ve_call F hr hg hm hk h2 h1 hx hdd ha hdb he hpl
/-- THE RULE for a def with defaults -/
theorem vfnD {P : Program} {w : World} {mg : Str → Option Value} {base : Heap} {x qual : Str} {st : Stmt} {f : Addr} {fd : FuncData} {N ps : List Str} {dvs : List V} {kws : List (Str × V)} {k : Nat} {g : List D → (D → Prop) → Prop}
    (F : FunD K x qual (defArgs st) (defBody st) (defScope st) dvs kws f fd) (S : FnScope N ps (defScope st))
    (len : ∀ ds P, g ds P → ds.length = ps.length)
    (hb : ∃ wb : WS, (∀ (cdv : Value) (A : Around) (outer : List Env) (s : Shared) (H : Hp) (E : XK), Room k (A.deeper (envOfC qual (defScope st) s.heap.objs.size f cdv)) → VSs (cxOf CX0 P w K mg base N qual (defScope st) f cdv A outer s H E).nox W.pl (defBody st) wb) ∧
      ∀ ds Q, g ds Q → wb (endsD Q) (startD N ds)) : FnOk P w K mg base CX0 (k + 1) f fd ps (spD K W g) := by
  obtain ⟨wb, h1, h2⟩ := hb
  refine F.ok S (fun vs H Q E h => ?_) (fun cdv A outer s H vs Q E hr h => ⟨LS K W.pl wb, (h1 cdv A outer s H E hr).nox, ?_⟩)
  · obtain ⟨M, ds, P, m, r, hg, _⟩ := h
    rw [r.len, len ds P hg]
  · obtain ⟨M, ds, P, m, r, hg, k⟩ := h
    have hl : ds.length ≤ N.length := by
      have q := congrArg List.length S.pre
      rw [List.length_take] at q
      rw [len ds P hg]
      omega
    refine ⟨M, H, fun _ => none, startD N ds, endsD P, sat_start (W := W.pl) ⟨m.wm, m.live, m.wi, m.nb, m.nx⟩ r hl (fun _ z => z.elim) (fun _ _ _ z => by cases z), h2 ds P hg, fun ds' oa' σ' H' hn S' => ?_, fun d v H' hd e i r' => k d v H' hd e i r', fun _ _ _ _ z => z.elim, fun _ _ _ _ z => z.elim⟩
    exact k .non .non H' hn S'.ext S'.wi rep_non
/-! ### keywords -/
abbrev VK (X : Cx) (W : Wd) (es : List Keyword) (w : WL) : Prop := PK X es (LA X.K W w)
theorem pk_imp {kws : List Keyword} {t t' : TA} (h : PK X kws t) (f : ∀ σ H Q, t' σ H Q → t σ H Q) : PK X kws t' := ⟨fun pos pins s σ H Q I hw => h.run pos pins s σ H Q I (f σ H Q hw)⟩
theorem vk_one {w : WE} {nm : Option Str} {kpos : Pos} (he : VE X W e w) : VK X W [⟨nm, e, kpos⟩] (fun ds P => w ds fun d => P [d]) := by
  refine pk_imp (pk_cons he pk_nil) fun σ H Q h => ?_
  obtain ⟨M0, H0, oa, ds, P, S, hw, k⟩ := h
  exact ⟨M0, H0, oa, ds, _, S, hw, fun d v H1 hd e1 i1 r1 => k _ _ H1 hd e1 i1 (reps_cons r1 reps_nil)⟩
def wCallK (n m : Nat) (f : List D → (D → Prop) → Prop) (gD : List D → List D → List D) (l lk : WL) : WE := fun ds P => l ds fun xs => lk ds fun zs => xs.length = n ∧ zs.length = m ∧ f (gD xs zs) P
theorem ve_callK {CX : CXT} {k n : Nat} {f : Addr} {fd : FuncData} {ps ks : List Str} {g : List D → (D → Prop) → Prop} {gU : List Value → List Value → List Value} {gV : List V → List V → List V} (gD : List D → List D → List D) {es : List Expr} {kws : List Keyword} {x : Str} {l lk : WL} {E : XK}
    (F : FnOk X.prog X.w X.K X.mg X.base CX k f fd ps (spD X.K W g)) (hr : Room k X.A) (hg : Gl X x) (hm : X.mg x = some (.ref f)) (hk : PySem.W.keepIn X.K (.ref f) = true) (hb : KBn X.K fd ps n ks gU gV) (hx : Passes CX X E)
    (hG : ∀ M H xs zs vs us, Reps X.K M H xs vs → Reps X.K M H zs us → xs.length = n → zs.length = ks.length → Reps X.K M H (gD xs zs) (gV vs us))
    (ha : VA X W (e :: es) l) (hkw : VK X W kws lk) (hall : (backToKw pos (keywordEach kws X.env)).all (·.1.isSome) = true := by rfl) (hks : (backToKw pos (keywordEach kws X.env)).filterMap (·.1) = ks := by rfl)
    (hdb : (x == ("__debug__" : Str)) = false := by decide) (he : starEach (e :: es) X.env = (false, eval e X.env) :: starEach es X.env := by rfl)
    (hpl : ((backTo pos (starEach (e :: es) X.env)).any (·.1) || (backToKw pos (keywordEach kws X.env)).any (·.1.isNone)) = false := by rfl) :
    VE X W (.Call (.Name x p) (e :: es) kws pos) (wCallK n ks.length g gD l lk) := by
  refine pe_imp (pe_callN F hr hg hm hk hb hx ha hkw hall hks hdb he hpl) fun σ H Q h => ?_
  obtain ⟨M0, H0, oa, ds, P, S, hw, kk⟩ := h
  refine ⟨M0, H0, oa, ds, _, S, hw, fun xs vs H1 hx e1 i1 r1 => ?_⟩
  have S1 := S.step e1 i1
  refine ⟨M0, H0, oa, ds, _, S1, hx, fun zs us H2 hx2 e2 i2 r2 => ?_⟩
  obtain ⟨l1, l2, hf⟩ := hx2
  have r1' := r1.ext S1.mok e2
  exact ⟨by rw [r1.len, l1], by rw [r2.len, l2], Mx M0 oa, gD xs zs, P, (S1.step e2 i2).mok, hG _ _ _ _ _ _ r1' r2 l1 l2, hf, fun d v H' hp e i r => kk d v H' hp ((e1.trans e2).trans e) i r⟩
end
/-- every parameter is written, some by keyword -/
theorem _root_.L2.FunD.kall {K : PySem.W.Frag} {x qual : Str} {params : Arguments} {body : List Stmt} {scope : Scope} {kws : List (Str × V)} {f : Addr} {fd : FuncData} {ps : List Str} (F : FunD K x qual params body scope [] kws f fd) (n : Nat) (ks : List Str)
    (h : ∀ (kV doc pm : Value) (an : Option Addr) (cdv ct : Value) (us ws : List Value), us.length = n → ws.length = ks.length → bindArgs (PySem.W.fnOf x qual params body scope .none kV doc pm an cdv ct) ⟨us, ks.zip ws⟩ = pure (ps.zip (us ++ ws))) : KBn K fd ps n ks (fun us ws => us ++ ws) (fun vs zs => vs ++ zs) := by
  obtain ⟨oc, od, dV, kV, doc, pm, an, cdv, ct, osl, rfl, lk, hcd, hD, hK⟩ := F.ex
  rcases hD with ⟨_, rfl⟩ | ⟨e, _⟩
  · exact ⟨fun s us ws X l1 l2 => .of_eq (h kV doc pm an cdv ct us ws l1 l2), fun r1 r2 => r1.append r2⟩
  · exact absurd rfl e
section
variable {X : Cx} {W : Wd} {e : Expr} {pos : Pos}
/-- {} as data -/
theorem ve_dnil : VE X W (.Dict [] [] pos) (fun _ P => P (.dic [] [])) := pe_imp pe_dnewK fun σ H Q ⟨M0, H0, oa, ds, P, S, hw, k⟩ => fun p hp =>
  k _ _ _ hw (Full.new hp).ext (W.keep _ _ S.wi (Full.new hp)) (rep_dic (S.mok.fresh hp) (us := []) rfl upd_same reps_nil)
/-- a, d = e, {} -/
def wParDic (i j : Nat) (wa : WE) : WS := fun E ds => j < ds.length ∧ wa ds fun x => E.nx ((ds.set i (.d x)).set j (.md [] []))
theorem vs_parDic (i j : Nat) {x y : Str} {wa : WE} {px py pt dp : Pos} {kt k2 pt2} (hc : X.calm = true) (hN : X.N.Nodup) (hij : i ≠ j) (ha : VE X W e wa) (hi : X.N[i]? = some x := by rfl) (hj : X.N[j]? = some y := by rfl)
    (hx : X.env.scope.names.lookup x = some .local := by rfl) (hy : X.env.scope.names.lookup y = some .local := by rfl)
    (hw : swappedStores [.Tuple [.Name x px, .Name y py] kt pt] (.Tuple [e, .Dict [] [] dp] k2 pt2) X.env = pure (some [x, y]) := by rfl)
    (hs : swapsWithSole [.Tuple [.Name x px, .Name y py] kt pt] (.Tuple [e, .Dict [] [] dp] k2 pt2) pos.line X.env = pure false := by rfl) (hs1 : starEach [e, .Dict [] [] dp] X.env = (false, eval e X.env) :: starEach [.Dict [] [] dp] X.env := by rfl) (hs2 : starEach [.Dict [] [] dp] X.env = (false, eval (.Dict [] [] dp) X.env) :: starEach [] X.env := by rfl) :
    VS X W (.Assign [.Tuple [.Name x px, .Name y py] kt pt] (.Tuple [e, .Dict [] [] dp] k2 pt2) pos) (wParDic i j wa) := by
  refine ps_imp (ps_par hc hN hi hj hij hx hy (pa_cons ha (pa_cons pe_dnewK pa_nil hs2) hs1) hw hs) fun D σ H h => ?_
  obtain ⟨M0, H0, oa, ds, E, S, ⟨hl, hw⟩, k1, k2, k3, k4⟩ := h
  refine ⟨M0, H0, oa, ds, _, S, hw, fun d v H1 hd e1 i1 r1 => ?_⟩
  have S1 := S.step e1 i1
  refine fun p hp => ⟨v, .ref p, rfl, ?_⟩
  exact k1 _ _ _ _ hd ((S1.set (i := i) r1).newown (by rw [List.length_set]; exact hl) hp fun c => ⟨p, [], rfl, rfl, rfl, upd_same, reps_nil⟩)
end
end VL

set_option Elab.async false
set_option linter.all false
set_option maxRecDepth 100000
set_option maxHeartbeats 2000000
/-! VZ: zip of two, each a list or a tuple. -/
namespace VL
open PySem PySem.Spec PyProof.Rows L2
inductive Kz | l | t
def SqK (k : Kz) (K : PySem.W.Frag) (H : Hp) (a : Addr) (xs : List V) : Prop := match k with
  | .l => SqL K H a xs
  | .t => SqT K H a xs
def IsK (k : Kz) (h : Heap) (a : Addr) (its : Array Value) : Prop := match k with
  | .l => h.IsList a its
  | .t => h.IsTuple a its
def IterK (k : Kz) (h : Heap) (it a : Addr) (i : Nat) : Prop := match k with
  | .l => h.IsListIter it a i
  | .t => h.IsTupleIter it a i
theorem drawsK {prog : Program} {w : World} {A : Around} (k : Kz) (hh : A.handled = none) (it a : Addr) (hne : a ≠ it) (items : Array Value) :
    Draws prog w A it [it, a] items.size (fun i v => items[i]? = some v) (fun i h => IterK k h it a i ∧ IsK k h a items) := by
  cases k with
  | l => exact Draws.list hh it a hne items
  | t => exact Draws.tuple hh it a hne items
def itObj (k : Kz) (a : Addr) : Obj := match k with
  | .l => { cls := .type "list_iterator", data := .fields #[.ref a, .int 0 0] }
  | .t => { cls := .type "tuple_iterator", data := .fields #[.ref a, .int 0 0] }
theorem beginsK (k : Kz) (a : Addr) (items : Array Value) : Begins (.ref a) (itObj k a) fun h => IsK k h a items := by
  cases k with
  | l => exact begins_list a items
  | t => exact begins_tuple a items
theorem iterK0 {k : Kz} {h : Heap} {it a : Addr} (e : h.get? it = some (itObj k a)) : IterK k h it a 0 := by
  cases k with
  | l => exact ⟨_, e, rfl, rfl⟩
  | t => exact ⟨_, e, rfl, rfl⟩
theorem IterK.at {k : Kz} {h h' : Heap} {it a : Addr} {i : Nat} (x : IterK k h it a i) (c : ∀ o, h.get? it = some o → h'.get? it = some o) : IterK k h' it a i := by
  cases k with
  | l => exact Heap.IsListIter.at x c
  | t => exact Heap.IsTupleIter.at x c
theorem IterK.obj {k : Kz} {h : Heap} {it a : Addr} {i : Nat} (x : IterK k h it a i) : ∃ o, h.get? it = some o ∧ ∀ v, o.data ≠ .cell v := by
  cases k with
  | l => obtain ⟨o, e, _, d⟩ := x; exact ⟨o, e, fun v q => by rw [d] at q; cases q⟩
  | t => obtain ⟨o, e, _, d⟩ := x; exact ⟨o, e, fun v q => by rw [d] at q; cases q⟩
section
variable {X : Cx} {pins : List (Addr × Obj)} {σ : L2.St} {H : Hp} {s : Shared} {a : Addr} {xs ys : List V} {k : Kz}
theorem seqK (I : Inv X pins σ H s) (h : SqK k X.K H a xs) : ∃ its : List Value, Vals xs its ∧ IsK k s.heap a its.toArray ∧ a < s.heap.objs.size := by
  cases k with
  | l =>
    obtain ⟨its, r, p, _⟩ := I.list h
    exact ⟨its, r, p.isList, p.lt⟩
  | t =>
    obtain ⟨its, r, p, _⟩ := I.tuple h
    obtain ⟨o, ho, _⟩ := id p
    exact ⟨its, r, p, Heap.lt_size ho⟩
theorem seqK_inj (I : Inv X pins σ H s) (h : SqK k X.K H a xs) (h' : SqK k X.K H a ys) : xs = ys := by
  cases k with
  | l => exact I.list_inj h h'
  | t => exact I.tuple_inj h h'
end
/-- the sequences at a and b as they stand at each turn, the items in new pairs -/
def ItzK (K : PySem.W.Frag) (k1 k2 : Kz) (a b : Addr) : It :=
  ⟨fun i H => ∃ (xs ys : List V) (x y : V), SqK k1 K H a xs ∧ SqK k2 K H b ys ∧ xs[i]? = some x ∧ ys[i]? = some y,
    fun i H v H' => ∃ T x y, v = .ref T ∧ H T = none ∧ H' = upd H T (.tup [x, y]) ∧ (∀ xs, SqK k1 K H a xs → xs[i]? = some x) ∧ ∀ ys, SqK k2 K H b ys → ys[i]? = some y,
    fun i H => ∃ xs ys : List V, SqK k1 K H a xs ∧ SqK k2 K H b ys ∧ (xs.length = i ∧ i ≤ ys.length ∨ ys.length = i ∧ i ≤ xs.length)⟩
structure Apart (z TI TO i1 i2 a b : Addr) : Prop where
  TIz : TI ≠ z
  TOz : TO ≠ z
  TITO : TI ≠ TO
  TIi1 : TI ≠ i1
  TIi2 : TI ≠ i2
  zi1 : z ≠ i1
  zi2 : z ≠ i2
  TOi1 : TO ≠ i1
  TOi2 : TO ≠ i2
  i12 : i1 ≠ i2
  za : z ≠ a
  zb : z ≠ b
  TOa : TO ≠ a
  TOb : TO ≠ b
  ai1 : a ≠ i1
  ai2 : a ≠ i2
  bi1 : b ≠ i1
  bi2 : b ≠ i2
theorem apart_of (n a b : Nat) (l1 : a < n) (l2 : b < n) : Apart (n + 4) (n + 2) (n + 3) n (n + 1) a b := by
  constructor <;> (show ¬ (_ : Nat) = _; omega)
theorem Apart.sep {z TI TO i1 i2 a b : Addr} (D : Apart z TI TO i1 i2 a b) : ZipSep2 z TI TO i1 i2 [i1, a] [i2, b] where
  TIz := D.TIz
  TOz := D.TOz
  TITO := D.TITO
  TIi1 := D.TIi1
  mem1 := by simp
  zf1 := by simp [D.zi1, D.za]
  Tf1 := by simp [D.TOi1, D.TOa]
  TIi2 := D.TIi2
  mem2 := by simp
  zf2 := by simp [D.zi2, D.zb]
  Tf2 := by simp [D.TOi2, D.TOb]
  sep1_2 := by simp [D.i12, Ne.symm D.bi1]
  sep2_1 := by simp [Ne.symm D.i12, Ne.symm D.ai2]
theorem turn_zipK {P : Program} {w : World} {K : PySem.W.Frag} {elts : List Expr} {kk : Nat} {tpos : Pos} {k1 k2 : Kz} {a b z TI TO i1 i2 : Addr} (D : Apart z TI TO i1 i2 a b) :
    Turn P w K (.Tuple elts kk tpos) (ItzK K k1 k2 a b) [z, TI, TO, i1, i2] z (fun i h => IsZip h z TI TO .none ∧ IsTupOf2 h TI (.ref i1) (.ref i2) ∧ (∃ x y, IsTupOf2 h TO x y) ∧ IterK k1 h i1 a i ∧ IterK k2 h i2 b i) where
  mem := by simp
  obj := fun i h st c hc => by
    obtain ⟨hz, hTI, ⟨x, y, hTO⟩, h1, h2⟩ := st
    obtain ⟨o1, e1, d1⟩ := h1.obj
    obtain ⟨o2, e2, d2⟩ := h2.obj
    have e' : c = z ∨ c = TI ∨ c = TO ∨ c = i1 ∨ c = i2 := by simpa using hc
    rcases e' with q | q | q | q | q
    · rw [q]; exact ⟨_, hz, fun v q => nomatch q⟩
    · rw [q]; exact ⟨_, hTI, fun v q => nomatch q⟩
    · rw [q]; exact ⟨_, hTO, fun v q => nomatch q⟩
    · rw [q]; exact ⟨o1, e1, d1⟩
    · rw [q]; exact ⟨o2, e2, d2⟩
  keep := fun i h h' st k => by
    obtain ⟨hz, hTI, ⟨x, y, hTO⟩, h1, h2⟩ := st
    exact ⟨k z (by simp) _ hz, k TI (by simp) _ hTI, ⟨x, y, k TO (by simp) _ hTO⟩, h1.at fun o q => k i1 (by simp) o q, h2.at fun o q => k i2 (by simp) o q⟩
  item := by
    intro X hP hw hK hc i pins s σ H E I hf st hg
    subst hP hw hK
    obtain ⟨hz, hTI, ⟨x0, y0, hTO⟩, h1, h2⟩ := st
    obtain ⟨xs, ys, x, y, hqx, hqy, hx, hy⟩ := hg
    obtain ⟨its, rv, p, _⟩ := seqK I hqx
    obtain ⟨its2, rv2, p2, _⟩ := seqK I hqy
    obtain ⟨u, hu, ru⟩ := rv.get hx
    obtain ⟨u2, hu2, ru2⟩ := rv2.get hy
    have hzl : z < s.heap.objs.size := Heap.lt_size hz
    have hh : X.A.in1.handled = none := I.ok.hd hc
    have lt1 : i < its.toArray.size := by rw [List.size_toArray]; exact (List.getElem?_eq_some_iff.mp hu).1
    have lt2 : i < its2.toArray.size := by rw [List.size_toArray]; exact (List.getElem?_eq_some_iff.mp hu2).1
    refine wpAny_pyNext_zipD2_item D.sep (drawsK k1 hh i1 a D.ai1 its.toArray) (drawsK k2 hh i2 b D.bi2 its2.toArray) hz hTI hTO ⟨h1, p⟩ ⟨h2, p2⟩ lt1 lt2 fun v1 v2 h' tk y1 y2 z' TO' st1 st2 hT hsz hk => ?_
    obtain rfl : u = v1 := by
      have : some u = some v1 := by rw [← y1]; simpa using hu.symm
      exact Option.some.inj this
    obtain rfl : u2 = v2 := by
      have : some u2 = some v2 := by rw [← y2]; simpa using hu2.symm
      exact Option.some.inj this
    obtain ⟨h1', _⟩ := st1
    obtain ⟨h2', _⟩ := st2
    refine ⟨_, rfl, wpAny_letOwnedTupleGo_zip (s := { s with heap := h', toks := tk }) z' fun h'' z'' sb => ?_⟩
    have hT2 : h''.get? s.heap.objs.size = some { cls := .type "tuple", data := .seq #[u, u2] } := (sb.2 _ (Nat.ne_of_gt hzl)).trans hT
    have new : ObjOk X.prog X.w (upd H s.heap.objs.size (.tup [x, y])) h'' s.heap.objs.size (.tup [x, y]) :=
      ⟨by show 2 ≤ sizeLine; decide, [u, u2], .cons ru (.cons ru2 .nil), ⟨_, hT2, rfl, _, rfl⟩⟩
    have I1 : Inv X pins σ (upd H s.heap.objs.size (.tup [x, y])) { s with heap := h'', toks := tk } :=
      I.turnedNew (t' := tk) (ch := [z, TI, TO, i1, i2]) (fun c o hb q => (sb.2 c (fun q' => hb (by simp [q']))).trans (hk c o (fun q' => hb (by simp [q'])) (fun q' => hb (by simp [q'])) (fun q' => hb (by simp [q'])) (fun q' => hb (by simp [q'])) q)) hf (Nat.le_refl _) new
    refine ⟨.ref s.heap.objs.size, _, I1, rfl, ⟨_, x, y, rfl, I.hok.fresh (Nat.le_refl _), rfl, fun l hl => by rw [seqK_inj I hl hqx]; exact hx, fun l hl => by rw [seqK_inj I hl hqy]; exact hy⟩, ⟨z'', ?_, ⟨u, u2, ?_⟩, ?_, ?_⟩, fun c hcm => ?_⟩
    · exact (sb.2 _ D.TIz).trans (hk _ _ D.TIz D.TITO D.TIi1 D.TIi2 hTI)
    · exact (sb.2 _ D.TOz).trans TO'
    · exact h1'.at fun o q => (sb.2 _ (Ne.symm D.zi1)).trans q
    · exact h2'.at fun o q => (sb.2 _ (Ne.symm D.zi2)).trans q
    · have hlt : c < s.heap.objs.size := by
        have e' : c = z ∨ c = TI ∨ c = TO ∨ c = i1 ∨ c = i2 := by simpa using hcm
        rcases e' with q | q | q | q | q
        · rw [q]; exact hzl
        · rw [q]; exact Heap.lt_size hTI
        · rw [q]; exact Heap.lt_size hTO
        · rw [q]; obtain ⟨_, e1, _⟩ := h1.obj; exact Heap.lt_size e1
        · rw [q]; obtain ⟨_, e2, _⟩ := h2.obj; exact Heap.lt_size e2
      rw [upd_ne (Nat.ne_of_lt hlt)]
      exact (hf c hcm).1
  done := by
    intro X hP hw hK hc i pins s σ H E I hf st hg
    subst hP hw hK
    obtain ⟨hz, hTI, ⟨x0, y0, hTO⟩, h1, h2⟩ := st
    obtain ⟨xs, ys, hqx, hqy, hend⟩ := hg
    obtain ⟨its, rv, p, _⟩ := seqK I hqx
    obtain ⟨its2, rv2, p2, _⟩ := seqK I hqy
    have l1 : xs.length = its.toArray.size := by rw [List.size_toArray]; exact rv.length
    have l2 : ys.length = its2.toArray.size := by rw [List.size_toArray]; exact rv2.length
    have hh : X.A.in1.handled = none := I.ok.hd hc
    refine wpAny_pyNext_zipD2_end D.sep (drawsK k1 hh i1 a D.ai1 its.toArray) (drawsK k2 hh i2 b D.bi2 its2.toArray) hz hTI hTO ⟨h1, p⟩ ⟨h2, p2⟩ (by omega) (by omega) (by omega) fun h' tk hk => ⟨rfl, I.turnedL (t' := tk) (ch := [z, TI, TO, i1, i2]) (fun c o hb q =>
      hk c o (fun q' => hb (by simp [q'])) (fun q' => hb (by simp [q'])) (fun q' => hb (by simp [q'])) (fun q' => hb (by simp [q'])) q) hf⟩
  self := fun A i s Q E st h => wpAny_pyIter_zip st.1 h
def iZipK (K : PySem.W.Frag) (ta : TA) : TI := fun σ H R => ta σ H fun vs H1 => ∃ k1 k2 a b xs ys, vs = [.ref a, .ref b] ∧ SqK k1 K H1 a xs ∧ SqK k2 K H1 b ys ∧ R (ItzK K k1 k2 a b) H1
theorem pi_zipK {X : Cx} {e e2 : Expr} {ta : TA} {p pos tpos : Pos} {elts : List Expr} {kk : Nat} (hg : Gl X "zip") (hm : X.mg "zip" = none) (ha : PA X [e, e2] ta)
    (hs : starEach [e, e2] X.env = (false, eval e X.env) :: starEach [e2] X.env := by rfl) (hpl : (backTo pos (starEach [e2] X.env)).any (·.1) = false := by rfl) :
    PI X (.Tuple elts kk tpos) (.Call (.Name "zip" p) [e, e2] [] pos) (iZipK X.K ta) := by
  refine ⟨fun pins s σ H R I h => ?_⟩
  refine Call_ (ld_blt I hg hm PyProof.Rows.boot_zip (PyProof.Rows.callWith_type1 (thn (ha.run pos pins s σ H _ I h) fun us s1 ⟨vs, H1, I1, r1, q1⟩ => ?_) hs hpl))
  obtain ⟨k1, k2, a, b, xs, ys, ex, hqx, hqy, q⟩ := q1
  subst ex
  cases r1 with
  | cons r rr =>
    cases rr with
    | cons r' rr =>
      cases rr
      cases r
      cases r'
      have fresh5 : ∀ c, c ∈ [s1.heap.objs.size + 4, s1.heap.objs.size + 2, s1.heap.objs.size + 3, s1.heap.objs.size, s1.heap.objs.size + 1] → FpOk X pins H1 c := fun c hcm => by
        have e' : c = s1.heap.objs.size + 4 ∨ c = s1.heap.objs.size + 2 ∨ c = s1.heap.objs.size + 3 ∨ c = s1.heap.objs.size ∨ c = s1.heap.objs.size + 1 := by simpa using hcm
        have hle : s1.heap.objs.size ≤ c := by
          rcases e' with z | z | z | z | z
          · rw [z]; exact Nat.le_add_right _ _
          · rw [z]; exact Nat.le_add_right _ _
          · rw [z]; exact Nat.le_add_right _ _
          · rw [z]; exact Nat.le_refl _
          · rw [z]; exact Nat.le_add_right _ _
        exact I1.fpOk hle (I1.hok.fresh hle)
      obtain ⟨its, rv, p1, lt1⟩ := seqK I1 hqx
      obtain ⟨its2, rv2, p2, lt2⟩ := seqK I1 hqy
      refine zip_begins2 (beginsK k1 a its.toArray) (beginsK k2 b its2.toArray) p1 p2 fun h' hz hTI hTO h1 h2 hsz hk => wpAny_pyIter_zip hz ?_
      have I2 : Inv X pins σ H1 { s1 with heap := h' } := I1.kept (t' := s1.toks) hk
      have ap := apart_of s1.heap.objs.size a b lt1 lt2
      exact ⟨s1.heap.objs.size + 4, [s1.heap.objs.size + 4, s1.heap.objs.size + 2, s1.heap.objs.size + 3, s1.heap.objs.size, s1.heap.objs.size + 1], _, _, H1, rfl, I2, turn_zipK ap, ⟨hz, hTI, ⟨_, _, hTO⟩, iterK0 h1, iterK0 h2⟩, fresh5, q⟩
/-! ### on plain data -/
section
variable {K : PySem.W.Frag} {W : Wd} {M : Addr → Prop} {H1 : Hp}
/-- a list or a tuple by its items -/
def SeqM (k : Kz) (K : PySem.W.Frag) (M : Addr → Prop) (H : Hp) (a : Addr) (xs : List V) : Prop := match k with
  | .l => LstM K M H a xs
  | .t => TupM K M H a xs
theorem SeqM.sq {k : Kz} {a : Addr} {xs : List V} (h : SeqM k K M H1 a xs) : SqK k K H1 a xs := by
  cases k with
  | l => exact LstM.sq h
  | t => exact TupM.sq h
theorem SeqM.car {k : Kz} {M' : Addr → Prop} {H' : Hp} {a : Addr} {xs : List V} (c : Car M M' H1 H') (h : SeqM k K M H1 a xs) : SeqM k K M' H' a xs := by
  cases k with
  | l => exact LstM.car c h
  | t => exact TupM.car c h
theorem itok_zk {k1 k2 : Kz} {a b : Addr} {xs ys : List V} {ds es : List D} (t : SeqM k1 K M H1 a xs) (r : Reps K M H1 ds xs) (t' : SeqM k2 K M H1 b ys) (r' : Reps K M H1 es ys) : ItOk K W M H1 (ItzK K k1 k2 a b) (zipsD ds es) := fun M2 H2 c m => by
  have u1 := (t.car c).sq
  have u2 := (t'.car c).sq
  refine ⟨fun i hi => ?_, fun i hi hi2 => ⟨xs, ys, u1, u2, ?_⟩, fun i d x H3 hd hy => ?_⟩
  · rw [zips_len] at hi
    obtain ⟨x, hx⟩ := get_lt (xs := xs) (i := i) (by rw [r.len]; omega)
    obtain ⟨y, hy⟩ := get_lt (xs := ys) (i := i) (by rw [r'.len]; omega)
    exact ⟨xs, ys, x, y, u1, u2, hx, hy⟩
  · rw [zips_len] at hi hi2
    rw [r.len, r'.len]
    omega
  · obtain ⟨T, x', y', rfl, hT, rfl, g1, g2⟩ := hy
    obtain ⟨dx, dy, h1, h2, rfl⟩ := zips_get hd
    obtain ⟨v1, hv1, rv1⟩ := r.get h1
    obtain ⟨v2, hv2, rv2⟩ := r'.get h2
    have q1 := g1 xs u1
    have q2 := g2 ys u2
    rw [hv1] at q1
    rw [hv2] at q2
    cases q1
    cases q2
    exact ⟨Full.new hT, m.newT hT (reps_cons (rv1.car c) (reps_cons (rv2.car c) reps_nil))⟩
def zipK : D → D → (List D → Prop) → Prop
  | .lst xs, .lst ys, P => xs.length ≤ 1000000 ∧ P (zipsD xs ys)
  | .tup xs, .tup ys, P => xs.length ≤ 1000000 ∧ P (zipsD xs ys)
  | .lst xs, .tup ys, P => xs.length ≤ 1000000 ∧ P (zipsD xs ys)
  | .tup xs, .lst ys, P => xs.length ≤ 1000000 ∧ P (zipsD xs ys)
  | _, _, _ => False
theorem zipK_of {x y : D} {v u : V} {P : List D → Prop} (h : zipK x y P) (r1 : Rep K M H1 x v) (r2 : Rep K M H1 y u) :
    ∃ k1 k2 a b xs ys ds es, v = .ref a ∧ u = .ref b ∧ SeqM k1 K M H1 a xs ∧ SeqM k2 K M H1 b ys ∧ Reps K M H1 ds xs ∧ Reps K M H1 es ys ∧ ds.length ≤ 1000000 ∧ P (zipsD ds es) := by
  cases x <;> cases y <;> first
    | exact h.elim
    | (obtain ⟨a, vs, rfl, t, q⟩ := r1.lst; obtain ⟨b, us, rfl, t', q'⟩ := r2.lst; exact ⟨.l, .l, a, b, vs, us, _, _, rfl, rfl, t, t', q, q', h.1, h.2⟩)
    | (obtain ⟨a, vs, rfl, t, q⟩ := r1.tup; obtain ⟨b, us, rfl, t', q'⟩ := r2.tup; exact ⟨.t, .t, a, b, vs, us, _, _, rfl, rfl, t, t', q, q', h.1, h.2⟩)
    | (obtain ⟨a, vs, rfl, t, q⟩ := r1.lst; obtain ⟨b, us, rfl, t', q'⟩ := r2.tup; exact ⟨.l, .t, a, b, vs, us, _, _, rfl, rfl, t, t', q, q', h.1, h.2⟩)
    | (obtain ⟨a, vs, rfl, t, q⟩ := r1.tup; obtain ⟨b, us, rfl, t', q'⟩ := r2.lst; exact ⟨.t, .l, a, b, vs, us, _, _, rfl, rfl, t, t', q, q', h.1, h.2⟩)
def wZipK (wa wb : WE) : WI := fun ds P => wa ds fun x => wb ds fun y => zipK x y P
theorem vi_zipK {X : Cx} {e e2 : Expr} {wa wb : WE} {p pos tpos : Pos} {elts : List Expr} {kk : Nat} (hg : Gl X "zip") (hm : X.mg "zip" = none) (ha : VE X W e wa) (hb : VE X W e2 wb)
    (hs : starEach [e, e2] X.env = (false, eval e X.env) :: starEach [e2] X.env := by rfl) (hpl : (backTo pos (starEach [e2] X.env)).any (·.1) = false := by rfl) (hs2 : starEach [e2] X.env = (false, eval e2 X.env) :: starEach [] X.env := by rfl) :
    VI X W (.Tuple elts kk tpos) (.Call (.Name "zip" p) [e, e2] [] pos) (wZipK wa wb) := by
  refine pi_imp (pi_zipK hg hm (pa_cons ha (pa_cons hb pa_nil hs2) hs) hs hpl) fun σ H R h => ?_
  obtain ⟨M0, H0, oa, ds, P, S, hw, k⟩ := h
  refine ⟨M0, H0, oa, ds, _, S, hw, fun x v H1 hx e1 i1 r1 => ?_⟩
  have S1 := S.step e1 i1
  refine ⟨M0, H0, oa, ds, _, S1, hx, fun y u H2 hy e2 i2 r2 => ?_⟩
  have r1' := r1.ext S1.mok e2
  obtain ⟨k1, k2, a, b, xs, ys, es, fs, rfl, rfl, t, t', q, q', hl, hp⟩ := zipK_of hy r1' r2
  exact ⟨k1, k2, a, b, xs, ys, rfl, t.sq, t'.sq, k _ _ H2 hp (by rw [zips_len, sizeLine_eq]; omega) (e1.trans e2) i2 (itok_zk t q t' q')⟩
end
/-! ### [x, ..] * n -/
section
variable {K : PySem.W.Frag} {W : Wd} {X : Cx}
theorem reps_rep {M : Addr → Prop} {H : Hp} {ds : List D} {vs : List V} (r : Reps K M H ds vs) : ∀ n : Nat, Reps K M H (List.replicate n ds).flatten (List.replicate n vs).flatten
  | 0 => reps_nil
  | n + 1 => by
    rw [List.replicate_succ, List.replicate_succ, List.flatten_cons, List.flatten_cons]
    exact r.app (reps_rep r n)
def wRep (l : WL) (wb : WE) : WE := fun ds P => l ds fun xs => xs.length ≤ 1000000 ∧ wb ds fun y => asInt y fun k => -1000000 ≤ k ∧ k ≤ 1000000 ∧ xs.length * k.toNat ≤ 1000000 ∧ P (.lst (List.replicate k.toNat xs).flatten)
theorem ve_rep {es : List Expr} {b : Expr} {l : WL} {wb : WE} {lp pos : Pos} (hl : VA X W es l) (hb : VE X W b wb) : VE X W (.BinOp (.List es lp) .Mult b pos) (wRep l wb) := by
  refine pe_imp (pe_op op_rep (pe_lst hl) hb) fun σ H Q h => ?_
  obtain ⟨M0, H0, oa, ds, P, S, hw, k⟩ := h
  refine ⟨M0, H0, oa, ds, _, S, hw, fun xs vs H1 hx e1 i1 r1 => ⟨by rw [r1.len, sizeLine_eq]; have := hx.1; omega, fun p hp => ?_⟩⟩
  have S1 := S.step e1 i1
  have S2 := S1.full (Full.new (o := .lst vs) hp)
  have nA : ¬ W.A p := fun z => W.live _ _ i1 z hp
  refine ⟨M0, H0, oa, ds, _, S2, hx.2, fun y u H2 hy e2 i2 r2 => ?_⟩
  cases y <;> first | exact hy.elim | skip
  rename_i j
  obtain ⟨h0, h1, h2, hy⟩ := hy
  have hp2 : H2 p = some (.lst vs) := e2 p _ nA upd_same
  have S3 := S2.step e2 i2
  have r3 := ((r1.ext S1.mok (Full.new (o := .lst vs) hp).ext).ext S2.mok e2)
  refine ⟨p, j, vs, rfl, r2.int, hp2, by omega, by omega, by rw [r1.len, sizeLine_eq]; omega, fun q hq => ?_⟩
  exact k _ _ _ hy (((e1.trans (Full.new hp).ext).trans e2).trans (Full.new hq).ext) (W.keep _ _ i2 (Full.new hq)) (S3.mok.newL hq (reps_rep r3 _))
end
section
variable {X : Cx} {W : Wd} {pos : Pos}
/-- a, b, c = e, f, g -/
def wPar3 (i j l : Nat) (wa wb wc : WE) : WS := fun E ds => wa ds fun x => wb ds fun y => wc ds fun z => E.nx (((ds.set i (.d x)).set j (.d y)).set l (.d z))
theorem vs_par3 (i j l : Nat) {x y z : Str} {a b c : Expr} {wa wb wc : WE} {px py pz pt : Pos} {kt k2 pt2} (hc : X.calm = true) (hN : X.N.Nodup) (hij : i ≠ j) (hil : i ≠ l) (hjl : j ≠ l) (ha : VE X W a wa) (hb : VE X W b wb) (hcc : VE X W c wc)
    (hi : X.N[i]? = some x := by rfl) (hj : X.N[j]? = some y := by rfl) (hl : X.N[l]? = some z := by rfl)
    (hx : X.env.scope.names.lookup x = some .local := by rfl) (hy : X.env.scope.names.lookup y = some .local := by rfl) (hz : X.env.scope.names.lookup z = some .local := by rfl)
    (hw : swappedStores [.Tuple [.Name x px, .Name y py, .Name z pz] kt pt] (.Tuple [a, b, c] k2 pt2) X.env = pure (some [x, y, z]) := by rfl)
    (hs : swapsWithSole [.Tuple [.Name x px, .Name y py, .Name z pz] kt pt] (.Tuple [a, b, c] k2 pt2) pos.line X.env = pure false := by rfl)
    (hs1 : starEach [a, b, c] X.env = (false, eval a X.env) :: starEach [b, c] X.env := by rfl) (hs2 : starEach [b, c] X.env = (false, eval b X.env) :: starEach [c] X.env := by rfl) (hs3 : starEach [c] X.env = (false, eval c X.env) :: starEach [] X.env := by rfl) :
    VS X W (.Assign [.Tuple [.Name x px, .Name y py, .Name z pz] kt pt] (.Tuple [a, b, c] k2 pt2) pos) (wPar3 i j l wa wb wc) := by
  refine ps_imp (ps_par3 hc hN hi hj hl hij hil hjl hx hy hz (pa_cons ha (pa_cons hb (pa_cons hcc pa_nil hs3) hs2) hs1) hw hs) fun D σ H h => ?_
  obtain ⟨M0, H0, oa, ds, E, S, hw, k1, k2, k3, k4⟩ := h
  refine ⟨M0, H0, oa, ds, _, S, hw, fun d v H1 hd e1 i1 r1 => ?_⟩
  have S1 := S.step e1 i1
  refine ⟨M0, H0, oa, ds, _, S1, hd, fun d2 v2 H2 hd2 e2 i2 r2 => ?_⟩
  have S2 := S1.step e2 i2
  refine ⟨M0, H0, oa, ds, _, S2, hd2, fun d3 v3 H3 hd3 e3 i3 r3 => ?_⟩
  have S3 := S2.step e3 i3
  have S4 := S3.set (i := i) ((r1.ext S1.mok e2).ext S2.mok e3)
  have S5 := S4.set (i := j) ((r2.ext S2.mok e3).car car_del)
  exact ⟨v, v2, v3, rfl, k1 _ _ _ _ hd3 (S5.set (i := l) ((r3.car car_del).car car_del))⟩
end
end VL

set_option Elab.async false
set_option linter.all false
set_option maxRecDepth 100000
set_option maxHeartbeats 2000000
/-! VI: own classes, their instances as data; what a def may raise. -/
namespace PySem.W
open PySem PySem.Calls PyProof.Rows Builtin
section
variable {prog : Program} {w : World} {A : Around} {E : Value → Shared → Prop} {s : Shared} {K : Frag} {x C C' L f f' : Addr} {h₀ : Heap} {m : Str → Option Value} {ox : Obj} {od : Option Obj} {b tb : Value}
theorem vi_bound {M : Model} {name : Str} {id : String} {args : List Value} {Q : Option Value → Shared → Prop} (X : K.In s.heap) (I : InstAt s.heap x ox C od) (hs : findIn K (.ref C) name = some (some (.builtin id)))
    (hb : ∀ self, bindSpecial (.builtin id) self = pure (.builtin id, [self])) (h : wpAny M A (call (.builtin id) (.ref x :: args)) (fun v => Q (some v)) E s) : wpAny M A (callSpecialIfBound? (.ref x) name args) Q E s := by
  simp only [callSpecialIfBound?, bindSpecialIfBound?]
  refine wpAny_holding (wpAny_bind (wpAny_bind (wpAny_bind (I.type.here ((looks_findIn X hs).here ?_)))))
  simp only [hb]
  refine wpAny_bind (wpAny_askSetting (wpAny_ite ?_))
  have fin : wpAny M A (call (.builtin id) ([.ref x] ++ args) >>= fun v => pure (some v)) Q E s := wpAny_bind (wpAny_mono h (fun v s' h' => wpAny_pure h') fun _ _ h' => h')
  split
  · exact wpAny_bind (wpAny_pure (wpAny_pure (by exact fin)))
  · exact wpAny_tryCatch (wpAny_bind (wpAny_pure (wpAny_pure (by exact fin))))
theorem vi_ne {Q : Value → Shared → Prop} (hu : A.units + 1 < cLine) (F : Fr h₀ L s.heap m) (X₀ : K.In h₀) (I : InstAt s.heap x ox C od) (hb : Looks (model prog w) s.heap (typeOf b) tb) (hn : notFirst K C tb = true)
    (hne : findIn K (.ref C) "__ne__" = some (some (.builtin "object.__ne__"))) (he : findIn K (.ref C) "__eq__" = some (some (.ref f))) (hf : isFn K (.ref f) = true) (hm : mroIn K C (.type "object") = some true)
    (h : wpAny (model prog w) A.in1 (call (.ref f) [.ref x, b]) (fun v s' => ∃ c, v = .bool c ∧ Q (.bool (!c)) s') E s) : wpAny (model prog w) A (richCompare .NotEq (.ref x) b) Q E s := by
  have X := X₀.keeps F.keep
  have one : wpAny (model prog w) A (tryCompare (.ref x) "__ne__" b) (fun r s' => ∃ v, r = some v ∧ Q v s') E s := by
    unfold tryCompare
    refine wpAny_bind (vi_bound X I hne PySem.F.cmp_object.ne.bind (wpAny_call (codeAny_call_builtin PySem.F.cmp_object.ne.plain PySem.F.cmpEntry_ne
      (check_slot (i := "object.__ne__") (owner := "object") (n := "__ne__") PySem.F.cmpKind_ne PySem.F.cmpSplit_ne (I.type.andThen (looks_mroIn X hm)) (PySem.F.cmpArgs_ne _ _) ?_))))
    unfold Builtin.«object.__ne__»
    refine wpAny_bind (m := slotArgs "__ne__" 1 _) (wpAny_pure ?_)
    refine wpAny_bind (m := cRoomFor _ _) (wpAny_cRoomFor (by exact hu) ?_)
    refine wpAny_bind (m := callSpecialIfBound? (.ref x) (Str.ofString "__eq__") _) (ifBound_K X I he hf (wpAny_mono h (fun r s' hq => ?_) fun _ _ y => y))
    obtain ⟨c, rfl, hq⟩ := hq
    refine wpAny_bind (m := truthy (.bool c)) (wpAny_truthy_bool ?_)
    first
      | exact wpAny_pure (wpAny_pure ⟨_, rfl, hq⟩)
      | exact wpAny_pure ⟨_, rfl, hq⟩
  unfold richCompare
  simp only [oneThing_ref]
  refine wpAny_holding (wpAny_bind (wpAny_cRoomFor (Nat.lt_of_succ_lt hu) ?_))
  rw [cmpInfo_NotEq]
  dsimp only
  refine wpAny_bind (I.type.here (wpAny_bind (hb.here ?_)))
  split
  · rename_i q
    have e : subIn K tb (.ref C) = some false := by
      rcases Bool.or_eq_true_iff.mp hn with e | e
      · rw [beq_iff_eq.mp e] at q; simp at q
      · exact beq_iff_eq.mp e
    refine wpAny_bind ((looks_subIn X e).here ?_)
    simp only [Bool.false_eq_true, if_false]
    refine wpAny_bind (wpAny_mono one (fun r s' z => ?_) fun _ _ e => e)
    obtain ⟨v, rfl, hq⟩ := z
    exact wpAny_pure hq
  · refine wpAny_bind (wpAny_pure ?_)
    simp only [Bool.false_eq_true, if_false]
    refine wpAny_bind (wpAny_mono one (fun r s' z => ?_) fun _ _ e => e)
    obtain ⟨v, rfl, hq⟩ := z
    exact wpAny_pure hq
/-- two instances of two classes, neither below the other, each with a def for the operator -/
theorem vi_bin2 {op : Operator} {b : Addr} {rc rc' : Option Value} {Q : Value → Shared → Prop} {ox' : Obj} {od' : Option Obj} (F : Fr h₀ L s.heap m) (X₀ : K.In h₀) (I : InstAt s.heap x ox C od) (I' : InstAt s.heap b ox' C' od') (hne : C ≠ C') (hc : selfFirst K C = true) (hc' : selfFirst K C' = true)
    (hs : findIn K (.ref C) (PySem.dunder op.info.2) = some (some (.ref f))) (hf : isFn K (.ref f) = true) (hr : findIn K (.ref C) (dunderR op.info.2) = some rc) (hp : rc = none ∨ ∃ g : Addr, rc = some (.ref g))
    (hs' : findIn K (.ref C') (PySem.dunder op.info.2) = some (some (.ref f'))) (hr' : findIn K (.ref C') (dunderR op.info.2) = some rc') (hp' : rc' = none ∨ ∃ g : Addr, rc' = some (.ref g)) (hsub : subIn K (.ref C') (.ref C) = some false)
    (h : wpAny (model prog w) A (call (.ref f) [.ref x, .ref b]) (CmpBack Q) E s) : wpAny (model prog w) A (binaryOp op (.ref x) (.ref b)) Q E s := by
  have X := X₀.keeps F.keep
  obtain ⟨cd, rest, hcd, hm⟩ := ksp_first hc
  obtain ⟨cd', rest', hcd', hm'⟩ := ksp_first hc'
  rcases hi : op.info with ⟨sym, nm'⟩
  rw [hi] at hs hr hs' hr'
  dsimp only at hs hr hs' hr'
  have one := ksp_try X I hs hf h
  obtain ⟨hh, g, d, tt, os⟩ := s
  have L1 : Looks (model prog w) hh (typeOf (.ref x)) (.ref C) := I.type
  have L2 : Looks (model prog w) hh (typeOf (.ref b)) (.ref C') := I'.type
  have L3 : Looks (model prog w) hh (fillsNumberSlot (.ref C) nm') true := fills_K X hcd hm hs
  have L4 : Looks (model prog w) hh (fillsNumberSlot (.ref C') nm') true := fills_K X hcd' hm' hs'
  have L5 : Looks (model prog w) hh (isSubtype (.ref C') (.ref C)) false := looks_subIn X hsub
  have L6 : Looks (model prog w) hh (numberSlotInPython (.ref C) nm') true := ksp_inPy X hs hr hp
  have L7 : Looks (model prog w) hh (numberSlotInPython (.ref C') nm') true := ksp_inPy X hs' hr' hp'
  have hne' : (Value.ref C == Value.ref C') = false := Bool.eq_false_iff.mpr fun q => by cases beq_iff_eq.mp q; exact hne rfl
  simp only [binaryOp, hi]
  refine wpAny_holding (wpAny_bind ?_)
  unfold binaryOp1
  refine wpAny_bind (L1.at (wpAny_bind (L2.at (wpAny_bind (L3.at ?_)))))
  simp only [hne', Bool.false_eq_true, if_false]
  ksp_lk
  refine wpAny_mono one (fun r s' hr' => ?_) fun _ _ e => e
  obtain ⟨v, rfl, hq⟩ := hr'
  ksp_lk
  exact hq
end
end PySem.W
namespace VL
open PySem PySem.Spec PyProof.Rows L2
/-! ### what is raised -/
/-- what a def's run may raise, seen from where it began -/
def XW (K : PySem.W.Frag) (W : Wd) (PX : D → Prop) : WX := fun cls d _ H' => ∃ C fs ds us dd, cls = .ref C ∧ d = some dd ∧ PX (.ins C fs ds) ∧ Ext W W.Hf H' ∧ W.I H' ∧ Reps K W.Mf H' ds us ∧ us.length = fs.length ∧ H' dd = some (.xd (fs.zip us))
/-- what a call may raise, seen from the call -/
def XC (K : PySem.W.Frag) (W : Wd) (M : Addr → Prop) (H : Hp) (PX : D → Prop) : XK := fun cls d H' => ∃ C fs ds us dd, cls = .ref C ∧ d = some dd ∧ PX (.ins C fs ds) ∧ Ext W H H' ∧ W.I H' ∧ Reps K M H' ds us ∧ us.length = fs.length ∧ H' dd = some (.xd (fs.zip us))
theorem takes0 {X : Cx} {W : Wd} : Takes X (XW X.K W fun _ => False) := (takes_none5 (X := X)).imp fun _ _ _ _ ⟨_, _, _, _, _, _, _, z, _⟩ => z.elim
def EX (K : PySem.W.Frag) (W : Wd) (PX : D → Prop) : XK := fun cls d H' => XW K W PX cls d [] H'
theorem passesX {X : Cx} {W : Wd} {PX : D → Prop} (tk : Takes X (XW X.K W PX)) : Passes (L2.CX X.prog X.w) X (EX X.K W PX) := passes_call tk fun _ _ _ _ h => h
section
variable {K : PySem.W.Frag} {W : Wd} {M0 : Addr → Prop} {H0 H H' : Hp} {oa : Nat → Option Addr} {σ : L2.St} {ds : List Sl} {PX : D → Prop}
theorem Sat.xc (S : Sat K W M0 H0 oa H σ ds) {cls : Value} {d : Option Addr} (h : XC K W (Mx M0 oa) H PX cls d H') : EX K W PX cls d H' := by
  obtain ⟨C, fs, xs, us, dd, e1, e2, hp, e, i, r, l, hd⟩ := h
  exact ⟨C, fs, xs, us, dd, e1, e2, hp, S.fh.trans (S.ext.trans e), i, r.car fun b o n q => ⟨fun z => n (.inl (S.fm b z)), q⟩, l, hd⟩
end
/-- a promise by data, with what may be raised -/
def spX (K : PySem.W.Frag) (W : Wd) (g : List D → (D → Prop) → (D → Prop) → Prop) : Sp := fun vs H Q E => ∃ M ds P PX, MOk W M H ∧ Reps K M H ds vs ∧ g ds P PX ∧ (∀ d v H', P d → Ext W H H' → W.I H' → Rep K M H' d v → Q v H') ∧ ∀ cls d H', XC K W M H PX cls d H' → E cls d H'
/-- the world of a run that may raise -/
def Wd.fx (W : Wd) (M : Addr → Prop) (H : Hp) : Wd := { A := W.A, I := W.I, live := W.live, nx := W.nx, B := W.B, liveB := W.liveB, C := W.C, cb := W.cb, stay := W.stay, Mf := M, Hf := H }
/-- THE RULE for a def that may raise -/
theorem vfnX {P : Program} {w : World} {K : PySem.W.Frag} {mg : Str → Option Value} {base : Heap} {W : Wd} {x qual : Str} {st : Stmt} {f : Addr} {fd : FuncData} {N ps : List Str} {k : Nat} {g : List D → (D → Prop) → (D → Prop) → Prop} (F : Fun K x qual st f fd) (S : FnScope N ps (defScope st))
    (len : ∀ ds P PX, g ds P PX → ds.length = ps.length)
    (hb : ∃ wb : (D → Prop) → WS, (∀ (PX : D → Prop) (Mf : Addr → Prop) (Hf : Hp) (cdv : Value) (A : Around) (outer : List Env) (s : Shared) (H : Hp) (E : XK), Room k (A.deeper (envOfC qual (defScope st) s.heap.objs.size f cdv)) →
        Takes (cxOf (L2.CX P w) P w K mg base N qual (defScope st) f cdv A outer s H E) (XW K (W.fx Mf Hf) PX) → VSs (cxOf (L2.CX P w) P w K mg base N qual (defScope st) f cdv A outer s H E) (W.fx Mf Hf) (defBody st) (wb PX)) ∧
      ∀ ds Q PX, g ds Q PX → wb PX (endsD Q) (startD N ds)) : FnOk P w K mg base (L2.CX P w) (k + 1) f fd ps (spX K W g) := by
  obtain ⟨wb, h1, h2⟩ := hb
  refine F.okX S (fun vs H Q E h => ?_) (fun cdv A outer s H vs Q E hr h => ?_)
  · obtain ⟨M, ds, P, PX, m, r, hg, _⟩ := h
    rw [r.len, len ds P PX hg]
  · obtain ⟨M, ds, P', PX, m, r, hg, k, kx⟩ := h
    have hl : ds.length ≤ N.length := by
      have q := congrArg List.length S.pre
      rw [List.length_take] at q
      rw [len ds P' PX hg]
      omega
    refine ⟨LS K (W.fx M H) (wb PX), h1 PX M H cdv A outer s H E hr ((takes_of (E := E) rfl rfl rfl rfl).imp fun cls d σ H' hx => kx cls d H' hx), ?_⟩
    refine ⟨M, H, fun _ => none, startD N ds, endsD P', sat_start (W := W.fx M H) ⟨m.wm, m.live, m.wi, m.nb, m.nx⟩ r hl (fun _ z => z) (fun _ _ _ z => z), h2 ds P' PX hg, fun ds' oa' σ' H' hn S' => ?_, fun d v H' hd e i r' => k d v H' hd e i r', fun _ _ _ _ z => z.elim, fun _ _ _ _ z => z.elim⟩
    exact k .non .non H' hn S'.ext S'.wi rep_non
section
variable {X : Cx} {W : Wd} {e o : Expr} {es : List Expr} {pos p apos : Pos} {x : Str} {k : Nat} {f : Addr} {fd : FuncData} {ps : List Str} {dvs : List V} {dds : List D} {PX : D → Prop}
/-- f(..), f may raise -/
def wCallX (f : List D → (D → Prop) → (D → Prop) → Prop) (PX : D → Prop) (l : WL) : WE := fun ds P => l ds fun xs => f xs P PX
theorem ve_callX {g : List D → (D → Prop) → (D → Prop) → Prop} {l : WL} (F : FnOk X.prog X.w X.K X.mg X.base (L2.CX X.prog X.w) k f fd ps (spX X.K W g)) (hr : Room k X.A) (hg : Gl X x) (hm : X.mg x = some (.ref f)) (hk : PySem.W.keepIn X.K (.ref f) = true)
    (hb : ∃ ds, Vals dvs ds ∧ Binds X.K fd ps ds) (tk : Takes X (XW X.K W PX)) (hdd : ∀ M H, Reps X.K M H dds dvs) (ha : VA X W (e :: es) l) (hdb : (x == ("__debug__" : Str)) = false := by decide) (he : starEach (e :: es) X.env = (false, eval e X.env) :: starEach es X.env := by rfl)
    (hpl : (backTo pos (starEach es X.env)).any (·.1) = false := by rfl) : VE X W (.Call (.Name x p) (e :: es) [] pos) (wCallX (fun xs P PX => g (xs ++ dds) P PX) PX l) := by
  obtain ⟨ds0, hd, hb⟩ := hb
  refine pe_imp (pe_call F hr hg hm hk hb hd (passesX tk) ha hdb he hpl) fun σ H Q h => ?_
  obtain ⟨M0, H0, oa, ds, P, S, hw, kk⟩ := h
  refine ⟨M0, H0, oa, ds, _, S, hw, fun xs vs H1 hx e1 i1 r1 => ?_⟩
  have S1 := S.step e1 i1
  exact ⟨Mx M0 oa, xs ++ dds, P, PX, S1.mok, r1.app (hdd _ _), hx, fun d v H' hp e i r => kk d v H' hp (e1.trans e) i r, fun cls d H' h => S1.xc h⟩
end
/-! ### fields -/
section
variable {K : PySem.W.Frag} {M : Addr → Prop} {H : Hp}
theorem lkp_fs {f : Str} : ∀ {ks : List Str} {ds : List D} {us : List V}, Reps K M H ds us → us.length = ks.length → (∀ d, lkp ks ds f = some d → ∃ v, (ks.zip us).lookup f = some v ∧ Rep K M H d v) ∧ (lkp ks ds f = none → (ks.zip us).lookup f = none)
  | [], ds, us, r, l => ⟨fun d h => (by cases ds <;> cases h), fun _ => rfl⟩
  | k :: ks, [], us, r, l => by rw [r.inv0] at l; cases l
  | k :: ks, d :: ds, us, r, l => by
    obtain ⟨v, vs, rfl, h1, h2⟩ := r.inv
    obtain ⟨a1, a2⟩ := lkp_fs (f := f) h2 (by simpa using l)
    have e : ((k :: ks).zip (v :: vs)).lookup f = if f = k then some v else (ks.zip vs).lookup f := L2.lookup_put k f v _
    have e2 : lkp (k :: ks) (d :: ds) f = if k = f then some d else lkp ks ds f := rfl
    rw [e, e2]
    by_cases q : k = f
    · rw [if_pos q, if_pos q.symm]
      exact ⟨fun z hz => by cases hz; exact ⟨v, rfl, h1⟩, fun z => by cases z⟩
    · rw [if_neg q, if_neg (fun z => q z.symm)]
      exact ⟨a1, a2⟩
theorem putF_fs {f : Str} {d : D} {v : V} (rv : Rep K M H d v) : ∀ {ks : List Str} {ds : List D} {us : List V}, Reps K M H ds us → us.length = ks.length → f ∉ ks → putF f v (ks.zip us) = (ks ++ [f]).zip (us ++ [v]) ∧ Reps K M H (ds ++ [d]) (us ++ [v])
  | [], ds, us, r, l, n => by
    have : us = [] := by cases us with
      | nil => rfl
      | cons a b => cases l
    subst this
    exact ⟨rfl, r.app (reps_cons rv reps_nil)⟩
  | k :: ks, [], us, r, l, n => by rw [r.inv0] at l; cases l
  | k :: ks, d' :: ds, us, r, l, n => by
    obtain ⟨u, vs, rfl, h1, h2⟩ := r.inv
    have nk : ¬ k = f := fun z => n (by rw [z]; exact List.mem_cons_self)
    obtain ⟨a1, a2⟩ := putF_fs rv h2 (by simpa using l) (fun z => n (List.mem_cons_of_mem _ z))
    refine ⟨?_, reps_cons h1 a2⟩
    show (if k = f then _ else (k, u) :: putF f v (ks.zip vs)) = (k, u) :: (ks ++ [f]).zip (vs ++ [v])
    rw [if_neg nk, a1]
end
section
variable {X : Cx} {W : Wd} {e o : Expr} {es : List Expr} {pos pos' p apos : Pos}
/-- e.f, e an instance of one of the classes cs -/
def fldD (f : Str) (cs : List Addr) : D → (D → Prop) → Prop
  | .ins C ks xs, P => C ∈ cs ∧ ∃ d, lkp ks xs f = some d ∧ P d
  | _, _ => False
theorem ve_fld (cs : List Addr) {f : Str} {w : WE} (hc : ∀ C ∈ cs, Cls X.K C ∧ NoAttr X.K C f) (he : VE X W e w) (hb : attributeBase e f X.env (eval e X.env) = eval e X.env := by rfl) : VE X W (.Attribute e f pos) (fun ds P => w ds fun x => fldD f cs x P) := by
  refine pe_imp (pe_fld he hb) fun σ H Q h => ?_
  obtain ⟨M0, H0, oa, ds, P, S, hw, k⟩ := h
  refine ⟨M0, H0, oa, ds, _, S, hw, fun x v H1 hx e1 i1 r1 => ?_⟩
  cases x <;> first | exact hx.elim | skip
  rename_i C ks xs
  obtain ⟨hC, d, hl, hp⟩ := hx
  obtain ⟨a, dx, us, rfl, nm, l, t, r⟩ := r1.ins
  obtain ⟨z, hz, rz⟩ := (lkp_fs (f := f) r l).1 d hl
  exact ⟨a, C, dx, _, z, rfl, t, (hc C hC).1, (hc C hC).2, hz, k d z H1 hp e1 i1 rz⟩
/-- e.F, F a constant of the class -/
def conD (f : Str) (tab : List (Addr × D)) : D → (D → Prop) → Prop
  | .ins C ks xs, P => ∃ d, (C, d) ∈ tab ∧ lkp ks xs f = none ∧ P d
  | _, _ => False
theorem ve_con (tab : List (Addr × D)) {f : Str} {w : WE} (hc : ∀ q ∈ tab, Cls X.K q.1 ∧ ∃ v u, Con X.K q.1 f v u ∧ Flat X.K q.2 v) (he : VE X W e w) (hb : attributeBase e f X.env (eval e X.env) = eval e X.env := by rfl) : VE X W (.Attribute e f pos) (fun ds P => w ds fun x => conD f tab x P) := by
  refine pe_imp (pe_con he hb) fun σ H Q h => ?_
  obtain ⟨M0, H0, oa, ds, P, S, hw, k⟩ := h
  refine ⟨M0, H0, oa, ds, _, S, hw, fun x v H1 hx e1 i1 r1 => ?_⟩
  cases x <;> first | exact hx.elim | skip
  rename_i C ks xs
  obtain ⟨d, hC, hl, hp⟩ := hx
  obtain ⟨a, dx, us, rfl, nm, l, t, r⟩ := r1.ins
  have hz := (lkp_fs (f := f) r l).2 hl
  obtain ⟨h1, z, u, h2, h3⟩ := hc (C, d) hC
  exact ⟨a, C, dx, _, z, u, rfl, t, h1, h2, hz, k d z H1 hp e1 i1 (h3 _ _)⟩
/-! ### methods -/
def insD (cs : List Addr) (m : Str) : D → (D → Prop) → Prop
  | .ins C ks xs, P => C ∈ cs ∧ lkp ks xs m = none ∧ P (.ins C ks xs)
  | _, _ => False
theorem insD_of {cs : List Addr} {m : Str} {x : D} {P : D → Prop} (h : insD cs m x P) : ∃ C ks xs, x = .ins C ks xs ∧ C ∈ cs ∧ lkp ks xs m = none ∧ P (.ins C ks xs) := by
  cases x <;> first | exact h.elim | exact ⟨_, _, _, rfl, h.1, h.2.1, h.2.2⟩
section
variable {CX : CXT} {k : Nat} {f : Addr} {fd : FuncData} {ps : List Str} {sp : Sp} {dvs : List V} {dds : List D} {ds0 : List Value} {E : XK} {m : Str} {ta : TE} {t : TA} {cs : List Addr}
def tMethC (cs : List Addr) (m : Str) (sp : Sp) (dvs : List V) (E : XK) (ta : TE) (t : TA) : TE := fun σ H Q => ta σ H fun x H1 => ∃ a C dx fs, x = .ref a ∧ C ∈ cs ∧ H1 a = some (.ins C dx fs) ∧ fs.lookup m = none ∧ t σ H1 fun vs H2 => sp (x :: (vs ++ dvs)) H2 Q E
theorem pe_methC {pl : Sem Bool} (he : PE X o ta) (hc : ∀ C ∈ cs, Cls X.K C ∧ Meth X.K C m f) (F : FnOk X.prog X.w X.K X.mg X.base CX k f fd ps sp) (hr : Room k X.A) (hb : Binds X.K fd ps ds0) (hd : Vals dvs ds0) (hx : Passes CX X E) (ha : PA X (e :: es) t)
    (hst : starEach (e :: es) X.env = (false, eval e X.env) :: starEach es X.env := by rfl) (hpl : (backTo pos (starEach es X.env)).any (·.1) = false := by rfl)
    (ht : eval (.Call (.Attribute o m apos) (e :: es) [] pos) X.env = (do
      let ov ← eval o X.env
      standAt apos.atName
      let (f, first) ← holding [ov] (getMethod ov m pl)
      callWith pos f first (backTo pos (starEach (e :: es) X.env)) (backToKw pos (keywordEach [] X.env))) := by rfl) :
    PE X (.Call (.Attribute o m apos) (e :: es) [] pos) (tMethC cs m sp dvs E ta t) := by
  refine ⟨fun pins s σ H Q I h => ?_⟩
  refine PySem.W.methodCall_KW (pl := pl) (thn (he.run pins s σ H _ I h) fun u s1 ⟨x, H1, I1, rx, a, C, dx, fs, ex, hC, ea, l, q⟩ => ?_) ht
  subst ex
  obtain rfl : u = Value.ref a := rx
  obtain ⟨c, hm⟩ := hc C hC
  refine getmeth_ok I1 ea c hm l ?_
  refine PySem.W.callWith_K (first := [.ref a]) (h₀ := X.base) I.ok.mod.kin hm.kp (thn (ha.run pos pins s1 σ H1 _ I1 q) fun us s2 ⟨vs, H2, I2, r, q2⟩ => ⟨I2.kIn, ?_⟩) hst hpl
  exact run_fn (us := .ref a :: us) (vs := .ref a :: vs) F hr hb hd hx I2 (.cons rfl r) q2
theorem pe_methC0 {pl : Sem Bool} (he : PE X o ta) (hc : ∀ C ∈ cs, Cls X.K C ∧ Meth X.K C m f) (F : FnOk X.prog X.w X.K X.mg X.base CX k f fd ps sp) (hr : Room k X.A) (hb : Binds X.K fd ps ds0) (hd : Vals dvs ds0) (hx : Passes CX X E)
    (ht : eval (.Call (.Attribute o m apos) [] [] pos) X.env = (do
      let ov ← eval o X.env
      standAt apos.atName
      let (f, first) ← holding [ov] (getMethod ov m pl)
      callWith pos f first (backTo pos (starEach [] X.env)) (backToKw pos (keywordEach [] X.env))) := by rfl) :
    PE X (.Call (.Attribute o m apos) [] [] pos) (tMethC cs m sp dvs E ta tNil) := by
  refine ⟨fun pins s σ H Q I h => ?_⟩
  refine PySem.W.methodCall_KW (pl := pl) (thn (he.run pins s σ H _ I h) fun u s1 ⟨x, H1, I1, rx, a, C, dx, fs, ex, hC, ea, l, q⟩ => ?_) ht
  subst ex
  obtain rfl : u = Value.ref a := rx
  obtain ⟨c, hm⟩ := hc C hC
  refine getmeth_ok I1 ea c hm l ?_
  exact PySem.W.callWith_K0 (first := [.ref a]) I1.kIn hm.kp (run_fn (us := [.ref a]) (vs := [.ref a]) F hr hb hd hx I1 (.cons rfl .nil) q)
/-- o.m(e, ..) -/
def wMeth (cs : List Addr) (m : Str) (g : List D → (D → Prop) → (D → Prop) → Prop) (PX : D → Prop) (w : WE) (l : WL) : WE := fun ds P => w ds fun x => insD cs m x fun x => l ds fun xs => g (x :: xs) P PX
theorem ve_methX (cs : List Addr) {pl : Sem Bool} {PX : D → Prop} {g : List D → (D → Prop) → (D → Prop) → Prop} {w : WE} {l : WL} (he : VE X W o w) (hc : ∀ C ∈ cs, Cls X.K C ∧ Meth X.K C m f) (F : FnOk X.prog X.w X.K X.mg X.base (L2.CX X.prog X.w) k f fd ps (spX X.K W g)) (hr : Room k X.A)
    (hb : ∃ ds, Vals dvs ds ∧ Binds X.K fd ps ds) (tk : Takes X (XW X.K W PX)) (hdd : ∀ M H, Reps X.K M H dds dvs) (ha : VA X W (e :: es) l)
    (hst : starEach (e :: es) X.env = (false, eval e X.env) :: starEach es X.env := by rfl) (hpl : (backTo pos (starEach es X.env)).any (·.1) = false := by rfl)
    (ht : eval (.Call (.Attribute o m apos) (e :: es) [] pos) X.env = (do
      let ov ← eval o X.env
      standAt apos.atName
      let (f, first) ← holding [ov] (getMethod ov m pl)
      callWith pos f first (backTo pos (starEach (e :: es) X.env)) (backToKw pos (keywordEach [] X.env))) := by rfl) :
    VE X W (.Call (.Attribute o m apos) (e :: es) [] pos) (wMeth cs m (fun xs P PX => g (xs ++ dds) P PX) PX w l) := by
  obtain ⟨ds0, hd, hb⟩ := hb
  refine pe_imp (pe_methC (cs := cs) he hc F hr hb hd (passesX tk) ha hst hpl ht) fun σ H Q h => ?_
  obtain ⟨M0, H0, oa, ds, P, S, hw, kk⟩ := h
  refine ⟨M0, H0, oa, ds, _, S, hw, fun x v H1 hx e1 i1 r1 => ?_⟩
  obtain ⟨C, ks, ys, rfl, hC, hl, hx⟩ := insD_of hx
  have S1 := S.step e1 i1
  have r1' := r1
  obtain ⟨a, dx, us, rfl, nm, l0, t0, r⟩ := r1'.ins
  refine ⟨a, C, dx, _, rfl, hC, t0, (lkp_fs (f := m) r l0).2 hl, M0, H0, oa, ds, _, S1, hx, fun xs vs H2 hx2 e2 i2 r2 => ?_⟩
  have S2 := S1.step e2 i2
  exact ⟨Mx M0 oa, (.ins C ks ys :: xs) ++ dds, P, PX, S2.mok, (reps_cons (r1.ext S1.mok e2) r2).app (hdd _ _), hx2, fun d v H' hp e i r => kk d v H' hp ((e1.trans e2).trans e) i r, fun cls d H' h => S2.xc h⟩
theorem ve_methX0 (cs : List Addr) {pl : Sem Bool} {PX : D → Prop} {g : List D → (D → Prop) → (D → Prop) → Prop} {w : WE} (he : VE X W o w) (hc : ∀ C ∈ cs, Cls X.K C ∧ Meth X.K C m f) (F : FnOk X.prog X.w X.K X.mg X.base (L2.CX X.prog X.w) k f fd ps (spX X.K W g)) (hr : Room k X.A)
    (hb : ∃ ds, Vals dvs ds ∧ Binds X.K fd ps ds) (tk : Takes X (XW X.K W PX)) (hdd : ∀ M H, Reps X.K M H dds dvs)
    (ht : eval (.Call (.Attribute o m apos) [] [] pos) X.env = (do
      let ov ← eval o X.env
      standAt apos.atName
      let (f, first) ← holding [ov] (getMethod ov m pl)
      callWith pos f first (backTo pos (starEach [] X.env)) (backToKw pos (keywordEach [] X.env))) := by rfl) :
    VE X W (.Call (.Attribute o m apos) [] [] pos) (fun ds P => w ds fun x => insD cs m x fun x => g (x :: dds) P PX) := by
  obtain ⟨ds0, hd, hb⟩ := hb
  refine pe_imp (pe_methC0 (cs := cs) he hc F hr hb hd (passesX tk) ht) fun σ H Q h => ?_
  obtain ⟨M0, H0, oa, ds, P, S, hw, kk⟩ := h
  refine ⟨M0, H0, oa, ds, _, S, hw, fun x v H1 hx e1 i1 r1 => ?_⟩
  obtain ⟨C, ks, ys, rfl, hC, hl, hx⟩ := insD_of hx
  have S1 := S.step e1 i1
  have r1' := r1
  obtain ⟨a, dx, us, rfl, nm, l0, t0, r⟩ := r1'.ins
  refine ⟨a, C, dx, _, rfl, hC, t0, (lkp_fs (f := m) r l0).2 hl, ?_⟩
  show spX X.K W g (.ref a :: ([] ++ dvs)) H1 Q _
  exact ⟨Mx M0 oa, .ins C ks ys :: dds, P, PX, S1.mok, reps_cons r1 (hdd _ _), hx, fun d v H' hp e i r => kk d v H' hp (e1.trans e) i r, fun cls d H' h => S1.xc h⟩
/-- e.f, a property -/
theorem ve_prop (cs : List Addr) {g : List D → (D → Prop) → Prop} {w : WE} {pf : Str} {pa : Addr} (he : VE X W e w) (hc : ∀ C ∈ cs, Cls X.K C ∧ PropOf X.K C pf pa f) (F : FnOk X.prog X.w X.K X.mg X.base CX0 k f fd ps (spD X.K W g)) (hr : Room (k + 1) X.A) (hb : Binds X.K fd ps [])
    (hab : attributeBase e pf X.env (eval e X.env) = eval e X.env := by rfl) : VE X W (.Attribute e pf pos) (fun ds P => w ds fun x => insD cs pf x fun x => g [x] P) := by
  refine ⟨fun pins s σ H Q I h => ?_⟩
  obtain ⟨M0, H0, oa, ds, P, S, hw, kk⟩ := h
  refine attr_of hab (thn (he.run pins s σ H (fun v H1 => ∃ x, insD cs pf x (fun x => g [x] P) ∧ Ext W H H1 ∧ W.I H1 ∧ Rep X.K (Mx M0 oa) H1 x v) I ⟨M0, H0, oa, ds, _, S, hw, fun x v H1 hx e1 i1 r1 => ⟨x, hx, e1, i1, r1⟩⟩) fun u s1 ⟨v, H1, I1, rx, x, hx, e1, i1, r1⟩ => ?_)
  obtain ⟨C, ks, ys, rfl, hC, hl, hx⟩ := insD_of hx
  have S1 := S.step e1 i1
  have r1' := r1
  obtain ⟨a, dx, us, rfl, nm, l0, t0, r⟩ := r1'.ins
  obtain rfl : u = Value.ref a := rx
  obtain ⟨c, hp⟩ := hc C hC
  refine getprop_ok (E := fun _ _ _ => False) I1 t0 c hp F hr hb .nil (fun _ _ _ _ _ _ _ z => z) ⟨Mx M0 oa, [.ins C ks ys], P, S1.mok, reps_cons r1 reps_nil, hx, fun d v H' hp e i r => kk d v H' hp (e1.trans e) i r⟩
end
end
end VL
/-! ### making an instance -/
namespace VL
open PySem PySem.Spec PyProof.Rows L2
/-- an __init__'s promise by data: which fields it leaves, in order -/
def spI (K : PySem.W.Frag) (W : Wd) (C : Addr) (g : List D → (List Str → List D → Prop) → (D → Prop) → Prop) : Sp := fun vs H Q E => ∃ H1 M x dx ds vs' P PX, vs = .ref x :: vs' ∧ H = upd (upd H1 dx (.own x)) x (.ins C dx []) ∧ H1 x = none ∧ H1 dx = none ∧ dx ≠ x ∧
  MOk W M H1 ∧ Reps K M H1 ds vs' ∧ g ds P PX ∧ (∀ ks xs us dx' H', P ks xs → Ext W H1 H' → W.I H' → H' x = some (.ins C dx' (ks.zip us)) → us.length = ks.length → Reps K (fun a => M a ∨ a = x) H' xs us → Q .non H') ∧ ∀ cls d H', XC K W M H1 PX cls d H' → E cls d H'
def miN (x C : Addr) : Sl → (List Str → List D → Prop) → Prop
  | .mi x' C' ks xs, P => x' = x ∧ C' = C ∧ P ks xs
  | _, _ => False
theorem miN_of {x C : Addr} {s : Sl} {P : List Str → List D → Prop} (h : miN x C s P) : ∃ ks xs, s = .mi x C ks xs ∧ P ks xs := by
  cases s <;> first | exact h.elim | (obtain ⟨rfl, rfl, h⟩ := h; exact ⟨_, _, rfl, h⟩)
def startI (x C : Addr) (N : List Str) (ds : List D) : List Sl := .mi x C [] [] :: (ds.map Sl.d ++ List.replicate (N.length - (ds.length + 1)) .un)
def endsI (x C : Addr) (P : List Str → List D → Prop) : EndsD := { nx := fun ds => miN x C (ds.getD 0 .un) P, rt := fun _ => False }
def oaI (x : Addr) : Nat → Option Addr := fun i => if i = 0 then some x else none
theorem oaI_some {x a : Addr} {i : Nat} (h : oaI x i = some a) : i = 0 ∧ x = a := by
  unfold oaI at h
  by_cases hi : i = 0
  · rw [if_pos hi] at h; cases h; exact ⟨hi, rfl⟩
  · rw [if_neg hi] at h; cases h
theorem sat_init {K : PySem.W.Frag} {W : Wd} {M : Addr → Prop} {H1 : Hp} {N : List Str} {ds : List D} {vs : List V} {x dx C : Addr} (m : MOk W M H1) (r : Reps K M H1 ds vs) (hl : ds.length + 1 ≤ N.length) (nx : H1 x = none) (ndx : H1 dx = none) (hne : dx ≠ x) :
    Sat K (W.fx M H1) M H1 (oaI x) (upd (upd H1 dx (.own x)) x (.ins C dx [])) (L2.start N (.ref x :: vs)) (startI x C N ds) := by
  have f : Full H1 (upd (upd H1 dx (.own x)) x (.ins C dx [])) := fun b o e => by
    rw [upd_ne (ne_of_none e nx), upd_ne (ne_of_none e ndx)]
    exact e
  have cr : Car M (Mx M (oaI x)) H1 (upd (upd H1 dx (.own x)) x (.ins C dx [])) := fun b o n q => by
    refine ⟨fun z => ?_, f b o q⟩
    rcases z with z | ⟨i, z⟩
    · exact n z
    · obtain ⟨_, rfl⟩ := oaI_some z
      rw [nx] at q; cases q
  refine ⟨m.wm, m.live, f.ext, W.keep _ _ m.wi f, fun i a h => ?_, fun i j a h1 h2 => ?_, ?_, fun i hi => ?_, fun i s h => ?_, fun _ z => z, fun _ _ _ z => z, fun a h => W.liveB _ _ m.wi h, m.nb, m.nx⟩
  · obtain ⟨_, rfl⟩ := oaI_some h
    exact ⟨nx, m.fresh nx⟩
  · obtain ⟨h1, _⟩ := oaI_some h1
    obtain ⟨h2, _⟩ := oaI_some h2
    rw [h1, h2]
  · unfold startI L2.start
    simp [r.len]
  · have : i ≠ 0 := fun z => by subst z; simp [startI] at hi
    exact if_neg this
  · cases i with
    | zero =>
      cases h
      refine ⟨dx, [], rfl, rfl, rfl, upd_same, reps_nil⟩
    | succ i =>
      have h : (ds.map Sl.d ++ List.replicate (N.length - (ds.length + 1)) .un)[i]? = some s := h
      by_cases hi : i < ds.length
      · rw [List.getElem?_append_left (by simpa using hi), List.getElem?_map] at h
        cases e : ds[i]? with
        | none => rw [e] at h; cases h
        | some d =>
          rw [e] at h; cases h
          obtain ⟨v, hv, rv⟩ := r.get e
          refine ⟨rfl, v, ?_, rv.car cr⟩
          have hi2 : i < vs.length := (List.getElem?_eq_some_iff.mp hv).1
          show ((some (V.ref x)) :: vs.map some ++ _)[i + 1]? = _
          rw [List.cons_append, List.getElem?_cons_succ, List.getElem?_append_left (by simpa using hi2), List.getElem?_map, hv]
          rfl
      · rw [List.getElem?_append_right (by simpa using hi), List.getElem?_replicate] at h
        split at h
        · cases h; rfl
        · cases h
section
variable {P : Program} {w : World} {K : PySem.W.Frag} {mg : Str → Option Value} {base : Heap} {W : Wd} {x qual : Str} {st : Stmt} {f C : Addr} {fd : FuncData} {N ps : List Str} {k : Nat} {g : List D → (List Str → List D → Prop) → (D → Prop) → Prop}
theorem init_body {H1 : Hp} {M : Addr → Prop} {a dx : Addr} {ds : List D} {vs : List V} {Pd : List Str → List D → Prop} {Q : L2.VK} {wb : WS} (hl : ds.length + 1 ≤ N.length) (nx : H1 a = none) (ndx : H1 dx = none) (hne : dx ≠ a) (m : MOk W M H1) (r : Reps K M H1 ds vs)
    (hw : wb (endsI a C Pd) (startI a C N ds)) (k : ∀ ks xs us dx' H', Pd ks xs → Ext W H1 H' → W.I H' → H' a = some (.ins C dx' (ks.zip us)) → us.length = ks.length → Reps K (fun b => M b ∨ b = a) H' xs us → Q .non H') :
    LS K (W.fx M H1) wb { nx := fun _ H' => Q .non H', rt := Q } (L2.start N (.ref a :: vs)) (upd (upd H1 dx (.own a)) a (.ins C dx [])) := by
  refine ⟨M, H1, _, _, _, sat_init (W := W) m r hl nx ndx hne, hw, fun ds' oa' σ' H' hn S' => ?_, fun d v H' z => z.elim, fun _ _ _ _ z => z.elim, fun _ _ _ _ z => z.elim⟩
  obtain ⟨ks, xs, e, hp⟩ := miN_of hn
  have hget : ds'[0]? = some (.mi a C ks xs) := by
    rw [List.getD_eq_getElem?_getD] at e
    cases q : ds'[0]? with
    | none => rw [q] at e; cases e
    | some s => rw [q] at e; exact congrArg some e
  obtain ⟨dx', us, h1, h2, h3, h4, h5⟩ := S'.slot 0 _ hget
  refine k ks xs us dx' H' hp S'.ext S'.wi h4 h3 (h5.car fun b o n q => ⟨fun z => n ?_, q⟩)
  rcases z with z | z
  · exact .inl z
  · rw [z]; exact .inr ⟨0, h1⟩
/-- THE RULE for an __init__ -/
theorem vfnI (F : Fun K x qual st f fd) (S : FnScope N ps (defScope st)) (len : ∀ ds P PX, g ds P PX → ds.length + 1 = ps.length)
    (hb : ∃ wb : (D → Prop) → WS, (∀ (PX : D → Prop) (Mf : Addr → Prop) (Hf : Hp) (cdv : Value) (A : Around) (outer : List Env) (s : Shared) (H : Hp) (E : XK), Room k (A.deeper (envOfC qual (defScope st) s.heap.objs.size f cdv)) →
        Takes (cxOf (L2.CX P w) P w K mg base N qual (defScope st) f cdv A outer s H E) (XW K (W.fx Mf Hf) PX) → VSs (cxOf (L2.CX P w) P w K mg base N qual (defScope st) f cdv A outer s H E) (W.fx Mf Hf) (defBody st) (wb PX)) ∧
      ∀ a ds Q PX, g ds Q PX → wb PX (endsI a C Q) (startI a C N ds)) : FnOk P w K mg base (L2.CX P w) (k + 1) f fd ps (spI K W C g) := by
  obtain ⟨wb, h1, h2⟩ := hb
  refine F.okX S (fun vs H Q E h => ?_) (fun cdv A outer s H vs Q E hr h => ?_)
  · obtain ⟨H1, M, a, dx, ds, vs', P, PX, rfl, _, _, _, _, m, r, hg, _⟩ := h
    rw [← len ds P PX hg, List.length_cons, r.len]
  · obtain ⟨H1, M, a, dx, ds, vs', P', PX, rfl, rfl, nx, ndx, hne, m, r, hg, k, kx⟩ := h
    have hl : ds.length + 1 ≤ N.length := by
      have q := congrArg List.length S.pre
      rw [List.length_take] at q
      rw [len ds P' PX hg]
      omega
    exact ⟨LS K (W.fx M H1) (wb PX), h1 PX M H1 cdv A outer s _ E hr ((takes_of (E := E) rfl rfl rfl rfl).imp fun cls d σ H' hx => kx cls d H' hx), init_body hl nx ndx hne m r (h2 a ds P' PX hg) k⟩
theorem vfnID {dvs : List V} {kws : List (Str × V)} (F : FunD K x qual (defArgs st) (defBody st) (defScope st) dvs kws f fd) (S : FnScope N ps (defScope st)) (len : ∀ ds P PX, g ds P PX → ds.length + 1 = ps.length)
    (hb : ∃ wb : (D → Prop) → WS, (∀ (PX : D → Prop) (Mf : Addr → Prop) (Hf : Hp) (cdv : Value) (A : Around) (outer : List Env) (s : Shared) (H : Hp) (E : XK), Room k (A.deeper (envOfC qual (defScope st) s.heap.objs.size f cdv)) →
        Takes (cxOf (L2.CX P w) P w K mg base N qual (defScope st) f cdv A outer s H E) (XW K (W.fx Mf Hf) PX) → VSs (cxOf (L2.CX P w) P w K mg base N qual (defScope st) f cdv A outer s H E) (W.fx Mf Hf) (defBody st) (wb PX)) ∧
      ∀ a ds Q PX, g ds Q PX → wb PX (endsI a C Q) (startI a C N ds)) : FnOk P w K mg base (L2.CX P w) (k + 1) f fd ps (spI K W C g) := by
  obtain ⟨wb, h1, h2⟩ := hb
  refine F.ok (CX := L2.CX P w) S (fun vs H Q E h => ?_) (fun cdv A outer s H vs Q E hr h => ?_)
  · obtain ⟨H1, M, a, dx, ds, vs', P, PX, rfl, _, _, _, _, m, r, hg, _⟩ := h
    rw [← len ds P PX hg, List.length_cons, r.len]
  · obtain ⟨H1, M, a, dx, ds, vs', P', PX, rfl, rfl, nx, ndx, hne, m, r, hg, k, kx⟩ := h
    have hl : ds.length + 1 ≤ N.length := by
      have q := congrArg List.length S.pre
      rw [List.length_take] at q
      rw [len ds P' PX hg]
      omega
    exact ⟨LS K (W.fx M H1) (wb PX), h1 PX M H1 cdv A outer s _ E hr ((takes_of (E := E) rfl rfl rfl rfl).imp fun cls d σ H' hx => kx cls d H' hx), init_body hl nx ndx hne m r (h2 a ds P' PX hg) k⟩
end
section
variable {X : Cx} {W : Wd} {e o : Expr} {es : List Expr} {pos pos' p apos : Pos} {x : Str}
/-- self.f = e in an __init__ -/
def miS : Sl → (Addr → Addr → List Str → List D → Prop) → Prop
  | .mi a C ks xs, P => P a C ks xs
  | _, _ => False
def wFldO (i : Nat) (f : Str) (cs : List Addr) (w : WE) : WS := fun E ds => w ds fun d => miS (ds.getD i .un) fun a C ks xs => C ∈ cs ∧ f ∉ ks ∧ ks.length < 900 ∧ E.nx (ds.set i (.mi a C (ks ++ [f]) (xs ++ [d])))
theorem vs_fldO (i : Nat) (cs : List Addr) {f : Str} {w : WE} (hc : ∀ C ∈ cs, Cls X.K C ∧ NoAttr X.K C f) (he : VE X W e w) (hN : X.N[i]? = some x := by rfl) (hv : Vis X.env.scope x := by first | exact Or.inl rfl | exact Or.inr (Or.inl rfl) | exact Or.inr (Or.inr rfl))
    (hd : (x == ("__debug__" : Str)) = false := by decide) (hcd : (x == ("__classdict__" : Str)) = false := by decide) (hs : swapsWith e (some (.Attribute (.Name x p) f pos')) pos.line X.env = pure false := by rfl) :
    VS X W (.Assign [.Attribute (.Name x p) f pos'] e pos) (wFldO i f cs w) := by
  refine ps_imp (ps_fld (pe_var hN hv hd hcd) he hs) fun D σ H h => ?_
  obtain ⟨M0, H0, oa, ds, E, S, hw, k1, k2, k3, k4⟩ := h
  refine ⟨M0, H0, oa, ds, _, S, hw, fun d v H1 hd e1 i1 r1 => ?_⟩
  have S1 := S.step e1 i1
  obtain ⟨a, C, ks, xs, hg, hC, hf, hk, hn⟩ : ∃ a C ks xs, ds.getD i .un = .mi a C ks xs ∧ C ∈ cs ∧ f ∉ ks ∧ ks.length < 900 ∧ E.nx (ds.set i (.mi a C (ks ++ [f]) (xs ++ [d]))) := by
    cases q : ds.getD i .un with
    | mi a C ks xs => rw [q] at hd; exact ⟨a, C, ks, xs, rfl, hd⟩
    | _ => rw [q] at hd; exact hd.elim
  have hget : ds[i]? = some (.mi a C ks xs) := by
    rw [List.getD_eq_getElem?_getD] at hg
    cases e : ds[i]? with
    | none => rw [e] at hg; cases hg
    | some s => rw [e] at hg; exact congrArg some hg
  obtain ⟨dx, us, o1, o2, o3, o4, o5⟩ := S1.slot i _ hget
  obtain ⟨z1, z2⟩ := putF_fs r1 o5 o3 hf
  refine ⟨.ref a, o2, a, C, dx, _, rfl, o4, (hc C hC).1, (hc C hC).2, by rw [List.length_zip, o3]; omega, k1 _ oa _ _ hn ?_⟩
  refine S1.mutown (List.getElem?_eq_some_iff.mp hget).1 o1 o2 fun c => ⟨dx, us ++ [v], rfl, rfl, by simp [o3], ?_, z2.car c⟩
  rw [upd_same, z1]
/-- self.f in an __init__ -/
def wFldR (i : Nat) (f : Str) (cs : List Addr) : WE := fun ds P => miS (ds.getD i .un) fun _ C ks xs => C ∈ cs ∧ ∃ d, lkp ks xs f = some d ∧ P d
theorem ve_fldR (i : Nat) (cs : List Addr) {f : Str} (hc : ∀ C ∈ cs, Cls X.K C ∧ NoAttr X.K C f) (hN : X.N[i]? = some x := by rfl) (hv : Vis X.env.scope x := by first | exact Or.inl rfl | exact Or.inr (Or.inl rfl) | exact Or.inr (Or.inr rfl))
    (hd : (x == ("__debug__" : Str)) = false := by decide) (hcd : (x == ("__classdict__" : Str)) = false := by decide) (hb : attributeBase (.Name x p) f X.env (eval (.Name x p) X.env) = eval (.Name x p) X.env := by rfl) : VE X W (.Attribute (.Name x p) f pos) (wFldR i f cs) := by
  refine pe_imp (pe_fld (pe_var hN hv hd hcd) hb) fun σ H Q h => ?_
  obtain ⟨M0, H0, oa, ds, P, S, hw, k⟩ := h
  obtain ⟨a, C, ks, xs, hg, hC, d, hl, hp⟩ : ∃ a C ks xs, ds.getD i .un = .mi a C ks xs ∧ C ∈ cs ∧ ∃ d, lkp ks xs f = some d ∧ P d := by
    unfold wFldR at hw
    cases q : ds.getD i .un with
    | mi a C ks xs => rw [q] at hw; exact ⟨a, C, ks, xs, rfl, hw⟩
    | _ => rw [q] at hw; exact hw.elim
  have hget : ds[i]? = some (.mi a C ks xs) := by
    rw [List.getD_eq_getElem?_getD] at hg
    cases e : ds[i]? with
    | none => rw [e] at hg; cases hg
    | some s => rw [e] at hg; exact congrArg some hg
  obtain ⟨dx, us, o1, o2, o3, o4, o5⟩ := S.slot i _ hget
  obtain ⟨z, hz, rz⟩ := (lkp_fs (f := f) o5 o3).1 d hl
  exact ⟨.ref a, o2, a, C, dx, _, z, rfl, o4, (hc C hC).1, (hc C hC).2, hz, k d z H hp (Ext.refl H) S.wi rz⟩
section
variable {C f : Addr} {fd : FuncData} {ps : List Str} {k n : Nat} {g : List D → (List Str → List D → Prop) → (D → Prop) → Prop} {PX : D → Prop} {l lk : WL} {dvs : List V} {dds : List D}
/-- C(..) -/
def wMake (C : Addr) (g : List D → (List Str → List D → Prop) → (D → Prop) → Prop) (PX : D → Prop) (l : WL) : WE := fun ds P => l ds fun xs => g xs (fun ks ys => P (.ins C ks ys)) PX
theorem make_rep {K : PySem.W.Frag} {M : Addr → Prop} {H : Hp} {a dx : Addr} {ks : List Str} {xs : List D} {us : List V} (nm : ¬ M a) (l : us.length = ks.length) (t : H a = some (.ins C dx (ks.zip us))) (r : Reps K (fun b => M b ∨ b = a) H xs us) : Rep K M H (.ins C ks xs) (.ref a) :=
  rep_ins nm l t (r.car fun b o n q => ⟨fun z => n (.inl z), q⟩)
theorem ve_make (M : Mk X.K C f) (F : FnOk X.prog X.w X.K X.mg X.base (L2.CX X.prog X.w) k f fd ps (spI X.K W C g)) (hr : Room (k + 1) X.A) (hg : Gl X x) (hm : X.mg x = some (.ref C)) (hb : ∃ ds, Vals dvs ds ∧ Binds X.K fd ps ds) (hdd : ∀ M H, Reps X.K M H dds dvs)
    (tk : Takes X (XW X.K W PX)) (ha : VA X W (e :: es) l) (hdb : (x == ("__debug__" : Str)) = false := by decide) (he : starEach (e :: es) X.env = (false, eval e X.env) :: starEach es X.env := by rfl) (hpl : (backTo pos (starEach es X.env)).any (·.1) = false := by rfl) :
    VE X W (.Call (.Name x p) (e :: es) [] pos) (wMake C (fun xs P PX => g (xs ++ dds) P PX) PX l) := by
  obtain ⟨ds0, hd, hb⟩ := hb
  refine pe_imp (pe_make M F hr hg hm hb hd (passesX tk) ha hdb he hpl) fun σ H Q h => ?_
  obtain ⟨M0, H0, oa, ds, P, S, hw, kk⟩ := h
  refine ⟨M0, H0, oa, ds, _, S, hw, fun xs vs H1 hx e1 i1 r1 => fun a dx na ndx hne => ?_⟩
  have S1 := S.step e1 i1
  exact ⟨H1, Mx M0 oa, a, dx, xs ++ dds, vs ++ dvs, _, PX, rfl, rfl, na, ndx, hne, S1.mok, r1.app (hdd _ _), hx, fun ks ys us dx' H' hp e i t l r => ⟨rfl, kk _ _ H' hp (e1.trans e) i (make_rep (S1.mok.fresh na) l t r)⟩, fun cls d H' h => S1.xc h⟩
/-- C(.., k = v, ..) -/
def wMakeK (C : Addr) (n m : Nat) (gD : List D → List D → List D) (g : List D → (List Str → List D → Prop) → (D → Prop) → Prop) (PX : D → Prop) (l lk : WL) : WE := fun ds P => l ds fun xs => lk ds fun zs => xs.length = n ∧ zs.length = m ∧ g (gD xs zs) (fun ks ys => P (.ins C ks ys)) PX
theorem ve_makeK {ks : List Str} {kws : List Keyword} {gV : List V → List V → List V} (gD : List D → List D → List D) (M : Mk X.K C f) (F : FnOk X.prog X.w X.K X.mg X.base (L2.CX X.prog X.w) k f fd ps (spI X.K W C g)) (hr : Room (k + 1) X.A) (hg : Gl X x) (hm : X.mg x = some (.ref C))
    (hb : ∃ gU, KBn X.K fd ps (n + 1) ks gU gV) (hG : ∀ M H a xs zs vs us, Reps X.K M H xs vs → Reps X.K M H zs us → xs.length = n → zs.length = ks.length → ∃ vr, gV (.ref a :: vs) us = .ref a :: vr ∧ Reps X.K M H (gD xs zs) vr) (tk : Takes X (XW X.K W PX)) (ha : VA X W (e :: es) l) (hkw : VK X W kws lk)
    (hall : (backToKw pos (keywordEach kws X.env)).all (·.1.isSome) = true := by rfl) (hks : (backToKw pos (keywordEach kws X.env)).filterMap (·.1) = ks := by rfl) (hdb : (x == ("__debug__" : Str)) = false := by decide)
    (he : starEach (e :: es) X.env = (false, eval e X.env) :: starEach es X.env := by rfl) (hpl : ((backTo pos (starEach (e :: es) X.env)).any (·.1) || (backToKw pos (keywordEach kws X.env)).any (·.1.isNone)) = false := by rfl) :
    VE X W (.Call (.Name x p) (e :: es) kws pos) (wMakeK C n ks.length gD g PX l lk) := by
  obtain ⟨gU, hb⟩ := hb
  refine pe_imp (pe_makeK M F hr hg hm hb (passesX tk) ha hkw hall hks hdb he hpl) fun σ H Q h => ?_
  obtain ⟨M0, H0, oa, ds, P, S, hw, kk⟩ := h
  refine ⟨M0, H0, oa, ds, _, S, hw, fun xs vs H1 hx e1 i1 r1 => ?_⟩
  have S1 := S.step e1 i1
  refine ⟨M0, H0, oa, ds, _, S1, hx, fun zs us H2 hx2 e2 i2 r2 => ?_⟩
  have S2 := S1.step e2 i2
  obtain ⟨l1, l2, hx2⟩ := hx2
  refine ⟨by rw [r1.len, l1], by rw [r2.len, l2], fun a dx na ndx hne => ?_⟩
  obtain ⟨vr, ev, rr⟩ := hG _ _ a _ _ _ _ (r1.ext S1.mok e2) r2 l1 l2
  exact ⟨H2, Mx M0 oa, a, dx, gD xs zs, vr, _, PX, ev, rfl, na, ndx, hne, S2.mok, rr, hx2, fun ks ys us dx' H' hp e i t l r => ⟨rfl, kk _ _ H' hp ((e1.trans e2).trans e) i (make_rep (S2.mok.fresh na) l t r)⟩, fun cls d H' h => S2.xc h⟩
end
end
end VL
/-! ### operators of own classes -/
namespace PySem.W
open PySem PySem.Calls PyProof.Rows Builtin
section
variable {prog : Program} {w : World} {A : Around} {E : Value → Shared → Prop} {s : Shared} {K : Frag} {x C L f : Addr} {h₀ : Heap} {m : Str → Option Value} {ox : Obj} {od : Option Obj} {T : String}
/-- the right side of a built-in type -/
theorem vi_binT {op : Operator} {b : Value} {fo ro rc : Option Value} {Q : Value → Shared → Prop} (F : Fr h₀ L s.heap m) (X₀ : K.In h₀) (I : InstAt s.heap x ox C od) (hb : Looks (model prog w) s.heap (typeOf b) (.type T)) (hc : selfFirst K C = true)
    (hs : findIn K (.ref C) (PySem.dunder op.info.2) = some (some (.ref f))) (hf : isFn K (.ref f) = true) (hr : findIn K (.ref C) (dunderR op.info.2) = some rc) (hp : rc = none ∨ ∃ g : Addr, rc = some (.ref g))
    (h1 : findIn K (.type T) (PySem.dunder op.info.2) = some fo) (h2 : findIn K (.type T) (dunderR op.info.2) = some ro) (hsub : subIn K (.type T) (.ref C) = some false)
    (h : wpAny (model prog w) A (call (.ref f) [.ref x, b]) (CmpBack Q) E s) : wpAny (model prog w) A (binaryOp op (.ref x) b) Q E s := by
  have X := X₀.keeps F.keep
  obtain ⟨cd, rest, hcd, hm⟩ := ksp_first hc
  rcases hi : op.info with ⟨sym, nm'⟩
  rw [hi] at hs hr h1 h2
  dsimp only at hs hr h1 h2
  have one := ksp_try X I hs hf h
  obtain ⟨hh, g, d, tt, os⟩ := s
  have L1 : Looks (model prog w) hh (typeOf (.ref x)) (.ref C) := I.type
  have L2 : Looks (model prog w) hh (typeOf b) (.type T) := hb
  have L3 : Looks (model prog w) hh (fillsNumberSlot (.ref C) nm') true := fills_K X hcd hm hs
  have L4 : Looks (model prog w) hh (fillsNumberSlot (.type T) nm') ((fo.isSome && !isSeqSlot fo) || (ro.isSome && !isSeqSlot ro)) := ksp_fillsT X h1 h2
  have L5 : Looks (model prog w) hh (isSubtype (.type T) (.ref C)) false := looks_subIn X hsub
  have L6 : Looks (model prog w) hh (numberSlotInPython (.ref C) nm') true := ksp_inPy X hs hr hp
  have L7 : Looks (model prog w) hh (numberSlotInPython (.type T) nm') false := Looks.of_pure rfl
  have L8 : Looks (model prog w) hh (typeLookup (.type T) (dunderR nm')) ro := looks_findIn X h2
  generalize ((fo.isSome && !isSeqSlot fo) || (ro.isSome && !isSeqSlot ro)) = right at L4
  have hne : (Value.ref C == Value.type T) = false := Bool.eq_false_iff.mpr fun q => by cases beq_iff_eq.mp q
  simp only [binaryOp, hi]
  refine wpAny_holding (wpAny_bind ?_)
  unfold binaryOp1
  refine wpAny_bind (L1.at (wpAny_bind (L2.at (wpAny_bind (L3.at ?_)))))
  simp only [hne, Bool.false_eq_true, if_false]
  cases right with
  | false =>
    ksp_lk
    refine wpAny_mono one (fun r s' hr' => ?_) fun _ _ e => e
    obtain ⟨v, rfl, hq⟩ := hr'
    ksp_lk
    exact hq
  | true =>
    ksp_lk
    refine wpAny_mono one (fun r s' hr' => ?_) fun _ _ e => e
    obtain ⟨v, rfl, hq⟩ := hr'
    ksp_lk
    exact hq
end
end PySem.W
namespace PySem.W
open PySem PySem.Calls PyProof.Rows Builtin
/-- no class of it has the operator with = -/
def noInp (K : Frag) (C : Addr) (nm : String) : Bool := (clsIn K C).any fun cd => cd.mro.all fun c => findIn K c (dunderI nm) == some none
section
variable {prog : Program} {w : World} {A : Around} {E : Value → Shared → Prop} {s : Shared} {K : Frag} {x C C' L f f' : Addr} {h₀ : Heap} {m : Str → Option Value} {ox : Obj} {od : Option Obj} {nm : String}
theorem vi_anyNone {M : Model} {h : Heap} (X : K.In h) {add : Bool} : ∀ l : List Value, (l.all fun c => findIn K c (dunderI nm) == some none) = true → Looks M h (l.anyM fun c => do
    let some x ← typeLookup c (dunderI nm) | return false
    if let .type _ := c then return !isSeqSlot (some x)
    if !ownNameWrapper x (dunderI nm) then return true
    if !(← inheritsSeqSlot c (dunderI nm)) then return true
    if add then return (← seqSlot? c (dunderI nm)).isSome
    return false) false
  | [], _ => by intro A Q E s k q; rw [List.anyM_nil]; exact wpAny_pure q
  | c :: r, e => by
    obtain ⟨a, b⟩ := Bool.and_eq_true_iff.mp (List.all_cons ▸ e)
    intro A Q E s k q
    rw [List.anyM_cons]
    refine wpAny_bind (wpAny_bind (looks_findIn X (beq_iff_eq.mp a) A _ E s k ?_))
    exact wpAny_pure (vi_anyNone X r b A Q E s k q)
theorem vi_noFill {M : Model} {h : Heap} {add : Bool} (X : K.In h) (hn : noInp K C nm = true) : Looks M h (fillsInplaceSlot (.ref C) nm add) false := by
  obtain ⟨cd, hcd, ha⟩ := any_some hn
  have Lm : Looks M h (mroOf (.ref C)) cd.mro := (looks_clsIn X hcd).andThen (f := fun cd => pure cd.mro) .now
  intro A Q E s k q
  unfold fillsInplaceSlot
  exact wpAny_bind (Lm A _ E s k (vi_anyNone X cd.mro ha A Q E s k q))
theorem vi_inp2 {op : Operator} {b : Addr} {rc rc' : Option Value} {Q : Value → Shared → Prop} {ox' : Obj} {od' : Option Obj} (F : Fr h₀ L s.heap m) (X₀ : K.In h₀) (I : InstAt s.heap x ox C od) (I' : InstAt s.heap b ox' C' od') (hne : C ≠ C') (hni : noInp K C op.info.2 = true) (hc : selfFirst K C = true) (hc' : selfFirst K C' = true)
    (hs : findIn K (.ref C) (PySem.dunder op.info.2) = some (some (.ref f))) (hf : isFn K (.ref f) = true) (hr : findIn K (.ref C) (dunderR op.info.2) = some rc) (hp : rc = none ∨ ∃ g : Addr, rc = some (.ref g))
    (hs' : findIn K (.ref C') (PySem.dunder op.info.2) = some (some (.ref f'))) (hr' : findIn K (.ref C') (dunderR op.info.2) = some rc') (hp' : rc' = none ∨ ∃ g : Addr, rc' = some (.ref g)) (hsub : subIn K (.ref C') (.ref C) = some false)
    (h : wpAny (model prog w) A (call (.ref f) [.ref x, .ref b]) (CmpBack Q) E s) : wpAny (model prog w) A (inplaceOp op (.ref x) (.ref b)) Q E s := by
  have X := X₀.keeps F.keep
  obtain ⟨cd, rest, hcd, hm⟩ := ksp_first hc
  obtain ⟨cd', rest', hcd', hm'⟩ := ksp_first hc'
  rcases hi : op.info with ⟨sym, nm'⟩
  rw [hi] at hs hr hs' hr' hni
  dsimp only at hs hr hs' hr' hni
  have one := ksp_try X I hs hf h
  obtain ⟨hh, g, d, tt, os⟩ := s
  have L1 : Looks (model prog w) hh (typeOf (.ref x)) (.ref C) := I.type
  have L0 : Looks (model prog w) hh (fillsInplaceSlot (.ref C) nm' (op == .Add)) false := vi_noFill X hni
  have L2 : Looks (model prog w) hh (typeOf (.ref b)) (.ref C') := I'.type
  have L3 : Looks (model prog w) hh (fillsNumberSlot (.ref C) nm') true := fills_K X hcd hm hs
  have L4 : Looks (model prog w) hh (fillsNumberSlot (.ref C') nm') true := fills_K X hcd' hm' hs'
  have L5 : Looks (model prog w) hh (isSubtype (.ref C') (.ref C)) false := looks_subIn X hsub
  have L6 : Looks (model prog w) hh (numberSlotInPython (.ref C) nm') true := ksp_inPy X hs hr hp
  have L7 : Looks (model prog w) hh (numberSlotInPython (.ref C') nm') true := ksp_inPy X hs' hr' hp'
  have hne' : (Value.ref C == Value.ref C') = false := Bool.eq_false_iff.mpr fun q => by cases beq_iff_eq.mp q; exact hne rfl
  unfold inplaceOp
  simp only [hi]
  refine wpAny_holding (wpAny_bind (L1.at (wpAny_bind (L0.at ?_))))
  simp only [Bool.false_eq_true, if_false]
  refine wpAny_bind ?_
  unfold binaryOp1
  refine wpAny_bind (L1.at (wpAny_bind (L2.at (wpAny_bind (L3.at ?_)))))
  simp only [hne', Bool.false_eq_true, if_false]
  ksp_lk
  refine wpAny_mono one (fun r s' hr' => ?_) fun _ _ e => e
  obtain ⟨v, rfl, hq⟩ := hr'
  ksp_lk
  exact hq
end
end PySem.W
namespace VL
open PySem PySem.Spec PyProof.Rows L2
theorem fnR_of {P : Program} {w : World} {K : PySem.W.Frag} {mg : Str → Option Value} {base : Heap} {CX : CXT} {k : Nat} {f : Addr} {fd : FuncData} {ps : List Str} {sp : Sp} (F : FnOk P w K mg base CX k f fd ps sp) (hb : Binds K fd ps []) : FnR P w K mg base CX k f sp := fun A outer s H us vs Q E hr e0 r h => by
  have hl : (us ++ ([] : List Value)).length = ps.length := by rw [List.append_nil, ← r.length]; exact F.len _ _ _ _ h
  have q := hb s us (e0.mod.kin.keeps fun b o e => (e0.bs b o e).1) hl
  rw [List.append_nil] at q
  exact F.run A outer s H ⟨us, []⟩ us vs Q E hr e0 q r h
abbrev GX := List D → (D → Prop) → (D → Prop) → Prop
/-- the def of a special name of a class, its promise -/
structure OpM (P : Program) (w : World) (K : PySem.W.Frag) (mg : Str → Option Value) (base : Heap) (W : Wd) (k : Nat) (name : Str) (C : Addr) (g : GX) : Prop where
  ex : ∃ f, PySem.W.findIn K (.ref C) name = some (some (.ref f)) ∧ PySem.W.isFn K (.ref f) = true ∧ FnR P w K mg base (L2.CX P w) k f (spX K W g)
/-- a class that has the operator, not the one with exchanged sides -/
structure BinC (K : PySem.W.Frag) (op : Operator) (C : Addr) : Prop where
  sf : PySem.W.selfFirst K C = true
  nr : PySem.W.findIn K (.ref C) (dunderR op.info.2) = some none
  at_ : ∃ f : Addr, PySem.W.findIn K (.ref C) (PySem.dunder op.info.2) = some (some (.ref f))
structure BinT (K : PySem.W.Frag) (op : Operator) (C : Addr) (T : String) : Prop where
  h1 : ∃ fo, PySem.W.findIn K (.type T) (PySem.dunder op.info.2) = some fo
  h2 : ∃ ro, PySem.W.findIn K (.type T) (dunderR op.info.2) = some ro
  sub : PySem.W.subIn K (.type T) (.ref C) = some false
/-- right sides: instances of these classes, data of these types -/
def okR (fam : List (Addr × Addr)) (bt : List (Addr × String)) (C : Addr) : D → Prop
  | .ins C' _ _ => (C, C') ∈ fam
  | y => noHnd y = true ∧ (C, tyN y) ∈ bt
def binI (f0 : D → D → (D → Prop) → Prop) (tab : List (Addr × GX)) (fam : List (Addr × Addr)) (bt : List (Addr × String)) (PX : D → Prop) : D → D → (D → Prop) → Prop
  | .ins C ks xs, y, P => ∃ g, (C, g) ∈ tab ∧ okR fam bt C y ∧ g [.ins C ks xs, y] P PX
  | x, y, P => f0 x y P
theorem binI_of {f0 : D → D → (D → Prop) → Prop} {tab : List (Addr × GX)} {fam : List (Addr × Addr)} {bt : List (Addr × String)} {PX : D → Prop} {x y : D} {P : D → Prop} (h : binI f0 tab fam bt PX x y P) :
    f0 x y P ∨ ∃ C ks xs g, x = .ins C ks xs ∧ (C, g) ∈ tab ∧ okR fam bt C y ∧ g [.ins C ks xs, y] P PX := by
  cases x <;> first | exact .inl h | (obtain ⟨g, h1, h2, h3⟩ := h; exact .inr ⟨_, _, _, g, rfl, h1, h2, h3⟩)
section
variable {X : Cx} {W : Wd} {a b e : Expr} {es : List Expr} {pos : Pos} {k : Nat} {PX : D → Prop}
/-- what the right side is, in the heap -/
inductive RgV (K : PySem.W.Frag) (H : Hp) : V → Value → Prop where
  | ins {b C' dy : Addr} {ws : List (Str × V)} (h : H b = some (.ins C' dy ws)) : RgV K H (.ref b) (.ref C')
  | ty {y : V} {T : String} (h : TyX K H y (.type T)) : RgV K H y (.type T)
def rOwnI (X : Cx) (op : Operator) (W : Wd) (k : Nat) (PX : D → Prop) : R2 := fun x y H Q => ∃ a C dx fs tb g, x = .ref a ∧ H a = some (.ins C dx fs) ∧ RgV X.K H y tb ∧ BinC X.K op C ∧ OpM X.prog X.w X.K X.mg X.base W k (PySem.dunder op.info.2) C g ∧
  (tb = .ref C ∨ (∃ C', tb = .ref C' ∧ BinC X.K op C' ∧ PySem.W.subIn X.K (.ref C') (.ref C) = some false) ∨ ∃ T, tb = .type T ∧ BinT X.K op C T) ∧ spX X.K W g [x, y] H Q (EX X.K W PX)
theorem RgV.looks {K : PySem.W.Frag} {H : Hp} {pins : List (Addr × Obj)} {σ : L2.St} {s : Shared} {y : V} {u tb : Value} (hK : X.K = K) (I : Inv X pins σ H s) (r : RelV y u) (h : RgV K H y tb) (M : Model) : PySem.W.Looks M s.heap (typeOf u) tb := by
  subst hK
  cases h with
  | ins h =>
    obtain rfl : u = Value.ref _ := r
    obtain ⟨mA, O, _⟩ := ins_get I.hok h
    obtain ⟨od, J, _⟩ := O.look
    exact J.type
  | ty h =>
    obtain ⟨P, Z, p, _⟩ := kit_of I r h
    exact Z.ty M s.heap I.kIn p
theorem op_ownI {op : Operator} (hr : Room k X.A) (tk : Takes X (XW X.K W PX)) : OpR X (binaryOp op) (rOwnI X op W k PX) := by
  intro pins s σ H x y v u Q I rx ry h
  obtain ⟨a, C, dx, fs, tb, g, rfl, ha, hy, hC, ⟨f, h1, h2, F⟩, hc, q⟩ := h
  cases (show v = Value.ref a from rx)
  obtain ⟨mA, O, _⟩ := ins_get I.hok ha
  obtain ⟨od, J, _⟩ := O.look
  obtain ⟨m, fr⟩ := I.fr
  have hcall : wpAny (model X.prog X.w) X.A (call (.ref f) [.ref a, u]) (PySem.W.CmpBack (EP X pins σ Q)) X.xe s := by
    refine wpAny_mono (wpAny_call (run_fnR (us := [.ref a, u]) (vs := [.ref a, y]) F hr (passesX tk) I (.cons rfl (.cons ry .nil)) q)) (fun z s' hz => ?_) fun _ _ z => z
    obtain ⟨z', H', I', rz, qz⟩ := hz
    exact SlX.cmpback rz ⟨z', H', I', rz, qz⟩
  rcases hc with rfl | ⟨C', rfl, hC', hsub⟩ | ⟨T, rfl, hT⟩
  · exact PySem.W.binop_K fr I.ok.mod.kin J (hy.looks rfl I ry _) hC.sf h1 h2 hcall
  · by_cases e : C = C'
    · subst e
      exact PySem.W.binop_K fr I.ok.mod.kin J (hy.looks rfl I ry _) hC.sf h1 h2 hcall
    · generalize htb : Value.ref C' = tb at hy
      cases hy with
      | @ins b C2 dy ws hb =>
        cases htb
        cases (show u = Value.ref b from ry)
        obtain ⟨mA', O', _⟩ := ins_get I.hok hb
        obtain ⟨od', J', _⟩ := O'.look
        obtain ⟨f', hf'⟩ := hC'.at_
        exact PySem.W.vi_bin2 fr I.ok.mod.kin J J' e hC.sf hC'.sf h1 h2 hC.nr (.inl rfl) hf' hC'.nr (.inl rfl) hsub hcall
      | ty _ => cases htb
  · obtain ⟨fo, e1⟩ := hT.h1
    obtain ⟨ro, e2⟩ := hT.h2
    exact PySem.W.vi_binT fr I.ok.mod.kin J (hy.looks rfl I ry _) hC.sf h1 h2 hC.nr (.inl rfl) e1 e2 hT.sub hcall
theorem rep_rgv {K : PySem.W.Frag} {M : Addr → Prop} {H : Hp} {y : D} {u : V} (r : Rep K M H y u) (h : (∃ C ks xs, y = .ins C ks xs) ∨ noHnd y = true) : ∃ tb, RgV K H u tb ∧ (∀ C ks xs, y = .ins C ks xs → tb = .ref C) ∧ (noHnd y = true → tb = .type (tyN y)) := by
  rcases h with ⟨C, ks, xs, rfl⟩ | h
  · obtain ⟨a, dx, us, rfl, _, _, t, _⟩ := r.ins
    exact ⟨.ref C, .ins t, fun _ _ _ e => by cases e; rfl, fun z => by cases z⟩
  · exact ⟨.type (tyN y), .ty (r.ty h), fun C ks xs (e : y = .ins C ks xs) => (by rw [e] at h; cases h), fun _ => rfl⟩
theorem okR_cases {fam : List (Addr × Addr)} {bt : List (Addr × String)} {C : Addr} {y : D} (h : okR fam bt C y) : (∃ C' ks xs, y = .ins C' ks xs ∧ (C, C') ∈ fam) ∨ (noHnd y = true ∧ (C, tyN y) ∈ bt) := by
  cases y <;> first | exact .inl ⟨_, _, _, rfl, h⟩ | exact .inr h
theorem ve_binI {op : Operator} {f0 : D → D → (D → Prop) → Prop} {r0 : R2} {wa wb : WE} (tab : List (Addr × GX)) (fam : List (Addr × Addr)) (bt : List (Addr × String)) (ho : OpR X (binaryOp op) r0) (hf : LiftOp X.K W f0 r0) (hr : Room k X.A) (tk : Takes X (XW X.K W PX))
    (htab : ∀ q ∈ tab, BinC X.K op q.1 ∧ OpM X.prog X.w X.K X.mg X.base W k (PySem.dunder op.info.2) q.1 q.2) (hfam : ∀ q ∈ fam, q.1 = q.2 ∨ (BinC X.K op q.2 ∧ PySem.W.subIn X.K (.ref q.2) (.ref q.1) = some false)) (hbt : ∀ q ∈ bt, BinT X.K op q.1 q.2) (ha : VE X W a wa) (hb : VE X W b wb) :
    VE X W (.BinOp a op b pos) (wOp (binI f0 tab fam bt PX) wa wb) := by
  refine pe_imp (pe_op (OpR.or ho (op_ownI hr tk)) ha hb) fun σ H Q h => ?_
  obtain ⟨M0, H0, oa, ds, P, S, hw, kk⟩ := h
  refine ⟨M0, H0, oa, ds, _, S, hw, fun x v H1 hx e1 i1 r1 => ?_⟩
  have S1 := S.step e1 i1
  refine ⟨M0, H0, oa, ds, _, S1, hx, fun y u H2 hy e2 i2 r2 => ?_⟩
  have S2 := S1.step e2 i2
  have r1' := r1.ext S1.mok e2
  rcases binI_of hy with hy | ⟨C, ks, xs, g, rfl, ht, hok, hg⟩
  · exact .inl (hf (Mx M0 oa) H2 x y v u P Q S2.mok r1' r2 hy fun d z H' hp e i r => kk d z H' hp ((e1.trans e2).trans e) i r)
  · refine .inr ?_
    have r1'' := r1'
    obtain ⟨p, dx, us, rfl, nm, l0, t0, r⟩ := r1''.ins
    obtain ⟨hC, hM⟩ := htab _ ht
    obtain ⟨tb, hrg, q1, q2⟩ := rep_rgv r2 ((okR_cases hok).elim (fun ⟨C', ks', xs', e, _⟩ => .inl ⟨C', ks', xs', e⟩) fun z => .inr z.1)
    refine ⟨p, C, dx, _, tb, g, rfl, t0, hrg, hC, hM, ?_, Mx M0 oa, [.ins C ks xs, y], P, PX, S2.mok, reps_cons r1' (reps_cons r2 reps_nil), hg, fun d v H' hp e i r => kk d v H' hp ((e1.trans e2).trans e) i r, fun cls d H' h => S2.xc h⟩
    rcases okR_cases hok with ⟨C', ks', xs', e, hm⟩ | ⟨hn, hm⟩
    · rcases hfam _ hm with e' | ⟨e1', e2'⟩
      · exact .inl (by rw [q1 _ _ _ e]; exact congrArg Value.ref e'.symm)
      · exact .inr (.inl ⟨C', q1 _ _ _ e, e1', e2'⟩)
    · exact .inr (.inr ⟨_, q2 hn, hbt _ hm⟩)
/-! x op= e, x an instance of a class without that very operator, e one of another class -/
def augI (tab : List (Addr × GX)) (fam : List (Addr × Addr)) (PX : D → Prop) : D → D → (D → Prop) → Prop
  | .ins C ks xs, .ins C' ks' xs', P => ∃ g, (C, g) ∈ tab ∧ (C, C') ∈ fam ∧ g [.ins C ks xs, .ins C' ks' xs'] P PX
  | _, _, _ => False
def rAugI (X : Cx) (op : Operator) (W : Wd) (k : Nat) (PX : D → Prop) : R2 := fun x y H Q => ∃ a C dx fs b C' dy ws g, x = .ref a ∧ H a = some (.ins C dx fs) ∧ y = .ref b ∧ H b = some (.ins C' dy ws) ∧ C ≠ C' ∧ BinC X.K op C ∧ PySem.W.noInp X.K C op.info.2 = true ∧ OpM X.prog X.w X.K X.mg X.base W k (PySem.dunder op.info.2) C g ∧
  BinC X.K op C' ∧ PySem.W.subIn X.K (.ref C') (.ref C) = some false ∧ spX X.K W g [x, y] H Q (EX X.K W PX)
theorem ip_ownI {op : Operator} (hr : Room k X.A) (tk : Takes X (XW X.K W PX)) : PIp X op (rAugI X op W k PX) := by
  intro pins s σ H x y v u Q I rx ry h
  obtain ⟨a, C, dx, fs, b, C', dy, ws, g, rfl, ha, rfl, hb, ne, hC, hni, ⟨f, h1, h2, F⟩, hC', hsub, q⟩ := h
  cases (show v = Value.ref a from rx)
  cases (show u = Value.ref b from ry)
  obtain ⟨mA, O, _⟩ := ins_get I.hok ha
  obtain ⟨od, J, _⟩ := O.look
  obtain ⟨mA', O', _⟩ := ins_get I.hok hb
  obtain ⟨od', J', _⟩ := O'.look
  obtain ⟨m, fr⟩ := I.fr
  obtain ⟨f', hf'⟩ := hC'.at_
  refine PySem.W.vi_inp2 fr I.ok.mod.kin J J' ne hni hC.sf hC'.sf h1 h2 hC.nr (.inl rfl) hf' hC'.nr (.inl rfl) hsub ?_
  refine wpAny_mono (wpAny_call (run_fnR (us := [.ref a, .ref b]) (vs := [.ref a, .ref b]) F hr (passesX tk) I (.cons rfl (.cons rfl .nil)) q)) (fun z s' hz => ?_) fun _ _ z => z
  obtain ⟨z', H', I', rz, qz⟩ := hz
  exact SlX.cmpback rz ⟨z', H', I', rz, qz⟩
theorem vs_augI (i : Nat) {op : Operator} {x : Str} {w : WE} {pos' : Pos} (tab : List (Addr × GX)) (fam : List (Addr × Addr)) (hN : X.N.Nodup) (he : VE X W e w) (hr : Room k X.A) (tk : Takes X (XW X.K W PX)) (htab : ∀ q ∈ tab, BinC X.K op q.1 ∧ OpM X.prog X.w X.K X.mg X.base W k (PySem.dunder op.info.2) q.1 q.2)
    (hfam : ∀ q ∈ fam, q.1 ≠ q.2 ∧ PySem.W.noInp X.K q.1 op.info.2 = true ∧ BinC X.K op q.2 ∧ PySem.W.subIn X.K (.ref q.2) (.ref q.1) = some false) (hi : X.N[i]? = some x := by rfl) (hx : Loc X.env.scope x := by first | exact Or.inl rfl | exact Or.inr rfl)
    (hf : X.fn x = true ∨ X.env.scope.names.lookup x = some .local := by first | exact .inl rfl | exact .inr rfl | assumption) :
    VS X W (.AugAssign (.Name x pos') op e pos) (fun E ds => slD (ds.getD i .un) fun x => w ds fun y => augI tab fam PX x y fun d => E.nx (ds.set i (.d d))) := by
  refine ps_imp (ps_aug hN hi hx he (ip_ownI (op := op) hr tk) hf) fun D σ H h => ?_
  obtain ⟨M0, H0, oa, ds, E, S, hw, k1, k2, k3, k4⟩ := h
  obtain ⟨xd, e, hp⟩ := slD_of hw
  obtain ⟨v, h1, r⟩ := S.get (getD_get e)
  refine ⟨v, h1, M0, H0, oa, ds, _, S, hp, fun y u H1 hy e1 i1 r1 => ?_⟩
  have S1 := S.step e1 i1
  have rx := r.ext S.mok e1
  cases xd <;> cases y <;> first | exact hy.elim | skip
  rename_i C ks xs C' ks' xs'
  obtain ⟨g, ht, hm, hg⟩ := hy
  obtain ⟨hC, hM⟩ := htab _ ht
  obtain ⟨n1, n2, n3, n4⟩ := hfam _ hm
  have rx' := rx
  have ry' := r1
  obtain ⟨p, dx, us, rfl, _, _, t0, _⟩ := rx'.ins
  obtain ⟨p', dx', us', rfl, _, _, t0', _⟩ := ry'.ins
  exact ⟨p, C, dx, _, p', C', dx', _, g, rfl, t0, rfl, t0', n1, hC, n2, hM, n3, n4, Mx M0 oa, [.ins C ks xs, .ins C' ks' xs'], _, PX, S1.mok, reps_cons rx (reps_cons r1 reps_nil), hg, fun d v H' hp e i r => k1 _ _ _ _ hp ((S1.step e i).set r), fun cls d H' h => S1.xc h⟩
/-! -x -/
def negI (tab : List (Addr × GX)) (PX : D → Prop) : D → (D → Prop) → Prop
  | .ins C ks xs, P => ∃ g, (C, g) ∈ tab ∧ g [.ins C ks xs] P PX
  | .int i, P => P (.int (-i))
  | _, _ => False
def rNegI (X : Cx) (W : Wd) (k : Nat) (PX : D → Prop) : V → Hp → L2.VK → Prop := fun x H Q => ∃ a C dx fs g, x = .ref a ∧ H a = some (.ins C dx fs) ∧ OpM X.prog X.w X.K X.mg X.base W k "__neg__" C g ∧ spX X.K W g [x] H Q (EX X.K W PX)
theorem un_negI (hr : Room k X.A) (tk : Takes X (XW X.K W PX)) : UnR X (unaryOp .USub) (fun x H Q => rU (fun i => .int (-i)) x H Q ∨ rNegI X W k PX x H Q) := by
  intro pins s σ H x v Q I rx h
  rcases h with h | h
  · exact un_neg pins s σ H x v Q I rx h
  obtain ⟨a, C, dx, fs, g, rfl, ha, ⟨f, h1, h2, F⟩, q⟩ := h
  cases (show v = Value.ref a from rx)
  obtain ⟨mA, O, _⟩ := ins_get I.hok ha
  obtain ⟨od, J, _⟩ := O.look
  obtain ⟨m, fr⟩ := I.fr
  exact PySem.W.ksp_neg fr I.ok.mod.kin J h1 h2 (wpAny_call (run_fnR (us := [.ref a]) (vs := [.ref a]) F hr (passesX tk) I (.cons rfl .nil) q))
theorem ve_negI {wa : WE} (tab : List (Addr × GX)) (hr : Room k X.A) (tk : Takes X (XW X.K W PX)) (htab : ∀ q ∈ tab, OpM X.prog X.w X.K X.mg X.base W k "__neg__" q.1 q.2) (ha : VE X W a wa) : VE X W (.UnaryOp .USub a pos) (fun ds P => wa ds fun x => negI tab PX x P) := by
  refine pe_imp (pe_un (un_negI hr tk) ha) fun σ H Q h => ?_
  obtain ⟨M0, H0, oa, ds, P, S, hw, kk⟩ := h
  refine ⟨M0, H0, oa, ds, _, S, hw, fun x v H1 hx e1 i1 r1 => ?_⟩
  have S1 := S.step e1 i1
  cases x <;> first | exact hx.elim | skip
  · rename_i i
    exact .inl ⟨i, r1.int, kk _ _ H1 hx e1 i1 rep_int⟩
  · rename_i C ks xs
    obtain ⟨g, ht, hg⟩ := hx
    have r1' := r1
    obtain ⟨p, dx, us, rfl, nm, l0, t0, r⟩ := r1'.ins
    exact .inr ⟨p, C, dx, _, g, rfl, t0, htab _ ht, Mx M0 oa, [.ins C ks xs], P, PX, S1.mok, reps_cons r1 reps_nil, hg, fun d v H' hp e i r => kk d v H' hp (e1.trans e) i r, fun cls d H' h => S1.xc h⟩
/-! == and != -/
structure EqC (K : PySem.W.Frag) (C : Addr) : Prop where
  ne : PySem.W.findIn K (.ref C) "__ne__" = some (some (.builtin "object.__ne__"))
  mo : PySem.W.mroIn K C (.type "object") = some true
/-- the promise of an __eq__ that raises nothing -/
def eqI (neg : Bool) (f0 : D → D → (D → Prop) → Prop) (tab : List (Addr × (List D → (D → Prop) → Prop))) (fam : List (Addr × Addr)) (bt : List (Addr × String)) : D → D → (D → Prop) → Prop
  | .ins C ks xs, y, P => ∃ g, (C, g) ∈ tab ∧ okR fam bt C y ∧ g [.ins C ks xs, y] (fun d => asBl d fun c => P (.bl (if neg = true then !c else c)))
  | x, y, P => f0 x y P
theorem eqI_of {neg : Bool} {f0 : D → D → (D → Prop) → Prop} {tab : List (Addr × (List D → (D → Prop) → Prop))} {fam : List (Addr × Addr)} {bt : List (Addr × String)} {x y : D} {P : D → Prop} (h : eqI neg f0 tab fam bt x y P) :
    f0 x y P ∨ ∃ C ks xs g, x = .ins C ks xs ∧ (C, g) ∈ tab ∧ okR fam bt C y ∧ g [.ins C ks xs, y] (fun d => asBl d fun c => P (.bl (if neg = true then !c else c))) := by
  cases x <;> first | exact .inl h | (obtain ⟨g, h1, h2, h3⟩ := h; exact .inr ⟨_, _, _, g, rfl, h1, h2, h3⟩)
/-- .. by values -/
structure EqM (P : Program) (w : World) (K : PySem.W.Frag) (mg : Str → Option Value) (base : Heap) (W : Wd) (k : Nat) (C : Addr) (g : List D → (D → Prop) → Prop) : Prop where
  ex : ∃ f, PySem.W.findIn K (.ref C) "__eq__" = some (some (.ref f)) ∧ PySem.W.isFn K (.ref f) = true ∧ FnR P w K mg base CX0 k f (spD K W g)
def rEqI (X : Cx) (neg : Bool) (W : Wd) (k : Nat) : R2 := fun x y H Q => ∃ a C dx fs tb g, x = .ref a ∧ H a = some (.ins C dx fs) ∧ RgV X.K H y tb ∧ PySem.W.notFirst X.K C tb = true ∧ EqC X.K C ∧ EqM X.prog X.w X.K X.mg X.base W k C g ∧
  spD X.K W g [x, y] H (fun z H' => ∃ c, z = .bl c ∧ Q (.bl (if neg = true then !c else c)) H') (fun _ _ _ => False)
theorem op_eqI (hr : Room (k + 1) X.A) (hu : X.A.units + 1 < cLine) : OpR X (compareOp .Eq) (rEqI X false W k) := by
  intro pins s σ H x y v u Q I rx ry h
  obtain ⟨a, C, dx, fs, tb, g, rfl, ha, hy, hn, hE, ⟨f, h1, h2, F⟩, q⟩ := h
  cases (show v = Value.ref a from rx)
  obtain ⟨mA, O, _⟩ := ins_get I.hok ha
  obtain ⟨od, J, _⟩ := O.look
  obtain ⟨m, fr⟩ := I.fr
  show wpAny _ _ (richCompare .Eq _ _) _ _ _
  refine PySem.W.cmp_K (op := .Eq) (by omega) fr I.ok.mod.kin J (hy.looks rfl I ry _) hn h1 h2 ?_
  refine wpAny_mono (wpAny_call (run_fnR (us := [.ref a, u]) (vs := [.ref a, y]) (E := fun _ _ _ => False) F (hr.mono (by omega)) (fun _ _ _ _ _ _ _ z => z.elim) I (.cons rfl (.cons ry .nil)) q)) (fun z s' hz => ?_) fun _ _ z => z
  obtain ⟨z', H', I', rz, c, rfl, qz⟩ := hz
  exact SlX.cmpback rz ⟨_, H', I', rz, qz⟩
theorem op_neI (hr : Room (k + 1) X.A) (hu : X.A.units + 1 < cLine) : OpR X (compareOp .NotEq) (rEqI X true W k) := by
  intro pins s σ H x y v u Q I rx ry h
  obtain ⟨a, C, dx, fs, tb, g, rfl, ha, hy, hn, hE, ⟨f, h1, h2, F⟩, q⟩ := h
  cases (show v = Value.ref a from rx)
  obtain ⟨mA, O, _⟩ := ins_get I.hok ha
  obtain ⟨od, J, _⟩ := O.look
  obtain ⟨m, fr⟩ := I.fr
  show wpAny _ _ (richCompare .NotEq _ _) _ _ _
  refine PySem.W.vi_ne hu fr I.ok.mod.kin J (hy.looks rfl I ry _) hn hE.ne h1 h2 hE.mo ?_
  refine wpAny_mono (wpAny_call (SlX.run_at (us := [.ref a, u]) (ws := [.ref a, y]) (E := fun _ _ _ => False) F (hr.in1) I.env0.in1 (fun _ _ _ _ _ _ _ z => z.elim) I (.cons rfl (.cons ry .nil)) q)) (fun z s' hz => ?_) fun _ _ z => z
  obtain ⟨z', H', I', rz, c, rfl, qz⟩ := hz
  cases (show z = Value.bool c from rz)
  exact ⟨c, rfl, .bl (!c), H', I', rfl, qz⟩
theorem lift_eqI {neg : Bool} {f0 : D → D → (D → Prop) → Prop} {r0 : R2} {tab : List (Addr × (List D → (D → Prop) → Prop))} {fam : List (Addr × Addr)} {bt : List (Addr × String)} (hf : LiftOp X.K W f0 r0) (htab : ∀ q ∈ tab, EqC X.K q.1 ∧ EqM X.prog X.w X.K X.mg X.base W k q.1 q.2)
    (hfam : ∀ q ∈ fam, PySem.W.notFirst X.K q.1 (.ref q.2) = true) (hbt : ∀ q ∈ bt, PySem.W.notFirst X.K q.1 (.type q.2) = true) : LiftOp X.K W (eqI neg f0 tab fam bt) (fun x y H Q => r0 x y H Q ∨ rEqI X neg W k x y H Q) := by
  intro M H x y v u P Q m r1 r2 h kk
  rcases eqI_of h with h | ⟨C, ks, xs, g, rfl, ht, hok, hg⟩
  · exact .inl (hf M H x y v u P Q m r1 r2 h kk)
  · refine .inr ?_
    have r1' := r1
    obtain ⟨p, dx, us, rfl, nm, l0, t0, r⟩ := r1'.ins
    obtain ⟨hC, hM⟩ := htab _ ht
    obtain ⟨tb, hrg, q1, q2⟩ := rep_rgv r2 ((okR_cases hok).elim (fun ⟨C', ks', xs', e, _⟩ => .inl ⟨C', ks', xs', e⟩) fun z => .inr z.1)
    refine ⟨p, C, dx, _, tb, g, rfl, t0, hrg, ?_, hC, hM, M, [.ins C ks xs, y], _, m, reps_cons r1 (reps_cons r2 reps_nil), hg, fun d v H' hp e i r => ?_⟩
    · rcases okR_cases hok with ⟨C', ks', xs', e, hm⟩ | ⟨hn, hm⟩
      · rw [q1 _ _ _ e]; exact hfam _ hm
      · rw [q2 hn]; exact hbt _ hm
    · obtain ⟨c, rfl, hc⟩ := asBl_of hp
      exact ⟨c, r.bl, kk _ _ H' hc e i rep_bl⟩
/-! calling an instance -/
theorem ve_callI {fe : Expr} {C g : Addr} {gx : GX} {wf : WE} {l : WL} (hf : VE X W fe wf) (c : StX.CallO X.K C g) (F : FnR X.prog X.w X.K X.mg X.base (L2.CX X.prog X.w) k g (spX X.K W gx)) (hr : Room k X.A) (tk : Takes X (XW X.K W PX)) (ha : VA X W (e :: es) l)
    (ht : eval (.Call fe (e :: es) [] pos) X.env = (do callWith pos (← eval fe X.env) [] (backTo pos (starEach (e :: es) X.env)) (backToKw pos (keywordEach [] X.env))) := by rfl)
    (he : starEach (e :: es) X.env = (false, eval e X.env) :: starEach es X.env := by rfl) (hpl : (backTo pos (starEach es X.env)).any (·.1) = false := by rfl) :
    VE X W (.Call fe (e :: es) [] pos) (fun ds P => wf ds fun y => match y with | .ins C' ks ys => C' = C ∧ l ds fun xs => gx (.ins C' ks ys :: xs) P PX | _ => False) := by
  refine pe_imp (StX.pe_callO hf c F hr (passesX tk) ha ht he hpl) fun σ H Q h => ?_
  obtain ⟨M0, H0, oa, ds, P, S, hw, kk⟩ := h
  refine ⟨M0, H0, oa, ds, _, S, hw, fun y v H1 hy e1 i1 r1 => ?_⟩
  have S1 := S.step e1 i1
  cases y <;> first | exact hy.elim | skip
  rename_i C' ks ys
  obtain ⟨rfl, hy⟩ := hy
  have r1' := r1
  obtain ⟨p, dx, us, rfl, nm, l0, t0, r⟩ := r1'.ins
  refine ⟨p, rfl, M0, H0, oa, ds, _, S1, hy, fun xs vs H2 hx e2 i2 r2 => ?_⟩
  have S2 := S1.step e2 i2
  have r1'' := r1.ext S1.mok e2
  obtain ⟨p', dx', us', e', nm', l0', t0', r'⟩ := r1''.ins
  cases e'
  exact ⟨.inr ⟨dx', _, t0'⟩, Mx M0 oa, .ins C' ks ys :: xs, P, PX, S2.mok, reps_cons r1'' r2, hx, fun d v H' hp e i r => kk d v H' hp ((e1.trans e2).trans e) i r, fun cls d H' h => S2.xc h⟩
end
end VL
namespace VL
open PySem PySem.Spec PyProof.Rows L2
section
variable {X : Cx} {W : Wd} {e : Expr} {kws : List Keyword} {pos p px : Pos}
theorem vk_nil : VK X W [] wNil := pk_imp pk_nil fun σ H Q ⟨M0, H0, oa, ds, P, S, hw, k⟩ => k [] [] H hw (Ext.refl H) S.wi reps_nil
theorem vk_cons {w : WE} {l : WL} {nm : Option Str} {kpos : Pos} (he : VE X W e w) (hr : VK X W kws l) : VK X W (⟨nm, e, kpos⟩ :: kws) (wCons w l) := by
  refine pk_imp (pk_cons he hr) fun σ H Q h => ?_
  obtain ⟨M0, H0, oa, ds, P, S, hw, k⟩ := h
  refine ⟨M0, H0, oa, ds, _, S, hw, fun d v H1 hd e1 i1 r1 => ?_⟩
  have S1 := S.step e1 i1
  exact ⟨M0, H0, oa, ds, _, S1, hd, fun xs vs H2 hp e2 i2 r2 => k _ _ H2 hp (e1.trans e2) i2 (reps_cons (r1.ext S1.mok e2) r2)⟩
/-! isinstance of an own class -/
structure IsC (K : PySem.W.Frag) (C : Addr) : Prop where
  cl : Cls K C
  ha : PySem.W.findIn K (.ref C) "__class__" = some (some (.builtin "object.__class__"))
  hn : PySem.W.specialIn K (.builtin "object.__class__") "__get__" = some (some (.builtin "getset_descriptor.__get__"))
  htk : PySem.W.takesIn K (.builtin "object.__class__") = some true
  hm : PySem.W.mroIn K C (.type "object") = some true
def isCD (tab : List (Addr × Bool)) (tys : List String) : D → (D → Prop) → Prop
  | .ins C _ _, P => ∃ b, (C, b) ∈ tab ∧ P (.bl b)
  | y, P => noHnd y = true ∧ tyN y ∈ tys ∧ P (.bl false)
theorem isCD_of {tab : List (Addr × Bool)} {tys : List String} {y : D} {P : D → Prop} (h : isCD tab tys y P) : (∃ C ks xs b, y = .ins C ks xs ∧ (C, b) ∈ tab ∧ P (.bl b)) ∨ (noHnd y = true ∧ tyN y ∈ tys ∧ P (.bl false)) := by
  cases y <;> first | (obtain ⟨b, h1, h2⟩ := h; exact .inl ⟨_, _, _, b, rfl, h1, h2⟩) | exact .inr h
theorem ve_isiC {x : Str} {C0 : Addr} (tab : List (Addr × Bool)) (tys : List String) {w : WE} (hg : Gl X "isinstance") (hm : X.mg "isinstance" = none) (hv : bootBuiltins "isinstance" = some (.builtin "isinstance")) (ha : VE X W e w) (hgT : Gl X x) (hmT : X.mg x = some (.ref C0))
    (htab : ∀ q ∈ tab, IsC X.K q.1 ∧ PySem.W.kitOne X.K (.ref q.1) (.ref C0) = some q.2) (htys : ∀ T ∈ tys, PySem.W.kitOne X.K (.type T) (.ref C0) = some false) (hdb : (x == ("__debug__" : Str)) = false := by decide)
    (hs : starEach [e, .Name x px] X.env = (false, eval e X.env) :: starEach [.Name x px] X.env := by rfl) (hpl : (backTo pos (starEach [.Name x px] X.env)).any (·.1) = false := by rfl) (hs2 : starEach [.Name x px] X.env = (false, eval (.Name x px) X.env) :: starEach [] X.env := by rfl) :
    VE X W (.Call (.Name "isinstance" p) [e, .Name x px] [] pos) (fun ds P => w ds fun d => isCD tab tys d P) := by
  have hT : PE X (.Name x px) (tC (.ref C0)) := pe_glob hgT hmT rfl hdb
  refine pe_imp (pe_callB call_isi hg hm hv (pa_cons ha (pa_cons hT pa_nil hs2) hs) (by decide) (by decide) hs hpl) fun σ H Q h => ?_
  obtain ⟨M0, H0, oa, ds, P, S, hw, k⟩ := h
  refine ⟨M0, H0, oa, ds, _, S, hw, fun d v H1 hx e1 i1 r1 => ?_⟩
  show rIsi X.K [v, .ref C0] H1 Q
  rcases isCD_of hx with ⟨C, ks, xs, b, rfl, ht, hp⟩ | ⟨hn, ht, hp⟩
  · obtain ⟨a, dx, us, rfl, _, _, t, _⟩ := r1.ins
    obtain ⟨hC, hk⟩ := htab _ ht
    exact ⟨.ref a, .ref C0, .ref C, .ref C0, b, rfl, .own C0, .base (.ins t hC.cl hC.ha hC.hn hC.htk hC.hm), hk, k _ _ H1 hp e1 i1 rep_bl⟩
  · exact ⟨v, .ref C0, .type (tyN d), .ref C0, false, rfl, .own C0, r1.ty hn, htys _ ht, k _ _ H1 hp e1 i1 rep_bl⟩
end
end VL
namespace VL
open PySem PySem.Spec PyProof.Rows L2
/-- a test whose parts are all told -/
theorem wor_b {t u : WT} {ds : List Sl} {P : Bool → Prop} (b c : Bool) (h1 : ∀ R : Bool → Prop, R b → t ds R) (h2 : ∀ R : Bool → Prop, R c → u ds R) (h : P (b || c)) : wOr t u ds P := h1 _ (by
  cases b with
  | true => exact h
  | false => exact h2 _ h)
theorem wand_b {t u : WT} {ds : List Sl} {P : Bool → Prop} (b c : Bool) (h1 : ∀ R : Bool → Prop, R b → t ds R) (h2 : ∀ R : Bool → Prop, R c → u ds R) (h : P (b && c)) : wAnd t u ds P := h1 _ (by
  cases b with
  | false => exact h
  | true => exact h2 _ h)
theorem wnot_b {t : WT} {ds : List Sl} {P : Bool → Prop} (b : Bool) (h1 : ∀ R : Bool → Prop, R b → t ds R) (h : P (!b)) : wNot t ds P := h1 _ h
end VL

set_option Elab.async false
set_option linter.all false
set_option maxRecDepth 100000
set_option maxHeartbeats 2000000
/-! VM: fractions in plain Lean. -/
namespace VL
open PySem L2
def iabs (a : Int) : Int := if a < 0 then -a else a
theorem iabs_nonneg (a : Int) : 0 ≤ iabs a := by unfold iabs; split <;> omega
theorem iabs_eq (a : Int) : iabs a = (a.natAbs : Int) := by unfold iabs; split <;> omega
theorem iabs_pos {a : Int} (h : 0 < a) : iabs a = a := by unfold iabs; rw [if_neg (by omega)]
theorem gcd_abs (a b : Int) : Int.gcd (iabs a) (iabs b) = Int.gcd a b := by
  rw [iabs_eq, iabs_eq]
  rfl
theorem gcd_absl (a b : Int) : Int.gcd (iabs a) b = Int.gcd a b := by
  rw [iabs_eq]
  rfl
theorem gcd_step {a b : Int} (ha : 0 ≤ a) (hb : 0 ≤ b) : Int.gcd b (a.fmod b) = Int.gcd a b := by
  rw [Int.fmod_eq_emod_of_nonneg a hb]
  obtain ⟨n, rfl⟩ := Int.eq_ofNat_of_zero_le ha
  obtain ⟨m, rfl⟩ := Int.eq_ofNat_of_zero_le hb
  show Nat.gcd m (n % m) = Nat.gcd n m
  rw [Nat.gcd_comm m, ← Nat.gcd_rec, Nat.gcd_comm]
theorem gcd_zero {a : Int} (ha : 0 ≤ a) : ((Int.gcd a 0 : Nat) : Int) = a := by
  rw [Int.gcd_zero_right]
  omega
/-- an amount whose parts are below 2^n -/
structure Amt (n : Nat) (a b : Int) : Prop where
  pos : 0 < b
  cop : Int.gcd a b = 1
  ha : a.natAbs < 2 ^ n
  hb : b.natAbs < 2 ^ n
theorem Amt.mono {m n : Nat} {a b : Int} (h : Amt m a b) (hmn : m ≤ n) : Amt n a b :=
  ⟨h.pos, h.cop, Nat.lt_of_lt_of_le h.ha (Nat.pow_le_pow_right (by decide) hmn), Nat.lt_of_lt_of_le h.hb (Nat.pow_le_pow_right (by decide) hmn)⟩
/-- the divisor by which a fraction is brought to lowest terms, with the sign of the bottom -/
def ratK (t b : Int) : Int := if 0 < b then (Int.gcd t b : Int) else 0 - (Int.gcd t b : Int)
def ratT (t b : Int) : Int := t.fdiv (ratK t b)
def ratB (t b : Int) : Int := b.fdiv (ratK t b)
def ratD (t b : Int) : D := .tup [.int (ratT t b), .int (ratB t b)]
theorem gcd_pos_of {t b : Int} (h : b ≠ 0) : 0 < Int.gcd t b := Int.gcd_pos_of_ne_zero_right t h
theorem ratK_ne {t b : Int} (h : b ≠ 0) : ratK t b ≠ 0 := by
  have := gcd_pos_of (t := t) h
  unfold ratK
  split <;> omega
theorem ratK_abs (t b : Int) : (ratK t b).natAbs = Int.gcd t b := by
  unfold ratK
  split <;> omega
theorem ratK_le {t b : Int} (h : b ≠ 0) : (ratK t b).natAbs ≤ b.natAbs := by
  rw [ratK_abs]
  exact Nat.le_of_dvd (by omega) (Nat.gcd_dvd_right _ _)
theorem fdiv_of {t k x : Int} (hk : k ≠ 0) (h : t = k * x) : t.fdiv k = x := by rw [h]; exact Int.mul_fdiv_cancel_left x hk
/-- t and b by their lowest terms -/
theorem rat_parts {t b : Int} (h : b ≠ 0) : t = ratK t b * ratT t b ∧ b = ratK t b * ratB t b ∧ 0 < ratB t b ∧ Int.gcd (ratT t b) (ratB t b) = 1 := by
  have hg := gcd_pos_of (t := t) h
  have dt : ((Int.gcd t b : Nat) : Int) ∣ t := Int.gcd_dvd_left t b
  have db : ((Int.gcd t b : Nat) : Int) ∣ b := Int.gcd_dvd_right t b
  have hc := Int.gcd_ediv_gcd_ediv_gcd_of_ne_zero_right (n := t) h
  obtain ⟨t', ht⟩ := dt
  obtain ⟨b', hb⟩ := db
  have hg' : ((Int.gcd t b : Nat) : Int) ≠ 0 := by omega
  have et : t / ((Int.gcd t b : Nat) : Int) = t' := Int.ediv_eq_of_eq_mul_right hg' ht
  have eb : b / ((Int.gcd t b : Nat) : Int) = b' := Int.ediv_eq_of_eq_mul_right hg' hb
  rw [et, eb] at hc
  unfold ratT ratB ratK
  generalize hG : ((Int.gcd t b : Nat) : Int) = g at *
  have g0 : 0 < g := by omega
  by_cases hp : 0 < b
  · rw [if_pos hp]
    have h1 := fdiv_of hg' ht
    have h2 := fdiv_of hg' hb
    rw [h1, h2]
    refine ⟨ht, hb, ?_, hc⟩
    exact Int.pos_of_mul_pos_right (by rw [← hb]; exact hp) g0
  · rw [if_neg hp]
    have hn : (0 - g) ≠ 0 := by omega
    have ht2 : t = (0 - g) * (-t') := by rw [Int.zero_sub, Int.neg_mul_neg]; exact ht
    have hb2 : b = (0 - g) * (-b') := by rw [Int.zero_sub, Int.neg_mul_neg]; exact hb
    have h1 := fdiv_of hn ht2
    have h2 := fdiv_of hn hb2
    rw [h1, h2]
    refine ⟨ht2, hb2, ?_, by rw [Int.gcd_neg, Int.neg_gcd]; exact hc⟩
    have hb3 : 0 < g * (-b') := by rw [Int.mul_neg, ← hb]; omega
    exact Int.pos_of_mul_pos_right hb3 g0
theorem natAbs_le_of_mul {k x y : Int} (hk : k ≠ 0) (h : y = k * x) : x.natAbs ≤ y.natAbs := by
  rw [h, Int.natAbs_mul]
  have : 0 < k.natAbs := by omega
  exact Nat.le_mul_of_pos_left _ this
/-- a fraction in lowest terms is an amount -/
theorem rat_amt {n : Nat} {t b : Int} (h : b ≠ 0) (ht : t.natAbs < 2 ^ n) (hb : b.natAbs < 2 ^ n) : Amt n (ratT t b) (ratB t b) := by
  obtain ⟨h1, h2, h3, h4⟩ := rat_parts (t := t) h
  exact ⟨h3, h4, Nat.lt_of_le_of_lt (natAbs_le_of_mul (ratK_ne h) h1) ht, Nat.lt_of_le_of_lt (natAbs_le_of_mul (ratK_ne h) h2) hb⟩
/-- what // asks -/
theorem ratK_div {t b : Int} (h : b ≠ 0) (hb : b.natAbs < 2 ^ 9000) (x : Int) : CFdiv x (ratK t b) := by
  refine ⟨ratK_ne h, PySem.Flt.log2_lt_of (by decide) (Nat.lt_of_le_of_lt (ratK_le h) hb)⟩
theorem rat_self {t b : Int} (hp : 0 < b) (hc : Int.gcd t b = 1) : ratT t b = t ∧ ratB t b = b := by
  have e : ratK t b = 1 := by unfold ratK; rw [if_pos hp, hc]; rfl
  unfold ratT ratB
  rw [e, Int.fdiv_one, Int.fdiv_one]
  exact ⟨rfl, rfl⟩
/-! ### values that are amounts -/
def amt2 : D → D → Bool
  | .int a, .int b => decide (0 < b) && decide (Int.gcd a b = 1)
  | _, _ => false
def isAmt : D → Bool
  | .tup [x, y] => amt2 x y
  | _ => false
def isI (d : D) : Bool := isTy .int d && !isTy .bool d
theorem isI_cases (d : D) : (∃ i, d = .int i) ∨ isI d = false := by
  cases d with
  | int i => exact .inl ⟨i, rfl⟩
  | _ => exact .inr rfl
theorem amt2_l {a b : D} (h : isI a = false) : isAmt (.tup [a, b]) = false := by
  cases a with
  | int i => cases h
  | _ => rfl
theorem amt2_r {a b : D} (h : isI b = false) : isAmt (.tup [a, b]) = false := by
  cases b with
  | int i => cases h
  | _ => cases a <;> rfl
theorem amt2_int {i j : Int} (h : 0 < j) : isAmt (.tup [.int i, .int j]) = decide (((Int.gcd i j : Nat) : Int) = 1) := by
  show (decide (0 < j) && decide (Int.gcd i j = 1)) = _
  rw [decide_eq_true h, Bool.true_and]
  congr 1
  apply propext
  omega
theorem amt2_not {i j : Int} (h : ¬ 0 < j) : isAmt (.tup [.int i, .int j]) = false := by
  show (decide (0 < j) && decide (Int.gcd i j = 1)) = _
  rw [decide_eq_false h, Bool.false_and]
theorem amt_is {n : Nat} {a b : Int} (h : Amt n a b) : isAmt (.tup [.int a, .int b]) = true := by
  rw [amt2_int h.pos, h.cop]
  rfl
end VL

set_option Elab.async false
set_option linter.all false
set_option maxRecDepth 100000
set_option maxHeartbeats 2000000
/-! VN: names, sums of amounts, forms, in plain Lean. -/
namespace VL
open PySem L2
/-! ### names -/
def abcS : Str := Str.ofString "abcdefghijklmnopqrstuvwxyz"
def abcL : List Nat := abcS.cps.toList
def nmS (s : Str) : Bool := decide (1 ≤ s.length) && decide (s.length ≤ 8) && s.cps.toList.all fun c => decide (c ∈ abcL)
def isName : D → Bool
  | .str s => nmS s
  | _ => false
/-! ### amounts -/
def AmtD (n : Nat) (d : D) : Prop := ∃ a b, d = .tup [.int a, .int b] ∧ Amt n a b
theorem AmtD.mono {m n : Nat} {d : D} (h : AmtD m d) (hmn : m ≤ n) : AmtD n d := by
  obtain ⟨a, b, rfl, h⟩ := h
  exact ⟨a, b, rfl, h.mono hmn⟩
def zeroD : D := .tup [.int 0, .int 1]
def isZ : D → Bool
  | .tup [.int a, .int b] => decide (a = 0) && decide (b = 1)
  | _ => false
theorem zero_amt : AmtD 1 zeroD := ⟨0, 1, rfl, by decide, by decide, by decide, by decide⟩
theorem eqv_amt (a b c d : Int) : eqv (.tup [.int a, .int b]) (.tup [.int c, .int d]) = (decide (a = c) && decide (b = d)) := by
  show ((a == c) && ((b == d) && true)) = _
  rw [Bool.and_true]
  rfl
def plusD : D → D → D
  | .tup [.int a, .int b], .tup [.int c, .int d] => ratD (a * d + c * b) (b * d)
  | _, _ => .non
def timesD : D → D → D
  | .tup [.int a, .int b], .tup [.int c, .int d] => ratD (a * c) (b * d)
  | _, _ => .non
theorem mul_lt {a b : Int} {n m : Nat} (ha : a.natAbs < 2 ^ n) (hb : b.natAbs < 2 ^ m) : (a * b).natAbs < 2 ^ (n + m) := by
  rw [Int.natAbs_mul, Nat.pow_add]
  exact Nat.mul_lt_mul'' ha hb
theorem add_lt {a b : Int} {n : Nat} (ha : a.natAbs < 2 ^ n) (hb : b.natAbs < 2 ^ n) : (a + b).natAbs < 2 ^ (n + 1) := by
  have := Int.natAbs_add_le a b
  rw [Nat.pow_succ]
  omega
theorem rat_amtD {n : Nat} {t b : Int} (h : b ≠ 0) (ht : t.natAbs < 2 ^ n) (hb : b.natAbs < 2 ^ n) : AmtD n (ratD t b) := ⟨_, _, rfl, rat_amt h ht hb⟩
theorem pow_up {x m n : Nat} (h : x < 2 ^ m) (hmn : m ≤ n) : x < 2 ^ n := Nat.lt_of_lt_of_le h (Nat.pow_le_pow_right (by decide) hmn)
theorem plus_amt {n m : Nat} {x y : D} (hx : AmtD n x) (hy : AmtD m y) : AmtD (n + m + 1) (plusD x y) := by
  obtain ⟨a, b, rfl, A⟩ := hx
  obtain ⟨c, d, rfl, B⟩ := hy
  refine rat_amtD ?_ (add_lt (mul_lt A.ha B.hb) ?_) (pow_up (mul_lt A.hb B.hb) (by omega))
  · have := Int.mul_pos A.pos B.pos
    omega
  · rw [Nat.add_comm n m]
    exact mul_lt B.ha A.hb
theorem times_amt {n m : Nat} {x y : D} (hx : AmtD n x) (hy : AmtD m y) : AmtD (n + m) (timesD x y) := by
  obtain ⟨a, b, rfl, A⟩ := hx
  obtain ⟨c, d, rfl, B⟩ := hy
  refine rat_amtD ?_ (mul_lt A.ha B.ha) (mul_lt A.hb B.hb)
  have := Int.mul_pos A.pos B.pos
  omega
/-! ### dicts -/
theorem lkp_put {s k : Str} {v : D} : ∀ {ks : List Str} {ds : List D}, ds.length = ks.length → lkp (putKs ks s) (putDs ks ds s v) k = if k = s then some v else lkp ks ds k := by
  intro ks ds l
  have key : ∀ {ks : List Str} {ds : List D}, ds.length = ks.length → lkp ks ((ks.zip ds).map fun p => if p.1 = s then v else p.2) k = if k = s ∧ k ∈ ks then some v else lkp ks ds k := by
    intro ks
    induction ks with
    | nil => intro ds l; simp [lkp]
    | cons q ks ih =>
      intro ds l
      match ds, l with
      | x :: ds, l =>
        have ih := ih (ds := ds) (by simpa using l)
        show lkp (q :: ks) ((if q = s then v else x) :: _) k = _
        by_cases e : q = k
        · subst e
          by_cases e2 : q = s
          · simp [lkp, e2]
          · simp [lkp, e2]
        · have ne : ¬ k = q := fun z => e z.symm
          show (if q = k then _ else lkp ks ((ks.zip ds).map _) k) = if _ then _ else (if q = k then some x else lkp ks ds k)
          rw [if_neg e, if_neg e, ih]
          simp [ne]
  unfold putKs putDs
  by_cases hs : s ∈ ks
  · rw [if_pos hs, if_pos hs, key l]
    by_cases e : k = s
    · subst e; simp [hs]
    · simp [e]
  · rw [if_neg hs, if_neg hs]
    have key2 : ∀ {ks : List Str} {ds : List D}, ds.length = ks.length → s ∉ ks → lkp (ks ++ [s]) (ds ++ [v]) k = if k = s then some v else lkp ks ds k := by
      intro ks
      induction ks with
      | nil =>
        intro ds l _
        match ds, l with
        | [], _ =>
          by_cases e : k = s
          · subst e; simp [lkp]
          · have ne : ¬ s = k := fun z => e z.symm
            simp [lkp, e, ne]
      | cons q ks ih =>
        intro ds l hn
        match ds, l with
        | x :: ds, l =>
          have hn' : ¬ s = q ∧ s ∉ ks := ⟨fun z => hn (by rw [z]; simp), fun z => hn (by simp [z])⟩
          have ih := ih (ds := ds) (by simpa using l) hn'.2
          show (if q = k then some x else lkp (ks ++ [s]) (ds ++ [v]) k) = _
          rw [ih]
          by_cases e : q = k
          · subst e
            have ne : ¬ q = s := fun z => hn'.1 z.symm
            simp [lkp, ne]
          · simp [lkp, e]
    exact key2 l hs
theorem put_len {s : Str} {v : D} {ks : List Str} {ds : List D} (l : ds.length = ks.length) : (putDs ks ds s v).length = (putKs ks s).length := by
  unfold putKs putDs
  by_cases hs : s ∈ ks
  · rw [if_pos hs, if_pos hs]
    simp [l]
  · rw [if_neg hs, if_neg hs]
    simp [l]
theorem putKs_len (ks : List Str) (s : Str) : (putKs ks s).length ≤ ks.length + 1 := by
  unfold putKs
  split
  · omega
  · simp
theorem mem_putKs {ks : List Str} {s k : Str} : k ∈ putKs ks s ↔ k ∈ ks ∨ k = s := by
  unfold putKs
  by_cases hs : s ∈ ks
  · rw [if_pos hs]
    refine ⟨.inl, fun h => ?_⟩
    rcases h with h | h
    · exact h
    · rw [h]; exact hs
  · rw [if_neg hs]
    simp
theorem putKs_nodup {ks : List Str} {s : Str} (h : ks.Nodup) : (putKs ks s).Nodup := by
  unfold putKs
  by_cases hs : s ∈ ks
  · rw [if_pos hs]; exact h
  · rw [if_neg hs]
    refine List.nodup_append.mpr ⟨h, by simp, ?_⟩
    intro a ha b hb
    have e := List.mem_singleton.mp hb
    rw [e]
    exact fun z => hs (by rw [← z]; exact ha)
theorem lkp_mem {k : Str} : ∀ {ks : List Str} {ds : List D}, ds.length = ks.length → k ∈ ks → ∃ d, lkp ks ds k = some d ∧ d ∈ ds
  | q :: ks, x :: ds, l, h => by
    by_cases e : q = k
    · exact ⟨x, by simp [lkp, e], by simp⟩
    · have hk : k ∈ ks := by
        rcases List.mem_cons.mp h with h | h
        · exact absurd h.symm e
        · exact h
      obtain ⟨d, h1, h2⟩ := lkp_mem (ds := ds) (by simpa using l) hk
      exact ⟨d, by simp [lkp, e, h1], by simp [h2]⟩
  | q :: ks, [], l, _ => by cases l
theorem lkp_some {k : Str} {d : D} : ∀ {ks : List Str} {ds : List D}, lkp ks ds k = some d → k ∈ ks ∧ d ∈ ds
  | q :: ks, x :: ds, h => by
    by_cases e : q = k
    · simp [lkp, e] at h
      subst h
      exact ⟨by simp [e], by simp⟩
    · simp only [lkp, if_neg e] at h
      obtain ⟨h1, h2⟩ := lkp_some h
      exact ⟨by simp [h1], by simp [h2]⟩
  | [], _, h => by cases h
  | _ :: _, [], h => by cases h
theorem mem_srt {ks : List Str} {s : Str} : s ∈ srt ks ↔ s ∈ ks := (List.mergeSort_perm ks leS).mem_iff
theorem srt_len (ks : List Str) : (srt ks).length = ks.length := (List.mergeSort_perm ks leS).length_eq
theorem srt_nodup {ks : List Str} (h : ks.Nodup) : (srt ks).Nodup := (List.mergeSort_perm ks leS).nodup_iff.mpr h
/-! ### forms -/
def totStep (t : List Str × List D) : D → List Str × List D
  | .tup [.str s, f] => (putKs t.1 s, putDs t.1 t.2 s (plusD ((lkp t.1 t.2 s).getD zeroD) f))
  | _ => t
def totals (ps : List D) : List Str × List D := ps.foldl totStep ([], [])
def keepT (t : List Str × List D) (s : Str) : Option D := match lkp t.1 t.2 s with
  | some v => if isZ v then none else some (.tup [.str s, v])
  | none => none
def formTs (t : List Str × List D) : List D := (srt t.1).filterMap (keepT t)
def formD (ps : List D) (c : D) : D := .tup [.tup (formTs (totals ps)), c]
/-- a pair of a name and an amount below 2^n -/
def PairD (n : Nat) (p : D) : Prop := ∃ s f, p = .tup [.str s, f] ∧ AmtD n f
theorem PairD.mono {m n : Nat} {d : D} (h : PairD m d) (hmn : m ≤ n) : PairD n d := by
  obtain ⟨a, b, rfl, h⟩ := h
  exact ⟨a, b, rfl, h.mono hmn⟩
def keyOf : D → Option Str
  | .tup [.str s, _] => some s
  | _ => none
/-- how often a name stands in the pairs -/
def ncnt (k : Str) (ps : List D) : Nat := (ps.filterMap keyOf).count k
theorem ncnt_le (k : Str) (ps : List D) : ncnt k ps ≤ ps.length := Nat.le_trans List.count_le_length (List.length_filterMap_le _ _)
theorem ncnt_take (k : Str) (ps : List D) (i : Nat) : ncnt k (ps.take i) ≤ ncnt k ps := ((List.take_sublist i ps).filterMap keyOf).count_le k
theorem ncnt_app (k : Str) (ps qs : List D) : ncnt k (ps ++ qs) = ncnt k ps + ncnt k qs := by
  unfold ncnt
  rw [List.filterMap_append, List.count_append]
theorem ncnt_one {ps : List D} (h : (ps.filterMap keyOf).Nodup) (k : Str) : ncnt k ps ≤ 1 := List.nodup_iff_count.mp h k
/-- what holds of the totals of pairs -/
structure TotOk (n : Nat) (S : Str → Prop) (ps : List D) (t : List Str × List D) : Prop where
  len : t.2.length = t.1.length
  few : t.1.length ≤ ps.length
  nd : t.1.Nodup
  val : ∀ k d, lkp t.1 t.2 k = some d → AmtD (ncnt k ps * (n + 1) + 1) d
  nm : ∀ k ∈ t.1, S k
theorem TotOk.nil {n : Nat} {S : Str → Prop} : TotOk n S [] ([], []) := ⟨rfl, Nat.le_refl _, .nil, fun k d h => by simp [lkp] at h, fun k h => by cases h⟩
theorem TotOk.get {n : Nat} {ps : List D} {S : Str → Prop} {t : List Str × List D} (h : TotOk n S ps t) (s : Str) : AmtD (ncnt s ps * (n + 1) + 1) ((lkp t.1 t.2 s).getD zeroD) := by
  cases e : lkp t.1 t.2 s with
  | none => exact zero_amt.mono (by omega)
  | some d => exact h.val s d e
theorem TotOk.put {n : Nat} {ps : List D} {S : Str → Prop} {t : List Str × List D} (h : TotOk n S ps t) {s : Str} {f : D} (hf : AmtD n f) (hs : S s) : TotOk n S (ps ++ [.tup [.str s, f]]) (putKs t.1 s, putDs t.1 t.2 s (plusD ((lkp t.1 t.2 s).getD zeroD) f)) := by
  refine ⟨put_len h.len, Nat.le_trans (putKs_len _ _) (by have := h.few; rw [List.length_append, List.length_singleton]; omega), putKs_nodup h.nd, fun k d hk => ?_, fun k hk => ?_⟩
  · have hk : lkp (putKs t.1 s) (putDs t.1 t.2 s _) k = some d := hk
    rw [lkp_put h.len] at hk
    rw [ncnt_app]
    by_cases e2 : k = s
    · rw [if_pos e2] at hk
      cases hk
      subst e2
      have e : ncnt k [.tup [.str k, f]] = 1 := by
        show List.count k [k] = 1
        simp
      have e3 : (ncnt k ps + 1) * (n + 1) + 1 = (ncnt k ps * (n + 1) + 1) + n + 1 := by rw [Nat.add_mul]; omega
      rw [e, e3]
      exact plus_amt (h.get k) hf
    · rw [if_neg e2] at hk
      refine (h.val k d hk).mono ?_
      have := Nat.mul_le_mul_right (n + 1) (show ncnt k ps ≤ ncnt k ps + ncnt k [.tup [.str s, f]] by omega)
      omega
  · rcases mem_putKs.mp hk with hk | hk
    · exact h.nm k hk
    · rw [hk]; exact hs
theorem tot_ok {n : Nat} {S : Str → Prop} {ps : List D} (h : ∀ p ∈ ps, ∃ s f, p = .tup [.str s, f] ∧ AmtD n f ∧ S s) : TotOk n S ps (totals ps) := by
  have key : ∀ (l pre : List D) (t : List Str × List D), (∀ p ∈ l, ∃ s f, p = .tup [.str s, f] ∧ AmtD n f ∧ S s) → TotOk n S pre t → TotOk n S (pre ++ l) (l.foldl totStep t) := by
    intro l
    induction l with
    | nil => intro pre t _ ht; rw [List.append_nil]; exact ht
    | cons p l ih =>
      intro pre t hl ht
      obtain ⟨s, f, rfl, hf, hs⟩ := hl p (by simp)
      have := ih (pre ++ [.tup [.str s, f]]) (totStep t (.tup [.str s, f])) (fun q hq => hl q (by simp [hq])) (ht.put hf hs)
      rw [List.append_assoc] at this
      exact this
  exact key ps [] ([], []) h TotOk.nil
theorem tot_take {ps : List D} {i : Nat} {p : D} (h : ps[i]? = some p) : totals (ps.take (i + 1)) = totStep (totals (ps.take i)) p := by
  unfold totals
  rw [take_one h, List.foldl_append]
  rfl
theorem formTs_mem {n : Nat} {ps : List D} {S : Str → Prop} {t : List Str × List D} (h : TotOk n S ps t) {d : D} (hd : d ∈ formTs t) : ∃ s f, d = .tup [.str s, f] ∧ AmtD (ncnt s ps * (n + 1) + 1) f ∧ S s ∧ isZ f = false := by
  unfold formTs at hd
  obtain ⟨s, h1, h2⟩ := List.mem_filterMap.mp hd
  unfold keepT at h2
  cases e : lkp t.1 t.2 s with
  | none => rw [e] at h2; cases h2
  | some v =>
    rw [e] at h2
    cases hz : isZ v with
    | true => simp [hz] at h2
    | false =>
      simp [hz] at h2
      exact ⟨s, v, h2.symm, h.val s v e, h.nm s (lkp_some e).1, hz⟩
theorem formTs_len (t : List Str × List D) : (formTs t).length ≤ t.1.length := by
  unfold formTs
  refine Nat.le_trans (List.length_filterMap_le _ _) ?_
  rw [srt_len]
  exact Nat.le_refl _
/-! ### values that are forms -/
def nameOf : D → D
  | .tup [a, _] => a
  | _ => .non
def facOf : D → D
  | .tup [_, b] => b
  | _ => .non
def isTerm : D → Bool
  | .tup [a, b] => isName a && isAmt b
  | _ => false
def ltB : D → D → Bool
  | .str a, .str b => decide (a.cps.toList < b.cps.toList)
  | _, _ => false
def asc : List D → Bool
  | x :: y :: r => ltB x y && asc (y :: r)
  | _ => true
def goodT (t : D) : Bool := isTerm t && !isZ (facOf t)
def formP (ts : List D) (c : D) : Bool := isAmt c && (ts.all goodT && asc (ts.map nameOf))
def formX : D → D → Bool
  | .tup ts, c => formP ts c
  | _, _ => false
def isForm : D → Bool
  | .tup [x, c] => formX x c
  | _ => false
theorem asc_snoc : ∀ (l : List D) (a b : D), asc (l ++ [a] ++ [b]) = (asc (l ++ [a]) && ltB a b)
  | [], a, b => by simp [asc]
  | [x], a, b => by simp [asc]
  | x :: y :: r, a, b => by
    have ih := asc_snoc (y :: r) a b
    show (ltB x y && asc ((y :: r) ++ [a] ++ [b])) = (ltB x y && asc ((y :: r) ++ [a]) && ltB a b)
    rw [ih, Bool.and_assoc]
theorem asc_app_l : ∀ (l r : List D), asc (l ++ r) = true → asc l = true
  | [], _, _ => rfl
  | [x], _, _ => rfl
  | x :: y :: l, r, h => by
    have h : (ltB x y && asc ((y :: l) ++ r)) = true := h
    obtain ⟨h1, h2⟩ := Bool.and_eq_true_iff.mp h
    show (ltB x y && asc (y :: l)) = true
    rw [h1, asc_app_l (y :: l) r h2]
    rfl
theorem goodT_of {t : D} (h : goodT t = true) : ∃ s f, t = .tup [.str s, f] ∧ nmS s = true ∧ isAmt f = true ∧ isZ f = false := by
  unfold goodT at h
  obtain ⟨h1, h2⟩ := Bool.and_eq_true_iff.mp h
  unfold isTerm at h1
  split at h1
  · rename_i a b
    obtain ⟨h3, h4⟩ := Bool.and_eq_true_iff.mp h1
    cases a with
    | str s => exact ⟨s, b, rfl, h3, h4, by simpa [facOf] using h2⟩
    | _ => cases h3
  · cases h1
theorem zip_asc : ∀ l : List D, ((l.zip (l.drop 1)).map fun p => ltB p.1 p.2).all id = asc l
  | [] => rfl
  | [_] => rfl
  | x :: y :: r => by
    have ih := zip_asc (y :: r)
    show (ltB x y && (((y :: r).zip ((y :: r).drop 1)).map fun p => ltB p.1 p.2).all id) = _
    rw [ih]
    rfl
theorem amt_cases {d : D} (h : isAmt d = true) : ∃ a b, d = .tup [.int a, .int b] := by
  unfold isAmt at h
  split at h
  · rename_i x y
    unfold amt2 at h
    split at h
    · exact ⟨_, _, rfl⟩
    · cases h
  · cases h
mutual
/-- data with no handle in it, texts of at most 1000 signs, no list of more than 1000 items -/
def tame : D → Bool
  | .hnd _ => false
  | .dic _ _ => false
  | .ins _ _ _ => false
  | .lam _ _ => false
  | .str s => decide (s.length ≤ 1000)
  | .tup ds => decide (ds.length ≤ 1000) && tames ds
  | .lst ds => decide (ds.length ≤ 1000) && tames ds
  | _ => true
def tames : List D → Bool
  | [] => true
  | d :: ds => tame d && tames ds
end
mutual
theorem tame_plain : ∀ {d : D}, tame d = true → plain d = true
  | .non, _ => by unfold plain; rfl
  | .bl _, _ => by unfold plain; rfl
  | .int _, _ => by unfold plain; rfl
  | .str _, _ => by unfold plain; rfl
  | .hnd _, h => by unfold tame at h; cases h
  | .dic _ _, h => by unfold tame at h; cases h
  | .ins _ _ _, h => by unfold tame at h; cases h
  | .lam _ _, h => by unfold tame at h; cases h
  | .tup ds, h => by
    unfold tame at h
    unfold plain
    exact tames_plains (Bool.and_eq_true_iff.mp h).2
  | .lst ds, h => by
    unfold tame at h
    unfold plain
    exact tames_plains (Bool.and_eq_true_iff.mp h).2
theorem tames_plains : ∀ {ds : List D}, tames ds = true → plains ds = true
  | [], _ => by unfold plains; rfl
  | d :: ds, h => by
    unfold tames at h
    unfold plains
    obtain ⟨h1, h2⟩ := Bool.and_eq_true_iff.mp h
    rw [tame_plain h1, tames_plains h2]
    rfl
end
theorem tames_all {ds : List D} : tames ds = true ↔ ∀ d ∈ ds, tame d = true := by
  induction ds with
  | nil => unfold tames; simp
  | cons a r ih =>
    unfold tames
    rw [Bool.and_eq_true_iff, ih]
    simp
theorem tame_tup {ds : List D} : tame (.tup ds) = true ↔ ds.length ≤ 1000 ∧ ∀ d ∈ ds, tame d = true := by
  rw [tame, Bool.and_eq_true_iff, tames_all, decide_eq_true_iff]
theorem tame_lst {ds : List D} : tame (.lst ds) = true ↔ ds.length ≤ 1000 ∧ ∀ d ∈ ds, tame d = true := by
  rw [tame, Bool.and_eq_true_iff, tames_all, decide_eq_true_iff]
theorem amt_tame {n : Nat} {d : D} (h : AmtD n d) : tame d = true := by
  obtain ⟨a, b, rfl, _⟩ := h
  rfl
/-- a comprehension with a test: f gives what is kept -/
theorem lcM {items : List D} {P : List D → Prop} {g : WG} {t : WT} {w : WE} {ds : List Sl} (f : D → Option D) (h : ∀ d ∈ items, ∀ (Y : D → Prop) (N : Prop), (∀ y, f d = some y → Y y) → (f d = none → N) → g d ds fun ds1 => t ds1 fun b => if b = true then w ds1 Y else N) (hP : P (items.filterMap f)) :
    ∃ Iv : Nat → List D → Prop, Iv 0 [] ∧ (∀ i d acc, items[i]? = some d → Iv i acc → g d ds fun ds1 => t ds1 fun b => if b = true then w ds1 fun y => Iv (i + 1) (acc ++ [y]) else Iv (i + 1) acc) ∧ ∀ acc, Iv items.length acc → P acc := by
  refine ⟨fun i acc => acc = (items.take i).filterMap f, rfl, fun i d acc hd ha => ?_, fun acc ha => by have z : acc = (items.take items.length).filterMap f := ha; rw [z, List.take_length]; exact hP⟩
  subst ha
  refine h d (List.mem_of_getElem? hd) _ _ (fun y hy => ?_) fun hn => ?_
  · show (items.take i).filterMap f ++ [y] = (items.take (i + 1)).filterMap f
    rw [take_one hd, List.filterMap_append]
    simp [hy]
  · show (items.take i).filterMap f = (items.take (i + 1)).filterMap f
    rw [take_one hd, List.filterMap_append]
    simp [hn]
theorem cut_tail (xs : List D) : cutD xs (some 1) none = xs.drop 1 := by
  unfold cutD
  cases xs with
  | nil => rfl
  | cons a r =>
    show ((a :: r).drop (min 1 (r.length + 1))).take (r.length + 1 - min 1 (r.length + 1)) = _
    rw [show min 1 (r.length + 1) = 1 by omega]
    show r.take _ = r
    rw [List.take_of_length_le (by omega)]
def pairLt : D → Bool
  | .tup [x, y] => ltB x y
  | _ => false
theorem zips_lt (xs ys : List D) : (zipsD xs ys).map (fun d => D.bl (pairLt d)) = ((xs.zip ys).map fun p => ltB p.1 p.2).map D.bl := by
  unfold zipsD
  rw [List.map_map, List.map_map]
  rfl
theorem zips_mem {xs ys : List D} {d : D} (h : d ∈ zipsD xs ys) : ∃ x ∈ xs, ∃ y ∈ ys, d = .tup [x, y] := by
  obtain ⟨i, hi⟩ := List.getElem?_of_mem h
  obtain ⟨x, y, h1, h2, e⟩ := zips_get hi
  exact ⟨x, List.mem_of_getElem? h1, y, List.mem_of_getElem? h2, e⟩
theorem toPys_lay {n : Nat} : ∀ {l : List D}, (∀ x ∈ l, (toPy x).canLay0 = true ∧ (toPy x).depth ≤ n) → PyData.canLayAll0 (toPys l) = true ∧ PyData.depthAll (toPys l) ≤ n
  | [], _ => ⟨by unfold toPys PyData.canLayAll0; rfl, by unfold toPys PyData.depthAll; omega⟩
  | x :: l, h => by
    obtain ⟨h1, h2⟩ := toPys_lay (l := l) fun y hy => h y (by simp [hy])
    obtain ⟨h3, h4⟩ := h x (by simp)
    unfold toPys PyData.canLayAll0 PyData.depthAll
    exact ⟨by rw [h1, h3]; rfl, Nat.max_le.mpr ⟨h4, h2⟩⟩
theorem shp_lst {l : List D} (h : ∀ x ∈ l, (toPy x).canLay0 = true ∧ (toPy x).depth ≤ 60) : shp (.lst l) = true := by
  obtain ⟨h1, h2⟩ := toPys_lay h
  unfold shp SeqAt.shaped toPy PyData.canLay0 PyData.depth
  rw [h1, decide_eq_true (by omega)]
  rfl
theorem shp_tup {l : List D} (h : ∀ x ∈ l, (toPy x).canLay0 = true ∧ (toPy x).depth ≤ 60) : shp (.tup l) = true := by
  obtain ⟨h1, h2⟩ := toPys_lay h
  unfold shp SeqAt.shaped toPy PyData.canLay0 PyData.depth
  rw [h1, decide_eq_true (by omega)]
  rfl
theorem nm_lay {s : Str} (h : nmS s = true) : (toPy (.str s)).canLay0 = true ∧ (toPy (.str s)).depth ≤ 60 := by
  unfold nmS at h
  obtain ⟨_, h⟩ := Bool.and_eq_true_iff.mp h
  have h := List.all_eq_true.mp h
  unfold toPy PyData.canLay0 PyData.depth
  refine ⟨?_, by omega⟩
  have key : ∀ c ∈ abcL, c < 0x110000 := by decide +kernel
  show s.cps.all (· < 0x110000) = true
  rw [← Array.all_toList, List.all_eq_true]
  intro c hc
  exact decide_eq_true (key c (of_decide_eq_true (h c hc)))
theorem eqv_nil (l : List D) : eqv (.lst l) (.lst []) = l.isEmpty := by cases l <;> rfl
theorem tot_at {n : Nat} {ps : List D} (h : ∀ p ∈ ps, PairD n p) (i : Nat) : TotOk n (fun _ => True) (ps.take i) (totals (ps.take i)) := tot_ok fun p hp => by
  obtain ⟨s, f, rfl, hf⟩ := h p (List.mem_of_mem_take hp)
  exact ⟨s, f, rfl, hf, trivial⟩
theorem ncnt_mul {n M : Nat} {ps : List D} (hM : ∀ k, ncnt k ps ≤ M) (k : Str) (i : Nat) : ncnt k (ps.take i) * (n + 1) + 1 ≤ M * (n + 1) + 1 := by
  have := Nat.mul_le_mul_right (n + 1) (Nat.le_trans (ncnt_take k ps i) (hM k))
  omega
theorem tot_amt {n i M N : Nat} {ps : List D} (h : ∀ p ∈ ps, PairD n p) (hM : ∀ k, ncnt k ps ≤ M) (hN : M * (n + 1) + 1 ≤ N) {s : Str} {v : D} (hv : lkp (totals (ps.take i)).1 (totals (ps.take i)).2 s = some v) : AmtD N v :=
  ((tot_at h i).val s v hv).mono (Nat.le_trans (ncnt_mul hM s i) hN)
theorem tot_get {n i M N : Nat} {ps : List D} (h : ∀ p ∈ ps, PairD n p) (hM : ∀ k, ncnt k ps ≤ M) (hN : M * (n + 1) + 1 ≤ N) (s : Str) : AmtD N ((lkp (totals (ps.take i)).1 (totals (ps.take i)).2 s).getD zeroD) := by
  cases e : lkp (totals (ps.take i)).1 (totals (ps.take i)).2 s with
  | none => exact zero_amt.mono (by omega)
  | some v => exact tot_amt h hM hN e
theorem tot_few {n i : Nat} {ps : List D} (h : ∀ p ∈ ps, PairD n p) : (totals (ps.take i)).1.length ≤ ps.length := by
  have := (tot_at h i).few
  rw [List.length_take] at this
  omega
def keepD (t : List Str × List D) : D → Option D
  | .str s => keepT t s
  | _ => none
theorem keep_map (t : List Str × List D) : ((srt t.1).map D.str).filterMap (keepD t) = formTs t := by
  unfold formTs
  rw [List.filterMap_map]
  rfl
theorem keepT_some {t : List Str × List D} {s : Str} {a b : Int} (h : lkp t.1 t.2 s = some (.tup [.int a, .int b])) : keepT t s = if (decide (a = 0) && decide (b = 1)) = true then none else some (.tup [.str s, .tup [.int a, .int b]]) := by
  unfold keepT
  rw [h]
  rfl
theorem cut_len (xs : List D) (a b : Option Int) : (cutD xs a b).length ≤ xs.length := by
  unfold cutD
  rw [List.length_take, List.length_drop]
  omega
theorem cut_mem {xs : List D} {a b : Option Int} {d : D} (h : d ∈ cutD xs a b) : d ∈ xs := List.mem_of_mem_drop (List.mem_of_mem_take h)
theorem All2.mem {S : D → Prop} {xs ys : List D} (h : All2 (fun _ y => S y) xs ys) : ∀ y ∈ ys, S y := by
  induction h with
  | nil => intro y hy; cases hy
  | cons h _ ih =>
    intro y hy
    rcases List.mem_cons.mp hy with e | hy
    · rw [e]; exact h
    · exact ih y hy
/-- a slot that holds no own list -/
def Sl.pl : Sl → Prop
  | .un => True
  | .d _ => True
  | _ => False
theorem sl_pl {s : Sl} (h : s.pl) : s = .un ∨ ∃ x, s = .d x := by
  cases s with
  | un => exact .inl rfl
  | d x => exact .inr ⟨x, rfl⟩
  | ml _ => exact h.elim
  | md _ _ => exact h.elim
  | mi _ _ _ _ => exact h.elim
/-! ### forms: sums, values -/
def scaleD (f : D) : D → D
  | .tup [s, g] => .tup [s, timesD f g]
  | _ => .non
def valD (ts : List D) (c : D) (ks : List Str) (xs : List D) : D := ts.foldl (fun acc t => match t with
  | .tup [.str s, f] => plusD acc (timesD f ((lkp ks xs s).getD .non))
  | _ => acc) c
theorem val_take {ts : List D} {i : Nat} {s : Str} {f c v : D} {ks : List Str} {xs : List D} (h : ts[i]? = some (.tup [.str s, f])) (hv : lkp ks xs s = some v) : valD (ts.take (i + 1)) c ks xs = plusD (valD (ts.take i) c ks xs) (timesD f v) := by
  unfold valD
  rw [take_one h, List.foldl_append]
  show plusD _ (timesD f ((lkp ks xs s).getD .non)) = _
  rw [hv]
  rfl
theorem val_amt {n m : Nat} {ts : List D} {c : D} {ks : List Str} {xs : List D} (hc : AmtD n c) (ht : ∀ t ∈ ts, PairD n t) (hk : ∀ s f, .tup [.str s, f] ∈ ts → ∃ v, lkp ks xs s = some v ∧ AmtD m v) : ∀ i, i ≤ ts.length → AmtD (n + i * (n + m + 1)) (valD (ts.take i) c ks xs)
  | 0, _ => by
    rw [Nat.zero_mul]
    exact hc
  | i + 1, h => by
    obtain ⟨t, e⟩ := get_lt (xs := ts) (i := i) (by omega)
    have hm := List.mem_of_getElem? e
    obtain ⟨s, f, rfl, hf⟩ := ht t hm
    obtain ⟨v, h1, h2⟩ := hk s f hm
    rw [val_take e h1, Nat.succ_mul]
    exact (plus_amt (val_amt hc ht hk i (by omega)) (times_amt hf h2)).mono (by omega)
theorem rat_one {n : Nat} {a b : Int} (A : Amt n a b) : ratD a b = .tup [.int a, .int b] := by
  obtain ⟨h1, h2⟩ := rat_self A.pos A.cop
  unfold ratD
  rw [h1, h2]
theorem times_one {n : Nat} {f : D} (h : AmtD n f) : timesD (.tup [.int 1, .int 1]) f = f := by
  obtain ⟨a, b, rfl, A⟩ := h
  show ratD (1 * a) (1 * b) = _
  rw [Int.one_mul, Int.one_mul]
  exact rat_one A
theorem plus_zero {n : Nat} {f : D} (h : AmtD n f) : plusD zeroD f = f := by
  obtain ⟨a, b, rfl, A⟩ := h
  show ratD (0 * b + a * 1) (1 * b) = _
  rw [Int.zero_mul, Int.zero_add, Int.mul_one, Int.one_mul]
  exact rat_one A
theorem rat_zero {b : Int} (h : 0 < b) : ratD 0 b = zeroD := by
  have hg : ((Int.gcd 0 b : Nat) : Int) = b := by
    rw [Int.gcd_zero_left]
    omega
  have hk : ratK 0 b = b := by
    unfold ratK
    rw [if_pos h, hg]
  unfold ratD ratT ratB
  rw [hk, Int.zero_fdiv, Int.fdiv_self (by omega)]
  rfl
theorem plus_neg {n : Nat} {f : D} (h : AmtD n f) : plusD f (timesD (.tup [.int (-1), .int 1]) f) = zeroD := by
  obtain ⟨a, b, rfl, A⟩ := h
  have e : timesD (.tup [.int (-1), .int 1]) (.tup [.int a, .int b]) = .tup [.int (-a), .int b] := by
    show ratD (-1 * a) (1 * b) = _
    rw [Int.neg_one_mul, Int.one_mul]
    exact rat_one (n := n) ⟨A.pos, by rw [Int.neg_gcd]; exact A.cop, by rw [Int.natAbs_neg]; exact A.ha, A.hb⟩
  rw [e]
  show ratD (a * b + -a * b) (b * b) = _
  rw [Int.neg_mul, Int.add_right_neg]
  exact rat_zero (Int.mul_pos A.pos A.pos)
theorem scale_one {n : Nat} {ts : List D} (h : ∀ t ∈ ts, PairD n t) : ts.map (scaleD (.tup [.int 1, .int 1])) = ts := by
  induction ts with
  | nil => rfl
  | cons t ts ih =>
    obtain ⟨s, f, rfl, hf⟩ := h t (by simp)
    rw [List.map_cons, ih fun u hu => h u (by simp [hu])]
    show D.tup [.str s, timesD _ f] :: ts = _
    rw [times_one hf]
/-- terms in order, without zeros -/
structure Normal (n : Nat) (ts : List D) : Prop where
  pr : ∀ t ∈ ts, ∃ s f, t = .tup [.str s, f] ∧ AmtD n f ∧ isZ f = false
  nd : (ts.filterMap fun t => match t with | .tup [.str s, _] => some s | _ => none).Nodup
  so : (ts.filterMap fun t => match t with | .tup [.str s, _] => some s | _ => none).Pairwise fun a b => leS a b = true
theorem isZ_zero {f : D} (h : AmtD n f) (hz : isZ f = true) : f = zeroD := by
  obtain ⟨a, b, rfl, A⟩ := h
  have hz : (decide (a = 0) && decide (b = 1)) = true := hz
  obtain ⟨h1, h2⟩ := Bool.and_eq_true_iff.mp hz
  rw [of_decide_eq_true h1, of_decide_eq_true h2]
  rfl
/-- totals of pairs with different names: the pairs themselves -/
theorem tot_diff : ∀ (ps : List D) (t : List Str × List D) {n : Nat}, t.2.length = t.1.length → (∀ p ∈ ps, ∃ s f, p = .tup [.str s, f] ∧ AmtD n f) → (t.1 ++ ps.filterMap keyOf).Nodup →
    ps.foldl totStep t = (t.1 ++ ps.filterMap keyOf, t.2 ++ ps.map facOf)
  | [], t, _, _, _, _ => by simp
  | p :: ps, t, n, hl, h, hn => by
    obtain ⟨s, f, rfl, hf⟩ := h p (by simp)
    have ek : (D.tup [.str s, f] :: ps).filterMap keyOf = s :: ps.filterMap keyOf := rfl
    rw [ek] at hn ⊢
    have hs : s ∉ t.1 := fun z => by
      have := (List.nodup_append.mp hn).2.2 s z s (by simp)
      exact this rfl
    have hlk : lkp t.1 t.2 s = none := by
      cases e : lkp t.1 t.2 s with
      | none => rfl
      | some v => exact absurd (lkp_some e).1 hs
    have es : totStep t (.tup [.str s, f]) = (t.1 ++ [s], t.2 ++ [f]) := by
      show (putKs t.1 s, putDs t.1 t.2 s (plusD ((lkp t.1 t.2 s).getD zeroD) f)) = _
      rw [hlk]
      show (putKs t.1 s, putDs t.1 t.2 s (plusD zeroD f)) = _
      rw [plus_zero hf]
      unfold putKs putDs
      rw [if_neg hs, if_neg hs]
    rw [List.foldl_cons, es, tot_diff ps _ (n := n) (by simp [hl]) (fun q hq => h q (by simp [hq])) (by simpa using hn)]
    simp [facOf]
theorem lkp_zip : ∀ {ps : List D} {n : Nat}, (∀ p ∈ ps, ∃ s f, p = .tup [.str s, f] ∧ AmtD n f) → (ps.filterMap keyOf).Nodup → ∀ s f, .tup [.str s, f] ∈ ps → lkp (ps.filterMap keyOf) (ps.map facOf) s = some f
  | [], _, _, _, s, f, h => by cases h
  | p :: ps, n, h, hn, s, f, hm => by
    obtain ⟨s0, f0, rfl, _⟩ := h p (by simp)
    have ek : (D.tup [.str s0, f0] :: ps).filterMap keyOf = s0 :: ps.filterMap keyOf := rfl
    rw [ek] at hn ⊢
    show (if s0 = s then some f0 else lkp (ps.filterMap keyOf) (ps.map facOf) s) = some f
    rcases List.mem_cons.mp hm with e | hm
    · cases e
      rw [if_pos rfl]
    · have : s ∈ ps.filterMap keyOf := List.mem_filterMap.mpr ⟨_, hm, rfl⟩
      have ne : s0 ≠ s := fun z => (List.nodup_cons.mp hn).1 (by rw [z]; exact this)
      rw [if_neg ne]
      exact lkp_zip (fun q hq => h q (by simp [hq])) (List.nodup_cons.mp hn).2 s f hm
/-- a form's terms, added up again, are the same -/
theorem formTs_self {ps : List D} {n : Nat} (h : ∀ p ∈ ps, ∃ s f, p = .tup [.str s, f] ∧ AmtD n f ∧ isZ f = false) (hn : (ps.filterMap keyOf).Nodup) (hs : (ps.filterMap keyOf).Pairwise fun a b => leS a b = true) : formTs (totals ps) = ps := by
  have h' : ∀ p ∈ ps, ∃ s f, p = .tup [.str s, f] ∧ AmtD n f := fun p hp => by
    obtain ⟨s, f, e, hf, _⟩ := h p hp
    exact ⟨s, f, e, hf⟩
  have et : totals ps = (ps.filterMap keyOf, ps.map facOf) := by
    unfold totals
    rw [tot_diff ps ([], []) (n := n) rfl h' (by simpa using hn)]
    simp
  unfold formTs
  rw [et]
  have es : srt (ps.filterMap keyOf) = ps.filterMap keyOf := List.mergeSort_of_pairwise hs
  rw [show (ps.filterMap keyOf, ps.map facOf).1 = ps.filterMap keyOf from rfl, es]
  have key : ∀ l : List D, (∀ p ∈ l, p ∈ ps) → (l.filterMap keyOf).filterMap (keepT (ps.filterMap keyOf, ps.map facOf)) = l := by
    intro l
    induction l with
    | nil => intro _; rfl
    | cons p l ih =>
      intro hm
      obtain ⟨s, f, rfl, hf, hz⟩ := h p (hm p (by simp))
      have ek : (D.tup [.str s, f] :: l).filterMap keyOf = s :: l.filterMap keyOf := rfl
      have e1 : keepT (ps.filterMap keyOf, ps.map facOf) s = some (.tup [.str s, f]) := by
        unfold keepT
        rw [lkp_zip h' hn s f (hm _ (by simp))]
        simp [hz]
      rw [ek, List.filterMap_cons, e1, ih fun q hq => hm q (by simp [hq])]
  exact key ps fun p hp => hp
theorem keys_form {t : List Str × List D} : ∀ l : List Str, ((l.filterMap (keepT t)).filterMap keyOf).Sublist l
  | [] => .slnil
  | s :: l => by
    rw [List.filterMap_cons]
    cases e : keepT t s with
    | none => exact (keys_form l).cons _
    | some d =>
      unfold keepT at e
      cases e2 : lkp t.1 t.2 s with
      | none => rw [e2] at e; cases e
      | some v =>
        rw [e2] at e
        cases hz : isZ v with
        | true => simp [hz] at e
        | false =>
          simp [hz] at e
          subst e
          exact (keys_form l).cons₂ s
theorem form_nodup {t : List Str × List D} (h : t.1.Nodup) : ((formTs t).filterMap keyOf).Nodup := (keys_form _).nodup (srt_nodup h)
theorem form_sorted (t : List Str × List D) : ((formTs t).filterMap keyOf).Pairwise fun a b => leS a b = true := (List.pairwise_mergeSort leS_trans leS_total t.1).sublist (keys_form _)
/-! ### what _law_same may be asked of -/
theorem okD_amt {n : Nat} {d : D} (h : AmtD n d) (m : Nat) : okD (m + 1) d = true := by
  obtain ⟨a, b, rfl, _⟩ := h
  cases m <;> rfl
theorem okD_pair {n : Nat} {d : D} (h : PairD n d) (m : Nat) : okD (m + 2) d = true := by
  obtain ⟨s, f, rfl, a, b, rfl, _⟩ := h
  cases m <;> rfl
theorem okD_tup {n : Nat} {l : List D} (h1 : l.length ≤ 1000000) (h : ∀ x ∈ l, okD n x = true) : okD (n + 1) (.tup l) = true := by
  show (decide (l.length ≤ 1000000) && l.all (okD n)) = true
  rw [decide_eq_true h1, List.all_eq_true.mpr h]
  rfl
theorem okD_lst {n : Nat} {l : List D} (h1 : l.length ≤ 1000000) (h : ∀ x ∈ l, okD n x = true) : okD (n + 1) (.lst l) = true := by
  show (decide (l.length ≤ 1000000) && l.all (okD n)) = true
  rw [decide_eq_true h1, List.all_eq_true.mpr h]
  rfl
/-- a form of few terms whose amounts are below 2^n -/
structure FormOk (n : Nat) (S : Str → Prop) (d : D) (ts : List D) (c : D) : Prop where
  e : d = .tup [.tup ts, c]
  few : ts.length ≤ 1000
  pr : ∀ t ∈ ts, ∃ s f, t = .tup [.str s, f] ∧ AmtD n f ∧ S s ∧ isZ f = false
  c : AmtD n c
theorem FormOk.ok {n : Nat} {S : Str → Prop} {d c : D} {ts : List D} (h : FormOk n S d ts c) (m : Nat) : okD (m + 4) d = true := by
  rw [h.e]
  refine okD_tup (by simp) fun x hx => ?_
  simp only [List.mem_cons, List.not_mem_nil, or_false] at hx
  rcases hx with rfl | rfl
  · refine okD_tup (by have := h.few; omega) fun t ht => ?_
    obtain ⟨s, f, rfl, hf, _⟩ := h.pr t ht
    exact okD_pair (n := n) ⟨s, f, rfl, hf⟩ m
  · exact okD_amt h.c _
theorem form_ok {n M N : Nat} {S : Str → Prop} {ps : List D} {c : D} (h : ∀ p ∈ ps, ∃ s f, p = .tup [.str s, f] ∧ AmtD n f ∧ S s) (hl : ps.length ≤ 1000) (hM : ∀ k, ncnt k ps ≤ M) (hN : M * (n + 1) + 1 ≤ N) (hc : AmtD N c) : FormOk N S (formD ps c) (formTs (totals ps)) c := by
  have tk := tot_ok h
  refine ⟨rfl, Nat.le_trans (formTs_len _) (Nat.le_trans tk.few hl), fun t ht => ?_, hc⟩
  obtain ⟨s, f, e, hf, hs, hz⟩ := formTs_mem tk ht
  have := Nat.mul_le_mul_right (n + 1) (hM s)
  exact ⟨s, f, e, hf.mono (by omega), hs, hz⟩
theorem keys_scale {f : D} {ps : List D} (h : ∀ p ∈ ps, ∃ s g, p = D.tup [.str s, g]) : (ps.map (scaleD f)).filterMap keyOf = ps.filterMap keyOf := by
  induction ps with
  | nil => rfl
  | cons p ps ih =>
    obtain ⟨s, g, rfl⟩ := h p (by simp)
    show s :: (ps.map (scaleD f)).filterMap keyOf = s :: ps.filterMap keyOf
    rw [ih fun q hq => h q (by simp [hq])]
theorem nodup_le : ∀ {l m : List Str}, l.Nodup → (∀ x ∈ l, x ∈ m) → l.length ≤ m.length
  | [], _, _, _ => Nat.zero_le _
  | a :: l, m, h, k => by
    have ha := k a (by simp)
    have hn := List.nodup_cons.mp h
    have ih := nodup_le (l := l) (m := m.erase a) hn.2 fun x hx => by
      have ne : x ≠ a := fun z => hn.1 (by rw [← z]; exact hx)
      exact (List.mem_erase_of_ne ne).mpr (k x (by simp [hx]))
    rw [List.length_erase_of_mem ha] at ih
    have := List.length_pos_of_mem ha
    rw [List.length_cons]
    omega
/-- different names out of few -/
theorem form_few {n : Nat} {ss : List Str} {ps : List D} (h : ∀ p ∈ ps, ∃ s f, p = .tup [.str s, f] ∧ AmtD n f ∧ s ∈ ss) : (formTs (totals ps)).length ≤ ss.length := by
  have tk := tot_ok h
  refine Nat.le_trans (formTs_len _) ?_
  exact nodup_le tk.nd fun k hk => tk.nm k hk
mutual
theorem eqv_refl : ∀ {d : D}, plain d = true → eqv d d = true
  | .non, _ => rfl
  | .bl b, _ => by cases b <;> rfl
  | .int i, _ => by show (i == i) = true; simp
  | .str s, _ => by show (s == s) = true; simp
  | .hnd _, h => by unfold plain at h; cases h
  | .dic _ _, h => by unfold plain at h; cases h
  | .ins _ _ _, h => by unfold plain at h; cases h
  | .lam _ _, h => by unfold plain at h; cases h
  | .tup ds, h => by
    have z := eqvs_refl (plain_tup h)
    unfold eqv toPy
    unfold PyData.eqv
    exact z
  | .lst ds, h => by
    have z := eqvs_refl (plain_lst h)
    unfold eqv toPy
    unfold PyData.eqv
    exact z
theorem eqvs_refl : ∀ {ds : List D}, plains ds = true → PyData.eqvAll (toPys ds) (toPys ds) = true
  | [], _ => by unfold toPys PyData.eqvAll; rfl
  | d :: ds, h => by
    unfold plains at h
    obtain ⟨h1, h2⟩ := Bool.and_eq_true_iff.mp h
    have z1 := eqv_refl h1
    have z2 := eqvs_refl h2
    unfold eqv at z1
    unfold toPys PyData.eqvAll
    rw [z1, z2]
    rfl
end
theorem pair_lay {n : Nat} {d : D} (h : ∃ s f, d = .tup [.str s, f] ∧ AmtD n f ∧ nmS s = true) : (toPy d).canLay0 = true ∧ (toPy d).depth ≤ 60 := by
  obtain ⟨s, f, rfl, ⟨a, b, rfl, _⟩, hs⟩ := h
  have z := (nm_lay hs).1
  refine ⟨?_, by show 2 ≤ 60; decide⟩
  show ((toPy (.str s)).canLay0 && (true && true)) = true
  rw [z]
  rfl
/-- a dict of known amounts -/
structure Known (m : Nat) (ks : List Str) (xs : List D) : Prop where
  len : xs.length = ks.length
  val : ∀ x ∈ xs, AmtD m x
theorem Known.get {m : Nat} {ks : List Str} {xs : List D} (h : Known m ks xs) {s : Str} (hs : s ∈ ks) : ∃ v, lkp ks xs s = some v ∧ AmtD m v := by
  obtain ⟨v, h1, h2⟩ := lkp_mem h.len hs
  exact ⟨v, h1, h.val v h2⟩
theorem Known.put {m : Nat} {ks : List Str} {xs : List D} (h : Known m ks xs) (s : Str) {v : D} (hv : AmtD m v) : Known m (putKs ks s) (putDs ks xs s v) := by
  refine ⟨put_len h.len, fun x hx => ?_⟩
  unfold putDs at hx
  by_cases e : s ∈ ks
  · rw [if_pos e] at hx
    obtain ⟨p, hp, rfl⟩ := List.mem_map.mp hx
    by_cases e2 : p.1 = s
    · rw [if_pos e2]; exact hv
    · rw [if_neg e2]; exact h.val _ (List.of_mem_zip hp).2
  · rw [if_neg e] at hx
    rcases List.mem_append.mp hx with hx | hx
    · exact h.val x hx
    · rw [List.mem_singleton.mp hx]; exact hv
theorem nm_tame {s : Str} (hs : nmS s = true) : tame (.str s) = true := by
  unfold tame
  unfold nmS at hs
  have h1 := (Bool.and_eq_true_iff.mp (Bool.and_eq_true_iff.mp hs).1).2
  have := of_decide_eq_true h1
  exact decide_eq_true (by omega)
theorem pair_tame {n : Nat} {d : D} (h : ∃ s f, d = .tup [.str s, f] ∧ AmtD n f ∧ nmS s = true) : tame d = true := by
  obtain ⟨s, f, rfl, hf, hs⟩ := h
  refine tame_tup.mpr ⟨Nat.le_of_ble_eq_true rfl, fun x hx => ?_⟩
  simp only [List.mem_cons, List.not_mem_nil, or_false] at hx
  rcases hx with rfl | rfl
  · exact nm_tame hs
  · exact amt_tame hf
theorem formTs_nil : formTs (totals []) = [] := by
  unfold formTs totals srt
  simp
theorem FormOk.pair {n : Nat} {S : Str → Prop} {d c : D} {ts : List D} (h : FormOk n S d ts c) : ∀ t ∈ ts, PairD n t := fun t ht => by
  obtain ⟨s, f, e, hf, _⟩ := h.pr t ht
  exact ⟨s, f, e, hf⟩
theorem FormOk.known {n m : Nat} {S : Str → Prop} {d c : D} {ts : List D} {ks : List Str} {xs : List D} (h : FormOk n S d ts c) (hk : ∀ s, S s → ∃ v, lkp ks xs s = some v ∧ AmtD m v) : ∀ s f, .tup [.str s, f] ∈ ts → ∃ v, lkp ks xs s = some v ∧ AmtD m v := fun s f ht => by
  obtain ⟨s', f', e, _, hs, _⟩ := h.pr _ ht
  cases e
  exact hk s hs
theorem FormOk.val {n m N : Nat} {S : Str → Prop} {d c : D} {ts : List D} {ks : List Str} {xs : List D} (h : FormOk n S d ts c) (hk : ∀ s, S s → ∃ v, lkp ks xs s = some v ∧ AmtD m v) (hN : n + ts.length * (n + m + 1) ≤ N) : AmtD N (valD ts c ks xs) := by
  have := val_amt h.c h.pair (h.known hk) ts.length (Nat.le_refl _)
  rw [List.take_length] at this
  exact this.mono hN
/-! ### rows of systems -/
def sgnI (a : Int) : Int := (if decide (0 < a) = true then 1 else 0) - (if decide (a < 0) = true then 1 else 0)
def sgnD : D → Int
  | .tup [.int a, _] => sgnI a
  | _ => 0
def valZ (items : List D) (c : D) : D := items.foldl (fun acc t => match t with
  | .tup [f, v] => plusD acc (timesD f v)
  | _ => acc) c
theorem valZ_take {items : List D} {i : Nat} {f v c : D} (h : items[i]? = some (.tup [f, v])) : valZ (items.take (i + 1)) c = plusD (valZ (items.take i) c) (timesD f v) := by
  unfold valZ
  rw [take_one h, List.foldl_append]
  rfl
theorem valZ_amt {n m k : Nat} {items : List D} {c : D} (hc : AmtD k c) (ht : ∀ t ∈ items, ∃ f v, t = .tup [f, v] ∧ AmtD n f ∧ AmtD m v) : ∀ i, i ≤ items.length → AmtD (k + i * (n + m + 1)) (valZ (items.take i) c)
  | 0, _ => by
    rw [Nat.zero_mul]
    exact hc
  | i + 1, h => by
    obtain ⟨t, e⟩ := get_lt (xs := items) (i := i) (by omega)
    have hm := List.mem_of_getElem? e
    obtain ⟨f, v, rfl, hf, hv⟩ := ht t hm
    rw [valZ_take e, Nat.succ_mul]
    exact (plus_amt (valZ_amt hc ht i (by omega)) (times_amt hf hv)).mono (by omega)
def RowD (n k : Nat) (row : D) : Prop := ∃ fs c rel, row = .tup [.tup fs, c, .str rel] ∧ (∀ f ∈ fs, AmtD n f) ∧ AmtD k c ∧ fs.length ≤ 20
def eqS : Str := Str.ofString "="
def rowP (ps : List D) : D → Bool
  | .tup [.tup fs, c, .str rel] => decide (sgnD (valZ (zipsD fs ps) c) = (if decide (rel = eqS) = true then 0 else -1))
  | _ => false
def rowL (ps : List D) : D → Bool
  | .tup [.tup fs, _, _] => decide (ps.length = fs.length)
  | _ => false
def negA : D → D
  | .tup [.int a, b] => .tup [.int (0 - a), b]
  | _ => .non
def minusD (x y : D) : D := plusD x (negA y)
theorem neg_amt {n : Nat} {x : D} (h : AmtD n x) : AmtD n (negA x) := by
  obtain ⟨a, b, rfl, A⟩ := h
  refine ⟨0 - a, b, rfl, A.pos, ?_, ?_, A.hb⟩
  · rw [Int.zero_sub, Int.neg_gcd]; exact A.cop
  · rw [Int.zero_sub, Int.natAbs_neg]; exact A.ha
theorem valZ_full {n m k N : Nat} {fs ps : List D} {c : D} (hc : AmtD k c) (hf : ∀ f ∈ fs, AmtD n f) (hp : ∀ p ∈ ps, AmtD m p) (hN : k + fs.length * (n + m + 1) ≤ N) : AmtD N (valZ (zipsD fs ps) c) := by
  have hit : ∀ t ∈ zipsD fs ps, ∃ f v, t = .tup [f, v] ∧ AmtD n f ∧ AmtD m v := fun t ht => by
    obtain ⟨x, hx, y, hy, e⟩ := zips_mem ht
    exact ⟨x, y, e, hf x hx, hp y hy⟩
  have z := valZ_amt hc hit (zipsD fs ps).length (Nat.le_refl _)
  rw [List.take_length] at z
  refine z.mono (Nat.le_trans ?_ hN)
  have : (zipsD fs ps).length ≤ fs.length := by rw [zips_len]; omega
  have := Nat.mul_le_mul_right (n + m + 1) this
  omega
def addT (by_ : D) : D → D
  | .tup [x, f] => plusD x (timesD by_ f)
  | _ => .non
def befD (ts fs : List D) : List D := if ts.isEmpty = true then fs.map (fun _ => zeroD) else ts
def addL (ts fs : List D) (by_ : D) : List D := (zipsD (befD ts fs) fs).map (addT by_)
theorem addL_amt {k n m : Nat} {ts fs : List D} {by_ : D} (ht : ∀ t ∈ ts, AmtD k t) (hf : ∀ f ∈ fs, AmtD n f) (hb : AmtD m by_) (hk : 0 < k) : ∀ t ∈ addL ts fs by_, AmtD (k + (n + m + 1)) t := fun t h => by
  obtain ⟨p, hp, rfl⟩ := List.mem_map.mp h
  obtain ⟨x, hx, f, hf2, rfl⟩ := zips_mem hp
  have hx2 : AmtD k x := by
    unfold befD at hx
    cases e : ts.isEmpty with
    | true =>
      rw [e] at hx
      obtain ⟨_, _, rfl⟩ := List.mem_map.mp hx
      exact zero_amt.mono hk
    | false =>
      rw [e] at hx
      exact ht x hx
  exact (plus_amt hx2 (times_amt hb (hf f hf2))).mono (by omega)
theorem addL_len (ts fs : List D) (by_ : D) : (addL ts fs by_).length ≤ fs.length := by
  unfold addL
  rw [List.length_map, zips_len]
  omega
def ltS : Str := Str.ofString "<"
def relB (t : D → Bool) : D → Bool
  | .tup [.tup [_, _, .str rel], by_] => decide (rel = ltS) && t by_
  | _ => false
def negR : D → Bool := relB fun b => decide (sgnD b < 0)
def posR : D → Bool := relB fun b => decide (0 < sgnD b)
def stepT (T : List D) : D → List D
  | .tup [.tup [.tup fs, _, _], by_] => addL T fs by_
  | _ => T
def stepC (c : D) : D → D
  | .tup [.tup [_, c', _], by_] => plusD c (timesD by_ c')
  | _ => c
def sumsT (items : List D) : List D := items.foldl stepT []
def sumsC (items : List D) : D := items.foldl stepC zeroD
theorem sumsT_take {items : List D} {i : Nat} {p : D} (h : items[i]? = some p) : sumsT (items.take (i + 1)) = stepT (sumsT (items.take i)) p := by
  unfold sumsT
  rw [take_one h, List.foldl_append]
  rfl
theorem sumsC_take {items : List D} {i : Nat} {p : D} (h : items[i]? = some p) : sumsC (items.take (i + 1)) = stepC (sumsC (items.take i)) p := by
  unfold sumsC
  rw [take_one h, List.foldl_append]
  rfl
/-- a row and its multiplier -/
def MulD (n k m : Nat) (p : D) : Prop := ∃ row by_, p = .tup [row, by_] ∧ RowD n k row ∧ AmtD m by_
theorem sumsT_ok {n k m : Nat} {items : List D} (h : ∀ p ∈ items, MulD n k m p) : ∀ i, i ≤ items.length → (∀ t ∈ sumsT (items.take i), AmtD (1 + i * (n + m + 1)) t) ∧ (sumsT (items.take i)).length ≤ 20
  | 0, _ => ⟨fun t ht => by simp [sumsT] at ht, by simp [sumsT]⟩
  | i + 1, hi => by
    obtain ⟨p, e⟩ := get_lt (xs := items) (i := i) (by omega)
    obtain ⟨row, by_, rfl, ⟨fs, c, rel, rfl, hf, hc, hl⟩, hb⟩ := h p (List.mem_of_getElem? e)
    obtain ⟨h1, h2⟩ := sumsT_ok h i (by omega)
    rw [sumsT_take e]
    refine ⟨fun t ht => ?_, Nat.le_trans (addL_len _ _ _) hl⟩
    rw [Nat.succ_mul]
    exact (addL_amt h1 hf hb (by omega) t ht).mono (by omega)
theorem sumsC_ok {n k m : Nat} {items : List D} (h : ∀ p ∈ items, MulD n k m p) : ∀ i, i ≤ items.length → AmtD (1 + i * (k + m + 1)) (sumsC (items.take i))
  | 0, _ => zero_amt.mono (by omega)
  | i + 1, hi => by
    obtain ⟨p, e⟩ := get_lt (xs := items) (i := i) (by omega)
    obtain ⟨row, by_, rfl, ⟨fs, c, rel, rfl, hf, hc, hl⟩, hb⟩ := h p (List.mem_of_getElem? e)
    rw [sumsC_take e, Nat.succ_mul]
    exact (plus_amt (sumsC_ok h i (by omega)) (times_amt hb hc)).mono (by omega)
theorem any_take {items : List D} {f : D → Bool} {i : Nat} {p : D} (h : items[i]? = some p) : (items.take (i + 1)).any f = ((items.take i).any f || f p) := by
  rw [take_one h, List.any_append]
  simp
theorem any_true {items : List D} {f : D → Bool} {p : D} (h : p ∈ items) (hf : f p = true) : items.any f = true := List.any_eq_true.mpr ⟨p, h, hf⟩
def refB (items : List D) : Bool := !items.any negR && ((sumsT items).all isZ && (decide (0 < sgnD (sumsC items)) || (isZ (sumsC items) && items.any posR)))
/-! ### texts of amounts -/
def textD : D → Str
  | .tup [.int a, .int b] => if b = 1 then Str.ofString (toString a) else Str.ofString (toString a) ++ ("/" : Str) ++ Str.ofString (toString b)
  | _ => Str.empty
end VL


set_option Elab.async false
set_option linter.all false
set_option maxRecDepth 100000
set_option maxHeartbeats 4000000
/-! f-strings, repr of own classes, constants of a class read at the class -/
namespace PySem.W
open PySem PySem.Spec PySem.Calls PyProof.Rows
section
variable {prog : Program} {w : World} {A : Around} {E : Value → Shared → Prop} {s : Shared} {K : Frag} {x C f : Addr} {ox : Obj} {od : Option Obj}
open Builtin in
theorem vs_repr {Q : Value → Shared → Prop} (hu : A.in1.units < cLine) (X : K.In s.heap) (I : InstAt s.heap x ox C od) (hr : findIn K (.ref C) "__repr__" = some (some (.ref f))) (hf : isFn K (.ref f) = true)
    (h : wpAny (model prog w) A.in1 (call (.ref f) [.ref x]) (fun v s' => ∃ y t, v = .str y t ∧ Q v s') E s) : wpAny (model prog w) A (call (.builtin "repr") [.ref x]) Q E s := by
  refine Calls.call_function_entry F.kind_repr F.plain_repr F.entry_repr (F.args_repr1 _) ?_
  unfold Builtin.«repr»
  refine wpAny_bind (m := oneArg "repr" _) (wpAny_pure ?_)
  refine wpAny_bind (m := cRoomFor _ _) (wpAny_cRoomFor hu ?_)
  refine wpAny_bind (m := specialOf _ _) (wpAny_bind (I.type.here ((looks_findIn X hr).here ?_)))
  refine wpAny_bind (m := callSpecialIfBound? (.ref x) (Str.ofString "__repr__") _) (ifBound_K X I hr hf (wpAny_mono h (fun v s' hq => ?_) fun _ _ y => y))
  obtain ⟨y, t, rfl, q⟩ := hq
  refine wpAny_bind (wpAny_isInstance (T := "str") (b := true) (typeIs_str _ _ _) isSubtype_str_str ?_)
  exact wpAny_pure ⟨_, rfl, q⟩
end
end PySem.W
namespace VL
open PySem PySem.Spec PyProof.Rows L2
section
variable {X : Cx} {W : Wd} {e o : Expr} {es : List Expr} {pos p px : Pos} {k : Nat}
/-! f-strings -/
def wJ : List WE → Str → List Sl → (D → Prop) → Prop
  | [], acc, _, P => P (.str acc)
  | w :: ws, acc, ds, P => w ds fun d => match d with
    | .str y => y.length ≤ 1000 ∧ wJ ws (acc ++ y) ds P
    | .int i => i.natAbs.log2 < 1920 ∧ wJ ws (acc ++ Str.ofString (toString i)) ds P
    | _ => False
inductive VJ (X : Cx) (W : Wd) : List Expr → List WE → Prop where
  | nil : VJ X W [] []
  | lit {e : Expr} {z : Str} {es : List Expr} {ws : List WE} (h : VE X W e (wC (.str z))) (r : VJ X W es ws) : VJ X W (e :: es) (wC (.str z) :: ws)
  | fmt {e : Expr} {w : WE} {pos : Pos} {es : List Expr} {ws : List WE} (h : VE X W e w) (r : VJ X W es ws) : VJ X W (.FormattedValue e (-1) none pos :: es) (w :: ws)
theorem int_len {i : Int} (h : i.natAbs.log2 < 1920) : (Str.ofString (toString i)).length ≤ 2000 := by
  have e := int_text_length_le (k := 1920) (by decide) h
  rw [PySem.ofString_length]; omega
theorem vj_run {es : List Expr} {ws : List WE} (h : VJ X W es ws) : ∃ ts, PJ X es ts ∧ ∀ (σ : L2.St) M0 H0 oa ds (H : Hp) (acc : Str) (P : D → Prop) (Q : Str → Hp → Prop), Sat X.K W M0 H0 oa H σ ds → wJ ws acc ds P → acc.length + 2000 * ws.length ≤ sizeLine →
    (∀ out H', P (.str out) → Ext W H H' → W.I H' → Q out H') → tJs ts acc σ H Q := by
  induction h with
  | nil => exact ⟨[], .nil, fun σ M0 H0 oa ds H acc P Q S hw _ k => k acc H hw (Ext.refl H) S.wi⟩
  | @lit e z es ws h r ih =>
    obtain ⟨ts, h1, h2⟩ := ih
    refine ⟨_ :: ts, .cons h h1, fun σ M0 H0 oa ds H acc P Q S hw hl k => ?_⟩
    refine ⟨M0, H0, oa, ds, fun d => d = .str z, S, rfl, fun d v H1 hd e1 i1 r1 => ?_⟩
    subst hd
    obtain ⟨hz, hw⟩ := hw
    have el := Str.length_append acc z
    rw [List.length_cons] at hl
    refine ⟨z, r1.str, by omega, h2 σ M0 H0 oa ds H1 _ P Q (S.step e1 i1) hw (by omega) fun out H' hp e i => k out H' hp (e1.trans e) i⟩
  | @fmt e w pos es ws h r ih =>
    obtain ⟨ts, h1, h2⟩ := ih
    refine ⟨_ :: ts, .cons (pe_fmt h) h1, fun σ M0 H0 oa ds H acc P Q S hw hl k => ?_⟩
    refine ⟨M0, H0, oa, ds, _, S, hw, fun d v H1 hd e1 i1 r1 => ?_⟩
    rw [List.length_cons] at hl
    cases d <;> first | exact hd.elim | skip
    · rename_i i
      obtain ⟨hz, hw⟩ := hd
      have li := int_len hz
      have el := Str.length_append acc (Str.ofString (toString i))
      exact .inr ⟨i, r1.int, hz, _, rfl, by omega, h2 σ M0 H0 oa ds H1 _ P Q (S.step e1 i1) hw (by omega) fun out H' hp e i => k out H' hp (e1.trans e) i⟩
    · rename_i y
      obtain ⟨hz, hw⟩ := hd
      have el := Str.length_append acc y
      exact .inl ⟨y, r1.str, by rw [sizeLine_eq]; omega, y, rfl, by omega, h2 σ M0 H0 oa ds H1 _ P Q (S.step e1 i1) hw (by omega) fun out H' hp e i => k out H' hp (e1.trans e) i⟩
theorem ve_fstr {v1 v2 : Expr} {ws : List WE} (h : VJ X W (v1 :: v2 :: es) ws) (hl : ws.length ≤ 100 := by exact Nat.le_of_ble_eq_true rfl) : VE X W (.JoinedStr (v1 :: v2 :: es) pos) (fun ds P => wJ ws Str.empty ds P) := by
  obtain ⟨ts, h1, h2⟩ := vj_run h
  refine pe_imp (pe_joined h1) fun σ H Q hh => ?_
  obtain ⟨M0, H0, oa, ds, P, S, hw, kk⟩ := hh
  exact h2 σ M0 H0 oa ds H Str.empty P _ S hw (by rw [sizeLine_eq]; show 0 + _ ≤ _; omega) fun out H' hp e i => kk _ _ H' hp e i rep_str
/-! repr of an own class -/
theorem bt_repr : bootBuiltins "repr" = some (.builtin "repr") := by decide +kernel
structure RpM (P : Program) (w : World) (K : PySem.W.Frag) (mg : Str → Option Value) (base : Heap) (W : Wd) (k : Nat) (C : Addr) (g : List D → (D → Prop) → Prop) : Prop where
  ex : ∃ f, PySem.W.findIn K (.ref C) "__repr__" = some (some (.ref f)) ∧ PySem.W.isFn K (.ref f) = true ∧ FnR P w K mg base CX0 k f (spD K W g)
def asSt : D → (Str → Prop) → Prop
  | .str y, P => P y
  | _, _ => False
theorem asSt_of {d : D} {P : Str → Prop} (h : asSt d P) : ∃ y, d = .str y ∧ P y := by
  cases d <;> first | exact h.elim | exact ⟨_, rfl, h⟩
def reprI (tab : List (Addr × (List D → (D → Prop) → Prop))) : List D → (D → Prop) → Prop
  | [.ins C ks xs], P => ∃ g, (C, g) ∈ tab ∧ g [.ins C ks xs] (fun d => asSt d fun y => P (.str y))
  | _, _ => False
def rReprI (X : Cx) (W : Wd) (k : Nat) : List V → Hp → L2.VK → Prop := fun vs H Q => ∃ a C dx fs g, vs = [.ref a] ∧ H a = some (.ins C dx fs) ∧ RpM X.prog X.w X.K X.mg X.base W k C g ∧
  spD X.K W g [.ref a] H (fun z H' => ∃ y, z = .str y ∧ Q (.str y) H') (fun _ _ _ => False)
theorem call_reprI (hr : Room (k + 1) X.A) (hu : X.A.units + 1 < cLine) : CallR X (.builtin "repr") (rReprI X W k) := by
  intro pins s σ H xs us Q I r h
  obtain ⟨a, C, dx, fs, g, rfl, ha, ⟨f, h1, h2, F⟩, q⟩ := h
  obtain ⟨u, rfl, rx⟩ := vals1 r
  cases (show u = Value.ref a from rx)
  obtain ⟨mA, O, _⟩ := ins_get I.hok ha
  obtain ⟨od, J, _⟩ := O.look
  refine PySem.W.vs_repr (by show X.A.units + 1 < cLine; exact hu) I.kIn J h1 h2 ?_
  refine wpAny_mono (wpAny_call (SlX.run_at (us := [.ref a]) (ws := [.ref a]) (E := fun _ _ _ => False) F (hr.in1) I.env0.in1 (fun _ _ _ _ _ _ _ z => z.elim) I (.cons rfl .nil) q)) (fun z s' hz => ?_) fun _ _ z => z
  obtain ⟨z', H', I', rz, y, rfl, qz⟩ := hz
  obtain ⟨t, rfl⟩ := (show ∃ t, z = Value.str y t from rz)
  exact ⟨y, t, rfl, .str y, H', I', ⟨t, rfl⟩, qz⟩
theorem lift_reprI {tab : List (Addr × (List D → (D → Prop) → Prop))} (htab : ∀ q ∈ tab, RpM X.prog X.w X.K X.mg X.base W k q.1 q.2) : LiftCall X.K W (reprI tab) (rReprI X W k) := by
  intro M H xs vs P Q m r h kk
  match xs, h with
  | [.ins C ks ys], h =>
    obtain ⟨g, ht, hg⟩ := h
    obtain ⟨v, rfl, r1⟩ := r.one
    have r1' := r1
    obtain ⟨p, dx, us, rfl, nm, l0, t0, r'⟩ := r1'.ins
    refine ⟨p, C, dx, _, g, rfl, t0, htab _ ht, M, [.ins C ks ys], _, m, reps_cons r1 reps_nil, hg, fun d v H' hp e i r => ?_⟩
    obtain ⟨y, rfl, hc⟩ := asSt_of hp
    exact ⟨y, r.str, kk _ _ H' hc e i rep_str⟩
/-! C.f, a constant of the class C -/
theorem ve_cval {x : Str} {C : Addr} {mc u : Value} {f z : Str} (hg : Gl X x) (hm : X.mg x = some (.ref C)) (r : ClX.CRead X.K C mc) (c : ClX.CVal X.K C mc f (.str z) u) (hdb : (x == ("__debug__" : Str)) = false := by decide)
    (hb : attributeBase (.Name x px) f X.env (eval (.Name x px) X.env) = eval (.Name x px) X.env := by rfl) : VE X W (.Attribute (.Name x px) f pos) (wC (.str z)) := by
  have hT : PE X (.Name x px) (tC (.ref C)) := pe_glob hg hm rfl hdb
  refine pe_imp (ClX.pe_cval hT hb) fun σ H Q h => ?_
  obtain ⟨M0, H0, oa, ds, P, S, hw, kk⟩ := h
  exact ⟨C, mc, .str z, u, rfl, r, c, kk _ _ H hw (Ext.refl H) S.wi rep_str⟩
/-! C.m(..), m a staticmethod of the class C -/
structure StM (K : PySem.W.Frag) (C : Addr) (m : Str) (f : Addr) : Prop where
  ex : ∃ (mc : Value) (p : Addr) (rest : List Value), ClX.CRead K C mc ∧ PySem.W.findCls K (.ref C) mc m = some (.get (.builtin "staticmethod.__get__") (.ref p) .none (.ref C)) ∧ PySem.W.recIn K p "staticmethod" = some (.ref f :: rest)
theorem pe_smeth {CX : CXT} {f C : Addr} {fd : FuncData} {ps : List Str} {sp : Sp} {dvs : List V} {ds : List Value} {E : XK} {t : TA} {x m : Str} {apos : Pos} {pl : Sem Bool} (hg : Gl X x) (hm : X.mg x = some (.ref C)) (c : StM X.K C m f)
    (F : FnOk X.prog X.w X.K X.mg X.base CX k f fd ps sp) (hr : Room k X.A) (hk : PySem.W.keepIn X.K (.ref f) = true) (hb : Binds X.K fd ps ds) (hd : Vals dvs ds) (hx : Passes CX X E) (ha : PA X (e :: es) t) (hdb : (x == ("__debug__" : Str)) = false := by decide)
    (hst : starEach (e :: es) X.env = (false, eval e X.env) :: starEach es X.env := by rfl) (hpl : (backTo pos (starEach es X.env)).any (·.1) = false := by rfl)
    (ht : eval (.Call (.Attribute (.Name x px) m apos) (e :: es) [] pos) X.env = (do
      let ov ← eval (.Name x px) X.env
      standAt apos.atName
      let (f, first) ← holding [ov] (getMethod ov m pl)
      callWith pos f first (backTo pos (starEach (e :: es) X.env)) (backToKw pos (keywordEach [] X.env))) := by rfl) :
    PE X (.Call (.Attribute (.Name x px) m apos) (e :: es) [] pos) (tCall sp dvs E t) := by
  have hT : PE X (.Name x px) (tC (.ref C)) := pe_glob hg hm rfl hdb
  obtain ⟨mc, p, rest, r, hf, hp⟩ := c
  refine ⟨fun pins s σ H Q I h => ?_⟩
  refine PySem.W.methodCall_KW (pl := pl) (thn (hT.run pins s σ H (fun y H1 => y = .ref C ∧ H1 = H) I ⟨rfl, rfl⟩) fun u s1 ⟨y, H1, I1, rx, ex, eh⟩ => ?_) ht
  subst ex eh
  obtain rfl : u = Value.ref C := rx
  refine PySem.W.method_cls I1.kIn r.ga (PySem.W.cls_bind I1.kIn r.rd hf (wpAny_call (PySem.W.sm_get (s := { s1 with toks := s1.toks + 1 }) I1.kIn hp (PySem.W.handed_on rfl ?_))))
  have I2 := I1.tok (s1.toks + 1)
  refine PySem.W.callWith_K (h₀ := X.base) I2.ok.mod.kin hk (thn (ha.run pos pins _ σ H1 _ I2 h) fun us s3 ⟨vs, H2, I3, rv, q2⟩ => ⟨I3.kIn, ?_⟩) hst hpl
  exact run_fn F hr hb hd hx I3 rv q2
theorem ve_smethX {PX : D → Prop} {g : List D → (D → Prop) → (D → Prop) → Prop} {l : WL} {f C : Addr} {fd : FuncData} {ps : List Str} {dvs : List V} {dds : List D} {x m : Str} {apos : Pos} {pl : Sem Bool} (hg : Gl X x) (hm : X.mg x = some (.ref C)) (c : StM X.K C m f)
    (F : FnOk X.prog X.w X.K X.mg X.base (L2.CX X.prog X.w) k f fd ps (spX X.K W g)) (hr : Room k X.A) (hk : PySem.W.keepIn X.K (.ref f) = true) (hb : ∃ ds, Vals dvs ds ∧ Binds X.K fd ps ds) (tk : Takes X (XW X.K W PX)) (hdd : ∀ M H, Reps X.K M H dds dvs) (ha : VA X W (e :: es) l) (hdb : (x == ("__debug__" : Str)) = false := by decide)
    (hst : starEach (e :: es) X.env = (false, eval e X.env) :: starEach es X.env := by rfl) (hpl : (backTo pos (starEach es X.env)).any (·.1) = false := by rfl)
    (ht : eval (.Call (.Attribute (.Name x px) m apos) (e :: es) [] pos) X.env = (do
      let ov ← eval (.Name x px) X.env
      standAt apos.atName
      let (f, first) ← holding [ov] (getMethod ov m pl)
      callWith pos f first (backTo pos (starEach (e :: es) X.env)) (backToKw pos (keywordEach [] X.env))) := by rfl) :
    VE X W (.Call (.Attribute (.Name x px) m apos) (e :: es) [] pos) (wCallX (fun xs P PX => g (xs ++ dds) P PX) PX l) := by
  obtain ⟨ds0, hd, hb⟩ := hb
  refine pe_imp (pe_smeth hg hm c F hr hk hb hd (passesX tk) ha hdb hst hpl ht) fun σ H Q h => ?_
  obtain ⟨M0, H0, oa, ds, P, S, hw, kk⟩ := h
  refine ⟨M0, H0, oa, ds, _, S, hw, fun xs vs H1 hx e1 i1 r1 => ?_⟩
  have S1 := S.step e1 i1
  exact ⟨Mx M0 oa, xs ++ dds, P, PX, S1.mok, r1.app (hdd _ _), hx, fun d v H' hp e i r => kk d v H' hp (e1.trans e) i r, fun cls d H' h => S1.xc h⟩
end
end VL

set_option Elab.async false
set_option linter.all false
set_option maxRecDepth 100000
set_option maxHeartbeats 4000000
/-! VO: lists that come out of a call and are nobody else's. -/
namespace VL
open PySem PySem.Spec PyProof.Rows L2
/-- the scope of the comprehension that a def returns -/
def retScope0 (st : Stmt) : Scope := match defBody st with
  | [.Return (some (.ListComp _ _ sc _)) _] => sc
  | _ => defScope st
/-- .. as a comprehension within it sees it -/
def relS (sc p : Scope) : Scope := { sc with names := sc.names.map fun (n, k) => if (k == NameKind.free && p.kind == .function && p.names.lookup n == some .cell) then (n, NameKind.cell) else (n, k) }
def retScope (st : Stmt) : Scope := relS (retScope0 st) (defScope st)
theorem relS_is {sc : Scope} {env : Env} : relabel sc env = relS sc env.scope := rfl
/-- a promise: the result is a new list -/
def spO (K : PySem.W.Frag) (W : Wd) (g : List D → (List D → Prop) → Prop) : Sp := fun vs H Q _ => ∃ M ds P, MOk W M H ∧ Reps K M H ds vs ∧ g ds P ∧
  ∀ acc us Dl H', P acc → H Dl = none → Ext W H H' → W.I H' → H' Dl = some (.lst us) → Reps K (fun a => M a ∨ a = Dl) H' acc us → Q (.ref Dl) H'
theorem mx_none {M : Addr → Prop} {Dl : Addr} : Mx (fun a => M a ∨ a = Dl) (fun _ => none) = fun a => M a ∨ a = Dl := by
  funext a
  refine propext ⟨fun z => z.elim id fun ⟨_, y⟩ => (by cases y), fun z => .inl z⟩
theorem mx_or {M : Addr → Prop} {Dl : Addr} {oa : Nat → Option Addr} : (fun a => Mx M oa a ∨ a = Dl) = Mx (fun a => M a ∨ a = Dl) oa := by
  funext a
  refine propext ⟨fun z => z.elim (fun z => z.elim (fun z => .inl (.inl z)) .inr) (fun z => .inl (.inr z)), fun z => z.elim (fun z => z.elim (fun z => .inl (.inl z)) .inr) fun z => .inl (.inr z)⟩
/-- a def that is one return of a new list -/
theorem vfnO {P : Program} {w : World} {K : PySem.W.Frag} {mg : Str → Option Value} {base : Heap} {W : Wd} {x qual : Str} {st : Stmt} {f : Addr} {fd : FuncData} {N ps : List Str} {k : Nat} {g : List D → (List D → Prop) → Prop} {e : Expr} {rpos : Pos} (F : Fun K x qual st f fd) (S : FnScope N ps (defScope st))
    (hst : defBody st = [.Return (some e) rpos]) (len : ∀ ds P, g ds P → ds.length = ps.length)
    (hb : ∃ wl : WL, (∀ (cdv : Value) (A : Around) (outer : List Env) (s : Shared) (H : Hp) (E : XK), Room k (A.deeper (envOfC qual (defScope st) s.heap.objs.size f cdv)) → PE (cxOf CX0 P w K mg base N qual (defScope st) f cdv A outer s H E).nox e (LEo K W.pl wl)) ∧
      ∀ ds Q, g ds Q → wl (startD N ds) Q) : FnOk P w K mg base CX0 (k + 1) f fd ps (spO K W g) := by
  obtain ⟨wl, h1, h2⟩ := hb
  refine F.ok S (fun vs H Q E h => ?_) (fun cdv A outer s H vs Q E hr h => ⟨_, (by rw [hst]; exact pss_one (ps_ret (h1 cdv A outer s H E hr))), ?_⟩)
  · obtain ⟨M, ds, P, m, r, hg, _⟩ := h
    rw [r.len, len ds P hg]
  · obtain ⟨M, ds, P, m, r, hg, k⟩ := h
    have hl : ds.length ≤ N.length := by
      have q := congrArg List.length S.pre
      rw [List.length_take] at q
      rw [len ds P hg]
      omega
    refine ⟨M, H, fun _ => none, startD N ds, P, sat_start (W := W.pl) ⟨m.wm, m.live, m.wi, m.nb, m.nx⟩ r hl (fun _ z => z.elim) (fun _ _ _ z => by cases z), h2 ds P hg, fun acc us Dl H' hp hn e i hD r' => ?_⟩
    rw [mx_none] at r'
    exact k acc us Dl H' hp hn e i hD r'
section
variable {X : Cx} {W : Wd} {e : Expr} {es : List Expr} {pos : Pos}
/-- f(..), the result a new list -/
theorem ve_callO {CX : CXT} {k : Nat} {f : Addr} {fd : FuncData} {ps : List Str} {g : List D → (List D → Prop) → Prop} {dvs : List V} {dds : List D} {ds : List Value} {x : Str} {p : Pos} {l : WL} {E : XK}
    (F : FnOk X.prog X.w X.K X.mg X.base CX k f fd ps (spO X.K W g)) (hr : Room k X.A) (hg : Gl X x) (hm : X.mg x = some (.ref f)) (hk : PySem.W.keepIn X.K (.ref f) = true) (hb : Binds X.K fd ps ds) (hd : Vals dvs ds) (hx : Passes CX X E) (hdd : ∀ M H, Reps X.K M H dds dvs)
    (ha : VA X W (e :: es) l) (hdb : (x == ("__debug__" : Str)) = false := by decide) (he : starEach (e :: es) X.env = (false, eval e X.env) :: starEach es X.env := by rfl) (hpl : (backTo pos (starEach es X.env)).any (·.1) = false := by rfl) :
    PE X (.Call (.Name x p) (e :: es) [] pos) (LEo X.K W fun ds P => l ds fun xs => g (xs ++ dds) P) := by
  refine pe_imp (pe_call F hr hg hm hk hb hd hx ha hdb he hpl) fun σ H Q h => ?_
  obtain ⟨M0, H0, oa, ds, P, S, hw, k⟩ := h
  refine ⟨M0, H0, oa, ds, _, S, hw, fun xs vs H1 hx e1 i1 r1 => ?_⟩
  have S1 := S.step e1 i1
  refine ⟨Mx M0 oa, xs ++ dds, P, S1.mok, r1.app (hdd _ _), hx, fun acc us Dl H' hp hn e i hD r => ?_⟩
  have nA : ¬ W.A Dl := fun z => W.live _ _ i1 z hn
  have hn0 : H Dl = none := by
    cases q : H Dl with
    | none => rfl
    | some o => rw [e1 Dl o nA q] at hn; cases hn
  rw [mx_or] at r
  exact k acc us Dl H' hp hn0 (e1.trans e) i hD r
/-- a new list, as data -/
theorem ve_ofO {w : WL} (he : PE X e (LEo X.K W w)) : VE X W e (fun ds P => w ds fun acc => P (.lst acc)) := by
  refine pe_imp he fun σ H Q h => ?_
  obtain ⟨M0, H0, oa, ds, P, S, hw, k⟩ := h
  refine ⟨M0, H0, oa, ds, _, S, hw, fun acc us Dl H' hp hn e i hD r => ?_⟩
  have hMD : ¬ Mx M0 oa Dl := S.mok.fresh hn
  exact k _ _ H' hp e i (rep_lst (.inl ⟨hMD, .inl hD⟩) (r.car fun b o n h => ⟨fun z => n (z.elim (fun z => .inl (.inl z)) .inr), h⟩))
/-- x = e, e a new list: it is the def's own -/
theorem vs_setO (i : Nat) {x : Str} {w : WL} {pos' : Pos} (hN : X.N.Nodup) (he : PE X e (LEo X.K W w)) (hi : X.N[i]? = some x := by rfl) (hx : Loc X.env.scope x := by first | exact Or.inl rfl | exact Or.inr rfl) (hs : swapsWith e (some (.Name x pos')) pos.line X.env = pure false := by rfl)
    (hf : X.fn x = true ∨ X.env.scope.names.lookup x = some .local := by first | exact .inl rfl | exact .inr rfl | assumption) : VS X W (.Assign [.Name x pos'] e pos) (fun E ds => i < ds.length ∧ w ds fun acc => E.nx (ds.set i (.ml acc))) := by
  refine ps_imp (ps_set hN hi hx he hs hf) fun D σ H h => ?_
  obtain ⟨M0, H0, oa, ds, E, S, ⟨hl, hw⟩, k1, k2, k3, k4⟩ := h
  exact ⟨M0, H0, oa, ds, _, S, hw, fun acc us Dl H' hp hn e wi' hD r => k1 _ _ _ _ hp (S.takeown hl hn e wi' hD r)⟩
/-- [.. for ..], a new list -/
theorem ve_lcO {elt tg iter : Expr} {ifs : List Expr} {scope : Scope} {own : List (Str × Nat)} {wi : WI} {g : WG} {t : WT} {w : WE} (hc : X.calm = true) (hN : X.N.Nodup) (hi : VI X W tg iter wi) (ok : BlkOk X.N X.env.scope scope own)
    (hg : ∀ (s : Shared) (H : Hp) (C : Addr) (cl : List (Str × Addr)) (fp : List Addr), VG (X.blk s H scope (compEnvC scope cl C X.env) fp) W (own.map (·.2)) tg g) (ht : ∀ (s : Shared) (H : Hp) (C : Addr) (cl : List (Str × Addr)) (fp : List Addr), VTs (X.blk s H scope (compEnvC scope cl C X.env) fp) W ifs t)
    (he : ∀ (s : Shared) (H : Hp) (C : Addr) (cl : List (Str × Addr)) (fp : List Addr), VE (X.blk s H scope (compEnvC scope cl C X.env) fp) W elt w) (hs : ∀ x, foldedSetIterable iter X.env x = pure x := by intro _; rfl) :
    PE X (.ListComp elt [⟨tg, iter, ifs, 0⟩] scope pos) (LEo X.K W (wLcO wi g t w (own.map (·.2)))) := pe_imp (pe_lc hc hN hi ok hg ht he hs) fun σ H Q => le_lco
/-- f() -/
theorem ve_call0 {CX : CXT} {k : Nat} {f : Addr} {fd : FuncData} {ps : List Str} {g : List D → (D → Prop) → Prop} {dvs : List V} {dds : List D} {ds : List Value} {x : Str} {p : Pos} {E : XK}
    (F : FnOk X.prog X.w X.K X.mg X.base CX k f fd ps (spD X.K W g)) (hr : Room k X.A) (hg : Gl X x) (hm : X.mg x = some (.ref f)) (hk : PySem.W.keepIn X.K (.ref f) = true) (hb : Binds X.K fd ps ds) (hd : Vals dvs ds) (hx : Passes CX X E) (hdd : ∀ M H, Reps X.K M H dds dvs)
    (hdb : (x == ("__debug__" : Str)) = false := by decide) : VE X W (.Call (.Name x p) [] [] pos) (fun _ P => g dds P) := by
  refine pe_imp (pe_call0 F hr hg hm hk hb hd hx hdb) fun σ H Q h => ?_
  obtain ⟨M0, H0, oa, ds, P, S, hw, k⟩ := h
  exact ⟨Mx M0 oa, dds, P, S.mok, hdd _ _, hw, fun d v H' hp e i r => k d v H' hp e i r⟩
/-- the ways of one statement that meet behind it -/
theorem meet {α : Type} (R : α → Prop) (sl : α → List Sl) {w u : WS} {E : EndsD} {ds : List Sl} (b : (∀ x, R x → u E (sl x)) → wSeq w u E ds) (a : ∀ x, R x → u E (sl x)) : wSeq w u E ds := b a
theorem meet2 {α : Type} (R : α → Prop) (sl : α → List Sl) {w v u : WS} {E : EndsD} {ds : List Sl} (b : (∀ x, R x → u E (sl x)) → wSeq w (wSeq v u) E ds) (a : ∀ x, R x → u E (sl x)) : wSeq w (wSeq v u) E ds := b a
theorem meet1 (sl : List Sl) {w u : WS} {E : EndsD} {ds : List Sl} (b : u E sl → wSeq w u E ds) (a : u E sl) : wSeq w u E ds := b a
end
end VL

set_option Elab.async false
set_option linter.all false
set_option maxRecDepth 100000
set_option maxHeartbeats 2000000
/-! VX: own exceptions: C.__init__(self, ..) of a base class, what an exception's __init__ leaves, raise C(..). -/
namespace VL
open PySem PySem.Spec PyProof.Rows L2

/-- an own class over ValueError without an __init__ of its own -/
structure ScI (K : PySem.W.Frag) (C : Addr) : Prop where
  ex : ∃ mc, ClX.CRead K C mc ∧ PySem.W.findCls K (.ref C) mc "__init__" = some (.val (.builtin "ValueError.__init__"))
section
variable {X : Cx} {e : Expr} {es : List Expr} {ta : TA} {x : Str} {C : Addr} {p1 p2 pos : Pos}
theorem pe_scinit {pl : Sem Bool} (hg : Gl X x) (hm : X.mg x = some (.ref C)) (c : ScI X.K C) (ha : PA X (e :: es) ta) (hdb : (x == ("__debug__" : Str)) = false := by decide)
    (hc : eval (.Call (.Attribute (.Name x p1) "__init__" p2) (e :: es) [] pos) X.env = (do
      let ov ← eval (.Name x p1) X.env
      standAt p2.atName
      let (f, first) ← holding [ov] (getMethod ov "__init__" pl)
      callWith pos f first (backTo pos (starEach (e :: es) X.env)) (backToKw pos (keywordEach [] X.env))) := by rfl)
    (he : starEach (e :: es) X.env = (false, eval e X.env) :: starEach es X.env := by rfl) (hpl : (backTo pos (starEach es X.env)).any (·.1) = false := by rfl) :
    PE X (.Call (.Attribute (.Name x p1) "__init__" p2) (e :: es) [] pos) (tVeI X.K ta) := by
  have hT : PE X (.Name x p1) (tC (.ref C)) := pe_glob hg hm rfl hdb
  obtain ⟨mc, r, hf⟩ := c.ex
  refine ⟨fun pins s σ H Q I h => ?_⟩
  refine PySem.W.methodCall_KW (pl := pl) (thn (hT.run pins s σ H (fun y H1 => y = .ref C ∧ H1 = H) I ⟨rfl, rfl⟩) fun u s1 ⟨y, H1, I1, rx, ex, eh⟩ => ?_) hc
  subst ex eh
  obtain rfl : u = Value.ref C := rx
  refine PySem.W.method_cls I1.kIn r.ga (PySem.W.cls_value I1.kIn r.rd hf (by decide +kernel) ?_)
  have I2 := I1.tok (s1.toks + 1)
  show wpAny _ _ (callWith pos (Value.builtin "ValueError.__init__") [] (backTo pos (starEach (e :: es) X.env)) []) _ _ _
  refine PyProof.Rows.callWith_method1 (thn (ha.run pos pins _ σ H1 _ I2 h) fun us s3 ⟨vs, H2, I3, rv, a, C', ws, ev, hl, T, ea, q⟩ => ?_) he hpl
  subst ev
  cases rv with
  | @cons _ u0 _ ur ra rw' =>
    obtain rfl : u0 = Value.ref a := ra
    have hlen : ur.length ≤ sizeLine := by
      rw [← Paired.length rw', sizeLine_eq]
      omega
    exact oinit_ok T I3 ea hlen fun s' J => ⟨.non, H2, J, rfl, q⟩
end
/-- the fields of an exception, the last stored first: a written text, or an argument -/
abbrev XF := List (Str × (Str ⊕ Nat))
def xfU (F : XF) (ys : List V) : List V := F.map fun p => match p.2 with | .inl z => .str z | .inr i => ys.getD i .non
def xfV (F : XF) (ys : List V) : List (Str × V) := (F.map (·.1)).zip (xfU F ys)
def xfD (F : XF) (ds : List D) : List D := F.map fun p => match p.2 with | .inl z => .str z | .inr i => ds.getD i .non
theorem xf_len (F : XF) (ys : List V) : (xfU F ys).length = (F.map (·.1)).length := by simp [xfU]
theorem xf_reps {K : PySem.W.Frag} {M : Addr → Prop} {H : Hp} {ds : List D} {vs : List V} (r : Reps K M H ds vs) : ∀ F : XF, Reps K M H (xfD F ds) (xfU F vs)
  | [] => reps_nil
  | (n, .inl z) :: F => reps_cons rep_str (xf_reps r F)
  | (n, .inr i) :: F => by
    refine reps_cons ?_ (xf_reps r F)
    show Rep K M H (ds.getD i .non) (vs.getD i .non)
    rw [List.getD_eq_getElem?_getD, List.getD_eq_getElem?_getD]
    cases q : ds[i]? with
    | some d =>
      obtain ⟨v, e, rv⟩ := r.get q
      rw [e]
      exact rv
    | none =>
      have : vs[i]? = none := by
        rw [List.getElem?_eq_none_iff, r.len, ← List.getElem?_eq_none_iff]
        exact q
      rw [this]
      exact rep_non
/-- what an exception's own __init__ leaves -/
def spE (C : Addr) (F : XF) (n : Nat) : Sp := fun vs H Q _ => ∃ a ys H1, vs = .ref a :: ys ∧ ys.length = n ∧ H = upd H1 a (exo a C none) ∧ H1 a = none ∧
  ∀ d H2, H1 d = none → d ≠ a → H2 a = some (exo a C (some d)) → H2 d = some (exd d (xfV F ys)) → (∀ b, b ≠ a → b ≠ d → H2 b = H1 b) → Q .non H2
section
variable {X : Cx} {W : Wd} {e : Expr} {es : List Expr} {l : WL} {x : Str} {C fI : Addr} {k n : Nat} {F : XF} {fd : FuncData} {ps : List Str} {PX : D → Prop} {p pos pos2 : Pos}
def wRaise (C : Addr) (F : XF) (n : Nat) (PX : D → Prop) (l : WL) : WS := fun _ ds => l ds fun xs => xs.length = n ∧ n ≤ 1000 ∧ PX (.ins C (F.map (·.1)) (xfD F xs))
/-- raise C(..) -/
theorem vs_raise (T : OexC X.K C) (iC : PySem.W.findIn X.K (.ref C) "__init__" = some (some (.ref fI))) (tI : PySem.W.typeIn X.K (.ref fI) = some (.type "function")) (F1 : FnOk X.prog X.w X.K X.mg X.base CX0 k fI fd ps (spE C F n)) (hr : Room (k + 1) X.A)
    (hb : Binds X.K fd ps []) (hg : Gl X x) (hm : X.mg x = some (.ref C)) (hc : X.calm = true) (tk : Takes X (XW X.K W PX)) (ha : VA X W (e :: es) l) (hdb : (x == ("__debug__" : Str)) = false := by decide)
    (he : starEach (e :: es) X.env = (false, eval e X.env) :: starEach es X.env := by rfl) (hpl : (backTo pos (starEach es X.env)).any (·.1) = false := by rfl) : VS X W (.Raise (some (.Call (.Name x p) (e :: es) [] pos)) none pos2) (wRaise C F n PX l) := by
  refine ps_imp (ps_raise hc tk (pmk_oex (dvs := []) T iC tI F1 hr hb .nil pass0 hg hm ha hdb he hpl)) fun D σ H h => ?_
  obtain ⟨M0, H0, oa, ds, E, S, hw, _⟩ := h
  refine ⟨M0, H0, oa, ds, _, S, hw, fun xs vs H1 hx e1 i1 r1 => ⟨by rw [r1.len, hx.1]; exact hx.2.1, fun a na => ?_⟩⟩
  obtain ⟨hl, _, hp⟩ := hx
  have r1' := r1.len
  refine ⟨a, vs, H1, by rw [List.append_nil], by rw [r1', hl], rfl, na, fun d H2 nd ne ea ed hrest => ⟨rfl, d, xfV F vs, ea, ed, nd, ?_⟩⟩
  have eH : upd (del H2 a) d (.xd (xfV F vs)) = upd H1 d (.xd (xfV F vs)) := by
    funext b
    by_cases hb1 : b = d
    · rw [hb1, upd_same, upd_same]
    · rw [upd_ne hb1, upd_ne hb1]
      by_cases hb2 : b = a
      · rw [hb2, del_same, na]
      · rw [del_ne hb2, hrest b hb2 hb1]
  rw [eH]
  have f := Full.new (o := HO.xd (xfV F vs)) nd
  refine ⟨C, F.map (·.1), xfD F xs, xfU F vs, d, rfl, rfl, hp, S.fh.trans (S.ext.trans (e1.trans f.ext)), W.keep _ _ i1 f, ?_, xf_len F vs, upd_same⟩
  exact (xf_reps r1 F).car fun b o nb q => ⟨fun z => nb (.inl (S.fm b z)), f b o q⟩
end
/-- an exception in the making: its object, its dict so far, all else as it was -/
structure MidE (H1 G : Hp) (a C d : Addr) (fs : List (Str × V)) : Prop where
  ea : G a = some (exo a C (some d))
  ed : G d = some (exd d fs)
  rest : ∀ b, b ≠ a → b ≠ d → G b = H1 b
theorem MidE.first {H1 : Hp} {a C d : Addr} {p : Str × V} (nd : upd H1 a (exo a C none) d = none) (ne : d ≠ a) : H1 d = none ∧ MidE H1 (upd (upd (upd H1 a (exo a C none)) d (exd d [p])) a (exo a C (some d))) a C d [p] := by
  refine ⟨by rw [upd_ne ne] at nd; exact nd, upd_same, by rw [upd_ne ne, upd_same], fun b h1 h2 => ?_⟩
  rw [upd_ne h1, upd_ne h2, upd_ne h1]
theorem MidE.next {H1 G : Hp} {a C d : Addr} {p : Str × V} {fs : List (Str × V)} (m : MidE H1 G a C d fs) (ne : d ≠ a) : MidE H1 (upd G d (exd d (p :: fs))) a C d (p :: fs) :=
  ⟨by rw [upd_ne (Ne.symm ne)]; exact m.ea, upd_same, fun b h1 h2 => by rw [upd_ne h2]; exact m.rest b h1 h2⟩
/-- a def with defaults that may raise -/
theorem vfnXD {P : Program} {w : World} {K : PySem.W.Frag} {mg : Str → Option Value} {base : Heap} {W : Wd} {x qual : Str} {st : Stmt} {f : Addr} {fd : FuncData} {N ps : List Str} {k : Nat} {g : List D → (D → Prop) → (D → Prop) → Prop} {dvs : List V} {kws : List (Str × V)} (F : FunD K x qual (defArgs st) (defBody st) (defScope st) dvs kws f fd) (S : FnScope N ps (defScope st))
    (len : ∀ ds P PX, g ds P PX → ds.length = ps.length)
    (hb : ∃ wb : (D → Prop) → WS, (∀ (PX : D → Prop) (Mf : Addr → Prop) (Hf : Hp) (cdv : Value) (A : Around) (outer : List Env) (s : Shared) (H : Hp) (E : XK), Room k (A.deeper (envOfC qual (defScope st) s.heap.objs.size f cdv)) →
        Takes (cxOf (L2.CX P w) P w K mg base N qual (defScope st) f cdv A outer s H E) (XW K (W.fx Mf Hf) PX) → VSs (cxOf (L2.CX P w) P w K mg base N qual (defScope st) f cdv A outer s H E) (W.fx Mf Hf) (defBody st) (wb PX)) ∧
      ∀ ds Q PX, g ds Q PX → wb PX (endsD Q) (startD N ds)) : FnOk P w K mg base (L2.CX P w) (k + 1) f fd ps (spX K W g) := by
  obtain ⟨wb, h1, h2⟩ := hb
  refine F.ok (CX := L2.CX P w) S (fun vs H Q E h => ?_) (fun cdv A outer s H vs Q E hr h => ?_)
  · obtain ⟨M, ds, P, PX, m, r, hg, _⟩ := h
    rw [r.len, len ds P PX hg]
  · obtain ⟨M, ds, P', PX, m, r, hg, k, kx⟩ := h
    have hl : ds.length ≤ N.length := by
      have q := congrArg List.length S.pre
      rw [List.length_take] at q
      rw [len ds P' PX hg]
      omega
    refine ⟨LS K (W.fx M H) (wb PX), h1 PX M H cdv A outer s H E hr ((takes_of (E := E) rfl rfl rfl rfl).imp fun cls d σ H' hx => kx cls d H' hx), ?_⟩
    refine ⟨M, H, fun _ => none, startD N ds, endsD P', sat_start (W := W.fx M H) ⟨m.wm, m.live, m.wi, m.nb, m.nx⟩ r hl (fun _ z => z) (fun _ _ _ z => z), h2 ds P' PX hg, fun ds' oa' σ' H' hn S' => ?_, fun d v H' hd e i r' => k d v H' hd e i r', fun _ _ _ _ z => z.elim, fun _ _ _ _ z => z.elim⟩
    exact k .non .non H' hn S'.ext S'.wi rep_non
end VL

set_option Elab.async false
set_option linter.all false
set_option maxRecDepth 100000
set_option maxHeartbeats 2000000
/-! VY: a caught exception: its fields, handed to a def; try: .. except (A, B, C) as e. -/
namespace VL
open PySem PySem.Spec PyProof.Rows L2

/-- the world of one exception's dict -/
def excW (d : Addr) (fs : List (Str × V)) : Wd where
  A b := b = d
  I H := H d = some (.xd fs)
  live := fun H b h hb => by rw [hb, h]; simp
  nx := fun H b φ h hb => by rw [hb, h]; intro z; cases z
  stay := fun H H' h k _ _ => (k d rfl).trans h
def dOf : V → D
  | .str z => .str z
  | v => .hnd v
theorem rep_dOf {K : PySem.W.Frag} {M : Addr → Prop} {H : Hp} (v : V) : Rep K M H (dOf v) v := by
  cases v <;> first | exact rep_str | exact (by unfold dOf Rep; rfl)
theorem dOf_inv {K : PySem.W.Frag} {M : Addr → Prop} {H : Hp} {v u : V} (h : Rep K M H (dOf v) u) : u = v := by
  cases v <;> (unfold dOf Rep at h; exact h)
theorem dOfs_inv {K : PySem.W.Frag} {M : Addr → Prop} {H : Hp} : ∀ {vs us : List V}, Reps K M H (vs.map dOf) us → us = vs
  | [], _, h => h.inv0
  | _ :: _, _, h => by
    obtain ⟨v, r, rfl, h1, h2⟩ := h.inv
    rw [dOf_inv h1, dOfs_inv h2]
/-- the names of the fields of this package's errors -/
def excNames : List Str := ["code", "given", "part", "at", "command", "path", "one", "other", "name", "row", "operation", "most"]
def excB (K : PySem.W.Frag) (C : Addr) : Bool := xfB K C && excNames.all fun n => decide (PySem.W.findIn K (.ref C) n = some none)
structure ExcK (K : PySem.W.Frag) (C : Addr) : Prop where
  xf : XfC K C
  no : ∀ n ∈ excNames, PySem.W.findIn K (.ref C) n = some none
theorem excK_of {K : PySem.W.Frag} {C : Addr} (h : excB K C = true) : ExcK K C := by
  obtain ⟨h1, h2⟩ := Bool.and_eq_true_iff.mp h
  exact ⟨xfB_ok h1, fun n hn => of_decide_eq_true (List.all_eq_true.mp h2 n hn)⟩
structure ExcAt (K : PySem.W.Frag) (d : Addr) (oe : Obj) : Prop where
  ex : ∃ C vs, ExcK K C ∧ oe.cls = .ref C ∧ oe.dict = some d ∧ oe.data = .fields vs
section
variable {X : Cx} {a d : Addr} {oe : Obj} {fs : List (Str × V)} {e : Expr} {w : WE} {pos : Pos} {n : Str}
/-- e.n, e the caught exception, in a def that got it -/
theorem ve_xq (q : ExcAt X.K d oe) (hp : (a, oe) ∈ X.pn) (hn : n ∈ excNames) (he : VE X (excW d fs) e w) (hb : attributeBase e n X.env (eval e X.env) = eval e X.env := by rfl) :
    VE X (excW d fs) (.Attribute e n pos) (fun ds P => w ds fun x => x = .hnd (.ref a) ∧ ∃ v, fs.lookup n = some v ∧ P (dOf v)) := by
  refine ⟨fun pins s σ H Q I h => ?_⟩
  obtain ⟨M0, H0, oa, ds, P, S, hw, kk⟩ := h
  obtain ⟨C, vs, hC, hcls, hdict, hdata⟩ := q.ex
  refine attr_of hb (thn (he.run pins s σ H (fun x H1 => x = .ref a ∧ Ext (excW d fs) H H1 ∧ (excW d fs).I H1 ∧ ∃ v, fs.lookup n = some v ∧ P (dOf v)) I ⟨M0, H0, oa, ds, _, S, hw, fun x v H1 hx e1 i1 r1 => ?_⟩) fun u s1 hh => ?_)
  · obtain ⟨rfl, v', hl, hp⟩ := hx
    have : v = .ref a := by unfold Rep at r1; exact r1
    exact ⟨this, e1, i1, v', hl, hp⟩
  obtain ⟨x, H1, I1, rx, ex, e1, i1, v, hl, hpp⟩ := hh
  subst ex
  obtain rfl : u = Value.ref a := rx
  obtain ⟨ha, _⟩ := I1.pin (a, oe) (List.mem_append_left _ hp)
  have hx : ObjOk X.prog X.w H1 s1.heap d (.xd fs) := I1.hok d _ i1
  obtain ⟨mA, hns, hr⟩ := hx
  obtain ⟨od, ho, hlk⟩ := lookIn_ns hns
  obtain ⟨u, hu, ru⟩ := RelO.some_of (v := v) (o := mA n) (by rw [← hl]; exact hr n)
  have J : PySem.W.InstAt s1.heap a oe C (some od) := ⟨ha, hcls, by unfold PySem.W.notCls; rw [hdata] <;> rfl, by rw [hdict]; exact ho⟩
  exact HandSPX.exc_get I1.kIn J hC.xf.ga hC.xf.gg hC.xf.exC (PySem.W.findObj_own hC.xf.hdC (hC.no n hn) rfl (by rw [hlk, hu])) (handed_of ru) ⟨v, H1, I1.tok _, ru, kk _ _ _ hpp e1 i1 (rep_dOf v)⟩
/-- e.n in the suite -/
theorem pe_xfN {cls : Value} {d : Option Addr} {pn : List (Addr × Obj)} {x : Str} {p1 : Pos} {i : Nat} (hz : Zc cls d oe) (hf : ∃ vs, oe.data = .fields vs) (hn : n ∈ excNames) (hN : X.N[i]? = some x) (hv : Vis X.env.scope x) (hd : (x == ("__debug__" : Str)) = false := by decide) (hcd : (x == ("__classdict__" : Str)) = false := by decide)
    (hb : attributeBase (.Name x p1) n (X.suite a ((a, oe) :: pn)).env (eval (.Name x p1) (X.suite a ((a, oe) :: pn)).env) = eval (.Name x p1) (X.suite a ((a, oe) :: pn)).env := by rfl) :
    PE (X.suite a ((a, oe) :: pn)) (.Attribute (.Name x p1) n pos) (fun σ H Q => σ[i]? = some (some (.ref a)) ∧ ∃ C dd fs v, ExcK X.K C ∧ cls = .ref C ∧ d = some dd ∧ H dd = some (.xd fs) ∧ fs.lookup n = some v ∧ Q v H) := by
  refine ⟨fun pins s σ H Q I h => ?_⟩
  obtain ⟨h1, C, dd, fs, v, hC, hc, hd1, hx, hl, q⟩ := h
  exact (pe_xf (X := X) (C := C) hC.xf (hC.no n hn) hz hf (pe_var (X := X.suite a ((a, oe) :: pn)) (pos := p1) hN hv hd hcd) hb).run pins s σ H Q I ⟨_, h1, rfl, hc, dd, fs, v, hd1, hx, hl, q⟩
end
/-! ### a def that is called with a caught exception -/
/-- the promise of a def that gets the exception p -/
structure FnQ (P : Program) (w : World) (K : PySem.W.Frag) (mg : Str → Option Value) (base : Heap) (k : Nat) (f : Addr) (fd : FuncData) (ps : List Str) (sp : Addr × Obj → List V → Hp → L2.VK → Prop) : Prop where
  len : ∀ p vs H Q, sp p vs H Q → vs.length = ps.length
  run : ∀ (A : Around) (outer : List Env) (s : Shared) (H : Hp) (args : Args) (us : List Value) (vs : List V) (Q : L2.VK) (p : Addr × Obj), L2H.RoomH k A → L2H.PinOk outer H s p → Env0 P w K mg base A outer s H → BindsTo s fd args (ps.zip us) → Vals vs us → sp p vs H Q →
    codeAny (model P w) A (.call (.ref f) args) (CR CX0 outer P w H s Q (fun _ _ _ => False)) s
theorem fnq_of {P : Program} {w : World} {K : PySem.W.Frag} {mg : Str → Option Value} {base : Heap} {k : Nat} {f : Addr} {fd : FuncData} {x qual : Str} {st : Stmt} {N ps : List Str} {sp : Addr × Obj → List V → Hp → L2.VK → Prop} (F : Fun K x qual st f fd) (S : FnScope N ps (defScope st))
    (len : ∀ p vs H Q, sp p vs H Q → vs.length = ps.length)
    (hbody : ∀ (cdv : Value) (A : Around) (outer : List Env) (s : Shared) (H : Hp) (vs : List V) (Q : L2.VK) (p : Addr × Obj), L2H.RoomH k (A.deeper (envOfC qual (defScope st) s.heap.objs.size f cdv)) → sp p vs H Q →
      ∃ t, PSs (L2H.cxH CX0 P w K mg base N qual (defScope st) f cdv A outer s H (fun _ _ _ => False) p) (defBody st) t ∧ t { nx := fun _ H' => Q .non H', rt := Q } (L2.start N vs) H) :
    FnQ P w K mg base (k + 1) f fd ps sp := by
  obtain ⟨⟨oc, od, kV, doc, pm, an, cdv, ct, osl, rfl, lk, hcd⟩, hkp⟩ := F
  refine ⟨len, fun A outer s H args us vs Q p hr hpin e0 hb r hsp => ?_⟩
  have hl := len _ _ _ _ hsp
  have KX : K.In s.heap := e0.mod.kin.keeps fun b o e => (e0.bs b o e).1
  have lim : s.heap.NoLimit := e0.mod.nolimit.keeps fun b o e => (e0.bs b o e).1
  have hkind : ∀ y ∈ ps.zip us, (defScope st).names.lookup y.1 = some .local ∨ ((defScope st).names.lookup y.1 = some .cell ∧ ((cellsFrom (s.heap.objs.size + 1) (defScope st).names []).lookup y.1).isSome = true) := fun ⟨n, v⟩ hy => by
    rcases S.par n (List.of_mem_zip hy).1 with q | q
    · exact .inl q
    · exact .inr ⟨q, PySem.W.cellsFrom_some _ _ _ (.inl q)⟩
  refine codeAny_call_function hr.depth (KX _ _ lk) rfl S.co S.gen rfl (PySem.W.codeRec_of KX hcd) (hb _ _ _ _ ?_)
  refine wpAny_newFunctionEnv_cells S.kind hkind fun env he s1 xx => ?_
  subst he
  refine ⟨lim.keeps xx.toInCall.keep, codeAny_func ?_⟩
  obtain ⟨t, ht, hq⟩ := hbody cdv A outer s H vs Q p (hr.deeper _) hsp
  have I : L2.Inv (L2H.cxH CX0 P w K mg base N qual (defScope st) f cdv A outer s H (fun _ _ _ => False) p) [] (L2.start N vs) H s1 := L2H.inv_startH S hpin e0 hl r xx
  refine wpAny_mono (ht.run [] s1 (L2.start N vs) H _ I hq) (fun fl s' hs => ?_) fun e s' hs => hs
  cases fl with
  | ret u =>
    obtain ⟨v, σ', H', J, rv, q⟩ := hs
    exact ⟨v, H', J.os, J.bare, J.base, J.hok, rv, q⟩
  | next =>
    obtain ⟨σ', H', J, q⟩ := hs
    exact ⟨.non, H', J.os, J.bare, J.base, J.hok, rfl, q⟩
  | brk =>
    obtain ⟨_, _, _, q⟩ := hs
    exact False.elim q
  | cont =>
    obtain ⟨_, _, _, q⟩ := hs
    exact False.elim q
section
variable {X : Cx} {a f : Addr} {oe : Obj} {pos p p1 : Pos} {x y : Str} {i k : Nat} {fd : FuncData} {ps : List Str} {pn : List (Addr × Obj)} {sp : Addr × Obj → List V → Hp → L2.VK → Prop}
/-- f(e) in the suite -/
theorem pe_exarg (F : FnQ X.prog X.w X.K X.mg X.base k f fd ps sp) (hr : L2H.RoomH k (X.suite a ((a, oe) :: pn)).A) (hg : Gl X x) (hm : X.mg x = some (.ref f)) (hk : PySem.W.keepIn X.K (.ref f) = true) (hb : Binds X.K fd ps [])
    (hN : X.N[i]? = some y) (hv : Vis X.env.scope y) (hd : (y == ("__debug__" : Str)) = false := by decide) (hcd : (y == ("__classdict__" : Str)) = false := by decide) (hdb : (x == ("__debug__" : Str)) = false := by decide)
    (he : starEach [.Name y p1] X.env = (false, eval (.Name y p1) X.env) :: starEach [] X.env := by rfl) (hpl : (backTo pos (starEach [] X.env)).any (·.1) = false := by rfl) :
    PE (X.suite a ((a, oe) :: pn)) (.Call (.Name x p) [.Name y p1] [] pos) (fun σ H Q => σ[i]? = some (some (.ref a)) ∧ sp (a, oe) [.ref a] H Q) := by
  refine ⟨fun pins s σ H Q I h => ?_⟩
  obtain ⟨h1, hsp⟩ := h
  refine wpAny_Call_Name_kw (ld_glob I hg hm ?_ hdb)
  have hA : PA (X.suite a ((a, oe) :: pn)) [.Name y p1] _ := pa_cons (pe_var (X := X.suite a ((a, oe) :: pn)) (pos := p1) hN hv hd hcd) pa_nil
  refine PySem.W.callWith_K (h₀ := X.base) I.ok.mod.kin hk (thn (hA.run pos pins s σ H (fun vs H1 => vs = [.ref a] ∧ H1 = H) I ⟨_, h1, rfl, rfl⟩) fun us s1 ⟨vs, H1, I1, rv, ev, eH⟩ => ⟨I1.kIn, ?_⟩) he hpl
  subst ev eH
  have P1 := I1.pin (a, oe) (List.mem_append_left _ List.mem_cons_self)
  have hpin : L2H.PinOk (X.suite a ((a, oe) :: pn)).stack H1 s1 (a, oe) := ⟨P1.1, P1.2.1, fun hm => (List.mem_cons.mp (I1.stkSub a hm)).elim P1.2.2.1 P1.2.2.2.1, P1.2.2.2.2⟩
  have hus : us.length = ps.length := by rw [← Paired.length rv]; exact F.len _ _ _ _ hsp
  have hbi := hb s1 us I1.kIn (by rw [List.append_nil]; exact hus)
  rw [List.append_nil] at hbi
  refine wpAny_call (codeAny_mono (F.run (X.suite a ((a, oe) :: pn)).A (X.suite a ((a, oe) :: pn)).stack s1 H1 ⟨us, []⟩ us [.ref a] Q (a, oe) hr hpin I1.env0 hbi rv hsp) fun r s2 hq => ?_)
  cases r with
  | error er => exact (show False from hq).elim
  | ok fl =>
    cases fl with
    | ret u => exact I1.after hq
    | next => exact False.elim hq
    | brk => exact False.elim hq
    | cont => exact False.elim hq
end
end VL

set_option Elab.async false
set_option linter.all false
set_option maxRecDepth 100000
set_option maxHeartbeats 4000000
/-! VT: try: .. except (A, B, C) as e; a lambda without parameters handed to a def that tries it. -/
namespace VL
open PySem PySem.Spec PyProof.Rows L2
theorem _root_.L2H.RoomH.units {k : Nat} {A : Around} (r : L2H.RoomH k A) : A.units + 64 < cLine := by have := r.un; omega
theorem flyZ_keeps {B : Heap} {l : List Env} {e : Addr} {Z : Obj → Prop} {h h' : Heap} (R : PySem.HandSPX.FlyingZ B l e Z h) (k : ∀ b o, h.get? b = some o → h'.get? b = some o) : PySem.HandSPX.FlyingZ B l e Z h' := by
  obtain ⟨f1, f2, f3, oe, vs, T, oT, ts, he, hz, hd, h1, hnT, hTe, hT, hdT, h3⟩ := R
  exact ⟨fun b o q => k b o (f1 b o q), f2, f3.of_keeps fun b o q _ => ⟨o, k b o q, rfl⟩, oe, vs, T, oT, ts, k _ _ he, hz, hd, h1, hnT, hTe, k _ _ hT, hdT, h3⟩
/-- what 'except (..) as n' wishes of an exception of the body that it takes -/
def wExc3 (K : PySem.W.Frag) (cs : List Value) (i : Nat) (ts : Addr → Value → Option Addr → TS) (D : Ends) : WX := fun cls d σ H => PySem.W.exmAny K cls cs = some true ∧
  ∀ a, H a = none → ts a cls d { nx := fun σ' H' => D.nx (σ'.set i none) H', rt := D.rt, bk := fun σ' H' => D.bk (σ'.set i none) H', ct := fun σ' H' => D.ct (σ'.set i none) H' } (σ.set i (some (.ref a))) H
section
variable {X : Cx} {x1 x2 x3 n : Str} {c1 c2 c3 : Addr} {i kk : Nat} {body suite : List Stmt} {b₀ : Stmt} {np1 np2 np3 tp pos pos' : Pos} {tb : WX → TS} {ts : Addr → Value → Option Addr → TS}
theorem ps_try_tup3 (hs : X.stack = X.env :: X.outer) (hf : X.env.frame = some X.env.locals) (hN : X.N.Nodup) (hi : X.N[i]? = some n) (hln : X.env.kindOf n = some .local) (g1 : Gl X x1) (m1 : X.mg x1 = some (.ref c1)) (g2 : Gl X x2) (m2 : X.mg x2 = some (.ref c2)) (g3 : Gl X x3) (m3 : X.mg x3 = some (.ref c3))
    (hb : ∀ (W : WX) (pn : List (Addr × Obj)) (xe : Value → Shared → Prop), Takes (X.tr pn xe) W → PassesOwn (model X.prog X.w) X.A X.env xe → PSs (X.tr pn xe) body (tb W))
    (hsu : ∀ (a : Addr) (oe : Obj) (cls : Value) (d : Option Addr) (pn : List (Addr × Obj)), Zc cls d oe → (∃ vs, oe.data = .fields vs) → PSs (X.suite a ((a, oe) :: pn)) (b₀ :: suite) (ts a cls d))
    (d1 : (x1 == ("__debug__" : Str)) = false := by decide) (d2 : (x2 == ("__debug__" : Str)) = false := by decide) (d3 : (x3 == ("__debug__" : Str)) = false := by decide) :
    PS X (.Try body [.ExceptHandler (some (.Tuple [.Name x1 np1, .Name x2 np2, .Name x3 np3] kk tp)) (some n) (b₀ :: suite) pos'] [] [] pos) (fun D σ H => tb (wExc3 X.K [.ref c1, .ref c2, .ref c3] i ts D) D σ H) := by
  refine ⟨fun pins s σ H D I h => ?_⟩
  have ok := I.ok
  have hfr : X.A.frames = some (X.env :: X.outer) := by rw [ok.frames, hs]
  refine wpAny_Try_except ?_
  refine wpAny_mono ((hb (wExc3 X.K [.ref c1, .ref c2, .ref c3] i ts D) (X.pn ++ pins) (fun e s₁ => wpAny (model X.prog X.w) X.A (noteFrame e X.env) (fun _ s₂ => wpAny (model X.prog X.w) X.A (setFlight e none) (fun _ s₃ =>
    wpAny (model X.prog X.w) X.A (handleBy e X.env [.ExceptHandler (some (.Tuple [.Name x1 np1, .Name x2 np2, .Name x3 np3] kk tp)) (some n) (b₀ :: suite) pos']) (SP X pins D) X.xe s₃) X.xe s₂) X.xe s₁) (fun u s' xx => ?_) PassesOwn.looking).run [] s σ H D (I.toTry _) h) (fun f s1 hsp => ?_) (fun e s1 he => he)
  · obtain ⟨a, B, sI, pins', σ', H', cls, d, rfl, J', nb, up, sky, na, os, ag, hb1, hyes⟩ := xx
    have J : L2.Inv X pins σ' H' sI := J'.ofTry ok
    have sky' : Sky B (X.env :: X.outer) a (Zc cls d) X.env.locals s'.heap := by rw [← hs]; exact sky
    show wpAny (model X.prog X.w) X.A (noteFrame (.ref a) X.env) _ _ _
    refine Sky.land Zc.steady hfr hf sky' fun h3 fl3 up3 => ?_
    have J3 : L2.Inv X pins σ' H' { s' with heap := h3 } := J.landed nb fl3.1 (up.trans up3) os ag
    obtain ⟨oe3, vs3, he3, hz3, hd3⟩ := fl3.there
    have nfr : a ∉ frs (X.env :: X.outer) := fun hm => by
      obtain ⟨_, o', e', hnf⟩ := fl3.2.2.1.mem hm
      rw [he3] at e'; cases e'
      exact hnf _ hd3
    have nL : a ≠ X.env.locals := fun z => nfr (List.mem_filterMap.mpr ⟨X.env, List.mem_cons_self, by rw [hf, z]⟩)
    have nF : a ∉ X.fs := fun hm => by
      obtain ⟨e, he, q⟩ := List.mem_filterMap.mp hm
      exact nfr (List.mem_filterMap.mpr ⟨e, List.mem_cons_of_mem _ he, q⟩)
    have S3 := J3.suite he3 hd3 na nL nF
    refine wpAny_handleBy_cons (codeAny_handlers_test ?_) (by intro q; cases q)
    have LT : PySem.W.Looks (model X.prog X.w) h3 (typeOf (.ref a)) cls := fun A Q E s k q => wpAny_typeOf_ref (k _ _ he3) (by rw [hz3.1]; exact q)
    refine wpAny_Tuple ?_
    refine wpAny_items_cons (ld_glob (X := X.suite a ((a, oe3) :: (X.pn ++ pins))) S3 g1 m1 ?_ d1)
    refine wpAny_items_cons (ld_glob (X := X.suite a ((a, oe3) :: (X.pn ++ pins))) S3 g2 m2 ?_ d2)
    refine wpAny_items_cons (ld_glob (X := X.suite a ((a, oe3) :: (X.pn ++ pins))) S3 g3 m3 ?_ d3)
    refine wpAny_items_nil ⟨by size_fits, ?_⟩
    have kp : ∀ q o, h3.get? q = some o → (h3.push { cls := .type "tuple", data := .seq [Value.ref c1, .ref c2, .ref c3].toArray }).get? q = some o := fun _ _ z => Heap.get?_push_of_some _ z
    refine (PySem.W.exm_tup3 (J3.kIn.keeps kp) (LT.keeps kp) (Heap.get?_push_size h3 rfl) hb1).here ?_
    have fl5 := flyZ_keeps fl3 kp
    have up5 := (up.trans up3).trans (Heap.UpToSlots.of_keeps kp)
    refine codeAny_handlers_suite_as ?_
    refine PySem.HandSPX.lands_againZ fl5 fun h4 fl4 up4 => ?_
    have J4 : L2.Inv X pins σ' H' { s' with heap := h4 } := J.landed nb fl4.1 (up5.trans up4) os ag
    obtain ⟨oe4, vs4, he4, hz4, hd4⟩ := fl4.there
    have S4 := J4.suite he4 hd4 na nL nF
    refine store_ok (X := X.suite a ((a, oe4) :: (X.pn ++ pins))) (v := .ref a) S4 hN hi (.inl hln) rfl (fun s5 S5 => ?_) (.inr hln)
    refine wpAny_mono ((hsu a oe4 cls d (X.pn ++ pins) hz4 ⟨_, hd4⟩).run [] s5 _ H' _ S5 (hyes a na)) (fun f s6 hsp => ?_) (fun _ _ z => False.elim z)
    have end_ : ∀ {σ6 : L2.St} {H6 : Hp} {Q : Shared → Prop}, L2.Inv (X.suite a ((a, oe4) :: (X.pn ++ pins))) [] σ6 H6 s6 → (∀ s7, L2.Inv X pins (σ6.set i none) H6 s7 → Q s7) →
        wpAny (model X.prog X.w) X.A (do bindName X.env n .none; unbindBehindTheSuite X.env n pos') (fun _ s7 => Q s7) X.xe s6 := fun {σ6 H6 Q} S6 hq => gone_ok (S6.unsuite ok) hN hi hln hq
    cases f with
    | next =>
      obtain ⟨σ6, H6, S6, q6⟩ := hsp
      exact end_ S6 fun s7 J7 => ⟨_, _, J7, q6⟩
    | brk =>
      obtain ⟨σ6, H6, S6, q6⟩ := hsp
      exact end_ S6 fun s7 J7 => ⟨_, _, J7, q6⟩
    | cont =>
      obtain ⟨σ6, H6, S6, q6⟩ := hsp
      exact end_ S6 fun s7 J7 => ⟨_, _, J7, q6⟩
    | ret u =>
      obtain ⟨v6, σ6, H6, S6, r6, q6⟩ := hsp
      exact end_ S6 fun s7 J7 => ⟨_, _, _, J7, r6, q6⟩
  · cases f with
    | next =>
      obtain ⟨σ', H', J', q⟩ := hsp
      exact wpAny_execs_nil ⟨σ', H', J'.ofTry ok, q⟩
    | brk =>
      obtain ⟨σ', H', J', q⟩ := hsp
      exact ⟨σ', H', J'.ofTry ok, q⟩
    | cont =>
      obtain ⟨σ', H', J', q⟩ := hsp
      exact ⟨σ', H', J'.ofTry ok, q⟩
    | ret u =>
      obtain ⟨v, σ', H', J', r, q⟩ := hsp
      exact ⟨v, σ', H', J'.ofTry ok, r, q⟩
end
end VL

set_option Elab.async false
set_option linter.all false
set_option maxRecDepth 100000
set_option maxHeartbeats 4000000
/-! VW: a lambda without parameters, made with its code object's table in sight, handed to a def; the world with such a table. -/
namespace VL
open PySem PySem.Spec PyProof.Rows L2 LamX
abbrev lamQ (X : Cx) : Str := X.env.qual ++ "<lambda>"
/-- all but the table at P stays -/
def ExtP (P : Addr) (H H' : Hp) : Prop := ∀ b o, b ≠ P → H b = some o → H' b = some o
section
variable {X : Cx} {pins : List (Addr × Obj)} {σ : L2.St} {H : Hp} {s : Shared}
theorem TabS.more {P c : Addr} {q : Str} {ps : Array Value} {l k : Value} (nPc : P ≠ c) (nC : H c = none) (ht : TriplesOk ps.toList) (hP : H P = some (.tbl ps)) (ha : ∀ (pos : Pos) (cv : Value), codeAmong pos ps.toList = some cv → ∃ c, cv = .ref c ∧ H c = some (CodeO c q)) (pos : Pos) :
    TabS (upd (upd H P (.tbl (ps ++ #[rawInt pos.line, rawInt pos.col, .ref c]))) c (CodeO c q)) P q := by
  have eL : (ps ++ #[rawInt pos.line, rawInt pos.col, .ref c]).toList = ps.toList ++ [rawInt pos.line, rawInt pos.col, .ref c] := by simp
  refine ⟨_, by rw [upd_ne nPc, upd_same], by rw [eL]; exact PySem.TriplesOk_snoc _ _ _ _ ht, fun p' cv hcv => ?_⟩
  rw [eL] at hcv
  rcases among_app _ ht hcv with z | z
  · obtain ⟨c0, e1, e2⟩ := ha p' cv z
    refine ⟨c0, e1, ?_⟩
    rw [upd_ne (ne_of_none e2 nC), upd_ne (fun z => codeO_ne ps (Option.some.inj (e2.symm.trans (by rw [z]; exact hP))))]
    exact e2
  · exact ⟨c, z, upd_same⟩
/-- a lambda is made -/
theorem lam_make3 {c P : Addr} {params : Arguments} {body : Expr} {scope : Scope} {pos : Pos} {E : Value → Shared → Prop} {Q : Value → Shared → Prop} (I : L2.Inv X pins σ H s) (TB : TabB X.base X.mg c P) (hcode : X.env.code = .ref c)
    (hT : TabS H P (lamQ X)) (hdef : defaultsOf params X.env = ([], [])) (hfree : ∀ y ∈ scope.names, y.2 = .free → ∃ c, X.env.cells.lookup y.1 = some c)
    (h : ∀ (f c' : Addr) (pm ctv : Value) (H1 : Hp) (s' : Shared), L2.Inv X pins σ H1 s' → ExtP P H H1 → TabS H1 P (lamQ X) →
      s'.heap.get? f = some (PySem.W.kla_obj "<lambda>" (lamQ X) params body scope (cloFrom X.env.cells scope.names []) pm c' ctv) → H1 f = none → f ∉ frs X.stack → H1 c' = some (CodeO c' (lamQ X)) → Q (.ref f) s') :
    wpAny (model X.prog X.w) X.A (eval (.Lambda params body scope pos) X.env) Q E s := by
  obtain ⟨ps, hP, ht, ha⟩ := hT
  refine PySem.W.kla_eval hdef ?_
  have bP : s.heap.BuiltinsAt X.mg P := TB.bm.keeps I.bk
  have hP' : s.heap.get? P = some { cls := .none, data := .fields ps } := I.hok P _ hP
  have above : ∀ f, s.heap.objs.size ≤ f → f ∉ frs X.stack := fun f hf z => by
    rcases List.mem_cons.mp (I.stkSub _ z) with e | e
    · have h1 := I.lt
      rw [← e] at h1
      exact Nat.lt_irrefl _ (Nat.lt_of_lt_of_le h1 hf)
    · exact I.nofs hf e
  cases hc : codeAmong pos ps.toList with
  | none =>
    refine PySem.W.kla_makeFunction (mg := X.mg) (c := c) (P := P) (ps := ps) (closure_ok hfree) I.ok.glob (I.mod.glob.keeps I.bk) hcode (TB.code.keeps I.bk) hP' ht hc TB.gP bP fun c' ctv h' tk hx hge hlt hrec htb => ?_
    obtain ⟨c2, oc, vs, t, e2, hoc, hd, hv⟩ := hrec
    cases e2
    have nC : H c' = none := I.hok.fresh hge
    have nPc : P ≠ c' := ne_of_none hP nC
    have hsz : s.heap.objs.size ≤ h'.objs.size := Nat.le_trans hge (Nat.le_of_lt hlt)
    have J := inv_table (t' := tk) (q := lamQ X) (more := #[rawInt pos.line, rawInt pos.col, .ref c']) (h' := h'.push (PySem.W.kla_obj "<lambda>" (lamQ X) params body scope (cloFrom X.env.cells scope.names []) ((X.mg "__name__").getD .none) c' ctv)) I hP
      (fun b o hb e => Heap.get?_push_of_some _ (hx b o hb e)) (Heap.get?_push_of_some _ htb) hge ⟨oc, vs, t, Heap.get?_push_of_some _ hoc, hd, hv⟩
    refine h h'.objs.size c' ((X.mg "__name__").getD .none) ctv _ _ J (fun b o hb e => by rw [upd_ne (ne_of_none e nC), upd_ne hb]; exact e) (TabS.more (l := .none) (k := .none) nPc nC ht hP ha pos) (Heap.get?_push_size _ rfl) ?_ (above _ hsz) upd_same
    rw [upd_ne (Nat.ne_of_gt hlt), upd_ne (Nat.ne_of_gt (Nat.lt_of_lt_of_le (Heap.lt_size hP') hsz))]
    exact I.hok.fresh hsz
  | some cv =>
    obtain ⟨c', e, hco⟩ := ha pos cv hc
    subst e
    refine PySem.W.kla_makeFunctionHit (mg := X.mg) (c := c) (P := P) (ps := ps) (closure_ok hfree) I.ok.glob (I.mod.glob.keeps I.bk) hcode (TB.code.keeps I.bk) hP' ht hc bP fun ctv h' tk hx hsz => ?_
    have J : L2.Inv X pins σ H { s with heap := h'.push (PySem.W.kla_obj "<lambda>" (lamQ X) params body scope (cloFrom X.env.cells scope.names []) ((X.mg "__name__").getD .none) c' ctv), toks := tk } := I.kept fun b o e => Heap.get?_push_of_some _ (hx b o e)
    exact h h'.objs.size c' ((X.mg "__name__").getD .none) ctv H _ J (fun b o _ e => e) ⟨ps, hP, ht, ha⟩ (Heap.get?_push_size _ rfl) (I.hok.fresh hsz) (above _ hsz) hco
end
/-- the def that calls what it got -/
def GivesT (X : Cx) (Ng : List Str) (x : Str) (sg : Scope) (g : Addr) (cdg : Value) (bg : List Stmt) (a : Str) (q : Str) (k : Nat) (TT : (XK → Hp → L2.VK → Prop) → Hp → L2.VK → Prop) : Prop :=
  ∀ (f c' : Addr) (s : Shared) (H : Hp) (Q : L2.VK) (tl : XK → Hp → L2.VK → Prop), Room k (X.A.deeper (envOfC x sg s.heap.objs.size g cdg)) →
    (∀ (W : WX) (pn : List (Addr × Obj)) (xe : Value → Shared → Prop) (E : XK) (p1 p2 : Pos), Takes ((cxOf CX0 X.prog X.w X.K X.mg X.base Ng x sg g cdg X.A X.stack s H C8.E0).tr pn xe) W → (∀ cls d σ' H', E cls d H' → W cls d σ' H') →
      PE ((cxOf CX0 X.prog X.w X.K X.mg X.base Ng x sg g cdg X.A X.stack s H C8.E0).tr pn xe) (.Call (.Name a p1) [] [] p2) (fun σZ HZ Q => σZ[0]? = some (some (.ref f)) ∧ HZ c' = some (CodeO c' q) ∧ tl E HZ Q)) →
    H c' = some (CodeO c' q) → TT tl H Q →
    ∃ t, PSs (cxOf CX0 X.prog X.w X.K X.mg X.base Ng x sg g cdg X.A X.stack s H C8.E0).nox bg t ∧ t { nx := fun _ H' => Q .non H', rt := Q } (L2.start Ng [.ref f]) H
def tLam3 (P : Addr) (q : Str) (TT : (XK → Hp → L2.VK → Prop) → Hp → L2.VK → Prop) (t : XK → TE) : TE := fun σ H Q => TabS H P q ∧ ∀ H1, ExtP P H H1 → TabS H1 P q → TT (fun E H' Q' => t E σ H' Q') H1 Q
section
variable {X : Cx}
/-- x(lambda: body) -/
theorem pe_lamcall3 {TT : (XK → Hp → L2.VK → Prop) → Hp → L2.VK → Prop} {x a : Str} {g c P : Addr} {k : Nat} {pg : Arguments} {bg : List Stmt} {sg : Scope} {dV kV doc pm cdv ct oc : Value} {an od : Option Addr} {osl : Array (Option Value)} {Ng : List Str}
    {params : Arguments} {body : Expr} {scope : Scope} {t : XK → TE} {p lpos pos : Pos} (hg : Gl X x) (hm : X.mg x = some (.ref g)) (hk : PySem.W.keepIn X.K (.ref g) = true)
    (lk : X.K.lookup g = some ⟨oc, od, .func (PySem.W.fnOf x x pg bg sg dV kV doc pm an cdv ct), osl⟩) (hcg : PySem.W.codeIn X.K cdv x = true) (hb : L2.Binds X.K (PySem.W.fnOf x x pg bg sg dV kV doc pm an cdv ct) [a] []) (Sg : FnScope Ng [a] sg) (hNg : Ng[0]? = some a) (hva : Vis sg a)
    (hG : GivesT X Ng x sg g cdv bg a (lamQ X) (k + 1) TT)
    (TB : TabB X.base X.mg c P) (hcode : X.env.code = .ref c) (hr : Room (k + 2) X.A) (L : LamS X.env.scope scope) (hdef : defaultsOf params X.env = ([], []))
    (hbind : ∀ (q : Str) (cl : List (Str × Addr)) (pm cv ctv : Value), bindArgs (PySem.W.kla_fn "<lambda>" q params body scope cl pm cv ctv) ⟨[], []⟩ = pure [])
    (hbody : ∀ (A : Around) (outer : List Env) (s : Shared) (H : Hp) (E : XK) (f c' : Addr), Room k (A.deeper (lamEnv X scope s.heap.objs.size f c')) → PE (lamCx X A outer s H E scope f c') body (t E))
    (hdb : (x == ("__debug__" : Str)) = false := by decide) (hd : (a == ("__debug__" : Str)) = false := by decide) (hcd : (a == ("__classdict__" : Str)) = false := by decide) :
    PE X (.Call (.Name x p) [.Lambda params body scope lpos] [] pos) (tLam3 P (lamQ X) TT t) := by
  refine ⟨fun pins s σ H Q I h => ?_⟩
  obtain ⟨hT, h⟩ := h
  refine wpAny_Call_Name_kw (ld_glob I hg hm ?_ hdb)
  refine PySem.W.callWith_K (h₀ := X.base) I.ok.mod.kin hk ?_ (by rfl) (by rfl)
  show wpAny _ _ (spliced ((false, eval (.Lambda params body scope lpos) X.env) :: backTo pos (starEach [] X.env))) _ _ s
  refine Calls.spliced_cons (lam_make3 I TB hcode hT hdef (L.has I.ok) fun f c' pm' ctv H1 s' I1 eN T1 hf hfn hfr hco => ?_)
  refine Calls.spliced_nil ⟨I1.kIn, ?_⟩
  have rc : codeAny (model X.prog X.w) X.A (.call (.ref g) ⟨[.ref f], []⟩) (CR CX0 X.stack X.prog X.w H1 s' Q C8.E0) s' := by
    refine run_ofS (N := Ng) (ps := [a]) (us := [.ref f]) (vs := [.ref f]) lk hcg Sg hr I1.env0 (hb s' [.ref f] I1.kIn rfl) (.cons rfl .nil) rfl fun hr' => ?_
    obtain ⟨t', ht', hq'⟩ := hG f c' s' H1 Q (fun E H' Q' => t E σ H' Q') hr' (fun W pn xe E p1 p2 tk hW => pe_act (i := 0) I1 L hf hfn hfr (hbind _ _ _ _ _) tk hW hr' (fun A outer s H hr2 => hbody A outer s H E f c' hr2) hNg hva hd hcd) hco (h H1 eN T1)
    exact ⟨t', ht'.nox, hq'⟩
  refine wpAny_call (codeAny_mono rc fun r s2 hq => ?_)
  cases r with
  | error e => exact (show False from hq).elim
  | ok fl =>
    cases fl with
    | ret u => exact I1.after hq
    | next => exact False.elim hq
    | brk => exact False.elim hq
    | cont => exact False.elim hq
end
/-- the world with a table of lambdas at P -/
def Wd.tab (W : Wd) (P : Addr) (q : Str) : Wd where
  A b := W.A b ∨ b = P
  I H := W.I H ∧ TabS H P q ∧ ¬ W.A P ∧ ¬ W.B P
  B := W.B
  nx := fun H a φ h ha => by
    rcases ha with ha | rfl
    · exact W.nx H a φ h.1 ha
    · obtain ⟨ps, e, _⟩ := h.2.1
      rw [e]
      intro z
      cases z
  liveB := fun H a h hB => W.liveB H a h.1 hB
  C := W.C
  cb := W.cb
  live := fun H a h ha => by
    rcases ha with ha | rfl
    · exact W.live H a h.1 ha
    · obtain ⟨ps, e, _⟩ := h.2.1
      rw [e]
      simp
  stay := fun H H' h k kx kb => by
    obtain ⟨h1, ⟨ps, e1, e2, e3⟩, h4⟩ := h
    refine ⟨W.stay H H' h1 (fun b hb => k b (.inl hb)) kx kb, ⟨ps, (k P (.inr rfl)).trans e1, e2, fun pos cv hc => ?_⟩, h4⟩
    obtain ⟨c, e, hco⟩ := e3 pos cv hc
    exact ⟨c, e, kx c _ hco⟩
/-- what is promised in a world is promised in it with a table -/
theorem fn_tab {P : Program} {w : World} {K : PySem.W.Frag} {mg : Str → Option Value} {base : Heap} {CX : CXT} {k : Nat} {f : Addr} {fd : FuncData} {ps : List Str} {W : Wd} {g : List D → (D → Prop) → Prop} (hne : ∀ H b φ, W.I H → W.A b → H b ≠ some (.ext φ)) (Pt : Addr) (q : Str)
    (F : FnOk P w K mg base CX k f fd ps (spD K W g)) : FnOk P w K mg base CX k f fd ps (spD K (W.tab Pt q) g) := by
  refine F.imp fun vs H Q E h => ?_
  obtain ⟨M, ds, Pd, m, r, hg, kk⟩ := h
  refine ⟨M, ds, Pd, ⟨fun a ha => m.wm a (.inl ha), m.live, m.wi.1, m.nb, m.nx⟩, r, hg, fun d v H' hp e i rv => kk d v H' hp (fun b o nb hb => e b o (fun z => nb (.inl z)) hb) ⟨i, ?_, m.wi.2.2⟩ rv⟩
  obtain ⟨ps', e1, e2, e3⟩ := m.wi.2.1
  refine ⟨ps', e Pt _ m.wi.2.2.1 e1, e2, fun pos cv hc => ?_⟩
  obtain ⟨c, ec, hco⟩ := e3 pos cv hc
  exact ⟨c, ec, e c _ (fun hA => hne H c _ m.wi.1 hA hco) hco⟩
/-- a def whose code object is known -/
theorem okC {P : Program} {w : World} {K : PySem.W.Frag} {mg : Str → Option Value} {base : Heap} {CX : CXT} {k : Nat} {x qual : Str} {st : Stmt} {f c : Addr} {fd : FuncData} {N ps : List Str} {sp : Sp} (F : Fun K x qual st f fd) (hc : fd.code = .ref c) (S : FnScope N ps (defScope st))
    (len : ∀ vs H Q E, sp vs H Q E → vs.length = ps.length)
    (hbody : ∀ (A : Around) (outer : List Env) (s : Shared) (H : Hp) (vs : List V) (Q : L2.VK) (E : XK), Room k (A.deeper (envOfC qual (defScope st) s.heap.objs.size f (.ref c))) → sp vs H Q E →
      ∃ t, PSs (cxOf CX P w K mg base N qual (defScope st) f (.ref c) A outer s H E).nox (defBody st) t ∧ t { nx := fun _ H' => Q .non H', rt := Q } (L2.start N vs) H) : FnOk P w K mg base CX (k + 1) f fd ps sp := by
  obtain ⟨⟨oc, od, kV, doc, pm, an, cdv, ct, osl, rfl, lk, hcd⟩, hkp⟩ := F
  have e : cdv = .ref c := hc
  subst e
  refine fn_of lk hcd S len fun A outer s H vs Q E hr hsp => ?_
  obtain ⟨t, h, q⟩ := hbody A outer s H vs Q E hr hsp
  exact ⟨t, h.nox, q⟩
/-! ### x(lambda: body) where x tries it -/
def errTab : List (Str × List Str) := [("InvalidAmount", ["given"]), ("InvalidName", ["given"]), ("InvalidMachine", ["part", "at"]), ("InvalidTree", ["command", "path"]), ("ScalesDiffer", ["one", "other"]), ("UnknownName", ["name"]), ("UnknownScale", ["name"]),
  ("InvalidText", ["row"]), ("NotDefined", ["operation"]), ("WrongQuantity", ["at"]), ("ShelfFull", ["most"]), ("NotRelated", []), ("NothingLeft", [])]
/-- what is asked of an exception that is tried: its code, its fields by its code -/
def excAsk (K : PySem.W.Frag) (cs : List Value) (H' : Hp) (cls : Value) (d : Option Addr) (R : (Addr → Prop) → Str → List V → Prop) : Prop :=
  ∃ C dd fs z ks vs Mo, cls = .ref C ∧ d = some dd ∧ ExcK K C ∧ PySem.W.exmAny K cls cs = some true ∧ H' dd = some (.xd fs) ∧ fs.lookup ("code" : Str) = some (V.str z) ∧ (z, ks) ∈ errTab ∧ ks.map (fun k => fs.lookup k) = vs.map some ∧ (∀ b, Mo b → H' b ≠ none ∧ ∀ φ, H' b ≠ some (.ext φ)) ∧ R Mo z vs
def TTry (K : PySem.W.Frag) (cs : List Value) (tl : XK → Hp → L2.VK → Prop) (H : Hp) (Q : L2.VK) : Prop :=
  ∀ p0, H p0 = none → ∀ (E' : XK) (R : L2.VK), (∀ cls d H', excAsk K cs H' cls d (fun Mo z vs => ∀ H2 v2, Full H' H2 → Rep K Mo H2 (.tup (vs.map dOf)) v2 → ∀ p, H2 p = none → Q (.ref p) (upd H2 p (.tup [.str z, v2]))) → E' cls d H') →
    (∀ v H', (∀ p, H' p = none → Q (.ref p) (upd H' p (.tup [.str "", v]))) → R v H') → tl E' (upd H p0 (.tup [.str "", .non])) R
/-- own lists are out of a lambda's sight -/
def unown : List Sl → List Sl := List.map fun s => match s with
  | .d x => .d x
  | _ => .un
/-- an error as the pair of its code and its fields -/
def errD (K : PySem.W.Frag) (cs : List Value) (P : D → Prop) : D → Prop
  | .ins C fs xs => ExcK K C ∧ PySem.W.exmAny K (.ref C) cs = some true ∧ ∃ z ks ys, lkp fs xs "code" = some (.str z) ∧ (z, ks) ∈ errTab ∧ ks.map (fun k => lkp fs xs k) = ys.map some ∧ P (.tup [.str z, .tup ys])
  | _ => False
def wTry (K : PySem.W.Frag) (cs : List Value) (wB : (D → Prop) → WE) : WE := fun ds P => wB (errD K cs P) (unown ds) fun d => P (.tup [.str "", d])
theorem mx_no {M : Addr → Prop} {b : Addr} (h : Mx M (fun _ => none) b) : M b := h.elim id fun ⟨_, z⟩ => by cases z
theorem Sat.unown {K : PySem.W.Frag} {W : Wd} {M0 : Addr → Prop} {H0 H : Hp} {oa : Nat → Option Addr} {σ : L2.St} {ds : List Sl} (S : Sat K W M0 H0 oa H σ ds) : Sat K (W.fx (Mx M0 oa) H) (Mx M0 oa) H (fun _ => none) H σ (VL.unown ds) := by
  have m := S.mok
  refine ⟨m.wm, m.live, Ext.refl H, S.wi, fun i a h => (by cases h), fun i j a h => (by cases h), by unfold VL.unown; rw [List.length_map]; exact S.len, fun i _ => rfl, fun i s h => ?_, fun _ z => z, Ext.refl H, fun a h => W.liveB _ _ S.wi h, m.nb, m.nx⟩
  unfold VL.unown at h
  rw [List.getElem?_map] at h
  cases q : ds[i]? with
  | none => rw [q] at h; cases h
  | some s0 =>
    rw [q] at h
    cases h
    have hs := S.slot i s0 q
    cases s0 with
    | d x =>
      obtain ⟨_, v, e, r⟩ := hs
      exact ⟨rfl, v, e, r.car fun b o n z => ⟨fun y => n (mx_no y), z⟩⟩
    | un => rfl
    | ml l => rfl
    | md ks l => rfl
    | mi a C ks l => rfl
theorem tup_join {K : PySem.W.Frag} {M : Addr → Prop} {H : Hp} {ys : List D} {vs : List V} {v : V} (r : Reps K M H ys vs) (h : Rep K M H (.tup (vs.map dOf)) v) : Rep K M H (.tup ys) v := by
  obtain ⟨a, us, rfl, t, q⟩ := h.tup
  rw [dOfs_inv q] at t
  exact rep_tup t r
section
variable {X : Cx} {W : Wd}
theorem ve_try {cs : List Value} {x a : Str} {g c P : Addr} {k : Nat} {pg : Arguments} {bg : List Stmt} {sg : Scope} {dV kV doc pm cdv ct oc : Value} {an od : Option Addr} {osl : Array (Option Value)} {Ng : List Str}
    {params : Arguments} {body : Expr} {scope : Scope} {wB : (D → Prop) → WE} {p lpos pos : Pos} (hg : Gl X x) (hm : X.mg x = some (.ref g)) (hk : PySem.W.keepIn X.K (.ref g) = true)
    (lk : X.K.lookup g = some ⟨oc, od, .func (PySem.W.fnOf x x pg bg sg dV kV doc pm an cdv ct), osl⟩) (hcg : PySem.W.codeIn X.K cdv x = true) (hb : L2.Binds X.K (PySem.W.fnOf x x pg bg sg dV kV doc pm an cdv ct) [a] []) (Sg : FnScope Ng [a] sg) (hNg : Ng[0]? = some a) (hva : Vis sg a)
    (hG : GivesT X Ng x sg g cdv bg a (lamQ X) (k + 1) (TTry X.K cs))
    (TB : TabB X.base X.mg c P) (hcode : X.env.code = .ref c) (hr : Room (k + 2) X.A) (L : LamS X.env.scope scope) (hdef : defaultsOf params X.env = ([], []))
    (hbind : ∀ (q : Str) (cl : List (Str × Addr)) (pm cv ctv : Value), bindArgs (PySem.W.kla_fn "<lambda>" q params body scope cl pm cv ctv) ⟨[], []⟩ = pure [])
    (hbody : ∀ (A : Around) (outer : List Env) (s : Shared) (H : Hp) (E : XK) (f c' : Addr) (Mf : Addr → Prop) (Hf : Hp) (PX : D → Prop), Room k (A.deeper (lamEnv X scope s.heap.objs.size f c')) → Takes (lamCx X A outer s H E scope f c') (XW X.K ((W.tab P (lamQ X)).fx Mf Hf) PX) →
      VE (lamCx X A outer s H E scope f c') ((W.tab P (lamQ X)).fx Mf Hf) body (wB PX))
    (hdb : (x == ("__debug__" : Str)) = false := by decide) (hd : (a == ("__debug__" : Str)) = false := by decide) (hcd : (a == ("__classdict__" : Str)) = false := by decide) :
    VE X (W.tab P (lamQ X)) (.Call (.Name x p) [.Lambda params body scope lpos] [] pos) (wTry X.K cs wB) := by
  let t : XK → TE := fun E σ H Q => ∃ M H1 ds PX P', Sat X.K ((W.tab P (lamQ X)).fx M H) M H (fun _ => none) H σ ds ∧ H1 = H ∧ wB PX ds P' ∧ (∀ d v H', P' d → Ext (W.tab P (lamQ X)) H H' → (W.tab P (lamQ X)).I H' → Rep X.K M H' d v → Q v H') ∧ ∀ cls d H', XC X.K (W.tab P (lamQ X)) M H PX cls d H' → E cls d H'
  refine pe_imp (pe_lamcall3 (t := t) hg hm hk lk hcg hb Sg hNg hva hG TB hcode hr L hdef hbind (fun A outer s H E f c' hr2 => ?_) hdb hd hcd) fun σ H Q h => ?_
  · refine ⟨fun pins s1 σ1 H1 Q1 I1 ht => ?_⟩
    obtain ⟨M, _, ds, PX, P', S, _, hw, kk, kx⟩ := ht
    have tk : Takes (lamCx X A outer s H E scope f c') (fun cls d _ H => E cls d H) := takes_of rfl rfl rfl rfl
    exact (hbody A outer s H E f c' M H1 PX hr2 (tk.imp fun cls d σ' H' hx => kx cls d H' hx)).run pins s1 σ1 H1 Q1 I1 ⟨M, H1, fun _ => none, ds, P', S, hw, fun d v H' hp e i r => kk d v H' hp e i (r.car fun b o n z => ⟨fun y => n (.inl y), z⟩)⟩
  · obtain ⟨M0, H0, oa, ds, Pd, S, hw, kk⟩ := h
    refine ⟨S.wi.2.1, fun H1 eP T1 p0 hp0 E' R hE hR => ?_⟩
    have e1 : Ext (W.tab P (lamQ X)) H H1 := fun b o n z => eP b o (fun y => n (.inr y)) z
    have i1 : (W.tab P (lamQ X)).I H1 := by
      refine ⟨W.stay H H1 S.wi.1 (fun b hb => ?_) (fun b φ z => eP b _ (fun y => ?_) z) (fun b o hB z => eP b o (fun y => S.wi.2.2.2 (by rw [← y]; exact hB)) z), T1, S.wi.2.2⟩
      · have hbP : b ≠ P := fun y => S.wi.2.2.1 (by rw [← y]; exact hb)
        cases q : H b with
        | none => exact absurd q (W.live H b S.wi.1 hb)
        | some o => exact eP b o hbP q
      · obtain ⟨ps, z2, _⟩ := S.wi.2.1
        rw [y, z2] at z
        cases z
    have f0 : Full H1 (upd H1 p0 (.tup [.str "", .non])) := Full.new hp0
    have S2 := (S.step e1 i1).full f0
    refine ⟨Mx M0 oa, _, _, errD X.K cs Pd, _, S2.unown, rfl, hw, fun d v H' hp e i r => hR v H' fun p hp1 => ?_, fun cls d H' hx => hE cls d H' ?_⟩
    · have m2 := S2.mok.ext e i
      have f1 : Full H' (upd H' p (.tup [.str "", v])) := Full.new hp1
      refine kk _ _ _ hp (e1.trans (f0.ext.trans (e.trans f1.ext))) ((W.tab P (lamQ X)).keep _ _ i f1) ?_
      exact m2.newT hp1 (reps_cons rep_str (reps_cons r reps_nil))
    · obtain ⟨C, fs, xs, us, dd, rfl, rfl, hpx, e, i, r, hlen, hdd⟩ := hx
      obtain ⟨hC, hex, z, ks, ys, hcode', hmem, hks, hP⟩ := hpx
      have m2 := S2.mok.ext e i
      obtain ⟨vc, hvc, rvc⟩ := (lkp_fs (f := "code") r hlen).1 _ hcode'
      have evc : vc = .str z := by unfold Rep at rvc; exact rvc
      subst evc
      have key : ∀ (ks : List Str) (ys : List D), ks.map (fun k => lkp fs xs k) = ys.map some → ∃ vs : List V, ks.map (fun k => (fs.zip us).lookup k) = vs.map some ∧ Reps X.K (Mx M0 oa) H' ys vs := by
        intro ks
        induction ks with
        | nil =>
          intro ys h
          cases ys with
          | nil => exact ⟨[], rfl, reps_nil⟩
          | cons _ _ => cases h
        | cons k ks ih =>
          intro ys h
          cases ys with
          | nil => cases h
          | cons y ys =>
            obtain ⟨h1, h2⟩ := List.cons.inj h
            obtain ⟨vs, e1, r1⟩ := ih ys h2
            obtain ⟨v, e2, r2⟩ := (lkp_fs (f := k) r hlen).1 _ h1
            exact ⟨v :: vs, by rw [List.map_cons, List.map_cons, e1, e2], reps_cons r2 r1⟩
      obtain ⟨vs, hvs, rvs⟩ := key ks ys hks
      refine ⟨C, dd, fs.zip us, z, ks, vs, Mx M0 oa, rfl, rfl, hC, hex, hdd, hvc, hmem, hvs, fun b hb => ⟨m2.live b hb, fun φ => m2.nx b φ hb⟩, fun H2 v2 fH r2 p hp1 => ?_⟩
      have i2 := (W.tab P (lamQ X)).keep _ _ i fH
      have m3 := m2.full fH
      have f1 : Full H2 (upd H2 p (.tup [.str z, v2])) := Full.new hp1
      refine kk _ _ _ hP (e1.trans (f0.ext.trans (e.trans (fH.ext.trans f1.ext)))) ((W.tab P (lamQ X)).keep _ _ i2 f1) ?_
      exact m3.newT hp1 (reps_cons rep_str (reps_cons (tup_join (rvs.car fun b o n z => ⟨n, fH b o z⟩) r2) reps_nil))
end
end VL

set_option Elab.async false
set_option linter.all false
set_option maxRecDepth 100000
set_option maxHeartbeats 2000000
/-! VU: methods of texts (split, partition, removeprefix), int(text), text * int. -/
namespace VL
open PySem PySem.Spec PyProof.Rows L2
section
variable {X : Cx} {K : PySem.W.Frag} {W : Wd}
theorem reps_strs {M : Addr → Prop} {H : Hp} : ∀ ns : List Str, Reps K M H (ns.map D.str) (ns.map V.str)
  | [] => reps_nil
  | _ :: ns => reps_cons rep_str (reps_strs ns)
def splitD : D → D → (D → Prop) → Prop
  | .str a, .str b, P => (b.length == 0) = false ∧ a.length + 2 ≤ sizeLine ∧ P (.lst ((Txt.split a b).map D.str))
  | _, _, _ => False
theorem lift_split : LiftOp K W splitD (fun x y H Q => ∃ a b, x = .str a ∧ [y] = [.str b] ∧ (b.length == 0) = false ∧ a.length + 2 ≤ sizeLine ∧ rNewStrs (Txt.split a b) H Q) := by
  intro M H x y v u P Q m r1 r2 h k
  cases x <;> cases y <;> first
    | exact h.elim
    | (rename_i a b
       obtain ⟨h1, h2, h3⟩ := h
       refine ⟨a, b, r1.str, by rw [r2.str], h1, h2, fun p hp => ?_⟩
       have f := Full.new (o := HO.lst ((Txt.split a b).map V.str)) hp
       exact k _ _ _ h3 f.ext (W.keep _ _ m.wi f) (m.newL hp (reps_strs _)))
theorem ve_split {o e : Expr} {apos pos : Pos} {wa wb : WE} (ho : VE X W o wa) (he : VE X W e wb) (hs : starEach [e] X.env = [(false, eval e X.env)] := by rfl) (hbase : attributeBase o "split" X.env (eval o X.env) = eval o X.env := by rfl) (hline : (apos.endLine == pos.line) = true := by rfl) :
    VE X W (.Call (.Attribute o "split" apos) [e] [] pos) (wM1 splitD wa wb) := ve_m1 (o := o) (e := e) (pe_split ho he hs hbase hline) lift_split
def partD : D → D → (D → Prop) → Prop
  | .str a, .str b, P => (b.length == 0) = false ∧ a.length ≤ sizeLine ∧ P (.tup [.str (Txt.partition a b).1, .str (Txt.partition a b).2.1, .str (Txt.partition a b).2.2])
  | _, _, _ => False
theorem lift_part : LiftOp K W partD (fun x y H Q => ∃ a b, x = .str a ∧ [y] = [.str b] ∧ (b.length == 0) = false ∧ a.length ≤ sizeLine ∧ ∀ p, H p = none → Q (.ref p) (upd H p (.tup [.str (Txt.partition a b).1, .str (Txt.partition a b).2.1, .str (Txt.partition a b).2.2]))) := by
  intro M H x y v u P Q m r1 r2 h k
  cases x <;> cases y <;> first
    | exact h.elim
    | (rename_i a b
       obtain ⟨h1, h2, h3⟩ := h
       refine ⟨a, b, r1.str, by rw [r2.str], h1, h2, fun p hp => ?_⟩
       have f := Full.new (o := HO.tup [.str (Txt.partition a b).1, .str (Txt.partition a b).2.1, .str (Txt.partition a b).2.2]) hp
       exact k _ _ _ h3 f.ext (W.keep _ _ m.wi f) (m.newT hp (reps_cons rep_str (reps_cons rep_str (reps_cons rep_str reps_nil)))))
theorem ve_partition {o e : Expr} {apos pos : Pos} {wa wb : WE} (ho : VE X W o wa) (he : VE X W e wb) (hs : starEach [e] X.env = [(false, eval e X.env)] := by rfl) (hbase : attributeBase o "partition" X.env (eval o X.env) = eval o X.env := by rfl) (hline : (apos.endLine == pos.line) = true := by rfl) :
    VE X W (.Call (.Attribute o "partition" apos) [e] [] pos) (wM1 partD wa wb) := ve_m1 (o := o) (e := e) (pe_partition ho he hs hbase hline) lift_part
def rmpD : D → D → (D → Prop) → Prop
  | .str a, .str b, P => a.length ≤ sizeLine ∧ P (.str (Txt.removeprefix a b))
  | _, _, _ => False
theorem lift_rmp : LiftOp K W rmpD (fun x y H Q => ∃ a b, x = .str a ∧ [y] = [.str b] ∧ a.length ≤ sizeLine ∧ Q (.str (Txt.removeprefix a b)) H) := by
  intro M H x y v u P Q m r1 r2 h k
  cases x <;> cases y <;> first
    | exact h.elim
    | (rename_i a b
       exact ⟨a, b, r1.str, by rw [r2.str], h.1, k _ _ H h.2 (Ext.refl H) m.wi rep_str⟩)
theorem ve_removeprefix {o e : Expr} {apos pos : Pos} {wa wb : WE} (ho : VE X W o wa) (he : VE X W e wb) (hs : starEach [e] X.env = [(false, eval e X.env)] := by rfl) (hbase : attributeBase o "removeprefix" X.env (eval o X.env) = eval o X.env := by rfl) (hline : (apos.endLine == pos.line) = true := by rfl) :
    VE X W (.Call (.Attribute o "removeprefix" apos) [e] [] pos) (wM1 rmpD wa wb) := ve_m1 (o := o) (e := e) (pe_m1 PySem.F.slot_str_removeprefix PySem.F.type_str_removeprefix mt_removeprefix ho he hs hbase hline) lift_rmp
/-- int(text) -/
def intSD : List D → (D → Prop) → Prop
  | [.str a], P => ∃ n, PySem.intText? a = some n ∧ a.length ≤ 640 ∧ P (.int n)
  | _, _ => False
theorem lift_intS : LiftCall K W intSD (fun xs H Q => ∃ a n, xs = [.str a] ∧ PySem.intText? a = some n ∧ a.length ≤ 640 ∧ Q (.int n) H) := by
  intro M H xs vs P Q m r h k
  match xs, h with
  | [.str a], h =>
    obtain ⟨n, h1, h2, h3⟩ := h
    obtain ⟨v, vs, rfl, r1, r2⟩ := r.inv
    rw [r2.inv0, r1.str]
    exact ⟨a, n, rfl, h1, h2, k _ _ H h3 (Ext.refl H) m.wi rep_int⟩
/-- text * int -/
def repT (a : Str) (n : Int) : Str := ⟨(List.replicate n.toNat a.cps).foldl (· ++ ·) #[]⟩
theorem rep_fold (c : Array Nat) : ∀ (k : Nat) (acc : Array Nat), ((List.replicate k c).foldl (· ++ ·) acc).size = acc.size + k * c.size
  | 0, acc => by simp
  | k + 1, acc => by
    rw [List.replicate_succ, List.foldl_cons, rep_fold c k, Array.size_append, Nat.succ_mul]
    omega
theorem rep_len (a : Str) (n : Int) : Str.length ⟨(List.replicate n.toNat a.cps).foldl (· ++ ·) #[]⟩ = n.toNat * a.length := by
  show ((List.replicate n.toNat a.cps).foldl (· ++ ·) #[]).size = _
  rw [rep_fold]
  simp
  rfl
def mulS : D → D → (D → Prop) → Prop
  | .str a, .int n, P => a.length = 1 ∧ 2 ≤ n ∧ n ≤ 1000 ∧ P (.str (repT a n))
  | _, _, _ => False
theorem op_mulS : OpR X (binaryOp .Mult) (fun x y H Q => ∃ a n, x = .str a ∧ y = .int n ∧ a.length = 1 ∧ 2 ≤ n ∧ n ≤ 1000 ∧ Q (.str (repT a n)) H) := by
  intro pins s σ H x y v u Q I rx ry h
  obtain ⟨a, n, rfl, rfl, h1, h2, h3, q⟩ := h
  obtain ⟨t, rfl⟩ := rx
  obtain ⟨t', rfl⟩ := ry
  have e1 : ¬ n < 1 := by omega
  have e2 : (n == 1 || a.length == 0) = false := by
    rw [h1]
    simp
    omega
  refine PySem.P.mul_str (by simp; omega) (fun _ _ => ?_) (fun _ _ => ?_) ?_
  · rw [h1]
    have : (1000 : Int) ≤ (2 ^ 63 - 1) / n := Int.le_ediv_of_mul_le (by omega) (by omega)
    omega
  · rw [h1]
    unfold PySem.Builtin.Str.tooLong
    rw [decide_eq_false_iff_not, sizeLine_eq]
    omega
  · rw [if_neg e1, e2]
    refine ⟨?_, ⟨.str (repT a n), H, I.tok _, ⟨_, rfl⟩, q⟩⟩
    rw [rep_len, h1, sizeLine_eq]
    omega
theorem lift_mulS : LiftOp K W mulS (fun x y H Q => ∃ a n, x = .str a ∧ y = .int n ∧ a.length = 1 ∧ 2 ≤ n ∧ n ≤ 1000 ∧ Q (.str (repT a n)) H) := by
  intro M H x y v u P Q m r1 r2 h k
  cases x <;> cases y <;> first
    | exact h.elim
    | (rename_i a n
       obtain ⟨h1, h2, h3, h4⟩ := h
       exact ⟨a, n, r1.str, r2.int, h1, h2, h3, k _ _ H h4 (Ext.refl H) m.wi rep_str⟩)
theorem ve_mulS {a b : Expr} {pos : Pos} {wa wb : WE} (ha : VE X W a wa) (hb : VE X W b wb) : VE X W (.BinOp a .Mult b pos) (wOp mulS wa wb) := ve_op op_mulS lift_mulS ha hb
end
end VL

set_option Elab.async false
set_option linter.all false
set_option maxRecDepth 100000
set_option maxHeartbeats 2000000
/-! VP: the plain law of whole numbers' and amounts' texts. -/
namespace VL
open PySem PySem.Spec PyProof.Rows L2 NumText
def dig (c : Nat) : Bool := decide (48 ≤ c) && decide (c ≤ 57)
def digsB (l : List Nat) : Bool := decide (1 ≤ l.length) && (decide (l.length ≤ 30) && l.all dig)
def bareL : List Nat → List Nat
  | [] => []
  | c :: r => if c = 45 then r else c :: r
def valL : List Nat → Int
  | [] => 0
  | c :: r => if c = 45 then -((digitsVal r : Nat) : Int) else ((digitsVal (c :: r) : Nat) : Int)
def canL (l : List Nat) : Bool := !(decide (1 < (bareL l).length) && decide ((bareL l).head? = some 48)) && !(decide (bareL l = [48]) && !decide (l = [48]))
def numB (l : List Nat) : Bool := digsB (bareL l) && canL l
def textL (i : Int) : List Nat := TL.tl (Str.ofString (toString i))
theorem textL_nat (n : Nat) : textL (n : Int) = TL.numL n := TL.tl_num n
theorem textL_neg {n : Nat} (h : 0 < n) : textL (-(n : Int)) = 45 :: TL.numL n := by
  cases n with
  | zero => omega
  | succ m =>
    have e := TL.tl_num (m + 1)
    show (Str.ofString (toString (Int.negSucc m))).cps.toList = _
    have e2 : (Str.ofString (toString ((m + 1 : Nat) : Int))).cps.toList = _ := e
    rw [signs_ofString] at e2 ⊢
    show ("-" ++ toString (m + 1)).toList.map Char.toNat = _
    rw [String.toList_append, List.map_append]
    rw [show (toString ((m + 1 : Nat) : Int)) = toString (m + 1) from rfl] at e2
    rw [e2]
    rfl
theorem digs_all {l : List Nat} (h : digsB l = true) : AllDigits l ∧ l ≠ [] ∧ l.length ≤ 30 := by
  unfold digsB at h
  simp only [Bool.and_eq_true, decide_eq_true_eq, List.all_eq_true, dig] at h
  obtain ⟨h1, h2, h3⟩ := h
  exact ⟨fun c hc => h3 c hc, fun z => by rw [z] at h1; simp at h1, h2⟩
theorem fold_lt : ∀ (r : List Nat) (acc : Nat), AllDigits r → r.foldl (fun acc c => acc * 10 + (c - 48)) acc < (acc + 1) * 10 ^ r.length
  | [], acc, _ => by simp
  | c :: r, acc, h => by
    have hc := h c (.head _)
    have ih := fold_lt r (acc * 10 + (c - 48)) (fun d hd => h d (.tail _ hd))
    rw [List.foldl_cons, List.length_cons, Nat.pow_succ]
    refine Nat.lt_of_lt_of_le ih ?_
    have : acc * 10 + (c - 48) + 1 ≤ (acc + 1) * 10 := by omega
    calc (acc * 10 + (c - 48) + 1) * 10 ^ r.length ≤ (acc + 1) * 10 * 10 ^ r.length := Nat.mul_le_mul_right _ this
      _ = (acc + 1) * (10 ^ r.length * 10) := by rw [Nat.mul_assoc, Nat.mul_comm 10]
theorem digitsVal_lt {r : List Nat} (h : AllDigits r) : digitsVal r < 10 ^ r.length := by
  have := fold_lt r 0 h
  unfold digitsVal
  omega
theorem num_back {l : List Nat} (h : AllDigits l) (hn : l ≠ []) : TL.numL (digitsVal l) = l ↔ ¬ (1 < l.length ∧ l.head? = some 48) := by
  have back : ∀ cs : List Nat, AllDigits cs → (cs.map Char.ofNat).map Char.toNat = cs := fun cs hc => by
    rw [List.map_map]
    conv => rhs; rw [← List.map_id cs]
    refine List.map_congr_left fun c hcm => ?_
    have := hc c hcm
    show (Char.ofNat c).toNat = c
    have hv : c.isValidChar := .inl (by omega)
    unfold Char.ofNat
    rw [dif_pos hv]
    rfl
  cases l with
  | nil => exact absurd rfl hn
  | cons c r =>
    by_cases hz : 1 < (c :: r).length ∧ (c :: r).head? = some 48
    · refine ⟨fun e => ?_, fun z => absurd hz z⟩
      exfalso
      obtain ⟨h1, h2⟩ := hz
      have hc : c = 48 := by simpa using h2
      subst hc
      have e1 : digitsVal (48 :: r) = digitsVal r := digitsVal_zero
      rw [e1] at e
      have hl := congrArg List.length e
      have hr : r ≠ [] := fun z => by rw [z] at h1; simp at h1
      have hlt : digitsVal r < 10 ^ r.length := digitsVal_lt fun d hd => h d (.tail _ hd)
      have := TL.numL_len (k := r.length) (by cases r with | nil => exact absurd rfl hr | cons _ _ => simp) hlt
      rw [hl] at this
      simp at this
      omega
    · refine ⟨fun _ => hz, fun _ => ?_⟩
      have e := toDigits_digitsVal r.length (c :: r) (by simp) h (by
        by_cases hr : r = []
        · exact .inl (by rw [hr]; rfl)
        · refine .inr ⟨c, r, rfl, ?_⟩
          have h48 := (h c (.head _)).1
          have : c ≠ 48 := fun z => hz ⟨by cases r with | nil => exact absurd rfl hr | cons _ _ => simp, by rw [z]; rfl⟩
          omega)
      show (Nat.toDigits 10 (digitsVal (c :: r))).map Char.toNat = _
      rw [e, back _ h]
theorem zero_val {l : List Nat} (h : AllDigits l) : digitsVal l = 0 ↔ ∀ c ∈ l, c = 48 := by
  constructor
  · intro e
    induction l with
    | nil => intro c hc; cases hc
    | cons d r ih =>
      have hd := h d (.head _)
      by_cases hd0 : d = 48
      · subst hd0
        rw [digitsVal_zero] at e
        intro c hc
        rcases List.mem_cons.mp hc with rfl | hc
        · rfl
        · exact ih (fun c hc => h c (.tail _ hc)) e c hc
      · have := digitsVal_pos (c := d) (cs := r) (by omega)
        omega
  · intro e
    induction l with
    | nil => rfl
    | cons d r ih =>
      have : d = 48 := e d (.head _)
      subst this
      rw [digitsVal_zero]
      exact ih (fun c hc => h c (.tail _ hc)) fun c hc => e c (.tail _ hc)
/-- a text of digits, a minus ahead or not, is the text of its number just if it is written as numbers are -/
theorem num_iff {l : List Nat} (h : digsB (bareL l) = true) : textL (valL l) = l ↔ canL l = true := by
  obtain ⟨ha, hne, _⟩ := digs_all h
  unfold canL
  cases l with
  | nil => exact absurd rfl hne
  | cons c r =>
    by_cases hc : c = 45
    · subst hc
      have eb : bareL (45 :: r) = r := by simp [bareL]
      have ev : valL (45 :: r) = -((digitsVal r : Nat) : Int) := by simp [valL]
      rw [eb] at ha hne ⊢
      rw [ev]
      have e48 : ¬ (45 :: r = [48]) := fun z => by cases z
      rw [decide_eq_false e48, Bool.not_false, Bool.and_true]
      by_cases hz : digitsVal r = 0
      · rw [hz]
        have : textL (-((0 : Nat) : Int)) = [48] := textL_nat 0
        rw [this]
        refine ⟨fun z => (by cases z), fun z => ?_⟩
        exfalso
        simp only [Bool.and_eq_true, Bool.not_eq_true', Bool.and_eq_false_imp, decide_eq_true_eq, decide_eq_false_iff_not] at z
        obtain ⟨z1, z2⟩ := z
        have all := (zero_val ha).mp hz
        cases r with
        | nil => exact hne rfl
        | cons d r =>
          have hd := all d (.head _)
          subst hd
          cases r with
          | nil => exact z2 rfl
          | cons d2 r => exact z1 (by simp) rfl
      · rw [textL_neg (by omega)]
        have key := num_back ha hne
        have nz : ¬ (r = [48]) := fun z => hz (by rw [z]; rfl)
        rw [decide_eq_false nz, Bool.not_false, Bool.and_true]
        constructor
        · intro z
          have z2 := key.mp (List.cons.inj z).2
          simp only [Bool.not_eq_true', Bool.and_eq_false_imp, decide_eq_true_eq, decide_eq_false_iff_not]
          exact fun h1 h2 => z2 ⟨h1, h2⟩
        · intro z
          simp only [Bool.not_eq_true', Bool.and_eq_false_imp, decide_eq_true_eq, decide_eq_false_iff_not] at z
          rw [key.mpr fun h => z h.1 h.2]
    · have eb : bareL (c :: r) = c :: r := if_neg hc
      have ev : valL (c :: r) = ((digitsVal (c :: r) : Nat) : Int) := if_neg hc
      rw [eb] at ha hne ⊢
      rw [ev, textL_nat, num_back ha hne]
      have : (decide (c :: r = [48]) && !decide (c :: r = [48])) = false := by cases decide (c :: r = [48]) <;> rfl
      rw [this, Bool.not_false, Bool.and_true]
      simp only [Bool.not_eq_true', Bool.and_eq_false_imp, decide_eq_true_eq, decide_eq_false_iff_not, not_and]
theorem num_val {z : Str} (h : digsB (bareL (TL.tl z)) = true) : PySem.intText? z = some (valL (TL.tl z)) ∧ z.length ≤ 31 := by
  obtain ⟨ha, hne, hl⟩ := digs_all h
  have hlen : z.length = (TL.tl z).length := by show z.cps.size = z.cps.toList.length; simp
  have key : ∀ l, TL.tl z = l → AllDigits (bareL l) → bareL l ≠ [] → (bareL l).length ≤ 30 → PySem.intText? z = some (valL l) ∧ l.length ≤ 31 := fun l e h1 h2 h3 => by
    cases l with
    | nil => exact absurd rfl h2
    | cons c r =>
      by_cases hc : c = 45
      · subst hc
        have eb : bareL (45 :: r) = r := by simp [bareL]
        have ev : valL (45 :: r) = -((digitsVal r : Nat) : Int) := by simp [valL]
        rw [eb] at h1 h2 h3
        rw [ev]
        refine ⟨intText_neg e h1 h2 ?_, by simp; omega⟩
        rw [hlen, e]
        simp
        omega
      · have eb : bareL (c :: r) = c :: r := if_neg hc
        have ev : valL (c :: r) = ((digitsVal (c :: r) : Nat) : Int) := if_neg hc
        rw [eb] at h1 h2 h3
        rw [ev]
        have e' : z.cps.toList = c :: r := e
        have := intText_digits (x := z) (by rw [e']; exact h1) (by rw [e']; exact h2) (by rw [hlen, e]; omega)
        rw [e'] at this
        exact ⟨this, by omega⟩
  have := key _ rfl ha hne hl
  exact ⟨this.1, by rw [hlen]; exact this.2⟩
theorem val_lt {l : List Nat} (h : digsB (bareL l) = true) : (valL l).natAbs < 10 ^ 30 := by
  obtain ⟨ha, hne, hl⟩ := digs_all h
  cases l with
  | nil => exact absurd rfl hne
  | cons c r =>
    by_cases hc : c = 45
    · subst hc
      have eb : bareL (45 :: r) = r := by simp [bareL]
      have ev : valL (45 :: r) = -((digitsVal r : Nat) : Int) := by simp [valL]
      rw [eb] at ha hl
      rw [ev, Int.natAbs_neg, Int.natAbs_natCast]
      exact Nat.lt_of_lt_of_le (digitsVal_lt ha) (Nat.pow_le_pow_right (by decide) hl)
    · have eb : bareL (c :: r) = c :: r := if_neg hc
      have ev : valL (c :: r) = ((digitsVal (c :: r) : Nat) : Int) := if_neg hc
      rw [eb] at ha hl
      rw [ev, Int.natAbs_natCast]
      exact Nat.lt_of_lt_of_le (digitsVal_lt ha) (Nat.pow_le_pow_right (by decide) hl)
theorem tl_len (z : Str) : z.length = (TL.tl z).length := by show z.cps.size = z.cps.toList.length; simp
theorem rmp_bare (z : Str) : TL.tl (Txt.removeprefix z "-") = bareL (TL.tl z) := by
  rw [PySem.StrLaws.removeprefix_eq, PySem.StrLaws.subAt_eq]
  have e1 : ("-" : Str).length = 1 := rfl
  have e2 : ("-" : Str).cps.toList = [45] := rfl
  rw [e1, e2, tl_len z]
  show TL.tl (if (decide (0 + 1 ≤ (TL.tl z).length) && (((TL.tl z).drop 0).take 1 == [45])) = true then (⟨(((TL.tl z).drop 1).take ((TL.tl z).length - 1)).toArray⟩ : Str) else z) = bareL (TL.tl z)
  cases hz : TL.tl z with
  | nil =>
    rw [if_neg (by simp)]
    rw [hz]
    rfl
  | cons c r =>
    by_cases hc : c = 45
    · subst hc
      rw [if_pos (by simp)]
      show (((45 :: r).drop 1).take ((45 :: r).length - 1)).toArray.toList = _
      simp [bareL]
    · rw [if_neg (by simp [hc]), hz]
      simp [bareL, hc]
/-- the amount that a text writes, or none: the parts of the text at its bars -/
def amtP : List (List Nat) → Option (Int × Int)
  | [p] => if numB p = true then some (valL p, 1) else none
  | [p, q] => if numB p = true ∧ numB q = true ∧ 1 < valL q ∧ Int.gcd (valL p) (valL q) = 1 then some (valL p, valL q) else none
  | _ => none
def amtIn (l : List Nat) : Option (Int × Int) := amtP (TL.spl [47] 0 [] l)
theorem numB_dig {l : List Nat} (h : numB l = true) : ∀ c ∈ l, c = 45 ∨ (48 ≤ c ∧ c ≤ 57) := by
  have hd : digsB (bareL l) = true := by unfold numB at h; exact (Bool.and_eq_true_iff.mp h).1
  obtain ⟨ha, _, _⟩ := digs_all hd
  intro c hc
  cases l with
  | nil => cases hc
  | cons d r =>
    by_cases hd45 : d = 45
    · subst hd45
      rcases List.mem_cons.mp hc with rfl | hc
      · exact .inl rfl
      · exact .inr (ha c (by simpa [bareL] using hc))
    · exact .inr (ha c (by simpa [bareL, hd45] using hc))
/-- the first bar of a text -/
theorem cut_bar : ∀ l : List Nat, (47 ∉ l) ∨ ∃ p q, l = p ++ 47 :: q ∧ 47 ∉ p
  | [] => .inl (by simp)
  | c :: r => by
    by_cases hc : c = 47
    · exact .inr ⟨[], r, by rw [hc]; rfl, by simp⟩
    · rcases cut_bar r with h | ⟨p, q, e, h⟩
      · exact .inl (by simp [h]; exact fun z => hc z.symm)
      · exact .inr ⟨c :: p, q, by rw [e]; rfl, by simp [h]; exact fun z => hc z.symm⟩
theorem spl_none {l : List Nat} (h : 47 ∉ l) : TL.spl [47] 0 [] l = [l] := by
  have := TL.spl_last1 (s := 47) (S := []) (p := l) (acc := []) h
  simpa using this
theorem spl_some {p q : List Nat} (h : 47 ∉ p) : TL.spl [47] 0 [] (p ++ 47 :: q) = p :: TL.spl [47] 0 [] q := by
  have := TL.spl_part1 (s := 47) (S := []) (p := p) (rest := q) (acc := []) h
  simpa using this
theorem par_none' {l : List Nat} (h : 47 ∉ l) : TL.par [47] [] l = none := TL.par_none1 h
theorem par_some {p q : List Nat} (h : 47 ∉ p) : TL.par [47] [] (p ++ 47 :: q) = some (p, q) := by
  have := TL.par_part1 (s := 47) (S := []) (p := p) (rest := q) (acc := []) h
  simpa using this
theorem spl_ne : ∀ (l acc : List Nat), TL.spl [47] 0 acc l ≠ []
  | [], acc => by rw [TL.spl_nil]; simp
  | c :: r, acc => by
    cases hc : TL.pre [47] (c :: r) with
    | true => rw [TL.spl_hit hc]; simp
    | false => rw [TL.spl_miss hc]; exact spl_ne r _
theorem amt_none {l : List Nat} (h : 47 ∉ l) : amtIn l = if numB l = true then some (valL l, 1) else none := by unfold amtIn; rw [spl_none h]; rfl
theorem amt_some {p q : List Nat} (h : 47 ∉ p) : amtIn (p ++ 47 :: q) = if numB p = true ∧ numB q = true ∧ 1 < valL q ∧ Int.gcd (valL p) (valL q) = 1 then some (valL p, valL q) else none := by
  unfold amtIn
  rw [spl_some h]
  rcases cut_bar q with hq | ⟨p2, q2, e, hp2⟩
  · rw [spl_none hq]
    rfl
  · have hm : 47 ∈ q := by rw [e]; simp
    have hn : ¬ numB q = true := fun z => by
      have := numB_dig z 47 hm
      omega
    rw [if_neg fun z => hn z.2.1, e, spl_some hp2]
    cases hs : TL.spl [47] 0 [] q2 with
    | nil => exact absurd hs (spl_ne _ _)
    | cons a b => rfl
/-! digits of a text, walked -/
def digC : D → Bool
  | .str z => dig (z.cps.toList.headD 0)
  | _ => false
theorem sgn_of {s : Str} {d : D} (h : d ∈ sgns s) : ∃ c ∈ TL.tl s, d = .str ⟨#[c]⟩ := by
  unfold sgns at h
  obtain ⟨c, hc, rfl⟩ := List.mem_map.mp h
  exact ⟨c, hc, rfl⟩
theorem dig_mem (c : Nat) : decide (c ∈ ("0123456789" : Str).cps.toList) = dig c := by
  rw [show ("0123456789" : Str).cps.toList = [48, 49, 50, 51, 52, 53, 54, 55, 56, 57] from rfl]
  unfold dig
  rw [Bool.eq_iff_iff]
  simp only [List.mem_cons, List.not_mem_nil, or_false, decide_eq_true_eq, Bool.and_eq_true]
  omega
theorem digs_map (s : Str) : (sgns s).map (fun d => D.bl (digC d)) = ((TL.tl s).map dig).map D.bl := by
  unfold sgns
  rw [List.map_map, List.map_map]
  rfl
theorem all_id (l : List Nat) : (l.map dig).all id = l.all dig := by rw [List.all_map]; rfl
theorem digsB_of {l : List Nat} (h1 : 1 ≤ l.length) (h2 : l.length ≤ 30) : digsB l = l.all dig := by
  unfold digsB
  rw [decide_eq_true h1, decide_eq_true h2]
  rfl
theorem digsB_no {l : List Nat} (h : ¬ (1 ≤ l.length ∧ l.length ≤ 30)) : digsB l = false := by
  unfold digsB
  by_cases h1 : 1 ≤ l.length
  · rw [decide_eq_false (show ¬ l.length ≤ 30 from fun z => h ⟨h1, z⟩), Bool.false_and, Bool.and_false]
  · rw [decide_eq_false h1, Bool.false_and]
theorem val_log {l : List Nat} (h : digsB (bareL l) = true) : (valL l).natAbs.log2 < 1920 := PySem.Flt.log2_lt_of (by decide) (Nat.lt_of_lt_of_le (val_lt h) (Nat.le_of_ble_eq_true rfl))
theorem cut_one (z : Str) : TL.tl (cutS z none (some 1)) = (TL.tl z).take 1 := by
  show (((z.cps.toList.drop 0).take (min 1 z.length - 0)).toArray).toList = z.cps.toList.take 1
  rw [List.drop_zero, Nat.sub_zero]
  have e : z.length = z.cps.toList.length := tl_len z
  rw [e]
  cases z.cps.toList with
  | nil => rfl
  | cons c r => simp [show min 1 (r.length + 1) = 1 by omega]
theorem cut_from (z : Str) : TL.tl (cutS z (some 1) none) = (TL.tl z).drop 1 := by
  show (((z.cps.toList.drop (min 1 z.length)).take (z.length - min 1 z.length)).toArray).toList = z.cps.toList.drop 1
  have e : z.length = z.cps.toList.length := tl_len z
  rw [e]
  cases z.cps.toList with
  | nil => rfl
  | cons c r => simp [show min 1 (r.length + 1) = 1 by omega]
theorem cut_in {z : Str} {a b : Option Int} {c : Nat} (h : c ∈ TL.tl (cutS z a b)) : c ∈ TL.tl z := by
  have h : c ∈ (((z.cps.toList.drop (HT.sIx z.length 0 a)).take (HT.sIx z.length z.length b - HT.sIx z.length 0 a)).toArray).toList := h
  exact List.mem_of_mem_drop (List.mem_of_mem_take (by simpa using h))
theorem minus_iff (z : Str) : cutS z none (some 1) = ("-" : Str) ↔ ∃ r, TL.tl z = 45 :: r := by
  have e2 : TL.tl ("-" : Str) = [45] := rfl
  constructor
  · intro h
    have h2 := congrArg TL.tl h
    rw [cut_one, e2] at h2
    cases hz : TL.tl z with
    | nil => rw [hz] at h2; cases h2
    | cons c r =>
      rw [hz] at h2
      have : c = 45 := by simpa using h2
      exact ⟨r, by rw [this]⟩
  · rintro ⟨r, hr⟩
    refine TL.ext_tl ?_
    rw [cut_one, hr, e2]
    rfl
theorem bare_minus {l r : List Nat} (h : l = 45 :: r) : bareL l = r := by rw [h]; simp [bareL]
theorem bare_plain {l : List Nat} (h : ¬ ∃ r, l = 45 :: r) : bareL l = l := by
  cases l with
  | nil => rfl
  | cons c r =>
    have : c ≠ 45 := fun z => h ⟨r, by rw [z]⟩
    simp [bareL, this]
theorem spl_len : ∀ (l acc : List Nat), ∀ p ∈ TL.spl [47] 0 acc l, p.length ≤ acc.length + l.length ∧ ∀ c ∈ p, c ∈ acc ∨ c ∈ l
  | [], acc, p, hp => by
    rw [TL.spl_nil] at hp
    rw [List.mem_singleton.mp hp]
    exact ⟨by simp, fun c hc => .inl hc⟩
  | c :: r, acc, p, hp => by
    cases hc : TL.pre [47] (c :: r) with
    | true =>
      rw [TL.spl_hit hc] at hp
      rcases List.mem_cons.mp hp with rfl | hp
      · exact ⟨by simp, fun c hc => .inl hc⟩
      · obtain ⟨h1, h2⟩ := spl_len r [] p hp
        exact ⟨by simp at h1 ⊢; omega, fun c hc => .inr ((h2 c hc).elim (fun z => by cases z) fun z => .tail _ z)⟩
    | false =>
      rw [TL.spl_miss hc] at hp
      obtain ⟨h1, h2⟩ := spl_len r _ p hp
      refine ⟨by simp at h1 ⊢; omega, fun d hd => ?_⟩
      rcases h2 d hd with z | z
      · rcases List.mem_append.mp z with z | z
        · exact .inl z
        · exact .inr (by rw [List.mem_singleton.mp z]; exact .head _)
      · exact .inr (.tail _ z)
theorem amtP_no {ls : List (List Nat)} {p : List Nat} (hp : p ∈ ls) (hn : numB p = false) : amtP ls = none := by
  match ls, hp with
  | [a], hp =>
    rw [List.mem_singleton.mp hp] at hn
    show (if numB a = true then _ else none) = none
    rw [hn]
    rfl
  | [a, b], hp =>
    show (if numB a = true ∧ numB b = true ∧ _ then _ else none) = none
    refine if_neg fun z => ?_
    rcases List.mem_cons.mp hp with rfl | hp
    · rw [hn] at z; cases z.1
    · rw [List.mem_singleton.mp hp] at hn
      rw [hn] at z; cases z.2.1
  | _ :: _ :: _ :: _, _ => rfl
theorem strs_shp {l : List D} (h : ∀ x ∈ l, ∃ c, c < 128 ∧ x = .str ⟨#[c]⟩) : shp (.lst l) = true := shp_lst fun x hx => by
  obtain ⟨c, hc, rfl⟩ := h x hx
  unfold toPy PyData.canLay0 PyData.depth
  refine ⟨?_, by omega⟩
  show (#[c] : Array Nat).all (· < 0x110000) = true
  simp
  omega
theorem fm_dig (s : Str) : ((sgns s).filterMap fun d => if (!digC d) = true then some d else none).isEmpty = (TL.tl s).all dig := by
  unfold sgns
  rw [List.filterMap_map]
  show (((TL.tl s).filterMap _)).isEmpty = _
  induction TL.tl s with
  | nil => rfl
  | cons c r ih =>
    have e0 : ((fun d => if (!digC d) = true then some d else none) ∘ fun c => D.str ⟨#[c]⟩) c = (if (!dig c) = true then some (D.str ⟨#[c]⟩) else none) := rfl
    cases hd : dig c with
    | true =>
      rw [hd] at e0
      rw [List.filterMap_cons_none e0, List.all_cons, hd, Bool.true_and]
      exact ih
    | false =>
      rw [hd] at e0
      rw [List.filterMap_cons_some e0, List.all_cons, hd]
      rfl
theorem rng_at {n i : Nat} {d : D} (h : (rngD 0 n)[i]? = some d) : d = .int i ∧ i < n := by
  unfold rngD at h
  rw [List.getElem?_map] at h
  cases q : (List.range n)[i]? with
  | none => rw [q] at h; cases h
  | some j =>
    rw [q] at h
    obtain ⟨h1, h2⟩ := List.getElem?_eq_some_iff.mp q
    rw [List.getElem_range] at h2
    subst h2
    cases h
    exact ⟨by simp, by simpa using h1⟩
def amtD : Option (Int × Int) → D
  | some (a, b) => .tup [.int a, .int b]
  | none => .non
theorem amtP_many {ls : List (List Nat)} (h : 2 < ls.length) : amtP ls = none := by
  match ls, h with
  | _ :: _ :: _ :: _, _ => rfl
theorem text_num {a : Int} (h : a.natAbs < 10 ^ 30) : digsB (bareL (textL a)) = true ∧ valL (textL a) = a ∧ (textL a).length ≤ 31 := by
  have key : ∀ n : Nat, n < 10 ^ 30 → digsB (TL.numL n) = true ∧ (TL.numL n).length ≤ 30 := fun n hn => by
    have h1 := TL.numL_len (k := 30) (by decide) hn
    have h2 := TL.numL_ne n
    refine ⟨?_, h1⟩
    rw [digsB_of (by cases hq : TL.numL n with | nil => exact absurd hq h2 | cons _ _ => simp) h1, List.all_eq_true]
    intro c hc
    have := TL.numL_digits n c hc
    unfold dig
    rw [decide_eq_true this.1, decide_eq_true this.2]
    rfl
  cases a with
  | ofNat n =>
    have hn : n < 10 ^ 30 := h
    obtain ⟨k1, k2⟩ := key n hn
    have e : textL (Int.ofNat n) = TL.numL n := textL_nat n
    have h45 : 45 ∉ TL.numL n := TL.numL_free (.inl (by decide))
    have eb : bareL (TL.numL n) = TL.numL n := bare_plain fun ⟨r, hr⟩ => h45 (by rw [hr]; exact .head _)
    rw [e, eb]
    refine ⟨k1, ?_, by omega⟩
    have hv := TL.numL_val n
    cases hq : TL.numL n with
    | nil => exact absurd hq (TL.numL_ne n)
    | cons c r =>
      have hc : c ≠ 45 := fun z => h45 (by rw [hq, z]; exact .head _)
      rw [hq] at hv
      show (if c = 45 then -((digitsVal r : Nat) : Int) else ((digitsVal (c :: r) : Nat) : Int)) = _
      rw [if_neg hc, hv]
      rfl
  | negSucc m =>
    have hn : m + 1 < 10 ^ 30 := h
    obtain ⟨k1, k2⟩ := key (m + 1) hn
    have e : textL (Int.negSucc m) = 45 :: TL.numL (m + 1) := textL_neg (n := m + 1) (by omega)
    rw [e, bare_minus rfl]
    refine ⟨k1, ?_, by simp; omega⟩
    show (if (45 : Nat) = 45 then -((digitsVal (TL.numL (m + 1)) : Nat) : Int) else ((digitsVal (45 :: TL.numL (m + 1)) : Nat) : Int)) = _
    rw [if_pos rfl, TL.numL_val]
    rfl
theorem text_numB {a : Int} (h : a.natAbs < 10 ^ 30) : numB (textL a) = true := by
  obtain ⟨h1, h2, _⟩ := text_num h
  unfold numB
  rw [h1, Bool.true_and]
  exact (num_iff h1).mp (by rw [h2])
theorem no_bar {l : List Nat} (h : numB l = true) : 47 ∉ l := fun hm => by
  have := numB_dig h 47 hm
  omega
theorem amt_one {a : Int} (h : a.natAbs < 10 ^ 30) : amtIn (textL a) = some (a, 1) := by
  have hn := text_numB h
  rw [amt_none (no_bar hn), if_pos hn, (text_num h).2.1]
theorem amt_two {a b : Int} (h : a.natAbs < 10 ^ 30) (hb : b.natAbs < 10 ^ 30) (h1 : 1 < b) (hg : Int.gcd a b = 1) : amtIn (textL a ++ 47 :: textL b) = some (a, b) := by
  have hn := text_numB h
  have hm := text_numB hb
  rw [amt_some (no_bar hn), (text_num h).2.1, (text_num hb).2.1, if_pos ⟨hn, hm, h1, hg⟩]
end VL

set_option Elab.async false
set_option linter.all false
set_option maxRecDepth 100000
set_option maxHeartbeats 2000000
set_option exponentiation.threshold 20000
/-! VQ: amounts as rational numbers. -/
namespace VL
open PySem L2
def qD : D → Rat
  | .tup [.int a, .int b] => Rat.divInt a b
  | _ => 0
theorem qD_rat {t b : Int} (h : b ≠ 0) : qD (ratD t b) = Rat.divInt t b := by
  obtain ⟨h1, h2, h3, _⟩ := rat_parts (t := t) h
  show Rat.divInt (ratT t b) (ratB t b) = _
  have key := Rat.divInt_mul_left (n := ratT t b) (d := ratB t b) (ratK_ne (t := t) h)
  rw [← key, ← h1, ← h2]
theorem cop_dvd {k a b : Int} (h : Int.gcd k a = 1) (hd : k ∣ a * b) : k ∣ b := by
  have h2 : k.natAbs ∣ a.natAbs * b.natAbs := by rw [← Int.natAbs_mul]; exact Int.natAbs_dvd_natAbs.mpr hd
  have h3 : Nat.Coprime k.natAbs a.natAbs := h
  exact Int.natAbs_dvd_natAbs.mp (h3.dvd_of_dvd_mul_left h2)
theorem q_inj {n m : Nat} {x y : D} (hx : AmtD n x) (hy : AmtD m y) (h : qD x = qD y) : x = y := by
  obtain ⟨a, b, rfl, A⟩ := hx
  obtain ⟨c, d, rfl, B⟩ := hy
  have hb := A.pos
  have hd := B.pos
  have h : Rat.divInt a b = Rat.divInt c d := h
  rw [Rat.divInt_eq_divInt_iff (by omega) (by omega)] at h
  have c1 := A.cop
  have c2 := B.cop
  have d1 : b ∣ d := by
    have : b ∣ a * d := ⟨c, by rw [h, Int.mul_comm]⟩
    exact cop_dvd (by rw [Int.gcd_comm]; exact c1) this
  have d2 : d ∣ b := by
    have : d ∣ c * b := ⟨a, by rw [← h, Int.mul_comm]⟩
    exact cop_dvd (by rw [Int.gcd_comm]; exact c2) this
  have e : b = d := by
    have l1 := Int.le_of_dvd hd d1
    have l2 := Int.le_of_dvd hb d2
    omega
  subst e
  have e2 : a = c := Int.eq_of_mul_eq_mul_right (by omega) h
  rw [e2]
theorem q_iff {n m : Nat} {x y : D} (hx : AmtD n x) (hy : AmtD m y) : x = y ↔ qD x = qD y := ⟨fun e => by rw [e], q_inj hx hy⟩
theorem q_plus {n m : Nat} {x y : D} (hx : AmtD n x) (hy : AmtD m y) : qD (plusD x y) = qD x + qD y := by
  obtain ⟨a, b, rfl, A⟩ := hx
  obtain ⟨c, d, rfl, B⟩ := hy
  have hb := A.pos
  have hd := B.pos
  have hz := Int.mul_pos hb hd
  show qD (ratD (a * d + c * b) (b * d)) = Rat.divInt a b + Rat.divInt c d
  rw [qD_rat (by omega), Rat.divInt_add_divInt _ _ (by omega) (by omega)]
theorem q_times {n m : Nat} {x y : D} (hx : AmtD n x) (hy : AmtD m y) : qD (timesD x y) = qD x * qD y := by
  obtain ⟨a, b, rfl, A⟩ := hx
  obtain ⟨c, d, rfl, B⟩ := hy
  have hb := A.pos
  have hd := B.pos
  have hz := Int.mul_pos hb hd
  show qD (ratD (a * c) (b * d)) = Rat.divInt a b * Rat.divInt c d
  rw [qD_rat (by omega), Rat.divInt_mul_divInt]
theorem q_neg {n : Nat} {x : D} (hx : AmtD n x) : qD (negA x) = - qD x := by
  obtain ⟨a, b, rfl, A⟩ := hx
  show Rat.divInt (0 - a) b = - Rat.divInt a b
  rw [Rat.neg_divInt, Int.zero_sub]
theorem q_minus {n m : Nat} {x y : D} (hx : AmtD n x) (hy : AmtD m y) : qD (minusD x y) = qD x - qD y := by
  unfold minusD
  rw [q_plus hx (neg_amt hy), q_neg hy, Rat.sub_eq_add_neg]
theorem minus_amt {n m : Nat} {x y : D} (hx : AmtD n x) (hy : AmtD m y) : AmtD (n + m + 1) (minusD x y) := plus_amt hx (neg_amt hy)
theorem q_zero : qD zeroD = 0 := by show Rat.divInt 0 1 = 0; simp
def oneD : D := .tup [.int 1, .int 1]
theorem one_amt : AmtD 1 oneD := ⟨1, 1, rfl, by decide, by decide, by decide, by decide⟩
theorem q_one : qD oneD = 1 := by show Rat.divInt 1 1 = 1; exact Rat.divInt_self' (by decide)
theorem q_int (a : Int) : qD (.tup [.int a, .int 1]) = (a : Rat) := by
  show Rat.divInt a 1 = _
  rw [Rat.divInt_eq_div]
  grind
/-! signs -/
theorem q_pos {n : Nat} {a b : Int} (A : Amt n a b) : 0 < qD (.tup [.int a, .int b]) ↔ 0 < a := by
  show 0 < Rat.divInt a b ↔ 0 < a
  have hb := A.pos
  have e : Rat.divInt a b * (b : Rat) = (a : Rat) := by
    rw [Rat.divInt_eq_div]
    have : (b : Rat) ≠ 0 := by
      intro z
      have := Rat.intCast_pos.mpr hb
      rw [z] at this
      exact absurd this (by decide)
    grind
  have hb' : (0 : Rat) < (b : Rat) := Rat.intCast_pos.mpr hb
  rw [← Rat.mul_pos_iff_of_pos_right hb', e, Rat.intCast_pos]
theorem q_neg_iff {n : Nat} {a b : Int} (A : Amt n a b) : qD (.tup [.int a, .int b]) < 0 ↔ a < 0 := by
  have A' : Amt n (0 - a) b := ⟨A.pos, by rw [Int.zero_sub, Int.neg_gcd]; exact A.cop, by have := A.ha; omega, A.hb⟩
  have h := q_pos A'
  have e : qD (.tup [.int (0 - a), .int b]) = - qD (.tup [.int a, .int b]) := q_neg ⟨a, b, rfl, A⟩
  rw [e] at h
  constructor
  · intro z
    have : 0 < 0 - a := h.mp (by grind)
    omega
  · intro z
    have : 0 < - qD (.tup [.int a, .int b]) := h.mpr (by omega)
    grind
theorem q_zero_iff {n : Nat} {a b : Int} (A : Amt n a b) : qD (.tup [.int a, .int b]) = 0 ↔ a = 0 := by
  have h1 := q_pos A
  have h2 := q_neg_iff A
  constructor
  · intro z
    rw [z] at h1 h2
    have : ¬ 0 < a := fun y => absurd (h1.mpr y) (by decide)
    have : ¬ a < 0 := fun y => absurd (h2.mpr y) (by decide)
    omega
  · intro z
    have n1 : ¬ 0 < qD (.tup [.int a, .int b]) := fun y => by have := h1.mp y; omega
    have n2 : ¬ qD (.tup [.int a, .int b]) < 0 := fun y => by have := h2.mp y; omega
    grind
theorem sgn_pos {n : Nat} {x : D} (h : AmtD n x) : 0 < sgnD x ↔ 0 < qD x := by
  obtain ⟨a, b, rfl, A⟩ := h
  rw [q_pos A]
  show 0 < sgnI a ↔ _
  unfold sgnI
  by_cases h1 : 0 < a
  · have h2 : ¬ a < 0 := by omega
    simp [h1, h2]
  · by_cases h2 : a < 0 <;> simp [h1, h2]
theorem sgn_neg {n : Nat} {x : D} (h : AmtD n x) : sgnD x < 0 ↔ qD x < 0 := by
  obtain ⟨a, b, rfl, A⟩ := h
  rw [q_neg_iff A]
  show sgnI a < 0 ↔ _
  unfold sgnI
  by_cases h1 : 0 < a
  · have h2 : ¬ a < 0 := by omega
    simp [h1, h2]
  · by_cases h2 : a < 0 <;> simp [h1, h2]
theorem sgn_zero {n : Nat} {x : D} (h : AmtD n x) : sgnD x = 0 ↔ qD x = 0 := by
  obtain ⟨a, b, rfl, A⟩ := h
  rw [q_zero_iff A]
  show sgnI a = 0 ↔ _
  unfold sgnI
  by_cases h1 : 0 < a
  · have h2 : ¬ a < 0 := by omega
    simp [h1, h2]
    omega
  · by_cases h2 : a < 0
    · simp [h1, h2]
      omega
    · simp [h1, h2]
      omega
/-! quotients -/
def overD : D → D → D
  | .tup [.int a, .int b], .tup [.int c, .int d] => ratD (a * d) (b * c)
  | _, _ => .non
theorem over_amt {n m : Nat} {x y : D} (hx : AmtD n x) (hy : AmtD m y) (hz : y ≠ zeroD) : AmtD (n + m) (overD x y) := by
  have hq : qD y ≠ 0 := fun z => hz (q_inj hy zero_amt (by rw [z, q_zero]))
  obtain ⟨a, b, rfl, A⟩ := hx
  obtain ⟨c, d, rfl, B⟩ := hy
  have hc : c ≠ 0 := fun z => hq ((q_zero_iff B).mpr z)
  have hb := A.pos
  exact rat_amtD (Int.mul_ne_zero (by omega) hc) (mul_lt A.ha B.hb) (mul_lt A.hb B.ha)
theorem q_over {n m : Nat} {x y : D} (hx : AmtD n x) (hy : AmtD m y) (hz : y ≠ zeroD) : qD (overD x y) = qD x / qD y := by
  have hq : qD y ≠ 0 := fun z => hz (q_inj hy zero_amt (by rw [z, q_zero]))
  obtain ⟨a, b, rfl, A⟩ := hx
  obtain ⟨c, d, rfl, B⟩ := hy
  have hc : c ≠ 0 := fun z => hq ((q_zero_iff B).mpr z)
  have hb := A.pos
  show qD (ratD (a * d) (b * c)) = Rat.divInt a b / Rat.divInt c d
  rw [qD_rat (Int.mul_ne_zero (by omega) hc), Rat.div_def, Rat.inv_divInt, Rat.divInt_mul_divInt]
theorem over_facts {n m : Nat} {a b c d : Int} (A : Amt n a b) (B : Amt m c d) (hc : c ≠ 0) (hn : n + m ≤ 9000) : CMulW a d ∧ CMulW b c ∧ b * c ≠ 0 ∧ (b * c).natAbs < 2 ^ 9000 := by
  have h0 : 0 < n := by
    rcases Nat.eq_zero_or_pos n with e | e
    · have h1 := A.hb; have h2 := A.pos; rw [e] at h1; omega
    · exact e
  have h1 : 0 < m := by
    rcases Nat.eq_zero_or_pos m with e | e
    · have h1 := B.hb; have h2 := B.pos; rw [e] at h1; omega
    · exact e
  have hb := A.pos
  exact ⟨wide_mul A.ha B.hb h0 h1 (by omega), wide_mul A.hb B.ha h0 h1 (by omega), Int.mul_ne_zero (by omega) hc, pow_up (mul_lt A.hb B.ha) (by omega)⟩
theorem q_rat_pos {t b : Int} (ht : 0 < t) (hb : 0 < b) : 0 < qD (ratD t b) := by
  rw [qD_rat (by omega), Rat.divInt_eq_div, Rat.div_def]
  exact Rat.mul_pos (Rat.intCast_pos.mpr ht) (Rat.inv_pos.mpr (Rat.intCast_pos.mpr hb))
/-! what an eqv of two amounts says -/
theorem eqv_amtD {n m : Nat} {x y : D} (hx : AmtD n x) (hy : AmtD m y) : eqv x y = decide (qD x = qD y) := by
  have hi := q_iff hx hy
  obtain ⟨a, b, rfl, A⟩ := hx
  obtain ⟨c, d, rfl, B⟩ := hy
  rw [eqv_amt]
  by_cases h : qD (.tup [.int a, .int b]) = qD (.tup [.int c, .int d])
  · have e := hi.mpr h
    simp only [D.tup.injEq, List.cons.injEq, D.int.injEq, and_true] at e
    simp [h, e.1, e.2]
  · have e : ¬ (a = c ∧ b = d) := fun z => h (by rw [z.1, z.2])
    have : (decide (a = c) && decide (b = d)) = false := by
      rw [Bool.and_eq_false_iff]
      by_cases h1 : a = c
      · exact .inr (decide_eq_false fun h2 => e ⟨h1, h2⟩)
      · exact .inl (decide_eq_false h1)
    rw [this, decide_eq_false h]
end VL

set_option Elab.async false
set_option linter.all false
set_option maxRecDepth 100000
set_option maxHeartbeats 4000000
/-! VH: lambdas as data: made, handed on in lists, called later; the maker's cells are frozen while a callee has them. -/
namespace VL
open PySem PySem.Spec PyProof.Rows L2 LamX
/-! ### heaps without some cells -/
section
variable {cs : Addr → Prop} {P : Program} {w : World} {G H H' : Hp} {h h' B : Heap} {fs : List Addr} {b : Addr}
noncomputable def cutH (cs : Addr → Prop) (H : Hp) : Hp := fun b => open Classical in if cs b then none else H b
noncomputable def putH (cs : Addr → Prop) (G H : Hp) : Hp := fun b => open Classical in if cs b then G b else H b
theorem cutH_in (h : cs b) : cutH cs H b = none := by unfold cutH; rw [if_pos h]
theorem cutH_out (h : ¬ cs b) : cutH cs H b = H b := by unfold cutH; rw [if_neg h]
theorem putH_in (h : cs b) : putH cs G H b = G b := by unfold putH; rw [if_pos h]
theorem putH_out (h : ¬ cs b) : putH cs G H b = H b := by unfold putH; rw [if_neg h]
/-- the cells of cs are frozen in H -/
def Frz (cs : Addr → Prop) (H : Hp) : Prop := ∀ b, cs b → ∃ o y, H b = some (.frz o (.own y))
theorem Frz.no (z : Frz cs H) {u : Option HO} (e : H b = u) (hu : ∀ o y, u ≠ some (.frz o (.own y))) : ¬ cs b := fun c => by
  obtain ⟨o, y, q⟩ := z b c
  exact hu o y (e.symm.trans q)
theorem hok_cut (ok : HOk P w H h) (hc : Frz cs H) : HOk P w (cutH cs H) h := fun a o e => by
  have na : ¬ cs a := fun z => by rw [cutH_in z] at e; cases e
  rw [cutH_out na] at e
  refine (ok a o e).stay (fun _ _ _ q => q) (fun b q => ?_) (fun b xs q => ?_)
  · rw [cutH_out (hc.no q fun o y z => by cases z)]; exact q
  · rw [cutH_out (hc.no q fun o y z => by cases z)]; exact q
theorem hok_put (ok : HOk P w H' h') (hn : ∀ b, cs b → H' b = none) (hg : ∀ b, cs b → ∃ o y, G b = some (.frz o (.own y)) ∧ h'.get? b = some o) : HOk P w (putH cs G H') h' := fun a o e => by
  by_cases ca : cs a
  · rw [putH_in ca] at e
    obtain ⟨o', y, q1, q2⟩ := hg a ca
    rw [q1] at e
    cases e
    exact ⟨q2, _, q2⟩
  · rw [putH_out ca] at e
    have nc : ∀ b u, H' b = some u → ¬ cs b := fun b u q c => by rw [hn b c] at q; cases q
    exact (ok a o e).stay (fun _ _ _ q => q) (fun b q => by rw [putH_out (nc _ _ q)]; exact q) (fun b xs q => by rw [putH_out (nc _ _ q)]; exact q)
theorem un_put (u : Un fs [] (cutH cs H) H' h h') (hc : Frz cs H) : Un fs [] H (putH cs H H') h h' where
  keep := fun b o q n hb hx => u.keep b o q (by rw [cutH_out (hc.no n fun _ _ z => by cases z)]; exact n) hb hx
  slot := fun b o q n hb hx => u.slot b o q (by rw [cutH_out (hc.no n fun _ _ z => by cases z)]; exact n) hb hx
  free := fun b o q n hx => by
    have nc := hc.no n fun _ _ z => by cases z
    rw [putH_out nc]
    exact u.free b o q (by rw [cutH_out nc]; exact n) hx
  there := u.there
  tups := fun b xs q => by
    have nc := hc.no q fun _ _ z => by cases z
    rw [putH_out nc]
    exact u.tups b xs (by rw [cutH_out nc]; exact q)
  frzs := fun b o v q => by
    by_cases c : cs b
    · rw [putH_in c]; exact q
    · rw [putH_out c]; exact u.frzs b o v (by rw [cutH_out c]; exact q)
  tbls := fun b ps q => by
    have nc := hc.no q fun _ _ z => by cases z
    rw [putH_out nc]
    exact u.tbls b ps (by rw [cutH_out nc]; exact q)
theorem ub_put (u : UB fs (cutH cs H) H' h B h') (hc : Frz cs H) : UB fs H (putH cs H H') h B h' where
  keep := fun b o q n hb => u.keep b o q (by rw [cutH_out (hc.no n fun _ _ z => by cases z)]; exact n) hb
  slot := u.slot
  free := fun b o q n => by
    have nc := hc.no n fun _ _ z => by cases z
    rw [putH_out nc]
    exact u.free b o q (by rw [cutH_out nc]; exact n)
  there := u.there
  tups := fun b xs q => by
    have nc := hc.no q fun _ _ z => by cases z
    rw [putH_out nc]
    exact u.tups b xs (by rw [cutH_out nc]; exact q)
  frzs := fun b o v q => by
    by_cases c : cs b
    · rw [putH_in c]; exact q
    · rw [putH_out c]; exact u.frzs b o v (by rw [cutH_out c]; exact q)
  tbls := fun b ps q => by
    have nc := hc.no q fun _ _ z => by cases z
    rw [putH_out nc]
    exact u.tbls b ps (by rw [cutH_out nc]; exact q)
theorem un_cut (u : Un fs [] (putH cs G H) H' h h') (hn : ∀ b, cs b → H b = none) (hk : ∀ b o, cs b → h.get? b = some o → h'.get? b = some o) : Un fs [] H (cutH cs H') h h' where
  keep := fun b o q n hb hx => by
    by_cases c : cs b
    · exact hk b o c q
    · exact u.keep b o q (by rw [putH_out c]; exact n) hb hx
  slot := fun b o q n hb hx => by
    by_cases c : cs b
    · exact ⟨o.slots, hk b o c q⟩
    · exact u.slot b o q (by rw [putH_out c]; exact n) hb hx
  free := fun b o q n hx => by
    by_cases c : cs b
    · exact cutH_in c
    · rw [cutH_out c]; exact u.free b o q (by rw [putH_out c]; exact n) hx
  there := u.there
  tups := fun b xs q => by
    have nc : ¬ cs b := fun c => by rw [hn b c] at q; cases q
    rw [cutH_out nc]
    exact u.tups b xs (by rw [putH_out nc]; exact q)
  frzs := fun b o v q => by
    have nc : ¬ cs b := fun c => by rw [hn b c] at q; cases q
    rw [cutH_out nc]
    exact u.frzs b o v (by rw [putH_out nc]; exact q)
  tbls := fun b ps q => by
    have nc : ¬ cs b := fun c => by rw [hn b c] at q; cases q
    rw [cutH_out nc]
    exact u.tbls b ps (by rw [putH_out nc]; exact q)
end
/-! ### the maker's cells -/
def isC (X : Cx) (b : Addr) : Prop := ∃ y, X.env.cells.lookup y = some b
structure CellsAt (X : Cx) (σ : L2.St) (h : Heap) : Prop where
  inj : ∀ x y c, X.env.cells.lookup x = some c → X.env.cells.lookup y = some c → x = y
  has : ∀ x, (X.env.kindOf x = some .cell ∨ X.env.kindOf x = some .free) → ∃ c, X.env.cells.lookup x = some c
  val : ∀ (i : Nat) (y : Str) (v : V) (c : Addr), X.N[i]? = some y → σ[i]? = some (some v) → X.env.cells.lookup y = some c → (X.env.scope.names.lookup y = some .cell ∨ X.env.scope.names.lookup y = some .free) → ∃ u, RelV v u ∧ h.IsCell c (some u)
  cel : ∀ y c, X.env.cells.lookup y = some c → ∃ v, h.IsCell c v
  len : σ.length = X.N.length
theorem CellsAt.of {X : Cx} {pins : List (Addr × Obj)} {σ : L2.St} {H : Hp} {s : Shared} (I : L2.Inv X pins σ H s) : CellsAt X σ s.heap := by
  refine ⟨I.ok.inj, I.ok.has, fun i y v c h1 h2 h3 h4 => ?_, I.cell, I.len⟩
  obtain ⟨m, hn, hl⟩ := I.loc
  obtain ⟨u, r, q⟩ := hl i y v h1 h2 (.inr h4)
  rcases q with ⟨k, _⟩ | ⟨_, c2, e, z⟩
  · have k' : X.env.scope.names.lookup y = some .local := k
    rcases h4 with k2 | k2 <;> rw [k2] at k' <;> cases k'
  · rw [h3] at e
    cases e
    exact ⟨u, r, z⟩
theorem CellsAt.move {X : Cx} {σ : L2.St} {h h' : Heap} (C : CellsAt X σ h) (k : ∀ b o, isC X b → h.get? b = some o → h'.get? b = some o) : CellsAt X σ h' := by
  refine ⟨C.inj, C.has, fun i y v c h1 h2 h3 h4 => ?_, fun y c e => ?_, C.len⟩
  · obtain ⟨u, r, o, q1, q2⟩ := C.val i y v c h1 h2 h3 h4
    exact ⟨u, r, o, k c o ⟨y, h3⟩ q1, q2⟩
  · obtain ⟨v, o, q1, q2⟩ := C.cel y c e
    exact ⟨v, o, k c o ⟨y, e⟩ q1, q2⟩
/-- a lambda's names: captured ones, globals, parameters of its own -/
structure LamSx (N : List Str) (sc scope : Scope) (bn : List Str) : Prop where
  kind : scope.kind = .function
  co : scope.isCoroutine = false
  gen : scope.isGenerator = false
  own : ∀ y ∈ scope.names, y.2 ≠ .cell ∧ (y.2 = .local → y.1 ∉ N)
  bnd : ∀ x ∈ bn, scope.names.lookup x = some .local
  free : ∀ y ∈ scope.names, y.2 = .free → sc.names.lookup y.1 = some .cell ∨ sc.names.lookup y.1 = some .free
def lamSxB (N : List Str) (sc scope : Scope) (bn : List Str) : Bool :=
  decide (scope.kind = .function) && !scope.isCoroutine && !scope.isGenerator && (scope.names.all fun y => !decide (y.2 = .cell) && (!decide (y.2 = .local) || !N.contains y.1) && (!decide (y.2 = .free) || decide (sc.names.lookup y.1 = some .cell) || decide (sc.names.lookup y.1 = some .free))) && bn.all fun x => decide (scope.names.lookup x = some .local)
theorem lamSx_by {N : List Str} {sc scope : Scope} {bn : List Str} (h : lamSxB N sc scope bn = true) : LamSx N sc scope bn := by
  unfold lamSxB at h
  simp only [Bool.and_eq_true, Bool.or_eq_true, Bool.not_eq_true', decide_eq_true_eq, decide_eq_false_iff_not, List.all_eq_true] at h
  obtain ⟨⟨⟨⟨h1, h2⟩, h3⟩, h4⟩, h5⟩ := h
  refine ⟨h1, h2, h3, fun y hy => ⟨(h4 y hy).1.1, fun e hN => ?_⟩, fun x hx => h5 x hx, fun y hy e => ?_⟩
  · rcases (h4 y hy).1.2 with z | z
    · exact z e
    · have : N.contains y.1 = true := by simp [hN]
      rw [this] at z; cases z
  · rcases (h4 y hy).2 with (z | z) | z
    · exact absurd e z
    · exact .inl z
    · exact .inr z
theorem lam_startV {X : Cx} {σ : L2.St} {H : Hp} {s1 : Shared} {h1 : Heap} {tk : Nat} {A : Around} {outer : List Env} {E : XK} {scope : Scope} {f c' : Addr} {bn : List Str} {m : Str → Option Value} (C : CellsAt X σ s1.heap) (L : LamSx X.N X.env.scope scope bn)
    (e0 : Env0 X.prog X.w X.K X.mg X.base A outer s1 H) (hn : ∀ b, isC X b → H b = none) (hd : A.handled = none) (hns : h1.Ns s1.heap.objs.size m) (kp : ∀ b o, s1.heap.get? b = some o → h1.get? b = some o) :
    L2.Inv (lamCx X A outer s1 H E scope f c') [] σ H { s1 with heap := h1, toks := tk } := by
  have hfree : ∀ y ∈ scope.names, y.2 = .free → ∃ c, X.env.cells.lookup y.1 = some c := fun y hy e => by
    rcases L.free y hy e with k | k
    · exact C.has _ (.inl k)
    · exact C.has _ (.inr k)
  have cm : ∀ {y c}, (cloFrom X.env.cells scope.names []).lookup y = some c → X.env.cells.lookup y = some c := fun {y c} e => by
    rcases cloFrom_mem (PySem.mem_of_lookup e) with hm | ⟨h1, h2⟩
    · cases hm
    · obtain ⟨c1, hc⟩ := hfree _ h1 rfl
      have hc : X.env.cells.lookup y = some c1 := hc
      have e2 : c = c1 := by rw [h2, hc] <;> rfl
      rw [e2]
      exact hc
  have look : ∀ {y}, scope.names.lookup y = some .free → ∃ c, (cloFrom X.env.cells scope.names []).lookup y = some c := fun {y} hl => by
    have hy : (y, NameKind.free) ∈ scope.names := PySem.mem_of_lookup hl
    exact mem_lookup (cloFrom_has (cells := X.env.cells) (acc := []) hy)
  have noA : ∀ b : Addr, b ∉ (lamCx X A outer s1 H E scope f c').ex := fun b z => absurd (show b ∈ ([] : List Addr) from z) (by simp)
  refine ⟨⟨e0.mod, L.kind, rfl, rfl, Nat.le_refl _, fun y z c e1 e2 => C.inj y z c (cm e1) (cm e2), fun y hy => ?_, fun y c z _ => ?_, fun _ => hd, Around.frames_deeper e0.frames, .inr ⟨rfl, rfl⟩, fun b z => absurd z (noA b), e0.bs, e0.bsz, fun b _ _ => noA b,
      fun b z => absurd z (noA b), e0.funs, e0.frf⟩,
    rfl, e0.bare, Un.kept kp, ⟨_, hns, fun i y v e1 e2 e3 => ?_⟩, fun y c e => ?_, e0.hok.fresh (Nat.le_refl _), fun y c e => hn c ⟨y, cm e⟩, fun q hq => absurd (show q ∈ ([] : List (Addr × Obj)) ++ [] from hq) (by simp), e0.hok.kept kp, C.len⟩
  · have hy : scope.names.lookup y = some .cell ∨ scope.names.lookup y = some .free := hy
    rcases hy with hy | hy
    · exact absurd rfl (L.own _ (PySem.mem_of_lookup hy)).1
    · exact look hy
  · have z : false = true := z
    cases z
  · have e3 : Vis scope y := e3
    have hyN : y ∈ X.N := List.mem_of_getElem? e1
    rcases e3 with k | k | k
    · exact absurd hyN ((L.own _ (PySem.mem_of_lookup k)).2 rfl)
    · exact absurd rfl (L.own _ (PySem.mem_of_lookup k)).1
    · obtain ⟨c2, h2⟩ := look k
      obtain ⟨u, r, o, q1, q2⟩ := C.val i y v c2 e1 e2 (cm h2) (L.free _ (PySem.mem_of_lookup k) rfl)
      exact ⟨u, r, .inr ⟨.inr k, c2, h2, o, kp _ _ q1, q2⟩⟩
  · obtain ⟨v, o, q1, q2⟩ := C.cel y c (cm e)
    exact ⟨v, o, kp _ _ q1, q2⟩
/-! ### what a lambda promises -/
abbrev lamO (q : Str) (params : Arguments) (body : Expr) (scope : Scope) (cl : List (Str × Addr)) (dV doc pm : Value) (c' : Addr) (ctv : Value) : Obj := PySem.W.kdv_obj "<lambda>" q params (.expr body) scope cl dV doc pm c' ctv
abbrev lamF (q : Str) (params : Arguments) (body : Expr) (scope : Scope) (cl : List (Str × Addr)) (dV doc pm cdv ctv : Value) : FuncData := PySem.W.kdv_fn "<lambda>" q params (.expr body) scope cl dV doc pm cdv ctv
/-- a call of the lambda f, wherever -/
structure LamV (P : Program) (w : World) (K : PySem.W.Frag) (mg : Str → Option Value) (base : Heap) (k : Nat) (W : Wd) (d : D) (wB : (D → Prop) → (D → Prop) → Prop) : Prop where
  ex : ∃ f as, d = .lam f as ∧ (∀ h : Heap, (∀ p ∈ as, p.2 h) → PySem.W.FnAt f h) ∧
    ∀ (A : Around) (outer : List Env) (s : Shared) (H : Hp) (Q : L2.VK) (E : XK) (M : Addr → Prop) (PX P' : D → Prop), Room (k + 1) A → Env0 P w K mg base A outer s H → MOk W M H → (∀ p ∈ as, H p.1 = some (.ext p.2)) → wB PX P' →
      (∀ d v H', P' d → Ext W H H' → W.I H' → Rep K M H' d v → Q v H') → (∀ cls d H', XC K W M H PX cls d H' → E cls d H') → codeAny (model P w) A (.call (.ref f) ⟨[], []⟩) (CR (L2.CX P w) outer P w H s Q E) s
/-- a lambda's object and what it is made of -/
structure LamIs (X : Cx) (params : Arguments) (body : Expr) (scope : Scope) (bn : List Str) (f : Addr) (as : List (Addr × (Heap → Prop))) : Prop where
  ex : ∃ (dV doc pm ctv : Value) (c' : Addr) (us : List Value), us.length = bn.length ∧ ∀ h : Heap, (∀ p ∈ as, p.2 h) → h.get? f = some (lamO (lamQ X) params body scope (cloFrom X.env.cells scope.names []) dV doc pm c' ctv) ∧ h.CodeRec (.ref c') (lamQ X) ∧
    ∀ s : Shared, s.heap = h → BindsTo s (lamF (lamQ X) params body scope (cloFrom X.env.cells scope.names []) dV doc pm (.ref c') ctv) ⟨[], []⟩ (bn.zip us)
/-- the lambda's body, wherever it is called -/
def LamB (X : Cx) (W : Wd) (k : Nat) (body : Expr) (scope : Scope) (wB : (D → Prop) → WE) : Prop :=
  ∀ (A : Around) (outer : List Env) (s : Shared) (H : Hp) (E : XK) (f c' : Addr) (Mf : Addr → Prop) (Hf : Hp) (PX : D → Prop), Room k (A.deeper (lamEnv X scope s.heap.objs.size f c')) → Takes (lamCx X A outer s H E scope f c') (XW X.K (W.fx Mf Hf) PX) →
    VE (lamCx X A outer s H E scope f c') (W.fx Mf Hf) body (wB PX)
/-- d is a lambda of X -/
structure LamX' (X : Cx) (W : Wd) (k : Nat) (d : D) (wB : (D → Prop) → WE) : Prop where
  ex : ∃ f as params body scope bn, d = .lam f as ∧ LamIs X params body scope bn f as ∧ LamSx X.N X.env.scope scope bn ∧ LamB X W k body scope wB
/-- the world while a callee has the lambdas of X -/
noncomputable def lamW (X : Cx) (W : Wd) (M1 : Addr → Prop) (H1 : Hp) (G : Hp) (h1 : ∀ b, W.A b → M1 b) (hn : ∀ b, isC X b → H1 b = none) (hG : Frz (isC X) G) : Wd where
  A b := W.A b ∨ isC X b
  I H := W.I (cutH (isC X) H) ∧ (∀ b, isC X b → H b = G b) ∧ ∀ b o, ¬ W.A b → H1 b = some o → H b = some o
  live := fun H a h ha => by
    rcases ha with ha | ha
    · intro z
      refine W.live _ a h.1 ha ?_
      by_cases c : isC X a
      · exact cutH_in c
      · rw [cutH_out c]; exact z
    · rw [h.2.1 a ha]
      obtain ⟨o, y, q⟩ := hG a ha
      rw [q]; intro z; cases z
  nx := fun H a φ h ha z => by
    by_cases c : isC X a
    · obtain ⟨o, y, q⟩ := hG a c
      rw [h.2.1 a c, q] at z; cases z
    · rcases ha with ha | ha
      · exact W.nx _ a φ h.1 ha (by rw [cutH_out c]; exact z)
      · exact c ha
  B b := W.B b ∨ (¬ W.A b ∧ H1 b ≠ none)
  liveB := fun H a h hB => by
    rcases hB with hB | ⟨nA, hB⟩
    · intro z
      refine W.liveB _ a h.1 hB ?_
      by_cases c : isC X a
      · exact cutH_in c
      · rw [cutH_out c]; exact z
    · cases q : H1 a with
      | none => exact absurd q hB
      | some o => rw [h.2.2 a o nA q]; intro z; cases z
  C b := ¬ M1 b ∧ H1 b ≠ none
  cb := fun a h => .inr ⟨fun z => h.1 (h1 a z), h.2⟩
  stay := fun H H' h k kx kb => by
    obtain ⟨i, g, e⟩ := h
    refine ⟨W.stay (cutH (isC X) H) (cutH (isC X) H') i (fun b hb => ?_) (fun b φ q => ?_) (fun b o hB q => ?_), fun b hb => (k b (.inr hb)).trans (g b hb), fun b o n q => kb b o (.inr ⟨n, by rw [q]; simp⟩) (e b o n q)⟩
    · by_cases c : isC X b
      · rw [cutH_in c, cutH_in c]
      · rw [cutH_out c, cutH_out c]; exact k b (.inl hb)
    · have c : ¬ isC X b := fun c => by rw [cutH_in c] at q; cases q
      rw [cutH_out c] at q ⊢
      exact kx b φ q
    · have c : ¬ isC X b := fun c => by rw [cutH_in c] at q; cases q
      rw [cutH_out c] at q ⊢
      exact kb b o (.inl hB) q
/-- the slots as a lambda sees them, later -/
theorem sat_lam {X : Cx} {W : Wd} {M1 M : Addr → Prop} {H1 G H : Hp} {h1 : ∀ b, W.A b → M1 b} {hn : ∀ b, isC X b → H1 b = none} {hG : Frz (isC X) G} {σ : L2.St} {ds : List Sl} (m : MOk (lamW X W M1 H1 G h1 hn hG) M H) (m1 : MOk W M1 H1) (hl : ds.length = σ.length)
    (hs : ∀ (i : Nat) (x : D), ds[i]? = some (.d x) → ∃ v, σ[i]? = some (some v) ∧ Rep X.K M1 H1 x v) : Sat X.K (W.fx (fun b => M b ∧ ¬ isC X b) (cutH (isC X) H)) (fun b => M b ∧ ¬ isC X b) (cutH (isC X) H) (fun _ => none) (cutH (isC X) H) σ (unown ds) := by
  obtain ⟨i, g, e⟩ := m.wi
  have nA : ∀ b, W.A b → ¬ isC X b := fun b hb c => W.live H1 b m1.wi hb (hn b c)
  refine ⟨fun a h => ⟨m.wm a (.inl h), nA a h⟩, fun a h => ?_, Ext.refl _, i, fun i a h => (by cases h), fun i j a h => (by cases h), by unfold VL.unown; rw [List.length_map]; exact hl, fun i _ => rfl, fun i s h => ?_, fun _ z => z, Ext.refl _, fun a h => W.liveB _ _ i h, fun a h hC => m1.nb a (Classical.byContradiction fun z => m.nb a h.1 ⟨z, fun y => W.liveB _ _ m1.wi (W.cb a hC) y⟩) hC, fun a φ h => ?_⟩
  · rw [cutH_out h.2]; exact m.live a h.1
  · unfold VL.unown at h
    rw [List.getElem?_map] at h
    cases q : ds[i]? with
    | none => rw [q] at h; cases h
    | some s0 =>
      rw [q] at h
      cases h
      cases s0 with
      | d x =>
        obtain ⟨v, e1, r⟩ := hs i x q
        refine ⟨rfl, v, e1, r.car fun b o n z => ?_⟩
        have nc : ¬ isC X b := fun c => by rw [hn b c] at z; cases z
        refine ⟨fun y => ?_, ?_⟩
        · have y := mx_no y
          exact m.nb b y.1 ⟨n, by rw [z]; simp⟩
        · rw [cutH_out nc]
          exact e b o (fun y => n (h1 b y)) z
      | un => rfl
      | ml l => rfl
      | md ks l => rfl
      | mi a C ks l => rfl
  · rw [cutH_out h.2]; exact m.nx a φ h.1
theorem room_hd {k : Nat} {A : Around} (r : Room k A) : A.handled = none := r.hd
/-- a lambda of X keeps its promise wherever it is called -/
theorem lamV_of {X : Cx} {W : Wd} {M1 : Addr → Prop} {H1 G : Hp} {h1 : ∀ b, W.A b → M1 b} {hn : ∀ b, isC X b → H1 b = none} {hG : Frz (isC X) G} {σ : L2.St} {ds : List Sl} {hp : Heap} {k : Nat} {d : D} {wB : (D → Prop) → WE} (L : LamX' X W k d wB)
    (C : CellsAt X σ hp) (hGh : ∀ b, isC X b → ∃ o y, G b = some (.frz o (.own y)) ∧ hp.get? b = some o) (m1 : MOk W M1 H1) (hl : ds.length = σ.length)
    (hs : ∀ (i : Nat) (x : D), ds[i]? = some (.d x) → ∃ v, σ[i]? = some (some v) ∧ Rep X.K M1 H1 x v) : LamV X.prog X.w X.K X.mg X.base k (lamW X W M1 H1 G h1 hn hG) d (fun PX P' => wB PX (unown ds) P') := by
  obtain ⟨f, as, params, body, scope, bn, rfl, is, LS, hB⟩ := L
  obtain ⟨dV, doc, pm, ctv, c', us, hlen, is⟩ := is
  refine ⟨f, as, rfl, fun h ha => ⟨_, _, _, _, (is h ha).1⟩, fun A outer s H Q E M PX P' hr e0 m has hw kk kx => ?_⟩
  have ha : ∀ p ∈ as, p.2 s.heap := fun p hp => (e0.hok p.1 _ (has p hp)).1
  obtain ⟨hf, hcd, hbind⟩ := is s.heap ha
  have iw := m.wi
  have fz : Frz (isC X) H := fun b c => by rw [iw.2.1 b c]; exact hG b c
  have cellEq : ∀ b o, isC X b → hp.get? b = some o → s.heap.get? b = some o := fun b o c q => by
    obtain ⟨o', y, q1, q2⟩ := hGh b c
    rw [q] at q2
    cases q2
    exact (e0.hok b _ ((iw.2.1 b c).trans q1)).1
  have C1 := C.move cellEq
  have e1 : Env0 X.prog X.w X.K X.mg X.base A outer s (cutH (isC X) H) := ⟨e0.frames, e0.mod, fun b o q => ⟨(e0.bs b o q).1, by
      have z := (e0.bs b o q).2
      rw [cutH_out (fz.no z fun _ _ y => by cases y)]; exact z⟩, e0.bsz, e0.funs, fun b hb => by
      have z := e0.frf b hb
      rw [cutH_out (fz.no z fun _ _ y => by cases y)]; exact z, hok_cut e0.hok fz, e0.bare⟩
  have ncf : ∀ b, isC X b → b ∉ frs outer := fun b c z => by
    obtain ⟨o, y, q⟩ := fz b c
    rw [e0.frf b z] at q; cases q
  have S := sat_lam (h1 := h1) (hn := hn) (hG := hG) m m1 hl hs
  have hkN : ∀ y ∈ bn.zip us, scope.names.lookup y.1 = some .local := fun ⟨n, v⟩ hy => LS.bnd n (List.of_mem_zip hy).1
  -- what is behind the body
  have back : ∀ {H' : Hp} {h' : Heap}, Un (frs outer) [] (cutH (isC X) H) H' s.heap h' → (∀ b, isC X b → H' b = none) ∧ ∀ b, isC X b → ∃ o y, H b = some (.frz o (.own y)) ∧ h'.get? b = some o := fun {H' h'} u => by
    refine ⟨fun b c => ?_, fun b c => ?_⟩
    · obtain ⟨o, y, q⟩ := fz b c
      exact u.free b o (e0.hok b _ q).1 (cutH_in c) (by simp)
    · obtain ⟨o, y, q⟩ := fz b c
      exact ⟨o, y, q, u.keep b o (e0.hok b _ q).1 (cutH_in c) (ncf b c) (by simp)⟩
  -- the heap with its cells, as data sees it
  have extB : ∀ {H' : Hp}, Ext W (cutH (isC X) H) H' → Ext (lamW X W M1 H1 G h1 hn hG) H (putH (isC X) H H') := fun {H'} e b o n q => by
    have nc : ¬ isC X b := fun c => n (.inr c)
    rw [putH_out nc]
    exact e b o (fun z => n (.inl z)) (by rw [cutH_out nc]; exact q)
  have wiB : ∀ {H' : Hp}, (∀ b, isC X b → H' b = none) → Ext W (cutH (isC X) H) H' → W.I H' → (lamW X W M1 H1 G h1 hn hG).I (putH (isC X) H H') := fun {H'} hz e i => by
    have ec : cutH (isC X) (putH (isC X) H H') = H' := by
      funext b
      by_cases c : isC X b
      · rw [cutH_in c, hz b c]
      · rw [cutH_out c, putH_out c]
    refine ⟨by rw [ec]; exact i, fun b c => by rw [putH_in c]; exact iw.2.1 b c, fun b o n q => ?_⟩
    have nc : ¬ isC X b := fun c => by rw [hn b c] at q; cases q
    rw [putH_out nc]
    exact e b o n (by rw [cutH_out nc]; exact iw.2.2 b o n q)
  have repB : ∀ {H' : Hp} {ds : List D} {vs : List V}, (∀ b, isC X b → H' b = none) → Reps X.K (fun b => M b ∧ ¬ isC X b) H' ds vs → Reps X.K M (putH (isC X) H H') ds vs := fun {H' ds vs} hz r => r.car fun b o n q => by
    have nc : ¬ isC X b := fun c => by rw [hz b c] at q; cases q
    exact ⟨fun y => n ⟨y, nc⟩, by rw [putH_out nc]; exact q⟩
  refine PySem.W.kla_callFunE hr.depth hf rfl LS.co LS.gen rfl hcd (hbind s rfl _ _ _ _ ?_)
  refine wpAny_newFunctionEnv (fun y hy => (LS.own y hy).1) hkN (fun h₁ hns hsb => ⟨(e0.mod.nolimit.keeps fun b o e => (e0.bs b o e).1).fresh _ hsb, ?_⟩) LS.kind
  show codeAny _ _ (.expr body (lamEnv X scope s.heap.objs.size f c')) _ _
  have kp : ∀ b o, s.heap.get? b = some o → h₁.get? b = some o := fun b o e => hsb.extBut b o (Nat.ne_of_lt (Heap.lt_size e)) (Heap.get?_push_of_some _ e)
  let E' : XK := fun cls d H' => XC X.K W (fun b => M b ∧ ¬ isC X b) (cutH (isC X) H) PX cls d H'
  have J : L2.Inv (lamCx X A outer s (cutH (isC X) H) E' scope f c') [] σ (cutH (isC X) H) { s with heap := h₁, toks := s.toks + (bn.zip us).length } :=
    lam_startV C1 LS e1 (fun b c => cutH_in c) hr.hd hns kp
  have tk : Takes (lamCx X A outer s (cutH (isC X) H) E' scope f c') (fun cls d _ H => E' cls d H) := takes_of rfl rfl rfl rfl
  have hb := (hB A outer s (cutH (isC X) H) E' f c' (fun b => M b ∧ ¬ isC X b) (cutH (isC X) H) PX (hr.deeper _) (tk.imp fun cls d σ' H' hx => hx)).run [] _ σ (cutH (isC X) H)
    (fun v H' => ∃ d, P' d ∧ Ext W (cutH (isC X) H) H' ∧ W.I H' ∧ Rep X.K (fun b => M b ∧ ¬ isC X b) H' d v) J
    ⟨_, _, fun _ => none, unown ds, P', S, hw, fun d v H' hp e i r => ⟨d, hp, e, i, r.car fun b o n z => ⟨fun y => n (.inl y), z⟩⟩⟩
  refine PySem.W.kla_codeExpr (wpAny_mono hb (fun v s' hq => ?_) fun e s' hq => ?_)
  · obtain ⟨w', H', J', rv, d, hp, e, i, r⟩ := hq
    obtain ⟨hz, hg⟩ := back J'.base
    refine ⟨w', putH (isC X) H H', J'.os, J'.bare, un_put J'.base fz, hok_put J'.hok hz hg, rv, kk d w' _ hp (extB e) (wiB hz e i) ?_⟩
    have rr := repB hz (reps_cons r reps_nil)
    obtain ⟨v', vs', e', r', _⟩ := rr.inv
    cases e'
    exact r'
  · refine wpAny_mono hq (fun _ s2 hx => ?_) (fun e2 s2 hx => ?_)
    all_goals
      obtain ⟨a, B, H', cls, d, rfl, fl, hok, ub, na, os, ag, hE⟩ := hx
      obtain ⟨CC, fs, xs, us2, dd, rfl, rfl, hpx, e, i, r, hlen2, hdd⟩ := hE
      have hz : ∀ b, isC X b → H' b = none := fun b c => by
        obtain ⟨o, y, q⟩ := fz b c
        exact ub.free b o (e0.hok b _ q).1 (cutH_in c)
      have hg : ∀ b, isC X b → ∃ o y, H b = some (.frz o (.own y)) ∧ B.get? b = some o := fun b c => by
        obtain ⟨o, y, q⟩ := fz b c
        exact ⟨o, y, q, ub.keep b o (e0.hok b _ q).1 (cutH_in c) (ncf b c)⟩
      have nca : ¬ isC X a := fun c => by
        obtain ⟨o, y, q1, q2⟩ := hg a c
        have z := fl.2.1
        rw [q2] at z; cases z
      refine ⟨a, B, putH (isC X) H H', _, _, rfl, fl, hok_put hok hz hg, ub_put ub fz, by rw [putH_out nca]; exact na, os, ag, kx _ _ _ ⟨CC, fs, xs, us2, dd, rfl, rfl, hpx, extB e, wiB hz e i, repB hz r, hlen2, ?_⟩⟩
      have ncd : ¬ isC X dd := fun c => by rw [hz dd c] at hdd; cases hdd
      rw [putH_out ncd]
      exact hdd
end VL

set_option Elab.async false
set_option linter.all false
set_option maxRecDepth 100000
set_option maxHeartbeats 4000000
/-! VK: lambdas as data: made in a world with a table; handed to a def; called in it. -/
namespace VL
open PySem PySem.Spec PyProof.Rows L2 LamX
def exq (a : Addr) (o : Obj) : Heap → Prop := fun h => h.get? a = some o
def codeP (c : Addr) (q : Str) : Heap → Prop := fun h => ∃ (oc : Obj) (vs : Array Value) (t : Tok), h.get? c = some oc ∧ oc.data = .fields vs ∧ vs[1]? = some (.str q t)
theorem exq_ok {P : Program} {w : World} {H : Hp} {h : Heap} {a : Addr} {o : Obj} (e : h.get? a = some o) : ObjOk P w H h a (.ext (exq a o)) := ⟨e, ⟨o, e⟩, fun h1 h2 e1 k => k o e1⟩
theorem codeP_eq (c : Addr) (q : Str) : CodeO c q = .ext (codeP c q) := rfl
section
variable {X : Cx} {pins : List (Addr × Obj)} {σ : L2.St} {H : Hp} {s : Shared}
/-- a lambda is made, its defaults at hand -/
theorem lam_tail {c P : Addr} {params : Arguments} {body : Expr} {scope : Scope} {pos : Pos} {dV : Value} {E : Value → Shared → Prop} {Q : Value → Shared → Prop} (I : L2.Inv X pins σ H s) (TB : TabB X.base X.mg c P) (hcode : X.env.code = .ref c)
    (hT : TabS H P (lamQ X)) (hfree : ∀ y ∈ scope.names, y.2 = .free → ∃ c, X.env.cells.lookup y.1 = some c)
    (h : ∀ (f c' : Addr) (doc pm ctv : Value) (H1 : Hp) (s' : Shared), L2.Inv X pins σ H1 s' → ExtP P H H1 → TabS H1 P (lamQ X) → H1 f = some (.ext (exq f (lamO (lamQ X) params body scope (cloFrom X.env.cells scope.names []) dV doc pm c' ctv))) → H1 c' = some (.ext (codeP c' (lamQ X))) → Q (.ref f) s') :
    wpAny (model X.prog X.w) X.A (makeTail "<lambda>" (lamQ X) params (.expr body) scope X.env dV .none none pos pos.line) Q E s := by
  obtain ⟨ps, hP, ht, ha⟩ := hT
  have bP : s.heap.BuiltinsAt X.mg P := TB.bm.keeps I.bk
  have hP' : s.heap.get? P = some { cls := .none, data := .fields ps } := I.hok P _ hP
  cases hc : codeAmong pos ps.toList with
  | none =>
    refine PySem.W.kdv_makeTail (mg := X.mg) (c := c) (P := P) (ps := ps) (closure_ok hfree) I.ok.glob (I.mod.glob.keeps I.bk) hcode (TB.code.keeps I.bk) hP' ht hc TB.gP bP fun c' ctv doc h' tk hx hge hlt hrec htb => ?_
    obtain ⟨c2, oc, vs, t, e2, hoc, hd, hv⟩ := hrec
    cases e2
    have nC : H c' = none := I.hok.fresh hge
    have nPc : P ≠ c' := ne_of_none hP nC
    have J0 := inv_table (t' := tk) (q := lamQ X) (more := #[rawInt pos.line, rawInt pos.col, .ref c']) (h' := h') I hP hx htb hge ⟨oc, vs, t, hoc, hd, hv⟩
    have nf : upd (upd H P (.tbl (ps ++ #[rawInt pos.line, rawInt pos.col, .ref c']))) c' (CodeO c' (lamQ X)) h'.objs.size = none := J0.hok.fresh (Nat.le_refl _)
    have J := J0.laid (t' := tk) (a := h'.objs.size) (o := .ext (exq h'.objs.size (lamO (lamQ X) params body scope (cloFrom X.env.cells scope.names []) dV doc ((X.mg "__name__").getD .none) c' ctv))) (h' := h'.push (lamO (lamQ X) params body scope (cloFrom X.env.cells scope.names []) dV doc ((X.mg "__name__").getD .none) c' ctv))
      (fun b o e => Heap.get?_push_of_some _ e) (Nat.le_refl _) (exq_ok (Heap.get?_push_size _ rfl))
    have F := Full.new (o := HO.ext (exq h'.objs.size (lamO (lamQ X) params body scope (cloFrom X.env.cells scope.names []) dV doc ((X.mg "__name__").getD .none) c' ctv))) nf
    refine h h'.objs.size c' doc _ ctv _ _ J (fun b o hb e => F b o (by rw [upd_ne (ne_of_none e nC), upd_ne hb]; exact e)) ((TabS.more (l := .none) (k := .none) nPc nC ht hP ha pos).ext F) upd_same (F _ _ upd_same)
  | some cv =>
    obtain ⟨c', e, hco⟩ := ha pos cv hc
    subst e
    refine PySem.W.kdv_makeTailHit (mg := X.mg) (c := c) (P := P) (ps := ps) (closure_ok hfree) I.ok.glob (I.mod.glob.keeps I.bk) hcode (TB.code.keeps I.bk) hP' ht hc bP fun ctv doc h' tk hx hsz => ?_
    have nf : H h'.objs.size = none := I.hok.fresh hsz
    have J := I.laid (t' := tk) (a := h'.objs.size) (o := .ext (exq h'.objs.size (lamO (lamQ X) params body scope (cloFrom X.env.cells scope.names []) dV doc ((X.mg "__name__").getD .none) c' ctv))) (h' := h'.push (lamO (lamQ X) params body scope (cloFrom X.env.cells scope.names []) dV doc ((X.mg "__name__").getD .none) c' ctv))
      (fun b o e => Heap.get?_push_of_some _ (hx b o e)) hsz (exq_ok (Heap.get?_push_size _ rfl))
    have F := Full.new (o := HO.ext (exq h'.objs.size (lamO (lamQ X) params body scope (cloFrom X.env.cells scope.names []) dV doc ((X.mg "__name__").getD .none) c' ctv))) nf
    exact h h'.objs.size c' doc _ ctv _ _ J (fun b o hb e => F b o e) (TabS.ext ⟨ps, hP, ht, ha⟩ F) upd_same (F _ _ hco)
/-- lambda: body -/
theorem lam_new0 {c P : Addr} {params : Arguments} {body : Expr} {scope : Scope} {pos : Pos} {E : Value → Shared → Prop} {Q : Value → Shared → Prop} (I : L2.Inv X pins σ H s) (TB : TabB X.base X.mg c P) (hcode : X.env.code = .ref c)
    (hT : TabS H P (lamQ X)) (hdef : defaultsOf params X.env = ([], [])) (hfree : ∀ y ∈ scope.names, y.2 = .free → ∃ c, X.env.cells.lookup y.1 = some c)
    (hbind : ∀ (q : Str) (cl : List (Str × Addr)) (doc pm cdv ct : Value), bindArgs (lamF q params body scope cl .none doc pm cdv ct) ⟨[], []⟩ = pure [])
    (h : ∀ (f : Addr) (as : List (Addr × (Heap → Prop))) (H1 : Hp) (s' : Shared), L2.Inv X pins σ H1 s' → ExtP P H H1 → TabS H1 P (lamQ X) → (∀ p ∈ as, H1 p.1 = some (.ext p.2)) → LamIs X params body scope [] f as → Q (.ref f) s') :
    wpAny (model X.prog X.w) X.A (eval (.Lambda params body scope pos) X.env) Q E s := by
  refine PySem.W.kla_eval hdef ?_
  rw [makeFunction_eq]
  simp only [List.zip_nil_right, List.filterMap_nil, List.isEmpty_nil, if_true, pure_bind]
  refine lam_tail I TB hcode hT hfree fun f c' doc pm ctv H1 s' J eP T1 hf hc => ?_
  refine h f [(f, exq f (lamO (lamQ X) params body scope (cloFrom X.env.cells scope.names []) .none doc pm c' ctv)), (c', codeP c' (lamQ X))] H1 s' J eP T1 (fun p hp => ?_) ⟨.none, doc, pm, ctv, c', [], rfl, fun hh ha => ?_⟩
  · simp only [List.mem_cons, List.not_mem_nil, or_false] at hp
    rcases hp with rfl | rfl
    · exact hf
    · exact hc
  · obtain ⟨oc, vs, t, e1, e2, e3⟩ := ha (c', codeP c' (lamQ X)) (by simp)
    exact ⟨ha (f, exq f _) (.head _), ⟨c', oc, vs, t, rfl, e1, e2, e3⟩, fun s2 _ => .of_eq (hbind _ _ _ _ _ _)⟩
/-- lambda x=i: body -/
theorem lam_new1 {c P : Addr} {params : Arguments} {body : Expr} {scope : Scope} {pos dpos : Pos} {i : Int} {dk} {x : Str} {E : Value → Shared → Prop} {Q : Value → Shared → Prop} (I : L2.Inv X pins σ H s) (TB : TabB X.base X.mg c P) (hcode : X.env.code = .ref c)
    (hT : TabS H P (lamQ X)) (hdf : params.defaults = [.Constant (.int i) dk dpos]) (hk0 : params.kw_defaults = []) (hfree : ∀ y ∈ scope.names, y.2 = .free → ∃ c, X.env.cells.lookup y.1 = some c)
    (hbind : ∀ (q : Str) (cl : List (Str × Addr)) (dV doc pm cdv ct : Value), ∃ kf : Option (Array Value) → Sem (List (Str × Value)), bindArgs (lamF q params body scope cl dV doc pm cdv ct) ⟨[], []⟩ = seqItems? dV >>= kf ∧ ∀ u, kf (some #[u]) = pure [(x, u)])
    (h : ∀ (f : Addr) (as : List (Addr × (Heap → Prop))) (H1 : Hp) (s' : Shared), L2.Inv X pins σ H1 s' → ExtP P H H1 → TabS H1 P (lamQ X) → (∀ p ∈ as, H1 p.1 = some (.ext p.2)) → LamIs X params body scope [x] f as → Q (.ref f) s') :
    wpAny (model X.prog X.w) X.A (eval (.Lambda params body scope pos) X.env) Q E s := by
  refine PySem.W.kdv_lam (by rw [hdf]; rfl) hk0 ?_
  rw [hdf]
  refine PySem.W.kdv_all1 (wpAny_Constant_int (PySem.W.kdv_all0 ?_))
  rw [makeFunction_eq]
  simp only [List.zip_nil_right, List.filterMap_nil, List.isEmpty_nil, List.isEmpty_cons, Bool.false_eq_true, if_false, if_true, pure_bind]
  refine wpAny_bind (wpAny_newTextTuple ?_)
  have I0 := I.tok (s.toks + 1)
  have nT : H s.heap.objs.size = none := I.hok.fresh (Nat.le_refl _)
  have I1 := I0.laid (t' := s.toks + 1) (a := s.heap.objs.size) (o := .ext (exq s.heap.objs.size (PySem.W.kdv_tup [.int i s.toks]))) (h' := s.heap.push (PySem.W.kdv_tup [.int i s.toks]))
    (fun b o e => Heap.get?_push_of_some _ e) (Nat.le_refl _) (exq_ok (Heap.get?_push_size _ rfl))
  have F := Full.new (o := HO.ext (exq s.heap.objs.size (PySem.W.kdv_tup [.int i s.toks]))) nT
  refine lam_tail I1 TB hcode (hT.ext F) hfree fun f c' doc pm ctv H1 s' J eP T1 hf hc => ?_
  have nPT : s.heap.objs.size ≠ P := fun z => by
    obtain ⟨ps, e, _⟩ := hT
    rw [← z, nT] at e; cases e
  have hTT := eP _ _ nPT (upd_same (H := H) (o := HO.ext (exq s.heap.objs.size (PySem.W.kdv_tup [.int i s.toks]))))
  refine h f [(f, exq f (lamO (lamQ X) params body scope (cloFrom X.env.cells scope.names []) (.ref s.heap.objs.size) doc pm c' ctv)), (c', codeP c' (lamQ X)), (s.heap.objs.size, exq s.heap.objs.size (PySem.W.kdv_tup [.int i s.toks]))] H1 s' J (fun b o hb e => eP b o hb (F b o e)) T1 (fun p hp => ?_) ⟨.ref s.heap.objs.size, doc, pm, ctv, c', [.int i s.toks], rfl, fun hh ha => ?_⟩
  · simp only [List.mem_cons, List.not_mem_nil, or_false] at hp
    rcases hp with rfl | rfl | rfl
    · exact hf
    · exact hc
    · exact hTT
  · obtain ⟨oc, vs, t, e1, e2, e3⟩ := ha (c', codeP c' (lamQ X)) (by simp)
    refine ⟨ha (f, exq f _) (.head _), ⟨c', oc, vs, t, rfl, e1, e2, e3⟩, fun s2 e => ?_⟩
    obtain ⟨kf, k1, k2⟩ := hbind (lamQ X) (cloFrom X.env.cells scope.names []) (.ref s.heap.objs.size) doc pm (.ref c') ctv
    have hz : hh.get? s.heap.objs.size = some (PySem.W.kdv_tup [.int i s.toks]) := ha (s.heap.objs.size, exq s.heap.objs.size (PySem.W.kdv_tup [.int i s.toks])) (.tail _ (.tail _ (.head _)))
    exact .of_defaults rfl (by rw [e]; exact hz) rfl k1 (k2 _)
end
section
variable {X : Cx} {W : Wd} {P c : Addr} {k : Nat}
/-- a new lambda -/
def wLam (X : Cx) (W : Wd) (k : Nat) (wB : (D → Prop) → WE) : WE := fun _ P => ∀ d, LamX' X W k d wB → P d
theorem lam_rep {M0 : Addr → Prop} {H0 H H1 : Hp} {oa : Nat → Option Addr} {σ : L2.St} {ds : List Sl} {K : PySem.W.Frag} {q : Str} (S : Sat K (W.tab P q) M0 H0 oa H σ ds) (eP : ExtP P H H1) (T1 : TabS H1 P q) : Ext (W.tab P q) H H1 ∧ (W.tab P q).I H1 := by
  refine ⟨fun b o n z => eP b o (fun y => n (.inr y)) z, W.stay H H1 S.wi.1 (fun b hb => ?_) (fun b φ z => eP b _ (fun y => ?_) z) (fun b o hB z => eP b o (fun y => S.wi.2.2.2 (by rw [← y]; exact hB)) z), T1, S.wi.2.2⟩
  · have hbP : b ≠ P := fun y => S.wi.2.2.1 (by rw [← y]; exact hb)
    cases q : H b with
    | none => exact absurd q (W.live H b S.wi.1 hb)
    | some o => exact eP b o hbP q
  · obtain ⟨ps, z2, _⟩ := S.wi.2.1
    rw [y, z2] at z
    cases z
theorem ve_lam0 {params : Arguments} {body : Expr} {scope : Scope} {lpos : Pos} {wB : (D → Prop) → WE} (TB : TabB X.base X.mg c P) (hcode : X.env.code = .ref c) (L : LamSx X.N X.env.scope scope []) (hdef : defaultsOf params X.env = ([], []))
    (hbind : ∀ (q : Str) (cl : List (Str × Addr)) (doc pm cdv ct : Value), bindArgs (lamF q params body scope cl .none doc pm cdv ct) ⟨[], []⟩ = pure []) (hB : LamB X (W.tab P (lamQ X)) k body scope wB) :
    VE X (W.tab P (lamQ X)) (.Lambda params body scope lpos) (wLam X (W.tab P (lamQ X)) k wB) := by
  refine ⟨fun pins s σ H Q I h => ?_⟩
  obtain ⟨M0, H0, oa, ds, Pd, S, hw, kk⟩ := h
  refine lam_new0 I TB hcode S.wi.2.1 hdef (fun y hy e => by
    rcases L.free y hy e with k | k
    · exact I.ok.has _ (.inl k)
    · exact I.ok.has _ (.inr k)) hbind fun f as H1 s' J eP T1 hx is => ?_
  obtain ⟨e1, i1⟩ := lam_rep S eP T1
  exact ⟨.ref f, H1, J, rfl, kk _ _ _ (hw _ ⟨f, as, params, body, scope, [], rfl, is, L, hB⟩) e1 i1 (rep_lam fun p hp => ⟨fun z => (S.step e1 i1).mok.nx _ _ z (hx p hp), hx p hp⟩)⟩
theorem ve_lam1 {params : Arguments} {body : Expr} {scope : Scope} {lpos dpos : Pos} {i : Int} {dk} {x : Str} {wB : (D → Prop) → WE} (TB : TabB X.base X.mg c P) (hcode : X.env.code = .ref c) (L : LamSx X.N X.env.scope scope [x]) (hdf : params.defaults = [.Constant (.int i) dk dpos]) (hk0 : params.kw_defaults = [])
    (hbind : ∀ (q : Str) (cl : List (Str × Addr)) (dV doc pm cdv ct : Value), ∃ kf : Option (Array Value) → Sem (List (Str × Value)), bindArgs (lamF q params body scope cl dV doc pm cdv ct) ⟨[], []⟩ = seqItems? dV >>= kf ∧ ∀ u, kf (some #[u]) = pure [(x, u)]) (hB : LamB X (W.tab P (lamQ X)) k body scope wB) :
    VE X (W.tab P (lamQ X)) (.Lambda params body scope lpos) (wLam X (W.tab P (lamQ X)) k wB) := by
  refine ⟨fun pins s σ H Q I h => ?_⟩
  obtain ⟨M0, H0, oa, ds, Pd, S, hw, kk⟩ := h
  refine lam_new1 I TB hcode S.wi.2.1 hdf hk0 (fun y hy e => by
    rcases L.free y hy e with k | k
    · exact I.ok.has _ (.inl k)
    · exact I.ok.has _ (.inr k)) hbind fun f as H1 s' J eP T1 hx is => ?_
  obtain ⟨e1, i1⟩ := lam_rep S eP T1
  exact ⟨.ref f, H1, J, rfl, kk _ _ _ (hw _ ⟨f, as, params, body, scope, [x], rfl, is, L, hB⟩) e1 i1 (rep_lam fun p hp => ⟨fun z => (S.step e1 i1).mok.nx _ _ z (hx p hp), hx p hp⟩)⟩
/-- x(.., lambdas, ..): the maker's cells are frozen while x runs -/
def wCallL (X : Cx) (W : Wd) (kl : Nat) (g : Wd → List D → (D → Prop) → Prop) (l : WL) : WE := fun ds P => l ds fun xs => ∀ WL : Wd, (∀ d wB, LamX' X W kl d wB → LamV X.prog X.w X.K X.mg X.base kl WL d (fun PX P' => wB PX (unown ds) P')) → g WL xs P
theorem frs_mem {l : List Env} {b : Addr} {h base : Heap} (F : h.FunFrames base l) (hb : b ∈ frs l) : b < h.objs.size := by
  obtain ⟨_, o, e, _⟩ := F.mem hb
  exact Heap.lt_size e
theorem ve_callL {kf kl : Nat} {f : Addr} {fd : FuncData} {ps : List Str} {g : Wd → List D → (D → Prop) → Prop} {x : Str} {p pos : Pos} {e : Expr} {es : List Expr} {l : WL} (F : ∀ WL : Wd, FnOk X.prog X.w X.K X.mg X.base CX0 kf f fd ps (spD X.K WL (g WL))) (hr : Room kf X.A) (hg : Gl X x) (hm : X.mg x = some (.ref f)) (hk : PySem.W.keepIn X.K (.ref f) = true)
    (hb : Binds X.K fd ps []) (hfn : ∀ x, X.fn x = true) (hex : X.ex = []) (hst : X.stack = X.env :: X.outer) (hfr : X.env.frame = some X.env.locals)
    (ha : VA X W (e :: es) l) (hdb : (x == ("__debug__" : Str)) = false := by decide) (he : starEach (e :: es) X.env = (false, eval e X.env) :: starEach es X.env := by rfl) (hpl : (backTo pos (starEach es X.env)).any (·.1) = false := by rfl) :
    VE X W (.Call (.Name x p) (e :: es) [] pos) (wCallL X W kl g l) := by
  refine ⟨fun pins s σ H Q I h => ?_⟩
  obtain ⟨M0, H0, oa, ds, Pd, S, hw, kk⟩ := h
  refine wpAny_Call_Name_kw (ld_glob I hg hm ?_ hdb)
  refine PySem.W.callWith_K (h₀ := X.base) I.ok.mod.kin hk (thn (ha.run pos pins s σ H (fun vs H1 => ∃ xs, (∀ WL : Wd, (∀ d wB, LamX' X W kl d wB → LamV X.prog X.w X.K X.mg X.base kl WL d (fun PX P' => wB PX (unown ds) P')) → g WL xs Pd) ∧ Ext W H H1 ∧ W.I H1 ∧ Reps X.K (Mx M0 oa) H1 xs vs) I
    ⟨M0, H0, oa, ds, _, S, hw, fun xs vs H1 hx e1 i1 r1 => ⟨xs, hx, e1, i1, r1⟩⟩) fun us s1 ⟨vs, H1, I1, r, xs, hx, e1, i1, r1⟩ => ⟨I1.kIn, ?_⟩) he hpl
  have S1 := S.step e1 i1
  have m1 := S1.mok
  have hn : ∀ b, isC X b → H1 b = none := fun b ⟨y, hy⟩ => I1.freeC y b hy
  -- the cells, frozen
  have hcell : ∀ b, isC X b → ∃ o, s1.heap.get? b = some o := fun b ⟨y, hy⟩ => by
    obtain ⟨v, o, q, _⟩ := I1.cell y b hy
    exact ⟨o, q⟩
  let G : Hp := fun b => (s1.heap.get? b).map fun o => .frz o (.own 0)
  have hGh : ∀ b, isC X b → ∃ o y, G b = some (.frz o (.own y)) ∧ s1.heap.get? b = some o := fun b c => by
    obtain ⟨o, q⟩ := hcell b c
    exact ⟨o, 0, by show (s1.heap.get? b).map _ = _; rw [q]; rfl, q⟩
  have hG : Frz (isC X) G := fun b c => by
    obtain ⟨o, y, q, _⟩ := hGh b c
    exact ⟨o, y, q⟩
  have above : ∀ b, isC X b → X.s_0.heap.objs.size ≤ b := fun b ⟨y, hy⟩ => I1.ok.cab y b (hfn y) hy
  have nfr : ∀ b, isC X b → b ∉ frs X.stack := fun b c z => by
    rw [hst] at z
    have z : b ∈ (X.env :: X.outer).filterMap (·.frame) := z
    rw [List.filterMap_cons, hfr] at z
    rcases List.mem_cons.mp z with z | z
    · obtain ⟨y, hy⟩ := c
      exact I1.cne y b hy z
    · have := frs_mem I1.ok.funs z
      exact absurd (Nat.lt_of_lt_of_le this (above b c)) (Nat.lt_irrefl _)
  have e0 := I1.env0
  let WL := lamW X W (Mx M0 oa) H1 G (fun b hb => m1.wm b hb) hn hG
  let HL := putH (isC X) G H1
  have eL : Env0 X.prog X.w X.K X.mg X.base X.A X.stack s1 HL := ⟨e0.frames, e0.mod, fun b o q => ⟨(e0.bs b o q).1, by
      have nc : ¬ isC X b := fun c => absurd (Nat.lt_of_lt_of_le (Heap.lt_size q) (Nat.le_trans I1.ok.bsz (above b c))) (Nat.lt_irrefl _)
      show putH (isC X) G H1 b = none
      rw [putH_out nc]; exact (e0.bs b o q).2⟩, e0.bsz, e0.funs, fun b hb => by
      have nc : ¬ isC X b := fun c => nfr b c hb
      show putH (isC X) G H1 b = none
      rw [putH_out nc]; exact e0.frf b hb, hok_put e0.hok hn hGh, e0.bare⟩
  have cutL : cutH (isC X) HL = H1 := by
    funext b
    by_cases c : isC X b
    · rw [cutH_in c, hn b c]
    · rw [cutH_out c]; exact putH_out c
  have iL : WL.I HL := ⟨by rw [cutL]; exact i1, fun b c => putH_in c, fun b o n q => by
    have nc : ¬ isC X b := fun c => by rw [hn b c] at q; cases q
    exact (putH_out nc).trans q⟩
  have nAc : ∀ b, isC X b → ¬ Mx M0 oa b := fun b c z => m1.live b z (hn b c)
  have mL : MOk WL (fun b => Mx M0 oa b ∨ isC X b) HL := by
    refine ⟨fun a h => h.elim (fun h => .inl (m1.wm a h)) .inr, fun a h => ?_, iL, fun a h hC => ?_, fun a φ h => ?_⟩
    · by_cases c : isC X a
      · obtain ⟨o, y, q⟩ := hG a c
        show putH (isC X) G H1 a ≠ none
        rw [putH_in c, q]; simp
      · show putH (isC X) G H1 a ≠ none
        rw [putH_out c]
        exact m1.live a (h.resolve_right c)
    · rcases h with h | h
      · exact hC.1 h
      · exact hC.2 (hn a h)
    · by_cases c : isC X a
      · obtain ⟨o, y, q⟩ := hG a c
        show putH (isC X) G H1 a ≠ _
        rw [putH_in c, q]; intro z; cases z
      · show putH (isC X) G H1 a ≠ _
        rw [putH_out c]
        exact m1.nx a φ (h.resolve_right c)
  have rL : Reps X.K (fun b => Mx M0 oa b ∨ isC X b) HL xs vs := r1.car fun b o n q => by
    have nc : ¬ isC X b := fun c => by rw [hn b c] at q; cases q
    exact ⟨fun z => z.elim n nc, (putH_out nc).trans q⟩
  have hl : ds.length = σ.length := S1.len
  have hs : ∀ (i : Nat) (x : D), ds[i]? = some (.d x) → ∃ v, σ[i]? = some (some v) ∧ Rep X.K (Mx M0 oa) H1 x v := fun i x h => S1.get h
  have hgx := hx WL fun d wB L => lamV_of L (CellsAt.of I1) hGh m1 hl hs
  have r2 : Vals (vs ++ []) (us ++ []) := r.append .nil
  rw [List.append_nil, List.append_nil] at r2
  have sp : spD X.K WL (g WL) vs HL (fun v H' => Q v (cutH (isC X) H') ∧ Frz (isC X) H' ∧ ∀ b, isC X b → H' b = HL b) (fun _ _ _ => True) := ⟨_, xs, Pd, mL, rL, hgx, fun d v H' hp e i rv => by
    have kc : ∀ b, isC X b → H' b = HL b := fun b c => (i.2.1 b c).trans (putH_in c).symm
    refine ⟨kk d v _ hp (e1.trans fun b o n q => ?_) i.1 (rv.car fun b o n q => ?_), fun b c => ?_, kc⟩
    · have nc : ¬ isC X b := fun c => by rw [hn b c] at q; cases q
      rw [cutH_out nc]
      exact e b o (fun z => z.elim n nc) ((putH_out nc).trans q)
    · have nc : ¬ isC X b := fun c => n (.inr c)
      exact ⟨fun z => n (.inl z), by rw [cutH_out nc]; exact q⟩
    · obtain ⟨o, y, q⟩ := hG b c
      exact ⟨o, y, by rw [kc b c]; exact (putH_in c).trans q⟩⟩
  have hlen : (us ++ []).length = ps.length := by
    rw [List.append_nil, ← r2.length]
    exact (F WL).len _ _ _ _ sp
  have bt := hb s1 us I1.kIn hlen
  rw [List.append_nil] at bt
  refine wpAny_call (codeAny_mono ((F WL).run X.A X.stack s1 HL ⟨us, []⟩ us vs _ (fun _ _ _ => True) hr eL bt r2 sp) fun r s2 hq => ?_)
  cases r with
  | error e => exact (show False from hq).elim
  | ok fl =>
    cases fl with
    | ret u =>
      obtain ⟨v, H', os, bare, un, hok, rv, q, fz, kc⟩ := hq
      refine I1.after ⟨v, cutH (isC X) H', os, bare, un_cut un hn (fun b o c hh => ?_), hok_cut hok fz, rv, q⟩
      obtain ⟨o', y, q1, q2⟩ := hGh b c
      rw [hh] at q2
      cases q2
      exact (hok b _ (((kc b c).trans (putH_in c)).trans q1)).1
    | next => exact False.elim hq
    | brk => exact False.elim hq
    | cont => exact False.elim hq
end
/-! ### a lambda called, and tried -/
def tlV (K : PySem.W.Frag) (W : Wd) (as : List (Addr × (Heap → Prop))) (wB : (D → Prop) → (D → Prop) → Prop) : XK → Hp → L2.VK → Prop := fun E H Q => ∃ M PX P', MOk W M H ∧ (∀ p ∈ as, H p.1 = some (.ext p.2)) ∧ wB PX P' ∧
  (∀ d v H', P' d → Ext W H H' → W.I H' → Rep K M H' d v → Q v H') ∧ ∀ cls d H', XC K W M H PX cls d H' → E cls d H'
theorem pe_actV {Z : Cx} {W : Wd} {k i : Nat} {a : Str} {f : Addr} {as : List (Addr × (Heap → Prop))} {wB : (D → Prop) → (D → Prop) → Prop} {E : XK} {Wx : WX} {p1 p2 : Pos} (L : LamV Z.prog Z.w Z.K Z.mg Z.base k W (.lam f as) wB) (tk : Takes Z Wx) (hW : ∀ cls d σ' H', E cls d H' → Wx cls d σ' H') (hr : Room (k + 1) Z.A)
    (hN : Z.N[i]? = some a) (hv : Vis Z.env.scope a) (hd : (a == ("__debug__" : Str)) = false := by decide) (hcd : (a == ("__classdict__" : Str)) = false := by decide) :
    PE Z (.Call (.Name a p1) [] [] p2) (fun σ H Q => σ[i]? = some (some (.ref f)) ∧ tlV Z.K W as wB E H Q) := by
  obtain ⟨f', as', e, hfn, run⟩ := L
  cases e
  refine ⟨fun pins s σ H Q I h => ?_⟩
  obtain ⟨hs, M, PX, P', m, ha, hw, kk, kx⟩ := h
  refine wpAny_Call_Name_kw (thn ((pe_var (pos := p1) (i := i) hN hv hd hcd).run pins s σ H (fun v H1 => v = .ref f ∧ H1 = H) I ⟨.ref f, hs, rfl, rfl⟩) fun u s1 ⟨v, H1, I1, r1, q1⟩ => ?_)
  obtain ⟨ev, eH⟩ := q1
  subst ev
  rw [eH] at I1
  obtain rfl : u = Value.ref f := r1
  refine PySem.W.callWith_F0 (hfn s1.heap fun p hp => (I1.hok p.1 _ (ha p hp)).1) ?_
  refine wpAny_call (codeAny_mono (run Z.A Z.stack s1 H Q E M PX P' hr I1.env0 m ha hw kk kx) fun r s' hq => ?_)
  cases r with
  | error e => exact passes_call tk hW pins σ H s1 e s' I1 hq
  | ok fl =>
    cases fl with
    | ret u => exact I1.after hq
    | next => exact False.elim hq
    | brk => exact False.elim hq
    | cont => exact False.elim hq
theorem try_V {K : PySem.W.Frag} {cs : List Value} {W : Wd} {M : Addr → Prop} {H : Hp} {Q : L2.VK} {Pd : D → Prop} {as : List (Addr × (Heap → Prop))} {wB : (D → Prop) → (D → Prop) → Prop} (m : MOk W M H) (ha : ∀ p ∈ as, H p.1 = some (.ext p.2)) (hw : wB (errD K cs Pd) fun d => Pd (.tup [.str "", d]))
    (kk : ∀ d v H', Pd d → Ext W H H' → W.I H' → Rep K M H' d v → Q v H') : TTry K cs (tlV K W as wB) H Q := by
  intro p0 hp0 E' R hE hR
  have f0 : Full H (upd H p0 (.tup [.str "", .non])) := Full.new hp0
  have m0 := m.full f0
  refine ⟨M, errD K cs Pd, _, m0, fun p hp => f0 _ _ (ha p hp), hw, fun d v H' hp e i r => hR v H' fun p hp1 => ?_, fun cls d H' hx => hE cls d H' ?_⟩
  · have m2 := m0.ext e i
    have f1 : Full H' (upd H' p (.tup [.str "", v])) := Full.new hp1
    refine kk _ _ _ hp (f0.ext.trans (e.trans f1.ext)) (W.keep _ _ i f1) ?_
    exact m2.newT hp1 (reps_cons rep_str (reps_cons r reps_nil))
  · obtain ⟨C, fs, xs, us, dd, rfl, rfl, hpx, e, i, r, hlen, hdd⟩ := hx
    obtain ⟨hC, hex, z, ks, ys, hcode', hmem, hks, hP⟩ := hpx
    have m2 := m0.ext e i
    obtain ⟨vc, hvc, rvc⟩ := (lkp_fs (f := "code") r hlen).1 _ hcode'
    have evc : vc = .str z := by unfold Rep at rvc; exact rvc
    subst evc
    have key : ∀ (ks : List Str) (ys : List D), ks.map (fun k => lkp fs xs k) = ys.map some → ∃ vs : List V, ks.map (fun k => (fs.zip us).lookup k) = vs.map some ∧ Reps K M H' ys vs := by
      intro ks
      induction ks with
      | nil =>
        intro ys h
        cases ys with
        | nil => exact ⟨[], rfl, reps_nil⟩
        | cons _ _ => cases h
      | cons k ks ih =>
        intro ys h
        cases ys with
        | nil => cases h
        | cons y ys =>
          obtain ⟨h1, h2⟩ := List.cons.inj h
          obtain ⟨vs, e1, r1⟩ := ih ys h2
          obtain ⟨v, e2, r2⟩ := (lkp_fs (f := k) r hlen).1 _ h1
          exact ⟨v :: vs, by rw [List.map_cons, List.map_cons, e1, e2], reps_cons r2 r1⟩
    obtain ⟨vs, hvs, rvs⟩ := key ks ys hks
    refine ⟨C, dd, fs.zip us, z, ks, vs, M, rfl, rfl, hC, hex, hdd, hvc, hmem, hvs, fun b hb => ⟨m2.live b hb, fun φ => m2.nx b φ hb⟩, fun H2 v2 fH r2 p hp1 => ?_⟩
    have i2 := W.keep _ _ i fH
    have m3 := m2.full fH
    have f1 : Full H2 (upd H2 p (.tup [.str z, v2])) := Full.new hp1
    refine kk _ _ _ hP (f0.ext.trans (e.trans (fH.ext.trans f1.ext))) (W.keep _ _ i2 f1) ?_
    exact m3.newT hp1 (reps_cons rep_str (reps_cons (tup_join (rvs.car fun b o n z => ⟨n, fH b o z⟩) r2) reps_nil))
theorem LamV.pl {P : Program} {w : World} {K : PySem.W.Frag} {mg : Str → Option Value} {base : Heap} {k : Nat} {W : Wd} {d : D} {wB : (D → Prop) → (D → Prop) → Prop} (L : LamV P w K mg base k W d wB) : LamV P w K mg base k W.pl d wB := by
  obtain ⟨f, as, e, h1, h2⟩ := L
  exact ⟨f, as, e, h1, fun A outer s H Q E M PX P' hr e0 m has hw kk kx => h2 A outer s H Q E M PX P' hr e0 ⟨m.wm, m.live, m.wi, m.nb, m.nx⟩ has hw kk kx⟩
end VL

set_option Elab.async false
set_option linter.all false
set_option maxRecDepth 100000
set_option maxHeartbeats 4000000
/-! VR: a, *b = e; enumerate; steps in slices; startswith; x += text; isinstance of a pair of types; written dicts. -/
namespace VL
open PySem PySem.Spec PyProof.Rows L2
section
variable {prog : Program} {w : World} {A : Around} {E : Value → Shared → Prop} {s : Shared}
theorem but_all {x : Addr} {h h' : Heap} {ob : Obj} (hx : x = h.objs.size) (e : Heap.SameBut x (h.push ob) h') {h2 : Heap} (k : ∀ b o, b ≠ x → h'.get? b = some o → h2.get? b = some o) : ∀ b o, h.get? b = some o → h2.get? b = some o := fun b o q => by
  have nb : b ≠ x := by rw [hx]; exact Nat.ne_of_lt (Heap.lt_size q)
  exact k b o nb (e.extBut b o nb (Heap.get?_push_of_some _ q))
theorem star_items (k : Kz) {l : Addr} {items : Array Value} {n i : Nat} {Q : List Value → Shared → Prop} (hl : IsK k s.heap l items) (hh : A.handled = none) (hi : i < n) (hn : n ≤ items.size + 1) (hz : items.size ≤ 1000000)
    (h : ∀ (h2 h' : Heap) (tk : Nat), (∀ b o, s.heap.get? b = some o → h2.get? b = some o) → (∀ b o, h2.get? b = some o → h'.get? b = some o) → h'.get? h2.objs.size = some { cls := .type "list", data := .seq ((items.toList.drop i).take (items.size + 1 - n)).toArray } → Q (items.toList.take i ++ [.ref h2.objs.size] ++ (items.toList.drop i).drop (items.size + 1 - n)) { s with heap := h', toks := tk }) :
    wpAny (model prog w) A (unpackItems (.ref l) n (some i)) Q E s := by
  have len1 : (items.toList.take i).length = i := by rw [List.length_take, Array.length_toList]; omega
  have len2 : (items.toList.drop i).length = (items.size + 1 - n) + (n - 1 - i) := by rw [List.length_drop, Array.length_toList]; omega
  have e1 : ¬ (items.toList.take i).length < i := by omega
  have e2 : ¬ (items.toList.drop i).length < n - 1 - i := by omega
  have e3 : (items.toList.drop i).length - (n - 1 - i) = items.size + 1 - n := by omega
  have fin : ∀ {h1 h2 : Heap} {ob : Obj} {tk : Nat}, Heap.SameBut s.heap.objs.size (s.heap.push ob) h1 → (∀ b o, b ≠ s.heap.objs.size → h1.get? b = some o → h2.get? b = some o) →
      wpAny (model prog w) A (newList ((items.toList.drop i).take (items.size + 1 - n)) >>= fun d => pure (items.toList.take i ++ [d] ++ (items.toList.drop i).drop (items.size + 1 - n))) Q E { s with heap := h2, toks := tk } := by
    intro h1 h2 ob tk g1 g2
    refine wpAny_bind (wpAny_newList ?_ (by rw [List.length_take, sizeLine_eq]; omega))
    exact wpAny_pure (h _ _ _ (but_all rfl g1 g2) (fun b o z => Heap.get?_push_of_some _ z) (Heap.get?_push_size _ rfl))
  cases k with
  | l =>
    have hl : s.heap.IsList l items := hl
    obtain ⟨ol, hol, hcl⟩ := id hl
    have ne := Nat.ne_of_lt (Heap.lt_size hol)
    unfold unpackItems notIterableAtAll
    refine wpAny_bind (wpAny_bind (wpAny_specialOf hl.typeIs slot_list_iter.lookup (wpAny_pure ?_)))
    simp only [Bool.false_eq_true, if_false]
    refine wpAny_bind (wpAny_holding (wpAny_pyIter_list hl ?_))
    refine wpAny_bind (wpAny_holding (PySem.W.kun_draw ne i 0 _ _ ⟨_, Heap.get?_push_size _ rfl, rfl, rfl⟩ (hl.push _) (by omega) fun h1 st g1 => ?_))
    have p1 : h1.IsList l items := (hl.push _).extBut g1.extBut ne
    rw [List.drop_zero, if_neg e1]
    rw [Nat.zero_add] at st
    obtain ⟨oi, hoi, _⟩ := id st
    obtain ⟨o2, ho2, _⟩ := id p1
    refine wpAny_bind (wpAny_holding (PySem.W.kun_collect (s := { s with heap := h1 }) (T := "list_iterator") (.inr (.inr (.inl rfl))) (Walks.list (A := A.in1) hh s.heap.objs.size l ne items) (fun j u z => z.1.typeIs) (show i ≤ items.size by omega) ⟨st, p1⟩ (Heap.lt_size hoi) (Heap.lt_size ho2) (fun h2 tk g2 => ?_) (by rw [sizeLine_eq]; omega)))
    dsimp only
    rw [if_neg e2, e3]
    exact fin g1 g2
  | t =>
    have hl : IsTup s.heap l items := hl
    obtain ⟨ol, hol, hcl⟩ := id hl
    have ne := Nat.ne_of_lt (Heap.lt_size hol)
    unfold unpackItems notIterableAtAll
    refine wpAny_bind (wpAny_bind (wpAny_specialOf hl.typeIs slot_tuple_iter.lookup (wpAny_pure ?_)))
    simp only [Bool.false_eq_true, if_false]
    refine wpAny_bind (wpAny_holding (iter_tuple hl ?_))
    refine wpAny_bind (wpAny_holding (draw_tuple ne i 0 _ _ ⟨_, Heap.get?_push_size _ rfl, rfl, rfl⟩ (hl.push _) (by omega) fun h1 st g1 => ?_))
    have p1 : IsTup h1 l items := (hl.push _).extBut g1.extBut ne
    rw [List.drop_zero, if_neg e1]
    rw [Nat.zero_add] at st
    obtain ⟨oi, hoi, _⟩ := id st
    obtain ⟨o2, ho2, _⟩ := id p1
    refine wpAny_bind (wpAny_holding (PySem.W.kun_collect (s := { s with heap := h1 }) (T := "tuple_iterator") (.inr (.inr (.inr rfl))) (Walks.tuple (A := A.in1) hh s.heap.objs.size l ne items) (fun j u z => z.1.typeIs) (show i ≤ items.size by omega) ⟨st, p1⟩ (Heap.lt_size hoi) (Heap.lt_size ho2) (fun h2 tk g2 => ?_) (by rw [sizeLine_eq]; omega)))
    dsimp only
    rw [if_neg e2, e3]
    exact fin g1 g2
end
/-- a, *b, c = a list or a tuple -/
def gStar (K : PySem.W.Frag) (n i : Nat) (t : TGs) : TG := fun v σ H Q => ∃ k a xs, v = .ref a ∧ SqK k K H a xs ∧ n ≤ xs.length + 1 ∧ xs.length ≤ 1000000 ∧ ∀ D, H D = none → t (xs.take i ++ [.ref D] ++ (xs.drop i).drop (xs.length + 1 - n)) σ (upd H D (.lst ((xs.drop i).take (xs.length + 1 - n)))) Q
theorem vals_take {xs : List V} {us : List Value} (r : Vals xs us) : ∀ n, Vals (xs.take n) (us.take n) := by
  induction r with
  | nil => intro n; rw [List.take_nil, List.take_nil]; exact .nil
  | cons h _ ih =>
    intro n
    cases n with
    | zero => exact .nil
    | succ n => exact .cons h (ih n)
theorem vals_drop {xs : List V} {us : List Value} (r : Vals xs us) : ∀ n, Vals (xs.drop n) (us.drop n) := by
  induction r with
  | nil => intro n; rw [List.drop_nil, List.drop_nil]; exact .nil
  | cons h t ih =>
    intro n
    cases n with
    | zero => exact .cons h t
    | succ n => exact ih n
theorem pg_star {X : Cx} {es : List Expr} {k n i : Nat} {t : TGs} {pos : Pos} (hc : X.calm = true) (h : PGs X es t) (hn : (assignEach es X.env).length = n := by rfl) (hst : (assignEach es X.env).findIdx? (·.1) = some i := by rfl) (hi : i < n := by decide) : PG X (.Tuple es k pos) (gStar X.K n i t) := by
  refine ⟨fun pins s σ H v u Q I r hw => ?_⟩
  obtain ⟨k, a, xs, rfl, hq, h1, h2, hw⟩ := hw
  cases r
  obtain ⟨its, rv, p, _⟩ := seqK I hq
  have hl : xs.length = its.length := rv.length
  have ez : its.toArray.size = xs.length := by rw [List.size_toArray, hl]
  rw [assign_Tuple]
  refine wpAny_bind (wpAny_standAt ?_)
  unfold unpack
  rw [hn, hst]
  refine wpAny_bind (wpAny_holding (star_items k p (I.ok.hd hc) hi (by omega) (by omega) fun g2 g' tk q1 q2 q3 => ?_))
  have I1 : Inv X pins σ H { s with heap := g2, toks := tk } := I.kept (t' := tk) q1
  have fr : H g2.objs.size = none := I1.hok.fresh (Nat.le_refl _)
  rw [ez] at q3 ⊢
  have rl : Vals ((xs.drop i).take (xs.length + 1 - n)) ((its.drop i).take (xs.length + 1 - n)) := vals_take (vals_drop rv i) _
  have I2 : Inv X pins σ (upd H g2.objs.size (.lst ((xs.drop i).take (xs.length + 1 - n)))) { s with heap := g', toks := tk } := I1.laid (t' := tk) q2 (Nat.le_refl _) ⟨by rw [List.length_take, List.length_drop, sizeLine_eq]; omega, _, _, rl, q3⟩
  exact h.run pins _ σ _ _ _ Q I2 (((vals_take rv i).append (.cons (show RelV (.ref g2.objs.size) (.ref g2.objs.size) from rfl) .nil)).append (vals_drop (vals_drop rv i) _)) (hw _ fr)
/-- a starred target's lists -/
def starD (n i : Nat) : D → (List D → Prop) → Prop
  | .tup xs, P => n ≤ xs.length + 1 ∧ xs.length ≤ 1000000 ∧ P (xs.take i ++ [.lst ((xs.drop i).take (xs.length + 1 - n))] ++ (xs.drop i).drop (xs.length + 1 - n))
  | .lst xs, P => n ≤ xs.length + 1 ∧ xs.length ≤ 1000000 ∧ P (xs.take i ++ [.lst ((xs.drop i).take (xs.length + 1 - n))] ++ (xs.drop i).drop (xs.length + 1 - n))
  | _, _ => False
theorem starD_of {n i : Nat} {d : D} {v : V} {P : List D → Prop} {K : PySem.W.Frag} {M : Addr → Prop} {H : Hp} (h : starD n i d P) (r : Rep K M H d v) : ∃ (k : Kz) (a : Addr) (vs : List V) (xs : List D), v = .ref a ∧ SeqM k K M H a vs ∧ Reps K M H xs vs ∧ n ≤ xs.length + 1 ∧ xs.length ≤ 1000000 ∧ P (xs.take i ++ [.lst ((xs.drop i).take (xs.length + 1 - n))] ++ (xs.drop i).drop (xs.length + 1 - n)) := by
  cases d <;> first | exact h.elim | skip
  · obtain ⟨a, ys, rfl, t, r2⟩ := r.tup
    exact ⟨.t, a, ys, _, rfl, t, r2, h⟩
  · obtain ⟨a, ys, rfl, t, r2⟩ := r.lst
    exact ⟨.l, a, ys, _, rfl, t, r2, h⟩
section
variable {X : Cx} {W : Wd} {e : Expr} {es : List Expr} {pos tpos : Pos} {vs : List Nat}
theorem vs_asgStar {k n i : Nat} {w : WE} {u : WGs} (hc : X.calm = true) (he : VE X W e w) (hg : PGs X es (LGs X.K W vs u)) (hs : swapsWithSole [.Tuple es k tpos] e pos.line X.env = pure false := by rfl) (hw : swappedStores [.Tuple es k tpos] e X.env = pure none := by rfl)
    (h1 : (assignEach [.Tuple es k tpos] X.env).map (·.2) = [assign (.Tuple es k tpos) X.env] := by rfl) (hn : (assignEach es X.env).length = n := by rfl) (hst : (assignEach es X.env).findIdx? (·.1) = some i := by rfl) (hi : i < n := by decide) :
    VS X W (.Assign [.Tuple es k tpos] e pos) (fun E ds => w ds fun d => starD n i d fun xs => u xs ds E.nx) := by
  refine ps_imp (ps_asg he (pg_star hc hg hn hst hi) hs hw h1) fun D σ H h => ?_
  obtain ⟨M0, H0, oa, ds, E, S, hw, k1, k2, k3, k4⟩ := h
  refine ⟨M0, H0, oa, ds, _, S, hw, fun d v H1 hd e1 i1 r1 => ?_⟩
  obtain ⟨kz, a, ys, xs, rfl, sq, rr, l1, l2, hu⟩ := starD_of hd r1
  have S1 := S.step e1 i1
  have el := rr.len
  refine ⟨kz, a, ys, rfl, sq.sq, by omega, by omega, fun Dl hD => ?_⟩
  rw [el]
  have fu : Full H1 (upd H1 Dl (.lst ((ys.drop i).take (xs.length + 1 - n)))) := Full.new hD
  have S2 := S1.full fu
  have rm : Reps X.K (Mx M0 oa) H1 ((xs.drop i).take (xs.length + 1 - n)) ((ys.drop i).take (xs.length + 1 - n)) := (rr.drop i).take _
  have rD := S1.mok.newL hD rm
  have r2 := rr.ext S1.mok fu.ext
  refine ⟨M0, H0, oa, ds, _, _, S2, ?_, hu, fun ds' oa' σ' hp S' _ _ _ => k1 ds' oa' σ' _ hp S'⟩
  exact ((r2.take i).app (reps_cons rD reps_nil)).app ((r2.drop i).drop (xs.length + 1 - n))
/-! ### x += e of ints and texts -/
def augT : D → D → (D → Prop) → Prop
  | .int i, .int j, P => P (.int (i + j))
  | .str a, .str b, P => a.length + b.length ≤ sizeLine ∧ P (.str (a ++ b))
  | _, _, _ => False
def rAugT : R2 := fun x y H Q => (rI0 fun i j => .int (i + j)) x y H Q ∨ ∃ i j, x = .str i ∧ y = .str j ∧ i.length + j.length ≤ sizeLine ∧ Q (.str (i ++ j)) H
theorem ip_augT : PIp X .Add rAugT := fun pins s σ H x y v u Q I rx ry h => h.elim (iop_add pins s σ H x y v u Q I rx ry) (iop_add_str pins s σ H x y v u Q I rx ry)
theorem vs_augT (i : Nat) {x : Str} {w : WE} {pos' : Pos} (hN : X.N.Nodup) (he : VE X W e w) (hi : X.N[i]? = some x := by rfl) (hx : Loc X.env.scope x := by first | exact Or.inl rfl | exact Or.inr rfl)
    (hf : X.fn x = true ∨ X.env.scope.names.lookup x = some .local := by first | exact .inl rfl | exact .inr rfl | assumption) :
    VS X W (.AugAssign (.Name x pos') .Add e pos) (fun E ds => slD (ds.getD i .un) fun x => w ds fun y => augT x y fun d => E.nx (ds.set i (.d d))) := by
  refine ps_imp (ps_aug hN hi hx he ip_augT hf) fun D σ H h => ?_
  obtain ⟨M0, H0, oa, ds, E, S, hw, k1, k2, k3, k4⟩ := h
  obtain ⟨xd, e, hp⟩ := slD_of hw
  obtain ⟨v, h1, r⟩ := S.get (getD_get e)
  refine ⟨v, h1, M0, H0, oa, ds, _, S, hp, fun y u H1 hy e1 i1 r1 => ?_⟩
  have S1 := S.step e1 i1
  have rx := r.ext S.mok e1
  cases xd <;> cases y <;> first | exact hy.elim | skip
  · cases rx.int; cases r1.int
    exact .inl ⟨_, _, rfl, rfl, k1 _ _ _ _ hy (S1.set rep_int)⟩
  · cases rx.str; cases r1.str
    exact .inr ⟨_, _, rfl, rfl, hy.1, k1 _ _ _ _ hy.2 (S1.set rep_str)⟩
/-! ### startswith -/
def swD : D → D → (D → Prop) → Prop
  | .str a, .str b, P => P (.bl (Txt.startswith a b))
  | _, _, _ => False
theorem lift_sw {K : PySem.W.Frag} : LiftOp K W swD (fun x y H Q => ∃ a b, x = .str a ∧ [y] = [.str b] ∧ Q (.bl (Txt.startswith a b)) H) := fun M H x y v u P Q m r1 r2 h k => by
  cases x <;> cases y <;> first | exact h.elim | skip
  cases r1.str; cases r2.str
  exact ⟨_, _, rfl, rfl, k _ _ H h (Full.refl H).ext m.wi rep_bl⟩
theorem ve_startswith {o e : Expr} {apos pos : Pos} {wa wb : WE} (ho : VE X W o wa) (he : VE X W e wb) (hs : starEach [e] X.env = [(false, eval e X.env)] := by rfl) (hbase : attributeBase o "startswith" X.env (eval o X.env) = eval o X.env := by rfl) (hline : (apos.endLine == pos.line) = true := by rfl) :
    VE X W (.Call (.Attribute o "startswith" apos) [e] [] pos) (wM1 swD wa wb) := ve_m1 (o := o) (e := e) (pe_m1 PySem.F.slot_str_startswith PySem.F.type_str_startswith mt_startswith ho he hs hbase hline) lift_sw
/-! ### isinstance(x, (T, U)) -/
theorem ve_isi2 {x y : Str} {p : Pos} (t t' : Ty) {w : WE} {kk : Nat} {tp : Pos} (hg : Gl X "isinstance") (hm : X.mg "isinstance" = none) (hv : bootBuiltins "isinstance" = some (.builtin "isinstance")) (ha : VE X W e w) (hgT : Gl X x) (hmT : X.mg x = none) (hvT : bootBuiltins x = some (.type t.nm)) (hgU : Gl X y) (hmU : X.mg y = none) (hvU : bootBuiltins y = some (.type t'.nm)) {px py : Pos}
    (hn : x ≠ "__name__" := by decide) (hdb : (x == ("__debug__" : Str)) = false := by decide) (hn' : y ≠ "__name__" := by decide) (hdb' : (y == ("__debug__" : Str)) = false := by decide)
    (hs : starEach [e, .Tuple [.Name x px, .Name y py] kk tp] X.env = (false, eval e X.env) :: starEach [.Tuple [.Name x px, .Name y py] kk tp] X.env := by rfl) (hpl : (backTo pos (starEach [.Tuple [.Name x px, .Name y py] kk tp] X.env)).any (·.1) = false := by rfl) (hs2 : starEach [.Tuple [.Name x px, .Name y py] kk tp] X.env = (false, eval (.Tuple [.Name x px, .Name y py] kk tp) X.env) :: starEach [] X.env := by rfl)
    (hs3 : starEach [.Name x px, .Name y py] X.env = (false, eval (.Name x px) X.env) :: starEach [.Name y py] X.env := by rfl) (hs4 : starEach [.Name y py] X.env = (false, eval (.Name y py) X.env) :: starEach [] X.env := by rfl) :
    VE X W (.Call (.Name "isinstance" p) [e, .Tuple [.Name x px, .Name y py] kk tp] [] pos) (fun ds P => w ds fun d => noHnd d = true ∧ P (.bl (isTy t d || isTy t' d))) := by
  have hT : PE X (.Name x px) (tC (.ty t.nm)) := pe_bltn (v := .ty t.nm) hgT hmT hvT rfl hn hdb
  have hU : PE X (.Name y py) (tC (.ty t'.nm)) := pe_bltn (v := .ty t'.nm) hgU hmU hvU rfl hn' hdb'
  refine pe_imp (pe_callB call_isiT hg hm hv (pa_cons ha (pa_cons (pe_tup (pa_cons hT (pa_cons hU pa_nil hs4) hs3)) pa_nil hs2) hs) (by decide) (by decide) hs hpl) fun σ H Q h => ?_
  obtain ⟨M0, H0, oa, ds, P, S, hw, k⟩ := h
  refine ⟨M0, H0, oa, ds, _, S, hw, fun d v H1 hx e1 i1 r1 => ?_⟩
  have S1 := S.step e1 i1
  refine ⟨by show 2 ≤ sizeLine; decide, fun q hq => ?_⟩
  have fu : Full H1 (upd H1 q (.tup [.ty t.nm, .ty t'.nm])) := Full.new hq
  have r2 := r1.ext S1.mok fu.ext
  refine ⟨v, q, [.ty t.nm, .ty t'.nm], .type (tyN d), [.type t.nm, .type t'.nm], isTy t d || isTy t' d, rfl, upd_same, .cons (.ty _) (.cons (.ty _) .nil), r2.ty hx.1, ?_, k _ _ _ hx.2 (e1.trans fu.ext) (W.keep _ _ i1 fu) rep_bl⟩
  have k1 := kit_ty (K := X.K) (kit_tab t d hx.1)
  have k2 := kit_ty (K := X.K) (kit_tab t' d hx.1)
  refine kitAny_cons k1 (fun z => ?_) (fun z => by rw [z]; rfl)
  rw [z, Bool.false_or]
  exact kitAny_cons k2 (fun z => by rw [z]; rfl) (fun z => z)
/-! ### xs[::2], xs[1::2] -/
def evens {α : Type} : List α → List α
  | [] => []
  | [a] => [a]
  | a :: _ :: r => a :: evens r
end
theorem evens_pick {α : Type} (xs : List α) : ∀ (n m : Nat), xs.length = n → m = (n + 1) / 2 → (List.range m).filterMap (fun k => xs[2 * k]?) = evens xs := by
  induction xs using evens.induct with
  | case1 =>
    intro n m h1 h2
    have : m = 0 := by subst h1; simpa using h2
    subst this
    rfl
  | case2 a =>
    intro n m h1 h2
    have : m = 1 := by subst h1; simpa using h2
    subst this
    rfl
  | case3 a b r ih =>
    intro n m h1 h2
    rw [List.length_cons, List.length_cons] at h1
    obtain ⟨m, rfl⟩ : ∃ k, m = k + 1 := ⟨m - 1, by omega⟩
    rw [List.range_succ_eq_map, List.filterMap_cons]
    show a :: _ = a :: _
    rw [List.filterMap_map]
    exact congrArg _ (ih r.length m rfl (by omega))
theorem fm_congr {α β : Type} {f g : α → Option β} : ∀ {l : List α}, (∀ x ∈ l, f x = g x) → l.filterMap f = l.filterMap g
  | [], _ => rfl
  | a :: l, h => by
    rw [List.filterMap_cons, List.filterMap_cons, h a (.head _), fm_congr fun x hx => h x (.tail _ hx)]
theorem range_two (start n m : Nat) (h : m = (n - start + 1) / 2) : PySem.sliceRange (start : Int) (n : Int) 2 = (List.range m).map fun k => start + 2 * k := by
  unfold PySem.sliceRange
  rw [if_pos (by decide)]
  show List.map (fun (k : Nat) => ((start : Int) + 2 * (k : Int)).toNat) (List.range (if (start : Int) < (n : Int) then ((n : Int) - start + 2 - 1) / 2 else 0).toNat) = _
  have e : (if (start : Int) < n then ((n : Int) - start + 2 - 1) / 2 else 0).toNat = m := by split <;> omega
  rw [e]
  refine List.map_congr_left fun k _ => ?_
  omega
theorem pick_even (items : Array Value) : slicePick items none none (some 2) = (evens items.toList).toArray := by
  unfold slicePick
  rw [show sliceBounds none none (some 2) items.size = (((0 : Nat) : Int), (items.size : Int), 2) from rfl]
  dsimp only
  rw [range_two 0 items.size ((items.size + 1) / 2) (by omega), List.filterMap_map]
  congr 1
  rw [← evens_pick items.toList items.size _ (Array.length_toList ..) rfl]
  refine fm_congr fun k _ => ?_
  show items[0 + 2 * k]? = _
  rw [Nat.zero_add, Array.getElem?_toList]
theorem pick_odd (items : Array Value) : slicePick items (some 1) none (some 2) = (evens (items.toList.drop 1)).toArray := by
  unfold slicePick
  have eb : sliceBounds (some 1) none (some 2) items.size = (((min 1 items.size : Nat) : Int), (items.size : Int), 2) := by
    unfold sliceBounds
    simp only [Option.getD_some]
    rw [if_pos (by decide), if_neg (by decide), if_pos (by decide)]
    congr 1
    omega
  rw [eb]
  dsimp only
  rw [range_two (min 1 items.size) items.size (items.size / 2) (by omega), List.filterMap_map]
  congr 1
  rw [← evens_pick (items.toList.drop 1) (items.size - 1) (items.size / 2) (by rw [List.length_drop, Array.length_toList]) (by omega)]
  refine fm_congr fun k hk => ?_
  have hk := List.mem_range.mp hk
  show items[min 1 items.size + 2 * k]? = _
  rw [List.getElem?_drop, Array.getElem?_toList, show min 1 items.size = 1 by omega]
section
variable {X : Cx} {W : Wd} {e : Expr} {pos : Pos}
def tPick (K : PySem.W.Frag) (f : List V → List V) (te : TE) : TE := fun σ H Q => te σ H fun x H1 => ∃ a xs, x = .ref a ∧ SqL K H1 a xs ∧ ∀ p, H1 p = none → Q (.ref p) (upd H1 p (.lst (f xs)))
theorem evens_len {α : Type} : ∀ l : List α, (evens l).length ≤ l.length
  | [] => Nat.le_refl _
  | [_] => Nat.le_refl _
  | _ :: _ :: r => by have := evens_len r; show (evens r).length + 1 ≤ r.length + 1 + 1; omega
theorem vals_even {xs : List V} {us : List Value} (r : Vals xs us) : Vals (evens xs) (evens us) := by
  induction xs using evens.induct generalizing us with
  | case1 => cases r; exact .nil
  | case2 a => cases r with | cons h t => cases t; exact .cons h .nil
  | case3 a b l ih => cases r with | cons h t => cases t with | cons h2 t2 => exact .cons h (ih t2)
theorem reps_even {K : PySem.W.Frag} {M : Addr → Prop} {H : Hp} {xs : List D} {us : List V} (r : Reps K M H xs us) : Reps K M H (evens xs) (evens us) := by
  induction xs using evens.induct generalizing us with
  | case1 => cases r.inv0; exact reps_nil
  | case2 a => obtain ⟨v, vs, rfl, h, t⟩ := r.inv; cases t.inv0; exact reps_cons h reps_nil
  | case3 a b l ih => obtain ⟨v, vs, rfl, h, t⟩ := r.inv; obtain ⟨v', vs', rfl, h', t'⟩ := t.inv; exact reps_cons h (ih t')
theorem pe_evens {te : TE} {k : Nat} {p1 p3 : Pos} (he : PE X e te) : PE X (.Subscript e (.Slice none none (some (.Constant (.int 2) k p1)) p3) pos) (tPick X.K evens te) := by
  refine ⟨fun pins s σ H Q I h => ?_⟩
  refine Subscript_ (thn (he.run pins s σ H _ I h) fun v s1 ⟨x, H1, I1, r1, a, xs, ex, hx, q⟩ => ?_)
  subst ex
  cases r1
  have hst : PO X (some (.Constant (.int 2) k p1)) (tPart (tC (.int 2))) := po_some pe_int
  refine wpAny_Slice (thn (po_none.run pins s1 σ H1 (fun o G => o = none ∧ G = H1) I1 ⟨rfl, rfl⟩) fun vl s2 ⟨l, G2, I2, pl, el, e2⟩ => ?_)
  subst el e2
  refine thn (po_none.run pins s2 σ G2 (fun o G => o = none ∧ G = G2) I2 ⟨rfl, rfl⟩) fun vu s3 ⟨u, G3, I3, pu, eu, e3⟩ => ?_
  subst eu e3
  refine thn (hst.run pins s3 σ G3 (fun o G => o = some 2 ∧ G = G3) I3 ⟨2, rfl, rfl, rfl⟩) fun vs s4 ⟨o, G4, I4, ps, eo, e4⟩ => ?_
  subst eo e4
  have I5 : Inv X pins σ G4 { s4 with heap := s4.heap.push { cls := .type "slice", data := .fields #[vl, vu, vs] } } := I4.kept (t' := s4.toks) fun b ob q => Heap.get?_push_of_some _ q
  obtain ⟨its, r, ht, hz⟩ := I5.list hx
  have hlen := r.length
  show wpAny (model X.prog X.w) X.A (subscriptTail e (.Slice none none (some (.Constant (.int 2) k p1)) p3) (.ref a) (.ref s4.heap.objs.size)) (EP X pins σ Q) X.xe { s4 with heap := s4.heap.push { cls := .type "slice", data := .fields #[vl, vu, vs] } }
  refine tail_any (ops := [.ref a, .ref s4.heap.objs.size]) ht.isList.typeIs (PySem.slot_list_getitem.lookup) ?_ (by with_unfolding_all rfl)
  refine wpAny_getItem_list_slice ht.isList (Heap.IsSliceOf.new _ vl vu vs) pl pu ps (by decide) ?_ (by rw [List.size_toArray]; omega)
  rw [pick_even]
  have hl2 := evens_len xs
  exact ⟨.ref _, _, I5.laid (t' := s4.toks) (o := .lst (evens xs)) (fun b ob q => Heap.get?_push_of_some _ q) (Nat.le_refl _) ⟨by omega, _, 0, vals_even r, Heap.get?_push_size _ rfl⟩, rfl, q _ (I5.hok.fresh (Nat.le_refl _))⟩
theorem pe_odds {te : TE} {k kl : Nat} {p0 p1 p3 : Pos} (he : PE X e te) : PE X (.Subscript e (.Slice (some (.Constant (.int 1) kl p0)) none (some (.Constant (.int 2) k p1)) p3) pos) (tPick X.K (fun xs => evens (xs.drop 1)) te) := by
  refine ⟨fun pins s σ H Q I h => ?_⟩
  refine Subscript_ (thn (he.run pins s σ H _ I h) fun v s1 ⟨x, H1, I1, r1, a, xs, ex, hx, q⟩ => ?_)
  subst ex
  cases r1
  have hst : PO X (some (.Constant (.int 2) k p1)) (tPart (tC (.int 2))) := po_some pe_int
  have hlo : PO X (some (.Constant (.int 1) kl p0)) (tPart (tC (.int 1))) := po_some pe_int
  refine wpAny_Slice (thn (hlo.run pins s1 σ H1 (fun o G => o = some 1 ∧ G = H1) I1 ⟨1, rfl, rfl, rfl⟩) fun vl s2 ⟨l, G2, I2, pl, el, e2⟩ => ?_)
  subst el e2
  refine thn (po_none.run pins s2 σ G2 (fun o G => o = none ∧ G = G2) I2 ⟨rfl, rfl⟩) fun vu s3 ⟨u, G3, I3, pu, eu, e3⟩ => ?_
  subst eu e3
  refine thn (hst.run pins s3 σ G3 (fun o G => o = some 2 ∧ G = G3) I3 ⟨2, rfl, rfl, rfl⟩) fun vs s4 ⟨o, G4, I4, ps, eo, e4⟩ => ?_
  subst eo e4
  have I5 : Inv X pins σ G4 { s4 with heap := s4.heap.push { cls := .type "slice", data := .fields #[vl, vu, vs] } } := I4.kept (t' := s4.toks) fun b ob q => Heap.get?_push_of_some _ q
  obtain ⟨its, r, ht, hz⟩ := I5.list hx
  have hlen := r.length
  show wpAny (model X.prog X.w) X.A (subscriptTail e (.Slice (some (.Constant (.int 1) kl p0)) none (some (.Constant (.int 2) k p1)) p3) (.ref a) (.ref s4.heap.objs.size)) (EP X pins σ Q) X.xe { s4 with heap := s4.heap.push { cls := .type "slice", data := .fields #[vl, vu, vs] } }
  refine tail_any (ops := [.ref a, .ref s4.heap.objs.size]) ht.isList.typeIs (PySem.slot_list_getitem.lookup) ?_ (by with_unfolding_all rfl)
  refine wpAny_getItem_list_slice ht.isList (Heap.IsSliceOf.new _ vl vu vs) pl pu ps (by decide) ?_ (by rw [List.size_toArray]; omega)
  rw [pick_odd]
  have hl2 := evens_len (xs.drop 1)
  rw [List.length_drop] at hl2
  exact ⟨.ref _, _, I5.laid (t' := s4.toks) (o := .lst (evens (xs.drop 1))) (fun b ob q => Heap.get?_push_of_some _ q) (Nat.le_refl _) ⟨by omega, _, 0, vals_even (vals_drop r 1), Heap.get?_push_size _ rfl⟩, rfl, q _ (I5.hok.fresh (Nat.le_refl _))⟩
def evD (f : List D → List D) : D → (D → Prop) → Prop
  | .lst xs, P => P (.lst (f xs))
  | _, _ => False
theorem ve_evens {w : WE} {k : Nat} {p1 p3 : Pos} (he : VE X W e w) : VE X W (.Subscript e (.Slice none none (some (.Constant (.int 2) k p1)) p3) pos) (fun ds P => w ds fun x => evD evens x P) := by
  refine pe_imp (pe_evens he) fun σ H Q h => ?_
  obtain ⟨M0, H0, oa, ds, P, S, hw, k⟩ := h
  refine ⟨M0, H0, oa, ds, _, S, hw, fun d v H1 hd e1 i1 r1 => ?_⟩
  cases d <;> first | exact hd.elim | skip
  obtain ⟨a, ys, rfl, t, r2⟩ := r1.lst
  refine ⟨a, ys, rfl, t.sq, fun p hp => ?_⟩
  have fu : Full H1 (upd H1 p (.lst (evens ys))) := Full.new hp
  exact k _ _ _ hd (e1.trans fu.ext) (W.keep _ _ i1 fu) ((S.step e1 i1).mok.newL hp (reps_even r2))
theorem ve_odds {w : WE} {k kl : Nat} {p0 p1 p3 : Pos} (he : VE X W e w) : VE X W (.Subscript e (.Slice (some (.Constant (.int 1) kl p0)) none (some (.Constant (.int 2) k p1)) p3) pos) (fun ds P => w ds fun x => evD (fun xs => evens (xs.drop 1)) x P) := by
  refine pe_imp (pe_odds he) fun σ H Q h => ?_
  obtain ⟨M0, H0, oa, ds, P, S, hw, k⟩ := h
  refine ⟨M0, H0, oa, ds, _, S, hw, fun d v H1 hd e1 i1 r1 => ?_⟩
  cases d <;> first | exact hd.elim | skip
  obtain ⟨a, ys, rfl, t, r2⟩ := r1.lst
  refine ⟨a, ys, rfl, t.sq, fun p hp => ?_⟩
  have fu : Full H1 (upd H1 p (.lst (evens (ys.drop 1)))) := Full.new hp
  exact k _ _ _ hd (e1.trans fu.ext) (W.keep _ _ i1 fu) ((S.step e1 i1).mok.newL hp (reps_even (r2.drop 1)))
end
/-! ### enumerate of a list, of a tuple -/
theorem vr_enum_new {v : Value} {ob : Obj} {G : Heap → Prop} (B : Begins v ob G) :
    Meets (Builtin.«enumerate.__new__» ⟨[.type "enumerate", v], []⟩) (fun _ R s => G s.heap ∧
      R (.ok (.ret (.ref (s.heap.push ob).objs.size))) { s with heap := (s.heap.push ob).push { cls := .type "enumerate", data := .fields #[.none, .bool false, .ref s.heap.objs.size, rawInt 0, .none, .none] } }) :=
  .of_wp fun prog w A R s z => by
    obtain ⟨hp, gg, dd, kk, oo⟩ := s
    obtain ⟨g1, z⟩ := z
    have sb := sub_enumerate
    have go : ∀ {A' : Around} {E Q : Value → Shared → Prop}, Q (.ref hp.objs.size) ⟨hp.push ob, gg, dd, kk, oo⟩ → wpAny (model prog w) A' (pyIter v) Q E ⟨hp, gg, dd, kk, oo⟩ := fun q => B.iter prog w _ _ ⟨hp, gg, dd, kk, oo⟩ _ g1 q
    wp_walk using go
    refine wpAny_stack_any fun _ => wpAny_pure ?_
    split
    · rename_i c _ _ _ _ _
      cases (c == Value.type "enumerate") <;> (wp_walk using go; exact ⟨_, rfl, z⟩)
    · wp_walk using go
      exact ⟨_, rfl, z⟩
section
variable {prog : Program} {w : World} {A : Around} {E : Value → Shared → Prop} {s : Shared}
theorem vr_enum {v : Value} {ob : Obj} {G : Heap → Prop} {Q : Value → Shared → Prop} (B : Begins v ob G) (g1 : G s.heap)
    (h : ∀ h', IsEnum h' (s.heap.objs.size + 1) s.heap.objs.size 0 .none → h'.get? s.heap.objs.size = some ob → (∀ b o, s.heap.get? b = some o → h'.get? b = some o) → Q (.ref (s.heap.objs.size + 1)) { s with heap := h' }) :
    wpAny (model prog w) A (call (.type "enumerate") [v]) Q E s := by
  have sz : (s.heap.push ob).objs.size = s.heap.objs.size + 1 := Heap.size_push ..
  refine callType_new PySem.F.called_enumerate (by decide) (PySem.F.typeCall_enumerate_1 _) (PySem.F.newCall_enumerate_1 _) (fun obj => PySem.F.args_object_init_2 obj _) PySem.F.entry_enumerate_new (vr_enum_new B) ⟨g1, ?_⟩
  have at_ := Heap.get?_push_size (s.heap.push ob) (o := { cls := .type "enumerate", data := .fields #[.none, .bool false, .ref s.heap.objs.size, rawInt 0, .none, .none] }) rfl
  rw [sz] at at_
  show _ ∧ _
  rw [sz]
  exact ⟨⟨_, at_, rfl⟩, h _ at_ (Heap.get?_push_of_some _ (Heap.get?_push_size _ B.free)) fun b o q => Heap.get?_push_of_some _ (Heap.get?_push_of_some _ q)⟩
end
/-- the sequence at a as it stands at each turn, each item in a new pair behind its index -/
def IteK (K : PySem.W.Frag) (k : Kz) (a : Addr) : It :=
  ⟨fun i H => ∃ (xs : List V) (x : V), SqK k K H a xs ∧ xs[i]? = some x,
    fun i H v H' => ∃ T x, v = .ref T ∧ H T = none ∧ H' = upd H T (.tup [.int (i : Nat), x]) ∧ ∀ xs, SqK k K H a xs → xs[i]? = some x,
    fun i H => ∃ xs : List V, SqK k K H a xs ∧ xs.length = i⟩
theorem turn_enumK {P : Program} {w : World} {K : PySem.W.Frag} {elts : List Expr} {kk : Nat} {tpos : Pos} {k : Kz} {a e it : Addr} (ha : a ≠ it) (hae : a ≠ e) (hei : e ≠ it) :
    Turn P w K (.Tuple elts kk tpos) (IteK K k a) [e, it] e (fun i h => (∃ old, IsEnum h e it ((i : Nat) : Int) old) ∧ IterK k h it a i) where
  mem := by simp
  obj := fun i h st c hc => by
    obtain ⟨⟨old, he⟩, hi⟩ := st
    have e' : c = e ∨ c = it := by simpa using hc
    rcases e' with q | q
    · rw [q]; exact ⟨_, he, fun v z => nomatch z⟩
    · rw [q]; exact hi.obj
  keep := fun i h h' st kp => by
    obtain ⟨⟨old, he⟩, hi⟩ := st
    exact ⟨⟨old, kp e (by simp) _ he⟩, hi.at fun o q => kp it (by simp) o q⟩
  item := by
    intro X hP hw hK hc i pins s σ H E I hf st hg
    subst hP hw hK
    obtain ⟨⟨old, he⟩, hi⟩ := st
    obtain ⟨xs, x, hq, hx⟩ := hg
    obtain ⟨its, rv, p, _⟩ := seqK I hq
    obtain ⟨u, hu, ru⟩ := rv.get hx
    have el := Heap.lt_size he
    have hh : X.A.in1.handled = none := I.ok.hd hc
    have lt : i < its.toArray.size := by rw [List.size_toArray]; exact (List.getElem?_eq_some_iff.mp hu).1
    refine wpAny_pyNext_enum_itemD (drawsK k hh it a ha its.toArray) he ⟨hi, p⟩ lt hei (by simp [hei, Ne.symm hae]) fun v h' tk y1 out st' hT hsz hk => ?_
    obtain rfl : u = v := by
      have : some u = some v := by rw [← y1]; simpa using hu.symm
      exact Option.some.inj this
    obtain ⟨hi', _⟩ := st'
    refine ⟨_, rfl, wpAny_letOwnedTupleGo_enum (s := { s with heap := h', toks := tk + 1 }) out fun h'' en sb => ?_⟩
    have hT2 := (sb.2 _ (Nat.ne_of_gt el)).trans hT
    have new : ObjOk X.prog X.w (upd H s.heap.objs.size (.tup [.int (i : Nat), x])) h'' s.heap.objs.size (.tup [.int (i : Nat), x]) := ⟨by show 2 ≤ sizeLine; decide, [.int i tk, u], .cons ⟨_, rfl⟩ (.cons ru .nil), ⟨_, hT2, rfl, _, rfl⟩⟩
    have I1 := I.turnedNew (t' := tk + 1) (ch := [e, it]) (fun b o hb q => (sb.2 b (fun z => hb (by simp [z]))).trans (hk b o (fun z => hb (by simp [z])) (fun z => hb (by simp [z])) q)) hf (Nat.le_refl _) new
    refine ⟨.ref s.heap.objs.size, _, I1, rfl, ⟨_, x, rfl, I.hok.fresh (Nat.le_refl _), rfl, fun l hl => by rw [seqK_inj I hl hq]; exact hx⟩, ⟨⟨u, ?_⟩, hi'.at fun o q => (sb.2 it (Ne.symm hei)).trans q⟩, fun c hcm => ?_⟩
    · have e1 : ((i + 1 : Nat) : Int) = (i : Int) + 1 := by omega
      rw [e1]; exact en
    · have hlt : c < s.heap.objs.size := by
        have e' : c = e ∨ c = it := by simpa using hcm
        rcases e' with q | q
        · rw [q]; exact el
        · rw [q]; obtain ⟨_, e1, _⟩ := hi.obj; exact Heap.lt_size e1
      rw [upd_ne (Nat.ne_of_lt hlt)]
      exact (hf c hcm).1
  done := by
    intro X hP hw hK hc i pins s σ H E I hf st hg
    subst hP hw hK
    obtain ⟨⟨old, he⟩, hi⟩ := st
    obtain ⟨xs, hq, hx⟩ := hg
    obtain ⟨its, rv, p, _⟩ := seqK I hq
    have hh : X.A.in1.handled = none := I.ok.hd hc
    have l1 : its.toArray.size = i := by rw [List.size_toArray, ← hx]; exact rv.length.symm
    subst l1
    refine wpAny_pyNext_enum_endD (drawsK k hh it a ha its.toArray) he ⟨hi, p⟩ fun h' eb => ?_
    obtain ⟨f0, f1, f2, f3, f4, f5⟩ := hf it (by simp)
    exact ⟨rfl, I.turned (t' := s.toks) (fun b o hb q => eb b o hb q) f0 f1 f3 f4 f5⟩
  self := fun A i s Q E st h => let ⟨⟨_, he⟩, _⟩ := st; wpAny_pyIter_enum he h
def iEnumK (K : PySem.W.Frag) (ta : TA) : TI := fun σ H R => ta σ H fun vs H1 => ∃ k a xs, vs = [.ref a] ∧ SqK k K H1 a xs ∧ R (IteK K k a) H1
theorem pi_enumK {X : Cx} {e : Expr} {ta : TA} {p pos tpos : Pos} {elts : List Expr} {kk : Nat} (hg : Gl X "enumerate") (hm : X.mg "enumerate" = none) (ha : PA X [e] ta) (hs : starEach [e] X.env = [(false, eval e X.env)] := by rfl) :
    PI X (.Tuple elts kk tpos) (.Call (.Name "enumerate" p) [e] [] pos) (iEnumK X.K ta) := by
  refine ⟨fun pins s σ H R I h => ?_⟩
  refine Call_ (ld_blt I hg hm boot_enumerate (PyProof.Rows.callWith_type1 (thn (ha.run pos pins s σ H _ I h) fun us s1 ⟨vs, H1, I1, r1, k, a, xs, ex, hq, q⟩ => ?_) hs rfl))
  subst ex
  cases r1 with
  | cons r rr =>
    cases rr
    cases r
    obtain ⟨its, rv, p1, lt⟩ := seqK I1 hq
    refine vr_enum (beginsK k a its.toArray) p1 fun h' he hi hk => wpAny_pyIter_enum he ?_
    have I2 : Inv X pins σ H1 { s1 with heap := h' } := I1.kept (t' := s1.toks) hk
    refine ⟨s1.heap.objs.size + 1, [s1.heap.objs.size + 1, s1.heap.objs.size], _, _, H1, rfl, I2, turn_enumK (k := k) (a := a) (e := s1.heap.objs.size + 1) (it := s1.heap.objs.size) (Nat.ne_of_lt lt) (Nat.ne_of_lt (Nat.lt_succ_of_lt lt)) (Nat.succ_ne_self _), ⟨⟨.none, he⟩, iterK0 hi⟩, fun b hb => ?_, q⟩
    have hle : s1.heap.objs.size ≤ b := by
      have e' : b = s1.heap.objs.size + 1 ∨ b = s1.heap.objs.size := by simpa using hb
      rcases e' with z | z <;> rw [z]
      · exact Nat.le_add_right _ _
      · exact Nat.le_refl _
    exact I1.fpOk hle (I1.hok.fresh hle)
/-- the pairs of an index and an item -/
def enumD (xs : List D) : List D := (List.range xs.length).zip xs |>.map fun p => D.tup [.int (p.1 : Nat), p.2]
theorem enumD_len (xs : List D) : (enumD xs).length = xs.length := by simp [enumD]
theorem enumD_get {xs : List D} {i : Nat} {d : D} (h : (enumD xs)[i]? = some d) : ∃ x, xs[i]? = some x ∧ d = .tup [.int i, x] := by
  unfold enumD at h
  rw [List.getElem?_map] at h
  obtain ⟨p, hp, rfl⟩ := Option.map_eq_some_iff.mp h
  obtain ⟨a, b⟩ := p
  obtain ⟨h1, h2⟩ := List.getElem?_zip_eq_some.mp hp
  have h1 : (List.range xs.length)[i]? = some a := h1
  rw [List.getElem?_range (List.getElem?_eq_some_iff.mp h2).1] at h1
  cases h1
  exact ⟨b, h2, rfl⟩
def enD : D → (List D → Prop) → Prop
  | .tup xs, P => xs.length ≤ 1000000 ∧ P (enumD xs)
  | .lst xs, P => xs.length ≤ 1000000 ∧ P (enumD xs)
  | _, _ => False
section
variable {K : PySem.W.Frag} {W : Wd} {M : Addr → Prop} {H1 : Hp}
theorem itok_en {k : Kz} {a : Addr} {xs : List V} {ds : List D} (t : SeqM k K M H1 a xs) (r : Reps K M H1 ds xs) : ItOk K W M H1 (IteK K k a) (enumD ds) := fun M2 H2 c m => by
  have u1 := (t.car c).sq
  refine ⟨fun i hi => ?_, fun i hi hi2 => ⟨xs, u1, ?_⟩, fun i d x H3 hd hy => ?_⟩
  · rw [enumD_len] at hi
    obtain ⟨x, hx⟩ := get_lt (xs := xs) (i := i) (by rw [r.len]; omega)
    exact ⟨xs, x, u1, hx⟩
  · rw [enumD_len] at hi hi2
    rw [r.len]
    omega
  · obtain ⟨T, x', rfl, hT, rfl, g1⟩ := hy
    obtain ⟨dx, h1, rfl⟩ := enumD_get hd
    obtain ⟨v1, hv1, rv1⟩ := r.get h1
    have q1 := g1 xs u1
    rw [hv1] at q1
    cases q1
    exact ⟨Full.new hT, m.newT hT (reps_cons rep_int (reps_cons (rv1.car c) reps_nil))⟩
theorem vi_enum {X : Cx} {e : Expr} {w : WE} {p pos tpos : Pos} {elts : List Expr} {kk : Nat} (hg : Gl X "enumerate") (hm : X.mg "enumerate" = none) (ha : VE X W e w) (hs : starEach [e] X.env = [(false, eval e X.env)] := by rfl) (hs1 : starEach [e] X.env = (false, eval e X.env) :: starEach [] X.env := by rfl) :
    VI X W (.Tuple elts kk tpos) (.Call (.Name "enumerate" p) [e] [] pos) (fun ds P => w ds fun d => enD d P) := by
  refine pi_imp (pi_enumK hg hm (pa_cons ha pa_nil hs1) hs) fun σ H R h => ?_
  obtain ⟨M0, H0, oa, ds, P, S, hw, k⟩ := h
  refine ⟨M0, H0, oa, ds, _, S, hw, fun d v H1 hd e1 i1 r1 => ?_⟩
  cases d <;> first | exact hd.elim | skip
  · obtain ⟨a, ys, rfl, t, r2⟩ := r1.tup
    exact ⟨.t, a, ys, rfl, t.sq, k _ _ H1 hd.2 (by rw [enumD_len, sizeLine_eq]; exact Nat.le_trans hd.1 (by decide)) e1 i1 (itok_en (k := .t) t r2)⟩
  · obtain ⟨a, ys, rfl, t, r2⟩ := r1.lst
    exact ⟨.l, a, ys, rfl, t.sq, k _ _ H1 hd.2 (by rw [enumD_len, sizeLine_eq]; exact Nat.le_trans hd.1 (by decide)) e1 i1 (itok_en (k := .l) t r2)⟩
end
section
variable {X : Cx} {W : Wd} {e : Expr} {pos : Pos} {vs : List Nat}
/-- a starred name among targets -/
theorem vgs_star {es : List Expr} {w : WG} {u : WGs} {sp : Pos} (h1 : VG X W vs e w) (h2 : PGs X es (LGs X.K W vs u)) (hs : (assignEach (e :: es) X.env).map (·.2) = assign e X.env :: (assignEach es X.env).map (·.2) := by rfl) (hst : (assignEach (.Starred e sp :: es) X.env).map (·.2) = (assignEach (e :: es) X.env).map (·.2) := by rfl) :
    PGs X (.Starred e sp :: es) (LGs X.K W vs (wgCons w u)) := by
  have h := vgs_cons (vs := vs) h1 h2 hs
  exact ⟨fun pins s σ H us ws Q I r q => by rw [hst]; exact h.run pins s σ H us ws Q I r q⟩
theorem wipe_nil (σ : L2.St) : wipe σ [] = σ := by
  apply List.ext_getElem?
  intro i
  rw [wipe_get]
  rfl
theorem wipeD_nil (ds : List Sl) : wipeD ds [] = ds := by
  apply List.ext_getElem?
  intro i
  unfold wipeD
  rw [List.getElem?_map]
  by_cases h : i < ds.length
  · rw [List.getElem?_range h, List.getElem?_eq_getElem h]
    simp [h]
  · rw [List.getElem?_eq_none (by simp; omega), List.getElem?_eq_none (by omega)]
    rfl
theorem mx_put_le {M0 : Addr → Prop} {oa : Nat → Option Addr} {i : Nat} {p : Addr} {H : Hp} : Car (Mx (fun a => M0 a ∨ a = p) oa) (Mx M0 (oaPut oa i p)) H H := fun b o n h => ⟨fun z => n (by
  rcases z with z | ⟨j, z⟩
  · exact .inl (.inl z)
  · unfold oaPut at z
    split at z
    · cases z; exact .inl (.inr rfl)
    · exact .inr ⟨j, z⟩), h⟩
/-- a, b = [], e: the first list is the def's own -/
theorem vs_parNil (i j : Nat) {x y : Str} {wa : WE} {px py pt dp : Pos} {kt k2 pt2} (hc : X.calm = true) (hN : X.N.Nodup) (hij : i ≠ j) (ha : VE X W e wa) (hi : X.N[i]? = some x := by rfl) (hj : X.N[j]? = some y := by rfl)
    (hx : X.env.scope.names.lookup x = some .local := by rfl) (hy : X.env.scope.names.lookup y = some .local := by rfl)
    (hw : swappedStores [.Tuple [.Name x px, .Name y py] kt pt] (.Tuple [.List [] dp, e] k2 pt2) X.env = pure (some [x, y]) := by rfl)
    (hs : swapsWithSole [.Tuple [.Name x px, .Name y py] kt pt] (.Tuple [.List [] dp, e] k2 pt2) pos.line X.env = pure false := by rfl) (hs1 : starEach [.List [] dp, e] X.env = (false, eval (.List [] dp) X.env) :: starEach [e] X.env := by rfl) (hs2 : starEach [e] X.env = (false, eval e X.env) :: starEach [] X.env := by rfl) :
    VS X W (.Assign [.Tuple [.Name x px, .Name y py] kt pt] (.Tuple [.List [] dp, e] k2 pt2) pos) (fun E ds => i < ds.length ∧ wa ds fun d => E.nx ((ds.set i (.ml [])).set j (.d d))) := by
  refine ps_imp (ps_par hc hN hi hj hij hx hy (pa_cons (pe_lst pa_nil) (pa_cons ha pa_nil hs2) hs1) hw hs) fun D σ H h => ?_
  obtain ⟨M0, H0, oa, ds, E, S, ⟨hl, hw⟩, k1, k2, k3, k4⟩ := h
  refine ⟨by show 0 ≤ sizeLine; exact Nat.zero_le _, fun p hp => ?_⟩
  have fu : Full H (upd H p (.lst [])) := Full.new hp
  have S1 := S.blk (vs := []) (Dl := p) (acc := []) (H2 := upd H p (.lst [])) rfl hp (fun b o _ z => fu b o z) (W.keep _ _ S.wi fu) upd_same
  rw [wipe_nil, wipeD_nil] at S1
  refine ⟨_, _, oa, ds, _, S1, hw, fun d v H3 hd e1 i1 r1 => ⟨.ref p, v, rfl, ?_⟩⟩
  have nA : ¬ W.A p := fun z => (W.live _ _ S.wi z) hp
  have S3 := S.takeown (i := i) hl hp (fu.ext.trans e1) i1 (xs := []) (vs := []) (e1 p _ nA upd_same) reps_nil
  exact k1 _ _ _ _ hd (S3.set (r1.car mx_put_le))
end
end VL

set_option Elab.async false
set_option linter.all false
set_option maxRecDepth 100000
set_option maxHeartbeats 2000000
set_option exponentiation.threshold 20000
/-! VRf: the plain law of forms' texts. -/
namespace VL
open PySem PySem.Spec PyProof.Rows L2 NumText
def negF : D → Bool
  | .tup [.int a, _] => decide (a < 0)
  | _ => false
def barD : D → D
  | .tup [.int a, b] => .tup [.int (if a < 0 then -a else a), b]
  | d => d
def partS (s : Str) (f : D) : Str := if s = ("" : Str) then textD f else if eqv f oneD = true then s else textD f ++ ("*" : Str) ++ s
def markF (first : Bool) (f : D) : Str := if negF f = true then (if first = true then ("-" : Str) else (" - " : Str)) else (if first = true then ("" : Str) else (" + " : Str))
def pStep (first : Bool) (acc : Str) : D → Str
  | .tup [.str s, f] => acc ++ markF first f ++ partS s (barD f)
  | _ => acc
def formS : List D → Str
  | [] => ("" : Str)
  | p :: r => r.foldl (pStep false) (pStep true ("" : Str) p)
theorem formS_snoc {l : List D} (p : D) (h : l ≠ []) : formS (l ++ [p]) = pStep false (formS l) p := by
  cases l with
  | nil => exact absurd rfl h
  | cons a r =>
    show List.foldl _ _ (r ++ [p]) = _
    rw [List.foldl_append]
    rfl
theorem formS_take {ps : List D} {i : Nat} {p : D} (h : ps[i]? = some p) : formS (ps.take (i + 1)) = pStep (decide (i = 0)) (formS (ps.take i)) p := by
  rw [take_one h]
  cases i with
  | zero => rfl
  | succ i =>
    rw [decide_eq_false (Nat.succ_ne_zero i)]
    refine formS_snoc p fun e => ?_
    have hl := (List.getElem?_eq_some_iff.mp h).1
    have := congrArg List.length e
    rw [List.length_take, List.length_nil] at this
    omega
def constP (ts : List D) (c : D) : List D := if isZ c = true ∧ ts ≠ [] then [] else [.tup [.str ("" : Str), c]]
def partsD (ts : List D) (c : D) : List D := ts ++ constP ts c
/-! words -/
def sgnT (f : D) : Str := if negF f = true then ("-" : Str) else ("+" : Str)
def wordW : D → Str
  | .tup [.str s, f] => partS s (barD f)
  | _ => ("" : Str)
def facW : D → D
  | .tup [_, f] => f
  | _ => .non
def headW (p : D) : Str := (if negF (facW p) = true then ("-" : Str) else ("" : Str)) ++ wordW p
def moreW (p : D) : List Str := [sgnT (facW p), wordW p]
def wordsS : List D → List Str
  | [] => []
  | p :: r => headW p :: r.flatMap moreW
/-- a part of a form's text: an amount of few digits, with a name or without -/
structure PartOk (p : D) : Prop where
  ex : ∃ (s : Str) (a b : Int), p = .tup [.str s, .tup [.int a, .int b]] ∧ (s = ("" : Str) ∨ nmS s = true) ∧ 0 < b ∧ Int.gcd a b = 1 ∧ a.natAbs < 10 ^ 30 ∧ b.natAbs < 10 ^ 30
theorem joinL_app (S a b : List Nat) : ∀ l : List (List Nat), l ≠ [] → TL.joinL S (l ++ [a, b]) = TL.joinL S l ++ (S ++ (a ++ (S ++ b)))
  | [], h => absurd rfl h
  | [p], _ => rfl
  | p :: q :: r, _ => by
    show p ++ (S ++ TL.joinL S (q :: r ++ [a, b])) = p ++ (S ++ TL.joinL S (q :: r)) ++ _
    rw [joinL_app S a b (q :: r) (by simp), List.append_assoc, List.append_assoc]
def spS : Str := (" " : Str)
theorem tl_sp : TL.tl spS = [32] := rfl
theorem join_more {W : List Str} (a b : Str) (h : W ≠ []) : Str.join spS (W ++ [a, b]) = Str.join spS W ++ spS ++ a ++ spS ++ b := by
  refine TL.ext_tl ?_
  rw [TL.tl_join, TL.tl_append, TL.tl_append, TL.tl_append, TL.tl_append, TL.tl_join, List.map_append]
  show TL.joinL _ (W.map TL.tl ++ [TL.tl a, TL.tl b]) = _
  rw [joinL_app _ _ _ _ (by simpa using h)]
  simp [List.append_assoc]
theorem step_more {s : Str} {f : D} (acc : Str) : pStep false acc (.tup [.str s, f]) = acc ++ spS ++ sgnT f ++ spS ++ partS s (barD f) := by
  show acc ++ markF false f ++ partS s (barD f) = _
  have e : markF false f = spS ++ sgnT f ++ spS := by
    unfold markF sgnT
    cases negF f <;> decide
  rw [e]
  refine TL.ext_tl ?_
  simp [TL.tl_append, List.append_assoc]
theorem fold_more : ∀ (r : List D) (W : List Str) (acc : Str), W ≠ [] → acc = Str.join spS W → (∀ p ∈ r, ∃ s f, p = .tup [.str s, f]) → r.foldl (pStep false) acc = Str.join spS (W ++ r.flatMap moreW)
  | [], W, acc, _, e, _ => by rw [e, List.flatMap_nil, List.append_nil]; rfl
  | p :: r, W, acc, hW, e, hr => by
    obtain ⟨s, f, rfl⟩ := hr p (.head _)
    rw [List.foldl_cons, List.flatMap_cons, ← List.append_assoc]
    refine fold_more r _ _ (by simp [hW]) ?_ fun p hp => hr p (.tail _ hp)
    rw [step_more, e]
    show _ = Str.join spS (W ++ [sgnT f, partS s (barD f)])
    rw [join_more _ _ hW]
theorem formS_join {ps : List D} (h : ∀ p ∈ ps, PartOk p) (hn : ps ≠ []) : formS ps = Txt.join spS (wordsS ps) := by
  rw [TL.join_eq]
  cases ps with
  | nil => exact absurd rfl hn
  | cons p r =>
    have h' : ∀ p ∈ r, ∃ s f, p = D.tup [.str s, f] := fun p hp => by
      obtain ⟨s, a, b, e, _⟩ := (h p (.tail _ hp)).ex
      exact ⟨_, _, e⟩
    obtain ⟨s, a, b, rfl, _⟩ := (h p (.head _)).ex
    refine fold_more r [headW _] _ (by simp) ?_ h'
    show ("" : Str) ++ markF true _ ++ _ = headW _
    rw [show (("" : Str) ++ markF true (.tup [.int a, .int b]) : Str) = (if negF (.tup [.int a, .int b]) = true then ("-" : Str) else ("" : Str)) by unfold markF; cases negF (.tup [.int a, .int b]) <;> decide]
    rfl
/-! signs of texts -/
theorem abc_sp {c : Nat} (h : c ∈ abcL) : 97 ≤ c ∧ c ≤ 122 := by
  have key : ∀ c ∈ abcL, 97 ≤ c ∧ c ≤ 122 := by decide +kernel
  exact key c h
theorem nm_sign {s : Str} (h : nmS s = true) : ∀ c ∈ TL.tl s, 97 ≤ c ∧ c ≤ 122 := fun c hc => by
  unfold nmS at h
  simp only [Bool.and_eq_true, List.all_eq_true] at h
  exact abc_sp (of_decide_eq_true (h.2 c hc))
theorem nm_ne {s : Str} (h : nmS s = true) : TL.tl s ≠ [] := fun e => by
  unfold nmS at h
  simp only [Bool.and_eq_true] at h
  have h1 := of_decide_eq_true h.1.1
  rw [tl_len, e] at h1
  exact absurd h1 (by decide)
theorem tl_amt {a b : Int} : TL.tl (textD (.tup [.int a, .int b])) = if b = 1 then textL a else textL a ++ 47 :: textL b := by
  show TL.tl (if b = 1 then _ else _) = _
  split
  · rfl
  · rw [TL.tl_append, TL.tl_append, List.append_assoc]
    rfl
theorem textL_nn {a : Int} (h : 0 ≤ a) : ∀ c ∈ textL a, 48 ≤ c ∧ c ≤ 57 := fun c hc => by
  obtain ⟨n, rfl⟩ := Int.eq_ofNat_of_zero_le h
  rw [textL_nat] at hc
  exact TL.numL_digits n c hc
theorem textL_ne (a : Int) (h : 0 ≤ a) : textL a ≠ [] := by
  obtain ⟨n, rfl⟩ := Int.eq_ofNat_of_zero_le h
  rw [textL_nat]
  exact TL.numL_ne n
theorem amt_sign {a b : Int} (ha : 0 ≤ a) (hb : 0 < b) : ∀ c ∈ TL.tl (textD (.tup [.int a, .int b])), c = 47 ∨ (48 ≤ c ∧ c ≤ 57) := fun c hc => by
  rw [tl_amt] at hc
  split at hc
  · exact .inr (textL_nn ha c hc)
  · rcases List.mem_append.mp hc with hc | hc
    · exact .inr (textL_nn ha c hc)
    · rcases List.mem_cons.mp hc with hc | hc
      · exact .inl hc
      · exact .inr (textL_nn (Int.le_of_lt hb) c hc)
theorem amt_head {a b : Int} (ha : 0 ≤ a) : ∃ c r, TL.tl (textD (.tup [.int a, .int b])) = c :: r ∧ 48 ≤ c ∧ c ≤ 57 := by
  rw [tl_amt]
  cases e : textL a with
  | nil => exact absurd e (textL_ne a ha)
  | cons c r =>
    have := textL_nn ha c (by rw [e]; exact .head _)
    split
    · exact ⟨c, r, rfl, this⟩
    · exact ⟨c, r ++ 47 :: textL b, rfl, this⟩
theorem amt_back {a b : Int} (ha : a.natAbs < 10 ^ 30) (hb : 0 < b) (hb2 : b.natAbs < 10 ^ 30) (hg : Int.gcd a b = 1) : amtIn (TL.tl (textD (.tup [.int a, .int b]))) = some (a, b) := by
  rw [tl_amt]
  split
  · rename_i e
    rw [e]
    exact amt_one ha
  · exact amt_two ha hb2 (by omega) hg
/-! a word read -/
def starS : Str := ("*" : Str)
def partIn (z : Str) : D := if nmS z = true then .tup [.str z, oneD] else match amtIn (TL.tl (Txt.partition z starS).1) with
  | none => .non
  | some (a, b) => if (Txt.partition z starS).2.1 ≠ ("" : Str) ∧ nmS (Txt.partition z starS).2.2 = false then .non else .tup [.str (Txt.partition z starS).2.2, .tup [.int a, .int b]]
theorem one_eqv {a b : Int} : eqv (.tup [.int a, .int b]) oneD = true ↔ a = 1 ∧ b = 1 := by
  unfold oneD
  rw [eqv_amt, Bool.and_eq_true, decide_eq_true_iff, decide_eq_true_iff]
theorem not_nm {z : Str} {c : Nat} (h : c ∈ TL.tl z) (hc : c < 97 ∨ 122 < c) : nmS z = false := by
  cases e : nmS z with
  | false => rfl
  | true => have := nm_sign e c h; omega
theorem part_back {s : Str} {a b : Int} (hs : s = ("" : Str) ∨ nmS s = true) (h0 : 0 ≤ a) (ha : a.natAbs < 10 ^ 30) (hb : 0 < b) (hb2 : b.natAbs < 10 ^ 30) (hg : Int.gcd a b = 1) : partIn (partS s (.tup [.int a, .int b])) = .tup [.str s, .tup [.int a, .int b]] := by
  have back := amt_back ha hb hb2 hg
  have sg := amt_sign h0 hb
  have no42 : (42 : Nat) ∉ TL.tl (textD (.tup [.int a, .int b])) := fun h => by have := sg _ h; omega
  obtain ⟨c, r, e, c1, c2⟩ := amt_head (b := b) h0
  have hd : c ∈ TL.tl (textD (.tup [.int a, .int b])) := by rw [e]; exact .head _
  unfold partS
  split
  · rename_i es
    subst es
    have ep : Txt.partition (textD (.tup [.int a, .int b])) starS = (textD (.tup [.int a, .int b]), Str.empty, Str.empty) := TL.partition_none (S := []) rfl no42
    unfold partIn
    rw [if_neg (by rw [not_nm hd (by omega)]; simp), ep]
    dsimp only
    rw [back]
    dsimp only
    rw [if_neg (fun z => z.1 (by decide))]
    rfl
  · rename_i es
    have hn : nmS s = true := hs.resolve_left es
    split
    · rename_i e1
      obtain ⟨rfl, rfl⟩ := one_eqv.mp e1
      unfold partIn
      rw [if_pos hn]
      rfl
    · have ep : Txt.partition (textD (.tup [.int a, .int b]) ++ starS ++ s) starS = (textD (.tup [.int a, .int b]), starS, s) := TL.partition_app (S := []) rfl no42
      unfold partIn
      have hm : c ∈ TL.tl (textD (.tup [.int a, .int b]) ++ ("*" : Str) ++ s) := by
        rw [TL.tl_append, TL.tl_append]
        exact List.mem_append_left _ (List.mem_append_left _ hd)
      rw [if_neg (by rw [not_nm hm (by omega)]; simp), show (textD (.tup [.int a, .int b]) ++ ("*" : Str) ++ s : Str) = textD (.tup [.int a, .int b]) ++ starS ++ s from rfl, ep]
      dsimp only
      rw [back]
      dsimp only
      rw [if_neg (fun z => by rw [hn] at z; cases z.2)]
theorem word_sign {s : Str} {a b : Int} (hs : s = ("" : Str) ∨ nmS s = true) (h0 : 0 ≤ a) (hb : 0 < b) : (∀ c ∈ TL.tl (partS s (.tup [.int a, .int b])), c ≠ 32) ∧ ∃ c r, TL.tl (partS s (.tup [.int a, .int b])) = c :: r ∧ c ≠ 45 := by
  have sg := amt_sign h0 hb
  obtain ⟨c, r, e, c1, c2⟩ := amt_head (b := b) h0
  unfold partS
  split
  · exact ⟨fun x hx => by have := sg x hx; omega, c, r, e, by omega⟩
  · rename_i es
    have hn : nmS s = true := hs.resolve_left es
    have ns := nm_sign hn
    split
    · refine ⟨fun x hx => by have := ns x hx; omega, ?_⟩
      cases en : TL.tl s with
      | nil => exact absurd en (nm_ne hn)
      | cons x l => exact ⟨x, l, rfl, by have := ns x (by rw [en]; exact .head _); omega⟩
    · rw [TL.tl_append, TL.tl_append]
      refine ⟨fun x hx => ?_, c, _, by rw [e]; rfl, by omega⟩
      rcases List.mem_append.mp hx with hx | hx
      · rcases List.mem_append.mp hx with hx | hx
        · have := sg x hx; omega
        · have hx : x ∈ [42] := hx
          rw [List.mem_singleton.mp hx]; decide
      · have := ns x hx; omega
/-! a text read -/
theorem sw_minus (z : Str) : Txt.startswith z ("-" : Str) = decide ((TL.tl z).head? = some 45) := by
  unfold Txt.startswith
  rw [PySem.StrLaws.subAt_eq]
  have e1 : ("-" : Str).length = 1 := rfl
  have e2 : ("-" : Str).cps.toList = [45] := rfl
  rw [e1, e2, tl_len z]
  show (decide (0 + 1 ≤ (TL.tl z).length) && (((TL.tl z).drop 0).take 1 == [45])) = _
  cases TL.tl z with
  | nil => rfl
  | cons c r =>
    by_cases hc : c = 45
    · subst hc; rfl
    · have : ((c :: r).drop 0).take 1 = [c] := rfl
      rw [this, decide_eq_true (show 0 + 1 ≤ (c :: r).length by simp), Bool.true_and]
      simp [hc]
def inStep : Option (List D × D) → D → Option (List D × D)
  | some (ts, c), .tup [.str m, .str w] => match partIn w with
    | .tup [.str s, f] => if s = ("" : Str) then some (ts, if m = ("+" : Str) then plusD c f else minusD c f) else some (ts ++ [.tup [.str s, if m = ("+" : Str) then f else negA f]], c)
    | _ => none
  | _, _ => none
def mrksOf (z : Str) : List Str := match Txt.split z spS with
  | [] => []
  | w :: r => (if Txt.startswith w ("-" : Str) = true then ("-" : Str) else ("+" : Str)) :: evens r
def wrdsOf (z : Str) : List Str := match Txt.split z spS with
  | [] => []
  | w :: r => Txt.removeprefix w ("-" : Str) :: evens (r.drop 1)
def markQ (m : Str) : Bool := decide (m = ("+" : Str)) || decide (m = ("-" : Str))
def itemsOf (z : Str) : List D := zipsD ((mrksOf z).map D.str) ((wrdsOf z).map D.str)
def formTo (ts : List D) (c : D) : D := formD ts c
def formOut (z : Str) : Option (List D × D) → D
  | none => .non
  | some (ts, c) => if formS (partsD (formTs (totals ts)) c) = z then formD ts c else .non
def formIn (z : Str) : D := if (mrksOf z).length = (wrdsOf z).length ∧ (mrksOf z).all markQ = true then formOut z ((itemsOf z).foldl inStep (some ([], zeroD))) else .non
/-- its own text, read back -/
theorem evens_cons {α : Type} (b : α) (l : List α) : evens (b :: l) = b :: evens (l.drop 1) := by cases l <;> rfl
theorem evens_marks : ∀ r : List D, evens (r.flatMap moreW) = r.map fun p => sgnT (facW p)
  | [] => rfl
  | p :: r => by
    show evens (sgnT (facW p) :: wordW p :: r.flatMap moreW) = _
    show sgnT (facW p) :: evens (r.flatMap moreW) = _
    rw [evens_marks r]
    rfl
theorem evens_words : ∀ r : List D, evens ((r.flatMap moreW).drop 1) = r.map wordW
  | [] => rfl
  | p :: r => by
    show evens (wordW p :: r.flatMap moreW) = _
    rw [evens_cons, evens_words r]
    rfl
theorem fac_bar {a b : Int} : barD (.tup [.int a, .int b]) = .tup [.int (a.natAbs : Int), .int b] := by
  show D.tup [.int (if a < 0 then -a else a), .int b] = _
  congr 3
  split <;> omega
theorem PartOk.word {p : D} (h : PartOk p) : (∀ c ∈ TL.tl (wordW p), c ≠ 32) ∧ (∃ c r, TL.tl (wordW p) = c :: r ∧ c ≠ 45) ∧ ∃ s, p = .tup [.str s, facW p] ∧ partIn (wordW p) = .tup [.str s, barD (facW p)] := by
  obtain ⟨s, a, b, rfl, hs, hb, hg, ha, hb2⟩ := h.ex
  have h1 := word_sign (a := (a.natAbs : Int)) hs (by omega) hb
  have h2 := part_back (a := (a.natAbs : Int)) hs (by omega) (by omega) hb hb2 (by show Nat.gcd (Int.natAbs (a.natAbs : Int)) b.natAbs = 1; rw [Int.natAbs_natCast]; exact hg)
  have e : wordW (.tup [.str s, .tup [.int a, .int b]]) = partS s (.tup [.int (a.natAbs : Int), .int b]) := by
    show partS s (barD _) = _
    rw [fac_bar]
  rw [e]
  refine ⟨h1.1, h1.2, s, rfl, ?_⟩
  rw [h2]
  show _ = D.tup [.str s, barD (.tup [.int a, .int b])]
  rw [fac_bar]
theorem split_form {ps : List D} (h : ∀ p ∈ ps, PartOk p) (hn : ps ≠ []) : Txt.split (formS ps) spS = wordsS ps := by
  rw [formS_join h hn]
  refine TL.split_join (s := 32) (S := []) rfl (by decide +kernel) ?_ ?_
  · cases ps with
    | nil => exact absurd rfl hn
    | cons p r => simp [wordsS]
  · cases ps with
    | nil => exact absurd rfl hn
    | cons p r =>
      intro w hw hc
      rcases List.mem_cons.mp hw with rfl | hw
      · unfold headW at hc
        rw [TL.tl_append] at hc
        rcases List.mem_append.mp hc with hc | hc
        · revert hc
          split <;> decide
        · exact (h p (.head _)).word.1 _ hc rfl
      · obtain ⟨q, hq, hw⟩ := List.mem_flatMap.mp hw
        have hw : w ∈ [sgnT (facW q), wordW q] := hw
        simp only [List.mem_cons, List.not_mem_nil, or_false] at hw
        rcases hw with rfl | rfl
        · revert hc
          unfold sgnT
          split <;> decide
        · exact (h q (.tail _ hq)).word.1 _ hc rfl
theorem marks_form {ps : List D} (h : ∀ p ∈ ps, PartOk p) (hn : ps ≠ []) : mrksOf (formS ps) = ps.map (fun p => sgnT (facW p)) ∧ wrdsOf (formS ps) = ps.map wordW := by
  unfold mrksOf wrdsOf
  rw [split_form h hn]
  cases ps with
  | nil => exact absurd rfl hn
  | cons p r =>
    obtain ⟨h1, ⟨c, l, e, hc⟩, _⟩ := (h p (.head _)).word
    have key : (if Txt.startswith (headW p) ("-" : Str) = true then ("-" : Str) else ("+" : Str)) = sgnT (facW p) ∧ Txt.removeprefix (headW p) ("-" : Str) = wordW p := by
      rw [sw_minus]
      unfold sgnT headW
      cases negF (facW p) with
      | true =>
        have e2 : TL.tl ((if true = true then ("-" : Str) else ("" : Str)) ++ wordW p) = 45 :: TL.tl (wordW p) := by rw [TL.tl_append]; rfl
        refine ⟨by rw [e2]; rfl, TL.ext_tl ?_⟩
        rw [rmp_bare, e2]
        rfl
      | false =>
        have e2 : TL.tl ((if false = true then ("-" : Str) else ("" : Str)) ++ wordW p) = c :: l := by rw [TL.tl_append]; exact e
        refine ⟨?_, TL.ext_tl ?_⟩
        · rw [e2]
          show (if decide (some c = some 45) = true then _ else _) = _
          rw [decide_eq_false (fun z => hc (Option.some.inj z))]
        · rw [rmp_bare, e2, e]
          show (if c = 45 then l else c :: l) = _
          rw [if_neg hc]
    show ((if Txt.startswith (headW p) _ = true then _ else _) :: evens (r.flatMap moreW) = _) ∧ (Txt.removeprefix (headW p) _ :: evens ((r.flatMap moreW).drop 1) = _)
    rw [key.1, key.2, evens_marks, evens_words]
    exact ⟨rfl, rfl⟩
/-- a form as forms are, of few digits -/
structure FormN (ts : List D) (c : D) : Prop where
  pr : ∀ t ∈ ts, ∃ (s : Str) (a b : Int), t = .tup [.str s, .tup [.int a, .int b]] ∧ nmS s = true ∧ 0 < b ∧ Int.gcd a b = 1 ∧ a.natAbs < 10 ^ 30 ∧ b.natAbs < 10 ^ 30 ∧ a ≠ 0
  nd : (ts.filterMap keyOf).Nodup
  so : (ts.filterMap keyOf).Pairwise fun a b => leS a b = true
  c : ∃ a b : Int, c = .tup [.int a, .int b] ∧ 0 < b ∧ Int.gcd a b = 1 ∧ a.natAbs < 10 ^ 30 ∧ b.natAbs < 10 ^ 30
theorem nm_not_nil {s : Str} (h : nmS s = true) : s ≠ ("" : Str) := fun e => nm_ne h (by rw [e]; rfl)
theorem FormN.parts {ts : List D} {c : D} (h : FormN ts c) : ∀ p ∈ partsD ts c, PartOk p := fun p hp => by
  rcases List.mem_append.mp hp with hp | hp
  · obtain ⟨s, a, b, rfl, h1, h2, h3, h4, h5, _⟩ := h.pr p hp
    exact ⟨s, a, b, rfl, .inr h1, h2, h3, h4, h5⟩
  · unfold constP at hp
    split at hp
    · cases hp
    · obtain ⟨a, b, e, h2, h3, h4, h5⟩ := h.c
      rw [List.mem_singleton.mp hp, e]
      exact ⟨_, a, b, rfl, .inl rfl, h2, h3, h4, h5⟩
theorem parts_ne (ts : List D) (c : D) : partsD ts c ≠ [] := fun e => by
  obtain ⟨e1, e2⟩ := List.append_eq_nil_iff.mp e
  unfold constP at e2
  split at e2
  · rename_i z; exact z.2 e1
  · cases e2
theorem amt100 {a b : Int} (h2 : 0 < b) (h3 : Int.gcd a b = 1) (h4 : a.natAbs < 10 ^ 30) (h5 : b.natAbs < 10 ^ 30) : AmtD 100 (.tup [.int a, .int b]) := ⟨a, b, rfl, h2, h3, Nat.lt_of_lt_of_le h4 (Nat.le_of_ble_eq_true rfl), Nat.lt_of_lt_of_le h5 (Nat.le_of_ble_eq_true rfl)⟩
theorem minus_back {a b : Int} (h : negF (.tup [.int a, .int b]) = true) : negA (barD (.tup [.int a, .int b])) = .tup [.int a, .int b] := by
  have h : a < 0 := of_decide_eq_true h
  rw [fac_bar]
  show D.tup [.int (0 - (a.natAbs : Int)), .int b] = _
  congr 3
  omega
theorem plus_back {a b : Int} (h : negF (.tup [.int a, .int b]) = false) : barD (.tup [.int a, .int b]) = .tup [.int a, .int b] := by
  have h : ¬ a < 0 := of_decide_eq_false h
  rw [fac_bar]
  congr 3
  omega
def itemW (p : D) : D := .tup [.str (sgnT (facW p)), .str (wordW p)]
theorem step_term {s : Str} {a b : Int} {acc : List D} {c : D} (hn : nmS s = true) (ok : PartOk (.tup [.str s, .tup [.int a, .int b]])) : inStep (some (acc, c)) (itemW (.tup [.str s, .tup [.int a, .int b]])) = some (acc ++ [.tup [.str s, .tup [.int a, .int b]]], c) := by
  obtain ⟨_, _, s', e, hp⟩ := ok.word
  cases e
  show (match partIn (wordW (D.tup [.str s, .tup [.int a, .int b]])) with
    | D.tup [.str s, f] => if s = ("" : Str) then some (acc, if sgnT (D.tup [.int a, .int b]) = ("+" : Str) then plusD c f else minusD c f) else some (acc ++ [D.tup [.str s, if sgnT (D.tup [.int a, .int b]) = ("+" : Str) then f else negA f]], c)
    | _ => none) = _
  rw [hp]
  dsimp only
  rw [if_neg (nm_not_nil hn)]
  show some (acc ++ [D.tup [.str s, if sgnT (D.tup [.int a, .int b]) = ("+" : Str) then barD (.tup [.int a, .int b]) else negA (barD (.tup [.int a, .int b]))]], c) = _
  unfold sgnT
  cases en : negF (.tup [.int a, .int b]) with
  | true => rw [minus_back en]; rfl
  | false => rw [plus_back en]; rfl
theorem step_const {a b : Int} {acc : List D} (h2 : 0 < b) (h3 : Int.gcd a b = 1) (h4 : a.natAbs < 10 ^ 30) (h5 : b.natAbs < 10 ^ 30) (ok : PartOk (.tup [.str ("" : Str), .tup [.int a, .int b]])) : inStep (some (acc, zeroD)) (itemW (.tup [.str ("" : Str), .tup [.int a, .int b]])) = some (acc, .tup [.int a, .int b]) := by
  obtain ⟨_, _, s', e, hp⟩ := ok.word
  cases e
  show (match partIn (wordW (D.tup [.str ("" : Str), .tup [.int a, .int b]])) with
    | D.tup [.str s, f] => if s = ("" : Str) then some (acc, if sgnT (D.tup [.int a, .int b]) = ("+" : Str) then plusD zeroD f else minusD zeroD f) else some (acc ++ [D.tup [.str s, if sgnT (D.tup [.int a, .int b]) = ("+" : Str) then f else negA f]], zeroD)
    | _ => none) = _
  rw [hp]
  dsimp only
  rw [if_pos rfl]
  show some (acc, if sgnT (D.tup [.int a, .int b]) = ("+" : Str) then plusD zeroD (barD (.tup [.int a, .int b])) else minusD zeroD (barD (.tup [.int a, .int b]))) = _
  have A := amt100 h2 h3 h4 h5
  unfold sgnT
  cases en : negF (.tup [.int a, .int b]) with
  | true =>
    show some (acc, plusD zeroD (negA (barD (.tup [.int a, .int b])))) = _
    rw [minus_back en, plus_zero A]
  | false =>
    show some (acc, plusD zeroD (barD (.tup [.int a, .int b]))) = _
    rw [plus_back en, plus_zero A]
theorem fold_terms : ∀ (ts acc : List D) (c : D), (∀ t ∈ ts, ∃ s a b, t = D.tup [.str s, .tup [.int a, .int b]] ∧ nmS s = true ∧ PartOk t) → (ts.map itemW).foldl inStep (some (acc, c)) = some (acc ++ ts, c)
  | [], acc, c, _ => by rw [List.append_nil]; rfl
  | t :: ts, acc, c, h => by
    obtain ⟨s, a, b, rfl, hn, ok⟩ := h t (.head _)
    rw [List.map_cons, List.foldl_cons, step_term hn ok, fold_terms ts _ c fun t ht => h t (.tail _ ht), List.append_assoc]
    rfl
theorem items_form {ps : List D} (h : ∀ p ∈ ps, PartOk p) (hn : ps ≠ []) : itemsOf (formS ps) = ps.map itemW := by
  unfold itemsOf zipsD
  rw [(marks_form h hn).1, (marks_form h hn).2, List.map_map, List.map_map, List.zip_map', List.map_map]
  rfl
theorem mark_all (ps : List D) : (ps.map fun p => sgnT (facW p)).all markQ = true := by
  rw [List.all_map, List.all_eq_true]
  intro p _
  show markQ (sgnT (facW p)) = true
  unfold sgnT
  cases negF (facW p) <;> decide
theorem form_self {ts : List D} {c : D} (h : FormN ts c) : formTs (totals ts) = ts := formTs_self (n := 100) (fun p hp => by
  obtain ⟨s, a, b, rfl, h1, h2, h3, h4, h5, h6⟩ := h.pr p hp
  exact ⟨s, _, rfl, amt100 h2 h3 h4 h5, by show (decide (a = 0) && decide (b = 1)) = false; rw [decide_eq_false h6]; rfl⟩) h.nd h.so
/-- THE READ-BACK of a form -/
theorem form_back {ts : List D} {c : D} (h : FormN ts c) : formIn (formS (partsD ts c)) = .tup [.tup ts, c] := by
  have ok := h.parts
  have ne := parts_ne ts c
  unfold formIn
  rw [items_form ok ne, (marks_form ok ne).1, (marks_form ok ne).2, if_pos ⟨by rw [List.length_map, List.length_map], mark_all _⟩]
  have ht : ∀ t ∈ ts, ∃ s a b, t = D.tup [.str s, .tup [.int a, .int b]] ∧ nmS s = true ∧ PartOk t := fun t ht => by
    obtain ⟨s, a, b, e, h1, _⟩ := h.pr t ht
    exact ⟨s, a, b, e, h1, ok t (List.mem_append_left _ ht)⟩
  have hc : ((partsD ts c).map itemW).foldl inStep (some ([], zeroD)) = some (ts, c) := by
    unfold partsD
    rw [List.map_append, List.foldl_append, fold_terms ts [] zeroD ht, List.nil_append]
    obtain ⟨a, b, rfl, h2, h3, h4, h5⟩ := h.c
    unfold constP
    split
    · rename_i z
      have : D.tup [.int a, .int b] = zeroD := isZ_zero (amt100 h2 h3 h4 h5) z.1
      rw [this]
      rfl
    · rename_i z
      refine step_const h2 h3 h4 h5 (ok _ ?_)
      unfold partsD constP
      rw [if_neg z]
      exact List.mem_append_right _ (.head _)
  rw [hc]
  show (if formS (partsD (formTs (totals ts)) c) = _ then formD ts c else .non) = _
  rw [form_self h, if_pos rfl]
  unfold formD
  rw [form_self h]
end VL

set_option Elab.async false
set_option linter.all false
set_option maxRecDepth 100000
set_option maxHeartbeats 4000000
set_option exponentiation.threshold 20000
namespace Law
open PySem PySem.Spec PyProof.Rows L2 VL
def topS (i : Nat) : Stmt := PySem.Challenge.pw_unseenzero_k07_texts_of_forms.main.body.getD i (.Pass ⟨0, 0, 0, 0⟩)
abbrev s_InvalidAmount___init__ : Stmt := inClass (topS 2) 0
abbrev s_InvalidText___init__ : Stmt := inClass (topS 3) 0
abbrev s_is_integer : Stmt := topS 7
abbrev s_is_name : Stmt := topS 8
abbrev s_common_divisor : Stmt := topS 15
abbrev s_amount : Stmt := topS 16
abbrev s_is_amount : Stmt := topS 17
abbrev s_plus : Stmt := topS 18
abbrev s_minus : Stmt := topS 19
abbrev s_opposite : Stmt := topS 20
abbrev s_sign : Stmt := topS 21
abbrev s_amount_text : Stmt := topS 22
abbrev s_integer_in : Stmt := topS 23
abbrev s_amount_in : Stmt := topS 24
abbrev s_form_of : Stmt := topS 26
abbrev s_part_text : Stmt := topS 27
abbrev s_form_text : Stmt := topS 28
abbrev s_part_in : Stmt := topS 29
abbrev s_form_in : Stmt := topS 30
abbrev s_read_form : Stmt := topS 31
abbrev s_l_source : Stmt := topS 33
abbrev s_l_draw : Stmt := topS 34
abbrev s_l_choice : Stmt := topS 35
abbrev s_l_same : Stmt := topS 36
abbrev s_l_divisor : Stmt := topS 37
abbrev s_l_ratio : Stmt := topS 38
abbrev s_l_plus : Stmt := topS 39
abbrev s_l_amount : Stmt := topS 40
abbrev s_l_far : Stmt := topS 41
abbrev s_l_factor : Stmt := topS 42
abbrev s_l_names : Stmt := topS 43
abbrev s_l_form_of : Stmt := topS 44
abbrev s_l_amount_text : Stmt := topS 45
abbrev s_l_form_text : Stmt := topS 46
abbrev s_law : Stmt := topS 47
theorem sc_InvalidAmount___init__ : FnScope ["self", "given"] ["self", "given"] (defScope s_InvalidAmount___init__) := ⟨rfl, rfl, rfl, by decide +kernel, rfl, by decide +kernel, by decide +kernel⟩
theorem sc_InvalidText___init__ : FnScope ["self", "row"] ["self", "row"] (defScope s_InvalidText___init__) := ⟨rfl, rfl, rfl, by decide +kernel, rfl, by decide +kernel, by decide +kernel⟩
theorem sc_is_integer : FnScope ["value"] ["value"] (defScope s_is_integer) := ⟨rfl, rfl, rfl, by decide +kernel, rfl, by decide +kernel, by decide +kernel⟩
theorem sc_is_name : FnScope ["value", "letter"] ["value"] (defScope s_is_name) := ⟨rfl, rfl, rfl, by decide +kernel, rfl, by decide +kernel, by decide +kernel⟩
theorem sc_common_divisor : FnScope ["one", "other"] ["one", "other"] (defScope s_common_divisor) := ⟨rfl, rfl, rfl, by decide +kernel, rfl, by decide +kernel, by decide +kernel⟩
theorem sc_amount : FnScope ["top", "bottom", "by"] ["top", "bottom"] (defScope s_amount) := ⟨rfl, rfl, rfl, by decide +kernel, rfl, by decide +kernel, by decide +kernel⟩
theorem sc_is_amount : FnScope ["value", "part"] ["value"] (defScope s_is_amount) := ⟨rfl, rfl, rfl, by decide +kernel, rfl, by decide +kernel, by decide +kernel⟩
theorem sc_plus : FnScope ["one", "other"] ["one", "other"] (defScope s_plus) := ⟨rfl, rfl, rfl, by decide +kernel, rfl, by decide +kernel, by decide +kernel⟩
theorem sc_minus : FnScope ["one", "other"] ["one", "other"] (defScope s_minus) := ⟨rfl, rfl, rfl, by decide +kernel, rfl, by decide +kernel, by decide +kernel⟩
theorem sc_opposite : FnScope ["one"] ["one"] (defScope s_opposite) := ⟨rfl, rfl, rfl, by decide +kernel, rfl, by decide +kernel, by decide +kernel⟩
theorem sc_sign : FnScope ["one"] ["one"] (defScope s_sign) := ⟨rfl, rfl, rfl, by decide +kernel, rfl, by decide +kernel, by decide +kernel⟩
theorem sc_amount_text : FnScope ["one"] ["one"] (defScope s_amount_text) := ⟨rfl, rfl, rfl, by decide +kernel, rfl, by decide +kernel, by decide +kernel⟩
theorem sc_integer_in : FnScope ["text", "digits", "found", "digit"] ["text"] (defScope s_integer_in) := ⟨rfl, rfl, rfl, by decide +kernel, rfl, by decide +kernel, by decide +kernel⟩
theorem sc_amount_in : FnScope ["text", "top", "bottom", "first", "bar", "second"] ["text"] (defScope s_amount_in) := ⟨rfl, rfl, rfl, by decide +kernel, rfl, by decide +kernel, by decide +kernel⟩
theorem sc_form_of : FnScope ["terms", "constant", "totals", "name", "factor"] ["terms", "constant"] (defScope s_form_of) := ⟨rfl, rfl, rfl, by decide +kernel, rfl, by decide +kernel, by decide +kernel⟩
theorem sc_part_text : FnScope ["name", "factor"] ["name", "factor"] (defScope s_part_text) := ⟨rfl, rfl, rfl, by decide +kernel, rfl, by decide +kernel, by decide +kernel⟩
theorem sc_form_text : FnScope ["form", "parts", "found", "at", "below", "name", "factor"] ["form"] (defScope s_form_text) := ⟨rfl, rfl, rfl, by decide +kernel, rfl, by decide +kernel, by decide +kernel⟩
theorem sc_part_in : FnScope ["text", "factor", "first", "star", "name"] ["text"] (defScope s_part_in) := ⟨rfl, rfl, rfl, by decide +kernel, rfl, by decide +kernel, by decide +kernel⟩
theorem sc_form_in : FnScope ["text", "found", "first", "signs", "words", "terms", "constant", "mark", "word", "part", "rest"] ["text"] (defScope s_form_in) := ⟨rfl, rfl, rfl, by decide +kernel, rfl, by decide +kernel, by decide +kernel⟩
theorem sc_read_form : FnScope ["text", "found"] ["text"] (defScope s_read_form) := ⟨rfl, rfl, rfl, by decide +kernel, rfl, by decide +kernel, by decide +kernel⟩
theorem sc_l_source : FnScope ["_law_script", "_law_seed", "_law_cell"] ["_law_script"] (defScope s_l_source) := ⟨rfl, rfl, rfl, by decide +kernel, rfl, by decide +kernel, by decide +kernel⟩
theorem sc_l_draw : FnScope ["_law_rng", "_law_many", "_law_seed", "_law_cell", "_law_got"] ["_law_rng", "_law_many"] (defScope s_l_draw) := ⟨rfl, rfl, rfl, by decide +kernel, rfl, by decide +kernel, by decide +kernel⟩
theorem sc_l_choice : FnScope ["_law_rng", "_law_some"] ["_law_rng", "_law_some"] (defScope s_l_choice) := ⟨rfl, rfl, rfl, by decide +kernel, rfl, by decide +kernel, by decide +kernel⟩
theorem sc_l_same : FnScope ["_law_result", "_law_expected", "_law_kind_so", "_law_a", "_law_b"] ["_law_result", "_law_expected"] (defScope s_l_same) := ⟨rfl, rfl, rfl, by decide +kernel, rfl, by decide +kernel, by decide +kernel⟩
theorem sc_l_divisor : FnScope ["_law_one", "_law_other"] ["_law_one", "_law_other"] (defScope s_l_divisor) := ⟨rfl, rfl, rfl, by decide +kernel, rfl, by decide +kernel, by decide +kernel⟩
theorem sc_l_ratio : FnScope ["_law_top", "_law_bottom", "_law_by"] ["_law_top", "_law_bottom"] (defScope s_l_ratio) := ⟨rfl, rfl, rfl, by decide +kernel, rfl, by decide +kernel, by decide +kernel⟩
theorem sc_l_plus : FnScope ["_law_one", "_law_other"] ["_law_one", "_law_other"] (defScope s_l_plus) := ⟨rfl, rfl, rfl, by decide +kernel, rfl, by decide +kernel, by decide +kernel⟩
theorem sc_l_amount : FnScope ["_law_rng"] ["_law_rng"] (defScope s_l_amount) := ⟨rfl, rfl, rfl, by decide +kernel, rfl, by decide +kernel, by decide +kernel⟩
theorem sc_l_far : FnScope ["_law_rng", "_law_near", "_law_top"] ["_law_rng"] (defScope s_l_far) := ⟨rfl, rfl, rfl, by decide +kernel, rfl, by decide +kernel, by decide +kernel⟩
theorem sc_l_factor : FnScope ["_law_rng"] ["_law_rng"] (defScope s_l_factor) := ⟨rfl, rfl, rfl, by decide +kernel, rfl, by decide +kernel, by decide +kernel⟩
theorem sc_l_names : FnScope ["_law_rng", "_law_many", "_law_abc", "_law_stem", "_law_at", "_law_first", "_law_k"] ["_law_rng", "_law_many"] (defScope s_l_names) := ⟨rfl, rfl, rfl, by decide +kernel, rfl, by decide +kernel, by decide +kernel⟩
theorem sc_l_form_of : FnScope ["_law_pairs", "_law_rest_z", "_law_totals", "_law_name", "_law_fac"] ["_law_pairs", "_law_rest_z"] (defScope s_l_form_of) := ⟨rfl, rfl, rfl, by decide +kernel, rfl, by decide +kernel, by decide +kernel⟩
theorem sc_l_amount_text : FnScope ["_law_one"] ["_law_one"] (defScope s_l_amount_text) := ⟨rfl, rfl, rfl, by decide +kernel, rfl, by decide +kernel, by decide +kernel⟩
theorem sc_l_form_text : FnScope ["_law_form", "_law_parts", "_law_text", "_law_name", "_law_fac", "_law_below", "_law_bare", "_law_told", "_law_mark"] ["_law_form"] (defScope s_l_form_text) := ⟨rfl, rfl, rfl, by decide +kernel, rfl, by decide +kernel, by decide +kernel⟩
theorem sc_law : FnScope ["_law_script", "_law_rng", "_law_turn", "_law_found", "_law_names_here", "_law_pairs", "_law_one", "_law_late", "_law_text", "_law_k", "_law_name", "_law_by"] ["_law_script"] (defScope s_law) := ⟨rfl, rfl, rfl, by decide +kernel, rfl, by decide +kernel, by decide +kernel⟩
def d_LETTERS : D := (.str "abcdefghijklmnopqrstuvwxyz")
def d_MOST_LETTERS : D := (.int 8)
def d_ZERO : D := (.tup [(.int 0), (.int 1)])
def d_ONE : D := (.tup [(.int 1), (.int 1)])
def d_DIGITS : D := (.str "0123456789")
def d_MOST_DIGITS : D := (.int 30)
def d_NO_TEXT : D := (.int 10000000000000000000000000000000000000000000000000000000000000000000000000000000000000000000000000000000000000000000000000000000000000000000000000000000000000000000000000000000000000000000000000000000000000000000000000000000000000000000000000000000000000000000000000000000000000000000000000000000000000000000000000000000000000000000000000000000000000000000000000000000000000000000000000000000000000000000000000000000000000000000000000000000000000000000000000000000000000000000000000000000000000000000000000000000000000000000000000000000000000000000000000000000000000000000000000000000000000000000000000000000000000000000000000000000000000000000000000000000000000000000000000000000000000000000000000000000000000000000000000000000000000000000000000000000000000000000000000000000000000000000000000000000000000000000000000000000000000000000000000000000000000000000000000000000000000000000000000000000000000000000000000000000000000000000000000000000000000000000000000000000000000000000000000000000000000000)
structure Tx (K : PySem.W.Frag) (mg : Str → Option Value) where
  v_LETTERS : V
  u_LETTERS : Value
  c_LETTERS : mg "LETTERS" = some u_LETTERS
  r_LETTERS : RelV v_LETTERS u_LETTERS
  w_LETTERS : Flat K (.str "abcdefghijklmnopqrstuvwxyz") v_LETTERS
  v_MOST_LETTERS : V
  u_MOST_LETTERS : Value
  c_MOST_LETTERS : mg "MOST_LETTERS" = some u_MOST_LETTERS
  r_MOST_LETTERS : RelV v_MOST_LETTERS u_MOST_LETTERS
  w_MOST_LETTERS : Flat K (.int 8) v_MOST_LETTERS
  v_ZERO : V
  u_ZERO : Value
  c_ZERO : mg "ZERO" = some u_ZERO
  r_ZERO : RelV v_ZERO u_ZERO
  w_ZERO : Flat K (.tup [(.int 0), (.int 1)]) v_ZERO
  v_ONE : V
  u_ONE : Value
  c_ONE : mg "ONE" = some u_ONE
  r_ONE : RelV v_ONE u_ONE
  w_ONE : Flat K (.tup [(.int 1), (.int 1)]) v_ONE
  v_DIGITS : V
  u_DIGITS : Value
  c_DIGITS : mg "DIGITS" = some u_DIGITS
  r_DIGITS : RelV v_DIGITS u_DIGITS
  w_DIGITS : Flat K (.str "0123456789") v_DIGITS
  v_MOST_DIGITS : V
  u_MOST_DIGITS : Value
  c_MOST_DIGITS : mg "MOST_DIGITS" = some u_MOST_DIGITS
  r_MOST_DIGITS : RelV v_MOST_DIGITS u_MOST_DIGITS
  w_MOST_DIGITS : Flat K (.int 30) v_MOST_DIGITS
  v_NO_TEXT : V
  u_NO_TEXT : Value
  c_NO_TEXT : mg "NO_TEXT" = some u_NO_TEXT
  r_NO_TEXT : RelV v_NO_TEXT u_NO_TEXT
  w_NO_TEXT : Flat K (.int 10000000000000000000000000000000000000000000000000000000000000000000000000000000000000000000000000000000000000000000000000000000000000000000000000000000000000000000000000000000000000000000000000000000000000000000000000000000000000000000000000000000000000000000000000000000000000000000000000000000000000000000000000000000000000000000000000000000000000000000000000000000000000000000000000000000000000000000000000000000000000000000000000000000000000000000000000000000000000000000000000000000000000000000000000000000000000000000000000000000000000000000000000000000000000000000000000000000000000000000000000000000000000000000000000000000000000000000000000000000000000000000000000000000000000000000000000000000000000000000000000000000000000000000000000000000000000000000000000000000000000000000000000000000000000000000000000000000000000000000000000000000000000000000000000000000000000000000000000000000000000000000000000000000000000000000000000000000000000000000000000000000000000000000000000000000000000000) v_NO_TEXT
  f_is_integer : Addr
  fd_is_integer : FuncData
  g_is_integer : mg "is_integer" = some (.ref f_is_integer)
  F_is_integer : Fun K "is_integer" "is_integer" s_is_integer f_is_integer fd_is_integer
  B_is_integer : Binds K fd_is_integer ["value"] []
  f_is_name : Addr
  fd_is_name : FuncData
  g_is_name : mg "is_name" = some (.ref f_is_name)
  F_is_name : Fun K "is_name" "is_name" s_is_name f_is_name fd_is_name
  B_is_name : Binds K fd_is_name ["value"] []
  f_common_divisor : Addr
  fd_common_divisor : FuncData
  g_common_divisor : mg "common_divisor" = some (.ref f_common_divisor)
  F_common_divisor : Fun K "common_divisor" "common_divisor" s_common_divisor f_common_divisor fd_common_divisor
  B_common_divisor : Binds K fd_common_divisor ["one", "other"] []
  f_amount : Addr
  fd_amount : FuncData
  g_amount : mg "amount" = some (.ref f_amount)
  dv0_amount : V
  dw0_amount : Flat K (.int 1) dv0_amount
  F_amount : FunD K "amount" "amount" (defArgs s_amount) (defBody s_amount) (defScope s_amount) [dv0_amount] [] f_amount fd_amount
  f_is_amount : Addr
  fd_is_amount : FuncData
  g_is_amount : mg "is_amount" = some (.ref f_is_amount)
  F_is_amount : Fun K "is_amount" "is_amount" s_is_amount f_is_amount fd_is_amount
  B_is_amount : Binds K fd_is_amount ["value"] []
  f_plus : Addr
  fd_plus : FuncData
  g_plus : mg "plus" = some (.ref f_plus)
  F_plus : Fun K "plus" "plus" s_plus f_plus fd_plus
  B_plus : Binds K fd_plus ["one", "other"] []
  f_minus : Addr
  fd_minus : FuncData
  g_minus : mg "minus" = some (.ref f_minus)
  F_minus : Fun K "minus" "minus" s_minus f_minus fd_minus
  B_minus : Binds K fd_minus ["one", "other"] []
  f_opposite : Addr
  fd_opposite : FuncData
  g_opposite : mg "opposite" = some (.ref f_opposite)
  F_opposite : Fun K "opposite" "opposite" s_opposite f_opposite fd_opposite
  B_opposite : Binds K fd_opposite ["one"] []
  f_sign : Addr
  fd_sign : FuncData
  g_sign : mg "sign" = some (.ref f_sign)
  F_sign : Fun K "sign" "sign" s_sign f_sign fd_sign
  B_sign : Binds K fd_sign ["one"] []
  f_amount_text : Addr
  fd_amount_text : FuncData
  g_amount_text : mg "amount_text" = some (.ref f_amount_text)
  F_amount_text : Fun K "amount_text" "amount_text" s_amount_text f_amount_text fd_amount_text
  B_amount_text : Binds K fd_amount_text ["one"] []
  f_integer_in : Addr
  fd_integer_in : FuncData
  g_integer_in : mg "integer_in" = some (.ref f_integer_in)
  F_integer_in : Fun K "integer_in" "integer_in" s_integer_in f_integer_in fd_integer_in
  B_integer_in : Binds K fd_integer_in ["text"] []
  f_amount_in : Addr
  fd_amount_in : FuncData
  g_amount_in : mg "amount_in" = some (.ref f_amount_in)
  F_amount_in : Fun K "amount_in" "amount_in" s_amount_in f_amount_in fd_amount_in
  B_amount_in : Binds K fd_amount_in ["text"] []
  f_form_of : Addr
  fd_form_of : FuncData
  g_form_of : mg "form_of" = some (.ref f_form_of)
  dv0_form_of : V
  dw0_form_of : Flat K (.tup [(.int 0), (.int 1)]) dv0_form_of
  F_form_of : FunD K "form_of" "form_of" (defArgs s_form_of) (defBody s_form_of) (defScope s_form_of) [dv0_form_of] [] f_form_of fd_form_of
  f_part_text : Addr
  fd_part_text : FuncData
  g_part_text : mg "part_text" = some (.ref f_part_text)
  F_part_text : Fun K "part_text" "part_text" s_part_text f_part_text fd_part_text
  B_part_text : Binds K fd_part_text ["name", "factor"] []
  f_form_text : Addr
  fd_form_text : FuncData
  g_form_text : mg "form_text" = some (.ref f_form_text)
  F_form_text : Fun K "form_text" "form_text" s_form_text f_form_text fd_form_text
  B_form_text : Binds K fd_form_text ["form"] []
  f_part_in : Addr
  fd_part_in : FuncData
  g_part_in : mg "part_in" = some (.ref f_part_in)
  F_part_in : Fun K "part_in" "part_in" s_part_in f_part_in fd_part_in
  B_part_in : Binds K fd_part_in ["text"] []
  f_form_in : Addr
  fd_form_in : FuncData
  g_form_in : mg "form_in" = some (.ref f_form_in)
  F_form_in : Fun K "form_in" "form_in" s_form_in f_form_in fd_form_in
  B_form_in : Binds K fd_form_in ["text"] []
  f_read_form : Addr
  fd_read_form : FuncData
  g_read_form : mg "read_form" = some (.ref f_read_form)
  F_read_form : Fun K "read_form" "read_form" s_read_form f_read_form fd_read_form
  B_read_form : Binds K fd_read_form ["text"] []
  f_l_source : Addr
  fd_l_source : FuncData
  g_l_source : mg "_law_source" = some (.ref f_l_source)
  F_l_source : Fun K "_law_source" "_law_source" s_l_source f_l_source fd_l_source
  B_l_source : Binds K fd_l_source ["_law_script"] []
  f_l_draw : Addr
  fd_l_draw : FuncData
  g_l_draw : mg "_law_draw" = some (.ref f_l_draw)
  F_l_draw : Fun K "_law_draw" "_law_draw" s_l_draw f_l_draw fd_l_draw
  B_l_draw : Binds K fd_l_draw ["_law_rng", "_law_many"] []
  f_l_choice : Addr
  fd_l_choice : FuncData
  g_l_choice : mg "_law_choice" = some (.ref f_l_choice)
  F_l_choice : Fun K "_law_choice" "_law_choice" s_l_choice f_l_choice fd_l_choice
  B_l_choice : Binds K fd_l_choice ["_law_rng", "_law_some"] []
  f_l_same : Addr
  fd_l_same : FuncData
  g_l_same : mg "_law_same" = some (.ref f_l_same)
  F_l_same : Fun K "_law_same" "_law_same" s_l_same f_l_same fd_l_same
  B_l_same : Binds K fd_l_same ["_law_result", "_law_expected"] []
  f_l_divisor : Addr
  fd_l_divisor : FuncData
  g_l_divisor : mg "_law_divisor" = some (.ref f_l_divisor)
  F_l_divisor : Fun K "_law_divisor" "_law_divisor" s_l_divisor f_l_divisor fd_l_divisor
  B_l_divisor : Binds K fd_l_divisor ["_law_one", "_law_other"] []
  f_l_ratio : Addr
  fd_l_ratio : FuncData
  g_l_ratio : mg "_law_ratio" = some (.ref f_l_ratio)
  F_l_ratio : Fun K "_law_ratio" "_law_ratio" s_l_ratio f_l_ratio fd_l_ratio
  B_l_ratio : Binds K fd_l_ratio ["_law_top", "_law_bottom"] []
  f_l_plus : Addr
  fd_l_plus : FuncData
  g_l_plus : mg "_law_plus" = some (.ref f_l_plus)
  F_l_plus : Fun K "_law_plus" "_law_plus" s_l_plus f_l_plus fd_l_plus
  B_l_plus : Binds K fd_l_plus ["_law_one", "_law_other"] []
  f_l_amount : Addr
  fd_l_amount : FuncData
  g_l_amount : mg "_law_amount" = some (.ref f_l_amount)
  F_l_amount : Fun K "_law_amount" "_law_amount" s_l_amount f_l_amount fd_l_amount
  B_l_amount : Binds K fd_l_amount ["_law_rng"] []
  f_l_far : Addr
  fd_l_far : FuncData
  g_l_far : mg "_law_far" = some (.ref f_l_far)
  F_l_far : Fun K "_law_far" "_law_far" s_l_far f_l_far fd_l_far
  B_l_far : Binds K fd_l_far ["_law_rng"] []
  f_l_factor : Addr
  fd_l_factor : FuncData
  g_l_factor : mg "_law_factor" = some (.ref f_l_factor)
  F_l_factor : Fun K "_law_factor" "_law_factor" s_l_factor f_l_factor fd_l_factor
  B_l_factor : Binds K fd_l_factor ["_law_rng"] []
  f_l_names : Addr
  fd_l_names : FuncData
  g_l_names : mg "_law_names" = some (.ref f_l_names)
  F_l_names : Fun K "_law_names" "_law_names" s_l_names f_l_names fd_l_names
  B_l_names : Binds K fd_l_names ["_law_rng", "_law_many"] []
  f_l_form_of : Addr
  fd_l_form_of : FuncData
  g_l_form_of : mg "_law_form_of" = some (.ref f_l_form_of)
  F_l_form_of : Fun K "_law_form_of" "_law_form_of" s_l_form_of f_l_form_of fd_l_form_of
  B_l_form_of : Binds K fd_l_form_of ["_law_pairs", "_law_rest_z"] []
  f_l_amount_text : Addr
  fd_l_amount_text : FuncData
  g_l_amount_text : mg "_law_amount_text" = some (.ref f_l_amount_text)
  F_l_amount_text : Fun K "_law_amount_text" "_law_amount_text" s_l_amount_text f_l_amount_text fd_l_amount_text
  B_l_amount_text : Binds K fd_l_amount_text ["_law_one"] []
  f_l_form_text : Addr
  fd_l_form_text : FuncData
  g_l_form_text : mg "_law_form_text" = some (.ref f_l_form_text)
  F_l_form_text : Fun K "_law_form_text" "_law_form_text" s_l_form_text f_l_form_text fd_l_form_text
  B_l_form_text : Binds K fd_l_form_text ["_law_form"] []
  f_law : Addr
  fd_law : FuncData
  g_law : mg "law" = some (.ref f_law)
  F_law : Fun K "law" "law" s_law f_law fd_law
  B_law : Binds K fd_law ["_law_script"] []
  n_abs : mg "abs" = none
  n_all : mg "all" = none
  n_bool : mg "bool" = none
  n_enumerate : mg "enumerate" = none
  n_int : mg "int" = none
  n_isinstance : mg "isinstance" = none
  n_len : mg "len" = none
  n_list : mg "list" = none
  n_range : mg "range" = none
  n_sorted : mg "sorted" = none
  n_str : mg "str" = none
  n_tuple : mg "tuple" = none
  n_zip : mg "zip" = none
def tx_mk {K : PySem.W.Frag} {h : Heap} {mg : Str → Option Value} (X : K.In h) (G : h.Ns mainGlobals mg)
    {C0U : Value}
    {C1U : Value}
    {C2U : Value}
    {C2A : Addr} {C2q : Option Addr} {C2n : Nat} {C2s : Array (Option Value)}
    {C2u0 C2u1 : Value}
    {C3U : Value}
    {C3A : Addr} {C3q : Option Addr} {C3n : Nat} {C3s : Array (Option Value)}
    {C3u0 C3u1 : Value}
    {C4U : Value}
    {C5U : Value}
    {C6U : Value}
    {f0 : Addr} {od0 an0 : Option Addr} {sl0 : Array (Option Value)} {oc0 kV0 dc0 pm0 cd0 ct0 : Value}
    {f1 : Addr} {od1 an1 : Option Addr} {sl1 : Array (Option Value)} {oc1 kV1 dc1 pm1 cd1 ct1 : Value}
    {f2 : Addr} {od2 an2 : Option Addr} {sl2 : Array (Option Value)} {oc2 kV2 dc2 pm2 cd2 ct2 : Value}
    {f3 : Addr} {od3 an3 : Option Addr} {sl3 : Array (Option Value)} {oc3 kV3 dc3 pm3 cd3 ct3 : Value}
    {dV3 : Value}
    {dT3 : Addr} {dc_3 : Value} {dq3 : Option Addr} {dn3 : Nat} {ds3 : Array (Option Value)} {dU3_0 : Value}
    {f4 : Addr} {od4 an4 : Option Addr} {sl4 : Array (Option Value)} {oc4 kV4 dc4 pm4 cd4 ct4 : Value}
    {f5 : Addr} {od5 an5 : Option Addr} {sl5 : Array (Option Value)} {oc5 kV5 dc5 pm5 cd5 ct5 : Value}
    {f6 : Addr} {od6 an6 : Option Addr} {sl6 : Array (Option Value)} {oc6 kV6 dc6 pm6 cd6 ct6 : Value}
    {f7 : Addr} {od7 an7 : Option Addr} {sl7 : Array (Option Value)} {oc7 kV7 dc7 pm7 cd7 ct7 : Value}
    {f8 : Addr} {od8 an8 : Option Addr} {sl8 : Array (Option Value)} {oc8 kV8 dc8 pm8 cd8 ct8 : Value}
    {f9 : Addr} {od9 an9 : Option Addr} {sl9 : Array (Option Value)} {oc9 kV9 dc9 pm9 cd9 ct9 : Value}
    {f10 : Addr} {od10 an10 : Option Addr} {sl10 : Array (Option Value)} {oc10 kV10 dc10 pm10 cd10 ct10 : Value}
    {f11 : Addr} {od11 an11 : Option Addr} {sl11 : Array (Option Value)} {oc11 kV11 dc11 pm11 cd11 ct11 : Value}
    {f12 : Addr} {od12 an12 : Option Addr} {sl12 : Array (Option Value)} {oc12 kV12 dc12 pm12 cd12 ct12 : Value}
    {dV12 : Value}
    {dT12 : Addr} {dc_12 : Value} {dq12 : Option Addr} {dn12 : Nat} {ds12 : Array (Option Value)} {dU12_0 : Value}
    {d12_0A : Addr} {d12_0q : Option Addr} {d12_0n : Nat} {d12_0s : Array (Option Value)}
    {d12_0u0 d12_0u1 : Value}
    {f13 : Addr} {od13 an13 : Option Addr} {sl13 : Array (Option Value)} {oc13 kV13 dc13 pm13 cd13 ct13 : Value}
    {f14 : Addr} {od14 an14 : Option Addr} {sl14 : Array (Option Value)} {oc14 kV14 dc14 pm14 cd14 ct14 : Value}
    {f15 : Addr} {od15 an15 : Option Addr} {sl15 : Array (Option Value)} {oc15 kV15 dc15 pm15 cd15 ct15 : Value}
    {f16 : Addr} {od16 an16 : Option Addr} {sl16 : Array (Option Value)} {oc16 kV16 dc16 pm16 cd16 ct16 : Value}
    {f17 : Addr} {od17 an17 : Option Addr} {sl17 : Array (Option Value)} {oc17 kV17 dc17 pm17 cd17 ct17 : Value}
    {f18 : Addr} {od18 an18 : Option Addr} {sl18 : Array (Option Value)} {oc18 kV18 dc18 pm18 cd18 ct18 : Value}
    {f19 : Addr} {od19 an19 : Option Addr} {sl19 : Array (Option Value)} {oc19 kV19 dc19 pm19 cd19 ct19 : Value}
    {f20 : Addr} {od20 an20 : Option Addr} {sl20 : Array (Option Value)} {oc20 kV20 dc20 pm20 cd20 ct20 : Value}
    {f21 : Addr} {od21 an21 : Option Addr} {sl21 : Array (Option Value)} {oc21 kV21 dc21 pm21 cd21 ct21 : Value}
    {f22 : Addr} {od22 an22 : Option Addr} {sl22 : Array (Option Value)} {oc22 kV22 dc22 pm22 cd22 ct22 : Value}
    {f23 : Addr} {od23 an23 : Option Addr} {sl23 : Array (Option Value)} {oc23 kV23 dc23 pm23 cd23 ct23 : Value}
    {f24 : Addr} {od24 an24 : Option Addr} {sl24 : Array (Option Value)} {oc24 kV24 dc24 pm24 cd24 ct24 : Value}
    {f25 : Addr} {od25 an25 : Option Addr} {sl25 : Array (Option Value)} {oc25 kV25 dc25 pm25 cd25 ct25 : Value}
    {f26 : Addr} {od26 an26 : Option Addr} {sl26 : Array (Option Value)} {oc26 kV26 dc26 pm26 cd26 ct26 : Value}
    {f27 : Addr} {od27 an27 : Option Addr} {sl27 : Array (Option Value)} {oc27 kV27 dc27 pm27 cd27 ct27 : Value}
    {f28 : Addr} {od28 an28 : Option Addr} {sl28 : Array (Option Value)} {oc28 kV28 dc28 pm28 cd28 ct28 : Value}
    {f29 : Addr} {od29 an29 : Option Addr} {sl29 : Array (Option Value)} {oc29 kV29 dc29 pm29 cd29 ct29 : Value}
    {f30 : Addr} {od30 an30 : Option Addr} {sl30 : Array (Option Value)} {oc30 kV30 dc30 pm30 cd30 ct30 : Value}
    {f31 : Addr} {od31 an31 : Option Addr} {sl31 : Array (Option Value)} {oc31 kV31 dc31 pm31 cd31 ct31 : Value}
    {f32 : Addr} {od32 an32 : Option Addr} {sl32 : Array (Option Value)} {oc32 kV32 dc32 pm32 cd32 ct32 : Value}
    (C0a : PySem.W.nsIn K mainGlobals "LETTERS" = some (some C0U))
    (C0r : RelV (.str "abcdefghijklmnopqrstuvwxyz") C0U)
    (C1a : PySem.W.nsIn K mainGlobals "MOST_LETTERS" = some (some C1U))
    (C1r : RelV (.int 8) C1U)
    (C2a : PySem.W.nsIn K mainGlobals "ZERO" = some (some C2U))
    (C2e : C2U = Value.ref C2A)
    (C2l : K.lookup C2A = some ⟨.type "tuple", C2q, .seq #[C2u0, C2u1] C2n, C2s⟩)
    (C20r : RelV (.int 0) C2u0)
    (C21r : RelV (.int 1) C2u1)
    (C3a : PySem.W.nsIn K mainGlobals "ONE" = some (some C3U))
    (C3e : C3U = Value.ref C3A)
    (C3l : K.lookup C3A = some ⟨.type "tuple", C3q, .seq #[C3u0, C3u1] C3n, C3s⟩)
    (C30r : RelV (.int 1) C3u0)
    (C31r : RelV (.int 1) C3u1)
    (C4a : PySem.W.nsIn K mainGlobals "DIGITS" = some (some C4U))
    (C4r : RelV (.str "0123456789") C4U)
    (C5a : PySem.W.nsIn K mainGlobals "MOST_DIGITS" = some (some C5U))
    (C5r : RelV (.int 30) C5U)
    (C6a : PySem.W.nsIn K mainGlobals "NO_TEXT" = some (some C6U))
    (C6r : RelV (.int 10000000000000000000000000000000000000000000000000000000000000000000000000000000000000000000000000000000000000000000000000000000000000000000000000000000000000000000000000000000000000000000000000000000000000000000000000000000000000000000000000000000000000000000000000000000000000000000000000000000000000000000000000000000000000000000000000000000000000000000000000000000000000000000000000000000000000000000000000000000000000000000000000000000000000000000000000000000000000000000000000000000000000000000000000000000000000000000000000000000000000000000000000000000000000000000000000000000000000000000000000000000000000000000000000000000000000000000000000000000000000000000000000000000000000000000000000000000000000000000000000000000000000000000000000000000000000000000000000000000000000000000000000000000000000000000000000000000000000000000000000000000000000000000000000000000000000000000000000000000000000000000000000000000000000000000000000000000000000000000000000000000000000000000000000000000000000000) C6U)
    (a0 : PySem.W.nsIn K mainGlobals "is_integer" = some (some (.ref f0)))
    (l0 : K.lookup f0 = some ⟨oc0, od0, .func (PySem.W.fnOf "is_integer" "is_integer" (defArgs s_is_integer) (defBody s_is_integer) (defScope s_is_integer) .none kV0 dc0 pm0 an0 cd0 ct0), sl0⟩)
    (c0 : PySem.W.codeIn K cd0 "is_integer" = true)
    (k0 : PySem.W.keepIn K (.ref f0) = true)
    (a1 : PySem.W.nsIn K mainGlobals "is_name" = some (some (.ref f1)))
    (l1 : K.lookup f1 = some ⟨oc1, od1, .func (PySem.W.fnOf "is_name" "is_name" (defArgs s_is_name) (defBody s_is_name) (defScope s_is_name) .none kV1 dc1 pm1 an1 cd1 ct1), sl1⟩)
    (c1 : PySem.W.codeIn K cd1 "is_name" = true)
    (k1 : PySem.W.keepIn K (.ref f1) = true)
    (a2 : PySem.W.nsIn K mainGlobals "common_divisor" = some (some (.ref f2)))
    (l2 : K.lookup f2 = some ⟨oc2, od2, .func (PySem.W.fnOf "common_divisor" "common_divisor" (defArgs s_common_divisor) (defBody s_common_divisor) (defScope s_common_divisor) .none kV2 dc2 pm2 an2 cd2 ct2), sl2⟩)
    (c2 : PySem.W.codeIn K cd2 "common_divisor" = true)
    (k2 : PySem.W.keepIn K (.ref f2) = true)
    (a3 : PySem.W.nsIn K mainGlobals "amount" = some (some (.ref f3)))
    (l3 : K.lookup f3 = some ⟨oc3, od3, .func (PySem.W.fnOf "amount" "amount" (defArgs s_amount) (defBody s_amount) (defScope s_amount) dV3 kV3 dc3 pm3 an3 cd3 ct3), sl3⟩)
    (c3 : PySem.W.codeIn K cd3 "amount" = true)
    (k3 : PySem.W.keepIn K (.ref f3) = true)
    (de3 : dV3 = Value.ref dT3)
    (dl3 : K.lookup dT3 = some ⟨dc_3, dq3, .seq #[dU3_0] dn3, ds3⟩)
    (d3_0r : RelV (.int 1) dU3_0)
    (a4 : PySem.W.nsIn K mainGlobals "is_amount" = some (some (.ref f4)))
    (l4 : K.lookup f4 = some ⟨oc4, od4, .func (PySem.W.fnOf "is_amount" "is_amount" (defArgs s_is_amount) (defBody s_is_amount) (defScope s_is_amount) .none kV4 dc4 pm4 an4 cd4 ct4), sl4⟩)
    (c4 : PySem.W.codeIn K cd4 "is_amount" = true)
    (k4 : PySem.W.keepIn K (.ref f4) = true)
    (a5 : PySem.W.nsIn K mainGlobals "plus" = some (some (.ref f5)))
    (l5 : K.lookup f5 = some ⟨oc5, od5, .func (PySem.W.fnOf "plus" "plus" (defArgs s_plus) (defBody s_plus) (defScope s_plus) .none kV5 dc5 pm5 an5 cd5 ct5), sl5⟩)
    (c5 : PySem.W.codeIn K cd5 "plus" = true)
    (k5 : PySem.W.keepIn K (.ref f5) = true)
    (a6 : PySem.W.nsIn K mainGlobals "minus" = some (some (.ref f6)))
    (l6 : K.lookup f6 = some ⟨oc6, od6, .func (PySem.W.fnOf "minus" "minus" (defArgs s_minus) (defBody s_minus) (defScope s_minus) .none kV6 dc6 pm6 an6 cd6 ct6), sl6⟩)
    (c6 : PySem.W.codeIn K cd6 "minus" = true)
    (k6 : PySem.W.keepIn K (.ref f6) = true)
    (a7 : PySem.W.nsIn K mainGlobals "opposite" = some (some (.ref f7)))
    (l7 : K.lookup f7 = some ⟨oc7, od7, .func (PySem.W.fnOf "opposite" "opposite" (defArgs s_opposite) (defBody s_opposite) (defScope s_opposite) .none kV7 dc7 pm7 an7 cd7 ct7), sl7⟩)
    (c7 : PySem.W.codeIn K cd7 "opposite" = true)
    (k7 : PySem.W.keepIn K (.ref f7) = true)
    (a8 : PySem.W.nsIn K mainGlobals "sign" = some (some (.ref f8)))
    (l8 : K.lookup f8 = some ⟨oc8, od8, .func (PySem.W.fnOf "sign" "sign" (defArgs s_sign) (defBody s_sign) (defScope s_sign) .none kV8 dc8 pm8 an8 cd8 ct8), sl8⟩)
    (c8 : PySem.W.codeIn K cd8 "sign" = true)
    (k8 : PySem.W.keepIn K (.ref f8) = true)
    (a9 : PySem.W.nsIn K mainGlobals "amount_text" = some (some (.ref f9)))
    (l9 : K.lookup f9 = some ⟨oc9, od9, .func (PySem.W.fnOf "amount_text" "amount_text" (defArgs s_amount_text) (defBody s_amount_text) (defScope s_amount_text) .none kV9 dc9 pm9 an9 cd9 ct9), sl9⟩)
    (c9 : PySem.W.codeIn K cd9 "amount_text" = true)
    (k9 : PySem.W.keepIn K (.ref f9) = true)
    (a10 : PySem.W.nsIn K mainGlobals "integer_in" = some (some (.ref f10)))
    (l10 : K.lookup f10 = some ⟨oc10, od10, .func (PySem.W.fnOf "integer_in" "integer_in" (defArgs s_integer_in) (defBody s_integer_in) (defScope s_integer_in) .none kV10 dc10 pm10 an10 cd10 ct10), sl10⟩)
    (c10 : PySem.W.codeIn K cd10 "integer_in" = true)
    (k10 : PySem.W.keepIn K (.ref f10) = true)
    (a11 : PySem.W.nsIn K mainGlobals "amount_in" = some (some (.ref f11)))
    (l11 : K.lookup f11 = some ⟨oc11, od11, .func (PySem.W.fnOf "amount_in" "amount_in" (defArgs s_amount_in) (defBody s_amount_in) (defScope s_amount_in) .none kV11 dc11 pm11 an11 cd11 ct11), sl11⟩)
    (c11 : PySem.W.codeIn K cd11 "amount_in" = true)
    (k11 : PySem.W.keepIn K (.ref f11) = true)
    (a12 : PySem.W.nsIn K mainGlobals "form_of" = some (some (.ref f12)))
    (l12 : K.lookup f12 = some ⟨oc12, od12, .func (PySem.W.fnOf "form_of" "form_of" (defArgs s_form_of) (defBody s_form_of) (defScope s_form_of) dV12 kV12 dc12 pm12 an12 cd12 ct12), sl12⟩)
    (c12 : PySem.W.codeIn K cd12 "form_of" = true)
    (k12 : PySem.W.keepIn K (.ref f12) = true)
    (de12 : dV12 = Value.ref dT12)
    (dl12 : K.lookup dT12 = some ⟨dc_12, dq12, .seq #[dU12_0] dn12, ds12⟩)
    (d12_0e : dU12_0 = Value.ref d12_0A)
    (d12_0l : K.lookup d12_0A = some ⟨.type "tuple", d12_0q, .seq #[d12_0u0, d12_0u1] d12_0n, d12_0s⟩)
    (d12_00r : RelV (.int 0) d12_0u0)
    (d12_01r : RelV (.int 1) d12_0u1)
    (a13 : PySem.W.nsIn K mainGlobals "part_text" = some (some (.ref f13)))
    (l13 : K.lookup f13 = some ⟨oc13, od13, .func (PySem.W.fnOf "part_text" "part_text" (defArgs s_part_text) (defBody s_part_text) (defScope s_part_text) .none kV13 dc13 pm13 an13 cd13 ct13), sl13⟩)
    (c13 : PySem.W.codeIn K cd13 "part_text" = true)
    (k13 : PySem.W.keepIn K (.ref f13) = true)
    (a14 : PySem.W.nsIn K mainGlobals "form_text" = some (some (.ref f14)))
    (l14 : K.lookup f14 = some ⟨oc14, od14, .func (PySem.W.fnOf "form_text" "form_text" (defArgs s_form_text) (defBody s_form_text) (defScope s_form_text) .none kV14 dc14 pm14 an14 cd14 ct14), sl14⟩)
    (c14 : PySem.W.codeIn K cd14 "form_text" = true)
    (k14 : PySem.W.keepIn K (.ref f14) = true)
    (a15 : PySem.W.nsIn K mainGlobals "part_in" = some (some (.ref f15)))
    (l15 : K.lookup f15 = some ⟨oc15, od15, .func (PySem.W.fnOf "part_in" "part_in" (defArgs s_part_in) (defBody s_part_in) (defScope s_part_in) .none kV15 dc15 pm15 an15 cd15 ct15), sl15⟩)
    (c15 : PySem.W.codeIn K cd15 "part_in" = true)
    (k15 : PySem.W.keepIn K (.ref f15) = true)
    (a16 : PySem.W.nsIn K mainGlobals "form_in" = some (some (.ref f16)))
    (l16 : K.lookup f16 = some ⟨oc16, od16, .func (PySem.W.fnOf "form_in" "form_in" (defArgs s_form_in) (defBody s_form_in) (defScope s_form_in) .none kV16 dc16 pm16 an16 cd16 ct16), sl16⟩)
    (c16 : PySem.W.codeIn K cd16 "form_in" = true)
    (k16 : PySem.W.keepIn K (.ref f16) = true)
    (a17 : PySem.W.nsIn K mainGlobals "read_form" = some (some (.ref f17)))
    (l17 : K.lookup f17 = some ⟨oc17, od17, .func (PySem.W.fnOf "read_form" "read_form" (defArgs s_read_form) (defBody s_read_form) (defScope s_read_form) .none kV17 dc17 pm17 an17 cd17 ct17), sl17⟩)
    (c17 : PySem.W.codeIn K cd17 "read_form" = true)
    (k17 : PySem.W.keepIn K (.ref f17) = true)
    (a18 : PySem.W.nsIn K mainGlobals "_law_source" = some (some (.ref f18)))
    (l18 : K.lookup f18 = some ⟨oc18, od18, .func (PySem.W.fnOf "_law_source" "_law_source" (defArgs s_l_source) (defBody s_l_source) (defScope s_l_source) .none kV18 dc18 pm18 an18 cd18 ct18), sl18⟩)
    (c18 : PySem.W.codeIn K cd18 "_law_source" = true)
    (k18 : PySem.W.keepIn K (.ref f18) = true)
    (a19 : PySem.W.nsIn K mainGlobals "_law_draw" = some (some (.ref f19)))
    (l19 : K.lookup f19 = some ⟨oc19, od19, .func (PySem.W.fnOf "_law_draw" "_law_draw" (defArgs s_l_draw) (defBody s_l_draw) (defScope s_l_draw) .none kV19 dc19 pm19 an19 cd19 ct19), sl19⟩)
    (c19 : PySem.W.codeIn K cd19 "_law_draw" = true)
    (k19 : PySem.W.keepIn K (.ref f19) = true)
    (a20 : PySem.W.nsIn K mainGlobals "_law_choice" = some (some (.ref f20)))
    (l20 : K.lookup f20 = some ⟨oc20, od20, .func (PySem.W.fnOf "_law_choice" "_law_choice" (defArgs s_l_choice) (defBody s_l_choice) (defScope s_l_choice) .none kV20 dc20 pm20 an20 cd20 ct20), sl20⟩)
    (c20 : PySem.W.codeIn K cd20 "_law_choice" = true)
    (k20 : PySem.W.keepIn K (.ref f20) = true)
    (a21 : PySem.W.nsIn K mainGlobals "_law_same" = some (some (.ref f21)))
    (l21 : K.lookup f21 = some ⟨oc21, od21, .func (PySem.W.fnOf "_law_same" "_law_same" (defArgs s_l_same) (defBody s_l_same) (defScope s_l_same) .none kV21 dc21 pm21 an21 cd21 ct21), sl21⟩)
    (c21 : PySem.W.codeIn K cd21 "_law_same" = true)
    (k21 : PySem.W.keepIn K (.ref f21) = true)
    (a22 : PySem.W.nsIn K mainGlobals "_law_divisor" = some (some (.ref f22)))
    (l22 : K.lookup f22 = some ⟨oc22, od22, .func (PySem.W.fnOf "_law_divisor" "_law_divisor" (defArgs s_l_divisor) (defBody s_l_divisor) (defScope s_l_divisor) .none kV22 dc22 pm22 an22 cd22 ct22), sl22⟩)
    (c22 : PySem.W.codeIn K cd22 "_law_divisor" = true)
    (k22 : PySem.W.keepIn K (.ref f22) = true)
    (a23 : PySem.W.nsIn K mainGlobals "_law_ratio" = some (some (.ref f23)))
    (l23 : K.lookup f23 = some ⟨oc23, od23, .func (PySem.W.fnOf "_law_ratio" "_law_ratio" (defArgs s_l_ratio) (defBody s_l_ratio) (defScope s_l_ratio) .none kV23 dc23 pm23 an23 cd23 ct23), sl23⟩)
    (c23 : PySem.W.codeIn K cd23 "_law_ratio" = true)
    (k23 : PySem.W.keepIn K (.ref f23) = true)
    (a24 : PySem.W.nsIn K mainGlobals "_law_plus" = some (some (.ref f24)))
    (l24 : K.lookup f24 = some ⟨oc24, od24, .func (PySem.W.fnOf "_law_plus" "_law_plus" (defArgs s_l_plus) (defBody s_l_plus) (defScope s_l_plus) .none kV24 dc24 pm24 an24 cd24 ct24), sl24⟩)
    (c24 : PySem.W.codeIn K cd24 "_law_plus" = true)
    (k24 : PySem.W.keepIn K (.ref f24) = true)
    (a25 : PySem.W.nsIn K mainGlobals "_law_amount" = some (some (.ref f25)))
    (l25 : K.lookup f25 = some ⟨oc25, od25, .func (PySem.W.fnOf "_law_amount" "_law_amount" (defArgs s_l_amount) (defBody s_l_amount) (defScope s_l_amount) .none kV25 dc25 pm25 an25 cd25 ct25), sl25⟩)
    (c25 : PySem.W.codeIn K cd25 "_law_amount" = true)
    (k25 : PySem.W.keepIn K (.ref f25) = true)
    (a26 : PySem.W.nsIn K mainGlobals "_law_far" = some (some (.ref f26)))
    (l26 : K.lookup f26 = some ⟨oc26, od26, .func (PySem.W.fnOf "_law_far" "_law_far" (defArgs s_l_far) (defBody s_l_far) (defScope s_l_far) .none kV26 dc26 pm26 an26 cd26 ct26), sl26⟩)
    (c26 : PySem.W.codeIn K cd26 "_law_far" = true)
    (k26 : PySem.W.keepIn K (.ref f26) = true)
    (a27 : PySem.W.nsIn K mainGlobals "_law_factor" = some (some (.ref f27)))
    (l27 : K.lookup f27 = some ⟨oc27, od27, .func (PySem.W.fnOf "_law_factor" "_law_factor" (defArgs s_l_factor) (defBody s_l_factor) (defScope s_l_factor) .none kV27 dc27 pm27 an27 cd27 ct27), sl27⟩)
    (c27 : PySem.W.codeIn K cd27 "_law_factor" = true)
    (k27 : PySem.W.keepIn K (.ref f27) = true)
    (a28 : PySem.W.nsIn K mainGlobals "_law_names" = some (some (.ref f28)))
    (l28 : K.lookup f28 = some ⟨oc28, od28, .func (PySem.W.fnOf "_law_names" "_law_names" (defArgs s_l_names) (defBody s_l_names) (defScope s_l_names) .none kV28 dc28 pm28 an28 cd28 ct28), sl28⟩)
    (c28 : PySem.W.codeIn K cd28 "_law_names" = true)
    (k28 : PySem.W.keepIn K (.ref f28) = true)
    (a29 : PySem.W.nsIn K mainGlobals "_law_form_of" = some (some (.ref f29)))
    (l29 : K.lookup f29 = some ⟨oc29, od29, .func (PySem.W.fnOf "_law_form_of" "_law_form_of" (defArgs s_l_form_of) (defBody s_l_form_of) (defScope s_l_form_of) .none kV29 dc29 pm29 an29 cd29 ct29), sl29⟩)
    (c29 : PySem.W.codeIn K cd29 "_law_form_of" = true)
    (k29 : PySem.W.keepIn K (.ref f29) = true)
    (a30 : PySem.W.nsIn K mainGlobals "_law_amount_text" = some (some (.ref f30)))
    (l30 : K.lookup f30 = some ⟨oc30, od30, .func (PySem.W.fnOf "_law_amount_text" "_law_amount_text" (defArgs s_l_amount_text) (defBody s_l_amount_text) (defScope s_l_amount_text) .none kV30 dc30 pm30 an30 cd30 ct30), sl30⟩)
    (c30 : PySem.W.codeIn K cd30 "_law_amount_text" = true)
    (k30 : PySem.W.keepIn K (.ref f30) = true)
    (a31 : PySem.W.nsIn K mainGlobals "_law_form_text" = some (some (.ref f31)))
    (l31 : K.lookup f31 = some ⟨oc31, od31, .func (PySem.W.fnOf "_law_form_text" "_law_form_text" (defArgs s_l_form_text) (defBody s_l_form_text) (defScope s_l_form_text) .none kV31 dc31 pm31 an31 cd31 ct31), sl31⟩)
    (c31 : PySem.W.codeIn K cd31 "_law_form_text" = true)
    (k31 : PySem.W.keepIn K (.ref f31) = true)
    (a32 : PySem.W.nsIn K mainGlobals "law" = some (some (.ref f32)))
    (l32 : K.lookup f32 = some ⟨oc32, od32, .func (PySem.W.fnOf "law" "law" (defArgs s_law) (defBody s_law) (defScope s_law) .none kV32 dc32 pm32 an32 cd32 ct32), sl32⟩)
    (c32 : PySem.W.codeIn K cd32 "law" = true)
    (k32 : PySem.W.keepIn K (.ref f32) = true)
    (n_abs : PySem.W.nsIn K mainGlobals "abs" = some none)
    (n_all : PySem.W.nsIn K mainGlobals "all" = some none)
    (n_bool : PySem.W.nsIn K mainGlobals "bool" = some none)
    (n_enumerate : PySem.W.nsIn K mainGlobals "enumerate" = some none)
    (n_int : PySem.W.nsIn K mainGlobals "int" = some none)
    (n_isinstance : PySem.W.nsIn K mainGlobals "isinstance" = some none)
    (n_len : PySem.W.nsIn K mainGlobals "len" = some none)
    (n_list : PySem.W.nsIn K mainGlobals "list" = some none)
    (n_range : PySem.W.nsIn K mainGlobals "range" = some none)
    (n_sorted : PySem.W.nsIn K mainGlobals "sorted" = some none)
    (n_str : PySem.W.nsIn K mainGlobals "str" = some none)
    (n_tuple : PySem.W.nsIn K mainGlobals "tuple" = some none)
    (n_zip : PySem.W.nsIn K mainGlobals "zip" = some none)
    : Tx K mg :=
  have F0 := fun_mk (st := s_is_integer) l0 c0 k0
  have F1 := fun_mk (st := s_is_name) l1 c1 k1
  have F2 := fun_mk (st := s_common_divisor) l2 c2 k2
  have F4 := fun_mk (st := s_is_amount) l4 c4 k4
  have F5 := fun_mk (st := s_plus) l5 c5 k5
  have F6 := fun_mk (st := s_minus) l6 c6 k6
  have F7 := fun_mk (st := s_opposite) l7 c7 k7
  have F8 := fun_mk (st := s_sign) l8 c8 k8
  have F9 := fun_mk (st := s_amount_text) l9 c9 k9
  have F10 := fun_mk (st := s_integer_in) l10 c10 k10
  have F11 := fun_mk (st := s_amount_in) l11 c11 k11
  have F13 := fun_mk (st := s_part_text) l13 c13 k13
  have F14 := fun_mk (st := s_form_text) l14 c14 k14
  have F15 := fun_mk (st := s_part_in) l15 c15 k15
  have F16 := fun_mk (st := s_form_in) l16 c16 k16
  have F17 := fun_mk (st := s_read_form) l17 c17 k17
  have F18 := fun_mk (st := s_l_source) l18 c18 k18
  have F19 := fun_mk (st := s_l_draw) l19 c19 k19
  have F20 := fun_mk (st := s_l_choice) l20 c20 k20
  have F21 := fun_mk (st := s_l_same) l21 c21 k21
  have F22 := fun_mk (st := s_l_divisor) l22 c22 k22
  have F23 := fun_mk (st := s_l_ratio) l23 c23 k23
  have F24 := fun_mk (st := s_l_plus) l24 c24 k24
  have F25 := fun_mk (st := s_l_amount) l25 c25 k25
  have F26 := fun_mk (st := s_l_far) l26 c26 k26
  have F27 := fun_mk (st := s_l_factor) l27 c27 k27
  have F28 := fun_mk (st := s_l_names) l28 c28 k28
  have F29 := fun_mk (st := s_l_form_of) l29 c29 k29
  have F30 := fun_mk (st := s_l_amount_text) l30 c30 k30
  have F31 := fun_mk (st := s_l_form_text) l31 c31 k31
  have F32 := fun_mk (st := s_law) l32 c32 k32
  { v_LETTERS := (.str "abcdefghijklmnopqrstuvwxyz"), u_LETTERS := _, c_LETTERS := PySem.W.mg_of X G C0a, r_LETTERS := C0r, w_LETTERS := (fun _ _ => rep_str),
    v_MOST_LETTERS := (.int 8), u_MOST_LETTERS := _, c_MOST_LETTERS := PySem.W.mg_of X G C1a, r_MOST_LETTERS := C1r, w_MOST_LETTERS := (fun _ _ => rep_int),
    v_ZERO := (.ref C2A), u_ZERO := _, c_ZERO := PySem.W.mg_of X G C2a, r_ZERO := C2e, w_ZERO := (fun M H => rep_tup (.inr ⟨_, _, _, C2l, rfl, rfl, Nat.le_of_ble_eq_true rfl, (.cons (show RelV (.int 0) _ from C20r) (.cons (show RelV (.int 1) _ from C21r) .nil))⟩) (reps_cons ((fun _ _ => rep_int) M H) (reps_cons ((fun _ _ => rep_int) M H) reps_nil))),
    v_ONE := (.ref C3A), u_ONE := _, c_ONE := PySem.W.mg_of X G C3a, r_ONE := C3e, w_ONE := (fun M H => rep_tup (.inr ⟨_, _, _, C3l, rfl, rfl, Nat.le_of_ble_eq_true rfl, (.cons (show RelV (.int 1) _ from C30r) (.cons (show RelV (.int 1) _ from C31r) .nil))⟩) (reps_cons ((fun _ _ => rep_int) M H) (reps_cons ((fun _ _ => rep_int) M H) reps_nil))),
    v_DIGITS := (.str "0123456789"), u_DIGITS := _, c_DIGITS := PySem.W.mg_of X G C4a, r_DIGITS := C4r, w_DIGITS := (fun _ _ => rep_str),
    v_MOST_DIGITS := (.int 30), u_MOST_DIGITS := _, c_MOST_DIGITS := PySem.W.mg_of X G C5a, r_MOST_DIGITS := C5r, w_MOST_DIGITS := (fun _ _ => rep_int),
    v_NO_TEXT := (.int 10000000000000000000000000000000000000000000000000000000000000000000000000000000000000000000000000000000000000000000000000000000000000000000000000000000000000000000000000000000000000000000000000000000000000000000000000000000000000000000000000000000000000000000000000000000000000000000000000000000000000000000000000000000000000000000000000000000000000000000000000000000000000000000000000000000000000000000000000000000000000000000000000000000000000000000000000000000000000000000000000000000000000000000000000000000000000000000000000000000000000000000000000000000000000000000000000000000000000000000000000000000000000000000000000000000000000000000000000000000000000000000000000000000000000000000000000000000000000000000000000000000000000000000000000000000000000000000000000000000000000000000000000000000000000000000000000000000000000000000000000000000000000000000000000000000000000000000000000000000000000000000000000000000000000000000000000000000000000000000000000000000000000000000000000000000000000000), u_NO_TEXT := _, c_NO_TEXT := PySem.W.mg_of X G C6a, r_NO_TEXT := C6r, w_NO_TEXT := (fun _ _ => rep_int),
    f_is_integer := f0, fd_is_integer := _, g_is_integer := PySem.W.mg_of X G a0, F_is_integer := F0, B_is_integer := F0.binds (ps := ["value"]) fun _ _ _ _ _ _ us hl => match us, hl with | [_], _ => rfl,
    f_is_name := f1, fd_is_name := _, g_is_name := PySem.W.mg_of X G a1, F_is_name := F1, B_is_name := F1.binds (ps := ["value"]) fun _ _ _ _ _ _ us hl => match us, hl with | [_], _ => rfl,
    f_common_divisor := f2, fd_common_divisor := _, g_common_divisor := PySem.W.mg_of X G a2, F_common_divisor := F2, B_common_divisor := F2.binds (ps := ["one", "other"]) fun _ _ _ _ _ _ us hl => match us, hl with | [_, _], _ => rfl,
    f_amount := f3, fd_amount := _, g_amount := PySem.W.mg_of X G a3, dv0_amount := (.int 1), dw0_amount := (fun _ _ => rep_int), F_amount := ⟨⟨oc3, od3, _, _, _, _, _, _, _, _, rfl, l3, c3, .inr ⟨List.cons_ne_nil _ _, dT3, _, _, _, de3, dl3, rfl, (.cons (show RelV (.int 1) _ from d3_0r) .nil)⟩, .inl rfl⟩, k3⟩,
    f_is_amount := f4, fd_is_amount := _, g_is_amount := PySem.W.mg_of X G a4, F_is_amount := F4, B_is_amount := F4.binds (ps := ["value"]) fun _ _ _ _ _ _ us hl => match us, hl with | [_], _ => rfl,
    f_plus := f5, fd_plus := _, g_plus := PySem.W.mg_of X G a5, F_plus := F5, B_plus := F5.binds (ps := ["one", "other"]) fun _ _ _ _ _ _ us hl => match us, hl with | [_, _], _ => rfl,
    f_minus := f6, fd_minus := _, g_minus := PySem.W.mg_of X G a6, F_minus := F6, B_minus := F6.binds (ps := ["one", "other"]) fun _ _ _ _ _ _ us hl => match us, hl with | [_, _], _ => rfl,
    f_opposite := f7, fd_opposite := _, g_opposite := PySem.W.mg_of X G a7, F_opposite := F7, B_opposite := F7.binds (ps := ["one"]) fun _ _ _ _ _ _ us hl => match us, hl with | [_], _ => rfl,
    f_sign := f8, fd_sign := _, g_sign := PySem.W.mg_of X G a8, F_sign := F8, B_sign := F8.binds (ps := ["one"]) fun _ _ _ _ _ _ us hl => match us, hl with | [_], _ => rfl,
    f_amount_text := f9, fd_amount_text := _, g_amount_text := PySem.W.mg_of X G a9, F_amount_text := F9, B_amount_text := F9.binds (ps := ["one"]) fun _ _ _ _ _ _ us hl => match us, hl with | [_], _ => rfl,
    f_integer_in := f10, fd_integer_in := _, g_integer_in := PySem.W.mg_of X G a10, F_integer_in := F10, B_integer_in := F10.binds (ps := ["text"]) fun _ _ _ _ _ _ us hl => match us, hl with | [_], _ => rfl,
    f_amount_in := f11, fd_amount_in := _, g_amount_in := PySem.W.mg_of X G a11, F_amount_in := F11, B_amount_in := F11.binds (ps := ["text"]) fun _ _ _ _ _ _ us hl => match us, hl with | [_], _ => rfl,
    f_form_of := f12, fd_form_of := _, g_form_of := PySem.W.mg_of X G a12, dv0_form_of := (.ref d12_0A), dw0_form_of := (fun M H => rep_tup (.inr ⟨_, _, _, d12_0l, rfl, rfl, Nat.le_of_ble_eq_true rfl, (.cons (show RelV (.int 0) _ from d12_00r) (.cons (show RelV (.int 1) _ from d12_01r) .nil))⟩) (reps_cons ((fun _ _ => rep_int) M H) (reps_cons ((fun _ _ => rep_int) M H) reps_nil))), F_form_of := ⟨⟨oc12, od12, _, _, _, _, _, _, _, _, rfl, l12, c12, .inr ⟨List.cons_ne_nil _ _, dT12, _, _, _, de12, dl12, rfl, (.cons (show RelV (.ref d12_0A) _ from d12_0e) .nil)⟩, .inl rfl⟩, k12⟩,
    f_part_text := f13, fd_part_text := _, g_part_text := PySem.W.mg_of X G a13, F_part_text := F13, B_part_text := F13.binds (ps := ["name", "factor"]) fun _ _ _ _ _ _ us hl => match us, hl with | [_, _], _ => rfl,
    f_form_text := f14, fd_form_text := _, g_form_text := PySem.W.mg_of X G a14, F_form_text := F14, B_form_text := F14.binds (ps := ["form"]) fun _ _ _ _ _ _ us hl => match us, hl with | [_], _ => rfl,
    f_part_in := f15, fd_part_in := _, g_part_in := PySem.W.mg_of X G a15, F_part_in := F15, B_part_in := F15.binds (ps := ["text"]) fun _ _ _ _ _ _ us hl => match us, hl with | [_], _ => rfl,
    f_form_in := f16, fd_form_in := _, g_form_in := PySem.W.mg_of X G a16, F_form_in := F16, B_form_in := F16.binds (ps := ["text"]) fun _ _ _ _ _ _ us hl => match us, hl with | [_], _ => rfl,
    f_read_form := f17, fd_read_form := _, g_read_form := PySem.W.mg_of X G a17, F_read_form := F17, B_read_form := F17.binds (ps := ["text"]) fun _ _ _ _ _ _ us hl => match us, hl with | [_], _ => rfl,
    f_l_source := f18, fd_l_source := _, g_l_source := PySem.W.mg_of X G a18, F_l_source := F18, B_l_source := F18.binds (ps := ["_law_script"]) fun _ _ _ _ _ _ us hl => match us, hl with | [_], _ => rfl,
    f_l_draw := f19, fd_l_draw := _, g_l_draw := PySem.W.mg_of X G a19, F_l_draw := F19, B_l_draw := F19.binds (ps := ["_law_rng", "_law_many"]) fun _ _ _ _ _ _ us hl => match us, hl with | [_, _], _ => rfl,
    f_l_choice := f20, fd_l_choice := _, g_l_choice := PySem.W.mg_of X G a20, F_l_choice := F20, B_l_choice := F20.binds (ps := ["_law_rng", "_law_some"]) fun _ _ _ _ _ _ us hl => match us, hl with | [_, _], _ => rfl,
    f_l_same := f21, fd_l_same := _, g_l_same := PySem.W.mg_of X G a21, F_l_same := F21, B_l_same := F21.binds (ps := ["_law_result", "_law_expected"]) fun _ _ _ _ _ _ us hl => match us, hl with | [_, _], _ => rfl,
    f_l_divisor := f22, fd_l_divisor := _, g_l_divisor := PySem.W.mg_of X G a22, F_l_divisor := F22, B_l_divisor := F22.binds (ps := ["_law_one", "_law_other"]) fun _ _ _ _ _ _ us hl => match us, hl with | [_, _], _ => rfl,
    f_l_ratio := f23, fd_l_ratio := _, g_l_ratio := PySem.W.mg_of X G a23, F_l_ratio := F23, B_l_ratio := F23.binds (ps := ["_law_top", "_law_bottom"]) fun _ _ _ _ _ _ us hl => match us, hl with | [_, _], _ => rfl,
    f_l_plus := f24, fd_l_plus := _, g_l_plus := PySem.W.mg_of X G a24, F_l_plus := F24, B_l_plus := F24.binds (ps := ["_law_one", "_law_other"]) fun _ _ _ _ _ _ us hl => match us, hl with | [_, _], _ => rfl,
    f_l_amount := f25, fd_l_amount := _, g_l_amount := PySem.W.mg_of X G a25, F_l_amount := F25, B_l_amount := F25.binds (ps := ["_law_rng"]) fun _ _ _ _ _ _ us hl => match us, hl with | [_], _ => rfl,
    f_l_far := f26, fd_l_far := _, g_l_far := PySem.W.mg_of X G a26, F_l_far := F26, B_l_far := F26.binds (ps := ["_law_rng"]) fun _ _ _ _ _ _ us hl => match us, hl with | [_], _ => rfl,
    f_l_factor := f27, fd_l_factor := _, g_l_factor := PySem.W.mg_of X G a27, F_l_factor := F27, B_l_factor := F27.binds (ps := ["_law_rng"]) fun _ _ _ _ _ _ us hl => match us, hl with | [_], _ => rfl,
    f_l_names := f28, fd_l_names := _, g_l_names := PySem.W.mg_of X G a28, F_l_names := F28, B_l_names := F28.binds (ps := ["_law_rng", "_law_many"]) fun _ _ _ _ _ _ us hl => match us, hl with | [_, _], _ => rfl,
    f_l_form_of := f29, fd_l_form_of := _, g_l_form_of := PySem.W.mg_of X G a29, F_l_form_of := F29, B_l_form_of := F29.binds (ps := ["_law_pairs", "_law_rest_z"]) fun _ _ _ _ _ _ us hl => match us, hl with | [_, _], _ => rfl,
    f_l_amount_text := f30, fd_l_amount_text := _, g_l_amount_text := PySem.W.mg_of X G a30, F_l_amount_text := F30, B_l_amount_text := F30.binds (ps := ["_law_one"]) fun _ _ _ _ _ _ us hl => match us, hl with | [_], _ => rfl,
    f_l_form_text := f31, fd_l_form_text := _, g_l_form_text := PySem.W.mg_of X G a31, F_l_form_text := F31, B_l_form_text := F31.binds (ps := ["_law_form"]) fun _ _ _ _ _ _ us hl => match us, hl with | [_], _ => rfl,
    f_law := f32, fd_law := _, g_law := PySem.W.mg_of X G a32, F_law := F32, B_law := F32.binds (ps := ["_law_script"]) fun _ _ _ _ _ _ us hl => match us, hl with | [_], _ => rfl,
    n_abs := PySem.W.mg_none_of X G n_abs,
    n_all := PySem.W.mg_none_of X G n_all,
    n_bool := PySem.W.mg_none_of X G n_bool,
    n_enumerate := PySem.W.mg_none_of X G n_enumerate,
    n_int := PySem.W.mg_none_of X G n_int,
    n_isinstance := PySem.W.mg_none_of X G n_isinstance,
    n_len := PySem.W.mg_none_of X G n_len,
    n_list := PySem.W.mg_none_of X G n_list,
    n_range := PySem.W.mg_none_of X G n_range,
    n_sorted := PySem.W.mg_none_of X G n_sorted,
    n_str := PySem.W.mg_none_of X G n_str,
    n_tuple := PySem.W.mg_none_of X G n_tuple,
    n_zip := PySem.W.mg_none_of X G n_zip }
section
variable {P : Program} {w : World} {K : PySem.W.Frag} {mg : Str → Option Value} {base : Heap} {W : Wd}
/-! ### the world of the law's draws: its list at r, the cells at c -/
structure RngAt (r c : Addr) (H : Hp) (ns : List Int) (i g sd : Int) : Prop where
  hr : H r = some (.lst [.ref c, .int i, .int g, .int sd])
  hc : H c = some (.lst (ns.map V.int))
  ne : r ≠ c
  i0 : 0 ≤ i
  g0 : 0 ≤ g
  s0 : 0 ≤ sd
  s1 : sd < 2147483563
def rngW (r c : Addr) : Wd where
  A a := a = r ∨ a = c
  I H := ∃ ns i g sd, RngAt r c H ns i g sd
  live H a h ha := by
    obtain ⟨ns, i, g, sd, R⟩ := h
    rcases ha with rfl | rfl
    · rw [R.hr]; intro z; cases z
    · rw [R.hc]; intro z; cases z
  nx H b φ h ha z := by
    obtain ⟨ns, i, g, sd, R⟩ := h
    rcases ha with rfl | rfl
    · rw [R.hr] at z; cases z
    · rw [R.hc] at z; cases z
  stay H H' h k _ _ := by
    obtain ⟨ns, i, g, sd, R⟩ := h
    exact ⟨ns, i, g, sd, ⟨by rw [k _ (.inl rfl)]; exact R.hr, by rw [k _ (.inr rfl)]; exact R.hc, R.ne, R.i0, R.g0, R.s0, R.s1⟩⟩
def g_draw (r : Addr) (xs : List D) (Q : D → Prop) : Prop := ∃ n : Int, xs = [.hnd (.ref r), .int n] ∧ 0 < n ∧ n ≤ 1000000000 ∧ ∀ k : Int, 0 ≤ k → k < n → Q (.int k)
theorem RngAt.set {r c : Addr} {H : Hp} {ns : List Int} {i g sd : Int} (R : RngAt r c H ns i g sd) {i' g' sd' : Int} (h1 : 0 ≤ i') (h2 : 0 ≤ g') (h3 : 0 ≤ sd') (h4 : sd' < 2147483563) :
    RngAt r c (upd H r (.lst [.ref c, .int i', .int g', .int sd'])) ns i' g' sd' := ⟨upd_same, by rw [upd_ne (Ne.symm R.ne)]; exact R.hc, R.ne, h1, h2, h3, h4⟩
theorem ext_upd {r c : Addr} {H H' : Hp} {o : HO} (e : Ext (rngW r c) H H') : Ext (rngW r c) H (upd H' r o) := fun b o n h => by
  rw [upd_ne (fun z => n (.inl z))]
  exact e b o n h
theorem fm0 (a : Int) {b : Int} (hb : 0 < b) : 0 ≤ a.fmod b := by rw [Int.fmod_eq_emod_of_nonneg a (by omega)]; exact Int.emod_nonneg a (by omega)
theorem fm1 (a : Int) {b : Int} (hb : 0 < b) : a.fmod b < b := by rw [Int.fmod_eq_emod_of_nonneg a (by omega)]; exact Int.emod_lt_of_pos a hb
theorem fd0 {a b : Int} (ha : 0 ≤ a) (hb : 0 < b) : 0 ≤ a.fdiv b := by rw [Int.fdiv_eq_ediv_of_nonneg a (by omega)]; exact Int.ediv_nonneg ha (by omega)
theorem mulW_small {i j : Int} (hi : i.natAbs < 2 ^ 64) (hj : j.natAbs < 2 ^ 64) : CMulW i j := wide_mul hi hj (by decide) (by decide) (by decide)
theorem cutSeq {t u : TS} {D : Ends} {σ : L2.St} {H : Hp} (N : L2.St → Hp → Prop) (h1 : ∀ σ' H', N σ' H' → u D σ' H') (h2 : (∀ σ' H', N σ' H' → u D σ' H') → t { D with nx := u D } σ H) : tSeq t u D σ H := h2 h1
theorem ok_l_draw (T : Tx K mg) (r c : Addr) : FnOk P w K mg base CX0 1 T.f_l_draw T.fd_l_draw ["_law_rng", "_law_many"] (spD K (rngW r c) (g_draw r)) := by
  refine T.F_l_draw.ok sc_l_draw (fun vs H Q E h => ?_) (fun cdv A outer s H vs Q E hr h => ⟨_, (pss_cons (ps_if (PW.pt (pw_and (pt_cmpR op_eq (pe_ix ix_list (pv 0) pe_int (fun _ _ => rfl)) pe_int (nomark _)) (pw_and1 (pt_cmpR op_lt (pe_ix ix_list (pv 0) pe_int (fun _ _ => rfl)) (pe_callB call_len_seq (by rfl) T.n_len bt_len (pa_cons (pe_ix ix_list (pv 0) pe_int (fun _ _ => rfl)) pa_nil)) (nomark _))))) (pss_cons (ps_set (i := 3) sc_l_draw.nd rfl (by first | exact Or.inl rfl | exact Or.inr rfl) (pe_ix ix_list (pe_ix ix_list (pv 0) pe_int (fun _ _ => rfl)) (pe_ix ix_list (pv 0) pe_int (fun _ _ => rfl)) (fun _ _ => rfl))) (pss_cons (ps_asg (pe_op op_add (pe_ix ix_list (pv 0) pe_int (fun _ _ => rfl)) pe_int) (pg_sub (pv 0) pe_int set_list)) (pss_one (ps_if (PW.pt (pw_or (pt_cmpR op_ge (pv 3) (pe_op op_pow pe_int pe_int) (nomark _)) (pw_or1 (pt_cmpR op_le (pv 3) (pe_op op_sub pe_int (pe_op op_pow pe_int pe_int)) (nomark _))))) (pss_one (ps_asg (pe_callB call_abs (by rfl) T.n_abs bt_abs (pa_cons (pv 3) pa_nil)) (pg_sub (pv 0) pe_int set_list))) (pss_one (ps_asg (pe_op op_modN (pe_callTy call_int1 (by rfl) T.n_int bt_int (pa_cons (pe_op op_add (pe_op op_add (pe_op op_mulW (pe_ix ix_list (pv 0) pe_int (fun _ _ => rfl)) pe_int) (pe_op op_mulW (pe_op op_modN (pe_callTy call_int1 (by rfl) T.n_int bt_int (pa_cons (pv 3) pa_nil)) pe_int) pe_int)) (pe_ix ix_list (pv 0) pe_int (fun _ _ => rfl))) pa_nil)) pe_int) (pg_sub (pv 0) pe_int set_list))))))) pss_nil) (pss_cons (ps_if (pt_cmpR op_gt (pe_ix ix_list (pv 0) pe_int (fun _ _ => rfl)) pe_int (nomark _)) (pss_cons (ps_set (i := 4) sc_l_draw.nd rfl (by first | exact Or.inl rfl | exact Or.inr rfl) (pe_op op_modN (pe_callTy call_int1 (by rfl) T.n_int bt_int (pa_cons (pe_ix ix_list (pv 0) pe_int (fun _ _ => rfl)) pa_nil)) (pv 1))) (pss_cons (ps_asg (pe_op op_fdivN (pe_ix ix_list (pv 0) pe_int (fun _ _ => rfl)) (pv 1)) (pg_sub (pv 0) pe_int set_list)) (pss_one (ps_ret (pv 4))))) pss_nil) (pss_cons (ps_set (i := 2) sc_l_draw.nd rfl (by first | exact Or.inl rfl | exact Or.inr rfl) (pe_ix ix_list (pv 0) pe_int (fun _ _ => rfl))) (pss_cons (ps_asg (pe_op op_modN (pe_callTy call_int1 (by rfl) T.n_int bt_int (pa_cons (pe_op op_add (pe_op op_add (pe_op op_mulW (pv 2) (pv 2)) (pe_op op_mulW (pv 2) pe_int)) pe_int) pa_nil)) pe_int) (pg_sub (pv 0) pe_int set_list)) (pss_one (ps_ret (pe_op op_modN (pe_callTy call_int1 (by rfl) T.n_int bt_int (pa_cons (pe_op op_add (pe_op op_fdivN (pe_ix ix_list (pv 0) pe_int (fun _ _ => rfl)) pe_int) (pe_op op_mulW (pe_op op_modN (pe_callTy call_int1 (by rfl) T.n_int bt_int (pa_cons (pe_ix ix_list (pv 0) pe_int (fun _ _ => rfl)) pa_nil)) pe_int) pe_int)) pa_nil)) (pv 1)))))))), ?_⟩)
  · obtain ⟨M, ds, P, m, rs, ⟨n, rfl, _⟩, _⟩ := h
    rw [rs.len]
    rfl
  · obtain ⟨M, ds, P, m, rs, ⟨n, rfl, hn0, hn1, hP⟩, k⟩ := h
    obtain ⟨v1, v2, rfl, r1, r2⟩ := rs.two
    rw [r1.hnd, r2.int]
    have fin : ∀ (H' : Hp) (x : Int), Ext (rngW r c) H H' → (rngW r c).I H' → 0 ≤ x → x < n → Q (.int x) H' := fun H' x e i h0 h1 => k _ _ H' (hP x h0 h1) e i rep_int
    obtain ⟨ns, i, g, sd, R⟩ : ∃ ns i g sd, RngAt r c H ns i g sd := m.wi
    refine cutSeq (fun σ' H' => (∃ o, σ' = [some (.ref r), some (.int n), none, o, none]) ∧ Ext (rngW r c) H H' ∧ (rngW r c).I H') ?_ (fun rest => ?_)
    · rintro σ' H' ⟨⟨o, rfl⟩, e, ns, i, g, sd, R⟩
      have hsd : sd.natAbs < 2 ^ 64 := by have h0 := R.s0; have h1 := R.s1; omega
      refine ⟨_, rfl, r, _, _, _, rfl, rfl, SqL.of R.hr, rfl, _, _, rfl, rfl, _, rfl, vifd (fun hg => ?_) (fun hg => ?_)⟩
      · -- a digit of a great cell
        refine ⟨_, rfl, r, _, _, _, rfl, rfl, SqL.of R.hr, rfl, .inl ⟨_, rfl, _, rfl, _, _, rfl, rfl, by omega, ?_⟩⟩
        refine ⟨_, rfl, r, _, _, _, rfl, rfl, SqL.of R.hr, rfl, _, rfl, _, _, rfl, rfl, ⟨by omega, by omega⟩, _, rfl, r, _, _, _, rfl, rfl, R.hr, rfl, ?_⟩
        refine ⟨_, rfl, fin _ _ (ext_upd e) ⟨ns, i, _, sd, R.set R.i0 (fd0 R.g0 hn0) R.s0 R.s1⟩ (fm0 _ hn0) (fm1 _ hn0)⟩
      · refine ⟨_, rfl, r, _, _, _, rfl, rfl, SqL.of R.hr, rfl, ?_⟩
        refine ⟨_, rfl, _, rfl, _, _, rfl, rfl, mulW_small hsd hsd, _, rfl, _, _, rfl, rfl, mulW_small hsd (by decide), _, _, rfl, rfl, _, _, rfl, rfl, .inl ⟨_, rfl, _, _, rfl, rfl, (show (2147483563 : Int) ≠ 0 by decide), _, rfl, r, _, _, _, rfl, rfl, R.hr, rfl, ?_⟩⟩
        have R2 := R.set (i' := i) (g' := g) (sd' := (sd * sd + sd * 40123 + 70001).fmod 2147483563) R.i0 R.g0 (fm0 _ (by decide)) (fm1 _ (by decide))
        have h0 := R2.s0
        have h1 := R2.s1
        refine ⟨_, rfl, r, _, _, _, rfl, rfl, SqL.of R2.hr, rfl, _, _, rfl, rfl, ⟨show (59 : Int) ≠ 0 by decide, by decide⟩, _, rfl, r, _, _, _, rfl, rfl, SqL.of R2.hr, rfl, .inl ⟨_, rfl, _, _, rfl, rfl, (show (8111 : Int) ≠ 0 by decide), _, _, rfl, rfl, ?_, _, _, rfl, rfl, .inl ⟨_, rfl, _, rfl, _, _, rfl, rfl, by omega, ?_⟩⟩⟩
        · have z0 := fm0 ((sd * sd + sd * 40123 + 70001).fmod 2147483563) (b := 8111) (by decide)
          have z1 := fm1 ((sd * sd + sd * 40123 + 70001).fmod 2147483563) (b := 8111) (by decide)
          exact mulW_small (by omega) (by decide)
        · exact fin _ _ (ext_upd e) ⟨ns, i, g, _, R2⟩ (fm0 _ hn0) (fm1 _ hn0)
    · refine ⟨_, rfl, r, _, _, _, rfl, rfl, SqL.of R.hr, rfl, rfl, _, rfl, vif (fun hg => ?_) (fun hg => ?_)⟩
      · refine ⟨_, rfl, r, _, _, _, rfl, rfl, SqL.of R.hr, rfl, _, rfl, r, _, _, _, rfl, rfl, SqL.of R.hr, rfl, c, _, rfl, .inl (SqL.of R.hc), _, _, rfl, rfl, _, rfl, vifd (fun hi => ?_) (fun hi => ?_)⟩
        · rw [List.length_map] at hi
          obtain ⟨x, hx⟩ := get_lt (xs := ns) (i := i.toNat) (by have := R.i0; omega)
          have hat : atI (ns.map V.int) i = some (.int x) := by
            have e := atI_nat (xs := ns.map V.int) (j := i.toNat) (v := .int x) (by rw [List.getElem?_map, hx]; rfl)
            rw [show ((i.toNat : Nat) : Int) = i by have := R.i0; omega] at e
            exact e
          refine ⟨_, rfl, r, _, _, _, rfl, rfl, SqL.of R.hr, rfl, _, rfl, r, _, _, _, rfl, rfl, SqL.of R.hr, rfl, c, _, _, _, rfl, rfl, SqL.of R.hc, hat, ?_⟩
          refine ⟨_, rfl, r, _, _, _, rfl, rfl, SqL.of R.hr, rfl, _, _, rfl, rfl, _, rfl, r, _, _, _, rfl, rfl, R.hr, rfl, ?_⟩
          have R2 := R.set (i' := i + 1) (g' := g) (sd' := sd) (by have := R.i0; omega) R.g0 R.s0 R.s1
          have e1 : Ext (rngW r c) H (upd H r (.lst [.ref c, .int (i + 1), .int g, .int sd])) := ext_upd (Ext.refl H)
          have p10 : CPow 10 18 := ⟨by decide, by decide, by decide⟩
          refine ⟨_, rfl, _, _, rfl, rfl, p10, _, _, rfl, rfl, _, rfl, vifd (fun h1 => ?_) (fun h1 => ?_)⟩
          · refine ⟨_, rfl, _, rfl, _, rfl, r, _, _, _, rfl, rfl, R2.hr, rfl, ?_⟩
            exact rest _ _ ⟨⟨_, rfl⟩, ext_upd e1, ns, _, _, _, R2.set R2.i0 (by show 0 ≤ (if x < 0 then -x else x); split <;> omega) R2.s0 R2.s1⟩
          · refine ⟨_, rfl, _, _, rfl, rfl, p10, _, _, rfl, rfl, _, _, rfl, rfl, _, rfl, vifd (fun h2 => ?_) (fun h2 => ?_)⟩
            · refine ⟨_, rfl, _, rfl, _, rfl, r, _, _, _, rfl, rfl, R2.hr, rfl, ?_⟩
              exact rest _ _ ⟨⟨_, rfl⟩, ext_upd e1, ns, _, _, _, R2.set R2.i0 (by show 0 ≤ (if x < 0 then -x else x); split <;> omega) R2.s0 R2.s1⟩
            · have hsd : sd.natAbs < 2 ^ 64 := by have h0 := R.s0; have h1 := R.s1; omega
              have z0 := fm0 x (b := 2147483563) (by decide)
              have z1 := fm1 x (b := 2147483563) (by decide)
              refine ⟨_, rfl, r, _, _, _, rfl, rfl, SqL.of R2.hr, rfl, _, _, rfl, rfl, mulW_small hsd (by decide), _, rfl, .inl ⟨_, rfl, _, _, rfl, rfl, (show (2147483563 : Int) ≠ 0 by decide), _, _, rfl, rfl, mulW_small (by omega) (by decide), _, _, rfl, rfl, ?_⟩⟩
              refine ⟨_, rfl, r, _, _, _, rfl, rfl, SqL.of R2.hr, rfl, _, _, rfl, rfl, .inl ⟨_, rfl, _, _, rfl, rfl, (show (2147483563 : Int) ≠ 0 by decide), _, rfl, r, _, _, _, rfl, rfl, R2.hr, rfl, ?_⟩⟩
              exact rest _ _ ⟨⟨_, rfl⟩, ext_upd e1, ns, _, _, _, R2.set R2.i0 R2.g0 (fm0 _ (by decide)) (fm1 _ (by decide))⟩
        · exact rest _ _ ⟨⟨none, rfl⟩, Ext.refl H, ns, i, g, sd, R⟩
      · exact rest _ _ ⟨⟨none, rfl⟩, Ext.refl H, ns, i, g, sd, R⟩
/-- _law_source: the world of the draws is made -/
def spSource (K : PySem.W.Frag) : Sp := fun vs H Q _ => ∃ (a : Addr) (ns : List Int), vs = [.ref a] ∧ SqL K H a (ns.map V.int) ∧ ns.length ≤ 63 ∧
  ∀ (H' : Hp) (r c : Addr), H r = none → H c = none → Same H H' → (rngW r c).I H' → Q (.ref r) H'
theorem cut_ints (ns : List Int) (lo hi : Option Int) : cutV (ns.map V.int) lo hi = (((ns.drop (HT.sIx ns.length 0 lo)).take (HT.sIx ns.length ns.length hi - HT.sIx ns.length 0 lo)).map V.int) := by
  unfold cutV
  rw [List.length_map, List.map_take, List.map_drop]
theorem same_put {H H' : Hp} {p : Addr} {o : HO} (e : Same H H') (h : H' p = none) : Same H (upd H' p o) := fun b u q => by
  have z := e b u q
  rw [upd_ne (ne_of_none z h)]
  exact z
theorem ok_l_source (T : Tx K mg) : FnOk P w K mg base CX0 1 T.f_l_source T.fd_l_source ["_law_script"] (spSource K) := by
  refine T.F_l_source.ok sc_l_source (fun vs H Q E h => ?_) (fun cdv A outer s H vs Q E hr h => ⟨_, (pss_cons (ps_set (i := 1) sc_l_source.nd rfl (by first | exact Or.inl rfl | exact Or.inr rfl) (pe_op op_add pe_int (pe_op op_mulW pe_int (pe_callB call_len_seq (by rfl) T.n_len bt_len (pa_cons (pe_slice sl_list (pv 0) po_none (po_some pe_int)) pa_nil))))) (pss_cons (ps_for PassesOwn.never rfl (pi_list (pe_slice sl_list (pv 0) po_none (po_some pe_int))) (pg_name (i := 2) sc_l_source.nd rfl (by first | exact Or.inl rfl | exact Or.inr rfl)) (pss_one (ps_set (i := 1) sc_l_source.nd rfl (by first | exact Or.inl rfl | exact Or.inr rfl) (pe_op op_modN (pe_callTy call_int1 (by rfl) T.n_int bt_int (pa_cons (pe_op op_add (pe_op op_add (pe_op op_mulW (pv 1) pe_int) (pe_op op_modN (pe_callTy call_int1 (by rfl) T.n_int bt_int (pa_cons (pv 2) pa_nil)) pe_int)) pe_int) pa_nil)) pe_int)))) (pss_one (ps_ret (pe_lst (pa_cons (pe_callTy call_list_of (by rfl) T.n_list bt_list (pa_cons (pe_slice sl_list (pv 0) po_none (po_some pe_int)) pa_nil)) (pa_cons pe_int (pa_cons pe_int (pa_cons (pv 1) pa_nil))))))))), ?_⟩)
  · obtain ⟨a, ns, rfl, _⟩ := h
    rfl
  · obtain ⟨a, ns, rfl, hS, hl, k⟩ := h
    have hcut : ∀ ns : List Int, ns.length ≤ 63 → ∀ lo hi, ∃ ms : List Int, cutV (ns.map V.int) lo hi = ms.map V.int ∧ ms.length ≤ 63 := fun ns hl lo hi => by
      refine ⟨_, cut_ints ns lo hi, ?_⟩
      rw [List.length_take, List.length_drop]
      omega
    obtain ⟨ms, hms, hml⟩ := hcut ns hl none (some 63)
    refine ⟨_, rfl, 63, rfl, a, _, rfl, hS, fun p1 hp1 => ?_⟩
    rw [hms]
    refine ⟨p1, _, rfl, .inl (SqL.of upd_same), _, _, rfl, rfl, ?_, _, _, rfl, rfl, ?_⟩
    · rw [List.length_map]
      exact mulW_small (by decide) (by omega)
    have S1 : Same H (upd H p1 (.lst (ms.map V.int))) := same_put (Same.refl H) hp1
    refine ⟨_, rfl, 63, rfl, a, _, rfl, S1.seq hS, fun p2 hp2 => ?_⟩
    rw [hms]
    have S2 := same_put (o := .lst (ms.map V.int)) S1 hp2
    refine ⟨p2, rfl, ⟨_, SqL.of upd_same⟩, for_list (K := K) (a := p2) (xs := ms.map V.int) (fun i σ H' => H' = upd (upd H p1 (.lst (ms.map V.int))) p2 (.lst (ms.map V.int)) ∧ ∃ (sd : Int) (o : Option V), σ = [some (.ref a), some (.int sd), o] ∧ 0 ≤ sd ∧ sd < 2147483563) ?_ ?_ ?_ ?_⟩
    · refine ⟨rfl, _, none, rfl, ?_, ?_⟩
      · rw [List.length_map]; omega
      · rw [List.length_map]; omega
    · rintro i σ H' _ ⟨rfl, _⟩
      exact SqL.of upd_same
    · rintro i x σ H' hx ⟨rfl, sd, o, rfl, h0, h1⟩
      rw [List.getElem?_map] at hx
      cases e : ms[i]? with
      | none => rw [e] at hx; cases hx
      | some z =>
        rw [e] at hx
        cases hx
        have z0 := fm0 z (b := 2147483563) (by decide)
        have z1 := fm1 z (b := 2147483563) (by decide)
        refine ⟨_, rfl, _, _, rfl, rfl, mulW_small (by omega) (by decide), _, rfl, .inl ⟨_, rfl, _, _, rfl, rfl, (show (2147483563 : Int) ≠ 0 by decide), _, _, rfl, rfl, _, _, rfl, rfl, .inl ⟨_, rfl, _, _, rfl, rfl, (show (2147483563 : Int) ≠ 0 by decide), ?_⟩⟩⟩
        exact ⟨rfl, _, _, rfl, fm0 _ (by decide), fm1 _ (by decide)⟩
    · rintro σ H' ⟨rfl, sd, o, rfl, h0, h1⟩
      refine ⟨_, rfl, 63, rfl, a, _, rfl, S2.seq hS, fun p3 hp3 => ?_⟩
      rw [hms]
      have S3 := same_put (o := .lst (ms.map V.int)) S2 hp3
      refine ⟨p3, _, rfl, .inl (SqL.of upd_same), fun c hc => ⟨_, rfl, (by show 4 ≤ sizeLine; decide), fun r hr => ?_⟩⟩
      have S4 := same_put (o := .lst (ms.map V.int)) S3 hc
      have hcr : c ≠ r := ne_of_none upd_same hr
      refine k _ r c (S4.free hr) (S3.free hc) (same_put S4 hr) ⟨ms, 0, 0, sd, upd_same, ?_, Ne.symm hcr, Int.le_refl _, Int.le_refl _, h0, h1⟩
      rw [upd_ne hcr]
      exact upd_same
theorem pss_ex2 {X : Cx} {st : List Stmt} {t : Addr → Addr → TS} (h : ∀ r c, PSs X st (t r c)) : PSs X st (fun D σ H => ∃ r c, t r c D σ H) := ⟨fun pins s σ H D I ⟨r, c, hw⟩ => (h r c).run pins s σ H D I hw⟩
theorem sat_one {K : PySem.W.Frag} {W : Wd} {M : Addr → Prop} {H : Hp} {σ : L2.St} {i : Nat} {v : V} (m : MOk W M H) (hm : ∀ a, W.Mf a → M a) (hh : Ext W W.Hf H) (h : σ[i]? = some (some v)) : Sat K W M H (fun _ => none) H σ ((List.replicate σ.length Sl.un).set i (.d (.hnd v))) := by
  refine ⟨m.wm, m.live, Ext.refl H, m.wi, fun i a h => (by cases h), fun i j a h => (by cases h), by simp, fun i _ => rfl, fun j s hj => ?_, hm, hh, fun a h => W.liveB _ _ m.wi h, m.nb, m.nx⟩
  by_cases e : j = i
  · subst e
    have hl : j < σ.length := (List.getElem?_eq_some_iff.mp h).1
    rw [List.getElem?_set_self (by simpa using hl)] at hj
    cases hj
    exact ⟨rfl, v, h, rep_hnd⟩
  · rw [List.getElem?_set_ne (Ne.symm e), List.getElem?_replicate] at hj
    split at hj
    · cases hj; rfl
    · cases hj
theorem law_go {K : PySem.W.Frag} {r c : Addr} {H : Hp} {Q : VK} {σ : L2.St} {i : Nat} {w : WS} (I : (rngW r c).I H) (h : σ[i]? = some (some (.ref r))) (hQ : ∀ H', Q (.bl true) H')
    (hw : w (endsD fun d => d = .bl true) ((List.replicate σ.length Sl.un).set i (.d (.hnd (.ref r))))) : LS K (rngW r c) w { nx := fun _ H' => Q .non H', rt := Q } σ H := by
  refine ⟨fun a => a = r ∨ a = c, H, fun _ => none, _, _, sat_one ⟨fun a h => h, fun a ha => (rngW r c).live H a I ha, I, fun _ _ z => z, fun a φ ha => (rngW r c).nx H a φ I ha⟩ (fun _ z => z.elim) (fun _ _ _ z => by cases z) h, hw, fun ds' oa' σ' H' hn _ => ?_, fun d v H' hd _ _ rr => ?_, fun _ _ _ _ z => z.elim, fun _ _ _ _ z => z.elim⟩
  · cases hn
  · cases hd
    rw [rr.bl]
    exact hQ H'
def spLaw (K : PySem.W.Frag) : Sp := fun vs H Q _ => ∃ (a : Addr) (ns : List Int), vs = [.ref a] ∧ SqL K H a (ns.map V.int) ∧ ns.length ≤ 63 ∧ ∀ H', Q (.bl true) H'
/-! ### _law_same: equal data is found equal -/
def g_same (n : Nat) (xs : List D) (Q : D → Prop) : Prop := ∃ d, xs = [d, d] ∧ okD n d = true ∧ Q (.bl true)
theorem same_step (T : Tx K mg) (n : Nat) (ih : ∀ (W : Wd) m, n = m + 1 → FnOk P w K mg base CX0 (m + 1) T.f_l_same T.fd_l_same ["_law_result", "_law_expected"] (spD K W (g_same m))) :
    FnOk P w K mg base CX0 (n + 1) T.f_l_same T.fd_l_same ["_law_result", "_law_expected"] (spD K W (g_same n)) := by
  cases n with
  | zero =>
    refine vfn T.F_l_same sc_l_same (fun ds Q h => ?_) ⟨_, fun cdv A outer s H E hr => (vss_cons (vs_if (vt_cmp op_isN lift_isN (ve_var 1) ve_non (nomark _)) (vss_one (vs_ret (ve_cmp op_isN lift_isN (ve_var 0) ve_non (nomark _)))) vss_nil) (vss_cons (vs_if (vt_w (vw_or (vt_val (ve_isi .list (by rfl) T.n_isinstance bt_isinstance (ve_var 1) (by rfl) T.n_list bt_list)) (vw_or1 (vt_val (ve_isi .tuple (by rfl) T.n_isinstance bt_isinstance (ve_var 1) (by rfl) T.n_tuple bt_tuple))))) (vss_cons (vs_set 2 sc_l_same.nd (ve_if (vt_val (ve_isi .list (by rfl) T.n_isinstance bt_isinstance (ve_var 1) (by rfl) T.n_list bt_list)) (ve_isi .list (by rfl) T.n_isinstance bt_isinstance (ve_var 0) (by rfl) T.n_list bt_list) (ve_isi .tuple (by rfl) T.n_isinstance bt_isinstance (ve_var 0) (by rfl) T.n_tuple bt_tuple))) (vss_one (vs_ret (ve_and (ve_var 2) (ve_and (ve_cmp (op_eqA hr.units) lift_eq (ve_callB call_len lift_len (by rfl) T.n_len bt_len (va_cons (ve_var 0) va_nil)) (ve_callB call_len lift_len (by rfl) T.n_len bt_len (va_cons (ve_var 1) va_nil)) (nomark _)) (ve_one (ve_callB (cr_all (by rfl)) lift_all (by rfl) T.n_all bt_all (va_cons (ve_lc (own := [("_law_a", 3), ("_law_b", 4)]) rfl sc_l_same.nd (vi_zipK (by rfl) T.n_zip (ve_var 0) (ve_var 1)) (blkOk_by (N := ["_law_result", "_law_expected", "_law_kind_so", "_law_a", "_law_b"]) (sc := defScope s_l_same) (by decide +kernel)) (fun _ _ _ _ _ => (vg_tup (n := 2) rfl (vgs_cons (vg_name 3 sc_l_same.nd (by decide)) (vgs_cons (vg_name 4 sc_l_same.nd (by decide)) vgs_nil)))) (fun _ _ _ _ _ => vts_nil) (fun _ _ _ _ _ => ve_never)) va_nil)))))))) vss_nil) (vss_cons (vs_if (vt_val (ve_isi .bool (by rfl) T.n_isinstance bt_isinstance (ve_var 1) (by rfl) T.n_bool bt_bool)) (vss_one (vs_ret (ve_and (ve_isi .bool (by rfl) T.n_isinstance bt_isinstance (ve_var 0) (by rfl) T.n_bool bt_bool) (ve_one (ve_cmp (op_eqA hr.units) lift_eq (ve_var 0) (ve_var 1) (nomark _)))))) vss_nil) (vss_cons (vs_if (vt_val (ve_isi .int (by rfl) T.n_isinstance bt_isinstance (ve_var 1) (by rfl) T.n_int bt_int)) (vss_one (vs_ret (ve_and (ve_isi .int (by rfl) T.n_isinstance bt_isinstance (ve_var 0) (by rfl) T.n_int bt_int) (ve_and (ve_not (ve_isi .bool (by rfl) T.n_isinstance bt_isinstance (ve_var 0) (by rfl) T.n_bool bt_bool)) (ve_one (ve_cmp (op_eqA hr.units) lift_eq (ve_var 0) (ve_var 1) (nomark _))))))) vss_nil) (vss_one (vs_ret (ve_and (ve_isi .str (by rfl) T.n_isinstance bt_isinstance (ve_var 0) (by rfl) T.n_str bt_str) (ve_one (ve_cmp (op_eqA hr.units) lift_eq (ve_var 0) (ve_var 1) (nomark _)))))))))), fun ds Q h => ?_⟩
    · obtain ⟨d, rfl, _⟩ := h
      rfl
    · obtain ⟨d, rfl, h1, h⟩ := h
      cases d with
      | non => exact h
      | bl b => exact ⟨rfl, rfl, rfl, rfl, by show Q (.bl (decide (b = b))); rw [decide_eq_true rfl]; exact h⟩
      | int b => exact ⟨rfl, rfl, rfl, rfl, rfl, rfl, by show Q (.bl (decide (b = b))); rw [decide_eq_true rfl]; exact h⟩
      | str b => exact ⟨rfl, rfl, rfl, rfl, rfl, by show Q (.bl (decide (b = b))); rw [decide_eq_true rfl]; exact h⟩
      | hnd v => cases h1
      | dic _ _ => cases h1
      | ins _ _ _ => cases h1
      | lam _ _ => cases h1
      | tup ds => cases h1
      | lst ds => cases h1
  | succ n =>
    have ih := ih W.pl n rfl
    refine vfn T.F_l_same sc_l_same (fun ds Q h => ?_) ⟨_, fun cdv A outer s H E hr => (vss_cons (vs_if (vt_cmp op_isN lift_isN (ve_var 1) ve_non (nomark _)) (vss_one (vs_ret (ve_cmp op_isN lift_isN (ve_var 0) ve_non (nomark _)))) vss_nil) (vss_cons (vs_if (vt_w (vw_or (vt_val (ve_isi .list (by rfl) T.n_isinstance bt_isinstance (ve_var 1) (by rfl) T.n_list bt_list)) (vw_or1 (vt_val (ve_isi .tuple (by rfl) T.n_isinstance bt_isinstance (ve_var 1) (by rfl) T.n_tuple bt_tuple))))) (vss_cons (vs_set 2 sc_l_same.nd (ve_if (vt_val (ve_isi .list (by rfl) T.n_isinstance bt_isinstance (ve_var 1) (by rfl) T.n_list bt_list)) (ve_isi .list (by rfl) T.n_isinstance bt_isinstance (ve_var 0) (by rfl) T.n_list bt_list) (ve_isi .tuple (by rfl) T.n_isinstance bt_isinstance (ve_var 0) (by rfl) T.n_tuple bt_tuple))) (vss_one (vs_ret (ve_and (ve_var 2) (ve_and (ve_cmp (op_eqA hr.units) lift_eq (ve_callB call_len lift_len (by rfl) T.n_len bt_len (va_cons (ve_var 0) va_nil)) (ve_callB call_len lift_len (by rfl) T.n_len bt_len (va_cons (ve_var 1) va_nil)) (nomark _)) (ve_one (ve_callB (cr_all (by rfl)) lift_all (by rfl) T.n_all bt_all (va_cons (ve_lc (own := [("_law_a", 3), ("_law_b", 4)]) rfl sc_l_same.nd (vi_zipK (by rfl) T.n_zip (ve_var 0) (ve_var 1)) (blkOk_by (N := ["_law_result", "_law_expected", "_law_kind_so", "_law_a", "_law_b"]) (sc := defScope s_l_same) (by decide +kernel)) (fun _ _ _ _ _ => (vg_tup (n := 2) rfl (vgs_cons (vg_name 3 sc_l_same.nd (by decide)) (vgs_cons (vg_name 4 sc_l_same.nd (by decide)) vgs_nil)))) (fun _ _ _ _ _ => vts_nil) (fun _ _ _ _ _ => (ve_call ih hr (by rfl) T.g_l_same T.F_l_same.kp T.B_l_same .nil pass0 (fun _ _ => reps_nil) (va_cons (ve_var 3) (va_cons (ve_var 4) va_nil))))) va_nil)))))))) vss_nil) (vss_cons (vs_if (vt_val (ve_isi .bool (by rfl) T.n_isinstance bt_isinstance (ve_var 1) (by rfl) T.n_bool bt_bool)) (vss_one (vs_ret (ve_and (ve_isi .bool (by rfl) T.n_isinstance bt_isinstance (ve_var 0) (by rfl) T.n_bool bt_bool) (ve_one (ve_cmp (op_eqA hr.units) lift_eq (ve_var 0) (ve_var 1) (nomark _)))))) vss_nil) (vss_cons (vs_if (vt_val (ve_isi .int (by rfl) T.n_isinstance bt_isinstance (ve_var 1) (by rfl) T.n_int bt_int)) (vss_one (vs_ret (ve_and (ve_isi .int (by rfl) T.n_isinstance bt_isinstance (ve_var 0) (by rfl) T.n_int bt_int) (ve_and (ve_not (ve_isi .bool (by rfl) T.n_isinstance bt_isinstance (ve_var 0) (by rfl) T.n_bool bt_bool)) (ve_one (ve_cmp (op_eqA hr.units) lift_eq (ve_var 0) (ve_var 1) (nomark _))))))) vss_nil) (vss_one (vs_ret (ve_and (ve_isi .str (by rfl) T.n_isinstance bt_isinstance (ve_var 0) (by rfl) T.n_str bt_str) (ve_one (ve_cmp (op_eqA hr.units) lift_eq (ve_var 0) (ve_var 1) (nomark _)))))))))), fun ds Q h => ?_⟩
    · obtain ⟨d, rfl, _⟩ := h
      rfl
    · obtain ⟨d, rfl, h1, h⟩ := h
      cases d with
      | non => exact h
      | bl b => exact ⟨rfl, rfl, rfl, rfl, by show Q (.bl (decide (b = b))); rw [decide_eq_true rfl]; exact h⟩
      | int b => exact ⟨rfl, rfl, rfl, rfl, rfl, rfl, by show Q (.bl (decide (b = b))); rw [decide_eq_true rfl]; exact h⟩
      | str b => exact ⟨rfl, rfl, rfl, rfl, rfl, by show Q (.bl (decide (b = b))); rw [decide_eq_true rfl]; exact h⟩
      | hnd v => cases h1
      | dic _ _ => cases h1
      | ins _ _ _ => cases h1
      | lam _ _ => cases h1
      | tup ds =>
        obtain ⟨hl, ha⟩ := Bool.and_eq_true_iff.mp h1
        have hl := of_decide_eq_true hl
        have ha := List.all_eq_true.mp ha
        refine ⟨rfl, rfl, rfl, rfl, ?_⟩
        refine vifd (fun _ => ?_) (fun e => absurd rfl e)
        refine ⟨rfl, hl, ?_⟩
        refine lcF (fun _ => .bl true) (fun d hd R hR => ?_) ?_
        · obtain ⟨x, hx, rfl⟩ := zips_same hd
          exact ⟨rfl, x, rfl, ha x hx, hR⟩
        · refine ⟨(zipsD ds ds).map fun _ => true, by rw [List.map_map]; rfl, ?_⟩
          rw [all_const]
          exact h
      | lst ds =>
        obtain ⟨hl, ha⟩ := Bool.and_eq_true_iff.mp h1
        have hl := of_decide_eq_true hl
        have ha := List.all_eq_true.mp ha
        refine ⟨rfl, rfl, rfl, ?_⟩
        refine vifd (fun _ => ?_) (fun e => absurd rfl e)
        refine ⟨rfl, hl, ?_⟩
        refine lcF (fun _ => .bl true) (fun d hd R hR => ?_) ?_
        · obtain ⟨x, hx, rfl⟩ := zips_same hd
          exact ⟨rfl, x, rfl, ha x hx, hR⟩
        · refine ⟨(zipsD ds ds).map fun _ => true, by rw [List.map_map]; rfl, ?_⟩
          rw [all_const]
          exact h
theorem ok_l_same' (T : Tx K mg) : ∀ (n : Nat) (W : Wd), FnOk P w K mg base CX0 (n + 1) T.f_l_same T.fd_l_same ["_law_result", "_law_expected"] (spD K W (g_same n))
  | 0, _ => same_step T 0 fun _ m h => absurd h (by omega)
  | n + 1, _ => same_step T (n + 1) fun W m h => by
    have e : m = n := by omega
    subst e
    exact ok_l_same' T m W
theorem ok_l_same (T : Tx K mg) (n : Nat) : FnOk P w K mg base CX0 (n + 1) T.f_l_same T.fd_l_same ["_law_result", "_law_expected"] (spD K W (g_same n)) := ok_l_same' T n W
def chD : D → (D → Prop) → Prop
  | .lst ds, Q => 0 < ds.length ∧ ds.length ≤ 1000000 ∧ ∀ d ∈ ds, Q d
  | .str z, Q => 0 < z.length ∧ z.length ≤ 1000000 ∧ ∀ c ∈ z.cps.toList, Q (.str ⟨#[c]⟩)
  | _, _ => False
def g_choice (r : Addr) (xs : List D) (Q : D → Prop) : Prop := ∃ x, xs = [.hnd (.ref r), x] ∧ chD x Q
theorem ok_l_choice (T : Tx K mg) (r c : Addr) : FnOk P w K mg base CX0 2 T.f_l_choice T.fd_l_choice ["_law_rng", "_law_some"] (spD K (rngW r c) (g_choice r)) := by
  refine vfn T.F_l_choice sc_l_choice (fun ds Q h => ?_) ⟨_, fun cdv A outer s H E hr => (vss_one (vs_ret (ve_ixA hr.units (ve_var 1) (ve_call (ok_l_draw T r c) (hr.mono (by decide)) (by rfl) T.g_l_draw T.F_l_draw.kp T.B_l_draw .nil pass0 (fun _ _ => reps_nil) (va_cons (ve_var 0) (va_cons (ve_callB call_len lift_len (by rfl) T.n_len bt_len (va_cons (ve_var 1) va_nil)) va_nil)))))), fun ds Q h => ?_⟩
  · obtain ⟨d, rfl, _⟩ := h
    rfl
  · obtain ⟨x, rfl, h⟩ := h
    cases x <;> first | exact h.elim | skip
    · rename_i z
      obtain ⟨h0, h1, h⟩ := h
      refine ⟨(by rw [sizeLine_eq]; omega), (z.length : Int), rfl, by omega, by omega, fun k k0 k1 => ⟨(by rw [sizeLine_eq]; omega), ?_⟩⟩
      have hl : z.cps.toList.length = z.length := by simp [Str.length]
      obtain ⟨x, hx⟩ := get_lt (xs := z.cps.toList) (i := k.toNat) (by omega)
      have e := atI_nat hx
      rw [show ((k.toNat : Nat) : Int) = k by omega] at e
      exact ⟨x, e, h x (List.mem_of_getElem? hx)⟩
    · rename_i xs
      obtain ⟨h0, h1, h⟩ := h
      refine ⟨(xs.length : Int), rfl, by omega, by omega, fun k k0 k1 => ?_⟩
      obtain ⟨x, hx⟩ := get_lt (xs := xs) (i := k.toNat) (by omega)
      have e := atI_nat hx
      rw [show ((k.toNat : Nat) : Int) = k by omega] at e
      exact ⟨x, e, h x (List.mem_of_getElem? hx)⟩
def g_divisor (xs : List D) (Q : D → Prop) : Prop := ∃ a b : Int, xs = [.int a, .int b] ∧ Q (.int (Int.gcd a b))
theorem ok_l_divisor (T : Tx K mg) : FnOk P w K mg base CX0 1 T.f_l_divisor T.fd_l_divisor ["_law_one", "_law_other"] (spD K W g_divisor) := by
  refine vfn T.F_l_divisor sc_l_divisor (fun ds Q h => ?_) ⟨_, fun cdv A outer s H E hr => (vss_cons (vs_par 0 1 rfl sc_l_divisor.nd (by decide) (ve_callB call_abs lift_abs (by rfl) T.n_abs bt_abs (va_cons (ve_var 0) va_nil)) (ve_callB call_abs lift_abs (by rfl) T.n_abs bt_abs (va_cons (ve_var 1) va_nil))) (vss_cons (vs_while PassesOwn.never (vt_cmp (op_neA hr.units) lift_ne (ve_var 1) ve_int (nomark _)) (vss_one (vs_par 0 1 rfl sc_l_divisor.nd (by decide) (ve_var 1) (ve_mod (ve_callTy call_int1 lift_int (by rfl) T.n_int bt_int (va_cons (ve_var 0) va_nil)) (ve_var 1))))) (vss_one (vs_ret (ve_var 0))))), fun ds Q h => ?_⟩
  · obtain ⟨a, b, rfl, _⟩ := h
    rfl
  · obtain ⟨a, b, rfl, h⟩ := h
    refine ⟨fun m ds => ∃ x y : Int, ds = [.d (.int x), .d (.int y)] ∧ 0 ≤ x ∧ 0 ≤ y ∧ m = y.toNat ∧ Int.gcd x y = Int.gcd a b, ⟨_, iabs a, iabs b, rfl, iabs_nonneg a, iabs_nonneg b, rfl, gcd_abs a b⟩, ?_⟩
    rintro m ds ⟨x, y, rfl, hx, hy, rfl, e⟩
    refine vifn (fun h0 => ⟨h0, ?_⟩) (fun h0 => ?_)
    · have hm := fm0 x (show 0 < y by omega)
      have hl := fm1 x (show 0 < y by omega)
      exact ⟨_, by omega, _, _, rfl, hy, hm, rfl, (gcd_step hx hy).trans e⟩
    · subst h0
      rw [← e, gcd_zero hx] at h
      exact h
def g_ratio (xs : List D) (Q : D → Prop) : Prop := ∃ t b : Int, xs = [.int t, .int b] ∧ b ≠ 0 ∧ b.natAbs < 2 ^ 9000 ∧ Q (ratD t b)
theorem ok_l_ratio (T : Tx K mg) : FnOk P w K mg base CX0 2 T.f_l_ratio T.fd_l_ratio ["_law_top", "_law_bottom"] (spD K W g_ratio) := by
  refine vfn T.F_l_ratio sc_l_ratio (fun ds Q h => ?_) ⟨_, fun cdv A outer s H E hr => (vss_cons (vs_set 2 sc_l_ratio.nd (ve_call (ok_l_divisor T) (hr.mono (by decide)) (by rfl) T.g_l_divisor T.F_l_divisor.kp T.B_l_divisor .nil pass0 (fun _ _ => reps_nil) (va_cons (ve_var 0) (va_cons (ve_var 1) va_nil)))) (vss_cons (vs_set 2 sc_l_ratio.nd (ve_if (vt_cmp op_gt lift_iib (ve_var 1) ve_int (nomark _)) (ve_var 2) (ve_sub ve_int (ve_var 2)))) (vss_one (vs_ret (ve_tup (va_cons (ve_fdiv (ve_var 0) (ve_var 2)) (va_cons (ve_fdiv (ve_var 1) (ve_var 2)) va_nil))))))), fun ds Q h => ?_⟩
  · obtain ⟨a, b, rfl, _⟩ := h
    rfl
  · obtain ⟨t, b, rfl, hb, hl, h⟩ := h
    refine ⟨t, b, rfl, ?_⟩
    have d1 := ratK_div (t := t) hb hl t
    have d2 := ratK_div (t := t) hb hl b
    have fin : Q (.tup [.int (t.fdiv (ratK t b)), .int (b.fdiv (ratK t b))]) := h
    refine vifd (fun h0 => ?_) (fun h0 => ?_)
    · have ek : ratK t b = ((Int.gcd t b : Nat) : Int) := by unfold ratK; rw [if_pos h0]
      rw [ek] at d1 d2 fin
      exact ⟨d1, d2, Nat.le_of_ble_eq_true rfl, fin⟩
    · have ek : ratK t b = 0 - ((Int.gcd t b : Nat) : Int) := by unfold ratK; rw [if_neg h0]
      rw [ek] at d1 d2 fin
      exact ⟨d1, d2, Nat.le_of_ble_eq_true rfl, fin⟩
/-- a drawn amount, by its size -/
def g_some (r : Addr) (n : Nat) (xs : List D) (Q : D → Prop) : Prop := xs = [.hnd (.ref r)] ∧ ∀ a b : Int, Amt n a b → Q (.tup [.int a, .int b])
theorem ok_l_amount (T : Tx K mg) (r c : Addr) : FnOk P w K mg base CX0 3 T.f_l_amount T.fd_l_amount ["_law_rng"] (spD K (rngW r c) (g_some r 4)) := by
  refine vfn T.F_l_amount sc_l_amount (fun ds Q h => ?_) ⟨_, fun cdv A outer s H E hr => (vss_one (vs_ret (ve_call (ok_l_ratio T) (hr.mono (by decide)) (by rfl) T.g_l_ratio T.F_l_ratio.kp T.B_l_ratio .nil pass0 (fun _ _ => reps_nil) (va_cons (ve_sub (ve_call (ok_l_draw T r c) (hr.mono (by decide)) (by rfl) T.g_l_draw T.F_l_draw.kp T.B_l_draw .nil pass0 (fun _ _ => reps_nil) (va_cons (ve_var 0) (va_cons ve_int va_nil))) ve_int) (va_cons (ve_call (ok_l_choice T r c) (hr.mono (by decide)) (by rfl) T.g_l_choice T.F_l_choice.kp T.B_l_choice .nil pass0 (fun _ _ => reps_nil) (va_cons (ve_var 0) (va_cons (ve_lst (va_cons ve_int (va_cons ve_int (va_cons ve_int (va_cons ve_int (va_cons ve_int va_nil)))))) va_nil))) va_nil))))), fun ds Q h => ?_⟩
  · rw [h.1]
    rfl
  · obtain ⟨rfl, h⟩ := h
    refine ⟨13, rfl, by decide, by decide, fun k k0 k1 => ?_⟩
    refine ⟨by decide, _, rfl, by decide, by decide, fun d hd => ?_⟩
    have hd : d = .int 1 ∨ d = .int 2 ∨ d = .int 3 := by
      simp only [List.mem_cons, List.not_mem_nil, or_false] at hd
      rcases hd with h | h | h | h | h <;> simp [h]
    have key : ∀ b : Int, b ≠ 0 → b.natAbs < 2 ^ 4 → Q (ratD (k - 6) b) := fun b h0 h1 => h _ _ (rat_amt h0 (by omega) h1)
    rcases hd with rfl | rfl | rfl
    · exact ⟨_, _, rfl, by decide, by decide +kernel, key 1 (by decide) (by decide)⟩
    · exact ⟨_, _, rfl, by decide, by decide +kernel, key 2 (by decide) (by decide)⟩
    · exact ⟨_, _, rfl, by decide, by decide +kernel, key 3 (by decide) (by decide)⟩
def g_far30 (r : Addr) (xs : List D) (Q : D → Prop) : Prop := xs = [.hnd (.ref r)] ∧ ∀ a b : Int, Amt 100 a b → a.natAbs < 1000000000000000000000000000000 → b.natAbs < 1000000000000000000000000000000 → Q (.tup [.int a, .int b])
theorem ok_l_far (T : Tx K mg) (r c : Addr) : FnOk P w K mg base CX0 3 T.f_l_far T.fd_l_far ["_law_rng"] (spD K (rngW r c) (g_far30 r)) := by
  refine vfn T.F_l_far sc_l_far (fun ds Q h => ?_) ⟨_, fun cdv A outer s H E hr => (vss_cons (vs_set 1 sc_l_far.nd (ve_call (ok_l_draw T r c) (hr.mono (by decide)) (by rfl) T.g_l_draw T.F_l_draw.kp T.B_l_draw .nil pass0 (fun _ _ => reps_nil) (va_cons (ve_var 0) (va_cons (ve_pow ve_int ve_int) va_nil)))) (vss_cons (vs_set 2 sc_l_far.nd (ve_call (ok_l_choice T r c) (hr.mono (by decide)) (by rfl) T.g_l_choice T.F_l_choice.kp T.B_l_choice .nil pass0 (fun _ _ => reps_nil) (va_cons (ve_var 0) (va_cons (ve_lst (va_cons ve_int (va_cons ve_int (va_cons (ve_neg ve_int) (va_cons (ve_var 1) (va_cons (ve_sub ve_int (ve_var 1)) (va_cons (ve_sub (ve_sub (ve_pow ve_int ve_int) ve_int) (ve_var 1)) (va_cons (ve_sub (ve_addA (ve_var 1) ve_int) (ve_pow ve_int ve_int)) va_nil)))))))) va_nil)))) (vss_one (vs_ret (ve_call (ok_l_ratio T) (hr.mono (by decide)) (by rfl) T.g_l_ratio T.F_l_ratio.kp T.B_l_ratio .nil pass0 (fun _ _ => reps_nil) (va_cons (ve_var 2) (va_cons (ve_addA ve_int (ve_call (ok_l_choice T r c) (hr.mono (by decide)) (by rfl) T.g_l_choice T.F_l_choice.kp T.B_l_choice .nil pass0 (fun _ _ => reps_nil) (va_cons (ve_var 0) (va_cons (ve_lst (va_cons ve_int (va_cons ve_int (va_cons ve_int (va_cons (ve_call (ok_l_draw T r c) (hr.mono (by decide)) (by rfl) T.g_l_draw T.F_l_draw.kp T.B_l_draw .nil pass0 (fun _ _ => reps_nil) (va_cons (ve_var 0) (va_cons (ve_pow ve_int ve_int) va_nil))) (va_cons (ve_sub (ve_sub (ve_pow ve_int ve_int) ve_int) (ve_var 1)) va_nil)))))) va_nil)))) va_nil))))))), fun ds Q h => ?_⟩
  · rw [h.1]
    rfl
  · obtain ⟨rfl, h⟩ := h
    have p9 : CPow 10 9 := ⟨by decide, by decide, by decide⟩
    have p30 : CPow 10 30 := ⟨by decide, by decide, by decide⟩
    have p6 : CPow 10 6 := ⟨by decide, by decide, by decide⟩
    refine ⟨p9, _, rfl, by decide, by decide, fun k k0 k1 => ?_⟩
    refine ⟨p30, p30, Nat.le_of_ble_eq_true rfl, _, rfl, Nat.le_of_ble_eq_true rfl, Nat.le_of_ble_eq_true rfl, fun d hd => ?_⟩
    have k1 : k < 1000000000 := k1
    have hd : ∃ t : Int, d = .int t ∧ t.natAbs < 1000000000000000000000000000000 := by
      have e30 : (10 : Int) ^ (30 : Int).toNat = 1000000000000000000000000000000 := by decide
      simp only [List.mem_cons, List.not_mem_nil, or_false] at hd
      rcases hd with h | h | h | h | h | h | h
      · exact ⟨_, h, by decide⟩
      · exact ⟨_, h, by decide⟩
      · exact ⟨_, h, by decide⟩
      · exact ⟨_, h, by omega⟩
      · exact ⟨_, h, by omega⟩
      · rw [e30] at h; exact ⟨_, h, by omega⟩
      · rw [e30] at h; exact ⟨_, h, by omega⟩
    obtain ⟨t, rfl, ht⟩ := hd
    refine ⟨p6, _, rfl, by decide, by decide, fun k2 k20 k21 => ?_⟩
    have k21 : k2 < 1000000 := k21
    refine ⟨p30, Nat.le_of_ble_eq_true rfl, _, rfl, Nat.le_of_ble_eq_true rfl, Nat.le_of_ble_eq_true rfl, fun d hd => ?_⟩
    have hd : ∃ b : Int, d = .int b ∧ 0 ≤ b ∧ (1 + b).natAbs < 1000000000000000000000000000000 := by
      have e30 : (10 : Int) ^ (30 : Int).toNat = 1000000000000000000000000000000 := by decide
      simp only [List.mem_cons, List.not_mem_nil, or_false] at hd
      rcases hd with h | h | h | h | h
      · exact ⟨_, h, by decide, by decide⟩
      · exact ⟨_, h, by decide, by decide⟩
      · exact ⟨_, h, by decide, by decide⟩
      · exact ⟨_, h, by omega, by omega⟩
      · rw [e30] at h; exact ⟨_, h, by omega, by omega⟩
    obtain ⟨b, rfl, hb0, hb⟩ := hd
    have up : ∀ i : Int, i.natAbs < 1000000000000000000000000000000 → i.natAbs < 2 ^ 100 := fun i h => Nat.lt_of_lt_of_le h (Nat.le_of_ble_eq_true rfl)
    obtain ⟨h1, h2, h3, h4⟩ := rat_parts (t := t) (show 1 + b ≠ 0 by omega)
    exact ⟨t, 1 + b, rfl, by omega, Nat.lt_trans (up _ hb) (Nat.pow_lt_pow_right (by decide) (by decide)), h _ _ (rat_amt (by omega) (up _ ht) (up _ hb)) (Nat.lt_of_le_of_lt (natAbs_le_of_mul (ratK_ne (by omega)) h1) ht) (Nat.lt_of_le_of_lt (natAbs_le_of_mul (ratK_ne (by omega)) h2) hb)⟩
def g_plus (xs : List D) (Q : D → Prop) : Prop := ∃ n m x y, xs = [x, y] ∧ AmtD n x ∧ AmtD m y ∧ n + m ≤ 9000 ∧ Q (plusD x y)
def g_times (xs : List D) (Q : D → Prop) : Prop := ∃ n m x y, xs = [x, y] ∧ AmtD n x ∧ AmtD m y ∧ n + m ≤ 9000 ∧ Q (timesD x y)
theorem amt_pos {n : Nat} {a b : Int} (A : Amt n a b) : 0 < n := by
  rcases Nat.eq_zero_or_pos n with e | e
  · have h1 := A.hb
    have h2 := A.pos
    rw [e] at h1
    omega
  · exact e
theorem plus_facts {n m : Nat} {a b c d : Int} (A : Amt n a b) (B : Amt m c d) (hn : n + m ≤ 9000) : CMulW a d ∧ CMulW c b ∧ CMulW b d ∧ b * d ≠ 0 ∧ (b * d).natAbs < 2 ^ 9000 := by
  have h0 := amt_pos A
  have h1 := amt_pos B
  have h := Int.mul_pos A.pos B.pos
  exact ⟨wide_mul A.ha B.hb h0 h1 (by omega), wide_mul B.ha A.hb h1 h0 (by omega), wide_mul A.hb B.hb h0 h1 (by omega), by omega, pow_up (mul_lt A.hb B.hb) (by omega)⟩
theorem times_facts {n m : Nat} {a b c d : Int} (A : Amt n a b) (B : Amt m c d) (hn : n + m ≤ 9000) : CMulW a c ∧ CMulW b d ∧ b * d ≠ 0 ∧ (b * d).natAbs < 2 ^ 9000 := by
  have h0 := amt_pos A
  have h1 := amt_pos B
  have h := Int.mul_pos A.pos B.pos
  exact ⟨wide_mul A.ha B.ha h0 h1 (by omega), wide_mul A.hb B.hb h0 h1 (by omega), by omega, pow_up (mul_lt A.hb B.hb) (by omega)⟩
theorem ok_l_plus (T : Tx K mg) : FnOk P w K mg base CX0 3 T.f_l_plus T.fd_l_plus ["_law_one", "_law_other"] (spD K W g_plus) := by
  refine vfn T.F_l_plus sc_l_plus (fun ds Q h => ?_) ⟨_, fun cdv A outer s H E hr => (vss_one (vs_ret (ve_call (ok_l_ratio T) (hr.mono (by decide)) (by rfl) T.g_l_ratio T.F_l_ratio.kp T.B_l_ratio .nil pass0 (fun _ _ => reps_nil) (va_cons (ve_addA (ve_mul (ve_ixA hr.units (ve_var 0) ve_int) (ve_ixA hr.units (ve_var 1) ve_int)) (ve_mul (ve_ixA hr.units (ve_var 1) ve_int) (ve_ixA hr.units (ve_var 0) ve_int))) (va_cons (ve_mul (ve_ixA hr.units (ve_var 0) ve_int) (ve_ixA hr.units (ve_var 1) ve_int)) va_nil))))), fun ds Q h => ?_⟩
  · obtain ⟨_, _, _, _, rfl, _⟩ := h
    rfl
  · obtain ⟨n, m, x, y, rfl, ⟨a, b, rfl, A⟩, ⟨c, d, rfl, B⟩, hn, h⟩ := h
    obtain ⟨f1, f2, f3, f4, f5⟩ := plus_facts A B hn
    exact ⟨_, rfl, _, rfl, f1, _, rfl, _, rfl, f2, _, rfl, _, rfl, f3, _, _, rfl, f4, f5, h⟩
theorem ok_l_factor (T : Tx K mg) (r c : Addr) : FnOk P w K mg base CX0 3 T.f_l_factor T.fd_l_factor ["_law_rng"] (spD K (rngW r c) (g_some r 2)) := by
  refine vfn T.F_l_factor sc_l_factor (fun ds Q h => ?_) ⟨_, fun cdv A outer s H E hr => (vss_one (vs_ret (ve_call (ok_l_choice T r c) (hr.mono (by decide)) (by rfl) T.g_l_choice T.F_l_choice.kp T.B_l_choice .nil pass0 (fun _ _ => reps_nil) (va_cons (ve_var 0) (va_cons (ve_lst (va_cons (ve_tup (va_cons ve_int (va_cons ve_int va_nil))) (va_cons (ve_tup (va_cons ve_int (va_cons ve_int va_nil))) (va_cons (ve_tup (va_cons (ve_neg ve_int) (va_cons ve_int va_nil))) (va_cons (ve_tup (va_cons ve_int (va_cons ve_int va_nil))) (va_cons (ve_tup (va_cons (ve_neg ve_int) (va_cons ve_int va_nil))) va_nil)))))) va_nil))))), fun ds Q h => ?_⟩
  · rw [h.1]
    rfl
  · obtain ⟨rfl, h⟩ := h
    refine ⟨Nat.le_of_ble_eq_true rfl, Nat.le_of_ble_eq_true rfl, Nat.le_of_ble_eq_true rfl, Nat.le_of_ble_eq_true rfl, Nat.le_of_ble_eq_true rfl, Nat.le_of_ble_eq_true rfl, _, rfl, Nat.le_of_ble_eq_true rfl, Nat.le_of_ble_eq_true rfl, fun d hd => ?_⟩
    simp only [List.mem_cons, List.not_mem_nil, or_false] at hd
    rcases hd with rfl | rfl | rfl | rfl | rfl <;> exact h _ _ ⟨by decide, by decide, by decide, by decide⟩
/-! ### names -/
theorem str_app (a b : Str) : (a ++ b).cps.toList = a.cps.toList ++ b.cps.toList := TL.tl_append a b
theorem str_len (a : Str) : a.length = a.cps.toList.length := by simp [Str.length]
theorem sgn_join : ∀ cs : List Nat, (Txt.join ⟨#[]⟩ (cs.map fun c => (⟨#[c]⟩ : Str))).cps.toList = cs := fun cs => by
  rw [TL.join_eq]
  show TL.tl (Str.join _ _) = _
  rw [TL.tl_join]
  have : ∀ cs : List Nat, TL.joinL [] (cs.map fun c => [c]) = cs := fun cs => by
    induction cs with
    | nil => rfl
    | cons a r ih =>
      cases r with
      | nil => rfl
      | cons b r =>
        show [a] ++ ([] ++ TL.joinL [] ((b :: r).map fun c => [c])) = _
        rw [ih]
        rfl
  rw [List.map_map]
  exact this cs
theorem all2_sgn {S : Nat → Prop} {items ys : List D} (h : All2 (fun _ y => ∃ c, S c ∧ y = D.str ⟨#[c]⟩) items ys) : ∃ cs : List Nat, ys = (cs.map fun c => (⟨#[c]⟩ : Str)).map D.str ∧ cs.length = items.length ∧ ∀ c ∈ cs, S c := by
  induction h with
  | nil => exact ⟨[], rfl, rfl, fun c h => by cases h⟩
  | cons h _ ih =>
    obtain ⟨c, hc, rfl⟩ := h
    obtain ⟨cs, rfl, h2, h3⟩ := ih
    refine ⟨c :: cs, rfl, by simp [h2], fun x hx => ?_⟩
    rcases List.mem_cons.mp hx with e | hx
    · rw [e]; exact hc
    · exact h3 x hx
theorem sum_sgn (cs : List Nat) : ((cs.map fun c => (⟨#[c]⟩ : Str)).map (·.length)).sum = cs.length := by
  induction cs with
  | nil => rfl
  | cons a r ih =>
    show 1 + ((r.map fun c => (⟨#[c]⟩ : Str)).map (·.length)).sum = _
    rw [ih, List.length_cons, Nat.add_comm]
theorem cut_list (z : Str) (lo hi : Option Int) : (cutS z lo hi).cps.toList = (z.cps.toList.drop (HT.sIx z.length 0 lo)).take (HT.sIx z.length z.length hi - HT.sIx z.length 0 lo) := rfl
theorem nm_of {z : Str} {a c : Nat} (hz : z.length ≤ 7) (hs : ∀ x ∈ z.cps.toList, x ∈ abcL) (hc : c ∈ abcL) (ha : a ≤ z.length) : nmS (cutS z none (some (a : Int)) ++ ⟨#[c]⟩ ++ cutS z (some (a : Int)) none) = true := by
  have e1 : HT.sIx z.length z.length (some (a : Int)) = a := by
    unfold HT.sIx
    simp only
    rw [if_neg (by omega)]
    omega
  have e2 : HT.sIx z.length 0 (some (a : Int)) = a := by
    unfold HT.sIx
    simp only
    rw [if_neg (by omega)]
    omega
  have l0 := str_len z
  have L : (cutS z none (some (a : Int)) ++ ⟨#[c]⟩ ++ cutS z (some (a : Int)) none).cps.toList = z.cps.toList.take a ++ [c] ++ z.cps.toList.drop a := by
    rw [str_app, str_app, cut_list, cut_list, e1, e2]
    show ((z.cps.toList.drop 0).take (a - 0) ++ [c]) ++ (z.cps.toList.drop a).take (z.length - a) = _
    rw [List.drop_zero, Nat.sub_zero, List.take_of_length_le (l := z.cps.toList.drop a) (by rw [List.length_drop]; omega)]
  unfold nmS
  rw [str_len, L]
  have hl : (z.cps.toList.take a ++ [c] ++ z.cps.toList.drop a).length = z.length + 1 := by
    rw [List.length_append, List.length_append, List.length_take, List.length_drop, List.length_singleton]
    omega
  rw [hl, decide_eq_true (show 1 ≤ z.length + 1 by omega), decide_eq_true (show z.length + 1 ≤ 8 by omega), Bool.true_and, Bool.true_and, List.all_eq_true]
  intro x hx
  refine decide_eq_true ?_
  rcases List.mem_append.mp hx with hx | hx
  · rcases List.mem_append.mp hx with hx | hx
    · exact hs x (List.mem_of_mem_take hx)
    · rw [List.mem_singleton.mp hx]; exact hc
  · exact hs x (List.mem_of_mem_drop hx)
def g_names (r : Addr) (xs : List D) (Q : D → Prop) : Prop := ∃ m : Int, xs = [.hnd (.ref r), .int m] ∧ 0 ≤ m ∧ m ≤ 26 ∧ ∀ ss : List Str, ss.length = m.toNat → (∀ s ∈ ss, nmS s = true) → Q (.lst (ss.map .str))
theorem all2_nm {S : Str → Prop} {items ys : List D} (h : All2 (fun _ y => ∃ c, S c ∧ y = D.str c) items ys) : ∃ cs : List Str, ys = cs.map D.str ∧ cs.length = items.length ∧ ∀ c ∈ cs, S c := by
  induction h with
  | nil => exact ⟨[], rfl, rfl, fun c h => by cases h⟩
  | cons h _ ih =>
    obtain ⟨c, hc, rfl⟩ := h
    obtain ⟨cs, rfl, h2, h3⟩ := ih
    refine ⟨c :: cs, rfl, by simp [h2], fun x hx => ?_⟩
    rcases List.mem_cons.mp hx with e | hx
    · rw [e]; exact hc
    · exact h3 x hx
theorem rng_len (lo : Int) (n : Nat) : (rngD lo n).length = n := by simp [rngD]
theorem rng_mem {lo : Int} {n : Nat} {d : D} (h : d ∈ rngD lo n) : ∃ k : Int, d = .int k ∧ lo ≤ k ∧ k < lo + n := by
  unfold rngD at h
  obtain ⟨i, hi, rfl⟩ := List.mem_map.mp h
  have := List.mem_range.mp hi
  exact ⟨_, rfl, by omega, by omega⟩
theorem abc_len : abcS.cps.toList.length = 26 := by decide +kernel
theorem abc_at {i : Int} (h0 : -26 ≤ i) (h1 : i < 26) : ∃ c, atI abcS.cps.toList i = some c ∧ c ∈ abcL := by
  have key : ∀ j : Nat, j < 52 → ∃ c ∈ abcL, atI abcS.cps.toList ((j : Int) - 26) = some c := by decide +kernel
  obtain ⟨c, h2, h3⟩ := key (i + 26).toNat (by omega)
  rw [show (((i + 26).toNat : Nat) : Int) - 26 = i by omega] at h3
  exact ⟨c, h3, h2⟩
theorem ok_l_names (T : Tx K mg) (r c : Addr) : FnOk P w K mg base CX0 3 T.f_l_names T.fd_l_names ["_law_rng", "_law_many"] (spD K (rngW r c) (g_names r)) := by
  refine vfn T.F_l_names sc_l_names (fun ds Q h => ?_) ⟨_, fun cdv A outer s H E hr => (vss_cons (vs_set 2 sc_l_names.nd ve_str) (vss_cons (vs_set 3 sc_l_names.nd (ve_join ve_str (ve_lc (own := [("_law_k", 6)]) rfl sc_l_names.nd (vi_range1 (by rfl) T.n_range (ve_call (ok_l_draw T r c) (hr.mono (by decide)) (by rfl) T.g_l_draw T.F_l_draw.kp T.B_l_draw .nil pass0 (fun _ _ => reps_nil) (va_cons (ve_var 0) (va_cons ve_int va_nil)))) (blkOk_by (N := ["_law_rng", "_law_many", "_law_abc", "_law_stem", "_law_at", "_law_first", "_law_k"]) (sc := defScope s_l_names) (by decide +kernel)) (fun _ _ _ _ _ => (vg_name 6 sc_l_names.nd (by decide))) (fun _ _ _ _ _ => vts_nil) (fun _ _ _ _ _ => (ve_call (ok_l_choice T r c) (hr.mono (by decide)) (by rfl) T.g_l_choice T.F_l_choice.kp T.B_l_choice .nil pass0 (fun _ _ => reps_nil) (va_cons (ve_var 0) (va_cons (ve_var 2) va_nil))))))) (vss_cons (vs_asg (vs := [4, 5]) (ve_tup (va_cons (ve_call (ok_l_draw T r c) (hr.mono (by decide)) (by rfl) T.g_l_draw T.F_l_draw.kp T.B_l_draw .nil pass0 (fun _ _ => reps_nil) (va_cons (ve_var 0) (va_cons (ve_addA (ve_callB call_len lift_len (by rfl) T.n_len bt_len (va_cons (ve_var 3) va_nil)) ve_int) va_nil))) (va_cons (ve_call (ok_l_draw T r c) (hr.mono (by decide)) (by rfl) T.g_l_draw T.F_l_draw.kp T.B_l_draw .nil pass0 (fun _ _ => reps_nil) (va_cons (ve_var 0) (va_cons ve_int va_nil))) va_nil))) (vg_tup (n := 2) rfl (vgs_cons (vg_name 4 sc_l_names.nd (by decide)) (vgs_cons (vg_name 5 sc_l_names.nd (by decide)) vgs_nil)))) (vss_one (vs_ret (ve_lc (own := [("_law_k", 6)]) rfl sc_l_names.nd (vi_range1 (by rfl) T.n_range (ve_var 1)) (blkOk_by (N := ["_law_rng", "_law_many", "_law_abc", "_law_stem", "_law_at", "_law_first", "_law_k"]) (sc := defScope s_l_names) (by decide +kernel)) (fun _ _ _ _ _ => (vg_name 6 sc_l_names.nd (by decide))) (fun _ _ _ _ _ => vts_nil) (fun _ _ _ _ _ => (ve_addA (ve_addA (ve_slice (ve_var 3) vo_none (vo_some (ve_var 4))) (ve_ixA hr.units (ve_var 2) (ve_sub (ve_addA (ve_var 5) (ve_var 6)) ve_int))) (ve_slice (ve_var 3) (vo_some (ve_var 4)) vo_none))))))))), fun ds Q h => ?_⟩
  · obtain ⟨m, rfl, _⟩ := h
    rfl
  · obtain ⟨m, rfl, hm0, hm1, h⟩ := h
    refine ⟨rfl, rfl, 8, rfl, by decide, by decide, fun k k0 k1 => ⟨by omega, by omega, ?_⟩⟩
    refine lcR (fun _ y => ∃ c, c ∈ abcL ∧ y = D.str ⟨#[c]⟩) (fun d hd R hR => ?_) (fun ys hys => ?_)
    · exact ⟨_, rfl, by decide, by decide, fun c hc => hR _ ⟨c, hc, rfl⟩⟩
    obtain ⟨cs, rfl, hl, hc⟩ := all2_sgn hys
    rw [rng_len] at hl
    have e0 : (Str.ofString "").length = 0 := by decide
    refine ⟨_, rfl, by rw [sum_sgn, e0]; omega, ?_⟩
    have hj := sgn_join cs
    generalize hz : (Txt.join ⟨#[]⟩ (cs.map fun c => (⟨#[c]⟩ : Str))) = z at hj
    have hz2 : Txt.join (Str.ofString "") (cs.map fun c => (⟨#[c]⟩ : Str)) = z := hz
    have zl : z.length ≤ 7 := by rw [str_len, hj, hl]; omega
    have zs : ∀ x ∈ z.cps.toList, x ∈ abcL := by rw [hj]; exact hc
    rw [hz2]
    refine ⟨(by rw [sizeLine_eq]; omega), (z.length : Int) + 1, rfl, by omega, by omega, fun a a0 a1 => ⟨26, rfl, by decide, by decide, fun f f0 f1 => ?_⟩⟩
    refine ⟨Nat.le_of_ble_eq_true rfl, rfl, rfl, by omega, by omega, ?_⟩
    refine lcR (fun _ y => ∃ s, nmS s = true ∧ y = D.str s) (fun d hd R hR => ?_) (fun ys hys => ?_)
    · obtain ⟨k, rfl, k0, k1⟩ := rng_mem hd
      have e26 : (abcS.length) ≤ sizeLine := by rw [sizeLine_eq]; decide +kernel
      obtain ⟨ch, h3, h4⟩ := abc_at (i := f + k - 26) (by omega) (by omega)
      obtain ⟨j, rfl⟩ := Int.eq_ofNat_of_zero_le a0
      have key := nm_of zl zs h4 (show j ≤ z.length by omega)
      have c1 := cutS_length z none (some (j : Int))
      have c2 := cutS_length z (some (j : Int)) none
      have zz : z.length ≤ sizeLine := by rw [sizeLine_eq]; omega
      refine ⟨zz, e26, ch, h3, ?_, zz, ?_, hR _ ⟨_, key, rfl⟩⟩
      · show (cutS z none (some (j : Int))).length + 1 ≤ sizeLine
        rw [sizeLine_eq]; omega
      · rw [str_len, str_app, List.length_append, ← str_len, ← str_len, sizeLine_eq]
        show (cutS z none (some (j : Int))).length + 1 + _ ≤ _
        omega
    · obtain ⟨ss, rfl, hl, hs⟩ := all2_nm hys
      rw [rng_len] at hl
      exact h ss hl hs
def g_is_integer (xs : List D) (Q : D → Prop) : Prop := ∃ x, xs = [x] ∧ noHnd x = true ∧ Q (.bl (isTy .int x && !isTy .bool x))
theorem ok_is_integer (T : Tx K mg) : FnOk P w K mg base CX0 1 T.f_is_integer T.fd_is_integer ["value"] (spD K W g_is_integer) := by
  refine vfn T.F_is_integer sc_is_integer (fun ds Q h => ?_) ⟨_, fun cdv A outer s H E hr => (vss_one (vs_ret (ve_and (ve_isi .int (by rfl) T.n_isinstance bt_isinstance (ve_var 0) (by rfl) T.n_int bt_int) (ve_one (ve_not (ve_isi .bool (by rfl) T.n_isinstance bt_isinstance (ve_var 0) (by rfl) T.n_bool bt_bool)))))), fun ds Q h => ?_⟩
  · obtain ⟨x, rfl, _⟩ := h
    rfl
  · obtain ⟨x, rfl, h1, h⟩ := h
    refine ⟨h1, ?_⟩
    cases e : isTy .int x with
    | true => rw [e] at h; exact ⟨h1, h⟩
    | false => rw [e] at h; exact h
def g_common_divisor (xs : List D) (Q : D → Prop) : Prop := ∃ a b : Int, xs = [.int a, .int b] ∧ 0 ≤ a ∧ 0 ≤ b ∧ Q (.int (Int.gcd a b))
theorem ok_common_divisor (T : Tx K mg) : FnOk P w K mg base CX0 1 T.f_common_divisor T.fd_common_divisor ["one", "other"] (spD K W g_common_divisor) := by
  refine vfn T.F_common_divisor sc_common_divisor (fun ds Q h => ?_) ⟨_, fun cdv A outer s H E hr => (vss_cons (vs_while PassesOwn.never (vt_cmp (op_neA hr.units) lift_ne (ve_var 1) ve_int (nomark _)) (vss_one (vs_par 0 1 rfl sc_common_divisor.nd (by decide) (ve_var 1) (ve_mod (ve_var 0) (ve_var 1))))) (vss_one (vs_ret (ve_var 0)))), fun ds Q h => ?_⟩
  · obtain ⟨a, b, rfl, _⟩ := h
    rfl
  · obtain ⟨a, b, rfl, ha, hb, h⟩ := h
    refine ⟨fun m ds => ∃ x y : Int, ds = [.d (.int x), .d (.int y)] ∧ 0 ≤ x ∧ 0 ≤ y ∧ m = y.toNat ∧ Int.gcd x y = Int.gcd a b, ⟨_, a, b, rfl, ha, hb, rfl, rfl⟩, ?_⟩
    rintro m ds ⟨x, y, rfl, hx, hy, rfl, e⟩
    refine vifn (fun h0 => ⟨h0, ?_⟩) (fun h0 => ?_)
    · have hm := fm0 x (show 0 < y by omega)
      have hl := fm1 x (show 0 < y by omega)
      exact ⟨_, by omega, _, _, rfl, hy, hm, rfl, (gcd_step hx hy).trans e⟩
    · subst h0
      rw [← e, gcd_zero hx] at h
      exact h
def g_is_amount (xs : List D) (Q : D → Prop) : Prop := ∃ x, xs = [x] ∧ plain x = true ∧ Q (.bl (isAmt x))
theorem ok_is_amount (T : Tx K mg) : FnOk P w K mg base CX0 2 T.f_is_amount T.fd_is_amount ["value"] (spD K W g_is_amount) := by
  refine vfn T.F_is_amount sc_is_amount (fun ds Q h => ?_) ⟨_, fun cdv A outer s H E hr => (vss_cons (vs_if (vt_w (vw_or (vt_not (vt_val (ve_isi .tuple (by rfl) T.n_isinstance bt_isinstance (ve_var 0) (by rfl) T.n_tuple bt_tuple))) (vw_or (vt_cmp (op_neA hr.units) lift_ne (ve_callB call_len lift_len (by rfl) T.n_len bt_len (va_cons (ve_var 0) va_nil)) ve_int (nomark _)) (vw_or1 (vt_not (vt_val (ve_callB (cr_all (by rfl)) lift_all (by rfl) T.n_all bt_all (va_cons (ve_lc (own := [("part", 1)]) rfl sc_is_amount.nd (vi_its (ve_var 0)) (blkOk_by (N := ["value", "part"]) (sc := defScope s_is_amount) (by decide +kernel)) (fun _ _ _ _ _ => (vg_name 1 sc_is_amount.nd (by decide))) (fun _ _ _ _ _ => vts_nil) (fun _ _ _ _ _ => (ve_call (ok_is_integer T) (hr.mono (by decide)) (by rfl) T.g_is_integer T.F_is_integer.kp T.B_is_integer .nil pass0 (fun _ _ => reps_nil) (va_cons (ve_var 1) va_nil)))) va_nil)))))))) (vss_one (vs_ret ve_bl)) vss_nil) (vss_one (vs_ret (ve_and (ve_cmp op_gt lift_iib (ve_ixA hr.units (ve_var 0) ve_int) ve_int (nomark _)) (ve_one (ve_cmp (op_eqA hr.units) lift_eq (ve_call (ok_common_divisor T) (hr.mono (by decide)) (by rfl) T.g_common_divisor T.F_common_divisor.kp T.B_common_divisor .nil pass0 (fun _ _ => reps_nil) (va_cons (ve_callB call_abs lift_abs (by rfl) T.n_abs bt_abs (va_cons (ve_ixA hr.units (ve_var 0) ve_int) va_nil)) (va_cons (ve_ixA hr.units (ve_var 0) ve_int) va_nil))) ve_int (nomark _))))))), fun ds Q h => ?_⟩
  · obtain ⟨a, rfl, _⟩ := h
    rfl
  · obtain ⟨x, rfl, h1, h⟩ := h
    cases x with
    | tup ds =>
      have hp := plains_all (plain_tup h1)
      match ds, h, hp with
      | [], h, _ => exact ⟨rfl, h⟩
      | [a], h, _ => exact ⟨rfl, h⟩
      | a :: b :: c :: r, h, _ => exact ⟨rfl, h⟩
      | [a, b], h, hp =>
        refine ⟨rfl, rfl, ?_⟩
        conv => whnf
        refine lcF (fun d => .bl (isI d)) (fun d hd R hR => ?_) ?_
        · exact ⟨d, rfl, plain_nh (hp d hd), hR⟩
        refine ⟨[isI a, isI b], rfl, ?_⟩
        rcases isI_cases a with ⟨i, rfl⟩ | ha
        · rcases isI_cases b with ⟨j, rfl⟩ | hb
          · refine ⟨_, rfl, ?_⟩
            refine vifd (fun hj => ?_) (fun hj => ?_)
            · refine ⟨_, rfl, _, rfl, iabs i, j, rfl, iabs_nonneg i, by omega, ?_⟩
              rw [gcd_absl]
              rw [amt2_int hj] at h
              exact h
            · rw [amt2_not hj] at h
              exact h
          · rw [amt2_r hb] at h
            rw [show [isI (D.int i), isI b].all id = false by rw [hb]; rfl]
            exact h
        · rw [amt2_l ha] at h
          rw [show [isI a, isI b].all id = false by rw [ha]; rfl]
          exact h
    | hnd v => cases h1
    | dic _ _ => cases h1
    | ins _ _ _ => cases h1
    | lam _ _ => cases h1
    | _ => exact ⟨rfl, h⟩
def g_is_name (xs : List D) (Q : D → Prop) : Prop := ∃ x, xs = [x] ∧ tame x = true ∧ Q (.bl (isName x))
theorem tame_str {s : Str} (h : tame (.str s) = true) : s.length ≤ 1000 := by
  unfold tame at h
  exact of_decide_eq_true h
def sgnIn : D → Bool
  | .str z => decide (z.cps.toList.headD 0 ∈ abcL)
  | _ => false
theorem sgns_mem {s : Str} {d : D} (h : d ∈ sgns s) : ∃ c ∈ s.cps.toList, d = .str ⟨#[c]⟩ := by
  unfold sgns at h
  obtain ⟨c, hc, rfl⟩ := List.mem_map.mp h
  exact ⟨c, hc, rfl⟩
theorem sgns_in (s : Str) : (sgns s).map (fun d => D.bl (sgnIn d)) = (s.cps.toList.map fun c => decide (c ∈ abcL)).map D.bl := by
  unfold sgns
  rw [List.map_map, List.map_map]
  rfl
theorem all_map {α : Type} (l : List α) (f : α → Bool) : (l.map f).all id = l.all f := by
  rw [List.all_map]
  rfl
theorem nmS_len {s : Str} (h : ¬ ((1 : Int) ≤ s.length ∧ (s.length : Int) ≤ 8)) : nmS s = false := by
  unfold nmS
  by_cases h1 : 1 ≤ s.length
  · rw [decide_eq_false (show ¬ s.length ≤ 8 by omega), Bool.and_false, Bool.false_and]
  · rw [decide_eq_false h1, Bool.false_and, Bool.false_and]
theorem nmS_all {s : Str} (h1 : (1 : Int) ≤ s.length) (h2 : (s.length : Int) ≤ 8) : nmS s = s.cps.toList.all fun c => decide (c ∈ abcL) := by
  unfold nmS
  rw [decide_eq_true (show 1 ≤ s.length by omega), decide_eq_true (show s.length ≤ 8 by omega)]
  rfl
theorem ok_is_name (T : Tx K mg) : FnOk P w K mg base CX0 1 T.f_is_name T.fd_is_name ["value"] (spD K W g_is_name) := by
  refine vfn T.F_is_name sc_is_name (fun ds Q h => ?_) ⟨_, fun cdv A outer s H E hr => (vss_cons (vs_if (vt_w (vw_or (vt_not (vt_val (ve_isi .str (by rfl) T.n_isinstance bt_isinstance (ve_var 0) (by rfl) T.n_str bt_str))) (vw_or1 (vt_not (vt_chain op_le op_le lift_iib lift_iib ve_int (ve_callB call_len lift_len (by rfl) T.n_len bt_len (va_cons (ve_var 0) va_nil)) (ve_glob (by rfl) T.c_MOST_LETTERS T.r_MOST_LETTERS T.w_MOST_LETTERS)))))) (vss_one (vs_ret ve_bl)) vss_nil) (vss_one (vs_ret (ve_callB (cr_all (by rfl)) lift_all (by rfl) T.n_all bt_all (va_cons (ve_lc (own := [("letter", 1)]) rfl sc_is_name.nd (vi_its (ve_var 0)) (blkOk_by (N := ["value", "letter"]) (sc := defScope s_is_name) (by decide +kernel)) (fun _ _ _ _ _ => (vg_name 1 sc_is_name.nd (by decide))) (fun _ _ _ _ _ => vts_nil) (fun _ _ _ _ _ => (ve_cmp op_in_sign lift_inS (ve_var 1) (ve_glob (by rfl) T.c_LETTERS T.r_LETTERS T.w_LETTERS) (by rfl)))) va_nil))))), fun ds Q h => ?_⟩
  · obtain ⟨a, rfl, _⟩ := h
    rfl
  · obtain ⟨x, rfl, h1, h⟩ := h
    cases x with
    | str s =>
      have hl := tame_str h1
      have hs : s.length ≤ sizeLine := by rw [sizeLine_eq]; omega
      refine ⟨rfl, ?_⟩
      refine ⟨hs, ?_⟩
      have fls : ¬ ((1 : Int) ≤ s.length ∧ (s.length : Int) ≤ 8) → Q (.bl false) := fun n => by
        have h : Q (.bl (nmS s)) := h
        rw [nmS_len n] at h
        exact h
      refine vifd (fun a1 => ?_) (fun a0 => fls fun z => a0 z.1)
      refine vifn (fun a0 => fls fun z => a0 z.2) (fun a2 => ?_)
      refine ⟨rfl, hs, ?_⟩
      refine lcF (fun d => .bl (sgnIn d)) (fun d hd R hR => ?_) ?_
      · obtain ⟨c, hc, rfl⟩ := sgns_mem hd
        exact ⟨c, rfl, hR⟩
      refine ⟨_, sgns_in s, ?_⟩
      rw [all_map, ← nmS_all a1 a2]
      exact h
    | hnd v => cases h1
    | dic _ _ => cases h1
    | ins _ _ _ => cases h1
    | lam _ _ => cases h1
    | _ => exact ⟨rfl, h⟩
theorem ok_amount (T : Tx K mg) : FnOk P w K mg base CX0 2 T.f_amount T.fd_amount ["top", "bottom"] (spD K W g_ratio) := by
  refine vfnD T.F_amount sc_amount (fun ds Q h => ?_) ⟨_, fun cdv A outer s H E hr => (vss_cons (vs_if (vt_cmp (op_eqA hr.units) lift_eq (ve_var 1) ve_int (nomark _)) (vss_one vs_never) vss_nil) (vss_cons (vs_set 2 sc_amount.nd (ve_call (ok_common_divisor T) (hr.mono (by decide)) (by rfl) T.g_common_divisor T.F_common_divisor.kp T.B_common_divisor .nil pass0 (fun _ _ => reps_nil) (va_cons (ve_callB call_abs lift_abs (by rfl) T.n_abs bt_abs (va_cons (ve_var 0) va_nil)) (va_cons (ve_callB call_abs lift_abs (by rfl) T.n_abs bt_abs (va_cons (ve_var 1) va_nil)) va_nil)))) (vss_cons (vs_if (vt_cmp op_ltA lift_lt (ve_var 1) ve_int (nomark _)) (vss_one (vs_set 2 sc_amount.nd (ve_neg (ve_var 2)))) vss_nil) (vss_one (vs_ret (ve_tup (va_cons (ve_fdiv (ve_var 0) (ve_var 2)) (va_cons (ve_fdiv (ve_var 1) (ve_var 2)) va_nil)))))))), fun ds Q h => ?_⟩
  · obtain ⟨a, b, rfl, _⟩ := h
    rfl
  · obtain ⟨t, b, rfl, hb, hl, h⟩ := h
    have d1 := ratK_div (t := t) hb hl t
    have d2 := ratK_div (t := t) hb hl b
    have eg : Int.gcd (iabs t) (iabs b) = Int.gcd t b := gcd_abs t b
    have fin : Q (.tup [.int (t.fdiv (ratK t b)), .int (b.fdiv (ratK t b))]) := h
    refine vifd (fun h0 => absurd h0 hb) (fun _ => ?_)
    refine ⟨iabs t, iabs b, rfl, iabs_nonneg t, iabs_nonneg b, ?_⟩
    rw [eg]
    refine vifd (fun h0 => ?_) (fun h0 => ?_)
    · have ek : ratK t b = -((Int.gcd t b : Nat) : Int) := by unfold ratK; rw [if_neg (by omega)]; omega
      rw [ek] at d1 d2 fin
      exact ⟨d1, d2, Nat.le_of_ble_eq_true rfl, fin⟩
    · have ek : ratK t b = ((Int.gcd t b : Nat) : Int) := by unfold ratK; rw [if_pos (by omega)]
      rw [ek] at d1 d2 fin
      exact ⟨d1, d2, Nat.le_of_ble_eq_true rfl, fin⟩
theorem ok_plus (T : Tx K mg) : FnOk P w K mg base CX0 3 T.f_plus T.fd_plus ["one", "other"] (spD K W g_plus) := by
  refine vfn T.F_plus sc_plus (fun ds Q h => ?_) ⟨_, fun cdv A outer s H E hr => (vss_one (vs_ret (ve_callD (ok_amount T) (hr.mono (by decide)) (by rfl) T.g_amount T.F_amount.kp (T.F_amount.binds1 2 1 (List.cons_ne_nil _ _) rfl (fun _ _ _ _ _ _ _ us its hu hi => match us, its, hu, hi with | [_, _], [_], _, _ => ⟨_, rfl, rfl⟩)) pass0 (fun M H => reps_nil) (va_cons (ve_addA (ve_mul (ve_ixA hr.units (ve_var 0) ve_int) (ve_ixA hr.units (ve_var 1) ve_int)) (ve_mul (ve_ixA hr.units (ve_var 1) ve_int) (ve_ixA hr.units (ve_var 0) ve_int))) (va_cons (ve_mul (ve_ixA hr.units (ve_var 0) ve_int) (ve_ixA hr.units (ve_var 1) ve_int)) va_nil))))), fun ds Q h => ?_⟩
  · obtain ⟨_, _, _, _, rfl, _⟩ := h
    rfl
  · obtain ⟨n, m, x, y, rfl, ⟨a, b, rfl, A⟩, ⟨c, d, rfl, B⟩, hn, h⟩ := h
    obtain ⟨f1, f2, f3, f4, f5⟩ := plus_facts A B hn
    exact ⟨_, rfl, _, rfl, f1, _, rfl, _, rfl, f2, _, rfl, _, rfl, f3, _, _, rfl, f4, f5, h⟩
def g_minus (xs : List D) (Q : D → Prop) : Prop := ∃ n m x y, xs = [x, y] ∧ AmtD n x ∧ AmtD m y ∧ n + m ≤ 9000 ∧ Q (minusD x y)
theorem ok_minus (T : Tx K mg) : FnOk P w K mg base CX0 3 T.f_minus T.fd_minus ["one", "other"] (spD K W g_minus) := by
  refine vfn T.F_minus sc_minus (fun ds Q h => ?_) ⟨_, fun cdv A outer s H E hr => (vss_one (vs_ret (ve_callD (ok_amount T) (hr.mono (by decide)) (by rfl) T.g_amount T.F_amount.kp (T.F_amount.binds1 2 1 (List.cons_ne_nil _ _) rfl (fun _ _ _ _ _ _ _ us its hu hi => match us, its, hu, hi with | [_, _], [_], _, _ => ⟨_, rfl, rfl⟩)) pass0 (fun M H => reps_nil) (va_cons (ve_sub (ve_mul (ve_ixA hr.units (ve_var 0) ve_int) (ve_ixA hr.units (ve_var 1) ve_int)) (ve_mul (ve_ixA hr.units (ve_var 1) ve_int) (ve_ixA hr.units (ve_var 0) ve_int))) (va_cons (ve_mul (ve_ixA hr.units (ve_var 0) ve_int) (ve_ixA hr.units (ve_var 1) ve_int)) va_nil))))), fun ds Q h => ?_⟩
  · obtain ⟨_, _, _, _, rfl, _⟩ := h
    rfl
  · obtain ⟨n, m, x, y, rfl, ⟨a, b, rfl, A⟩, ⟨c, d, rfl, B⟩, hn, h⟩ := h
    obtain ⟨f1, f2, f3, f4, f5⟩ := plus_facts A B hn
    have e : a * d - c * b = a * d + (0 - c) * b := by rw [Int.zero_sub, Int.neg_mul, Int.sub_eq_add_neg]
    refine ⟨_, rfl, _, rfl, f1, _, rfl, _, rfl, f2, _, rfl, _, rfl, f3, _, _, rfl, f4, f5, ?_⟩
    rw [e]
    exact h
def g_sign (xs : List D) (Q : D → Prop) : Prop := ∃ (a : Int) (b : D), xs = [.tup [.int a, b]] ∧ Q (.int (sgnI a))
theorem ok_sign (T : Tx K mg) : FnOk P w K mg base CX0 1 T.f_sign T.fd_sign ["one"] (spD K W g_sign) := by
  refine vfn T.F_sign sc_sign (fun ds Q h => ?_) ⟨_, fun cdv A outer s H E hr => (vss_one (vs_ret (ve_sub (ve_callTy call_int1 lift_int (by rfl) T.n_int bt_int (va_cons (ve_cmp op_gt lift_iib (ve_ixA hr.units (ve_var 0) ve_int) ve_int (nomark _)) va_nil)) (ve_callTy call_int1 lift_int (by rfl) T.n_int bt_int (va_cons (ve_cmp op_ltA lift_lt (ve_ixA hr.units (ve_var 0) ve_int) ve_int (nomark _)) va_nil))))), fun ds Q h => ?_⟩
  · obtain ⟨_, _, rfl, _⟩ := h
    rfl
  · obtain ⟨a, b, rfl, h⟩ := h
    exact ⟨_, rfl, _, rfl, h⟩
--CUT--
/-! ### texts of amounts -/
def g_atext (xs : List D) (Q : D → Prop) : Prop := ∃ n d, xs = [d] ∧ AmtD n d ∧ n ≤ 1900 ∧ Q (.str (textD d))
theorem log_lt {i : Int} {n : Nat} (h : i.natAbs < 2 ^ n) (hn : n ≤ 1900) : i.natAbs.log2 < 1920 := by
  have := PySem.Flt.log2_lt_of (k := 1920) (by decide) (Nat.lt_of_lt_of_le h (Nat.pow_le_pow_right (by decide) (by omega : n ≤ 1920)))
  exact this
theorem text_len {n : Nat} {d : D} (h : AmtD n d) (hn : n ≤ 190) : (textD d).length ≤ 1000 := by
  obtain ⟨a, b, rfl, A⟩ := h
  have e1 : (Str.ofString (toString a)).length ≤ 191 := by
    have e := int_text_length_le (k := 190) (a := a) (by decide) (PySem.Flt.log2_lt_of (by decide) (Nat.lt_of_lt_of_le A.ha (Nat.pow_le_pow_right (by decide) hn)))
    rw [PySem.ofString_length]; omega
  have e2 : (Str.ofString (toString b)).length ≤ 191 := by
    have e := int_text_length_le (k := 190) (a := b) (by decide) (PySem.Flt.log2_lt_of (by decide) (Nat.lt_of_lt_of_le A.hb (Nat.pow_le_pow_right (by decide) hn)))
    rw [PySem.ofString_length]; omega
  show Str.length (if b = 1 then _ else _) ≤ 1000
  have e3 : ("/" : Str).length = 1 := rfl
  split
  · omega
  · rw [Str.length_append, Str.length_append]; omega
theorem text_one {a : Int} {b : Int} (h : b = 1) : textD (.tup [.int a, .int b]) = Str.ofString (toString a) := if_pos h
theorem text_two {a : Int} {b : Int} (h : ¬ b = 1) : textD (.tup [.int a, .int b]) = Str.ofString (toString a) ++ ("/" : Str) ++ Str.ofString (toString b) := if_neg h
theorem lt_big {i : Int} {n : Nat} (h : i.natAbs < 2 ^ n) (hn : n ≤ 1900) : i.natAbs < 10 ^ 1000 := Nat.lt_of_lt_of_le h (Nat.le_trans (Nat.pow_le_pow_right (by decide) hn) (Nat.le_of_ble_eq_true rfl))
theorem ok_amount_text (T : Tx K mg) : FnOk P w K mg base CX0 1 T.f_amount_text T.fd_amount_text ["one"] (spD K W g_atext) := by
  refine vfn T.F_amount_text sc_amount_text (fun ds Q h => ?_) ⟨_, fun cdv A outer s H E hr => (vss_cons (vs_if (vt_w (vw_or (vt_cmp op_ge lift_iib (ve_callB call_abs lift_abs (by rfl) T.n_abs bt_abs (va_cons (ve_ixA hr.units (ve_var 0) ve_int) va_nil)) (ve_glob (by rfl) T.c_NO_TEXT T.r_NO_TEXT T.w_NO_TEXT) (nomark _)) (vw_or1 (vt_cmp op_ge lift_iib (ve_ixA hr.units (ve_var 0) ve_int) (ve_glob (by rfl) T.c_NO_TEXT T.r_NO_TEXT T.w_NO_TEXT) (nomark _))))) (vss_one (vs_ret ve_str)) vss_nil) (vss_one (vs_ret (ve_if (vt_cmp (op_eqA hr.units) lift_eq (ve_ixA hr.units (ve_var 0) ve_int) ve_int (nomark _)) (ve_callTy call_str_int lift_str (by rfl) T.n_str bt_str (va_cons (ve_ixA hr.units (ve_var 0) ve_int) va_nil)) (ve_fstr (VJ.fmt (ve_ixA hr.units (ve_var 0) ve_int) (VJ.lit ve_str (VJ.fmt (ve_ixA hr.units (ve_var 0) ve_int) VJ.nil)))))))), fun ds Q h => ?_⟩
  · obtain ⟨_, _, rfl, _⟩ := h
    rfl
  · obtain ⟨n, d, rfl, ⟨a, b, rfl, A⟩, hn, h⟩ := h
    have hA := lt_big A.ha hn
    have hB := lt_big A.hb hn
    refine ⟨_, rfl, vifd (fun z => ?_) (fun _ => ⟨_, rfl, vifd (fun z => ?_) fun _ => ⟨_, rfl, vifd (fun h1 => ⟨_, rfl, log_lt A.ha hn, ?_⟩) fun h1 => ⟨_, rfl, log_lt A.ha hn, Nat.le_of_ble_eq_true rfl, _, rfl, log_lt A.hb hn, ?_⟩⟩⟩)⟩
    · exfalso
      split at z <;> omega
    · exfalso
      omega
    · rw [text_one h1] at h
      exact h
    · rw [text_two h1] at h
      rw [Str.empty_append]
      exact h
theorem ok_l_amount_text (T : Tx K mg) : FnOk P w K mg base CX0 1 T.f_l_amount_text T.fd_l_amount_text ["_law_one"] (spD K W g_atext) := by
  refine vfn T.F_l_amount_text sc_l_amount_text (fun ds Q h => ?_) ⟨_, fun cdv A outer s H E hr => (vss_one (vs_ret (ve_if (vt_cmp (op_eqA hr.units) lift_eq (ve_ixA hr.units (ve_var 0) ve_int) ve_int (nomark _)) (ve_callTy call_str_int lift_str (by rfl) T.n_str bt_str (va_cons (ve_ixA hr.units (ve_var 0) ve_int) va_nil)) (ve_addA (ve_addA (ve_callTy call_str_int lift_str (by rfl) T.n_str bt_str (va_cons (ve_ixA hr.units (ve_var 0) ve_int) va_nil)) ve_str) (ve_callTy call_str_int lift_str (by rfl) T.n_str bt_str (va_cons (ve_ixA hr.units (ve_var 0) ve_int) va_nil)))))), fun ds Q h => ?_⟩
  · obtain ⟨_, _, rfl, _⟩ := h
    rfl
  · obtain ⟨n, d, rfl, ⟨a, b, rfl, A⟩, hn, h⟩ := h
    have la := int_len (log_lt A.ha hn)
    have lb := int_len (log_lt A.hb hn)
    refine ⟨_, rfl, vifd (fun h1 => ⟨_, rfl, log_lt A.ha hn, ?_⟩) fun h1 => ⟨_, rfl, log_lt A.ha hn, ?_, _, rfl, log_lt A.hb hn, ?_, ?_⟩⟩
    · rw [text_one h1] at h
      exact h
    · rw [sizeLine_eq]
      have e3 : ("/" : Str).length = 1 := rfl
      omega
    · rw [sizeLine_eq, Str.length_append]
      have e3 : ("/" : Str).length = 1 := rfl
      omega
    · rw [text_two h1] at h
      exact h
def intD (o : Bool) (v : Int) : D := if o = true then .int v else .non
theorem intD_t (v : Int) : intD true v = .int v := rfl
def g_integer_in (xs : List D) (Q : D → Prop) : Prop := ∃ z : Str, xs = [.str z] ∧ z.length ≤ 1000 ∧ Q (intD (numB (TL.tl z)) (valL (TL.tl z)))
theorem ok_integer_in (T : Tx K mg) : FnOk P w K mg base CX0 1 T.f_integer_in T.fd_integer_in ["text"] (spD K W g_integer_in) := by
  refine vfn T.F_integer_in sc_integer_in (fun ds Q h => ?_) ⟨_, fun cdv A outer s H E hr => (vss_cons (vs_set 1 sc_integer_in.nd (ve_removeprefix (ve_var 0) ve_str)) (vss_cons (vs_if (vt_w (vw_or (vt_not (vt_chain op_le op_le lift_iib lift_iib ve_int (ve_callB call_len lift_len (by rfl) T.n_len bt_len (va_cons (ve_var 1) va_nil)) (ve_glob (by rfl) T.c_MOST_DIGITS T.r_MOST_DIGITS T.w_MOST_DIGITS))) (vw_or1 (vt_not (vt_val (ve_callB (cr_all (by rfl)) lift_all (by rfl) T.n_all bt_all (va_cons (ve_lc (own := [("digit", 3)]) rfl sc_integer_in.nd (vi_its (ve_var 1)) (blkOk_by (N := ["text", "digits", "found", "digit"]) (sc := defScope s_integer_in) (by decide +kernel)) (fun _ _ _ _ _ => (vg_name 3 sc_integer_in.nd (by decide))) (fun _ _ _ _ _ => vts_nil) (fun _ _ _ _ _ => (ve_cmp op_in_sign lift_inS (ve_var 3) (ve_glob (by rfl) T.c_DIGITS T.r_DIGITS T.w_DIGITS) (by rfl)))) va_nil))))))) (vss_one (vs_ret ve_non)) vss_nil) (vss_cons (vs_set 2 sc_integer_in.nd (ve_callTy call_int_str lift_intS (by rfl) T.n_int bt_int (va_cons (ve_var 0) va_nil))) (vss_one (vs_ret (ve_if (vt_cmp (op_eqA hr.units) lift_eq (ve_callTy call_str_int lift_str (by rfl) T.n_str bt_str (va_cons (ve_var 2) va_nil)) (ve_var 0) (nomark _)) (ve_var 2) ve_non)))))), fun ds Q h => ?_⟩
  · obtain ⟨_, rfl, _⟩ := h
    rfl
  · obtain ⟨z, rfl, hz, h⟩ := h
    -- text, digits, found, digit
    have hs : z.length ≤ sizeLine := by rw [sizeLine_eq]; omega
    refine ⟨rfl, hs, ?_⟩
    have hb := rmp_bare z
    generalize Txt.removeprefix z "-" = b at hb ⊢
    have hbl : b.length = (bareL (TL.tl z)).length := by rw [tl_len b, hb]
    have hbz : (bareL (TL.tl z)).length ≤ z.length := by
      rw [tl_len z]
      cases TL.tl z with
      | nil => exact Nat.le_refl _
      | cons c r =>
        show (if c = 45 then r else c :: r).length ≤ _
        split <;> simp
    have hbs : b.length ≤ sizeLine := by rw [sizeLine_eq]; omega
    have fls : digsB (bareL (TL.tl z)) = false → Q .non := fun n => by
      have e : numB (TL.tl z) = false := by unfold numB; rw [n]; rfl
      rw [e] at h
      exact h
    refine ⟨hbs, ?_⟩
    refine vifd (fun a1 => ?_) (fun a0 => fls (digsB_no fun z => a0 (by omega)))
    refine vifn (fun a0 => fls (digsB_no fun z => a0 (by omega))) (fun a2 => ?_)
    refine ⟨rfl, hbs, ?_⟩
    refine lcF (fun d => .bl (digC d)) (fun d hd R hR => ?_) ?_
    · obtain ⟨c, hc, rfl⟩ := sgn_of hd
      refine ⟨c, rfl, ?_⟩
      rw [dig_mem]
      exact hR
    refine ⟨_, digs_map b, ?_⟩
    rw [all_id, hb]
    have ed := digsB_of (l := bareL (TL.tl z)) (by omega) (by omega)
    cases ha : (bareL (TL.tl z)).all dig with
    | false => exact fls (by rw [ed, ha])
    | true =>
      rw [ha] at ed
      obtain ⟨n1, n2⟩ := num_val ed
      refine ⟨_, n1, by omega, ?_⟩
      refine ⟨val_log ed, ?_⟩
      have ht := num_iff ed
      have en : numB (TL.tl z) = canL (TL.tl z) := by unfold numB; rw [ed, Bool.true_and]
      rw [en] at h
      refine vifd (fun he => ?_) (fun he => ?_)
      · have he : Str.ofString (toString (valL (TL.tl z))) = z := he
        have e1 : textL (valL (TL.tl z)) = TL.tl z := congrArg TL.tl he
        rw [ht.mp e1] at h
        exact h
      · have e1 : canL (TL.tl z) = false := by
          cases hc : canL (TL.tl z) with
          | false => rfl
          | true => exact absurd (TL.ext_tl (ht.mpr hc)) he
        rw [e1] at h
        exact h
def g_amount_in (xs : List D) (Q : D → Prop) : Prop := ∃ z : Str, xs = [.str z] ∧ z.length ≤ 1000 ∧ Q (amtD (amtIn (TL.tl z)))
theorem ok_amount_in (T : Tx K mg) : FnOk P w K mg base CX0 4 T.f_amount_in T.fd_amount_in ["text"] (spD K W g_amount_in) := by
  refine vfn T.F_amount_in sc_amount_in (fun ds Q h => ?_) ⟨_, fun cdv A outer s H E hr => (vss_cons (vs_asg (vs := [3, 4, 5]) (ve_partition (ve_var 0) ve_str) (vg_tup (n := 3) rfl (vgs_cons (vg_name 3 sc_amount_in.nd (by decide)) (vgs_cons (vg_name 4 sc_amount_in.nd (by decide)) (vgs_cons (vg_name 5 sc_amount_in.nd (by decide)) vgs_nil))))) (vss_cons (vs_set 1 sc_amount_in.nd (ve_call (ok_integer_in T) (hr.mono (by decide)) (by rfl) T.g_integer_in T.F_integer_in.kp T.B_integer_in .nil pass0 (fun _ _ => reps_nil) (va_cons (ve_var 3) va_nil))) (vss_cons (vs_set 2 sc_amount_in.nd (ve_if (vt_cmp (op_neA hr.units) lift_ne (ve_var 4) ve_str (nomark _)) (ve_call (ok_integer_in T) (hr.mono (by decide)) (by rfl) T.g_integer_in T.F_integer_in.kp T.B_integer_in .nil pass0 (fun _ _ => reps_nil) (va_cons (ve_var 5) va_nil)) ve_int)) (vss_cons (vs_if (vt_w (vw_or (vt_cmp op_isN lift_isN (ve_var 1) ve_non (nomark _)) (vw_or (vt_cmp op_isN lift_isN (ve_var 2) ve_non (nomark _)) (vw_or1 (vt_not (vt_val (ve_call (ok_is_amount T) (hr.mono (by decide)) (by rfl) T.g_is_amount T.F_is_amount.kp T.B_is_amount .nil pass0 (fun _ _ => reps_nil) (va_cons (ve_tup (va_cons (ve_var 1) (va_cons (ve_var 2) va_nil))) va_nil)))))))) (vss_one (vs_ret ve_non)) vss_nil) (vss_one (vs_ret (ve_if (vt_cmp (op_eqA hr.units) lift_eq (ve_call (ok_amount_text T) (hr.mono (by decide)) (by rfl) T.g_amount_text T.F_amount_text.kp T.B_amount_text .nil pass0 (fun _ _ => reps_nil) (va_cons (ve_tup (va_cons (ve_var 1) (va_cons (ve_var 2) va_nil))) va_nil)) (ve_var 0) (nomark _)) (ve_tup (va_cons (ve_var 1) (va_cons (ve_var 2) va_nil))) ve_non))))))), fun ds Q h => ?_⟩
  · obtain ⟨_, rfl, _⟩ := h
    rfl
  · obtain ⟨z, rfl, hz, h⟩ := h
    have hs : z.length ≤ sizeLine := by rw [sizeLine_eq]; omega
    have hz2 : SX.S (TL.tl z) = z := SX.S_tl z
    have hzl := tl_len z
    rcases cut_bar (TL.tl z) with hn | ⟨p, q, e, hp⟩
    · have ep : Txt.partition z "/" = (z, SX.S [], SX.S []) := by
        have := SX.partition_none (a := TL.tl z) (b := [47]) (by simp) (par_none' hn)
        rw [hz2] at this
        exact this
      rw [amt_none hn] at h
      refine ⟨rfl, rfl, hs, ?_⟩
      rw [ep]
      refine ⟨rfl, z, rfl, hz, ?_⟩
      cases hnum : numB (TL.tl z) with
      | false =>
        rw [hnum] at h
        exact h
      | true =>
        rw [hnum] at h
        have ed : digsB (bareL (TL.tl z)) = true := by unfold numB at hnum; exact (Bool.and_eq_true_iff.mp hnum).1
        have ec : canL (TL.tl z) = true := by unfold numB at hnum; exact (Bool.and_eq_true_iff.mp hnum).2
        have et : Str.ofString (toString (valL (TL.tl z))) = z := TL.ext_tl ((num_iff ed).mpr ec)
        have AA : AmtD 100 (.tup [.int (valL (TL.tl z)), .int 1]) := ⟨_, _, rfl, by decide, by rw [Int.gcd_one_right], Nat.lt_of_lt_of_le (val_lt ed) (Nat.le_of_ble_eq_true rfl), by decide⟩
        generalize valL (TL.tl z) = v at h et AA ⊢
        refine ⟨Nat.le_of_ble_eq_true rfl, _, rfl, rfl, ?_⟩
        simp only [intD_t]
        have ea : isAmt (.tup [.int v, .int 1]) = true := by
          show (decide (0 < (1 : Int)) && decide (Int.gcd v 1 = 1)) = true
          rw [Int.gcd_one_right]
          rfl
        rw [ea]
        refine ⟨Nat.le_of_ble_eq_true rfl, 100, _, rfl, AA, by decide, ?_⟩
        rw [text_one rfl, et]
        refine vifd (fun _ => ⟨Nat.le_of_ble_eq_true rfl, h⟩) (fun he => absurd rfl he)
    · have ep : Txt.partition z "/" = (SX.S p, SX.S [47], SX.S q) := by
        have := SX.partition_some (a := TL.tl z) (b := [47]) (p := p) (q := q) (by simp) (by rw [e]; exact par_some hp)
        rw [hz2] at this
        exact this
      rw [e, amt_some hp] at h
      refine ⟨rfl, rfl, hs, ?_⟩
      rw [ep]
      have lp : (SX.S p).length ≤ 1000 := by
        rw [SX.S_len]
        rw [hzl, e] at hz
        simp at hz
        omega
      have lq : (SX.S q).length ≤ 1000 := by
        rw [SX.S_len]
        rw [hzl, e] at hz
        simp at hz
        omega
      have tp : TL.tl (SX.S p) = p := by simp [TL.tl, SX.S]
      have tq : TL.tl (SX.S q) = q := by simp [TL.tl, SX.S]
      refine ⟨rfl, _, rfl, lp, ?_⟩
      rw [tp]
      have no : (¬ (numB p = true ∧ numB q = true ∧ 1 < valL q ∧ Int.gcd (valL p) (valL q) = 1)) → Q .non := fun n => by rw [if_neg n] at h; exact h
      refine ⟨_, rfl, lq, ?_⟩
      rw [tq]
      cases np : numB p with
      | false => exact no fun z => by rw [np] at z; cases z.1
      | true =>
        cases nq : numB q with
        | false => exact no fun z => by rw [nq] at z; cases z.2.1
        | true =>
          have pd : digsB (bareL p) = true := by unfold numB at np; exact (Bool.and_eq_true_iff.mp np).1
          have pc : canL p = true := by unfold numB at np; exact (Bool.and_eq_true_iff.mp np).2
          have qd : digsB (bareL q) = true := by unfold numB at nq; exact (Bool.and_eq_true_iff.mp nq).1
          have qc : canL q = true := by unfold numB at nq; exact (Bool.and_eq_true_iff.mp nq).2
          have tp2 := (num_iff pd).mpr pc
          have tq2 := (num_iff qd).mpr qc
          refine ⟨Nat.le_of_ble_eq_true rfl, _, rfl, rfl, ?_⟩
          simp only [intD_t]
          rw [show isAmt (.tup [.int (valL p), .int (valL q)]) = (decide (0 < valL q) && decide (Int.gcd (valL p) (valL q) = 1)) from rfl]
          by_cases h0 : 0 < valL q
          · by_cases h1 : Int.gcd (valL p) (valL q) = 1
            · have AA : AmtD 100 (.tup [.int (valL p), .int (valL q)]) := ⟨_, _, rfl, h0, h1, Nat.lt_of_lt_of_le (val_lt pd) (Nat.le_of_ble_eq_true rfl), Nat.lt_of_lt_of_le (val_lt qd) (Nat.le_of_ble_eq_true rfl)⟩
              rw [decide_eq_true h0, decide_eq_true h1]
              refine ⟨Nat.le_of_ble_eq_true rfl, 100, _, rfl, AA, by decide, ?_⟩
              by_cases h2 : valL q = 1
              · rw [text_one h2]
                refine vifd (fun he => ?_) (fun _ => no fun z => by rw [h2] at z; exact absurd z.2.2.1 (by decide))
                exfalso
                have he : Str.ofString (toString (valL p)) = z := he
                have e1 : textL (valL p) = TL.tl z := congrArg TL.tl he
                rw [tp2, e] at e1
                have := congrArg List.length e1
                simp at this
              · rw [text_two h2]
                have et : Str.ofString (toString (valL p)) ++ ("/" : Str) ++ Str.ofString (toString (valL q)) = z := by
                  refine TL.ext_tl ?_
                  rw [TL.tl_append, TL.tl_append, e]
                  show textL (valL p) ++ [47] ++ textL (valL q) = _
                  rw [tp2, tq2]
                  simp
                rw [et]
                rw [if_pos ⟨np, nq, by omega, h1⟩] at h
                exact vifd (fun _ => ⟨Nat.le_of_ble_eq_true rfl, h⟩) (fun he => absurd rfl he)
            · rw [decide_eq_true h0, decide_eq_false h1]
              exact no fun z => h1 z.2.2.2
          · rw [decide_eq_false h0]
            exact no fun z => h0 (by omega)
theorem textL_lenW {a : Int} (h : a.natAbs < 10 ^ 452) : (Str.ofString (toString a)).length ≤ 453 := by
  have e : (Str.ofString (toString a)).length = (textL a).length := tl_len _
  rw [e]
  rcases Int.lt_or_le a 0 with h0 | h0
  · obtain ⟨n, rfl⟩ : ∃ n : Nat, a = -(n : Int) := ⟨a.natAbs, by omega⟩
    rw [textL_neg (by omega)]
    have := TL.numL_len (n := n) (k := 452) (by decide) (by omega)
    rw [List.length_cons]
    omega
  · obtain ⟨n, rfl⟩ := Int.eq_ofNat_of_zero_le h0
    rw [textL_nat]
    have := TL.numL_len (n := n) (k := 452) (by decide) (by omega)
    omega
theorem text_lenW {n : Nat} {d : D} (h : AmtD n d) (hn : n ≤ 1500) : (textD d).length ≤ 1000 := by
  obtain ⟨a, b, rfl, A⟩ := h
  have big : ∀ {x : Nat}, x < 2 ^ n → x < 10 ^ 452 := fun h => Nat.lt_of_lt_of_le h (Nat.le_trans (Nat.pow_le_pow_right (by decide) hn) (Nat.le_of_ble_eq_true rfl))
  have e1 := textL_lenW (big A.ha)
  have e2 := textL_lenW (big A.hb)
  show Str.length (if b = 1 then _ else _) ≤ 1000
  have e3 : ("/" : Str).length = 1 := rfl
  split
  · omega
  · rw [Str.length_append, Str.length_append]; omega
/-! ### texts of forms -/
def g_part_text (xs : List D) (Q : D → Prop) : Prop := ∃ n s f, xs = [.str s, f] ∧ s.length ≤ 100 ∧ AmtD n f ∧ n ≤ 1500 ∧ Q (.str (partS s f))
theorem ok_part_text (T : Tx K mg) : FnOk P w K mg base CX0 2 T.f_part_text T.fd_part_text ["name", "factor"] (spD K W g_part_text) := by
  refine vfn T.F_part_text sc_part_text (fun ds Q h => ?_) ⟨_, fun cdv A outer s H E hr => (vss_cons (vs_if (vt_cmp (op_eqA hr.units) lift_eq (ve_var 0) ve_str (nomark _)) (vss_one (vs_ret (ve_call (ok_amount_text T) (hr.mono (by decide)) (by rfl) T.g_amount_text T.F_amount_text.kp T.B_amount_text .nil pass0 (fun _ _ => reps_nil) (va_cons (ve_var 1) va_nil)))) vss_nil) (vss_one (vs_ret (ve_if (vt_cmp (op_eqA hr.units) lift_eq (ve_var 1) (ve_glob (by rfl) T.c_ONE T.r_ONE T.w_ONE) (nomark _)) (ve_var 0) (ve_fstr (VJ.fmt (ve_call (ok_amount_text T) (hr.mono (by decide)) (by rfl) T.g_amount_text T.F_amount_text.kp T.B_amount_text .nil pass0 (fun _ _ => reps_nil) (va_cons (ve_var 1) va_nil)) (VJ.lit ve_str (VJ.fmt (ve_var 0) VJ.nil)))))))), fun ds Q h => ?_⟩
  · obtain ⟨_, _, _, rfl, _⟩ := h
    rfl
  · obtain ⟨n, s, f, rfl, hs, hf, hn, h⟩ := h
    unfold partS at h
    refine vifd (fun z => ?_) (fun z => ?_)
    · rw [if_pos z] at h
      exact ⟨n, f, rfl, hf, by omega, h⟩
    · rw [if_neg z] at h
      have hf0 := hf
      obtain ⟨a, b, rfl, A⟩ := hf
      refine ⟨rfl, rfl, ?_⟩
      refine vif (fun e => ?_) (fun e => ?_)
      · rw [if_pos (show eqv _ oneD = true from e)] at h
        exact h
      · have e : eqv (.tup [.int a, .int b]) oneD = false := e
        rw [if_neg (by rw [e]; simp)] at h
        refine ⟨n, _, rfl, hf0, by omega, text_lenW hf0 hn, Nat.le_of_ble_eq_true rfl, by show s.length ≤ 1000; omega, ?_⟩
        rw [Str.empty_append]
        exact h
theorem part_len {n : Nat} {s : Str} {f : D} (hs : s.length ≤ 100) (hf : AmtD n f) (hn : n ≤ 1500) : (partS s f).length ≤ 1200 := by
  have := text_lenW hf hn
  unfold partS
  split
  · omega
  · split
    · omega
    · rw [Str.length_append, Str.length_append]
      have : ("*" : Str).length = 1 := rfl
      omega
theorem neg_sgn {a : Int} {b : D} : decide (sgnD (.tup [.int a, b]) < 0) = negF (.tup [.int a, b]) := by
  show decide (sgnI a < 0) = decide (a < 0)
  unfold sgnI
  by_cases h : a < 0
  · rw [decide_eq_true h, decide_eq_false (show ¬ 0 < a by omega)]
    rfl
  · rw [decide_eq_false h]
    by_cases h2 : 0 < a
    · rw [decide_eq_true h2]; rfl
    · rw [decide_eq_false h2]; rfl
theorem ok_opposite (T : Tx K mg) : FnOk P w K mg base CX0 1 T.f_opposite T.fd_opposite ["one"] (spD K W (fun xs Q => ∃ a b, xs = [.tup [.int a, b]] ∧ Q (.tup [.int (-a), b]))) := by
  refine vfn T.F_opposite sc_opposite (fun ds Q h => ?_) ⟨_, fun cdv A outer s H E hr => (vss_one (vs_ret (ve_tup (va_cons (ve_neg (ve_ixA hr.units (ve_var 0) ve_int)) (va_cons (ve_ixA hr.units (ve_var 0) ve_int) va_nil))))), fun ds Q h => ?_⟩
  · obtain ⟨_, _, rfl, _⟩ := h
    rfl
  · obtain ⟨a, b, rfl, h⟩ := h
    exact ⟨_, rfl, _, rfl, Nat.le_of_ble_eq_true rfl, h⟩
/-- the parts of a text: few, each of a short name or none, and an amount -/
def PartsD (n : Nat) (ps : List D) : Prop := ∀ p ∈ ps, ∃ s f, p = .tup [.str s, f] ∧ s.length ≤ 100 ∧ AmtD n f
theorem mark_len (b : Bool) (f : D) : (markF b f).length ≤ 3 := by
  unfold markF
  cases negF f <;> cases b <;> decide
theorem pstep_len {n : Nat} {acc : Str} {p : D} {b : Bool} (hp : ∃ s f, p = .tup [.str s, f] ∧ s.length ≤ 100 ∧ AmtD n f) (hn : n ≤ 1500) : (pStep b acc p).length ≤ acc.length + 1203 := by
  obtain ⟨s, f, rfl, hs, hf⟩ := hp
  show (acc ++ markF b f ++ partS s (barD f)).length ≤ _
  have hb : AmtD n (barD f) := by
    obtain ⟨a, b', rfl, A⟩ := hf
    rw [fac_bar]
    exact ⟨_, _, rfl, A.pos, by show Nat.gcd (Int.natAbs (a.natAbs : Int)) b'.natAbs = 1; rw [Int.natAbs_natCast]; exact A.cop, by rw [Int.natAbs_natCast]; exact A.ha, A.hb⟩
  have h1 := part_len hs hb hn
  have h2 := mark_len b f
  rw [Str.length_append, Str.length_append]
  omega
theorem formS_len {n : Nat} {ps : List D} (h : PartsD n ps) (hn : n ≤ 1500) : ∀ i, i ≤ ps.length → (formS (ps.take i)).length ≤ 1203 * i := by
  intro i hi
  induction i with
  | zero => exact Nat.le_refl _
  | succ i ih =>
    obtain ⟨p, hp⟩ := get_lt (xs := ps) (i := i) (by omega)
    rw [formS_take hp]
    have := pstep_len (acc := formS (ps.take i)) (b := decide (i = 0)) (h p (List.mem_of_getElem? hp)) hn
    have := ih (by omega)
    omega
theorem parts_D {n : Nat} {ts : List D} {c : D} (ht : ∀ t ∈ ts, ∃ s f, t = .tup [.str s, f] ∧ s.length ≤ 100 ∧ AmtD n f) (hc : AmtD n c) : PartsD n (partsD ts c) := fun p hp => by
  rcases List.mem_append.mp hp with hp | hp
  · exact ht p hp
  · unfold constP at hp
    split at hp
    · cases hp
    · rw [List.mem_singleton.mp hp]
      exact ⟨_, _, rfl, by decide, hc⟩
theorem parts_len (ts : List D) (c : D) : (partsD ts c).length ≤ ts.length + 1 := by
  unfold partsD constP
  rw [List.length_append]
  split <;> simp
def g_form_text (xs : List D) (Q : D → Prop) : Prop := ∃ n ts c, xs = [.tup [.tup ts, c]] ∧ (∀ t ∈ ts, ∃ s f, t = .tup [.str s, f] ∧ nmS s = true ∧ AmtD n f) ∧ AmtD n c ∧ n ≤ 1500 ∧ ts.length ≤ 200 ∧ Q (.str (formS (partsD ts c)))
theorem nm_100 {s : Str} (h : nmS s = true) : s.length ≤ 100 := by
  by_cases c : (1 : Int) ≤ s.length ∧ (s.length : Int) ≤ 8
  · omega
  · rw [nmS_len c] at h
    cases h
theorem shp_terms {n : Nat} {ts : List D} (ht : ∀ t ∈ ts, ∃ s f, t = .tup [.str s, f] ∧ nmS s = true ∧ AmtD n f) : shp (.tup ts) = true := shp_tup fun t h => by
  obtain ⟨s, f, rfl, hs, hf⟩ := ht t h
  exact pair_lay (n := n) ⟨s, f, rfl, hf, hs⟩
theorem eqv_nilT (l : List D) : eqv (.tup l) (.tup []) = l.isEmpty := by cases l <;> rfl
theorem ok_form_text (T : Tx K mg) : FnOk P w K mg base CX0 4 T.f_form_text T.fd_form_text ["form"] (spD K W g_form_text) := by
  refine vfn T.F_form_text sc_form_text (fun ds Q h => ?_) ⟨_, fun cdv A outer s H E hr => (vss_cons (vs_set 1 sc_form_text.nd (ve_if (vt_w (vw_or (vt_cmp (op_neA hr.units) lift_ne (ve_ixA hr.units (ve_var 0) ve_int) (ve_glob (by rfl) T.c_ZERO T.r_ZERO T.w_ZERO) (nomark _)) (vw_or1 (vt_cmp (op_eqA hr.units) lift_eq (ve_ixA hr.units (ve_var 0) ve_int) (ve_tup va_nil) (nomark _))))) (ve_lst (va_star (ve_ixA hr.units (ve_var 0) ve_int) (va_cons (ve_tup (va_cons ve_str (va_cons (ve_ixA hr.units (ve_var 0) ve_int) va_nil))) va_nil))) (ve_callTy (cr_listA (by rfl)) lift_listA (by rfl) T.n_list bt_list (va_cons (ve_ixA hr.units (ve_var 0) ve_int) va_nil)))) (vss_cons (vs_set 2 sc_form_text.nd ve_str) (vss_cons (vs_for (vs := [3, 5, 6]) PassesOwn.never rfl (vi_enum (by rfl) T.n_enumerate (ve_var 1)) (vg_tup (n := 2) rfl (vgs_cons (vg_name 3 sc_form_text.nd (by decide)) (vgs_cons (vg_tup (n := 2) rfl (vgs_cons (vg_name 5 sc_form_text.nd (by decide)) (vgs_cons (vg_name 6 sc_form_text.nd (by decide)) vgs_nil))) vgs_nil))) (vss_cons (vs_set 4 sc_form_text.nd (ve_cmp op_ltA lift_lt (ve_call (ok_sign T) (hr.mono (by decide)) (by rfl) T.g_sign T.F_sign.kp T.B_sign .nil pass0 (fun _ _ => reps_nil) (va_cons (ve_var 6) va_nil)) ve_int (nomark _))) (vss_cons (vs_if (vt_cmp (op_eqA hr.units) lift_eq (ve_var 3) ve_int (nomark _)) (vss_one (vs_set 2 sc_form_text.nd (ve_if (vt_val (ve_var 4)) ve_str ve_str))) (vss_one (vs_augT 2 sc_form_text.nd (ve_if (vt_val (ve_var 4)) ve_str ve_str)))) (vss_one (vs_augT 2 sc_form_text.nd (ve_call (ok_part_text T) (hr.mono (by decide)) (by rfl) T.g_part_text T.F_part_text.kp T.B_part_text .nil pass0 (fun _ _ => reps_nil) (va_cons (ve_var 5) (va_cons (ve_if (vt_val (ve_var 4)) (ve_call (ok_opposite T) (hr.mono (by decide)) (by rfl) T.g_opposite T.F_opposite.kp T.B_opposite .nil pass0 (fun _ _ => reps_nil) (va_cons (ve_var 6) va_nil)) (ve_var 6)) va_nil)))))))) (vss_one (vs_ret (ve_var 2)))))), fun ds Q h => ?_⟩
  · obtain ⟨_, _, _, rfl, _⟩ := h
    rfl
  · obtain ⟨n, ts, c, rfl, ht, hc, hn, hl, h⟩ := h
    -- form, parts, found, at, below, name, factor
    have PD := parts_D (fun t h => let ⟨s, f, e, hs, hf⟩ := ht t h; ⟨s, f, e, nm_100 hs, hf⟩) hc
    have PL := parts_len ts c
    have st := shp_terms ht
    have hc0 := hc
    obtain ⟨ca, cb, rfl, CA⟩ := hc
    have ez : eqv (.tup [.int ca, .int cb]) (.tup [.int 0, .int 1]) = isZ (.tup [.int ca, .int cb]) := eqv_amt _ _ _ _
    refine meet1 [.d (.tup [.tup ts, .tup [.int ca, .int cb]]), .d (.lst (partsD ts (.tup [.int ca, .int cb]))), .un, .un, .un, .un, .un] (fun rest => ?_) ?_
    · refine ⟨_, rfl, rfl, rfl, ?_⟩
      rw [show eqv _ _ = _ from ez]
      cases hz : isZ (.tup [.int ca, .int cb]) with
      | false =>
        have e : constP ts (.tup [.int ca, .int cb]) = [.tup [.str ("" : Str), .tup [.int ca, .int cb]]] := by unfold constP; rw [if_neg (by rw [hz]; simp)]
        unfold partsD at rest
        rw [e] at rest
        refine ⟨_, rfl, _, rfl, Nat.le_of_ble_eq_true rfl, ?_, rest⟩
        rw [List.length_append]
        exact Nat.le_trans (Nat.add_le_add_right hl 1) (by decide)
      | true =>
        refine ⟨_, rfl, Nat.le_of_ble_eq_true rfl, st, rfl, ?_⟩
        rw [show eqv _ _ = _ from eqv_nilT ts]
        cases ts with
        | nil =>
          have e : constP [] (.tup [.int ca, .int cb]) = [.tup [.str ("" : Str), .tup [.int ca, .int cb]]] := by unfold constP; rw [if_neg (by simp)]
          unfold partsD at rest
          rw [e] at rest
          exact ⟨_, rfl, _, rfl, Nat.le_of_ble_eq_true rfl, Nat.le_of_ble_eq_true rfl, rest⟩
        | cons t ts =>
          have e : constP (t :: ts) (.tup [.int ca, .int cb]) = [] := by unfold constP; rw [if_pos ⟨hz, by simp⟩]
          unfold partsD at rest
          rw [e, List.append_nil] at rest
          exact ⟨_, rfl, rest⟩
    · generalize partsD ts (.tup [.int ca, .int cb]) = ps at PD PL h ⊢
      have FL := formS_len PD hn
      refine ⟨by omega, ?_⟩
      refine ⟨fun i sl => ∃ a3 a4 a5 a6 : Sl, sl = [.d (.tup [.tup ts, .tup [.int ca, .int cb]]), .d (.lst ps), .d (.str (formS (ps.take i))), a3, a4, a5, a6], ⟨_, _, _, _, rfl⟩, ?_, ?_⟩
      · rintro i d sl hd ⟨a3, a4, a5, a6, rfl⟩
        obtain ⟨p, hp, rfl⟩ := enumD_get hd
        have hi := (List.getElem?_eq_some_iff.mp hp).1
        obtain ⟨s', f, rfl, hs', hf⟩ := PD p (List.mem_of_getElem? hp)
        have L1 := FL i (by omega)
        have et := formS_take hp
        have hf0 := hf
        obtain ⟨fa, fb, rfl, FA⟩ := hf
        have bar : AmtD n (.tup [.int (if fa < 0 then -fa else fa), .int fb]) := ⟨_, _, rfl, FA.pos, by split <;> simp [FA.cop], by split <;> simp [FA.ha], FA.hb⟩
        have es : decide (sgnI fa < 0) = negF (.tup [.int fa, .int fb]) := neg_sgn (b := .int fb)
        refine ⟨rfl, rfl, fa, .int fb, rfl, ?_⟩
        have PB : ∀ g, AmtD n g → (partS s' g).length ≤ 1200 := fun g hg => part_len hs' hg hn
        have e0 : decide ((i : Int) = 0) = decide (i = 0) := by
          by_cases z : i = 0
          · rw [z]; rfl
          · rw [decide_eq_false z, decide_eq_false (show ¬ (i : Int) = 0 by omega)]
        have et : formS (ps.take (i + 1)) = formS (ps.take i) ++ markF (decide (i = 0)) (.tup [.int fa, .int fb]) ++ partS s' (.tup [.int (if fa < 0 then -fa else fa), .int fb]) := et
        cases hneg : negF (.tup [.int fa, .int fb]) with
        | true =>
          have n0 : fa < 0 := of_decide_eq_true hneg
          have s0 : sgnI fa < 0 := of_decide_eq_true (es.trans hneg)
          rw [if_pos n0] at bar et
          have PB1 := PB _ bar
          unfold markF at et
          rw [if_pos hneg] at et
          refine vifd (fun z => ?_) (fun z => ?_)
          · have z : (i : Int) = 0 := z
            have zi : i = 0 := by omega
            subst zi
            refine vifd (fun _ => ?_) (fun z2 => absurd s0 z2)
            refine vifd (fun _ => ?_) (fun z2 => absurd s0 z2)
            refine ⟨_, _, rfl, n, s', _, rfl, hs', bar, hn, ?_, ?_⟩
            · show ("-" : Str).length + _ ≤ sizeLine
              have : ("-" : Str).length = 1 := rfl
              rw [sizeLine_eq]; omega
            · exact ⟨_, _, _, _, by rw [et]; rfl⟩
          · have z : ¬ (i : Int) = 0 := z
            have zi : ¬ i = 0 := by omega
            rw [decide_eq_false zi] at et
            have l3 : (" - " : Str).length = 3 := rfl
            refine vifd (fun _ => ?_) (fun z2 => absurd s0 z2)
            refine ⟨by rw [sizeLine_eq]; omega, ?_⟩
            refine vifd (fun _ => ?_) (fun z2 => absurd s0 z2)
            refine ⟨_, _, rfl, n, s', _, rfl, hs', bar, hn, ?_, ?_⟩
            · rw [Str.length_append, sizeLine_eq]; omega
            · exact ⟨_, _, _, _, by rw [et]; rfl⟩
        | false =>
          have n0 : ¬ fa < 0 := of_decide_eq_false hneg
          have s0 : ¬ sgnI fa < 0 := of_decide_eq_false (es.trans hneg)
          rw [if_neg n0] at bar et
          have PB1 := PB _ bar
          unfold markF at et
          rw [if_neg (by rw [hneg]; simp)] at et
          refine vifd (fun z => ?_) (fun z => ?_)
          · have z : (i : Int) = 0 := z
            have zi : i = 0 := by omega
            subst zi
            refine vifd (fun z2 => absurd z2 s0) (fun _ => ?_)
            refine vifd (fun z2 => absurd z2 s0) (fun _ => ?_)
            refine ⟨n, s', _, rfl, hs', bar, hn, ?_, ?_⟩
            · show ("" : Str).length + _ ≤ sizeLine
              have : ("" : Str).length = 0 := rfl
              rw [sizeLine_eq]; omega
            · exact ⟨_, _, _, _, by rw [et]; rfl⟩
          · have z : ¬ (i : Int) = 0 := z
            have zi : ¬ i = 0 := by omega
            rw [decide_eq_false zi] at et
            have l3 : (" + " : Str).length = 3 := rfl
            refine vifd (fun z2 => absurd z2 s0) (fun _ => ?_)
            refine ⟨by rw [sizeLine_eq]; omega, ?_⟩
            refine vifd (fun z2 => absurd z2 s0) (fun _ => ?_)
            refine ⟨n, s', _, rfl, hs', bar, hn, ?_, ?_⟩
            · rw [Str.length_append, sizeLine_eq]; omega
            · exact ⟨_, _, _, _, by rw [et]; rfl⟩
      · rintro sl ⟨a3, a4, a5, a6, rfl⟩
        rw [enumD_len, List.take_length]
        exact h
/-- form_of of a list or a tuple of pairs -/
def g_pform (xs : List D) (Q : D → Prop) : Prop := ∃ n M x ps c, xs = [x, c] ∧ (x = .lst ps ∨ x = .tup ps) ∧ (∀ p ∈ ps, PairD n p) ∧ ps.length < 64 ∧ (∀ k, ncnt k ps ≤ M) ∧ M * (n + 1) + n + 1 ≤ 9000 ∧ Q (formD ps c)
theorem ok_form_of (T : Tx K mg) : FnOk P w K mg base CX0 4 T.f_form_of T.fd_form_of ["terms", "constant"] (spD K W g_pform) := by
  refine vfnD T.F_form_of sc_form_of (fun ds Q h => ?_) ⟨_, fun cdv A outer s H E hr => (vss_cons (vs_setDic 2 sc_form_of.nd) (vss_cons (vs_for (vs := [3, 4]) PassesOwn.never rfl (vi_its (ve_var 0)) (vg_tup (n := 2) rfl (vgs_cons (vg_name 3 sc_form_of.nd (by decide)) (vgs_cons (vg_name 4 sc_form_of.nd (by decide)) vgs_nil))) (vss_one (vs_dput 2 hr.units (ve_var 3) (ve_call (ok_plus T) (hr.mono (by decide)) (by rfl) T.g_plus T.F_plus.kp T.B_plus .nil pass0 (fun _ _ => reps_nil) (va_cons (ve_dget2 2 hr.units (ve_var 3) (ve_glob (by rfl) T.c_ZERO T.r_ZERO T.w_ZERO)) (va_cons (ve_var 4) va_nil)))))) (vss_fz 2 (vss_one (vs_ret (ve_tup (va_cons (ve_callTy call_tuple_of lift_tuple (by rfl) T.n_tuple bt_tuple (va_cons (ve_lc (own := [("name", 3)]) rfl sc_form_of.nd (vi_its (ve_callB (cr_sortedA (by rfl)) lift_sorted (by rfl) T.n_sorted bt_sorted (va_cons (ve_var 2) va_nil))) (blkOk_by (N := ["terms", "constant", "totals", "name", "factor"]) (sc := defScope s_form_of) (by decide +kernel)) (fun _ _ _ _ _ => (vg_name 3 sc_form_of.nd (by decide))) (fun _ _ _ _ _ => (vts_one (vt_cmp (op_neA hr.units) lift_ne (ve_dget 2 hr.units (ve_var 3)) (ve_glob (by rfl) T.c_ZERO T.r_ZERO T.w_ZERO) (nomark _)))) (fun _ _ _ _ _ => (ve_tup (va_cons (ve_var 3) (va_cons (ve_dget 2 hr.units (ve_var 3)) va_nil))))) va_nil)) (va_cons (ve_var 1) va_nil)))))))), fun ds Q h => ?_⟩
  · obtain ⟨_, _, _, _, _, rfl, _⟩ := h
    rfl
  · obtain ⟨n, M, x, ps, c, rfl, hx, hp, hl, hM, hb, h⟩ := h
    have key : ∀ x : D, (x = .lst ps ∨ x = .tup ps) → ∃ b : Bool, x = if b then .lst ps else .tup ps := fun x hx => by
      rcases hx with e | e
      · exact ⟨true, e⟩
      · exact ⟨false, e⟩
    have len0 : (0 : Nat) < 5 := by decide
    refine ⟨Nat.le_of_ble_eq_true rfl, ?_⟩
    have main : ∀ x : D, (x = .lst ps ∨ x = .tup ps) → (∃ Iv : Nat → List Sl → Prop, True) := fun _ _ => ⟨fun _ _ => True, trivial⟩
    rcases hx with rfl | rfl
    all_goals
      refine ⟨fun i sl => ∃ x o3 o4, sl = [.d x, .d c, .md (totals (ps.take i)).1 (totals (ps.take i)).2, o3, o4] ∧ (o3 = .un ∨ ∃ x, o3 = .d x), ⟨_, _, _, rfl, .inl rfl⟩, ?_, ?_⟩
      · rintro i d sl hd ⟨x, o3, o4, rfl, _⟩
        obtain ⟨s, f, rfl, hf⟩ := hp d (List.mem_of_getElem? hd)
        have hlen := tot_few (i := i) hp
        refine ⟨rfl, M * (n + 1) + 1, n, _, _, rfl, tot_get hp hM (Nat.le_refl _) s, hf, by omega, by omega, ?_⟩
        exact ⟨_, .d (.str s), .d f, by rw [tot_take hd]; rfl, .inr ⟨_, rfl⟩⟩
      · rintro sl ⟨x, o3, o4, rfl, ho3⟩
        rw [List.take_length]
        have hlen := tot_few (i := ps.length) hp
        rw [List.take_length] at hlen
        have hv : ∀ (s : Str) (v : D), lkp (totals ps).1 (totals ps).2 s = some v → AmtD (M * (n + 1) + 1) v := fun s v hv => by
          refine tot_amt (i := ps.length) hp hM (Nat.le_refl _) (s := s) ?_
          rw [List.take_length]
          exact hv
        have ht := tot_at hp ps.length
        rw [List.take_length] at ht
        refine ⟨by rcases ho3 with rfl | ⟨x, rfl⟩ <;> rfl, fun _ => ⟨by omega, ?_⟩⟩
        refine lcM (keepD (totals ps)) (fun d hd Y N hY hN => ?_) ?_
        · obtain ⟨s, hs, rfl⟩ := List.mem_map.mp hd
          obtain ⟨v, h1, _⟩ := lkp_mem ht.len (mem_srt.mp hs)
          obtain ⟨a, b, rfl, A⟩ := hv s v h1
          refine ⟨_, h1, rfl, rfl, ?_⟩
          rw [eqv_amt]
          have hk := keepT_some h1
          cases e : (decide (a = 0) && decide (b = 1)) with
          | true => exact hN (by rw [e] at hk; exact hk)
          | false => exact ⟨_, h1, Nat.le_of_ble_eq_true rfl, hY _ (by rw [e] at hk; exact hk)⟩
        rw [keep_map]
        exact ⟨Nat.le_of_ble_eq_true rfl, h⟩
--CUT--
/-! ### forms read -/
theorem tame_of {z : Str} (h : z.length ≤ 1000) : tame (.str z) = true := by
  unfold tame
  exact decide_eq_true h
def g_part_in (xs : List D) (Q : D → Prop) : Prop := ∃ z : Str, xs = [.str z] ∧ z.length ≤ 1000 ∧ Q (partIn z)
theorem cut_star : ∀ l : List Nat, (42 : Nat) ∈ l → ∃ p q, l = p ++ 42 :: q ∧ (42 : Nat) ∉ p
  | [], h => by cases h
  | c :: r, h => by
    by_cases hc : c = 42
    · exact ⟨[], r, by rw [hc]; rfl, by simp⟩
    · have h' : (42 : Nat) ∈ r := by
        rcases List.mem_cons.mp h with e | h'
        · exact absurd e.symm hc
        · exact h'
      obtain ⟨p, q, e, hp⟩ := cut_star r h'
      exact ⟨c :: p, q, by rw [e]; rfl, fun z => by
        rcases List.mem_cons.mp z with z | z
        · exact hc z.symm
        · exact hp z⟩
theorem par_len (z : Str) : (Txt.partition z starS).1.length ≤ z.length ∧ (Txt.partition z starS).2.2.length ≤ z.length := by
  by_cases h : (42 : Nat) ∈ TL.tl z
  · obtain ⟨p, q, e, hp⟩ := cut_star _ h
    have ez : z = SX.S p ++ starS ++ SX.S q := TL.ext_tl (by rw [TL.tl_append, TL.tl_append, e]; simp [TL.tl, SX.S, starS]; rfl)
    have := TL.partition_app (y := starS) (s := 42) (S := []) rfl (a := SX.S p) (b := SX.S q) (by simpa [TL.tl, SX.S] using hp)
    have l1 : z.length = p.length + 1 + q.length := by rw [tl_len z, e]; simp; omega
    rw [l1, ez, this]
    have l2 : (SX.S p).length = p.length := SX.S_len p
    have l3 : (SX.S q).length = q.length := SX.S_len q
    dsimp only
    omega
  · have := TL.partition_none (y := starS) (s := 42) (S := []) rfl h
    rw [this]
    exact ⟨Nat.le_refl _, Nat.zero_le _⟩
theorem ok_part_in (T : Tx K mg) : FnOk P w K mg base CX0 5 T.f_part_in T.fd_part_in ["text"] (spD K W g_part_in) := by
  refine vfn T.F_part_in sc_part_in (fun ds Q h => ?_) ⟨_, fun cdv A outer s H E hr => (vss_cons (vs_if (vt_val (ve_call (ok_is_name T) (hr.mono (by decide)) (by rfl) T.g_is_name T.F_is_name.kp T.B_is_name .nil pass0 (fun _ _ => reps_nil) (va_cons (ve_var 0) va_nil))) (vss_one (vs_ret (ve_tup (va_cons (ve_var 0) (va_cons (ve_glob (by rfl) T.c_ONE T.r_ONE T.w_ONE) va_nil))))) vss_nil) (vss_cons (vs_asg (vs := [2, 3, 4]) (ve_partition (ve_var 0) ve_str) (vg_tup (n := 3) rfl (vgs_cons (vg_name 2 sc_part_in.nd (by decide)) (vgs_cons (vg_name 3 sc_part_in.nd (by decide)) (vgs_cons (vg_name 4 sc_part_in.nd (by decide)) vgs_nil))))) (vss_cons (vs_set 1 sc_part_in.nd (ve_call (ok_amount_in T) (hr.mono (by decide)) (by rfl) T.g_amount_in T.F_amount_in.kp T.B_amount_in .nil pass0 (fun _ _ => reps_nil) (va_cons (ve_var 2) va_nil))) (vss_cons (vs_if (vt_w (vw_or (vt_cmp op_isN lift_isN (ve_var 1) ve_non (nomark _)) (vw_or1 (vt_w (vw_and (vt_cmp (op_neA hr.units) lift_ne (ve_var 3) ve_str (nomark _)) (vw_and1 (vt_not (vt_val (ve_call (ok_is_name T) (hr.mono (by decide)) (by rfl) T.g_is_name T.F_is_name.kp T.B_is_name .nil pass0 (fun _ _ => reps_nil) (va_cons (ve_var 4) va_nil)))))))))) (vss_one (vs_ret ve_non)) vss_nil) (vss_one (vs_ret (ve_tup (va_cons (ve_var 4) (va_cons (ve_var 1) va_nil))))))))), fun ds Q h => ?_⟩
  · obtain ⟨_, rfl, _⟩ := h
    rfl
  · obtain ⟨z, rfl, hz, h⟩ := h
    unfold partIn at h
    refine ⟨_, rfl, tame_of hz, ?_⟩
    rw [show isName (.str z) = nmS z from rfl]
    cases hn : nmS z with
    | true =>
      rw [if_pos hn] at h
      exact ⟨Nat.le_of_ble_eq_true rfl, h⟩
    | false =>
      rw [if_neg (by rw [hn]; simp)] at h
      have hs : z.length ≤ sizeLine := by rw [sizeLine_eq]; omega
      obtain ⟨l1, l2⟩ := par_len z
      refine ⟨rfl, rfl, hs, ?_⟩
      generalize hp : Txt.partition z starS = q at h l1 l2
      rw [show Txt.partition z "*" = q from hp]
      refine ⟨rfl, _, rfl, by omega, ?_⟩
      cases ha : amtIn (TL.tl q.1) with
      | none =>
        rw [ha] at h
        exact h
      | some ab =>
        obtain ⟨a, b⟩ := ab
        rw [ha] at h
        dsimp only at h
        refine vifn (fun y => ?_) (fun y => ?_)
        · refine ⟨_, rfl, tame_of (by omega), ?_⟩
          rw [show isName (.str q.2.2) = nmS q.2.2 from rfl]
          cases hm : nmS q.2.2 with
          | true =>
            rw [if_neg (fun z => by rw [hm] at z; cases z.2)] at h
            exact ⟨Nat.le_of_ble_eq_true rfl, h⟩
          | false =>
            rw [if_pos ⟨y, hm⟩] at h
            exact h
        · rw [if_neg (fun z => z.1 y)] at h
          exact ⟨Nat.le_of_ble_eq_true rfl, h⟩
theorem split_ne (z : Str) : ∃ w r, Txt.split z spS = w :: r := by
  have h := TL.split_spl z spS (by rw [tl_sp]; simp) (TL.kind_ok (by decide +kernel))
  cases e : Txt.split z spS with
  | cons w r => exact ⟨w, r, rfl⟩
  | nil =>
    rw [e] at h
    exfalso
    have key : ∀ (l acc : List Nat), TL.spl [32] 0 acc l ≠ [] := fun l => by
      induction l with
      | nil => intro acc e; rw [TL.spl_nil] at e; cases e
      | cons c r ih =>
        intro acc e
        cases hp : TL.pre [32] (c :: r) with
        | true => rw [TL.spl_hit hp] at e; cases e
        | false => rw [TL.spl_miss hp] at e; exact ih _ e
    exact key _ _ h.symm
theorem split_bound (z : Str) : (Txt.split z spS).length ≤ z.length + 1 ∧ ∀ w ∈ Txt.split z spS, w.length ≤ z.length := by
  have h := TL.split_spl z spS (by rw [tl_sp]; simp) (TL.kind_ok (by decide +kernel))
  have key : ∀ (l acc : List Nat), (TL.spl [32] 0 acc l).length ≤ l.length + 1 ∧ ∀ p ∈ TL.spl [32] 0 acc l, p.length ≤ acc.length + l.length := fun l => by
    induction l with
    | nil => intro acc; rw [TL.spl_nil]; exact ⟨Nat.le_refl _, fun p hp => by rw [List.mem_singleton.mp hp]; exact Nat.le_refl _⟩
    | cons c r ih =>
      intro acc
      cases hp : TL.pre [32] (c :: r) with
      | true =>
        rw [TL.spl_hit hp]
        obtain ⟨h1, h2⟩ := ih []
        refine ⟨by simp at h1 ⊢; omega, fun p hp => ?_⟩
        rcases List.mem_cons.mp hp with rfl | hp
        · omega
        · have := h2 p hp; simp at this ⊢; omega
      | false =>
        rw [TL.spl_miss hp]
        obtain ⟨h1, h2⟩ := ih (acc ++ [c])
        refine ⟨by simp at h1 ⊢; omega, fun p hp => ?_⟩
        have := h2 p hp; simp at this ⊢; omega
  obtain ⟨h1, h2⟩ := key (TL.tl z) []
  rw [tl_sp] at h
  rw [← h] at h1 h2
  rw [tl_len z]
  refine ⟨by simpa using h1, fun w hw => ?_⟩
  have := h2 _ (List.mem_map.mpr ⟨w, hw, rfl⟩)
  rw [tl_len w]
  simpa using this
theorem evens_map {α β : Type} (f : α → β) : ∀ l : List α, evens (l.map f) = (evens l).map f
  | [] => rfl
  | [_] => rfl
  | a :: _ :: r => by
    show f a :: evens (r.map f) = f a :: (evens r).map f
    rw [evens_map f r]
theorem evens_mem {α : Type} {x : α} : ∀ {l : List α}, x ∈ evens l → x ∈ l
  | [], h => h
  | [_], h => h
  | a :: b :: r, h => by
    rcases List.mem_cons.mp h with rfl | h
    · exact .head _
    · exact .tail _ (.tail _ (evens_mem h))
theorem mark_in (m : Str) : inV (.str m) [.str ("+" : Str), .str ("-" : Str)] = markQ m := by
  unfold inV markQ
  simp only [List.any_cons, List.any_nil, Bool.or_false]
  congr 1
  · show decide (("+" : Str) = m) = decide (m = ("+" : Str))
    by_cases h : m = ("+" : Str)
    · rw [decide_eq_true h, decide_eq_true h.symm]
    · rw [decide_eq_false h, decide_eq_false (fun z => h z.symm)]
  · show decide (("-" : Str) = m) = decide (m = ("-" : Str))
    by_cases h : m = ("-" : Str)
    · rw [decide_eq_true h, decide_eq_true h.symm]
    · rw [decide_eq_false h, decide_eq_false (fun z => h z.symm)]
theorem amtP_ok {ls : List (List Nat)} {a b : Int} (h : amtP ls = some (a, b)) : 0 < b ∧ Int.gcd a b = 1 ∧ a.natAbs < 10 ^ 30 ∧ b.natAbs < 10 ^ 30 := by
  have dg : ∀ {p : List Nat}, numB p = true → digsB (bareL p) = true := fun h => by unfold numB at h; exact (Bool.and_eq_true_iff.mp h).1
  match ls, h with
  | [p], h =>
    have h : (if numB p = true then some (valL p, (1 : Int)) else none) = some (a, b) := h
    split at h
    · rename_i hp
      cases h
      exact ⟨by decide, Int.gcd_one_right _, val_lt (dg hp), by decide⟩
    · cases h
  | [p, q], h =>
    have h : (if numB p = true ∧ numB q = true ∧ 1 < valL q ∧ Int.gcd (valL p) (valL q) = 1 then some (valL p, valL q) else none) = some (a, b) := h
    split at h
    · rename_i hp
      cases h
      exact ⟨by omega, hp.2.2.2, val_lt (dg hp.1), val_lt (dg hp.2.1)⟩
    · cases h
  | [], h => cases h
  | _ :: _ :: _ :: _, h => cases h
theorem partIn_ok (z : Str) : partIn z = .non ∨ ∃ s a b, partIn z = .tup [.str s, .tup [.int a, .int b]] ∧ (s = ("" : Str) ∨ nmS s = true) ∧ AmtD 100 (.tup [.int a, .int b]) := by
  unfold partIn
  split
  · rename_i h
    exact .inr ⟨z, 1, 1, rfl, .inr h, one_amt.mono (by decide)⟩
  · split
    · exact .inl rfl
    · rename_i a b ha
      obtain ⟨h1, h2, h3, h4⟩ := amtP_ok ha
      split
      · exact .inl rfl
      · rename_i hn
        refine .inr ⟨_, a, b, rfl, ?_, amt100 h1 h2 h3 h4⟩
        by_cases h : (42 : Nat) ∈ TL.tl z
        · obtain ⟨p, q, e, hp⟩ := cut_star _ h
          have ez : z = SX.S p ++ starS ++ SX.S q := TL.ext_tl (by rw [TL.tl_append, TL.tl_append, e]; simp [TL.tl, SX.S, starS]; rfl)
          have := TL.partition_app (y := starS) (s := 42) (S := []) rfl (a := SX.S p) (b := SX.S q) (by simpa [TL.tl, SX.S] using hp)
          rw [ez, this] at hn ⊢
          right
          cases e : nmS (SX.S q) with
          | true => rfl
          | false => exact absurd ⟨show starS ≠ ("" : Str) by decide, e⟩ hn
        · have := TL.partition_none (y := starS) (s := 42) (S := []) rfl h
          rw [this]
          exact .inl rfl
theorem fold_none : ∀ l : List D, l.foldl inStep none = none
  | [] => rfl
  | a :: l => by
    rw [List.foldl_cons]
    show l.foldl inStep none = none
    exact fold_none l
theorem fold_stop {l : List D} {i : Nat} {d : D} {st s0 : Option (List D × D)} (hd : l[i]? = some d) (h : (l.take i).foldl inStep s0 = st) (hn : inStep st d = none) : l.foldl inStep s0 = none := by
  have hi := (List.getElem?_eq_some_iff.mp hd).1
  have e : l = l.take i ++ d :: l.drop (i + 1) := by
    rw [← (List.getElem?_eq_some_iff.mp hd).2]
    rw [← List.drop_eq_getElem_cons hi, List.take_append_drop]
  rw [e, List.foldl_append, h, List.foldl_cons, hn, fold_none]
theorem fold_next {l : List D} {i : Nat} {d : D} {st s0 : Option (List D × D)} (hd : l[i]? = some d) (h : (l.take i).foldl inStep s0 = st) : (l.take (i + 1)).foldl inStep s0 = inStep st d := by
  rw [take_one hd, List.foldl_append, h]
  rfl
theorem wg2 {i j : Nat} {x y : D} {ds : List Sl} {P : List Sl → Prop} (h : P ((ds.set i (.d x)).set j (.d y))) : wgCons (wgName i) (wgCons (wgName j) wgNil) [x, y] ds P := h
def g_form_in (xs : List D) (Q : D → Prop) : Prop := ∃ z : Str, xs = [.str z] ∧ z.length ≤ 1000 ∧ (wrdsOf z).length ≤ 14 ∧ Q (formIn z)
theorem ok_form_in (T : Tx K mg) : FnOk P w K mg base CX0 7 T.f_form_in T.fd_form_in ["text"] (spD K W g_form_in) := by
  refine vfn T.F_form_in sc_form_in (fun ds Q h => ?_) ⟨_, fun cdv A outer s H E hr => (vss_cons (vs_asgStar (vs := [2, 10]) (n := 2) (i := 1) rfl (ve_split (ve_var 0) ve_str) (vgs_cons (vg_name 2 sc_form_in.nd (by decide)) (vgs_star (vg_name 10 sc_form_in.nd (by decide)) vgs_nil))) (vss_cons (vs_par 3 4 rfl sc_form_in.nd (by decide) (ve_lst (va_cons (ve_if (vt_val (ve_startswith (ve_var 2) ve_str)) ve_str ve_str) (va_star (ve_evens (ve_var 10)) va_nil))) (ve_lst (va_cons (ve_removeprefix (ve_var 2) ve_str) (va_star (ve_odds (ve_var 10)) va_nil)))) (vss_cons (vs_if (vt_w (vw_or (vt_cmp (op_neA hr.units) lift_ne (ve_callB call_len lift_len (by rfl) T.n_len bt_len (va_cons (ve_var 3) va_nil)) (ve_callB call_len lift_len (by rfl) T.n_len bt_len (va_cons (ve_var 4) va_nil)) (nomark _)) (vw_or1 (vt_not (vt_val (ve_callB (cr_all (by rfl)) lift_all (by rfl) T.n_all bt_all (va_cons (ve_lc (own := [("mark", 7)]) rfl sc_form_in.nd (vi_its (ve_var 3)) (blkOk_by (N := ["text", "found", "first", "signs", "words", "terms", "constant", "mark", "word", "part", "rest"]) (sc := defScope s_form_in) (by decide +kernel)) (fun _ _ _ _ _ => (vg_name 7 sc_form_in.nd (by decide))) (fun _ _ _ _ _ => vts_nil) (fun _ _ _ _ _ => (ve_cmp op_in_seq lift_in (ve_var 7) (ve_tup (va_cons ve_str (va_cons ve_str va_nil))) (by rfl)))) va_nil))))))) (vss_one (vs_ret ve_non)) vss_nil) (vss_cons (vs_parNil 5 6 rfl sc_form_in.nd (by decide) (ve_glob (by rfl) T.c_ZERO T.r_ZERO T.w_ZERO)) (vss_cons (vs_for (vs := [7, 8]) PassesOwn.never rfl (vi_zipK (by rfl) T.n_zip (ve_var 3) (ve_var 4)) (vg_tup (n := 2) rfl (vgs_cons (vg_name 7 sc_form_in.nd (by decide)) (vgs_cons (vg_name 8 sc_form_in.nd (by decide)) vgs_nil))) (vss_cons (vs_set 9 sc_form_in.nd (ve_call (ok_part_in T) (hr.mono (by decide)) (by rfl) T.g_part_in T.F_part_in.kp T.B_part_in .nil pass0 (fun _ _ => reps_nil) (va_cons (ve_var 8) va_nil))) (vss_cons (vs_if (vt_cmp op_isN lift_isN (ve_var 9) ve_non (nomark _)) (vss_one (vs_ret ve_non)) vss_nil) (vss_one (vs_if (vt_cmp (op_eqA hr.units) lift_eq (ve_ixA hr.units (ve_var 9) ve_int) ve_str (nomark _)) (vss_one (vs_set 6 sc_form_in.nd (ve_if (vt_cmp (op_eqA hr.units) lift_eq (ve_var 7) ve_str (nomark _)) (ve_call (ok_plus T) (hr.mono (by decide)) (by rfl) T.g_plus T.F_plus.kp T.B_plus .nil pass0 (fun _ _ => reps_nil) (va_cons (ve_var 6) (va_cons (ve_ixA hr.units (ve_var 9) ve_int) va_nil))) (ve_call (ok_minus T) (hr.mono (by decide)) (by rfl) T.g_minus T.F_minus.kp T.B_minus .nil pass0 (fun _ _ => reps_nil) (va_cons (ve_var 6) (va_cons (ve_ixA hr.units (ve_var 9) ve_int) va_nil)))))) (vss_one (vs_app 5 (ve_tup (va_cons (ve_ixA hr.units (ve_var 9) ve_int) (va_cons (ve_if (vt_cmp (op_eqA hr.units) lift_eq (ve_var 7) ve_str (nomark _)) (ve_ixA hr.units (ve_var 9) ve_int) (ve_call (ok_opposite T) (hr.mono (by decide)) (by rfl) T.g_opposite T.F_opposite.kp T.B_opposite .nil pass0 (fun _ _ => reps_nil) (va_cons (ve_ixA hr.units (ve_var 9) ve_int) va_nil))) va_nil)))))))))) (vss_fz 5 (vss_cons (vs_set 1 sc_form_in.nd (ve_callD (ok_form_of T) (hr.mono (by decide)) (by rfl) T.g_form_of T.F_form_of.kp (T.F_form_of.binds1 2 1 (List.cons_ne_nil _ _) rfl (fun _ _ _ _ _ _ _ us its hu hi => match us, its, hu, hi with | [_, _], [_], _, _ => ⟨_, rfl, rfl⟩)) pass0 (fun M H => reps_nil) (va_cons (ve_var 5) (va_cons (ve_var 6) va_nil)))) (vss_one (vs_ret (ve_if (vt_cmp (op_eqA hr.units) lift_eq (ve_call (ok_form_text T) (hr.mono (by decide)) (by rfl) T.g_form_text T.F_form_text.kp T.B_form_text .nil pass0 (fun _ _ => reps_nil) (va_cons (ve_var 1) va_nil)) (ve_var 0) (nomark _)) (ve_var 1) ve_non)))))))))), fun ds Q h => ?_⟩
  · obtain ⟨_, rfl, _⟩ := h
    rfl
  · obtain ⟨z, rfl, hz, hw, h⟩ := h
    -- text, found, first, signs, words, terms, constant, mark, word, part, rest
    have hs : z.length + 2 ≤ sizeLine := by rw [sizeLine_eq]; omega
    obtain ⟨sb1, sb2⟩ := split_bound z
    obtain ⟨f, r, es⟩ := split_ne z
    have e1 : mrksOf z = (if Txt.startswith f ("-" : Str) = true then ("-" : Str) else ("+" : Str)) :: evens r := by unfold mrksOf; rw [es]
    have e2 : wrdsOf z = Txt.removeprefix f ("-" : Str) :: evens (r.drop 1) := by unfold wrdsOf; rw [es]
    rw [es] at sb1 sb2
    have lf := sb2 f (.head _)
    have lr : r.length ≤ 1001 := by simp at sb1; omega
    have le1 := evens_len r
    have le2 := evens_len (r.drop 1)
    have ld : (r.drop 1).length ≤ r.length := by rw [List.length_drop]; omega
    have wl : ∀ w ∈ wrdsOf z, w.length ≤ 1000 := fun w hw => by
      rw [e2] at hw
      rcases List.mem_cons.mp hw with rfl | hw
      · have := rmp_bare f
        have e : (Txt.removeprefix f "-").length = (bareL (TL.tl f)).length := by rw [tl_len, this]
        have hb : (bareL (TL.tl f)).length ≤ (TL.tl f).length := by
          cases TL.tl f with
          | nil => exact Nat.le_refl _
          | cons c l =>
            show (if c = 45 then l else c :: l).length ≤ _
            split <;> simp
        rw [← tl_len] at hb
        omega
      · have := sb2 w (.tail _ (List.mem_of_mem_drop (evens_mem hw)))
        omega
    refine ⟨rfl, rfl, hs, ?_⟩
    rw [show Txt.split z " " = f :: r from es]
    have hst : ∀ P : List D → Prop, P [.str f, .lst (r.map D.str)] → starD 2 1 (.lst ((f :: r).map D.str)) P := fun P hP => by
      refine ⟨by simp, by simp; omega, ?_⟩
      have q1 : (((f :: r).map D.str).drop 1).take (((f :: r).map D.str).length + 1 - 2) = r.map D.str := by
        rw [List.map_cons, List.drop_succ_cons, List.drop_zero]
        exact List.take_of_length_le (by simp)
      have q2 : (((f :: r).map D.str).drop 1).drop (((f :: r).map D.str).length + 1 - 2) = [] := by
        rw [List.map_cons, List.drop_succ_cons, List.drop_zero]
        exact List.drop_eq_nil_of_le (by simp)
      rw [q1, q2]
      exact hP
    refine hst _ (wg2 ?_)
    clear hst
    with_reducible show wSeq _ _ _ _
    show wSeq _ _ _ [.d (.str z), .un, .d (.str f), .un, .un, .un, .un, .un, .un, .un, .d (.lst (r.map D.str))]
    generalize hm : mrksOf z = ms at e1
    generalize hws : wrdsOf z = ws at e2 wl hw
    unfold formIn itemsOf at h
    rw [hm, hws] at h
    refine meet1 [.d (.str z), .un, .d (.str f), .d (.lst (ms.map D.str)), .d (.lst (ws.map D.str)), .un, .un, .un, .un, .un, .d (.lst (r.map D.str))] (fun rest => ?_) ?_
    · have e1' : ms.map D.str = .str (if Txt.startswith f ("-" : Str) = true then ("-" : Str) else ("+" : Str)) :: evens (r.map D.str) := by rw [e1, List.map_cons, evens_map]
      have e2' : ws.map D.str = .str (Txt.removeprefix f ("-" : Str)) :: evens ((r.map D.str).drop 1) := by rw [e2, List.map_cons, ← List.map_drop, evens_map]
      rw [e1', e2'] at rest
      refine ⟨rfl, ?_⟩
      have el1 : (evens (r.map D.str)).length + 1 ≤ 1000000 := by rw [evens_map, List.length_map]; omega
      have el2 : (evens ((r.map D.str).drop 1)).length + 1 ≤ 1000000 := by rw [← List.map_drop, evens_map, List.length_map]; omega
      have lf2 : f.length ≤ sizeLine := by rw [sizeLine_eq]; omega
      refine vif (fun y => ?_) (fun y => ?_)
      · rw [if_pos y] at rest
        refine ⟨by simpa using el1, rfl, lf2, by simpa using el2, ?_⟩
        simpa using rest
      · rw [if_neg (by rw [y]; simp)] at rest
        refine ⟨by simpa using el1, rfl, lf2, by simpa using el2, ?_⟩
        simpa using rest
    · clear e1 e2 sb1 sb2
      refine vifn (fun y => ?_) (fun y => ?_)
      · rw [if_neg (fun q => y (by simp at *; omega))] at h
        exact h
      · have el : ms.length = ws.length := by
          have y : ((ms.map D.str).length : Int) = (ws.map D.str).length := y
          simp at y
          omega
        refine ⟨rfl, ?_⟩
        refine lcF (fun d => match d with
          | .str m => .bl (markQ m)
          | _ => .non) (fun d hd R hR => ?_) ?_
        · obtain ⟨m, hm, rfl⟩ := List.mem_map.mp hd
          refine ⟨Nat.le_of_ble_eq_true rfl, rfl, rfl, ?_⟩
          show R (.bl (inV (.str m) [.str ("+" : Str), .str ("-" : Str)]))
          rw [mark_in m]
          exact hR
        refine ⟨ms.map markQ, by rw [List.map_map, List.map_map]; rfl, ?_⟩
        have eb : (ms.map markQ).all id = ms.all markQ := by rw [List.all_map]; rfl
        rw [eb]
        cases hb : ms.all markQ with
        | false =>
          rw [if_neg (fun q => by rw [hb] at q; cases q.2)] at h
          exact h
        | true =>
          rw [if_pos ⟨el, hb⟩] at h
          refine ⟨Nat.le_of_ble_eq_true rfl, ?_⟩
          have lm : (ms.map D.str).length ≤ 1000000 := by rw [List.length_map]; omega
          refine ⟨lm, ?_⟩
          generalize hit : zipsD (ms.map D.str) (ws.map D.str) = items at h
          have ilen : items.length ≤ 14 := by
            rw [← hit, zips_len, List.length_map, List.length_map]
            omega
          have iok : ∀ d ∈ items, ∃ m w, d = .tup [.str m, .str w] ∧ w.length ≤ 1000 := fun d hd => by
            rw [← hit] at hd
            obtain ⟨x, hx, y, hy, rfl⟩ := zips_mem hd
            obtain ⟨m, _, rfl⟩ := List.mem_map.mp hx
            obtain ⟨w, hw2, rfl⟩ := List.mem_map.mp hy
            exact ⟨m, w, rfl, wl w hw2⟩
          clear hit lm eb hb el y wl hw hm hws
          refine ⟨fun i sl => ∃ ts c a7 a8 a9, (items.take i).foldl inStep (some ([], zeroD)) = some (ts, c) ∧ ts.length ≤ i ∧ (∀ t ∈ ts, ∃ s f, t = .tup [.str s, f] ∧ AmtD 100 f ∧ nmS s = true) ∧ AmtD (1 + 101 * i) c ∧ sl = [.d (.str z), .un, .d (.str f), .d (.lst (ms.map D.str)), .d (.lst (ws.map D.str)), .ml ts, .d c, a7, a8, a9, .d (.lst (r.map D.str))], ⟨[], zeroD, _, _, _, rfl, Nat.le_refl _, fun t ht => by (cases ht), zero_amt, rfl⟩, ?_, ?_⟩
          · rintro i d sl hd ⟨ts, c, a7, a8, a9, hf, htl, hts, hc, rfl⟩
            obtain ⟨m, w, rfl, hwl⟩ := iok d (List.mem_of_getElem? hd)
            have hi := (List.getElem?_eq_some_iff.mp hd).1
            refine ⟨rfl, w, rfl, hwl, ?_⟩
            rcases partIn_ok w with e | ⟨s, a, b, e, hs2, ha⟩
            · rw [e]
              have : items.foldl inStep (some ([], zeroD)) = none := fold_stop hd hf (by show (match partIn w with | .tup [.str s, f] => _ | _ => none) = none; rw [e])
              rw [this] at h
              exact h
            · rw [e]
              have hn := fold_next hd hf
              have es2 : inStep (some (ts, c)) (.tup [.str m, .str w]) = if s = ("" : Str) then some (ts, if m = ("+" : Str) then plusD c (.tup [.int a, .int b]) else minusD c (.tup [.int a, .int b])) else some (ts ++ [D.tup [.str s, if m = ("+" : Str) then (.tup [.int a, .int b]) else negA (.tup [.int a, .int b])]], c) := by
                show (match partIn w with | .tup [.str s, f] => _ | _ => none) = _
                rw [e]
              rw [es2] at hn
              refine ⟨_, rfl, vifd (fun y => ?_) (fun y => ?_)⟩
              · rw [if_pos y] at hn
                refine vifd (fun x => ?_) (fun x => ?_)
                · rw [if_pos x] at hn
                  refine ⟨_, rfl, 1 + 101 * i, 100, _, _, rfl, hc, ha, by omega, ?_⟩
                  exact ⟨ts, _, _, _, _, hn, by omega, hts, (plus_amt hc ha).mono (by omega), rfl⟩
                · rw [if_neg x] at hn
                  refine ⟨_, rfl, 1 + 101 * i, 100, _, _, rfl, hc, ha, by omega, ?_⟩
                  exact ⟨ts, _, _, _, _, hn, by omega, hts, (minus_amt hc ha).mono (by omega), rfl⟩
              · rw [if_neg y] at hn
                have hnm : nmS s = true := hs2.resolve_left y
                refine ⟨_, rfl, ?_⟩
                have addt : ∀ g, AmtD 100 g → ∀ t ∈ ts ++ [D.tup [.str s, g]], ∃ s f, t = .tup [.str s, f] ∧ AmtD 100 f ∧ nmS s = true := fun g hg t ht => by
                  rcases List.mem_append.mp ht with ht | ht
                  · exact hts t ht
                  · rw [List.mem_singleton.mp ht]
                    exact ⟨s, g, rfl, hg, hnm⟩
                refine vifd (fun x => ?_) (fun x => ?_)
                · rw [if_pos x] at hn
                  refine ⟨_, rfl, Nat.le_of_ble_eq_true rfl, by omega, ?_⟩
                  exact ⟨_, c, _, _, _, hn, by rw [List.length_append]; simp; omega, addt _ ha, hc.mono (by omega), rfl⟩
                · rw [if_neg x, show negA (.tup [.int a, .int b]) = .tup [.int (-a), .int b] by show D.tup [.int (0 - a), .int b] = _; rw [Int.zero_sub]] at hn
                  have na : AmtD 100 (.tup [.int (-a), .int b]) := by
                    have := neg_amt ha
                    rw [show negA (.tup [.int a, .int b]) = .tup [.int (-a), .int b] by show D.tup [.int (0 - a), .int b] = _; rw [Int.zero_sub]] at this
                    exact this
                  refine ⟨_, rfl, _, _, rfl, Nat.le_of_ble_eq_true rfl, by omega, ?_⟩
                  exact ⟨_, c, _, _, _, hn, by rw [List.length_append]; simp; omega, addt _ na, hc.mono (by omega), rfl⟩
          · rintro sl ⟨ts, c, a7, a8, a9, hf, htl, hts, hc, rfl⟩
            rw [List.take_length] at hf
            rw [hf] at h
            have hcN : AmtD 1500 c := hc.mono (by omega)
            have FO := form_ok (M := 14) (N := 1500) (S := fun s => nmS s = true) hts (by omega) (fun k => Nat.le_trans (ncnt_le k ts) (by omega)) (by omega) hcN
            refine ⟨100, 14, _, ts, c, rfl, .inl rfl, fun t ht => ?_, by omega, fun k => Nat.le_trans (ncnt_le k ts) (by omega), by omega, ?_⟩
            · obtain ⟨s, f, e, hf, _⟩ := hts t ht
              exact ⟨s, f, e, hf⟩
            have fl : (formTs (totals ts)).length ≤ 200 := by
              have := tot_few (i := ts.length) (n := 100) (ps := ts) (fun t ht => by obtain ⟨s, f, e, hf, _⟩ := hts t ht; exact ⟨s, f, e, hf⟩)
              rw [List.take_length] at this
              have := formTs_len (totals ts)
              omega
            refine ⟨1500, _, c, rfl, fun t ht => ?_, hcN, by decide, fl, ?_⟩
            · obtain ⟨s, f, e, h1, h2, _⟩ := FO.pr t ht
              exact ⟨s, f, e, h2, h1⟩
            have h : Q (if formS (partsD (formTs (totals ts)) c) = z then formD ts c else .non) := h
            refine vifd (fun y => ?_) (fun y => ?_)
            · rw [if_pos y] at h
              exact h
            · rw [if_neg y] at h
              exact h
theorem ok_read_form (T : Tx K mg) : FnOk P w K mg base CX0 8 T.f_read_form T.fd_read_form ["text"] (spD K W (fun xs Q => ∃ z : Str, xs = [.str z] ∧ z.length ≤ 1000 ∧ (wrdsOf z).length ≤ 14 ∧ (∃ ts c, formIn z = .tup [ts, c]) ∧ Q (formIn z))) := by
  refine vfn T.F_read_form sc_read_form (fun ds Q h => ?_) ⟨_, fun cdv A outer s H E hr => (vss_cons (vs_set 1 sc_read_form.nd (ve_call (ok_form_in T) (hr.mono (by decide)) (by rfl) T.g_form_in T.F_form_in.kp T.B_form_in .nil pass0 (fun _ _ => reps_nil) (va_cons (ve_var 0) va_nil))) (vss_cons (vs_if (vt_cmp op_isN lift_isN (ve_var 1) ve_non (nomark _)) (vss_one vs_never) vss_nil) (vss_one (vs_ret (ve_var 1))))), fun ds Q h => ?_⟩
  · obtain ⟨_, rfl, _⟩ := h
    rfl
  · obtain ⟨z, rfl, hz, hw, ⟨ts, c, e⟩, h⟩ := h
    refine ⟨z, rfl, hz, hw, ?_⟩
    rw [e] at h ⊢
    exact h
--CUT--
/-- drawn pairs, added up to a form -/
def g_form_of (xs : List D) (Q : D → Prop) : Prop := ∃ n M ps c, xs = [.lst ps, c] ∧ (∀ p ∈ ps, PairD n p) ∧ ps.length < 64 ∧ (∀ k, ncnt k ps ≤ M) ∧ M * (n + 1) + n + 1 ≤ 9000 ∧ Q (formD ps c)
theorem ok_l_form_of (T : Tx K mg) : FnOk P w K mg base CX0 4 T.f_l_form_of T.fd_l_form_of ["_law_pairs", "_law_rest_z"] (spD K W g_form_of) := by
  refine vfn T.F_l_form_of sc_l_form_of (fun ds Q h => ?_) ⟨_, fun cdv A outer s H E hr => (vss_cons (vs_setDic 2 sc_l_form_of.nd) (vss_cons (vs_for (vs := [3, 4]) PassesOwn.never rfl (vi_its (ve_var 0)) (vg_tup (n := 2) rfl (vgs_cons (vg_name 3 sc_l_form_of.nd (by decide)) (vgs_cons (vg_name 4 sc_l_form_of.nd (by decide)) vgs_nil))) (vss_one (vs_dput 2 hr.units (ve_var 3) (ve_call (ok_l_plus T) (hr.mono (by decide)) (by rfl) T.g_l_plus T.F_l_plus.kp T.B_l_plus .nil pass0 (fun _ _ => reps_nil) (va_cons (ve_dget2 2 hr.units (ve_var 3) (ve_tup (va_cons ve_int (va_cons ve_int va_nil)))) (va_cons (ve_var 4) va_nil)))))) (vss_fz 2 (vss_one (vs_ret (ve_tup (va_cons (ve_callTy call_tuple_of lift_tuple (by rfl) T.n_tuple bt_tuple (va_cons (ve_lc (own := [("_law_name", 3)]) rfl sc_l_form_of.nd (vi_its (ve_callB (cr_sortedA (by rfl)) lift_sorted (by rfl) T.n_sorted bt_sorted (va_cons (ve_callTy (cr_listA (by rfl)) lift_listA (by rfl) T.n_list bt_list (va_cons (ve_var 2) va_nil)) va_nil))) (blkOk_by (N := ["_law_pairs", "_law_rest_z", "_law_totals", "_law_name", "_law_fac"]) (sc := defScope s_l_form_of) (by decide +kernel)) (fun _ _ _ _ _ => (vg_name 3 sc_l_form_of.nd (by decide))) (fun _ _ _ _ _ => (vts_one (vt_cmp (op_neA hr.units) lift_ne (ve_dget 2 hr.units (ve_var 3)) (ve_tup (va_cons ve_int (va_cons ve_int va_nil))) (nomark _)))) (fun _ _ _ _ _ => (ve_tup (va_cons (ve_var 3) (va_cons (ve_dget 2 hr.units (ve_var 3)) va_nil))))) va_nil)) (va_cons (ve_var 1) va_nil)))))))), fun ds Q h => ?_⟩
  · obtain ⟨_, _, _, _, rfl, _⟩ := h
    rfl
  · obtain ⟨n, M, ps, c, rfl, hp, hl, hM, hb, h⟩ := h
    refine ⟨Nat.le_of_ble_eq_true rfl, ?_⟩
    refine ⟨fun i sl => ∃ o3 o4, sl = [.d (.lst ps), .d c, .md (totals (ps.take i)).1 (totals (ps.take i)).2, o3, o4] ∧ (o3 = .un ∨ ∃ x, o3 = .d x), ⟨_, _, rfl, .inl rfl⟩, ?_, ?_⟩
    · rintro i d sl hd ⟨o3, o4, rfl, _⟩
      obtain ⟨s, f, rfl, hf⟩ := hp d (List.mem_of_getElem? hd)
      have hlen := tot_few (i := i) hp
      refine ⟨rfl, Nat.le_of_ble_eq_true rfl, M * (n + 1) + 1, n, _, _, rfl, tot_get hp hM (Nat.le_refl _) s, hf, by omega, by omega, ?_⟩
      exact ⟨.d (.str s), .d f, by rw [tot_take hd]; rfl, .inr ⟨_, rfl⟩⟩
    · rintro sl ⟨o3, o4, rfl, ho3⟩
      rw [List.take_length]
      have hlen := tot_few (i := ps.length) hp
      rw [List.take_length] at hlen
      have hv : ∀ (s : Str) (v : D), lkp (totals ps).1 (totals ps).2 s = some v → AmtD (M * (n + 1) + 1) v := fun s v hv => by
        refine tot_amt (i := ps.length) hp hM (Nat.le_refl _) (s := s) ?_
        rw [List.take_length]
        exact hv
      have ht := tot_at hp ps.length
      rw [List.take_length] at ht
      refine ⟨by rcases ho3 with rfl | ⟨x, rfl⟩ <;> rfl, _, rfl, by omega, ?_⟩
      refine lcM (keepD (totals ps)) (fun d hd Y N hY hN => ?_) ?_
      · obtain ⟨s, hs, rfl⟩ := List.mem_map.mp hd
        obtain ⟨v, h1, _⟩ := lkp_mem ht.len (mem_srt.mp hs)
        obtain ⟨a, b, rfl, A⟩ := hv s v h1
        refine ⟨_, h1, Nat.le_of_ble_eq_true rfl, rfl, rfl, ?_⟩
        rw [eqv_amt]
        have hk := keepT_some h1
        cases e : (decide (a = 0) && decide (b = 1)) with
        | true => exact hN (by rw [e] at hk; exact hk)
        | false => exact ⟨_, h1, Nat.le_of_ble_eq_true rfl, hY _ (by rw [e] at hk; exact hk)⟩
      rw [keep_map]
      exact ⟨Nat.le_of_ble_eq_true rfl, h⟩
theorem part_pos {n : Nat} {s : Str} {f : D} (hf : AmtD n f) : TL.tl (partS s (barD f)) ≠ [] := fun e => by
  obtain ⟨a, b, rfl, A⟩ := hf
  rw [fac_bar] at e
  obtain ⟨c, r, ec, _⟩ := amt_head (a := (a.natAbs : Int)) (b := b) (by omega)
  unfold partS at e
  split at e
  · rw [ec] at e; cases e
  · rename_i hs
    split at e
    · exact hs (TL.ext_tl (by rw [e]; rfl))
    · rw [TL.tl_append, TL.tl_append, ec] at e
      cases e
theorem form_nil {n : Nat} {ps : List D} (h : PartsD n ps) {i : Nat} (hi : i ≤ ps.length) : formS (ps.take i) = ("" : Str) ↔ i = 0 := by
  refine ⟨fun e => ?_, fun e => by rw [e]; rfl⟩
  cases i with
  | zero => rfl
  | succ i =>
    exfalso
    obtain ⟨p, hp⟩ := get_lt (xs := ps) (i := i) (by omega)
    rw [formS_take hp] at e
    obtain ⟨s, f, rfl, _, hf⟩ := h p (List.mem_of_getElem? hp)
    have e : TL.tl (formS (ps.take i) ++ markF (decide (i = 0)) f ++ partS s (barD f)) = [] := congrArg TL.tl e
    rw [TL.tl_append] at e
    exact part_pos (s := s) hf (List.append_eq_nil_iff.mp e).2
def g_l_form_text (xs : List D) (Q : D → Prop) : Prop := ∃ n ts c, xs = [.tup [.tup ts, c]] ∧ (∀ t ∈ ts, ∃ s f, t = .tup [.str s, f] ∧ nmS s = true ∧ AmtD n f) ∧ AmtD n c ∧ n ≤ 1500 ∧ ts.length ≤ 200 ∧ Q (.str (formS (partsD ts c)))
theorem ok_l_form_text (T : Tx K mg) : FnOk P w K mg base CX0 4 T.f_l_form_text T.fd_l_form_text ["_law_form"] (spD K W g_l_form_text) := by
  refine vfn T.F_l_form_text sc_l_form_text (fun ds Q h => ?_) ⟨_, fun cdv A outer s H E hr => (vss_cons (vs_setLcO 1 (own := [("_law_name", 3), ("_law_fac", 4)]) rfl sc_l_form_text.nd rfl rfl (sw_true rfl rfl rfl (by decide +kernel)) (vi_its (ve_ixA hr.units (ve_var 0) ve_int)) (blkOk_by (N := ["_law_form", "_law_parts", "_law_text", "_law_name", "_law_fac", "_law_below", "_law_bare", "_law_told", "_law_mark"]) (sc := defScope s_l_form_text) (by decide +kernel)) (fun _ _ _ _ _ => (vg_tup (n := 2) rfl (vgs_cons (vg_name 3 sc_l_form_text.nd (by decide)) (vgs_cons (vg_name 4 sc_l_form_text.nd (by decide)) vgs_nil)))) (fun _ _ _ _ _ => vts_nil) (fun _ _ _ _ _ => (ve_tup (va_cons (ve_var 3) (va_cons (ve_var 4) va_nil))))) (vss_cons (vs_if (vt_fz 1 (vt_w (vw_or (vt_cmp (op_eqA hr.units) lift_eq (ve_var 1) (ve_lst va_nil) (nomark _)) (vw_or1 (vt_cmp (op_neA hr.units) lift_ne (ve_ixA hr.units (ve_var 0) ve_int) (ve_tup (va_cons ve_int (va_cons ve_int va_nil))) (nomark _)))))) (vss_one (vs_app 1 (ve_tup (va_cons ve_str (va_cons (ve_ixA hr.units (ve_var 0) ve_int) va_nil))))) vss_nil) (vss_cons (vs_set 2 sc_l_form_text.nd ve_str) (vss_fz 1 (vss_cons (vs_for (vs := [3, 4]) PassesOwn.never rfl (vi_its (ve_var 1)) (vg_tup (n := 2) rfl (vgs_cons (vg_name 3 sc_l_form_text.nd (by decide)) (vgs_cons (vg_name 4 sc_l_form_text.nd (by decide)) vgs_nil))) (vss_cons (vs_set 5 sc_l_form_text.nd (ve_cmp op_ltA lift_lt (ve_ixA hr.units (ve_var 4) ve_int) ve_int (nomark _))) (vss_cons (vs_set 6 sc_l_form_text.nd (ve_tup (va_cons (ve_callB call_abs lift_abs (by rfl) T.n_abs bt_abs (va_cons (ve_ixA hr.units (ve_var 4) ve_int) va_nil)) (va_cons (ve_ixA hr.units (ve_var 4) ve_int) va_nil)))) (vss_cons (vs_set 7 sc_l_form_text.nd (ve_if (vt_cmp (op_eqA hr.units) lift_eq (ve_var 3) ve_str (nomark _)) (ve_call (ok_l_amount_text T) (hr.mono (by decide)) (by rfl) T.g_l_amount_text T.F_l_amount_text.kp T.B_l_amount_text .nil pass0 (fun _ _ => reps_nil) (va_cons (ve_var 6) va_nil)) (ve_if (vt_cmp (op_eqA hr.units) lift_eq (ve_var 6) (ve_tup (va_cons ve_int (va_cons ve_int va_nil))) (nomark _)) (ve_var 3) (ve_addA (ve_addA (ve_call (ok_l_amount_text T) (hr.mono (by decide)) (by rfl) T.g_l_amount_text T.F_l_amount_text.kp T.B_l_amount_text .nil pass0 (fun _ _ => reps_nil) (va_cons (ve_var 6) va_nil)) ve_str) (ve_var 3))))) (vss_cons (vs_set 8 sc_l_form_text.nd (ve_if (vt_cmp (op_eqA hr.units) lift_eq (ve_var 2) ve_str (nomark _)) (ve_if (vt_val (ve_var 5)) ve_str ve_str) (ve_if (vt_val (ve_var 5)) ve_str ve_str))) (vss_one (vs_set 2 sc_l_form_text.nd (ve_addA (ve_addA (ve_var 2) (ve_var 8)) (ve_var 7))))))))) (vss_one (vs_ret (ve_var 2)))))))), fun ds Q h => ?_⟩
  · obtain ⟨_, _, _, rfl, _⟩ := h
    rfl
  · obtain ⟨n, ts, c, rfl, ht, hc, hn, hl, h⟩ := h
    -- _law_form, _law_parts, _law_text, _law_name, _law_fac, _law_below, _law_bare, _law_told, _law_mark
    have PD := parts_D (fun t h => let ⟨s, f, e, hs, hf⟩ := ht t h; ⟨s, f, e, nm_100 hs, hf⟩) hc
    have PL := parts_len ts c
    have hc0 := hc
    obtain ⟨ca, cb, rfl, CA⟩ := hc
    have ez : eqv (.tup [.int ca, .int cb]) (.tup [.int 0, .int 1]) = isZ (.tup [.int ca, .int cb]) := eqv_amt _ _ _ _
    refine ⟨Nat.le_of_ble_eq_true rfl, rfl, _, rfl, ?_⟩
    refine lcF (fun d => d) (fun d hd R hR => ?_) ?_
    · obtain ⟨s, f, rfl, _⟩ := ht d hd
      exact ⟨rfl, Nat.le_of_ble_eq_true rfl, hR⟩
    rw [List.map_id' ts]
    with_reducible refine meet1 [.d (.tup [.tup ts, .tup [.int ca, .int cb]]), .ml (partsD ts (.tup [.int ca, .int cb])), .un, .un, .un, .un, .un, .un, .un] (fun rest => ?_) ?_
    · have sl : shp (.lst ts) = true := shp_lst fun t h => by
        obtain ⟨s, f, rfl, hs, hf⟩ := ht t h
        exact pair_lay (n := n) ⟨s, f, rfl, hf, hs⟩
      refine ⟨Nat.le_of_ble_eq_true rfl, sl, rfl, ?_⟩
      rw [show eqv _ _ = _ from eqv_nil ts]
      cases ts with
      | nil =>
        have e : constP [] (.tup [.int ca, .int cb]) = [.tup [.str ("" : Str), .tup [.int ca, .int cb]]] := by unfold constP; rw [if_neg (by simp)]
        unfold partsD at rest
        rw [e] at rest
        exact ⟨_, rfl, Nat.le_of_ble_eq_true rfl, Nat.le_of_ble_eq_true rfl, rest⟩
      | cons t ts =>
        refine ⟨_, rfl, Nat.le_of_ble_eq_true rfl, rfl, rfl, ?_⟩
        rw [show eqv _ _ = _ from ez]
        cases hz : isZ (.tup [.int ca, .int cb]) with
        | false =>
          have e : constP (t :: ts) (.tup [.int ca, .int cb]) = [.tup [.str ("" : Str), .tup [.int ca, .int cb]]] := by unfold constP; rw [if_neg (by rw [hz]; simp)]
          unfold partsD at rest
          rw [e] at rest
          exact ⟨_, rfl, Nat.le_of_ble_eq_true rfl, by omega, rest⟩
        | true =>
          have e : constP (t :: ts) (.tup [.int ca, .int cb]) = [] := by unfold constP; rw [if_pos ⟨hz, by simp⟩]
          unfold partsD at rest
          rw [e, List.append_nil] at rest
          exact rest
    · generalize partsD ts (.tup [.int ca, .int cb]) = ps at PD PL h ⊢
      have FL := formS_len PD hn
      refine ⟨fun i sl => ∃ a3 a4 a5 a6 a7 a8 : Sl, sl = [.d (.tup [.tup ts, .tup [.int ca, .int cb]]), .d (.lst ps), .d (.str (formS (ps.take i))), a3, a4, a5, a6, a7, a8], ⟨_, _, _, _, _, _, rfl⟩, ?_, ?_⟩
      · rintro i d sl hp ⟨a3, a4, a5, a6, a7, a8, rfl⟩
        have hi := (List.getElem?_eq_some_iff.mp hp).1
        obtain ⟨s', f, rfl, hs', hf⟩ := PD d (List.mem_of_getElem? hp)
        have L1 := FL i (by omega)
        have et := formS_take hp
        obtain ⟨fa, fb, rfl, FA⟩ := hf
        have bar : AmtD n (.tup [.int (if fa < 0 then -fa else fa), .int fb]) := ⟨_, _, rfl, FA.pos, by split <;> simp [FA.cop], by split <;> simp [FA.ha], FA.hb⟩
        have PB1 := part_len hs' bar hn
        have ee : formS (ps.take i) = ("" : Str) ↔ i = 0 := form_nil PD (by omega)
        have et : formS (ps.take (i + 1)) = formS (ps.take i) ++ markF (decide (i = 0)) (.tup [.int fa, .int fb]) ++ partS s' (.tup [.int (if fa < 0 then -fa else fa), .int fb]) := et
        have ml := mark_len (decide (i = 0)) (.tup [.int fa, .int fb])
        refine ⟨rfl, _, rfl, ?_⟩
        refine ⟨_, rfl, _, rfl, Nat.le_of_ble_eq_true rfl, ?_⟩
        have em : markF (decide (i = 0)) (.tup [.int fa, .int fb]) = if decide (fa < 0) = true then (if decide (i = 0) = true then ("-" : Str) else (" - " : Str)) else (if decide (i = 0) = true then ("" : Str) else (" + " : Str)) := rfl
        generalize markF (decide (i = 0)) (.tup [.int fa, .int fb]) = mk at et ml em
        generalize hcur : formS (ps.take i) = cur at et ee L1
        generalize hpt : partS s' (.tup [.int (if fa < 0 then -fa else fa), .int fb]) = pt at et PB1
        with_reducible refine meet1 [.d (.tup [.tup ts, .tup [.int ca, .int cb]]), .d (.lst ps), .d (.str cur), .d (.str s'), .d (.tup [.int fa, .int fb]), .d (.bl (decide (fa < 0))), .d (.tup [.int (if fa < 0 then -fa else fa), .int fb]), .d (.str pt), a8] (fun rest => ?_) ?_
        · unfold partS at hpt
          refine vifd (fun z => ?_) (fun z => ?_)
          · rw [if_pos z] at hpt
            rw [← hpt] at rest
            exact ⟨n, _, rfl, bar, by omega, rest⟩
          · rw [if_neg z] at hpt
            refine ⟨Nat.le_of_ble_eq_true rfl, rfl, rfl, ?_⟩
            refine vif (fun e => ?_) (fun e => ?_)
            · rw [if_pos (show eqv _ oneD = true from e)] at hpt
              rw [← hpt] at rest
              exact rest
            · have e : eqv (.tup [.int (if fa < 0 then -fa else fa), .int fb]) oneD = false := e
              rw [if_neg (show ¬ eqv (.tup [.int (if fa < 0 then -fa else fa), .int fb]) oneD = true by rw [e]; simp)] at hpt
              rw [← hpt] at rest
              have tl := text_lenW bar hn
              have l1 : ("*" : Str).length = 1 := rfl
              exact ⟨n, _, rfl, bar, by omega, by rw [sizeLine_eq]; omega, by rw [Str.length_append, sizeLine_eq]; omega, rest⟩
        · with_reducible refine meet1 [.d (.tup [.tup ts, .tup [.int ca, .int cb]]), .d (.lst ps), .d (.str cur), .d (.str s'), .d (.tup [.int fa, .int fb]), .d (.bl (decide (fa < 0))), .d (.tup [.int (if fa < 0 then -fa else fa), .int fb]), .d (.str pt), .d (.str mk)] (fun rest => ?_) ?_
          · refine vifd (fun z => ?_) (fun z => ?_)
            · rw [decide_eq_true (ee.mp z), if_pos rfl, if_pos rfl] at em
              refine vifd (fun y => ?_) (fun y => ?_)
              · rw [if_pos (decide_eq_true y)] at em
                rw [em] at rest
                exact rest
              · rw [if_neg (show ¬ decide (fa < 0) = true by simpa using y)] at em
                rw [em] at rest
                exact rest
            · rw [decide_eq_false (fun y => z (ee.mpr y)), if_neg (show ¬ (false = true) by simp), if_neg (show ¬ (false = true) by simp)] at em
              refine vifd (fun y => ?_) (fun y => ?_)
              · rw [if_pos (decide_eq_true y)] at em
                rw [em] at rest
                exact rest
              · rw [if_neg (show ¬ decide (fa < 0) = true by simpa using y)] at em
                rw [em] at rest
                exact rest
          · refine ⟨by rw [sizeLine_eq]; omega, by rw [Str.length_append, sizeLine_eq]; omega, ?_⟩
            exact ⟨_, _, _, _, _, _, by rw [et]; rfl⟩
      · rintro sl ⟨a3, a4, a5, a6, a7, a8, rfl⟩
        rw [List.take_length]
        exact h
--CUT--
def lateF : D → Option D
  | .tup [.str s, .tup [.int a, .int b]] => if a.natAbs < 10 ^ 30 ∧ b.natAbs < 10 ^ 30 then some (.tup [.str s, .tup [.int a, .int b]]) else none
  | _ => none
theorem late_key {n : Nat} : ∀ l : List D, (∀ t ∈ l, ∃ s a b, t = D.tup [.str s, .tup [.int a, .int b]]) → ((l.filterMap lateF).filterMap keyOf).Sublist (l.filterMap keyOf)
  | [], _ => .slnil
  | t :: l, h => by
    obtain ⟨s, a, b, rfl⟩ := h t (.head _)
    have ih := late_key (n := n) l fun t ht => h t (.tail _ ht)
    have el : lateF (.tup [.str s, .tup [.int a, .int b]]) = if a.natAbs < 10 ^ 30 ∧ b.natAbs < 10 ^ 30 then some (D.tup [.str s, .tup [.int a, .int b]]) else none := rfl
    rw [List.filterMap_cons, el]
    by_cases q : a.natAbs < 10 ^ 30 ∧ b.natAbs < 10 ^ 30
    · rw [if_pos q]
      exact ih.cons_cons s
    · rw [if_neg q]
      exact ih.cons s
theorem late_ok {N : Nat} {d c : D} {ts : List D} (h : FormOk N (fun s => nmS s = true) d ts c) (nd : (ts.filterMap keyOf).Nodup) (so : (ts.filterMap keyOf).Pairwise fun a b => leS a b = true) (hc : ∃ a b : Int, c = .tup [.int a, .int b] ∧ 0 < b ∧ Int.gcd a b = 1 ∧ a.natAbs < 10 ^ 30 ∧ b.natAbs < 10 ^ 30) : FormN (ts.filterMap lateF) c := by
  have sub := late_key (n := 0) ts fun t ht => by
    obtain ⟨s, f, rfl, ⟨a, b, rfl, _⟩, _⟩ := h.pr t ht
    exact ⟨s, a, b, rfl⟩
  refine ⟨fun t ht => ?_, nd.sublist sub, so.sublist sub, hc⟩
  obtain ⟨t0, h0, e⟩ := List.mem_filterMap.mp ht
  obtain ⟨s, f, rfl, ⟨a, b, rfl, A⟩, hs, hz⟩ := h.pr t0 h0
  have e : (if a.natAbs < 10 ^ 30 ∧ b.natAbs < 10 ^ 30 then some (D.tup [.str s, .tup [.int a, .int b]]) else none) = some t := e
  split at e
  · rename_i q
    cases e
    refine ⟨s, a, b, rfl, hs, A.pos, A.cop, q.1, q.2, fun z => ?_⟩
    subst z
    have hb : b = 1 := by
      have := A.cop
      have hp := A.pos
      rw [Int.gcd_zero_left] at this
      omega
    subst hb
    exact absurd hz (by decide)
  · cases e
theorem part30 {s : Str} {f : D} (hs : s.length ≤ 100) {a b : Int} (e : f = .tup [.int a, .int b]) (ha : a.natAbs < 10 ^ 30) (hb : b.natAbs < 10 ^ 30) : (partS s f).length ≤ 64 + s.length := by
  subst e
  have l1 := (text_num ha).2.2
  have l2 := (text_num hb).2.2
  have lt : (textD (.tup [.int a, .int b])).length ≤ 63 := by
    rw [tl_len, tl_amt]
    split
    · omega
    · rw [List.length_append, List.length_cons]; omega
  unfold partS
  split
  · omega
  · split
    · omega
    · rw [Str.length_append, Str.length_append]
      have : ("*" : Str).length = 1 := rfl
      omega
theorem form_short {ts : List D} {c : D} (h : FormN ts c) (hl : ts.length ≤ 5) : (formS (partsD ts c)).length ≤ 1000 := by
  have hn : ∀ s, nmS s = true → s.length ≤ 8 := fun s h => by
    by_cases c : (1 : Int) ≤ s.length ∧ (s.length : Int) ≤ 8
    · omega
    · rw [nmS_len c] at h
      cases h
  have key : ∀ i, i ≤ (partsD ts c).length → (formS ((partsD ts c).take i)).length ≤ 75 * i := fun i => by
    induction i with
    | zero => intro _; exact Nat.le_refl _
    | succ i ih =>
      intro hi
      obtain ⟨p, hp⟩ := get_lt (xs := partsD ts c) (i := i) (by omega)
      obtain ⟨s, a, b, rfl, hs, h1, h2, h3, h4⟩ := (h.parts p (List.mem_of_getElem? hp)).ex
      have sl : s.length ≤ 8 := by
        rcases hs with rfl | hs
        · decide
        · exact hn s hs
      rw [formS_take hp]
      have l1 := part30 (s := s) (f := barD (.tup [.int a, .int b])) (by omega) fac_bar (by rw [Int.natAbs_natCast]; exact h3) h4
      have l2 := mark_len (decide (i = 0)) (.tup [.int a, .int b])
      have := ih (by omega)
      show (_ ++ _ ++ _ : Str).length ≤ _
      rw [Str.length_append, Str.length_append]
      omega
  have := key _ (Nat.le_refl _)
  rw [List.take_length] at this
  have := parts_len ts c
  omega
theorem form_words {ts : List D} {c : D} (h : FormN ts c) (hl : ts.length ≤ 5) : (wrdsOf (formS (partsD ts c))).length ≤ 14 := by
  rw [(marks_form h.parts (parts_ne ts c)).2, List.length_map]
  have := parts_len ts c
  omega
theorem ok_law (T : Tx K mg) : FnOk P w K mg base CX0 9 T.f_law T.fd_law ["_law_script"] (spLaw K) := by
  refine T.F_law.ok sc_law (fun vs H Q E h => ?_) (fun cdv A outer s H vs Q E hr h => ⟨_, (pss_cons (ps_set (i := 1) sc_law.nd rfl (by first | exact Or.inl rfl | exact Or.inr rfl) (pe_call (ok_l_source T) (hr.mono (by decide)) (by rfl) T.g_l_source T.F_l_source.kp T.B_l_source .nil pass0 (pa_cons (pv 0) pa_nil))) (pss_ex2 fun r c => (vss_cons (vs_for (vs := [2]) PassesOwn.never rfl (vi_range1 (by rfl) T.n_range ve_int) (vg_name 2 sc_law.nd (by decide)) (vss_cons (vs_set 4 sc_law.nd (ve_call (ok_l_names T r c) (hr.mono (by decide)) (by rfl) T.g_l_names T.F_l_names.kp T.B_l_names .nil pass0 (fun _ _ => reps_nil) (va_cons (ve_var 1) (va_cons ve_int va_nil)))) (vss_cons (vs_setLc 5 (own := [("_law_k", 9)]) rfl sc_law.nd rfl rfl (sw_true rfl rfl rfl (by decide +kernel)) (vi_range1 (by rfl) T.n_range (ve_call (ok_l_draw T r c) (hr.mono (by decide)) (by rfl) T.g_l_draw T.F_l_draw.kp T.B_l_draw .nil pass0 (fun _ _ => reps_nil) (va_cons (ve_var 1) (va_cons ve_int va_nil)))) (blkOk_by (N := ["_law_script", "_law_rng", "_law_turn", "_law_found", "_law_names_here", "_law_pairs", "_law_one", "_law_late", "_law_text", "_law_k", "_law_name", "_law_by"]) (sc := defScope s_law) (by decide +kernel)) (fun _ _ _ _ _ => (vg_name 9 sc_law.nd (by decide))) (fun _ _ _ _ _ => vts_nil) (fun _ _ _ _ _ => (ve_tup (va_cons (ve_call (ok_l_choice T r c) (hr.mono (by decide)) (by rfl) T.g_l_choice T.F_l_choice.kp T.B_l_choice .nil pass0 (fun _ _ => reps_nil) (va_cons (ve_var 1) (va_cons (ve_var 4) va_nil))) (va_cons (ve_call (ok_l_choice T r c) (hr.mono (by decide)) (by rfl) T.g_l_choice T.F_l_choice.kp T.B_l_choice .nil pass0 (fun _ _ => reps_nil) (va_cons (ve_var 1) (va_cons (ve_lst (va_cons (ve_call (ok_l_factor T r c) (hr.mono (by decide)) (by rfl) T.g_l_factor T.F_l_factor.kp T.B_l_factor .nil pass0 (fun _ _ => reps_nil) (va_cons (ve_var 1) va_nil)) (va_cons (ve_call (ok_l_far T r c) (hr.mono (by decide)) (by rfl) T.g_l_far T.F_l_far.kp T.B_l_far .nil pass0 (fun _ _ => reps_nil) (va_cons (ve_var 1) va_nil)) (va_cons (ve_call (ok_l_amount T r c) (hr.mono (by decide)) (by rfl) T.g_l_amount T.F_l_amount.kp T.B_l_amount .nil pass0 (fun _ _ => reps_nil) (va_cons (ve_var 1) va_nil)) va_nil)))) va_nil))) va_nil))))) (vss_cons (vs_set 6 sc_law.nd (ve_call (ok_l_form_of T) (hr.mono (by decide)) (by rfl) T.g_l_form_of T.F_l_form_of.kp T.B_l_form_of .nil pass0 (fun _ _ => reps_nil) (va_cons (ve_var 5) (va_cons (ve_call (ok_l_choice T r c) (hr.mono (by decide)) (by rfl) T.g_l_choice T.F_l_choice.kp T.B_l_choice .nil pass0 (fun _ _ => reps_nil) (va_cons (ve_var 1) (va_cons (ve_lst (va_cons (ve_tup (va_cons ve_int (va_cons ve_int va_nil))) (va_cons (ve_tup (va_cons ve_int (va_cons ve_int va_nil))) (va_cons (ve_call (ok_l_amount T r c) (hr.mono (by decide)) (by rfl) T.g_l_amount T.F_l_amount.kp T.B_l_amount .nil pass0 (fun _ _ => reps_nil) (va_cons (ve_var 1) va_nil)) (va_cons (ve_call (ok_l_far T r c) (hr.mono (by decide)) (by rfl) T.g_l_far T.F_l_far.kp T.B_l_far .nil pass0 (fun _ _ => reps_nil) (va_cons (ve_var 1) va_nil)) va_nil))))) va_nil))) va_nil)))) (vss_cons (vs_setLc 7 (own := [("_law_name", 10), ("_law_by", 11)]) rfl sc_law.nd rfl rfl (sw_true rfl rfl rfl (by decide +kernel)) (vi_its (ve_ixA hr.units (ve_var 6) ve_int)) (blkOk_by (N := ["_law_script", "_law_rng", "_law_turn", "_law_found", "_law_names_here", "_law_pairs", "_law_one", "_law_late", "_law_text", "_law_k", "_law_name", "_law_by"]) (sc := defScope s_law) (by decide +kernel)) (fun _ _ _ _ _ => (vg_tup (n := 2) rfl (vgs_cons (vg_name 10 sc_law.nd (by decide)) (vgs_cons (vg_name 11 sc_law.nd (by decide)) vgs_nil)))) (fun _ _ _ _ _ => (vts_one (vt_w (vw_and (vt_cmp op_ltA lift_lt (ve_callB call_abs lift_abs (by rfl) T.n_abs bt_abs (va_cons (ve_ixA hr.units (ve_var 11) ve_int) va_nil)) (ve_pow ve_int ve_int) (nomark _)) (vw_and1 (vt_cmp op_ltA lift_lt (ve_ixA hr.units (ve_var 11) ve_int) (ve_pow ve_int ve_int) (nomark _))))))) (fun _ _ _ _ _ => (ve_tup (va_cons (ve_var 10) (va_cons (ve_var 11) va_nil))))) (vss_cons (vs_set 6 sc_law.nd (ve_tup (va_cons (ve_callTy call_tuple_of lift_tuple (by rfl) T.n_tuple bt_tuple (va_cons (ve_var 7) va_nil)) (va_cons (ve_ixA hr.units (ve_var 6) ve_int) va_nil)))) (vss_cons (vs_set 8 sc_law.nd (ve_call (ok_l_form_text T) (hr.mono (by decide)) (by rfl) T.g_l_form_text T.F_l_form_text.kp T.B_l_form_text .nil pass0 (fun _ _ => reps_nil) (va_cons (ve_var 6) va_nil))) (vss_one (vs_if (vt_not (vt_val (ve_call (ok_l_same T 5) (hr.mono (by decide)) (by rfl) T.g_l_same T.F_l_same.kp T.B_l_same .nil pass0 (fun _ _ => reps_nil) (va_cons (ve_lst (va_cons (ve_call (ok_form_text T) (hr.mono (by decide)) (by rfl) T.g_form_text T.F_form_text.kp T.B_form_text .nil pass0 (fun _ _ => reps_nil) (va_cons (ve_var 6) va_nil)) (va_cons (ve_call (ok_read_form T) (hr.mono (by decide)) (by rfl) T.g_read_form T.F_read_form.kp T.B_read_form .nil pass0 (fun _ _ => reps_nil) (va_cons (ve_var 8) va_nil)) va_nil))) (va_cons (ve_lst (va_cons (ve_var 8) (va_cons (ve_var 6) va_nil))) va_nil))))) (vss_one (vs_ret ve_bl)) vss_nil))))))))) (vss_cons (vs_set 3 sc_law.nd (ve_lst (va_cons (ve_call (ok_form_text T) (hr.mono (by decide)) (by rfl) T.g_form_text T.F_form_text.kp T.B_form_text .nil pass0 (fun _ _ => reps_nil) (va_cons (ve_tup (va_cons (ve_tup (va_cons (ve_tup (va_cons ve_str (va_cons (ve_tup (va_cons (ve_neg ve_int) (va_cons ve_int va_nil))) va_nil))) (va_cons (ve_tup (va_cons ve_str (va_cons (ve_tup (va_cons ve_int (va_cons ve_int va_nil))) va_nil))) va_nil))) (va_cons (ve_tup (va_cons (ve_neg ve_int) (va_cons ve_int va_nil))) va_nil))) va_nil)) (va_cons (ve_call (ok_form_text T) (hr.mono (by decide)) (by rfl) T.g_form_text T.F_form_text.kp T.B_form_text .nil pass0 (fun _ _ => reps_nil) (va_cons (ve_tup (va_cons (ve_tup va_nil) (va_cons (ve_tup (va_cons ve_int (va_cons ve_int va_nil))) va_nil))) va_nil)) (va_cons (ve_call (ok_read_form T) (hr.mono (by decide)) (by rfl) T.g_read_form T.F_read_form.kp T.B_read_form .nil pass0 (fun _ _ => reps_nil) (va_cons ve_str va_nil)) (va_cons (ve_call (ok_read_form T) (hr.mono (by decide)) (by rfl) T.g_read_form T.F_read_form.kp T.B_read_form .nil pass0 (fun _ _ => reps_nil) (va_cons ve_str va_nil)) va_nil)))))) (vss_one (vs_ret (ve_call (ok_l_same T 5) (hr.mono (by decide)) (by rfl) T.g_l_same T.F_l_same.kp T.B_l_same .nil pass0 (fun _ _ => reps_nil) (va_cons (ve_var 3) (va_cons (ve_lst (va_cons ve_str (va_cons ve_str (va_cons (ve_tup (va_cons (ve_tup va_nil) (va_cons (ve_tup (va_cons ve_int (va_cons ve_int va_nil))) va_nil))) (va_cons (ve_tup (va_cons (ve_tup va_nil) (va_cons (ve_tup (va_cons (ve_neg ve_int) (va_cons ve_int va_nil))) va_nil))) va_nil))))) va_nil))))))))), ?_⟩)
  · obtain ⟨a, ns, rfl, _⟩ := h
    rfl
  · obtain ⟨a, ns, rfl, hS, hl, k⟩ := h
    refine ⟨_, rfl, a, ns, rfl, hS, hl, fun H' r c hr0 hc0 hs hI => ⟨r, c, law_go (i := 1) hI rfl k ?_⟩⟩
    -- _law_script, _law_rng, _law_turn, _law_found, _law_names_here, _law_pairs, _law_one, _law_late, _law_text, _law_k, _law_name, _law_by
    refine ⟨by decide, by decide, ?_⟩
    refine ⟨fun i ds => ∃ a0 a2 a3 a4 a5 a6 a7 a8 a9 a10 a11 : Sl, ds = [a0, .d (.hnd (.ref r)), a2, a3, a4, a5, a6, a7, a8, a9, a10, a11] ∧ a9.pl ∧ a10.pl ∧ a11.pl, ⟨_, _, _, _, _, _, _, _, .un, .un, .un, rfl, trivial, trivial, trivial⟩, ?_, ?_⟩
    · rintro i d ds _ ⟨a0, a2, a3, a4, a5, a6, a7, a8, a9, a10, a11, rfl, p9, p10, p11⟩
      refine ⟨5, rfl, by decide, by decide, fun ss hss hnm => ?_⟩
      match ss, hss, hnm with
      | [s0, s1, s2, s3, s4], _, hnm =>
      refine ⟨by rcases sl_pl p9 with rfl | ⟨x, rfl⟩ <;> rfl, 6, rfl, by decide, by decide, fun k k0 k1 => ⟨by omega, by omega, ?_⟩⟩
      have k1 : k < 6 := k1
      refine lcR (fun _ y => ∃ s f, y = .tup [.str s, f] ∧ AmtD 100 f ∧ nmS s = true) (fun d hd R hR => ?_) (fun ps hps => ?_)
      · refine ⟨_, rfl, Nat.le_of_ble_eq_true rfl, Nat.le_of_ble_eq_true rfl, fun o1 ho1 => ⟨rfl, fun fa fb FA => ⟨rfl, fun ga gb GA g1 g2 => ⟨rfl, fun ha hb HA => ⟨Nat.le_of_ble_eq_true rfl, _, rfl, Nat.le_of_ble_eq_true rfl, Nat.le_of_ble_eq_true rfl, fun o2 ho2 => ⟨Nat.le_of_ble_eq_true rfl, ?_⟩⟩⟩⟩⟩⟩
        obtain ⟨s, hs, rfl⟩ := List.mem_map.mp (show o1 ∈ [s0, s1, s2, s3, s4].map D.str from ho1)
        refine hR _ ⟨s, o2, rfl, ?_, hnm s hs⟩
        simp only [List.mem_cons, List.not_mem_nil, or_false] at ho2
        rcases ho2 with rfl | rfl | rfl
        · exact ⟨_, _, rfl, FA.mono (by decide)⟩
        · exact ⟨_, _, rfl, GA⟩
        · exact ⟨_, _, rfl, HA.mono (by decide)⟩
      have hl6 : ps.length ≤ 5 := by
        have := hps.len
        rw [rng_len] at this
        omega
      have hp := hps.mem
      clear hps
      refine ⟨Nat.le_of_ble_eq_true rfl, Nat.le_of_ble_eq_true rfl, rfl, fun ca cb CA => ⟨rfl, fun da db DA d1 d2 => ⟨Nat.le_of_ble_eq_true rfl, _, rfl, Nat.le_of_ble_eq_true rfl, Nat.le_of_ble_eq_true rfl, fun cc hcc => ?_⟩⟩⟩
      have HC : ∃ a b : Int, cc = .tup [.int a, .int b] ∧ 0 < b ∧ Int.gcd a b = 1 ∧ a.natAbs < 10 ^ 30 ∧ b.natAbs < 10 ^ 30 := by
        have sm : ∀ {x : Nat}, x < 2 ^ 4 → x < 10 ^ 30 := fun h => Nat.lt_of_lt_of_le h (Nat.le_of_ble_eq_true rfl)
        simp only [List.mem_cons, List.not_mem_nil, or_false] at hcc
        rcases hcc with rfl | rfl | rfl | rfl
        · exact ⟨0, 1, rfl, by decide, by decide, by decide, by decide⟩
        · exact ⟨0, 1, rfl, by decide, by decide, by decide, by decide⟩
        · exact ⟨_, _, rfl, CA.pos, CA.cop, sm CA.ha, sm CA.hb⟩
        · exact ⟨_, _, rfl, DA.pos, DA.cop, by omega, by omega⟩
      clear hcc
      have c100 : AmtD 100 cc := by
        obtain ⟨a, b, rfl, h1, h2, h3, h4⟩ := HC
        exact amt100 h1 h2 h3 h4
      have hpd : ∀ p ∈ ps, PairD 100 p := fun p h => by
        obtain ⟨s, f, e, hf, _⟩ := hp p h
        exact ⟨s, f, e, hf⟩
      have cnt : ∀ k, ncnt k ps ≤ 5 := fun k => Nat.le_trans (ncnt_le k ps) hl6
      have FO : FormOk 506 (fun s => nmS s = true) (formD ps cc) (formTs (totals ps)) cc := form_ok hp (by omega) cnt (by decide) (c100.mono (by decide))
      have hfew : (formTs (totals ps)).length ≤ 5 := by
        have := tot_few (i := ps.length) (n := 100) (ps := ps) hpd
        rw [List.take_length] at this
        have := formTs_len (totals ps)
        omega
      have FN := late_ok FO (form_nodup (tot_ok (S := fun _ => True) (fun p h => by obtain ⟨s, f, e, hf, _⟩ := hp p h; exact ⟨s, f, e, hf, trivial⟩)).nd) (form_sorted _) HC
      have lfew : ((formTs (totals ps)).filterMap lateF).length ≤ 5 := Nat.le_trans (List.length_filterMap_le _ _) hfew
      refine ⟨100, 5, ps, cc, rfl, hpd, by omega, cnt, by decide, ?_⟩
      refine ⟨by rcases sl_pl p10 with rfl | ⟨x, rfl⟩ <;> rcases sl_pl p11 with rfl | ⟨y, rfl⟩ <;> rfl, _, rfl, ?_⟩
      refine lcM lateF (fun d hd Y N hY hN => ?_) ?_
      · obtain ⟨s, f, rfl, ⟨fa, fb, rfl, FA⟩, hs, hz⟩ := FO.pr d hd
        have p30 : CPow 10 30 := ⟨by decide, by decide, by decide⟩
        have e30 : (10 : Int) ^ (30 : Int).toNat = 1000000000000000000000000000000 := by decide
        have eL : lateF (.tup [.str s, .tup [.int fa, .int fb]]) = if fa.natAbs < 10 ^ 30 ∧ fb.natAbs < 10 ^ 30 then some (.tup [.str s, .tup [.int fa, .int fb]]) else none := rfl
        have fbp := FA.pos
        refine ⟨rfl, _, rfl, p30, vifd (fun z => ?_) (fun z => ?_)⟩
        · have z : (if fa < 0 then -fa else fa) < 10 ^ (30 : Int).toNat := z
          rw [e30] at z
          refine ⟨_, rfl, p30, vifd (fun y => ?_) (fun y => ?_)⟩
          · have y : fb < 10 ^ (30 : Int).toNat := y
            rw [e30] at y
            refine ⟨Nat.le_of_ble_eq_true rfl, hY _ ?_⟩
            rw [eL, if_pos ⟨by split at z <;> omega, by omega⟩]
          · have y : ¬ fb < 10 ^ (30 : Int).toNat := y
            rw [e30] at y
            refine hN ?_
            rw [eL, if_neg (fun q => by omega)]
        · have z : ¬ (if fa < 0 then -fa else fa) < 10 ^ (30 : Int).toNat := z
          rw [e30] at z
          refine hN ?_
          rw [eL, if_neg (fun q => by split at z <;> omega)]
      generalize (formTs (totals ps)).filterMap lateF = ts at FN lfew ⊢
      dsimp only [List.set]
      have hts : ∀ t ∈ ts, ∃ s f, t = .tup [.str s, f] ∧ nmS s = true ∧ AmtD 100 f := fun t ht => by
        obtain ⟨s, a, b, e, h1, h2, h3, h4, h5, _⟩ := FN.pr t ht
        exact ⟨s, _, e, h1, amt100 h2 h3 h4 h5⟩
      have zl := form_short FN lfew
      have wl := form_words FN lfew
      have back := form_back FN
      refine ⟨_, rfl, Nat.le_of_ble_eq_true rfl, 100, ts, cc, rfl, hts, c100, by decide, by omega, ?_⟩
      dsimp only [List.set]
      refine ⟨100, ts, cc, rfl, hts, c100, by decide, by omega, formS (partsD ts cc), rfl, zl, wl, ⟨_, _, back⟩, ?_⟩
      rw [back]
      refine ⟨Nat.le_of_ble_eq_true rfl, Nat.le_of_ble_eq_true rfl, .lst [.str (formS (partsD ts cc)), .tup [.tup ts, cc]], rfl, okD_lst (n := 4) (Nat.le_of_ble_eq_true rfl) (fun x hx => ?_), ?_⟩
      · simp only [List.mem_cons, List.not_mem_nil, or_false] at hx
        rcases hx with rfl | rfl
        · rfl
        · refine okD_tup (n := 3) (Nat.le_of_ble_eq_true rfl) fun y hy => ?_
          simp only [List.mem_cons, List.not_mem_nil, or_false] at hy
          rcases hy with rfl | rfl
          · refine okD_tup (n := 2) (by omega) fun t ht => ?_
            obtain ⟨s, f, e, _, hf⟩ := hts t ht
            exact okD_pair (n := 100) ⟨s, f, e, hf⟩ 0
          · exact okD_amt c100 2
      exact ⟨_, _, _, _, _, _, _, _, _, _, _, rfl, p9, p10, p11⟩
    · rintro ds ⟨a0, a2, a3, a4, a5, a6, a7, a8, a9, a10, a11, rfl, _⟩
      have A1 : AmtD 100 (.tup [.int (-1), .int 1]) := ⟨_, _, rfl, by decide, by decide, by decide, by decide⟩
      have A2 : AmtD 100 (.tup [.int 3, .int 2]) := ⟨_, _, rfl, by decide, by decide, by decide, by decide⟩
      have A3 : AmtD 100 (.tup [.int (-4), .int 1]) := ⟨_, _, rfl, by decide, by decide, by decide, by decide⟩
      refine ⟨Nat.le_of_ble_eq_true rfl, Nat.le_of_ble_eq_true rfl, Nat.le_of_ble_eq_true rfl, Nat.le_of_ble_eq_true rfl, Nat.le_of_ble_eq_true rfl, Nat.le_of_ble_eq_true rfl, Nat.le_of_ble_eq_true rfl, ?_⟩
      have e1 : formS (partsD [.tup [.str ("x" : Str), .tup [.int (-1), .int 1]], .tup [.str ("y" : Str), .tup [.int 3, .int 2]]] (.tup [.int (-4), .int 1])) = ("-x + 3/2*y - 4" : Str) := by decide +kernel
      have e2 : formS (partsD [] zeroD) = ("0" : Str) := by decide +kernel
      have e3 : formS (partsD [] (.tup [.int (-5), .int 3])) = ("-5/3" : Str) := by decide +kernel
      have N2 : FormN [] zeroD := ⟨fun t h => (by cases h), .nil, .nil, 0, 1, rfl, by decide, by decide, by decide, by decide⟩
      have N3 : FormN [] (.tup [.int (-5), .int 3]) := ⟨fun t h => (by cases h), .nil, .nil, -5, 3, rfl, by decide, by decide, by decide, by decide⟩
      have b2 := form_back N2
      have w2 := form_words N2 (by decide)
      have b3 := form_back N3
      have w3 := form_words N3 (by decide)
      rw [e2] at b2 w2
      rw [e3] at b3 w3
      refine ⟨100, _, _, rfl, fun t h => ?_, A3, by decide, by decide, ?_⟩
      · simp only [List.mem_cons, List.not_mem_nil, or_false] at h
        rcases h with rfl | rfl
        · exact ⟨_, _, rfl, by decide +kernel, A1⟩
        · exact ⟨_, _, rfl, by decide +kernel, A2⟩
      rw [e1]
      refine ⟨Nat.le_of_ble_eq_true rfl, Nat.le_of_ble_eq_true rfl, Nat.le_of_ble_eq_true rfl, 100, [], zeroD, rfl, fun t h => by (cases h), zero_amt.mono (by decide), by decide, by decide, ?_⟩
      rw [e2]
      refine ⟨("0" : Str), rfl, by decide, w2, ⟨_, _, b2⟩, ?_⟩
      rw [b2]
      refine ⟨("-5/3" : Str), rfl, by decide, w3, ⟨_, _, b3⟩, ?_⟩
      rw [b3]
      refine ⟨Nat.le_of_ble_eq_true rfl, ?_⟩
      refine ⟨Nat.le_of_ble_eq_true rfl, Nat.le_of_ble_eq_true rfl, Nat.le_of_ble_eq_true rfl, Nat.le_of_ble_eq_true rfl, Nat.le_of_ble_eq_true rfl, Nat.le_of_ble_eq_true rfl, Nat.le_of_ble_eq_true rfl, _, rfl, rfl, rfl⟩
--CUT--
end
theorem fin {l : PySem.W.OpenLaw} {w : World} {K : PySem.W.Frag} {mg : Str → Option Value} {fa : Addr} (T : Tx K mg) (hfa : mg "law" = some (.ref fa)) :
    ∃ fd : FuncData, (∀ (s : Shared) (v : Value), BindsTo s fd ⟨[v], []⟩ [("_law_script", v)]) ∧ ∀ base : Heap, K.In base → base.Ns mainGlobals mg → FnOk l.prog w K mg base CX0 9 fa fd ["_law_script"] (spLaw K) := by
  have e := hfa.symm.trans T.g_law
  cases e
  refine ⟨T.fd_law, fun s v => ?_, fun base _ _ => ok_law T⟩
  obtain ⟨oc, od, kV, doc, pm, an, cdv, ct, osl, e, _⟩ := T.F_law.ex
  rw [e]
  exact .of_eq rfl
theorem walk {l : PySem.W.OpenLaw} {q : Program} {loose : List Str} {XP : (Str → Option Value) → Heap → Prop} {YP : World → Heap → Prop} {d : DefRec} {K : Params → PySem.W.Frag} (hn : l.most = some 63) (hdf : d.params.defaults = [])
    (hY : ∀ (w : World) (h : Heap), YP w h → (K w.params).In h)
    (F : ∀ (w : World) (mg : Str → Option Value) (fa : Addr) (h : Heap), (K w.params).In h → h.Ns mainGlobals mg → mg d.name = some (.ref fa) →
      ∃ fd : FuncData, (∀ (s : Shared) (u : Value), BindsTo s fd ⟨[u], []⟩ [("_law_script", u)]) ∧ ∀ base : Heap, (K w.params).In base → base.Ns mainGlobals mg → FnOk l.prog w (K w.params) mg base CX0 9 fa fd ["_law_script"] (spLaw (K w.params))) :
    PySem.W.WalkO q loose XP YP l.row.toRowW d [] (fun f vs => PySem.call f vs) :=
  L2.walk_of (n := 63) (k := 9) (x := "_law_script") (CX := fun _ => CX0) (sp := fun w => spLaw (K w.params)) hn (by decide) hdf ⟨rfl, by decide, by decide⟩ hY F (fun _ _ a ns hl _ hS => ⟨a, ns, rfl, hS, hl, fun _ => rfl⟩) fun _ _ _ _ _ z => z
end Law
open PySem PySem.W PyProof.Rows
set_option maxRecDepth 100000 in
set_option maxHeartbeats 0 in
theorem PySem.Challenge.cw_unseenzero_k07_texts_of_forms_holds : PySem.Challenge.rw_unseenzero_k07_texts_of_forms.Holds := by
  w_on; o_law; k_head; (case hw => w_witness2)
  k_fill
  refine Law.walk (l := PySem.Challenge.rw_unseenzero_k07_texts_of_forms) rfl rfl (fun w h Y => PySem.W.kIn_of Y) ?F
  case F =>
    intro w mg fa h KX G hmg
    refine' Law.fin (Law.tx_mk KX G ?C0a ?C0r ?C1a ?C1r ?C2a ?C2e ?C2l ?C20r ?C21r ?C3a ?C3e ?C3l ?C30r ?C31r ?C4a ?C4r ?C5a ?C5r ?C6a ?C6r ?a0 ?l0 ?c0 ?k0 ?a1 ?l1 ?c1 ?k1 ?a2 ?l2 ?c2 ?k2 ?a3 ?l3 ?c3 ?k3 ?de3 ?dl3 ?d3_0r ?a4 ?l4 ?c4 ?k4 ?a5 ?l5 ?c5 ?k5 ?a6 ?l6 ?c6 ?k6 ?a7 ?l7 ?c7 ?k7 ?a8 ?l8 ?c8 ?k8 ?a9 ?l9 ?c9 ?k9 ?a10 ?l10 ?c10 ?k10 ?a11 ?l11 ?c11 ?k11 ?a12 ?l12 ?c12 ?k12 ?de12 ?dl12 ?d12_0e ?d12_0l ?d12_00r ?d12_01r ?a13 ?l13 ?c13 ?k13 ?a14 ?l14 ?c14 ?k14 ?a15 ?l15 ?c15 ?k15 ?a16 ?l16 ?c16 ?k16 ?a17 ?l17 ?c17 ?k17 ?a18 ?l18 ?c18 ?k18 ?a19 ?l19 ?c19 ?k19 ?a20 ?l20 ?c20 ?k20 ?a21 ?l21 ?c21 ?k21 ?a22 ?l22 ?c22 ?k22 ?a23 ?l23 ?c23 ?k23 ?a24 ?l24 ?c24 ?k24 ?a25 ?l25 ?c25 ?k25 ?a26 ?l26 ?c26 ?k26 ?a27 ?l27 ?c27 ?k27 ?a28 ?l28 ?c28 ?k28 ?a29 ?l29 ?c29 ?k29 ?a30 ?l30 ?c30 ?k30 ?a31 ?l31 ?c31 ?k31 ?a32 ?l32 ?c32 ?k32 ?n_abs ?n_all ?n_bool ?n_enumerate ?n_int ?n_isinstance ?n_len ?n_list ?n_range ?n_sorted ?n_str ?n_tuple ?n_zip) hmg
    (case C0a => k_is)
    (case C0r => exact ⟨_, rfl⟩)
    (case C1a => k_is)
    (case C1r => exact ⟨_, rfl⟩)
    (case C2a => k_is)
    (case C2e => rfl)
    (case C2l => k_is)
    (case C20r => exact ⟨_, rfl⟩)
    (case C21r => exact ⟨_, rfl⟩)
    (case C3a => k_is)
    (case C3e => rfl)
    (case C3l => k_is)
    (case C30r => exact ⟨_, rfl⟩)
    (case C31r => exact ⟨_, rfl⟩)
    (case C4a => k_is)
    (case C4r => exact ⟨_, rfl⟩)
    (case C5a => k_is)
    (case C5r => exact ⟨_, rfl⟩)
    (case C6a => k_is)
    (case C6r => exact ⟨_, rfl⟩)
    (case a0 => k_is)
    (case l0 => k_is)
    (case c0 => k_is)
    (case k0 => k_is)
    (case a1 => k_is)
    (case l1 => k_is)
    (case c1 => k_is)
    (case k1 => k_is)
    (case a2 => k_is)
    (case l2 => k_is)
    (case c2 => k_is)
    (case k2 => k_is)
    (case a3 => k_is)
    (case l3 => k_is)
    (case c3 => k_is)
    (case k3 => k_is)
    (case de3 => rfl)
    (case dl3 => k_is)
    (case d3_0r => exact ⟨_, rfl⟩)
    (case a4 => k_is)
    (case l4 => k_is)
    (case c4 => k_is)
    (case k4 => k_is)
    (case a5 => k_is)
    (case l5 => k_is)
    (case c5 => k_is)
    (case k5 => k_is)
    (case a6 => k_is)
    (case l6 => k_is)
    (case c6 => k_is)
    (case k6 => k_is)
    (case a7 => k_is)
    (case l7 => k_is)
    (case c7 => k_is)
    (case k7 => k_is)
    (case a8 => k_is)
    (case l8 => k_is)
    (case c8 => k_is)
    (case k8 => k_is)
    (case a9 => k_is)
    (case l9 => k_is)
    (case c9 => k_is)
    (case k9 => k_is)
    (case a10 => k_is)
    (case l10 => k_is)
    (case c10 => k_is)
    (case k10 => k_is)
    (case a11 => k_is)
    (case l11 => k_is)
    (case c11 => k_is)
    (case k11 => k_is)
    (case a12 => k_is)
    (case l12 => k_is)
    (case c12 => k_is)
    (case k12 => k_is)
    (case de12 => rfl)
    (case dl12 => k_is)
    (case d12_0e => rfl)
    (case d12_0l => k_is)
    (case d12_00r => exact ⟨_, rfl⟩)
    (case d12_01r => exact ⟨_, rfl⟩)
    (case a13 => k_is)
    (case l13 => k_is)
    (case c13 => k_is)
    (case k13 => k_is)
    (case a14 => k_is)
    (case l14 => k_is)
    (case c14 => k_is)
    (case k14 => k_is)
    (case a15 => k_is)
    (case l15 => k_is)
    (case c15 => k_is)
    (case k15 => k_is)
    (case a16 => k_is)
    (case l16 => k_is)
    (case c16 => k_is)
    (case k16 => k_is)
    (case a17 => k_is)
    (case l17 => k_is)
    (case c17 => k_is)
    (case k17 => k_is)
    (case a18 => k_is)
    (case l18 => k_is)
    (case c18 => k_is)
    (case k18 => k_is)
    (case a19 => k_is)
    (case l19 => k_is)
    (case c19 => k_is)
    (case k19 => k_is)
    (case a20 => k_is)
    (case l20 => k_is)
    (case c20 => k_is)
    (case k20 => k_is)
    (case a21 => k_is)
    (case l21 => k_is)
    (case c21 => k_is)
    (case k21 => k_is)
    (case a22 => k_is)
    (case l22 => k_is)
    (case c22 => k_is)
    (case k22 => k_is)
    (case a23 => k_is)
    (case l23 => k_is)
    (case c23 => k_is)
    (case k23 => k_is)
    (case a24 => k_is)
    (case l24 => k_is)
    (case c24 => k_is)
    (case k24 => k_is)
    (case a25 => k_is)
    (case l25 => k_is)
    (case c25 => k_is)
    (case k25 => k_is)
    (case a26 => k_is)
    (case l26 => k_is)
    (case c26 => k_is)
    (case k26 => k_is)
    (case a27 => k_is)
    (case l27 => k_is)
    (case c27 => k_is)
    (case k27 => k_is)
    (case a28 => k_is)
    (case l28 => k_is)
    (case c28 => k_is)
    (case k28 => k_is)
    (case a29 => k_is)
    (case l29 => k_is)
    (case c29 => k_is)
    (case k29 => k_is)
    (case a30 => k_is)
    (case l30 => k_is)
    (case c30 => k_is)
    (case k30 => k_is)
    (case a31 => k_is)
    (case l31 => k_is)
    (case c31 => k_is)
    (case k31 => k_is)
    (case a32 => k_is)
    (case l32 => k_is)
    (case c32 => k_is)
    (case k32 => k_is)
    (case n_abs => k_is)
    (case n_all => k_is)
    (case n_bool => k_is)
    (case n_enumerate => k_is)
    (case n_int => k_is)
    (case n_isinstance => k_is)
    (case n_len => k_is)
    (case n_list => k_is)
    (case n_range => k_is)
    (case n_sorted => k_is)
    (case n_str => k_is)
    (case n_tuple => k_is)
    (case n_zip => k_is)
#print axioms PySem.Challenge.cw_unseenzero_k07_texts_of_forms_holds
