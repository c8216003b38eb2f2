import PyProof.Rows.All
import HandS.ForMost
import HandS.IsInst
import HandS.Wide
import HandS.Zip
import HandS.Flow
import HandS.TupAny
import HandS.NoneIn
import HandS.Dict
import HandS.More
import HandS.Style
import HandS.Star
import HandS.Text
import HandS.Defaults
import KE.GoesMore
import HandS.Exc
import HandS.Property
import HandS.MakeKw
import HandS.MakeKwOnly
import HandS.FStr
import HandS.WordsExc
import HandS.ExcInit
import HandS.TryMany
import HandS.SlotsOwn
import KE.KOpsOwn
import KE.RegKCallOwn
import KE.KFmtOwn
import HandS.ClsMeth
import HandS.RaiseMore
import HandS.ExcField
import HandS.ExcIs
import KE.KTryMore
import HandS.HotCalls
import HandS.EndTab
import KE.KDflt
import HandS.StrMore
import PyProof.StrOps2
import PySem.Challenge.RW_unseenzero_k13_whole_changes_form_a_grou
import KE.KLam
import KE.KNestM
set_option Elab.async false
set_option linter.all false
set_option maxRecDepth 100000
set_option maxHeartbeats 2000000
/-! VA: a layer of plain data (D) over the hand layer: slots hold data, the heap is out of sight. -/
namespace VL
open PySem PySem.Spec PyProof.Rows L2

inductive D where
  | non | bl (b : Bool) | int (i : Int) | str (x : Str) | hnd (v : V) | tup (ds : List D) | lst (ds : List D) | dic (ks : List Str) (ds : List D) | ins (C : Addr) (ks : List Str) (ds : List D)
  /-- a lambda at f, with what is known of the objects it is made of -/
  | lam (f : Addr) (as : List (Addr × (Heap → Prop)))

def KSeqT (K : PySem.W.Frag) (a : Addr) (xs : List V) : Prop :=
  ∃ (o : Obj) (its : Array Value) (n : Nat), K.lookup a = some o ∧ o.cls = .type "tuple" ∧ o.data = .seq its n ∧ its.size ≤ sizeLine ∧ Vals xs its.toList
def KSeqL (K : PySem.W.Frag) (a : Addr) (xs : List V) : Prop :=
  ∃ (o : Obj) (its : Array Value) (n : Nat), K.lookup a = some o ∧ o.cls = .type "list" ∧ o.dict = none ∧ o.data = .seq its n ∧ its.size ≤ sizeLine ∧ Vals xs its.toList
def TupM (K : PySem.W.Frag) (M : Addr → Prop) (H : Hp) (a : Addr) (xs : List V) : Prop := (¬ M a ∧ Rd H a (.tup xs)) ∨ KSeqT K a xs
def LstM (K : PySem.W.Frag) (M : Addr → Prop) (H : Hp) (a : Addr) (xs : List V) : Prop := (¬ M a ∧ Rd H a (.lst xs)) ∨ KSeqL K a xs
theorem TupM.sq {K : PySem.W.Frag} {M : Addr → Prop} {H : Hp} {a : Addr} {xs : List V} (h : TupM K M H a xs) : SqT K H a xs := by
  rcases h with ⟨_, h⟩ | h
  · exact .inl h
  · exact .inr h
theorem LstM.sq {K : PySem.W.Frag} {M : Addr → Prop} {H : Hp} {a : Addr} {xs : List V} (h : LstM K M H a xs) : SqL K H a xs := by
  rcases h with ⟨_, h⟩ | h
  · exact .inl h
  · exact .inr h

mutual
def Rep (K : PySem.W.Frag) (M : Addr → Prop) (H : Hp) : D → V → Prop
  | .non, v => v = .non
  | .bl b, v => v = .bl b
  | .int i, v => v = .int i
  | .str x, v => v = .str x
  | .hnd u, v => v = u
  | .tup ds, v => ∃ a xs, v = .ref a ∧ TupM K M H a xs ∧ Reps K M H ds xs
  | .lst ds, v => ∃ a xs, v = .ref a ∧ LstM K M H a xs ∧ Reps K M H ds xs
  | .dic ks ds, v => ∃ (a : Addr) (us : List V), v = .ref a ∧ ¬ M a ∧ us.length = ks.length ∧ H a = some (.dK ((ks.map Sum.inr).zip us)) ∧ Reps K M H ds us
  | .ins C ks ds, v => ∃ (a dx : Addr) (us : List V), v = .ref a ∧ ¬ M a ∧ us.length = ks.length ∧ H a = some (.ins C dx (ks.zip us)) ∧ Reps K M H ds us
  | .lam f as, v => v = .ref f ∧ ∀ p ∈ as, ¬ M p.1 ∧ H p.1 = some (.ext p.2)
def Reps (K : PySem.W.Frag) (M : Addr → Prop) (H : Hp) : List D → List V → Prop
  | [], vs => vs = []
  | d :: ds, vs => ∃ v r, vs = v :: r ∧ Rep K M H d v ∧ Reps K M H ds r
end

/-- what stands outside M in H stands outside M' in H' -/
def Car (M M' : Addr → Prop) (H H' : Hp) : Prop := ∀ b o, ¬ M b → H b = some o → ¬ M' b ∧ H' b = some o
theorem rd_car {M M' : Addr → Prop} {H H' : Hp} {a : Addr} {u : HO} (c : Car M M' H H') (hm : ¬ M a) (h : Rd H a u) : ¬ M' a ∧ Rd H' a u := by
  rcases h with h | ⟨o, h⟩
  · exact ⟨(c _ _ hm h).1, .inl (c _ _ hm h).2⟩
  · exact ⟨(c _ _ hm h).1, .inr ⟨o, (c _ _ hm h).2⟩⟩
theorem TupM.car {K : PySem.W.Frag} {M M' : Addr → Prop} {H H' : Hp} {a : Addr} {xs : List V} (c : Car M M' H H') (h : TupM K M H a xs) : TupM K M' H' a xs := by
  rcases h with ⟨m, h⟩ | h
  · exact .inl (rd_car c m h)
  · exact .inr h
theorem LstM.car {K : PySem.W.Frag} {M M' : Addr → Prop} {H H' : Hp} {a : Addr} {xs : List V} (c : Car M M' H H') (h : LstM K M H a xs) : LstM K M' H' a xs := by
  rcases h with ⟨m, h⟩ | h
  · exact .inl (rd_car c m h)
  · exact .inr h
mutual
theorem Rep.car {K : PySem.W.Frag} {M M' : Addr → Prop} {H H' : Hp} (c : Car M M' H H') : ∀ {d : D} {v : V}, Rep K M H d v → Rep K M' H' d v
  | .non, _, h => h
  | .bl _, _, h => h
  | .int _, _, h => h
  | .str _, _, h => h
  | .hnd _, _, h => h
  | .tup _, _, h => by
    unfold Rep at h ⊢
    obtain ⟨a, xs, e, t, r⟩ := h
    exact ⟨a, xs, e, t.car c, Reps.car c r⟩
  | .lst _, _, h => by
    unfold Rep at h ⊢
    obtain ⟨a, xs, e, t, r⟩ := h
    exact ⟨a, xs, e, t.car c, Reps.car c r⟩
  | .dic _ _, _, h => by
    unfold Rep at h ⊢
    obtain ⟨a, us, e, m, l, t, r⟩ := h
    exact ⟨a, us, e, (c _ _ m t).1, l, (c _ _ m t).2, Reps.car c r⟩
  | .ins _ _ _, _, h => by
    unfold Rep at h ⊢
    obtain ⟨a, dx, us, e, m, l, t, r⟩ := h
    exact ⟨a, dx, us, e, (c _ _ m t).1, l, (c _ _ m t).2, Reps.car c r⟩
  | .lam _ _, _, h => by
    unfold Rep at h ⊢
    exact ⟨h.1, fun p hp => c _ _ (h.2 p hp).1 (h.2 p hp).2⟩
theorem Reps.car {K : PySem.W.Frag} {M M' : Addr → Prop} {H H' : Hp} (c : Car M M' H H') : ∀ {ds : List D} {vs : List V}, Reps K M H ds vs → Reps K M' H' ds vs
  | [], _, h => by
    unfold Reps at h ⊢
    exact h
  | _ :: _, _, h => by
    unfold Reps at h ⊢
    obtain ⟨v, r, e, h1, h2⟩ := h
    exact ⟨v, r, e, Rep.car c h1, Reps.car c h2⟩
end
section
variable {K : PySem.W.Frag} {M M' : Addr → Prop} {H H' : Hp} {ds es : List D} {vs us : List V} {d : D} {v : V}
theorem reps_nil : Reps K M H [] [] := by unfold Reps; rfl
theorem reps_cons (h : Rep K M H d v) (t : Reps K M H ds vs) : Reps K M H (d :: ds) (v :: vs) := by unfold Reps; exact ⟨v, vs, rfl, h, t⟩
theorem Reps.inv (h : Reps K M H (d :: ds) us) : ∃ v vs, us = v :: vs ∧ Rep K M H d v ∧ Reps K M H ds vs := by unfold Reps at h; exact h
theorem Reps.inv0 (h : Reps K M H [] us) : us = [] := by unfold Reps at h; exact h
theorem Reps.app : ∀ {ds es : List D} {vs us : List V}, Reps K M H ds vs → Reps K M H es us → Reps K M H (ds ++ es) (vs ++ us)
  | [], _, _, _, h, t => by rw [h.inv0]; exact t
  | _ :: _, _, _, _, h, t => by
    obtain ⟨v, vs, rfl, h1, h2⟩ := h.inv
    exact reps_cons h1 (Reps.app h2 t)
theorem Reps.len : ∀ {ds : List D} {vs : List V}, Reps K M H ds vs → vs.length = ds.length
  | [], _, h => by rw [h.inv0]; rfl
  | _ :: _, _, h => by
    obtain ⟨v, vs, rfl, h1, h2⟩ := h.inv
    simp [Reps.len h2]
theorem Reps.get : ∀ {ds : List D} {vs : List V} {i : Nat} {d : D}, Reps K M H ds vs → ds[i]? = some d → ∃ v, vs[i]? = some v ∧ Rep K M H d v
  | [], _, _, _, _, e => by simp at e
  | _ :: _, _, 0, _, h, e => by
    obtain ⟨v, vs, rfl, h1, h2⟩ := h.inv
    simp at e
    subst e
    exact ⟨v, by simp, h1⟩
  | _ :: _, _, i + 1, _, h, e => by
    obtain ⟨v, vs, rfl, h1, h2⟩ := h.inv
    obtain ⟨u, e1, e2⟩ := Reps.get (i := i) h2 (by simpa using e)
    exact ⟨u, by simpa using e1, e2⟩
theorem Reps.get' : ∀ {ds : List D} {vs : List V} {i : Nat} {v : V}, Reps K M H ds vs → vs[i]? = some v → ∃ d, ds[i]? = some d ∧ Rep K M H d v
  | [], _, i, _, h, e => by rw [h.inv0] at e; simp at e
  | _ :: _, _, 0, _, h, e => by
    obtain ⟨v, vs, rfl, h1, h2⟩ := h.inv
    simp at e
    subst e
    exact ⟨_, by simp, h1⟩
  | _ :: _, _, i + 1, _, h, e => by
    obtain ⟨v, vs, rfl, h1, h2⟩ := h.inv
    obtain ⟨u, e1, e2⟩ := Reps.get' (i := i) h2 (by simpa using e)
    exact ⟨u, by simpa using e1, e2⟩
theorem Reps.take : ∀ {ds : List D} {vs : List V} (n : Nat), Reps K M H ds vs → Reps K M H (ds.take n) (vs.take n)
  | _, _, 0, _ => by simp [reps_nil]
  | [], _, _ + 1, h => by rw [h.inv0]; simp [reps_nil]
  | _ :: _, _, n + 1, h => by
    obtain ⟨v, vs, rfl, h1, h2⟩ := h.inv
    exact reps_cons h1 (Reps.take n h2)
theorem Reps.drop : ∀ {ds : List D} {vs : List V} (n : Nat), Reps K M H ds vs → Reps K M H (ds.drop n) (vs.drop n)
  | _, _, 0, h => h
  | [], _, _ + 1, h => by rw [h.inv0]; simp [reps_nil]
  | _ :: _, _, n + 1, h => by
    obtain ⟨v, vs, rfl, h1, h2⟩ := h.inv
    exact Reps.drop n h2
theorem Reps.rev {ds : List D} {vs : List V} (h : Reps K M H ds vs) : Reps K M H ds.reverse vs.reverse := by
  induction ds generalizing vs with
  | nil => rw [h.inv0]; exact reps_nil
  | cons d ds ih =>
    obtain ⟨v, vs, rfl, h1, h2⟩ := h.inv
    rw [List.reverse_cons, List.reverse_cons]
    exact (ih h2).app (reps_cons h1 reps_nil)
theorem rep_ints (ns : List Int) : Reps K M H (ns.map D.int) (ns.map V.int) := by
  induction ns with
  | nil => exact reps_nil
  | cons n ns ih => exact reps_cons (by unfold Rep; rfl) ih
theorem Reps.ints : ∀ {ns : List Int} {vs : List V}, Reps K M H (ns.map D.int) vs → vs = ns.map V.int
  | [], _, h => h.inv0
  | _ :: _, _, h => by
    obtain ⟨v, vs, rfl, h1, h2⟩ := h.inv
    unfold Rep at h1
    rw [h1, Reps.ints h2]
    rfl
theorem Reps.bls : ∀ {ns : List Bool} {vs : List V}, Reps K M H (ns.map D.bl) vs → vs = ns.map V.bl
  | [], _, h => h.inv0
  | _ :: _, _, h => by
    obtain ⟨v, vs, rfl, h1, h2⟩ := h.inv
    unfold Rep at h1
    rw [h1, Reps.bls h2]
    rfl
theorem Reps.strs : ∀ {ns : List Str} {vs : List V}, Reps K M H (ns.map D.str) vs → vs = ns.map V.str
  | [], _, h => h.inv0
  | _ :: _, _, h => by
    obtain ⟨v, vs, rfl, h1, h2⟩ := h.inv
    unfold Rep at h1
    rw [h1, Reps.strs h2]
    rfl
theorem rep_int {i : Int} : Rep K M H (.int i) (.int i) := by unfold Rep; rfl
theorem rep_bl {i : Bool} : Rep K M H (.bl i) (.bl i) := by unfold Rep; rfl
theorem rep_str {i : Str} : Rep K M H (.str i) (.str i) := by unfold Rep; rfl
theorem rep_non : Rep K M H .non .non := by unfold Rep; rfl
theorem rep_hnd {v : V} : Rep K M H (.hnd v) v := by unfold Rep; rfl
theorem Rep.int {i : Int} (h : Rep K M H (.int i) v) : v = .int i := by unfold Rep at h; exact h
theorem Rep.bl {i : Bool} (h : Rep K M H (.bl i) v) : v = .bl i := by unfold Rep at h; exact h
theorem Rep.str {i : Str} (h : Rep K M H (.str i) v) : v = .str i := by unfold Rep at h; exact h
theorem Rep.non (h : Rep K M H .non v) : v = .non := by unfold Rep at h; exact h
theorem Rep.hnd {u : V} (h : Rep K M H (.hnd u) v) : v = u := by unfold Rep at h; exact h
theorem Rep.tup (h : Rep K M H (.tup ds) v) : ∃ a xs, v = .ref a ∧ TupM K M H a xs ∧ Reps K M H ds xs := by unfold Rep at h; exact h
theorem Rep.lst (h : Rep K M H (.lst ds) v) : ∃ a xs, v = .ref a ∧ LstM K M H a xs ∧ Reps K M H ds xs := by unfold Rep at h; exact h
theorem Rep.dic {ks : List Str} (h : Rep K M H (.dic ks ds) v) : ∃ (a : Addr) (us : List V), v = .ref a ∧ ¬ M a ∧ us.length = ks.length ∧ H a = some (.dK ((ks.map Sum.inr).zip us)) ∧ Reps K M H ds us := by unfold Rep at h; exact h
theorem Rep.ins {C : Addr} {ks : List Str} (h : Rep K M H (.ins C ks ds) v) : ∃ (a dx : Addr) (us : List V), v = .ref a ∧ ¬ M a ∧ us.length = ks.length ∧ H a = some (.ins C dx (ks.zip us)) ∧ Reps K M H ds us := by unfold Rep at h; exact h
theorem Rep.lam {f : Addr} {as : List (Addr × (Heap → Prop))} (h : Rep K M H (.lam f as) v) : v = .ref f ∧ ∀ p ∈ as, ¬ M p.1 ∧ H p.1 = some (.ext p.2) := by unfold Rep at h; exact h
theorem rep_lam {f : Addr} {as : List (Addr × (Heap → Prop))} (h : ∀ p ∈ as, ¬ M p.1 ∧ H p.1 = some (.ext p.2)) : Rep K M H (.lam f as) (.ref f) := by unfold Rep; exact ⟨rfl, h⟩
theorem rep_dic {a : Addr} {us : List V} {ks : List Str} (m : ¬ M a) (l : us.length = ks.length) (t : H a = some (.dK ((ks.map Sum.inr).zip us))) (r : Reps K M H ds us) : Rep K M H (.dic ks ds) (.ref a) := by unfold Rep; exact ⟨a, us, rfl, m, l, t, r⟩
theorem rep_ins {a dx C : Addr} {us : List V} {ks : List Str} (m : ¬ M a) (l : us.length = ks.length) (t : H a = some (.ins C dx (ks.zip us))) (r : Reps K M H ds us) : Rep K M H (.ins C ks ds) (.ref a) := by unfold Rep; exact ⟨a, dx, us, rfl, m, l, t, r⟩
theorem rep_tup {a : Addr} {xs : List V} (t : TupM K M H a xs) (r : Reps K M H ds xs) : Rep K M H (.tup ds) (.ref a) := by unfold Rep; exact ⟨a, xs, rfl, t, r⟩
theorem rep_lst {a : Addr} {xs : List V} (t : LstM K M H a xs) (r : Reps K M H ds xs) : Rep K M H (.lst ds) (.ref a) := by unfold Rep; exact ⟨a, xs, rfl, t, r⟩
end

/-- a world: the cells that some defs change (A), and what holds of them -/
structure Wd where
  A : Addr → Prop
  I : Hp → Prop
  live : ∀ H a, I H → A a → H a ≠ none
  nx : ∀ H a φ, I H → A a → H a ≠ some (.ext φ)
  /-- what nobody changes -/
  B : Addr → Prop := fun _ => False
  liveB : ∀ H a, I H → B a → H a ≠ none := by exact fun _ _ _ z => False.elim z
  /-- what is in no mask -/
  C : Addr → Prop := fun _ => False
  cb : ∀ a, C a → B a := by exact fun _ z => False.elim z
  stay : ∀ H H' : Hp, I H → (∀ b, A b → H' b = H b) → (∀ b φ, H b = some (.ext φ) → H' b = some (.ext φ)) → (∀ b o, B b → H b = some o → H' b = some o) → I H'
  /-- what is fixed for a def's whole run (for one that raises) -/
  Mf : Addr → Prop := fun _ => False
  Hf : Hp := fun _ => none

def Full (H H' : Hp) : Prop := ∀ b o, H b = some o → H' b = some o
def Ext (W : Wd) (H H' : Hp) : Prop := ∀ b o, ¬ W.A b → H b = some o → H' b = some o
theorem Full.refl (H : Hp) : Full H H := fun _ _ h => h
theorem Full.trans {H H1 H2 : Hp} (a : Full H H1) (b : Full H1 H2) : Full H H2 := fun c o h => b c o (a c o h)
theorem Full.new {H : Hp} {p : Addr} {o : HO} (h : H p = none) : Full H (upd H p o) := fun a u e => by
  rw [upd_ne (ne_of_none e h)]
  exact e
theorem Full.ext {W : Wd} {H H' : Hp} (f : Full H H') : Ext W H H' := fun b o _ h => f b o h
theorem Wd.keep (W : Wd) (H H' : Hp) (h : W.I H) (f : ∀ b o, H b = some o → H' b = some o) : W.I H' := W.stay H H' h (fun b hb => by
  cases q : H b with
  | none => exact absurd q (W.live H b h hb)
  | some o => exact f b o q) (fun b φ e => f b _ e) fun b o _ e => f b o e
theorem Ext.refl {W : Wd} (H : Hp) : Ext W H H := fun _ _ _ h => h
theorem Ext.trans {W : Wd} {H H1 H2 : Hp} (a : Ext W H H1) (b : Ext W H1 H2) : Ext W H H2 := fun c o n h => b c o n (a c o n h)

/-- the mask fits the heap -/
structure MOk (W : Wd) (M : Addr → Prop) (H : Hp) : Prop where
  wm : ∀ a, W.A a → M a
  live : ∀ a, M a → H a ≠ none
  wi : W.I H
  nb : ∀ a, M a → ¬ W.C a
  nx : ∀ a φ, M a → H a ≠ some (.ext φ)
section
variable {K : PySem.W.Frag} {W : Wd} {M M' : Addr → Prop} {H H' : Hp} {ds : List D} {d : D} {v : V} {vs xs : List V} {p : Addr}
theorem MOk.ext (m : MOk W M H) (e : Ext W H H') (wi : W.I H') : MOk W M H' := by
  have nx : ∀ a φ, M a → H' a ≠ some (.ext φ) := fun a φ h z => by
    by_cases ha : W.A a
    · exact W.nx _ _ φ wi ha z
    · cases q : H a with
      | none => exact m.live a h q
      | some o => exact m.nx a φ h (by rw [e a o ha q] at z; rw [q, z])
  refine ⟨m.wm, fun a h => ?_, wi, m.nb, nx⟩
  by_cases ha : W.A a
  · exact W.live _ _ wi ha
  · intro z
    cases q : H a with
    | none => exact m.live a h q
    | some o => rw [e a o ha q] at z; cases z
theorem MOk.full (m : MOk W M H) (e : Full H H') : MOk W M H' := m.ext e.ext (W.keep _ _ m.wi e)
theorem MOk.car (m : MOk W M H) (e : Ext W H H') : Car M M H H' := fun b o n h => ⟨n, e b o (fun z => n (m.wm b z)) h⟩
theorem MOk.fresh (m : MOk W M H) (h : H p = none) : ¬ M p := fun z => m.live p z h
theorem Rep.ext (m : MOk W M H) (e : Ext W H H') (h : Rep K M H d v) : Rep K M H' d v := h.car (m.car e)
theorem Reps.ext (m : MOk W M H) (e : Ext W H H') (h : Reps K M H ds vs) : Reps K M H' ds vs := h.car (m.car e)
/-- a new tuple, a new list -/
theorem MOk.newT (m : MOk W M H) (h : H p = none) (r : Reps K M H ds xs) : Rep K M (upd H p (.tup xs)) (.tup ds) (.ref p) :=
  rep_tup (.inl ⟨m.fresh h, .inl upd_same⟩) (r.ext m (Full.new h).ext)
theorem MOk.newL (m : MOk W M H) (h : H p = none) (r : Reps K M H ds xs) : Rep K M (upd H p (.lst xs)) (.lst ds) (.ref p) :=
  rep_lst (.inl ⟨m.fresh h, .inl upd_same⟩) (r.ext m (Full.new h).ext)
end

/-! ### slots -/
inductive Sl where
  | un | d (x : D) | ml (xs : List D) | md (ks : List Str) (xs : List D) | mi (a C : Addr) (ks : List Str) (xs : List D)

def Mx (M0 : Addr → Prop) (oa : Nat → Option Addr) : Addr → Prop := fun a => M0 a ∨ ∃ i, oa i = some a
def SlotOk (K : PySem.W.Frag) (M : Addr → Prop) (H : Hp) (o : Option Addr) : Sl → Option (Option V) → Prop
  | .un, _ => o = none
  | .d x, u => o = none ∧ ∃ v, u = some (some v) ∧ Rep K M H x v
  | .ml ds, u => ∃ a xs, o = some a ∧ u = some (some (.ref a)) ∧ H a = some (.lst xs) ∧ Reps K M H ds xs
  | .md ks ds, u => ∃ (a : Addr) (us : List V), o = some a ∧ u = some (some (.ref a)) ∧ us.length = ks.length ∧ H a = some (.dK ((ks.map Sum.inr).zip us)) ∧ Reps K M H ds us
  | .mi a C ks ds, u => ∃ (dx : Addr) (us : List V), o = some a ∧ u = some (some (.ref a)) ∧ us.length = ks.length ∧ H a = some (.ins C dx (ks.zip us)) ∧ Reps K M H ds us
structure Sat (K : PySem.W.Frag) (W : Wd) (M0 : Addr → Prop) (H0 : Hp) (oa : Nat → Option Addr) (H : Hp) (σ : L2.St) (ds : List Sl) : Prop where
  wm : ∀ a, W.A a → M0 a
  live : ∀ a, M0 a → H0 a ≠ none
  ext : Ext W H0 H
  wi : W.I H
  ofr : ∀ i a, oa i = some a → H0 a = none ∧ ¬ M0 a
  inj : ∀ i j a, oa i = some a → oa j = some a → i = j
  len : ds.length = σ.length
  out : ∀ i, ds.length ≤ i → oa i = none
  slot : ∀ i s, ds[i]? = some s → SlotOk K (Mx M0 oa) H (oa i) s (σ[i]?)
  fm : ∀ a, W.Mf a → M0 a
  fh : Ext W W.Hf H0
  bl : ∀ a, W.B a → H0 a ≠ none
  nc : ∀ a, M0 a → ¬ W.C a
  nx : ∀ a φ, M0 a → H0 a ≠ some (.ext φ)
section
variable {K : PySem.W.Frag} {W : Wd} {M0 : Addr → Prop} {H0 H H' : Hp} {oa : Nat → Option Addr} {σ : L2.St} {ds : List Sl}
theorem SlotOk.own {M : Addr → Prop} {i : Option Addr} {s : Sl} {u : Option (Option V)} {a : Addr} (h : SlotOk K M H i s u) (e : i = some a) : ∃ ob, H a = some ob := by
  subst e
  cases s with
  | un => cases (show some a = none from h)
  | d x => cases (show some a = none ∧ _ from h).1
  | ml l =>
    obtain ⟨b, xs, e1, e2, e3, _⟩ := h
    cases e1
    exact ⟨_, e3⟩
  | md ks l =>
    obtain ⟨b, xs, e1, e2, e3, e4, _⟩ := h
    cases e1
    exact ⟨_, e4⟩
  | mi b C ks l =>
    obtain ⟨dx, xs, e1, e2, e3, e4, _⟩ := h
    cases e1
    exact ⟨_, e4⟩
theorem Sat.ownLive (S : Sat K W M0 H0 oa H σ ds) {i : Nat} {a : Addr} (h : oa i = some a) : ∃ ob, H a = some ob := by
  by_cases hi : i < ds.length
  · exact (S.slot i ds[i] (by simp [hi])).own h
  · rw [S.out i (by omega)] at h; cases h
theorem SlotOk.nx {M : Addr → Prop} {i : Option Addr} {s : Sl} {u : Option (Option V)} {a : Addr} (h : SlotOk K M H i s u) (e : i = some a) (φ : Heap → Prop) : H a ≠ some (.ext φ) := by
  subst e
  intro z
  cases s with
  | un => cases (show some a = none from h)
  | d x => cases (show some a = none ∧ _ from h).1
  | ml l =>
    obtain ⟨b, xs, e1, e2, e3, _⟩ := h
    cases e1
    rw [e3] at z; cases z
  | md ks l =>
    obtain ⟨b, xs, e1, e2, e3, e4, _⟩ := h
    cases e1
    rw [e4] at z; cases z
  | mi b C ks l =>
    obtain ⟨dx, xs, e1, e2, e3, e4, _⟩ := h
    cases e1
    rw [e4] at z; cases z
/-- no mask has a handle's object -/
theorem Sat.mnx (S : Sat K W M0 H0 oa H σ ds) (a : Addr) (φ : Heap → Prop) (h : Mx M0 oa a) : H a ≠ some (.ext φ) := by
  rcases h with h | ⟨i, h⟩
  · intro z
    by_cases ha : W.A a
    · exact W.nx _ _ φ S.wi ha z
    · cases q : H0 a with
      | none => exact S.live a h q
      | some o => exact S.nx a φ h (by rw [S.ext a o ha q] at z; rw [q, z])
  · by_cases hi : i < ds.length
    · exact (S.slot i ds[i] (by simp [hi])).nx h φ
    · rw [S.out i (by omega)] at h; cases h
theorem Sat.mok (S : Sat K W M0 H0 oa H σ ds) : MOk W (Mx M0 oa) H := by
  refine ⟨fun a h => .inl (S.wm a h), fun a h => ?_, S.wi, fun a h hC => h.elim (fun h => S.nc a h hC) fun ⟨i, z⟩ => S.bl a (W.cb a hC) (S.ofr i a z).1, S.mnx⟩
  rcases h with h | ⟨i, h⟩
  · by_cases ha : W.A a
    · exact W.live _ _ S.wi ha
    · intro z
      cases q : H0 a with
      | none => exact S.live a h q
      | some o => rw [S.ext a o ha q] at z; cases z
  · obtain ⟨xs, e⟩ := S.ownLive h
    rw [e]
    intro z
    cases z
theorem SlotOk.car {M M' : Addr → Prop} {o : Option Addr} {s : Sl} {u : Option (Option V)} (c : Car M M' H H') (ho : ∀ a ob, o = some a → H a = some ob → H' a = some ob) (h : SlotOk K M H o s u) : SlotOk K M' H' o s u := by
  cases s with
  | un => exact h
  | d x =>
    obtain ⟨e, v, e1, r⟩ := h
    exact ⟨e, v, e1, r.car c⟩
  | ml l =>
    obtain ⟨a, xs, e1, e2, e3, r⟩ := h
    exact ⟨a, xs, e1, e2, ho a _ e1 e3, r.car c⟩
  | md ks l =>
    obtain ⟨a, us, e1, e2, e3, e4, r⟩ := h
    exact ⟨a, us, e1, e2, e3, ho a _ e1 e4, r.car c⟩
  | mi a C ks l =>
    obtain ⟨dx, us, e1, e2, e3, e4, r⟩ := h
    exact ⟨dx, us, e1, e2, e3, ho a _ e1 e4, r.car c⟩
theorem Sat.own_nA (S : Sat K W M0 H0 oa H σ ds) {i : Nat} {a : Addr} (h : oa i = some a) : ¬ W.A a := fun z => (S.ofr i a h).2 (S.wm a z)
/-- the heap grows, the world turns -/
theorem Sat.step (S : Sat K W M0 H0 oa H σ ds) (e : Ext W H H') (wi : W.I H') : Sat K W M0 H0 oa H' σ ds :=
  ⟨S.wm, S.live, S.ext.trans e, wi, S.ofr, S.inj, S.len, S.out, fun i s h => (S.slot i s h).car (S.mok.car e) fun a xs h1 h2 => e a _ (S.own_nA h1) h2, S.fm, S.fh, S.bl, S.nc, S.nx⟩
theorem Sat.full (S : Sat K W M0 H0 oa H σ ds) (e : Full H H') : Sat K W M0 H0 oa H' σ ds := S.step e.ext (W.keep _ _ S.wi e)
theorem Sat.get (S : Sat K W M0 H0 oa H σ ds) {i : Nat} {x : D} (h : ds[i]? = some (.d x)) : ∃ v, σ[i]? = some (some v) ∧ Rep K (Mx M0 oa) H x v := (S.slot i _ h).2
/-- a store of data -/
def oaDel (oa : Nat → Option Addr) (i : Nat) : Nat → Option Addr := fun j => if j = i then none else oa j
theorem oaDel_some {oa : Nat → Option Addr} {i j : Nat} {a : Addr} (h : oaDel oa i j = some a) : j ≠ i ∧ oa j = some a := by
  unfold oaDel at h
  by_cases e : j = i
  · rw [if_pos e] at h; cases h
  · rw [if_neg e] at h; exact ⟨e, h⟩
theorem mx_del {i : Nat} {a : Addr} (h : Mx M0 (oaDel oa i) a) : Mx M0 oa a := by
  rcases h with h | ⟨j, h⟩
  · exact .inl h
  · exact .inr ⟨j, (oaDel_some h).2⟩
theorem car_del {i : Nat} : Car (Mx M0 oa) (Mx M0 (oaDel oa i)) H H := fun b o n h => ⟨fun z => n (mx_del z), h⟩
theorem Sat.set (S : Sat K W M0 H0 oa H σ ds) {i : Nat} {x : D} {v : V} (r : Rep K (Mx M0 oa) H x v) : Sat K W M0 H0 (oaDel oa i) H (σ.set i (some v)) (ds.set i (.d x)) := by
  refine ⟨S.wm, S.live, S.ext, S.wi, fun j a h => S.ofr j a (oaDel_some h).2, fun j k a h1 h2 => S.inj j k a (oaDel_some h1).2 (oaDel_some h2).2, by simp [S.len], fun j hj => ?_, fun j s h => ?_, S.fm, S.fh, S.bl, S.nc, S.nx⟩
  · have q := S.out j (by simpa using hj)
    unfold oaDel
    split
    · rfl
    · exact q
  · by_cases e : j = i
    · subst e
      have hl : j < ds.length := by
        have := (List.getElem?_eq_some_iff.mp h).1
        simpa using this
      rw [List.getElem?_set_self hl] at h
      cases h
      refine ⟨by unfold oaDel; simp, v, ?_, r.car car_del⟩
      rw [List.getElem?_set_self (by rw [← S.len]; exact hl)]
    · rw [List.getElem?_set_ne (Ne.symm e)] at h
      rw [List.getElem?_set_ne (Ne.symm e)]
      have q := S.slot j s h
      have e2 : oaDel oa i j = oa j := by unfold oaDel; rw [if_neg e]
      rw [e2]
      exact q.car car_del fun a xs _ z => z
/-- a new list that the def keeps for itself -/
def oaPut (oa : Nat → Option Addr) (i : Nat) (p : Addr) : Nat → Option Addr := fun j => if j = i then some p else oa j
theorem Sat.setown (S : Sat K W M0 H0 oa H σ ds) {i : Nat} {p : Addr} {sl : Sl} (hi : i < ds.length) (h0 : H0 p = none) (hm : ¬ Mx M0 oa p) (hsl : SlotOk K (Mx M0 (oaPut oa i p)) H (some p) sl (some (some (.ref p))))
    (hr : ∀ j s, j ≠ i → ds[j]? = some s → SlotOk K (Mx M0 (oaPut oa i p)) H (oa j) s (σ[j]?)) : Sat K W M0 H0 (oaPut oa i p) H (σ.set i (some (.ref p))) (ds.set i sl) := by
  have hs : ∀ j a, oaPut oa i p j = some a → (j = i ∧ a = p) ∨ (j ≠ i ∧ oa j = some a) := fun j a h => by
    unfold oaPut at h
    by_cases e : j = i
    · rw [if_pos e] at h; cases h; exact .inl ⟨e, rfl⟩
    · rw [if_neg e] at h; exact .inr ⟨e, h⟩
  refine ⟨S.wm, S.live, S.ext, S.wi, fun j a h => ?_, fun j k a h1 h2 => ?_, by simp [S.len], fun j hj => ?_, fun j s h => ?_, S.fm, S.fh, S.bl, S.nc, S.nx⟩
  · rcases hs j a h with ⟨_, e⟩ | ⟨_, e⟩
    · subst e; exact ⟨h0, fun z => hm (.inl z)⟩
    · exact S.ofr j a e
  · rcases hs j a h1 with ⟨e1, e2⟩ | ⟨e1, e2⟩
    · rcases hs k a h2 with ⟨e3, e4⟩ | ⟨e3, e4⟩
      · rw [e1, e3]
      · subst e2; exact absurd (.inr ⟨k, e4⟩) hm
    · rcases hs k a h2 with ⟨e3, e4⟩ | ⟨e3, e4⟩
      · subst e4; exact absurd (.inr ⟨j, e2⟩) hm
      · exact S.inj j k a e2 e4
  · have hj' : ds.length ≤ j := by simpa using hj
    unfold oaPut
    rw [if_neg (by omega)]
    exact S.out j hj'
  · by_cases e : j = i
    · subst e
      rw [List.getElem?_set_self hi] at h
      cases h
      rw [List.getElem?_set_self (by rw [← S.len]; exact hi)]
      have e2 : oaPut oa j p j = some p := by unfold oaPut; simp
      rw [e2]
      exact hsl
    · rw [List.getElem?_set_ne (Ne.symm e)] at h
      rw [List.getElem?_set_ne (Ne.symm e)]
      have e2 : oaPut oa i p j = oa j := by unfold oaPut; rw [if_neg e]
      rw [e2]
      exact hr j s e h
end
end VL

set_option Elab.async false
set_option linter.all false
set_option maxRecDepth 100000
set_option maxHeartbeats 2000000
/-! VB: expressions and tests over plain data. -/
namespace VL
open PySem PySem.Spec PyProof.Rows L2

abbrev WE := List Sl → (D → Prop) → Prop
abbrev WT := List Sl → (Bool → Prop) → Prop
abbrev WL := List Sl → (List D → Prop) → Prop
def LE (K : PySem.W.Frag) (W : Wd) (w : WE) : TE := fun σ H Q => ∃ M0 H0 oa ds P, Sat K W M0 H0 oa H σ ds ∧ w ds P ∧ ∀ d v H', P d → Ext W H H' → W.I H' → Rep K (Mx M0 oa) H' d v → Q v H'
def LT (K : PySem.W.Frag) (W : Wd) (w : WT) : TT := fun σ H Q => ∃ M0 H0 oa ds P, Sat K W M0 H0 oa H σ ds ∧ w ds P ∧ ∀ b H', P b → Ext W H H' → W.I H' → Q b H'
def LA (K : PySem.W.Frag) (W : Wd) (w : WL) : TA := fun σ H Q => ∃ M0 H0 oa ds P, Sat K W M0 H0 oa H σ ds ∧ w ds P ∧ ∀ xs vs H', P xs → Ext W H H' → W.I H' → Reps K (Mx M0 oa) H' xs vs → Q vs H'
abbrev VE (X : Cx) (W : Wd) (e : Expr) (w : WE) : Prop := PE X e (LE X.K W w)
abbrev VT (X : Cx) (W : Wd) (e : Expr) (w : WT) : Prop := PT X e (LT X.K W w)
abbrev VA (X : Cx) (W : Wd) (es : List Expr) (w : WL) : Prop := PA X es (LA X.K W w)

section
variable {X : Cx} {e : Expr} {es : List Expr}
theorem pe_imp {t t' : TE} (h : PE X e t) (f : ∀ σ H Q, t' σ H Q → t σ H Q) : PE X e t' := ⟨fun pins s σ H Q I hw => h.run pins s σ H Q I (f σ H Q hw)⟩
theorem pt_imp {t t' : TT} (h : PT X e t) (f : ∀ σ H Q, t' σ H Q → t σ H Q) : PT X e t' := ⟨fun pins s σ H Q I hw => h.run pins s σ H Q I (f σ H Q hw)⟩
theorem pw_imp {t t' : TT} (h : PW X e t) (f : ∀ σ H Q, t' σ H Q → t σ H Q) : PW X e t' := ⟨fun wh pins s σ H Q I hw => h.run wh pins s σ H Q I (f σ H Q hw)⟩
theorem pa_imp {t t' : TA} (h : PA X es t) (f : ∀ σ H Q, t' σ H Q → t σ H Q) : PA X es t' := ⟨fun pos pins s σ H Q I hw => h.run pos pins s σ H Q I (f σ H Q hw)⟩
end

/-! ### names and constants -/
def slD : Sl → (D → Prop) → Prop
  | .d x, P => P x
  | _, _ => False
def wVar (i : Nat) : WE := fun ds P => slD (ds.getD i .un) P
def wC (d : D) : WE := fun _ P => P d
theorem slD_of {s : Sl} {P : D → Prop} (h : slD s P) : ∃ x, s = .d x ∧ P x := by
  cases s with
  | un => exact h.elim
  | d x => exact ⟨x, rfl, h⟩
  | ml l => exact h.elim
  | md k l => exact h.elim
  | mi a C k l => exact h.elim
theorem getD_get {ds : List Sl} {i : Nat} {x : D} (h : ds.getD i .un = .d x) : ds[i]? = some (.d x) := by
  rw [List.getD_eq_getElem?_getD] at h
  cases e : ds[i]? with
  | none => rw [e] at h; cases h
  | some s => rw [e] at h; exact congrArg some h
section
variable {X : Cx} {W : Wd} {e a b c : Expr} {es rest : List Expr} {pos : Pos}
theorem ve_var (i : Nat) {x : Str} (hN : X.N[i]? = some x := by rfl) (hv : Vis X.env.scope x := by first | exact Or.inl rfl | exact Or.inr (Or.inl rfl) | exact Or.inr (Or.inr rfl)) (hd : (x == ("__debug__" : Str)) = false := by decide)
    (hcd : (x == ("__classdict__" : Str)) = false := by decide) : VE X W (.Name x pos) (wVar i) := pe_imp (pe_var hN hv hd hcd) fun σ H Q ⟨M0, H0, oa, ds, P, S, hw, k⟩ => by
  obtain ⟨x, e, hp⟩ := slD_of hw
  obtain ⟨v, h1, r⟩ := S.get (getD_get e)
  exact ⟨v, h1, k x v H hp (Ext.refl H) S.wi r⟩
/-- a value that is what it is in every heap -/
def Flat (K : PySem.W.Frag) (d : D) (v : V) : Prop := ∀ M H, Rep K M H d v
theorem ve_c {d : D} {v : V} (h : PE X e (tC v)) (f : Flat X.K d v) : VE X W e (wC d) := pe_imp h fun σ H Q ⟨M0, H0, oa, ds, P, S, hw, k⟩ => k d v H hw (Ext.refl H) S.wi (f _ _)
theorem ve_int {i j} : VE X W (.Constant (.int i) j pos) (wC (.int i)) := ve_c pe_int fun _ _ => rep_int
theorem ve_bl {i j} : VE X W (.Constant (.bool i) j pos) (wC (.bl i)) := ve_c pe_bl fun _ _ => rep_bl
theorem ve_non {j} : VE X W (.Constant .none j pos) (wC .non) := ve_c pe_non fun _ _ => rep_non
theorem ve_str {i j} : VE X W (.Constant (.str i) j pos) (wC (.str i)) := ve_c pe_str fun _ _ => rep_str
theorem ve_glob {x : Str} {d : D} {v : V} {u : Value} (hg : Gl X x) (hm : X.mg x = some u) (r : RelV v u) (f : Flat X.K d v) (hd : (x == ("__debug__" : Str)) = false := by decide) : VE X W (.Name x pos) (wC d) := ve_c (pe_glob hg hm r hd) f
theorem ve_ty {x : Str} {n : String} (hg : Gl X x) (hm : X.mg x = none) (hv : bootBuiltins x = some (.type n)) (hn : x ≠ "__name__" := by decide) (hd : (x == ("__debug__" : Str)) = false := by decide) : VE X W (.Name x pos) (wC (.hnd (.ty n))) :=
  ve_c (pe_bltn (v := .ty n) hg hm hv rfl hn hd) fun _ _ => rep_hnd

/-! ### two-place operations -/
def LiftOp (K : PySem.W.Frag) (W : Wd) (f : D → D → (D → Prop) → Prop) (r : R2) : Prop :=
  ∀ (M : Addr → Prop) (H : Hp) (x y : D) (v u : V) (P : D → Prop) (Q : VK), MOk W M H → Rep K M H x v → Rep K M H y u → f x y P → (∀ d z H', P d → Ext W H H' → W.I H' → Rep K M H' d z → Q z H') → r v u H Q
def wOp (f : D → D → (D → Prop) → Prop) (wa wb : WE) : WE := fun ds P => wa ds fun x => wb ds fun y => f x y P
theorem le_op {K : PySem.W.Frag} {f : D → D → (D → Prop) → Prop} {r : R2} {wa wb : WE} (hf : LiftOp K W f r) (σ : L2.St) (H : Hp) (Q : VK) (h : LE K W (wOp f wa wb) σ H Q) : tOp r (LE K W wa) (LE K W wb) σ H Q := by
  obtain ⟨M0, H0, oa, ds, P, S, hw, k⟩ := h
  refine ⟨M0, H0, oa, ds, _, S, hw, fun x v H1 hx e1 i1 r1 => ?_⟩
  refine ⟨M0, H0, oa, ds, _, S.step e1 i1, hx, fun y u H2 hy e2 i2 r2 => ?_⟩
  have S2 := (S.step e1 i1).step e2 i2
  exact hf (Mx M0 oa) H2 x y v u P Q S2.mok (r1.ext (S.step e1 i1).mok e2) r2 hy fun d z H' hp e i r => k d z H' hp ((e1.trans e2).trans e) i r
theorem ve_op {op : Operator} {f : D → D → (D → Prop) → Prop} {r : R2} {wa wb : WE} (ho : OpR X (binaryOp op) r) (hf : LiftOp X.K W f r) (ha : VE X W a wa) (hb : VE X W b wb) : VE X W (.BinOp a op b pos) (wOp f wa wb) :=
  pe_imp (pe_op ho ha hb) (le_op hf)
theorem ve_cmp {op : CmpOp} {f : D → D → (D → Prop) → Prop} {r : R2} {wa wb : WE} (ho : OpR X (compareOp op) r) (hf : LiftOp X.K W f r) (ha : VE X W a wa) (hb : VE X W b wb) (hm : behindInMarks op b = false) : VE X W (.Compare a [op] [b] pos) (wOp f wa wb) :=
  pe_imp (pe_cmpR ho ha hb hm) (le_op hf)
/-- a value that is a bool -/
def asBl : D → (Bool → Prop) → Prop
  | .bl b, P => P b
  | _, _ => False
theorem asBl_of {d : D} {P : Bool → Prop} (h : asBl d P) : ∃ b, d = .bl b ∧ P b := by
  cases d with
  | bl b => exact ⟨b, rfl, h⟩
  | _ => exact h.elim
def wTest (w : WE) : WT := fun ds P => w ds fun d => asBl d P
theorem lt_test {K : PySem.W.Frag} {w : WE} (σ : L2.St) (H : Hp) (Q : Bool → Hp → Prop) (h : LT K W (wTest w) σ H Q) : tB (LE K W w) σ H Q := by
  obtain ⟨M0, H0, oa, ds, P, S, hw, k⟩ := h
  refine ⟨M0, H0, oa, ds, _, S, hw, fun x v H1 hx e1 i1 r1 => ?_⟩
  obtain ⟨b, rfl, hb⟩ := asBl_of hx
  exact ⟨b, r1.bl, k b H1 hb e1 i1⟩
theorem vt_val {w : WE} (h : VE X W e w) (he : ∀ whole, isTrue e X.env whole = (do let v ← whole; standAt e.pos; holding [v] (truthy v)) := by intro _; rfl) : VT X W e (wTest w) := pt_imp (pt_val h he) lt_test
theorem vt_cmp {op : CmpOp} {f : D → D → (D → Prop) → Prop} {r : R2} {wa wb : WE} (ho : OpR X (compareOp op) r) (hf : LiftOp X.K W f r) (ha : VE X W a wa) (hb : VE X W b wb) (hm : behindInMarks op b = false) : VT X W (.Compare a [op] [b] pos) (wTest (wOp f wa wb)) := by
  refine pt_imp (pt_cmpR ho ha hb hm) fun σ H Q h => ?_
  obtain ⟨M0, H0, oa, ds, P, S, hw, k⟩ := h
  show tOp r _ _ σ H _
  refine le_op hf σ H _ ⟨M0, H0, oa, ds, _, S, hw, fun x v H1 hx e1 i1 r1 => ?_⟩
  obtain ⟨b, rfl, hb⟩ := asBl_of hx
  exact ⟨b, r1.bl, k b H1 hb e1 i1⟩

/-- int + int, text + text, list + list, tuple + tuple -/
def addD : D → D → (D → Prop) → Prop
  | .int i, .int j, P => P (.int (i + j))
  | .str i, .str j, P => i.length + j.length ≤ sizeLine ∧ P (.str (i ++ j))
  | _, _, _ => False
def rAddA : R2 := fun x y H Q => (rI0 fun i j => .int (i + j)) x y H Q ∨ (∃ i j, x = .str i ∧ y = .str j ∧ i.length + j.length ≤ sizeLine ∧ Q (.str (i ++ j)) H)
theorem OpR.or {f : Value → Value → Sem Value} {r r' : R2} (h : OpR X f r) (h' : OpR X f r') : OpR X f (fun x y H Q => r x y H Q ∨ r' x y H Q) := by
  intro pins s σ H x y v u Q I r1 r2 q
  rcases q with q | q
  · exact h pins s σ H x y v u Q I r1 r2 q
  · exact h' pins s σ H x y v u Q I r1 r2 q
theorem op_addA : OpR X (binaryOp .Add) rAddA := OpR.or op_add op_add_str
theorem lift_add {K : PySem.W.Frag} : LiftOp K W addD rAddA := by
  intro M H x y v u P Q m r1 r2 h k
  cases x <;> cases y <;> first
    | exact h.elim
    | (rename_i i j; exact .inl ⟨i, j, r1.int, r2.int, k _ _ H h (Ext.refl H) m.wi rep_int⟩)
    | (rename_i i j; exact .inr ⟨i, j, r1.str, r2.str, h.1, k _ _ H h.2 (Ext.refl H) m.wi rep_str⟩)
/-- ints in, under C, a value out -/
def iiD (C : Int → Int → Prop) (g : Int → Int → D) : D → D → (D → Prop) → Prop
  | .int i, .int j, P => C i j ∧ P (g i j)
  | _, _, _ => False
theorem lift_ii {K : PySem.W.Frag} {C : Int → Int → Prop} {g : Int → Int → Int} : LiftOp K W (iiD C fun i j => .int (g i j)) (rI C fun i j => .int (g i j)) := by
  intro M H x y v u P Q m r1 r2 h k
  cases x <;> cases y <;> first
    | exact h.elim
    | (rename_i i j; exact ⟨i, j, r1.int, r2.int, h.1, k _ _ H h.2 (Ext.refl H) m.wi rep_int⟩)
def ii0 (g : Int → Int → D) : D → D → (D → Prop) → Prop
  | .int i, .int j, P => P (g i j)
  | _, _, _ => False
theorem lift_ii0 {K : PySem.W.Frag} {g : Int → Int → Int} : LiftOp K W (ii0 fun i j => .int (g i j)) (rI0 fun i j => .int (g i j)) := by
  intro M H x y v u P Q m r1 r2 h k
  cases x <;> cases y <;> first
    | exact h.elim
    | (rename_i i j; exact ⟨i, j, r1.int, r2.int, k _ _ H h (Ext.refl H) m.wi rep_int⟩)
theorem lift_iib {K : PySem.W.Frag} {g : Int → Int → Bool} : LiftOp K W (ii0 fun i j => .bl (g i j)) (rI0 fun i j => .bl (g i j)) := by
  intro M H x y v u P Q m r1 r2 h k
  cases x <;> cases y <;> first
    | exact h.elim
    | (rename_i i j; exact ⟨i, j, r1.int, r2.int, k _ _ H h (Ext.refl H) m.wi rep_bl⟩)
def CFdiv (_ j : Int) : Prop := j ≠ 0 ∧ j.natAbs.log2 < 9000
theorem op_fdivA : OpR X (binaryOp .FloorDiv) (rI CFdiv fun i j => .int (i.fdiv j)) := opI fun i j _ _ _ _ _ hc q => floordiv_int hc.1 q (.inl (PyProof.noPylong_of_log2 hc.2))
abbrev subD : D → D → (D → Prop) → Prop := ii0 fun i j => .int (i - j)
abbrev mulD : D → D → (D → Prop) → Prop := iiD CMulW fun i j => .int (i * j)
abbrev fdivD : D → D → (D → Prop) → Prop := iiD CFdiv fun i j => .int (i.fdiv j)
abbrev modD : D → D → (D → Prop) → Prop := iiD (fun _ j => j ≠ 0) fun i j => .int (i.fmod j)
abbrev powD : D → D → (D → Prop) → Prop := iiD CPow fun i j => .int (i ^ j.toNat)
theorem ve_add {wa wb : WE} (ha : VE X W a wa) (hb : VE X W b wb) : VE X W (.BinOp a .Add b pos) (wOp addD wa wb) := ve_op op_addA lift_add ha hb
theorem ve_sub {wa wb : WE} (ha : VE X W a wa) (hb : VE X W b wb) : VE X W (.BinOp a .Sub b pos) (wOp subD wa wb) := ve_op op_sub lift_ii0 ha hb
theorem ve_mul {wa wb : WE} (ha : VE X W a wa) (hb : VE X W b wb) : VE X W (.BinOp a .Mult b pos) (wOp mulD wa wb) := ve_op op_mulW lift_ii ha hb
theorem ve_fdiv {wa wb : WE} (ha : VE X W a wa) (hb : VE X W b wb) : VE X W (.BinOp a .FloorDiv b pos) (wOp fdivD wa wb) := ve_op op_fdivA lift_ii ha hb
theorem ve_mod {wa wb : WE} (ha : VE X W a wa) (hb : VE X W b wb) : VE X W (.BinOp a .Mod b pos) (wOp modD wa wb) := ve_op op_modN lift_ii ha hb
theorem ve_pow {wa wb : WE} (ha : VE X W a wa) (hb : VE X W b wb) : VE X W (.BinOp a .Pow b pos) (wOp powD wa wb) := ve_op op_pow lift_ii ha hb

/-- an if whose test is not known -/
theorem vif {b : Bool} {A B : Prop} (h1 : b = true → A) (h0 : b = false → B) : if b = true then A else B := by
  cases b with
  | true => exact iteT (h1 rfl)
  | false => exact iteF (h0 rfl)
theorem vifd {p : Prop} {dp : Decidable p} {A B : Prop} (h1 : p → A) (h0 : ¬ p → B) : if decide p = true then A else B := vif (fun e => h1 (of_decide_eq_true e)) fun e => h0 (of_decide_eq_false e)
theorem vifn {p : Prop} {dp : Decidable p} {A B : Prop} (h1 : ¬ p → A) (h0 : p → B) : if (!decide p) = true then A else B := vif (fun e => h1 (by simpa using e)) fun e => h0 (by simpa using e)

/-! ### comparisons -/
def ltD : D → D → (D → Prop) → Prop
  | .int i, .int j, P => P (.bl (decide (i < j)))
  | .str i, .str j, P => P (.bl (decide (i.cps.toList < j.cps.toList)))
  | _, _, _ => False
def rLtA : R2 := fun x y H Q => (rI0 fun i j => .bl (decide (i < j))) x y H Q ∨ (∃ i j, x = .str i ∧ y = .str j ∧ Q (.bl (decide (i.cps.toList < j.cps.toList))) H)
theorem lift_lt {K : PySem.W.Frag} : LiftOp K W ltD rLtA := by
  intro M H x y v u P Q m r1 r2 h k
  cases x <;> cases y <;> first
    | exact h.elim
    | (rename_i i j; exact .inl ⟨i, j, r1.int, r2.int, k _ _ H h (Ext.refl H) m.wi rep_bl⟩)
    | (rename_i i j; exact .inr ⟨i, j, r1.str, r2.str, k _ _ H h (Ext.refl H) m.wi rep_bl⟩)
abbrev leD : D → D → (D → Prop) → Prop := ii0 fun i j => .bl (decide (i ≤ j))
abbrev gtD : D → D → (D → Prop) → Prop := ii0 fun i j => .bl (decide (j < i))
abbrev geD : D → D → (D → Prop) → Prop := ii0 fun i j => .bl (decide (j ≤ i))
mutual
def toPy : D → PyData
  | .non => .none
  | .bl b => .bool b
  | .int i => .int i
  | .str x => .str x
  | .hnd _ => .dict []
  | .dic _ _ => .dict []
  | .ins _ _ _ => .dict []
  | .lam _ _ => .dict []
  | .tup ds => .tuple (toPys ds)
  | .lst ds => .list (toPys ds)
def toPys : List D → List PyData
  | [] => []
  | d :: ds => toPy d :: toPys ds
end
mutual
theorem dp_of {K : PySem.W.Frag} {M : Addr → Prop} {H : Hp} : ∀ {d : D} {v : V}, Rep K M H d v → (toPy d).canLay0 = true → Dp K H v (toPy d)
  | .non, _, h, _ => by rw [h.non]; unfold toPy; exact .non
  | .bl _, _, h, _ => by rw [h.bl]; unfold toPy; exact .bl _
  | .int _, _, h, _ => by rw [h.int]; unfold toPy; exact .int _
  | .str _, _, h, _ => by rw [h.str]; unfold toPy; exact .str _
  | .hnd _, _, _, c => by unfold toPy PyData.canLay0 at c; cases c
  | .dic _ _, _, _, c => by unfold toPy PyData.canLay0 at c; cases c
  | .ins _ _ _, _, _, c => by unfold toPy PyData.canLay0 at c; cases c
  | .lam _ _, _, _, c => by unfold toPy PyData.canLay0 at c; cases c
  | .tup _, _, h, c => by
    obtain ⟨a, xs, rfl, t, r⟩ := h.tup
    unfold toPy
    unfold toPy PyData.canLay0 at c
    exact .tup t.sq (dps_of r c)
  | .lst _, _, h, c => by
    obtain ⟨a, xs, rfl, t, r⟩ := h.lst
    unfold toPy
    unfold toPy PyData.canLay0 at c
    exact .lst t.sq (dps_of r c)
theorem dps_of {K : PySem.W.Frag} {M : Addr → Prop} {H : Hp} : ∀ {ds : List D} {vs : List V}, Reps K M H ds vs → PyData.canLayAll0 (toPys ds) = true → DpAll K H vs (toPys ds)
  | [], _, h, _ => by rw [h.inv0]; unfold toPys; exact .nil
  | _ :: _, _, h, c => by
    obtain ⟨v, vs, rfl, h1, h2⟩ := h.inv
    unfold toPys
    unfold toPys PyData.canLayAll0 at c
    obtain ⟨c1, c2⟩ := Bool.and_eq_true_iff.mp c
    exact .cons (dp_of h1 c1) (dps_of h2 c2)
end
/-- data that == may be asked of -/
def shp (d : D) : Bool := SeqAt.shaped (toPy d)
def eqv (x y : D) : Bool := PyData.eqv (toPy x) (toPy y)
def eqD : D → D → (D → Prop) → Prop
  | .int i, .int j, P => P (.bl (decide (i = j)))
  | .str i, .str j, P => P (.bl (decide (i = j)))
  | .bl i, .bl j, P => P (.bl (decide (i = j)))
  | x, y, P => shp x = true ∧ shp y = true ∧ P (.bl (eqv x y))
def neD : D → D → (D → Prop) → Prop
  | .int i, .int j, P => P (.bl (!decide (i = j)))
  | .str i, .str j, P => P (.bl (!decide (i = j)))
  | .bl i, .bl j, P => P (.bl (!decide (i = j)))
  | x, y, P => shp x = true ∧ shp y = true ∧ P (.bl (!eqv x y))
def rEqA (K : PySem.W.Frag) : R2 := fun x y H Q => rEq x y H Q ∨ rEqD K x y H Q
def rNeA (K : PySem.W.Frag) : R2 := fun x y H Q => rNe x y H Q ∨ rNeD K x y H Q
theorem dec_v {i j : Int} : decide (V.int i = V.int j) = decide (i = j) := by simp
theorem dec_s {i j : Str} : decide (V.str i = V.str j) = decide (i = j) := by simp
theorem dec_b {i j : Bool} : decide (V.bl i = V.bl j) = decide (i = j) := by simp
theorem lift_eq {K : PySem.W.Frag} : LiftOp K W eqD (rEqA K) := by
  intro M H x y v u P Q m r1 r2 h k
  unfold eqD at h
  split at h
  · rename_i i j
    have e1 := r1.int
    have e2 := r2.int
    subst e1 e2
    exact .inl ⟨rfl, by rw [dec_v]; exact k _ _ H h (Ext.refl H) m.wi rep_bl⟩
  · rename_i i j
    have e1 := r1.str
    have e2 := r2.str
    subst e1 e2
    exact .inl ⟨rfl, by rw [dec_s]; exact k _ _ H h (Ext.refl H) m.wi rep_bl⟩
  · rename_i i j
    have e1 := r1.bl
    have e2 := r2.bl
    subst e1 e2
    exact .inl ⟨rfl, by rw [dec_b]; exact k _ _ H h (Ext.refl H) m.wi rep_bl⟩
  · obtain ⟨h1, h2, h⟩ := h
    exact .inr ⟨toPy x, toPy y, dp_of r1 (SeqAt.canLay_of_shaped h1), dp_of r2 (SeqAt.canLay_of_shaped h2), h1, h2, k _ _ H h (Ext.refl H) m.wi rep_bl⟩
theorem lift_ne {K : PySem.W.Frag} : LiftOp K W neD (rNeA K) := by
  intro M H x y v u P Q m r1 r2 h k
  unfold neD at h
  split at h
  · rename_i i j
    have e1 := r1.int
    have e2 := r2.int
    subst e1 e2
    exact .inl ⟨rfl, by rw [dec_v]; exact k _ _ H h (Ext.refl H) m.wi rep_bl⟩
  · rename_i i j
    have e1 := r1.str
    have e2 := r2.str
    subst e1 e2
    exact .inl ⟨rfl, by rw [dec_s]; exact k _ _ H h (Ext.refl H) m.wi rep_bl⟩
  · rename_i i j
    have e1 := r1.bl
    have e2 := r2.bl
    subst e1 e2
    exact .inl ⟨rfl, by rw [dec_b]; exact k _ _ H h (Ext.refl H) m.wi rep_bl⟩
  · obtain ⟨h1, h2, h⟩ := h
    exact .inr ⟨toPy x, toPy y, dp_of r1 (SeqAt.canLay_of_shaped h1), dp_of r2 (SeqAt.canLay_of_shaped h2), h1, h2, k _ _ H h (Ext.refl H) m.wi rep_bl⟩
theorem op_eqA (hu : X.A.units + 64 < cLine) : OpR X (compareOp .Eq) (rEqA X.K) := OpR.or op_eq (op_eqD hu)
theorem op_neA (hu : X.A.units + 64 < cLine) : OpR X (compareOp .NotEq) (rNeA X.K) := OpR.or op_ne (op_neD hu)
/-- x in xs, flat things -/
def flatD : D → Bool
  | .non | .bl _ | .int _ | .str _ => true
  | _ => false
def fV : D → V
  | .non => .non
  | .bl b => .bl b
  | .int i => .int i
  | .str x => .str x
  | .hnd v => v
  | _ => .non
theorem Rep.flat {K : PySem.W.Frag} {M : Addr → Prop} {H : Hp} {d : D} {v : V} (h : Rep K M H d v) (f : flatD d = true) : v = fV d := by
  cases d with
  | non => exact h.non
  | bl => exact h.bl
  | int => exact h.int
  | str => exact h.str
  | _ => cases f
theorem Reps.flat {K : PySem.W.Frag} {M : Addr → Prop} {H : Hp} : ∀ {ds : List D} {vs : List V}, Reps K M H ds vs → ds.all flatD = true → vs = ds.map fV
  | [], _, h, _ => h.inv0
  | _ :: _, _, h, f => by
    obtain ⟨v, vs, rfl, h1, h2⟩ := h.inv
    obtain ⟨f1, f2⟩ := Bool.and_eq_true_iff.mp f
    rw [h1.flat f1, Reps.flat h2 f2]
    rfl
theorem flat_v {d : D} (f : flatD d = true) : flatV (fV d) = true := by
  cases d <;> first | rfl | cases f
theorem flat_vs : ∀ {ds : List D}, ds.all flatD = true → (ds.map fV).all flatV = true
  | [], _ => rfl
  | _ :: _, f => by
    obtain ⟨f1, f2⟩ := Bool.and_eq_true_iff.mp f
    show (flatV _ && (List.map fV _).all flatV) = true
    rw [flat_v f1, flat_vs f2]
    rfl
def inD (neg : Bool) : D → D → (D → Prop) → Prop
  | x, .lst xs, P => flatD x = true ∧ xs.all flatD = true ∧ P (.bl (if neg then !inV (fV x) (xs.map fV) else inV (fV x) (xs.map fV)))
  | x, .tup xs, P => flatD x = true ∧ xs.all flatD = true ∧ P (.bl (if neg then !inV (fV x) (xs.map fV) else inV (fV x) (xs.map fV)))
  | _, _, _ => False
theorem lift_in {K : PySem.W.Frag} {neg : Bool} : LiftOp K W (inD neg) (rIn K neg) := by
  intro M H x y v u P Q m r1 r2 h k
  cases y with
  | lst xs =>
    obtain ⟨h1, h2, h3⟩ := h
    obtain ⟨a, vs, rfl, t, r⟩ := r2.lst
    have e1 := r1.flat h1
    have e2 := r.flat h2
    subst e1 e2
    exact ⟨a, _, rfl, .inl t.sq, flat_v h1, flat_vs h2, k _ _ H h3 (Ext.refl H) m.wi rep_bl⟩
  | tup xs =>
    obtain ⟨h1, h2, h3⟩ := h
    obtain ⟨a, vs, rfl, t, r⟩ := r2.tup
    have e1 := r1.flat h1
    have e2 := r.flat h2
    subst e1 e2
    exact ⟨a, _, rfl, .inr t.sq, flat_v h1, flat_vs h2, k _ _ H h3 (Ext.refl H) m.wi rep_bl⟩
  | _ => cases x <;> exact h.elim
/-- one sign in a text -/
def inSgn (neg : Bool) : D → D → (D → Prop) → Prop
  | .str c, .str z, P => ∃ n, c = ⟨#[n]⟩ ∧ P (.bl (if neg then !decide (n ∈ z.cps.toList) else decide (n ∈ z.cps.toList)))
  | _, _, _ => False
theorem lift_inS {K : PySem.W.Frag} : LiftOp K W (inSgn false) (fun x y H Q => ∃ (c : Nat) (z : Str), x = .str ⟨#[c]⟩ ∧ y = .str z ∧ Q (.bl (decide (c ∈ z.cps.toList))) H) := by
  intro M H x y v u P Q m r1 r2 h k
  cases x <;> cases y <;> first
    | exact h.elim
    | (rename_i i j; obtain ⟨n, rfl, h⟩ := h; exact ⟨n, j, r1.str, r2.str, k _ _ H h (Ext.refl H) m.wi rep_bl⟩)
theorem lift_ninS {K : PySem.W.Frag} : LiftOp K W (inSgn true) (fun x y H Q => ∃ (c : Nat) (z : Str), x = .str ⟨#[c]⟩ ∧ y = .str z ∧ Q (.bl (!decide (c ∈ z.cps.toList))) H) := by
  intro M H x y v u P Q m r1 r2 h k
  cases x <;> cases y <;> first
    | exact h.elim
    | (rename_i i j; obtain ⟨n, rfl, h⟩ := h; exact ⟨n, j, r1.str, r2.str, k _ _ H h (Ext.refl H) m.wi rep_bl⟩)
def isNn : Bool → D → D → (D → Prop) → Prop := fun neg x y P => match x, y with
  | .non, .non => P (.bl (!neg))
  | .hnd _, .non => False
  | _, .non => P (.bl neg)
  | _, _ => False
theorem lift_isN {K : PySem.W.Frag} : LiftOp K W (isNn false) (fun x y H Q => y = .non ∧ Q (.bl (decide (x = .non))) H) := by
  intro M H x y v u P Q m r1 r2 h k
  have key : ∀ b : Bool, P (.bl b) → decide (v = .non) = b → Q (.bl (decide (v = .non))) H := fun b hp e => by rw [e]; exact k _ _ H hp (Ext.refl H) m.wi rep_bl
  cases y <;> first | (cases x <;> exact h.elim) | skip
  refine ⟨r2.non, ?_⟩
  cases x with
  | non => exact key true h (by rw [r1.non]; rfl)
  | bl => exact key false h (by rw [r1.bl]; rfl)
  | int => exact key false h (by rw [r1.int]; rfl)
  | str => exact key false h (by rw [r1.str]; rfl)
  | hnd => exact h.elim
  | tup => obtain ⟨a, _, e, _⟩ := r1.tup; exact key false h (by rw [e]; rfl)
  | lst => obtain ⟨a, _, e, _⟩ := r1.lst; exact key false h (by rw [e]; rfl)
  | dic => obtain ⟨a, _, e, _⟩ := r1.dic; exact key false h (by rw [e]; rfl)
  | ins => obtain ⟨a, _, _, e, _⟩ := r1.ins; exact key false h (by rw [e]; rfl)
  | lam => exact key false h (by rw [r1.lam.1]; rfl)
theorem lift_notN {K : PySem.W.Frag} : LiftOp K W (isNn true) (fun x y H Q => y = .non ∧ Q (.bl (!decide (x = .non))) H) := by
  intro M H x y v u P Q m r1 r2 h k
  have key : ∀ b : Bool, P (.bl b) → (!decide (v = .non)) = b → Q (.bl (!decide (v = .non))) H := fun b hp e => by rw [e]; exact k _ _ H hp (Ext.refl H) m.wi rep_bl
  cases y <;> first | (cases x <;> exact h.elim) | skip
  refine ⟨r2.non, ?_⟩
  cases x with
  | non => exact key false h (by rw [r1.non]; rfl)
  | bl => exact key true h (by rw [r1.bl]; rfl)
  | int => exact key true h (by rw [r1.int]; rfl)
  | str => exact key true h (by rw [r1.str]; rfl)
  | hnd => exact h.elim
  | tup => obtain ⟨a, _, e, _⟩ := r1.tup; exact key true h (by rw [e]; rfl)
  | lst => obtain ⟨a, _, e, _⟩ := r1.lst; exact key true h (by rw [e]; rfl)
  | dic => obtain ⟨a, _, e, _⟩ := r1.dic; exact key true h (by rw [e]; rfl)
  | ins => obtain ⟨a, _, _, e, _⟩ := r1.ins; exact key true h (by rw [e]; rfl)
  | lam => exact key true h (by rw [r1.lam.1]; rfl)
theorem op_ltA : OpR X (compareOp .Lt) rLtA := OpR.or op_lt op_lt_str

/-! ### and, or, not, if -/
def wAnd (t u : WT) : WT := fun ds P => t ds fun b => if b = true then u ds P else P false
def wOr (t u : WT) : WT := fun ds P => t ds fun b => if b = true then P true else u ds P
def wNot (t : WT) : WT := fun ds P => t ds fun b => P (!b)
abbrev VW (X : Cx) (W : Wd) (e : Expr) (w : WT) : Prop := PW X e (LT X.K W w)
theorem vw_and1 {t : WT} (ha : VT X W a t) : VW X W (.BoolOp .And [a] pos) t := pw_and1 ha
theorem vw_or1 {t : WT} (ha : VT X W a t) : VW X W (.BoolOp .Or [a] pos) t := pw_or1 ha
theorem vw_and {t u : WT} (ha : VT X W a t) (hb : VW X W (.BoolOp .And (b :: rest) pos) u) : VW X W (.BoolOp .And (a :: b :: rest) pos) (wAnd t u) := by
  refine pw_imp (pw_and ha hb) fun σ H Q h => ?_
  obtain ⟨M0, H0, oa, ds, P, S, hw, k⟩ := h
  refine ⟨M0, H0, oa, ds, _, S, hw, fun b H1 hb e1 i1 => ?_⟩
  cases b with
  | true => exact ⟨M0, H0, oa, ds, _, S.step e1 i1, hb, fun b H2 hp e2 i2 => k b H2 hp (e1.trans e2) i2⟩
  | false => exact k false H1 hb e1 i1
theorem vw_or {t u : WT} (ha : VT X W a t) (hb : VW X W (.BoolOp .Or (b :: rest) pos) u) : VW X W (.BoolOp .Or (a :: b :: rest) pos) (wOr t u) := by
  refine pw_imp (pw_or ha hb) fun σ H Q h => ?_
  obtain ⟨M0, H0, oa, ds, P, S, hw, k⟩ := h
  refine ⟨M0, H0, oa, ds, _, S, hw, fun b H1 hb e1 i1 => ?_⟩
  cases b with
  | true => exact k true H1 hb e1 i1
  | false => exact ⟨M0, H0, oa, ds, _, S.step e1 i1, hb, fun b H2 hp e2 i2 => k b H2 hp (e1.trans e2) i2⟩
theorem vt_w {t : WT} (h : VW X W e t) : VT X W e t := h.pt
theorem vt_not {t : WT} (ha : VT X W a t) : VT X W (.UnaryOp .Not a pos) (wNot t) := by
  refine pt_imp (pt_not ha) fun σ H Q h => ?_
  obtain ⟨M0, H0, oa, ds, P, S, hw, k⟩ := h
  exact ⟨M0, H0, oa, ds, _, S, hw, fun b H1 hb e1 i1 => k (!b) H1 hb e1 i1⟩
/-- .. as values -/
def wAndV (wa wb : WE) : WE := fun ds P => wa ds fun x => asBl x fun c => if c = true then wb ds P else P (.bl false)
def wOrV (wa wb : WE) : WE := fun ds P => wa ds fun x => asBl x fun c => if c = true then P (.bl true) else wb ds P
def wNotV (wa : WE) : WE := fun ds P => wa ds fun x => asBl x fun c => P (.bl (!c))
theorem ve_one {op} {w : WE} (h : VE X W a w) : VE X W (.BoolOp op [a] pos) w := pe_one h
theorem ve_and {wa wb : WE} (ha : VE X W a wa) (hb : VE X W (.BoolOp .And (b :: rest) pos) wb) : VE X W (.BoolOp .And (a :: b :: rest) pos) (wAndV wa wb) := by
  refine pe_imp (pe_and ha hb) fun σ H Q h => ?_
  obtain ⟨M0, H0, oa, ds, P, S, hw, k⟩ := h
  refine ⟨M0, H0, oa, ds, _, S, hw, fun x v H1 hx e1 i1 r1 => ?_⟩
  obtain ⟨c, rfl, hc⟩ := asBl_of hx
  refine ⟨c, r1.bl, ?_⟩
  cases c with
  | true => exact ⟨M0, H0, oa, ds, _, S.step e1 i1, hc, fun d v H2 hp e2 i2 r => k d v H2 hp (e1.trans e2) i2 r⟩
  | false => exact k _ _ H1 hc e1 i1 rep_bl
theorem ve_or {wa wb : WE} (ha : VE X W a wa) (hb : VE X W (.BoolOp .Or (b :: rest) pos) wb) : VE X W (.BoolOp .Or (a :: b :: rest) pos) (wOrV wa wb) := by
  refine pe_imp (pe_or ha hb) fun σ H Q h => ?_
  obtain ⟨M0, H0, oa, ds, P, S, hw, k⟩ := h
  refine ⟨M0, H0, oa, ds, _, S, hw, fun x v H1 hx e1 i1 r1 => ?_⟩
  obtain ⟨c, rfl, hc⟩ := asBl_of hx
  refine ⟨c, r1.bl, ?_⟩
  cases c with
  | true => exact k _ _ H1 hc e1 i1 rep_bl
  | false => exact ⟨M0, H0, oa, ds, _, S.step e1 i1, hc, fun d v H2 hp e2 i2 r => k d v H2 hp (e1.trans e2) i2 r⟩
theorem ve_not {wa : WE} (ha : VE X W a wa) : VE X W (.UnaryOp .Not a pos) (wNotV wa) := by
  refine pe_imp (pe_not ha) fun σ H Q h => ?_
  obtain ⟨M0, H0, oa, ds, P, S, hw, k⟩ := h
  refine ⟨M0, H0, oa, ds, _, S, hw, fun x v H1 hx e1 i1 r1 => ?_⟩
  obtain ⟨c, rfl, hc⟩ := asBl_of hx
  exact ⟨c, r1.bl, k _ _ H1 hc e1 i1 rep_bl⟩
def wIf (t : WT) (wa wb : WE) : WE := fun ds P => t ds fun c => if c = true then wa ds P else wb ds P
theorem ve_if {t : WT} {wa wb : WE} (hc : VT X W c t) (ha : VE X W a wa) (hb : VE X W b wb) : VE X W (.IfExp c a b pos) (wIf t wa wb) := by
  refine pe_imp (pe_ifExp hc ha hb) fun σ H Q h => ?_
  obtain ⟨M0, H0, oa, ds, P, S, hw, k⟩ := h
  refine ⟨M0, H0, oa, ds, _, S, hw, fun c H1 hx e1 i1 => ?_⟩
  cases c with
  | true => exact ⟨M0, H0, oa, ds, _, S.step e1 i1, hx, fun d v H2 hp e2 i2 r => k d v H2 hp (e1.trans e2) i2 r⟩
  | false => exact ⟨M0, H0, oa, ds, _, S.step e1 i1, hx, fun d v H2 hp e2 i2 r => k d v H2 hp (e1.trans e2) i2 r⟩
/-- a < b < c -/
def wChain (f g : D → D → (D → Prop) → Prop) (wa wb wc : WE) : WE := fun ds P => wa ds fun x => wb ds fun y => f x y fun z => asBl z fun k => if k = true then wc ds fun w => g y w P else P (.bl false)
theorem le_chain {K : PySem.W.Frag} {f g : D → D → (D → Prop) → Prop} {r r' : R2} {wa wb wc : WE} (hf : LiftOp K W f r) (hg : LiftOp K W g r') (σ : L2.St) (H : Hp) (Q : VK) (h : LE K W (wChain f g wa wb wc) σ H Q) :
    tChain r r' (LE K W wa) (LE K W wb) (LE K W wc) σ H Q := by
  obtain ⟨M0, H0, oa, ds, P, S, hw, k⟩ := h
  refine ⟨M0, H0, oa, ds, _, S, hw, fun x v H1 hx e1 i1 r1 => ?_⟩
  refine ⟨M0, H0, oa, ds, _, S.step e1 i1, hx, fun y u H2 hy e2 i2 r2 => ?_⟩
  have S1 := S.step e1 i1
  have S2 := S1.step e2 i2
  refine hf (Mx M0 oa) H2 x y v u _ _ S2.mok (r1.ext S1.mok e2) r2 hy fun d z H3 hp e3 i3 r3 => ?_
  obtain ⟨c, rfl, hc⟩ := asBl_of hp
  have S3 := S2.step e3 i3
  refine ⟨c, r3.bl, ?_⟩
  cases c with
  | true =>
    refine ⟨M0, H0, oa, ds, _, S3, hc, fun w z' H4 hq e4 i4 r4 => ?_⟩
    have S4 := S3.step e4 i4
    exact hg (Mx M0 oa) H4 y w u z' P Q S4.mok ((r2.ext S2.mok e3).ext S3.mok e4) r4 hq fun d z H' hp e i r => k d z H' hp ((((e1.trans e2).trans e3).trans e4).trans e) i r
  | false => exact k _ _ H3 hc ((e1.trans e2).trans e3) i3 rep_bl
theorem ve_chain {op op' : CmpOp} {f g : D → D → (D → Prop) → Prop} {r r' : R2} {wa wb wc : WE} (ho : OpR X (compareOp op) r) (ho' : OpR X (compareOp op') r') (hf : LiftOp X.K W f r) (hg : LiftOp X.K W g r') (ha : VE X W a wa) (hb : VE X W b wb) (hc : VE X W c wc)
    (hm : lastMarks [op, op'] [b, c] = false := by with_unfolding_all rfl) : VE X W (.Compare a [op, op'] [b, c] pos) (wChain f g wa wb wc) := pe_imp (pe_chain ho ho' ha hb hc hm) (le_chain hf hg)
theorem vt_chain {op op' : CmpOp} {f g : D → D → (D → Prop) → Prop} {r r' : R2} {wa wb wc : WE} (ho : OpR X (compareOp op) r) (ho' : OpR X (compareOp op') r') (hf : LiftOp X.K W f r) (hg : LiftOp X.K W g r') (ha : VE X W a wa) (hb : VE X W b wb) (hc : VE X W c wc)
    (hm : lastMarks [op, op'] [b, c] = false := by with_unfolding_all rfl) : VT X W (.Compare a [op, op'] [b, c] pos) (wTest (wChain f g wa wb wc)) := by
  refine pt_imp (pt_chain ho ho' ha hb hc hm) fun σ H Q h => ?_
  obtain ⟨M0, H0, oa, ds, P, S, hw, k⟩ := h
  refine le_chain hf hg σ H _ ⟨M0, H0, oa, ds, _, S, hw, fun x v H1 hx e1 i1 r1 => ?_⟩
  obtain ⟨b, rfl, hb⟩ := asBl_of hx
  exact ⟨b, r1.bl, k b H1 hb e1 i1⟩

/-! ### argument lists, displays -/
def wNil : WL := fun _ P => P []
def wCons (w : WE) (l : WL) : WL := fun ds P => w ds fun x => l ds fun xs => P (x :: xs)
theorem va_nil : VA X W [] wNil := pa_imp pa_nil fun σ H Q ⟨M0, H0, oa, ds, P, S, hw, k⟩ => k [] [] H hw (Ext.refl H) S.wi reps_nil
theorem va_cons {w : WE} {l : WL} (ha : VE X W e w) (hr : VA X W es l) (hs : starEach (e :: es) X.env = (false, eval e X.env) :: starEach es X.env := by rfl) : VA X W (e :: es) (wCons w l) := by
  refine pa_imp (pa_cons ha hr hs) fun σ H Q h => ?_
  obtain ⟨M0, H0, oa, ds, P, S, hw, k⟩ := h
  refine ⟨M0, H0, oa, ds, _, S, hw, fun x v H1 hx e1 i1 r1 => ?_⟩
  have S1 := S.step e1 i1
  exact ⟨M0, H0, oa, ds, _, S1, hx, fun xs vs H2 hp e2 i2 r2 => k _ _ H2 hp (e1.trans e2) i2 (reps_cons (r1.ext S1.mok e2) r2)⟩
def wTup (l : WL) : WE := fun ds P => l ds fun xs => xs.length ≤ 1000000 ∧ P (.tup xs)
def wLst (l : WL) : WE := fun ds P => l ds fun xs => xs.length ≤ 1000000 ∧ P (.lst xs)
theorem million {n : Nat} (h : n ≤ 1000000) : n ≤ sizeLine := by rw [sizeLine_eq]; omega
theorem ve_tup {l : WL} {x1} (h : VA X W es l) : VE X W (.Tuple es x1 pos) (wTup l) := by
  refine pe_imp (pe_tup h) fun σ H Q h => ?_
  obtain ⟨M0, H0, oa, ds, P, S, hw, k⟩ := h
  refine ⟨M0, H0, oa, ds, _, S, hw, fun xs vs H1 hx e1 i1 r1 => ⟨by rw [r1.len]; exact million hx.1, fun p hp => ?_⟩⟩
  have S1 := S.step e1 i1
  exact k _ _ _ hx.2 (e1.trans (Full.new hp).ext) (W.keep _ _ i1 (Full.new hp)) (S1.mok.newT hp r1)
theorem ve_lst {l : WL} (h : VA X W es l) : VE X W (.List es pos) (wLst l) := by
  refine pe_imp (pe_lst h) fun σ H Q h => ?_
  obtain ⟨M0, H0, oa, ds, P, S, hw, k⟩ := h
  refine ⟨M0, H0, oa, ds, _, S, hw, fun xs vs H1 hx e1 i1 r1 => ⟨by rw [r1.len]; exact million hx.1, fun p hp => ?_⟩⟩
  have S1 := S.step e1 i1
  exact k _ _ _ hx.2 (e1.trans (Full.new hp).ext) (W.keep _ _ i1 (Full.new hp)) (S1.mok.newL hp r1)

/-! ### calls -/
def wCall (f : List D → (D → Prop) → Prop) (l : WL) : WE := fun ds P => l ds fun xs => f xs P
/-- a def's promise by data: f is what it gives -/
def spD (K : PySem.W.Frag) (W : Wd) (f : List D → (D → Prop) → Prop) : Sp := fun vs H Q _ => ∃ M ds P, MOk W M H ∧ Reps K M H ds vs ∧ f ds P ∧ ∀ d v H', P d → Ext W H H' → W.I H' → Rep K M H' d v → Q v H'
theorem ve_call {CX : CXT} {k : Nat} {f : Addr} {fd : FuncData} {ps : List Str} {g : List D → (D → Prop) → Prop} {dvs : List V} {dds : List D} {ds : List Value} {x : Str} {p : Pos} {l : WL} {E : XK}
    (F : FnOk X.prog X.w X.K X.mg X.base CX k f fd ps (spD X.K W g)) (hr : Room k X.A) (hg : Gl X x) (hm : X.mg x = some (.ref f)) (hk : PySem.W.keepIn X.K (.ref f) = true) (hb : Binds X.K fd ps ds) (hd : Vals dvs ds) (hx : Passes CX X E) (hdd : ∀ M H, Reps X.K M H dds dvs)
    (ha : VA X W (e :: es) l) (hdb : (x == ("__debug__" : Str)) = false := by decide) (he : starEach (e :: es) X.env = (false, eval e X.env) :: starEach es X.env := by rfl) (hpl : (backTo pos (starEach es X.env)).any (·.1) = false := by rfl) :
    VE X W (.Call (.Name x p) (e :: es) [] pos) (wCall (fun xs P => g (xs ++ dds) P) l) := by
  refine pe_imp (pe_call F hr hg hm hk hb hd hx ha hdb he hpl) fun σ H Q h => ?_
  obtain ⟨M0, H0, oa, ds, P, S, hw, k⟩ := h
  refine ⟨M0, H0, oa, ds, _, S, hw, fun xs vs H1 hx e1 i1 r1 => ?_⟩
  have S1 := S.step e1 i1
  exact ⟨Mx M0 oa, xs ++ dds, P, S1.mok, r1.app (hdd _ _), hx, fun d v H' hp e i r => k d v H' hp (e1.trans e) i r⟩
def LiftCall (K : PySem.W.Frag) (W : Wd) (f : List D → (D → Prop) → Prop) (r : List V → Hp → VK → Prop) : Prop :=
  ∀ (M : Addr → Prop) (H : Hp) (xs : List D) (vs : List V) (P : D → Prop) (Q : VK), MOk W M H → Reps K M H xs vs → f xs P → (∀ d z H', P d → Ext W H H' → W.I H' → Rep K M H' d z → Q z H') → r vs H Q
theorem le_cb {K : PySem.W.Frag} {f : List D → (D → Prop) → Prop} {r : List V → Hp → VK → Prop} {l : WL} (hf : LiftCall K W f r) (σ : L2.St) (H : Hp) (Q : VK) (h : LE K W (wCall f l) σ H Q) : tCB r (LA K W l) σ H Q := by
  obtain ⟨M0, H0, oa, ds, P, S, hw, k⟩ := h
  refine ⟨M0, H0, oa, ds, _, S, hw, fun xs vs H1 hx e1 i1 r1 => ?_⟩
  exact hf (Mx M0 oa) H1 xs vs P Q (S.step e1 i1).mok r1 hx fun d z H' hp e i r => k d z H' hp (e1.trans e) i r
section
variable {x : Str} {p : Pos} {id T : String} {r : List V → Hp → VK → Prop} {f : List D → (D → Prop) → Prop} {l : WL}
theorem ve_callB (hc : CallR X (.builtin id) r) (hf : LiftCall X.K W f r) (hg : Gl X x) (hm : X.mg x = none) (hv : bootBuiltins x = some (.builtin id)) (ha : VA X W (e :: es) l) (hn : x ≠ "__name__" := by decide) (hdb : (x == ("__debug__" : Str)) = false := by decide)
    (he : starEach (e :: es) X.env = (false, eval e X.env) :: starEach es X.env := by rfl) (hpl : (backTo pos (starEach es X.env)).any (·.1) = false := by rfl) : VE X W (.Call (.Name x p) (e :: es) [] pos) (wCall f l) := pe_imp (pe_callB hc hg hm hv ha hn hdb he hpl) (le_cb hf)
theorem ve_callTy (hc : CallR X (.type T) r) (hf : LiftCall X.K W f r) (hg : Gl X x) (hm : X.mg x = none) (hv : bootBuiltins x = some (.type T)) (ha : VA X W (e :: es) l) (hn : x ≠ "__name__" := by decide) (hdb : (x == ("__debug__" : Str)) = false := by decide)
    (he : starEach (e :: es) X.env = (false, eval e X.env) :: starEach es X.env := by rfl) (hpl : (backTo pos (starEach es X.env)).any (·.1) = false := by rfl) : VE X W (.Call (.Name x p) (e :: es) [] pos) (wCall f l) := pe_imp (pe_callTy hc hg hm hv ha hn hdb he hpl) (le_cb hf)
end
def absD : List D → (D → Prop) → Prop
  | [.int i], P => P (.int (if i < 0 then -i else i))
  | _, _ => False
theorem Reps.one {K : PySem.W.Frag} {M : Addr → Prop} {H : Hp} {d : D} {vs : List V} (h : Reps K M H [d] vs) : ∃ v, vs = [v] ∧ Rep K M H d v := by
  obtain ⟨v, r, rfl, h1, h2⟩ := h.inv
  rw [h2.inv0]
  exact ⟨v, rfl, h1⟩
theorem Reps.two {K : PySem.W.Frag} {M : Addr → Prop} {H : Hp} {d e : D} {vs : List V} (h : Reps K M H [d, e] vs) : ∃ v u, vs = [v, u] ∧ Rep K M H d v ∧ Rep K M H e u := by
  obtain ⟨v, r, rfl, h1, h2⟩ := h.inv
  obtain ⟨u, rfl, h3⟩ := h2.one
  exact ⟨v, u, rfl, h1, h3⟩
theorem lift_abs {K : PySem.W.Frag} : LiftCall K W absD (fun xs H Q => ∃ i, xs = [.int i] ∧ Q (.int (if i < 0 then -i else i)) H) := by
  intro M H xs vs P Q m r h k
  match xs, h with
  | [.int i], h =>
    obtain ⟨v, rfl, r1⟩ := r.one
    exact ⟨i, by rw [r1.int], k _ _ H h (Ext.refl H) m.wi rep_int⟩
def intD : List D → (D → Prop) → Prop
  | [.int i], P => P (.int i)
  | [.bl b], P => P (.int (if b then 1 else 0))
  | _, _ => False
theorem lift_int {K : PySem.W.Frag} : LiftCall K W intD (fun xs H Q => (∃ i, xs = [.int i] ∧ Q (.int i) H) ∨ ∃ k, xs = [.bl k] ∧ Q (.int (if k then 1 else 0)) H) := by
  intro M H xs vs P Q m r h k
  match xs, h with
  | [.int i], h =>
    obtain ⟨v, rfl, r1⟩ := r.one
    exact .inl ⟨i, by rw [r1.int], k _ _ H h (Ext.refl H) m.wi rep_int⟩
  | [.bl i], h =>
    obtain ⟨v, rfl, r1⟩ := r.one
    exact .inr ⟨i, by rw [r1.bl], k _ _ H h (Ext.refl H) m.wi rep_int⟩
def lenD : List D → (D → Prop) → Prop
  | [.tup xs], P => P (.int xs.length)
  | [.lst xs], P => P (.int xs.length)
  | [.str x], P => x.length ≤ sizeLine ∧ P (.int x.length)
  | _, _ => False
theorem lift_len {K : PySem.W.Frag} : LiftCall K W lenD (fun xs H Q => ∃ x n, xs = [x] ∧ LenV K x H n ∧ Q (.int n) H) := by
  intro M H xs vs P Q m r h k
  match xs, h with
  | [.tup ds], h =>
    obtain ⟨v, rfl, r1⟩ := r.one
    obtain ⟨a, ys, rfl, t, r2⟩ := r1.tup
    exact ⟨_, ds.length, rfl, .inr ⟨ys, t.sq, r2.len.symm⟩, k _ _ H h (Ext.refl H) m.wi rep_int⟩
  | [.lst ds], h =>
    obtain ⟨v, rfl, r1⟩ := r.one
    obtain ⟨a, ys, rfl, t, r2⟩ := r1.lst
    exact ⟨_, ds.length, rfl, .inl ⟨ys, t.sq, r2.len.symm⟩, k _ _ H h (Ext.refl H) m.wi rep_int⟩
  | [.str x], h =>
    obtain ⟨v, rfl, r1⟩ := r.one
    have e := r1.str
    subst e
    exact ⟨.str x, x.length, rfl, ⟨h.1, rfl⟩, k _ _ H h.2 (Ext.refl H) m.wi rep_int⟩
/-- all, any of a list of bools -/
def blsOf : List D → Option (List Bool)
  | [] => some []
  | .bl b :: r => (blsOf r).map (b :: ·)
  | _ => none
theorem blsOf_map : ∀ bs : List Bool, blsOf (bs.map D.bl) = some bs
  | [] => rfl
  | b :: r => by show (blsOf (r.map D.bl)).map (b :: ·) = _; rw [blsOf_map r]; rfl
theorem of_blsOf : ∀ {ds : List D} {bs : List Bool}, blsOf ds = some bs → ds = bs.map D.bl
  | [], _, h => by cases h; rfl
  | .bl b :: r, _, h => by
    have h : (blsOf r).map (b :: ·) = some _ := h
    cases e : blsOf r with
    | none => rw [e] at h; cases h
    | some l => rw [e] at h; cases h; rw [of_blsOf e]; rfl
  | .non :: _, _, h => by cases h
  | .int _ :: _, _, h => by cases h
  | .str _ :: _, _, h => by cases h
  | .hnd _ :: _, _, h => by cases h
  | .tup _ :: _, _, h => by cases h
  | .lst _ :: _, _, h => by cases h
  | .dic _ _ :: _, _, h => by cases h
  | .ins _ _ _ :: _, _, h => by cases h
  | .lam _ _ :: _, _, h => by cases h
def allD : List D → (D → Prop) → Prop
  | [.lst ds], P => ∃ bs : List Bool, ds = bs.map D.bl ∧ P (.bl (bs.all id))
  | _, _ => False
def anyD : List D → (D → Prop) → Prop
  | [.lst ds], P => ∃ bs : List Bool, ds = bs.map D.bl ∧ P (.bl (bs.any id))
  | _, _ => False
theorem lift_all {K : PySem.W.Frag} : LiftCall K W allD (rAll K) := by
  intro M H xs vs P Q m r h k
  match xs, h with
  | [.lst ds], h =>
    obtain ⟨bs, rfl, h⟩ := h
    obtain ⟨v, rfl, r1⟩ := r.one
    obtain ⟨a, ys, rfl, t, r2⟩ := r1.lst
    have e := r2.bls
    subst e
    exact ⟨a, bs, rfl, t.sq, k _ _ H h (Ext.refl H) m.wi rep_bl⟩
theorem lift_any {K : PySem.W.Frag} : LiftCall K W anyD (rAny K) := by
  intro M H xs vs P Q m r h k
  match xs, h with
  | [.lst ds], h =>
    obtain ⟨bs, rfl, h⟩ := h
    obtain ⟨v, rfl, r1⟩ := r.one
    obtain ⟨a, ys, rfl, t, r2⟩ := r1.lst
    have e := r2.bls
    subst e
    exact ⟨a, bs, rfl, t.sq, k _ _ H h (Ext.refl H) m.wi rep_bl⟩
/-- list(xs), tuple(xs) -/
def listD : List D → (D → Prop) → Prop
  | [.tup xs], P => P (.lst xs)
  | [.lst xs], P => P (.lst xs)
  | _, _ => False
def tupD : List D → (D → Prop) → Prop
  | [.tup xs], P => P (.tup xs)
  | [.lst xs], P => P (.tup xs)
  | _, _ => False
theorem lift_list {K : PySem.W.Frag} : LiftCall K W listD (fun xs H Q => ∃ p ys, xs = [.ref p] ∧ (SqL K H p ys ∨ SqT K H p ys) ∧ ∀ l, H l = none → Q (.ref l) (upd H l (.lst ys))) := by
  intro M H xs vs P Q m r h k
  match xs, h with
  | [.tup ds], h =>
    obtain ⟨v, rfl, r1⟩ := r.one
    obtain ⟨a, ys, rfl, t, r2⟩ := r1.tup
    exact ⟨a, ys, rfl, .inr t.sq, fun l hl => k _ _ _ h (Full.new hl).ext (W.keep _ _ m.wi (Full.new hl)) (m.newL hl r2)⟩
  | [.lst ds], h =>
    obtain ⟨v, rfl, r1⟩ := r.one
    obtain ⟨a, ys, rfl, t, r2⟩ := r1.lst
    exact ⟨a, ys, rfl, .inl t.sq, fun l hl => k _ _ _ h (Full.new hl).ext (W.keep _ _ m.wi (Full.new hl)) (m.newL hl r2)⟩
theorem lift_tuple {K : PySem.W.Frag} : LiftCall K W tupD (fun xs H Q => ∃ p ys, xs = [.ref p] ∧ ((SqL K H p ys ∧ ∀ l, H l = none → Q (.ref l) (upd H l (.tup ys))) ∨ (SqT K H p ys ∧ Q (.ref p) H))) := by
  intro M H xs vs P Q m r h k
  match xs, h with
  | [.tup ds], h =>
    obtain ⟨v, rfl, r1⟩ := r.one
    obtain ⟨a, ys, rfl, t, r2⟩ := r1.tup
    exact ⟨a, ys, rfl, .inr ⟨t.sq, k _ _ _ h (Ext.refl H) m.wi (rep_tup t r2)⟩⟩
  | [.lst ds], h =>
    obtain ⟨v, rfl, r1⟩ := r.one
    obtain ⟨a, ys, rfl, t, r2⟩ := r1.lst
    exact ⟨a, ys, rfl, .inl ⟨t.sq, fun l hl => k _ _ _ h (Full.new hl).ext (W.keep _ _ m.wi (Full.new hl)) (m.newT hl r2)⟩⟩
/-- str(n) of an int -/
def strD : List D → (D → Prop) → Prop
  | [.int i], P => i.natAbs.log2 < 1920 ∧ P (.str (toString i))
  | _, _ => False
theorem lift_str {K : PySem.W.Frag} : LiftCall K W strD (fun xs H Q => ∃ i, xs = [.int i] ∧ i.natAbs.log2 < 1920 ∧ Q (.str (toString i)) H) := by
  intro M H xs vs P Q m r h k
  match xs, h with
  | [.int i], h =>
    obtain ⟨v, rfl, r1⟩ := r.one
    exact ⟨i, by rw [r1.int], h.1, k _ _ H h.2 (Ext.refl H) m.wi rep_str⟩

/-! ### isinstance by the built-in types -/
inductive Ty where
  | int | str | bool | tuple | list
def Ty.nm : Ty → String
  | .int => "int" | .str => "str" | .bool => "bool" | .tuple => "tuple" | .list => "list"
def isTy : Ty → D → Bool
  | .int, .int _ => true
  | .int, .bl _ => true
  | .str, .str _ => true
  | .bool, .bl _ => true
  | .tuple, .tup _ => true
  | .list, .lst _ => true
  | _, _ => false
def noHnd : D → Bool
  | .hnd _ => false
  | .dic _ _ => false
  | .ins _ _ _ => false
  | .lam _ _ => false
  | _ => true
def isiD (t : Ty) : List D → (D → Prop) → Prop
  | [x, .hnd (.ty _)], P => noHnd x = true ∧ P (.bl (isTy t x))
  | _, _ => False
def tyN : D → String
  | .non => "NoneType" | .bl _ => "bool" | .int _ => "int" | .str _ => "str" | .tup _ => "tuple" | .lst _ => "list" | .hnd _ => "" | .dic _ _ => "" | .ins _ _ _ => "" | .lam _ _ => ""
inductive Kd where
  | non | bl | int | str | tup | lst
def Kd.nm : Kd → String
  | .non => "NoneType" | .bl => "bool" | .int => "int" | .str => "str" | .tup => "tuple" | .lst => "list"
def Kd.isTy : Ty → Kd → Bool
  | .int, .int => true
  | .int, .bl => true
  | .str, .str => true
  | .bool, .bl => true
  | .tuple, .tup => true
  | .list, .lst => true
  | _, _ => false
theorem kit_kd (t : Ty) (k : Kd) : kitB k.nm t.nm = some (Kd.isTy t k) := by cases t <;> cases k <;> decide +kernel
theorem kit_tab (t : Ty) (x : D) (h : noHnd x = true) : kitB (tyN x) t.nm = some (isTy t x) := by
  cases x with
  | non => exact (kit_kd t .non).trans (by cases t <;> rfl)
  | bl => exact (kit_kd t .bl).trans (by cases t <;> rfl)
  | int => exact (kit_kd t .int).trans (by cases t <;> rfl)
  | str => exact (kit_kd t .str).trans (by cases t <;> rfl)
  | tup => exact (kit_kd t .tup).trans (by cases t <;> rfl)
  | lst => exact (kit_kd t .lst).trans (by cases t <;> rfl)
  | _ => cases h
theorem Rep.ty {K : PySem.W.Frag} {M : Addr → Prop} {H : Hp} {d : D} {v : V} (h : Rep K M H d v) (n : noHnd d = true) : TyX K H v (.type (tyN d)) := by
  cases d with
  | non => rw [h.non]; exact .base .non
  | bl => rw [h.bl]; exact .base (.bl _)
  | int => rw [h.int]; exact .base (.int _)
  | str => rw [h.str]; exact .base (.str _)
  | hnd => cases n
  | dic => cases n
  | ins => cases n
  | lam => cases n
  | tup =>
    obtain ⟨a, xs, rfl, t, _⟩ := h.tup
    rcases t with ⟨_, t | ⟨o, t⟩⟩ | ⟨o, its, n, hk, hc, _⟩
    · exact .base (.tup t)
    · exact .fTuple t
    · exact .kTuple hk hc
  | lst =>
    obtain ⟨a, xs, rfl, t, _⟩ := h.lst
    rcases t with ⟨_, t | ⟨o, t⟩⟩ | ⟨o, its, n, hk, hc, _⟩
    · exact .base (.lst t)
    · exact .base (.frz t)
    · exact .kList hk hc
def rIsi1 (K : PySem.W.Frag) (T : String) : List V → Hp → VK → Prop := fun xs H Q => rIsi K (match xs with | [x, .ty _] => [x, .ty T] | _ => []) H Q
theorem ve_isi {x : Str} {p : Pos} (t : Ty) {w : WE} (hg : Gl X "isinstance") (hm : X.mg "isinstance" = none) (hv : bootBuiltins "isinstance" = some (.builtin "isinstance")) (ha : VE X W e w) (hgT : Gl X x) (hmT : X.mg x = none) (hvT : bootBuiltins x = some (.type t.nm)) {px : Pos}
    (hn : x ≠ "__name__" := by decide) (hdb : (x == ("__debug__" : Str)) = false := by decide)
    (hs : starEach [e, .Name x px] X.env = (false, eval e X.env) :: starEach [.Name x px] X.env := by rfl) (hpl : (backTo pos (starEach [.Name x px] X.env)).any (·.1) = false := by rfl) (hs2 : starEach [.Name x px] X.env = (false, eval (.Name x px) X.env) :: starEach [] X.env := by rfl) :
    VE X W (.Call (.Name "isinstance" p) [e, .Name x px] [] pos) (fun ds P => w ds fun d => noHnd d = true ∧ P (.bl (isTy t d))) := by
  have hT : PE X (.Name x px) (tC (.ty t.nm)) := pe_bltn (v := .ty t.nm) hgT hmT hvT rfl hn hdb
  refine pe_imp (pe_callB call_isi hg hm hv (pa_cons ha (pa_cons hT pa_nil hs2) hs) (by decide) (by decide) hs hpl) fun σ H Q h => ?_
  obtain ⟨M0, H0, oa, ds, P, S, hw, k⟩ := h
  refine ⟨M0, H0, oa, ds, _, S, hw, fun d v H1 hx e1 i1 r1 => ?_⟩
  show rIsi X.K [v, .ty t.nm] H1 Q
  exact ⟨v, .ty t.nm, .type (tyN d), .type t.nm, isTy t d, rfl, .ty _, r1.ty hx.1, kit_ty (kit_tab t d hx.1), k _ _ H1 hx.2 e1 i1 rep_bl⟩

/-! ### subscripts -/
def ixD : D → D → (D → Prop) → Prop
  | .tup xs, .int i, P => ∃ d, atI xs i = some d ∧ P d
  | .lst xs, .int i, P => ∃ d, atI xs i = some d ∧ P d
  | .str z, .int i, P => z.length ≤ sizeLine ∧ ∃ c, atI z.cps.toList i = some c ∧ P (.str ⟨#[c]⟩)
  | _, _, _ => False
theorem atI_rep {K : PySem.W.Frag} {M : Addr → Prop} {H : Hp} {ds : List D} {vs : List V} {i : Int} {d : D} (r : Reps K M H ds vs) (h : atI ds i = some d) : ∃ v, atI vs i = some v ∧ Rep K M H d v := by
  unfold atI at h ⊢
  rw [r.len]
  cases e : ixN ds.length i with
  | none => rw [e] at h; cases h
  | some j =>
    rw [e] at h
    exact r.get (i := j) h
theorem lift_ix {K : PySem.W.Frag} : LiftOp K W ixD (rIx K) := by
  intro M H x y v u P Q m r1 r2 h k
  cases x with
  | tup xs =>
    cases y with
    | int i =>
      obtain ⟨d, h1, h2⟩ := h
      obtain ⟨a, vs, rfl, t, r⟩ := r1.tup
      obtain ⟨z, e, rz⟩ := atI_rep r h1
      exact .inr (.inl ⟨a, vs, i, z, rfl, r2.int, t.sq, e, k _ _ H h2 (Ext.refl H) m.wi rz⟩)
    | _ => exact h.elim
  | lst xs =>
    cases y with
    | int i =>
      obtain ⟨d, h1, h2⟩ := h
      obtain ⟨a, vs, rfl, t, r⟩ := r1.lst
      obtain ⟨z, e, rz⟩ := atI_rep r h1
      exact .inl ⟨a, vs, i, z, rfl, r2.int, t.sq, e, k _ _ H h2 (Ext.refl H) m.wi rz⟩
    | _ => exact h.elim
  | str z =>
    cases y with
    | int i =>
      obtain ⟨hz, c, h1, h2⟩ := h
      exact .inr (.inr ⟨z, i, c, r1.str, r2.int, hz, h1, k _ _ H h2 (Ext.refl H) m.wi rep_str⟩)
    | _ => exact h.elim
  | _ => exact h.elim
theorem ve_ix {wa wb : WE} (ha : VE X W a wa) (hb : VE X W b wb) (hs : PlainIx b := by exact fun _ _ => rfl) : VE X W (.Subscript a b pos) (wOp ixD wa wb) := pe_imp (pe_ix ix_seq ha hb hs) (le_op lift_ix)
/-- -n -/
def negD : D → (D → Prop) → Prop
  | .int i, P => P (.int (-i))
  | _, _ => False
def wNeg (w : WE) : WE := fun ds P => w ds fun x => negD x P
theorem ve_neg {w : WE} (ha : VE X W a w) : VE X W (.UnaryOp .USub a pos) (wNeg w) := by
  refine pe_imp (pe_un un_neg ha) fun σ H Q h => ?_
  obtain ⟨M0, H0, oa, ds, P, S, hw, k⟩ := h
  refine ⟨M0, H0, oa, ds, _, S, hw, fun x v H1 hx e1 i1 r1 => ?_⟩
  cases x <;> first | exact hx.elim | skip
  rename_i i
  exact ⟨i, r1.int, k _ _ H1 hx e1 i1 rep_int⟩
end
end VL

set_option Elab.async false
set_option linter.all false
set_option maxRecDepth 100000
set_option maxHeartbeats 2000000
/-! VC: statements, loops, comprehensions, defs over plain data. -/
namespace VL
open PySem PySem.Spec PyProof.Rows L2

structure EndsD where
  nx : List Sl → Prop
  rt : D → Prop
  bk : List Sl → Prop := fun _ => False
  ct : List Sl → Prop := fun _ => False
abbrev WS := EndsD → List Sl → Prop
def LS (K : PySem.W.Frag) (W : Wd) (w : WS) : TS := fun D σ H => ∃ M0 H0 oa ds E, Sat K W M0 H0 oa H σ ds ∧ w E ds ∧
  (∀ ds' oa' σ' H', E.nx ds' → Sat K W M0 H0 oa' H' σ' ds' → D.nx σ' H') ∧ (∀ d v H', E.rt d → Ext W H0 H' → W.I H' → Rep K M0 H' d v → D.rt v H') ∧
  (∀ ds' oa' σ' H', E.bk ds' → Sat K W M0 H0 oa' H' σ' ds' → D.bk σ' H') ∧ (∀ ds' oa' σ' H', E.ct ds' → Sat K W M0 H0 oa' H' σ' ds' → D.ct σ' H')
abbrev VS (X : Cx) (W : Wd) (st : Stmt) (w : WS) : Prop := PS X st (LS X.K W w)
abbrev VSs (X : Cx) (W : Wd) (st : List Stmt) (w : WS) : Prop := PSs X st (LS X.K W w)
theorem ps_imp {X : Cx} {st : Stmt} {t t' : TS} (h : PS X st t) (f : ∀ D σ H, t' D σ H → t D σ H) : PS X st t' := ⟨fun pins s σ H D I hw => h.run pins s σ H D I (f D σ H hw)⟩
theorem pss_imp {X : Cx} {st : List Stmt} {t t' : TS} (h : PSs X st t) (f : ∀ D σ H, t' D σ H → t D σ H) : PSs X st t' := ⟨fun pins s σ H D I hw => h.run pins s σ H D I (f D σ H hw)⟩

theorem mx_sub {M0 : Addr → Prop} {oa : Nat → Option Addr} {a : Addr} (h : M0 a) : Mx M0 oa a := .inl h
theorem Rep.out {K : PySem.W.Frag} {M0 : Addr → Prop} {oa : Nat → Option Addr} {H : Hp} {d : D} {v : V} (h : Rep K (Mx M0 oa) H d v) : Rep K M0 H d v := h.car fun _ _ n q => ⟨fun z => n (.inl z), q⟩

section
variable {X : Cx} {W : Wd} {e c : Expr} {st : Stmt} {rest body body2 : List Stmt} {pos : Pos}
def wNext : WS := fun E ds => E.nx ds
def wSeq (w u : WS) : WS := fun E ds => w { E with nx := u E } ds
theorem vss_nil : VSs X W [] wNext := pss_imp pss_nil fun D σ H ⟨M0, H0, oa, ds, E, S, hw, k1, _⟩ => k1 ds oa σ H hw S
theorem vss_cons {w u : WS} (h1 : VS X W st w) (h2 : VSs X W rest u) : VSs X W (st :: rest) (wSeq w u) := by
  refine pss_imp (pss_cons h1 h2) fun D σ H h => ?_
  obtain ⟨M0, H0, oa, ds, E, S, hw, k1, k2, k3, k4⟩ := h
  exact ⟨M0, H0, oa, ds, _, S, hw, fun ds' oa' σ' H' hn S' => ⟨M0, H0, oa', ds', E, S', hn, k1, k2, k3, k4⟩, k2, k3, k4⟩
theorem vss_one {w : WS} (h1 : VS X W st w) : VSs X W [st] (wSeq w wNext) := vss_cons h1 vss_nil
theorem vs_never : VS X W st (fun _ _ => False) := ps_imp ps_never fun D σ H ⟨M0, H0, oa, ds, E, S, hw, _⟩ => hw
theorem vss_never {sts : List Stmt} : VSs X W sts (fun _ _ => False) := pss_imp pss_never fun D σ H ⟨M0, H0, oa, ds, E, S, hw, _⟩ => hw
/-- a list that a def kept for itself, from here on data -/
def fzS : Sl → Sl
  | .ml xs => .d (.lst xs)
  | .md ks xs => .d (.dic ks xs)
  | .mi _ C ks xs => .d (.ins C ks xs)
  | s => s
def fz (i : Nat) (ds : List Sl) : List Sl := ds.set i (fzS (ds.getD i .un))
theorem Sat.fzd {K : PySem.W.Frag} {M0 : Addr → Prop} {H0 H : Hp} {oa : Nat → Option Addr} {σ : L2.St} {ds : List Sl} (S : Sat K W M0 H0 oa H σ ds) {i : Nat} {a : Addr} {x : D} (hi : i < ds.length) (e1 : oa i = some a) (e2 : σ[i]? = some (some (.ref a)))
    (hr : ¬ Mx M0 (oaDel oa i) a → Car (Mx M0 oa) (Mx M0 (oaDel oa i)) H H → Rep K (Mx M0 (oaDel oa i)) H x (.ref a)) : Sat K W M0 H0 (oaDel oa i) H σ (ds.set i (.d x)) := by
  have nm : ¬ Mx M0 (oaDel oa i) a := by
    rintro (z | ⟨j, z⟩)
    · exact (S.ofr i a e1).2 z
    · obtain ⟨z1, z2⟩ := oaDel_some z
      exact z1 (S.inj j i a z2 e1)
  refine ⟨S.wm, S.live, S.ext, S.wi, fun j a h => S.ofr j a (oaDel_some h).2, fun j k a h1 h2 => S.inj j k a (oaDel_some h1).2 (oaDel_some h2).2, by simp [S.len], fun j hj => ?_, fun j s h => ?_, S.fm, S.fh, S.bl, S.nc, S.nx⟩
  · have z := S.out j (by simpa using hj)
    unfold oaDel
    split
    · rfl
    · exact z
  · by_cases hj : j = i
    · subst hj
      rw [List.getElem?_set_self hi] at h
      cases h
      exact ⟨by unfold oaDel; simp, .ref a, e2, hr nm car_del⟩
    · rw [List.getElem?_set_ne (Ne.symm hj)] at h
      have e2 : oaDel oa i j = oa j := by unfold oaDel; rw [if_neg hj]
      rw [e2]
      exact (S.slot j s h).car car_del fun a xs _ z => z
theorem Sat.fz {K : PySem.W.Frag} {M0 : Addr → Prop} {H0 H : Hp} {oa : Nat → Option Addr} {σ : L2.St} {ds : List Sl} (S : Sat K W M0 H0 oa H σ ds) (i : Nat) : ∃ oa', Sat K W M0 H0 oa' H σ (fz i ds) := by
  by_cases hi : i < ds.length
  · have hg : ds.getD i .un = ds[i] := by simp [List.getD_eq_getElem?_getD, hi]
    have hs := S.slot i ds[i] (by simp [hi])
    cases q : ds[i] with
    | un =>
      refine ⟨oa, ?_⟩
      have : VL.fz i ds = ds := by unfold VL.fz; rw [hg, q]; show ds.set i .un = ds; rw [← q]; simp
      rw [this]; exact S
    | d x =>
      refine ⟨oa, ?_⟩
      have : VL.fz i ds = ds := by unfold VL.fz; rw [hg, q]; show ds.set i (.d x) = ds; rw [← q]; simp
      rw [this]; exact S
    | ml l =>
      rw [q] at hs
      obtain ⟨a, xs, e1, e2, e3, r⟩ := hs
      have ed : VL.fz i ds = ds.set i (.d (.lst l)) := by unfold VL.fz; rw [hg, q]; rfl
      rw [ed]
      exact ⟨_, S.fzd hi e1 e2 fun nm c => rep_lst (.inl ⟨nm, .inl e3⟩) (r.car c)⟩
    | md ks l =>
      rw [q] at hs
      obtain ⟨a, us, e1, e2, e3, e4, r⟩ := hs
      have ed : VL.fz i ds = ds.set i (.d (.dic ks l)) := by unfold VL.fz; rw [hg, q]; rfl
      rw [ed]
      exact ⟨_, S.fzd hi e1 e2 fun nm c => rep_dic nm e3 e4 (r.car c)⟩
    | mi a C ks l =>
      rw [q] at hs
      obtain ⟨dx, us, e1, e2, e3, e4, r⟩ := hs
      have ed : VL.fz i ds = ds.set i (.d (.ins C ks l)) := by unfold VL.fz; rw [hg, q]; rfl
      rw [ed]
      exact ⟨_, S.fzd hi e1 e2 fun nm c => rep_ins nm e3 e4 (r.car c)⟩
  · refine ⟨oa, ?_⟩
    have : VL.fz i ds = ds := by unfold VL.fz; rw [List.set_eq_of_length_le (by omega)]
    rw [this]; exact S
theorem vss_fz (i : Nat) {w : WS} (h : VSs X W rest w) : VSs X W rest (fun E ds => w E (fz i ds)) := pss_imp h fun D σ H ⟨M0, H0, oa, ds, E, S, hw, k⟩ => by
  obtain ⟨oa', S'⟩ := S.fz i
  exact ⟨M0, H0, oa', _, E, S', hw, k⟩

def wSet (i : Nat) (w : WE) : WS := fun E ds => w ds fun d => E.nx (ds.set i (.d d))
theorem ls_set {K : PySem.W.Frag} {i : Nat} {w : WE} {D : Ends} {σ : L2.St} {H : Hp} (h : LS K W (wSet i w) D σ H) : tAsg (LE K W w) (gName i) D σ H := by
  obtain ⟨M0, H0, oa, ds, E, S, hw, k1, k2, k3, k4⟩ := h
  refine ⟨M0, H0, oa, ds, _, S, hw, fun d v H1 hd e1 i1 r1 => ?_⟩
  exact k1 _ _ _ _ hd ((S.step e1 i1).set r1)
theorem vs_set (i : Nat) {x : Str} {w : WE} {pos' : Pos} (hN : X.N.Nodup) (he : VE X W e w) (hi : X.N[i]? = some x := by rfl) (hx : Loc X.env.scope x := by first | exact Or.inl rfl | exact Or.inr rfl) (hs : swapsWith e (some (.Name x pos')) pos.line X.env = pure false := by rfl)
    (hf : X.fn x = true ∨ X.env.scope.names.lookup x = some .local := by first | exact .inl rfl | exact .inr rfl | assumption) : VS X W (.Assign [.Name x pos'] e pos) (wSet i w) := ps_imp (ps_set hN hi hx he hs hf) fun _ _ _ => ls_set
/-- x = []: the list is the def's own -/
def wSetNil (i : Nat) : WS := fun E ds => i < ds.length ∧ E.nx (ds.set i (.ml []))
theorem Sat.newown {K : PySem.W.Frag} {M0 : Addr → Prop} {H0 H : Hp} {oa : Nat → Option Addr} {σ : L2.St} {ds : List Sl} (S : Sat K W M0 H0 oa H σ ds) {i : Nat} (hi : i < ds.length) {p : Addr} (hp : H p = none) {ob : HO} {sl : Sl}
    (hsl : Car (Mx M0 oa) (Mx M0 (oaPut oa i p)) H (upd H p ob) → SlotOk K (Mx M0 (oaPut oa i p)) (upd H p ob) (some p) sl (some (some (.ref p)))) : Sat K W M0 H0 (oaPut oa i p) (upd H p ob) (σ.set i (some (.ref p))) (ds.set i sl) := by
  have f : Full H (upd H p ob) := Full.new hp
  have S1 := S.full f
  have hm : ¬ Mx M0 oa p := S.mok.fresh hp
  have h0 : H0 p = none := by
    cases q : H0 p with
    | none => rfl
    | some o =>
      have nA : ¬ W.A p := fun z => W.live _ _ S.wi z hp
      rw [S.ext p o nA q] at hp; cases hp
  have cr : Car (Mx M0 oa) (Mx M0 (oaPut oa i p)) H (upd H p ob) := fun b o n h => by
    have hb : b ≠ p := ne_of_none h hp
    refine ⟨fun z => ?_, by rw [upd_ne hb]; exact h⟩
    rcases z with z | ⟨j, z⟩
    · exact n (.inl z)
    · unfold oaPut at z
      by_cases e : j = i
      · rw [if_pos e] at z; cases z; exact hb rfl
      · rw [if_neg e] at z; exact n (.inr ⟨j, z⟩)
  refine S1.setown hi h0 hm (hsl cr) fun j s hj hs => ?_
  exact (S.slot j s hs).car cr fun a xs _ z => by rw [upd_ne (ne_of_none z hp)]; exact z
theorem Sat.newml {K : PySem.W.Frag} {M0 : Addr → Prop} {H0 H : Hp} {oa : Nat → Option Addr} {σ : L2.St} {ds : List Sl} (S : Sat K W M0 H0 oa H σ ds) {i : Nat} (hi : i < ds.length) {p : Addr} (hp : H p = none) {xs : List D} {vs : List V}
    (r : Reps K (Mx M0 oa) H xs vs) : Sat K W M0 H0 (oaPut oa i p) (upd H p (.lst vs)) (σ.set i (some (.ref p))) (ds.set i (.ml xs)) :=
  S.newown hi hp fun c => ⟨p, vs, rfl, rfl, upd_same, r.car c⟩
theorem vs_setNil (i : Nat) {x : Str} {pos' lpos : Pos} (hN : X.N.Nodup) (hi : X.N[i]? = some x := by rfl) (hx : Loc X.env.scope x := by first | exact Or.inl rfl | exact Or.inr rfl) (hs : swapsWith (.List [] lpos) (some (.Name x pos')) pos.line X.env = pure false := by rfl)
    (hf : X.fn x = true ∨ X.env.scope.names.lookup x = some .local := by first | exact .inl rfl | exact .inr rfl | assumption) : VS X W (.Assign [.Name x pos'] (.List [] lpos) pos) (wSetNil i) := by
  refine ps_imp (ps_set hN hi hx (pe_lst pa_nil) hs hf) fun D σ H h => ?_
  obtain ⟨M0, H0, oa, ds, E, S, ⟨hl, hn⟩, k1, k2, k3, k4⟩ := h
  exact ⟨by show 0 ≤ sizeLine; exact Nat.zero_le _, fun p hp => k1 _ _ _ _ hn (S.newml hl hp reps_nil)⟩
/-- x = list(e): the list is the def's own -/
def seqD : D → (List D → Prop) → Prop
  | .tup xs, P => P xs
  | .lst xs, P => P xs
  | _, _ => False
def wSetList (i : Nat) (w : WE) : WS := fun E ds => i < ds.length ∧ w ds fun d => seqD d fun xs => E.nx (ds.set i (.ml xs))
theorem seqD_of {K : PySem.W.Frag} {M : Addr → Prop} {H : Hp} {d : D} {v : V} {P : List D → Prop} (h : seqD d P) (r : Rep K M H d v) : ∃ xs a vs, P xs ∧ v = .ref a ∧ (SqL K H a vs ∨ SqT K H a vs) ∧ Reps K M H xs vs := by
  cases d with
  | tup xs => obtain ⟨a, vs, e, t, q⟩ := r.tup; exact ⟨xs, a, vs, h, e, .inr t.sq, q⟩
  | lst xs => obtain ⟨a, vs, e, t, q⟩ := r.lst; exact ⟨xs, a, vs, h, e, .inl t.sq, q⟩
  | _ => exact h.elim
theorem vs_setList (i : Nat) {x : Str} {pos' cpos p : Pos} {w : WE} (hN : X.N.Nodup) (hg : Gl X "list") (hm : X.mg "list" = none) (hv : bootBuiltins "list" = some (.type "list")) (he : VE X W e w) (hi : X.N[i]? = some x := by rfl) (hx : Loc X.env.scope x := by first | exact Or.inl rfl | exact Or.inr rfl)
    (hs : swapsWith (.Call (.Name "list" p) [e] [] cpos) (some (.Name x pos')) pos.line X.env = pure false := by rfl)
    (hf : X.fn x = true ∨ X.env.scope.names.lookup x = some .local := by first | exact .inl rfl | exact .inr rfl | assumption)
    (hs1 : starEach [e] X.env = (false, eval e X.env) :: starEach [] X.env := by rfl) : VS X W (.Assign [.Name x pos'] (.Call (.Name "list" p) [e] [] cpos) pos) (wSetList i w) := by
  refine ps_imp (ps_set hN hi hx (pe_callTy call_list_of hg hm hv (pa_cons he pa_nil hs1) (by decide) (by decide) hs1 (by rfl)) hs hf) fun D σ H h => ?_
  obtain ⟨M0, H0, oa, ds, E, S, ⟨hl, hn⟩, k1, k2, k3, k4⟩ := h
  refine ⟨M0, H0, oa, ds, _, S, hn, fun d v H1 hd e1 i1 r1 => ?_⟩
  obtain ⟨xs, a, vs, hp, rfl, hq, rr⟩ := seqD_of hd r1
  exact ⟨a, vs, rfl, hq, fun p hpn => k1 _ _ _ _ hp ((S.step e1 i1).newml hl hpn rr)⟩
def mlS : Sl → (List D → Prop) → Prop
  | .ml xs, P => P xs
  | _, _ => False
/-- x.append(e), x a list of the def's own -/
def wApp (i : Nat) (w : WE) : WS := fun E ds => mlS (ds.getD i .un) fun xs => w ds fun d => xs.length < 1000000 ∧ E.nx (ds.set i (.ml (xs ++ [d])))
theorem Sat.ml {K : PySem.W.Frag} {M0 : Addr → Prop} {H0 H : Hp} {oa : Nat → Option Addr} {σ : L2.St} {ds : List Sl} (S : Sat K W M0 H0 oa H σ ds) {i : Nat} {P : List D → Prop} (h : mlS (ds.getD i .un) P) :
    ∃ l a xs, ds[i]? = some (.ml l) ∧ P l ∧ oa i = some a ∧ σ[i]? = some (some (.ref a)) ∧ H a = some (.lst xs) ∧ Reps K (Mx M0 oa) H l xs := by
  rw [List.getD_eq_getElem?_getD] at h
  cases e : ds[i]? with
  | none => rw [e] at h; exact h.elim
  | some s =>
    rw [e] at h
    cases s with
    | un => exact h.elim
    | d x => exact h.elim
    | md ks l => exact h.elim
    | mi a C ks l => exact h.elim
    | ml l =>
      obtain ⟨a, xs, e1, e2, e3, r⟩ := S.slot i _ e
      exact ⟨l, a, xs, rfl, h, e1, e2, e3, r⟩
theorem Sat.own_ext {K : PySem.W.Frag} {M0 : Addr → Prop} {H0 H : Hp} {oa : Nat → Option Addr} {σ : L2.St} {ds : List Sl} (S : Sat K W M0 H0 oa H σ ds) {i : Nat} {a : Addr} (hl : i < ds.length) (ho : oa i = some a) (φ : Heap → Prop) : H a ≠ some (.ext φ) := by
  have h := S.slot i _ (List.getElem?_eq_getElem hl)
  rw [ho] at h
  intro z
  cases q : ds[i] with
  | un => rw [q] at h; cases h
  | d x => rw [q] at h; cases h.1
  | ml l =>
    rw [q] at h
    obtain ⟨b, xs, e1, _, e3, _⟩ := h
    cases e1
    rw [z] at e3
    cases e3
  | md ks l =>
    rw [q] at h
    obtain ⟨b, us, e1, _, _, e3, _⟩ := h
    cases e1
    rw [z] at e3
    cases e3
  | mi b C ks l =>
    rw [q] at h
    obtain ⟨dx, us, e1, _, _, e3, _⟩ := h
    cases e1
    rw [z] at e3
    cases e3
/-- the own list of slot i changes -/
theorem Sat.mutown {K : PySem.W.Frag} {M0 : Addr → Prop} {H0 H : Hp} {oa : Nat → Option Addr} {σ : L2.St} {ds : List Sl} (S : Sat K W M0 H0 oa H σ ds) {i : Nat} {a : Addr} {sl : Sl} {ob : HO} (hl : i < ds.length) (ho : oa i = some a)
    (hσ : σ[i]? = some (some (.ref a))) (hsl : Car (Mx M0 oa) (Mx M0 oa) H (upd H a ob) → SlotOk K (Mx M0 oa) (upd H a ob) (some a) sl (some (some (.ref a)))) : Sat K W M0 H0 oa (upd H a ob) σ (ds.set i sl) := by
  have nA := S.own_nA ho
  have cr : Car (Mx M0 oa) (Mx M0 oa) H (upd H a ob) := fun b o n h => ⟨n, by rw [upd_ne (fun z => n (by rw [z]; exact .inr ⟨i, ho⟩))]; exact h⟩
  refine ⟨S.wm, S.live, fun b o n h => ?_, W.stay _ _ S.wi (fun b hb => upd_ne (fun z => nA (by rw [← z]; exact hb))) (fun b φ e => (upd_ne (fun z => S.own_ext hl ho φ (by rw [← z]; exact e))).trans e) (fun b o hB e => (upd_ne (fun z => S.bl b hB (by rw [z]; exact (S.ofr i a ho).1))).trans e), S.ofr, S.inj, by simp [S.len], fun j hj => S.out j (by simpa using hj), fun j s h => ?_, S.fm, S.fh, S.bl, S.nc, S.nx⟩
  · have hb : b ≠ a := fun z => by rw [z, (S.ofr i a ho).1] at h; cases h
    rw [upd_ne hb]
    exact S.ext b o n h
  · by_cases e : j = i
    · subst e
      rw [List.getElem?_set_self hl] at h
      cases h
      rw [ho, hσ]
      exact hsl cr
    · rw [List.getElem?_set_ne (Ne.symm e)] at h
      exact (S.slot j s h).car cr fun b ys h1 h2 => by
        rw [upd_ne (fun z => e (S.inj j i a (by rw [← z]; exact h1) ho))]
        exact h2
theorem Sat.mut {K : PySem.W.Frag} {M0 : Addr → Prop} {H0 H : Hp} {oa : Nat → Option Addr} {σ : L2.St} {ds : List Sl} (S : Sat K W M0 H0 oa H σ ds) {i : Nat} {a : Addr} {l l' : List D} {xs' : List V} (hi : ds[i]? = some (.ml l)) (ho : oa i = some a)
    (hσ : σ[i]? = some (some (.ref a))) (r : Reps K (Mx M0 oa) H l' xs') : Sat K W M0 H0 oa (upd H a (.lst xs')) σ (ds.set i (.ml l')) :=
  S.mutown (List.getElem?_eq_some_iff.mp hi).1 ho hσ fun c => ⟨a, xs', rfl, rfl, upd_same, r.car c⟩
theorem vs_app (i : Nat) {x : Str} {w : WE} {p apos cpos : Pos} (he : VE X W e w) (hN : X.N[i]? = some x := by rfl) (hv : Vis X.env.scope x := by first | exact Or.inl rfl | exact Or.inr (Or.inl rfl) | exact Or.inr (Or.inr rfl))
    (hd : (x == ("__debug__" : Str)) = false := by decide) (hcd : (x == ("__classdict__" : Str)) = false := by decide)
    (hbase : attributeBase (.Name x p) "append" X.env (eval (.Name x p) X.env) = eval (.Name x p) X.env := by rfl)
    (hfew : ((backTo cpos (starEach [e] X.env)).all (fun x => !x.1) && (backToKw cpos (keywordEach [] X.env)).all (fun x => x.1.isSome)
      && decide (([e] : List Expr).length + ([] : List Keyword).length + (if ([] : List Keyword).isEmpty then 0 else 1) < 30)) = true := by rfl)
    (hline : (apos.endLine == cpos.line) = true := by rfl) (hs : starEach [e] X.env = (false, eval e X.env) :: starEach [] X.env := by rfl) (hplain : (backTo cpos (starEach [] X.env)).any (·.1) = false := by rfl)
    (hsw : swapsWith (.Call (.Attribute (.Name x p) "append" apos) [e] [] cpos) none pos.line X.env = pure false := by rfl) :
    VS X W (.Expr (.Call (.Attribute (.Name x p) "append" apos) [e] [] cpos) pos) (wApp i w) := by
  refine ps_imp (ps_expr (pe_bm PySem.F.plainAttrs_list PySem.F.slot_list_append PySem.F.type_list_append mt_append (pe_var hN hv hd hcd) (pa_cons he pa_nil hs) hbase hfew hline hs hplain) hsw) fun D σ H h => ?_
  obtain ⟨M0, H0, oa, ds, E, S, hw, k1, k2, k3, k4⟩ := h
  obtain ⟨l, a, xs, g1, hw, g2, g3, g4, g5⟩ := S.ml hw
  refine ⟨.ref a, g3, .inl ⟨rfl, _, SqL.of g4⟩, ⟨M0, H0, oa, ds, _, S, hw, fun d v H1 hd e1 i1 r1 => ?_⟩⟩
  have S1 := S.step e1 i1
  have h1 : H1 a = some (.lst xs) := e1 a _ (S.own_nA g2) g4
  refine ⟨a, xs, v, rfl, rfl, h1, ?_, ?_⟩
  · have q := hd.1
    rw [← g5.len] at q
    rw [sizeLine_eq]
    omega
  · exact k1 _ _ _ _ hd.2 (S1.mut g1 g2 g3 ((g5.ext S.mok e1).app (reps_cons r1 reps_nil)))

/-! ### return, if, while -/
def wRet (w : WE) : WS := fun E ds => w ds E.rt
def wRetN : WS := fun E _ => E.rt .non
theorem vs_ret {w : WE} (he : VE X W e w) : VS X W (.Return (some e) pos) (wRet w) := by
  refine ps_imp (ps_ret he) fun D σ H h => ?_
  obtain ⟨M0, H0, oa, ds, E, S, hw, k1, k2, k3, k4⟩ := h
  exact ⟨M0, H0, oa, ds, _, S, hw, fun d v H1 hd e1 i1 r1 => k2 d v H1 hd (S.ext.trans e1) i1 r1.out⟩
theorem vs_retN : VS X W (.Return none pos) wRetN := ps_imp ps_retN fun D σ H ⟨M0, H0, oa, ds, E, S, hw, k1, k2, _⟩ => k2 _ _ H hw S.ext S.wi rep_non
theorem vs_pass : VS X W (.Pass pos) wNext := ps_imp ps_pass fun D σ H ⟨M0, H0, oa, ds, E, S, hw, k1, _⟩ => k1 ds oa σ H hw S
theorem vs_break : VS X W (.Break pos) (fun E ds => E.bk ds) := ps_imp ps_break fun D σ H ⟨M0, H0, oa, ds, E, S, hw, k1, k2, k3, _⟩ => k3 ds oa σ H hw S
theorem vs_continue : VS X W (.Continue pos) (fun E ds => E.ct ds) := ps_imp ps_continue fun D σ H ⟨M0, H0, oa, ds, E, S, hw, k1, k2, k3, k4⟩ => k4 ds oa σ H hw S
theorem vs_doc {x j pos'} : VS X W (.Expr (.Constant (.str x) j pos) pos') wNext := ps_imp ps_doc fun D σ H ⟨M0, H0, oa, ds, E, S, hw, k1, _⟩ => k1 ds oa σ H hw S
def wDrop (w : WE) : WS := fun E ds => w ds fun _ => E.nx ds
theorem vs_expr {w : WE} (he : VE X W e w) (hs : swapsWith e none pos.line X.env = pure false := by rfl) : VS X W (.Expr e pos) (wDrop w) := by
  refine ps_imp (ps_expr he hs) fun D σ H h => ?_
  obtain ⟨M0, H0, oa, ds, E, S, hw, k1, k2, k3, k4⟩ := h
  exact ⟨M0, H0, oa, ds, _, S, hw, fun d v H1 hd e1 i1 r1 => k1 _ _ _ _ hd (S.step e1 i1)⟩
def wIfS (t : WT) (a b : WS) : WS := fun E ds => t ds fun c => if c = true then a E ds else b E ds
theorem vs_if {t : WT} {a b : WS} (hc : VT X W c t) (ha : VSs X W body a) (hb : VSs X W body2 b) : VS X W (.If c body body2 pos) (wIfS t a b) := by
  refine ps_imp (ps_if hc ha hb) fun D σ H h => ?_
  obtain ⟨M0, H0, oa, ds, E, S, hw, k⟩ := h
  refine ⟨M0, H0, oa, ds, _, S, hw, fun d H1 hd e1 i1 => ?_⟩
  cases d with
  | true => exact ⟨M0, H0, oa, ds, E, S.step e1 i1, hd, k⟩
  | false => exact ⟨M0, H0, oa, ds, E, S.step e1 i1, hd, k⟩
def wWhile (t : WT) (b : WS) : WS := fun E ds => ∃ Iv : Nat → List Sl → Prop, (∃ m, Iv m ds) ∧ ∀ m ds, Iv m ds → t ds fun c => if c = true then b { E with nx := fun ds' => ∃ m', m' < m ∧ Iv m' ds', ct := fun ds' => ∃ m', m' < m ∧ Iv m' ds', bk := E.nx } ds else E.nx ds
theorem vs_while {t : WT} {b : WS} (hp : PassesOwn (model X.prog X.w) X.A X.env X.xe) (hc : VT X W c t) (hb : VSs X W body b) : VS X W (.While c body [] pos) (wWhile t b) := by
  refine ps_imp (ps_while hp hc hb) fun D σ H h => ?_
  obtain ⟨M0, H0, oa, ds, E, S, ⟨Iv, ⟨m0, h0⟩, turn⟩, k1, k2, k3, k4⟩ := h
  refine ⟨fun m σ H => ∃ oa ds, Iv m ds ∧ Sat X.K W M0 H0 oa H σ ds, ⟨m0, oa, ds, h0, S⟩, ?_⟩
  rintro m σ1 H1 ⟨oa1, ds1, hi, S1⟩
  refine ⟨M0, H0, oa1, ds1, _, S1, turn m ds1 hi, fun c H2 hc e2 i2 => ?_⟩
  have S2 := S1.step e2 i2
  cases c with
  | true =>
    refine ⟨fun σ' H' => ∃ m', m' < m ∧ ∃ oa ds, Iv m' ds ∧ Sat X.K W M0 H0 oa H' σ' ds, fun σ' H' h => h, ?_⟩
    refine ⟨M0, H0, oa1, ds1, _, S2, hc, ?_, k2, ?_, ?_⟩
    · rintro ds' oa' σ' H' ⟨m', hm, hi'⟩ S'
      exact ⟨m', hm, oa', ds', hi', S'⟩
    · intro ds' oa' σ' H' hn S'
      exact k1 ds' oa' σ' H' hn S'
    · rintro ds' oa' σ' H' ⟨m', hm, hi'⟩ S'
      exact ⟨m', hm, oa', ds', hi', S'⟩
  | false => exact k1 _ _ _ _ hc S2
/-- a, b = e, f -/
def wPar (i j : Nat) (wa wb : WE) : WS := fun E ds => wa ds fun x => wb ds fun y => E.nx ((ds.set i (.d x)).set j (.d y))
theorem vs_par (i j : Nat) {x y : Str} {a b : Expr} {wa wb : WE} {px py pt : Pos} {kt k2 pt2} (hc : X.calm = true) (hN : X.N.Nodup) (hij : i ≠ j) (ha : VE X W a wa) (hb : VE X W b wb) (hi : X.N[i]? = some x := by rfl) (hj : X.N[j]? = some y := by rfl)
    (hx : X.env.scope.names.lookup x = some .local := by rfl) (hy : X.env.scope.names.lookup y = some .local := by rfl)
    (hw : swappedStores [.Tuple [.Name x px, .Name y py] kt pt] (.Tuple [a, b] k2 pt2) X.env = pure (some [x, y]) := by rfl)
    (hs : swapsWithSole [.Tuple [.Name x px, .Name y py] kt pt] (.Tuple [a, b] k2 pt2) pos.line X.env = pure false := by rfl) (hs1 : starEach [a, b] X.env = (false, eval a X.env) :: starEach [b] X.env := by rfl) (hs2 : starEach [b] X.env = (false, eval b X.env) :: starEach [] X.env := by rfl) :
    VS X W (.Assign [.Tuple [.Name x px, .Name y py] kt pt] (.Tuple [a, b] k2 pt2) pos) (wPar i j wa wb) := by
  refine ps_imp (ps_par hc hN hi hj hij hx hy (pa_cons ha (pa_cons hb pa_nil hs2) hs1) hw hs) fun D σ H h => ?_
  obtain ⟨M0, H0, oa, ds, E, S, hw, k1, k2, k3, k4⟩ := h
  refine ⟨M0, H0, oa, ds, _, S, hw, fun d v H1 hd e1 i1 r1 => ?_⟩
  have S1 := S.step e1 i1
  refine ⟨M0, H0, oa, ds, _, S1, hd, fun d2 v2 H2 hd2 e2 i2 r2 => ?_⟩
  have S2 := S1.step e2 i2
  have S3 := S2.set (i := i) (r1.ext S1.mok e2)
  exact ⟨v, v2, rfl, k1 _ _ _ _ hd2 (S3.set (i := j) (r2.car car_del))⟩

/-! ### defs -/
def startD (N : List Str) (ds : List D) : List Sl := ds.map Sl.d ++ List.replicate (N.length - ds.length) .un
def endsD (P : D → Prop) : EndsD := { nx := fun _ => P .non, rt := P }
end
theorem startD_get {N : List Str} {ds : List D} {i : Nat} {s : Sl} (h : (startD N ds)[i]? = some s) : s = .un ∨ ∃ x, ds[i]? = some x ∧ s = .d x := by
  unfold startD at h
  by_cases hi : i < ds.length
  · rw [List.getElem?_append_left (by simpa using hi), List.getElem?_map] at h
    cases e : ds[i]? with
    | none => rw [e] at h; cases h
    | some x => rw [e] at h; cases h; exact .inr ⟨x, rfl, rfl⟩
  · rw [List.getElem?_append_right (by simpa using hi), List.getElem?_replicate] at h
    split at h
    · cases h; exact .inl rfl
    · cases h
/-- the world without what a run fixes -/
def Wd.pl (W : Wd) : Wd := { A := W.A, I := W.I, live := W.live, nx := W.nx, B := W.B, liveB := W.liveB, C := W.C, cb := W.cb, stay := W.stay }
theorem sat_start {K : PySem.W.Frag} {W : Wd} {M : Addr → Prop} {H : Hp} {N : List Str} {ds : List D} {vs : List V} (m : MOk W M H) (r : Reps K M H ds vs) (hl : ds.length ≤ N.length) (hm : ∀ a, W.Mf a → M a) (hh : Ext W W.Hf H) : Sat K W M H (fun _ => none) H (L2.start N vs) (startD N ds) := by
  refine ⟨m.wm, m.live, Ext.refl H, m.wi, fun i a h => (by cases h), fun i j a h => (by cases h), ?_, fun i _ => rfl, fun i s h => ?_, hm, hh, fun a h => W.liveB _ _ m.wi h, m.nb, m.nx⟩
  · unfold startD L2.start
    simp [r.len]
  · rcases startD_get h with e | ⟨x, hx, e⟩
    · subst e; rfl
    · subst e
      obtain ⟨v, hv, rv⟩ := r.get hx
      refine ⟨rfl, v, ?_, rv.car fun b o n q => ⟨fun z => n (z.elim id fun ⟨_, z⟩ => nomatch z), q⟩⟩
      have hi : i < vs.length := (List.getElem?_eq_some_iff.mp hv).1
      unfold L2.start
      rw [List.getElem?_append_left (by simpa using hi), List.getElem?_map, hv]
      rfl
/-- THE RULE for a def: its body as a term, its reading on plain data -/
theorem vfn {P : Program} {w : World} {K : PySem.W.Frag} {mg : Str → Option Value} {base : Heap} {W : Wd} {x qual : Str} {st : Stmt} {f : Addr} {fd : FuncData} {N ps : List Str} {k : Nat} {g : List D → (D → Prop) → Prop} (F : Fun K x qual st f fd) (S : FnScope N ps (defScope st))
    (len : ∀ ds P, g ds P → ds.length = ps.length)
    (hb : ∃ wb : WS, (∀ (cdv : Value) (A : Around) (outer : List Env) (s : Shared) (H : Hp) (E : XK), Room k (A.deeper (envOfC qual (defScope st) s.heap.objs.size f cdv)) → VSs (cxOf CX0 P w K mg base N qual (defScope st) f cdv A outer s H E).nox W.pl (defBody st) wb) ∧
      ∀ ds Q, g ds Q → wb (endsD Q) (startD N ds)) : FnOk P w K mg base CX0 (k + 1) f fd ps (spD K W g) := by
  obtain ⟨wb, h1, h2⟩ := hb
  refine F.ok S (fun vs H Q E h => ?_) (fun cdv A outer s H vs Q E hr h => ⟨LS K W.pl wb, h1 cdv A outer s H E hr, ?_⟩)
  · obtain ⟨M, ds, P, m, r, hg, _⟩ := h
    rw [r.len, len ds P hg]
  · obtain ⟨M, ds, P, m, r, hg, k⟩ := h
    have hl : ds.length ≤ N.length := by
      have q := congrArg List.length S.pre
      rw [List.length_take] at q
      rw [len ds P hg]
      omega
    refine ⟨M, H, fun _ => none, startD N ds, endsD P, sat_start (W := W.pl) ⟨m.wm, m.live, m.wi, m.nb, m.nx⟩ r hl (fun _ z => z.elim) (fun _ _ _ z => by cases z), h2 ds P hg, fun ds' oa' σ' H' hn S' => ?_, fun d v H' hd e i r' => k d v H' hd e i r', fun _ _ _ _ z => z.elim, fun _ _ _ _ z => z.elim⟩
    exact k .non .non H' hn S'.ext S'.wi rep_non
end VL

set_option Elab.async false
set_option linter.all false
set_option maxRecDepth 100000
set_option maxHeartbeats 2000000
/-! VD: loops and comprehensions over plain data. -/
namespace VL
open PySem PySem.Spec PyProof.Rows L2

abbrev WI := List Sl → (List D → Prop) → Prop
def ItOk (K : PySem.W.Frag) (W : Wd) (M : Addr → Prop) (H1 : Hp) (J : It) (items : List D) : Prop := ∀ M2 H2, Car M M2 H1 H2 → MOk W M2 H2 →
  (∀ i, i < items.length → J.go i H2) ∧ (∀ i, items.length ≤ i → i ≤ items.length → J.stop i H2) ∧ ∀ i d x H3, items[i]? = some d → J.yld i H2 x H3 → Full H2 H3 ∧ Rep K M2 H3 d x
def LI (K : PySem.W.Frag) (W : Wd) (w : WI) : TI := fun σ H R => ∃ M0 H0 oa ds P, Sat K W M0 H0 oa H σ ds ∧ w ds P ∧ ∀ items J H', P items → items.length ≤ sizeLine → Ext W H H' → W.I H' → ItOk K W (Mx M0 oa) H' J items → R J H'
abbrev VI (X : Cx) (W : Wd) (tg iter : Expr) (w : WI) : Prop := PI X tg iter (LI X.K W w)
section
variable {X : Cx} {tg e : Expr}
theorem pi_imp {iter : Expr} {t t' : TI} (h : PI X tg iter t) (f : ∀ σ H R, t' σ H R → t σ H R) : PI X tg iter t' := ⟨fun pins s σ H R I hw => h.run pins s σ H R I (f σ H R hw)⟩
/-- a list, a tuple, a text that is walked; its length is told -/
def iAny (K : PySem.W.Frag) (tl : TE) : TI := fun σ H R => tl σ H fun x H1 => (∃ a xs, x = .ref a ∧ SqL K H1 a xs ∧ (xs.length ≤ sizeLine → R (Itl K a) H1)) ∨ (∃ a xs, x = .ref a ∧ SqT K H1 a xs ∧ (xs.length ≤ sizeLine → R (Itt K a) H1)) ∨ ∃ z, x = .str z ∧ R (Its z) H1
theorem pi_any {tl : TE} (hl : PE X e tl) : PI X tg e (iAny X.K tl) := by
  refine ⟨fun pins s σ H R I h => ?_⟩
  refine thn (hl.run pins s σ H _ I h) fun v s1 ⟨x, H1, I1, r1, q1⟩ => ?_
  rcases q1 with ⟨a, xs, e, hq, q⟩ | ⟨a, xs, e, hq, q⟩ | ⟨x, ex, q⟩
  · subst e
    cases r1
    obtain ⟨its, rv, p, hz⟩ := I1.list hq
    refine wpAny_pyIter_list p.isList ?_
    refine ⟨s1.heap.objs.size, [s1.heap.objs.size], _, _, H1, rfl, I1.kept (t' := s1.toks) fun b o e => Heap.get?_push_of_some _ e, turn_list a _, ⟨_, Heap.get?_push_size _ rfl, rfl, rfl⟩, fun b hb => ?_, q hz⟩
    have e : b = s1.heap.objs.size := by simpa using hb
    subst e
    exact I1.fpOk (Nat.le_refl _) (I1.hok.fresh (Nat.le_refl _))
  · subst e
    cases r1
    obtain ⟨its, rv, p, hz⟩ := I1.tuple hq
    refine wpAny_pyIter_tuple (show s1.heap.IsTuple a its.toArray from p) ?_
    refine ⟨s1.heap.objs.size, [s1.heap.objs.size], _, _, H1, rfl, I1.kept (t' := s1.toks) fun b o e => Heap.get?_push_of_some _ e, turn_tuple a _, ⟨_, Heap.get?_push_size _ rfl, rfl, rfl⟩, fun b hb => ?_, q hz⟩
    have e : b = s1.heap.objs.size := by simpa using hb
    subst e
    exact I1.fpOk (Nat.le_refl _) (I1.hok.fresh (Nat.le_refl _))
  · subst ex
    obtain ⟨t, rfl⟩ := r1
    cases ha : x.cps.all (· < 128)
    · exact wpAny_pyIter_wide ha (pi_one (tk := s1.toks) I1 _ (turn_str _ x t "str_iterator" (.inr rfl)) ⟨_, Heap.get?_push_size _ rfl, rfl, rfl⟩ q)
    · exact wpAny_pyIter_ascii ha (pi_one (tk := s1.toks) I1 _ (turn_str _ x t "str_ascii_iterator" (.inl rfl)) ⟨_, Heap.get?_push_size _ rfl, rfl, rfl⟩ q)
end
section
variable {K : PySem.W.Frag} {W : Wd} {M : Addr → Prop} {H1 : Hp}
theorem get_lt {α : Type} {xs : List α} {i : Nat} (h : i < xs.length) : ∃ x, xs[i]? = some x := ⟨xs[i], by simp [h]⟩
theorem itok_l {a : Addr} {xs : List V} {ds : List D} (t : LstM K M H1 a xs) (r : Reps K M H1 ds xs) (u : ∀ H ys, SqL K H a xs → SqL K H a ys → ys = xs) : ItOk K W M H1 (Itl K a) ds := fun M2 H2 c m => by
  have t2 := (t.car c).sq
  refine ⟨fun i hi => ?_, fun i hi _ => ⟨xs, t2, by rw [r.len]; exact hi⟩, fun i d x H3 hd hy => ?_⟩
  · obtain ⟨x, hx⟩ := get_lt (xs := xs) (i := i) (by rw [r.len]; exact hi)
    exact ⟨xs, x, t2, hx⟩
  · obtain ⟨e, hy⟩ := hy
    subst e
    obtain ⟨v, hv, rv⟩ := r.get hd
    have := hy xs t2
    rw [hv] at this
    cases this
    exact ⟨Full.refl _, rv.car c⟩
theorem itok_t {a : Addr} {xs : List V} {ds : List D} (t : TupM K M H1 a xs) (r : Reps K M H1 ds xs) : ItOk K W M H1 (Itt K a) ds := fun M2 H2 c m => by
  have t2 := (t.car c).sq
  refine ⟨fun i hi => ?_, fun i hi _ => ⟨xs, t2, by rw [r.len]; exact hi⟩, fun i d x H3 hd hy => ?_⟩
  · obtain ⟨x, hx⟩ := get_lt (xs := xs) (i := i) (by rw [r.len]; exact hi)
    exact ⟨xs, x, t2, hx⟩
  · obtain ⟨e, hy⟩ := hy
    subst e
    obtain ⟨v, hv, rv⟩ := r.get hd
    have := hy xs t2
    rw [hv] at this
    cases this
    exact ⟨Full.refl _, rv.car c⟩
def sgns (z : Str) : List D := z.cps.toList.map fun c => D.str ⟨#[c]⟩
theorem itok_s {z : Str} : ItOk K W M H1 (Its z) (sgns z) := fun M2 H2 c' m => by
  have hl : (sgns z).length = z.cps.size := by simp [sgns]
  refine ⟨fun i hi => by rw [hl] at hi; exact hi, fun i hi _ => by rw [hl] at hi; exact hi, fun i d x H3 hd hy => ?_⟩
  obtain ⟨e, c, hc, ex⟩ := hy
  subst e ex
  unfold sgns at hd
  rw [List.getElem?_map] at hd
  have : z.cps.toList[i]? = some c := by simpa using hc
  rw [this] at hd
  cases hd
  exact ⟨Full.refl _, rep_str⟩
/-- what is walked: the items of a list, a tuple, the signs of a text -/
def itsD : D → (List D → Prop) → Prop
  | .tup xs, P => P xs
  | .lst xs, P => P xs
  | .str z, P => z.length ≤ sizeLine ∧ P (sgns z)
  | _, _ => False
def wIts (w : WE) : WI := fun ds P => w ds fun d => itsD d P
theorem vi_its {X : Cx} {tg e : Expr} {w : WE} (h : VE X W e w) : VI X W tg e (wIts w) := by
  refine pi_imp (pi_any h) fun σ H R h => ?_
  obtain ⟨M0, H0, oa, ds, P, S, hw, k⟩ := h
  refine ⟨M0, H0, oa, ds, _, S, hw, fun d v H1 hd e1 i1 r1 => ?_⟩
  cases d with
  | tup xs =>
    obtain ⟨a, vs, rfl, t, r⟩ := r1.tup
    exact .inr (.inl ⟨a, vs, rfl, t.sq, fun hz => k xs _ H1 hd (by rw [← r.len]; exact hz) e1 i1 (itok_t t r)⟩)
  | lst xs =>
    obtain ⟨a, vs, rfl, t, r⟩ := r1.lst
    refine .inl ⟨a, vs, rfl, t.sq, fun hz => k xs _ H1 hd (by rw [← r.len]; exact hz) e1 i1 ?_⟩
    intro M2 H2 c m
    have t2 := (t.car c).sq
    refine ⟨fun i hi => ?_, fun i hi _ => ⟨vs, t2, by rw [r.len]; exact hi⟩, fun i d x H3 hd hy => ?_⟩
    · obtain ⟨x, hx⟩ := get_lt (xs := vs) (i := i) (by rw [r.len]; exact hi)
      exact ⟨vs, x, t2, hx⟩
    · obtain ⟨e, hy⟩ := hy
      subst e
      obtain ⟨v, hv, rv⟩ := r.get hd
      have := hy vs t2
      rw [hv] at this
      cases this
      exact ⟨Full.refl _, rv.car c⟩
  | str z => exact .inr (.inr ⟨z, r1.str, k _ _ H1 hd.2 (by simpa [sgns, Str.length] using hd.1) e1 i1 itok_s⟩)
  | _ => exact hd.elim
/-- range(n), range(a, b) -/
def rngD (lo : Int) (n : Nat) : List D := (List.range n).map fun (i : Nat) => D.int (lo + (i : Int))
theorem itok_r {lo : Int} {n : Nat} : ItOk K W M H1 (Itr lo n) (rngD lo n) := fun M2 H2 c m => by
  have hl : (rngD lo n).length = n := by simp [rngD]
  refine ⟨fun i hi => by rw [hl] at hi; exact hi, fun i hi _ => by rw [hl] at hi; exact hi, fun i d x H3 hd hy => ?_⟩
  obtain ⟨e, ex⟩ := hy
  subst e ex
  unfold rngD at hd
  rw [List.getElem?_map] at hd
  cases q : (List.range n)[i]? with
  | none => rw [q] at hd; cases hd
  | some j =>
    rw [q] at hd
    have hj := (List.getElem?_eq_some_iff.mp q)
    obtain ⟨_, hj⟩ := hj
    rw [List.getElem_range] at hj
    subst hj
    cases hd
    exact ⟨Full.refl _, rep_int⟩
def rangeD : List D → (List D → Prop) → Prop
  | [.int j], P => j ≤ 1000000 ∧ P (rngD 0 j.toNat)
  | [.int i, .int j], P => -1000000 ≤ i ∧ j ≤ 1000000 ∧ P (rngD i (j - i).toNat)
  | _, _ => False
def wRng (l : WL) : WI := fun ds P => l ds fun xs => rangeD xs P
def rng1 : List D → (List D → Prop) → Prop
  | [.int j], P => -1000000 ≤ j ∧ j ≤ 1000000 ∧ P (rngD 0 j.toNat)
  | _, _ => False
def wRng1 (w : WE) : WI := fun ds P => w ds fun x => rng1 [x] P
theorem vi_range1 {X : Cx} {tg a : Expr} {w : WE} {p pos : Pos} (hg : Gl X "range") (hm : X.mg "range" = none) (ha : VE X W a w) (hs : starEach [a] X.env = [(false, eval a X.env)] := by rfl) (hs1 : starEach [a] X.env = (false, eval a X.env) :: starEach [] X.env := by rfl) : VI X W tg (.Call (.Name "range" p) [a] [] pos) (wRng1 w) := by
  refine pi_imp (pi_range1 hg hm (pa_cons ha pa_nil hs1) hs) fun σ H R h => ?_
  obtain ⟨M0, H0, oa, ds, P, S, hw, k⟩ := h
  refine ⟨M0, H0, oa, ds, _, S, hw, fun d v H1 hd e1 i1 r1 => ?_⟩
  cases d <;> first | exact hd.elim | skip
  rename_i j
  obtain ⟨h0, h1, hd⟩ := hd
  have e := r1.int
  subst e
  refine ⟨j, rfl, by omega, by omega, k _ _ H1 hd ?_ e1 i1 itok_r⟩
  rw [show (rngD 0 j.toNat).length = j.toNat by simp [rngD], sizeLine_eq]
  omega
/-- zip of two lists or of two tuples -/
def zipsD (xs ys : List D) : List D := (xs.zip ys).map fun p => D.tup [p.1, p.2]
theorem zips_get {xs ys : List D} {i : Nat} {d : D} (h : (zipsD xs ys)[i]? = some d) : ∃ x y, xs[i]? = some x ∧ ys[i]? = some y ∧ d = .tup [x, y] := by
  unfold zipsD at h
  rw [List.getElem?_map] at h
  cases q : (xs.zip ys)[i]? with
  | none => rw [q] at h; cases h
  | some p =>
    rw [q] at h
    cases h
    obtain ⟨x, y⟩ := p
    rw [List.getElem?_zip_eq_some] at q
    exact ⟨x, y, q.1, q.2, rfl⟩
theorem zips_len (xs ys : List D) : (zipsD xs ys).length = min xs.length ys.length := by simp [zipsD]
theorem itok_zl {a b : Addr} {xs ys : List V} {ds es : List D} (t : LstM K M H1 a xs) (r : Reps K M H1 ds xs) (t' : LstM K M H1 b ys) (r' : Reps K M H1 es ys) : ItOk K W M H1 (Itz K a b) (zipsD ds es) := fun M2 H2 c m => by
  have u1 := (t.car c).sq
  have u2 := (t'.car c).sq
  refine ⟨fun i hi => ?_, fun i hi _ => ⟨xs, ys, u1, u2, ?_⟩, fun i d x H3 hd hy => ?_⟩
  · rw [zips_len] at hi
    obtain ⟨x, hx⟩ := get_lt (xs := xs) (i := i) (by rw [r.len]; omega)
    obtain ⟨y, hy⟩ := get_lt (xs := ys) (i := i) (by rw [r'.len]; omega)
    exact ⟨xs, ys, x, y, u1, u2, hx, hy⟩
  · rw [zips_len] at hi
    rw [r.len, r'.len]
    omega
  · obtain ⟨T, x', y', rfl, hT, rfl, g1, g2⟩ := hy
    obtain ⟨dx, dy, h1, h2, rfl⟩ := zips_get hd
    obtain ⟨v1, hv1, rv1⟩ := r.get h1
    obtain ⟨v2, hv2, rv2⟩ := r'.get h2
    have q1 := g1 xs u1
    have q2 := g2 ys u2
    rw [hv1] at q1
    rw [hv2] at q2
    cases q1
    cases q2
    exact ⟨Full.new hT, m.newT hT (reps_cons (rv1.car c) (reps_cons (rv2.car c) reps_nil))⟩
theorem itok_zt {a b : Addr} {xs ys : List V} {ds es : List D} (t : TupM K M H1 a xs) (r : Reps K M H1 ds xs) (t' : TupM K M H1 b ys) (r' : Reps K M H1 es ys) : ItOk K W M H1 (RZ.ItzT K a b) (zipsD ds es) := fun M2 H2 c m => by
  have u1 := (t.car c).sq
  have u2 := (t'.car c).sq
  refine ⟨fun i hi => ?_, fun i hi _ => ⟨xs, ys, u1, u2, ?_⟩, fun i d x H3 hd hy => ?_⟩
  · rw [zips_len] at hi
    obtain ⟨x, hx⟩ := get_lt (xs := xs) (i := i) (by rw [r.len]; omega)
    obtain ⟨y, hy⟩ := get_lt (xs := ys) (i := i) (by rw [r'.len]; omega)
    exact ⟨xs, ys, x, y, u1, u2, hx, hy⟩
  · rw [zips_len] at hi
    rw [r.len, r'.len]
    omega
  · obtain ⟨T, x', y', rfl, hT, rfl, g1, g2⟩ := hy
    obtain ⟨dx, dy, h1, h2, rfl⟩ := zips_get hd
    obtain ⟨v1, hv1, rv1⟩ := r.get h1
    obtain ⟨v2, hv2, rv2⟩ := r'.get h2
    have q1 := g1 xs u1
    have q2 := g2 ys u2
    rw [hv1] at q1
    rw [hv2] at q2
    cases q1
    cases q2
    exact ⟨Full.new hT, m.newT hT (reps_cons (rv1.car c) (reps_cons (rv2.car c) reps_nil))⟩
def zipD : D → D → (List D → Prop) → Prop
  | .lst xs, .lst ys, P => xs.length ≤ 1000000 ∧ P (zipsD xs ys)
  | .tup xs, .tup ys, P => xs.length ≤ 1000000 ∧ P (zipsD xs ys)
  | _, _, _ => False
def wZip (wa wb : WE) : WI := fun ds P => wa ds fun x => wb ds fun y => zipD x y P
theorem vi_zip {X : Cx} {e e2 : Expr} {wa wb : WE} {p pos tpos : Pos} {elts : List Expr} {kk : Nat} (hg : Gl X "zip") (hm : X.mg "zip" = none) (ha : VE X W e wa) (hb : VE X W e2 wb)
    (hs : starEach [e, e2] X.env = (false, eval e X.env) :: starEach [e2] X.env := by rfl) (hpl : (backTo pos (starEach [e2] X.env)).any (·.1) = false := by rfl) (hs2 : starEach [e2] X.env = (false, eval e2 X.env) :: starEach [] X.env := by rfl) :
    VI X W (.Tuple elts kk tpos) (.Call (.Name "zip" p) [e, e2] [] pos) (wZip wa wb) := by
  refine pi_imp (RZ.pi_zipA hg hm (pa_cons ha (pa_cons hb pa_nil hs2) hs) hs hpl) fun σ H R h => ?_
  obtain ⟨M0, H0, oa, ds, P, S, hw, k⟩ := h
  refine ⟨M0, H0, oa, ds, _, S, hw, fun x v H1 hx e1 i1 r1 => ?_⟩
  have S1 := S.step e1 i1
  refine ⟨M0, H0, oa, ds, _, S1, hx, fun y u H2 hy e2 i2 r2 => ?_⟩
  have r1' := r1.ext S1.mok e2
  cases x with
  | lst xs =>
    cases y with
    | lst ys =>
      obtain ⟨a, vs, rfl, t, q⟩ := r1'.lst
      obtain ⟨b, us, rfl, t', q'⟩ := r2.lst
      exact ⟨a, b, vs, us, rfl, .inl ⟨t.sq, t'.sq, k _ _ H2 hy.2 (by rw [zips_len, sizeLine_eq]; have := hy.1; omega) (e1.trans e2) i2 (itok_zl t q t' q')⟩⟩
    | _ => exact hy.elim
  | tup xs =>
    cases y with
    | tup ys =>
      obtain ⟨a, vs, rfl, t, q⟩ := r1'.tup
      obtain ⟨b, us, rfl, t', q'⟩ := r2.tup
      exact ⟨a, b, vs, us, rfl, .inr ⟨t.sq, t'.sq, k _ _ H2 hy.2 (by rw [zips_len, sizeLine_eq]; have := hy.1; omega) (e1.trans e2) i2 (itok_zt t q t' q')⟩⟩
    | _ => exact hy.elim
  | _ => exact hy.elim
end

/-! ### targets -/
abbrev WG := D → List Sl → (List Sl → Prop) → Prop
def LG (K : PySem.W.Frag) (W : Wd) (vs : List Nat) (w : WG) : TG := fun v σ H Q => ∃ M0 H0 oa ds d P, Sat K W M0 H0 oa H σ ds ∧ Rep K (Mx M0 oa) H d v ∧ w d ds P ∧
  ∀ ds' oa' σ', P ds' → Sat K W M0 H0 oa' H σ' ds' → wipe σ' vs = wipe σ vs → (∀ j a, oa' j = some a → oa j = some a) → (∀ j, j ∉ vs → oa' j = oa j) → Q σ' H
abbrev VG (X : Cx) (W : Wd) (vs : List Nat) (tg : Expr) (w : WG) : Prop := PG X tg (LG X.K W vs w)
theorem wipe_get (σ : L2.St) (i : Nat) : ∀ vs : List Nat, (wipe σ vs)[i]? = if i ∈ vs then (if i < σ.length then some none else none) else σ[i]?
  | [] => by simp [wipe]
  | v :: vs => by
    unfold wipe
    have ih := wipe_get σ i vs
    by_cases e : v = i
    · subst e
      by_cases hl : v < σ.length
      · rw [List.getElem?_set_self (by rw [wipe_length]; exact hl)]
        simp [hl]
      · rw [List.getElem?_eq_none (by simp [wipe_length]; omega)]
        simp [hl]
    · rw [List.getElem?_set_ne e, ih]
      have : (i ∈ v :: vs) ↔ i ∈ vs := by simp [Ne.symm e]
      simp only [this]
theorem wipe_wipe (σ : L2.St) (vs : List Nat) : wipe (wipe σ vs) vs = wipe σ vs := by
  apply List.ext_getElem?
  intro j
  rw [wipe_get, wipe_get, wipe_length]
  by_cases hj : j ∈ vs
  · simp [hj]
  · simp [hj]
theorem wipe_set {σ : L2.St} {i : Nat} {v : Option V} {vs : List Nat} (h : i ∈ vs) : wipe (σ.set i v) vs = wipe σ vs := by
  apply List.ext_getElem?
  intro j
  rw [wipe_get, wipe_get]
  by_cases hj : j ∈ vs
  · simp [hj]
  · have : i ≠ j := fun e => hj (e ▸ h)
    simp [hj, List.getElem?_set_ne this]
section
variable {X : Cx} {W : Wd} {pos : Pos} {vs : List Nat}
theorem pg_imp {tg : Expr} {t t' : TG} (h : PG X tg t) (f : ∀ v σ H Q, t' v σ H Q → t v σ H Q) : PG X tg t' := ⟨fun pins s σ H v u Q I r hw => h.run pins s σ H v u Q I r (f v σ H Q hw)⟩
theorem pgs_imp {tg : List Expr} {t t' : TGs} (h : PGs X tg t) (f : ∀ v σ H Q, t' v σ H Q → t v σ H Q) : PGs X tg t' := ⟨fun pins s σ H v u Q I r hw => h.run pins s σ H v u Q I r (f v σ H Q hw)⟩
def wgName (i : Nat) : WG := fun d ds P => P (ds.set i (.d d))
theorem vg_name (i : Nat) {x : Str} (hN : X.N.Nodup) (hv : i ∈ vs) (hi : X.N[i]? = some x := by rfl) (hx : Loc X.env.scope x := by first | exact Or.inl rfl | exact Or.inr rfl) (hf : X.fn x = true ∨ X.env.scope.names.lookup x = some .local := by first | exact .inl rfl | exact .inr rfl | assumption) :
    VG X W vs (.Name x pos) (wgName i) := by
  refine pg_imp (pg_name hN hi hx hf) fun v σ H Q h => ?_
  obtain ⟨M0, H0, oa, ds, d, P, S, r, hw, k⟩ := h
  refine k _ _ _ hw (S.set r) (wipe_set hv) (fun j a z => (oaDel_some z).2) fun j hj => ?_
  unfold oaDel
  rw [if_neg (fun e => hj (by rw [e]; exact hv))]
abbrev WGs := List D → List Sl → (List Sl → Prop) → Prop
def LGs (K : PySem.W.Frag) (W : Wd) (vs : List Nat) (w : WGs) : TGs := fun us σ H Q => ∃ M0 H0 oa ds xs P, Sat K W M0 H0 oa H σ ds ∧ Reps K (Mx M0 oa) H xs us ∧ w xs ds P ∧
  ∀ ds' oa' σ', P ds' → Sat K W M0 H0 oa' H σ' ds' → wipe σ' vs = wipe σ vs → (∀ j a, oa' j = some a → oa j = some a) → (∀ j, j ∉ vs → oa' j = oa j) → Q σ' H
def wgNil : WGs := fun xs ds P => match xs with
  | [] => P ds
  | _ => False
def wgCons (w : WG) (u : WGs) : WGs := fun xs ds P => match xs with
  | x :: r => w x ds fun ds' => u r ds' P
  | _ => False
theorem vgs_nil : PGs X [] (LGs X.K W vs wgNil) := pgs_imp pgs_nil fun us σ H Q ⟨M0, H0, oa, ds, xs, P, S, r, hw, k⟩ => by
  cases xs with
  | nil => exact ⟨r.inv0, k ds oa σ hw S rfl (fun _ _ h => h) fun _ _ => rfl⟩
  | cons x xs => exact hw.elim
theorem mx_le {M0 : Addr → Prop} {oa oa' : Nat → Option Addr} (h : ∀ j a, oa' j = some a → oa j = some a) {H : Hp} : Car (Mx M0 oa) (Mx M0 oa') H H := fun b o n q => ⟨fun z => n (z.elim .inl fun ⟨j, z⟩ => .inr ⟨j, h j b z⟩), q⟩
theorem vgs_cons {e : Expr} {es : List Expr} {w : WG} {u : WGs} (h1 : VG X W vs e w) (h2 : PGs X es (LGs X.K W vs u)) (hs : (assignEach (e :: es) X.env).map (·.2) = assign e X.env :: (assignEach es X.env).map (·.2) := by rfl) :
    PGs X (e :: es) (LGs X.K W vs (wgCons w u)) := by
  refine pgs_imp (pgs_cons h1 h2 hs) fun us σ H Q h => ?_
  obtain ⟨M0, H0, oa, ds, xs, P, S, r, hw, k⟩ := h
  cases xs with
  | nil => exact hw.elim
  | cons x xs =>
    obtain ⟨v, vr, rfl, r1, r2⟩ := r.inv
    refine ⟨v, vr, rfl, M0, H0, oa, ds, x, _, S, r1, hw, fun ds' oa' σ' hp S' hwi hsub hout => ?_⟩
    exact ⟨M0, H0, oa', ds', xs, P, S', r2.car (mx_le hsub), hp, fun ds2 oa2 σ2 hq S2 hw2 hs2 ho2 => k ds2 oa2 σ2 hq S2 (hw2.trans hwi) (fun j a z => hsub j a (hs2 j a z)) fun j hj => (ho2 j hj).trans (hout j hj)⟩
/-- (a, b, ..): a tuple of that length -/
def wgTup (n : Nat) (u : WGs) : WG := fun d ds P => match d with
  | .tup xs => xs.length = n ∧ u xs ds P
  | .lst xs => xs.length = n ∧ u xs ds P
  | _ => False
theorem PG.or' {tg : Expr} {t t' : TG} (h : PG X tg t) (h' : PG X tg t') : PG X tg (fun v σ H Q => t v σ H Q ∨ t' v σ H Q) := ⟨fun pins s σ H v u Q I r hw => hw.elim (h.run pins s σ H v u Q I r) (h'.run pins s σ H v u Q I r)⟩
theorem vg_tup {es : List Expr} {k : Nat} {u : WGs} {n : Nat} (hc : X.calm = true) (h : PGs X es (LGs X.K W vs u)) (hn : (assignEach es X.env).length = n := by rfl) (hst : (assignEach es X.env).findIdx? (·.1) = none := by rfl) : VG X W vs (.Tuple es k pos) (wgTup n u) := by
  refine pg_imp (PG.or' (pg_tup hc h hn hst) (pg_unl hc h hn hst)) fun v σ H Q h => ?_
  obtain ⟨M0, H0, oa, ds, d, P, S, r, hw, kk⟩ := h
  cases d <;> first | exact hw.elim | skip
  · rename_i xs
    obtain ⟨a, ys, rfl, t, r2⟩ := r.tup
    exact .inl ⟨a, ys, rfl, t.sq, by rw [r2.len]; exact hw.1, M0, H0, oa, ds, xs, P, S, r2, hw.2, kk⟩
  · rename_i xs
    obtain ⟨a, ys, rfl, t, r2⟩ := r.lst
    exact .inr ⟨a, ys, rfl, t.sq, by rw [r2.len]; exact hw.1, M0, H0, oa, ds, xs, P, S, r2, hw.2, kk⟩
/-- target = e, the target not a single name -/
def wAsg (w : WE) (g : WG) : WS := fun E ds => w ds fun d => g d ds E.nx
theorem vs_asg {tg e : Expr} {w : WE} {g : WG} (he : VE X W e w) (hg : VG X W vs tg g) (hs : swapsWithSole [tg] e pos.line X.env = pure false := by rfl) (hw : swappedStores [tg] e X.env = pure none := by rfl)
    (h1 : (assignEach [tg] X.env).map (·.2) = [assign tg X.env] := by rfl) : VS X W (.Assign [tg] e pos) (wAsg w g) := by
  refine ps_imp (ps_asg he hg hs hw h1) fun D σ H h => ?_
  obtain ⟨M0, H0, oa, ds, E, S, hw, k1, k2, k3, k4⟩ := h
  refine ⟨M0, H0, oa, ds, _, S, hw, fun d v H1 hd e1 i1 r1 => ?_⟩
  exact ⟨M0, H0, oa, ds, d, _, S.step e1 i1, r1, hd, fun ds' oa' σ' hp S' _ _ _ => k1 ds' oa' σ' H1 hp S'⟩

/-! ### for -/
/-- from here on all that stands (but the lists of the def's own) stays -/
noncomputable def base (oa : Nat → Option Addr) (H : Hp) : Hp := fun b => open Classical in if ∃ i, oa i = some b then none else H b
theorem base_own {oa : Nat → Option Addr} {H : Hp} {b : Addr} (h : ∃ i, oa i = some b) : base oa H b = none := by unfold base; rw [if_pos h]
theorem base_not {oa : Nat → Option Addr} {H : Hp} {b : Addr} (h : ¬ ∃ i, oa i = some b) : base oa H b = H b := by unfold base; rw [if_neg h]
variable {K : PySem.W.Frag} {M0 : Addr → Prop} {H0 H H' : Hp} {oa oa' : Nat → Option Addr} {σ σ' : L2.St} {ds ds' : List Sl}
theorem Sat.ext_base (S : Sat K W M0 H0 oa H σ ds) : Ext W H0 (base oa H) := fun b o n h => by
  rw [base_not (fun ⟨i, z⟩ => by rw [(S.ofr i b z).1] at h; cases h)]
  exact S.ext b o n h
theorem Sat.rebase (S : Sat K W M0 H0 oa H σ ds) : Sat K W M0 (base oa H) oa H σ ds := by
  refine ⟨S.wm, fun a h => ?_, fun b o n h => ?_, S.wi, fun i a h => ⟨base_own ⟨i, h⟩, (S.ofr i a h).2⟩, S.inj, S.len, S.out, S.slot, S.fm, S.fh.trans S.ext_base, fun a h => by rw [base_not (fun ⟨i, z⟩ => S.bl a h (S.ofr i a z).1)]; exact W.liveB _ _ S.wi h, S.nc, fun a φ h => by rw [base_not (fun ⟨i, z⟩ => (S.ofr i a z).2 h)]; exact S.mnx a φ (.inl h)⟩
  · rw [base_not (fun ⟨i, z⟩ => (S.ofr i a z).2 h)]
    exact S.mok.live a (.inl h)
  · by_cases q : ∃ i, oa i = some b
    · rw [base_own q] at h; cases h
    · rw [base_not q] at h; exact h
theorem Sat.unbase (S : Sat K W M0 H0 oa H σ ds) (S' : Sat K W M0 (base oa H) oa' H' σ' ds') : Sat K W M0 H0 oa' H' σ' ds' := by
  refine ⟨S.wm, S.live, S.ext_base.trans S'.ext, S'.wi, fun i a h => ⟨?_, (S'.ofr i a h).2⟩, S'.inj, S'.len, S'.out, S'.slot, S.fm, S.fh, S.bl, S.nc, S.nx⟩
  have q := (S'.ofr i a h).1
  cases e : H0 a with
  | none => rfl
  | some o =>
    have nA := S'.own_nA h
    rw [S.ext_base a o nA e] at q
    cases q
theorem Sat.car_base (S : Sat K W M0 H0 oa H σ ds) (S' : Sat K W M0 (base oa H) oa' H' σ' ds') : Car (Mx M0 oa) (Mx M0 oa') H H' := fun b o n h => by
  have nA : ¬ W.A b := fun z => n (.inl (S.wm b z))
  have hb : base oa H b = some o := by rw [base_not (fun ⟨i, z⟩ => n (.inr ⟨i, z⟩))]; exact h
  refine ⟨fun z => ?_, S'.ext b o nA hb⟩
  rcases z with z | ⟨i, z⟩
  · exact n (.inl z)
  · rw [(S'.ofr i b z).1] at hb; cases hb
def wFor (wi : WI) (g : WG) (b : WS) : WS := fun E ds => wi ds fun items => ∃ Iv : Nat → List Sl → Prop, Iv 0 ds ∧
  (∀ i d ds, items[i]? = some d → Iv i ds → g d ds fun ds1 => b { E with nx := Iv (i + 1), ct := Iv (i + 1), bk := E.nx } ds1) ∧ ∀ ds, Iv items.length ds → E.nx ds
theorem vs_for {tg iter : Expr} {body : List Stmt} {wi : WI} {g : WG} {b : WS} (hp : PassesOwn (model X.prog X.w) X.A X.env X.xe) (hc : X.calm = true) (hi : VI X W tg iter wi) (hg : VG X W vs tg g) (hb : VSs X W body b)
    (hs : ∀ x, foldedSetIterable iter X.env x = pure x := by intro _; rfl) : VS X W (.For tg iter body [] pos) (wFor wi g b) := by
  refine ps_imp (ps_for hp hc hi hg hb hs) fun D σ H h => ?_
  obtain ⟨M0, H0, oa, ds, E, S, hw, k1, k2, k3, k4⟩ := h
  refine ⟨M0, H0, oa, ds, _, S, hw, fun items J H1 ⟨Iv, h0, turn, hd⟩ hz e1 i1 ok => ?_⟩
  have S1 := S.step e1 i1
  refine ⟨fun i m σ H => m = items.length - i ∧ i ≤ items.length ∧ ∃ oa' ds, Iv i ds ∧ Sat X.K W M0 (base oa H1) oa' H σ ds, ⟨items.length, by simp, Nat.zero_le _, oa, ds, h0, S1.rebase⟩, ?_⟩
  rintro i m σ2 H2 ⟨rfl, hi, oa2, ds2, iv, S2⟩
  obtain ⟨g1, g2, g3⟩ := ok (Mx M0 oa2) H2 (S1.car_base S2) S2.mok
  by_cases hlt : i < items.length
  · refine .inr ⟨g1 i hlt, fun σ H => ∃ oa' ds, Iv (i + 1) ds ∧ Sat X.K W M0 (base oa H1) oa' H σ ds, fun σ' H' h => ⟨_, ?_, rfl, hlt, h⟩, fun x H3 hy => ?_⟩
    · omega
    obtain ⟨f, r⟩ := g3 i items[i] x H3 (by simp [hlt]) hy
    refine ⟨M0, base oa H1, oa2, ds2, items[i], _, S2.full f, r, turn i _ ds2 (by simp [hlt]) iv, fun ds3 oa3 σ3 hp S3 _ _ _ => ?_⟩
    refine ⟨M0, base oa H1, oa3, ds3, _, S3, hp, ?_, ?_, ?_, ?_⟩
    · intro ds' oa' σ' H' hn S'
      exact ⟨oa', ds', hn, S'⟩
    · intro d v H' hr e i r'
      exact k2 d v H' hr (S1.ext_base.trans e) i r'
    · intro ds' oa' σ' H' hn S'
      exact k1 _ _ _ _ hn (S1.unbase S')
    · intro ds' oa' σ' H' hn S'
      exact ⟨oa', ds', hn, S'⟩
  · have e : i = items.length := by omega
    subst e
    exact .inl ⟨g2 _ (Nat.le_refl _) (Nat.le_refl _), k1 _ _ _ _ (hd ds2 iv) (S1.unbase S2)⟩

/-! ### comprehensions -/
def wipeD (ds : List Sl) (vs : List Nat) : List Sl := (List.range ds.length).map fun i => if i ∈ vs then .un else ds.getD i .un
def noMl (ds : List Sl) (vs : List Nat) : Bool := vs.all fun i => match ds.getD i .un with
  | .ml _ => false
  | .md _ _ => false
  | .mi _ _ _ _ => false
  | _ => true
theorem wipeD_get {i : Nat} {s : Sl} (h : (wipeD ds vs)[i]? = some s) : (i ∈ vs ∧ s = .un) ∨ (i ∉ vs ∧ ds[i]? = some s) := by
  unfold wipeD at h
  rw [List.getElem?_map] at h
  cases q : (List.range ds.length)[i]? with
  | none => rw [q] at h; cases h
  | some j =>
    rw [q] at h
    obtain ⟨hl, hj⟩ := List.getElem?_eq_some_iff.mp q
    rw [List.getElem_range] at hj
    subst hj
    simp at hl
    have h : (if i ∈ vs then Sl.un else ds.getD i .un) = s := Option.some.inj h
    by_cases e : i ∈ vs
    · rw [if_pos e] at h; exact .inl ⟨e, h.symm⟩
    · rw [if_neg e] at h
      refine .inr ⟨e, ?_⟩
      rw [List.getD_eq_getElem?_getD] at h
      simp [hl] at h ⊢
      exact h
/-- the state of a comprehension's block: its own names unset, the new list at D kept apart -/
theorem Sat.blk (S : Sat K W M0 H0 oa H σ ds) {Dl : Addr} (nm : noMl ds vs = true) (hD : H Dl = none) {acc : List V} {H2 : Hp} (c : ∀ b o, ¬ W.A b → H b = some o → H2 b = some o) (wi : W.I H2) (hD2 : H2 Dl = some (.lst acc)) :
    Sat K W (fun a => M0 a ∨ a = Dl) (base oa H2) oa H2 (wipe σ vs) (wipeD ds vs) := by
  have S2 := S.step c wi
  have nC : ¬ W.C Dl := fun z => W.liveB _ _ S.wi (W.cb _ z) hD
  have hv : ∀ i ∈ vs, oa i = none := fun i hi => by
    cases q : oa i with
    | none => rfl
    | some a =>
      have hl : i < ds.length := Nat.lt_of_not_le fun z => by rw [S.out i z] at q; cases q
      have hs := S.slot i ds[i] (by simp [hl])
      have n1 := List.all_eq_true.mp nm i hi
      have hg : ds.getD i .un = ds[i] := by simp [List.getD_eq_getElem?_getD, hl]
      rw [hg] at n1
      cases e : ds[i] with
      | un => rw [e] at hs; rw [← q]; exact hs
      | d x => rw [e] at hs; rw [← q]; exact hs.1
      | ml l => rw [e] at n1; cases n1
      | md ks l => rw [e] at n1; cases n1
      | mi b C ks l => rw [e] at n1; cases n1
  have nD : ∀ i a, oa i = some a → a ≠ Dl := fun i a h z => by
    obtain ⟨xs, q⟩ := S.ownLive h
    rw [z, hD] at q; cases q
  have cr : Car (Mx M0 oa) (Mx (fun a => M0 a ∨ a = Dl) oa) H H2 := fun b o n h => by
    refine ⟨fun z => ?_, c b o (fun z => n (.inl (S.wm b z))) h⟩
    rcases z with (z | z) | z
    · exact n (.inl z)
    · rw [z, hD] at h; cases h
    · exact n (.inr z)
  refine ⟨fun a h => .inl (S.wm a h), fun a h => ?_, fun b o n h => ?_, wi, fun i a h => ⟨base_own ⟨i, h⟩, fun z => z.elim (S.ofr i a h).2 (nD i a h)⟩, S.inj, by simp [wipeD, S.len, wipe_length], fun i h => S.out i (by simpa [wipeD] using h), fun i s h => ?_, fun a h => .inl (S.fm a h), S.fh.trans S2.ext_base, fun a h => by rw [base_not (fun ⟨i, z⟩ => S.bl a h (S.ofr i a z).1)]; exact W.liveB _ _ wi h, fun a h hC => h.elim (fun h => S.nc a h hC) fun z => nC (by rw [← z]; exact hC), fun a φ h => by
    rw [base_not (fun ⟨i, z⟩ => h.elim (S.ofr i a z).2 (nD i a z))]
    rcases h with h | h
    · exact S2.mnx a φ (.inl h)
    · rw [h, hD2]; intro z; cases z⟩
  · rw [base_not (fun ⟨i, z⟩ => h.elim (S.ofr i a z).2 (nD i a z))]
    rcases h with h | h
    · exact S2.mok.live a (.inl h)
    · rw [h, hD2]; intro z; cases z
  · by_cases q : ∃ i, oa i = some b
    · rw [base_own q] at h; cases h
    · rw [base_not q] at h; exact h
  · rcases wipeD_get h with ⟨h1, rfl⟩ | ⟨h1, h2⟩
    · exact hv i h1
    · rw [wipe_get, if_neg h1]
      exact (S.slot i s h2).car cr fun a xs q z => c a _ (S.own_nA q) z
def wLc (wi : WI) (g : WG) (t : WT) (w : WE) (vs : List Nat) : WE := fun ds P => noMl ds vs = true ∧ wi ds fun items => ∃ Iv : Nat → List D → Prop, Iv 0 [] ∧
  (∀ i d acc, items[i]? = some d → Iv i acc → g d (wipeD ds vs) fun ds1 => t ds1 fun b => if b = true then w ds1 fun y => Iv (i + 1) (acc ++ [y]) else Iv (i + 1) acc) ∧ ∀ acc, Iv items.length acc → P (.lst acc)
/-- a comprehension whose list is nobody else's -/
def wLcO (wi : WI) (g : WG) (t : WT) (w : WE) (vs : List Nat) : WL := fun ds P => noMl ds vs = true ∧ wi ds fun items => ∃ Iv : Nat → List D → Prop, Iv 0 [] ∧
  (∀ i d acc, items[i]? = some d → Iv i acc → g d (wipeD ds vs) fun ds1 => t ds1 fun b => if b = true then w ds1 fun y => Iv (i + 1) (acc ++ [y]) else Iv (i + 1) acc) ∧ ∀ acc, Iv items.length acc → P acc
def LEo (K : PySem.W.Frag) (W : Wd) (w : WL) : TE := fun σ H Q => ∃ M0 H0 oa ds P, Sat K W M0 H0 oa H σ ds ∧ w ds P ∧
  ∀ acc us Dl H', P acc → H Dl = none → Ext W H H' → W.I H' → H' Dl = some (.lst us) → Reps K (Mx (fun a => M0 a ∨ a = Dl) oa) H' acc us → Q (.ref Dl) H'
theorem le_lco {wi : WI} {g : WG} {t : WT} {w : WE} {Q : VK} (h : LEo K W (wLcO wi g t w vs) σ H Q) : tLc (LI K W wi) (LG K W vs g) (LT K W t) (LE K W w) vs σ H Q := by
  obtain ⟨M0, H0, oa, ds, P, S, ⟨nm, hw⟩, k⟩ := h
  refine ⟨M0, H0, oa, ds, _, S, hw, fun items J H1 ⟨Iv, h0, turn, hd⟩ hz e1 i1 ok => fun Dl hD => ?_⟩
  have S1 := S.step e1 i1
  have nA : ¬ W.A Dl := fun z => W.live _ _ i1 z hD
  have nB : ¬ W.B Dl := fun z => W.liveB _ _ i1 z hD
  have hMD : ¬ Mx M0 oa Dl := S1.mok.fresh hD
  -- what holds at turn i
  let Wv : Nat → Nat → Hp → Prop := fun i m H => m = items.length - i ∧ i ≤ items.length ∧ (∀ b o, ¬ W.A b → H1 b = some o → H b = some o) ∧ W.I H ∧ ∃ acc us, H Dl = some (.lst us) ∧ acc.length ≤ i ∧ Iv i acc ∧ Reps K (Mx (fun a => M0 a ∨ a = Dl) oa) H acc us
  refine ⟨Wv, ⟨items.length, by simp, Nat.zero_le _, (Full.new hD).ext, W.keep _ _ i1 (Full.new hD), [], [], upd_same, Nat.le_refl _, h0, reps_nil⟩, ?_⟩
  rintro i m H2 ⟨rfl, hi, c2, wi2, acc, us, hD2, hl, iv, ra⟩
  have S2 := S1.blk (vs := vs) nm hD c2 wi2 hD2
  have cr : Car (Mx M0 oa) (Mx (fun a => M0 a ∨ a = Dl) oa) H1 H2 := fun b o n h => by
    refine ⟨fun z => ?_, c2 b o (fun z => n (.inl (S.wm b z))) h⟩
    rcases z with (z | z) | z
    · exact n (.inl z)
    · rw [z, hD] at h; cases h
    · exact n (.inr z)
  obtain ⟨g1, g2, g3⟩ := ok (Mx (fun a => M0 a ∨ a = Dl) oa) H2 cr S2.mok
  by_cases hlt : i < items.length
  · refine .inr ⟨g1 i hlt, fun H => Wv (i + 1) (items.length - (i + 1)) H, fun H' h => ⟨_, by omega, h⟩, fun x H3 hy => ?_⟩
    obtain ⟨f, r⟩ := g3 i items[i] x H3 (by simp [hlt]) hy
    have S3 := S2.full f
    refine ⟨_, _, oa, _, items[i], _, S3, r, turn i _ acc (by simp [hlt]) iv, fun ds4 oa4 σ4 hp S4 hwp hsub hout => ⟨hwp.trans (wipe_wipe σ vs), ?_⟩⟩
    have hv : ∀ i ∈ vs, oa i = none := fun j hj => by
      have q := S2.slot
      cases e : oa j with
      | none => rfl
      | some a =>
        have hl : j < ds.length := Nat.lt_of_not_le fun z => by rw [S.out j z] at e; cases e
        have hs := S.slot j ds[j] (by simp [hl])
        have n1 := List.all_eq_true.mp nm j hj
        have hg : ds.getD j .un = ds[j] := by simp [List.getD_eq_getElem?_getD, hl]
        rw [hg] at n1
        cases e2 : ds[j] with
        | un => rw [e2] at hs; rw [← e]; exact hs
        | d x => rw [e2] at hs; rw [← e]; exact hs.1
        | ml l => rw [e2] at n1; cases n1
        | md ks l => rw [e2] at n1; cases n1
        | mi b C ks l => rw [e2] at n1; cases n1
    have hoa : oa4 = oa := by
      funext j
      by_cases hj : j ∈ vs
      · rw [hv j hj]
        cases e : oa4 j with
        | none => rfl
        | some a =>
          have z := hsub j a e
          rw [hv j hj] at z
          cases z
      · exact hout j hj
    subst hoa
    refine ⟨_, _, oa4, ds4, _, S4, hp, fun b H5 hb e5 i5 => ?_⟩
    have S5 := S4.step e5 i5
    have hD5 : H5 Dl = some (.lst us) := e5 Dl _ nA (f Dl _ hD2)
    have c5 : ∀ b o, ¬ W.A b → H1 b = some o → H5 b = some o := fun b o n h => e5 b o n (f b o (c2 b o n h))
    have ra5 := (ra.ext S2.mok f.ext).ext S3.mok e5
    cases b with
    | true =>
      refine ⟨_, _, oa4, ds4, _, S5, hb, fun y v H6 hy6 e6 i6 r6 => ?_⟩
      have hD6 : H6 Dl = some (.lst us) := e6 Dl _ nA hD5
      have hus : us.length = acc.length := ra.len
      refine ⟨us, hD6, by omega, rfl, hlt, fun b o n h => ?_, W.stay _ _ i6 (fun b hb => upd_ne (fun z => nA (by rw [← z]; exact hb))) (fun b φ e => (upd_ne (fun z => by rw [z, hD6] at e; cases e)).trans e) (fun b o hB e => (upd_ne (fun z => nB (by rw [← z]; exact hB))).trans e), acc ++ [y], us ++ [v], upd_same, by simp; omega, hy6, ?_⟩
      · have hb : b ≠ Dl := ne_of_none h hD
        rw [upd_ne hb]
        exact e6 b o n (c5 b o n h)
      · refine ((ra5.ext S5.mok e6).app (reps_cons r6 reps_nil)).car fun b o n h => ⟨n, ?_⟩
        rw [upd_ne (fun z => n (.inl (.inr z)))]
        exact h
    | false => exact ⟨rfl, hlt, c5, i5, acc, us, hD5, by omega, hb, ra5⟩
  · have e : i = items.length := by omega
    subst e
    have hn : H Dl = none := by
      cases q : H Dl with
      | none => rfl
      | some o => rw [e1 Dl o nA q] at hD; cases hD
    refine .inl ⟨g2 _ (Nat.le_refl _) (Nat.le_refl _), k acc us Dl H2 (hd acc iv) hn (e1.trans c2) wi2 hD2 ra⟩
theorem le_lc {wi : WI} {g : WG} {t : WT} {w : WE} {Q : VK} (h : LE K W (wLc wi g t w vs) σ H Q) : tLc (LI K W wi) (LG K W vs g) (LT K W t) (LE K W w) vs σ H Q := by
  obtain ⟨M0, H0, oa, ds, P, S, hw, k⟩ := h
  refine le_lco ⟨M0, H0, oa, ds, fun acc => P (.lst acc), S, hw, fun acc us Dl H' hp hn e i hD r => ?_⟩
  have hMD : ¬ Mx M0 oa Dl := S.mok.fresh hn
  exact k _ _ H' hp e i (rep_lst (.inl ⟨hMD, .inl hD⟩) (r.car fun b o n h => ⟨fun z => n (z.elim (fun z => .inl (.inl z)) .inr), h⟩))
def wYes : WT := fun _ P => P true
theorem le_yes {Q : Bool → Hp → Prop} (h : LT K W wYes σ H Q) : tYes σ H Q := by
  obtain ⟨M0, H0, oa, ds, P, S, hw, k⟩ := h
  exact k true H hw (Ext.refl H) S.wi
abbrev VTs (X : Cx) (W : Wd) (ifs : List Expr) (t : WT) : Prop := PTs X ifs (LT X.K W t)
theorem vts_nil : VTs X W [] wYes := ⟨fun pins s σ H Q I hw => pts_nil.run pins s σ H Q I (le_yes hw)⟩
theorem vts_one {c : Expr} {t : WT} (h : VT X W c t) : VTs X W [c] t := pts_one h
theorem ve_lc {elt tg iter : Expr} {ifs : List Expr} {scope : Scope} {own : List (Str × Nat)} {wi : WI} {g : WG} {t : WT} {w : WE} (hc : X.calm = true) (hN : X.N.Nodup) (hi : VI X W tg iter wi) (ok : BlkOk X.N X.env.scope scope own)
    (hg : ∀ (s : Shared) (H : Hp) (C : Addr) (cl : List (Str × Addr)) (fp : List Addr), VG (X.blk s H scope (compEnvC scope cl C X.env) fp) W (own.map (·.2)) tg g) (ht : ∀ (s : Shared) (H : Hp) (C : Addr) (cl : List (Str × Addr)) (fp : List Addr), VTs (X.blk s H scope (compEnvC scope cl C X.env) fp) W ifs t)
    (he : ∀ (s : Shared) (H : Hp) (C : Addr) (cl : List (Str × Addr)) (fp : List Addr), VE (X.blk s H scope (compEnvC scope cl C X.env) fp) W elt w) (hs : ∀ x, foldedSetIterable iter X.env x = pure x := by intro _; rfl) :
    VE X W (.ListComp elt [⟨tg, iter, ifs, 0⟩] scope pos) (wLc wi g t w (own.map (·.2))) := pe_imp (pe_lc hc hN hi ok hg ht he hs) fun σ H Q => le_lc
theorem vs_setLc (i : Nat) {y : Str} {py : Pos} {elt tg iter : Expr} {ifs : List Expr} {scope : Scope} {own : List (Str × Nat)} {spos : Pos} {wi : WI} {g : WG} {t : WT} {w : WE} (hc : X.calm = true) (hN : X.N.Nodup) (hy : X.N[i]? = some y) (hyl : X.env.scope.names.lookup y = some .local)
    (hsw : swapsWith (.ListComp elt [⟨tg, iter, ifs, 0⟩] scope pos) (some (.Name y py)) spos.line X.env = pure true) (hi : VI X W tg iter wi) (ok : BlkOk X.N X.env.scope scope own)
    (hg : ∀ (s : Shared) (H : Hp) (C : Addr) (cl : List (Str × Addr)) (fp : List Addr), VG (X.blk s H scope (compEnvC scope cl C X.env) fp) W (own.map (·.2)) tg g) (ht : ∀ (s : Shared) (H : Hp) (C : Addr) (cl : List (Str × Addr)) (fp : List Addr), VTs (X.blk s H scope (compEnvC scope cl C X.env) fp) W ifs t)
    (he : ∀ (s : Shared) (H : Hp) (C : Addr) (cl : List (Str × Addr)) (fp : List Addr), VE (X.blk s H scope (compEnvC scope cl C X.env) fp) W elt w) (hs : ∀ x, foldedSetIterable iter X.env x = pure x := by intro _; rfl) :
    VS X W (.Assign [.Name y py] (.ListComp elt [⟨tg, iter, ifs, 0⟩] scope pos) spos) (wSet i (wLc wi g t w (own.map (·.2)))) := by
  refine ps_imp (ps_setLc (wi := LI X.K W wi) (g := LG X.K W (own.map (·.2)) g) (tt := LT X.K W t) (te := LE X.K W w) hc hN hy hyl hsw hi ok hg ht he hs) fun D σ H h => ?_
  obtain ⟨M0, H0, oa, ds, E, S, hw, k1, k2, k3, k4⟩ := h
  exact le_lc ⟨M0, H0, oa, ds, _, S, hw, fun d v H1 hd e1 i1 r1 => k1 _ _ _ _ hd ((S.step e1 i1).set r1)⟩
/-- a list that a def has of its own is put into slot i -/
theorem Sat.takeown {K : PySem.W.Frag} {M0 : Addr → Prop} {H0 H H' : Hp} {oa : Nat → Option Addr} {σ : L2.St} {ds : List Sl} (S : Sat K W M0 H0 oa H σ ds) {i : Nat} (hi : i < ds.length) {p : Addr} (hp : H p = none) (e : Ext W H H') (wi : W.I H') {xs : List D} {vs : List V}
    (ht : H' p = some (.lst vs)) (r : Reps K (Mx (fun a => M0 a ∨ a = p) oa) H' xs vs) : Sat K W M0 H0 (oaPut oa i p) H' (σ.set i (some (.ref p))) (ds.set i (.ml xs)) := by
  have S1 := S.step e wi
  have hm : ¬ Mx M0 oa p := S.mok.fresh hp
  have h0 : H0 p = none := by
    cases q : H0 p with
    | none => rfl
    | some o =>
      have nA : ¬ W.A p := fun z => W.live _ _ S.wi z hp
      rw [S.ext p o nA q] at hp; cases hp
  have c1 : Car (Mx (fun a => M0 a ∨ a = p) oa) (Mx M0 (oaPut oa i p)) H' H' := fun b o n h => ⟨fun z => by
    rcases z with z | ⟨j, z⟩
    · exact n (.inl (.inl z))
    · unfold oaPut at z
      by_cases e : j = i
      · rw [if_pos e] at z; cases z; exact n (.inl (.inr rfl))
      · rw [if_neg e] at z; exact n (.inr ⟨j, z⟩), h⟩
  have cr : Car (Mx M0 oa) (Mx M0 (oaPut oa i p)) H H' := fun b o n h => by
    have hb : b ≠ p := ne_of_none h hp
    refine ⟨fun z => ?_, (S.mok.car e b o n h).2⟩
    rcases z with z | ⟨j, z⟩
    · exact n (.inl z)
    · unfold oaPut at z
      by_cases e : j = i
      · rw [if_pos e] at z; cases z; exact hb rfl
      · rw [if_neg e] at z; exact n (.inr ⟨j, z⟩)
  refine S1.setown hi h0 hm ⟨p, vs, rfl, rfl, ht, r.car c1⟩ fun j s hj hs => ?_
  exact (S.slot j s hs).car cr fun a ob z h => e a ob (S.own_nA z) h
/-- x = [.. for ..]: the list is the def's own -/
theorem vs_setLcO (i : Nat) {y : Str} {py : Pos} {elt tg iter : Expr} {ifs : List Expr} {scope : Scope} {own : List (Str × Nat)} {spos : Pos} {wi : WI} {g : WG} {t : WT} {w : WE} (hc : X.calm = true) (hN : X.N.Nodup) (hy : X.N[i]? = some y) (hyl : X.env.scope.names.lookup y = some .local)
    (hsw : swapsWith (.ListComp elt [⟨tg, iter, ifs, 0⟩] scope pos) (some (.Name y py)) spos.line X.env = pure true) (hi : VI X W tg iter wi) (ok : BlkOk X.N X.env.scope scope own)
    (hg : ∀ (s : Shared) (H : Hp) (C : Addr) (cl : List (Str × Addr)) (fp : List Addr), VG (X.blk s H scope (compEnvC scope cl C X.env) fp) W (own.map (·.2)) tg g) (ht : ∀ (s : Shared) (H : Hp) (C : Addr) (cl : List (Str × Addr)) (fp : List Addr), VTs (X.blk s H scope (compEnvC scope cl C X.env) fp) W ifs t)
    (he : ∀ (s : Shared) (H : Hp) (C : Addr) (cl : List (Str × Addr)) (fp : List Addr), VE (X.blk s H scope (compEnvC scope cl C X.env) fp) W elt w) (hs : ∀ x, foldedSetIterable iter X.env x = pure x := by intro _; rfl) :
    VS X W (.Assign [.Name y py] (.ListComp elt [⟨tg, iter, ifs, 0⟩] scope pos) spos) (fun E ds => i < ds.length ∧ wLcO wi g t w (own.map (·.2)) ds fun acc => E.nx (ds.set i (.ml acc))) := by
  refine ps_imp (ps_setLc (wi := LI X.K W wi) (g := LG X.K W (own.map (·.2)) g) (tt := LT X.K W t) (te := LE X.K W w) hc hN hy hyl hsw hi ok hg ht he hs) fun D σ H h => ?_
  obtain ⟨M0, H0, oa, ds, E, S, ⟨hl, hw⟩, k1, k2, k3, k4⟩ := h
  exact le_lco ⟨M0, H0, oa, ds, _, S, hw, fun acc us Dl H' hp hn e wi' hD r => k1 _ _ _ _ hp (S.takeown hl hn e wi' hD r)⟩
end
end VL

set_option Elab.async false
set_option linter.all false
set_option maxRecDepth 100000
set_option maxHeartbeats 2000000
/-! VE: slices; the built-ins by their names. -/
namespace VL
open PySem PySem.Spec PyProof.Rows L2
theorem bt_len : bootBuiltins "len" = some (.builtin "len") := by decide +kernel
theorem bt_abs : bootBuiltins "abs" = some (.builtin "abs") := by decide +kernel
theorem bt_all : bootBuiltins "all" = some (.builtin "all") := by decide +kernel
theorem bt_any : bootBuiltins "any" = some (.builtin "any") := by decide +kernel
theorem bt_int : bootBuiltins "int" = some (.type "int") := by decide +kernel
theorem bt_str : bootBuiltins "str" = some (.type "str") := by decide +kernel
theorem bt_bool : bootBuiltins "bool" = some (.type "bool") := by decide +kernel
theorem bt_list : bootBuiltins "list" = some (.type "list") := by decide +kernel
theorem bt_tuple : bootBuiltins "tuple" = some (.type "tuple") := by decide +kernel
theorem bt_isinstance : bootBuiltins "isinstance" = some (.builtin "isinstance") := by decide +kernel
theorem bt_sorted : bootBuiltins "sorted" = some (.builtin "sorted") := by decide +kernel

abbrev WO := List Sl → (Option Int → Prop) → Prop
def LO (K : PySem.W.Frag) (W : Wd) (w : WO) : TO := fun σ H Q => ∃ M0 H0 oa ds P, Sat K W M0 H0 oa H σ ds ∧ w ds P ∧ ∀ b H', P b → Ext W H H' → W.I H' → Q b H'
abbrev VO (X : Cx) (W : Wd) (e : Option Expr) (w : WO) : Prop := PO X e (LO X.K W w)
section
variable {X : Cx} {W : Wd} {e : Expr} {lo hi : Option Expr} {pos p2 : Pos}
theorem po_imp {t t' : TO} (h : PO X lo t) (f : ∀ σ H Q, t' σ H Q → t σ H Q) : PO X lo t' := ⟨fun pins s σ H Q I hw => h.run pins s σ H Q I (f σ H Q hw)⟩
def wNoP : WO := fun _ P => P none
def asInt : D → (Int → Prop) → Prop
  | .int i, P => P i
  | _, _ => False
def wP (w : WE) : WO := fun ds P => w ds fun d => asInt d fun i => P (some i)
theorem vo_none : VO X W none wNoP := po_imp po_none fun σ H Q ⟨M0, H0, oa, ds, P, S, hw, k⟩ => k none H hw (Ext.refl H) S.wi
theorem vo_some {w : WE} (h : VE X W e w) : VO X W (some e) (wP w) := by
  refine po_imp (po_some h) fun σ H Q h => ?_
  obtain ⟨M0, H0, oa, ds, P, S, hw, k⟩ := h
  refine ⟨M0, H0, oa, ds, _, S, hw, fun d v H1 hd e1 i1 r1 => ?_⟩
  cases d <;> first | exact hd.elim | skip
  exact ⟨_, r1.int, k _ H1 hd e1 i1⟩
def cutD (xs : List D) (lo hi : Option Int) : List D := (xs.drop (HT.sIx xs.length 0 lo)).take (HT.sIx xs.length xs.length hi - HT.sIx xs.length 0 lo)
theorem cut_rep {K : PySem.W.Frag} {M : Addr → Prop} {H : Hp} {xs : List D} {vs : List V} (r : Reps K M H xs vs) (lo hi : Option Int) : Reps K M H (cutD xs lo hi) (cutV vs lo hi) := by
  unfold cutD cutV
  rw [r.len]
  exact (r.drop _).take _
def slcD (lo hi : Option Int) : D → (D → Prop) → Prop
  | .lst xs, P => P (.lst (cutD xs lo hi))
  | .tup xs, P => P (.tup (cutD xs lo hi))
  | .str z, P => z.length ≤ sizeLine ∧ P (.str (cutS z lo hi))
  | _, _ => False
def wSlc (w : WE) (l h : WO) : WE := fun ds P => w ds fun x => l ds fun a => h ds fun b => slcD a b x P
def rSlAny (K : PySem.W.Frag) : V → Option Int → Option Int → Hp → VK → Prop := fun x lo hi H Q => (rSlL K x lo hi H Q ∨ rSlA K x lo hi H Q) ∨ rSlS x lo hi H Q
theorem sl_any : SlR X (rSlAny X.K) := (sl_list.or sl_tupA).or sl_str
theorem ve_slice {w : WE} {l h : WO} (he : VE X W e w) (hl : VO X W lo l) (hu : VO X W hi h) : VE X W (.Subscript e (.Slice lo hi none p2) pos) (wSlc w l h) := by
  refine pe_imp (pe_slice sl_any he hl hu) fun σ H Q h => ?_
  obtain ⟨M0, H0, oa, ds, P, S, hw, k⟩ := h
  refine ⟨M0, H0, oa, ds, _, S, hw, fun d v H1 hd e1 i1 r1 => ?_⟩
  have S1 := S.step e1 i1
  refine ⟨M0, H0, oa, ds, _, S1, hd, fun a H2 ha e2 i2 => ?_⟩
  have S2 := S1.step e2 i2
  refine ⟨M0, H0, oa, ds, _, S2, ha, fun b H3 hb e3 i3 => ?_⟩
  have S3 := S2.step e3 i3
  have r3 := (r1.ext S1.mok e2).ext S2.mok e3
  have e13 := (e1.trans e2).trans e3
  cases d with
  | lst xs =>
    obtain ⟨p, vs, rfl, t, r⟩ := r3.lst
    exact .inl (.inl ⟨p, vs, rfl, t.sq, fun q hq => k _ _ _ hb (e13.trans (Full.new hq).ext) (W.keep _ _ i3 (Full.new hq)) (S3.mok.newL hq (cut_rep r a b))⟩)
  | tup xs =>
    obtain ⟨p, vs, rfl, t, r⟩ := r3.tup
    refine .inl (.inr ⟨p, vs, rfl, t.sq, fun hw => ?_, fun hw q hq => k _ _ _ hb (e13.trans (Full.new hq).ext) (W.keep _ _ i3 (Full.new hq)) (S3.mok.newT hq (cut_rep r a b))⟩)
    refine k _ _ _ hb e13 i3 (rep_tup t ?_)
    have e : cutD xs a b = xs := by
      unfold cutD
      rw [← r.len, hw.1, hw.2]
      simp [r.len]
    rw [e]
    exact r
  | str z => exact .inr ⟨z, r3.str, hb.1, k _ _ _ hb.2 e13 i3 rep_str⟩
  | _ => exact hb.elim
end
theorem ve_never {X : Cx} {W : Wd} {e : Expr} : VE X W e (fun _ _ => False) := ⟨fun _ _ _ _ _ _ h => by
  obtain ⟨_, _, _, _, _, _, z, _⟩ := h
  exact z.elim⟩
/-- data of depth at most n, no handle in it, no list too long -/
def okD : Nat → D → Bool
  | _, .non => true
  | _, .bl _ => true
  | _, .int _ => true
  | _, .str _ => true
  | _, .hnd _ => false
  | _, .dic _ _ => false
  | _, .ins _ _ _ => false
  | _, .lam _ _ => false
  | 0, .tup _ => false
  | 0, .lst _ => false
  | n + 1, .tup ds => decide (ds.length ≤ 1000000) && ds.all (okD n)
  | n + 1, .lst ds => decide (ds.length ≤ 1000000) && ds.all (okD n)
theorem okD_nh {n : Nat} {d : D} (h : okD n d = true) : noHnd d = true := by
  cases d <;> first | rfl | (cases n <;> cases h)
theorem zips_same {ds : List D} {d : D} (h : d ∈ zipsD ds ds) : ∃ x ∈ ds, d = .tup [x, x] := by
  obtain ⟨i, hi⟩ := List.getElem?_of_mem h
  obtain ⟨x, y, h1, h2, e⟩ := zips_get hi
  rw [h1] at h2
  cases h2
  exact ⟨x, List.mem_of_getElem? h1, e⟩
theorem all_const {α : Type} (l : List α) : (l.map fun _ => true).all id = true := by
  induction l with
  | nil => rfl
  | cons a l ih => simp [ih]
/-! ### comprehensions by what their element gives -/
inductive All2 (F : D → D → Prop) : List D → List D → Prop
  | nil : All2 F [] []
  | cons {x y : D} {xs ys : List D} : F x y → All2 F xs ys → All2 F (x :: xs) (y :: ys)
theorem All2.app {F : D → D → Prop} {xs ys as bs : List D} (h : All2 F xs ys) (k : All2 F as bs) : All2 F (xs ++ as) (ys ++ bs) := by
  induction h with
  | nil => exact k
  | cons h _ ih => exact .cons h ih
theorem All2.len {F : D → D → Prop} {xs ys : List D} (h : All2 F xs ys) : ys.length = xs.length := by
  induction h with
  | nil => rfl
  | cons _ _ ih => simp [ih]
theorem take_one {α : Type} {l : List α} {i : Nat} {x : α} (h : l[i]? = some x) : l.take (i + 1) = l.take i ++ [x] := by
  rw [List.take_add_one, h]
  rfl
/-- each item gives some y with F -/
theorem lcR {items : List D} {P : List D → Prop} {g : WG} {w : WE} {ds : List Sl} (F : D → D → Prop) (h : ∀ d ∈ items, ∀ R : D → Prop, (∀ y, F d y → R y) → g d ds fun ds1 => w ds1 R) (hP : ∀ ys, All2 F items ys → P ys) :
    ∃ Iv : Nat → List D → Prop, Iv 0 [] ∧ (∀ i d acc, items[i]? = some d → Iv i acc → g d ds fun ds1 => wYes ds1 fun b => if b = true then w ds1 fun y => Iv (i + 1) (acc ++ [y]) else Iv (i + 1) acc) ∧ ∀ acc, Iv items.length acc → P acc := by
  refine ⟨fun i acc => All2 F (items.take i) acc, .nil, fun i d acc hd ha => ?_, fun acc ha => hP acc (by have z : All2 F (items.take items.length) acc := ha; rw [List.take_length] at z; exact z)⟩
  exact h d (List.mem_of_getElem? hd) _ fun y hy => by show All2 F (items.take (i + 1)) (acc ++ [y]); rw [take_one hd]; exact ha.app (.cons hy .nil)
/-- each item gives f of it -/
theorem lcF {items : List D} {P : List D → Prop} {g : WG} {w : WE} {ds : List Sl} (f : D → D) (h : ∀ d ∈ items, ∀ R : D → Prop, R (f d) → g d ds fun ds1 => w ds1 R) (hP : P (items.map f)) :
    ∃ Iv : Nat → List D → Prop, Iv 0 [] ∧ (∀ i d acc, items[i]? = some d → Iv i acc → g d ds fun ds1 => wYes ds1 fun b => if b = true then w ds1 fun y => Iv (i + 1) (acc ++ [y]) else Iv (i + 1) acc) ∧ ∀ acc, Iv items.length acc → P acc := by
  refine ⟨fun i acc => acc = (items.take i).map f, rfl, fun i d acc hd ha => ?_, fun acc ha => by have z : acc = (items.take items.length).map f := ha; rw [z, List.take_length]; exact hP⟩
  subst ha
  refine h d (List.mem_of_getElem? hd) _ ?_
  show (items.take i).map f ++ [f d] = (items.take (i + 1)).map f
  rw [take_one hd, List.map_append]
  rfl
mutual
/-- data with no handle in it -/
def plain : D → Bool
  | .hnd _ => false
  | .dic _ _ => false
  | .ins _ _ _ => false
  | .lam _ _ => false
  | .tup ds => plains ds
  | .lst ds => plains ds
  | _ => true
def plains : List D → Bool
  | [] => true
  | d :: ds => plain d && plains ds
end
theorem plain_nh {d : D} (h : plain d = true) : noHnd d = true := by
  cases d <;> first | rfl | (unfold plain at h; cases h)
theorem plains_all {ds : List D} (h : plains ds = true) : ∀ d ∈ ds, plain d = true := by
  induction ds with
  | nil => intro d hd; cases hd
  | cons a r ih =>
    unfold plains at h
    obtain ⟨h1, h2⟩ := Bool.and_eq_true_iff.mp h
    intro d hd
    cases hd with
    | head => exact h1
    | tail _ hd => exact ih h2 d hd
theorem plain_tup {ds : List D} (h : plain (.tup ds) = true) : plains ds = true := by unfold plain at h; exact h
theorem plain_lst {ds : List D} (h : plain (.lst ds) = true) : plains ds = true := by unfold plain at h; exact h
end VL

set_option Elab.async false
set_option linter.all false
set_option maxRecDepth 100000
set_option maxHeartbeats 2000000
/-! VF: dicts, sums of lists, texts put together, sorting. -/
namespace VL
open PySem PySem.Spec PyProof.Rows L2

/-! ### list + list -/
def rCatL (K : PySem.W.Frag) : R2 := fun x y H Q => ∃ a b xs ys, x = .ref a ∧ y = .ref b ∧ SqL K H a xs ∧ SqL K H b ys ∧ xs.length + ys.length ≤ sizeLine ∧ ∀ p, H p = none → Q (.ref p) (upd H p (.lst (xs ++ ys)))
theorem op_catL {X : Cx} : OpR X (binaryOp .Add) (rCatL X.K) := by
  intro pins s σ H x y v u Q I rx ry h
  obtain ⟨a, b, xs, ys, rfl, rfl, ha, hb, hz, q⟩ := h
  cases rx
  cases ry
  obtain ⟨its, r1, ⟨⟨cls, dd, data, sl⟩, n, ho, hc, hdd, hd⟩, _⟩ := I.list ha
  obtain ⟨its2, r2, ⟨⟨cls2, dd2, data2, sl2⟩, n2, ho2, hc2, hdd2, hd2⟩, _⟩ := I.list hb
  simp only at hc hd hc2 hd2
  subst hc hd hc2 hd2
  have e : its.toArray ++ its2.toArray = (its ++ its2).toArray := by simp
  have l1 := r1.length
  have l2 := r2.length
  refine concat_meets ⟨_, ho, rfl⟩ ⟨_, ho2, rfl⟩ noFill_list_add seq_list_add PySem.F.slot_list_add PySem.F.entry_list_add (PySem.F.args_list_add_2 _ _) (list_addW a b its.toArray its2.toArray n n2 dd dd2 sl sl2 (by rw [List.size_toArray, List.size_toArray]; omega)) ⟨ho, ho2, ?_⟩
  rw [e]
  exact ⟨.ref _, _, I.lnew (t' := s.toks) (r1.append r2) (by rw [List.length_append]; omega), rfl, q _ I.fresh⟩
def addA : D → D → (D → Prop) → Prop
  | .int i, .int j, P => P (.int (i + j))
  | .str i, .str j, P => i.length + j.length ≤ sizeLine ∧ P (.str (i ++ j))
  | .lst i, .lst j, P => i.length + j.length ≤ sizeLine ∧ P (.lst (i ++ j))
  | .tup i, .tup j, P => i.length + j.length ≤ sizeLine ∧ P (.tup (i ++ j))
  | _, _, _ => False
def rAddL (K : PySem.W.Frag) : R2 := fun x y H Q => (rAddA x y H Q ∨ rCatL K x y H Q) ∨ rCatA K x y H Q
section
variable {X : Cx} {W : Wd} {K : PySem.W.Frag}
theorem op_addL : OpR X (binaryOp .Add) (rAddL X.K) := OpR.or (OpR.or op_addA op_catL) op_catA
theorem lift_addL : LiftOp K W addA (rAddL K) := by
  intro M H x y v u P Q m r1 r2 h k
  cases x <;> cases y <;> first
    | exact h.elim
    | (rename_i i j; exact .inl (.inl (.inl ⟨i, j, r1.int, r2.int, k _ _ H h (Ext.refl H) m.wi rep_int⟩)))
    | (rename_i i j; exact .inl (.inl (.inr ⟨i, j, r1.str, r2.str, h.1, k _ _ H h.2 (Ext.refl H) m.wi rep_str⟩)))
    | (obtain ⟨a, xs, rfl, t, q⟩ := r1.lst
       obtain ⟨b, ys, rfl, t', q'⟩ := r2.lst
       exact .inl (.inr ⟨a, b, xs, ys, rfl, rfl, t.sq, t'.sq, by rw [q.len, q'.len]; exact h.1, fun p hp => k _ _ _ h.2 (Full.new hp).ext (W.keep _ _ m.wi (Full.new hp)) (m.newL hp (q.app q'))⟩))
    | (obtain ⟨a, xs, rfl, t, q⟩ := r1.tup
       obtain ⟨b, ys, rfl, t', q'⟩ := r2.tup
       refine .inr ⟨a, b, xs, ys, rfl, rfl, t.sq, t'.sq, by rw [q.len, q'.len]; exact h.1, fun e => ?_, fun _ e => ?_, fun _ _ p hp => k _ _ _ h.2 (Full.new hp).ext (W.keep _ _ m.wi (Full.new hp)) (m.newT hp (q.app q'))⟩
       · refine k _ _ _ h.2 (Ext.refl H) m.wi (rep_tup t' ?_)
         have z := q.app q'
         rw [e] at z
         exact z
       · refine k _ _ _ h.2 (Ext.refl H) m.wi (rep_tup t ?_)
         have z := q.app q'
         rw [e, List.append_nil] at z
         exact z)
theorem ve_addA {a b : Expr} {pos : Pos} {wa wb : WE} (ha : VE X W a wa) (hb : VE X W b wb) : VE X W (.BinOp a .Add b pos) (wOp addA wa wb) := ve_op op_addL lift_addL ha hb

/-! ### dicts with texts as keys -/
def lkp : List Str → List D → Str → Option D
  | k :: ks, x :: xs, s => if k = s then some x else lkp ks xs s
  | _, _, _ => none
abbrev kz (ks : List Str) (us : List V) : List (Key × V) := (ks.map Sum.inr).zip us
theorem lkp_rep {M : Addr → Prop} {H : Hp} {s : Str} : ∀ {ks : List Str} {ds : List D} {us : List V}, Reps K M H ds us → us.length = ks.length →
    (∃ d v, lkp ks ds s = some d ∧ valV (kz ks us) (Sum.inr s) = some v ∧ Rep K M H d v) ∨ (lkp ks ds s = none ∧ valV (kz ks us) (Sum.inr s) = none)
  | [], ds, us, r, l => by
    refine .inr ⟨by cases ds <;> rfl, ?_⟩
    exact valV_nil
  | k :: ks, [], us, r, l => by rw [r.inv0] at l; cases l
  | k :: ks, d :: ds, us, r, l => by
    obtain ⟨v, vs, rfl, h1, h2⟩ := r.inv
    by_cases e : k = s
    · refine .inl ⟨d, v, by unfold lkp; rw [if_pos e], ?_, h1⟩
      exact valV_pos (p := (Sum.inr k, v)) (by rw [e])
    · have n : ¬ (Sum.inr k : Key) = Sum.inr s := fun z => e (Sum.inr.inj z)
      have ek : lkp (k :: ks) (d :: ds) s = lkp ks ds s := by rw [lkp, if_neg e]
      have ev : valV (kz (k :: ks) (v :: vs)) (Sum.inr s) = valV (kz ks vs) (Sum.inr s) := valV_neg (p := (Sum.inr k, v)) n
      rw [ek, ev]
      exact lkp_rep h2 (by simpa using l)
def putKs (ks : List Str) (s : Str) : List Str := if s ∈ ks then ks else ks ++ [s]
def putDs (ks : List Str) (ds : List D) (s : Str) (d : D) : List D := if s ∈ ks then (ks.zip ds).map (fun p => if p.1 = s then d else p.2) else ds ++ [d]
theorem put_map {M : Addr → Prop} {H : Hp} {s : Str} {d : D} {v : V} (rv : Rep K M H d v) : ∀ {ks : List Str} {ds : List D} {us : List V}, Reps K M H ds us → us.length = ks.length →
    ∃ us', us'.length = ks.length ∧ (kz ks us).map (fun kv => if kv.1 = Sum.inr s then (kv.1, v) else kv) = kz ks us' ∧ Reps K M H ((ks.zip ds).map fun p => if p.1 = s then d else p.2) us'
  | [], ds, us, r, l => ⟨[], rfl, rfl, reps_nil⟩
  | k :: ks, [], us, r, l => by rw [r.inv0] at l; cases l
  | k :: ks, x :: ds, us, r, l => by
    obtain ⟨u, vs, rfl, h1, h2⟩ := r.inv
    obtain ⟨us', l', e', r'⟩ := put_map rv h2 (by simpa using l)
    refine ⟨(if k = s then v else u) :: us', by simp [l'], ?_, ?_⟩
    · show (if (Sum.inr k : Key) = Sum.inr s then (Sum.inr k, v) else (Sum.inr k, u)) :: (kz ks vs).map _ = (Sum.inr k, if k = s then v else u) :: kz ks us'
      rw [e']
      by_cases e : k = s
      · rw [if_pos (by rw [e]), if_pos e]
      · rw [if_neg (fun z => e (Sum.inr.inj z)), if_neg e]
    · show Reps K M H ((if k = s then d else x) :: (ks.zip ds).map _) _
      refine reps_cons ?_ r'
      by_cases e : k = s
      · rw [if_pos e, if_pos e]; exact rv
      · rw [if_neg e, if_neg e]; exact h1
theorem kz_any {s : Str} : ∀ {ks : List Str} {us : List V}, us.length = ks.length → ((kz ks us).any fun kv => decide (kv.1 = Sum.inr s)) = decide (s ∈ ks)
  | [], us, _ => rfl
  | k :: ks, [], l => by cases l
  | k :: ks, u :: us, l => by
    have ih := kz_any (s := s) (ks := ks) (us := us) (by simpa using l)
    show (decide ((Sum.inr k : Key) = Sum.inr s) || (kz ks us).any fun kv => decide (kv.1 = Sum.inr s)) = _
    rw [ih]
    by_cases e : k = s
    · simp [e]
    · have n : ¬ (Sum.inr k : Key) = Sum.inr s := fun z => e (Sum.inr.inj z)
      have n2 : ¬ s = k := fun z => e z.symm
      simp [e, n2]
theorem put_rep {M : Addr → Prop} {H : Hp} {s : Str} {d : D} {v : V} {ks : List Str} {ds : List D} {us : List V} (rv : Rep K M H d v) (r : Reps K M H ds us) (l : us.length = ks.length) :
    ∃ us', us'.length = (putKs ks s).length ∧ putK (kz ks us) (Sum.inr s) v = kz (putKs ks s) us' ∧ Reps K M H (putDs ks ds s d) us' := by
  unfold putK putKs putDs
  rw [kz_any l]
  by_cases e : s ∈ ks
  · rw [if_pos (decide_eq_true e), if_pos e, if_pos e]
    exact put_map rv r l
  · simp only [e, decide_false, if_false, Bool.false_eq_true]
    refine ⟨us ++ [v], by simp [l], ?_, r.app (reps_cons rv reps_nil)⟩
    show (ks.map Sum.inr).zip us ++ [(Sum.inr s, v)] = ((ks ++ [s]).map Sum.inr).zip (us ++ [v])
    rw [List.map_append, List.zip_append (by simp [l])]
    rfl
/-- the dict that a slot holds, its own or not -/
def dkS : Sl → (List Str → List D → Prop) → Prop
  | .md ks xs, P => P ks xs
  | .d (.dic ks xs), P => P ks xs
  | _, _ => False
def strS : D → (Str → Prop) → Prop
  | .str s, P => P s
  | _, _ => False
theorem strS_of {d : D} {P : Str → Prop} (h : strS d P) : ∃ s, d = .str s ∧ P s := by
  cases d with
  | str s => exact ⟨s, rfl, h⟩
  | _ => exact h.elim
structure Dk (K : PySem.W.Frag) (W : Wd) (M : Addr → Prop) (H : Hp) (a : Addr) (ks : List Str) (xs : List D) (us : List V) : Prop where
  nA : ¬ W.A a
  len : us.length = ks.length
  at_ : H a = some (.dK (kz ks us))
  r : Reps K M H xs us
theorem Dk.ext {M : Addr → Prop} {H H' : Hp} {a : Addr} {ks : List Str} {xs : List D} {us : List V} (h : Dk K W M H a ks xs us) (m : MOk W M H) (e : Ext W H H') : Dk K W M H' a ks xs us := ⟨h.nA, h.len, e _ _ h.nA h.at_, h.r.ext m e⟩
theorem Sat.dk {M0 : Addr → Prop} {H0 H : Hp} {oa : Nat → Option Addr} {σ : L2.St} {ds : List Sl} (S : Sat K W M0 H0 oa H σ ds) {i : Nat} {P : List Str → List D → Prop} (h : dkS (ds.getD i .un) P) :
    ∃ ks xs a us, P ks xs ∧ σ[i]? = some (some (.ref a)) ∧ Dk K W (Mx M0 oa) H a ks xs us := by
  rw [List.getD_eq_getElem?_getD] at h
  cases e : ds[i]? with
  | none => rw [e] at h; exact h.elim
  | some s =>
    rw [e] at h
    cases s with
    | un => exact h.elim
    | ml l => exact h.elim
    | mi a C ks l => exact h.elim
    | md ks l =>
      obtain ⟨a, us, e1, e2, e3, e4, r⟩ := S.slot i _ e
      exact ⟨ks, l, a, us, h, e2, S.own_nA e1, e3, e4, r⟩
    | d x =>
      cases x with
      | dic ks xs =>
        obtain ⟨_, v, e1, r⟩ := S.slot i _ e
        obtain ⟨a, us, rfl, m, l, t, r2⟩ := r.dic
        exact ⟨ks, xs, a, us, h, e1, fun z => m (.inl (S.wm a z)), l, t, r2⟩
      | _ => exact h.elim
theorem rep_dk {M : Addr → Prop} {H : Hp} {ks : List Str} {xs : List D} {v : V} (m : MOk W M H) (h : Rep K M H (.dic ks xs) v) : ∃ a us, v = .ref a ∧ Dk K W M H a ks xs us := by
  obtain ⟨a, us, rfl, n, l, t, r2⟩ := h.dic
  exact ⟨a, us, rfl, fun z => n (m.wm a z), l, t, r2⟩
theorem dk_get {M : Addr → Prop} {H : Hp} {a : Addr} {ks : List Str} {xs : List D} {us : List V} {s : Str} (h : Dk K W M H a ks xs us) : ∃ o, DGet H a (.str s) o ∧ ((∃ d v, lkp ks xs s = some d ∧ o = some v ∧ Rep K M H d v) ∨ (lkp ks xs s = none ∧ o = none)) := by
  rcases lkp_rep (s := s) h.r h.len with ⟨d, v, e1, e2, r⟩ | ⟨e1, e2⟩
  · exact ⟨some v, by rw [← e2]; exact DGet.k (k := Sum.inr s) h.at_, .inl ⟨d, v, e1, rfl, r⟩⟩
  · exact ⟨none, by rw [← e2]; exact DGet.k (k := Sum.inr s) h.at_, .inr ⟨e1, rfl⟩⟩
section
variable {i : Nat} {x : Str} {k z : Expr} {pos p apos cpos : Pos} {wk wz : WE}
def wDGet (i : Nat) (wk : WE) : WE := fun ds P => dkS (ds.getD i .un) fun ks xs => wk ds fun k => strS k fun s => ∃ d, lkp ks xs s = some d ∧ P d
theorem ve_dget (i : Nat) (hu : X.A.units + 64 < cLine) (hk : VE X W k wk) (hN : X.N[i]? = some x := by rfl) (hv : Vis X.env.scope x := by first | exact Or.inl rfl | exact Or.inr (Or.inl rfl) | exact Or.inr (Or.inr rfl)) (hd : (x == ("__debug__" : Str)) = false := by decide)
    (hcd : (x == ("__classdict__" : Str)) = false := by decide) (hs : NoSl k := by exact fun _ _ => rfl) : VE X W (.Subscript (.Name x p) k pos) (wDGet i wk) := by
  refine pe_imp (L2.pe_dget (by omega) (pe_var hN hv hd hcd) hk hs) fun σ H Q h => ?_
  obtain ⟨M0, H0, oa, ds, P, S, hw, kk⟩ := h
  obtain ⟨ks, xs, a, us, hp, hσ, dk⟩ := S.dk hw
  refine ⟨.ref a, hσ, M0, H0, oa, ds, _, S, hp, fun d v H1 hd e1 i1 r1 => ?_⟩
  obtain ⟨s, rfl, d', hl, hP⟩ := strS_of hd
  have dk1 := dk.ext S.mok e1
  have e := r1.str
  subst e
  obtain ⟨o, g, ⟨d2, v2, h1, rfl, r2⟩ | ⟨h1, _⟩⟩ := dk_get (s := s) dk1
  · rw [hl] at h1
    cases h1
    exact ⟨a, v2, rfl, g, kk _ _ H1 hP e1 i1 r2⟩
  · rw [hl] at h1; cases h1
def wDGet2 (i : Nat) (wk wz : WE) : WE := fun ds P => dkS (ds.getD i .un) fun ks xs => wk ds fun k => strS k fun s => wz ds fun z => P ((lkp ks xs s).getD z)
theorem ve_dget2 (i : Nat) (hu : X.A.units + 64 < cLine) (hk : VE X W k wk) (hz : VE X W z wz) (hN : X.N[i]? = some x := by rfl) (hv : Vis X.env.scope x := by first | exact Or.inl rfl | exact Or.inr (Or.inl rfl) | exact Or.inr (Or.inr rfl)) (hd : (x == ("__debug__" : Str)) = false := by decide)
    (hcd : (x == ("__classdict__" : Str)) = false := by decide) (m : M2 X (.Name x p) "get" apos k z cpos := by exact ⟨rfl, rfl, rfl, rfl⟩) : VE X W (.Call (.Attribute (.Name x p) "get" apos) [k, z] [] cpos) (wDGet2 i wk wz) := by
  refine pe_imp (L2.pe_dget2 (by omega) (pe_var hN hv hd hcd) hk hz m) fun σ H Q h => ?_
  obtain ⟨M0, H0, oa, ds, P, S, hw, kk⟩ := h
  obtain ⟨ks, xs, a, us, hp, hσ, dk⟩ := S.dk hw
  refine ⟨.ref a, hσ, a, rfl, .inl ⟨_, .inl dk.at_⟩, M0, H0, oa, ds, _, S, hp, fun d v H1 hd e1 i1 r1 => ?_⟩
  obtain ⟨s, rfl, hz⟩ := strS_of hd
  have S1 := S.step e1 i1
  refine ⟨M0, H0, oa, ds, _, S1, hz, fun zd zv H2 hzd e2 i2 r2 => ?_⟩
  have dk2 := (dk.ext S.mok e1).ext S1.mok e2
  have e := r1.str
  subst e
  obtain ⟨o, g, ⟨d2, v2, h1, rfl, r3⟩ | ⟨h1, rfl⟩⟩ := dk_get (s := s) dk2
  · rw [h1] at hzd
    exact ⟨_, g, kk _ _ H2 hzd (e1.trans e2) i2 r3⟩
  · rw [h1] at hzd
    exact ⟨_, g, kk _ _ H2 hzd (e1.trans e2) i2 r2⟩
def wSetDic (i : Nat) : WS := fun E ds => i < ds.length ∧ E.nx (ds.set i (.md [] []))
theorem vs_setDic (i : Nat) {pos' lpos : Pos} (hN : X.N.Nodup) (hi : X.N[i]? = some x := by rfl) (hx : Loc X.env.scope x := by first | exact Or.inl rfl | exact Or.inr rfl) (hs : swapsWith (.Dict [] [] lpos) (some (.Name x pos')) pos.line X.env = pure false := by rfl)
    (hf : X.fn x = true ∨ X.env.scope.names.lookup x = some .local := by first | exact .inl rfl | exact .inr rfl | assumption) : VS X W (.Assign [.Name x pos'] (.Dict [] [] lpos) pos) (wSetDic i) := by
  refine ps_imp (ps_set hN hi hx pe_dnewK hs hf) fun D σ H h => ?_
  obtain ⟨M0, H0, oa, ds, E, S, ⟨hl, hn⟩, k1, k2, k3, k4⟩ := h
  exact fun p hp => k1 _ _ _ _ hn (S.newown hl hp fun c => ⟨p, [], rfl, rfl, rfl, upd_same, reps_nil⟩)
def mdS : Sl → (List Str → List D → Prop) → Prop
  | .md ks xs, P => P ks xs
  | _, _ => False
def wDPut (i : Nat) (wk wv : WE) : WS := fun E ds => wv ds fun v => mdS (ds.getD i .un) fun ks xs => wk ds fun k => strS k fun s => ks.length < 1000000 ∧ E.nx (ds.set i (.md (putKs ks s) (putDs ks xs s v)))
theorem vs_dput (i : Nat) {v : Expr} {wv : WE} {pos' : Pos} (hu : X.A.units + 64 < cLine) (hk : VE X W k wk) (hval : VE X W v wv) (hN : X.N[i]? = some x := by rfl) (hv : Vis X.env.scope x := by first | exact Or.inl rfl | exact Or.inr (Or.inl rfl) | exact Or.inr (Or.inr rfl)) (hd : (x == ("__debug__" : Str)) = false := by decide)
    (hcd : (x == ("__classdict__" : Str)) = false := by decide) (hsl : NoSl k := by exact fun _ _ => rfl) (hs : swapsWith v (some (.Subscript (.Name x p) k pos')) pos.line X.env = pure false := by rfl) : VS X W (.Assign [.Subscript (.Name x p) k pos'] v pos) (wDPut i wk wv) := by
  refine ps_imp (L2.ps_dput (by omega) (pe_var hN hv hd hcd) hk hval hs) fun D σ H h => ?_
  obtain ⟨M0, H0, oa, ds, E, S, hw, k1, k2, k3, k4⟩ := h
  refine ⟨M0, H0, oa, ds, _, S, hw, fun dv v1 H1 hd1 e1 i1 r1 => ?_⟩
  have S1 := S.step e1 i1
  obtain ⟨ks, xs, hg, hd2⟩ : ∃ ks xs, ds.getD i .un = .md ks xs ∧ _ := by
    cases q : ds.getD i .un with
    | md ks xs => rw [q] at hd1; exact ⟨ks, xs, rfl, hd1⟩
    | _ => rw [q] at hd1; exact hd1.elim
  have hget : ds[i]? = some (.md ks xs) := by
    rw [List.getD_eq_getElem?_getD] at hg
    cases e : ds[i]? with
    | none => rw [e] at hg; cases hg
    | some s => rw [e] at hg; exact congrArg some hg
  obtain ⟨a, us, o1, o2, o3, o4, o5⟩ := S1.slot i _ hget
  refine ⟨.ref a, o2, M0, H0, oa, ds, _, S1, hd2, fun d v2 H2 hd3 e2 i2 r2 => ?_⟩
  obtain ⟨s, rfl, hl, hn⟩ := strS_of hd3
  have S2 := S1.step e2 i2
  have es := r2.str
  subst es
  obtain ⟨a', us', p1, p2, p3, p4, p5⟩ := S2.slot i _ hget
  rw [o1] at p1
  cases p1
  have l1000 : us'.length < sizeLine := by rw [sizeLine_eq]; omega
  refine ⟨a, _, rfl, DPut.k (k := Sum.inr s) p4 (by show (kz ks us').length < sizeLine; simp [p3]; omega), k1 _ oa _ _ hn ?_⟩
  obtain ⟨us2, q1, q2, q3⟩ := put_rep (s := s) (r1.ext S1.mok e2) p5 p3
  refine S2.mutown (List.getElem?_eq_some_iff.mp hget).1 o1 p2 fun c => ⟨a, us2, rfl, rfl, q1, ?_, q3.car c⟩
  rw [upd_same]
  exact congrArg (fun z => some (HO.dK z)) q2
end
/-! ### dicts as data -/
def rIxD : R2 := fun x y H Q => ∃ a v, x = .ref a ∧ DGet H a y (some v) ∧ Q v H
theorem ix_dic (hu : X.A.units + 64 < cLine) : IxR X rIxD := by
  intro value slice pins s σ H x y v u Q I rx ry h hs
  obtain ⟨a, z, rfl, g, q⟩ := h
  obtain rfl : v = Value.ref a := rx
  exact tail_any (dict_typeIs I g) PySem.F.slot_dict_getitem.lookup (d_getItem (by omega) I g ry fun w' s3 I3 rw' => ⟨z, H, I3, rw', q⟩) hs
def ixA : D → D → (D → Prop) → Prop
  | .tup xs, .int i, P => ∃ d, atI xs i = some d ∧ P d
  | .lst xs, .int i, P => ∃ d, atI xs i = some d ∧ P d
  | .str z, .int i, P => z.length ≤ sizeLine ∧ ∃ c, atI z.cps.toList i = some c ∧ P (.str ⟨#[c]⟩)
  | .dic ks xs, .str s, P => ∃ d, lkp ks xs s = some d ∧ P d
  | _, _, _ => False
theorem lift_ixA : LiftOp K W ixA (fun x y H Q => rIx K x y H Q ∨ rIxD x y H Q) := by
  intro M H x y v u P Q m r1 r2 h k
  cases x with
  | tup xs => cases y with
    | int i => exact .inl (lift_ix (W := W) M H (.tup xs) (.int i) v u P Q m r1 r2 h k)
    | _ => exact h.elim
  | lst xs => cases y with
    | int i => exact .inl (lift_ix (W := W) M H (.lst xs) (.int i) v u P Q m r1 r2 h k)
    | _ => exact h.elim
  | str xs => cases y with
    | int i => exact .inl (lift_ix (W := W) M H (.str xs) (.int i) v u P Q m r1 r2 h k)
    | _ => exact h.elim
  | dic ks xs => cases y with
    | str s =>
      obtain ⟨d, hl, hp⟩ := h
      obtain ⟨a, us, rfl, dk⟩ := rep_dk m r1
      have e := r2.str
      subst e
      obtain ⟨o, g, ⟨d2, v2, h1, rfl, r3⟩ | ⟨h1, _⟩⟩ := dk_get (s := s) dk
      · rw [hl] at h1
        cases h1
        exact .inr ⟨a, v2, rfl, g, k _ _ H hp (Ext.refl H) m.wi r3⟩
      · rw [hl] at h1; cases h1
    | _ => exact h.elim
  | _ => exact h.elim
theorem IxR.or' {r r' : R2} (h : IxR X r) (h' : IxR X r') : IxR X (fun x y H Q => r x y H Q ∨ r' x y H Q) := by
  intro value slice pins s σ H x y v u Q I r1 r2 q hs
  rcases q with q | q
  · exact h value slice pins s σ H x y v u Q I r1 r2 q hs
  · exact h' value slice pins s σ H x y v u Q I r1 r2 q hs
theorem ve_ixA {a b : Expr} {pos : Pos} {wa wb : WE} (hu : X.A.units + 64 < cLine) (ha : VE X W a wa) (hb : VE X W b wb) (hs : PlainIx b := by exact fun _ _ => rfl) : VE X W (.Subscript a b pos) (wOp ixA wa wb) :=
  pe_imp (pe_ix (IxR.or' ix_seq (ix_dic hu)) ha hb hs) (le_op lift_ixA)
/-- k in d, k not in d -/
def rInDic (neg : Bool) : R2 := fun y x H Q => ∃ a o, x = .ref a ∧ DGet H a y o ∧ Q (.bl (if neg then !o.isSome else o.isSome)) H
theorem op_inDic (hu : X.A.units + 64 < cLine) : OpR X (compareOp .In) (rInDic false) := by
  intro pins s σ H y x u v Q I ry rx h
  obtain ⟨a, o, rfl, g, q⟩ := h
  obtain rfl : v = Value.ref a := rx
  exact d_in (by omega) I g ry fun s3 I3 => ⟨.bl o.isSome, H, I3, rfl, q⟩
theorem op_ninDic (hu : X.A.units + 64 < cLine) : OpR X (compareOp .NotIn) (rInDic true) := by
  intro pins s σ H y x u v Q I ry rx h
  obtain ⟨a, o, rfl, g, q⟩ := h
  obtain rfl : v = Value.ref a := rx
  exact d_notIn (by omega) I g ry fun s3 I3 => ⟨.bl (!o.isSome), H, I3, rfl, q⟩
def inDic (neg : Bool) : D → D → (D → Prop) → Prop
  | .str s, .dic ks xs, P => P (.bl (if neg then !(lkp ks xs s).isSome else (lkp ks xs s).isSome))
  | _, _, _ => False
theorem lift_inDic {neg : Bool} : LiftOp K W (inDic neg) (rInDic neg) := by
  intro M H x y v u P Q m r1 r2 h k
  cases x <;> cases y <;> first
    | exact h.elim
    | (rename_i s ks xs
       obtain ⟨a, us, rfl, dk⟩ := rep_dk m r2
       have e := r1.str
       subst e
       obtain ⟨o, g, z⟩ := dk_get (s := s) dk
       have ho : o.isSome = (lkp ks xs s).isSome := by
         rcases z with ⟨d2, v2, h1, rfl, r3⟩ | ⟨h1, rfl⟩
         · rw [h1]; rfl
         · rw [h1]; rfl
       refine ⟨a, o, rfl, g, ?_⟩
       rw [ho]
       exact k _ _ H h (Ext.refl H) m.wi rep_bl)
/-! ### sorting -/
def leS (a b : Str) : Bool := !decide (b.cps.toList < a.cps.toList)
def srt (l : List Str) : List Str := l.mergeSort leS
theorem str_ext {a b : Str} (h : a.cps.toList = b.cps.toList) : a = b := by
  cases a; cases b
  simp at h
  rw [h]
theorem leS_anti {a b : Str} (h1 : leS a b = true) (h2 : leS b a = true) : a = b := by
  unfold leS at h1 h2
  refine str_ext (List.le_antisymm ?_ ?_)
  · simpa using h1
  · simpa using h2
theorem leS_trans (a b c : Str) (h1 : leS a b = true) (h2 : leS b c = true) : leS a c = true := by
  unfold leS at h1 h2 ⊢
  have h1 : a.cps.toList ≤ b.cps.toList := by simpa using h1
  have h2 : b.cps.toList ≤ c.cps.toList := by simpa using h2
  have := List.le_trans h1 h2
  simpa using this
theorem leS_total (a b : Str) : (leS a b || leS b a) = true := by
  unfold leS
  rcases List.le_total a.cps.toList b.cps.toList with h | h
  · have : ¬ b.cps.toList < a.cps.toList := h
    simp [this]
  · have : ¬ a.cps.toList < b.cps.toList := h
    simp [this]
theorem sorted_pw : ∀ {l : List Str} {p : Str}, risingS p l = true → (p :: l).Pairwise (fun a b => leS a b = true)
  | [], p, _ => List.pairwise_singleton ..
  | x :: r, p, h => by
    unfold risingS at h
    obtain ⟨h1, h2⟩ := Bool.and_eq_true_iff.mp h
    have ih := sorted_pw h2
    have hx : leS p x = true := by unfold leS; rw [← lt_meets] at h1; exact h1
    refine List.pairwise_cons.mpr ⟨fun y hy => ?_, ih⟩
    rcases List.mem_cons.mp hy with e | hy
    · rw [e]; exact hx
    · exact leS_trans p x y hx ((List.pairwise_cons.mp ih).1 y hy)
theorem srt_of {ys ks : List Str} (h1 : ys.Perm ks) (h2 : sortedS ys = true) : ys = srt ks := by
  have hp : ys.Pairwise (fun a b => leS a b = true) := by
    cases ys with
    | nil => exact .nil
    | cons x r => exact sorted_pw h2
  have hq : (srt ks).Pairwise (fun a b => leS a b = true) := List.pairwise_mergeSort leS_trans leS_total ks
  exact List.Perm.eq_of_pairwise (fun a b _ _ h1 h2 => leS_anti h1 h2) hp hq (h1.trans (List.mergeSort_perm ks leS).symm)
theorem strs_of : ∀ (ys : List Str), ∀ {M : Addr → Prop} {H : Hp}, Reps K M H (ys.map D.str) (ys.map V.str)
  | [], _, _ => reps_nil
  | _ :: ys, _, _ => reps_cons rep_str (strs_of ys)
def sortD : List D → (D → Prop) → Prop
  | [.dic ks xs], P => xs.length = ks.length → ks.length < 64 ∧ P (.lst ((srt ks).map D.str))
  | [.lst xs], P => ∃ ks : List Str, xs = ks.map D.str ∧ ks.length < 64 ∧ P (.lst ((srt ks).map D.str))
  | _, _ => False
theorem kz_keys {ks : List Str} {us : List V} (l : us.length = ks.length) : (kz ks us).map (·.1) = ks.map Sum.inr := by
  unfold kz
  rw [List.map_fst_zip (by simp [l])]
theorem lift_sorted : LiftCall K W sortD (fun vs H Q => rSortedS K vs H Q ∨ (∃ (a : Addr) (kvs : List (Key × V)) (ks : List Str), vs = [.ref a] ∧ Rd H a (.dK kvs) ∧ kvs.map (·.1) = ks.map Sum.inr ∧ ks.length < 64 ∧
    ∀ ys p, ys.Perm ks → sortedS ys = true → H p = none → Q (.ref p) (upd H p (.lst (ys.map V.str))))) := by
  intro M H xs vs P Q m r h k
  match xs, h with
  | [.dic ks xs], h =>
    obtain ⟨v, rfl, r1⟩ := r.one
    obtain ⟨a, us, rfl, dk⟩ := rep_dk m r1
    obtain ⟨h1, h2⟩ := h (by rw [← dk.r.len, dk.len])
    refine .inr ⟨a, _, ks, rfl, .inl dk.at_, kz_keys dk.len, h1, fun ys p hy hs hp => ?_⟩
    rw [srt_of hy hs]
    exact k _ _ _ h2 (Full.new hp).ext (W.keep _ _ m.wi (Full.new hp)) (m.newL hp (strs_of _))
  | [.lst xs], h =>
    obtain ⟨ks, rfl, h1, h2⟩ := h
    obtain ⟨v, rfl, r1⟩ := r.one
    obtain ⟨a, us, rfl, t, r2⟩ := r1.lst
    have e := r2.strs
    subst e
    refine .inl ⟨a, ks, rfl, t.sq, h1, fun ys p hy hs hp => ?_⟩
    rw [srt_of hy hs]
    exact k _ _ _ h2 (Full.new hp).ext (W.keep _ _ m.wi (Full.new hp)) (m.newL hp (strs_of _))
theorem cr_sortedA (hc : X.calm = true) : CallR X (.builtin "sorted") (fun vs H Q => rSortedS X.K vs H Q ∨ (∃ (a : Addr) (kvs : List (Key × V)) (ks : List Str), vs = [.ref a] ∧ Rd H a (.dK kvs) ∧ kvs.map (·.1) = ks.map Sum.inr ∧ ks.length < 64 ∧
    ∀ ys p, ys.Perm ks → sortedS ys = true → H p = none → Q (.ref p) (upd H p (.lst (ys.map V.str))))) := CallR.or cr_sortedS (call_sortedD hc)
/-- list(d) of a list, a tuple, a dict -/
def listA : List D → (D → Prop) → Prop
  | [.tup xs], P => P (.lst xs)
  | [.lst xs], P => P (.lst xs)
  | [.dic ks xs], P => P (.lst (ks.map D.str))
  | _, _ => False
def rListA (K : PySem.W.Frag) : List V → Hp → VK → Prop := fun xs H Q => (∃ p ys, xs = [.ref p] ∧ (SqL K H p ys ∨ SqT K H p ys) ∧ ∀ l, H l = none → Q (.ref l) (upd H l (.lst ys))) ∨
  (∃ (a : Addr) (kvs : List (Key × V)), xs = [.ref a] ∧ Rd H a (.dK kvs) ∧ ∀ p, H p = none → Q (.ref p) (upd H p (.lst (kvs.map fun kv => kV kv.1))))
theorem cr_listA (hc : X.calm = true) : CallR X (.type "list") (rListA X.K) := CallR.or call_list_of (call_listD hc)
theorem kz_vals {ks : List Str} {us : List V} (l : us.length = ks.length) : ((kz ks us).map fun kv => kV kv.1) = ks.map V.str := by
  have e : ((kz ks us).map fun kv => kV kv.1) = ((kz ks us).map (·.1)).map kV := by rw [List.map_map]; rfl
  rw [e, kz_keys l, List.map_map]
  rfl
theorem lift_listA : LiftCall K W listA (rListA K) := by
  intro M H xs vs P Q m r h k
  match xs, h with
  | [.tup ds], h => exact .inl (lift_list (W := W) M H [.tup ds] vs P Q m r h k)
  | [.lst ds], h => exact .inl (lift_list (W := W) M H [.lst ds] vs P Q m r h k)
  | [.dic ks xs], h =>
    obtain ⟨v, rfl, r1⟩ := r.one
    obtain ⟨a, us, rfl, dk⟩ := rep_dk m r1
    refine .inr ⟨a, _, rfl, .inl dk.at_, fun p hp => ?_⟩
    rw [kz_vals dk.len]
    exact k _ _ _ h (Full.new hp).ext (W.keep _ _ m.wi (Full.new hp)) (m.newL hp (strs_of _))
/-! ### texts -/
def joinD : D → D → (D → Prop) → Prop
  | .str a, .lst xs, P => ∃ ys : List Str, xs = ys.map D.str ∧ (ys.map (·.length)).sum + ys.length * a.length ≤ 16777216 ∧ P (.str (Txt.join a ys))
  | .str a, .tup xs, P => ∃ ys : List Str, xs = ys.map D.str ∧ (ys.map (·.length)).sum + ys.length * a.length ≤ 16777216 ∧ P (.str (Txt.join a ys))
  | _, _, _ => False
def isStr : D → Bool
  | .str _ => true
  | _ => false
def wM1 (f : D → D → (D → Prop) → Prop) (wa wb : WE) : WE := fun ds P => wa ds fun x => isStr x = true ∧ wb ds fun y => f x y P
theorem ve_m1 {o e c : Expr} {wa wb : WE} {f : D → D → (D → Prop) → Prop} {r : V → List V → Hp → VK → Prop} (h : PE X c (tM1 r (LE X.K W wa) (LE X.K W wb))) (hf : LiftOp X.K W f (fun x y H Q => r x [y] H Q)) : VE X W c (wM1 f wa wb) := by
  refine pe_imp h fun σ H Q h => ?_
  obtain ⟨M0, H0, oa, ds, P, S, hw, k⟩ := h
  refine ⟨M0, H0, oa, ds, _, S, hw, fun x v H1 hx e1 i1 r1 => ?_⟩
  have S1 := S.step e1 i1
  obtain ⟨hs, hx⟩ := hx
  refine ⟨?_, M0, H0, oa, ds, _, S1, hx, fun y u H2 hy e2 i2 r2 => ?_⟩
  · cases x <;> first | exact ⟨_, r1.str⟩ | cases hs
  · have S2 := S1.step e2 i2
    exact hf (Mx M0 oa) H2 x y v u P Q S2.mok (r1.ext S1.mok e2) r2 hy fun d z H' hp e i r => k d z H' hp ((e1.trans e2).trans e) i r
theorem lift_join : LiftOp K W joinD (fun x y H Q => ∃ a p, ∃ ys : List Str, x = .str a ∧ [y] = [.ref p] ∧ (SqL K H p (ys.map V.str) ∨ SqT K H p (ys.map V.str)) ∧
      (ys.map (·.length)).sum + ys.length * a.length ≤ 16777216 ∧ Q (.str (Txt.join a ys)) H) := by
  intro M H x y v u P Q m r1 r2 h k
  cases x <;> cases y <;> first
    | exact h.elim
    | (rename_i s ds
       obtain ⟨ys, rfl, h1, h2⟩ := h
       first
         | (obtain ⟨a, us, rfl, t, q⟩ := r2.lst
            have e := q.strs
            subst e
            exact ⟨s, a, ys, r1.str, rfl, .inl t.sq, h1, k _ _ H h2 (Ext.refl H) m.wi rep_str⟩)
         | (obtain ⟨a, us, rfl, t, q⟩ := r2.tup
            have e := q.strs
            subst e
            exact ⟨s, a, ys, r1.str, rfl, .inr t.sq, h1, k _ _ H h2 (Ext.refl H) m.wi rep_str⟩))
theorem ve_join {o e : Expr} {apos pos : Pos} {wa wb : WE} (ho : VE X W o wa) (he : VE X W e wb) (hs : starEach [e] X.env = [(false, eval e X.env)] := by rfl) (hbase : attributeBase o "join" X.env (eval o X.env) = eval o X.env := by rfl) (hline : (apos.endLine == pos.line) = true := by rfl) :
    VE X W (.Call (.Attribute o "join" apos) [e] [] pos) (wM1 joinD wa wb) := ve_m1 (o := o) (e := e) (pe_join ho he hs hbase hline) lift_join
/-- xs[::-1] -/
def revD : D → (D → Prop) → Prop
  | .lst xs, P => P (.lst xs.reverse)
  | _, _ => False
theorem ve_rev {e : Expr} {w : WE} {k : Nat} {p1 p2 p3 pos : Pos} (he : VE X W e w) : VE X W (.Subscript e (.Slice none none (some (.UnaryOp .USub (.Constant (.int 1) k p1) p2)) p3) pos) (fun ds P => w ds fun x => revD x P) := by
  refine pe_imp (pe_revL he) fun σ H Q h => ?_
  obtain ⟨M0, H0, oa, ds, P, S, hw, k⟩ := h
  refine ⟨M0, H0, oa, ds, _, S, hw, fun x v H1 hx e1 i1 r1 => ?_⟩
  cases x with
  | lst xs =>
    obtain ⟨a, us, rfl, t, q⟩ := r1.lst
    exact ⟨a, us, rfl, t.sq, fun p hp => k _ _ _ hx (e1.trans (Full.new hp).ext) (W.keep _ _ i1 (Full.new hp)) ((S.step e1 i1).mok.newL hp q.rev)⟩
  | _ => exact hx.elim
end
end VL

set_option Elab.async false
set_option linter.all false
set_option maxRecDepth 100000
set_option maxHeartbeats 2000000
/-! VG: own lists that are read, stars in displays, defaults and keywords. -/
namespace VL
open PySem PySem.Spec PyProof.Rows L2
section
variable {X : Cx} {W : Wd} {K : PySem.W.Frag} {e : Expr} {pos p : Pos}
/-- a test that reads an own list -/
theorem vt_fz (i : Nat) {t : WT} (h : VT X W e t) : VT X W e (fun ds P => t (fz i ds) P) := pt_imp h fun σ H Q ⟨M0, H0, oa, ds, P, S, hw, k⟩ => by
  obtain ⟨oa', S'⟩ := S.fz i
  exact ⟨M0, H0, oa', _, P, S', hw, k⟩
/-- a flat value out of an own list -/
theorem rep_flat {M M' : Addr → Prop} {H : Hp} {d : D} {v : V} (h : Rep K M H d v) (f : flatD d = true) : Rep K M' H d v := by
  cases d with
  | non => rw [h.non]; exact rep_non
  | bl => rw [h.bl]; exact rep_bl
  | int => rw [h.int]; exact rep_int
  | str => rw [h.str]; exact rep_str
  | _ => cases f
theorem ve_fz (i : Nat) {w : WE} (h : VE X W e w) : VE X W e (fun ds P => w (fz i ds) fun d => flatD d = true ∧ P d) := pe_imp h fun σ H Q ⟨M0, H0, oa, ds, P, S, hw, k⟩ => by
  obtain ⟨oa', S'⟩ := S.fz i
  exact ⟨M0, H0, oa', _, _, S', hw, fun d v H' hp e1 i1 r => k d v H' hp.2 e1 i1 (rep_flat r hp.1)⟩
/-- xs[k] of an own list -/
def lsS : Sl → (List D → Prop) → Prop
  | .ml xs, P => P xs
  | .d (.lst xs), P => P xs
  | _, _ => False
theorem Sat.ls {M0 : Addr → Prop} {H0 H : Hp} {oa : Nat → Option Addr} {σ : L2.St} {ds : List Sl} (S : Sat K W M0 H0 oa H σ ds) {i : Nat} {P : List D → Prop} (h : lsS (ds.getD i .un) P) :
    ∃ l a xs, P l ∧ σ[i]? = some (some (.ref a)) ∧ (∀ H', Ext W H H' → SqL K H' a xs) ∧ Reps K (Mx M0 oa) H l xs := by
  rw [List.getD_eq_getElem?_getD] at h
  cases e : ds[i]? with
  | none => rw [e] at h; exact h.elim
  | some s =>
    rw [e] at h
    cases s with
    | un => exact h.elim
    | md ks l => exact h.elim
    | mi a C ks l => exact h.elim
    | ml l =>
      obtain ⟨a, xs, e1, e2, e3, r⟩ := S.slot i _ e
      exact ⟨l, a, xs, h, e2, fun H' ex => SqL.of (ex a _ (S.own_nA e1) e3), r⟩
    | d x =>
      cases x with
      | lst l =>
        obtain ⟨_, v, e1, r⟩ := S.slot i _ e
        obtain ⟨a, xs, rfl, t, r2⟩ := r.lst
        exact ⟨l, a, xs, h, e1, fun H' ex => (t.car (S.mok.car ex)).sq, r2⟩
      | _ => exact h.elim
def wLIx (i : Nat) (wk : WE) : WE := fun ds P => lsS (ds.getD i .un) fun xs => wk ds fun k => asInt k fun j => ∃ d, atI xs j = some d ∧ P d
theorem ve_lix (i : Nat) {x : Str} {k : Expr} {wk : WE} (hk : VE X W k wk) (hN : X.N[i]? = some x := by rfl) (hv : Vis X.env.scope x := by first | exact Or.inl rfl | exact Or.inr (Or.inl rfl) | exact Or.inr (Or.inr rfl)) (hd : (x == ("__debug__" : Str)) = false := by decide)
    (hcd : (x == ("__classdict__" : Str)) = false := by decide) (hs : PlainIx k := by exact fun _ _ => rfl) : VE X W (.Subscript (.Name x p) k pos) (wLIx i wk) := by
  refine pe_imp (pe_ix ix_seq (pe_var hN hv hd hcd) hk hs) fun σ H Q h => ?_
  obtain ⟨M0, H0, oa, ds, P, S, hw, kk⟩ := h
  obtain ⟨l, a, xs, hp, hσ, hq, r⟩ := S.ls hw
  refine ⟨.ref a, hσ, M0, H0, oa, ds, _, S, hp, fun d v H1 hd e1 i1 r1 => ?_⟩
  cases d <;> first | exact hd.elim | skip
  rename_i j
  obtain ⟨d, h1, h2⟩ := hd
  obtain ⟨z, ez, rz⟩ := atI_rep r h1
  exact .inl ⟨a, xs, j, z, rfl, r1.int, hq H1 e1, ez, kk _ _ H1 h2 e1 i1 (rz.ext S.mok e1)⟩
/-- xs[a:b] of an own list is a new list -/
def wLSlc (i : Nat) (l h : WO) : WE := fun ds P => lsS (ds.getD i .un) fun xs => l ds fun a => h ds fun b => P (.lst (cutD xs a b))
theorem ve_lslc (i : Nat) {x : Str} {lo hi : Option Expr} {p2 : Pos} {l h : WO} (hl : VO X W lo l) (hu : VO X W hi h) (hN : X.N[i]? = some x := by rfl) (hv : Vis X.env.scope x := by first | exact Or.inl rfl | exact Or.inr (Or.inl rfl) | exact Or.inr (Or.inr rfl)) (hd : (x == ("__debug__" : Str)) = false := by decide)
    (hcd : (x == ("__classdict__" : Str)) = false := by decide) : VE X W (.Subscript (.Name x p) (.Slice lo hi none p2) pos) (wLSlc i l h) := by
  refine pe_imp (pe_slice sl_any (pe_var hN hv hd hcd) hl hu) fun σ H Q h => ?_
  obtain ⟨M0, H0, oa, ds, P, S, hw, kk⟩ := h
  obtain ⟨l, a, xs, hp, hσ, hq, r⟩ := S.ls hw
  refine ⟨.ref a, hσ, M0, H0, oa, ds, _, S, hp, fun lo H2 ha e2 i2 => ?_⟩
  have S2 := S.step e2 i2
  refine ⟨M0, H0, oa, ds, _, S2, ha, fun hi H3 hb e3 i3 => ?_⟩
  have S3 := S2.step e3 i3
  have e13 := e2.trans e3
  exact .inl (.inl ⟨a, xs, rfl, hq H3 e13, fun q hqn => kk _ _ _ hb (e13.trans (Full.new hqn).ext) (W.keep _ _ i3 (Full.new hqn)) (S3.mok.newL hqn (cut_rep (r.ext S.mok e13) lo hi))⟩)
/-! ### [*xs, y] -/
def wStar (w : WE) (l : WL) : WL := fun ds P => w ds fun d => seqD d fun xs => l ds fun ys => P (xs ++ ys)
theorem va_star {es : List Expr} {w : WE} {l : WL} {sp : Pos} (he : VE X W e w) (hr : VA X W es l) (hs : starEach (.Starred e sp :: es) X.env = (true, eval e X.env) :: starEach es X.env := by rfl) : VA X W (.Starred e sp :: es) (wStar w l) := by
  refine pa_imp (StX.pa_star he hr hs) fun σ H Q h => ?_
  obtain ⟨M0, H0, oa, ds, P, S, hw, k⟩ := h
  refine ⟨M0, H0, oa, ds, _, S, hw, fun d v H1 hd e1 i1 r1 => ?_⟩
  obtain ⟨xs, a, vs, hp, rfl, hq, rr⟩ := seqD_of hd r1
  have S1 := S.step e1 i1
  exact ⟨a, vs, rfl, hq.symm, M0, H0, oa, ds, _, S1, hp, fun ys us H2 hp2 e2 i2 r2 => k _ _ H2 hp2 (e1.trans e2) i2 ((rr.ext S1.mok e2).app r2)⟩
/-! ### defaults -/
theorem ve_callD {CX : CXT} {k : Nat} {f : Addr} {fd : FuncData} {ps : List Str} {g : List D → (D → Prop) → Prop} {dvs : List V} {dds : List D} {es : List Expr} {x : Str} {l : WL} {E : XK}
    (F : FnOk X.prog X.w X.K X.mg X.base CX k f fd ps (spD X.K W g)) (hr : Room k X.A) (hg : Gl X x) (hm : X.mg x = some (.ref f)) (hk : PySem.W.keepIn X.K (.ref f) = true) (hb : ∃ ds, Vals dvs ds ∧ Binds X.K fd ps ds) (hx : Passes CX X E) (hdd : ∀ M H, Reps X.K M H dds dvs)
    (ha : VA X W (e :: es) l) (hdb : (x == ("__debug__" : Str)) = false := by decide) (he : starEach (e :: es) X.env = (false, eval e X.env) :: starEach es X.env := by rfl) (hpl : (backTo pos (starEach es X.env)).any (·.1) = false := by rfl) :
    VE X W (.Call (.Name x p) (e :: es) [] pos) (wCall (fun xs P => g (xs ++ dds) P) l) := by
  obtain ⟨ds, h1, h2⟩ := hb
  exact ve_call F hr hg hm hk h2 h1 hx hdd ha hdb he hpl
/-- THE RULE for a def with defaults -/
theorem vfnD {P : Program} {w : World} {mg : Str → Option Value} {base : Heap} {x qual : Str} {st : Stmt} {f : Addr} {fd : FuncData} {N ps : List Str} {dvs : List V} {kws : List (Str × V)} {k : Nat} {g : List D → (D → Prop) → Prop}
    (F : FunD K x qual (defArgs st) (defBody st) (defScope st) dvs kws f fd) (S : FnScope N ps (defScope st))
    (len : ∀ ds P, g ds P → ds.length = ps.length)
    (hb : ∃ wb : WS, (∀ (cdv : Value) (A : Around) (outer : List Env) (s : Shared) (H : Hp) (E : XK), Room k (A.deeper (envOfC qual (defScope st) s.heap.objs.size f cdv)) → VSs (cxOf CX0 P w K mg base N qual (defScope st) f cdv A outer s H E).nox W.pl (defBody st) wb) ∧
      ∀ ds Q, g ds Q → wb (endsD Q) (startD N ds)) : FnOk P w K mg base CX0 (k + 1) f fd ps (spD K W g) := by
  obtain ⟨wb, h1, h2⟩ := hb
  refine F.ok S (fun vs H Q E h => ?_) (fun cdv A outer s H vs Q E hr h => ⟨LS K W.pl wb, (h1 cdv A outer s H E hr).nox, ?_⟩)
  · obtain ⟨M, ds, P, m, r, hg, _⟩ := h
    rw [r.len, len ds P hg]
  · obtain ⟨M, ds, P, m, r, hg, k⟩ := h
    have hl : ds.length ≤ N.length := by
      have q := congrArg List.length S.pre
      rw [List.length_take] at q
      rw [len ds P hg]
      omega
    refine ⟨M, H, fun _ => none, startD N ds, endsD P, sat_start (W := W.pl) ⟨m.wm, m.live, m.wi, m.nb, m.nx⟩ r hl (fun _ z => z.elim) (fun _ _ _ z => by cases z), h2 ds P hg, fun ds' oa' σ' H' hn S' => ?_, fun d v H' hd e i r' => k d v H' hd e i r', fun _ _ _ _ z => z.elim, fun _ _ _ _ z => z.elim⟩
    exact k .non .non H' hn S'.ext S'.wi rep_non
/-! ### keywords -/
abbrev VK (X : Cx) (W : Wd) (es : List Keyword) (w : WL) : Prop := PK X es (LA X.K W w)
theorem pk_imp {kws : List Keyword} {t t' : TA} (h : PK X kws t) (f : ∀ σ H Q, t' σ H Q → t σ H Q) : PK X kws t' := ⟨fun pos pins s σ H Q I hw => h.run pos pins s σ H Q I (f σ H Q hw)⟩
theorem vk_one {w : WE} {nm : Option Str} {kpos : Pos} (he : VE X W e w) : VK X W [⟨nm, e, kpos⟩] (fun ds P => w ds fun d => P [d]) := by
  refine pk_imp (pk_cons he pk_nil) fun σ H Q h => ?_
  obtain ⟨M0, H0, oa, ds, P, S, hw, k⟩ := h
  exact ⟨M0, H0, oa, ds, _, S, hw, fun d v H1 hd e1 i1 r1 => k _ _ H1 hd e1 i1 (reps_cons r1 reps_nil)⟩
def wCallK (n m : Nat) (f : List D → (D → Prop) → Prop) (gD : List D → List D → List D) (l lk : WL) : WE := fun ds P => l ds fun xs => lk ds fun zs => xs.length = n ∧ zs.length = m ∧ f (gD xs zs) P
theorem ve_callK {CX : CXT} {k n : Nat} {f : Addr} {fd : FuncData} {ps ks : List Str} {g : List D → (D → Prop) → Prop} {gU : List Value → List Value → List Value} {gV : List V → List V → List V} (gD : List D → List D → List D) {es : List Expr} {kws : List Keyword} {x : Str} {l lk : WL} {E : XK}
    (F : FnOk X.prog X.w X.K X.mg X.base CX k f fd ps (spD X.K W g)) (hr : Room k X.A) (hg : Gl X x) (hm : X.mg x = some (.ref f)) (hk : PySem.W.keepIn X.K (.ref f) = true) (hb : KBn X.K fd ps n ks gU gV) (hx : Passes CX X E)
    (hG : ∀ M H xs zs vs us, Reps X.K M H xs vs → Reps X.K M H zs us → xs.length = n → zs.length = ks.length → Reps X.K M H (gD xs zs) (gV vs us))
    (ha : VA X W (e :: es) l) (hkw : VK X W kws lk) (hall : (backToKw pos (keywordEach kws X.env)).all (·.1.isSome) = true := by rfl) (hks : (backToKw pos (keywordEach kws X.env)).filterMap (·.1) = ks := by rfl)
    (hdb : (x == ("__debug__" : Str)) = false := by decide) (he : starEach (e :: es) X.env = (false, eval e X.env) :: starEach es X.env := by rfl)
    (hpl : ((backTo pos (starEach (e :: es) X.env)).any (·.1) || (backToKw pos (keywordEach kws X.env)).any (·.1.isNone)) = false := by rfl) :
    VE X W (.Call (.Name x p) (e :: es) kws pos) (wCallK n ks.length g gD l lk) := by
  refine pe_imp (pe_callN F hr hg hm hk hb hx ha hkw hall hks hdb he hpl) fun σ H Q h => ?_
  obtain ⟨M0, H0, oa, ds, P, S, hw, kk⟩ := h
  refine ⟨M0, H0, oa, ds, _, S, hw, fun xs vs H1 hx e1 i1 r1 => ?_⟩
  have S1 := S.step e1 i1
  refine ⟨M0, H0, oa, ds, _, S1, hx, fun zs us H2 hx2 e2 i2 r2 => ?_⟩
  obtain ⟨l1, l2, hf⟩ := hx2
  have r1' := r1.ext S1.mok e2
  exact ⟨by rw [r1.len, l1], by rw [r2.len, l2], Mx M0 oa, gD xs zs, P, (S1.step e2 i2).mok, hG _ _ _ _ _ _ r1' r2 l1 l2, hf, fun d v H' hp e i r => kk d v H' hp ((e1.trans e2).trans e) i r⟩
end
/-- every parameter is written, some by keyword -/
theorem _root_.L2.FunD.kall {K : PySem.W.Frag} {x qual : Str} {params : Arguments} {body : List Stmt} {scope : Scope} {kws : List (Str × V)} {f : Addr} {fd : FuncData} {ps : List Str} (F : FunD K x qual params body scope [] kws f fd) (n : Nat) (ks : List Str)
    (h : ∀ (kV doc pm : Value) (an : Option Addr) (cdv ct : Value) (us ws : List Value), us.length = n → ws.length = ks.length → bindArgs (PySem.W.fnOf x qual params body scope .none kV doc pm an cdv ct) ⟨us, ks.zip ws⟩ = pure (ps.zip (us ++ ws))) : KBn K fd ps n ks (fun us ws => us ++ ws) (fun vs zs => vs ++ zs) := by
  obtain ⟨oc, od, dV, kV, doc, pm, an, cdv, ct, osl, rfl, lk, hcd, hD, hK⟩ := F.ex
  rcases hD with ⟨_, rfl⟩ | ⟨e, _⟩
  · exact ⟨fun s us ws X l1 l2 => .of_eq (h kV doc pm an cdv ct us ws l1 l2), fun r1 r2 => r1.append r2⟩
  · exact absurd rfl e
section
variable {X : Cx} {W : Wd} {e : Expr} {pos : Pos}
/-- {} as data -/
theorem ve_dnil : VE X W (.Dict [] [] pos) (fun _ P => P (.dic [] [])) := pe_imp pe_dnewK fun σ H Q ⟨M0, H0, oa, ds, P, S, hw, k⟩ => fun p hp =>
  k _ _ _ hw (Full.new hp).ext (W.keep _ _ S.wi (Full.new hp)) (rep_dic (S.mok.fresh hp) (us := []) rfl upd_same reps_nil)
/-- a, d = e, {} -/
def wParDic (i j : Nat) (wa : WE) : WS := fun E ds => j < ds.length ∧ wa ds fun x => E.nx ((ds.set i (.d x)).set j (.md [] []))
theorem vs_parDic (i j : Nat) {x y : Str} {wa : WE} {px py pt dp : Pos} {kt k2 pt2} (hc : X.calm = true) (hN : X.N.Nodup) (hij : i ≠ j) (ha : VE X W e wa) (hi : X.N[i]? = some x := by rfl) (hj : X.N[j]? = some y := by rfl)
    (hx : X.env.scope.names.lookup x = some .local := by rfl) (hy : X.env.scope.names.lookup y = some .local := by rfl)
    (hw : swappedStores [.Tuple [.Name x px, .Name y py] kt pt] (.Tuple [e, .Dict [] [] dp] k2 pt2) X.env = pure (some [x, y]) := by rfl)
    (hs : swapsWithSole [.Tuple [.Name x px, .Name y py] kt pt] (.Tuple [e, .Dict [] [] dp] k2 pt2) pos.line X.env = pure false := by rfl) (hs1 : starEach [e, .Dict [] [] dp] X.env = (false, eval e X.env) :: starEach [.Dict [] [] dp] X.env := by rfl) (hs2 : starEach [.Dict [] [] dp] X.env = (false, eval (.Dict [] [] dp) X.env) :: starEach [] X.env := by rfl) :
    VS X W (.Assign [.Tuple [.Name x px, .Name y py] kt pt] (.Tuple [e, .Dict [] [] dp] k2 pt2) pos) (wParDic i j wa) := by
  refine ps_imp (ps_par hc hN hi hj hij hx hy (pa_cons ha (pa_cons pe_dnewK pa_nil hs2) hs1) hw hs) fun D σ H h => ?_
  obtain ⟨M0, H0, oa, ds, E, S, ⟨hl, hw⟩, k1, k2, k3, k4⟩ := h
  refine ⟨M0, H0, oa, ds, _, S, hw, fun d v H1 hd e1 i1 r1 => ?_⟩
  have S1 := S.step e1 i1
  refine fun p hp => ⟨v, .ref p, rfl, ?_⟩
  exact k1 _ _ _ _ hd ((S1.set (i := i) r1).newown (by rw [List.length_set]; exact hl) hp fun c => ⟨p, [], rfl, rfl, rfl, upd_same, reps_nil⟩)
end
end VL

set_option Elab.async false
set_option linter.all false
set_option maxRecDepth 100000
set_option maxHeartbeats 2000000
/-! VZ: zip of two, each a list or a tuple. -/
namespace VL
open PySem PySem.Spec PyProof.Rows L2
inductive Kz | l | t
def SqK (k : Kz) (K : PySem.W.Frag) (H : Hp) (a : Addr) (xs : List V) : Prop := match k with
  | .l => SqL K H a xs
  | .t => SqT K H a xs
def IsK (k : Kz) (h : Heap) (a : Addr) (its : Array Value) : Prop := match k with
  | .l => h.IsList a its
  | .t => h.IsTuple a its
def IterK (k : Kz) (h : Heap) (it a : Addr) (i : Nat) : Prop := match k with
  | .l => h.IsListIter it a i
  | .t => h.IsTupleIter it a i
theorem drawsK {prog : Program} {w : World} {A : Around} (k : Kz) (hh : A.handled = none) (it a : Addr) (hne : a ≠ it) (items : Array Value) :
    Draws prog w A it [it, a] items.size (fun i v => items[i]? = some v) (fun i h => IterK k h it a i ∧ IsK k h a items) := by
  cases k with
  | l => exact Draws.list hh it a hne items
  | t => exact Draws.tuple hh it a hne items
def itObj (k : Kz) (a : Addr) : Obj := match k with
  | .l => { cls := .type "list_iterator", data := .fields #[.ref a, .int 0 0] }
  | .t => { cls := .type "tuple_iterator", data := .fields #[.ref a, .int 0 0] }
theorem beginsK (k : Kz) (a : Addr) (items : Array Value) : Begins (.ref a) (itObj k a) fun h => IsK k h a items := by
  cases k with
  | l => exact begins_list a items
  | t => exact begins_tuple a items
theorem iterK0 {k : Kz} {h : Heap} {it a : Addr} (e : h.get? it = some (itObj k a)) : IterK k h it a 0 := by
  cases k with
  | l => exact ⟨_, e, rfl, rfl⟩
  | t => exact ⟨_, e, rfl, rfl⟩
theorem IterK.at {k : Kz} {h h' : Heap} {it a : Addr} {i : Nat} (x : IterK k h it a i) (c : ∀ o, h.get? it = some o → h'.get? it = some o) : IterK k h' it a i := by
  cases k with
  | l => exact Heap.IsListIter.at x c
  | t => exact Heap.IsTupleIter.at x c
theorem IterK.obj {k : Kz} {h : Heap} {it a : Addr} {i : Nat} (x : IterK k h it a i) : ∃ o, h.get? it = some o ∧ ∀ v, o.data ≠ .cell v := by
  cases k with
  | l => obtain ⟨o, e, _, d⟩ := x; exact ⟨o, e, fun v q => by rw [d] at q; cases q⟩
  | t => obtain ⟨o, e, _, d⟩ := x; exact ⟨o, e, fun v q => by rw [d] at q; cases q⟩
section
variable {X : Cx} {pins : List (Addr × Obj)} {σ : L2.St} {H : Hp} {s : Shared} {a : Addr} {xs ys : List V} {k : Kz}
theorem seqK (I : Inv X pins σ H s) (h : SqK k X.K H a xs) : ∃ its : List Value, Vals xs its ∧ IsK k s.heap a its.toArray ∧ a < s.heap.objs.size := by
  cases k with
  | l =>
    obtain ⟨its, r, p, _⟩ := I.list h
    exact ⟨its, r, p.isList, p.lt⟩
  | t =>
    obtain ⟨its, r, p, _⟩ := I.tuple h
    obtain ⟨o, ho, _⟩ := id p
    exact ⟨its, r, p, Heap.lt_size ho⟩
theorem seqK_inj (I : Inv X pins σ H s) (h : SqK k X.K H a xs) (h' : SqK k X.K H a ys) : xs = ys := by
  cases k with
  | l => exact I.list_inj h h'
  | t => exact I.tuple_inj h h'
end
/-- the sequences at a and b as they stand at each turn, the items in new pairs -/
def ItzK (K : PySem.W.Frag) (k1 k2 : Kz) (a b : Addr) : It :=
  ⟨fun i H => ∃ (xs ys : List V) (x y : V), SqK k1 K H a xs ∧ SqK k2 K H b ys ∧ xs[i]? = some x ∧ ys[i]? = some y,
    fun i H v H' => ∃ T x y, v = .ref T ∧ H T = none ∧ H' = upd H T (.tup [x, y]) ∧ (∀ xs, SqK k1 K H a xs → xs[i]? = some x) ∧ ∀ ys, SqK k2 K H b ys → ys[i]? = some y,
    fun i H => ∃ xs ys : List V, SqK k1 K H a xs ∧ SqK k2 K H b ys ∧ (xs.length = i ∧ i ≤ ys.length ∨ ys.length = i ∧ i ≤ xs.length)⟩
structure Apart (z TI TO i1 i2 a b : Addr) : Prop where
  TIz : TI ≠ z
  TOz : TO ≠ z
  TITO : TI ≠ TO
  TIi1 : TI ≠ i1
  TIi2 : TI ≠ i2
  zi1 : z ≠ i1
  zi2 : z ≠ i2
  TOi1 : TO ≠ i1
  TOi2 : TO ≠ i2
  i12 : i1 ≠ i2
  za : z ≠ a
  zb : z ≠ b
  TOa : TO ≠ a
  TOb : TO ≠ b
  ai1 : a ≠ i1
  ai2 : a ≠ i2
  bi1 : b ≠ i1
  bi2 : b ≠ i2
theorem apart_of (n a b : Nat) (l1 : a < n) (l2 : b < n) : Apart (n + 4) (n + 2) (n + 3) n (n + 1) a b := by
  constructor <;> (show ¬ (_ : Nat) = _; omega)
theorem Apart.sep {z TI TO i1 i2 a b : Addr} (D : Apart z TI TO i1 i2 a b) : ZipSep2 z TI TO i1 i2 [i1, a] [i2, b] where
  TIz := D.TIz
  TOz := D.TOz
  TITO := D.TITO
  TIi1 := D.TIi1
  mem1 := by simp
  zf1 := by simp [D.zi1, D.za]
  Tf1 := by simp [D.TOi1, D.TOa]
  TIi2 := D.TIi2
  mem2 := by simp
  zf2 := by simp [D.zi2, D.zb]
  Tf2 := by simp [D.TOi2, D.TOb]
  sep1_2 := by simp [D.i12, Ne.symm D.bi1]
  sep2_1 := by simp [Ne.symm D.i12, Ne.symm D.ai2]
theorem turn_zipK {P : Program} {w : World} {K : PySem.W.Frag} {elts : List Expr} {kk : Nat} {tpos : Pos} {k1 k2 : Kz} {a b z TI TO i1 i2 : Addr} (D : Apart z TI TO i1 i2 a b) :
    Turn P w K (.Tuple elts kk tpos) (ItzK K k1 k2 a b) [z, TI, TO, i1, i2] z (fun i h => IsZip h z TI TO .none ∧ IsTupOf2 h TI (.ref i1) (.ref i2) ∧ (∃ x y, IsTupOf2 h TO x y) ∧ IterK k1 h i1 a i ∧ IterK k2 h i2 b i) where
  mem := by simp
  obj := fun i h st c hc => by
    obtain ⟨hz, hTI, ⟨x, y, hTO⟩, h1, h2⟩ := st
    obtain ⟨o1, e1, d1⟩ := h1.obj
    obtain ⟨o2, e2, d2⟩ := h2.obj
    have e' : c = z ∨ c = TI ∨ c = TO ∨ c = i1 ∨ c = i2 := by simpa using hc
    rcases e' with q | q | q | q | q
    · rw [q]; exact ⟨_, hz, fun v q => nomatch q⟩
    · rw [q]; exact ⟨_, hTI, fun v q => nomatch q⟩
    · rw [q]; exact ⟨_, hTO, fun v q => nomatch q⟩
    · rw [q]; exact ⟨o1, e1, d1⟩
    · rw [q]; exact ⟨o2, e2, d2⟩
  keep := fun i h h' st k => by
    obtain ⟨hz, hTI, ⟨x, y, hTO⟩, h1, h2⟩ := st
    exact ⟨k z (by simp) _ hz, k TI (by simp) _ hTI, ⟨x, y, k TO (by simp) _ hTO⟩, h1.at fun o q => k i1 (by simp) o q, h2.at fun o q => k i2 (by simp) o q⟩
  item := by
    intro X hP hw hK hc i pins s σ H E I hf st hg
    subst hP hw hK
    obtain ⟨hz, hTI, ⟨x0, y0, hTO⟩, h1, h2⟩ := st
    obtain ⟨xs, ys, x, y, hqx, hqy, hx, hy⟩ := hg
    obtain ⟨its, rv, p, _⟩ := seqK I hqx
    obtain ⟨its2, rv2, p2, _⟩ := seqK I hqy
    obtain ⟨u, hu, ru⟩ := rv.get hx
    obtain ⟨u2, hu2, ru2⟩ := rv2.get hy
    have hzl : z < s.heap.objs.size := Heap.lt_size hz
    have hh : X.A.in1.handled = none := I.ok.hd hc
    have lt1 : i < its.toArray.size := by rw [List.size_toArray]; exact (List.getElem?_eq_some_iff.mp hu).1
    have lt2 : i < its2.toArray.size := by rw [List.size_toArray]; exact (List.getElem?_eq_some_iff.mp hu2).1
    refine wpAny_pyNext_zipD2_item D.sep (drawsK k1 hh i1 a D.ai1 its.toArray) (drawsK k2 hh i2 b D.bi2 its2.toArray) hz hTI hTO ⟨h1, p⟩ ⟨h2, p2⟩ lt1 lt2 fun v1 v2 h' tk y1 y2 z' TO' st1 st2 hT hsz hk => ?_
    obtain rfl : u = v1 := by
      have : some u = some v1 := by rw [← y1]; simpa using hu.symm
      exact Option.some.inj this
    obtain rfl : u2 = v2 := by
      have : some u2 = some v2 := by rw [← y2]; simpa using hu2.symm
      exact Option.some.inj this
    obtain ⟨h1', _⟩ := st1
    obtain ⟨h2', _⟩ := st2
    refine ⟨_, rfl, wpAny_letOwnedTupleGo_zip (s := { s with heap := h', toks := tk }) z' fun h'' z'' sb => ?_⟩
    have hT2 : h''.get? s.heap.objs.size = some { cls := .type "tuple", data := .seq #[u, u2] } := (sb.2 _ (Nat.ne_of_gt hzl)).trans hT
    have new : ObjOk X.prog X.w (upd H s.heap.objs.size (.tup [x, y])) h'' s.heap.objs.size (.tup [x, y]) :=
      ⟨by show 2 ≤ sizeLine; decide, [u, u2], .cons ru (.cons ru2 .nil), ⟨_, hT2, rfl, _, rfl⟩⟩
    have I1 : Inv X pins σ (upd H s.heap.objs.size (.tup [x, y])) { s with heap := h'', toks := tk } :=
      I.turnedNew (t' := tk) (ch := [z, TI, TO, i1, i2]) (fun c o hb q => (sb.2 c (fun q' => hb (by simp [q']))).trans (hk c o (fun q' => hb (by simp [q'])) (fun q' => hb (by simp [q'])) (fun q' => hb (by simp [q'])) (fun q' => hb (by simp [q'])) q)) hf (Nat.le_refl _) new
    refine ⟨.ref s.heap.objs.size, _, I1, rfl, ⟨_, x, y, rfl, I.hok.fresh (Nat.le_refl _), rfl, fun l hl => by rw [seqK_inj I hl hqx]; exact hx, fun l hl => by rw [seqK_inj I hl hqy]; exact hy⟩, ⟨z'', ?_, ⟨u, u2, ?_⟩, ?_, ?_⟩, fun c hcm => ?_⟩
    · exact (sb.2 _ D.TIz).trans (hk _ _ D.TIz D.TITO D.TIi1 D.TIi2 hTI)
    · exact (sb.2 _ D.TOz).trans TO'
    · exact h1'.at fun o q => (sb.2 _ (Ne.symm D.zi1)).trans q
    · exact h2'.at fun o q => (sb.2 _ (Ne.symm D.zi2)).trans q
    · have hlt : c < s.heap.objs.size := by
        have e' : c = z ∨ c = TI ∨ c = TO ∨ c = i1 ∨ c = i2 := by simpa using hcm
        rcases e' with q | q | q | q | q
        · rw [q]; exact hzl
        · rw [q]; exact Heap.lt_size hTI
        · rw [q]; exact Heap.lt_size hTO
        · rw [q]; obtain ⟨_, e1, _⟩ := h1.obj; exact Heap.lt_size e1
        · rw [q]; obtain ⟨_, e2, _⟩ := h2.obj; exact Heap.lt_size e2
      rw [upd_ne (Nat.ne_of_lt hlt)]
      exact (hf c hcm).1
  done := by
    intro X hP hw hK hc i pins s σ H E I hf st hg
    subst hP hw hK
    obtain ⟨hz, hTI, ⟨x0, y0, hTO⟩, h1, h2⟩ := st
    obtain ⟨xs, ys, hqx, hqy, hend⟩ := hg
    obtain ⟨its, rv, p, _⟩ := seqK I hqx
    obtain ⟨its2, rv2, p2, _⟩ := seqK I hqy
    have l1 : xs.length = its.toArray.size := by rw [List.size_toArray]; exact rv.length
    have l2 : ys.length = its2.toArray.size := by rw [List.size_toArray]; exact rv2.length
    have hh : X.A.in1.handled = none := I.ok.hd hc
    refine wpAny_pyNext_zipD2_end D.sep (drawsK k1 hh i1 a D.ai1 its.toArray) (drawsK k2 hh i2 b D.bi2 its2.toArray) hz hTI hTO ⟨h1, p⟩ ⟨h2, p2⟩ (by omega) (by omega) (by omega) fun h' tk hk => ⟨rfl, I.turnedL (t' := tk) (ch := [z, TI, TO, i1, i2]) (fun c o hb q =>
      hk c o (fun q' => hb (by simp [q'])) (fun q' => hb (by simp [q'])) (fun q' => hb (by simp [q'])) (fun q' => hb (by simp [q'])) q) hf⟩
  self := fun A i s Q E st h => wpAny_pyIter_zip st.1 h
def iZipK (K : PySem.W.Frag) (ta : TA) : TI := fun σ H R => ta σ H fun vs H1 => ∃ k1 k2 a b xs ys, vs = [.ref a, .ref b] ∧ SqK k1 K H1 a xs ∧ SqK k2 K H1 b ys ∧ R (ItzK K k1 k2 a b) H1
theorem pi_zipK {X : Cx} {e e2 : Expr} {ta : TA} {p pos tpos : Pos} {elts : List Expr} {kk : Nat} (hg : Gl X "zip") (hm : X.mg "zip" = none) (ha : PA X [e, e2] ta)
    (hs : starEach [e, e2] X.env = (false, eval e X.env) :: starEach [e2] X.env := by rfl) (hpl : (backTo pos (starEach [e2] X.env)).any (·.1) = false := by rfl) :
    PI X (.Tuple elts kk tpos) (.Call (.Name "zip" p) [e, e2] [] pos) (iZipK X.K ta) := by
  refine ⟨fun pins s σ H R I h => ?_⟩
  refine Call_ (ld_blt I hg hm PyProof.Rows.boot_zip (PyProof.Rows.callWith_type1 (thn (ha.run pos pins s σ H _ I h) fun us s1 ⟨vs, H1, I1, r1, q1⟩ => ?_) hs hpl))
  obtain ⟨k1, k2, a, b, xs, ys, ex, hqx, hqy, q⟩ := q1
  subst ex
  cases r1 with
  | cons r rr =>
    cases rr with
    | cons r' rr =>
      cases rr
      cases r
      cases r'
      have fresh5 : ∀ c, c ∈ [s1.heap.objs.size + 4, s1.heap.objs.size + 2, s1.heap.objs.size + 3, s1.heap.objs.size, s1.heap.objs.size + 1] → FpOk X pins H1 c := fun c hcm => by
        have e' : c = s1.heap.objs.size + 4 ∨ c = s1.heap.objs.size + 2 ∨ c = s1.heap.objs.size + 3 ∨ c = s1.heap.objs.size ∨ c = s1.heap.objs.size + 1 := by simpa using hcm
        have hle : s1.heap.objs.size ≤ c := by
          rcases e' with z | z | z | z | z
          · rw [z]; exact Nat.le_add_right _ _
          · rw [z]; exact Nat.le_add_right _ _
          · rw [z]; exact Nat.le_add_right _ _
          · rw [z]; exact Nat.le_refl _
          · rw [z]; exact Nat.le_add_right _ _
        exact I1.fpOk hle (I1.hok.fresh hle)
      obtain ⟨its, rv, p1, lt1⟩ := seqK I1 hqx
      obtain ⟨its2, rv2, p2, lt2⟩ := seqK I1 hqy
      refine zip_begins2 (beginsK k1 a its.toArray) (beginsK k2 b its2.toArray) p1 p2 fun h' hz hTI hTO h1 h2 hsz hk => wpAny_pyIter_zip hz ?_
      have I2 : Inv X pins σ H1 { s1 with heap := h' } := I1.kept (t' := s1.toks) hk
      have ap := apart_of s1.heap.objs.size a b lt1 lt2
      exact ⟨s1.heap.objs.size + 4, [s1.heap.objs.size + 4, s1.heap.objs.size + 2, s1.heap.objs.size + 3, s1.heap.objs.size, s1.heap.objs.size + 1], _, _, H1, rfl, I2, turn_zipK ap, ⟨hz, hTI, ⟨_, _, hTO⟩, iterK0 h1, iterK0 h2⟩, fresh5, q⟩
/-! ### on plain data -/
section
variable {K : PySem.W.Frag} {W : Wd} {M : Addr → Prop} {H1 : Hp}
/-- a list or a tuple by its items -/
def SeqM (k : Kz) (K : PySem.W.Frag) (M : Addr → Prop) (H : Hp) (a : Addr) (xs : List V) : Prop := match k with
  | .l => LstM K M H a xs
  | .t => TupM K M H a xs
theorem SeqM.sq {k : Kz} {a : Addr} {xs : List V} (h : SeqM k K M H1 a xs) : SqK k K H1 a xs := by
  cases k with
  | l => exact LstM.sq h
  | t => exact TupM.sq h
theorem SeqM.car {k : Kz} {M' : Addr → Prop} {H' : Hp} {a : Addr} {xs : List V} (c : Car M M' H1 H') (h : SeqM k K M H1 a xs) : SeqM k K M' H' a xs := by
  cases k with
  | l => exact LstM.car c h
  | t => exact TupM.car c h
theorem itok_zk {k1 k2 : Kz} {a b : Addr} {xs ys : List V} {ds es : List D} (t : SeqM k1 K M H1 a xs) (r : Reps K M H1 ds xs) (t' : SeqM k2 K M H1 b ys) (r' : Reps K M H1 es ys) : ItOk K W M H1 (ItzK K k1 k2 a b) (zipsD ds es) := fun M2 H2 c m => by
  have u1 := (t.car c).sq
  have u2 := (t'.car c).sq
  refine ⟨fun i hi => ?_, fun i hi hi2 => ⟨xs, ys, u1, u2, ?_⟩, fun i d x H3 hd hy => ?_⟩
  · rw [zips_len] at hi
    obtain ⟨x, hx⟩ := get_lt (xs := xs) (i := i) (by rw [r.len]; omega)
    obtain ⟨y, hy⟩ := get_lt (xs := ys) (i := i) (by rw [r'.len]; omega)
    exact ⟨xs, ys, x, y, u1, u2, hx, hy⟩
  · rw [zips_len] at hi hi2
    rw [r.len, r'.len]
    omega
  · obtain ⟨T, x', y', rfl, hT, rfl, g1, g2⟩ := hy
    obtain ⟨dx, dy, h1, h2, rfl⟩ := zips_get hd
    obtain ⟨v1, hv1, rv1⟩ := r.get h1
    obtain ⟨v2, hv2, rv2⟩ := r'.get h2
    have q1 := g1 xs u1
    have q2 := g2 ys u2
    rw [hv1] at q1
    rw [hv2] at q2
    cases q1
    cases q2
    exact ⟨Full.new hT, m.newT hT (reps_cons (rv1.car c) (reps_cons (rv2.car c) reps_nil))⟩
def zipK : D → D → (List D → Prop) → Prop
  | .lst xs, .lst ys, P => xs.length ≤ 1000000 ∧ P (zipsD xs ys)
  | .tup xs, .tup ys, P => xs.length ≤ 1000000 ∧ P (zipsD xs ys)
  | .lst xs, .tup ys, P => xs.length ≤ 1000000 ∧ P (zipsD xs ys)
  | .tup xs, .lst ys, P => xs.length ≤ 1000000 ∧ P (zipsD xs ys)
  | _, _, _ => False
theorem zipK_of {x y : D} {v u : V} {P : List D → Prop} (h : zipK x y P) (r1 : Rep K M H1 x v) (r2 : Rep K M H1 y u) :
    ∃ k1 k2 a b xs ys ds es, v = .ref a ∧ u = .ref b ∧ SeqM k1 K M H1 a xs ∧ SeqM k2 K M H1 b ys ∧ Reps K M H1 ds xs ∧ Reps K M H1 es ys ∧ ds.length ≤ 1000000 ∧ P (zipsD ds es) := by
  cases x <;> cases y <;> first
    | exact h.elim
    | (obtain ⟨a, vs, rfl, t, q⟩ := r1.lst; obtain ⟨b, us, rfl, t', q'⟩ := r2.lst; exact ⟨.l, .l, a, b, vs, us, _, _, rfl, rfl, t, t', q, q', h.1, h.2⟩)
    | (obtain ⟨a, vs, rfl, t, q⟩ := r1.tup; obtain ⟨b, us, rfl, t', q'⟩ := r2.tup; exact ⟨.t, .t, a, b, vs, us, _, _, rfl, rfl, t, t', q, q', h.1, h.2⟩)
    | (obtain ⟨a, vs, rfl, t, q⟩ := r1.lst; obtain ⟨b, us, rfl, t', q'⟩ := r2.tup; exact ⟨.l, .t, a, b, vs, us, _, _, rfl, rfl, t, t', q, q', h.1, h.2⟩)
    | (obtain ⟨a, vs, rfl, t, q⟩ := r1.tup; obtain ⟨b, us, rfl, t', q'⟩ := r2.lst; exact ⟨.t, .l, a, b, vs, us, _, _, rfl, rfl, t, t', q, q', h.1, h.2⟩)
def wZipK (wa wb : WE) : WI := fun ds P => wa ds fun x => wb ds fun y => zipK x y P
theorem vi_zipK {X : Cx} {e e2 : Expr} {wa wb : WE} {p pos tpos : Pos} {elts : List Expr} {kk : Nat} (hg : Gl X "zip") (hm : X.mg "zip" = none) (ha : VE X W e wa) (hb : VE X W e2 wb)
    (hs : starEach [e, e2] X.env = (false, eval e X.env) :: starEach [e2] X.env := by rfl) (hpl : (backTo pos (starEach [e2] X.env)).any (·.1) = false := by rfl) (hs2 : starEach [e2] X.env = (false, eval e2 X.env) :: starEach [] X.env := by rfl) :
    VI X W (.Tuple elts kk tpos) (.Call (.Name "zip" p) [e, e2] [] pos) (wZipK wa wb) := by
  refine pi_imp (pi_zipK hg hm (pa_cons ha (pa_cons hb pa_nil hs2) hs) hs hpl) fun σ H R h => ?_
  obtain ⟨M0, H0, oa, ds, P, S, hw, k⟩ := h
  refine ⟨M0, H0, oa, ds, _, S, hw, fun x v H1 hx e1 i1 r1 => ?_⟩
  have S1 := S.step e1 i1
  refine ⟨M0, H0, oa, ds, _, S1, hx, fun y u H2 hy e2 i2 r2 => ?_⟩
  have r1' := r1.ext S1.mok e2
  obtain ⟨k1, k2, a, b, xs, ys, es, fs, rfl, rfl, t, t', q, q', hl, hp⟩ := zipK_of hy r1' r2
  exact ⟨k1, k2, a, b, xs, ys, rfl, t.sq, t'.sq, k _ _ H2 hp (by rw [zips_len, sizeLine_eq]; omega) (e1.trans e2) i2 (itok_zk t q t' q')⟩
end
/-! ### [x, ..] * n -/
section
variable {K : PySem.W.Frag} {W : Wd} {X : Cx}
theorem reps_rep {M : Addr → Prop} {H : Hp} {ds : List D} {vs : List V} (r : Reps K M H ds vs) : ∀ n : Nat, Reps K M H (List.replicate n ds).flatten (List.replicate n vs).flatten
  | 0 => reps_nil
  | n + 1 => by
    rw [List.replicate_succ, List.replicate_succ, List.flatten_cons, List.flatten_cons]
    exact r.app (reps_rep r n)
def wRep (l : WL) (wb : WE) : WE := fun ds P => l ds fun xs => xs.length ≤ 1000000 ∧ wb ds fun y => asInt y fun k => -1000000 ≤ k ∧ k ≤ 1000000 ∧ xs.length * k.toNat ≤ 1000000 ∧ P (.lst (List.replicate k.toNat xs).flatten)
theorem ve_rep {es : List Expr} {b : Expr} {l : WL} {wb : WE} {lp pos : Pos} (hl : VA X W es l) (hb : VE X W b wb) : VE X W (.BinOp (.List es lp) .Mult b pos) (wRep l wb) := by
  refine pe_imp (pe_op op_rep (pe_lst hl) hb) fun σ H Q h => ?_
  obtain ⟨M0, H0, oa, ds, P, S, hw, k⟩ := h
  refine ⟨M0, H0, oa, ds, _, S, hw, fun xs vs H1 hx e1 i1 r1 => ⟨by rw [r1.len, sizeLine_eq]; have := hx.1; omega, fun p hp => ?_⟩⟩
  have S1 := S.step e1 i1
  have S2 := S1.full (Full.new (o := .lst vs) hp)
  have nA : ¬ W.A p := fun z => W.live _ _ i1 z hp
  refine ⟨M0, H0, oa, ds, _, S2, hx.2, fun y u H2 hy e2 i2 r2 => ?_⟩
  cases y <;> first | exact hy.elim | skip
  rename_i j
  obtain ⟨h0, h1, h2, hy⟩ := hy
  have hp2 : H2 p = some (.lst vs) := e2 p _ nA upd_same
  have S3 := S2.step e2 i2
  have r3 := ((r1.ext S1.mok (Full.new (o := .lst vs) hp).ext).ext S2.mok e2)
  refine ⟨p, j, vs, rfl, r2.int, hp2, by omega, by omega, by rw [r1.len, sizeLine_eq]; omega, fun q hq => ?_⟩
  exact k _ _ _ hy (((e1.trans (Full.new hp).ext).trans e2).trans (Full.new hq).ext) (W.keep _ _ i2 (Full.new hq)) (S3.mok.newL hq (reps_rep r3 _))
end
section
variable {X : Cx} {W : Wd} {pos : Pos}
/-- a, b, c = e, f, g -/
def wPar3 (i j l : Nat) (wa wb wc : WE) : WS := fun E ds => wa ds fun x => wb ds fun y => wc ds fun z => E.nx (((ds.set i (.d x)).set j (.d y)).set l (.d z))
theorem vs_par3 (i j l : Nat) {x y z : Str} {a b c : Expr} {wa wb wc : WE} {px py pz pt : Pos} {kt k2 pt2} (hc : X.calm = true) (hN : X.N.Nodup) (hij : i ≠ j) (hil : i ≠ l) (hjl : j ≠ l) (ha : VE X W a wa) (hb : VE X W b wb) (hcc : VE X W c wc)
    (hi : X.N[i]? = some x := by rfl) (hj : X.N[j]? = some y := by rfl) (hl : X.N[l]? = some z := by rfl)
    (hx : X.env.scope.names.lookup x = some .local := by rfl) (hy : X.env.scope.names.lookup y = some .local := by rfl) (hz : X.env.scope.names.lookup z = some .local := by rfl)
    (hw : swappedStores [.Tuple [.Name x px, .Name y py, .Name z pz] kt pt] (.Tuple [a, b, c] k2 pt2) X.env = pure (some [x, y, z]) := by rfl)
    (hs : swapsWithSole [.Tuple [.Name x px, .Name y py, .Name z pz] kt pt] (.Tuple [a, b, c] k2 pt2) pos.line X.env = pure false := by rfl)
    (hs1 : starEach [a, b, c] X.env = (false, eval a X.env) :: starEach [b, c] X.env := by rfl) (hs2 : starEach [b, c] X.env = (false, eval b X.env) :: starEach [c] X.env := by rfl) (hs3 : starEach [c] X.env = (false, eval c X.env) :: starEach [] X.env := by rfl) :
    VS X W (.Assign [.Tuple [.Name x px, .Name y py, .Name z pz] kt pt] (.Tuple [a, b, c] k2 pt2) pos) (wPar3 i j l wa wb wc) := by
  refine ps_imp (ps_par3 hc hN hi hj hl hij hil hjl hx hy hz (pa_cons ha (pa_cons hb (pa_cons hcc pa_nil hs3) hs2) hs1) hw hs) fun D σ H h => ?_
  obtain ⟨M0, H0, oa, ds, E, S, hw, k1, k2, k3, k4⟩ := h
  refine ⟨M0, H0, oa, ds, _, S, hw, fun d v H1 hd e1 i1 r1 => ?_⟩
  have S1 := S.step e1 i1
  refine ⟨M0, H0, oa, ds, _, S1, hd, fun d2 v2 H2 hd2 e2 i2 r2 => ?_⟩
  have S2 := S1.step e2 i2
  refine ⟨M0, H0, oa, ds, _, S2, hd2, fun d3 v3 H3 hd3 e3 i3 r3 => ?_⟩
  have S3 := S2.step e3 i3
  have S4 := S3.set (i := i) ((r1.ext S1.mok e2).ext S2.mok e3)
  have S5 := S4.set (i := j) ((r2.ext S2.mok e3).car car_del)
  exact ⟨v, v2, v3, rfl, k1 _ _ _ _ hd3 (S5.set (i := l) ((r3.car car_del).car car_del))⟩
end
end VL

set_option Elab.async false
set_option linter.all false
set_option maxRecDepth 100000
set_option maxHeartbeats 2000000
/-! VI: own classes, their instances as data; what a def may raise. -/
namespace PySem.W
open PySem PySem.Calls PyProof.Rows Builtin
section
variable {prog : Program} {w : World} {A : Around} {E : Value → Shared → Prop} {s : Shared} {K : Frag} {x C C' L f f' : Addr} {h₀ : Heap} {m : Str → Option Value} {ox : Obj} {od : Option Obj} {b tb : Value}
theorem vi_bound {M : Model} {name : Str} {id : String} {args : List Value} {Q : Option Value → Shared → Prop} (X : K.In s.heap) (I : InstAt s.heap x ox C od) (hs : findIn K (.ref C) name = some (some (.builtin id)))
    (hb : ∀ self, bindSpecial (.builtin id) self = pure (.builtin id, [self])) (h : wpAny M A (call (.builtin id) (.ref x :: args)) (fun v => Q (some v)) E s) : wpAny M A (callSpecialIfBound? (.ref x) name args) Q E s := by
  simp only [callSpecialIfBound?, bindSpecialIfBound?]
  refine wpAny_holding (wpAny_bind (wpAny_bind (wpAny_bind (I.type.here ((looks_findIn X hs).here ?_)))))
  simp only [hb]
  refine wpAny_bind (wpAny_askSetting (wpAny_ite ?_))
  have fin : wpAny M A (call (.builtin id) ([.ref x] ++ args) >>= fun v => pure (some v)) Q E s := wpAny_bind (wpAny_mono h (fun v s' h' => wpAny_pure h') fun _ _ h' => h')
  split
  · exact wpAny_bind (wpAny_pure (wpAny_pure (by exact fin)))
  · exact wpAny_tryCatch (wpAny_bind (wpAny_pure (wpAny_pure (by exact fin))))
theorem vi_ne {Q : Value → Shared → Prop} (hu : A.units + 1 < cLine) (F : Fr h₀ L s.heap m) (X₀ : K.In h₀) (I : InstAt s.heap x ox C od) (hb : Looks (model prog w) s.heap (typeOf b) tb) (hn : notFirst K C tb = true)
    (hne : findIn K (.ref C) "__ne__" = some (some (.builtin "object.__ne__"))) (he : findIn K (.ref C) "__eq__" = some (some (.ref f))) (hf : isFn K (.ref f) = true) (hm : mroIn K C (.type "object") = some true)
    (h : wpAny (model prog w) A.in1 (call (.ref f) [.ref x, b]) (fun v s' => ∃ c, v = .bool c ∧ Q (.bool (!c)) s') E s) : wpAny (model prog w) A (richCompare .NotEq (.ref x) b) Q E s := by
  have X := X₀.keeps F.keep
  have one : wpAny (model prog w) A (tryCompare (.ref x) "__ne__" b) (fun r s' => ∃ v, r = some v ∧ Q v s') E s := by
    unfold tryCompare
    refine wpAny_bind (vi_bound X I hne PySem.F.cmp_object.ne.bind (wpAny_call (codeAny_call_builtin PySem.F.cmp_object.ne.plain PySem.F.cmpEntry_ne
      (check_slot (i := "object.__ne__") (owner := "object") (n := "__ne__") PySem.F.cmpKind_ne PySem.F.cmpSplit_ne (I.type.andThen (looks_mroIn X hm)) (PySem.F.cmpArgs_ne _ _) ?_))))
    unfold Builtin.«object.__ne__»
    refine wpAny_bind (m := slotArgs "__ne__" 1 _) (wpAny_pure ?_)
    refine wpAny_bind (m := cRoomFor _ _) (wpAny_cRoomFor (by exact hu) ?_)
    refine wpAny_bind (m := callSpecialIfBound? (.ref x) (Str.ofString "__eq__") _) (ifBound_K X I he hf (wpAny_mono h (fun r s' hq => ?_) fun _ _ y => y))
    obtain ⟨c, rfl, hq⟩ := hq
    refine wpAny_bind (m := truthy (.bool c)) (wpAny_truthy_bool ?_)
    first
      | exact wpAny_pure (wpAny_pure ⟨_, rfl, hq⟩)
      | exact wpAny_pure ⟨_, rfl, hq⟩
  unfold richCompare
  simp only [oneThing_ref]
  refine wpAny_holding (wpAny_bind (wpAny_cRoomFor (Nat.lt_of_succ_lt hu) ?_))
  rw [cmpInfo_NotEq]
  dsimp only
  refine wpAny_bind (I.type.here (wpAny_bind (hb.here ?_)))
  split
  · rename_i q
    have e : subIn K tb (.ref C) = some false := by
      rcases Bool.or_eq_true_iff.mp hn with e | e
      · rw [beq_iff_eq.mp e] at q; simp at q
      · exact beq_iff_eq.mp e
    refine wpAny_bind ((looks_subIn X e).here ?_)
    simp only [Bool.false_eq_true, if_false]
    refine wpAny_bind (wpAny_mono one (fun r s' z => ?_) fun _ _ e => e)
    obtain ⟨v, rfl, hq⟩ := z
    exact wpAny_pure hq
  · refine wpAny_bind (wpAny_pure ?_)
    simp only [Bool.false_eq_true, if_false]
    refine wpAny_bind (wpAny_mono one (fun r s' z => ?_) fun _ _ e => e)
    obtain ⟨v, rfl, hq⟩ := z
    exact wpAny_pure hq
/-- two instances of two classes, neither below the other, each with a def for the operator -/
theorem vi_bin2 {op : Operator} {b : Addr} {rc rc' : Option Value} {Q : Value → Shared → Prop} {ox' : Obj} {od' : Option Obj} (F : Fr h₀ L s.heap m) (X₀ : K.In h₀) (I : InstAt s.heap x ox C od) (I' : InstAt s.heap b ox' C' od') (hne : C ≠ C') (hc : selfFirst K C = true) (hc' : selfFirst K C' = true)
    (hs : findIn K (.ref C) (PySem.dunder op.info.2) = some (some (.ref f))) (hf : isFn K (.ref f) = true) (hr : findIn K (.ref C) (dunderR op.info.2) = some rc) (hp : rc = none ∨ ∃ g : Addr, rc = some (.ref g))
    (hs' : findIn K (.ref C') (PySem.dunder op.info.2) = some (some (.ref f'))) (hr' : findIn K (.ref C') (dunderR op.info.2) = some rc') (hp' : rc' = none ∨ ∃ g : Addr, rc' = some (.ref g)) (hsub : subIn K (.ref C') (.ref C) = some false)
    (h : wpAny (model prog w) A (call (.ref f) [.ref x, .ref b]) (CmpBack Q) E s) : wpAny (model prog w) A (binaryOp op (.ref x) (.ref b)) Q E s := by
  have X := X₀.keeps F.keep
  obtain ⟨cd, rest, hcd, hm⟩ := ksp_first hc
  obtain ⟨cd', rest', hcd', hm'⟩ := ksp_first hc'
  rcases hi : op.info with ⟨sym, nm'⟩
  rw [hi] at hs hr hs' hr'
  dsimp only at hs hr hs' hr'
  have one := ksp_try X I hs hf h
  obtain ⟨hh, g, d, tt, os⟩ := s
  have L1 : Looks (model prog w) hh (typeOf (.ref x)) (.ref C) := I.type
  have L2 : Looks (model prog w) hh (typeOf (.ref b)) (.ref C') := I'.type
  have L3 : Looks (model prog w) hh (fillsNumberSlot (.ref C) nm') true := fills_K X hcd hm hs
  have L4 : Looks (model prog w) hh (fillsNumberSlot (.ref C') nm') true := fills_K X hcd' hm' hs'
  have L5 : Looks (model prog w) hh (isSubtype (.ref C') (.ref C)) false := looks_subIn X hsub
  have L6 : Looks (model prog w) hh (numberSlotInPython (.ref C) nm') true := ksp_inPy X hs hr hp
  have L7 : Looks (model prog w) hh (numberSlotInPython (.ref C') nm') true := ksp_inPy X hs' hr' hp'
  have hne' : (Value.ref C == Value.ref C') = false := Bool.eq_false_iff.mpr fun q => by cases beq_iff_eq.mp q; exact hne rfl
  simp only [binaryOp, hi]
  refine wpAny_holding (wpAny_bind ?_)
  unfold binaryOp1
  refine wpAny_bind (L1.at (wpAny_bind (L2.at (wpAny_bind (L3.at ?_)))))
  simp only [hne', Bool.false_eq_true, if_false]
  ksp_lk
  refine wpAny_mono one (fun r s' hr' => ?_) fun _ _ e => e
  obtain ⟨v, rfl, hq⟩ := hr'
  ksp_lk
  exact hq
end
end PySem.W
namespace VL
open PySem PySem.Spec PyProof.Rows L2
/-! ### what is raised -/
/-- what a def's run may raise, seen from where it began -/
def XW (K : PySem.W.Frag) (W : Wd) (PX : D → Prop) : WX := fun cls d _ H' => ∃ C fs ds us dd, cls = .ref C ∧ d = some dd ∧ PX (.ins C fs ds) ∧ Ext W W.Hf H' ∧ W.I H' ∧ Reps K W.Mf H' ds us ∧ us.length = fs.length ∧ H' dd = some (.xd (fs.zip us))
/-- what a call may raise, seen from the call -/
def XC (K : PySem.W.Frag) (W : Wd) (M : Addr → Prop) (H : Hp) (PX : D → Prop) : XK := fun cls d H' => ∃ C fs ds us dd, cls = .ref C ∧ d = some dd ∧ PX (.ins C fs ds) ∧ Ext W H H' ∧ W.I H' ∧ Reps K M H' ds us ∧ us.length = fs.length ∧ H' dd = some (.xd (fs.zip us))
theorem takes0 {X : Cx} {W : Wd} : Takes X (XW X.K W fun _ => False) := (takes_none5 (X := X)).imp fun _ _ _ _ ⟨_, _, _, _, _, _, _, z, _⟩ => z.elim
def EX (K : PySem.W.Frag) (W : Wd) (PX : D → Prop) : XK := fun cls d H' => XW K W PX cls d [] H'
theorem passesX {X : Cx} {W : Wd} {PX : D → Prop} (tk : Takes X (XW X.K W PX)) : Passes (L2.CX X.prog X.w) X (EX X.K W PX) := passes_call tk fun _ _ _ _ h => h
section
variable {K : PySem.W.Frag} {W : Wd} {M0 : Addr → Prop} {H0 H H' : Hp} {oa : Nat → Option Addr} {σ : L2.St} {ds : List Sl} {PX : D → Prop}
theorem Sat.xc (S : Sat K W M0 H0 oa H σ ds) {cls : Value} {d : Option Addr} (h : XC K W (Mx M0 oa) H PX cls d H') : EX K W PX cls d H' := by
  obtain ⟨C, fs, xs, us, dd, e1, e2, hp, e, i, r, l, hd⟩ := h
  exact ⟨C, fs, xs, us, dd, e1, e2, hp, S.fh.trans (S.ext.trans e), i, r.car fun b o n q => ⟨fun z => n (.inl (S.fm b z)), q⟩, l, hd⟩
end
/-- a promise by data, with what may be raised -/
def spX (K : PySem.W.Frag) (W : Wd) (g : List D → (D → Prop) → (D → Prop) → Prop) : Sp := fun vs H Q E => ∃ M ds P PX, MOk W M H ∧ Reps K M H ds vs ∧ g ds P PX ∧ (∀ d v H', P d → Ext W H H' → W.I H' → Rep K M H' d v → Q v H') ∧ ∀ cls d H', XC K W M H PX cls d H' → E cls d H'
/-- the world of a run that may raise -/
def Wd.fx (W : Wd) (M : Addr → Prop) (H : Hp) : Wd := { A := W.A, I := W.I, live := W.live, nx := W.nx, B := W.B, liveB := W.liveB, C := W.C, cb := W.cb, stay := W.stay, Mf := M, Hf := H }
/-- THE RULE for a def that may raise -/
theorem vfnX {P : Program} {w : World} {K : PySem.W.Frag} {mg : Str → Option Value} {base : Heap} {W : Wd} {x qual : Str} {st : Stmt} {f : Addr} {fd : FuncData} {N ps : List Str} {k : Nat} {g : List D → (D → Prop) → (D → Prop) → Prop} (F : Fun K x qual st f fd) (S : FnScope N ps (defScope st))
    (len : ∀ ds P PX, g ds P PX → ds.length = ps.length)
    (hb : ∃ wb : (D → Prop) → WS, (∀ (PX : D → Prop) (Mf : Addr → Prop) (Hf : Hp) (cdv : Value) (A : Around) (outer : List Env) (s : Shared) (H : Hp) (E : XK), Room k (A.deeper (envOfC qual (defScope st) s.heap.objs.size f cdv)) →
        Takes (cxOf (L2.CX P w) P w K mg base N qual (defScope st) f cdv A outer s H E) (XW K (W.fx Mf Hf) PX) → VSs (cxOf (L2.CX P w) P w K mg base N qual (defScope st) f cdv A outer s H E) (W.fx Mf Hf) (defBody st) (wb PX)) ∧
      ∀ ds Q PX, g ds Q PX → wb PX (endsD Q) (startD N ds)) : FnOk P w K mg base (L2.CX P w) (k + 1) f fd ps (spX K W g) := by
  obtain ⟨wb, h1, h2⟩ := hb
  refine F.okX S (fun vs H Q E h => ?_) (fun cdv A outer s H vs Q E hr h => ?_)
  · obtain ⟨M, ds, P, PX, m, r, hg, _⟩ := h
    rw [r.len, len ds P PX hg]
  · obtain ⟨M, ds, P', PX, m, r, hg, k, kx⟩ := h
    have hl : ds.length ≤ N.length := by
      have q := congrArg List.length S.pre
      rw [List.length_take] at q
      rw [len ds P' PX hg]
      omega
    refine ⟨LS K (W.fx M H) (wb PX), h1 PX M H cdv A outer s H E hr ((takes_of (E := E) rfl rfl rfl rfl).imp fun cls d σ H' hx => kx cls d H' hx), ?_⟩
    refine ⟨M, H, fun _ => none, startD N ds, endsD P', sat_start (W := W.fx M H) ⟨m.wm, m.live, m.wi, m.nb, m.nx⟩ r hl (fun _ z => z) (fun _ _ _ z => z), h2 ds P' PX hg, fun ds' oa' σ' H' hn S' => ?_, fun d v H' hd e i r' => k d v H' hd e i r', fun _ _ _ _ z => z.elim, fun _ _ _ _ z => z.elim⟩
    exact k .non .non H' hn S'.ext S'.wi rep_non
section
variable {X : Cx} {W : Wd} {e o : Expr} {es : List Expr} {pos p apos : Pos} {x : Str} {k : Nat} {f : Addr} {fd : FuncData} {ps : List Str} {dvs : List V} {dds : List D} {PX : D → Prop}
/-- f(..), f may raise -/
def wCallX (f : List D → (D → Prop) → (D → Prop) → Prop) (PX : D → Prop) (l : WL) : WE := fun ds P => l ds fun xs => f xs P PX
theorem ve_callX {g : List D → (D → Prop) → (D → Prop) → Prop} {l : WL} (F : FnOk X.prog X.w X.K X.mg X.base (L2.CX X.prog X.w) k f fd ps (spX X.K W g)) (hr : Room k X.A) (hg : Gl X x) (hm : X.mg x = some (.ref f)) (hk : PySem.W.keepIn X.K (.ref f) = true)
    (hb : ∃ ds, Vals dvs ds ∧ Binds X.K fd ps ds) (tk : Takes X (XW X.K W PX)) (hdd : ∀ M H, Reps X.K M H dds dvs) (ha : VA X W (e :: es) l) (hdb : (x == ("__debug__" : Str)) = false := by decide) (he : starEach (e :: es) X.env = (false, eval e X.env) :: starEach es X.env := by rfl)
    (hpl : (backTo pos (starEach es X.env)).any (·.1) = false := by rfl) : VE X W (.Call (.Name x p) (e :: es) [] pos) (wCallX (fun xs P PX => g (xs ++ dds) P PX) PX l) := by
  obtain ⟨ds0, hd, hb⟩ := hb
  refine pe_imp (pe_call F hr hg hm hk hb hd (passesX tk) ha hdb he hpl) fun σ H Q h => ?_
  obtain ⟨M0, H0, oa, ds, P, S, hw, kk⟩ := h
  refine ⟨M0, H0, oa, ds, _, S, hw, fun xs vs H1 hx e1 i1 r1 => ?_⟩
  have S1 := S.step e1 i1
  exact ⟨Mx M0 oa, xs ++ dds, P, PX, S1.mok, r1.app (hdd _ _), hx, fun d v H' hp e i r => kk d v H' hp (e1.trans e) i r, fun cls d H' h => S1.xc h⟩
end
/-! ### fields -/
section
variable {K : PySem.W.Frag} {M : Addr → Prop} {H : Hp}
theorem lkp_fs {f : Str} : ∀ {ks : List Str} {ds : List D} {us : List V}, Reps K M H ds us → us.length = ks.length → (∀ d, lkp ks ds f = some d → ∃ v, (ks.zip us).lookup f = some v ∧ Rep K M H d v) ∧ (lkp ks ds f = none → (ks.zip us).lookup f = none)
  | [], ds, us, r, l => ⟨fun d h => (by cases ds <;> cases h), fun _ => rfl⟩
  | k :: ks, [], us, r, l => by rw [r.inv0] at l; cases l
  | k :: ks, d :: ds, us, r, l => by
    obtain ⟨v, vs, rfl, h1, h2⟩ := r.inv
    obtain ⟨a1, a2⟩ := lkp_fs (f := f) h2 (by simpa using l)
    have e : ((k :: ks).zip (v :: vs)).lookup f = if f = k then some v else (ks.zip vs).lookup f := L2.lookup_put k f v _
    have e2 : lkp (k :: ks) (d :: ds) f = if k = f then some d else lkp ks ds f := rfl
    rw [e, e2]
    by_cases q : k = f
    · rw [if_pos q, if_pos q.symm]
      exact ⟨fun z hz => by cases hz; exact ⟨v, rfl, h1⟩, fun z => by cases z⟩
    · rw [if_neg q, if_neg (fun z => q z.symm)]
      exact ⟨a1, a2⟩
theorem putF_fs {f : Str} {d : D} {v : V} (rv : Rep K M H d v) : ∀ {ks : List Str} {ds : List D} {us : List V}, Reps K M H ds us → us.length = ks.length → f ∉ ks → putF f v (ks.zip us) = (ks ++ [f]).zip (us ++ [v]) ∧ Reps K M H (ds ++ [d]) (us ++ [v])
  | [], ds, us, r, l, n => by
    have : us = [] := by cases us with
      | nil => rfl
      | cons a b => cases l
    subst this
    exact ⟨rfl, r.app (reps_cons rv reps_nil)⟩
  | k :: ks, [], us, r, l, n => by rw [r.inv0] at l; cases l
  | k :: ks, d' :: ds, us, r, l, n => by
    obtain ⟨u, vs, rfl, h1, h2⟩ := r.inv
    have nk : ¬ k = f := fun z => n (by rw [z]; exact List.mem_cons_self)
    obtain ⟨a1, a2⟩ := putF_fs rv h2 (by simpa using l) (fun z => n (List.mem_cons_of_mem _ z))
    refine ⟨?_, reps_cons h1 a2⟩
    show (if k = f then _ else (k, u) :: putF f v (ks.zip vs)) = (k, u) :: (ks ++ [f]).zip (vs ++ [v])
    rw [if_neg nk, a1]
end
section
variable {X : Cx} {W : Wd} {e o : Expr} {es : List Expr} {pos pos' p apos : Pos}
/-- e.f, e an instance of one of the classes cs -/
def fldD (f : Str) (cs : List Addr) : D → (D → Prop) → Prop
  | .ins C ks xs, P => C ∈ cs ∧ ∃ d, lkp ks xs f = some d ∧ P d
  | _, _ => False
theorem ve_fld (cs : List Addr) {f : Str} {w : WE} (hc : ∀ C ∈ cs, Cls X.K C ∧ NoAttr X.K C f) (he : VE X W e w) (hb : attributeBase e f X.env (eval e X.env) = eval e X.env := by rfl) : VE X W (.Attribute e f pos) (fun ds P => w ds fun x => fldD f cs x P) := by
  refine pe_imp (pe_fld he hb) fun σ H Q h => ?_
  obtain ⟨M0, H0, oa, ds, P, S, hw, k⟩ := h
  refine ⟨M0, H0, oa, ds, _, S, hw, fun x v H1 hx e1 i1 r1 => ?_⟩
  cases x <;> first | exact hx.elim | skip
  rename_i C ks xs
  obtain ⟨hC, d, hl, hp⟩ := hx
  obtain ⟨a, dx, us, rfl, nm, l, t, r⟩ := r1.ins
  obtain ⟨z, hz, rz⟩ := (lkp_fs (f := f) r l).1 d hl
  exact ⟨a, C, dx, _, z, rfl, t, (hc C hC).1, (hc C hC).2, hz, k d z H1 hp e1 i1 rz⟩
/-- e.F, F a constant of the class -/
def conD (f : Str) (tab : List (Addr × D)) : D → (D → Prop) → Prop
  | .ins C ks xs, P => ∃ d, (C, d) ∈ tab ∧ lkp ks xs f = none ∧ P d
  | _, _ => False
theorem ve_con (tab : List (Addr × D)) {f : Str} {w : WE} (hc : ∀ q ∈ tab, Cls X.K q.1 ∧ ∃ v u, Con X.K q.1 f v u ∧ Flat X.K q.2 v) (he : VE X W e w) (hb : attributeBase e f X.env (eval e X.env) = eval e X.env := by rfl) : VE X W (.Attribute e f pos) (fun ds P => w ds fun x => conD f tab x P) := by
  refine pe_imp (pe_con he hb) fun σ H Q h => ?_
  obtain ⟨M0, H0, oa, ds, P, S, hw, k⟩ := h
  refine ⟨M0, H0, oa, ds, _, S, hw, fun x v H1 hx e1 i1 r1 => ?_⟩
  cases x <;> first | exact hx.elim | skip
  rename_i C ks xs
  obtain ⟨d, hC, hl, hp⟩ := hx
  obtain ⟨a, dx, us, rfl, nm, l, t, r⟩ := r1.ins
  have hz := (lkp_fs (f := f) r l).2 hl
  obtain ⟨h1, z, u, h2, h3⟩ := hc (C, d) hC
  exact ⟨a, C, dx, _, z, u, rfl, t, h1, h2, hz, k d z H1 hp e1 i1 (h3 _ _)⟩
/-! ### methods -/
def insD (cs : List Addr) (m : Str) : D → (D → Prop) → Prop
  | .ins C ks xs, P => C ∈ cs ∧ lkp ks xs m = none ∧ P (.ins C ks xs)
  | _, _ => False
theorem insD_of {cs : List Addr} {m : Str} {x : D} {P : D → Prop} (h : insD cs m x P) : ∃ C ks xs, x = .ins C ks xs ∧ C ∈ cs ∧ lkp ks xs m = none ∧ P (.ins C ks xs) := by
  cases x <;> first | exact h.elim | exact ⟨_, _, _, rfl, h.1, h.2.1, h.2.2⟩
section
variable {CX : CXT} {k : Nat} {f : Addr} {fd : FuncData} {ps : List Str} {sp : Sp} {dvs : List V} {dds : List D} {ds0 : List Value} {E : XK} {m : Str} {ta : TE} {t : TA} {cs : List Addr}
def tMethC (cs : List Addr) (m : Str) (sp : Sp) (dvs : List V) (E : XK) (ta : TE) (t : TA) : TE := fun σ H Q => ta σ H fun x H1 => ∃ a C dx fs, x = .ref a ∧ C ∈ cs ∧ H1 a = some (.ins C dx fs) ∧ fs.lookup m = none ∧ t σ H1 fun vs H2 => sp (x :: (vs ++ dvs)) H2 Q E
theorem pe_methC {pl : Sem Bool} (he : PE X o ta) (hc : ∀ C ∈ cs, Cls X.K C ∧ Meth X.K C m f) (F : FnOk X.prog X.w X.K X.mg X.base CX k f fd ps sp) (hr : Room k X.A) (hb : Binds X.K fd ps ds0) (hd : Vals dvs ds0) (hx : Passes CX X E) (ha : PA X (e :: es) t)
    (hst : starEach (e :: es) X.env = (false, eval e X.env) :: starEach es X.env := by rfl) (hpl : (backTo pos (starEach es X.env)).any (·.1) = false := by rfl)
    (ht : eval (.Call (.Attribute o m apos) (e :: es) [] pos) X.env = (do
      let ov ← eval o X.env
      standAt apos.atName
      let (f, first) ← holding [ov] (getMethod ov m pl)
      callWith pos f first (backTo pos (starEach (e :: es) X.env)) (backToKw pos (keywordEach [] X.env))) := by rfl) :
    PE X (.Call (.Attribute o m apos) (e :: es) [] pos) (tMethC cs m sp dvs E ta t) := by
  refine ⟨fun pins s σ H Q I h => ?_⟩
  refine PySem.W.methodCall_KW (pl := pl) (thn (he.run pins s σ H _ I h) fun u s1 ⟨x, H1, I1, rx, a, C, dx, fs, ex, hC, ea, l, q⟩ => ?_) ht
  subst ex
  obtain rfl : u = Value.ref a := rx
  obtain ⟨c, hm⟩ := hc C hC
  refine getmeth_ok I1 ea c hm l ?_
  refine PySem.W.callWith_K (first := [.ref a]) (h₀ := X.base) I.ok.mod.kin hm.kp (thn (ha.run pos pins s1 σ H1 _ I1 q) fun us s2 ⟨vs, H2, I2, r, q2⟩ => ⟨I2.kIn, ?_⟩) hst hpl
  exact run_fn (us := .ref a :: us) (vs := .ref a :: vs) F hr hb hd hx I2 (.cons rfl r) q2
theorem pe_methC0 {pl : Sem Bool} (he : PE X o ta) (hc : ∀ C ∈ cs, Cls X.K C ∧ Meth X.K C m f) (F : FnOk X.prog X.w X.K X.mg X.base CX k f fd ps sp) (hr : Room k X.A) (hb : Binds X.K fd ps ds0) (hd : Vals dvs ds0) (hx : Passes CX X E)
    (ht : eval (.Call (.Attribute o m apos) [] [] pos) X.env = (do
      let ov ← eval o X.env
      standAt apos.atName
      let (f, first) ← holding [ov] (getMethod ov m pl)
      callWith pos f first (backTo pos (starEach [] X.env)) (backToKw pos (keywordEach [] X.env))) := by rfl) :
    PE X (.Call (.Attribute o m apos) [] [] pos) (tMethC cs m sp dvs E ta tNil) := by
  refine ⟨fun pins s σ H Q I h => ?_⟩
  refine PySem.W.methodCall_KW (pl := pl) (thn (he.run pins s σ H _ I h) fun u s1 ⟨x, H1, I1, rx, a, C, dx, fs, ex, hC, ea, l, q⟩ => ?_) ht
  subst ex
  obtain rfl : u = Value.ref a := rx
  obtain ⟨c, hm⟩ := hc C hC
  refine getmeth_ok I1 ea c hm l ?_
  exact PySem.W.callWith_K0 (first := [.ref a]) I1.kIn hm.kp (run_fn (us := [.ref a]) (vs := [.ref a]) F hr hb hd hx I1 (.cons rfl .nil) q)
/-- o.m(e, ..) -/
def wMeth (cs : List Addr) (m : Str) (g : List D → (D → Prop) → (D → Prop) → Prop) (PX : D → Prop) (w : WE) (l : WL) : WE := fun ds P => w ds fun x => insD cs m x fun x => l ds fun xs => g (x :: xs) P PX
theorem ve_methX (cs : List Addr) {pl : Sem Bool} {PX : D → Prop} {g : List D → (D → Prop) → (D → Prop) → Prop} {w : WE} {l : WL} (he : VE X W o w) (hc : ∀ C ∈ cs, Cls X.K C ∧ Meth X.K C m f) (F : FnOk X.prog X.w X.K X.mg X.base (L2.CX X.prog X.w) k f fd ps (spX X.K W g)) (hr : Room k X.A)
    (hb : ∃ ds, Vals dvs ds ∧ Binds X.K fd ps ds) (tk : Takes X (XW X.K W PX)) (hdd : ∀ M H, Reps X.K M H dds dvs) (ha : VA X W (e :: es) l)
    (hst : starEach (e :: es) X.env = (false, eval e X.env) :: starEach es X.env := by rfl) (hpl : (backTo pos (starEach es X.env)).any (·.1) = false := by rfl)
    (ht : eval (.Call (.Attribute o m apos) (e :: es) [] pos) X.env = (do
      let ov ← eval o X.env
      standAt apos.atName
      let (f, first) ← holding [ov] (getMethod ov m pl)
      callWith pos f first (backTo pos (starEach (e :: es) X.env)) (backToKw pos (keywordEach [] X.env))) := by rfl) :
    VE X W (.Call (.Attribute o m apos) (e :: es) [] pos) (wMeth cs m (fun xs P PX => g (xs ++ dds) P PX) PX w l) := by
  obtain ⟨ds0, hd, hb⟩ := hb
  refine pe_imp (pe_methC (cs := cs) he hc F hr hb hd (passesX tk) ha hst hpl ht) fun σ H Q h => ?_
  obtain ⟨M0, H0, oa, ds, P, S, hw, kk⟩ := h
  refine ⟨M0, H0, oa, ds, _, S, hw, fun x v H1 hx e1 i1 r1 => ?_⟩
  obtain ⟨C, ks, ys, rfl, hC, hl, hx⟩ := insD_of hx
  have S1 := S.step e1 i1
  have r1' := r1
  obtain ⟨a, dx, us, rfl, nm, l0, t0, r⟩ := r1'.ins
  refine ⟨a, C, dx, _, rfl, hC, t0, (lkp_fs (f := m) r l0).2 hl, M0, H0, oa, ds, _, S1, hx, fun xs vs H2 hx2 e2 i2 r2 => ?_⟩
  have S2 := S1.step e2 i2
  exact ⟨Mx M0 oa, (.ins C ks ys :: xs) ++ dds, P, PX, S2.mok, (reps_cons (r1.ext S1.mok e2) r2).app (hdd _ _), hx2, fun d v H' hp e i r => kk d v H' hp ((e1.trans e2).trans e) i r, fun cls d H' h => S2.xc h⟩
theorem ve_methX0 (cs : List Addr) {pl : Sem Bool} {PX : D → Prop} {g : List D → (D → Prop) → (D → Prop) → Prop} {w : WE} (he : VE X W o w) (hc : ∀ C ∈ cs, Cls X.K C ∧ Meth X.K C m f) (F : FnOk X.prog X.w X.K X.mg X.base (L2.CX X.prog X.w) k f fd ps (spX X.K W g)) (hr : Room k X.A)
    (hb : ∃ ds, Vals dvs ds ∧ Binds X.K fd ps ds) (tk : Takes X (XW X.K W PX)) (hdd : ∀ M H, Reps X.K M H dds dvs)
    (ht : eval (.Call (.Attribute o m apos) [] [] pos) X.env = (do
      let ov ← eval o X.env
      standAt apos.atName
      let (f, first) ← holding [ov] (getMethod ov m pl)
      callWith pos f first (backTo pos (starEach [] X.env)) (backToKw pos (keywordEach [] X.env))) := by rfl) :
    VE X W (.Call (.Attribute o m apos) [] [] pos) (fun ds P => w ds fun x => insD cs m x fun x => g (x :: dds) P PX) := by
  obtain ⟨ds0, hd, hb⟩ := hb
  refine pe_imp (pe_methC0 (cs := cs) he hc F hr hb hd (passesX tk) ht) fun σ H Q h => ?_
  obtain ⟨M0, H0, oa, ds, P, S, hw, kk⟩ := h
  refine ⟨M0, H0, oa, ds, _, S, hw, fun x v H1 hx e1 i1 r1 => ?_⟩
  obtain ⟨C, ks, ys, rfl, hC, hl, hx⟩ := insD_of hx
  have S1 := S.step e1 i1
  have r1' := r1
  obtain ⟨a, dx, us, rfl, nm, l0, t0, r⟩ := r1'.ins
  refine ⟨a, C, dx, _, rfl, hC, t0, (lkp_fs (f := m) r l0).2 hl, ?_⟩
  show spX X.K W g (.ref a :: ([] ++ dvs)) H1 Q _
  exact ⟨Mx M0 oa, .ins C ks ys :: dds, P, PX, S1.mok, reps_cons r1 (hdd _ _), hx, fun d v H' hp e i r => kk d v H' hp (e1.trans e) i r, fun cls d H' h => S1.xc h⟩
/-- e.f, a property -/
theorem ve_prop (cs : List Addr) {g : List D → (D → Prop) → Prop} {w : WE} {pf : Str} {pa : Addr} (he : VE X W e w) (hc : ∀ C ∈ cs, Cls X.K C ∧ PropOf X.K C pf pa f) (F : FnOk X.prog X.w X.K X.mg X.base CX0 k f fd ps (spD X.K W g)) (hr : Room (k + 1) X.A) (hb : Binds X.K fd ps [])
    (hab : attributeBase e pf X.env (eval e X.env) = eval e X.env := by rfl) : VE X W (.Attribute e pf pos) (fun ds P => w ds fun x => insD cs pf x fun x => g [x] P) := by
  refine ⟨fun pins s σ H Q I h => ?_⟩
  obtain ⟨M0, H0, oa, ds, P, S, hw, kk⟩ := h
  refine attr_of hab (thn (he.run pins s σ H (fun v H1 => ∃ x, insD cs pf x (fun x => g [x] P) ∧ Ext W H H1 ∧ W.I H1 ∧ Rep X.K (Mx M0 oa) H1 x v) I ⟨M0, H0, oa, ds, _, S, hw, fun x v H1 hx e1 i1 r1 => ⟨x, hx, e1, i1, r1⟩⟩) fun u s1 ⟨v, H1, I1, rx, x, hx, e1, i1, r1⟩ => ?_)
  obtain ⟨C, ks, ys, rfl, hC, hl, hx⟩ := insD_of hx
  have S1 := S.step e1 i1
  have r1' := r1
  obtain ⟨a, dx, us, rfl, nm, l0, t0, r⟩ := r1'.ins
  obtain rfl : u = Value.ref a := rx
  obtain ⟨c, hp⟩ := hc C hC
  refine getprop_ok (E := fun _ _ _ => False) I1 t0 c hp F hr hb .nil (fun _ _ _ _ _ _ _ z => z) ⟨Mx M0 oa, [.ins C ks ys], P, S1.mok, reps_cons r1 reps_nil, hx, fun d v H' hp e i r => kk d v H' hp (e1.trans e) i r⟩
end
end
end VL
/-! ### making an instance -/
namespace VL
open PySem PySem.Spec PyProof.Rows L2
/-- an __init__'s promise by data: which fields it leaves, in order -/
def spI (K : PySem.W.Frag) (W : Wd) (C : Addr) (g : List D → (List Str → List D → Prop) → (D → Prop) → Prop) : Sp := fun vs H Q E => ∃ H1 M x dx ds vs' P PX, vs = .ref x :: vs' ∧ H = upd (upd H1 dx (.own x)) x (.ins C dx []) ∧ H1 x = none ∧ H1 dx = none ∧ dx ≠ x ∧
  MOk W M H1 ∧ Reps K M H1 ds vs' ∧ g ds P PX ∧ (∀ ks xs us dx' H', P ks xs → Ext W H1 H' → W.I H' → H' x = some (.ins C dx' (ks.zip us)) → us.length = ks.length → Reps K (fun a => M a ∨ a = x) H' xs us → Q .non H') ∧ ∀ cls d H', XC K W M H1 PX cls d H' → E cls d H'
def miN (x C : Addr) : Sl → (List Str → List D → Prop) → Prop
  | .mi x' C' ks xs, P => x' = x ∧ C' = C ∧ P ks xs
  | _, _ => False
theorem miN_of {x C : Addr} {s : Sl} {P : List Str → List D → Prop} (h : miN x C s P) : ∃ ks xs, s = .mi x C ks xs ∧ P ks xs := by
  cases s <;> first | exact h.elim | (obtain ⟨rfl, rfl, h⟩ := h; exact ⟨_, _, rfl, h⟩)
def startI (x C : Addr) (N : List Str) (ds : List D) : List Sl := .mi x C [] [] :: (ds.map Sl.d ++ List.replicate (N.length - (ds.length + 1)) .un)
def endsI (x C : Addr) (P : List Str → List D → Prop) : EndsD := { nx := fun ds => miN x C (ds.getD 0 .un) P, rt := fun _ => False }
def oaI (x : Addr) : Nat → Option Addr := fun i => if i = 0 then some x else none
theorem oaI_some {x a : Addr} {i : Nat} (h : oaI x i = some a) : i = 0 ∧ x = a := by
  unfold oaI at h
  by_cases hi : i = 0
  · rw [if_pos hi] at h; cases h; exact ⟨hi, rfl⟩
  · rw [if_neg hi] at h; cases h
theorem sat_init {K : PySem.W.Frag} {W : Wd} {M : Addr → Prop} {H1 : Hp} {N : List Str} {ds : List D} {vs : List V} {x dx C : Addr} (m : MOk W M H1) (r : Reps K M H1 ds vs) (hl : ds.length + 1 ≤ N.length) (nx : H1 x = none) (ndx : H1 dx = none) (hne : dx ≠ x) :
    Sat K (W.fx M H1) M H1 (oaI x) (upd (upd H1 dx (.own x)) x (.ins C dx [])) (L2.start N (.ref x :: vs)) (startI x C N ds) := by
  have f : Full H1 (upd (upd H1 dx (.own x)) x (.ins C dx [])) := fun b o e => by
    rw [upd_ne (ne_of_none e nx), upd_ne (ne_of_none e ndx)]
    exact e
  have cr : Car M (Mx M (oaI x)) H1 (upd (upd H1 dx (.own x)) x (.ins C dx [])) := fun b o n q => by
    refine ⟨fun z => ?_, f b o q⟩
    rcases z with z | ⟨i, z⟩
    · exact n z
    · obtain ⟨_, rfl⟩ := oaI_some z
      rw [nx] at q; cases q
  refine ⟨m.wm, m.live, f.ext, W.keep _ _ m.wi f, fun i a h => ?_, fun i j a h1 h2 => ?_, ?_, fun i hi => ?_, fun i s h => ?_, fun _ z => z, fun _ _ _ z => z, fun a h => W.liveB _ _ m.wi h, m.nb, m.nx⟩
  · obtain ⟨_, rfl⟩ := oaI_some h
    exact ⟨nx, m.fresh nx⟩
  · obtain ⟨h1, _⟩ := oaI_some h1
    obtain ⟨h2, _⟩ := oaI_some h2
    rw [h1, h2]
  · unfold startI L2.start
    simp [r.len]
  · have : i ≠ 0 := fun z => by subst z; simp [startI] at hi
    exact if_neg this
  · cases i with
    | zero =>
      cases h
      refine ⟨dx, [], rfl, rfl, rfl, upd_same, reps_nil⟩
    | succ i =>
      have h : (ds.map Sl.d ++ List.replicate (N.length - (ds.length + 1)) .un)[i]? = some s := h
      by_cases hi : i < ds.length
      · rw [List.getElem?_append_left (by simpa using hi), List.getElem?_map] at h
        cases e : ds[i]? with
        | none => rw [e] at h; cases h
        | some d =>
          rw [e] at h; cases h
          obtain ⟨v, hv, rv⟩ := r.get e
          refine ⟨rfl, v, ?_, rv.car cr⟩
          have hi2 : i < vs.length := (List.getElem?_eq_some_iff.mp hv).1
          show ((some (V.ref x)) :: vs.map some ++ _)[i + 1]? = _
          rw [List.cons_append, List.getElem?_cons_succ, List.getElem?_append_left (by simpa using hi2), List.getElem?_map, hv]
          rfl
      · rw [List.getElem?_append_right (by simpa using hi), List.getElem?_replicate] at h
        split at h
        · cases h; rfl
        · cases h
section
variable {P : Program} {w : World} {K : PySem.W.Frag} {mg : Str → Option Value} {base : Heap} {W : Wd} {x qual : Str} {st : Stmt} {f C : Addr} {fd : FuncData} {N ps : List Str} {k : Nat} {g : List D → (List Str → List D → Prop) → (D → Prop) → Prop}
theorem init_body {H1 : Hp} {M : Addr → Prop} {a dx : Addr} {ds : List D} {vs : List V} {Pd : List Str → List D → Prop} {Q : L2.VK} {wb : WS} (hl : ds.length + 1 ≤ N.length) (nx : H1 a = none) (ndx : H1 dx = none) (hne : dx ≠ a) (m : MOk W M H1) (r : Reps K M H1 ds vs)
    (hw : wb (endsI a C Pd) (startI a C N ds)) (k : ∀ ks xs us dx' H', Pd ks xs → Ext W H1 H' → W.I H' → H' a = some (.ins C dx' (ks.zip us)) → us.length = ks.length → Reps K (fun b => M b ∨ b = a) H' xs us → Q .non H') :
    LS K (W.fx M H1) wb { nx := fun _ H' => Q .non H', rt := Q } (L2.start N (.ref a :: vs)) (upd (upd H1 dx (.own a)) a (.ins C dx [])) := by
  refine ⟨M, H1, _, _, _, sat_init (W := W) m r hl nx ndx hne, hw, fun ds' oa' σ' H' hn S' => ?_, fun d v H' z => z.elim, fun _ _ _ _ z => z.elim, fun _ _ _ _ z => z.elim⟩
  obtain ⟨ks, xs, e, hp⟩ := miN_of hn
  have hget : ds'[0]? = some (.mi a C ks xs) := by
    rw [List.getD_eq_getElem?_getD] at e
    cases q : ds'[0]? with
    | none => rw [q] at e; cases e
    | some s => rw [q] at e; exact congrArg some e
  obtain ⟨dx', us, h1, h2, h3, h4, h5⟩ := S'.slot 0 _ hget
  refine k ks xs us dx' H' hp S'.ext S'.wi h4 h3 (h5.car fun b o n q => ⟨fun z => n ?_, q⟩)
  rcases z with z | z
  · exact .inl z
  · rw [z]; exact .inr ⟨0, h1⟩
/-- THE RULE for an __init__ -/
theorem vfnI (F : Fun K x qual st f fd) (S : FnScope N ps (defScope st)) (len : ∀ ds P PX, g ds P PX → ds.length + 1 = ps.length)
    (hb : ∃ wb : (D → Prop) → WS, (∀ (PX : D → Prop) (Mf : Addr → Prop) (Hf : Hp) (cdv : Value) (A : Around) (outer : List Env) (s : Shared) (H : Hp) (E : XK), Room k (A.deeper (envOfC qual (defScope st) s.heap.objs.size f cdv)) →
        Takes (cxOf (L2.CX P w) P w K mg base N qual (defScope st) f cdv A outer s H E) (XW K (W.fx Mf Hf) PX) → VSs (cxOf (L2.CX P w) P w K mg base N qual (defScope st) f cdv A outer s H E) (W.fx Mf Hf) (defBody st) (wb PX)) ∧
      ∀ a ds Q PX, g ds Q PX → wb PX (endsI a C Q) (startI a C N ds)) : FnOk P w K mg base (L2.CX P w) (k + 1) f fd ps (spI K W C g) := by
  obtain ⟨wb, h1, h2⟩ := hb
  refine F.okX S (fun vs H Q E h => ?_) (fun cdv A outer s H vs Q E hr h => ?_)
  · obtain ⟨H1, M, a, dx, ds, vs', P, PX, rfl, _, _, _, _, m, r, hg, _⟩ := h
    rw [← len ds P PX hg, List.length_cons, r.len]
  · obtain ⟨H1, M, a, dx, ds, vs', P', PX, rfl, rfl, nx, ndx, hne, m, r, hg, k, kx⟩ := h
    have hl : ds.length + 1 ≤ N.length := by
      have q := congrArg List.length S.pre
      rw [List.length_take] at q
      rw [len ds P' PX hg]
      omega
    exact ⟨LS K (W.fx M H1) (wb PX), h1 PX M H1 cdv A outer s _ E hr ((takes_of (E := E) rfl rfl rfl rfl).imp fun cls d σ H' hx => kx cls d H' hx), init_body hl nx ndx hne m r (h2 a ds P' PX hg) k⟩
theorem vfnID {dvs : List V} {kws : List (Str × V)} (F : FunD K x qual (defArgs st) (defBody st) (defScope st) dvs kws f fd) (S : FnScope N ps (defScope st)) (len : ∀ ds P PX, g ds P PX → ds.length + 1 = ps.length)
    (hb : ∃ wb : (D → Prop) → WS, (∀ (PX : D → Prop) (Mf : Addr → Prop) (Hf : Hp) (cdv : Value) (A : Around) (outer : List Env) (s : Shared) (H : Hp) (E : XK), Room k (A.deeper (envOfC qual (defScope st) s.heap.objs.size f cdv)) →
        Takes (cxOf (L2.CX P w) P w K mg base N qual (defScope st) f cdv A outer s H E) (XW K (W.fx Mf Hf) PX) → VSs (cxOf (L2.CX P w) P w K mg base N qual (defScope st) f cdv A outer s H E) (W.fx Mf Hf) (defBody st) (wb PX)) ∧
      ∀ a ds Q PX, g ds Q PX → wb PX (endsI a C Q) (startI a C N ds)) : FnOk P w K mg base (L2.CX P w) (k + 1) f fd ps (spI K W C g) := by
  obtain ⟨wb, h1, h2⟩ := hb
  refine F.ok (CX := L2.CX P w) S (fun vs H Q E h => ?_) (fun cdv A outer s H vs Q E hr h => ?_)
  · obtain ⟨H1, M, a, dx, ds, vs', P, PX, rfl, _, _, _, _, m, r, hg, _⟩ := h
    rw [← len ds P PX hg, List.length_cons, r.len]
  · obtain ⟨H1, M, a, dx, ds, vs', P', PX, rfl, rfl, nx, ndx, hne, m, r, hg, k, kx⟩ := h
    have hl : ds.length + 1 ≤ N.length := by
      have q := congrArg List.length S.pre
      rw [List.length_take] at q
      rw [len ds P' PX hg]
      omega
    exact ⟨LS K (W.fx M H1) (wb PX), h1 PX M H1 cdv A outer s _ E hr ((takes_of (E := E) rfl rfl rfl rfl).imp fun cls d σ H' hx => kx cls d H' hx), init_body hl nx ndx hne m r (h2 a ds P' PX hg) k⟩
end
section
variable {X : Cx} {W : Wd} {e o : Expr} {es : List Expr} {pos pos' p apos : Pos} {x : Str}
/-- self.f = e in an __init__ -/
def miS : Sl → (Addr → Addr → List Str → List D → Prop) → Prop
  | .mi a C ks xs, P => P a C ks xs
  | _, _ => False
def wFldO (i : Nat) (f : Str) (cs : List Addr) (w : WE) : WS := fun E ds => w ds fun d => miS (ds.getD i .un) fun a C ks xs => C ∈ cs ∧ f ∉ ks ∧ ks.length < 900 ∧ E.nx (ds.set i (.mi a C (ks ++ [f]) (xs ++ [d])))
theorem vs_fldO (i : Nat) (cs : List Addr) {f : Str} {w : WE} (hc : ∀ C ∈ cs, Cls X.K C ∧ NoAttr X.K C f) (he : VE X W e w) (hN : X.N[i]? = some x := by rfl) (hv : Vis X.env.scope x := by first | exact Or.inl rfl | exact Or.inr (Or.inl rfl) | exact Or.inr (Or.inr rfl))
    (hd : (x == ("__debug__" : Str)) = false := by decide) (hcd : (x == ("__classdict__" : Str)) = false := by decide) (hs : swapsWith e (some (.Attribute (.Name x p) f pos')) pos.line X.env = pure false := by rfl) :
    VS X W (.Assign [.Attribute (.Name x p) f pos'] e pos) (wFldO i f cs w) := by
  refine ps_imp (ps_fld (pe_var hN hv hd hcd) he hs) fun D σ H h => ?_
  obtain ⟨M0, H0, oa, ds, E, S, hw, k1, k2, k3, k4⟩ := h
  refine ⟨M0, H0, oa, ds, _, S, hw, fun d v H1 hd e1 i1 r1 => ?_⟩
  have S1 := S.step e1 i1
  obtain ⟨a, C, ks, xs, hg, hC, hf, hk, hn⟩ : ∃ a C ks xs, ds.getD i .un = .mi a C ks xs ∧ C ∈ cs ∧ f ∉ ks ∧ ks.length < 900 ∧ E.nx (ds.set i (.mi a C (ks ++ [f]) (xs ++ [d]))) := by
    cases q : ds.getD i .un with
    | mi a C ks xs => rw [q] at hd; exact ⟨a, C, ks, xs, rfl, hd⟩
    | _ => rw [q] at hd; exact hd.elim
  have hget : ds[i]? = some (.mi a C ks xs) := by
    rw [List.getD_eq_getElem?_getD] at hg
    cases e : ds[i]? with
    | none => rw [e] at hg; cases hg
    | some s => rw [e] at hg; exact congrArg some hg
  obtain ⟨dx, us, o1, o2, o3, o4, o5⟩ := S1.slot i _ hget
  obtain ⟨z1, z2⟩ := putF_fs r1 o5 o3 hf
  refine ⟨.ref a, o2, a, C, dx, _, rfl, o4, (hc C hC).1, (hc C hC).2, by rw [List.length_zip, o3]; omega, k1 _ oa _ _ hn ?_⟩
  refine S1.mutown (List.getElem?_eq_some_iff.mp hget).1 o1 o2 fun c => ⟨dx, us ++ [v], rfl, rfl, by simp [o3], ?_, z2.car c⟩
  rw [upd_same, z1]
/-- self.f in an __init__ -/
def wFldR (i : Nat) (f : Str) (cs : List Addr) : WE := fun ds P => miS (ds.getD i .un) fun _ C ks xs => C ∈ cs ∧ ∃ d, lkp ks xs f = some d ∧ P d
theorem ve_fldR (i : Nat) (cs : List Addr) {f : Str} (hc : ∀ C ∈ cs, Cls X.K C ∧ NoAttr X.K C f) (hN : X.N[i]? = some x := by rfl) (hv : Vis X.env.scope x := by first | exact Or.inl rfl | exact Or.inr (Or.inl rfl) | exact Or.inr (Or.inr rfl))
    (hd : (x == ("__debug__" : Str)) = false := by decide) (hcd : (x == ("__classdict__" : Str)) = false := by decide) (hb : attributeBase (.Name x p) f X.env (eval (.Name x p) X.env) = eval (.Name x p) X.env := by rfl) : VE X W (.Attribute (.Name x p) f pos) (wFldR i f cs) := by
  refine pe_imp (pe_fld (pe_var hN hv hd hcd) hb) fun σ H Q h => ?_
  obtain ⟨M0, H0, oa, ds, P, S, hw, k⟩ := h
  obtain ⟨a, C, ks, xs, hg, hC, d, hl, hp⟩ : ∃ a C ks xs, ds.getD i .un = .mi a C ks xs ∧ C ∈ cs ∧ ∃ d, lkp ks xs f = some d ∧ P d := by
    unfold wFldR at hw
    cases q : ds.getD i .un with
    | mi a C ks xs => rw [q] at hw; exact ⟨a, C, ks, xs, rfl, hw⟩
    | _ => rw [q] at hw; exact hw.elim
  have hget : ds[i]? = some (.mi a C ks xs) := by
    rw [List.getD_eq_getElem?_getD] at hg
    cases e : ds[i]? with
    | none => rw [e] at hg; cases hg
    | some s => rw [e] at hg; exact congrArg some hg
  obtain ⟨dx, us, o1, o2, o3, o4, o5⟩ := S.slot i _ hget
  obtain ⟨z, hz, rz⟩ := (lkp_fs (f := f) o5 o3).1 d hl
  exact ⟨.ref a, o2, a, C, dx, _, z, rfl, o4, (hc C hC).1, (hc C hC).2, hz, k d z H hp (Ext.refl H) S.wi rz⟩
section
variable {C f : Addr} {fd : FuncData} {ps : List Str} {k n : Nat} {g : List D → (List Str → List D → Prop) → (D → Prop) → Prop} {PX : D → Prop} {l lk : WL} {dvs : List V} {dds : List D}
/-- C(..) -/
def wMake (C : Addr) (g : List D → (List Str → List D → Prop) → (D → Prop) → Prop) (PX : D → Prop) (l : WL) : WE := fun ds P => l ds fun xs => g xs (fun ks ys => P (.ins C ks ys)) PX
theorem make_rep {K : PySem.W.Frag} {M : Addr → Prop} {H : Hp} {a dx : Addr} {ks : List Str} {xs : List D} {us : List V} (nm : ¬ M a) (l : us.length = ks.length) (t : H a = some (.ins C dx (ks.zip us))) (r : Reps K (fun b => M b ∨ b = a) H xs us) : Rep K M H (.ins C ks xs) (.ref a) :=
  rep_ins nm l t (r.car fun b o n q => ⟨fun z => n (.inl z), q⟩)
theorem ve_make (M : Mk X.K C f) (F : FnOk X.prog X.w X.K X.mg X.base (L2.CX X.prog X.w) k f fd ps (spI X.K W C g)) (hr : Room (k + 1) X.A) (hg : Gl X x) (hm : X.mg x = some (.ref C)) (hb : ∃ ds, Vals dvs ds ∧ Binds X.K fd ps ds) (hdd : ∀ M H, Reps X.K M H dds dvs)
    (tk : Takes X (XW X.K W PX)) (ha : VA X W (e :: es) l) (hdb : (x == ("__debug__" : Str)) = false := by decide) (he : starEach (e :: es) X.env = (false, eval e X.env) :: starEach es X.env := by rfl) (hpl : (backTo pos (starEach es X.env)).any (·.1) = false := by rfl) :
    VE X W (.Call (.Name x p) (e :: es) [] pos) (wMake C (fun xs P PX => g (xs ++ dds) P PX) PX l) := by
  obtain ⟨ds0, hd, hb⟩ := hb
  refine pe_imp (pe_make M F hr hg hm hb hd (passesX tk) ha hdb he hpl) fun σ H Q h => ?_
  obtain ⟨M0, H0, oa, ds, P, S, hw, kk⟩ := h
  refine ⟨M0, H0, oa, ds, _, S, hw, fun xs vs H1 hx e1 i1 r1 => fun a dx na ndx hne => ?_⟩
  have S1 := S.step e1 i1
  exact ⟨H1, Mx M0 oa, a, dx, xs ++ dds, vs ++ dvs, _, PX, rfl, rfl, na, ndx, hne, S1.mok, r1.app (hdd _ _), hx, fun ks ys us dx' H' hp e i t l r => ⟨rfl, kk _ _ H' hp (e1.trans e) i (make_rep (S1.mok.fresh na) l t r)⟩, fun cls d H' h => S1.xc h⟩
/-- C(.., k = v, ..) -/
def wMakeK (C : Addr) (n m : Nat) (gD : List D → List D → List D) (g : List D → (List Str → List D → Prop) → (D → Prop) → Prop) (PX : D → Prop) (l lk : WL) : WE := fun ds P => l ds fun xs => lk ds fun zs => xs.length = n ∧ zs.length = m ∧ g (gD xs zs) (fun ks ys => P (.ins C ks ys)) PX
theorem ve_makeK {ks : List Str} {kws : List Keyword} {gV : List V → List V → List V} (gD : List D → List D → List D) (M : Mk X.K C f) (F : FnOk X.prog X.w X.K X.mg X.base (L2.CX X.prog X.w) k f fd ps (spI X.K W C g)) (hr : Room (k + 1) X.A) (hg : Gl X x) (hm : X.mg x = some (.ref C))
    (hb : ∃ gU, KBn X.K fd ps (n + 1) ks gU gV) (hG : ∀ M H a xs zs vs us, Reps X.K M H xs vs → Reps X.K M H zs us → xs.length = n → zs.length = ks.length → ∃ vr, gV (.ref a :: vs) us = .ref a :: vr ∧ Reps X.K M H (gD xs zs) vr) (tk : Takes X (XW X.K W PX)) (ha : VA X W (e :: es) l) (hkw : VK X W kws lk)
    (hall : (backToKw pos (keywordEach kws X.env)).all (·.1.isSome) = true := by rfl) (hks : (backToKw pos (keywordEach kws X.env)).filterMap (·.1) = ks := by rfl) (hdb : (x == ("__debug__" : Str)) = false := by decide)
    (he : starEach (e :: es) X.env = (false, eval e X.env) :: starEach es X.env := by rfl) (hpl : ((backTo pos (starEach (e :: es) X.env)).any (·.1) || (backToKw pos (keywordEach kws X.env)).any (·.1.isNone)) = false := by rfl) :
    VE X W (.Call (.Name x p) (e :: es) kws pos) (wMakeK C n ks.length gD g PX l lk) := by
  obtain ⟨gU, hb⟩ := hb
  refine pe_imp (pe_makeK M F hr hg hm hb (passesX tk) ha hkw hall hks hdb he hpl) fun σ H Q h => ?_
  obtain ⟨M0, H0, oa, ds, P, S, hw, kk⟩ := h
  refine ⟨M0, H0, oa, ds, _, S, hw, fun xs vs H1 hx e1 i1 r1 => ?_⟩
  have S1 := S.step e1 i1
  refine ⟨M0, H0, oa, ds, _, S1, hx, fun zs us H2 hx2 e2 i2 r2 => ?_⟩
  have S2 := S1.step e2 i2
  obtain ⟨l1, l2, hx2⟩ := hx2
  refine ⟨by rw [r1.len, l1], by rw [r2.len, l2], fun a dx na ndx hne => ?_⟩
  obtain ⟨vr, ev, rr⟩ := hG _ _ a _ _ _ _ (r1.ext S1.mok e2) r2 l1 l2
  exact ⟨H2, Mx M0 oa, a, dx, gD xs zs, vr, _, PX, ev, rfl, na, ndx, hne, S2.mok, rr, hx2, fun ks ys us dx' H' hp e i t l r => ⟨rfl, kk _ _ H' hp ((e1.trans e2).trans e) i (make_rep (S2.mok.fresh na) l t r)⟩, fun cls d H' h => S2.xc h⟩
end
end
end VL
/-! ### operators of own classes -/
namespace PySem.W
open PySem PySem.Calls PyProof.Rows Builtin
section
variable {prog : Program} {w : World} {A : Around} {E : Value → Shared → Prop} {s : Shared} {K : Frag} {x C L f : Addr} {h₀ : Heap} {m : Str → Option Value} {ox : Obj} {od : Option Obj} {T : String}
/-- the right side of a built-in type -/
theorem vi_binT {op : Operator} {b : Value} {fo ro rc : Option Value} {Q : Value → Shared → Prop} (F : Fr h₀ L s.heap m) (X₀ : K.In h₀) (I : InstAt s.heap x ox C od) (hb : Looks (model prog w) s.heap (typeOf b) (.type T)) (hc : selfFirst K C = true)
    (hs : findIn K (.ref C) (PySem.dunder op.info.2) = some (some (.ref f))) (hf : isFn K (.ref f) = true) (hr : findIn K (.ref C) (dunderR op.info.2) = some rc) (hp : rc = none ∨ ∃ g : Addr, rc = some (.ref g))
    (h1 : findIn K (.type T) (PySem.dunder op.info.2) = some fo) (h2 : findIn K (.type T) (dunderR op.info.2) = some ro) (hsub : subIn K (.type T) (.ref C) = some false)
    (h : wpAny (model prog w) A (call (.ref f) [.ref x, b]) (CmpBack Q) E s) : wpAny (model prog w) A (binaryOp op (.ref x) b) Q E s := by
  have X := X₀.keeps F.keep
  obtain ⟨cd, rest, hcd, hm⟩ := ksp_first hc
  rcases hi : op.info with ⟨sym, nm'⟩
  rw [hi] at hs hr h1 h2
  dsimp only at hs hr h1 h2
  have one := ksp_try X I hs hf h
  obtain ⟨hh, g, d, tt, os⟩ := s
  have L1 : Looks (model prog w) hh (typeOf (.ref x)) (.ref C) := I.type
  have L2 : Looks (model prog w) hh (typeOf b) (.type T) := hb
  have L3 : Looks (model prog w) hh (fillsNumberSlot (.ref C) nm') true := fills_K X hcd hm hs
  have L4 : Looks (model prog w) hh (fillsNumberSlot (.type T) nm') ((fo.isSome && !isSeqSlot fo) || (ro.isSome && !isSeqSlot ro)) := ksp_fillsT X h1 h2
  have L5 : Looks (model prog w) hh (isSubtype (.type T) (.ref C)) false := looks_subIn X hsub
  have L6 : Looks (model prog w) hh (numberSlotInPython (.ref C) nm') true := ksp_inPy X hs hr hp
  have L7 : Looks (model prog w) hh (numberSlotInPython (.type T) nm') false := Looks.of_pure rfl
  have L8 : Looks (model prog w) hh (typeLookup (.type T) (dunderR nm')) ro := looks_findIn X h2
  generalize ((fo.isSome && !isSeqSlot fo) || (ro.isSome && !isSeqSlot ro)) = right at L4
  have hne : (Value.ref C == Value.type T) = false := Bool.eq_false_iff.mpr fun q => by cases beq_iff_eq.mp q
  simp only [binaryOp, hi]
  refine wpAny_holding (wpAny_bind ?_)
  unfold binaryOp1
  refine wpAny_bind (L1.at (wpAny_bind (L2.at (wpAny_bind (L3.at ?_)))))
  simp only [hne, Bool.false_eq_true, if_false]
  cases right with
  | false =>
    ksp_lk
    refine wpAny_mono one (fun r s' hr' => ?_) fun _ _ e => e
    obtain ⟨v, rfl, hq⟩ := hr'
    ksp_lk
    exact hq
  | true =>
    ksp_lk
    refine wpAny_mono one (fun r s' hr' => ?_) fun _ _ e => e
    obtain ⟨v, rfl, hq⟩ := hr'
    ksp_lk
    exact hq
end
end PySem.W
namespace PySem.W
open PySem PySem.Calls PyProof.Rows Builtin
/-- no class of it has the operator with = -/
def noInp (K : Frag) (C : Addr) (nm : String) : Bool := (clsIn K C).any fun cd => cd.mro.all fun c => findIn K c (dunderI nm) == some none
section
variable {prog : Program} {w : World} {A : Around} {E : Value → Shared → Prop} {s : Shared} {K : Frag} {x C C' L f f' : Addr} {h₀ : Heap} {m : Str → Option Value} {ox : Obj} {od : Option Obj} {nm : String}
theorem vi_anyNone {M : Model} {h : Heap} (X : K.In h) {add : Bool} : ∀ l : List Value, (l.all fun c => findIn K c (dunderI nm) == some none) = true → Looks M h (l.anyM fun c => do
    let some x ← typeLookup c (dunderI nm) | return false
    if let .type _ := c then return !isSeqSlot (some x)
    if !ownNameWrapper x (dunderI nm) then return true
    if !(← inheritsSeqSlot c (dunderI nm)) then return true
    if add then return (← seqSlot? c (dunderI nm)).isSome
    return false) false
  | [], _ => by intro A Q E s k q; rw [List.anyM_nil]; exact wpAny_pure q
  | c :: r, e => by
    obtain ⟨a, b⟩ := Bool.and_eq_true_iff.mp (List.all_cons ▸ e)
    intro A Q E s k q
    rw [List.anyM_cons]
    refine wpAny_bind (wpAny_bind (looks_findIn X (beq_iff_eq.mp a) A _ E s k ?_))
    exact wpAny_pure (vi_anyNone X r b A Q E s k q)
theorem vi_noFill {M : Model} {h : Heap} {add : Bool} (X : K.In h) (hn : noInp K C nm = true) : Looks M h (fillsInplaceSlot (.ref C) nm add) false := by
  obtain ⟨cd, hcd, ha⟩ := any_some hn
  have Lm : Looks M h (mroOf (.ref C)) cd.mro := (looks_clsIn X hcd).andThen (f := fun cd => pure cd.mro) .now
  intro A Q E s k q
  unfold fillsInplaceSlot
  exact wpAny_bind (Lm A _ E s k (vi_anyNone X cd.mro ha A Q E s k q))
theorem vi_inp2 {op : Operator} {b : Addr} {rc rc' : Option Value} {Q : Value → Shared → Prop} {ox' : Obj} {od' : Option Obj} (F : Fr h₀ L s.heap m) (X₀ : K.In h₀) (I : InstAt s.heap x ox C od) (I' : InstAt s.heap b ox' C' od') (hne : C ≠ C') (hni : noInp K C op.info.2 = true) (hc : selfFirst K C = true) (hc' : selfFirst K C' = true)
    (hs : findIn K (.ref C) (PySem.dunder op.info.2) = some (some (.ref f))) (hf : isFn K (.ref f) = true) (hr : findIn K (.ref C) (dunderR op.info.2) = some rc) (hp : rc = none ∨ ∃ g : Addr, rc = some (.ref g))
    (hs' : findIn K (.ref C') (PySem.dunder op.info.2) = some (some (.ref f'))) (hr' : findIn K (.ref C') (dunderR op.info.2) = some rc') (hp' : rc' = none ∨ ∃ g : Addr, rc' = some (.ref g)) (hsub : subIn K (.ref C') (.ref C) = some false)
    (h : wpAny (model prog w) A (call (.ref f) [.ref x, .ref b]) (CmpBack Q) E s) : wpAny (model prog w) A (inplaceOp op (.ref x) (.ref b)) Q E s := by
  have X := X₀.keeps F.keep
  obtain ⟨cd, rest, hcd, hm⟩ := ksp_first hc
  obtain ⟨cd', rest', hcd', hm'⟩ := ksp_first hc'
  rcases hi : op.info with ⟨sym, nm'⟩
  rw [hi] at hs hr hs' hr' hni
  dsimp only at hs hr hs' hr' hni
  have one := ksp_try X I hs hf h
  obtain ⟨hh, g, d, tt, os⟩ := s
  have L1 : Looks (model prog w) hh (typeOf (.ref x)) (.ref C) := I.type
  have L0 : Looks (model prog w) hh (fillsInplaceSlot (.ref C) nm' (op == .Add)) false := vi_noFill X hni
  have L2 : Looks (model prog w) hh (typeOf (.ref b)) (.ref C') := I'.type
  have L3 : Looks (model prog w) hh (fillsNumberSlot (.ref C) nm') true := fills_K X hcd hm hs
  have L4 : Looks (model prog w) hh (fillsNumberSlot (.ref C') nm') true := fills_K X hcd' hm' hs'
  have L5 : Looks (model prog w) hh (isSubtype (.ref C') (.ref C)) false := looks_subIn X hsub
  have L6 : Looks (model prog w) hh (numberSlotInPython (.ref C) nm') true := ksp_inPy X hs hr hp
  have L7 : Looks (model prog w) hh (numberSlotInPython (.ref C') nm') true := ksp_inPy X hs' hr' hp'
  have hne' : (Value.ref C == Value.ref C') = false := Bool.eq_false_iff.mpr fun q => by cases beq_iff_eq.mp q; exact hne rfl
  unfold inplaceOp
  simp only [hi]
  refine wpAny_holding (wpAny_bind (L1.at (wpAny_bind (L0.at ?_))))
  simp only [Bool.false_eq_true, if_false]
  refine wpAny_bind ?_
  unfold binaryOp1
  refine wpAny_bind (L1.at (wpAny_bind (L2.at (wpAny_bind (L3.at ?_)))))
  simp only [hne', Bool.false_eq_true, if_false]
  ksp_lk
  refine wpAny_mono one (fun r s' hr' => ?_) fun _ _ e => e
  obtain ⟨v, rfl, hq⟩ := hr'
  ksp_lk
  exact hq
end
end PySem.W
namespace VL
open PySem PySem.Spec PyProof.Rows L2
theorem fnR_of {P : Program} {w : World} {K : PySem.W.Frag} {mg : Str → Option Value} {base : Heap} {CX : CXT} {k : Nat} {f : Addr} {fd : FuncData} {ps : List Str} {sp : Sp} (F : FnOk P w K mg base CX k f fd ps sp) (hb : Binds K fd ps []) : FnR P w K mg base CX k f sp := fun A outer s H us vs Q E hr e0 r h => by
  have hl : (us ++ ([] : List Value)).length = ps.length := by rw [List.append_nil, ← r.length]; exact F.len _ _ _ _ h
  have q := hb s us (e0.mod.kin.keeps fun b o e => (e0.bs b o e).1) hl
  rw [List.append_nil] at q
  exact F.run A outer s H ⟨us, []⟩ us vs Q E hr e0 q r h
abbrev GX := List D → (D → Prop) → (D → Prop) → Prop
/-- the def of a special name of a class, its promise -/
structure OpM (P : Program) (w : World) (K : PySem.W.Frag) (mg : Str → Option Value) (base : Heap) (W : Wd) (k : Nat) (name : Str) (C : Addr) (g : GX) : Prop where
  ex : ∃ f, PySem.W.findIn K (.ref C) name = some (some (.ref f)) ∧ PySem.W.isFn K (.ref f) = true ∧ FnR P w K mg base (L2.CX P w) k f (spX K W g)
/-- a class that has the operator, not the one with exchanged sides -/
structure BinC (K : PySem.W.Frag) (op : Operator) (C : Addr) : Prop where
  sf : PySem.W.selfFirst K C = true
  nr : PySem.W.findIn K (.ref C) (dunderR op.info.2) = some none
  at_ : ∃ f : Addr, PySem.W.findIn K (.ref C) (PySem.dunder op.info.2) = some (some (.ref f))
structure BinT (K : PySem.W.Frag) (op : Operator) (C : Addr) (T : String) : Prop where
  h1 : ∃ fo, PySem.W.findIn K (.type T) (PySem.dunder op.info.2) = some fo
  h2 : ∃ ro, PySem.W.findIn K (.type T) (dunderR op.info.2) = some ro
  sub : PySem.W.subIn K (.type T) (.ref C) = some false
/-- right sides: instances of these classes, data of these types -/
def okR (fam : List (Addr × Addr)) (bt : List (Addr × String)) (C : Addr) : D → Prop
  | .ins C' _ _ => (C, C') ∈ fam
  | y => noHnd y = true ∧ (C, tyN y) ∈ bt
def binI (f0 : D → D → (D → Prop) → Prop) (tab : List (Addr × GX)) (fam : List (Addr × Addr)) (bt : List (Addr × String)) (PX : D → Prop) : D → D → (D → Prop) → Prop
  | .ins C ks xs, y, P => ∃ g, (C, g) ∈ tab ∧ okR fam bt C y ∧ g [.ins C ks xs, y] P PX
  | x, y, P => f0 x y P
theorem binI_of {f0 : D → D → (D → Prop) → Prop} {tab : List (Addr × GX)} {fam : List (Addr × Addr)} {bt : List (Addr × String)} {PX : D → Prop} {x y : D} {P : D → Prop} (h : binI f0 tab fam bt PX x y P) :
    f0 x y P ∨ ∃ C ks xs g, x = .ins C ks xs ∧ (C, g) ∈ tab ∧ okR fam bt C y ∧ g [.ins C ks xs, y] P PX := by
  cases x <;> first | exact .inl h | (obtain ⟨g, h1, h2, h3⟩ := h; exact .inr ⟨_, _, _, g, rfl, h1, h2, h3⟩)
section
variable {X : Cx} {W : Wd} {a b e : Expr} {es : List Expr} {pos : Pos} {k : Nat} {PX : D → Prop}
/-- what the right side is, in the heap -/
inductive RgV (K : PySem.W.Frag) (H : Hp) : V → Value → Prop where
  | ins {b C' dy : Addr} {ws : List (Str × V)} (h : H b = some (.ins C' dy ws)) : RgV K H (.ref b) (.ref C')
  | ty {y : V} {T : String} (h : TyX K H y (.type T)) : RgV K H y (.type T)
def rOwnI (X : Cx) (op : Operator) (W : Wd) (k : Nat) (PX : D → Prop) : R2 := fun x y H Q => ∃ a C dx fs tb g, x = .ref a ∧ H a = some (.ins C dx fs) ∧ RgV X.K H y tb ∧ BinC X.K op C ∧ OpM X.prog X.w X.K X.mg X.base W k (PySem.dunder op.info.2) C g ∧
  (tb = .ref C ∨ (∃ C', tb = .ref C' ∧ BinC X.K op C' ∧ PySem.W.subIn X.K (.ref C') (.ref C) = some false) ∨ ∃ T, tb = .type T ∧ BinT X.K op C T) ∧ spX X.K W g [x, y] H Q (EX X.K W PX)
theorem RgV.looks {K : PySem.W.Frag} {H : Hp} {pins : List (Addr × Obj)} {σ : L2.St} {s : Shared} {y : V} {u tb : Value} (hK : X.K = K) (I : Inv X pins σ H s) (r : RelV y u) (h : RgV K H y tb) (M : Model) : PySem.W.Looks M s.heap (typeOf u) tb := by
  subst hK
  cases h with
  | ins h =>
    obtain rfl : u = Value.ref _ := r
    obtain ⟨mA, O, _⟩ := ins_get I.hok h
    obtain ⟨od, J, _⟩ := O.look
    exact J.type
  | ty h =>
    obtain ⟨P, Z, p, _⟩ := kit_of I r h
    exact Z.ty M s.heap I.kIn p
theorem op_ownI {op : Operator} (hr : Room k X.A) (tk : Takes X (XW X.K W PX)) : OpR X (binaryOp op) (rOwnI X op W k PX) := by
  intro pins s σ H x y v u Q I rx ry h
  obtain ⟨a, C, dx, fs, tb, g, rfl, ha, hy, hC, ⟨f, h1, h2, F⟩, hc, q⟩ := h
  cases (show v = Value.ref a from rx)
  obtain ⟨mA, O, _⟩ := ins_get I.hok ha
  obtain ⟨od, J, _⟩ := O.look
  obtain ⟨m, fr⟩ := I.fr
  have hcall : wpAny (model X.prog X.w) X.A (call (.ref f) [.ref a, u]) (PySem.W.CmpBack (EP X pins σ Q)) X.xe s := by
    refine wpAny_mono (wpAny_call (run_fnR (us := [.ref a, u]) (vs := [.ref a, y]) F hr (passesX tk) I (.cons rfl (.cons ry .nil)) q)) (fun z s' hz => ?_) fun _ _ z => z
    obtain ⟨z', H', I', rz, qz⟩ := hz
    exact SlX.cmpback rz ⟨z', H', I', rz, qz⟩
  rcases hc with rfl | ⟨C', rfl, hC', hsub⟩ | ⟨T, rfl, hT⟩
  · exact PySem.W.binop_K fr I.ok.mod.kin J (hy.looks rfl I ry _) hC.sf h1 h2 hcall
  · by_cases e : C = C'
    · subst e
      exact PySem.W.binop_K fr I.ok.mod.kin J (hy.looks rfl I ry _) hC.sf h1 h2 hcall
    · generalize htb : Value.ref C' = tb at hy
      cases hy with
      | @ins b C2 dy ws hb =>
        cases htb
        cases (show u = Value.ref b from ry)
        obtain ⟨mA', O', _⟩ := ins_get I.hok hb
        obtain ⟨od', J', _⟩ := O'.look
        obtain ⟨f', hf'⟩ := hC'.at_
        exact PySem.W.vi_bin2 fr I.ok.mod.kin J J' e hC.sf hC'.sf h1 h2 hC.nr (.inl rfl) hf' hC'.nr (.inl rfl) hsub hcall
      | ty _ => cases htb
  · obtain ⟨fo, e1⟩ := hT.h1
    obtain ⟨ro, e2⟩ := hT.h2
    exact PySem.W.vi_binT fr I.ok.mod.kin J (hy.looks rfl I ry _) hC.sf h1 h2 hC.nr (.inl rfl) e1 e2 hT.sub hcall
theorem rep_rgv {K : PySem.W.Frag} {M : Addr → Prop} {H : Hp} {y : D} {u : V} (r : Rep K M H y u) (h : (∃ C ks xs, y = .ins C ks xs) ∨ noHnd y = true) : ∃ tb, RgV K H u tb ∧ (∀ C ks xs, y = .ins C ks xs → tb = .ref C) ∧ (noHnd y = true → tb = .type (tyN y)) := by
  rcases h with ⟨C, ks, xs, rfl⟩ | h
  · obtain ⟨a, dx, us, rfl, _, _, t, _⟩ := r.ins
    exact ⟨.ref C, .ins t, fun _ _ _ e => by cases e; rfl, fun z => by cases z⟩
  · exact ⟨.type (tyN y), .ty (r.ty h), fun C ks xs (e : y = .ins C ks xs) => (by rw [e] at h; cases h), fun _ => rfl⟩
theorem okR_cases {fam : List (Addr × Addr)} {bt : List (Addr × String)} {C : Addr} {y : D} (h : okR fam bt C y) : (∃ C' ks xs, y = .ins C' ks xs ∧ (C, C') ∈ fam) ∨ (noHnd y = true ∧ (C, tyN y) ∈ bt) := by
  cases y <;> first | exact .inl ⟨_, _, _, rfl, h⟩ | exact .inr h
theorem ve_binI {op : Operator} {f0 : D → D → (D → Prop) → Prop} {r0 : R2} {wa wb : WE} (tab : List (Addr × GX)) (fam : List (Addr × Addr)) (bt : List (Addr × String)) (ho : OpR X (binaryOp op) r0) (hf : LiftOp X.K W f0 r0) (hr : Room k X.A) (tk : Takes X (XW X.K W PX))
    (htab : ∀ q ∈ tab, BinC X.K op q.1 ∧ OpM X.prog X.w X.K X.mg X.base W k (PySem.dunder op.info.2) q.1 q.2) (hfam : ∀ q ∈ fam, q.1 = q.2 ∨ (BinC X.K op q.2 ∧ PySem.W.subIn X.K (.ref q.2) (.ref q.1) = some false)) (hbt : ∀ q ∈ bt, BinT X.K op q.1 q.2) (ha : VE X W a wa) (hb : VE X W b wb) :
    VE X W (.BinOp a op b pos) (wOp (binI f0 tab fam bt PX) wa wb) := by
  refine pe_imp (pe_op (OpR.or ho (op_ownI hr tk)) ha hb) fun σ H Q h => ?_
  obtain ⟨M0, H0, oa, ds, P, S, hw, kk⟩ := h
  refine ⟨M0, H0, oa, ds, _, S, hw, fun x v H1 hx e1 i1 r1 => ?_⟩
  have S1 := S.step e1 i1
  refine ⟨M0, H0, oa, ds, _, S1, hx, fun y u H2 hy e2 i2 r2 => ?_⟩
  have S2 := S1.step e2 i2
  have r1' := r1.ext S1.mok e2
  rcases binI_of hy with hy | ⟨C, ks, xs, g, rfl, ht, hok, hg⟩
  · exact .inl (hf (Mx M0 oa) H2 x y v u P Q S2.mok r1' r2 hy fun d z H' hp e i r => kk d z H' hp ((e1.trans e2).trans e) i r)
  · refine .inr ?_
    have r1'' := r1'
    obtain ⟨p, dx, us, rfl, nm, l0, t0, r⟩ := r1''.ins
    obtain ⟨hC, hM⟩ := htab _ ht
    obtain ⟨tb, hrg, q1, q2⟩ := rep_rgv r2 ((okR_cases hok).elim (fun ⟨C', ks', xs', e, _⟩ => .inl ⟨C', ks', xs', e⟩) fun z => .inr z.1)
    refine ⟨p, C, dx, _, tb, g, rfl, t0, hrg, hC, hM, ?_, Mx M0 oa, [.ins C ks xs, y], P, PX, S2.mok, reps_cons r1' (reps_cons r2 reps_nil), hg, fun d v H' hp e i r => kk d v H' hp ((e1.trans e2).trans e) i r, fun cls d H' h => S2.xc h⟩
    rcases okR_cases hok with ⟨C', ks', xs', e, hm⟩ | ⟨hn, hm⟩
    · rcases hfam _ hm with e' | ⟨e1', e2'⟩
      · exact .inl (by rw [q1 _ _ _ e]; exact congrArg Value.ref e'.symm)
      · exact .inr (.inl ⟨C', q1 _ _ _ e, e1', e2'⟩)
    · exact .inr (.inr ⟨_, q2 hn, hbt _ hm⟩)
/-! x op= e, x an instance of a class without that very operator, e one of another class -/
def augI (tab : List (Addr × GX)) (fam : List (Addr × Addr)) (PX : D → Prop) : D → D → (D → Prop) → Prop
  | .ins C ks xs, .ins C' ks' xs', P => ∃ g, (C, g) ∈ tab ∧ (C, C') ∈ fam ∧ g [.ins C ks xs, .ins C' ks' xs'] P PX
  | _, _, _ => False
def rAugI (X : Cx) (op : Operator) (W : Wd) (k : Nat) (PX : D → Prop) : R2 := fun x y H Q => ∃ a C dx fs b C' dy ws g, x = .ref a ∧ H a = some (.ins C dx fs) ∧ y = .ref b ∧ H b = some (.ins C' dy ws) ∧ C ≠ C' ∧ BinC X.K op C ∧ PySem.W.noInp X.K C op.info.2 = true ∧ OpM X.prog X.w X.K X.mg X.base W k (PySem.dunder op.info.2) C g ∧
  BinC X.K op C' ∧ PySem.W.subIn X.K (.ref C') (.ref C) = some false ∧ spX X.K W g [x, y] H Q (EX X.K W PX)
theorem ip_ownI {op : Operator} (hr : Room k X.A) (tk : Takes X (XW X.K W PX)) : PIp X op (rAugI X op W k PX) := by
  intro pins s σ H x y v u Q I rx ry h
  obtain ⟨a, C, dx, fs, b, C', dy, ws, g, rfl, ha, rfl, hb, ne, hC, hni, ⟨f, h1, h2, F⟩, hC', hsub, q⟩ := h
  cases (show v = Value.ref a from rx)
  cases (show u = Value.ref b from ry)
  obtain ⟨mA, O, _⟩ := ins_get I.hok ha
  obtain ⟨od, J, _⟩ := O.look
  obtain ⟨mA', O', _⟩ := ins_get I.hok hb
  obtain ⟨od', J', _⟩ := O'.look
  obtain ⟨m, fr⟩ := I.fr
  obtain ⟨f', hf'⟩ := hC'.at_
  refine PySem.W.vi_inp2 fr I.ok.mod.kin J J' ne hni hC.sf hC'.sf h1 h2 hC.nr (.inl rfl) hf' hC'.nr (.inl rfl) hsub ?_
  refine wpAny_mono (wpAny_call (run_fnR (us := [.ref a, .ref b]) (vs := [.ref a, .ref b]) F hr (passesX tk) I (.cons rfl (.cons rfl .nil)) q)) (fun z s' hz => ?_) fun _ _ z => z
  obtain ⟨z', H', I', rz, qz⟩ := hz
  exact SlX.cmpback rz ⟨z', H', I', rz, qz⟩
theorem vs_augI (i : Nat) {op : Operator} {x : Str} {w : WE} {pos' : Pos} (tab : List (Addr × GX)) (fam : List (Addr × Addr)) (hN : X.N.Nodup) (he : VE X W e w) (hr : Room k X.A) (tk : Takes X (XW X.K W PX)) (htab : ∀ q ∈ tab, BinC X.K op q.1 ∧ OpM X.prog X.w X.K X.mg X.base W k (PySem.dunder op.info.2) q.1 q.2)
    (hfam : ∀ q ∈ fam, q.1 ≠ q.2 ∧ PySem.W.noInp X.K q.1 op.info.2 = true ∧ BinC X.K op q.2 ∧ PySem.W.subIn X.K (.ref q.2) (.ref q.1) = some false) (hi : X.N[i]? = some x := by rfl) (hx : Loc X.env.scope x := by first | exact Or.inl rfl | exact Or.inr rfl)
    (hf : X.fn x = true ∨ X.env.scope.names.lookup x = some .local := by first | exact .inl rfl | exact .inr rfl | assumption) :
    VS X W (.AugAssign (.Name x pos') op e pos) (fun E ds => slD (ds.getD i .un) fun x => w ds fun y => augI tab fam PX x y fun d => E.nx (ds.set i (.d d))) := by
  refine ps_imp (ps_aug hN hi hx he (ip_ownI (op := op) hr tk) hf) fun D σ H h => ?_
  obtain ⟨M0, H0, oa, ds, E, S, hw, k1, k2, k3, k4⟩ := h
  obtain ⟨xd, e, hp⟩ := slD_of hw
  obtain ⟨v, h1, r⟩ := S.get (getD_get e)
  refine ⟨v, h1, M0, H0, oa, ds, _, S, hp, fun y u H1 hy e1 i1 r1 => ?_⟩
  have S1 := S.step e1 i1
  have rx := r.ext S.mok e1
  cases xd <;> cases y <;> first | exact hy.elim | skip
  rename_i C ks xs C' ks' xs'
  obtain ⟨g, ht, hm, hg⟩ := hy
  obtain ⟨hC, hM⟩ := htab _ ht
  obtain ⟨n1, n2, n3, n4⟩ := hfam _ hm
  have rx' := rx
  have ry' := r1
  obtain ⟨p, dx, us, rfl, _, _, t0, _⟩ := rx'.ins
  obtain ⟨p', dx', us', rfl, _, _, t0', _⟩ := ry'.ins
  exact ⟨p, C, dx, _, p', C', dx', _, g, rfl, t0, rfl, t0', n1, hC, n2, hM, n3, n4, Mx M0 oa, [.ins C ks xs, .ins C' ks' xs'], _, PX, S1.mok, reps_cons rx (reps_cons r1 reps_nil), hg, fun d v H' hp e i r => k1 _ _ _ _ hp ((S1.step e i).set r), fun cls d H' h => S1.xc h⟩
/-! -x -/
def negI (tab : List (Addr × GX)) (PX : D → Prop) : D → (D → Prop) → Prop
  | .ins C ks xs, P => ∃ g, (C, g) ∈ tab ∧ g [.ins C ks xs] P PX
  | .int i, P => P (.int (-i))
  | _, _ => False
def rNegI (X : Cx) (W : Wd) (k : Nat) (PX : D → Prop) : V → Hp → L2.VK → Prop := fun x H Q => ∃ a C dx fs g, x = .ref a ∧ H a = some (.ins C dx fs) ∧ OpM X.prog X.w X.K X.mg X.base W k "__neg__" C g ∧ spX X.K W g [x] H Q (EX X.K W PX)
theorem un_negI (hr : Room k X.A) (tk : Takes X (XW X.K W PX)) : UnR X (unaryOp .USub) (fun x H Q => rU (fun i => .int (-i)) x H Q ∨ rNegI X W k PX x H Q) := by
  intro pins s σ H x v Q I rx h
  rcases h with h | h
  · exact un_neg pins s σ H x v Q I rx h
  obtain ⟨a, C, dx, fs, g, rfl, ha, ⟨f, h1, h2, F⟩, q⟩ := h
  cases (show v = Value.ref a from rx)
  obtain ⟨mA, O, _⟩ := ins_get I.hok ha
  obtain ⟨od, J, _⟩ := O.look
  obtain ⟨m, fr⟩ := I.fr
  exact PySem.W.ksp_neg fr I.ok.mod.kin J h1 h2 (wpAny_call (run_fnR (us := [.ref a]) (vs := [.ref a]) F hr (passesX tk) I (.cons rfl .nil) q))
theorem ve_negI {wa : WE} (tab : List (Addr × GX)) (hr : Room k X.A) (tk : Takes X (XW X.K W PX)) (htab : ∀ q ∈ tab, OpM X.prog X.w X.K X.mg X.base W k "__neg__" q.1 q.2) (ha : VE X W a wa) : VE X W (.UnaryOp .USub a pos) (fun ds P => wa ds fun x => negI tab PX x P) := by
  refine pe_imp (pe_un (un_negI hr tk) ha) fun σ H Q h => ?_
  obtain ⟨M0, H0, oa, ds, P, S, hw, kk⟩ := h
  refine ⟨M0, H0, oa, ds, _, S, hw, fun x v H1 hx e1 i1 r1 => ?_⟩
  have S1 := S.step e1 i1
  cases x <;> first | exact hx.elim | skip
  · rename_i i
    exact .inl ⟨i, r1.int, kk _ _ H1 hx e1 i1 rep_int⟩
  · rename_i C ks xs
    obtain ⟨g, ht, hg⟩ := hx
    have r1' := r1
    obtain ⟨p, dx, us, rfl, nm, l0, t0, r⟩ := r1'.ins
    exact .inr ⟨p, C, dx, _, g, rfl, t0, htab _ ht, Mx M0 oa, [.ins C ks xs], P, PX, S1.mok, reps_cons r1 reps_nil, hg, fun d v H' hp e i r => kk d v H' hp (e1.trans e) i r, fun cls d H' h => S1.xc h⟩
/-! == and != -/
structure EqC (K : PySem.W.Frag) (C : Addr) : Prop where
  ne : PySem.W.findIn K (.ref C) "__ne__" = some (some (.builtin "object.__ne__"))
  mo : PySem.W.mroIn K C (.type "object") = some true
/-- the promise of an __eq__ that raises nothing -/
def eqI (neg : Bool) (f0 : D → D → (D → Prop) → Prop) (tab : List (Addr × (List D → (D → Prop) → Prop))) (fam : List (Addr × Addr)) (bt : List (Addr × String)) : D → D → (D → Prop) → Prop
  | .ins C ks xs, y, P => ∃ g, (C, g) ∈ tab ∧ okR fam bt C y ∧ g [.ins C ks xs, y] (fun d => asBl d fun c => P (.bl (if neg = true then !c else c)))
  | x, y, P => f0 x y P
theorem eqI_of {neg : Bool} {f0 : D → D → (D → Prop) → Prop} {tab : List (Addr × (List D → (D → Prop) → Prop))} {fam : List (Addr × Addr)} {bt : List (Addr × String)} {x y : D} {P : D → Prop} (h : eqI neg f0 tab fam bt x y P) :
    f0 x y P ∨ ∃ C ks xs g, x = .ins C ks xs ∧ (C, g) ∈ tab ∧ okR fam bt C y ∧ g [.ins C ks xs, y] (fun d => asBl d fun c => P (.bl (if neg = true then !c else c))) := by
  cases x <;> first | exact .inl h | (obtain ⟨g, h1, h2, h3⟩ := h; exact .inr ⟨_, _, _, g, rfl, h1, h2, h3⟩)
/-- .. by values -/
structure EqM (P : Program) (w : World) (K : PySem.W.Frag) (mg : Str → Option Value) (base : Heap) (W : Wd) (k : Nat) (C : Addr) (g : List D → (D → Prop) → Prop) : Prop where
  ex : ∃ f, PySem.W.findIn K (.ref C) "__eq__" = some (some (.ref f)) ∧ PySem.W.isFn K (.ref f) = true ∧ FnR P w K mg base CX0 k f (spD K W g)
def rEqI (X : Cx) (neg : Bool) (W : Wd) (k : Nat) : R2 := fun x y H Q => ∃ a C dx fs tb g, x = .ref a ∧ H a = some (.ins C dx fs) ∧ RgV X.K H y tb ∧ PySem.W.notFirst X.K C tb = true ∧ EqC X.K C ∧ EqM X.prog X.w X.K X.mg X.base W k C g ∧
  spD X.K W g [x, y] H (fun z H' => ∃ c, z = .bl c ∧ Q (.bl (if neg = true then !c else c)) H') (fun _ _ _ => False)
theorem op_eqI (hr : Room (k + 1) X.A) (hu : X.A.units + 1 < cLine) : OpR X (compareOp .Eq) (rEqI X false W k) := by
  intro pins s σ H x y v u Q I rx ry h
  obtain ⟨a, C, dx, fs, tb, g, rfl, ha, hy, hn, hE, ⟨f, h1, h2, F⟩, q⟩ := h
  cases (show v = Value.ref a from rx)
  obtain ⟨mA, O, _⟩ := ins_get I.hok ha
  obtain ⟨od, J, _⟩ := O.look
  obtain ⟨m, fr⟩ := I.fr
  show wpAny _ _ (richCompare .Eq _ _) _ _ _
  refine PySem.W.cmp_K (op := .Eq) (by omega) fr I.ok.mod.kin J (hy.looks rfl I ry _) hn h1 h2 ?_
  refine wpAny_mono (wpAny_call (run_fnR (us := [.ref a, u]) (vs := [.ref a, y]) (E := fun _ _ _ => False) F (hr.mono (by omega)) (fun _ _ _ _ _ _ _ z => z.elim) I (.cons rfl (.cons ry .nil)) q)) (fun z s' hz => ?_) fun _ _ z => z
  obtain ⟨z', H', I', rz, c, rfl, qz⟩ := hz
  exact SlX.cmpback rz ⟨_, H', I', rz, qz⟩
theorem op_neI (hr : Room (k + 1) X.A) (hu : X.A.units + 1 < cLine) : OpR X (compareOp .NotEq) (rEqI X true W k) := by
  intro pins s σ H x y v u Q I rx ry h
  obtain ⟨a, C, dx, fs, tb, g, rfl, ha, hy, hn, hE, ⟨f, h1, h2, F⟩, q⟩ := h
  cases (show v = Value.ref a from rx)
  obtain ⟨mA, O, _⟩ := ins_get I.hok ha
  obtain ⟨od, J, _⟩ := O.look
  obtain ⟨m, fr⟩ := I.fr
  show wpAny _ _ (richCompare .NotEq _ _) _ _ _
  refine PySem.W.vi_ne hu fr I.ok.mod.kin J (hy.looks rfl I ry _) hn hE.ne h1 h2 hE.mo ?_
  refine wpAny_mono (wpAny_call (SlX.run_at (us := [.ref a, u]) (ws := [.ref a, y]) (E := fun _ _ _ => False) F (hr.in1) I.env0.in1 (fun _ _ _ _ _ _ _ z => z.elim) I (.cons rfl (.cons ry .nil)) q)) (fun z s' hz => ?_) fun _ _ z => z
  obtain ⟨z', H', I', rz, c, rfl, qz⟩ := hz
  cases (show z = Value.bool c from rz)
  exact ⟨c, rfl, .bl (!c), H', I', rfl, qz⟩
theorem lift_eqI {neg : Bool} {f0 : D → D → (D → Prop) → Prop} {r0 : R2} {tab : List (Addr × (List D → (D → Prop) → Prop))} {fam : List (Addr × Addr)} {bt : List (Addr × String)} (hf : LiftOp X.K W f0 r0) (htab : ∀ q ∈ tab, EqC X.K q.1 ∧ EqM X.prog X.w X.K X.mg X.base W k q.1 q.2)
    (hfam : ∀ q ∈ fam, PySem.W.notFirst X.K q.1 (.ref q.2) = true) (hbt : ∀ q ∈ bt, PySem.W.notFirst X.K q.1 (.type q.2) = true) : LiftOp X.K W (eqI neg f0 tab fam bt) (fun x y H Q => r0 x y H Q ∨ rEqI X neg W k x y H Q) := by
  intro M H x y v u P Q m r1 r2 h kk
  rcases eqI_of h with h | ⟨C, ks, xs, g, rfl, ht, hok, hg⟩
  · exact .inl (hf M H x y v u P Q m r1 r2 h kk)
  · refine .inr ?_
    have r1' := r1
    obtain ⟨p, dx, us, rfl, nm, l0, t0, r⟩ := r1'.ins
    obtain ⟨hC, hM⟩ := htab _ ht
    obtain ⟨tb, hrg, q1, q2⟩ := rep_rgv r2 ((okR_cases hok).elim (fun ⟨C', ks', xs', e, _⟩ => .inl ⟨C', ks', xs', e⟩) fun z => .inr z.1)
    refine ⟨p, C, dx, _, tb, g, rfl, t0, hrg, ?_, hC, hM, M, [.ins C ks xs, y], _, m, reps_cons r1 (reps_cons r2 reps_nil), hg, fun d v H' hp e i r => ?_⟩
    · rcases okR_cases hok with ⟨C', ks', xs', e, hm⟩ | ⟨hn, hm⟩
      · rw [q1 _ _ _ e]; exact hfam _ hm
      · rw [q2 hn]; exact hbt _ hm
    · obtain ⟨c, rfl, hc⟩ := asBl_of hp
      exact ⟨c, r.bl, kk _ _ H' hc e i rep_bl⟩
/-! calling an instance -/
theorem ve_callI {fe : Expr} {C g : Addr} {gx : GX} {wf : WE} {l : WL} (hf : VE X W fe wf) (c : StX.CallO X.K C g) (F : FnR X.prog X.w X.K X.mg X.base (L2.CX X.prog X.w) k g (spX X.K W gx)) (hr : Room k X.A) (tk : Takes X (XW X.K W PX)) (ha : VA X W (e :: es) l)
    (ht : eval (.Call fe (e :: es) [] pos) X.env = (do callWith pos (← eval fe X.env) [] (backTo pos (starEach (e :: es) X.env)) (backToKw pos (keywordEach [] X.env))) := by rfl)
    (he : starEach (e :: es) X.env = (false, eval e X.env) :: starEach es X.env := by rfl) (hpl : (backTo pos (starEach es X.env)).any (·.1) = false := by rfl) :
    VE X W (.Call fe (e :: es) [] pos) (fun ds P => wf ds fun y => match y with | .ins C' ks ys => C' = C ∧ l ds fun xs => gx (.ins C' ks ys :: xs) P PX | _ => False) := by
  refine pe_imp (StX.pe_callO hf c F hr (passesX tk) ha ht he hpl) fun σ H Q h => ?_
  obtain ⟨M0, H0, oa, ds, P, S, hw, kk⟩ := h
  refine ⟨M0, H0, oa, ds, _, S, hw, fun y v H1 hy e1 i1 r1 => ?_⟩
  have S1 := S.step e1 i1
  cases y <;> first | exact hy.elim | skip
  rename_i C' ks ys
  obtain ⟨rfl, hy⟩ := hy
  have r1' := r1
  obtain ⟨p, dx, us, rfl, nm, l0, t0, r⟩ := r1'.ins
  refine ⟨p, rfl, M0, H0, oa, ds, _, S1, hy, fun xs vs H2 hx e2 i2 r2 => ?_⟩
  have S2 := S1.step e2 i2
  have r1'' := r1.ext S1.mok e2
  obtain ⟨p', dx', us', e', nm', l0', t0', r'⟩ := r1''.ins
  cases e'
  exact ⟨.inr ⟨dx', _, t0'⟩, Mx M0 oa, .ins C' ks ys :: xs, P, PX, S2.mok, reps_cons r1'' r2, hx, fun d v H' hp e i r => kk d v H' hp ((e1.trans e2).trans e) i r, fun cls d H' h => S2.xc h⟩
end
end VL
namespace VL
open PySem PySem.Spec PyProof.Rows L2
section
variable {X : Cx} {W : Wd} {e : Expr} {kws : List Keyword} {pos p px : Pos}
theorem vk_nil : VK X W [] wNil := pk_imp pk_nil fun σ H Q ⟨M0, H0, oa, ds, P, S, hw, k⟩ => k [] [] H hw (Ext.refl H) S.wi reps_nil
theorem vk_cons {w : WE} {l : WL} {nm : Option Str} {kpos : Pos} (he : VE X W e w) (hr : VK X W kws l) : VK X W (⟨nm, e, kpos⟩ :: kws) (wCons w l) := by
  refine pk_imp (pk_cons he hr) fun σ H Q h => ?_
  obtain ⟨M0, H0, oa, ds, P, S, hw, k⟩ := h
  refine ⟨M0, H0, oa, ds, _, S, hw, fun d v H1 hd e1 i1 r1 => ?_⟩
  have S1 := S.step e1 i1
  exact ⟨M0, H0, oa, ds, _, S1, hd, fun xs vs H2 hp e2 i2 r2 => k _ _ H2 hp (e1.trans e2) i2 (reps_cons (r1.ext S1.mok e2) r2)⟩
/-! isinstance of an own class -/
structure IsC (K : PySem.W.Frag) (C : Addr) : Prop where
  cl : Cls K C
  ha : PySem.W.findIn K (.ref C) "__class__" = some (some (.builtin "object.__class__"))
  hn : PySem.W.specialIn K (.builtin "object.__class__") "__get__" = some (some (.builtin "getset_descriptor.__get__"))
  htk : PySem.W.takesIn K (.builtin "object.__class__") = some true
  hm : PySem.W.mroIn K C (.type "object") = some true
def isCD (tab : List (Addr × Bool)) (tys : List String) : D → (D → Prop) → Prop
  | .ins C _ _, P => ∃ b, (C, b) ∈ tab ∧ P (.bl b)
  | y, P => noHnd y = true ∧ tyN y ∈ tys ∧ P (.bl false)
theorem isCD_of {tab : List (Addr × Bool)} {tys : List String} {y : D} {P : D → Prop} (h : isCD tab tys y P) : (∃ C ks xs b, y = .ins C ks xs ∧ (C, b) ∈ tab ∧ P (.bl b)) ∨ (noHnd y = true ∧ tyN y ∈ tys ∧ P (.bl false)) := by
  cases y <;> first | (obtain ⟨b, h1, h2⟩ := h; exact .inl ⟨_, _, _, b, rfl, h1, h2⟩) | exact .inr h
theorem ve_isiC {x : Str} {C0 : Addr} (tab : List (Addr × Bool)) (tys : List String) {w : WE} (hg : Gl X "isinstance") (hm : X.mg "isinstance" = none) (hv : bootBuiltins "isinstance" = some (.builtin "isinstance")) (ha : VE X W e w) (hgT : Gl X x) (hmT : X.mg x = some (.ref C0))
    (htab : ∀ q ∈ tab, IsC X.K q.1 ∧ PySem.W.kitOne X.K (.ref q.1) (.ref C0) = some q.2) (htys : ∀ T ∈ tys, PySem.W.kitOne X.K (.type T) (.ref C0) = some false) (hdb : (x == ("__debug__" : Str)) = false := by decide)
    (hs : starEach [e, .Name x px] X.env = (false, eval e X.env) :: starEach [.Name x px] X.env := by rfl) (hpl : (backTo pos (starEach [.Name x px] X.env)).any (·.1) = false := by rfl) (hs2 : starEach [.Name x px] X.env = (false, eval (.Name x px) X.env) :: starEach [] X.env := by rfl) :
    VE X W (.Call (.Name "isinstance" p) [e, .Name x px] [] pos) (fun ds P => w ds fun d => isCD tab tys d P) := by
  have hT : PE X (.Name x px) (tC (.ref C0)) := pe_glob hgT hmT rfl hdb
  refine pe_imp (pe_callB call_isi hg hm hv (pa_cons ha (pa_cons hT pa_nil hs2) hs) (by decide) (by decide) hs hpl) fun σ H Q h => ?_
  obtain ⟨M0, H0, oa, ds, P, S, hw, k⟩ := h
  refine ⟨M0, H0, oa, ds, _, S, hw, fun d v H1 hx e1 i1 r1 => ?_⟩
  show rIsi X.K [v, .ref C0] H1 Q
  rcases isCD_of hx with ⟨C, ks, xs, b, rfl, ht, hp⟩ | ⟨hn, ht, hp⟩
  · obtain ⟨a, dx, us, rfl, _, _, t, _⟩ := r1.ins
    obtain ⟨hC, hk⟩ := htab _ ht
    exact ⟨.ref a, .ref C0, .ref C, .ref C0, b, rfl, .own C0, .base (.ins t hC.cl hC.ha hC.hn hC.htk hC.hm), hk, k _ _ H1 hp e1 i1 rep_bl⟩
  · exact ⟨v, .ref C0, .type (tyN d), .ref C0, false, rfl, .own C0, r1.ty hn, htys _ ht, k _ _ H1 hp e1 i1 rep_bl⟩
end
end VL
namespace VL
open PySem PySem.Spec PyProof.Rows L2
/-- a test whose parts are all told -/
theorem wor_b {t u : WT} {ds : List Sl} {P : Bool → Prop} (b c : Bool) (h1 : ∀ R : Bool → Prop, R b → t ds R) (h2 : ∀ R : Bool → Prop, R c → u ds R) (h : P (b || c)) : wOr t u ds P := h1 _ (by
  cases b with
  | true => exact h
  | false => exact h2 _ h)
theorem wand_b {t u : WT} {ds : List Sl} {P : Bool → Prop} (b c : Bool) (h1 : ∀ R : Bool → Prop, R b → t ds R) (h2 : ∀ R : Bool → Prop, R c → u ds R) (h : P (b && c)) : wAnd t u ds P := h1 _ (by
  cases b with
  | false => exact h
  | true => exact h2 _ h)
theorem wnot_b {t : WT} {ds : List Sl} {P : Bool → Prop} (b : Bool) (h1 : ∀ R : Bool → Prop, R b → t ds R) (h : P (!b)) : wNot t ds P := h1 _ h
end VL


set_option Elab.async false
set_option linter.all false
set_option maxRecDepth 100000
set_option maxHeartbeats 4000000
/-! f-strings, repr of own classes, constants of a class read at the class -/
namespace PySem.W
open PySem PySem.Spec PySem.Calls PyProof.Rows
section
variable {prog : Program} {w : World} {A : Around} {E : Value → Shared → Prop} {s : Shared} {K : Frag} {x C f : Addr} {ox : Obj} {od : Option Obj}
open Builtin in
theorem vs_repr {Q : Value → Shared → Prop} (hu : A.in1.units < cLine) (X : K.In s.heap) (I : InstAt s.heap x ox C od) (hr : findIn K (.ref C) "__repr__" = some (some (.ref f))) (hf : isFn K (.ref f) = true)
    (h : wpAny (model prog w) A.in1 (call (.ref f) [.ref x]) (fun v s' => ∃ y t, v = .str y t ∧ Q v s') E s) : wpAny (model prog w) A (call (.builtin "repr") [.ref x]) Q E s := by
  refine Calls.call_function_entry F.kind_repr F.plain_repr F.entry_repr (F.args_repr1 _) ?_
  unfold Builtin.«repr»
  refine wpAny_bind (m := oneArg "repr" _) (wpAny_pure ?_)
  refine wpAny_bind (m := cRoomFor _ _) (wpAny_cRoomFor hu ?_)
  refine wpAny_bind (m := specialOf _ _) (wpAny_bind (I.type.here ((looks_findIn X hr).here ?_)))
  refine wpAny_bind (m := callSpecialIfBound? (.ref x) (Str.ofString "__repr__") _) (ifBound_K X I hr hf (wpAny_mono h (fun v s' hq => ?_) fun _ _ y => y))
  obtain ⟨y, t, rfl, q⟩ := hq
  refine wpAny_bind (wpAny_isInstance (T := "str") (b := true) (typeIs_str _ _ _) isSubtype_str_str ?_)
  exact wpAny_pure ⟨_, rfl, q⟩
end
end PySem.W
namespace VL
open PySem PySem.Spec PyProof.Rows L2
section
variable {X : Cx} {W : Wd} {e o : Expr} {es : List Expr} {pos p px : Pos} {k : Nat}
/-! f-strings -/
def wJ : List WE → Str → List Sl → (D → Prop) → Prop
  | [], acc, _, P => P (.str acc)
  | w :: ws, acc, ds, P => w ds fun d => match d with
    | .str y => y.length ≤ 1000 ∧ wJ ws (acc ++ y) ds P
    | .int i => i.natAbs.log2 < 1920 ∧ wJ ws (acc ++ Str.ofString (toString i)) ds P
    | _ => False
inductive VJ (X : Cx) (W : Wd) : List Expr → List WE → Prop where
  | nil : VJ X W [] []
  | lit {e : Expr} {z : Str} {es : List Expr} {ws : List WE} (h : VE X W e (wC (.str z))) (r : VJ X W es ws) : VJ X W (e :: es) (wC (.str z) :: ws)
  | fmt {e : Expr} {w : WE} {pos : Pos} {es : List Expr} {ws : List WE} (h : VE X W e w) (r : VJ X W es ws) : VJ X W (.FormattedValue e (-1) none pos :: es) (w :: ws)
theorem int_len {i : Int} (h : i.natAbs.log2 < 1920) : (Str.ofString (toString i)).length ≤ 2000 := by
  have e := int_text_length_le (k := 1920) (by decide) h
  rw [PySem.ofString_length]; omega
theorem vj_run {es : List Expr} {ws : List WE} (h : VJ X W es ws) : ∃ ts, PJ X es ts ∧ ∀ (σ : L2.St) M0 H0 oa ds (H : Hp) (acc : Str) (P : D → Prop) (Q : Str → Hp → Prop), Sat X.K W M0 H0 oa H σ ds → wJ ws acc ds P → acc.length + 2000 * ws.length ≤ sizeLine →
    (∀ out H', P (.str out) → Ext W H H' → W.I H' → Q out H') → tJs ts acc σ H Q := by
  induction h with
  | nil => exact ⟨[], .nil, fun σ M0 H0 oa ds H acc P Q S hw _ k => k acc H hw (Ext.refl H) S.wi⟩
  | @lit e z es ws h r ih =>
    obtain ⟨ts, h1, h2⟩ := ih
    refine ⟨_ :: ts, .cons h h1, fun σ M0 H0 oa ds H acc P Q S hw hl k => ?_⟩
    refine ⟨M0, H0, oa, ds, fun d => d = .str z, S, rfl, fun d v H1 hd e1 i1 r1 => ?_⟩
    subst hd
    obtain ⟨hz, hw⟩ := hw
    have el := Str.length_append acc z
    rw [List.length_cons] at hl
    refine ⟨z, r1.str, by omega, h2 σ M0 H0 oa ds H1 _ P Q (S.step e1 i1) hw (by omega) fun out H' hp e i => k out H' hp (e1.trans e) i⟩
  | @fmt e w pos es ws h r ih =>
    obtain ⟨ts, h1, h2⟩ := ih
    refine ⟨_ :: ts, .cons (pe_fmt h) h1, fun σ M0 H0 oa ds H acc P Q S hw hl k => ?_⟩
    refine ⟨M0, H0, oa, ds, _, S, hw, fun d v H1 hd e1 i1 r1 => ?_⟩
    rw [List.length_cons] at hl
    cases d <;> first | exact hd.elim | skip
    · rename_i i
      obtain ⟨hz, hw⟩ := hd
      have li := int_len hz
      have el := Str.length_append acc (Str.ofString (toString i))
      exact .inr ⟨i, r1.int, hz, _, rfl, by omega, h2 σ M0 H0 oa ds H1 _ P Q (S.step e1 i1) hw (by omega) fun out H' hp e i => k out H' hp (e1.trans e) i⟩
    · rename_i y
      obtain ⟨hz, hw⟩ := hd
      have el := Str.length_append acc y
      exact .inl ⟨y, r1.str, by rw [sizeLine_eq]; omega, y, rfl, by omega, h2 σ M0 H0 oa ds H1 _ P Q (S.step e1 i1) hw (by omega) fun out H' hp e i => k out H' hp (e1.trans e) i⟩
theorem ve_fstr {v1 v2 : Expr} {ws : List WE} (h : VJ X W (v1 :: v2 :: es) ws) (hl : ws.length ≤ 100 := by exact Nat.le_of_ble_eq_true rfl) : VE X W (.JoinedStr (v1 :: v2 :: es) pos) (fun ds P => wJ ws Str.empty ds P) := by
  obtain ⟨ts, h1, h2⟩ := vj_run h
  refine pe_imp (pe_joined h1) fun σ H Q hh => ?_
  obtain ⟨M0, H0, oa, ds, P, S, hw, kk⟩ := hh
  exact h2 σ M0 H0 oa ds H Str.empty P _ S hw (by rw [sizeLine_eq]; show 0 + _ ≤ _; omega) fun out H' hp e i => kk _ _ H' hp e i rep_str
/-! repr of an own class -/
theorem bt_repr : bootBuiltins "repr" = some (.builtin "repr") := by decide +kernel
structure RpM (P : Program) (w : World) (K : PySem.W.Frag) (mg : Str → Option Value) (base : Heap) (W : Wd) (k : Nat) (C : Addr) (g : List D → (D → Prop) → Prop) : Prop where
  ex : ∃ f, PySem.W.findIn K (.ref C) "__repr__" = some (some (.ref f)) ∧ PySem.W.isFn K (.ref f) = true ∧ FnR P w K mg base CX0 k f (spD K W g)
def asSt : D → (Str → Prop) → Prop
  | .str y, P => P y
  | _, _ => False
theorem asSt_of {d : D} {P : Str → Prop} (h : asSt d P) : ∃ y, d = .str y ∧ P y := by
  cases d <;> first | exact h.elim | exact ⟨_, rfl, h⟩
def reprI (tab : List (Addr × (List D → (D → Prop) → Prop))) : List D → (D → Prop) → Prop
  | [.ins C ks xs], P => ∃ g, (C, g) ∈ tab ∧ g [.ins C ks xs] (fun d => asSt d fun y => P (.str y))
  | _, _ => False
def rReprI (X : Cx) (W : Wd) (k : Nat) : List V → Hp → L2.VK → Prop := fun vs H Q => ∃ a C dx fs g, vs = [.ref a] ∧ H a = some (.ins C dx fs) ∧ RpM X.prog X.w X.K X.mg X.base W k C g ∧
  spD X.K W g [.ref a] H (fun z H' => ∃ y, z = .str y ∧ Q (.str y) H') (fun _ _ _ => False)
theorem call_reprI (hr : Room (k + 1) X.A) (hu : X.A.units + 1 < cLine) : CallR X (.builtin "repr") (rReprI X W k) := by
  intro pins s σ H xs us Q I r h
  obtain ⟨a, C, dx, fs, g, rfl, ha, ⟨f, h1, h2, F⟩, q⟩ := h
  obtain ⟨u, rfl, rx⟩ := vals1 r
  cases (show u = Value.ref a from rx)
  obtain ⟨mA, O, _⟩ := ins_get I.hok ha
  obtain ⟨od, J, _⟩ := O.look
  refine PySem.W.vs_repr (by show X.A.units + 1 < cLine; exact hu) I.kIn J h1 h2 ?_
  refine wpAny_mono (wpAny_call (SlX.run_at (us := [.ref a]) (ws := [.ref a]) (E := fun _ _ _ => False) F (hr.in1) I.env0.in1 (fun _ _ _ _ _ _ _ z => z.elim) I (.cons rfl .nil) q)) (fun z s' hz => ?_) fun _ _ z => z
  obtain ⟨z', H', I', rz, y, rfl, qz⟩ := hz
  obtain ⟨t, rfl⟩ := (show ∃ t, z = Value.str y t from rz)
  exact ⟨y, t, rfl, .str y, H', I', ⟨t, rfl⟩, qz⟩
theorem lift_reprI {tab : List (Addr × (List D → (D → Prop) → Prop))} (htab : ∀ q ∈ tab, RpM X.prog X.w X.K X.mg X.base W k q.1 q.2) : LiftCall X.K W (reprI tab) (rReprI X W k) := by
  intro M H xs vs P Q m r h kk
  match xs, h with
  | [.ins C ks ys], h =>
    obtain ⟨g, ht, hg⟩ := h
    obtain ⟨v, rfl, r1⟩ := r.one
    have r1' := r1
    obtain ⟨p, dx, us, rfl, nm, l0, t0, r'⟩ := r1'.ins
    refine ⟨p, C, dx, _, g, rfl, t0, htab _ ht, M, [.ins C ks ys], _, m, reps_cons r1 reps_nil, hg, fun d v H' hp e i r => ?_⟩
    obtain ⟨y, rfl, hc⟩ := asSt_of hp
    exact ⟨y, r.str, kk _ _ H' hc e i rep_str⟩
/-! C.f, a constant of the class C -/
theorem ve_cval {x : Str} {C : Addr} {mc u : Value} {f z : Str} (hg : Gl X x) (hm : X.mg x = some (.ref C)) (r : ClX.CRead X.K C mc) (c : ClX.CVal X.K C mc f (.str z) u) (hdb : (x == ("__debug__" : Str)) = false := by decide)
    (hb : attributeBase (.Name x px) f X.env (eval (.Name x px) X.env) = eval (.Name x px) X.env := by rfl) : VE X W (.Attribute (.Name x px) f pos) (wC (.str z)) := by
  have hT : PE X (.Name x px) (tC (.ref C)) := pe_glob hg hm rfl hdb
  refine pe_imp (ClX.pe_cval hT hb) fun σ H Q h => ?_
  obtain ⟨M0, H0, oa, ds, P, S, hw, kk⟩ := h
  exact ⟨C, mc, .str z, u, rfl, r, c, kk _ _ H hw (Ext.refl H) S.wi rep_str⟩
/-! C.m(..), m a staticmethod of the class C -/
structure StM (K : PySem.W.Frag) (C : Addr) (m : Str) (f : Addr) : Prop where
  ex : ∃ (mc : Value) (p : Addr) (rest : List Value), ClX.CRead K C mc ∧ PySem.W.findCls K (.ref C) mc m = some (.get (.builtin "staticmethod.__get__") (.ref p) .none (.ref C)) ∧ PySem.W.recIn K p "staticmethod" = some (.ref f :: rest)
theorem pe_smeth {CX : CXT} {f C : Addr} {fd : FuncData} {ps : List Str} {sp : Sp} {dvs : List V} {ds : List Value} {E : XK} {t : TA} {x m : Str} {apos : Pos} {pl : Sem Bool} (hg : Gl X x) (hm : X.mg x = some (.ref C)) (c : StM X.K C m f)
    (F : FnOk X.prog X.w X.K X.mg X.base CX k f fd ps sp) (hr : Room k X.A) (hk : PySem.W.keepIn X.K (.ref f) = true) (hb : Binds X.K fd ps ds) (hd : Vals dvs ds) (hx : Passes CX X E) (ha : PA X (e :: es) t) (hdb : (x == ("__debug__" : Str)) = false := by decide)
    (hst : starEach (e :: es) X.env = (false, eval e X.env) :: starEach es X.env := by rfl) (hpl : (backTo pos (starEach es X.env)).any (·.1) = false := by rfl)
    (ht : eval (.Call (.Attribute (.Name x px) m apos) (e :: es) [] pos) X.env = (do
      let ov ← eval (.Name x px) X.env
      standAt apos.atName
      let (f, first) ← holding [ov] (getMethod ov m pl)
      callWith pos f first (backTo pos (starEach (e :: es) X.env)) (backToKw pos (keywordEach [] X.env))) := by rfl) :
    PE X (.Call (.Attribute (.Name x px) m apos) (e :: es) [] pos) (tCall sp dvs E t) := by
  have hT : PE X (.Name x px) (tC (.ref C)) := pe_glob hg hm rfl hdb
  obtain ⟨mc, p, rest, r, hf, hp⟩ := c
  refine ⟨fun pins s σ H Q I h => ?_⟩
  refine PySem.W.methodCall_KW (pl := pl) (thn (hT.run pins s σ H (fun y H1 => y = .ref C ∧ H1 = H) I ⟨rfl, rfl⟩) fun u s1 ⟨y, H1, I1, rx, ex, eh⟩ => ?_) ht
  subst ex eh
  obtain rfl : u = Value.ref C := rx
  refine PySem.W.method_cls I1.kIn r.ga (PySem.W.cls_bind I1.kIn r.rd hf (wpAny_call (PySem.W.sm_get (s := { s1 with toks := s1.toks + 1 }) I1.kIn hp (PySem.W.handed_on rfl ?_))))
  have I2 := I1.tok (s1.toks + 1)
  refine PySem.W.callWith_K (h₀ := X.base) I2.ok.mod.kin hk (thn (ha.run pos pins _ σ H1 _ I2 h) fun us s3 ⟨vs, H2, I3, rv, q2⟩ => ⟨I3.kIn, ?_⟩) hst hpl
  exact run_fn F hr hb hd hx I3 rv q2
theorem ve_smethX {PX : D → Prop} {g : List D → (D → Prop) → (D → Prop) → Prop} {l : WL} {f C : Addr} {fd : FuncData} {ps : List Str} {dvs : List V} {dds : List D} {x m : Str} {apos : Pos} {pl : Sem Bool} (hg : Gl X x) (hm : X.mg x = some (.ref C)) (c : StM X.K C m f)
    (F : FnOk X.prog X.w X.K X.mg X.base (L2.CX X.prog X.w) k f fd ps (spX X.K W g)) (hr : Room k X.A) (hk : PySem.W.keepIn X.K (.ref f) = true) (hb : ∃ ds, Vals dvs ds ∧ Binds X.K fd ps ds) (tk : Takes X (XW X.K W PX)) (hdd : ∀ M H, Reps X.K M H dds dvs) (ha : VA X W (e :: es) l) (hdb : (x == ("__debug__" : Str)) = false := by decide)
    (hst : starEach (e :: es) X.env = (false, eval e X.env) :: starEach es X.env := by rfl) (hpl : (backTo pos (starEach es X.env)).any (·.1) = false := by rfl)
    (ht : eval (.Call (.Attribute (.Name x px) m apos) (e :: es) [] pos) X.env = (do
      let ov ← eval (.Name x px) X.env
      standAt apos.atName
      let (f, first) ← holding [ov] (getMethod ov m pl)
      callWith pos f first (backTo pos (starEach (e :: es) X.env)) (backToKw pos (keywordEach [] X.env))) := by rfl) :
    VE X W (.Call (.Attribute (.Name x px) m apos) (e :: es) [] pos) (wCallX (fun xs P PX => g (xs ++ dds) P PX) PX l) := by
  obtain ⟨ds0, hd, hb⟩ := hb
  refine pe_imp (pe_smeth hg hm c F hr hk hb hd (passesX tk) ha hdb hst hpl ht) fun σ H Q h => ?_
  obtain ⟨M0, H0, oa, ds, P, S, hw, kk⟩ := h
  refine ⟨M0, H0, oa, ds, _, S, hw, fun xs vs H1 hx e1 i1 r1 => ?_⟩
  have S1 := S.step e1 i1
  exact ⟨Mx M0 oa, xs ++ dds, P, PX, S1.mok, r1.app (hdd _ _), hx, fun d v H' hp e i r => kk d v H' hp (e1.trans e) i r, fun cls d H' h => S1.xc h⟩
end
end VL

set_option Elab.async false
set_option linter.all false
set_option maxRecDepth 100000
set_option maxHeartbeats 4000000
/-! VO: lists that come out of a call and are nobody else's. -/
namespace VL
open PySem PySem.Spec PyProof.Rows L2
/-- the scope of the comprehension that a def returns -/
def retScope0 (st : Stmt) : Scope := match defBody st with
  | [.Return (some (.ListComp _ _ sc _)) _] => sc
  | _ => defScope st
/-- .. as a comprehension within it sees it -/
def relS (sc p : Scope) : Scope := { sc with names := sc.names.map fun (n, k) => if (k == NameKind.free && p.kind == .function && p.names.lookup n == some .cell) then (n, NameKind.cell) else (n, k) }
def retScope (st : Stmt) : Scope := relS (retScope0 st) (defScope st)
theorem relS_is {sc : Scope} {env : Env} : relabel sc env = relS sc env.scope := rfl
/-- a promise: the result is a new list -/
def spO (K : PySem.W.Frag) (W : Wd) (g : List D → (List D → Prop) → Prop) : Sp := fun vs H Q _ => ∃ M ds P, MOk W M H ∧ Reps K M H ds vs ∧ g ds P ∧
  ∀ acc us Dl H', P acc → H Dl = none → Ext W H H' → W.I H' → H' Dl = some (.lst us) → Reps K (fun a => M a ∨ a = Dl) H' acc us → Q (.ref Dl) H'
theorem mx_none {M : Addr → Prop} {Dl : Addr} : Mx (fun a => M a ∨ a = Dl) (fun _ => none) = fun a => M a ∨ a = Dl := by
  funext a
  refine propext ⟨fun z => z.elim id fun ⟨_, y⟩ => (by cases y), fun z => .inl z⟩
theorem mx_or {M : Addr → Prop} {Dl : Addr} {oa : Nat → Option Addr} : (fun a => Mx M oa a ∨ a = Dl) = Mx (fun a => M a ∨ a = Dl) oa := by
  funext a
  refine propext ⟨fun z => z.elim (fun z => z.elim (fun z => .inl (.inl z)) .inr) (fun z => .inl (.inr z)), fun z => z.elim (fun z => z.elim (fun z => .inl (.inl z)) .inr) fun z => .inl (.inr z)⟩
/-- a def that is one return of a new list -/
theorem vfnO {P : Program} {w : World} {K : PySem.W.Frag} {mg : Str → Option Value} {base : Heap} {W : Wd} {x qual : Str} {st : Stmt} {f : Addr} {fd : FuncData} {N ps : List Str} {k : Nat} {g : List D → (List D → Prop) → Prop} {e : Expr} {rpos : Pos} (F : Fun K x qual st f fd) (S : FnScope N ps (defScope st))
    (hst : defBody st = [.Return (some e) rpos]) (len : ∀ ds P, g ds P → ds.length = ps.length)
    (hb : ∃ wl : WL, (∀ (cdv : Value) (A : Around) (outer : List Env) (s : Shared) (H : Hp) (E : XK), Room k (A.deeper (envOfC qual (defScope st) s.heap.objs.size f cdv)) → PE (cxOf CX0 P w K mg base N qual (defScope st) f cdv A outer s H E).nox e (LEo K W.pl wl)) ∧
      ∀ ds Q, g ds Q → wl (startD N ds) Q) : FnOk P w K mg base CX0 (k + 1) f fd ps (spO K W g) := by
  obtain ⟨wl, h1, h2⟩ := hb
  refine F.ok S (fun vs H Q E h => ?_) (fun cdv A outer s H vs Q E hr h => ⟨_, (by rw [hst]; exact pss_one (ps_ret (h1 cdv A outer s H E hr))), ?_⟩)
  · obtain ⟨M, ds, P, m, r, hg, _⟩ := h
    rw [r.len, len ds P hg]
  · obtain ⟨M, ds, P, m, r, hg, k⟩ := h
    have hl : ds.length ≤ N.length := by
      have q := congrArg List.length S.pre
      rw [List.length_take] at q
      rw [len ds P hg]
      omega
    refine ⟨M, H, fun _ => none, startD N ds, P, sat_start (W := W.pl) ⟨m.wm, m.live, m.wi, m.nb, m.nx⟩ r hl (fun _ z => z.elim) (fun _ _ _ z => by cases z), h2 ds P hg, fun acc us Dl H' hp hn e i hD r' => ?_⟩
    rw [mx_none] at r'
    exact k acc us Dl H' hp hn e i hD r'
section
variable {X : Cx} {W : Wd} {e : Expr} {es : List Expr} {pos : Pos}
/-- f(..), the result a new list -/
theorem ve_callO {CX : CXT} {k : Nat} {f : Addr} {fd : FuncData} {ps : List Str} {g : List D → (List D → Prop) → Prop} {dvs : List V} {dds : List D} {ds : List Value} {x : Str} {p : Pos} {l : WL} {E : XK}
    (F : FnOk X.prog X.w X.K X.mg X.base CX k f fd ps (spO X.K W g)) (hr : Room k X.A) (hg : Gl X x) (hm : X.mg x = some (.ref f)) (hk : PySem.W.keepIn X.K (.ref f) = true) (hb : Binds X.K fd ps ds) (hd : Vals dvs ds) (hx : Passes CX X E) (hdd : ∀ M H, Reps X.K M H dds dvs)
    (ha : VA X W (e :: es) l) (hdb : (x == ("__debug__" : Str)) = false := by decide) (he : starEach (e :: es) X.env = (false, eval e X.env) :: starEach es X.env := by rfl) (hpl : (backTo pos (starEach es X.env)).any (·.1) = false := by rfl) :
    PE X (.Call (.Name x p) (e :: es) [] pos) (LEo X.K W fun ds P => l ds fun xs => g (xs ++ dds) P) := by
  refine pe_imp (pe_call F hr hg hm hk hb hd hx ha hdb he hpl) fun σ H Q h => ?_
  obtain ⟨M0, H0, oa, ds, P, S, hw, k⟩ := h
  refine ⟨M0, H0, oa, ds, _, S, hw, fun xs vs H1 hx e1 i1 r1 => ?_⟩
  have S1 := S.step e1 i1
  refine ⟨Mx M0 oa, xs ++ dds, P, S1.mok, r1.app (hdd _ _), hx, fun acc us Dl H' hp hn e i hD r => ?_⟩
  have nA : ¬ W.A Dl := fun z => W.live _ _ i1 z hn
  have hn0 : H Dl = none := by
    cases q : H Dl with
    | none => rfl
    | some o => rw [e1 Dl o nA q] at hn; cases hn
  rw [mx_or] at r
  exact k acc us Dl H' hp hn0 (e1.trans e) i hD r
/-- a new list, as data -/
theorem ve_ofO {w : WL} (he : PE X e (LEo X.K W w)) : VE X W e (fun ds P => w ds fun acc => P (.lst acc)) := by
  refine pe_imp he fun σ H Q h => ?_
  obtain ⟨M0, H0, oa, ds, P, S, hw, k⟩ := h
  refine ⟨M0, H0, oa, ds, _, S, hw, fun acc us Dl H' hp hn e i hD r => ?_⟩
  have hMD : ¬ Mx M0 oa Dl := S.mok.fresh hn
  exact k _ _ H' hp e i (rep_lst (.inl ⟨hMD, .inl hD⟩) (r.car fun b o n h => ⟨fun z => n (z.elim (fun z => .inl (.inl z)) .inr), h⟩))
/-- x = e, e a new list: it is the def's own -/
theorem vs_setO (i : Nat) {x : Str} {w : WL} {pos' : Pos} (hN : X.N.Nodup) (he : PE X e (LEo X.K W w)) (hi : X.N[i]? = some x := by rfl) (hx : Loc X.env.scope x := by first | exact Or.inl rfl | exact Or.inr rfl) (hs : swapsWith e (some (.Name x pos')) pos.line X.env = pure false := by rfl)
    (hf : X.fn x = true ∨ X.env.scope.names.lookup x = some .local := by first | exact .inl rfl | exact .inr rfl | assumption) : VS X W (.Assign [.Name x pos'] e pos) (fun E ds => i < ds.length ∧ w ds fun acc => E.nx (ds.set i (.ml acc))) := by
  refine ps_imp (ps_set hN hi hx he hs hf) fun D σ H h => ?_
  obtain ⟨M0, H0, oa, ds, E, S, ⟨hl, hw⟩, k1, k2, k3, k4⟩ := h
  exact ⟨M0, H0, oa, ds, _, S, hw, fun acc us Dl H' hp hn e wi' hD r => k1 _ _ _ _ hp (S.takeown hl hn e wi' hD r)⟩
/-- [.. for ..], a new list -/
theorem ve_lcO {elt tg iter : Expr} {ifs : List Expr} {scope : Scope} {own : List (Str × Nat)} {wi : WI} {g : WG} {t : WT} {w : WE} (hc : X.calm = true) (hN : X.N.Nodup) (hi : VI X W tg iter wi) (ok : BlkOk X.N X.env.scope scope own)
    (hg : ∀ (s : Shared) (H : Hp) (C : Addr) (cl : List (Str × Addr)) (fp : List Addr), VG (X.blk s H scope (compEnvC scope cl C X.env) fp) W (own.map (·.2)) tg g) (ht : ∀ (s : Shared) (H : Hp) (C : Addr) (cl : List (Str × Addr)) (fp : List Addr), VTs (X.blk s H scope (compEnvC scope cl C X.env) fp) W ifs t)
    (he : ∀ (s : Shared) (H : Hp) (C : Addr) (cl : List (Str × Addr)) (fp : List Addr), VE (X.blk s H scope (compEnvC scope cl C X.env) fp) W elt w) (hs : ∀ x, foldedSetIterable iter X.env x = pure x := by intro _; rfl) :
    PE X (.ListComp elt [⟨tg, iter, ifs, 0⟩] scope pos) (LEo X.K W (wLcO wi g t w (own.map (·.2)))) := pe_imp (pe_lc hc hN hi ok hg ht he hs) fun σ H Q => le_lco
/-- f() -/
theorem ve_call0 {CX : CXT} {k : Nat} {f : Addr} {fd : FuncData} {ps : List Str} {g : List D → (D → Prop) → Prop} {dvs : List V} {dds : List D} {ds : List Value} {x : Str} {p : Pos} {E : XK}
    (F : FnOk X.prog X.w X.K X.mg X.base CX k f fd ps (spD X.K W g)) (hr : Room k X.A) (hg : Gl X x) (hm : X.mg x = some (.ref f)) (hk : PySem.W.keepIn X.K (.ref f) = true) (hb : Binds X.K fd ps ds) (hd : Vals dvs ds) (hx : Passes CX X E) (hdd : ∀ M H, Reps X.K M H dds dvs)
    (hdb : (x == ("__debug__" : Str)) = false := by decide) : VE X W (.Call (.Name x p) [] [] pos) (fun _ P => g dds P) := by
  refine pe_imp (pe_call0 F hr hg hm hk hb hd hx hdb) fun σ H Q h => ?_
  obtain ⟨M0, H0, oa, ds, P, S, hw, k⟩ := h
  exact ⟨Mx M0 oa, dds, P, S.mok, hdd _ _, hw, fun d v H' hp e i r => k d v H' hp e i r⟩
/-- the ways of one statement that meet behind it -/
theorem meet {α : Type} (R : α → Prop) (sl : α → List Sl) {w u : WS} {E : EndsD} {ds : List Sl} (b : (∀ x, R x → u E (sl x)) → wSeq w u E ds) (a : ∀ x, R x → u E (sl x)) : wSeq w u E ds := b a
theorem meet2 {α : Type} (R : α → Prop) (sl : α → List Sl) {w v u : WS} {E : EndsD} {ds : List Sl} (b : (∀ x, R x → u E (sl x)) → wSeq w (wSeq v u) E ds) (a : ∀ x, R x → u E (sl x)) : wSeq w (wSeq v u) E ds := b a
theorem meet1 (sl : List Sl) {w u : WS} {E : EndsD} {ds : List Sl} (b : u E sl → wSeq w u E ds) (a : u E sl) : wSeq w u E ds := b a
end
end VL

set_option Elab.async false
set_option linter.all false
set_option maxRecDepth 100000
set_option maxHeartbeats 2000000
/-! VX: own exceptions: C.__init__(self, ..) of a base class, what an exception's __init__ leaves, raise C(..). -/
namespace VL
open PySem PySem.Spec PyProof.Rows L2

/-- an own class over ValueError without an __init__ of its own -/
structure ScI (K : PySem.W.Frag) (C : Addr) : Prop where
  ex : ∃ mc, ClX.CRead K C mc ∧ PySem.W.findCls K (.ref C) mc "__init__" = some (.val (.builtin "ValueError.__init__"))
section
variable {X : Cx} {e : Expr} {es : List Expr} {ta : TA} {x : Str} {C : Addr} {p1 p2 pos : Pos}
theorem pe_scinit {pl : Sem Bool} (hg : Gl X x) (hm : X.mg x = some (.ref C)) (c : ScI X.K C) (ha : PA X (e :: es) ta) (hdb : (x == ("__debug__" : Str)) = false := by decide)
    (hc : eval (.Call (.Attribute (.Name x p1) "__init__" p2) (e :: es) [] pos) X.env = (do
      let ov ← eval (.Name x p1) X.env
      standAt p2.atName
      let (f, first) ← holding [ov] (getMethod ov "__init__" pl)
      callWith pos f first (backTo pos (starEach (e :: es) X.env)) (backToKw pos (keywordEach [] X.env))) := by rfl)
    (he : starEach (e :: es) X.env = (false, eval e X.env) :: starEach es X.env := by rfl) (hpl : (backTo pos (starEach es X.env)).any (·.1) = false := by rfl) :
    PE X (.Call (.Attribute (.Name x p1) "__init__" p2) (e :: es) [] pos) (tVeI X.K ta) := by
  have hT : PE X (.Name x p1) (tC (.ref C)) := pe_glob hg hm rfl hdb
  obtain ⟨mc, r, hf⟩ := c.ex
  refine ⟨fun pins s σ H Q I h => ?_⟩
  refine PySem.W.methodCall_KW (pl := pl) (thn (hT.run pins s σ H (fun y H1 => y = .ref C ∧ H1 = H) I ⟨rfl, rfl⟩) fun u s1 ⟨y, H1, I1, rx, ex, eh⟩ => ?_) hc
  subst ex eh
  obtain rfl : u = Value.ref C := rx
  refine PySem.W.method_cls I1.kIn r.ga (PySem.W.cls_value I1.kIn r.rd hf (by decide +kernel) ?_)
  have I2 := I1.tok (s1.toks + 1)
  show wpAny _ _ (callWith pos (Value.builtin "ValueError.__init__") [] (backTo pos (starEach (e :: es) X.env)) []) _ _ _
  refine PyProof.Rows.callWith_method1 (thn (ha.run pos pins _ σ H1 _ I2 h) fun us s3 ⟨vs, H2, I3, rv, a, C', ws, ev, hl, T, ea, q⟩ => ?_) he hpl
  subst ev
  cases rv with
  | @cons _ u0 _ ur ra rw' =>
    obtain rfl : u0 = Value.ref a := ra
    have hlen : ur.length ≤ sizeLine := by
      rw [← Paired.length rw', sizeLine_eq]
      omega
    exact oinit_ok T I3 ea hlen fun s' J => ⟨.non, H2, J, rfl, q⟩
end
/-- the fields of an exception, the last stored first: a written text, or an argument -/
abbrev XF := List (Str × (Str ⊕ Nat))
def xfU (F : XF) (ys : List V) : List V := F.map fun p => match p.2 with | .inl z => .str z | .inr i => ys.getD i .non
def xfV (F : XF) (ys : List V) : List (Str × V) := (F.map (·.1)).zip (xfU F ys)
def xfD (F : XF) (ds : List D) : List D := F.map fun p => match p.2 with | .inl z => .str z | .inr i => ds.getD i .non
theorem xf_len (F : XF) (ys : List V) : (xfU F ys).length = (F.map (·.1)).length := by simp [xfU]
theorem xf_reps {K : PySem.W.Frag} {M : Addr → Prop} {H : Hp} {ds : List D} {vs : List V} (r : Reps K M H ds vs) : ∀ F : XF, Reps K M H (xfD F ds) (xfU F vs)
  | [] => reps_nil
  | (n, .inl z) :: F => reps_cons rep_str (xf_reps r F)
  | (n, .inr i) :: F => by
    refine reps_cons ?_ (xf_reps r F)
    show Rep K M H (ds.getD i .non) (vs.getD i .non)
    rw [List.getD_eq_getElem?_getD, List.getD_eq_getElem?_getD]
    cases q : ds[i]? with
    | some d =>
      obtain ⟨v, e, rv⟩ := r.get q
      rw [e]
      exact rv
    | none =>
      have : vs[i]? = none := by
        rw [List.getElem?_eq_none_iff, r.len, ← List.getElem?_eq_none_iff]
        exact q
      rw [this]
      exact rep_non
/-- what an exception's own __init__ leaves -/
def spE (C : Addr) (F : XF) (n : Nat) : Sp := fun vs H Q _ => ∃ a ys H1, vs = .ref a :: ys ∧ ys.length = n ∧ H = upd H1 a (exo a C none) ∧ H1 a = none ∧
  ∀ d H2, H1 d = none → d ≠ a → H2 a = some (exo a C (some d)) → H2 d = some (exd d (xfV F ys)) → (∀ b, b ≠ a → b ≠ d → H2 b = H1 b) → Q .non H2
section
variable {X : Cx} {W : Wd} {e : Expr} {es : List Expr} {l : WL} {x : Str} {C fI : Addr} {k n : Nat} {F : XF} {fd : FuncData} {ps : List Str} {PX : D → Prop} {p pos pos2 : Pos}
def wRaise (C : Addr) (F : XF) (n : Nat) (PX : D → Prop) (l : WL) : WS := fun _ ds => l ds fun xs => xs.length = n ∧ n ≤ 1000 ∧ PX (.ins C (F.map (·.1)) (xfD F xs))
/-- raise C(..) -/
theorem vs_raise (T : OexC X.K C) (iC : PySem.W.findIn X.K (.ref C) "__init__" = some (some (.ref fI))) (tI : PySem.W.typeIn X.K (.ref fI) = some (.type "function")) (F1 : FnOk X.prog X.w X.K X.mg X.base CX0 k fI fd ps (spE C F n)) (hr : Room (k + 1) X.A)
    (hb : Binds X.K fd ps []) (hg : Gl X x) (hm : X.mg x = some (.ref C)) (hc : X.calm = true) (tk : Takes X (XW X.K W PX)) (ha : VA X W (e :: es) l) (hdb : (x == ("__debug__" : Str)) = false := by decide)
    (he : starEach (e :: es) X.env = (false, eval e X.env) :: starEach es X.env := by rfl) (hpl : (backTo pos (starEach es X.env)).any (·.1) = false := by rfl) : VS X W (.Raise (some (.Call (.Name x p) (e :: es) [] pos)) none pos2) (wRaise C F n PX l) := by
  refine ps_imp (ps_raise hc tk (pmk_oex (dvs := []) T iC tI F1 hr hb .nil pass0 hg hm ha hdb he hpl)) fun D σ H h => ?_
  obtain ⟨M0, H0, oa, ds, E, S, hw, _⟩ := h
  refine ⟨M0, H0, oa, ds, _, S, hw, fun xs vs H1 hx e1 i1 r1 => ⟨by rw [r1.len, hx.1]; exact hx.2.1, fun a na => ?_⟩⟩
  obtain ⟨hl, _, hp⟩ := hx
  have r1' := r1.len
  refine ⟨a, vs, H1, by rw [List.append_nil], by rw [r1', hl], rfl, na, fun d H2 nd ne ea ed hrest => ⟨rfl, d, xfV F vs, ea, ed, nd, ?_⟩⟩
  have eH : upd (del H2 a) d (.xd (xfV F vs)) = upd H1 d (.xd (xfV F vs)) := by
    funext b
    by_cases hb1 : b = d
    · rw [hb1, upd_same, upd_same]
    · rw [upd_ne hb1, upd_ne hb1]
      by_cases hb2 : b = a
      · rw [hb2, del_same, na]
      · rw [del_ne hb2, hrest b hb2 hb1]
  rw [eH]
  have f := Full.new (o := HO.xd (xfV F vs)) nd
  refine ⟨C, F.map (·.1), xfD F xs, xfU F vs, d, rfl, rfl, hp, S.fh.trans (S.ext.trans (e1.trans f.ext)), W.keep _ _ i1 f, ?_, xf_len F vs, upd_same⟩
  exact (xf_reps r1 F).car fun b o nb q => ⟨fun z => nb (.inl (S.fm b z)), f b o q⟩
end
/-- an exception in the making: its object, its dict so far, all else as it was -/
structure MidE (H1 G : Hp) (a C d : Addr) (fs : List (Str × V)) : Prop where
  ea : G a = some (exo a C (some d))
  ed : G d = some (exd d fs)
  rest : ∀ b, b ≠ a → b ≠ d → G b = H1 b
theorem MidE.first {H1 : Hp} {a C d : Addr} {p : Str × V} (nd : upd H1 a (exo a C none) d = none) (ne : d ≠ a) : H1 d = none ∧ MidE H1 (upd (upd (upd H1 a (exo a C none)) d (exd d [p])) a (exo a C (some d))) a C d [p] := by
  refine ⟨by rw [upd_ne ne] at nd; exact nd, upd_same, by rw [upd_ne ne, upd_same], fun b h1 h2 => ?_⟩
  rw [upd_ne h1, upd_ne h2, upd_ne h1]
theorem MidE.next {H1 G : Hp} {a C d : Addr} {p : Str × V} {fs : List (Str × V)} (m : MidE H1 G a C d fs) (ne : d ≠ a) : MidE H1 (upd G d (exd d (p :: fs))) a C d (p :: fs) :=
  ⟨by rw [upd_ne (Ne.symm ne)]; exact m.ea, upd_same, fun b h1 h2 => by rw [upd_ne h2]; exact m.rest b h1 h2⟩
/-- a def with defaults that may raise -/
theorem vfnXD {P : Program} {w : World} {K : PySem.W.Frag} {mg : Str → Option Value} {base : Heap} {W : Wd} {x qual : Str} {st : Stmt} {f : Addr} {fd : FuncData} {N ps : List Str} {k : Nat} {g : List D → (D → Prop) → (D → Prop) → Prop} {dvs : List V} {kws : List (Str × V)} (F : FunD K x qual (defArgs st) (defBody st) (defScope st) dvs kws f fd) (S : FnScope N ps (defScope st))
    (len : ∀ ds P PX, g ds P PX → ds.length = ps.length)
    (hb : ∃ wb : (D → Prop) → WS, (∀ (PX : D → Prop) (Mf : Addr → Prop) (Hf : Hp) (cdv : Value) (A : Around) (outer : List Env) (s : Shared) (H : Hp) (E : XK), Room k (A.deeper (envOfC qual (defScope st) s.heap.objs.size f cdv)) →
        Takes (cxOf (L2.CX P w) P w K mg base N qual (defScope st) f cdv A outer s H E) (XW K (W.fx Mf Hf) PX) → VSs (cxOf (L2.CX P w) P w K mg base N qual (defScope st) f cdv A outer s H E) (W.fx Mf Hf) (defBody st) (wb PX)) ∧
      ∀ ds Q PX, g ds Q PX → wb PX (endsD Q) (startD N ds)) : FnOk P w K mg base (L2.CX P w) (k + 1) f fd ps (spX K W g) := by
  obtain ⟨wb, h1, h2⟩ := hb
  refine F.ok (CX := L2.CX P w) S (fun vs H Q E h => ?_) (fun cdv A outer s H vs Q E hr h => ?_)
  · obtain ⟨M, ds, P, PX, m, r, hg, _⟩ := h
    rw [r.len, len ds P PX hg]
  · obtain ⟨M, ds, P', PX, m, r, hg, k, kx⟩ := h
    have hl : ds.length ≤ N.length := by
      have q := congrArg List.length S.pre
      rw [List.length_take] at q
      rw [len ds P' PX hg]
      omega
    refine ⟨LS K (W.fx M H) (wb PX), h1 PX M H cdv A outer s H E hr ((takes_of (E := E) rfl rfl rfl rfl).imp fun cls d σ H' hx => kx cls d H' hx), ?_⟩
    refine ⟨M, H, fun _ => none, startD N ds, endsD P', sat_start (W := W.fx M H) ⟨m.wm, m.live, m.wi, m.nb, m.nx⟩ r hl (fun _ z => z) (fun _ _ _ z => z), h2 ds P' PX hg, fun ds' oa' σ' H' hn S' => ?_, fun d v H' hd e i r' => k d v H' hd e i r', fun _ _ _ _ z => z.elim, fun _ _ _ _ z => z.elim⟩
    exact k .non .non H' hn S'.ext S'.wi rep_non
end VL

set_option Elab.async false
set_option linter.all false
set_option maxRecDepth 100000
set_option maxHeartbeats 2000000
/-! VY: a caught exception: its fields, handed to a def; try: .. except (A, B, C) as e. -/
namespace VL
open PySem PySem.Spec PyProof.Rows L2

/-- the world of one exception's dict -/
def excW (d : Addr) (fs : List (Str × V)) : Wd where
  A b := b = d
  I H := H d = some (.xd fs)
  live := fun H b h hb => by rw [hb, h]; simp
  nx := fun H b φ h hb => by rw [hb, h]; intro z; cases z
  stay := fun H H' h k _ _ => (k d rfl).trans h
def dOf : V → D
  | .str z => .str z
  | v => .hnd v
theorem rep_dOf {K : PySem.W.Frag} {M : Addr → Prop} {H : Hp} (v : V) : Rep K M H (dOf v) v := by
  cases v <;> first | exact rep_str | exact (by unfold dOf Rep; rfl)
theorem dOf_inv {K : PySem.W.Frag} {M : Addr → Prop} {H : Hp} {v u : V} (h : Rep K M H (dOf v) u) : u = v := by
  cases v <;> (unfold dOf Rep at h; exact h)
theorem dOfs_inv {K : PySem.W.Frag} {M : Addr → Prop} {H : Hp} : ∀ {vs us : List V}, Reps K M H (vs.map dOf) us → us = vs
  | [], _, h => h.inv0
  | _ :: _, _, h => by
    obtain ⟨v, r, rfl, h1, h2⟩ := h.inv
    rw [dOf_inv h1, dOfs_inv h2]
/-- the names of the fields of this package's errors -/
def excNames : List Str := ["code", "given", "part", "at", "command", "path", "one", "other", "name", "row", "operation", "most"]
def excB (K : PySem.W.Frag) (C : Addr) : Bool := xfB K C && excNames.all fun n => decide (PySem.W.findIn K (.ref C) n = some none)
structure ExcK (K : PySem.W.Frag) (C : Addr) : Prop where
  xf : XfC K C
  no : ∀ n ∈ excNames, PySem.W.findIn K (.ref C) n = some none
theorem excK_of {K : PySem.W.Frag} {C : Addr} (h : excB K C = true) : ExcK K C := by
  obtain ⟨h1, h2⟩ := Bool.and_eq_true_iff.mp h
  exact ⟨xfB_ok h1, fun n hn => of_decide_eq_true (List.all_eq_true.mp h2 n hn)⟩
structure ExcAt (K : PySem.W.Frag) (d : Addr) (oe : Obj) : Prop where
  ex : ∃ C vs, ExcK K C ∧ oe.cls = .ref C ∧ oe.dict = some d ∧ oe.data = .fields vs
section
variable {X : Cx} {a d : Addr} {oe : Obj} {fs : List (Str × V)} {e : Expr} {w : WE} {pos : Pos} {n : Str}
/-- e.n, e the caught exception, in a def that got it -/
theorem ve_xq (q : ExcAt X.K d oe) (hp : (a, oe) ∈ X.pn) (hn : n ∈ excNames) (he : VE X (excW d fs) e w) (hb : attributeBase e n X.env (eval e X.env) = eval e X.env := by rfl) :
    VE X (excW d fs) (.Attribute e n pos) (fun ds P => w ds fun x => x = .hnd (.ref a) ∧ ∃ v, fs.lookup n = some v ∧ P (dOf v)) := by
  refine ⟨fun pins s σ H Q I h => ?_⟩
  obtain ⟨M0, H0, oa, ds, P, S, hw, kk⟩ := h
  obtain ⟨C, vs, hC, hcls, hdict, hdata⟩ := q.ex
  refine attr_of hb (thn (he.run pins s σ H (fun x H1 => x = .ref a ∧ Ext (excW d fs) H H1 ∧ (excW d fs).I H1 ∧ ∃ v, fs.lookup n = some v ∧ P (dOf v)) I ⟨M0, H0, oa, ds, _, S, hw, fun x v H1 hx e1 i1 r1 => ?_⟩) fun u s1 hh => ?_)
  · obtain ⟨rfl, v', hl, hp⟩ := hx
    have : v = .ref a := by unfold Rep at r1; exact r1
    exact ⟨this, e1, i1, v', hl, hp⟩
  obtain ⟨x, H1, I1, rx, ex, e1, i1, v, hl, hpp⟩ := hh
  subst ex
  obtain rfl : u = Value.ref a := rx
  obtain ⟨ha, _⟩ := I1.pin (a, oe) (List.mem_append_left _ hp)
  have hx : ObjOk X.prog X.w H1 s1.heap d (.xd fs) := I1.hok d _ i1
  obtain ⟨mA, hns, hr⟩ := hx
  obtain ⟨od, ho, hlk⟩ := lookIn_ns hns
  obtain ⟨u, hu, ru⟩ := RelO.some_of (v := v) (o := mA n) (by rw [← hl]; exact hr n)
  have J : PySem.W.InstAt s1.heap a oe C (some od) := ⟨ha, hcls, by unfold PySem.W.notCls; rw [hdata] <;> rfl, by rw [hdict]; exact ho⟩
  exact HandSPX.exc_get I1.kIn J hC.xf.ga hC.xf.gg hC.xf.exC (PySem.W.findObj_own hC.xf.hdC (hC.no n hn) rfl (by rw [hlk, hu])) (handed_of ru) ⟨v, H1, I1.tok _, ru, kk _ _ _ hpp e1 i1 (rep_dOf v)⟩
/-- e.n in the suite -/
theorem pe_xfN {cls : Value} {d : Option Addr} {pn : List (Addr × Obj)} {x : Str} {p1 : Pos} {i : Nat} (hz : Zc cls d oe) (hf : ∃ vs, oe.data = .fields vs) (hn : n ∈ excNames) (hN : X.N[i]? = some x) (hv : Vis X.env.scope x) (hd : (x == ("__debug__" : Str)) = false := by decide) (hcd : (x == ("__classdict__" : Str)) = false := by decide)
    (hb : attributeBase (.Name x p1) n (X.suite a ((a, oe) :: pn)).env (eval (.Name x p1) (X.suite a ((a, oe) :: pn)).env) = eval (.Name x p1) (X.suite a ((a, oe) :: pn)).env := by rfl) :
    PE (X.suite a ((a, oe) :: pn)) (.Attribute (.Name x p1) n pos) (fun σ H Q => σ[i]? = some (some (.ref a)) ∧ ∃ C dd fs v, ExcK X.K C ∧ cls = .ref C ∧ d = some dd ∧ H dd = some (.xd fs) ∧ fs.lookup n = some v ∧ Q v H) := by
  refine ⟨fun pins s σ H Q I h => ?_⟩
  obtain ⟨h1, C, dd, fs, v, hC, hc, hd1, hx, hl, q⟩ := h
  exact (pe_xf (X := X) (C := C) hC.xf (hC.no n hn) hz hf (pe_var (X := X.suite a ((a, oe) :: pn)) (pos := p1) hN hv hd hcd) hb).run pins s σ H Q I ⟨_, h1, rfl, hc, dd, fs, v, hd1, hx, hl, q⟩
end
/-! ### a def that is called with a caught exception -/
/-- the promise of a def that gets the exception p -/
structure FnQ (P : Program) (w : World) (K : PySem.W.Frag) (mg : Str → Option Value) (base : Heap) (k : Nat) (f : Addr) (fd : FuncData) (ps : List Str) (sp : Addr × Obj → List V → Hp → L2.VK → Prop) : Prop where
  len : ∀ p vs H Q, sp p vs H Q → vs.length = ps.length
  run : ∀ (A : Around) (outer : List Env) (s : Shared) (H : Hp) (args : Args) (us : List Value) (vs : List V) (Q : L2.VK) (p : Addr × Obj), L2H.RoomH k A → L2H.PinOk outer H s p → Env0 P w K mg base A outer s H → BindsTo s fd args (ps.zip us) → Vals vs us → sp p vs H Q →
    codeAny (model P w) A (.call (.ref f) args) (CR CX0 outer P w H s Q (fun _ _ _ => False)) s
theorem fnq_of {P : Program} {w : World} {K : PySem.W.Frag} {mg : Str → Option Value} {base : Heap} {k : Nat} {f : Addr} {fd : FuncData} {x qual : Str} {st : Stmt} {N ps : List Str} {sp : Addr × Obj → List V → Hp → L2.VK → Prop} (F : Fun K x qual st f fd) (S : FnScope N ps (defScope st))
    (len : ∀ p vs H Q, sp p vs H Q → vs.length = ps.length)
    (hbody : ∀ (cdv : Value) (A : Around) (outer : List Env) (s : Shared) (H : Hp) (vs : List V) (Q : L2.VK) (p : Addr × Obj), L2H.RoomH k (A.deeper (envOfC qual (defScope st) s.heap.objs.size f cdv)) → sp p vs H Q →
      ∃ t, PSs (L2H.cxH CX0 P w K mg base N qual (defScope st) f cdv A outer s H (fun _ _ _ => False) p) (defBody st) t ∧ t { nx := fun _ H' => Q .non H', rt := Q } (L2.start N vs) H) :
    FnQ P w K mg base (k + 1) f fd ps sp := by
  obtain ⟨⟨oc, od, kV, doc, pm, an, cdv, ct, osl, rfl, lk, hcd⟩, hkp⟩ := F
  refine ⟨len, fun A outer s H args us vs Q p hr hpin e0 hb r hsp => ?_⟩
  have hl := len _ _ _ _ hsp
  have KX : K.In s.heap := e0.mod.kin.keeps fun b o e => (e0.bs b o e).1
  have lim : s.heap.NoLimit := e0.mod.nolimit.keeps fun b o e => (e0.bs b o e).1
  have hkind : ∀ y ∈ ps.zip us, (defScope st).names.lookup y.1 = some .local ∨ ((defScope st).names.lookup y.1 = some .cell ∧ ((cellsFrom (s.heap.objs.size + 1) (defScope st).names []).lookup y.1).isSome = true) := fun ⟨n, v⟩ hy => by
    rcases S.par n (List.of_mem_zip hy).1 with q | q
    · exact .inl q
    · exact .inr ⟨q, PySem.W.cellsFrom_some _ _ _ (.inl q)⟩
  refine codeAny_call_function hr.depth (KX _ _ lk) rfl S.co S.gen rfl (PySem.W.codeRec_of KX hcd) (hb _ _ _ _ ?_)
  refine wpAny_newFunctionEnv_cells S.kind hkind fun env he s1 xx => ?_
  subst he
  refine ⟨lim.keeps xx.toInCall.keep, codeAny_func ?_⟩
  obtain ⟨t, ht, hq⟩ := hbody cdv A outer s H vs Q p (hr.deeper _) hsp
  have I : L2.Inv (L2H.cxH CX0 P w K mg base N qual (defScope st) f cdv A outer s H (fun _ _ _ => False) p) [] (L2.start N vs) H s1 := L2H.inv_startH S hpin e0 hl r xx
  refine wpAny_mono (ht.run [] s1 (L2.start N vs) H _ I hq) (fun fl s' hs => ?_) fun e s' hs => hs
  cases fl with
  | ret u =>
    obtain ⟨v, σ', H', J, rv, q⟩ := hs
    exact ⟨v, H', J.os, J.bare, J.base, J.hok, rv, q⟩
  | next =>
    obtain ⟨σ', H', J, q⟩ := hs
    exact ⟨.non, H', J.os, J.bare, J.base, J.hok, rfl, q⟩
  | brk =>
    obtain ⟨_, _, _, q⟩ := hs
    exact False.elim q
  | cont =>
    obtain ⟨_, _, _, q⟩ := hs
    exact False.elim q
section
variable {X : Cx} {a f : Addr} {oe : Obj} {pos p p1 : Pos} {x y : Str} {i k : Nat} {fd : FuncData} {ps : List Str} {pn : List (Addr × Obj)} {sp : Addr × Obj → List V → Hp → L2.VK → Prop}
/-- f(e) in the suite -/
theorem pe_exarg (F : FnQ X.prog X.w X.K X.mg X.base k f fd ps sp) (hr : L2H.RoomH k (X.suite a ((a, oe) :: pn)).A) (hg : Gl X x) (hm : X.mg x = some (.ref f)) (hk : PySem.W.keepIn X.K (.ref f) = true) (hb : Binds X.K fd ps [])
    (hN : X.N[i]? = some y) (hv : Vis X.env.scope y) (hd : (y == ("__debug__" : Str)) = false := by decide) (hcd : (y == ("__classdict__" : Str)) = false := by decide) (hdb : (x == ("__debug__" : Str)) = false := by decide)
    (he : starEach [.Name y p1] X.env = (false, eval (.Name y p1) X.env) :: starEach [] X.env := by rfl) (hpl : (backTo pos (starEach [] X.env)).any (·.1) = false := by rfl) :
    PE (X.suite a ((a, oe) :: pn)) (.Call (.Name x p) [.Name y p1] [] pos) (fun σ H Q => σ[i]? = some (some (.ref a)) ∧ sp (a, oe) [.ref a] H Q) := by
  refine ⟨fun pins s σ H Q I h => ?_⟩
  obtain ⟨h1, hsp⟩ := h
  refine wpAny_Call_Name_kw (ld_glob I hg hm ?_ hdb)
  have hA : PA (X.suite a ((a, oe) :: pn)) [.Name y p1] _ := pa_cons (pe_var (X := X.suite a ((a, oe) :: pn)) (pos := p1) hN hv hd hcd) pa_nil
  refine PySem.W.callWith_K (h₀ := X.base) I.ok.mod.kin hk (thn (hA.run pos pins s σ H (fun vs H1 => vs = [.ref a] ∧ H1 = H) I ⟨_, h1, rfl, rfl⟩) fun us s1 ⟨vs, H1, I1, rv, ev, eH⟩ => ⟨I1.kIn, ?_⟩) he hpl
  subst ev eH
  have P1 := I1.pin (a, oe) (List.mem_append_left _ List.mem_cons_self)
  have hpin : L2H.PinOk (X.suite a ((a, oe) :: pn)).stack H1 s1 (a, oe) := ⟨P1.1, P1.2.1, fun hm => (List.mem_cons.mp (I1.stkSub a hm)).elim P1.2.2.1 P1.2.2.2.1, P1.2.2.2.2⟩
  have hus : us.length = ps.length := by rw [← Paired.length rv]; exact F.len _ _ _ _ hsp
  have hbi := hb s1 us I1.kIn (by rw [List.append_nil]; exact hus)
  rw [List.append_nil] at hbi
  refine wpAny_call (codeAny_mono (F.run (X.suite a ((a, oe) :: pn)).A (X.suite a ((a, oe) :: pn)).stack s1 H1 ⟨us, []⟩ us [.ref a] Q (a, oe) hr hpin I1.env0 hbi rv hsp) fun r s2 hq => ?_)
  cases r with
  | error er => exact (show False from hq).elim
  | ok fl =>
    cases fl with
    | ret u => exact I1.after hq
    | next => exact False.elim hq
    | brk => exact False.elim hq
    | cont => exact False.elim hq
end
end VL

set_option Elab.async false
set_option linter.all false
set_option maxRecDepth 100000
set_option maxHeartbeats 4000000
/-! VT: try: .. except (A, B, C) as e; a lambda without parameters handed to a def that tries it. -/
namespace VL
open PySem PySem.Spec PyProof.Rows L2
theorem _root_.L2H.RoomH.units {k : Nat} {A : Around} (r : L2H.RoomH k A) : A.units + 64 < cLine := by have := r.un; omega
theorem flyZ_keeps {B : Heap} {l : List Env} {e : Addr} {Z : Obj → Prop} {h h' : Heap} (R : PySem.HandSPX.FlyingZ B l e Z h) (k : ∀ b o, h.get? b = some o → h'.get? b = some o) : PySem.HandSPX.FlyingZ B l e Z h' := by
  obtain ⟨f1, f2, f3, oe, vs, T, oT, ts, he, hz, hd, h1, hnT, hTe, hT, hdT, h3⟩ := R
  exact ⟨fun b o q => k b o (f1 b o q), f2, f3.of_keeps fun b o q _ => ⟨o, k b o q, rfl⟩, oe, vs, T, oT, ts, k _ _ he, hz, hd, h1, hnT, hTe, k _ _ hT, hdT, h3⟩
/-- what 'except (..) as n' wishes of an exception of the body that it takes -/
def wExc3 (K : PySem.W.Frag) (cs : List Value) (i : Nat) (ts : Addr → Value → Option Addr → TS) (D : Ends) : WX := fun cls d σ H => PySem.W.exmAny K cls cs = some true ∧
  ∀ a, H a = none → ts a cls d { nx := fun σ' H' => D.nx (σ'.set i none) H', rt := D.rt, bk := fun σ' H' => D.bk (σ'.set i none) H', ct := fun σ' H' => D.ct (σ'.set i none) H' } (σ.set i (some (.ref a))) H
section
variable {X : Cx} {x1 x2 x3 n : Str} {c1 c2 c3 : Addr} {i kk : Nat} {body suite : List Stmt} {b₀ : Stmt} {np1 np2 np3 tp pos pos' : Pos} {tb : WX → TS} {ts : Addr → Value → Option Addr → TS}
theorem ps_try_tup3 (hs : X.stack = X.env :: X.outer) (hf : X.env.frame = some X.env.locals) (hN : X.N.Nodup) (hi : X.N[i]? = some n) (hln : X.env.kindOf n = some .local) (g1 : Gl X x1) (m1 : X.mg x1 = some (.ref c1)) (g2 : Gl X x2) (m2 : X.mg x2 = some (.ref c2)) (g3 : Gl X x3) (m3 : X.mg x3 = some (.ref c3))
    (hb : ∀ (W : WX) (pn : List (Addr × Obj)) (xe : Value → Shared → Prop), Takes (X.tr pn xe) W → PassesOwn (model X.prog X.w) X.A X.env xe → PSs (X.tr pn xe) body (tb W))
    (hsu : ∀ (a : Addr) (oe : Obj) (cls : Value) (d : Option Addr) (pn : List (Addr × Obj)), Zc cls d oe → (∃ vs, oe.data = .fields vs) → PSs (X.suite a ((a, oe) :: pn)) (b₀ :: suite) (ts a cls d))
    (d1 : (x1 == ("__debug__" : Str)) = false := by decide) (d2 : (x2 == ("__debug__" : Str)) = false := by decide) (d3 : (x3 == ("__debug__" : Str)) = false := by decide) :
    PS X (.Try body [.ExceptHandler (some (.Tuple [.Name x1 np1, .Name x2 np2, .Name x3 np3] kk tp)) (some n) (b₀ :: suite) pos'] [] [] pos) (fun D σ H => tb (wExc3 X.K [.ref c1, .ref c2, .ref c3] i ts D) D σ H) := by
  refine ⟨fun pins s σ H D I h => ?_⟩
  have ok := I.ok
  have hfr : X.A.frames = some (X.env :: X.outer) := by rw [ok.frames, hs]
  refine wpAny_Try_except ?_
  refine wpAny_mono ((hb (wExc3 X.K [.ref c1, .ref c2, .ref c3] i ts D) (X.pn ++ pins) (fun e s₁ => wpAny (model X.prog X.w) X.A (noteFrame e X.env) (fun _ s₂ => wpAny (model X.prog X.w) X.A (setFlight e none) (fun _ s₃ =>
    wpAny (model X.prog X.w) X.A (handleBy e X.env [.ExceptHandler (some (.Tuple [.Name x1 np1, .Name x2 np2, .Name x3 np3] kk tp)) (some n) (b₀ :: suite) pos']) (SP X pins D) X.xe s₃) X.xe s₂) X.xe s₁) (fun u s' xx => ?_) PassesOwn.looking).run [] s σ H D (I.toTry _) h) (fun f s1 hsp => ?_) (fun e s1 he => he)
  · obtain ⟨a, B, sI, pins', σ', H', cls, d, rfl, J', nb, up, sky, na, os, ag, hb1, hyes⟩ := xx
    have J : L2.Inv X pins σ' H' sI := J'.ofTry ok
    have sky' : Sky B (X.env :: X.outer) a (Zc cls d) X.env.locals s'.heap := by rw [← hs]; exact sky
    show wpAny (model X.prog X.w) X.A (noteFrame (.ref a) X.env) _ _ _
    refine Sky.land Zc.steady hfr hf sky' fun h3 fl3 up3 => ?_
    have J3 : L2.Inv X pins σ' H' { s' with heap := h3 } := J.landed nb fl3.1 (up.trans up3) os ag
    obtain ⟨oe3, vs3, he3, hz3, hd3⟩ := fl3.there
    have nfr : a ∉ frs (X.env :: X.outer) := fun hm => by
      obtain ⟨_, o', e', hnf⟩ := fl3.2.2.1.mem hm
      rw [he3] at e'; cases e'
      exact hnf _ hd3
    have nL : a ≠ X.env.locals := fun z => nfr (List.mem_filterMap.mpr ⟨X.env, List.mem_cons_self, by rw [hf, z]⟩)
    have nF : a ∉ X.fs := fun hm => by
      obtain ⟨e, he, q⟩ := List.mem_filterMap.mp hm
      exact nfr (List.mem_filterMap.mpr ⟨e, List.mem_cons_of_mem _ he, q⟩)
    have S3 := J3.suite he3 hd3 na nL nF
    refine wpAny_handleBy_cons (codeAny_handlers_test ?_) (by intro q; cases q)
    have LT : PySem.W.Looks (model X.prog X.w) h3 (typeOf (.ref a)) cls := fun A Q E s k q => wpAny_typeOf_ref (k _ _ he3) (by rw [hz3.1]; exact q)
    refine wpAny_Tuple ?_
    refine wpAny_items_cons (ld_glob (X := X.suite a ((a, oe3) :: (X.pn ++ pins))) S3 g1 m1 ?_ d1)
    refine wpAny_items_cons (ld_glob (X := X.suite a ((a, oe3) :: (X.pn ++ pins))) S3 g2 m2 ?_ d2)
    refine wpAny_items_cons (ld_glob (X := X.suite a ((a, oe3) :: (X.pn ++ pins))) S3 g3 m3 ?_ d3)
    refine wpAny_items_nil ⟨by size_fits, ?_⟩
    have kp : ∀ q o, h3.get? q = some o → (h3.push { cls := .type "tuple", data := .seq [Value.ref c1, .ref c2, .ref c3].toArray }).get? q = some o := fun _ _ z => Heap.get?_push_of_some _ z
    refine (PySem.W.exm_tup3 (J3.kIn.keeps kp) (LT.keeps kp) (Heap.get?_push_size h3 rfl) hb1).here ?_
    have fl5 := flyZ_keeps fl3 kp
    have up5 := (up.trans up3).trans (Heap.UpToSlots.of_keeps kp)
    refine codeAny_handlers_suite_as ?_
    refine PySem.HandSPX.lands_againZ fl5 fun h4 fl4 up4 => ?_
    have J4 : L2.Inv X pins σ' H' { s' with heap := h4 } := J.landed nb fl4.1 (up5.trans up4) os ag
    obtain ⟨oe4, vs4, he4, hz4, hd4⟩ := fl4.there
    have S4 := J4.suite he4 hd4 na nL nF
    refine store_ok (X := X.suite a ((a, oe4) :: (X.pn ++ pins))) (v := .ref a) S4 hN hi (.inl hln) rfl (fun s5 S5 => ?_) (.inr hln)
    refine wpAny_mono ((hsu a oe4 cls d (X.pn ++ pins) hz4 ⟨_, hd4⟩).run [] s5 _ H' _ S5 (hyes a na)) (fun f s6 hsp => ?_) (fun _ _ z => False.elim z)
    have end_ : ∀ {σ6 : L2.St} {H6 : Hp} {Q : Shared → Prop}, L2.Inv (X.suite a ((a, oe4) :: (X.pn ++ pins))) [] σ6 H6 s6 → (∀ s7, L2.Inv X pins (σ6.set i none) H6 s7 → Q s7) →
        wpAny (model X.prog X.w) X.A (do bindName X.env n .none; unbindBehindTheSuite X.env n pos') (fun _ s7 => Q s7) X.xe s6 := fun {σ6 H6 Q} S6 hq => gone_ok (S6.unsuite ok) hN hi hln hq
    cases f with
    | next =>
      obtain ⟨σ6, H6, S6, q6⟩ := hsp
      exact end_ S6 fun s7 J7 => ⟨_, _, J7, q6⟩
    | brk =>
      obtain ⟨σ6, H6, S6, q6⟩ := hsp
      exact end_ S6 fun s7 J7 => ⟨_, _, J7, q6⟩
    | cont =>
      obtain ⟨σ6, H6, S6, q6⟩ := hsp
      exact end_ S6 fun s7 J7 => ⟨_, _, J7, q6⟩
    | ret u =>
      obtain ⟨v6, σ6, H6, S6, r6, q6⟩ := hsp
      exact end_ S6 fun s7 J7 => ⟨_, _, _, J7, r6, q6⟩
  · cases f with
    | next =>
      obtain ⟨σ', H', J', q⟩ := hsp
      exact wpAny_execs_nil ⟨σ', H', J'.ofTry ok, q⟩
    | brk =>
      obtain ⟨σ', H', J', q⟩ := hsp
      exact ⟨σ', H', J'.ofTry ok, q⟩
    | cont =>
      obtain ⟨σ', H', J', q⟩ := hsp
      exact ⟨σ', H', J'.ofTry ok, q⟩
    | ret u =>
      obtain ⟨v, σ', H', J', r, q⟩ := hsp
      exact ⟨v, σ', H', J'.ofTry ok, r, q⟩
end
end VL

set_option Elab.async false
set_option linter.all false
set_option maxRecDepth 100000
set_option maxHeartbeats 4000000
/-! VW: a lambda without parameters, made with its code object's table in sight, handed to a def; the world with such a table. -/
namespace VL
open PySem PySem.Spec PyProof.Rows L2 LamX
abbrev lamQ (X : Cx) : Str := X.env.qual ++ "<lambda>"
/-- all but the table at P stays -/
def ExtP (P : Addr) (H H' : Hp) : Prop := ∀ b o, b ≠ P → H b = some o → H' b = some o
section
variable {X : Cx} {pins : List (Addr × Obj)} {σ : L2.St} {H : Hp} {s : Shared}
theorem TabS.more {P c : Addr} {q : Str} {ps : Array Value} {l k : Value} (nPc : P ≠ c) (nC : H c = none) (ht : TriplesOk ps.toList) (hP : H P = some (.tbl ps)) (ha : ∀ (pos : Pos) (cv : Value), codeAmong pos ps.toList = some cv → ∃ c, cv = .ref c ∧ H c = some (CodeO c q)) (pos : Pos) :
    TabS (upd (upd H P (.tbl (ps ++ #[rawInt pos.line, rawInt pos.col, .ref c]))) c (CodeO c q)) P q := by
  have eL : (ps ++ #[rawInt pos.line, rawInt pos.col, .ref c]).toList = ps.toList ++ [rawInt pos.line, rawInt pos.col, .ref c] := by simp
  refine ⟨_, by rw [upd_ne nPc, upd_same], by rw [eL]; exact PySem.TriplesOk_snoc _ _ _ _ ht, fun p' cv hcv => ?_⟩
  rw [eL] at hcv
  rcases among_app _ ht hcv with z | z
  · obtain ⟨c0, e1, e2⟩ := ha p' cv z
    refine ⟨c0, e1, ?_⟩
    rw [upd_ne (ne_of_none e2 nC), upd_ne (fun z => codeO_ne ps (Option.some.inj (e2.symm.trans (by rw [z]; exact hP))))]
    exact e2
  · exact ⟨c, z, upd_same⟩
/-- a lambda is made -/
theorem lam_make3 {c P : Addr} {params : Arguments} {body : Expr} {scope : Scope} {pos : Pos} {E : Value → Shared → Prop} {Q : Value → Shared → Prop} (I : L2.Inv X pins σ H s) (TB : TabB X.base X.mg c P) (hcode : X.env.code = .ref c)
    (hT : TabS H P (lamQ X)) (hdef : defaultsOf params X.env = ([], [])) (hfree : ∀ y ∈ scope.names, y.2 = .free → ∃ c, X.env.cells.lookup y.1 = some c)
    (h : ∀ (f c' : Addr) (pm ctv : Value) (H1 : Hp) (s' : Shared), L2.Inv X pins σ H1 s' → ExtP P H H1 → TabS H1 P (lamQ X) →
      s'.heap.get? f = some (PySem.W.kla_obj "<lambda>" (lamQ X) params body scope (cloFrom X.env.cells scope.names []) pm c' ctv) → H1 f = none → f ∉ frs X.stack → H1 c' = some (CodeO c' (lamQ X)) → Q (.ref f) s') :
    wpAny (model X.prog X.w) X.A (eval (.Lambda params body scope pos) X.env) Q E s := by
  obtain ⟨ps, hP, ht, ha⟩ := hT
  refine PySem.W.kla_eval hdef ?_
  have bP : s.heap.BuiltinsAt X.mg P := TB.bm.keeps I.bk
  have hP' : s.heap.get? P = some { cls := .none, data := .fields ps } := I.hok P _ hP
  have above : ∀ f, s.heap.objs.size ≤ f → f ∉ frs X.stack := fun f hf z => by
    rcases List.mem_cons.mp (I.stkSub _ z) with e | e
    · have h1 := I.lt
      rw [← e] at h1
      exact Nat.lt_irrefl _ (Nat.lt_of_lt_of_le h1 hf)
    · exact I.nofs hf e
  cases hc : codeAmong pos ps.toList with
  | none =>
    refine PySem.W.kla_makeFunction (mg := X.mg) (c := c) (P := P) (ps := ps) (closure_ok hfree) I.ok.glob (I.mod.glob.keeps I.bk) hcode (TB.code.keeps I.bk) hP' ht hc TB.gP bP fun c' ctv h' tk hx hge hlt hrec htb => ?_
    obtain ⟨c2, oc, vs, t, e2, hoc, hd, hv⟩ := hrec
    cases e2
    have nC : H c' = none := I.hok.fresh hge
    have nPc : P ≠ c' := ne_of_none hP nC
    have hsz : s.heap.objs.size ≤ h'.objs.size := Nat.le_trans hge (Nat.le_of_lt hlt)
    have J := inv_table (t' := tk) (q := lamQ X) (more := #[rawInt pos.line, rawInt pos.col, .ref c']) (h' := h'.push (PySem.W.kla_obj "<lambda>" (lamQ X) params body scope (cloFrom X.env.cells scope.names []) ((X.mg "__name__").getD .none) c' ctv)) I hP
      (fun b o hb e => Heap.get?_push_of_some _ (hx b o hb e)) (Heap.get?_push_of_some _ htb) hge ⟨oc, vs, t, Heap.get?_push_of_some _ hoc, hd, hv⟩
    refine h h'.objs.size c' ((X.mg "__name__").getD .none) ctv _ _ J (fun b o hb e => by rw [upd_ne (ne_of_none e nC), upd_ne hb]; exact e) (TabS.more (l := .none) (k := .none) nPc nC ht hP ha pos) (Heap.get?_push_size _ rfl) ?_ (above _ hsz) upd_same
    rw [upd_ne (Nat.ne_of_gt hlt), upd_ne (Nat.ne_of_gt (Nat.lt_of_lt_of_le (Heap.lt_size hP') hsz))]
    exact I.hok.fresh hsz
  | some cv =>
    obtain ⟨c', e, hco⟩ := ha pos cv hc
    subst e
    refine PySem.W.kla_makeFunctionHit (mg := X.mg) (c := c) (P := P) (ps := ps) (closure_ok hfree) I.ok.glob (I.mod.glob.keeps I.bk) hcode (TB.code.keeps I.bk) hP' ht hc bP fun ctv h' tk hx hsz => ?_
    have J : L2.Inv X pins σ H { s with heap := h'.push (PySem.W.kla_obj "<lambda>" (lamQ X) params body scope (cloFrom X.env.cells scope.names []) ((X.mg "__name__").getD .none) c' ctv), toks := tk } := I.kept fun b o e => Heap.get?_push_of_some _ (hx b o e)
    exact h h'.objs.size c' ((X.mg "__name__").getD .none) ctv H _ J (fun b o _ e => e) ⟨ps, hP, ht, ha⟩ (Heap.get?_push_size _ rfl) (I.hok.fresh hsz) (above _ hsz) hco
end
/-- the def that calls what it got -/
def GivesT (X : Cx) (Ng : List Str) (x : Str) (sg : Scope) (g : Addr) (cdg : Value) (bg : List Stmt) (a : Str) (q : Str) (k : Nat) (TT : (XK → Hp → L2.VK → Prop) → Hp → L2.VK → Prop) : Prop :=
  ∀ (f c' : Addr) (s : Shared) (H : Hp) (Q : L2.VK) (tl : XK → Hp → L2.VK → Prop), Room k (X.A.deeper (envOfC x sg s.heap.objs.size g cdg)) →
    (∀ (W : WX) (pn : List (Addr × Obj)) (xe : Value → Shared → Prop) (E : XK) (p1 p2 : Pos), Takes ((cxOf CX0 X.prog X.w X.K X.mg X.base Ng x sg g cdg X.A X.stack s H C8.E0).tr pn xe) W → (∀ cls d σ' H', E cls d H' → W cls d σ' H') →
      PE ((cxOf CX0 X.prog X.w X.K X.mg X.base Ng x sg g cdg X.A X.stack s H C8.E0).tr pn xe) (.Call (.Name a p1) [] [] p2) (fun σZ HZ Q => σZ[0]? = some (some (.ref f)) ∧ HZ c' = some (CodeO c' q) ∧ tl E HZ Q)) →
    H c' = some (CodeO c' q) → TT tl H Q →
    ∃ t, PSs (cxOf CX0 X.prog X.w X.K X.mg X.base Ng x sg g cdg X.A X.stack s H C8.E0).nox bg t ∧ t { nx := fun _ H' => Q .non H', rt := Q } (L2.start Ng [.ref f]) H
def tLam3 (P : Addr) (q : Str) (TT : (XK → Hp → L2.VK → Prop) → Hp → L2.VK → Prop) (t : XK → TE) : TE := fun σ H Q => TabS H P q ∧ ∀ H1, ExtP P H H1 → TabS H1 P q → TT (fun E H' Q' => t E σ H' Q') H1 Q
section
variable {X : Cx}
/-- x(lambda: body) -/
theorem pe_lamcall3 {TT : (XK → Hp → L2.VK → Prop) → Hp → L2.VK → Prop} {x a : Str} {g c P : Addr} {k : Nat} {pg : Arguments} {bg : List Stmt} {sg : Scope} {dV kV doc pm cdv ct oc : Value} {an od : Option Addr} {osl : Array (Option Value)} {Ng : List Str}
    {params : Arguments} {body : Expr} {scope : Scope} {t : XK → TE} {p lpos pos : Pos} (hg : Gl X x) (hm : X.mg x = some (.ref g)) (hk : PySem.W.keepIn X.K (.ref g) = true)
    (lk : X.K.lookup g = some ⟨oc, od, .func (PySem.W.fnOf x x pg bg sg dV kV doc pm an cdv ct), osl⟩) (hcg : PySem.W.codeIn X.K cdv x = true) (hb : L2.Binds X.K (PySem.W.fnOf x x pg bg sg dV kV doc pm an cdv ct) [a] []) (Sg : FnScope Ng [a] sg) (hNg : Ng[0]? = some a) (hva : Vis sg a)
    (hG : GivesT X Ng x sg g cdv bg a (lamQ X) (k + 1) TT)
    (TB : TabB X.base X.mg c P) (hcode : X.env.code = .ref c) (hr : Room (k + 2) X.A) (L : LamS X.env.scope scope) (hdef : defaultsOf params X.env = ([], []))
    (hbind : ∀ (q : Str) (cl : List (Str × Addr)) (pm cv ctv : Value), bindArgs (PySem.W.kla_fn "<lambda>" q params body scope cl pm cv ctv) ⟨[], []⟩ = pure [])
    (hbody : ∀ (A : Around) (outer : List Env) (s : Shared) (H : Hp) (E : XK) (f c' : Addr), Room k (A.deeper (lamEnv X scope s.heap.objs.size f c')) → PE (lamCx X A outer s H E scope f c') body (t E))
    (hdb : (x == ("__debug__" : Str)) = false := by decide) (hd : (a == ("__debug__" : Str)) = false := by decide) (hcd : (a == ("__classdict__" : Str)) = false := by decide) :
    PE X (.Call (.Name x p) [.Lambda params body scope lpos] [] pos) (tLam3 P (lamQ X) TT t) := by
  refine ⟨fun pins s σ H Q I h => ?_⟩
  obtain ⟨hT, h⟩ := h
  refine wpAny_Call_Name_kw (ld_glob I hg hm ?_ hdb)
  refine PySem.W.callWith_K (h₀ := X.base) I.ok.mod.kin hk ?_ (by rfl) (by rfl)
  show wpAny _ _ (spliced ((false, eval (.Lambda params body scope lpos) X.env) :: backTo pos (starEach [] X.env))) _ _ s
  refine Calls.spliced_cons (lam_make3 I TB hcode hT hdef (L.has I.ok) fun f c' pm' ctv H1 s' I1 eN T1 hf hfn hfr hco => ?_)
  refine Calls.spliced_nil ⟨I1.kIn, ?_⟩
  have rc : codeAny (model X.prog X.w) X.A (.call (.ref g) ⟨[.ref f], []⟩) (CR CX0 X.stack X.prog X.w H1 s' Q C8.E0) s' := by
    refine run_ofS (N := Ng) (ps := [a]) (us := [.ref f]) (vs := [.ref f]) lk hcg Sg hr I1.env0 (hb s' [.ref f] I1.kIn rfl) (.cons rfl .nil) rfl fun hr' => ?_
    obtain ⟨t', ht', hq'⟩ := hG f c' s' H1 Q (fun E H' Q' => t E σ H' Q') hr' (fun W pn xe E p1 p2 tk hW => pe_act (i := 0) I1 L hf hfn hfr (hbind _ _ _ _ _) tk hW hr' (fun A outer s H hr2 => hbody A outer s H E f c' hr2) hNg hva hd hcd) hco (h H1 eN T1)
    exact ⟨t', ht'.nox, hq'⟩
  refine wpAny_call (codeAny_mono rc fun r s2 hq => ?_)
  cases r with
  | error e => exact (show False from hq).elim
  | ok fl =>
    cases fl with
    | ret u => exact I1.after hq
    | next => exact False.elim hq
    | brk => exact False.elim hq
    | cont => exact False.elim hq
end
/-- the world with a table of lambdas at P -/
def Wd.tab (W : Wd) (P : Addr) (q : Str) : Wd where
  A b := W.A b ∨ b = P
  I H := W.I H ∧ TabS H P q ∧ ¬ W.A P ∧ ¬ W.B P
  B := W.B
  nx := fun H a φ h ha => by
    rcases ha with ha | rfl
    · exact W.nx H a φ h.1 ha
    · obtain ⟨ps, e, _⟩ := h.2.1
      rw [e]
      intro z
      cases z
  liveB := fun H a h hB => W.liveB H a h.1 hB
  C := W.C
  cb := W.cb
  live := fun H a h ha => by
    rcases ha with ha | rfl
    · exact W.live H a h.1 ha
    · obtain ⟨ps, e, _⟩ := h.2.1
      rw [e]
      simp
  stay := fun H H' h k kx kb => by
    obtain ⟨h1, ⟨ps, e1, e2, e3⟩, h4⟩ := h
    refine ⟨W.stay H H' h1 (fun b hb => k b (.inl hb)) kx kb, ⟨ps, (k P (.inr rfl)).trans e1, e2, fun pos cv hc => ?_⟩, h4⟩
    obtain ⟨c, e, hco⟩ := e3 pos cv hc
    exact ⟨c, e, kx c _ hco⟩
/-- what is promised in a world is promised in it with a table -/
theorem fn_tab {P : Program} {w : World} {K : PySem.W.Frag} {mg : Str → Option Value} {base : Heap} {CX : CXT} {k : Nat} {f : Addr} {fd : FuncData} {ps : List Str} {W : Wd} {g : List D → (D → Prop) → Prop} (hne : ∀ H b φ, W.I H → W.A b → H b ≠ some (.ext φ)) (Pt : Addr) (q : Str)
    (F : FnOk P w K mg base CX k f fd ps (spD K W g)) : FnOk P w K mg base CX k f fd ps (spD K (W.tab Pt q) g) := by
  refine F.imp fun vs H Q E h => ?_
  obtain ⟨M, ds, Pd, m, r, hg, kk⟩ := h
  refine ⟨M, ds, Pd, ⟨fun a ha => m.wm a (.inl ha), m.live, m.wi.1, m.nb, m.nx⟩, r, hg, fun d v H' hp e i rv => kk d v H' hp (fun b o nb hb => e b o (fun z => nb (.inl z)) hb) ⟨i, ?_, m.wi.2.2⟩ rv⟩
  obtain ⟨ps', e1, e2, e3⟩ := m.wi.2.1
  refine ⟨ps', e Pt _ m.wi.2.2.1 e1, e2, fun pos cv hc => ?_⟩
  obtain ⟨c, ec, hco⟩ := e3 pos cv hc
  exact ⟨c, ec, e c _ (fun hA => hne H c _ m.wi.1 hA hco) hco⟩
/-- a def whose code object is known -/
theorem okC {P : Program} {w : World} {K : PySem.W.Frag} {mg : Str → Option Value} {base : Heap} {CX : CXT} {k : Nat} {x qual : Str} {st : Stmt} {f c : Addr} {fd : FuncData} {N ps : List Str} {sp : Sp} (F : Fun K x qual st f fd) (hc : fd.code = .ref c) (S : FnScope N ps (defScope st))
    (len : ∀ vs H Q E, sp vs H Q E → vs.length = ps.length)
    (hbody : ∀ (A : Around) (outer : List Env) (s : Shared) (H : Hp) (vs : List V) (Q : L2.VK) (E : XK), Room k (A.deeper (envOfC qual (defScope st) s.heap.objs.size f (.ref c))) → sp vs H Q E →
      ∃ t, PSs (cxOf CX P w K mg base N qual (defScope st) f (.ref c) A outer s H E).nox (defBody st) t ∧ t { nx := fun _ H' => Q .non H', rt := Q } (L2.start N vs) H) : FnOk P w K mg base CX (k + 1) f fd ps sp := by
  obtain ⟨⟨oc, od, kV, doc, pm, an, cdv, ct, osl, rfl, lk, hcd⟩, hkp⟩ := F
  have e : cdv = .ref c := hc
  subst e
  refine fn_of lk hcd S len fun A outer s H vs Q E hr hsp => ?_
  obtain ⟨t, h, q⟩ := hbody A outer s H vs Q E hr hsp
  exact ⟨t, h.nox, q⟩
/-! ### x(lambda: body) where x tries it -/
def errTab : List (Str × List Str) := [("InvalidAmount", ["given"]), ("InvalidName", ["given"]), ("InvalidMachine", ["part", "at"]), ("InvalidTree", ["command", "path"]), ("ScalesDiffer", ["one", "other"]), ("UnknownName", ["name"]), ("UnknownScale", ["name"]),
  ("InvalidText", ["row"]), ("NotDefined", ["operation"]), ("WrongQuantity", ["at"]), ("ShelfFull", ["most"]), ("NotRelated", []), ("NothingLeft", [])]
/-- what is asked of an exception that is tried: its code, its fields by its code -/
def excAsk (K : PySem.W.Frag) (cs : List Value) (H' : Hp) (cls : Value) (d : Option Addr) (R : (Addr → Prop) → Str → List V → Prop) : Prop :=
  ∃ C dd fs z ks vs Mo, cls = .ref C ∧ d = some dd ∧ ExcK K C ∧ PySem.W.exmAny K cls cs = some true ∧ H' dd = some (.xd fs) ∧ fs.lookup ("code" : Str) = some (V.str z) ∧ (z, ks) ∈ errTab ∧ ks.map (fun k => fs.lookup k) = vs.map some ∧ (∀ b, Mo b → H' b ≠ none ∧ ∀ φ, H' b ≠ some (.ext φ)) ∧ R Mo z vs
def TTry (K : PySem.W.Frag) (cs : List Value) (tl : XK → Hp → L2.VK → Prop) (H : Hp) (Q : L2.VK) : Prop :=
  ∀ p0, H p0 = none → ∀ (E' : XK) (R : L2.VK), (∀ cls d H', excAsk K cs H' cls d (fun Mo z vs => ∀ H2 v2, Full H' H2 → Rep K Mo H2 (.tup (vs.map dOf)) v2 → ∀ p, H2 p = none → Q (.ref p) (upd H2 p (.tup [.str z, v2]))) → E' cls d H') →
    (∀ v H', (∀ p, H' p = none → Q (.ref p) (upd H' p (.tup [.str "", v]))) → R v H') → tl E' (upd H p0 (.tup [.str "", .non])) R
/-- own lists are out of a lambda's sight -/
def unown : List Sl → List Sl := List.map fun s => match s with
  | .d x => .d x
  | _ => .un
/-- an error as the pair of its code and its fields -/
def errD (K : PySem.W.Frag) (cs : List Value) (P : D → Prop) : D → Prop
  | .ins C fs xs => ExcK K C ∧ PySem.W.exmAny K (.ref C) cs = some true ∧ ∃ z ks ys, lkp fs xs "code" = some (.str z) ∧ (z, ks) ∈ errTab ∧ ks.map (fun k => lkp fs xs k) = ys.map some ∧ P (.tup [.str z, .tup ys])
  | _ => False
def wTry (K : PySem.W.Frag) (cs : List Value) (wB : (D → Prop) → WE) : WE := fun ds P => wB (errD K cs P) (unown ds) fun d => P (.tup [.str "", d])
theorem mx_no {M : Addr → Prop} {b : Addr} (h : Mx M (fun _ => none) b) : M b := h.elim id fun ⟨_, z⟩ => by cases z
theorem Sat.unown {K : PySem.W.Frag} {W : Wd} {M0 : Addr → Prop} {H0 H : Hp} {oa : Nat → Option Addr} {σ : L2.St} {ds : List Sl} (S : Sat K W M0 H0 oa H σ ds) : Sat K (W.fx (Mx M0 oa) H) (Mx M0 oa) H (fun _ => none) H σ (VL.unown ds) := by
  have m := S.mok
  refine ⟨m.wm, m.live, Ext.refl H, S.wi, fun i a h => (by cases h), fun i j a h => (by cases h), by unfold VL.unown; rw [List.length_map]; exact S.len, fun i _ => rfl, fun i s h => ?_, fun _ z => z, Ext.refl H, fun a h => W.liveB _ _ S.wi h, m.nb, m.nx⟩
  unfold VL.unown at h
  rw [List.getElem?_map] at h
  cases q : ds[i]? with
  | none => rw [q] at h; cases h
  | some s0 =>
    rw [q] at h
    cases h
    have hs := S.slot i s0 q
    cases s0 with
    | d x =>
      obtain ⟨_, v, e, r⟩ := hs
      exact ⟨rfl, v, e, r.car fun b o n z => ⟨fun y => n (mx_no y), z⟩⟩
    | un => rfl
    | ml l => rfl
    | md ks l => rfl
    | mi a C ks l => rfl
theorem tup_join {K : PySem.W.Frag} {M : Addr → Prop} {H : Hp} {ys : List D} {vs : List V} {v : V} (r : Reps K M H ys vs) (h : Rep K M H (.tup (vs.map dOf)) v) : Rep K M H (.tup ys) v := by
  obtain ⟨a, us, rfl, t, q⟩ := h.tup
  rw [dOfs_inv q] at t
  exact rep_tup t r
section
variable {X : Cx} {W : Wd}
theorem ve_try {cs : List Value} {x a : Str} {g c P : Addr} {k : Nat} {pg : Arguments} {bg : List Stmt} {sg : Scope} {dV kV doc pm cdv ct oc : Value} {an od : Option Addr} {osl : Array (Option Value)} {Ng : List Str}
    {params : Arguments} {body : Expr} {scope : Scope} {wB : (D → Prop) → WE} {p lpos pos : Pos} (hg : Gl X x) (hm : X.mg x = some (.ref g)) (hk : PySem.W.keepIn X.K (.ref g) = true)
    (lk : X.K.lookup g = some ⟨oc, od, .func (PySem.W.fnOf x x pg bg sg dV kV doc pm an cdv ct), osl⟩) (hcg : PySem.W.codeIn X.K cdv x = true) (hb : L2.Binds X.K (PySem.W.fnOf x x pg bg sg dV kV doc pm an cdv ct) [a] []) (Sg : FnScope Ng [a] sg) (hNg : Ng[0]? = some a) (hva : Vis sg a)
    (hG : GivesT X Ng x sg g cdv bg a (lamQ X) (k + 1) (TTry X.K cs))
    (TB : TabB X.base X.mg c P) (hcode : X.env.code = .ref c) (hr : Room (k + 2) X.A) (L : LamS X.env.scope scope) (hdef : defaultsOf params X.env = ([], []))
    (hbind : ∀ (q : Str) (cl : List (Str × Addr)) (pm cv ctv : Value), bindArgs (PySem.W.kla_fn "<lambda>" q params body scope cl pm cv ctv) ⟨[], []⟩ = pure [])
    (hbody : ∀ (A : Around) (outer : List Env) (s : Shared) (H : Hp) (E : XK) (f c' : Addr) (Mf : Addr → Prop) (Hf : Hp) (PX : D → Prop), Room k (A.deeper (lamEnv X scope s.heap.objs.size f c')) → Takes (lamCx X A outer s H E scope f c') (XW X.K ((W.tab P (lamQ X)).fx Mf Hf) PX) →
      VE (lamCx X A outer s H E scope f c') ((W.tab P (lamQ X)).fx Mf Hf) body (wB PX))
    (hdb : (x == ("__debug__" : Str)) = false := by decide) (hd : (a == ("__debug__" : Str)) = false := by decide) (hcd : (a == ("__classdict__" : Str)) = false := by decide) :
    VE X (W.tab P (lamQ X)) (.Call (.Name x p) [.Lambda params body scope lpos] [] pos) (wTry X.K cs wB) := by
  let t : XK → TE := fun E σ H Q => ∃ M H1 ds PX P', Sat X.K ((W.tab P (lamQ X)).fx M H) M H (fun _ => none) H σ ds ∧ H1 = H ∧ wB PX ds P' ∧ (∀ d v H', P' d → Ext (W.tab P (lamQ X)) H H' → (W.tab P (lamQ X)).I H' → Rep X.K M H' d v → Q v H') ∧ ∀ cls d H', XC X.K (W.tab P (lamQ X)) M H PX cls d H' → E cls d H'
  refine pe_imp (pe_lamcall3 (t := t) hg hm hk lk hcg hb Sg hNg hva hG TB hcode hr L hdef hbind (fun A outer s H E f c' hr2 => ?_) hdb hd hcd) fun σ H Q h => ?_
  · refine ⟨fun pins s1 σ1 H1 Q1 I1 ht => ?_⟩
    obtain ⟨M, _, ds, PX, P', S, _, hw, kk, kx⟩ := ht
    have tk : Takes (lamCx X A outer s H E scope f c') (fun cls d _ H => E cls d H) := takes_of rfl rfl rfl rfl
    exact (hbody A outer s H E f c' M H1 PX hr2 (tk.imp fun cls d σ' H' hx => kx cls d H' hx)).run pins s1 σ1 H1 Q1 I1 ⟨M, H1, fun _ => none, ds, P', S, hw, fun d v H' hp e i r => kk d v H' hp e i (r.car fun b o n z => ⟨fun y => n (.inl y), z⟩)⟩
  · obtain ⟨M0, H0, oa, ds, Pd, S, hw, kk⟩ := h
    refine ⟨S.wi.2.1, fun H1 eP T1 p0 hp0 E' R hE hR => ?_⟩
    have e1 : Ext (W.tab P (lamQ X)) H H1 := fun b o n z => eP b o (fun y => n (.inr y)) z
    have i1 : (W.tab P (lamQ X)).I H1 := by
      refine ⟨W.stay H H1 S.wi.1 (fun b hb => ?_) (fun b φ z => eP b _ (fun y => ?_) z) (fun b o hB z => eP b o (fun y => S.wi.2.2.2 (by rw [← y]; exact hB)) z), T1, S.wi.2.2⟩
      · have hbP : b ≠ P := fun y => S.wi.2.2.1 (by rw [← y]; exact hb)
        cases q : H b with
        | none => exact absurd q (W.live H b S.wi.1 hb)
        | some o => exact eP b o hbP q
      · obtain ⟨ps, z2, _⟩ := S.wi.2.1
        rw [y, z2] at z
        cases z
    have f0 : Full H1 (upd H1 p0 (.tup [.str "", .non])) := Full.new hp0
    have S2 := (S.step e1 i1).full f0
    refine ⟨Mx M0 oa, _, _, errD X.K cs Pd, _, S2.unown, rfl, hw, fun d v H' hp e i r => hR v H' fun p hp1 => ?_, fun cls d H' hx => hE cls d H' ?_⟩
    · have m2 := S2.mok.ext e i
      have f1 : Full H' (upd H' p (.tup [.str "", v])) := Full.new hp1
      refine kk _ _ _ hp (e1.trans (f0.ext.trans (e.trans f1.ext))) ((W.tab P (lamQ X)).keep _ _ i f1) ?_
      exact m2.newT hp1 (reps_cons rep_str (reps_cons r reps_nil))
    · obtain ⟨C, fs, xs, us, dd, rfl, rfl, hpx, e, i, r, hlen, hdd⟩ := hx
      obtain ⟨hC, hex, z, ks, ys, hcode', hmem, hks, hP⟩ := hpx
      have m2 := S2.mok.ext e i
      obtain ⟨vc, hvc, rvc⟩ := (lkp_fs (f := "code") r hlen).1 _ hcode'
      have evc : vc = .str z := by unfold Rep at rvc; exact rvc
      subst evc
      have key : ∀ (ks : List Str) (ys : List D), ks.map (fun k => lkp fs xs k) = ys.map some → ∃ vs : List V, ks.map (fun k => (fs.zip us).lookup k) = vs.map some ∧ Reps X.K (Mx M0 oa) H' ys vs := by
        intro ks
        induction ks with
        | nil =>
          intro ys h
          cases ys with
          | nil => exact ⟨[], rfl, reps_nil⟩
          | cons _ _ => cases h
        | cons k ks ih =>
          intro ys h
          cases ys with
          | nil => cases h
          | cons y ys =>
            obtain ⟨h1, h2⟩ := List.cons.inj h
            obtain ⟨vs, e1, r1⟩ := ih ys h2
            obtain ⟨v, e2, r2⟩ := (lkp_fs (f := k) r hlen).1 _ h1
            exact ⟨v :: vs, by rw [List.map_cons, List.map_cons, e1, e2], reps_cons r2 r1⟩
      obtain ⟨vs, hvs, rvs⟩ := key ks ys hks
      refine ⟨C, dd, fs.zip us, z, ks, vs, Mx M0 oa, rfl, rfl, hC, hex, hdd, hvc, hmem, hvs, fun b hb => ⟨m2.live b hb, fun φ => m2.nx b φ hb⟩, fun H2 v2 fH r2 p hp1 => ?_⟩
      have i2 := (W.tab P (lamQ X)).keep _ _ i fH
      have m3 := m2.full fH
      have f1 : Full H2 (upd H2 p (.tup [.str z, v2])) := Full.new hp1
      refine kk _ _ _ hP (e1.trans (f0.ext.trans (e.trans (fH.ext.trans f1.ext)))) ((W.tab P (lamQ X)).keep _ _ i2 f1) ?_
      exact m3.newT hp1 (reps_cons rep_str (reps_cons (tup_join (rvs.car fun b o n z => ⟨n, fH b o z⟩) r2) reps_nil))
end
end VL

set_option Elab.async false
set_option linter.all false
set_option maxRecDepth 100000
set_option maxHeartbeats 4000000
/-! VH: lambdas as data: made, handed on in lists, called later; the maker's cells are frozen while a callee has them. -/
namespace VL
open PySem PySem.Spec PyProof.Rows L2 LamX
/-! ### heaps without some cells -/
section
variable {cs : Addr → Prop} {P : Program} {w : World} {G H H' : Hp} {h h' B : Heap} {fs : List Addr} {b : Addr}
noncomputable def cutH (cs : Addr → Prop) (H : Hp) : Hp := fun b => open Classical in if cs b then none else H b
noncomputable def putH (cs : Addr → Prop) (G H : Hp) : Hp := fun b => open Classical in if cs b then G b else H b
theorem cutH_in (h : cs b) : cutH cs H b = none := by unfold cutH; rw [if_pos h]
theorem cutH_out (h : ¬ cs b) : cutH cs H b = H b := by unfold cutH; rw [if_neg h]
theorem putH_in (h : cs b) : putH cs G H b = G b := by unfold putH; rw [if_pos h]
theorem putH_out (h : ¬ cs b) : putH cs G H b = H b := by unfold putH; rw [if_neg h]
/-- the cells of cs are frozen in H -/
def Frz (cs : Addr → Prop) (H : Hp) : Prop := ∀ b, cs b → ∃ o y, H b = some (.frz o (.own y))
theorem Frz.no (z : Frz cs H) {u : Option HO} (e : H b = u) (hu : ∀ o y, u ≠ some (.frz o (.own y))) : ¬ cs b := fun c => by
  obtain ⟨o, y, q⟩ := z b c
  exact hu o y (e.symm.trans q)
theorem hok_cut (ok : HOk P w H h) (hc : Frz cs H) : HOk P w (cutH cs H) h := fun a o e => by
  have na : ¬ cs a := fun z => by rw [cutH_in z] at e; cases e
  rw [cutH_out na] at e
  refine (ok a o e).stay (fun _ _ _ q => q) (fun b q => ?_) (fun b xs q => ?_)
  · rw [cutH_out (hc.no q fun o y z => by cases z)]; exact q
  · rw [cutH_out (hc.no q fun o y z => by cases z)]; exact q
theorem hok_put (ok : HOk P w H' h') (hn : ∀ b, cs b → H' b = none) (hg : ∀ b, cs b → ∃ o y, G b = some (.frz o (.own y)) ∧ h'.get? b = some o) : HOk P w (putH cs G H') h' := fun a o e => by
  by_cases ca : cs a
  · rw [putH_in ca] at e
    obtain ⟨o', y, q1, q2⟩ := hg a ca
    rw [q1] at e
    cases e
    exact ⟨q2, _, q2⟩
  · rw [putH_out ca] at e
    have nc : ∀ b u, H' b = some u → ¬ cs b := fun b u q c => by rw [hn b c] at q; cases q
    exact (ok a o e).stay (fun _ _ _ q => q) (fun b q => by rw [putH_out (nc _ _ q)]; exact q) (fun b xs q => by rw [putH_out (nc _ _ q)]; exact q)
theorem un_put (u : Un fs [] (cutH cs H) H' h h') (hc : Frz cs H) : Un fs [] H (putH cs H H') h h' where
  keep := fun b o q n hb hx => u.keep b o q (by rw [cutH_out (hc.no n fun _ _ z => by cases z)]; exact n) hb hx
  slot := fun b o q n hb hx => u.slot b o q (by rw [cutH_out (hc.no n fun _ _ z => by cases z)]; exact n) hb hx
  free := fun b o q n hx => by
    have nc := hc.no n fun _ _ z => by cases z
    rw [putH_out nc]
    exact u.free b o q (by rw [cutH_out nc]; exact n) hx
  there := u.there
  tups := fun b xs q => by
    have nc := hc.no q fun _ _ z => by cases z
    rw [putH_out nc]
    exact u.tups b xs (by rw [cutH_out nc]; exact q)
  frzs := fun b o v q => by
    by_cases c : cs b
    · rw [putH_in c]; exact q
    · rw [putH_out c]; exact u.frzs b o v (by rw [cutH_out c]; exact q)
  tbls := fun b ps q => by
    have nc := hc.no q fun _ _ z => by cases z
    rw [putH_out nc]
    exact u.tbls b ps (by rw [cutH_out nc]; exact q)
theorem ub_put (u : UB fs (cutH cs H) H' h B h') (hc : Frz cs H) : UB fs H (putH cs H H') h B h' where
  keep := fun b o q n hb => u.keep b o q (by rw [cutH_out (hc.no n fun _ _ z => by cases z)]; exact n) hb
  slot := u.slot
  free := fun b o q n => by
    have nc := hc.no n fun _ _ z => by cases z
    rw [putH_out nc]
    exact u.free b o q (by rw [cutH_out nc]; exact n)
  there := u.there
  tups := fun b xs q => by
    have nc := hc.no q fun _ _ z => by cases z
    rw [putH_out nc]
    exact u.tups b xs (by rw [cutH_out nc]; exact q)
  frzs := fun b o v q => by
    by_cases c : cs b
    · rw [putH_in c]; exact q
    · rw [putH_out c]; exact u.frzs b o v (by rw [cutH_out c]; exact q)
  tbls := fun b ps q => by
    have nc := hc.no q fun _ _ z => by cases z
    rw [putH_out nc]
    exact u.tbls b ps (by rw [cutH_out nc]; exact q)
theorem un_cut (u : Un fs [] (putH cs G H) H' h h') (hn : ∀ b, cs b → H b = none) (hk : ∀ b o, cs b → h.get? b = some o → h'.get? b = some o) : Un fs [] H (cutH cs H') h h' where
  keep := fun b o q n hb hx => by
    by_cases c : cs b
    · exact hk b o c q
    · exact u.keep b o q (by rw [putH_out c]; exact n) hb hx
  slot := fun b o q n hb hx => by
    by_cases c : cs b
    · exact ⟨o.slots, hk b o c q⟩
    · exact u.slot b o q (by rw [putH_out c]; exact n) hb hx
  free := fun b o q n hx => by
    by_cases c : cs b
    · exact cutH_in c
    · rw [cutH_out c]; exact u.free b o q (by rw [putH_out c]; exact n) hx
  there := u.there
  tups := fun b xs q => by
    have nc : ¬ cs b := fun c => by rw [hn b c] at q; cases q
    rw [cutH_out nc]
    exact u.tups b xs (by rw [putH_out nc]; exact q)
  frzs := fun b o v q => by
    have nc : ¬ cs b := fun c => by rw [hn b c] at q; cases q
    rw [cutH_out nc]
    exact u.frzs b o v (by rw [putH_out nc]; exact q)
  tbls := fun b ps q => by
    have nc : ¬ cs b := fun c => by rw [hn b c] at q; cases q
    rw [cutH_out nc]
    exact u.tbls b ps (by rw [putH_out nc]; exact q)
end
/-! ### the maker's cells -/
def isC (X : Cx) (b : Addr) : Prop := ∃ y, X.env.cells.lookup y = some b
structure CellsAt (X : Cx) (σ : L2.St) (h : Heap) : Prop where
  inj : ∀ x y c, X.env.cells.lookup x = some c → X.env.cells.lookup y = some c → x = y
  has : ∀ x, (X.env.kindOf x = some .cell ∨ X.env.kindOf x = some .free) → ∃ c, X.env.cells.lookup x = some c
  val : ∀ (i : Nat) (y : Str) (v : V) (c : Addr), X.N[i]? = some y → σ[i]? = some (some v) → X.env.cells.lookup y = some c → (X.env.scope.names.lookup y = some .cell ∨ X.env.scope.names.lookup y = some .free) → ∃ u, RelV v u ∧ h.IsCell c (some u)
  cel : ∀ y c, X.env.cells.lookup y = some c → ∃ v, h.IsCell c v
  len : σ.length = X.N.length
theorem CellsAt.of {X : Cx} {pins : List (Addr × Obj)} {σ : L2.St} {H : Hp} {s : Shared} (I : L2.Inv X pins σ H s) : CellsAt X σ s.heap := by
  refine ⟨I.ok.inj, I.ok.has, fun i y v c h1 h2 h3 h4 => ?_, I.cell, I.len⟩
  obtain ⟨m, hn, hl⟩ := I.loc
  obtain ⟨u, r, q⟩ := hl i y v h1 h2 (.inr h4)
  rcases q with ⟨k, _⟩ | ⟨_, c2, e, z⟩
  · have k' : X.env.scope.names.lookup y = some .local := k
    rcases h4 with k2 | k2 <;> rw [k2] at k' <;> cases k'
  · rw [h3] at e
    cases e
    exact ⟨u, r, z⟩
theorem CellsAt.move {X : Cx} {σ : L2.St} {h h' : Heap} (C : CellsAt X σ h) (k : ∀ b o, isC X b → h.get? b = some o → h'.get? b = some o) : CellsAt X σ h' := by
  refine ⟨C.inj, C.has, fun i y v c h1 h2 h3 h4 => ?_, fun y c e => ?_, C.len⟩
  · obtain ⟨u, r, o, q1, q2⟩ := C.val i y v c h1 h2 h3 h4
    exact ⟨u, r, o, k c o ⟨y, h3⟩ q1, q2⟩
  · obtain ⟨v, o, q1, q2⟩ := C.cel y c e
    exact ⟨v, o, k c o ⟨y, e⟩ q1, q2⟩
/-- a lambda's names: captured ones, globals, parameters of its own -/
structure LamSx (N : List Str) (sc scope : Scope) (bn : List Str) : Prop where
  kind : scope.kind = .function
  co : scope.isCoroutine = false
  gen : scope.isGenerator = false
  own : ∀ y ∈ scope.names, y.2 ≠ .cell ∧ (y.2 = .local → y.1 ∉ N)
  bnd : ∀ x ∈ bn, scope.names.lookup x = some .local
  free : ∀ y ∈ scope.names, y.2 = .free → sc.names.lookup y.1 = some .cell ∨ sc.names.lookup y.1 = some .free
def lamSxB (N : List Str) (sc scope : Scope) (bn : List Str) : Bool :=
  decide (scope.kind = .function) && !scope.isCoroutine && !scope.isGenerator && (scope.names.all fun y => !decide (y.2 = .cell) && (!decide (y.2 = .local) || !N.contains y.1) && (!decide (y.2 = .free) || decide (sc.names.lookup y.1 = some .cell) || decide (sc.names.lookup y.1 = some .free))) && bn.all fun x => decide (scope.names.lookup x = some .local)
theorem lamSx_by {N : List Str} {sc scope : Scope} {bn : List Str} (h : lamSxB N sc scope bn = true) : LamSx N sc scope bn := by
  unfold lamSxB at h
  simp only [Bool.and_eq_true, Bool.or_eq_true, Bool.not_eq_true', decide_eq_true_eq, decide_eq_false_iff_not, List.all_eq_true] at h
  obtain ⟨⟨⟨⟨h1, h2⟩, h3⟩, h4⟩, h5⟩ := h
  refine ⟨h1, h2, h3, fun y hy => ⟨(h4 y hy).1.1, fun e hN => ?_⟩, fun x hx => h5 x hx, fun y hy e => ?_⟩
  · rcases (h4 y hy).1.2 with z | z
    · exact z e
    · have : N.contains y.1 = true := by simp [hN]
      rw [this] at z; cases z
  · rcases (h4 y hy).2 with (z | z) | z
    · exact absurd e z
    · exact .inl z
    · exact .inr z
theorem lam_startV {X : Cx} {σ : L2.St} {H : Hp} {s1 : Shared} {h1 : Heap} {tk : Nat} {A : Around} {outer : List Env} {E : XK} {scope : Scope} {f c' : Addr} {bn : List Str} {m : Str → Option Value} (C : CellsAt X σ s1.heap) (L : LamSx X.N X.env.scope scope bn)
    (e0 : Env0 X.prog X.w X.K X.mg X.base A outer s1 H) (hn : ∀ b, isC X b → H b = none) (hd : A.handled = none) (hns : h1.Ns s1.heap.objs.size m) (kp : ∀ b o, s1.heap.get? b = some o → h1.get? b = some o) :
    L2.Inv (lamCx X A outer s1 H E scope f c') [] σ H { s1 with heap := h1, toks := tk } := by
  have hfree : ∀ y ∈ scope.names, y.2 = .free → ∃ c, X.env.cells.lookup y.1 = some c := fun y hy e => by
    rcases L.free y hy e with k | k
    · exact C.has _ (.inl k)
    · exact C.has _ (.inr k)
  have cm : ∀ {y c}, (cloFrom X.env.cells scope.names []).lookup y = some c → X.env.cells.lookup y = some c := fun {y c} e => by
    rcases cloFrom_mem (PySem.mem_of_lookup e) with hm | ⟨h1, h2⟩
    · cases hm
    · obtain ⟨c1, hc⟩ := hfree _ h1 rfl
      have hc : X.env.cells.lookup y = some c1 := hc
      have e2 : c = c1 := by rw [h2, hc] <;> rfl
      rw [e2]
      exact hc
  have look : ∀ {y}, scope.names.lookup y = some .free → ∃ c, (cloFrom X.env.cells scope.names []).lookup y = some c := fun {y} hl => by
    have hy : (y, NameKind.free) ∈ scope.names := PySem.mem_of_lookup hl
    exact mem_lookup (cloFrom_has (cells := X.env.cells) (acc := []) hy)
  have noA : ∀ b : Addr, b ∉ (lamCx X A outer s1 H E scope f c').ex := fun b z => absurd (show b ∈ ([] : List Addr) from z) (by simp)
  refine ⟨⟨e0.mod, L.kind, rfl, rfl, Nat.le_refl _, fun y z c e1 e2 => C.inj y z c (cm e1) (cm e2), fun y hy => ?_, fun y c z _ => ?_, fun _ => hd, Around.frames_deeper e0.frames, .inr ⟨rfl, rfl⟩, fun b z => absurd z (noA b), e0.bs, e0.bsz, fun b _ _ => noA b,
      fun b z => absurd z (noA b), e0.funs, e0.frf⟩,
    rfl, e0.bare, Un.kept kp, ⟨_, hns, fun i y v e1 e2 e3 => ?_⟩, fun y c e => ?_, e0.hok.fresh (Nat.le_refl _), fun y c e => hn c ⟨y, cm e⟩, fun q hq => absurd (show q ∈ ([] : List (Addr × Obj)) ++ [] from hq) (by simp), e0.hok.kept kp, C.len⟩
  · have hy : scope.names.lookup y = some .cell ∨ scope.names.lookup y = some .free := hy
    rcases hy with hy | hy
    · exact absurd rfl (L.own _ (PySem.mem_of_lookup hy)).1
    · exact look hy
  · have z : false = true := z
    cases z
  · have e3 : Vis scope y := e3
    have hyN : y ∈ X.N := List.mem_of_getElem? e1
    rcases e3 with k | k | k
    · exact absurd hyN ((L.own _ (PySem.mem_of_lookup k)).2 rfl)
    · exact absurd rfl (L.own _ (PySem.mem_of_lookup k)).1
    · obtain ⟨c2, h2⟩ := look k
      obtain ⟨u, r, o, q1, q2⟩ := C.val i y v c2 e1 e2 (cm h2) (L.free _ (PySem.mem_of_lookup k) rfl)
      exact ⟨u, r, .inr ⟨.inr k, c2, h2, o, kp _ _ q1, q2⟩⟩
  · obtain ⟨v, o, q1, q2⟩ := C.cel y c (cm e)
    exact ⟨v, o, kp _ _ q1, q2⟩
/-! ### what a lambda promises -/
abbrev lamO (q : Str) (params : Arguments) (body : Expr) (scope : Scope) (cl : List (Str × Addr)) (dV doc pm : Value) (c' : Addr) (ctv : Value) : Obj := PySem.W.kdv_obj "<lambda>" q params (.expr body) scope cl dV doc pm c' ctv
abbrev lamF (q : Str) (params : Arguments) (body : Expr) (scope : Scope) (cl : List (Str × Addr)) (dV doc pm cdv ctv : Value) : FuncData := PySem.W.kdv_fn "<lambda>" q params (.expr body) scope cl dV doc pm cdv ctv
/-- a call of the lambda f, wherever -/
structure LamV (P : Program) (w : World) (K : PySem.W.Frag) (mg : Str → Option Value) (base : Heap) (k : Nat) (W : Wd) (d : D) (wB : (D → Prop) → (D → Prop) → Prop) : Prop where
  ex : ∃ f as, d = .lam f as ∧ (∀ h : Heap, (∀ p ∈ as, p.2 h) → PySem.W.FnAt f h) ∧
    ∀ (A : Around) (outer : List Env) (s : Shared) (H : Hp) (Q : L2.VK) (E : XK) (M : Addr → Prop) (PX P' : D → Prop), Room (k + 1) A → Env0 P w K mg base A outer s H → MOk W M H → (∀ p ∈ as, H p.1 = some (.ext p.2)) → wB PX P' →
      (∀ d v H', P' d → Ext W H H' → W.I H' → Rep K M H' d v → Q v H') → (∀ cls d H', XC K W M H PX cls d H' → E cls d H') → codeAny (model P w) A (.call (.ref f) ⟨[], []⟩) (CR (L2.CX P w) outer P w H s Q E) s
/-- a lambda's object and what it is made of -/
structure LamIs (X : Cx) (params : Arguments) (body : Expr) (scope : Scope) (bn : List Str) (f : Addr) (as : List (Addr × (Heap → Prop))) : Prop where
  ex : ∃ (dV doc pm ctv : Value) (c' : Addr) (us : List Value), us.length = bn.length ∧ ∀ h : Heap, (∀ p ∈ as, p.2 h) → h.get? f = some (lamO (lamQ X) params body scope (cloFrom X.env.cells scope.names []) dV doc pm c' ctv) ∧ h.CodeRec (.ref c') (lamQ X) ∧
    ∀ s : Shared, s.heap = h → BindsTo s (lamF (lamQ X) params body scope (cloFrom X.env.cells scope.names []) dV doc pm (.ref c') ctv) ⟨[], []⟩ (bn.zip us)
/-- the lambda's body, wherever it is called -/
def LamB (X : Cx) (W : Wd) (k : Nat) (body : Expr) (scope : Scope) (wB : (D → Prop) → WE) : Prop :=
  ∀ (A : Around) (outer : List Env) (s : Shared) (H : Hp) (E : XK) (f c' : Addr) (Mf : Addr → Prop) (Hf : Hp) (PX : D → Prop), Room k (A.deeper (lamEnv X scope s.heap.objs.size f c')) → Takes (lamCx X A outer s H E scope f c') (XW X.K (W.fx Mf Hf) PX) →
    VE (lamCx X A outer s H E scope f c') (W.fx Mf Hf) body (wB PX)
/-- d is a lambda of X -/
structure LamX' (X : Cx) (W : Wd) (k : Nat) (d : D) (wB : (D → Prop) → WE) : Prop where
  ex : ∃ f as params body scope bn, d = .lam f as ∧ LamIs X params body scope bn f as ∧ LamSx X.N X.env.scope scope bn ∧ LamB X W k body scope wB
/-- the world while a callee has the lambdas of X -/
noncomputable def lamW (X : Cx) (W : Wd) (M1 : Addr → Prop) (H1 : Hp) (G : Hp) (h1 : ∀ b, W.A b → M1 b) (hn : ∀ b, isC X b → H1 b = none) (hG : Frz (isC X) G) : Wd where
  A b := W.A b ∨ isC X b
  I H := W.I (cutH (isC X) H) ∧ (∀ b, isC X b → H b = G b) ∧ ∀ b o, ¬ W.A b → H1 b = some o → H b = some o
  live := fun H a h ha => by
    rcases ha with ha | ha
    · intro z
      refine W.live _ a h.1 ha ?_
      by_cases c : isC X a
      · exact cutH_in c
      · rw [cutH_out c]; exact z
    · rw [h.2.1 a ha]
      obtain ⟨o, y, q⟩ := hG a ha
      rw [q]; intro z; cases z
  nx := fun H a φ h ha z => by
    by_cases c : isC X a
    · obtain ⟨o, y, q⟩ := hG a c
      rw [h.2.1 a c, q] at z; cases z
    · rcases ha with ha | ha
      · exact W.nx _ a φ h.1 ha (by rw [cutH_out c]; exact z)
      · exact c ha
  B b := W.B b ∨ (¬ W.A b ∧ H1 b ≠ none)
  liveB := fun H a h hB => by
    rcases hB with hB | ⟨nA, hB⟩
    · intro z
      refine W.liveB _ a h.1 hB ?_
      by_cases c : isC X a
      · exact cutH_in c
      · rw [cutH_out c]; exact z
    · cases q : H1 a with
      | none => exact absurd q hB
      | some o => rw [h.2.2 a o nA q]; intro z; cases z
  C b := ¬ M1 b ∧ H1 b ≠ none
  cb := fun a h => .inr ⟨fun z => h.1 (h1 a z), h.2⟩
  stay := fun H H' h k kx kb => by
    obtain ⟨i, g, e⟩ := h
    refine ⟨W.stay (cutH (isC X) H) (cutH (isC X) H') i (fun b hb => ?_) (fun b φ q => ?_) (fun b o hB q => ?_), fun b hb => (k b (.inr hb)).trans (g b hb), fun b o n q => kb b o (.inr ⟨n, by rw [q]; simp⟩) (e b o n q)⟩
    · by_cases c : isC X b
      · rw [cutH_in c, cutH_in c]
      · rw [cutH_out c, cutH_out c]; exact k b (.inl hb)
    · have c : ¬ isC X b := fun c => by rw [cutH_in c] at q; cases q
      rw [cutH_out c] at q ⊢
      exact kx b φ q
    · have c : ¬ isC X b := fun c => by rw [cutH_in c] at q; cases q
      rw [cutH_out c] at q ⊢
      exact kb b o (.inl hB) q
/-- the slots as a lambda sees them, later -/
theorem sat_lam {X : Cx} {W : Wd} {M1 M : Addr → Prop} {H1 G H : Hp} {h1 : ∀ b, W.A b → M1 b} {hn : ∀ b, isC X b → H1 b = none} {hG : Frz (isC X) G} {σ : L2.St} {ds : List Sl} (m : MOk (lamW X W M1 H1 G h1 hn hG) M H) (m1 : MOk W M1 H1) (hl : ds.length = σ.length)
    (hs : ∀ (i : Nat) (x : D), ds[i]? = some (.d x) → ∃ v, σ[i]? = some (some v) ∧ Rep X.K M1 H1 x v) : Sat X.K (W.fx (fun b => M b ∧ ¬ isC X b) (cutH (isC X) H)) (fun b => M b ∧ ¬ isC X b) (cutH (isC X) H) (fun _ => none) (cutH (isC X) H) σ (unown ds) := by
  obtain ⟨i, g, e⟩ := m.wi
  have nA : ∀ b, W.A b → ¬ isC X b := fun b hb c => W.live H1 b m1.wi hb (hn b c)
  refine ⟨fun a h => ⟨m.wm a (.inl h), nA a h⟩, fun a h => ?_, Ext.refl _, i, fun i a h => (by cases h), fun i j a h => (by cases h), by unfold VL.unown; rw [List.length_map]; exact hl, fun i _ => rfl, fun i s h => ?_, fun _ z => z, Ext.refl _, fun a h => W.liveB _ _ i h, fun a h hC => m1.nb a (Classical.byContradiction fun z => m.nb a h.1 ⟨z, fun y => W.liveB _ _ m1.wi (W.cb a hC) y⟩) hC, fun a φ h => ?_⟩
  · rw [cutH_out h.2]; exact m.live a h.1
  · unfold VL.unown at h
    rw [List.getElem?_map] at h
    cases q : ds[i]? with
    | none => rw [q] at h; cases h
    | some s0 =>
      rw [q] at h
      cases h
      cases s0 with
      | d x =>
        obtain ⟨v, e1, r⟩ := hs i x q
        refine ⟨rfl, v, e1, r.car fun b o n z => ?_⟩
        have nc : ¬ isC X b := fun c => by rw [hn b c] at z; cases z
        refine ⟨fun y => ?_, ?_⟩
        · have y := mx_no y
          exact m.nb b y.1 ⟨n, by rw [z]; simp⟩
        · rw [cutH_out nc]
          exact e b o (fun y => n (h1 b y)) z
      | un => rfl
      | ml l => rfl
      | md ks l => rfl
      | mi a C ks l => rfl
  · rw [cutH_out h.2]; exact m.nx a φ h.1
theorem room_hd {k : Nat} {A : Around} (r : Room k A) : A.handled = none := r.hd
/-- a lambda of X keeps its promise wherever it is called -/
theorem lamV_of {X : Cx} {W : Wd} {M1 : Addr → Prop} {H1 G : Hp} {h1 : ∀ b, W.A b → M1 b} {hn : ∀ b, isC X b → H1 b = none} {hG : Frz (isC X) G} {σ : L2.St} {ds : List Sl} {hp : Heap} {k : Nat} {d : D} {wB : (D → Prop) → WE} (L : LamX' X W k d wB)
    (C : CellsAt X σ hp) (hGh : ∀ b, isC X b → ∃ o y, G b = some (.frz o (.own y)) ∧ hp.get? b = some o) (m1 : MOk W M1 H1) (hl : ds.length = σ.length)
    (hs : ∀ (i : Nat) (x : D), ds[i]? = some (.d x) → ∃ v, σ[i]? = some (some v) ∧ Rep X.K M1 H1 x v) : LamV X.prog X.w X.K X.mg X.base k (lamW X W M1 H1 G h1 hn hG) d (fun PX P' => wB PX (unown ds) P') := by
  obtain ⟨f, as, params, body, scope, bn, rfl, is, LS, hB⟩ := L
  obtain ⟨dV, doc, pm, ctv, c', us, hlen, is⟩ := is
  refine ⟨f, as, rfl, fun h ha => ⟨_, _, _, _, (is h ha).1⟩, fun A outer s H Q E M PX P' hr e0 m has hw kk kx => ?_⟩
  have ha : ∀ p ∈ as, p.2 s.heap := fun p hp => (e0.hok p.1 _ (has p hp)).1
  obtain ⟨hf, hcd, hbind⟩ := is s.heap ha
  have iw := m.wi
  have fz : Frz (isC X) H := fun b c => by rw [iw.2.1 b c]; exact hG b c
  have cellEq : ∀ b o, isC X b → hp.get? b = some o → s.heap.get? b = some o := fun b o c q => by
    obtain ⟨o', y, q1, q2⟩ := hGh b c
    rw [q] at q2
    cases q2
    exact (e0.hok b _ ((iw.2.1 b c).trans q1)).1
  have C1 := C.move cellEq
  have e1 : Env0 X.prog X.w X.K X.mg X.base A outer s (cutH (isC X) H) := ⟨e0.frames, e0.mod, fun b o q => ⟨(e0.bs b o q).1, by
      have z := (e0.bs b o q).2
      rw [cutH_out (fz.no z fun _ _ y => by cases y)]; exact z⟩, e0.bsz, e0.funs, fun b hb => by
      have z := e0.frf b hb
      rw [cutH_out (fz.no z fun _ _ y => by cases y)]; exact z, hok_cut e0.hok fz, e0.bare⟩
  have ncf : ∀ b, isC X b → b ∉ frs outer := fun b c z => by
    obtain ⟨o, y, q⟩ := fz b c
    rw [e0.frf b z] at q; cases q
  have S := sat_lam (h1 := h1) (hn := hn) (hG := hG) m m1 hl hs
  have hkN : ∀ y ∈ bn.zip us, scope.names.lookup y.1 = some .local := fun ⟨n, v⟩ hy => LS.bnd n (List.of_mem_zip hy).1
  -- what is behind the body
  have back : ∀ {H' : Hp} {h' : Heap}, Un (frs outer) [] (cutH (isC X) H) H' s.heap h' → (∀ b, isC X b → H' b = none) ∧ ∀ b, isC X b → ∃ o y, H b = some (.frz o (.own y)) ∧ h'.get? b = some o := fun {H' h'} u => by
    refine ⟨fun b c => ?_, fun b c => ?_⟩
    · obtain ⟨o, y, q⟩ := fz b c
      exact u.free b o (e0.hok b _ q).1 (cutH_in c) (by simp)
    · obtain ⟨o, y, q⟩ := fz b c
      exact ⟨o, y, q, u.keep b o (e0.hok b _ q).1 (cutH_in c) (ncf b c) (by simp)⟩
  -- the heap with its cells, as data sees it
  have extB : ∀ {H' : Hp}, Ext W (cutH (isC X) H) H' → Ext (lamW X W M1 H1 G h1 hn hG) H (putH (isC X) H H') := fun {H'} e b o n q => by
    have nc : ¬ isC X b := fun c => n (.inr c)
    rw [putH_out nc]
    exact e b o (fun z => n (.inl z)) (by rw [cutH_out nc]; exact q)
  have wiB : ∀ {H' : Hp}, (∀ b, isC X b → H' b = none) → Ext W (cutH (isC X) H) H' → W.I H' → (lamW X W M1 H1 G h1 hn hG).I (putH (isC X) H H') := fun {H'} hz e i => by
    have ec : cutH (isC X) (putH (isC X) H H') = H' := by
      funext b
      by_cases c : isC X b
      · rw [cutH_in c, hz b c]
      · rw [cutH_out c, putH_out c]
    refine ⟨by rw [ec]; exact i, fun b c => by rw [putH_in c]; exact iw.2.1 b c, fun b o n q => ?_⟩
    have nc : ¬ isC X b := fun c => by rw [hn b c] at q; cases q
    rw [putH_out nc]
    exact e b o n (by rw [cutH_out nc]; exact iw.2.2 b o n q)
  have repB : ∀ {H' : Hp} {ds : List D} {vs : List V}, (∀ b, isC X b → H' b = none) → Reps X.K (fun b => M b ∧ ¬ isC X b) H' ds vs → Reps X.K M (putH (isC X) H H') ds vs := fun {H' ds vs} hz r => r.car fun b o n q => by
    have nc : ¬ isC X b := fun c => by rw [hz b c] at q; cases q
    exact ⟨fun y => n ⟨y, nc⟩, by rw [putH_out nc]; exact q⟩
  refine PySem.W.kla_callFunE hr.depth hf rfl LS.co LS.gen rfl hcd (hbind s rfl _ _ _ _ ?_)
  refine wpAny_newFunctionEnv (fun y hy => (LS.own y hy).1) hkN (fun h₁ hns hsb => ⟨(e0.mod.nolimit.keeps fun b o e => (e0.bs b o e).1).fresh _ hsb, ?_⟩) LS.kind
  show codeAny _ _ (.expr body (lamEnv X scope s.heap.objs.size f c')) _ _
  have kp : ∀ b o, s.heap.get? b = some o → h₁.get? b = some o := fun b o e => hsb.extBut b o (Nat.ne_of_lt (Heap.lt_size e)) (Heap.get?_push_of_some _ e)
  let E' : XK := fun cls d H' => XC X.K W (fun b => M b ∧ ¬ isC X b) (cutH (isC X) H) PX cls d H'
  have J : L2.Inv (lamCx X A outer s (cutH (isC X) H) E' scope f c') [] σ (cutH (isC X) H) { s with heap := h₁, toks := s.toks + (bn.zip us).length } :=
    lam_startV C1 LS e1 (fun b c => cutH_in c) hr.hd hns kp
  have tk : Takes (lamCx X A outer s (cutH (isC X) H) E' scope f c') (fun cls d _ H => E' cls d H) := takes_of rfl rfl rfl rfl
  have hb := (hB A outer s (cutH (isC X) H) E' f c' (fun b => M b ∧ ¬ isC X b) (cutH (isC X) H) PX (hr.deeper _) (tk.imp fun cls d σ' H' hx => hx)).run [] _ σ (cutH (isC X) H)
    (fun v H' => ∃ d, P' d ∧ Ext W (cutH (isC X) H) H' ∧ W.I H' ∧ Rep X.K (fun b => M b ∧ ¬ isC X b) H' d v) J
    ⟨_, _, fun _ => none, unown ds, P', S, hw, fun d v H' hp e i r => ⟨d, hp, e, i, r.car fun b o n z => ⟨fun y => n (.inl y), z⟩⟩⟩
  refine PySem.W.kla_codeExpr (wpAny_mono hb (fun v s' hq => ?_) fun e s' hq => ?_)
  · obtain ⟨w', H', J', rv, d, hp, e, i, r⟩ := hq
    obtain ⟨hz, hg⟩ := back J'.base
    refine ⟨w', putH (isC X) H H', J'.os, J'.bare, un_put J'.base fz, hok_put J'.hok hz hg, rv, kk d w' _ hp (extB e) (wiB hz e i) ?_⟩
    have rr := repB hz (reps_cons r reps_nil)
    obtain ⟨v', vs', e', r', _⟩ := rr.inv
    cases e'
    exact r'
  · refine wpAny_mono hq (fun _ s2 hx => ?_) (fun e2 s2 hx => ?_)
    all_goals
      obtain ⟨a, B, H', cls, d, rfl, fl, hok, ub, na, os, ag, hE⟩ := hx
      obtain ⟨CC, fs, xs, us2, dd, rfl, rfl, hpx, e, i, r, hlen2, hdd⟩ := hE
      have hz : ∀ b, isC X b → H' b = none := fun b c => by
        obtain ⟨o, y, q⟩ := fz b c
        exact ub.free b o (e0.hok b _ q).1 (cutH_in c)
      have hg : ∀ b, isC X b → ∃ o y, H b = some (.frz o (.own y)) ∧ B.get? b = some o := fun b c => by
        obtain ⟨o, y, q⟩ := fz b c
        exact ⟨o, y, q, ub.keep b o (e0.hok b _ q).1 (cutH_in c) (ncf b c)⟩
      have nca : ¬ isC X a := fun c => by
        obtain ⟨o, y, q1, q2⟩ := hg a c
        have z := fl.2.1
        rw [q2] at z; cases z
      refine ⟨a, B, putH (isC X) H H', _, _, rfl, fl, hok_put hok hz hg, ub_put ub fz, by rw [putH_out nca]; exact na, os, ag, kx _ _ _ ⟨CC, fs, xs, us2, dd, rfl, rfl, hpx, extB e, wiB hz e i, repB hz r, hlen2, ?_⟩⟩
      have ncd : ¬ isC X dd := fun c => by rw [hz dd c] at hdd; cases hdd
      rw [putH_out ncd]
      exact hdd
end VL

set_option Elab.async false
set_option linter.all false
set_option maxRecDepth 100000
set_option maxHeartbeats 4000000
/-! VK: lambdas as data: made in a world with a table; handed to a def; called in it. -/
namespace VL
open PySem PySem.Spec PyProof.Rows L2 LamX
def exq (a : Addr) (o : Obj) : Heap → Prop := fun h => h.get? a = some o
def codeP (c : Addr) (q : Str) : Heap → Prop := fun h => ∃ (oc : Obj) (vs : Array Value) (t : Tok), h.get? c = some oc ∧ oc.data = .fields vs ∧ vs[1]? = some (.str q t)
theorem exq_ok {P : Program} {w : World} {H : Hp} {h : Heap} {a : Addr} {o : Obj} (e : h.get? a = some o) : ObjOk P w H h a (.ext (exq a o)) := ⟨e, ⟨o, e⟩, fun h1 h2 e1 k => k o e1⟩
theorem codeP_eq (c : Addr) (q : Str) : CodeO c q = .ext (codeP c q) := rfl
section
variable {X : Cx} {pins : List (Addr × Obj)} {σ : L2.St} {H : Hp} {s : Shared}
/-- a lambda is made, its defaults at hand -/
theorem lam_tail {c P : Addr} {params : Arguments} {body : Expr} {scope : Scope} {pos : Pos} {dV : Value} {E : Value → Shared → Prop} {Q : Value → Shared → Prop} (I : L2.Inv X pins σ H s) (TB : TabB X.base X.mg c P) (hcode : X.env.code = .ref c)
    (hT : TabS H P (lamQ X)) (hfree : ∀ y ∈ scope.names, y.2 = .free → ∃ c, X.env.cells.lookup y.1 = some c)
    (h : ∀ (f c' : Addr) (doc pm ctv : Value) (H1 : Hp) (s' : Shared), L2.Inv X pins σ H1 s' → ExtP P H H1 → TabS H1 P (lamQ X) → H1 f = some (.ext (exq f (lamO (lamQ X) params body scope (cloFrom X.env.cells scope.names []) dV doc pm c' ctv))) → H1 c' = some (.ext (codeP c' (lamQ X))) → Q (.ref f) s') :
    wpAny (model X.prog X.w) X.A (makeTail "<lambda>" (lamQ X) params (.expr body) scope X.env dV .none none pos pos.line) Q E s := by
  obtain ⟨ps, hP, ht, ha⟩ := hT
  have bP : s.heap.BuiltinsAt X.mg P := TB.bm.keeps I.bk
  have hP' : s.heap.get? P = some { cls := .none, data := .fields ps } := I.hok P _ hP
  cases hc : codeAmong pos ps.toList with
  | none =>
    refine PySem.W.kdv_makeTail (mg := X.mg) (c := c) (P := P) (ps := ps) (closure_ok hfree) I.ok.glob (I.mod.glob.keeps I.bk) hcode (TB.code.keeps I.bk) hP' ht hc TB.gP bP fun c' ctv doc h' tk hx hge hlt hrec htb => ?_
    obtain ⟨c2, oc, vs, t, e2, hoc, hd, hv⟩ := hrec
    cases e2
    have nC : H c' = none := I.hok.fresh hge
    have nPc : P ≠ c' := ne_of_none hP nC
    have J0 := inv_table (t' := tk) (q := lamQ X) (more := #[rawInt pos.line, rawInt pos.col, .ref c']) (h' := h') I hP hx htb hge ⟨oc, vs, t, hoc, hd, hv⟩
    have nf : upd (upd H P (.tbl (ps ++ #[rawInt pos.line, rawInt pos.col, .ref c']))) c' (CodeO c' (lamQ X)) h'.objs.size = none := J0.hok.fresh (Nat.le_refl _)
    have J := J0.laid (t' := tk) (a := h'.objs.size) (o := .ext (exq h'.objs.size (lamO (lamQ X) params body scope (cloFrom X.env.cells scope.names []) dV doc ((X.mg "__name__").getD .none) c' ctv))) (h' := h'.push (lamO (lamQ X) params body scope (cloFrom X.env.cells scope.names []) dV doc ((X.mg "__name__").getD .none) c' ctv))
      (fun b o e => Heap.get?_push_of_some _ e) (Nat.le_refl _) (exq_ok (Heap.get?_push_size _ rfl))
    have F := Full.new (o := HO.ext (exq h'.objs.size (lamO (lamQ X) params body scope (cloFrom X.env.cells scope.names []) dV doc ((X.mg "__name__").getD .none) c' ctv))) nf
    refine h h'.objs.size c' doc _ ctv _ _ J (fun b o hb e => F b o (by rw [upd_ne (ne_of_none e nC), upd_ne hb]; exact e)) ((TabS.more (l := .none) (k := .none) nPc nC ht hP ha pos).ext F) upd_same (F _ _ upd_same)
  | some cv =>
    obtain ⟨c', e, hco⟩ := ha pos cv hc
    subst e
    refine PySem.W.kdv_makeTailHit (mg := X.mg) (c := c) (P := P) (ps := ps) (closure_ok hfree) I.ok.glob (I.mod.glob.keeps I.bk) hcode (TB.code.keeps I.bk) hP' ht hc bP fun ctv doc h' tk hx hsz => ?_
    have nf : H h'.objs.size = none := I.hok.fresh hsz
    have J := I.laid (t' := tk) (a := h'.objs.size) (o := .ext (exq h'.objs.size (lamO (lamQ X) params body scope (cloFrom X.env.cells scope.names []) dV doc ((X.mg "__name__").getD .none) c' ctv))) (h' := h'.push (lamO (lamQ X) params body scope (cloFrom X.env.cells scope.names []) dV doc ((X.mg "__name__").getD .none) c' ctv))
      (fun b o e => Heap.get?_push_of_some _ (hx b o e)) hsz (exq_ok (Heap.get?_push_size _ rfl))
    have F := Full.new (o := HO.ext (exq h'.objs.size (lamO (lamQ X) params body scope (cloFrom X.env.cells scope.names []) dV doc ((X.mg "__name__").getD .none) c' ctv))) nf
    exact h h'.objs.size c' doc _ ctv _ _ J (fun b o hb e => F b o e) (TabS.ext ⟨ps, hP, ht, ha⟩ F) upd_same (F _ _ hco)
/-- lambda: body -/
theorem lam_new0 {c P : Addr} {params : Arguments} {body : Expr} {scope : Scope} {pos : Pos} {E : Value → Shared → Prop} {Q : Value → Shared → Prop} (I : L2.Inv X pins σ H s) (TB : TabB X.base X.mg c P) (hcode : X.env.code = .ref c)
    (hT : TabS H P (lamQ X)) (hdef : defaultsOf params X.env = ([], [])) (hfree : ∀ y ∈ scope.names, y.2 = .free → ∃ c, X.env.cells.lookup y.1 = some c)
    (hbind : ∀ (q : Str) (cl : List (Str × Addr)) (doc pm cdv ct : Value), bindArgs (lamF q params body scope cl .none doc pm cdv ct) ⟨[], []⟩ = pure [])
    (h : ∀ (f : Addr) (as : List (Addr × (Heap → Prop))) (H1 : Hp) (s' : Shared), L2.Inv X pins σ H1 s' → ExtP P H H1 → TabS H1 P (lamQ X) → (∀ p ∈ as, H1 p.1 = some (.ext p.2)) → LamIs X params body scope [] f as → Q (.ref f) s') :
    wpAny (model X.prog X.w) X.A (eval (.Lambda params body scope pos) X.env) Q E s := by
  refine PySem.W.kla_eval hdef ?_
  rw [makeFunction_eq]
  simp only [List.zip_nil_right, List.filterMap_nil, List.isEmpty_nil, if_true, pure_bind]
  refine lam_tail I TB hcode hT hfree fun f c' doc pm ctv H1 s' J eP T1 hf hc => ?_
  refine h f [(f, exq f (lamO (lamQ X) params body scope (cloFrom X.env.cells scope.names []) .none doc pm c' ctv)), (c', codeP c' (lamQ X))] H1 s' J eP T1 (fun p hp => ?_) ⟨.none, doc, pm, ctv, c', [], rfl, fun hh ha => ?_⟩
  · simp only [List.mem_cons, List.not_mem_nil, or_false] at hp
    rcases hp with rfl | rfl
    · exact hf
    · exact hc
  · obtain ⟨oc, vs, t, e1, e2, e3⟩ := ha (c', codeP c' (lamQ X)) (by simp)
    exact ⟨ha (f, exq f _) (.head _), ⟨c', oc, vs, t, rfl, e1, e2, e3⟩, fun s2 _ => .of_eq (hbind _ _ _ _ _ _)⟩
/-- lambda x=i: body -/
theorem lam_new1 {c P : Addr} {params : Arguments} {body : Expr} {scope : Scope} {pos dpos : Pos} {i : Int} {dk} {x : Str} {E : Value → Shared → Prop} {Q : Value → Shared → Prop} (I : L2.Inv X pins σ H s) (TB : TabB X.base X.mg c P) (hcode : X.env.code = .ref c)
    (hT : TabS H P (lamQ X)) (hdf : params.defaults = [.Constant (.int i) dk dpos]) (hk0 : params.kw_defaults = []) (hfree : ∀ y ∈ scope.names, y.2 = .free → ∃ c, X.env.cells.lookup y.1 = some c)
    (hbind : ∀ (q : Str) (cl : List (Str × Addr)) (dV doc pm cdv ct : Value), ∃ kf : Option (Array Value) → Sem (List (Str × Value)), bindArgs (lamF q params body scope cl dV doc pm cdv ct) ⟨[], []⟩ = seqItems? dV >>= kf ∧ ∀ u, kf (some #[u]) = pure [(x, u)])
    (h : ∀ (f : Addr) (as : List (Addr × (Heap → Prop))) (H1 : Hp) (s' : Shared), L2.Inv X pins σ H1 s' → ExtP P H H1 → TabS H1 P (lamQ X) → (∀ p ∈ as, H1 p.1 = some (.ext p.2)) → LamIs X params body scope [x] f as → Q (.ref f) s') :
    wpAny (model X.prog X.w) X.A (eval (.Lambda params body scope pos) X.env) Q E s := by
  refine PySem.W.kdv_lam (by rw [hdf]; rfl) hk0 ?_
  rw [hdf]
  refine PySem.W.kdv_all1 (wpAny_Constant_int (PySem.W.kdv_all0 ?_))
  rw [makeFunction_eq]
  simp only [List.zip_nil_right, List.filterMap_nil, List.isEmpty_nil, List.isEmpty_cons, Bool.false_eq_true, if_false, if_true, pure_bind]
  refine wpAny_bind (wpAny_newTextTuple ?_)
  have I0 := I.tok (s.toks + 1)
  have nT : H s.heap.objs.size = none := I.hok.fresh (Nat.le_refl _)
  have I1 := I0.laid (t' := s.toks + 1) (a := s.heap.objs.size) (o := .ext (exq s.heap.objs.size (PySem.W.kdv_tup [.int i s.toks]))) (h' := s.heap.push (PySem.W.kdv_tup [.int i s.toks]))
    (fun b o e => Heap.get?_push_of_some _ e) (Nat.le_refl _) (exq_ok (Heap.get?_push_size _ rfl))
  have F := Full.new (o := HO.ext (exq s.heap.objs.size (PySem.W.kdv_tup [.int i s.toks]))) nT
  refine lam_tail I1 TB hcode (hT.ext F) hfree fun f c' doc pm ctv H1 s' J eP T1 hf hc => ?_
  have nPT : s.heap.objs.size ≠ P := fun z => by
    obtain ⟨ps, e, _⟩ := hT
    rw [← z, nT] at e; cases e
  have hTT := eP _ _ nPT (upd_same (H := H) (o := HO.ext (exq s.heap.objs.size (PySem.W.kdv_tup [.int i s.toks]))))
  refine h f [(f, exq f (lamO (lamQ X) params body scope (cloFrom X.env.cells scope.names []) (.ref s.heap.objs.size) doc pm c' ctv)), (c', codeP c' (lamQ X)), (s.heap.objs.size, exq s.heap.objs.size (PySem.W.kdv_tup [.int i s.toks]))] H1 s' J (fun b o hb e => eP b o hb (F b o e)) T1 (fun p hp => ?_) ⟨.ref s.heap.objs.size, doc, pm, ctv, c', [.int i s.toks], rfl, fun hh ha => ?_⟩
  · simp only [List.mem_cons, List.not_mem_nil, or_false] at hp
    rcases hp with rfl | rfl | rfl
    · exact hf
    · exact hc
    · exact hTT
  · obtain ⟨oc, vs, t, e1, e2, e3⟩ := ha (c', codeP c' (lamQ X)) (by simp)
    refine ⟨ha (f, exq f _) (.head _), ⟨c', oc, vs, t, rfl, e1, e2, e3⟩, fun s2 e => ?_⟩
    obtain ⟨kf, k1, k2⟩ := hbind (lamQ X) (cloFrom X.env.cells scope.names []) (.ref s.heap.objs.size) doc pm (.ref c') ctv
    have hz : hh.get? s.heap.objs.size = some (PySem.W.kdv_tup [.int i s.toks]) := ha (s.heap.objs.size, exq s.heap.objs.size (PySem.W.kdv_tup [.int i s.toks])) (.tail _ (.tail _ (.head _)))
    exact .of_defaults rfl (by rw [e]; exact hz) rfl k1 (k2 _)
end
section
variable {X : Cx} {W : Wd} {P c : Addr} {k : Nat}
/-- a new lambda -/
def wLam (X : Cx) (W : Wd) (k : Nat) (wB : (D → Prop) → WE) : WE := fun _ P => ∀ d, LamX' X W k d wB → P d
theorem lam_rep {M0 : Addr → Prop} {H0 H H1 : Hp} {oa : Nat → Option Addr} {σ : L2.St} {ds : List Sl} {K : PySem.W.Frag} {q : Str} (S : Sat K (W.tab P q) M0 H0 oa H σ ds) (eP : ExtP P H H1) (T1 : TabS H1 P q) : Ext (W.tab P q) H H1 ∧ (W.tab P q).I H1 := by
  refine ⟨fun b o n z => eP b o (fun y => n (.inr y)) z, W.stay H H1 S.wi.1 (fun b hb => ?_) (fun b φ z => eP b _ (fun y => ?_) z) (fun b o hB z => eP b o (fun y => S.wi.2.2.2 (by rw [← y]; exact hB)) z), T1, S.wi.2.2⟩
  · have hbP : b ≠ P := fun y => S.wi.2.2.1 (by rw [← y]; exact hb)
    cases q : H b with
    | none => exact absurd q (W.live H b S.wi.1 hb)
    | some o => exact eP b o hbP q
  · obtain ⟨ps, z2, _⟩ := S.wi.2.1
    rw [y, z2] at z
    cases z
theorem ve_lam0 {params : Arguments} {body : Expr} {scope : Scope} {lpos : Pos} {wB : (D → Prop) → WE} (TB : TabB X.base X.mg c P) (hcode : X.env.code = .ref c) (L : LamSx X.N X.env.scope scope []) (hdef : defaultsOf params X.env = ([], []))
    (hbind : ∀ (q : Str) (cl : List (Str × Addr)) (doc pm cdv ct : Value), bindArgs (lamF q params body scope cl .none doc pm cdv ct) ⟨[], []⟩ = pure []) (hB : LamB X (W.tab P (lamQ X)) k body scope wB) :
    VE X (W.tab P (lamQ X)) (.Lambda params body scope lpos) (wLam X (W.tab P (lamQ X)) k wB) := by
  refine ⟨fun pins s σ H Q I h => ?_⟩
  obtain ⟨M0, H0, oa, ds, Pd, S, hw, kk⟩ := h
  refine lam_new0 I TB hcode S.wi.2.1 hdef (fun y hy e => by
    rcases L.free y hy e with k | k
    · exact I.ok.has _ (.inl k)
    · exact I.ok.has _ (.inr k)) hbind fun f as H1 s' J eP T1 hx is => ?_
  obtain ⟨e1, i1⟩ := lam_rep S eP T1
  exact ⟨.ref f, H1, J, rfl, kk _ _ _ (hw _ ⟨f, as, params, body, scope, [], rfl, is, L, hB⟩) e1 i1 (rep_lam fun p hp => ⟨fun z => (S.step e1 i1).mok.nx _ _ z (hx p hp), hx p hp⟩)⟩
theorem ve_lam1 {params : Arguments} {body : Expr} {scope : Scope} {lpos dpos : Pos} {i : Int} {dk} {x : Str} {wB : (D → Prop) → WE} (TB : TabB X.base X.mg c P) (hcode : X.env.code = .ref c) (L : LamSx X.N X.env.scope scope [x]) (hdf : params.defaults = [.Constant (.int i) dk dpos]) (hk0 : params.kw_defaults = [])
    (hbind : ∀ (q : Str) (cl : List (Str × Addr)) (dV doc pm cdv ct : Value), ∃ kf : Option (Array Value) → Sem (List (Str × Value)), bindArgs (lamF q params body scope cl dV doc pm cdv ct) ⟨[], []⟩ = seqItems? dV >>= kf ∧ ∀ u, kf (some #[u]) = pure [(x, u)]) (hB : LamB X (W.tab P (lamQ X)) k body scope wB) :
    VE X (W.tab P (lamQ X)) (.Lambda params body scope lpos) (wLam X (W.tab P (lamQ X)) k wB) := by
  refine ⟨fun pins s σ H Q I h => ?_⟩
  obtain ⟨M0, H0, oa, ds, Pd, S, hw, kk⟩ := h
  refine lam_new1 I TB hcode S.wi.2.1 hdf hk0 (fun y hy e => by
    rcases L.free y hy e with k | k
    · exact I.ok.has _ (.inl k)
    · exact I.ok.has _ (.inr k)) hbind fun f as H1 s' J eP T1 hx is => ?_
  obtain ⟨e1, i1⟩ := lam_rep S eP T1
  exact ⟨.ref f, H1, J, rfl, kk _ _ _ (hw _ ⟨f, as, params, body, scope, [x], rfl, is, L, hB⟩) e1 i1 (rep_lam fun p hp => ⟨fun z => (S.step e1 i1).mok.nx _ _ z (hx p hp), hx p hp⟩)⟩
/-- x(.., lambdas, ..): the maker's cells are frozen while x runs -/
def wCallL (X : Cx) (W : Wd) (kl : Nat) (g : Wd → List D → (D → Prop) → Prop) (l : WL) : WE := fun ds P => l ds fun xs => ∀ WL : Wd, (∀ d wB, LamX' X W kl d wB → LamV X.prog X.w X.K X.mg X.base kl WL d (fun PX P' => wB PX (unown ds) P')) → g WL xs P
theorem frs_mem {l : List Env} {b : Addr} {h base : Heap} (F : h.FunFrames base l) (hb : b ∈ frs l) : b < h.objs.size := by
  obtain ⟨_, o, e, _⟩ := F.mem hb
  exact Heap.lt_size e
theorem ve_callL {kf kl : Nat} {f : Addr} {fd : FuncData} {ps : List Str} {g : Wd → List D → (D → Prop) → Prop} {x : Str} {p pos : Pos} {e : Expr} {es : List Expr} {l : WL} (F : ∀ WL : Wd, FnOk X.prog X.w X.K X.mg X.base CX0 kf f fd ps (spD X.K WL (g WL))) (hr : Room kf X.A) (hg : Gl X x) (hm : X.mg x = some (.ref f)) (hk : PySem.W.keepIn X.K (.ref f) = true)
    (hb : Binds X.K fd ps []) (hfn : ∀ x, X.fn x = true) (hex : X.ex = []) (hst : X.stack = X.env :: X.outer) (hfr : X.env.frame = some X.env.locals)
    (ha : VA X W (e :: es) l) (hdb : (x == ("__debug__" : Str)) = false := by decide) (he : starEach (e :: es) X.env = (false, eval e X.env) :: starEach es X.env := by rfl) (hpl : (backTo pos (starEach es X.env)).any (·.1) = false := by rfl) :
    VE X W (.Call (.Name x p) (e :: es) [] pos) (wCallL X W kl g l) := by
  refine ⟨fun pins s σ H Q I h => ?_⟩
  obtain ⟨M0, H0, oa, ds, Pd, S, hw, kk⟩ := h
  refine wpAny_Call_Name_kw (ld_glob I hg hm ?_ hdb)
  refine PySem.W.callWith_K (h₀ := X.base) I.ok.mod.kin hk (thn (ha.run pos pins s σ H (fun vs H1 => ∃ xs, (∀ WL : Wd, (∀ d wB, LamX' X W kl d wB → LamV X.prog X.w X.K X.mg X.base kl WL d (fun PX P' => wB PX (unown ds) P')) → g WL xs Pd) ∧ Ext W H H1 ∧ W.I H1 ∧ Reps X.K (Mx M0 oa) H1 xs vs) I
    ⟨M0, H0, oa, ds, _, S, hw, fun xs vs H1 hx e1 i1 r1 => ⟨xs, hx, e1, i1, r1⟩⟩) fun us s1 ⟨vs, H1, I1, r, xs, hx, e1, i1, r1⟩ => ⟨I1.kIn, ?_⟩) he hpl
  have S1 := S.step e1 i1
  have m1 := S1.mok
  have hn : ∀ b, isC X b → H1 b = none := fun b ⟨y, hy⟩ => I1.freeC y b hy
  -- the cells, frozen
  have hcell : ∀ b, isC X b → ∃ o, s1.heap.get? b = some o := fun b ⟨y, hy⟩ => by
    obtain ⟨v, o, q, _⟩ := I1.cell y b hy
    exact ⟨o, q⟩
  let G : Hp := fun b => (s1.heap.get? b).map fun o => .frz o (.own 0)
  have hGh : ∀ b, isC X b → ∃ o y, G b = some (.frz o (.own y)) ∧ s1.heap.get? b = some o := fun b c => by
    obtain ⟨o, q⟩ := hcell b c
    exact ⟨o, 0, by show (s1.heap.get? b).map _ = _; rw [q]; rfl, q⟩
  have hG : Frz (isC X) G := fun b c => by
    obtain ⟨o, y, q, _⟩ := hGh b c
    exact ⟨o, y, q⟩
  have above : ∀ b, isC X b → X.s_0.heap.objs.size ≤ b := fun b ⟨y, hy⟩ => I1.ok.cab y b (hfn y) hy
  have nfr : ∀ b, isC X b → b ∉ frs X.stack := fun b c z => by
    rw [hst] at z
    have z : b ∈ (X.env :: X.outer).filterMap (·.frame) := z
    rw [List.filterMap_cons, hfr] at z
    rcases List.mem_cons.mp z with z | z
    · obtain ⟨y, hy⟩ := c
      exact I1.cne y b hy z
    · have := frs_mem I1.ok.funs z
      exact absurd (Nat.lt_of_lt_of_le this (above b c)) (Nat.lt_irrefl _)
  have e0 := I1.env0
  let WL := lamW X W (Mx M0 oa) H1 G (fun b hb => m1.wm b hb) hn hG
  let HL := putH (isC X) G H1
  have eL : Env0 X.prog X.w X.K X.mg X.base X.A X.stack s1 HL := ⟨e0.frames, e0.mod, fun b o q => ⟨(e0.bs b o q).1, by
      have nc : ¬ isC X b := fun c => absurd (Nat.lt_of_lt_of_le (Heap.lt_size q) (Nat.le_trans I1.ok.bsz (above b c))) (Nat.lt_irrefl _)
      show putH (isC X) G H1 b = none
      rw [putH_out nc]; exact (e0.bs b o q).2⟩, e0.bsz, e0.funs, fun b hb => by
      have nc : ¬ isC X b := fun c => nfr b c hb
      show putH (isC X) G H1 b = none
      rw [putH_out nc]; exact e0.frf b hb, hok_put e0.hok hn hGh, e0.bare⟩
  have cutL : cutH (isC X) HL = H1 := by
    funext b
    by_cases c : isC X b
    · rw [cutH_in c, hn b c]
    · rw [cutH_out c]; exact putH_out c
  have iL : WL.I HL := ⟨by rw [cutL]; exact i1, fun b c => putH_in c, fun b o n q => by
    have nc : ¬ isC X b := fun c => by rw [hn b c] at q; cases q
    exact (putH_out nc).trans q⟩
  have nAc : ∀ b, isC X b → ¬ Mx M0 oa b := fun b c z => m1.live b z (hn b c)
  have mL : MOk WL (fun b => Mx M0 oa b ∨ isC X b) HL := by
    refine ⟨fun a h => h.elim (fun h => .inl (m1.wm a h)) .inr, fun a h => ?_, iL, fun a h hC => ?_, fun a φ h => ?_⟩
    · by_cases c : isC X a
      · obtain ⟨o, y, q⟩ := hG a c
        show putH (isC X) G H1 a ≠ none
        rw [putH_in c, q]; simp
      · show putH (isC X) G H1 a ≠ none
        rw [putH_out c]
        exact m1.live a (h.resolve_right c)
    · rcases h with h | h
      · exact hC.1 h
      · exact hC.2 (hn a h)
    · by_cases c : isC X a
      · obtain ⟨o, y, q⟩ := hG a c
        show putH (isC X) G H1 a ≠ _
        rw [putH_in c, q]; intro z; cases z
      · show putH (isC X) G H1 a ≠ _
        rw [putH_out c]
        exact m1.nx a φ (h.resolve_right c)
  have rL : Reps X.K (fun b => Mx M0 oa b ∨ isC X b) HL xs vs := r1.car fun b o n q => by
    have nc : ¬ isC X b := fun c => by rw [hn b c] at q; cases q
    exact ⟨fun z => z.elim n nc, (putH_out nc).trans q⟩
  have hl : ds.length = σ.length := S1.len
  have hs : ∀ (i : Nat) (x : D), ds[i]? = some (.d x) → ∃ v, σ[i]? = some (some v) ∧ Rep X.K (Mx M0 oa) H1 x v := fun i x h => S1.get h
  have hgx := hx WL fun d wB L => lamV_of L (CellsAt.of I1) hGh m1 hl hs
  have r2 : Vals (vs ++ []) (us ++ []) := r.append .nil
  rw [List.append_nil, List.append_nil] at r2
  have sp : spD X.K WL (g WL) vs HL (fun v H' => Q v (cutH (isC X) H') ∧ Frz (isC X) H' ∧ ∀ b, isC X b → H' b = HL b) (fun _ _ _ => True) := ⟨_, xs, Pd, mL, rL, hgx, fun d v H' hp e i rv => by
    have kc : ∀ b, isC X b → H' b = HL b := fun b c => (i.2.1 b c).trans (putH_in c).symm
    refine ⟨kk d v _ hp (e1.trans fun b o n q => ?_) i.1 (rv.car fun b o n q => ?_), fun b c => ?_, kc⟩
    · have nc : ¬ isC X b := fun c => by rw [hn b c] at q; cases q
      rw [cutH_out nc]
      exact e b o (fun z => z.elim n nc) ((putH_out nc).trans q)
    · have nc : ¬ isC X b := fun c => n (.inr c)
      exact ⟨fun z => n (.inl z), by rw [cutH_out nc]; exact q⟩
    · obtain ⟨o, y, q⟩ := hG b c
      exact ⟨o, y, by rw [kc b c]; exact (putH_in c).trans q⟩⟩
  have hlen : (us ++ []).length = ps.length := by
    rw [List.append_nil, ← r2.length]
    exact (F WL).len _ _ _ _ sp
  have bt := hb s1 us I1.kIn hlen
  rw [List.append_nil] at bt
  refine wpAny_call (codeAny_mono ((F WL).run X.A X.stack s1 HL ⟨us, []⟩ us vs _ (fun _ _ _ => True) hr eL bt r2 sp) fun r s2 hq => ?_)
  cases r with
  | error e => exact (show False from hq).elim
  | ok fl =>
    cases fl with
    | ret u =>
      obtain ⟨v, H', os, bare, un, hok, rv, q, fz, kc⟩ := hq
      refine I1.after ⟨v, cutH (isC X) H', os, bare, un_cut un hn (fun b o c hh => ?_), hok_cut hok fz, rv, q⟩
      obtain ⟨o', y, q1, q2⟩ := hGh b c
      rw [hh] at q2
      cases q2
      exact (hok b _ (((kc b c).trans (putH_in c)).trans q1)).1
    | next => exact False.elim hq
    | brk => exact False.elim hq
    | cont => exact False.elim hq
end
/-! ### a lambda called, and tried -/
def tlV (K : PySem.W.Frag) (W : Wd) (as : List (Addr × (Heap → Prop))) (wB : (D → Prop) → (D → Prop) → Prop) : XK → Hp → L2.VK → Prop := fun E H Q => ∃ M PX P', MOk W M H ∧ (∀ p ∈ as, H p.1 = some (.ext p.2)) ∧ wB PX P' ∧
  (∀ d v H', P' d → Ext W H H' → W.I H' → Rep K M H' d v → Q v H') ∧ ∀ cls d H', XC K W M H PX cls d H' → E cls d H'
theorem pe_actV {Z : Cx} {W : Wd} {k i : Nat} {a : Str} {f : Addr} {as : List (Addr × (Heap → Prop))} {wB : (D → Prop) → (D → Prop) → Prop} {E : XK} {Wx : WX} {p1 p2 : Pos} (L : LamV Z.prog Z.w Z.K Z.mg Z.base k W (.lam f as) wB) (tk : Takes Z Wx) (hW : ∀ cls d σ' H', E cls d H' → Wx cls d σ' H') (hr : Room (k + 1) Z.A)
    (hN : Z.N[i]? = some a) (hv : Vis Z.env.scope a) (hd : (a == ("__debug__" : Str)) = false := by decide) (hcd : (a == ("__classdict__" : Str)) = false := by decide) :
    PE Z (.Call (.Name a p1) [] [] p2) (fun σ H Q => σ[i]? = some (some (.ref f)) ∧ tlV Z.K W as wB E H Q) := by
  obtain ⟨f', as', e, hfn, run⟩ := L
  cases e
  refine ⟨fun pins s σ H Q I h => ?_⟩
  obtain ⟨hs, M, PX, P', m, ha, hw, kk, kx⟩ := h
  refine wpAny_Call_Name_kw (thn ((pe_var (pos := p1) (i := i) hN hv hd hcd).run pins s σ H (fun v H1 => v = .ref f ∧ H1 = H) I ⟨.ref f, hs, rfl, rfl⟩) fun u s1 ⟨v, H1, I1, r1, q1⟩ => ?_)
  obtain ⟨ev, eH⟩ := q1
  subst ev
  rw [eH] at I1
  obtain rfl : u = Value.ref f := r1
  refine PySem.W.callWith_F0 (hfn s1.heap fun p hp => (I1.hok p.1 _ (ha p hp)).1) ?_
  refine wpAny_call (codeAny_mono (run Z.A Z.stack s1 H Q E M PX P' hr I1.env0 m ha hw kk kx) fun r s' hq => ?_)
  cases r with
  | error e => exact passes_call tk hW pins σ H s1 e s' I1 hq
  | ok fl =>
    cases fl with
    | ret u => exact I1.after hq
    | next => exact False.elim hq
    | brk => exact False.elim hq
    | cont => exact False.elim hq
theorem try_V {K : PySem.W.Frag} {cs : List Value} {W : Wd} {M : Addr → Prop} {H : Hp} {Q : L2.VK} {Pd : D → Prop} {as : List (Addr × (Heap → Prop))} {wB : (D → Prop) → (D → Prop) → Prop} (m : MOk W M H) (ha : ∀ p ∈ as, H p.1 = some (.ext p.2)) (hw : wB (errD K cs Pd) fun d => Pd (.tup [.str "", d]))
    (kk : ∀ d v H', Pd d → Ext W H H' → W.I H' → Rep K M H' d v → Q v H') : TTry K cs (tlV K W as wB) H Q := by
  intro p0 hp0 E' R hE hR
  have f0 : Full H (upd H p0 (.tup [.str "", .non])) := Full.new hp0
  have m0 := m.full f0
  refine ⟨M, errD K cs Pd, _, m0, fun p hp => f0 _ _ (ha p hp), hw, fun d v H' hp e i r => hR v H' fun p hp1 => ?_, fun cls d H' hx => hE cls d H' ?_⟩
  · have m2 := m0.ext e i
    have f1 : Full H' (upd H' p (.tup [.str "", v])) := Full.new hp1
    refine kk _ _ _ hp (f0.ext.trans (e.trans f1.ext)) (W.keep _ _ i f1) ?_
    exact m2.newT hp1 (reps_cons rep_str (reps_cons r reps_nil))
  · obtain ⟨C, fs, xs, us, dd, rfl, rfl, hpx, e, i, r, hlen, hdd⟩ := hx
    obtain ⟨hC, hex, z, ks, ys, hcode', hmem, hks, hP⟩ := hpx
    have m2 := m0.ext e i
    obtain ⟨vc, hvc, rvc⟩ := (lkp_fs (f := "code") r hlen).1 _ hcode'
    have evc : vc = .str z := by unfold Rep at rvc; exact rvc
    subst evc
    have key : ∀ (ks : List Str) (ys : List D), ks.map (fun k => lkp fs xs k) = ys.map some → ∃ vs : List V, ks.map (fun k => (fs.zip us).lookup k) = vs.map some ∧ Reps K M H' ys vs := by
      intro ks
      induction ks with
      | nil =>
        intro ys h
        cases ys with
        | nil => exact ⟨[], rfl, reps_nil⟩
        | cons _ _ => cases h
      | cons k ks ih =>
        intro ys h
        cases ys with
        | nil => cases h
        | cons y ys =>
          obtain ⟨h1, h2⟩ := List.cons.inj h
          obtain ⟨vs, e1, r1⟩ := ih ys h2
          obtain ⟨v, e2, r2⟩ := (lkp_fs (f := k) r hlen).1 _ h1
          exact ⟨v :: vs, by rw [List.map_cons, List.map_cons, e1, e2], reps_cons r2 r1⟩
    obtain ⟨vs, hvs, rvs⟩ := key ks ys hks
    refine ⟨C, dd, fs.zip us, z, ks, vs, M, rfl, rfl, hC, hex, hdd, hvc, hmem, hvs, fun b hb => ⟨m2.live b hb, fun φ => m2.nx b φ hb⟩, fun H2 v2 fH r2 p hp1 => ?_⟩
    have i2 := W.keep _ _ i fH
    have m3 := m2.full fH
    have f1 : Full H2 (upd H2 p (.tup [.str z, v2])) := Full.new hp1
    refine kk _ _ _ hP (f0.ext.trans (e.trans (fH.ext.trans f1.ext))) (W.keep _ _ i2 f1) ?_
    exact m3.newT hp1 (reps_cons rep_str (reps_cons (tup_join (rvs.car fun b o n z => ⟨n, fH b o z⟩) r2) reps_nil))
theorem LamV.pl {P : Program} {w : World} {K : PySem.W.Frag} {mg : Str → Option Value} {base : Heap} {k : Nat} {W : Wd} {d : D} {wB : (D → Prop) → (D → Prop) → Prop} (L : LamV P w K mg base k W d wB) : LamV P w K mg base k W.pl d wB := by
  obtain ⟨f, as, e, h1, h2⟩ := L
  exact ⟨f, as, e, h1, fun A outer s H Q E M PX P' hr e0 m has hw kk kx => h2 A outer s H Q E M PX P' hr e0 ⟨m.wm, m.live, m.wi, m.nb, m.nx⟩ has hw kk kx⟩
end VL

set_option Elab.async false
set_option linter.all false
set_option maxRecDepth 100000
set_option maxHeartbeats 2000000
/-! VM: fractions in plain Lean. -/
namespace VL
open PySem L2
def iabs (a : Int) : Int := if a < 0 then -a else a
theorem iabs_nonneg (a : Int) : 0 ≤ iabs a := by unfold iabs; split <;> omega
theorem iabs_eq (a : Int) : iabs a = (a.natAbs : Int) := by unfold iabs; split <;> omega
theorem iabs_pos {a : Int} (h : 0 < a) : iabs a = a := by unfold iabs; rw [if_neg (by omega)]
theorem gcd_abs (a b : Int) : Int.gcd (iabs a) (iabs b) = Int.gcd a b := by
  rw [iabs_eq, iabs_eq]
  rfl
theorem gcd_absl (a b : Int) : Int.gcd (iabs a) b = Int.gcd a b := by
  rw [iabs_eq]
  rfl
theorem gcd_step {a b : Int} (ha : 0 ≤ a) (hb : 0 ≤ b) : Int.gcd b (a.fmod b) = Int.gcd a b := by
  rw [Int.fmod_eq_emod_of_nonneg a hb]
  obtain ⟨n, rfl⟩ := Int.eq_ofNat_of_zero_le ha
  obtain ⟨m, rfl⟩ := Int.eq_ofNat_of_zero_le hb
  show Nat.gcd m (n % m) = Nat.gcd n m
  rw [Nat.gcd_comm m, ← Nat.gcd_rec, Nat.gcd_comm]
theorem gcd_zero {a : Int} (ha : 0 ≤ a) : ((Int.gcd a 0 : Nat) : Int) = a := by
  rw [Int.gcd_zero_right]
  omega
/-- an amount whose parts are below 2^n -/
structure Amt (n : Nat) (a b : Int) : Prop where
  pos : 0 < b
  cop : Int.gcd a b = 1
  ha : a.natAbs < 2 ^ n
  hb : b.natAbs < 2 ^ n
theorem Amt.mono {m n : Nat} {a b : Int} (h : Amt m a b) (hmn : m ≤ n) : Amt n a b :=
  ⟨h.pos, h.cop, Nat.lt_of_lt_of_le h.ha (Nat.pow_le_pow_right (by decide) hmn), Nat.lt_of_lt_of_le h.hb (Nat.pow_le_pow_right (by decide) hmn)⟩
/-- the divisor by which a fraction is brought to lowest terms, with the sign of the bottom -/
def ratK (t b : Int) : Int := if 0 < b then (Int.gcd t b : Int) else 0 - (Int.gcd t b : Int)
def ratT (t b : Int) : Int := t.fdiv (ratK t b)
def ratB (t b : Int) : Int := b.fdiv (ratK t b)
def ratD (t b : Int) : D := .tup [.int (ratT t b), .int (ratB t b)]
theorem gcd_pos_of {t b : Int} (h : b ≠ 0) : 0 < Int.gcd t b := Int.gcd_pos_of_ne_zero_right t h
theorem ratK_ne {t b : Int} (h : b ≠ 0) : ratK t b ≠ 0 := by
  have := gcd_pos_of (t := t) h
  unfold ratK
  split <;> omega
theorem ratK_abs (t b : Int) : (ratK t b).natAbs = Int.gcd t b := by
  unfold ratK
  split <;> omega
theorem ratK_le {t b : Int} (h : b ≠ 0) : (ratK t b).natAbs ≤ b.natAbs := by
  rw [ratK_abs]
  exact Nat.le_of_dvd (by omega) (Nat.gcd_dvd_right _ _)
theorem fdiv_of {t k x : Int} (hk : k ≠ 0) (h : t = k * x) : t.fdiv k = x := by rw [h]; exact Int.mul_fdiv_cancel_left x hk
/-- t and b by their lowest terms -/
theorem rat_parts {t b : Int} (h : b ≠ 0) : t = ratK t b * ratT t b ∧ b = ratK t b * ratB t b ∧ 0 < ratB t b ∧ Int.gcd (ratT t b) (ratB t b) = 1 := by
  have hg := gcd_pos_of (t := t) h
  have dt : ((Int.gcd t b : Nat) : Int) ∣ t := Int.gcd_dvd_left t b
  have db : ((Int.gcd t b : Nat) : Int) ∣ b := Int.gcd_dvd_right t b
  have hc := Int.gcd_ediv_gcd_ediv_gcd_of_ne_zero_right (n := t) h
  obtain ⟨t', ht⟩ := dt
  obtain ⟨b', hb⟩ := db
  have hg' : ((Int.gcd t b : Nat) : Int) ≠ 0 := by omega
  have et : t / ((Int.gcd t b : Nat) : Int) = t' := Int.ediv_eq_of_eq_mul_right hg' ht
  have eb : b / ((Int.gcd t b : Nat) : Int) = b' := Int.ediv_eq_of_eq_mul_right hg' hb
  rw [et, eb] at hc
  unfold ratT ratB ratK
  generalize hG : ((Int.gcd t b : Nat) : Int) = g at *
  have g0 : 0 < g := by omega
  by_cases hp : 0 < b
  · rw [if_pos hp]
    have h1 := fdiv_of hg' ht
    have h2 := fdiv_of hg' hb
    rw [h1, h2]
    refine ⟨ht, hb, ?_, hc⟩
    exact Int.pos_of_mul_pos_right (by rw [← hb]; exact hp) g0
  · rw [if_neg hp]
    have hn : (0 - g) ≠ 0 := by omega
    have ht2 : t = (0 - g) * (-t') := by rw [Int.zero_sub, Int.neg_mul_neg]; exact ht
    have hb2 : b = (0 - g) * (-b') := by rw [Int.zero_sub, Int.neg_mul_neg]; exact hb
    have h1 := fdiv_of hn ht2
    have h2 := fdiv_of hn hb2
    rw [h1, h2]
    refine ⟨ht2, hb2, ?_, by rw [Int.gcd_neg, Int.neg_gcd]; exact hc⟩
    have hb3 : 0 < g * (-b') := by rw [Int.mul_neg, ← hb]; omega
    exact Int.pos_of_mul_pos_right hb3 g0
theorem natAbs_le_of_mul {k x y : Int} (hk : k ≠ 0) (h : y = k * x) : x.natAbs ≤ y.natAbs := by
  rw [h, Int.natAbs_mul]
  have : 0 < k.natAbs := by omega
  exact Nat.le_mul_of_pos_left _ this
/-- a fraction in lowest terms is an amount -/
theorem rat_amt {n : Nat} {t b : Int} (h : b ≠ 0) (ht : t.natAbs < 2 ^ n) (hb : b.natAbs < 2 ^ n) : Amt n (ratT t b) (ratB t b) := by
  obtain ⟨h1, h2, h3, h4⟩ := rat_parts (t := t) h
  exact ⟨h3, h4, Nat.lt_of_le_of_lt (natAbs_le_of_mul (ratK_ne h) h1) ht, Nat.lt_of_le_of_lt (natAbs_le_of_mul (ratK_ne h) h2) hb⟩
/-- what // asks -/
theorem ratK_div {t b : Int} (h : b ≠ 0) (hb : b.natAbs < 2 ^ 9000) (x : Int) : CFdiv x (ratK t b) := by
  refine ⟨ratK_ne h, PySem.Flt.log2_lt_of (by decide) (Nat.lt_of_le_of_lt (ratK_le h) hb)⟩
theorem rat_self {t b : Int} (hp : 0 < b) (hc : Int.gcd t b = 1) : ratT t b = t ∧ ratB t b = b := by
  have e : ratK t b = 1 := by unfold ratK; rw [if_pos hp, hc]; rfl
  unfold ratT ratB
  rw [e, Int.fdiv_one, Int.fdiv_one]
  exact ⟨rfl, rfl⟩
/-! ### values that are amounts -/
def amt2 : D → D → Bool
  | .int a, .int b => decide (0 < b) && decide (Int.gcd a b = 1)
  | _, _ => false
def isAmt : D → Bool
  | .tup [x, y] => amt2 x y
  | _ => false
def isI (d : D) : Bool := isTy .int d && !isTy .bool d
theorem isI_cases (d : D) : (∃ i, d = .int i) ∨ isI d = false := by
  cases d with
  | int i => exact .inl ⟨i, rfl⟩
  | _ => exact .inr rfl
theorem amt2_l {a b : D} (h : isI a = false) : isAmt (.tup [a, b]) = false := by
  cases a with
  | int i => cases h
  | _ => rfl
theorem amt2_r {a b : D} (h : isI b = false) : isAmt (.tup [a, b]) = false := by
  cases b with
  | int i => cases h
  | _ => cases a <;> rfl
theorem amt2_int {i j : Int} (h : 0 < j) : isAmt (.tup [.int i, .int j]) = decide (((Int.gcd i j : Nat) : Int) = 1) := by
  show (decide (0 < j) && decide (Int.gcd i j = 1)) = _
  rw [decide_eq_true h, Bool.true_and]
  congr 1
  apply propext
  omega
theorem amt2_not {i j : Int} (h : ¬ 0 < j) : isAmt (.tup [.int i, .int j]) = false := by
  show (decide (0 < j) && decide (Int.gcd i j = 1)) = _
  rw [decide_eq_false h, Bool.false_and]
theorem amt_is {n : Nat} {a b : Int} (h : Amt n a b) : isAmt (.tup [.int a, .int b]) = true := by
  rw [amt2_int h.pos, h.cop]
  rfl
end VL

set_option Elab.async false
set_option linter.all false
set_option maxRecDepth 100000
set_option maxHeartbeats 2000000
/-! VN: names, sums of amounts, forms, in plain Lean. -/
namespace VL
open PySem L2
/-! ### names -/
def abcS : Str := Str.ofString "abcdefghijklmnopqrstuvwxyz"
def abcL : List Nat := abcS.cps.toList
def nmS (s : Str) : Bool := decide (1 ≤ s.length) && decide (s.length ≤ 8) && s.cps.toList.all fun c => decide (c ∈ abcL)
def isName : D → Bool
  | .str s => nmS s
  | _ => false
/-! ### amounts -/
def AmtD (n : Nat) (d : D) : Prop := ∃ a b, d = .tup [.int a, .int b] ∧ Amt n a b
theorem AmtD.mono {m n : Nat} {d : D} (h : AmtD m d) (hmn : m ≤ n) : AmtD n d := by
  obtain ⟨a, b, rfl, h⟩ := h
  exact ⟨a, b, rfl, h.mono hmn⟩
def zeroD : D := .tup [.int 0, .int 1]
def isZ : D → Bool
  | .tup [.int a, .int b] => decide (a = 0) && decide (b = 1)
  | _ => false
theorem zero_amt : AmtD 1 zeroD := ⟨0, 1, rfl, by decide, by decide, by decide, by decide⟩
theorem eqv_amt (a b c d : Int) : eqv (.tup [.int a, .int b]) (.tup [.int c, .int d]) = (decide (a = c) && decide (b = d)) := by
  show ((a == c) && ((b == d) && true)) = _
  rw [Bool.and_true]
  rfl
def plusD : D → D → D
  | .tup [.int a, .int b], .tup [.int c, .int d] => ratD (a * d + c * b) (b * d)
  | _, _ => .non
def timesD : D → D → D
  | .tup [.int a, .int b], .tup [.int c, .int d] => ratD (a * c) (b * d)
  | _, _ => .non
theorem mul_lt {a b : Int} {n m : Nat} (ha : a.natAbs < 2 ^ n) (hb : b.natAbs < 2 ^ m) : (a * b).natAbs < 2 ^ (n + m) := by
  rw [Int.natAbs_mul, Nat.pow_add]
  exact Nat.mul_lt_mul'' ha hb
theorem add_lt {a b : Int} {n : Nat} (ha : a.natAbs < 2 ^ n) (hb : b.natAbs < 2 ^ n) : (a + b).natAbs < 2 ^ (n + 1) := by
  have := Int.natAbs_add_le a b
  rw [Nat.pow_succ]
  omega
theorem rat_amtD {n : Nat} {t b : Int} (h : b ≠ 0) (ht : t.natAbs < 2 ^ n) (hb : b.natAbs < 2 ^ n) : AmtD n (ratD t b) := ⟨_, _, rfl, rat_amt h ht hb⟩
theorem pow_up {x m n : Nat} (h : x < 2 ^ m) (hmn : m ≤ n) : x < 2 ^ n := Nat.lt_of_lt_of_le h (Nat.pow_le_pow_right (by decide) hmn)
theorem plus_amt {n m : Nat} {x y : D} (hx : AmtD n x) (hy : AmtD m y) : AmtD (n + m + 1) (plusD x y) := by
  obtain ⟨a, b, rfl, A⟩ := hx
  obtain ⟨c, d, rfl, B⟩ := hy
  refine rat_amtD ?_ (add_lt (mul_lt A.ha B.hb) ?_) (pow_up (mul_lt A.hb B.hb) (by omega))
  · have := Int.mul_pos A.pos B.pos
    omega
  · rw [Nat.add_comm n m]
    exact mul_lt B.ha A.hb
theorem times_amt {n m : Nat} {x y : D} (hx : AmtD n x) (hy : AmtD m y) : AmtD (n + m) (timesD x y) := by
  obtain ⟨a, b, rfl, A⟩ := hx
  obtain ⟨c, d, rfl, B⟩ := hy
  refine rat_amtD ?_ (mul_lt A.ha B.ha) (mul_lt A.hb B.hb)
  have := Int.mul_pos A.pos B.pos
  omega
/-! ### dicts -/
theorem lkp_put {s k : Str} {v : D} : ∀ {ks : List Str} {ds : List D}, ds.length = ks.length → lkp (putKs ks s) (putDs ks ds s v) k = if k = s then some v else lkp ks ds k := by
  intro ks ds l
  have key : ∀ {ks : List Str} {ds : List D}, ds.length = ks.length → lkp ks ((ks.zip ds).map fun p => if p.1 = s then v else p.2) k = if k = s ∧ k ∈ ks then some v else lkp ks ds k := by
    intro ks
    induction ks with
    | nil => intro ds l; simp [lkp]
    | cons q ks ih =>
      intro ds l
      match ds, l with
      | x :: ds, l =>
        have ih := ih (ds := ds) (by simpa using l)
        show lkp (q :: ks) ((if q = s then v else x) :: _) k = _
        by_cases e : q = k
        · subst e
          by_cases e2 : q = s
          · simp [lkp, e2]
          · simp [lkp, e2]
        · have ne : ¬ k = q := fun z => e z.symm
          show (if q = k then _ else lkp ks ((ks.zip ds).map _) k) = if _ then _ else (if q = k then some x else lkp ks ds k)
          rw [if_neg e, if_neg e, ih]
          simp [ne]
  unfold putKs putDs
  by_cases hs : s ∈ ks
  · rw [if_pos hs, if_pos hs, key l]
    by_cases e : k = s
    · subst e; simp [hs]
    · simp [e]
  · rw [if_neg hs, if_neg hs]
    have key2 : ∀ {ks : List Str} {ds : List D}, ds.length = ks.length → s ∉ ks → lkp (ks ++ [s]) (ds ++ [v]) k = if k = s then some v else lkp ks ds k := by
      intro ks
      induction ks with
      | nil =>
        intro ds l _
        match ds, l with
        | [], _ =>
          by_cases e : k = s
          · subst e; simp [lkp]
          · have ne : ¬ s = k := fun z => e z.symm
            simp [lkp, e, ne]
      | cons q ks ih =>
        intro ds l hn
        match ds, l with
        | x :: ds, l =>
          have hn' : ¬ s = q ∧ s ∉ ks := ⟨fun z => hn (by rw [z]; simp), fun z => hn (by simp [z])⟩
          have ih := ih (ds := ds) (by simpa using l) hn'.2
          show (if q = k then some x else lkp (ks ++ [s]) (ds ++ [v]) k) = _
          rw [ih]
          by_cases e : q = k
          · subst e
            have ne : ¬ q = s := fun z => hn'.1 z.symm
            simp [lkp, ne]
          · simp [lkp, e]
    exact key2 l hs
theorem put_len {s : Str} {v : D} {ks : List Str} {ds : List D} (l : ds.length = ks.length) : (putDs ks ds s v).length = (putKs ks s).length := by
  unfold putKs putDs
  by_cases hs : s ∈ ks
  · rw [if_pos hs, if_pos hs]
    simp [l]
  · rw [if_neg hs, if_neg hs]
    simp [l]
theorem putKs_len (ks : List Str) (s : Str) : (putKs ks s).length ≤ ks.length + 1 := by
  unfold putKs
  split
  · omega
  · simp
theorem mem_putKs {ks : List Str} {s k : Str} : k ∈ putKs ks s ↔ k ∈ ks ∨ k = s := by
  unfold putKs
  by_cases hs : s ∈ ks
  · rw [if_pos hs]
    refine ⟨.inl, fun h => ?_⟩
    rcases h with h | h
    · exact h
    · rw [h]; exact hs
  · rw [if_neg hs]
    simp
theorem putKs_nodup {ks : List Str} {s : Str} (h : ks.Nodup) : (putKs ks s).Nodup := by
  unfold putKs
  by_cases hs : s ∈ ks
  · rw [if_pos hs]; exact h
  · rw [if_neg hs]
    refine List.nodup_append.mpr ⟨h, by simp, ?_⟩
    intro a ha b hb
    have e := List.mem_singleton.mp hb
    rw [e]
    exact fun z => hs (by rw [← z]; exact ha)
theorem lkp_mem {k : Str} : ∀ {ks : List Str} {ds : List D}, ds.length = ks.length → k ∈ ks → ∃ d, lkp ks ds k = some d ∧ d ∈ ds
  | q :: ks, x :: ds, l, h => by
    by_cases e : q = k
    · exact ⟨x, by simp [lkp, e], by simp⟩
    · have hk : k ∈ ks := by
        rcases List.mem_cons.mp h with h | h
        · exact absurd h.symm e
        · exact h
      obtain ⟨d, h1, h2⟩ := lkp_mem (ds := ds) (by simpa using l) hk
      exact ⟨d, by simp [lkp, e, h1], by simp [h2]⟩
  | q :: ks, [], l, _ => by cases l
theorem lkp_some {k : Str} {d : D} : ∀ {ks : List Str} {ds : List D}, lkp ks ds k = some d → k ∈ ks ∧ d ∈ ds
  | q :: ks, x :: ds, h => by
    by_cases e : q = k
    · simp [lkp, e] at h
      subst h
      exact ⟨by simp [e], by simp⟩
    · simp only [lkp, if_neg e] at h
      obtain ⟨h1, h2⟩ := lkp_some h
      exact ⟨by simp [h1], by simp [h2]⟩
  | [], _, h => by cases h
  | _ :: _, [], h => by cases h
theorem mem_srt {ks : List Str} {s : Str} : s ∈ srt ks ↔ s ∈ ks := (List.mergeSort_perm ks leS).mem_iff
theorem srt_len (ks : List Str) : (srt ks).length = ks.length := (List.mergeSort_perm ks leS).length_eq
theorem srt_nodup {ks : List Str} (h : ks.Nodup) : (srt ks).Nodup := (List.mergeSort_perm ks leS).nodup_iff.mpr h
/-! ### forms -/
def totStep (t : List Str × List D) : D → List Str × List D
  | .tup [.str s, f] => (putKs t.1 s, putDs t.1 t.2 s (plusD ((lkp t.1 t.2 s).getD zeroD) f))
  | _ => t
def totals (ps : List D) : List Str × List D := ps.foldl totStep ([], [])
def keepT (t : List Str × List D) (s : Str) : Option D := match lkp t.1 t.2 s with
  | some v => if isZ v then none else some (.tup [.str s, v])
  | none => none
def formTs (t : List Str × List D) : List D := (srt t.1).filterMap (keepT t)
def formD (ps : List D) (c : D) : D := .tup [.tup (formTs (totals ps)), c]
/-- a pair of a name and an amount below 2^n -/
def PairD (n : Nat) (p : D) : Prop := ∃ s f, p = .tup [.str s, f] ∧ AmtD n f
theorem PairD.mono {m n : Nat} {d : D} (h : PairD m d) (hmn : m ≤ n) : PairD n d := by
  obtain ⟨a, b, rfl, h⟩ := h
  exact ⟨a, b, rfl, h.mono hmn⟩
def keyOf : D → Option Str
  | .tup [.str s, _] => some s
  | _ => none
/-- how often a name stands in the pairs -/
def ncnt (k : Str) (ps : List D) : Nat := (ps.filterMap keyOf).count k
theorem ncnt_le (k : Str) (ps : List D) : ncnt k ps ≤ ps.length := Nat.le_trans List.count_le_length (List.length_filterMap_le _ _)
theorem ncnt_take (k : Str) (ps : List D) (i : Nat) : ncnt k (ps.take i) ≤ ncnt k ps := ((List.take_sublist i ps).filterMap keyOf).count_le k
theorem ncnt_app (k : Str) (ps qs : List D) : ncnt k (ps ++ qs) = ncnt k ps + ncnt k qs := by
  unfold ncnt
  rw [List.filterMap_append, List.count_append]
theorem ncnt_one {ps : List D} (h : (ps.filterMap keyOf).Nodup) (k : Str) : ncnt k ps ≤ 1 := List.nodup_iff_count.mp h k
/-- what holds of the totals of pairs -/
structure TotOk (n : Nat) (S : Str → Prop) (ps : List D) (t : List Str × List D) : Prop where
  len : t.2.length = t.1.length
  few : t.1.length ≤ ps.length
  nd : t.1.Nodup
  val : ∀ k d, lkp t.1 t.2 k = some d → AmtD (ncnt k ps * (n + 1) + 1) d
  nm : ∀ k ∈ t.1, S k
theorem TotOk.nil {n : Nat} {S : Str → Prop} : TotOk n S [] ([], []) := ⟨rfl, Nat.le_refl _, .nil, fun k d h => by simp [lkp] at h, fun k h => by cases h⟩
theorem TotOk.get {n : Nat} {ps : List D} {S : Str → Prop} {t : List Str × List D} (h : TotOk n S ps t) (s : Str) : AmtD (ncnt s ps * (n + 1) + 1) ((lkp t.1 t.2 s).getD zeroD) := by
  cases e : lkp t.1 t.2 s with
  | none => exact zero_amt.mono (by omega)
  | some d => exact h.val s d e
theorem TotOk.put {n : Nat} {ps : List D} {S : Str → Prop} {t : List Str × List D} (h : TotOk n S ps t) {s : Str} {f : D} (hf : AmtD n f) (hs : S s) : TotOk n S (ps ++ [.tup [.str s, f]]) (putKs t.1 s, putDs t.1 t.2 s (plusD ((lkp t.1 t.2 s).getD zeroD) f)) := by
  refine ⟨put_len h.len, Nat.le_trans (putKs_len _ _) (by have := h.few; rw [List.length_append, List.length_singleton]; omega), putKs_nodup h.nd, fun k d hk => ?_, fun k hk => ?_⟩
  · have hk : lkp (putKs t.1 s) (putDs t.1 t.2 s _) k = some d := hk
    rw [lkp_put h.len] at hk
    rw [ncnt_app]
    by_cases e2 : k = s
    · rw [if_pos e2] at hk
      cases hk
      subst e2
      have e : ncnt k [.tup [.str k, f]] = 1 := by
        show List.count k [k] = 1
        simp
      have e3 : (ncnt k ps + 1) * (n + 1) + 1 = (ncnt k ps * (n + 1) + 1) + n + 1 := by rw [Nat.add_mul]; omega
      rw [e, e3]
      exact plus_amt (h.get k) hf
    · rw [if_neg e2] at hk
      refine (h.val k d hk).mono ?_
      have := Nat.mul_le_mul_right (n + 1) (show ncnt k ps ≤ ncnt k ps + ncnt k [.tup [.str s, f]] by omega)
      omega
  · rcases mem_putKs.mp hk with hk | hk
    · exact h.nm k hk
    · rw [hk]; exact hs
theorem tot_ok {n : Nat} {S : Str → Prop} {ps : List D} (h : ∀ p ∈ ps, ∃ s f, p = .tup [.str s, f] ∧ AmtD n f ∧ S s) : TotOk n S ps (totals ps) := by
  have key : ∀ (l pre : List D) (t : List Str × List D), (∀ p ∈ l, ∃ s f, p = .tup [.str s, f] ∧ AmtD n f ∧ S s) → TotOk n S pre t → TotOk n S (pre ++ l) (l.foldl totStep t) := by
    intro l
    induction l with
    | nil => intro pre t _ ht; rw [List.append_nil]; exact ht
    | cons p l ih =>
      intro pre t hl ht
      obtain ⟨s, f, rfl, hf, hs⟩ := hl p (by simp)
      have := ih (pre ++ [.tup [.str s, f]]) (totStep t (.tup [.str s, f])) (fun q hq => hl q (by simp [hq])) (ht.put hf hs)
      rw [List.append_assoc] at this
      exact this
  exact key ps [] ([], []) h TotOk.nil
theorem tot_take {ps : List D} {i : Nat} {p : D} (h : ps[i]? = some p) : totals (ps.take (i + 1)) = totStep (totals (ps.take i)) p := by
  unfold totals
  rw [take_one h, List.foldl_append]
  rfl
theorem formTs_mem {n : Nat} {ps : List D} {S : Str → Prop} {t : List Str × List D} (h : TotOk n S ps t) {d : D} (hd : d ∈ formTs t) : ∃ s f, d = .tup [.str s, f] ∧ AmtD (ncnt s ps * (n + 1) + 1) f ∧ S s ∧ isZ f = false := by
  unfold formTs at hd
  obtain ⟨s, h1, h2⟩ := List.mem_filterMap.mp hd
  unfold keepT at h2
  cases e : lkp t.1 t.2 s with
  | none => rw [e] at h2; cases h2
  | some v =>
    rw [e] at h2
    cases hz : isZ v with
    | true => simp [hz] at h2
    | false =>
      simp [hz] at h2
      exact ⟨s, v, h2.symm, h.val s v e, h.nm s (lkp_some e).1, hz⟩
theorem formTs_len (t : List Str × List D) : (formTs t).length ≤ t.1.length := by
  unfold formTs
  refine Nat.le_trans (List.length_filterMap_le _ _) ?_
  rw [srt_len]
  exact Nat.le_refl _
/-! ### values that are forms -/
def nameOf : D → D
  | .tup [a, _] => a
  | _ => .non
def facOf : D → D
  | .tup [_, b] => b
  | _ => .non
def isTerm : D → Bool
  | .tup [a, b] => isName a && isAmt b
  | _ => false
def ltB : D → D → Bool
  | .str a, .str b => decide (a.cps.toList < b.cps.toList)
  | _, _ => false
def asc : List D → Bool
  | x :: y :: r => ltB x y && asc (y :: r)
  | _ => true
def goodT (t : D) : Bool := isTerm t && !isZ (facOf t)
def formP (ts : List D) (c : D) : Bool := isAmt c && (ts.all goodT && asc (ts.map nameOf))
def formX : D → D → Bool
  | .tup ts, c => formP ts c
  | _, _ => false
def isForm : D → Bool
  | .tup [x, c] => formX x c
  | _ => false
theorem asc_snoc : ∀ (l : List D) (a b : D), asc (l ++ [a] ++ [b]) = (asc (l ++ [a]) && ltB a b)
  | [], a, b => by simp [asc]
  | [x], a, b => by simp [asc]
  | x :: y :: r, a, b => by
    have ih := asc_snoc (y :: r) a b
    show (ltB x y && asc ((y :: r) ++ [a] ++ [b])) = (ltB x y && asc ((y :: r) ++ [a]) && ltB a b)
    rw [ih, Bool.and_assoc]
theorem asc_app_l : ∀ (l r : List D), asc (l ++ r) = true → asc l = true
  | [], _, _ => rfl
  | [x], _, _ => rfl
  | x :: y :: l, r, h => by
    have h : (ltB x y && asc ((y :: l) ++ r)) = true := h
    obtain ⟨h1, h2⟩ := Bool.and_eq_true_iff.mp h
    show (ltB x y && asc (y :: l)) = true
    rw [h1, asc_app_l (y :: l) r h2]
    rfl
theorem goodT_of {t : D} (h : goodT t = true) : ∃ s f, t = .tup [.str s, f] ∧ nmS s = true ∧ isAmt f = true ∧ isZ f = false := by
  unfold goodT at h
  obtain ⟨h1, h2⟩ := Bool.and_eq_true_iff.mp h
  unfold isTerm at h1
  split at h1
  · rename_i a b
    obtain ⟨h3, h4⟩ := Bool.and_eq_true_iff.mp h1
    cases a with
    | str s => exact ⟨s, b, rfl, h3, h4, by simpa [facOf] using h2⟩
    | _ => cases h3
  · cases h1
theorem zip_asc : ∀ l : List D, ((l.zip (l.drop 1)).map fun p => ltB p.1 p.2).all id = asc l
  | [] => rfl
  | [_] => rfl
  | x :: y :: r => by
    have ih := zip_asc (y :: r)
    show (ltB x y && (((y :: r).zip ((y :: r).drop 1)).map fun p => ltB p.1 p.2).all id) = _
    rw [ih]
    rfl
theorem amt_cases {d : D} (h : isAmt d = true) : ∃ a b, d = .tup [.int a, .int b] := by
  unfold isAmt at h
  split at h
  · rename_i x y
    unfold amt2 at h
    split at h
    · exact ⟨_, _, rfl⟩
    · cases h
  · cases h
mutual
/-- data with no handle in it, texts of at most 1000 signs, no list of more than 1000 items -/
def tame : D → Bool
  | .hnd _ => false
  | .dic _ _ => false
  | .ins _ _ _ => false
  | .lam _ _ => false
  | .str s => decide (s.length ≤ 1000)
  | .tup ds => decide (ds.length ≤ 1000) && tames ds
  | .lst ds => decide (ds.length ≤ 1000) && tames ds
  | _ => true
def tames : List D → Bool
  | [] => true
  | d :: ds => tame d && tames ds
end
mutual
theorem tame_plain : ∀ {d : D}, tame d = true → plain d = true
  | .non, _ => by unfold plain; rfl
  | .bl _, _ => by unfold plain; rfl
  | .int _, _ => by unfold plain; rfl
  | .str _, _ => by unfold plain; rfl
  | .hnd _, h => by unfold tame at h; cases h
  | .dic _ _, h => by unfold tame at h; cases h
  | .ins _ _ _, h => by unfold tame at h; cases h
  | .lam _ _, h => by unfold tame at h; cases h
  | .tup ds, h => by
    unfold tame at h
    unfold plain
    exact tames_plains (Bool.and_eq_true_iff.mp h).2
  | .lst ds, h => by
    unfold tame at h
    unfold plain
    exact tames_plains (Bool.and_eq_true_iff.mp h).2
theorem tames_plains : ∀ {ds : List D}, tames ds = true → plains ds = true
  | [], _ => by unfold plains; rfl
  | d :: ds, h => by
    unfold tames at h
    unfold plains
    obtain ⟨h1, h2⟩ := Bool.and_eq_true_iff.mp h
    rw [tame_plain h1, tames_plains h2]
    rfl
end
theorem tames_all {ds : List D} : tames ds = true ↔ ∀ d ∈ ds, tame d = true := by
  induction ds with
  | nil => unfold tames; simp
  | cons a r ih =>
    unfold tames
    rw [Bool.and_eq_true_iff, ih]
    simp
theorem tame_tup {ds : List D} : tame (.tup ds) = true ↔ ds.length ≤ 1000 ∧ ∀ d ∈ ds, tame d = true := by
  rw [tame, Bool.and_eq_true_iff, tames_all, decide_eq_true_iff]
theorem tame_lst {ds : List D} : tame (.lst ds) = true ↔ ds.length ≤ 1000 ∧ ∀ d ∈ ds, tame d = true := by
  rw [tame, Bool.and_eq_true_iff, tames_all, decide_eq_true_iff]
theorem amt_tame {n : Nat} {d : D} (h : AmtD n d) : tame d = true := by
  obtain ⟨a, b, rfl, _⟩ := h
  rfl
/-- a comprehension with a test: f gives what is kept -/
theorem lcM {items : List D} {P : List D → Prop} {g : WG} {t : WT} {w : WE} {ds : List Sl} (f : D → Option D) (h : ∀ d ∈ items, ∀ (Y : D → Prop) (N : Prop), (∀ y, f d = some y → Y y) → (f d = none → N) → g d ds fun ds1 => t ds1 fun b => if b = true then w ds1 Y else N) (hP : P (items.filterMap f)) :
    ∃ Iv : Nat → List D → Prop, Iv 0 [] ∧ (∀ i d acc, items[i]? = some d → Iv i acc → g d ds fun ds1 => t ds1 fun b => if b = true then w ds1 fun y => Iv (i + 1) (acc ++ [y]) else Iv (i + 1) acc) ∧ ∀ acc, Iv items.length acc → P acc := by
  refine ⟨fun i acc => acc = (items.take i).filterMap f, rfl, fun i d acc hd ha => ?_, fun acc ha => by have z : acc = (items.take items.length).filterMap f := ha; rw [z, List.take_length]; exact hP⟩
  subst ha
  refine h d (List.mem_of_getElem? hd) _ _ (fun y hy => ?_) fun hn => ?_
  · show (items.take i).filterMap f ++ [y] = (items.take (i + 1)).filterMap f
    rw [take_one hd, List.filterMap_append]
    simp [hy]
  · show (items.take i).filterMap f = (items.take (i + 1)).filterMap f
    rw [take_one hd, List.filterMap_append]
    simp [hn]
theorem cut_tail (xs : List D) : cutD xs (some 1) none = xs.drop 1 := by
  unfold cutD
  cases xs with
  | nil => rfl
  | cons a r =>
    show ((a :: r).drop (min 1 (r.length + 1))).take (r.length + 1 - min 1 (r.length + 1)) = _
    rw [show min 1 (r.length + 1) = 1 by omega]
    show r.take _ = r
    rw [List.take_of_length_le (by omega)]
def pairLt : D → Bool
  | .tup [x, y] => ltB x y
  | _ => false
theorem zips_lt (xs ys : List D) : (zipsD xs ys).map (fun d => D.bl (pairLt d)) = ((xs.zip ys).map fun p => ltB p.1 p.2).map D.bl := by
  unfold zipsD
  rw [List.map_map, List.map_map]
  rfl
theorem zips_mem {xs ys : List D} {d : D} (h : d ∈ zipsD xs ys) : ∃ x ∈ xs, ∃ y ∈ ys, d = .tup [x, y] := by
  obtain ⟨i, hi⟩ := List.getElem?_of_mem h
  obtain ⟨x, y, h1, h2, e⟩ := zips_get hi
  exact ⟨x, List.mem_of_getElem? h1, y, List.mem_of_getElem? h2, e⟩
theorem toPys_lay {n : Nat} : ∀ {l : List D}, (∀ x ∈ l, (toPy x).canLay0 = true ∧ (toPy x).depth ≤ n) → PyData.canLayAll0 (toPys l) = true ∧ PyData.depthAll (toPys l) ≤ n
  | [], _ => ⟨by unfold toPys PyData.canLayAll0; rfl, by unfold toPys PyData.depthAll; omega⟩
  | x :: l, h => by
    obtain ⟨h1, h2⟩ := toPys_lay (l := l) fun y hy => h y (by simp [hy])
    obtain ⟨h3, h4⟩ := h x (by simp)
    unfold toPys PyData.canLayAll0 PyData.depthAll
    exact ⟨by rw [h1, h3]; rfl, Nat.max_le.mpr ⟨h4, h2⟩⟩
theorem shp_lst {l : List D} (h : ∀ x ∈ l, (toPy x).canLay0 = true ∧ (toPy x).depth ≤ 60) : shp (.lst l) = true := by
  obtain ⟨h1, h2⟩ := toPys_lay h
  unfold shp SeqAt.shaped toPy PyData.canLay0 PyData.depth
  rw [h1, decide_eq_true (by omega)]
  rfl
theorem shp_tup {l : List D} (h : ∀ x ∈ l, (toPy x).canLay0 = true ∧ (toPy x).depth ≤ 60) : shp (.tup l) = true := by
  obtain ⟨h1, h2⟩ := toPys_lay h
  unfold shp SeqAt.shaped toPy PyData.canLay0 PyData.depth
  rw [h1, decide_eq_true (by omega)]
  rfl
theorem nm_lay {s : Str} (h : nmS s = true) : (toPy (.str s)).canLay0 = true ∧ (toPy (.str s)).depth ≤ 60 := by
  unfold nmS at h
  obtain ⟨_, h⟩ := Bool.and_eq_true_iff.mp h
  have h := List.all_eq_true.mp h
  unfold toPy PyData.canLay0 PyData.depth
  refine ⟨?_, by omega⟩
  have key : ∀ c ∈ abcL, c < 0x110000 := by decide +kernel
  show s.cps.all (· < 0x110000) = true
  rw [← Array.all_toList, List.all_eq_true]
  intro c hc
  exact decide_eq_true (key c (of_decide_eq_true (h c hc)))
theorem eqv_nil (l : List D) : eqv (.lst l) (.lst []) = l.isEmpty := by cases l <;> rfl
theorem tot_at {n : Nat} {ps : List D} (h : ∀ p ∈ ps, PairD n p) (i : Nat) : TotOk n (fun _ => True) (ps.take i) (totals (ps.take i)) := tot_ok fun p hp => by
  obtain ⟨s, f, rfl, hf⟩ := h p (List.mem_of_mem_take hp)
  exact ⟨s, f, rfl, hf, trivial⟩
theorem ncnt_mul {n M : Nat} {ps : List D} (hM : ∀ k, ncnt k ps ≤ M) (k : Str) (i : Nat) : ncnt k (ps.take i) * (n + 1) + 1 ≤ M * (n + 1) + 1 := by
  have := Nat.mul_le_mul_right (n + 1) (Nat.le_trans (ncnt_take k ps i) (hM k))
  omega
theorem tot_amt {n i M N : Nat} {ps : List D} (h : ∀ p ∈ ps, PairD n p) (hM : ∀ k, ncnt k ps ≤ M) (hN : M * (n + 1) + 1 ≤ N) {s : Str} {v : D} (hv : lkp (totals (ps.take i)).1 (totals (ps.take i)).2 s = some v) : AmtD N v :=
  ((tot_at h i).val s v hv).mono (Nat.le_trans (ncnt_mul hM s i) hN)
theorem tot_get {n i M N : Nat} {ps : List D} (h : ∀ p ∈ ps, PairD n p) (hM : ∀ k, ncnt k ps ≤ M) (hN : M * (n + 1) + 1 ≤ N) (s : Str) : AmtD N ((lkp (totals (ps.take i)).1 (totals (ps.take i)).2 s).getD zeroD) := by
  cases e : lkp (totals (ps.take i)).1 (totals (ps.take i)).2 s with
  | none => exact zero_amt.mono (by omega)
  | some v => exact tot_amt h hM hN e
theorem tot_few {n i : Nat} {ps : List D} (h : ∀ p ∈ ps, PairD n p) : (totals (ps.take i)).1.length ≤ ps.length := by
  have := (tot_at h i).few
  rw [List.length_take] at this
  omega
def keepD (t : List Str × List D) : D → Option D
  | .str s => keepT t s
  | _ => none
theorem keep_map (t : List Str × List D) : ((srt t.1).map D.str).filterMap (keepD t) = formTs t := by
  unfold formTs
  rw [List.filterMap_map]
  rfl
theorem keepT_some {t : List Str × List D} {s : Str} {a b : Int} (h : lkp t.1 t.2 s = some (.tup [.int a, .int b])) : keepT t s = if (decide (a = 0) && decide (b = 1)) = true then none else some (.tup [.str s, .tup [.int a, .int b]]) := by
  unfold keepT
  rw [h]
  rfl
theorem cut_len (xs : List D) (a b : Option Int) : (cutD xs a b).length ≤ xs.length := by
  unfold cutD
  rw [List.length_take, List.length_drop]
  omega
theorem cut_mem {xs : List D} {a b : Option Int} {d : D} (h : d ∈ cutD xs a b) : d ∈ xs := List.mem_of_mem_drop (List.mem_of_mem_take h)
theorem All2.mem {S : D → Prop} {xs ys : List D} (h : All2 (fun _ y => S y) xs ys) : ∀ y ∈ ys, S y := by
  induction h with
  | nil => intro y hy; cases hy
  | cons h _ ih =>
    intro y hy
    rcases List.mem_cons.mp hy with e | hy
    · rw [e]; exact h
    · exact ih y hy
/-- a slot that holds no own list -/
def Sl.pl : Sl → Prop
  | .un => True
  | .d _ => True
  | _ => False
theorem sl_pl {s : Sl} (h : s.pl) : s = .un ∨ ∃ x, s = .d x := by
  cases s with
  | un => exact .inl rfl
  | d x => exact .inr ⟨x, rfl⟩
  | ml _ => exact h.elim
  | md _ _ => exact h.elim
  | mi _ _ _ _ => exact h.elim
/-! ### forms: sums, values -/
def scaleD (f : D) : D → D
  | .tup [s, g] => .tup [s, timesD f g]
  | _ => .non
def valD (ts : List D) (c : D) (ks : List Str) (xs : List D) : D := ts.foldl (fun acc t => match t with
  | .tup [.str s, f] => plusD acc (timesD f ((lkp ks xs s).getD .non))
  | _ => acc) c
theorem val_take {ts : List D} {i : Nat} {s : Str} {f c v : D} {ks : List Str} {xs : List D} (h : ts[i]? = some (.tup [.str s, f])) (hv : lkp ks xs s = some v) : valD (ts.take (i + 1)) c ks xs = plusD (valD (ts.take i) c ks xs) (timesD f v) := by
  unfold valD
  rw [take_one h, List.foldl_append]
  show plusD _ (timesD f ((lkp ks xs s).getD .non)) = _
  rw [hv]
  rfl
theorem val_amt {n m : Nat} {ts : List D} {c : D} {ks : List Str} {xs : List D} (hc : AmtD n c) (ht : ∀ t ∈ ts, PairD n t) (hk : ∀ s f, .tup [.str s, f] ∈ ts → ∃ v, lkp ks xs s = some v ∧ AmtD m v) : ∀ i, i ≤ ts.length → AmtD (n + i * (n + m + 1)) (valD (ts.take i) c ks xs)
  | 0, _ => by
    rw [Nat.zero_mul]
    exact hc
  | i + 1, h => by
    obtain ⟨t, e⟩ := get_lt (xs := ts) (i := i) (by omega)
    have hm := List.mem_of_getElem? e
    obtain ⟨s, f, rfl, hf⟩ := ht t hm
    obtain ⟨v, h1, h2⟩ := hk s f hm
    rw [val_take e h1, Nat.succ_mul]
    exact (plus_amt (val_amt hc ht hk i (by omega)) (times_amt hf h2)).mono (by omega)
theorem rat_one {n : Nat} {a b : Int} (A : Amt n a b) : ratD a b = .tup [.int a, .int b] := by
  obtain ⟨h1, h2⟩ := rat_self A.pos A.cop
  unfold ratD
  rw [h1, h2]
theorem times_one {n : Nat} {f : D} (h : AmtD n f) : timesD (.tup [.int 1, .int 1]) f = f := by
  obtain ⟨a, b, rfl, A⟩ := h
  show ratD (1 * a) (1 * b) = _
  rw [Int.one_mul, Int.one_mul]
  exact rat_one A
theorem plus_zero {n : Nat} {f : D} (h : AmtD n f) : plusD zeroD f = f := by
  obtain ⟨a, b, rfl, A⟩ := h
  show ratD (0 * b + a * 1) (1 * b) = _
  rw [Int.zero_mul, Int.zero_add, Int.mul_one, Int.one_mul]
  exact rat_one A
theorem rat_zero {b : Int} (h : 0 < b) : ratD 0 b = zeroD := by
  have hg : ((Int.gcd 0 b : Nat) : Int) = b := by
    rw [Int.gcd_zero_left]
    omega
  have hk : ratK 0 b = b := by
    unfold ratK
    rw [if_pos h, hg]
  unfold ratD ratT ratB
  rw [hk, Int.zero_fdiv, Int.fdiv_self (by omega)]
  rfl
theorem plus_neg {n : Nat} {f : D} (h : AmtD n f) : plusD f (timesD (.tup [.int (-1), .int 1]) f) = zeroD := by
  obtain ⟨a, b, rfl, A⟩ := h
  have e : timesD (.tup [.int (-1), .int 1]) (.tup [.int a, .int b]) = .tup [.int (-a), .int b] := by
    show ratD (-1 * a) (1 * b) = _
    rw [Int.neg_one_mul, Int.one_mul]
    exact rat_one (n := n) ⟨A.pos, by rw [Int.neg_gcd]; exact A.cop, by rw [Int.natAbs_neg]; exact A.ha, A.hb⟩
  rw [e]
  show ratD (a * b + -a * b) (b * b) = _
  rw [Int.neg_mul, Int.add_right_neg]
  exact rat_zero (Int.mul_pos A.pos A.pos)
theorem scale_one {n : Nat} {ts : List D} (h : ∀ t ∈ ts, PairD n t) : ts.map (scaleD (.tup [.int 1, .int 1])) = ts := by
  induction ts with
  | nil => rfl
  | cons t ts ih =>
    obtain ⟨s, f, rfl, hf⟩ := h t (by simp)
    rw [List.map_cons, ih fun u hu => h u (by simp [hu])]
    show D.tup [.str s, timesD _ f] :: ts = _
    rw [times_one hf]
/-- terms in order, without zeros -/
structure Normal (n : Nat) (ts : List D) : Prop where
  pr : ∀ t ∈ ts, ∃ s f, t = .tup [.str s, f] ∧ AmtD n f ∧ isZ f = false
  nd : (ts.filterMap fun t => match t with | .tup [.str s, _] => some s | _ => none).Nodup
  so : (ts.filterMap fun t => match t with | .tup [.str s, _] => some s | _ => none).Pairwise fun a b => leS a b = true
theorem isZ_zero {f : D} (h : AmtD n f) (hz : isZ f = true) : f = zeroD := by
  obtain ⟨a, b, rfl, A⟩ := h
  have hz : (decide (a = 0) && decide (b = 1)) = true := hz
  obtain ⟨h1, h2⟩ := Bool.and_eq_true_iff.mp hz
  rw [of_decide_eq_true h1, of_decide_eq_true h2]
  rfl
/-- totals of pairs with different names: the pairs themselves -/
theorem tot_diff : ∀ (ps : List D) (t : List Str × List D) {n : Nat}, t.2.length = t.1.length → (∀ p ∈ ps, ∃ s f, p = .tup [.str s, f] ∧ AmtD n f) → (t.1 ++ ps.filterMap keyOf).Nodup →
    ps.foldl totStep t = (t.1 ++ ps.filterMap keyOf, t.2 ++ ps.map facOf)
  | [], t, _, _, _, _ => by simp
  | p :: ps, t, n, hl, h, hn => by
    obtain ⟨s, f, rfl, hf⟩ := h p (by simp)
    have ek : (D.tup [.str s, f] :: ps).filterMap keyOf = s :: ps.filterMap keyOf := rfl
    rw [ek] at hn ⊢
    have hs : s ∉ t.1 := fun z => by
      have := (List.nodup_append.mp hn).2.2 s z s (by simp)
      exact this rfl
    have hlk : lkp t.1 t.2 s = none := by
      cases e : lkp t.1 t.2 s with
      | none => rfl
      | some v => exact absurd (lkp_some e).1 hs
    have es : totStep t (.tup [.str s, f]) = (t.1 ++ [s], t.2 ++ [f]) := by
      show (putKs t.1 s, putDs t.1 t.2 s (plusD ((lkp t.1 t.2 s).getD zeroD) f)) = _
      rw [hlk]
      show (putKs t.1 s, putDs t.1 t.2 s (plusD zeroD f)) = _
      rw [plus_zero hf]
      unfold putKs putDs
      rw [if_neg hs, if_neg hs]
    rw [List.foldl_cons, es, tot_diff ps _ (n := n) (by simp [hl]) (fun q hq => h q (by simp [hq])) (by simpa using hn)]
    simp [facOf]
theorem lkp_zip : ∀ {ps : List D} {n : Nat}, (∀ p ∈ ps, ∃ s f, p = .tup [.str s, f] ∧ AmtD n f) → (ps.filterMap keyOf).Nodup → ∀ s f, .tup [.str s, f] ∈ ps → lkp (ps.filterMap keyOf) (ps.map facOf) s = some f
  | [], _, _, _, s, f, h => by cases h
  | p :: ps, n, h, hn, s, f, hm => by
    obtain ⟨s0, f0, rfl, _⟩ := h p (by simp)
    have ek : (D.tup [.str s0, f0] :: ps).filterMap keyOf = s0 :: ps.filterMap keyOf := rfl
    rw [ek] at hn ⊢
    show (if s0 = s then some f0 else lkp (ps.filterMap keyOf) (ps.map facOf) s) = some f
    rcases List.mem_cons.mp hm with e | hm
    · cases e
      rw [if_pos rfl]
    · have : s ∈ ps.filterMap keyOf := List.mem_filterMap.mpr ⟨_, hm, rfl⟩
      have ne : s0 ≠ s := fun z => (List.nodup_cons.mp hn).1 (by rw [z]; exact this)
      rw [if_neg ne]
      exact lkp_zip (fun q hq => h q (by simp [hq])) (List.nodup_cons.mp hn).2 s f hm
/-- a form's terms, added up again, are the same -/
theorem formTs_self {ps : List D} {n : Nat} (h : ∀ p ∈ ps, ∃ s f, p = .tup [.str s, f] ∧ AmtD n f ∧ isZ f = false) (hn : (ps.filterMap keyOf).Nodup) (hs : (ps.filterMap keyOf).Pairwise fun a b => leS a b = true) : formTs (totals ps) = ps := by
  have h' : ∀ p ∈ ps, ∃ s f, p = .tup [.str s, f] ∧ AmtD n f := fun p hp => by
    obtain ⟨s, f, e, hf, _⟩ := h p hp
    exact ⟨s, f, e, hf⟩
  have et : totals ps = (ps.filterMap keyOf, ps.map facOf) := by
    unfold totals
    rw [tot_diff ps ([], []) (n := n) rfl h' (by simpa using hn)]
    simp
  unfold formTs
  rw [et]
  have es : srt (ps.filterMap keyOf) = ps.filterMap keyOf := List.mergeSort_of_pairwise hs
  rw [show (ps.filterMap keyOf, ps.map facOf).1 = ps.filterMap keyOf from rfl, es]
  have key : ∀ l : List D, (∀ p ∈ l, p ∈ ps) → (l.filterMap keyOf).filterMap (keepT (ps.filterMap keyOf, ps.map facOf)) = l := by
    intro l
    induction l with
    | nil => intro _; rfl
    | cons p l ih =>
      intro hm
      obtain ⟨s, f, rfl, hf, hz⟩ := h p (hm p (by simp))
      have ek : (D.tup [.str s, f] :: l).filterMap keyOf = s :: l.filterMap keyOf := rfl
      have e1 : keepT (ps.filterMap keyOf, ps.map facOf) s = some (.tup [.str s, f]) := by
        unfold keepT
        rw [lkp_zip h' hn s f (hm _ (by simp))]
        simp [hz]
      rw [ek, List.filterMap_cons, e1, ih fun q hq => hm q (by simp [hq])]
  exact key ps fun p hp => hp
theorem keys_form {t : List Str × List D} : ∀ l : List Str, ((l.filterMap (keepT t)).filterMap keyOf).Sublist l
  | [] => .slnil
  | s :: l => by
    rw [List.filterMap_cons]
    cases e : keepT t s with
    | none => exact (keys_form l).cons _
    | some d =>
      unfold keepT at e
      cases e2 : lkp t.1 t.2 s with
      | none => rw [e2] at e; cases e
      | some v =>
        rw [e2] at e
        cases hz : isZ v with
        | true => simp [hz] at e
        | false =>
          simp [hz] at e
          subst e
          exact (keys_form l).cons₂ s
theorem form_nodup {t : List Str × List D} (h : t.1.Nodup) : ((formTs t).filterMap keyOf).Nodup := (keys_form _).nodup (srt_nodup h)
theorem form_sorted (t : List Str × List D) : ((formTs t).filterMap keyOf).Pairwise fun a b => leS a b = true := (List.pairwise_mergeSort leS_trans leS_total t.1).sublist (keys_form _)
/-! ### what _law_same may be asked of -/
theorem okD_amt {n : Nat} {d : D} (h : AmtD n d) (m : Nat) : okD (m + 1) d = true := by
  obtain ⟨a, b, rfl, _⟩ := h
  cases m <;> rfl
theorem okD_pair {n : Nat} {d : D} (h : PairD n d) (m : Nat) : okD (m + 2) d = true := by
  obtain ⟨s, f, rfl, a, b, rfl, _⟩ := h
  cases m <;> rfl
theorem okD_tup {n : Nat} {l : List D} (h1 : l.length ≤ 1000000) (h : ∀ x ∈ l, okD n x = true) : okD (n + 1) (.tup l) = true := by
  show (decide (l.length ≤ 1000000) && l.all (okD n)) = true
  rw [decide_eq_true h1, List.all_eq_true.mpr h]
  rfl
theorem okD_lst {n : Nat} {l : List D} (h1 : l.length ≤ 1000000) (h : ∀ x ∈ l, okD n x = true) : okD (n + 1) (.lst l) = true := by
  show (decide (l.length ≤ 1000000) && l.all (okD n)) = true
  rw [decide_eq_true h1, List.all_eq_true.mpr h]
  rfl
/-- a form of few terms whose amounts are below 2^n -/
structure FormOk (n : Nat) (S : Str → Prop) (d : D) (ts : List D) (c : D) : Prop where
  e : d = .tup [.tup ts, c]
  few : ts.length ≤ 1000
  pr : ∀ t ∈ ts, ∃ s f, t = .tup [.str s, f] ∧ AmtD n f ∧ S s ∧ isZ f = false
  c : AmtD n c
theorem FormOk.ok {n : Nat} {S : Str → Prop} {d c : D} {ts : List D} (h : FormOk n S d ts c) (m : Nat) : okD (m + 4) d = true := by
  rw [h.e]
  refine okD_tup (by simp) fun x hx => ?_
  simp only [List.mem_cons, List.not_mem_nil, or_false] at hx
  rcases hx with rfl | rfl
  · refine okD_tup (by have := h.few; omega) fun t ht => ?_
    obtain ⟨s, f, rfl, hf, _⟩ := h.pr t ht
    exact okD_pair (n := n) ⟨s, f, rfl, hf⟩ m
  · exact okD_amt h.c _
theorem form_ok {n M N : Nat} {S : Str → Prop} {ps : List D} {c : D} (h : ∀ p ∈ ps, ∃ s f, p = .tup [.str s, f] ∧ AmtD n f ∧ S s) (hl : ps.length ≤ 1000) (hM : ∀ k, ncnt k ps ≤ M) (hN : M * (n + 1) + 1 ≤ N) (hc : AmtD N c) : FormOk N S (formD ps c) (formTs (totals ps)) c := by
  have tk := tot_ok h
  refine ⟨rfl, Nat.le_trans (formTs_len _) (Nat.le_trans tk.few hl), fun t ht => ?_, hc⟩
  obtain ⟨s, f, e, hf, hs, hz⟩ := formTs_mem tk ht
  have := Nat.mul_le_mul_right (n + 1) (hM s)
  exact ⟨s, f, e, hf.mono (by omega), hs, hz⟩
theorem keys_scale {f : D} {ps : List D} (h : ∀ p ∈ ps, ∃ s g, p = D.tup [.str s, g]) : (ps.map (scaleD f)).filterMap keyOf = ps.filterMap keyOf := by
  induction ps with
  | nil => rfl
  | cons p ps ih =>
    obtain ⟨s, g, rfl⟩ := h p (by simp)
    show s :: (ps.map (scaleD f)).filterMap keyOf = s :: ps.filterMap keyOf
    rw [ih fun q hq => h q (by simp [hq])]
theorem nodup_le : ∀ {l m : List Str}, l.Nodup → (∀ x ∈ l, x ∈ m) → l.length ≤ m.length
  | [], _, _, _ => Nat.zero_le _
  | a :: l, m, h, k => by
    have ha := k a (by simp)
    have hn := List.nodup_cons.mp h
    have ih := nodup_le (l := l) (m := m.erase a) hn.2 fun x hx => by
      have ne : x ≠ a := fun z => hn.1 (by rw [← z]; exact hx)
      exact (List.mem_erase_of_ne ne).mpr (k x (by simp [hx]))
    rw [List.length_erase_of_mem ha] at ih
    have := List.length_pos_of_mem ha
    rw [List.length_cons]
    omega
/-- different names out of few -/
theorem form_few {n : Nat} {ss : List Str} {ps : List D} (h : ∀ p ∈ ps, ∃ s f, p = .tup [.str s, f] ∧ AmtD n f ∧ s ∈ ss) : (formTs (totals ps)).length ≤ ss.length := by
  have tk := tot_ok h
  refine Nat.le_trans (formTs_len _) ?_
  exact nodup_le tk.nd fun k hk => tk.nm k hk
mutual
theorem eqv_refl : ∀ {d : D}, plain d = true → eqv d d = true
  | .non, _ => rfl
  | .bl b, _ => by cases b <;> rfl
  | .int i, _ => by show (i == i) = true; simp
  | .str s, _ => by show (s == s) = true; simp
  | .hnd _, h => by unfold plain at h; cases h
  | .dic _ _, h => by unfold plain at h; cases h
  | .ins _ _ _, h => by unfold plain at h; cases h
  | .lam _ _, h => by unfold plain at h; cases h
  | .tup ds, h => by
    have z := eqvs_refl (plain_tup h)
    unfold eqv toPy
    unfold PyData.eqv
    exact z
  | .lst ds, h => by
    have z := eqvs_refl (plain_lst h)
    unfold eqv toPy
    unfold PyData.eqv
    exact z
theorem eqvs_refl : ∀ {ds : List D}, plains ds = true → PyData.eqvAll (toPys ds) (toPys ds) = true
  | [], _ => by unfold toPys PyData.eqvAll; rfl
  | d :: ds, h => by
    unfold plains at h
    obtain ⟨h1, h2⟩ := Bool.and_eq_true_iff.mp h
    have z1 := eqv_refl h1
    have z2 := eqvs_refl h2
    unfold eqv at z1
    unfold toPys PyData.eqvAll
    rw [z1, z2]
    rfl
end
theorem pair_lay {n : Nat} {d : D} (h : ∃ s f, d = .tup [.str s, f] ∧ AmtD n f ∧ nmS s = true) : (toPy d).canLay0 = true ∧ (toPy d).depth ≤ 60 := by
  obtain ⟨s, f, rfl, ⟨a, b, rfl, _⟩, hs⟩ := h
  have z := (nm_lay hs).1
  refine ⟨?_, by show 2 ≤ 60; decide⟩
  show ((toPy (.str s)).canLay0 && (true && true)) = true
  rw [z]
  rfl
/-- a dict of known amounts -/
structure Known (m : Nat) (ks : List Str) (xs : List D) : Prop where
  len : xs.length = ks.length
  val : ∀ x ∈ xs, AmtD m x
theorem Known.get {m : Nat} {ks : List Str} {xs : List D} (h : Known m ks xs) {s : Str} (hs : s ∈ ks) : ∃ v, lkp ks xs s = some v ∧ AmtD m v := by
  obtain ⟨v, h1, h2⟩ := lkp_mem h.len hs
  exact ⟨v, h1, h.val v h2⟩
theorem Known.put {m : Nat} {ks : List Str} {xs : List D} (h : Known m ks xs) (s : Str) {v : D} (hv : AmtD m v) : Known m (putKs ks s) (putDs ks xs s v) := by
  refine ⟨put_len h.len, fun x hx => ?_⟩
  unfold putDs at hx
  by_cases e : s ∈ ks
  · rw [if_pos e] at hx
    obtain ⟨p, hp, rfl⟩ := List.mem_map.mp hx
    by_cases e2 : p.1 = s
    · rw [if_pos e2]; exact hv
    · rw [if_neg e2]; exact h.val _ (List.of_mem_zip hp).2
  · rw [if_neg e] at hx
    rcases List.mem_append.mp hx with hx | hx
    · exact h.val x hx
    · rw [List.mem_singleton.mp hx]; exact hv
theorem nm_tame {s : Str} (hs : nmS s = true) : tame (.str s) = true := by
  unfold tame
  unfold nmS at hs
  have h1 := (Bool.and_eq_true_iff.mp (Bool.and_eq_true_iff.mp hs).1).2
  have := of_decide_eq_true h1
  exact decide_eq_true (by omega)
theorem pair_tame {n : Nat} {d : D} (h : ∃ s f, d = .tup [.str s, f] ∧ AmtD n f ∧ nmS s = true) : tame d = true := by
  obtain ⟨s, f, rfl, hf, hs⟩ := h
  refine tame_tup.mpr ⟨Nat.le_of_ble_eq_true rfl, fun x hx => ?_⟩
  simp only [List.mem_cons, List.not_mem_nil, or_false] at hx
  rcases hx with rfl | rfl
  · exact nm_tame hs
  · exact amt_tame hf
theorem formTs_nil : formTs (totals []) = [] := by
  unfold formTs totals srt
  simp
theorem FormOk.pair {n : Nat} {S : Str → Prop} {d c : D} {ts : List D} (h : FormOk n S d ts c) : ∀ t ∈ ts, PairD n t := fun t ht => by
  obtain ⟨s, f, e, hf, _⟩ := h.pr t ht
  exact ⟨s, f, e, hf⟩
theorem FormOk.known {n m : Nat} {S : Str → Prop} {d c : D} {ts : List D} {ks : List Str} {xs : List D} (h : FormOk n S d ts c) (hk : ∀ s, S s → ∃ v, lkp ks xs s = some v ∧ AmtD m v) : ∀ s f, .tup [.str s, f] ∈ ts → ∃ v, lkp ks xs s = some v ∧ AmtD m v := fun s f ht => by
  obtain ⟨s', f', e, _, hs, _⟩ := h.pr _ ht
  cases e
  exact hk s hs
theorem FormOk.val {n m N : Nat} {S : Str → Prop} {d c : D} {ts : List D} {ks : List Str} {xs : List D} (h : FormOk n S d ts c) (hk : ∀ s, S s → ∃ v, lkp ks xs s = some v ∧ AmtD m v) (hN : n + ts.length * (n + m + 1) ≤ N) : AmtD N (valD ts c ks xs) := by
  have := val_amt h.c h.pair (h.known hk) ts.length (Nat.le_refl _)
  rw [List.take_length] at this
  exact this.mono hN
/-! ### rows of systems -/
def sgnI (a : Int) : Int := (if decide (0 < a) = true then 1 else 0) - (if decide (a < 0) = true then 1 else 0)
def sgnD : D → Int
  | .tup [.int a, _] => sgnI a
  | _ => 0
def valZ (items : List D) (c : D) : D := items.foldl (fun acc t => match t with
  | .tup [f, v] => plusD acc (timesD f v)
  | _ => acc) c
theorem valZ_take {items : List D} {i : Nat} {f v c : D} (h : items[i]? = some (.tup [f, v])) : valZ (items.take (i + 1)) c = plusD (valZ (items.take i) c) (timesD f v) := by
  unfold valZ
  rw [take_one h, List.foldl_append]
  rfl
theorem valZ_amt {n m k : Nat} {items : List D} {c : D} (hc : AmtD k c) (ht : ∀ t ∈ items, ∃ f v, t = .tup [f, v] ∧ AmtD n f ∧ AmtD m v) : ∀ i, i ≤ items.length → AmtD (k + i * (n + m + 1)) (valZ (items.take i) c)
  | 0, _ => by
    rw [Nat.zero_mul]
    exact hc
  | i + 1, h => by
    obtain ⟨t, e⟩ := get_lt (xs := items) (i := i) (by omega)
    have hm := List.mem_of_getElem? e
    obtain ⟨f, v, rfl, hf, hv⟩ := ht t hm
    rw [valZ_take e, Nat.succ_mul]
    exact (plus_amt (valZ_amt hc ht i (by omega)) (times_amt hf hv)).mono (by omega)
def RowD (n k : Nat) (row : D) : Prop := ∃ fs c rel, row = .tup [.tup fs, c, .str rel] ∧ (∀ f ∈ fs, AmtD n f) ∧ AmtD k c ∧ fs.length ≤ 20
def eqS : Str := Str.ofString "="
def rowP (ps : List D) : D → Bool
  | .tup [.tup fs, c, .str rel] => decide (sgnD (valZ (zipsD fs ps) c) = (if decide (rel = eqS) = true then 0 else -1))
  | _ => false
def rowL (ps : List D) : D → Bool
  | .tup [.tup fs, _, _] => decide (ps.length = fs.length)
  | _ => false
def negA : D → D
  | .tup [.int a, b] => .tup [.int (0 - a), b]
  | _ => .non
def minusD (x y : D) : D := plusD x (negA y)
theorem neg_amt {n : Nat} {x : D} (h : AmtD n x) : AmtD n (negA x) := by
  obtain ⟨a, b, rfl, A⟩ := h
  refine ⟨0 - a, b, rfl, A.pos, ?_, ?_, A.hb⟩
  · rw [Int.zero_sub, Int.neg_gcd]; exact A.cop
  · rw [Int.zero_sub, Int.natAbs_neg]; exact A.ha
theorem valZ_full {n m k N : Nat} {fs ps : List D} {c : D} (hc : AmtD k c) (hf : ∀ f ∈ fs, AmtD n f) (hp : ∀ p ∈ ps, AmtD m p) (hN : k + fs.length * (n + m + 1) ≤ N) : AmtD N (valZ (zipsD fs ps) c) := by
  have hit : ∀ t ∈ zipsD fs ps, ∃ f v, t = .tup [f, v] ∧ AmtD n f ∧ AmtD m v := fun t ht => by
    obtain ⟨x, hx, y, hy, e⟩ := zips_mem ht
    exact ⟨x, y, e, hf x hx, hp y hy⟩
  have z := valZ_amt hc hit (zipsD fs ps).length (Nat.le_refl _)
  rw [List.take_length] at z
  refine z.mono (Nat.le_trans ?_ hN)
  have : (zipsD fs ps).length ≤ fs.length := by rw [zips_len]; omega
  have := Nat.mul_le_mul_right (n + m + 1) this
  omega
def addT (by_ : D) : D → D
  | .tup [x, f] => plusD x (timesD by_ f)
  | _ => .non
def befD (ts fs : List D) : List D := if ts.isEmpty = true then fs.map (fun _ => zeroD) else ts
def addL (ts fs : List D) (by_ : D) : List D := (zipsD (befD ts fs) fs).map (addT by_)
theorem addL_amt {k n m : Nat} {ts fs : List D} {by_ : D} (ht : ∀ t ∈ ts, AmtD k t) (hf : ∀ f ∈ fs, AmtD n f) (hb : AmtD m by_) (hk : 0 < k) : ∀ t ∈ addL ts fs by_, AmtD (k + (n + m + 1)) t := fun t h => by
  obtain ⟨p, hp, rfl⟩ := List.mem_map.mp h
  obtain ⟨x, hx, f, hf2, rfl⟩ := zips_mem hp
  have hx2 : AmtD k x := by
    unfold befD at hx
    cases e : ts.isEmpty with
    | true =>
      rw [e] at hx
      obtain ⟨_, _, rfl⟩ := List.mem_map.mp hx
      exact zero_amt.mono hk
    | false =>
      rw [e] at hx
      exact ht x hx
  exact (plus_amt hx2 (times_amt hb (hf f hf2))).mono (by omega)
theorem addL_len (ts fs : List D) (by_ : D) : (addL ts fs by_).length ≤ fs.length := by
  unfold addL
  rw [List.length_map, zips_len]
  omega
def ltS : Str := Str.ofString "<"
def relB (t : D → Bool) : D → Bool
  | .tup [.tup [_, _, .str rel], by_] => decide (rel = ltS) && t by_
  | _ => false
def negR : D → Bool := relB fun b => decide (sgnD b < 0)
def posR : D → Bool := relB fun b => decide (0 < sgnD b)
def stepT (T : List D) : D → List D
  | .tup [.tup [.tup fs, _, _], by_] => addL T fs by_
  | _ => T
def stepC (c : D) : D → D
  | .tup [.tup [_, c', _], by_] => plusD c (timesD by_ c')
  | _ => c
def sumsT (items : List D) : List D := items.foldl stepT []
def sumsC (items : List D) : D := items.foldl stepC zeroD
theorem sumsT_take {items : List D} {i : Nat} {p : D} (h : items[i]? = some p) : sumsT (items.take (i + 1)) = stepT (sumsT (items.take i)) p := by
  unfold sumsT
  rw [take_one h, List.foldl_append]
  rfl
theorem sumsC_take {items : List D} {i : Nat} {p : D} (h : items[i]? = some p) : sumsC (items.take (i + 1)) = stepC (sumsC (items.take i)) p := by
  unfold sumsC
  rw [take_one h, List.foldl_append]
  rfl
/-- a row and its multiplier -/
def MulD (n k m : Nat) (p : D) : Prop := ∃ row by_, p = .tup [row, by_] ∧ RowD n k row ∧ AmtD m by_
theorem sumsT_ok {n k m : Nat} {items : List D} (h : ∀ p ∈ items, MulD n k m p) : ∀ i, i ≤ items.length → (∀ t ∈ sumsT (items.take i), AmtD (1 + i * (n + m + 1)) t) ∧ (sumsT (items.take i)).length ≤ 20
  | 0, _ => ⟨fun t ht => by simp [sumsT] at ht, by simp [sumsT]⟩
  | i + 1, hi => by
    obtain ⟨p, e⟩ := get_lt (xs := items) (i := i) (by omega)
    obtain ⟨row, by_, rfl, ⟨fs, c, rel, rfl, hf, hc, hl⟩, hb⟩ := h p (List.mem_of_getElem? e)
    obtain ⟨h1, h2⟩ := sumsT_ok h i (by omega)
    rw [sumsT_take e]
    refine ⟨fun t ht => ?_, Nat.le_trans (addL_len _ _ _) hl⟩
    rw [Nat.succ_mul]
    exact (addL_amt h1 hf hb (by omega) t ht).mono (by omega)
theorem sumsC_ok {n k m : Nat} {items : List D} (h : ∀ p ∈ items, MulD n k m p) : ∀ i, i ≤ items.length → AmtD (1 + i * (k + m + 1)) (sumsC (items.take i))
  | 0, _ => zero_amt.mono (by omega)
  | i + 1, hi => by
    obtain ⟨p, e⟩ := get_lt (xs := items) (i := i) (by omega)
    obtain ⟨row, by_, rfl, ⟨fs, c, rel, rfl, hf, hc, hl⟩, hb⟩ := h p (List.mem_of_getElem? e)
    rw [sumsC_take e, Nat.succ_mul]
    exact (plus_amt (sumsC_ok h i (by omega)) (times_amt hb hc)).mono (by omega)
theorem any_take {items : List D} {f : D → Bool} {i : Nat} {p : D} (h : items[i]? = some p) : (items.take (i + 1)).any f = ((items.take i).any f || f p) := by
  rw [take_one h, List.any_append]
  simp
theorem any_true {items : List D} {f : D → Bool} {p : D} (h : p ∈ items) (hf : f p = true) : items.any f = true := List.any_eq_true.mpr ⟨p, h, hf⟩
def refB (items : List D) : Bool := !items.any negR && ((sumsT items).all isZ && (decide (0 < sgnD (sumsC items)) || (isZ (sumsC items) && items.any posR)))
end VL

set_option Elab.async false
set_option linter.all false
set_option maxRecDepth 100000
set_option maxHeartbeats 2000000
/-! VU: methods of texts (split, partition, removeprefix), int(text), text * int. -/
namespace VL
open PySem PySem.Spec PyProof.Rows L2
section
variable {X : Cx} {K : PySem.W.Frag} {W : Wd}
theorem reps_strs {M : Addr → Prop} {H : Hp} : ∀ ns : List Str, Reps K M H (ns.map D.str) (ns.map V.str)
  | [] => reps_nil
  | _ :: ns => reps_cons rep_str (reps_strs ns)
def splitD : D → D → (D → Prop) → Prop
  | .str a, .str b, P => (b.length == 0) = false ∧ a.length + 2 ≤ sizeLine ∧ P (.lst ((Txt.split a b).map D.str))
  | _, _, _ => False
theorem lift_split : LiftOp K W splitD (fun x y H Q => ∃ a b, x = .str a ∧ [y] = [.str b] ∧ (b.length == 0) = false ∧ a.length + 2 ≤ sizeLine ∧ rNewStrs (Txt.split a b) H Q) := by
  intro M H x y v u P Q m r1 r2 h k
  cases x <;> cases y <;> first
    | exact h.elim
    | (rename_i a b
       obtain ⟨h1, h2, h3⟩ := h
       refine ⟨a, b, r1.str, by rw [r2.str], h1, h2, fun p hp => ?_⟩
       have f := Full.new (o := HO.lst ((Txt.split a b).map V.str)) hp
       exact k _ _ _ h3 f.ext (W.keep _ _ m.wi f) (m.newL hp (reps_strs _)))
theorem ve_split {o e : Expr} {apos pos : Pos} {wa wb : WE} (ho : VE X W o wa) (he : VE X W e wb) (hs : starEach [e] X.env = [(false, eval e X.env)] := by rfl) (hbase : attributeBase o "split" X.env (eval o X.env) = eval o X.env := by rfl) (hline : (apos.endLine == pos.line) = true := by rfl) :
    VE X W (.Call (.Attribute o "split" apos) [e] [] pos) (wM1 splitD wa wb) := ve_m1 (o := o) (e := e) (pe_split ho he hs hbase hline) lift_split
def partD : D → D → (D → Prop) → Prop
  | .str a, .str b, P => (b.length == 0) = false ∧ a.length ≤ sizeLine ∧ P (.tup [.str (Txt.partition a b).1, .str (Txt.partition a b).2.1, .str (Txt.partition a b).2.2])
  | _, _, _ => False
theorem lift_part : LiftOp K W partD (fun x y H Q => ∃ a b, x = .str a ∧ [y] = [.str b] ∧ (b.length == 0) = false ∧ a.length ≤ sizeLine ∧ ∀ p, H p = none → Q (.ref p) (upd H p (.tup [.str (Txt.partition a b).1, .str (Txt.partition a b).2.1, .str (Txt.partition a b).2.2]))) := by
  intro M H x y v u P Q m r1 r2 h k
  cases x <;> cases y <;> first
    | exact h.elim
    | (rename_i a b
       obtain ⟨h1, h2, h3⟩ := h
       refine ⟨a, b, r1.str, by rw [r2.str], h1, h2, fun p hp => ?_⟩
       have f := Full.new (o := HO.tup [.str (Txt.partition a b).1, .str (Txt.partition a b).2.1, .str (Txt.partition a b).2.2]) hp
       exact k _ _ _ h3 f.ext (W.keep _ _ m.wi f) (m.newT hp (reps_cons rep_str (reps_cons rep_str (reps_cons rep_str reps_nil)))))
theorem ve_partition {o e : Expr} {apos pos : Pos} {wa wb : WE} (ho : VE X W o wa) (he : VE X W e wb) (hs : starEach [e] X.env = [(false, eval e X.env)] := by rfl) (hbase : attributeBase o "partition" X.env (eval o X.env) = eval o X.env := by rfl) (hline : (apos.endLine == pos.line) = true := by rfl) :
    VE X W (.Call (.Attribute o "partition" apos) [e] [] pos) (wM1 partD wa wb) := ve_m1 (o := o) (e := e) (pe_partition ho he hs hbase hline) lift_part
def rmpD : D → D → (D → Prop) → Prop
  | .str a, .str b, P => a.length ≤ sizeLine ∧ P (.str (Txt.removeprefix a b))
  | _, _, _ => False
theorem lift_rmp : LiftOp K W rmpD (fun x y H Q => ∃ a b, x = .str a ∧ [y] = [.str b] ∧ a.length ≤ sizeLine ∧ Q (.str (Txt.removeprefix a b)) H) := by
  intro M H x y v u P Q m r1 r2 h k
  cases x <;> cases y <;> first
    | exact h.elim
    | (rename_i a b
       exact ⟨a, b, r1.str, by rw [r2.str], h.1, k _ _ H h.2 (Ext.refl H) m.wi rep_str⟩)
theorem ve_removeprefix {o e : Expr} {apos pos : Pos} {wa wb : WE} (ho : VE X W o wa) (he : VE X W e wb) (hs : starEach [e] X.env = [(false, eval e X.env)] := by rfl) (hbase : attributeBase o "removeprefix" X.env (eval o X.env) = eval o X.env := by rfl) (hline : (apos.endLine == pos.line) = true := by rfl) :
    VE X W (.Call (.Attribute o "removeprefix" apos) [e] [] pos) (wM1 rmpD wa wb) := ve_m1 (o := o) (e := e) (pe_m1 PySem.F.slot_str_removeprefix PySem.F.type_str_removeprefix mt_removeprefix ho he hs hbase hline) lift_rmp
/-- int(text) -/
def intSD : List D → (D → Prop) → Prop
  | [.str a], P => ∃ n, PySem.intText? a = some n ∧ a.length ≤ 640 ∧ P (.int n)
  | _, _ => False
theorem lift_intS : LiftCall K W intSD (fun xs H Q => ∃ a n, xs = [.str a] ∧ PySem.intText? a = some n ∧ a.length ≤ 640 ∧ Q (.int n) H) := by
  intro M H xs vs P Q m r h k
  match xs, h with
  | [.str a], h =>
    obtain ⟨n, h1, h2, h3⟩ := h
    obtain ⟨v, vs, rfl, r1, r2⟩ := r.inv
    rw [r2.inv0, r1.str]
    exact ⟨a, n, rfl, h1, h2, k _ _ H h3 (Ext.refl H) m.wi rep_int⟩
/-- text * int -/
def repT (a : Str) (n : Int) : Str := ⟨(List.replicate n.toNat a.cps).foldl (· ++ ·) #[]⟩
theorem rep_fold (c : Array Nat) : ∀ (k : Nat) (acc : Array Nat), ((List.replicate k c).foldl (· ++ ·) acc).size = acc.size + k * c.size
  | 0, acc => by simp
  | k + 1, acc => by
    rw [List.replicate_succ, List.foldl_cons, rep_fold c k, Array.size_append, Nat.succ_mul]
    omega
theorem rep_len (a : Str) (n : Int) : Str.length ⟨(List.replicate n.toNat a.cps).foldl (· ++ ·) #[]⟩ = n.toNat * a.length := by
  show ((List.replicate n.toNat a.cps).foldl (· ++ ·) #[]).size = _
  rw [rep_fold]
  simp
  rfl
def mulS : D → D → (D → Prop) → Prop
  | .str a, .int n, P => a.length = 1 ∧ 2 ≤ n ∧ n ≤ 1000 ∧ P (.str (repT a n))
  | _, _, _ => False
theorem op_mulS : OpR X (binaryOp .Mult) (fun x y H Q => ∃ a n, x = .str a ∧ y = .int n ∧ a.length = 1 ∧ 2 ≤ n ∧ n ≤ 1000 ∧ Q (.str (repT a n)) H) := by
  intro pins s σ H x y v u Q I rx ry h
  obtain ⟨a, n, rfl, rfl, h1, h2, h3, q⟩ := h
  obtain ⟨t, rfl⟩ := rx
  obtain ⟨t', rfl⟩ := ry
  have e1 : ¬ n < 1 := by omega
  have e2 : (n == 1 || a.length == 0) = false := by
    rw [h1]
    simp
    omega
  refine PySem.P.mul_str (by simp; omega) (fun _ _ => ?_) (fun _ _ => ?_) ?_
  · rw [h1]
    have : (1000 : Int) ≤ (2 ^ 63 - 1) / n := Int.le_ediv_of_mul_le (by omega) (by omega)
    omega
  · rw [h1]
    unfold PySem.Builtin.Str.tooLong
    rw [decide_eq_false_iff_not, sizeLine_eq]
    omega
  · rw [if_neg e1, e2]
    refine ⟨?_, ⟨.str (repT a n), H, I.tok _, ⟨_, rfl⟩, q⟩⟩
    rw [rep_len, h1, sizeLine_eq]
    omega
theorem lift_mulS : LiftOp K W mulS (fun x y H Q => ∃ a n, x = .str a ∧ y = .int n ∧ a.length = 1 ∧ 2 ≤ n ∧ n ≤ 1000 ∧ Q (.str (repT a n)) H) := by
  intro M H x y v u P Q m r1 r2 h k
  cases x <;> cases y <;> first
    | exact h.elim
    | (rename_i a n
       obtain ⟨h1, h2, h3, h4⟩ := h
       exact ⟨a, n, r1.str, r2.int, h1, h2, h3, k _ _ H h4 (Ext.refl H) m.wi rep_str⟩)
theorem ve_mulS {a b : Expr} {pos : Pos} {wa wb : WE} (ha : VE X W a wa) (hb : VE X W b wb) : VE X W (.BinOp a .Mult b pos) (wOp mulS wa wb) := ve_op op_mulS lift_mulS ha hb
end
end VL

set_option Elab.async false
set_option linter.all false
set_option maxRecDepth 100000
set_option maxHeartbeats 2000000
/-! VP: the plain law of whole numbers' and amounts' texts. -/
namespace VL
open PySem PySem.Spec PyProof.Rows L2 NumText
def dig (c : Nat) : Bool := decide (48 ≤ c) && decide (c ≤ 57)
def digsB (l : List Nat) : Bool := decide (1 ≤ l.length) && (decide (l.length ≤ 30) && l.all dig)
def bareL : List Nat → List Nat
  | [] => []
  | c :: r => if c = 45 then r else c :: r
def valL : List Nat → Int
  | [] => 0
  | c :: r => if c = 45 then -((digitsVal r : Nat) : Int) else ((digitsVal (c :: r) : Nat) : Int)
def canL (l : List Nat) : Bool := !(decide (1 < (bareL l).length) && decide ((bareL l).head? = some 48)) && !(decide (bareL l = [48]) && !decide (l = [48]))
def numB (l : List Nat) : Bool := digsB (bareL l) && canL l
def textL (i : Int) : List Nat := TL.tl (Str.ofString (toString i))
theorem textL_nat (n : Nat) : textL (n : Int) = TL.numL n := TL.tl_num n
theorem textL_neg {n : Nat} (h : 0 < n) : textL (-(n : Int)) = 45 :: TL.numL n := by
  cases n with
  | zero => omega
  | succ m =>
    have e := TL.tl_num (m + 1)
    show (Str.ofString (toString (Int.negSucc m))).cps.toList = _
    have e2 : (Str.ofString (toString ((m + 1 : Nat) : Int))).cps.toList = _ := e
    rw [signs_ofString] at e2 ⊢
    show ("-" ++ toString (m + 1)).toList.map Char.toNat = _
    rw [String.toList_append, List.map_append]
    rw [show (toString ((m + 1 : Nat) : Int)) = toString (m + 1) from rfl] at e2
    rw [e2]
    rfl
theorem digs_all {l : List Nat} (h : digsB l = true) : AllDigits l ∧ l ≠ [] ∧ l.length ≤ 30 := by
  unfold digsB at h
  simp only [Bool.and_eq_true, decide_eq_true_eq, List.all_eq_true, dig] at h
  obtain ⟨h1, h2, h3⟩ := h
  exact ⟨fun c hc => h3 c hc, fun z => by rw [z] at h1; simp at h1, h2⟩
theorem fold_lt : ∀ (r : List Nat) (acc : Nat), AllDigits r → r.foldl (fun acc c => acc * 10 + (c - 48)) acc < (acc + 1) * 10 ^ r.length
  | [], acc, _ => by simp
  | c :: r, acc, h => by
    have hc := h c (.head _)
    have ih := fold_lt r (acc * 10 + (c - 48)) (fun d hd => h d (.tail _ hd))
    rw [List.foldl_cons, List.length_cons, Nat.pow_succ]
    refine Nat.lt_of_lt_of_le ih ?_
    have : acc * 10 + (c - 48) + 1 ≤ (acc + 1) * 10 := by omega
    calc (acc * 10 + (c - 48) + 1) * 10 ^ r.length ≤ (acc + 1) * 10 * 10 ^ r.length := Nat.mul_le_mul_right _ this
      _ = (acc + 1) * (10 ^ r.length * 10) := by rw [Nat.mul_assoc, Nat.mul_comm 10]
theorem digitsVal_lt {r : List Nat} (h : AllDigits r) : digitsVal r < 10 ^ r.length := by
  have := fold_lt r 0 h
  unfold digitsVal
  omega
theorem num_back {l : List Nat} (h : AllDigits l) (hn : l ≠ []) : TL.numL (digitsVal l) = l ↔ ¬ (1 < l.length ∧ l.head? = some 48) := by
  have back : ∀ cs : List Nat, AllDigits cs → (cs.map Char.ofNat).map Char.toNat = cs := fun cs hc => by
    rw [List.map_map]
    conv => rhs; rw [← List.map_id cs]
    refine List.map_congr_left fun c hcm => ?_
    have := hc c hcm
    show (Char.ofNat c).toNat = c
    have hv : c.isValidChar := .inl (by omega)
    unfold Char.ofNat
    rw [dif_pos hv]
    rfl
  cases l with
  | nil => exact absurd rfl hn
  | cons c r =>
    by_cases hz : 1 < (c :: r).length ∧ (c :: r).head? = some 48
    · refine ⟨fun e => ?_, fun z => absurd hz z⟩
      exfalso
      obtain ⟨h1, h2⟩ := hz
      have hc : c = 48 := by simpa using h2
      subst hc
      have e1 : digitsVal (48 :: r) = digitsVal r := digitsVal_zero
      rw [e1] at e
      have hl := congrArg List.length e
      have hr : r ≠ [] := fun z => by rw [z] at h1; simp at h1
      have hlt : digitsVal r < 10 ^ r.length := digitsVal_lt fun d hd => h d (.tail _ hd)
      have := TL.numL_len (k := r.length) (by cases r with | nil => exact absurd rfl hr | cons _ _ => simp) hlt
      rw [hl] at this
      simp at this
      omega
    · refine ⟨fun _ => hz, fun _ => ?_⟩
      have e := toDigits_digitsVal r.length (c :: r) (by simp) h (by
        by_cases hr : r = []
        · exact .inl (by rw [hr]; rfl)
        · refine .inr ⟨c, r, rfl, ?_⟩
          have h48 := (h c (.head _)).1
          have : c ≠ 48 := fun z => hz ⟨by cases r with | nil => exact absurd rfl hr | cons _ _ => simp, by rw [z]; rfl⟩
          omega)
      show (Nat.toDigits 10 (digitsVal (c :: r))).map Char.toNat = _
      rw [e, back _ h]
theorem zero_val {l : List Nat} (h : AllDigits l) : digitsVal l = 0 ↔ ∀ c ∈ l, c = 48 := by
  constructor
  · intro e
    induction l with
    | nil => intro c hc; cases hc
    | cons d r ih =>
      have hd := h d (.head _)
      by_cases hd0 : d = 48
      · subst hd0
        rw [digitsVal_zero] at e
        intro c hc
        rcases List.mem_cons.mp hc with rfl | hc
        · rfl
        · exact ih (fun c hc => h c (.tail _ hc)) e c hc
      · have := digitsVal_pos (c := d) (cs := r) (by omega)
        omega
  · intro e
    induction l with
    | nil => rfl
    | cons d r ih =>
      have : d = 48 := e d (.head _)
      subst this
      rw [digitsVal_zero]
      exact ih (fun c hc => h c (.tail _ hc)) fun c hc => e c (.tail _ hc)
/-- a text of digits, a minus ahead or not, is the text of its number just if it is written as numbers are -/
theorem num_iff {l : List Nat} (h : digsB (bareL l) = true) : textL (valL l) = l ↔ canL l = true := by
  obtain ⟨ha, hne, _⟩ := digs_all h
  unfold canL
  cases l with
  | nil => exact absurd rfl hne
  | cons c r =>
    by_cases hc : c = 45
    · subst hc
      have eb : bareL (45 :: r) = r := by simp [bareL]
      have ev : valL (45 :: r) = -((digitsVal r : Nat) : Int) := by simp [valL]
      rw [eb] at ha hne ⊢
      rw [ev]
      have e48 : ¬ (45 :: r = [48]) := fun z => by cases z
      rw [decide_eq_false e48, Bool.not_false, Bool.and_true]
      by_cases hz : digitsVal r = 0
      · rw [hz]
        have : textL (-((0 : Nat) : Int)) = [48] := textL_nat 0
        rw [this]
        refine ⟨fun z => (by cases z), fun z => ?_⟩
        exfalso
        simp only [Bool.and_eq_true, Bool.not_eq_true', Bool.and_eq_false_imp, decide_eq_true_eq, decide_eq_false_iff_not] at z
        obtain ⟨z1, z2⟩ := z
        have all := (zero_val ha).mp hz
        cases r with
        | nil => exact hne rfl
        | cons d r =>
          have hd := all d (.head _)
          subst hd
          cases r with
          | nil => exact z2 rfl
          | cons d2 r => exact z1 (by simp) rfl
      · rw [textL_neg (by omega)]
        have key := num_back ha hne
        have nz : ¬ (r = [48]) := fun z => hz (by rw [z]; rfl)
        rw [decide_eq_false nz, Bool.not_false, Bool.and_true]
        constructor
        · intro z
          have z2 := key.mp (List.cons.inj z).2
          simp only [Bool.not_eq_true', Bool.and_eq_false_imp, decide_eq_true_eq, decide_eq_false_iff_not]
          exact fun h1 h2 => z2 ⟨h1, h2⟩
        · intro z
          simp only [Bool.not_eq_true', Bool.and_eq_false_imp, decide_eq_true_eq, decide_eq_false_iff_not] at z
          rw [key.mpr fun h => z h.1 h.2]
    · have eb : bareL (c :: r) = c :: r := if_neg hc
      have ev : valL (c :: r) = ((digitsVal (c :: r) : Nat) : Int) := if_neg hc
      rw [eb] at ha hne ⊢
      rw [ev, textL_nat, num_back ha hne]
      have : (decide (c :: r = [48]) && !decide (c :: r = [48])) = false := by cases decide (c :: r = [48]) <;> rfl
      rw [this, Bool.not_false, Bool.and_true]
      simp only [Bool.not_eq_true', Bool.and_eq_false_imp, decide_eq_true_eq, decide_eq_false_iff_not, not_and]
theorem num_val {z : Str} (h : digsB (bareL (TL.tl z)) = true) : PySem.intText? z = some (valL (TL.tl z)) ∧ z.length ≤ 31 := by
  obtain ⟨ha, hne, hl⟩ := digs_all h
  have hlen : z.length = (TL.tl z).length := by show z.cps.size = z.cps.toList.length; simp
  have key : ∀ l, TL.tl z = l → AllDigits (bareL l) → bareL l ≠ [] → (bareL l).length ≤ 30 → PySem.intText? z = some (valL l) ∧ l.length ≤ 31 := fun l e h1 h2 h3 => by
    cases l with
    | nil => exact absurd rfl h2
    | cons c r =>
      by_cases hc : c = 45
      · subst hc
        have eb : bareL (45 :: r) = r := by simp [bareL]
        have ev : valL (45 :: r) = -((digitsVal r : Nat) : Int) := by simp [valL]
        rw [eb] at h1 h2 h3
        rw [ev]
        refine ⟨intText_neg e h1 h2 ?_, by simp; omega⟩
        rw [hlen, e]
        simp
        omega
      · have eb : bareL (c :: r) = c :: r := if_neg hc
        have ev : valL (c :: r) = ((digitsVal (c :: r) : Nat) : Int) := if_neg hc
        rw [eb] at h1 h2 h3
        rw [ev]
        have e' : z.cps.toList = c :: r := e
        have := intText_digits (x := z) (by rw [e']; exact h1) (by rw [e']; exact h2) (by rw [hlen, e]; omega)
        rw [e'] at this
        exact ⟨this, by omega⟩
  have := key _ rfl ha hne hl
  exact ⟨this.1, by rw [hlen]; exact this.2⟩
theorem val_lt {l : List Nat} (h : digsB (bareL l) = true) : (valL l).natAbs < 10 ^ 30 := by
  obtain ⟨ha, hne, hl⟩ := digs_all h
  cases l with
  | nil => exact absurd rfl hne
  | cons c r =>
    by_cases hc : c = 45
    · subst hc
      have eb : bareL (45 :: r) = r := by simp [bareL]
      have ev : valL (45 :: r) = -((digitsVal r : Nat) : Int) := by simp [valL]
      rw [eb] at ha hl
      rw [ev, Int.natAbs_neg, Int.natAbs_natCast]
      exact Nat.lt_of_lt_of_le (digitsVal_lt ha) (Nat.pow_le_pow_right (by decide) hl)
    · have eb : bareL (c :: r) = c :: r := if_neg hc
      have ev : valL (c :: r) = ((digitsVal (c :: r) : Nat) : Int) := if_neg hc
      rw [eb] at ha hl
      rw [ev, Int.natAbs_natCast]
      exact Nat.lt_of_lt_of_le (digitsVal_lt ha) (Nat.pow_le_pow_right (by decide) hl)
theorem tl_len (z : Str) : z.length = (TL.tl z).length := by show z.cps.size = z.cps.toList.length; simp
theorem rmp_bare (z : Str) : TL.tl (Txt.removeprefix z "-") = bareL (TL.tl z) := by
  rw [PySem.StrLaws.removeprefix_eq, PySem.StrLaws.subAt_eq]
  have e1 : ("-" : Str).length = 1 := rfl
  have e2 : ("-" : Str).cps.toList = [45] := rfl
  rw [e1, e2, tl_len z]
  show TL.tl (if (decide (0 + 1 ≤ (TL.tl z).length) && (((TL.tl z).drop 0).take 1 == [45])) = true then (⟨(((TL.tl z).drop 1).take ((TL.tl z).length - 1)).toArray⟩ : Str) else z) = bareL (TL.tl z)
  cases hz : TL.tl z with
  | nil =>
    rw [if_neg (by simp)]
    rw [hz]
    rfl
  | cons c r =>
    by_cases hc : c = 45
    · subst hc
      rw [if_pos (by simp)]
      show (((45 :: r).drop 1).take ((45 :: r).length - 1)).toArray.toList = _
      simp [bareL]
    · rw [if_neg (by simp [hc]), hz]
      simp [bareL, hc]
/-- the amount that a text writes, or none: the parts of the text at its bars -/
def amtP : List (List Nat) → Option (Int × Int)
  | [p] => if numB p = true then some (valL p, 1) else none
  | [p, q] => if numB p = true ∧ numB q = true ∧ 1 < valL q ∧ Int.gcd (valL p) (valL q) = 1 then some (valL p, valL q) else none
  | _ => none
def amtIn (l : List Nat) : Option (Int × Int) := amtP (TL.spl [47] 0 [] l)
theorem numB_dig {l : List Nat} (h : numB l = true) : ∀ c ∈ l, c = 45 ∨ (48 ≤ c ∧ c ≤ 57) := by
  have hd : digsB (bareL l) = true := by unfold numB at h; exact (Bool.and_eq_true_iff.mp h).1
  obtain ⟨ha, _, _⟩ := digs_all hd
  intro c hc
  cases l with
  | nil => cases hc
  | cons d r =>
    by_cases hd45 : d = 45
    · subst hd45
      rcases List.mem_cons.mp hc with rfl | hc
      · exact .inl rfl
      · exact .inr (ha c (by simpa [bareL] using hc))
    · exact .inr (ha c (by simpa [bareL, hd45] using hc))
/-- the first bar of a text -/
theorem cut_bar : ∀ l : List Nat, (47 ∉ l) ∨ ∃ p q, l = p ++ 47 :: q ∧ 47 ∉ p
  | [] => .inl (by simp)
  | c :: r => by
    by_cases hc : c = 47
    · exact .inr ⟨[], r, by rw [hc]; rfl, by simp⟩
    · rcases cut_bar r with h | ⟨p, q, e, h⟩
      · exact .inl (by simp [h]; exact fun z => hc z.symm)
      · exact .inr ⟨c :: p, q, by rw [e]; rfl, by simp [h]; exact fun z => hc z.symm⟩
theorem spl_none {l : List Nat} (h : 47 ∉ l) : TL.spl [47] 0 [] l = [l] := by
  have := TL.spl_last1 (s := 47) (S := []) (p := l) (acc := []) h
  simpa using this
theorem spl_some {p q : List Nat} (h : 47 ∉ p) : TL.spl [47] 0 [] (p ++ 47 :: q) = p :: TL.spl [47] 0 [] q := by
  have := TL.spl_part1 (s := 47) (S := []) (p := p) (rest := q) (acc := []) h
  simpa using this
theorem par_none' {l : List Nat} (h : 47 ∉ l) : TL.par [47] [] l = none := TL.par_none1 h
theorem par_some {p q : List Nat} (h : 47 ∉ p) : TL.par [47] [] (p ++ 47 :: q) = some (p, q) := by
  have := TL.par_part1 (s := 47) (S := []) (p := p) (rest := q) (acc := []) h
  simpa using this
theorem spl_ne : ∀ (l acc : List Nat), TL.spl [47] 0 acc l ≠ []
  | [], acc => by rw [TL.spl_nil]; simp
  | c :: r, acc => by
    cases hc : TL.pre [47] (c :: r) with
    | true => rw [TL.spl_hit hc]; simp
    | false => rw [TL.spl_miss hc]; exact spl_ne r _
theorem amt_none {l : List Nat} (h : 47 ∉ l) : amtIn l = if numB l = true then some (valL l, 1) else none := by unfold amtIn; rw [spl_none h]; rfl
theorem amt_some {p q : List Nat} (h : 47 ∉ p) : amtIn (p ++ 47 :: q) = if numB p = true ∧ numB q = true ∧ 1 < valL q ∧ Int.gcd (valL p) (valL q) = 1 then some (valL p, valL q) else none := by
  unfold amtIn
  rw [spl_some h]
  rcases cut_bar q with hq | ⟨p2, q2, e, hp2⟩
  · rw [spl_none hq]
    rfl
  · have hm : 47 ∈ q := by rw [e]; simp
    have hn : ¬ numB q = true := fun z => by
      have := numB_dig z 47 hm
      omega
    rw [if_neg fun z => hn z.2.1, e, spl_some hp2]
    cases hs : TL.spl [47] 0 [] q2 with
    | nil => exact absurd hs (spl_ne _ _)
    | cons a b => rfl
/-! digits of a text, walked -/
def digC : D → Bool
  | .str z => dig (z.cps.toList.headD 0)
  | _ => false
theorem sgn_of {s : Str} {d : D} (h : d ∈ sgns s) : ∃ c ∈ TL.tl s, d = .str ⟨#[c]⟩ := by
  unfold sgns at h
  obtain ⟨c, hc, rfl⟩ := List.mem_map.mp h
  exact ⟨c, hc, rfl⟩
theorem dig_mem (c : Nat) : decide (c ∈ ("0123456789" : Str).cps.toList) = dig c := by
  rw [show ("0123456789" : Str).cps.toList = [48, 49, 50, 51, 52, 53, 54, 55, 56, 57] from rfl]
  unfold dig
  rw [Bool.eq_iff_iff]
  simp only [List.mem_cons, List.not_mem_nil, or_false, decide_eq_true_eq, Bool.and_eq_true]
  omega
theorem digs_map (s : Str) : (sgns s).map (fun d => D.bl (digC d)) = ((TL.tl s).map dig).map D.bl := by
  unfold sgns
  rw [List.map_map, List.map_map]
  rfl
theorem all_id (l : List Nat) : (l.map dig).all id = l.all dig := by rw [List.all_map]; rfl
theorem digsB_of {l : List Nat} (h1 : 1 ≤ l.length) (h2 : l.length ≤ 30) : digsB l = l.all dig := by
  unfold digsB
  rw [decide_eq_true h1, decide_eq_true h2]
  rfl
theorem digsB_no {l : List Nat} (h : ¬ (1 ≤ l.length ∧ l.length ≤ 30)) : digsB l = false := by
  unfold digsB
  by_cases h1 : 1 ≤ l.length
  · rw [decide_eq_false (show ¬ l.length ≤ 30 from fun z => h ⟨h1, z⟩), Bool.false_and, Bool.and_false]
  · rw [decide_eq_false h1, Bool.false_and]
theorem val_log {l : List Nat} (h : digsB (bareL l) = true) : (valL l).natAbs.log2 < 1920 := PySem.Flt.log2_lt_of (by decide) (Nat.lt_of_lt_of_le (val_lt h) (Nat.le_of_ble_eq_true rfl))
theorem cut_one (z : Str) : TL.tl (cutS z none (some 1)) = (TL.tl z).take 1 := by
  show (((z.cps.toList.drop 0).take (min 1 z.length - 0)).toArray).toList = z.cps.toList.take 1
  rw [List.drop_zero, Nat.sub_zero]
  have e : z.length = z.cps.toList.length := tl_len z
  rw [e]
  cases z.cps.toList with
  | nil => rfl
  | cons c r => simp [show min 1 (r.length + 1) = 1 by omega]
theorem cut_from (z : Str) : TL.tl (cutS z (some 1) none) = (TL.tl z).drop 1 := by
  show (((z.cps.toList.drop (min 1 z.length)).take (z.length - min 1 z.length)).toArray).toList = z.cps.toList.drop 1
  have e : z.length = z.cps.toList.length := tl_len z
  rw [e]
  cases z.cps.toList with
  | nil => rfl
  | cons c r => simp [show min 1 (r.length + 1) = 1 by omega]
theorem cut_in {z : Str} {a b : Option Int} {c : Nat} (h : c ∈ TL.tl (cutS z a b)) : c ∈ TL.tl z := by
  have h : c ∈ (((z.cps.toList.drop (HT.sIx z.length 0 a)).take (HT.sIx z.length z.length b - HT.sIx z.length 0 a)).toArray).toList := h
  exact List.mem_of_mem_drop (List.mem_of_mem_take (by simpa using h))
theorem minus_iff (z : Str) : cutS z none (some 1) = ("-" : Str) ↔ ∃ r, TL.tl z = 45 :: r := by
  have e2 : TL.tl ("-" : Str) = [45] := rfl
  constructor
  · intro h
    have h2 := congrArg TL.tl h
    rw [cut_one, e2] at h2
    cases hz : TL.tl z with
    | nil => rw [hz] at h2; cases h2
    | cons c r =>
      rw [hz] at h2
      have : c = 45 := by simpa using h2
      exact ⟨r, by rw [this]⟩
  · rintro ⟨r, hr⟩
    refine TL.ext_tl ?_
    rw [cut_one, hr, e2]
    rfl
theorem bare_minus {l r : List Nat} (h : l = 45 :: r) : bareL l = r := by rw [h]; simp [bareL]
theorem bare_plain {l : List Nat} (h : ¬ ∃ r, l = 45 :: r) : bareL l = l := by
  cases l with
  | nil => rfl
  | cons c r =>
    have : c ≠ 45 := fun z => h ⟨r, by rw [z]⟩
    simp [bareL, this]
theorem spl_len : ∀ (l acc : List Nat), ∀ p ∈ TL.spl [47] 0 acc l, p.length ≤ acc.length + l.length ∧ ∀ c ∈ p, c ∈ acc ∨ c ∈ l
  | [], acc, p, hp => by
    rw [TL.spl_nil] at hp
    rw [List.mem_singleton.mp hp]
    exact ⟨by simp, fun c hc => .inl hc⟩
  | c :: r, acc, p, hp => by
    cases hc : TL.pre [47] (c :: r) with
    | true =>
      rw [TL.spl_hit hc] at hp
      rcases List.mem_cons.mp hp with rfl | hp
      · exact ⟨by simp, fun c hc => .inl hc⟩
      · obtain ⟨h1, h2⟩ := spl_len r [] p hp
        exact ⟨by simp at h1 ⊢; omega, fun c hc => .inr ((h2 c hc).elim (fun z => by cases z) fun z => .tail _ z)⟩
    | false =>
      rw [TL.spl_miss hc] at hp
      obtain ⟨h1, h2⟩ := spl_len r _ p hp
      refine ⟨by simp at h1 ⊢; omega, fun d hd => ?_⟩
      rcases h2 d hd with z | z
      · rcases List.mem_append.mp z with z | z
        · exact .inl z
        · exact .inr (by rw [List.mem_singleton.mp z]; exact .head _)
      · exact .inr (.tail _ z)
theorem amtP_no {ls : List (List Nat)} {p : List Nat} (hp : p ∈ ls) (hn : numB p = false) : amtP ls = none := by
  match ls, hp with
  | [a], hp =>
    rw [List.mem_singleton.mp hp] at hn
    show (if numB a = true then _ else none) = none
    rw [hn]
    rfl
  | [a, b], hp =>
    show (if numB a = true ∧ numB b = true ∧ _ then _ else none) = none
    refine if_neg fun z => ?_
    rcases List.mem_cons.mp hp with rfl | hp
    · rw [hn] at z; cases z.1
    · rw [List.mem_singleton.mp hp] at hn
      rw [hn] at z; cases z.2.1
  | _ :: _ :: _ :: _, _ => rfl
theorem strs_shp {l : List D} (h : ∀ x ∈ l, ∃ c, c < 128 ∧ x = .str ⟨#[c]⟩) : shp (.lst l) = true := shp_lst fun x hx => by
  obtain ⟨c, hc, rfl⟩ := h x hx
  unfold toPy PyData.canLay0 PyData.depth
  refine ⟨?_, by omega⟩
  show (#[c] : Array Nat).all (· < 0x110000) = true
  simp
  omega
theorem fm_dig (s : Str) : ((sgns s).filterMap fun d => if (!digC d) = true then some d else none).isEmpty = (TL.tl s).all dig := by
  unfold sgns
  rw [List.filterMap_map]
  show (((TL.tl s).filterMap _)).isEmpty = _
  induction TL.tl s with
  | nil => rfl
  | cons c r ih =>
    have e0 : ((fun d => if (!digC d) = true then some d else none) ∘ fun c => D.str ⟨#[c]⟩) c = (if (!dig c) = true then some (D.str ⟨#[c]⟩) else none) := rfl
    cases hd : dig c with
    | true =>
      rw [hd] at e0
      rw [List.filterMap_cons_none e0, List.all_cons, hd, Bool.true_and]
      exact ih
    | false =>
      rw [hd] at e0
      rw [List.filterMap_cons_some e0, List.all_cons, hd]
      rfl
theorem rng_at {n i : Nat} {d : D} (h : (rngD 0 n)[i]? = some d) : d = .int i ∧ i < n := by
  unfold rngD at h
  rw [List.getElem?_map] at h
  cases q : (List.range n)[i]? with
  | none => rw [q] at h; cases h
  | some j =>
    rw [q] at h
    obtain ⟨h1, h2⟩ := List.getElem?_eq_some_iff.mp q
    rw [List.getElem_range] at h2
    subst h2
    cases h
    exact ⟨by simp, by simpa using h1⟩
def amtD : Option (Int × Int) → D
  | some (a, b) => .tup [.int a, .int b]
  | none => .non
theorem amtP_many {ls : List (List Nat)} (h : 2 < ls.length) : amtP ls = none := by
  match ls, h with
  | _ :: _ :: _ :: _, _ => rfl
theorem text_num {a : Int} (h : a.natAbs < 10 ^ 30) : digsB (bareL (textL a)) = true ∧ valL (textL a) = a ∧ (textL a).length ≤ 31 := by
  have key : ∀ n : Nat, n < 10 ^ 30 → digsB (TL.numL n) = true ∧ (TL.numL n).length ≤ 30 := fun n hn => by
    have h1 := TL.numL_len (k := 30) (by decide) hn
    have h2 := TL.numL_ne n
    refine ⟨?_, h1⟩
    rw [digsB_of (by cases hq : TL.numL n with | nil => exact absurd hq h2 | cons _ _ => simp) h1, List.all_eq_true]
    intro c hc
    have := TL.numL_digits n c hc
    unfold dig
    rw [decide_eq_true this.1, decide_eq_true this.2]
    rfl
  cases a with
  | ofNat n =>
    have hn : n < 10 ^ 30 := h
    obtain ⟨k1, k2⟩ := key n hn
    have e : textL (Int.ofNat n) = TL.numL n := textL_nat n
    have h45 : 45 ∉ TL.numL n := TL.numL_free (.inl (by decide))
    have eb : bareL (TL.numL n) = TL.numL n := bare_plain fun ⟨r, hr⟩ => h45 (by rw [hr]; exact .head _)
    rw [e, eb]
    refine ⟨k1, ?_, by omega⟩
    have hv := TL.numL_val n
    cases hq : TL.numL n with
    | nil => exact absurd hq (TL.numL_ne n)
    | cons c r =>
      have hc : c ≠ 45 := fun z => h45 (by rw [hq, z]; exact .head _)
      rw [hq] at hv
      show (if c = 45 then -((digitsVal r : Nat) : Int) else ((digitsVal (c :: r) : Nat) : Int)) = _
      rw [if_neg hc, hv]
      rfl
  | negSucc m =>
    have hn : m + 1 < 10 ^ 30 := h
    obtain ⟨k1, k2⟩ := key (m + 1) hn
    have e : textL (Int.negSucc m) = 45 :: TL.numL (m + 1) := textL_neg (n := m + 1) (by omega)
    rw [e, bare_minus rfl]
    refine ⟨k1, ?_, by simp; omega⟩
    show (if (45 : Nat) = 45 then -((digitsVal (TL.numL (m + 1)) : Nat) : Int) else ((digitsVal (45 :: TL.numL (m + 1)) : Nat) : Int)) = _
    rw [if_pos rfl, TL.numL_val]
    rfl
theorem text_numB {a : Int} (h : a.natAbs < 10 ^ 30) : numB (textL a) = true := by
  obtain ⟨h1, h2, _⟩ := text_num h
  unfold numB
  rw [h1, Bool.true_and]
  exact (num_iff h1).mp (by rw [h2])
theorem no_bar {l : List Nat} (h : numB l = true) : 47 ∉ l := fun hm => by
  have := numB_dig h 47 hm
  omega
theorem amt_one {a : Int} (h : a.natAbs < 10 ^ 30) : amtIn (textL a) = some (a, 1) := by
  have hn := text_numB h
  rw [amt_none (no_bar hn), if_pos hn, (text_num h).2.1]
theorem amt_two {a b : Int} (h : a.natAbs < 10 ^ 30) (hb : b.natAbs < 10 ^ 30) (h1 : 1 < b) (hg : Int.gcd a b = 1) : amtIn (textL a ++ 47 :: textL b) = some (a, b) := by
  have hn := text_numB h
  have hm := text_numB hb
  rw [amt_some (no_bar hn), (text_num h).2.1, (text_num hb).2.1, if_pos ⟨hn, hm, h1, hg⟩]
end VL

set_option Elab.async false
set_option linter.all false
set_option maxRecDepth 100000
set_option maxHeartbeats 2000000
set_option exponentiation.threshold 20000
/-! VQ: amounts as rational numbers. -/
namespace VL
open PySem L2
def qD : D → Rat
  | .tup [.int a, .int b] => Rat.divInt a b
  | _ => 0
theorem qD_rat {t b : Int} (h : b ≠ 0) : qD (ratD t b) = Rat.divInt t b := by
  obtain ⟨h1, h2, h3, _⟩ := rat_parts (t := t) h
  show Rat.divInt (ratT t b) (ratB t b) = _
  have key := Rat.divInt_mul_left (n := ratT t b) (d := ratB t b) (ratK_ne (t := t) h)
  rw [← key, ← h1, ← h2]
theorem cop_dvd {k a b : Int} (h : Int.gcd k a = 1) (hd : k ∣ a * b) : k ∣ b := by
  have h2 : k.natAbs ∣ a.natAbs * b.natAbs := by rw [← Int.natAbs_mul]; exact Int.natAbs_dvd_natAbs.mpr hd
  have h3 : Nat.Coprime k.natAbs a.natAbs := h
  exact Int.natAbs_dvd_natAbs.mp (h3.dvd_of_dvd_mul_left h2)
theorem q_inj {n m : Nat} {x y : D} (hx : AmtD n x) (hy : AmtD m y) (h : qD x = qD y) : x = y := by
  obtain ⟨a, b, rfl, A⟩ := hx
  obtain ⟨c, d, rfl, B⟩ := hy
  have hb := A.pos
  have hd := B.pos
  have h : Rat.divInt a b = Rat.divInt c d := h
  rw [Rat.divInt_eq_divInt_iff (by omega) (by omega)] at h
  have c1 := A.cop
  have c2 := B.cop
  have d1 : b ∣ d := by
    have : b ∣ a * d := ⟨c, by rw [h, Int.mul_comm]⟩
    exact cop_dvd (by rw [Int.gcd_comm]; exact c1) this
  have d2 : d ∣ b := by
    have : d ∣ c * b := ⟨a, by rw [← h, Int.mul_comm]⟩
    exact cop_dvd (by rw [Int.gcd_comm]; exact c2) this
  have e : b = d := by
    have l1 := Int.le_of_dvd hd d1
    have l2 := Int.le_of_dvd hb d2
    omega
  subst e
  have e2 : a = c := Int.eq_of_mul_eq_mul_right (by omega) h
  rw [e2]
theorem q_iff {n m : Nat} {x y : D} (hx : AmtD n x) (hy : AmtD m y) : x = y ↔ qD x = qD y := ⟨fun e => by rw [e], q_inj hx hy⟩
theorem q_plus {n m : Nat} {x y : D} (hx : AmtD n x) (hy : AmtD m y) : qD (plusD x y) = qD x + qD y := by
  obtain ⟨a, b, rfl, A⟩ := hx
  obtain ⟨c, d, rfl, B⟩ := hy
  have hb := A.pos
  have hd := B.pos
  have hz := Int.mul_pos hb hd
  show qD (ratD (a * d + c * b) (b * d)) = Rat.divInt a b + Rat.divInt c d
  rw [qD_rat (by omega), Rat.divInt_add_divInt _ _ (by omega) (by omega)]
theorem q_times {n m : Nat} {x y : D} (hx : AmtD n x) (hy : AmtD m y) : qD (timesD x y) = qD x * qD y := by
  obtain ⟨a, b, rfl, A⟩ := hx
  obtain ⟨c, d, rfl, B⟩ := hy
  have hb := A.pos
  have hd := B.pos
  have hz := Int.mul_pos hb hd
  show qD (ratD (a * c) (b * d)) = Rat.divInt a b * Rat.divInt c d
  rw [qD_rat (by omega), Rat.divInt_mul_divInt]
theorem q_neg {n : Nat} {x : D} (hx : AmtD n x) : qD (negA x) = - qD x := by
  obtain ⟨a, b, rfl, A⟩ := hx
  show Rat.divInt (0 - a) b = - Rat.divInt a b
  rw [Rat.neg_divInt, Int.zero_sub]
theorem q_minus {n m : Nat} {x y : D} (hx : AmtD n x) (hy : AmtD m y) : qD (minusD x y) = qD x - qD y := by
  unfold minusD
  rw [q_plus hx (neg_amt hy), q_neg hy, Rat.sub_eq_add_neg]
theorem minus_amt {n m : Nat} {x y : D} (hx : AmtD n x) (hy : AmtD m y) : AmtD (n + m + 1) (minusD x y) := plus_amt hx (neg_amt hy)
theorem q_zero : qD zeroD = 0 := by show Rat.divInt 0 1 = 0; simp
def oneD : D := .tup [.int 1, .int 1]
theorem one_amt : AmtD 1 oneD := ⟨1, 1, rfl, by decide, by decide, by decide, by decide⟩
theorem q_one : qD oneD = 1 := by show Rat.divInt 1 1 = 1; exact Rat.divInt_self' (by decide)
theorem q_int (a : Int) : qD (.tup [.int a, .int 1]) = (a : Rat) := by
  show Rat.divInt a 1 = _
  rw [Rat.divInt_eq_div]
  grind
/-! signs -/
theorem q_pos {n : Nat} {a b : Int} (A : Amt n a b) : 0 < qD (.tup [.int a, .int b]) ↔ 0 < a := by
  show 0 < Rat.divInt a b ↔ 0 < a
  have hb := A.pos
  have e : Rat.divInt a b * (b : Rat) = (a : Rat) := by
    rw [Rat.divInt_eq_div]
    have : (b : Rat) ≠ 0 := by
      intro z
      have := Rat.intCast_pos.mpr hb
      rw [z] at this
      exact absurd this (by decide)
    grind
  have hb' : (0 : Rat) < (b : Rat) := Rat.intCast_pos.mpr hb
  rw [← Rat.mul_pos_iff_of_pos_right hb', e, Rat.intCast_pos]
theorem q_neg_iff {n : Nat} {a b : Int} (A : Amt n a b) : qD (.tup [.int a, .int b]) < 0 ↔ a < 0 := by
  have A' : Amt n (0 - a) b := ⟨A.pos, by rw [Int.zero_sub, Int.neg_gcd]; exact A.cop, by have := A.ha; omega, A.hb⟩
  have h := q_pos A'
  have e : qD (.tup [.int (0 - a), .int b]) = - qD (.tup [.int a, .int b]) := q_neg ⟨a, b, rfl, A⟩
  rw [e] at h
  constructor
  · intro z
    have : 0 < 0 - a := h.mp (by grind)
    omega
  · intro z
    have : 0 < - qD (.tup [.int a, .int b]) := h.mpr (by omega)
    grind
theorem q_zero_iff {n : Nat} {a b : Int} (A : Amt n a b) : qD (.tup [.int a, .int b]) = 0 ↔ a = 0 := by
  have h1 := q_pos A
  have h2 := q_neg_iff A
  constructor
  · intro z
    rw [z] at h1 h2
    have : ¬ 0 < a := fun y => absurd (h1.mpr y) (by decide)
    have : ¬ a < 0 := fun y => absurd (h2.mpr y) (by decide)
    omega
  · intro z
    have n1 : ¬ 0 < qD (.tup [.int a, .int b]) := fun y => by have := h1.mp y; omega
    have n2 : ¬ qD (.tup [.int a, .int b]) < 0 := fun y => by have := h2.mp y; omega
    grind
theorem sgn_pos {n : Nat} {x : D} (h : AmtD n x) : 0 < sgnD x ↔ 0 < qD x := by
  obtain ⟨a, b, rfl, A⟩ := h
  rw [q_pos A]
  show 0 < sgnI a ↔ _
  unfold sgnI
  by_cases h1 : 0 < a
  · have h2 : ¬ a < 0 := by omega
    simp [h1, h2]
  · by_cases h2 : a < 0 <;> simp [h1, h2]
theorem sgn_neg {n : Nat} {x : D} (h : AmtD n x) : sgnD x < 0 ↔ qD x < 0 := by
  obtain ⟨a, b, rfl, A⟩ := h
  rw [q_neg_iff A]
  show sgnI a < 0 ↔ _
  unfold sgnI
  by_cases h1 : 0 < a
  · have h2 : ¬ a < 0 := by omega
    simp [h1, h2]
  · by_cases h2 : a < 0 <;> simp [h1, h2]
theorem sgn_zero {n : Nat} {x : D} (h : AmtD n x) : sgnD x = 0 ↔ qD x = 0 := by
  obtain ⟨a, b, rfl, A⟩ := h
  rw [q_zero_iff A]
  show sgnI a = 0 ↔ _
  unfold sgnI
  by_cases h1 : 0 < a
  · have h2 : ¬ a < 0 := by omega
    simp [h1, h2]
    omega
  · by_cases h2 : a < 0
    · simp [h1, h2]
      omega
    · simp [h1, h2]
      omega
/-! quotients -/
def overD : D → D → D
  | .tup [.int a, .int b], .tup [.int c, .int d] => ratD (a * d) (b * c)
  | _, _ => .non
theorem over_amt {n m : Nat} {x y : D} (hx : AmtD n x) (hy : AmtD m y) (hz : y ≠ zeroD) : AmtD (n + m) (overD x y) := by
  have hq : qD y ≠ 0 := fun z => hz (q_inj hy zero_amt (by rw [z, q_zero]))
  obtain ⟨a, b, rfl, A⟩ := hx
  obtain ⟨c, d, rfl, B⟩ := hy
  have hc : c ≠ 0 := fun z => hq ((q_zero_iff B).mpr z)
  have hb := A.pos
  exact rat_amtD (Int.mul_ne_zero (by omega) hc) (mul_lt A.ha B.hb) (mul_lt A.hb B.ha)
theorem q_over {n m : Nat} {x y : D} (hx : AmtD n x) (hy : AmtD m y) (hz : y ≠ zeroD) : qD (overD x y) = qD x / qD y := by
  have hq : qD y ≠ 0 := fun z => hz (q_inj hy zero_amt (by rw [z, q_zero]))
  obtain ⟨a, b, rfl, A⟩ := hx
  obtain ⟨c, d, rfl, B⟩ := hy
  have hc : c ≠ 0 := fun z => hq ((q_zero_iff B).mpr z)
  have hb := A.pos
  show qD (ratD (a * d) (b * c)) = Rat.divInt a b / Rat.divInt c d
  rw [qD_rat (Int.mul_ne_zero (by omega) hc), Rat.div_def, Rat.inv_divInt, Rat.divInt_mul_divInt]
theorem over_facts {n m : Nat} {a b c d : Int} (A : Amt n a b) (B : Amt m c d) (hc : c ≠ 0) (hn : n + m ≤ 9000) : CMulW a d ∧ CMulW b c ∧ b * c ≠ 0 ∧ (b * c).natAbs < 2 ^ 9000 := by
  have h0 : 0 < n := by
    rcases Nat.eq_zero_or_pos n with e | e
    · have h1 := A.hb; have h2 := A.pos; rw [e] at h1; omega
    · exact e
  have h1 : 0 < m := by
    rcases Nat.eq_zero_or_pos m with e | e
    · have h1 := B.hb; have h2 := B.pos; rw [e] at h1; omega
    · exact e
  have hb := A.pos
  exact ⟨wide_mul A.ha B.hb h0 h1 (by omega), wide_mul A.hb B.ha h0 h1 (by omega), Int.mul_ne_zero (by omega) hc, pow_up (mul_lt A.hb B.ha) (by omega)⟩
theorem q_rat_pos {t b : Int} (ht : 0 < t) (hb : 0 < b) : 0 < qD (ratD t b) := by
  rw [qD_rat (by omega), Rat.divInt_eq_div, Rat.div_def]
  exact Rat.mul_pos (Rat.intCast_pos.mpr ht) (Rat.inv_pos.mpr (Rat.intCast_pos.mpr hb))
/-! what an eqv of two amounts says -/
theorem eqv_amtD {n m : Nat} {x y : D} (hx : AmtD n x) (hy : AmtD m y) : eqv x y = decide (qD x = qD y) := by
  have hi := q_iff hx hy
  obtain ⟨a, b, rfl, A⟩ := hx
  obtain ⟨c, d, rfl, B⟩ := hy
  rw [eqv_amt]
  by_cases h : qD (.tup [.int a, .int b]) = qD (.tup [.int c, .int d])
  · have e := hi.mpr h
    simp only [D.tup.injEq, List.cons.injEq, D.int.injEq, and_true] at e
    simp [h, e.1, e.2]
  · have e : ¬ (a = c ∧ b = d) := fun z => h (by rw [z.1, z.2])
    have : (decide (a = c) && decide (b = d)) = false := by
      rw [Bool.and_eq_false_iff]
      by_cases h1 : a = c
      · exact .inr (decide_eq_false fun h2 => e ⟨h1, h2⟩)
      · exact .inl (decide_eq_false h1)
    rw [this, decide_eq_false h]
end VL

set_option Elab.async false
set_option linter.all false
set_option maxRecDepth 100000
set_option maxHeartbeats 4000000
set_option exponentiation.threshold 20000
namespace Law
open PySem PySem.Spec PyProof.Rows L2 VL
def topS (i : Nat) : Stmt := PySem.Challenge.pw_unseenzero_k13_whole_changes_form_a_grou.main.body.getD i (.Pass ⟨0, 0, 0, 0⟩)
abbrev s_wall : Stmt := topS 0
abbrev s_InvalidAmount___init__ : Stmt := inClass (topS 4) 0
abbrev s_InvalidName___init__ : Stmt := inClass (topS 5) 0
abbrev s_ScalesDiffer___init__ : Stmt := inClass (topS 6) 0
abbrev s_NotDefined___init__ : Stmt := inClass (topS 7) 0
abbrev s_NothingLeft___init__ : Stmt := inClass (topS 8) 0
abbrev s_is_integer : Stmt := topS 12
abbrev s_is_name : Stmt := topS 13
abbrev s_common_divisor : Stmt := topS 18
abbrev s_amount : Stmt := topS 19
abbrev s_is_amount : Stmt := topS 20
abbrev s_plus : Stmt := topS 21
abbrev s_minus : Stmt := topS 22
abbrev s_times : Stmt := topS 23
abbrev s_over : Stmt := topS 24
abbrev s_opposite : Stmt := topS 25
abbrev s_sign : Stmt := topS 26
abbrev s_amount_text : Stmt := topS 27
abbrev s_Quantity___init__ : Stmt := inClass (topS 29) 1
abbrev s_Quantity_text : Stmt := inClass (topS 29) 2
abbrev s_Quantity_need_alike : Stmt := inClass (topS 29) 3
abbrev s_Quantity_below : Stmt := inClass (topS 29) 4
abbrev s_Quantity___eq__ : Stmt := inClass (topS 29) 5
abbrev s_Quantity___repr__ : Stmt := inClass (topS 29) 6
abbrev s_Quantity___add__ : Stmt := inClass (topS 29) 7
abbrev s_Quantity___sub__ : Stmt := inClass (topS 29) 8
abbrev s_Quantity___mul__ : Stmt := inClass (topS 29) 9
abbrev s_Quantity___neg__ : Stmt := inClass (topS 29) 10
abbrev s_Reading___add__ : Stmt := inClass (topS 30) 1
abbrev s_Reading___sub__ : Stmt := inClass (topS 30) 2
abbrev s_Reading___mul__ : Stmt := inClass (topS 30) 3
abbrev s_Reading___neg__ : Stmt := inClass (topS 30) 4
abbrev s_Span___add__ : Stmt := inClass (topS 31) 1
abbrev s_Span___sub__ : Stmt := inClass (topS 31) 2
abbrev s_Span___mul__ : Stmt := inClass (topS 31) 3
abbrev s_Span___neg__ : Stmt := inClass (topS 31) 4
abbrev s_need_scale : Stmt := topS 32
abbrev s_quantity_of : Stmt := topS 33
abbrev s_Change___init__ : Stmt := inClass (topS 35) 0
abbrev s_Change_about : Stmt := inClass (topS 35) 1
abbrev s_Change_is_shift : Stmt := inClass (topS 35) 2
abbrev s_Change_is_still : Stmt := inClass (topS 35) 3
abbrev s_Change_point : Stmt := inClass (topS 35) 4
abbrev s_Change_led : Stmt := inClass (topS 35) 5
abbrev s_Change___call__ : Stmt := inClass (topS 35) 6
abbrev s_Change___mul__ : Stmt := inClass (topS 35) 7
abbrev s_Change___neg__ : Stmt := inClass (topS 35) 8
abbrev s_Change___eq__ : Stmt := inClass (topS 35) 9
abbrev s_Change___repr__ : Stmt := inClass (topS 35) 10
abbrev s_l_source : Stmt := topS 37
abbrev s_l_draw : Stmt := topS 38
abbrev s_l_choice : Stmt := topS 39
abbrev s_l_same : Stmt := topS 40
abbrev s_l_field : Stmt := topS 41
abbrev s_l_try : Stmt := topS 42
abbrev s_l_tries : Stmt := topS 43
abbrev s_l_divisor : Stmt := topS 44
abbrev s_l_ratio : Stmt := topS 45
abbrev s_l_plus : Stmt := topS 46
abbrev s_l_times : Stmt := topS 47
abbrev s_l_over : Stmt := topS 48
abbrev s_l_amount : Stmt := topS 49
abbrev s_l_far : Stmt := topS 50
abbrev s_l_names : Stmt := topS 51
abbrev s_l_undone : Stmt := topS 52
abbrev s_l_change : Stmt := topS 53
abbrev s_l_ready : Stmt := topS 54
abbrev s_l_quantity : Stmt := topS 55
abbrev s_law : Stmt := topS 56
theorem sc_wall : FnScope ["k"] ["k"] (defScope s_wall) := ⟨rfl, rfl, rfl, by decide +kernel, rfl, by decide +kernel, by decide +kernel⟩
theorem sc_InvalidAmount___init__ : FnScope ["self", "given"] ["self", "given"] (defScope s_InvalidAmount___init__) := ⟨rfl, rfl, rfl, by decide +kernel, rfl, by decide +kernel, by decide +kernel⟩
theorem sc_InvalidName___init__ : FnScope ["self", "given"] ["self", "given"] (defScope s_InvalidName___init__) := ⟨rfl, rfl, rfl, by decide +kernel, rfl, by decide +kernel, by decide +kernel⟩
theorem sc_ScalesDiffer___init__ : FnScope ["self", "one", "other"] ["self", "one", "other"] (defScope s_ScalesDiffer___init__) := ⟨rfl, rfl, rfl, by decide +kernel, rfl, by decide +kernel, by decide +kernel⟩
theorem sc_NotDefined___init__ : FnScope ["self", "operation"] ["self", "operation"] (defScope s_NotDefined___init__) := ⟨rfl, rfl, rfl, by decide +kernel, rfl, by decide +kernel, by decide +kernel⟩
theorem sc_NothingLeft___init__ : FnScope ["self"] ["self"] (defScope s_NothingLeft___init__) := ⟨rfl, rfl, rfl, by decide +kernel, rfl, by decide +kernel, by decide +kernel⟩
theorem sc_is_integer : FnScope ["value"] ["value"] (defScope s_is_integer) := ⟨rfl, rfl, rfl, by decide +kernel, rfl, by decide +kernel, by decide +kernel⟩
theorem sc_is_name : FnScope ["value", "letter"] ["value"] (defScope s_is_name) := ⟨rfl, rfl, rfl, by decide +kernel, rfl, by decide +kernel, by decide +kernel⟩
theorem sc_common_divisor : FnScope ["one", "other"] ["one", "other"] (defScope s_common_divisor) := ⟨rfl, rfl, rfl, by decide +kernel, rfl, by decide +kernel, by decide +kernel⟩
theorem sc_amount : FnScope ["top", "bottom", "by"] ["top", "bottom"] (defScope s_amount) := ⟨rfl, rfl, rfl, by decide +kernel, rfl, by decide +kernel, by decide +kernel⟩
theorem sc_is_amount : FnScope ["value", "part"] ["value"] (defScope s_is_amount) := ⟨rfl, rfl, rfl, by decide +kernel, rfl, by decide +kernel, by decide +kernel⟩
theorem sc_plus : FnScope ["one", "other"] ["one", "other"] (defScope s_plus) := ⟨rfl, rfl, rfl, by decide +kernel, rfl, by decide +kernel, by decide +kernel⟩
theorem sc_minus : FnScope ["one", "other"] ["one", "other"] (defScope s_minus) := ⟨rfl, rfl, rfl, by decide +kernel, rfl, by decide +kernel, by decide +kernel⟩
theorem sc_times : FnScope ["one", "other"] ["one", "other"] (defScope s_times) := ⟨rfl, rfl, rfl, by decide +kernel, rfl, by decide +kernel, by decide +kernel⟩
theorem sc_over : FnScope ["one", "other"] ["one", "other"] (defScope s_over) := ⟨rfl, rfl, rfl, by decide +kernel, rfl, by decide +kernel, by decide +kernel⟩
theorem sc_opposite : FnScope ["one"] ["one"] (defScope s_opposite) := ⟨rfl, rfl, rfl, by decide +kernel, rfl, by decide +kernel, by decide +kernel⟩
theorem sc_sign : FnScope ["one"] ["one"] (defScope s_sign) := ⟨rfl, rfl, rfl, by decide +kernel, rfl, by decide +kernel, by decide +kernel⟩
theorem sc_amount_text : FnScope ["one"] ["one"] (defScope s_amount_text) := ⟨rfl, rfl, rfl, by decide +kernel, rfl, by decide +kernel, by decide +kernel⟩
theorem sc_Quantity___init__ : FnScope ["self", "scale", "amount"] ["self", "scale", "amount"] (defScope s_Quantity___init__) := ⟨rfl, rfl, rfl, by decide +kernel, rfl, by decide +kernel, by decide +kernel⟩
theorem sc_Quantity_text : FnScope ["self"] ["self"] (defScope s_Quantity_text) := ⟨rfl, rfl, rfl, by decide +kernel, rfl, by decide +kernel, by decide +kernel⟩
theorem sc_Quantity_need_alike : FnScope ["self", "other", "operation"] ["self", "other", "operation"] (defScope s_Quantity_need_alike) := ⟨rfl, rfl, rfl, by decide +kernel, rfl, by decide +kernel, by decide +kernel⟩
theorem sc_Quantity_below : FnScope ["self", "other"] ["self", "other"] (defScope s_Quantity_below) := ⟨rfl, rfl, rfl, by decide +kernel, rfl, by decide +kernel, by decide +kernel⟩
theorem sc_Quantity___eq__ : FnScope ["self", "other"] ["self", "other"] (defScope s_Quantity___eq__) := ⟨rfl, rfl, rfl, by decide +kernel, rfl, by decide +kernel, by decide +kernel⟩
theorem sc_Quantity___repr__ : FnScope ["self"] ["self"] (defScope s_Quantity___repr__) := ⟨rfl, rfl, rfl, by decide +kernel, rfl, by decide +kernel, by decide +kernel⟩
theorem sc_Quantity___add__ : FnScope ["self", "other"] ["self", "other"] (defScope s_Quantity___add__) := ⟨rfl, rfl, rfl, by decide +kernel, rfl, by decide +kernel, by decide +kernel⟩
theorem sc_Quantity___sub__ : FnScope ["self", "other"] ["self", "other"] (defScope s_Quantity___sub__) := ⟨rfl, rfl, rfl, by decide +kernel, rfl, by decide +kernel, by decide +kernel⟩
theorem sc_Quantity___mul__ : FnScope ["self", "other"] ["self", "other"] (defScope s_Quantity___mul__) := ⟨rfl, rfl, rfl, by decide +kernel, rfl, by decide +kernel, by decide +kernel⟩
theorem sc_Quantity___neg__ : FnScope ["self"] ["self"] (defScope s_Quantity___neg__) := ⟨rfl, rfl, rfl, by decide +kernel, rfl, by decide +kernel, by decide +kernel⟩
theorem sc_Reading___add__ : FnScope ["self", "other"] ["self", "other"] (defScope s_Reading___add__) := ⟨rfl, rfl, rfl, by decide +kernel, rfl, by decide +kernel, by decide +kernel⟩
theorem sc_Reading___sub__ : FnScope ["self", "other", "found"] ["self", "other"] (defScope s_Reading___sub__) := ⟨rfl, rfl, rfl, by decide +kernel, rfl, by decide +kernel, by decide +kernel⟩
theorem sc_Reading___mul__ : FnScope ["self", "other"] ["self", "other"] (defScope s_Reading___mul__) := ⟨rfl, rfl, rfl, by decide +kernel, rfl, by decide +kernel, by decide +kernel⟩
theorem sc_Reading___neg__ : FnScope ["self"] ["self"] (defScope s_Reading___neg__) := ⟨rfl, rfl, rfl, by decide +kernel, rfl, by decide +kernel, by decide +kernel⟩
theorem sc_Span___add__ : FnScope ["self", "other", "found"] ["self", "other"] (defScope s_Span___add__) := ⟨rfl, rfl, rfl, by decide +kernel, rfl, by decide +kernel, by decide +kernel⟩
theorem sc_Span___sub__ : FnScope ["self", "other"] ["self", "other"] (defScope s_Span___sub__) := ⟨rfl, rfl, rfl, by decide +kernel, rfl, by decide +kernel, by decide +kernel⟩
theorem sc_Span___mul__ : FnScope ["self", "other"] ["self", "other"] (defScope s_Span___mul__) := ⟨rfl, rfl, rfl, by decide +kernel, rfl, by decide +kernel, by decide +kernel⟩
theorem sc_Span___neg__ : FnScope ["self"] ["self"] (defScope s_Span___neg__) := ⟨rfl, rfl, rfl, by decide +kernel, rfl, by decide +kernel, by decide +kernel⟩
theorem sc_need_scale : FnScope ["one", "other"] ["one", "other"] (defScope s_need_scale) := ⟨rfl, rfl, rfl, by decide +kernel, rfl, by decide +kernel, by decide +kernel⟩
theorem sc_quantity_of : FnScope ["kind", "scale", "amount"] ["kind", "scale", "amount"] (defScope s_quantity_of) := ⟨rfl, rfl, rfl, by decide +kernel, rfl, by decide +kernel, by decide +kernel⟩
theorem sc_Change___init__ : FnScope ["self", "scale", "factor", "shift"] ["self", "scale", "factor", "shift"] (defScope s_Change___init__) := ⟨rfl, rfl, rfl, by decide +kernel, rfl, by decide +kernel, by decide +kernel⟩
theorem sc_Change_about : FnScope ["scale", "point", "factor", "found"] ["scale", "point", "factor"] (defScope s_Change_about) := ⟨rfl, rfl, rfl, by decide +kernel, rfl, by decide +kernel, by decide +kernel⟩
theorem sc_Change_is_shift : FnScope ["self"] ["self"] (defScope s_Change_is_shift) := ⟨rfl, rfl, rfl, by decide +kernel, rfl, by decide +kernel, by decide +kernel⟩
theorem sc_Change_is_still : FnScope ["self"] ["self"] (defScope s_Change_is_still) := ⟨rfl, rfl, rfl, by decide +kernel, rfl, by decide +kernel, by decide +kernel⟩
theorem sc_Change_point : FnScope ["self"] ["self"] (defScope s_Change_point) := ⟨rfl, rfl, rfl, by decide +kernel, rfl, by decide +kernel, by decide +kernel⟩
theorem sc_Change_led : FnScope ["self", "kind", "amount", "found"] ["self", "kind", "amount"] (defScope s_Change_led) := ⟨rfl, rfl, rfl, by decide +kernel, rfl, by decide +kernel, by decide +kernel⟩
theorem sc_Change___call__ : FnScope ["self", "quantity"] ["self", "quantity"] (defScope s_Change___call__) := ⟨rfl, rfl, rfl, by decide +kernel, rfl, by decide +kernel, by decide +kernel⟩
theorem sc_Change___mul__ : FnScope ["self", "other", "shift"] ["self", "other"] (defScope s_Change___mul__) := ⟨rfl, rfl, rfl, by decide +kernel, rfl, by decide +kernel, by decide +kernel⟩
theorem sc_Change___neg__ : FnScope ["self"] ["self"] (defScope s_Change___neg__) := ⟨rfl, rfl, rfl, by decide +kernel, rfl, by decide +kernel, by decide +kernel⟩
theorem sc_Change___eq__ : FnScope ["self", "other"] ["self", "other"] (defScope s_Change___eq__) := ⟨rfl, rfl, rfl, by decide +kernel, rfl, by decide +kernel, by decide +kernel⟩
theorem sc_Change___repr__ : FnScope ["self"] ["self"] (defScope s_Change___repr__) := ⟨rfl, rfl, rfl, by decide +kernel, rfl, by decide +kernel, by decide +kernel⟩
theorem sc_l_source : FnScope ["_law_script", "_law_seed", "_law_cell"] ["_law_script"] (defScope s_l_source) := ⟨rfl, rfl, rfl, by decide +kernel, rfl, by decide +kernel, by decide +kernel⟩
theorem sc_l_draw : FnScope ["_law_rng", "_law_many", "_law_seed", "_law_cell", "_law_got"] ["_law_rng", "_law_many"] (defScope s_l_draw) := ⟨rfl, rfl, rfl, by decide +kernel, rfl, by decide +kernel, by decide +kernel⟩
theorem sc_l_choice : FnScope ["_law_rng", "_law_some"] ["_law_rng", "_law_some"] (defScope s_l_choice) := ⟨rfl, rfl, rfl, by decide +kernel, rfl, by decide +kernel, by decide +kernel⟩
theorem sc_l_same : FnScope ["_law_result", "_law_expected", "_law_kind_so", "_law_a", "_law_b"] ["_law_result", "_law_expected"] (defScope s_l_same) := ⟨rfl, rfl, rfl, by decide +kernel, rfl, by decide +kernel, by decide +kernel⟩
theorem sc_l_field : FnScope ["_law_e"] ["_law_e"] (defScope s_l_field) := ⟨rfl, rfl, rfl, by decide +kernel, rfl, by decide +kernel, by decide +kernel⟩
theorem sc_l_try : FnScope ["_law_ask", "_law_said", "_law_e"] ["_law_ask"] (defScope s_l_try) := ⟨rfl, rfl, rfl, by decide +kernel, rfl, by decide +kernel, by decide +kernel⟩
theorem sc_l_tries : FnScope ["_law_asks", "_law_ask"] ["_law_asks"] (defScope s_l_tries) := ⟨rfl, rfl, rfl, by decide +kernel, rfl, by decide +kernel, by decide +kernel⟩
theorem sc_l_divisor : FnScope ["_law_one", "_law_other"] ["_law_one", "_law_other"] (defScope s_l_divisor) := ⟨rfl, rfl, rfl, by decide +kernel, rfl, by decide +kernel, by decide +kernel⟩
theorem sc_l_ratio : FnScope ["_law_top", "_law_bottom", "_law_by"] ["_law_top", "_law_bottom"] (defScope s_l_ratio) := ⟨rfl, rfl, rfl, by decide +kernel, rfl, by decide +kernel, by decide +kernel⟩
theorem sc_l_plus : FnScope ["_law_one", "_law_other"] ["_law_one", "_law_other"] (defScope s_l_plus) := ⟨rfl, rfl, rfl, by decide +kernel, rfl, by decide +kernel, by decide +kernel⟩
theorem sc_l_times : FnScope ["_law_one", "_law_other"] ["_law_one", "_law_other"] (defScope s_l_times) := ⟨rfl, rfl, rfl, by decide +kernel, rfl, by decide +kernel, by decide +kernel⟩
theorem sc_l_over : FnScope ["_law_one", "_law_other"] ["_law_one", "_law_other"] (defScope s_l_over) := ⟨rfl, rfl, rfl, by decide +kernel, rfl, by decide +kernel, by decide +kernel⟩
theorem sc_l_amount : FnScope ["_law_rng"] ["_law_rng"] (defScope s_l_amount) := ⟨rfl, rfl, rfl, by decide +kernel, rfl, by decide +kernel, by decide +kernel⟩
theorem sc_l_far : FnScope ["_law_rng", "_law_near", "_law_top"] ["_law_rng"] (defScope s_l_far) := ⟨rfl, rfl, rfl, by decide +kernel, rfl, by decide +kernel, by decide +kernel⟩
theorem sc_l_names : FnScope ["_law_rng", "_law_many", "_law_abc", "_law_stem", "_law_at", "_law_first", "_law_k"] ["_law_rng", "_law_many"] (defScope s_l_names) := ⟨rfl, rfl, rfl, by decide +kernel, rfl, by decide +kernel, by decide +kernel⟩
theorem sc_l_undone : FnScope ["_law_change_here", "_law_by"] ["_law_change_here"] (defScope s_l_undone) := ⟨rfl, rfl, rfl, by decide +kernel, rfl, by decide +kernel, by decide +kernel⟩
theorem sc_l_change : FnScope ["_law_rng", "_law_scale", "_law_fac"] ["_law_rng", "_law_scale"] (defScope s_l_change) := ⟨rfl, rfl, rfl, by decide +kernel, rfl, by decide +kernel, by decide +kernel⟩
theorem sc_l_ready : FnScope ["_law_change_here"] ["_law_change_here"] (defScope s_l_ready) := ⟨rfl, rfl, rfl, by decide +kernel, rfl, by decide +kernel, by decide +kernel⟩
theorem sc_l_quantity : FnScope ["_law_kind", "_law_scale", "_law_one"] ["_law_kind", "_law_scale", "_law_one"] (defScope s_l_quantity) := ⟨rfl, rfl, rfl, by decide +kernel, rfl, by decide +kernel, by decide +kernel⟩
theorem sc_law : FnScope ["_law_script", "_law_rng", "_law_turn", "_law_names_here", "_law_rows", "_law_one", "_law_other", "_law_third", "_law_both", "_law_due", "_law_undone_here", "_law_kind", "_law_far_here", "_law_asks", "_law_given", "_law_k"] ["_law_script"] (defScope s_law) := ⟨rfl, rfl, rfl, by decide +kernel, rfl, by decide +kernel, by decide +kernel⟩
def d_LETTERS : D := (.str "abcdefghijklmnopqrstuvwxyz")
def d_MOST_LETTERS : D := (.int 8)
def d_ZERO : D := (.tup [(.int 0), (.int 1)])
def d_ONE : D := (.tup [(.int 1), (.int 1)])
def d_NO_TEXT : D := (.int 10000000000000000000000000000000000000000000000000000000000000000000000000000000000000000000000000000000000000000000000000000000000000000000000000000000000000000000000000000000000000000000000000000000000000000000000000000000000000000000000000000000000000000000000000000000000000000000000000000000000000000000000000000000000000000000000000000000000000000000000000000000000000000000000000000000000000000000000000000000000000000000000000000000000000000000000000000000000000000000000000000000000000000000000000000000000000000000000000000000000000000000000000000000000000000000000000000000000000000000000000000000000000000000000000000000000000000000000000000000000000000000000000000000000000000000000000000000000000000000000000000000000000000000000000000000000000000000000000000000000000000000000000000000000000000000000000000000000000000000000000000000000000000000000000000000000000000000000000000000000000000000000000000000000000000000000000000000000000000000000000000000000000000000000000000000000000000)
structure Tx (K : PySem.W.Frag) (mg : Str → Option Value) where
  v_LETTERS : V
  u_LETTERS : Value
  c_LETTERS : mg "LETTERS" = some u_LETTERS
  r_LETTERS : RelV v_LETTERS u_LETTERS
  w_LETTERS : Flat K (.str "abcdefghijklmnopqrstuvwxyz") v_LETTERS
  v_MOST_LETTERS : V
  u_MOST_LETTERS : Value
  c_MOST_LETTERS : mg "MOST_LETTERS" = some u_MOST_LETTERS
  r_MOST_LETTERS : RelV v_MOST_LETTERS u_MOST_LETTERS
  w_MOST_LETTERS : Flat K (.int 8) v_MOST_LETTERS
  v_ZERO : V
  u_ZERO : Value
  c_ZERO : mg "ZERO" = some u_ZERO
  r_ZERO : RelV v_ZERO u_ZERO
  w_ZERO : Flat K (.tup [(.int 0), (.int 1)]) v_ZERO
  v_ONE : V
  u_ONE : Value
  c_ONE : mg "ONE" = some u_ONE
  r_ONE : RelV v_ONE u_ONE
  w_ONE : Flat K (.tup [(.int 1), (.int 1)]) v_ONE
  v_NO_TEXT : V
  u_NO_TEXT : Value
  c_NO_TEXT : mg "NO_TEXT" = some u_NO_TEXT
  r_NO_TEXT : RelV v_NO_TEXT u_NO_TEXT
  w_NO_TEXT : Flat K (.int 10000000000000000000000000000000000000000000000000000000000000000000000000000000000000000000000000000000000000000000000000000000000000000000000000000000000000000000000000000000000000000000000000000000000000000000000000000000000000000000000000000000000000000000000000000000000000000000000000000000000000000000000000000000000000000000000000000000000000000000000000000000000000000000000000000000000000000000000000000000000000000000000000000000000000000000000000000000000000000000000000000000000000000000000000000000000000000000000000000000000000000000000000000000000000000000000000000000000000000000000000000000000000000000000000000000000000000000000000000000000000000000000000000000000000000000000000000000000000000000000000000000000000000000000000000000000000000000000000000000000000000000000000000000000000000000000000000000000000000000000000000000000000000000000000000000000000000000000000000000000000000000000000000000000000000000000000000000000000000000000000000000000000000000000000000000000000000) v_NO_TEXT
  f_wall : Addr
  fd_wall : FuncData
  g_wall : mg "_wall" = some (.ref f_wall)
  F_wall : Fun K "_wall" "_wall" s_wall f_wall fd_wall
  B_wall : Binds K fd_wall ["k"] []
  f_is_integer : Addr
  fd_is_integer : FuncData
  g_is_integer : mg "is_integer" = some (.ref f_is_integer)
  F_is_integer : Fun K "is_integer" "is_integer" s_is_integer f_is_integer fd_is_integer
  B_is_integer : Binds K fd_is_integer ["value"] []
  f_is_name : Addr
  fd_is_name : FuncData
  g_is_name : mg "is_name" = some (.ref f_is_name)
  F_is_name : Fun K "is_name" "is_name" s_is_name f_is_name fd_is_name
  B_is_name : Binds K fd_is_name ["value"] []
  f_common_divisor : Addr
  fd_common_divisor : FuncData
  g_common_divisor : mg "common_divisor" = some (.ref f_common_divisor)
  F_common_divisor : Fun K "common_divisor" "common_divisor" s_common_divisor f_common_divisor fd_common_divisor
  B_common_divisor : Binds K fd_common_divisor ["one", "other"] []
  f_amount : Addr
  fd_amount : FuncData
  g_amount : mg "amount" = some (.ref f_amount)
  dv0_amount : V
  dw0_amount : Flat K (.int 1) dv0_amount
  F_amount : FunD K "amount" "amount" (defArgs s_amount) (defBody s_amount) (defScope s_amount) [dv0_amount] [] f_amount fd_amount
  f_is_amount : Addr
  fd_is_amount : FuncData
  g_is_amount : mg "is_amount" = some (.ref f_is_amount)
  F_is_amount : Fun K "is_amount" "is_amount" s_is_amount f_is_amount fd_is_amount
  B_is_amount : Binds K fd_is_amount ["value"] []
  f_plus : Addr
  fd_plus : FuncData
  g_plus : mg "plus" = some (.ref f_plus)
  F_plus : Fun K "plus" "plus" s_plus f_plus fd_plus
  B_plus : Binds K fd_plus ["one", "other"] []
  f_minus : Addr
  fd_minus : FuncData
  g_minus : mg "minus" = some (.ref f_minus)
  F_minus : Fun K "minus" "minus" s_minus f_minus fd_minus
  B_minus : Binds K fd_minus ["one", "other"] []
  f_times : Addr
  fd_times : FuncData
  g_times : mg "times" = some (.ref f_times)
  F_times : Fun K "times" "times" s_times f_times fd_times
  B_times : Binds K fd_times ["one", "other"] []
  f_over : Addr
  fd_over : FuncData
  g_over : mg "over" = some (.ref f_over)
  F_over : Fun K "over" "over" s_over f_over fd_over
  B_over : Binds K fd_over ["one", "other"] []
  f_opposite : Addr
  fd_opposite : FuncData
  g_opposite : mg "opposite" = some (.ref f_opposite)
  F_opposite : Fun K "opposite" "opposite" s_opposite f_opposite fd_opposite
  B_opposite : Binds K fd_opposite ["one"] []
  f_sign : Addr
  fd_sign : FuncData
  g_sign : mg "sign" = some (.ref f_sign)
  F_sign : Fun K "sign" "sign" s_sign f_sign fd_sign
  B_sign : Binds K fd_sign ["one"] []
  f_amount_text : Addr
  fd_amount_text : FuncData
  g_amount_text : mg "amount_text" = some (.ref f_amount_text)
  F_amount_text : Fun K "amount_text" "amount_text" s_amount_text f_amount_text fd_amount_text
  B_amount_text : Binds K fd_amount_text ["one"] []
  f_need_scale : Addr
  fd_need_scale : FuncData
  g_need_scale : mg "need_scale" = some (.ref f_need_scale)
  F_need_scale : Fun K "need_scale" "need_scale" s_need_scale f_need_scale fd_need_scale
  B_need_scale : Binds K fd_need_scale ["one", "other"] []
  f_quantity_of : Addr
  fd_quantity_of : FuncData
  g_quantity_of : mg "quantity_of" = some (.ref f_quantity_of)
  F_quantity_of : Fun K "quantity_of" "quantity_of" s_quantity_of f_quantity_of fd_quantity_of
  B_quantity_of : Binds K fd_quantity_of ["kind", "scale", "amount"] []
  f_l_source : Addr
  fd_l_source : FuncData
  g_l_source : mg "_law_source" = some (.ref f_l_source)
  F_l_source : Fun K "_law_source" "_law_source" s_l_source f_l_source fd_l_source
  B_l_source : Binds K fd_l_source ["_law_script"] []
  f_l_draw : Addr
  fd_l_draw : FuncData
  g_l_draw : mg "_law_draw" = some (.ref f_l_draw)
  F_l_draw : Fun K "_law_draw" "_law_draw" s_l_draw f_l_draw fd_l_draw
  B_l_draw : Binds K fd_l_draw ["_law_rng", "_law_many"] []
  f_l_choice : Addr
  fd_l_choice : FuncData
  g_l_choice : mg "_law_choice" = some (.ref f_l_choice)
  F_l_choice : Fun K "_law_choice" "_law_choice" s_l_choice f_l_choice fd_l_choice
  B_l_choice : Binds K fd_l_choice ["_law_rng", "_law_some"] []
  f_l_same : Addr
  fd_l_same : FuncData
  g_l_same : mg "_law_same" = some (.ref f_l_same)
  F_l_same : Fun K "_law_same" "_law_same" s_l_same f_l_same fd_l_same
  B_l_same : Binds K fd_l_same ["_law_result", "_law_expected"] []
  f_l_field : Addr
  fd_l_field : FuncData
  g_l_field : mg "_law_field" = some (.ref f_l_field)
  F_l_field : Fun K "_law_field" "_law_field" s_l_field f_l_field fd_l_field
  B_l_field : Binds K fd_l_field ["_law_e"] []
  f_l_try : Addr
  fd_l_try : FuncData
  g_l_try : mg "_law_try" = some (.ref f_l_try)
  F_l_try : Fun K "_law_try" "_law_try" s_l_try f_l_try fd_l_try
  B_l_try : Binds K fd_l_try ["_law_ask"] []
  f_l_tries : Addr
  fd_l_tries : FuncData
  g_l_tries : mg "_law_tries" = some (.ref f_l_tries)
  F_l_tries : Fun K "_law_tries" "_law_tries" s_l_tries f_l_tries fd_l_tries
  B_l_tries : Binds K fd_l_tries ["_law_asks"] []
  f_l_divisor : Addr
  fd_l_divisor : FuncData
  g_l_divisor : mg "_law_divisor" = some (.ref f_l_divisor)
  F_l_divisor : Fun K "_law_divisor" "_law_divisor" s_l_divisor f_l_divisor fd_l_divisor
  B_l_divisor : Binds K fd_l_divisor ["_law_one", "_law_other"] []
  f_l_ratio : Addr
  fd_l_ratio : FuncData
  g_l_ratio : mg "_law_ratio" = some (.ref f_l_ratio)
  F_l_ratio : Fun K "_law_ratio" "_law_ratio" s_l_ratio f_l_ratio fd_l_ratio
  B_l_ratio : Binds K fd_l_ratio ["_law_top", "_law_bottom"] []
  f_l_plus : Addr
  fd_l_plus : FuncData
  g_l_plus : mg "_law_plus" = some (.ref f_l_plus)
  F_l_plus : Fun K "_law_plus" "_law_plus" s_l_plus f_l_plus fd_l_plus
  B_l_plus : Binds K fd_l_plus ["_law_one", "_law_other"] []
  f_l_times : Addr
  fd_l_times : FuncData
  g_l_times : mg "_law_times" = some (.ref f_l_times)
  F_l_times : Fun K "_law_times" "_law_times" s_l_times f_l_times fd_l_times
  B_l_times : Binds K fd_l_times ["_law_one", "_law_other"] []
  f_l_over : Addr
  fd_l_over : FuncData
  g_l_over : mg "_law_over" = some (.ref f_l_over)
  F_l_over : Fun K "_law_over" "_law_over" s_l_over f_l_over fd_l_over
  B_l_over : Binds K fd_l_over ["_law_one", "_law_other"] []
  f_l_amount : Addr
  fd_l_amount : FuncData
  g_l_amount : mg "_law_amount" = some (.ref f_l_amount)
  F_l_amount : Fun K "_law_amount" "_law_amount" s_l_amount f_l_amount fd_l_amount
  B_l_amount : Binds K fd_l_amount ["_law_rng"] []
  f_l_far : Addr
  fd_l_far : FuncData
  g_l_far : mg "_law_far" = some (.ref f_l_far)
  F_l_far : Fun K "_law_far" "_law_far" s_l_far f_l_far fd_l_far
  B_l_far : Binds K fd_l_far ["_law_rng"] []
  f_l_names : Addr
  fd_l_names : FuncData
  g_l_names : mg "_law_names" = some (.ref f_l_names)
  F_l_names : Fun K "_law_names" "_law_names" s_l_names f_l_names fd_l_names
  B_l_names : Binds K fd_l_names ["_law_rng", "_law_many"] []
  f_l_undone : Addr
  fd_l_undone : FuncData
  g_l_undone : mg "_law_undone" = some (.ref f_l_undone)
  F_l_undone : Fun K "_law_undone" "_law_undone" s_l_undone f_l_undone fd_l_undone
  B_l_undone : Binds K fd_l_undone ["_law_change_here"] []
  f_l_change : Addr
  fd_l_change : FuncData
  g_l_change : mg "_law_change" = some (.ref f_l_change)
  F_l_change : Fun K "_law_change" "_law_change" s_l_change f_l_change fd_l_change
  B_l_change : Binds K fd_l_change ["_law_rng", "_law_scale"] []
  f_l_ready : Addr
  fd_l_ready : FuncData
  g_l_ready : mg "_law_ready" = some (.ref f_l_ready)
  F_l_ready : Fun K "_law_ready" "_law_ready" s_l_ready f_l_ready fd_l_ready
  B_l_ready : Binds K fd_l_ready ["_law_change_here"] []
  f_l_quantity : Addr
  fd_l_quantity : FuncData
  g_l_quantity : mg "_law_quantity" = some (.ref f_l_quantity)
  F_l_quantity : Fun K "_law_quantity" "_law_quantity" s_l_quantity f_l_quantity fd_l_quantity
  B_l_quantity : Binds K fd_l_quantity ["_law_kind", "_law_scale", "_law_one"] []
  f_law : Addr
  fd_law : FuncData
  g_law : mg "law" = some (.ref f_law)
  F_law : Fun K "law" "law" s_law f_law fd_law
  B_law : Binds K fd_law ["_law_script"] []
  n_abs : mg "abs" = none
  n_all : mg "all" = none
  n_bool : mg "bool" = none
  n_int : mg "int" = none
  n_isinstance : mg "isinstance" = none
  n_len : mg "len" = none
  n_list : mg "list" = none
  n_property : mg "property" = none
  n_range : mg "range" = none
  n_staticmethod : mg "staticmethod" = none
  n_str : mg "str" = none
  n_tuple : mg "tuple" = none
  n_zip : mg "zip" = none
  C_InvalidAmount : Addr
  gC_InvalidAmount : mg "InvalidAmount" = some (.ref C_InvalidAmount)
  f_InvalidAmount___init__ : Addr
  fd_InvalidAmount___init__ : FuncData
  F_InvalidAmount___init__ : Fun K "__init__" "InvalidAmount.__init__" s_InvalidAmount___init__ f_InvalidAmount___init__ fd_InvalidAmount___init__
  B_InvalidAmount___init__ : Binds K fd_InvalidAmount___init__ ["self", "given"] []
  ox_InvalidAmount : OexC K C_InvalidAmount
  oi_InvalidAmount : PySem.W.findIn K (.ref C_InvalidAmount) "__init__" = some (some (.ref f_InvalidAmount___init__))
  ot_InvalidAmount : PySem.W.typeIn K (.ref f_InvalidAmount___init__) = some (.type "function")
  ex_InvalidAmount : ExcK K C_InvalidAmount
  C_ScaleError : Addr
  gC_ScaleError : mg "ScaleError" = some (.ref C_ScaleError)
  C_Missing : Addr
  gC_Missing : mg "Missing" = some (.ref C_Missing)
  C_NothingLeft : Addr
  gC_NothingLeft : mg "NothingLeft" = some (.ref C_NothingLeft)
  em_InvalidAmount : PySem.W.exmAny K (.ref C_InvalidAmount) [.ref C_ScaleError, .ref C_Missing, .ref C_NothingLeft] = some true
  si_ScaleError : ScI K C_ScaleError
  C_InvalidName : Addr
  gC_InvalidName : mg "InvalidName" = some (.ref C_InvalidName)
  f_InvalidName___init__ : Addr
  fd_InvalidName___init__ : FuncData
  F_InvalidName___init__ : Fun K "__init__" "InvalidName.__init__" s_InvalidName___init__ f_InvalidName___init__ fd_InvalidName___init__
  B_InvalidName___init__ : Binds K fd_InvalidName___init__ ["self", "given"] []
  ox_InvalidName : OexC K C_InvalidName
  oi_InvalidName : PySem.W.findIn K (.ref C_InvalidName) "__init__" = some (some (.ref f_InvalidName___init__))
  ot_InvalidName : PySem.W.typeIn K (.ref f_InvalidName___init__) = some (.type "function")
  ex_InvalidName : ExcK K C_InvalidName
  em_InvalidName : PySem.W.exmAny K (.ref C_InvalidName) [.ref C_ScaleError, .ref C_Missing, .ref C_NothingLeft] = some true
  C_ScalesDiffer : Addr
  gC_ScalesDiffer : mg "ScalesDiffer" = some (.ref C_ScalesDiffer)
  f_ScalesDiffer___init__ : Addr
  fd_ScalesDiffer___init__ : FuncData
  F_ScalesDiffer___init__ : Fun K "__init__" "ScalesDiffer.__init__" s_ScalesDiffer___init__ f_ScalesDiffer___init__ fd_ScalesDiffer___init__
  B_ScalesDiffer___init__ : Binds K fd_ScalesDiffer___init__ ["self", "one", "other"] []
  ox_ScalesDiffer : OexC K C_ScalesDiffer
  oi_ScalesDiffer : PySem.W.findIn K (.ref C_ScalesDiffer) "__init__" = some (some (.ref f_ScalesDiffer___init__))
  ot_ScalesDiffer : PySem.W.typeIn K (.ref f_ScalesDiffer___init__) = some (.type "function")
  ex_ScalesDiffer : ExcK K C_ScalesDiffer
  em_ScalesDiffer : PySem.W.exmAny K (.ref C_ScalesDiffer) [.ref C_ScaleError, .ref C_Missing, .ref C_NothingLeft] = some true
  C_Change : Addr
  gC_Change : mg "Change" = some (.ref C_Change)
  f_Change___init__ : Addr
  fd_Change___init__ : FuncData
  kv0_Change___init__ : V
  kw0_Change___init__ : Flat K (.tup [(.int 1), (.int 1)]) kv0_Change___init__
  kv1_Change___init__ : V
  kw1_Change___init__ : Flat K (.tup [(.int 0), (.int 1)]) kv1_Change___init__
  F_Change___init__ : FunD K "__init__" "Change.__init__" (defArgs s_Change___init__) (defBody s_Change___init__) (defScope s_Change___init__) [] [("factor", kv0_Change___init__), ("shift", kv1_Change___init__)] f_Change___init__ fd_Change___init__
  C_Quantity : Addr
  gC_Quantity : mg "Quantity" = some (.ref C_Quantity)
  cl_Quantity : Cls K C_Quantity
  na_Quantity_scale : NoAttr K C_Quantity "scale"
  C_Reading : Addr
  gC_Reading : mg "Reading" = some (.ref C_Reading)
  cl_Reading : Cls K C_Reading
  na_Reading_scale : NoAttr K C_Reading "scale"
  C_Span : Addr
  gC_Span : mg "Span" = some (.ref C_Span)
  cl_Span : Cls K C_Span
  na_Span_scale : NoAttr K C_Span "scale"
  cl_Change : Cls K C_Change
  na_Change_scale : NoAttr K C_Change "scale"
  na_Change_factor : NoAttr K C_Change "factor"
  na_Change_shift : NoAttr K C_Change "shift"
  pa_Change_is_still : Addr
  f_Change_is_still : Addr
  fd_Change_is_still : FuncData
  F_Change_is_still : Fun K "is_still" "Change.is_still" s_Change_is_still f_Change_is_still fd_Change_is_still
  B_Change_is_still : Binds K fd_Change_is_still ["self"] []
  f_Quantity___init__ : Addr
  fd_Quantity___init__ : FuncData
  F_Quantity___init__ : Fun K "__init__" "Quantity.__init__" s_Quantity___init__ f_Quantity___init__ fd_Quantity___init__
  B_Quantity___init__ : Binds K fd_Quantity___init__ ["self", "scale", "amount"] []
  na_Quantity_amount : NoAttr K C_Quantity "amount"
  na_Reading_amount : NoAttr K C_Reading "amount"
  na_Span_amount : NoAttr K C_Span "amount"
  f_Quantity___eq__ : Addr
  fd_Quantity___eq__ : FuncData
  F_Quantity___eq__ : Fun K "__eq__" "Quantity.__eq__" s_Quantity___eq__ f_Quantity___eq__ fd_Quantity___eq__
  B_Quantity___eq__ : Binds K fd_Quantity___eq__ ["self", "other"] []
  is_Quantity : IsC K C_Quantity
  ki_Quantity_Quantity : PySem.W.kitOne K (.ref C_Quantity) (.ref C_Quantity) = some true
  is_Reading : IsC K C_Reading
  ki_Reading_Quantity : PySem.W.kitOne K (.ref C_Reading) (.ref C_Quantity) = some true
  is_Span : IsC K C_Span
  ki_Span_Quantity : PySem.W.kitOne K (.ref C_Span) (.ref C_Quantity) = some true
  is_Change : IsC K C_Change
  ki_Change_Quantity : PySem.W.kitOne K (.ref C_Change) (.ref C_Quantity) = some false
  ki_NoneType_Quantity : PySem.W.kitOne K (.type "NoneType") (.ref C_Quantity) = some false
  ki_bool_Quantity : PySem.W.kitOne K (.type "bool") (.ref C_Quantity) = some false
  ki_int_Quantity : PySem.W.kitOne K (.type "int") (.ref C_Quantity) = some false
  ki_str_Quantity : PySem.W.kitOne K (.type "str") (.ref C_Quantity) = some false
  ki_tuple_Quantity : PySem.W.kitOne K (.type "tuple") (.ref C_Quantity) = some false
  ki_list_Quantity : PySem.W.kitOne K (.type "list") (.ref C_Quantity) = some false
  cn_Quantity_KIND : ∃ v u, Con K C_Quantity "KIND" v u ∧ Flat K (.str "quantity") v
  cn_Reading_KIND : ∃ v u, Con K C_Reading "KIND" v u ∧ Flat K (.str "reading") v
  cn_Span_KIND : ∃ v u, Con K C_Span "KIND" v u ∧ Flat K (.str "span") v
  mk_Quantity : Mk K C_Quantity f_Quantity___init__
  mk_Reading : Mk K C_Reading f_Quantity___init__
  mk_Span : Mk K C_Span f_Quantity___init__
  f_Change_led : Addr
  fd_Change_led : FuncData
  F_Change_led : Fun K "led" "Change.led" s_Change_led f_Change_led fd_Change_led
  B_Change_led : Binds K fd_Change_led ["self", "kind", "amount"] []
  f_Change___call__ : Addr
  fd_Change___call__ : FuncData
  F_Change___call__ : Fun K "__call__" "Change.__call__" s_Change___call__ f_Change___call__ fd_Change___call__
  B_Change___call__ : Binds K fd_Change___call__ ["self", "quantity"] []
  me_Change_led : Meth K C_Change "led" f_Change_led
  f_Change___eq__ : Addr
  fd_Change___eq__ : FuncData
  F_Change___eq__ : Fun K "__eq__" "Change.__eq__" s_Change___eq__ f_Change___eq__ fd_Change___eq__
  B_Change___eq__ : Binds K fd_Change___eq__ ["self", "other"] []
  ki_Quantity_Change : PySem.W.kitOne K (.ref C_Quantity) (.ref C_Change) = some false
  ki_Reading_Change : PySem.W.kitOne K (.ref C_Reading) (.ref C_Change) = some false
  ki_Span_Change : PySem.W.kitOne K (.ref C_Span) (.ref C_Change) = some false
  ki_Change_Change : PySem.W.kitOne K (.ref C_Change) (.ref C_Change) = some true
  ki_NoneType_Change : PySem.W.kitOne K (.type "NoneType") (.ref C_Change) = some false
  ki_bool_Change : PySem.W.kitOne K (.type "bool") (.ref C_Change) = some false
  ki_int_Change : PySem.W.kitOne K (.type "int") (.ref C_Change) = some false
  ki_str_Change : PySem.W.kitOne K (.type "str") (.ref C_Change) = some false
  ki_tuple_Change : PySem.W.kitOne K (.type "tuple") (.ref C_Change) = some false
  ki_list_Change : PySem.W.kitOne K (.type "list") (.ref C_Change) = some false
  f_Change___mul__ : Addr
  fd_Change___mul__ : FuncData
  F_Change___mul__ : Fun K "__mul__" "Change.__mul__" s_Change___mul__ f_Change___mul__ fd_Change___mul__
  B_Change___mul__ : Binds K fd_Change___mul__ ["self", "other"] []
  mk_Change : Mk K C_Change f_Change___init__
  f_Change___neg__ : Addr
  fd_Change___neg__ : FuncData
  F_Change___neg__ : Fun K "__neg__" "Change.__neg__" s_Change___neg__ f_Change___neg__ fd_Change___neg__
  B_Change___neg__ : Binds K fd_Change___neg__ ["self"] []
  bc_Change_Mult : BinC K .Mult C_Change
  bd_Change_Mult : PySem.W.findIn K (.ref C_Change) (PySem.dunder (Operator.info .Mult).2) = some (some (.ref f_Change___mul__)) ∧ PySem.W.isFn K (.ref f_Change___mul__) = true
  sp_Change___neg__ : PySem.W.findIn K (.ref C_Change) "__neg__" = some (some (.ref f_Change___neg__)) ∧ PySem.W.isFn K (.ref f_Change___neg__) = true
  sp_Change___eq__ : PySem.W.findIn K (.ref C_Change) "__eq__" = some (some (.ref f_Change___eq__)) ∧ PySem.W.isFn K (.ref f_Change___eq__) = true
  eq_Change : EqC K C_Change
  sp_Reading___eq__ : PySem.W.findIn K (.ref C_Reading) "__eq__" = some (some (.ref f_Quantity___eq__)) ∧ PySem.W.isFn K (.ref f_Quantity___eq__) = true
  eq_Reading : EqC K C_Reading
  sp_Span___eq__ : PySem.W.findIn K (.ref C_Span) "__eq__" = some (some (.ref f_Quantity___eq__)) ∧ PySem.W.isFn K (.ref f_Quantity___eq__) = true
  eq_Span : EqC K C_Span
  nf_Change_Change : PySem.W.notFirst K C_Change (.ref C_Change) = true
  nf_Reading_Reading : PySem.W.notFirst K C_Reading (.ref C_Reading) = true
  nf_Span_Span : PySem.W.notFirst K C_Span (.ref C_Span) = true
  pr_Change_is_still : PropOf K C_Change "is_still" pa_Change_is_still f_Change_is_still
  co_Change : StX.CallO K C_Change f_Change___call__
theorem fl_scale {K : PySem.W.Frag} {mg : Str → Option Value} (T : Tx K mg) : ∀ C ∈ [T.C_Quantity, T.C_Reading, T.C_Span, T.C_Change], Cls K C ∧ NoAttr K C "scale" := List.forall_mem_cons.mpr ⟨⟨T.cl_Quantity, T.na_Quantity_scale⟩, List.forall_mem_cons.mpr ⟨⟨T.cl_Reading, T.na_Reading_scale⟩, List.forall_mem_cons.mpr ⟨⟨T.cl_Span, T.na_Span_scale⟩, List.forall_mem_cons.mpr ⟨⟨T.cl_Change, T.na_Change_scale⟩, List.forall_mem_nil _⟩⟩⟩⟩
theorem fl_factor {K : PySem.W.Frag} {mg : Str → Option Value} (T : Tx K mg) : ∀ C ∈ [T.C_Change], Cls K C ∧ NoAttr K C "factor" := List.forall_mem_cons.mpr ⟨⟨T.cl_Change, T.na_Change_factor⟩, List.forall_mem_nil _⟩
theorem fl_shift {K : PySem.W.Frag} {mg : Str → Option Value} (T : Tx K mg) : ∀ C ∈ [T.C_Change], Cls K C ∧ NoAttr K C "shift" := List.forall_mem_cons.mpr ⟨⟨T.cl_Change, T.na_Change_shift⟩, List.forall_mem_nil _⟩
theorem fl_amount {K : PySem.W.Frag} {mg : Str → Option Value} (T : Tx K mg) : ∀ C ∈ [T.C_Quantity, T.C_Reading, T.C_Span], Cls K C ∧ NoAttr K C "amount" := List.forall_mem_cons.mpr ⟨⟨T.cl_Quantity, T.na_Quantity_amount⟩, List.forall_mem_cons.mpr ⟨⟨T.cl_Reading, T.na_Reading_amount⟩, List.forall_mem_cons.mpr ⟨⟨T.cl_Span, T.na_Span_amount⟩, List.forall_mem_nil _⟩⟩⟩
theorem isi_Quantity {K : PySem.W.Frag} {mg : Str → Option Value} (T : Tx K mg) : (∀ q ∈ [(T.C_Quantity, true), (T.C_Reading, true), (T.C_Span, true), (T.C_Change, false)], IsC K q.1 ∧ PySem.W.kitOne K (.ref q.1) (.ref T.C_Quantity) = some q.2) ∧ ∀ t ∈ ["NoneType", "bool", "int", "str", "tuple", "list"], PySem.W.kitOne K (.type t) (.ref T.C_Quantity) = some false := ⟨List.forall_mem_cons.mpr ⟨⟨T.is_Quantity, T.ki_Quantity_Quantity⟩, List.forall_mem_cons.mpr ⟨⟨T.is_Reading, T.ki_Reading_Quantity⟩, List.forall_mem_cons.mpr ⟨⟨T.is_Span, T.ki_Span_Quantity⟩, List.forall_mem_cons.mpr ⟨⟨T.is_Change, T.ki_Change_Quantity⟩, List.forall_mem_nil _⟩⟩⟩⟩, List.forall_mem_cons.mpr ⟨T.ki_NoneType_Quantity, List.forall_mem_cons.mpr ⟨T.ki_bool_Quantity, List.forall_mem_cons.mpr ⟨T.ki_int_Quantity, List.forall_mem_cons.mpr ⟨T.ki_str_Quantity, List.forall_mem_cons.mpr ⟨T.ki_tuple_Quantity, List.forall_mem_cons.mpr ⟨T.ki_list_Quantity, List.forall_mem_nil _⟩⟩⟩⟩⟩⟩⟩
theorem cn_KIND {K : PySem.W.Frag} {mg : Str → Option Value} (T : Tx K mg) : ∀ q ∈ [(T.C_Quantity, (.str "quantity")), (T.C_Reading, (.str "reading")), (T.C_Span, (.str "span"))], Cls K q.1 ∧ ∃ v u, Con K q.1 "KIND" v u ∧ Flat K q.2 v := List.forall_mem_cons.mpr ⟨⟨T.cl_Quantity, T.cn_Quantity_KIND⟩, List.forall_mem_cons.mpr ⟨⟨T.cl_Reading, T.cn_Reading_KIND⟩, List.forall_mem_cons.mpr ⟨⟨T.cl_Span, T.cn_Span_KIND⟩, List.forall_mem_nil _⟩⟩⟩
theorem me_led {K : PySem.W.Frag} {mg : Str → Option Value} (T : Tx K mg) : ∀ C ∈ [T.C_Change], Cls K C ∧ Meth K C "led" T.f_Change_led := List.forall_mem_cons.mpr ⟨⟨T.cl_Change, T.me_Change_led⟩, List.forall_mem_nil _⟩
theorem isi_Change {K : PySem.W.Frag} {mg : Str → Option Value} (T : Tx K mg) : (∀ q ∈ [(T.C_Quantity, false), (T.C_Reading, false), (T.C_Span, false), (T.C_Change, true)], IsC K q.1 ∧ PySem.W.kitOne K (.ref q.1) (.ref T.C_Change) = some q.2) ∧ ∀ t ∈ ["NoneType", "bool", "int", "str", "tuple", "list"], PySem.W.kitOne K (.type t) (.ref T.C_Change) = some false := ⟨List.forall_mem_cons.mpr ⟨⟨T.is_Quantity, T.ki_Quantity_Change⟩, List.forall_mem_cons.mpr ⟨⟨T.is_Reading, T.ki_Reading_Change⟩, List.forall_mem_cons.mpr ⟨⟨T.is_Span, T.ki_Span_Change⟩, List.forall_mem_cons.mpr ⟨⟨T.is_Change, T.ki_Change_Change⟩, List.forall_mem_nil _⟩⟩⟩⟩, List.forall_mem_cons.mpr ⟨T.ki_NoneType_Change, List.forall_mem_cons.mpr ⟨T.ki_bool_Change, List.forall_mem_cons.mpr ⟨T.ki_int_Change, List.forall_mem_cons.mpr ⟨T.ki_str_Change, List.forall_mem_cons.mpr ⟨T.ki_tuple_Change, List.forall_mem_cons.mpr ⟨T.ki_list_Change, List.forall_mem_nil _⟩⟩⟩⟩⟩⟩⟩
theorem pr_is_still {K : PySem.W.Frag} {mg : Str → Option Value} (T : Tx K mg) : ∀ C ∈ [T.C_Change], Cls K C ∧ PropOf K C "is_still" T.pa_Change_is_still T.f_Change_is_still := List.forall_mem_cons.mpr ⟨⟨T.cl_Change, T.pr_Change_is_still⟩, List.forall_mem_nil _⟩
def tx_mk {K : PySem.W.Frag} {h : Heap} {mg : Str → Option Value} (X : K.In h) (G : h.Ns mainGlobals mg)
    {C0U : Value}
    {C1U : Value}
    {C2U : Value}
    {C2A : Addr} {C2q : Option Addr} {C2n : Nat} {C2s : Array (Option Value)}
    {C2u0 C2u1 : Value}
    {C3U : Value}
    {C3A : Addr} {C3q : Option Addr} {C3n : Nat} {C3s : Array (Option Value)}
    {C3u0 C3u1 : Value}
    {C4U : Value}
    {f0 : Addr} {od0 an0 : Option Addr} {sl0 : Array (Option Value)} {oc0 kV0 dc0 pm0 cd0 ct0 : Value}
    {f1 : Addr} {od1 an1 : Option Addr} {sl1 : Array (Option Value)} {oc1 kV1 dc1 pm1 cd1 ct1 : Value}
    {f2 : Addr} {od2 an2 : Option Addr} {sl2 : Array (Option Value)} {oc2 kV2 dc2 pm2 cd2 ct2 : Value}
    {f3 : Addr} {od3 an3 : Option Addr} {sl3 : Array (Option Value)} {oc3 kV3 dc3 pm3 cd3 ct3 : Value}
    {f4 : Addr} {od4 an4 : Option Addr} {sl4 : Array (Option Value)} {oc4 kV4 dc4 pm4 cd4 ct4 : Value}
    {dV4 : Value}
    {dT4 : Addr} {dc_4 : Value} {dq4 : Option Addr} {dn4 : Nat} {ds4 : Array (Option Value)} {dU4_0 : Value}
    {f5 : Addr} {od5 an5 : Option Addr} {sl5 : Array (Option Value)} {oc5 kV5 dc5 pm5 cd5 ct5 : Value}
    {f6 : Addr} {od6 an6 : Option Addr} {sl6 : Array (Option Value)} {oc6 kV6 dc6 pm6 cd6 ct6 : Value}
    {f7 : Addr} {od7 an7 : Option Addr} {sl7 : Array (Option Value)} {oc7 kV7 dc7 pm7 cd7 ct7 : Value}
    {f8 : Addr} {od8 an8 : Option Addr} {sl8 : Array (Option Value)} {oc8 kV8 dc8 pm8 cd8 ct8 : Value}
    {f9 : Addr} {od9 an9 : Option Addr} {sl9 : Array (Option Value)} {oc9 kV9 dc9 pm9 cd9 ct9 : Value}
    {f10 : Addr} {od10 an10 : Option Addr} {sl10 : Array (Option Value)} {oc10 kV10 dc10 pm10 cd10 ct10 : Value}
    {f11 : Addr} {od11 an11 : Option Addr} {sl11 : Array (Option Value)} {oc11 kV11 dc11 pm11 cd11 ct11 : Value}
    {f12 : Addr} {od12 an12 : Option Addr} {sl12 : Array (Option Value)} {oc12 kV12 dc12 pm12 cd12 ct12 : Value}
    {f13 : Addr} {od13 an13 : Option Addr} {sl13 : Array (Option Value)} {oc13 kV13 dc13 pm13 cd13 ct13 : Value}
    {f14 : Addr} {od14 an14 : Option Addr} {sl14 : Array (Option Value)} {oc14 kV14 dc14 pm14 cd14 ct14 : Value}
    {f15 : Addr} {od15 an15 : Option Addr} {sl15 : Array (Option Value)} {oc15 kV15 dc15 pm15 cd15 ct15 : Value}
    {f16 : Addr} {od16 an16 : Option Addr} {sl16 : Array (Option Value)} {oc16 kV16 dc16 pm16 cd16 ct16 : Value}
    {f17 : Addr} {od17 an17 : Option Addr} {sl17 : Array (Option Value)} {oc17 kV17 dc17 pm17 cd17 ct17 : Value}
    {f18 : Addr} {od18 an18 : Option Addr} {sl18 : Array (Option Value)} {oc18 kV18 dc18 pm18 cd18 ct18 : Value}
    {f19 : Addr} {od19 an19 : Option Addr} {sl19 : Array (Option Value)} {oc19 kV19 dc19 pm19 cd19 ct19 : Value}
    {f20 : Addr} {od20 an20 : Option Addr} {sl20 : Array (Option Value)} {oc20 kV20 dc20 pm20 cd20 ct20 : Value}
    {f21 : Addr} {od21 an21 : Option Addr} {sl21 : Array (Option Value)} {oc21 kV21 dc21 pm21 cd21 ct21 : Value}
    {f22 : Addr} {od22 an22 : Option Addr} {sl22 : Array (Option Value)} {oc22 kV22 dc22 pm22 cd22 ct22 : Value}
    {f23 : Addr} {od23 an23 : Option Addr} {sl23 : Array (Option Value)} {oc23 kV23 dc23 pm23 cd23 ct23 : Value}
    {f24 : Addr} {od24 an24 : Option Addr} {sl24 : Array (Option Value)} {oc24 kV24 dc24 pm24 cd24 ct24 : Value}
    {f25 : Addr} {od25 an25 : Option Addr} {sl25 : Array (Option Value)} {oc25 kV25 dc25 pm25 cd25 ct25 : Value}
    {f26 : Addr} {od26 an26 : Option Addr} {sl26 : Array (Option Value)} {oc26 kV26 dc26 pm26 cd26 ct26 : Value}
    {f27 : Addr} {od27 an27 : Option Addr} {sl27 : Array (Option Value)} {oc27 kV27 dc27 pm27 cd27 ct27 : Value}
    {f28 : Addr} {od28 an28 : Option Addr} {sl28 : Array (Option Value)} {oc28 kV28 dc28 pm28 cd28 ct28 : Value}
    {f29 : Addr} {od29 an29 : Option Addr} {sl29 : Array (Option Value)} {oc29 kV29 dc29 pm29 cd29 ct29 : Value}
    {f30 : Addr} {od30 an30 : Option Addr} {sl30 : Array (Option Value)} {oc30 kV30 dc30 pm30 cd30 ct30 : Value}
    {f31 : Addr} {od31 an31 : Option Addr} {sl31 : Array (Option Value)} {oc31 kV31 dc31 pm31 cd31 ct31 : Value}
    {f32 : Addr} {od32 an32 : Option Addr} {sl32 : Array (Option Value)} {oc32 kV32 dc32 pm32 cd32 ct32 : Value}
    {f33 : Addr} {od33 an33 : Option Addr} {sl33 : Array (Option Value)} {oc33 kV33 dc33 pm33 cd33 ct33 : Value}
    {f34 : Addr} {od34 an34 : Option Addr} {sl34 : Array (Option Value)} {oc34 kV34 dc34 pm34 cd34 ct34 : Value}
    {hC_InvalidAmount : Addr}
    {hf_InvalidAmount___init__ : Addr} {odm_InvalidAmount___init__ anm_InvalidAmount___init__ : Option Addr} {slm_InvalidAmount___init__ : Array (Option Value)} {ocm_InvalidAmount___init__ kVm_InvalidAmount___init__ dcm_InvalidAmount___init__ pmm_InvalidAmount___init__ cdm_InvalidAmount___init__ ctm_InvalidAmount___init__ : Value}
    {hx_InvalidAmountn hx_InvalidAmountq : Str} {hx_InvalidAmountN : Addr} {hx_InvalidAmountb hx_InvalidAmountm : List Value} {hx_InvalidAmounts : List Str} {hx_InvalidAmountu : List Value} {hx_InvalidAmounta : Bool} {hx_InvalidAmountc : Option Bool} {hx_InvalidAmountd : Option Addr} {hx_InvalidAmount0 hx_InvalidAmount1 hx_InvalidAmount2 hx_InvalidAmount3 hx_InvalidAmount5 : Option Value}
    {hC_ScaleError : Addr}
    {hC_Missing : Addr}
    {hC_NothingLeft : Addr}
    {hC_InvalidName : Addr}
    {hf_InvalidName___init__ : Addr} {odm_InvalidName___init__ anm_InvalidName___init__ : Option Addr} {slm_InvalidName___init__ : Array (Option Value)} {ocm_InvalidName___init__ kVm_InvalidName___init__ dcm_InvalidName___init__ pmm_InvalidName___init__ cdm_InvalidName___init__ ctm_InvalidName___init__ : Value}
    {hx_InvalidNamen hx_InvalidNameq : Str} {hx_InvalidNameN : Addr} {hx_InvalidNameb hx_InvalidNamem : List Value} {hx_InvalidNames : List Str} {hx_InvalidNameu : List Value} {hx_InvalidNamea : Bool} {hx_InvalidNamec : Option Bool} {hx_InvalidNamed : Option Addr} {hx_InvalidName0 hx_InvalidName1 hx_InvalidName2 hx_InvalidName3 hx_InvalidName5 : Option Value}
    {hC_ScalesDiffer : Addr}
    {hf_ScalesDiffer___init__ : Addr} {odm_ScalesDiffer___init__ anm_ScalesDiffer___init__ : Option Addr} {slm_ScalesDiffer___init__ : Array (Option Value)} {ocm_ScalesDiffer___init__ kVm_ScalesDiffer___init__ dcm_ScalesDiffer___init__ pmm_ScalesDiffer___init__ cdm_ScalesDiffer___init__ ctm_ScalesDiffer___init__ : Value}
    {hx_ScalesDiffern hx_ScalesDifferq : Str} {hx_ScalesDifferN : Addr} {hx_ScalesDifferb hx_ScalesDifferm : List Value} {hx_ScalesDiffers : List Str} {hx_ScalesDifferu : List Value} {hx_ScalesDiffera : Bool} {hx_ScalesDifferc : Option Bool} {hx_ScalesDifferd : Option Addr} {hx_ScalesDiffer0 hx_ScalesDiffer1 hx_ScalesDiffer2 hx_ScalesDiffer3 hx_ScalesDiffer5 : Option Value}
    {hC_Change : Addr}
    {hf_Change___init__ : Addr} {odm_Change___init__ anm_Change___init__ : Option Addr} {slm_Change___init__ : Array (Option Value)} {ocm_Change___init__ kVm_Change___init__ dcm_Change___init__ pmm_Change___init__ cdm_Change___init__ ctm_Change___init__ : Value} {kDm_Change___init__ : Addr} {kUm_Change___init___0 : Value} {km_Change___init___0A : Addr} {km_Change___init___0q : Option Addr} {km_Change___init___0n : Nat} {km_Change___init___0s : Array (Option Value)} {km_Change___init___0u0 km_Change___init___0u1 : Value} {kUm_Change___init___1 : Value} {km_Change___init___1A : Addr} {km_Change___init___1q : Option Addr} {km_Change___init___1n : Nat} {km_Change___init___1s : Array (Option Value)} {km_Change___init___1u0 km_Change___init___1u1 : Value}
    {hC_Quantity : Addr}
    {hC_Reading : Addr}
    {hC_Span : Addr}
    {hpa_Change_is_still : Addr} {hrs_Change_is_still : List Value} {hf_Change_is_still : Addr} {odm_Change_is_still anm_Change_is_still : Option Addr} {slm_Change_is_still : Array (Option Value)} {ocm_Change_is_still kVm_Change_is_still dcm_Change_is_still pmm_Change_is_still cdm_Change_is_still ctm_Change_is_still : Value}
    {hf_Quantity___init__ : Addr} {odm_Quantity___init__ anm_Quantity___init__ : Option Addr} {slm_Quantity___init__ : Array (Option Value)} {ocm_Quantity___init__ kVm_Quantity___init__ dcm_Quantity___init__ pmm_Quantity___init__ cdm_Quantity___init__ ctm_Quantity___init__ : Value}
    {hf_Quantity___eq__ : Addr} {odm_Quantity___eq__ anm_Quantity___eq__ : Option Addr} {slm_Quantity___eq__ : Array (Option Value)} {ocm_Quantity___eq__ kVm_Quantity___eq__ dcm_Quantity___eq__ pmm_Quantity___eq__ cdm_Quantity___eq__ ctm_Quantity___eq__ : Value}
    {hcn_Quantity_KINDU : Value} 
    {hcn_Reading_KINDU : Value} 
    {hcn_Span_KINDU : Value} 
    {hf_Change_led : Addr} {odm_Change_led anm_Change_led : Option Addr} {slm_Change_led : Array (Option Value)} {ocm_Change_led kVm_Change_led dcm_Change_led pmm_Change_led cdm_Change_led ctm_Change_led : Value}
    {hf_Change___call__ : Addr} {odm_Change___call__ anm_Change___call__ : Option Addr} {slm_Change___call__ : Array (Option Value)} {ocm_Change___call__ kVm_Change___call__ dcm_Change___call__ pmm_Change___call__ cdm_Change___call__ ctm_Change___call__ : Value}
    {hf_Change___eq__ : Addr} {odm_Change___eq__ anm_Change___eq__ : Option Addr} {slm_Change___eq__ : Array (Option Value)} {ocm_Change___eq__ kVm_Change___eq__ dcm_Change___eq__ pmm_Change___eq__ cdm_Change___eq__ ctm_Change___eq__ : Value}
    {hf_Change___mul__ : Addr} {odm_Change___mul__ anm_Change___mul__ : Option Addr} {slm_Change___mul__ : Array (Option Value)} {ocm_Change___mul__ kVm_Change___mul__ dcm_Change___mul__ pmm_Change___mul__ cdm_Change___mul__ ctm_Change___mul__ : Value}
    {hf_Change___neg__ : Addr} {odm_Change___neg__ anm_Change___neg__ : Option Addr} {slm_Change___neg__ : Array (Option Value)} {ocm_Change___neg__ kVm_Change___neg__ dcm_Change___neg__ pmm_Change___neg__ cdm_Change___neg__ ctm_Change___neg__ : Value}
    (C0a : PySem.W.nsIn K mainGlobals "LETTERS" = some (some C0U))
    (C0r : RelV (.str "abcdefghijklmnopqrstuvwxyz") C0U)
    (C1a : PySem.W.nsIn K mainGlobals "MOST_LETTERS" = some (some C1U))
    (C1r : RelV (.int 8) C1U)
    (C2a : PySem.W.nsIn K mainGlobals "ZERO" = some (some C2U))
    (C2e : C2U = Value.ref C2A)
    (C2l : K.lookup C2A = some ⟨.type "tuple", C2q, .seq #[C2u0, C2u1] C2n, C2s⟩)
    (C20r : RelV (.int 0) C2u0)
    (C21r : RelV (.int 1) C2u1)
    (C3a : PySem.W.nsIn K mainGlobals "ONE" = some (some C3U))
    (C3e : C3U = Value.ref C3A)
    (C3l : K.lookup C3A = some ⟨.type "tuple", C3q, .seq #[C3u0, C3u1] C3n, C3s⟩)
    (C30r : RelV (.int 1) C3u0)
    (C31r : RelV (.int 1) C3u1)
    (C4a : PySem.W.nsIn K mainGlobals "NO_TEXT" = some (some C4U))
    (C4r : RelV (.int 10000000000000000000000000000000000000000000000000000000000000000000000000000000000000000000000000000000000000000000000000000000000000000000000000000000000000000000000000000000000000000000000000000000000000000000000000000000000000000000000000000000000000000000000000000000000000000000000000000000000000000000000000000000000000000000000000000000000000000000000000000000000000000000000000000000000000000000000000000000000000000000000000000000000000000000000000000000000000000000000000000000000000000000000000000000000000000000000000000000000000000000000000000000000000000000000000000000000000000000000000000000000000000000000000000000000000000000000000000000000000000000000000000000000000000000000000000000000000000000000000000000000000000000000000000000000000000000000000000000000000000000000000000000000000000000000000000000000000000000000000000000000000000000000000000000000000000000000000000000000000000000000000000000000000000000000000000000000000000000000000000000000000000000000000000000000000000) C4U)
    (a0 : PySem.W.nsIn K mainGlobals "_wall" = some (some (.ref f0)))
    (l0 : K.lookup f0 = some ⟨oc0, od0, .func (PySem.W.fnOf "_wall" "_wall" (defArgs s_wall) (defBody s_wall) (defScope s_wall) .none kV0 dc0 pm0 an0 cd0 ct0), sl0⟩)
    (c0 : PySem.W.codeIn K cd0 "_wall" = true)
    (k0 : PySem.W.keepIn K (.ref f0) = true)
    (a1 : PySem.W.nsIn K mainGlobals "is_integer" = some (some (.ref f1)))
    (l1 : K.lookup f1 = some ⟨oc1, od1, .func (PySem.W.fnOf "is_integer" "is_integer" (defArgs s_is_integer) (defBody s_is_integer) (defScope s_is_integer) .none kV1 dc1 pm1 an1 cd1 ct1), sl1⟩)
    (c1 : PySem.W.codeIn K cd1 "is_integer" = true)
    (k1 : PySem.W.keepIn K (.ref f1) = true)
    (a2 : PySem.W.nsIn K mainGlobals "is_name" = some (some (.ref f2)))
    (l2 : K.lookup f2 = some ⟨oc2, od2, .func (PySem.W.fnOf "is_name" "is_name" (defArgs s_is_name) (defBody s_is_name) (defScope s_is_name) .none kV2 dc2 pm2 an2 cd2 ct2), sl2⟩)
    (c2 : PySem.W.codeIn K cd2 "is_name" = true)
    (k2 : PySem.W.keepIn K (.ref f2) = true)
    (a3 : PySem.W.nsIn K mainGlobals "common_divisor" = some (some (.ref f3)))
    (l3 : K.lookup f3 = some ⟨oc3, od3, .func (PySem.W.fnOf "common_divisor" "common_divisor" (defArgs s_common_divisor) (defBody s_common_divisor) (defScope s_common_divisor) .none kV3 dc3 pm3 an3 cd3 ct3), sl3⟩)
    (c3 : PySem.W.codeIn K cd3 "common_divisor" = true)
    (k3 : PySem.W.keepIn K (.ref f3) = true)
    (a4 : PySem.W.nsIn K mainGlobals "amount" = some (some (.ref f4)))
    (l4 : K.lookup f4 = some ⟨oc4, od4, .func (PySem.W.fnOf "amount" "amount" (defArgs s_amount) (defBody s_amount) (defScope s_amount) dV4 kV4 dc4 pm4 an4 cd4 ct4), sl4⟩)
    (c4 : PySem.W.codeIn K cd4 "amount" = true)
    (k4 : PySem.W.keepIn K (.ref f4) = true)
    (de4 : dV4 = Value.ref dT4)
    (dl4 : K.lookup dT4 = some ⟨dc_4, dq4, .seq #[dU4_0] dn4, ds4⟩)
    (d4_0r : RelV (.int 1) dU4_0)
    (a5 : PySem.W.nsIn K mainGlobals "is_amount" = some (some (.ref f5)))
    (l5 : K.lookup f5 = some ⟨oc5, od5, .func (PySem.W.fnOf "is_amount" "is_amount" (defArgs s_is_amount) (defBody s_is_amount) (defScope s_is_amount) .none kV5 dc5 pm5 an5 cd5 ct5), sl5⟩)
    (c5 : PySem.W.codeIn K cd5 "is_amount" = true)
    (k5 : PySem.W.keepIn K (.ref f5) = true)
    (a6 : PySem.W.nsIn K mainGlobals "plus" = some (some (.ref f6)))
    (l6 : K.lookup f6 = some ⟨oc6, od6, .func (PySem.W.fnOf "plus" "plus" (defArgs s_plus) (defBody s_plus) (defScope s_plus) .none kV6 dc6 pm6 an6 cd6 ct6), sl6⟩)
    (c6 : PySem.W.codeIn K cd6 "plus" = true)
    (k6 : PySem.W.keepIn K (.ref f6) = true)
    (a7 : PySem.W.nsIn K mainGlobals "minus" = some (some (.ref f7)))
    (l7 : K.lookup f7 = some ⟨oc7, od7, .func (PySem.W.fnOf "minus" "minus" (defArgs s_minus) (defBody s_minus) (defScope s_minus) .none kV7 dc7 pm7 an7 cd7 ct7), sl7⟩)
    (c7 : PySem.W.codeIn K cd7 "minus" = true)
    (k7 : PySem.W.keepIn K (.ref f7) = true)
    (a8 : PySem.W.nsIn K mainGlobals "times" = some (some (.ref f8)))
    (l8 : K.lookup f8 = some ⟨oc8, od8, .func (PySem.W.fnOf "times" "times" (defArgs s_times) (defBody s_times) (defScope s_times) .none kV8 dc8 pm8 an8 cd8 ct8), sl8⟩)
    (c8 : PySem.W.codeIn K cd8 "times" = true)
    (k8 : PySem.W.keepIn K (.ref f8) = true)
    (a9 : PySem.W.nsIn K mainGlobals "over" = some (some (.ref f9)))
    (l9 : K.lookup f9 = some ⟨oc9, od9, .func (PySem.W.fnOf "over" "over" (defArgs s_over) (defBody s_over) (defScope s_over) .none kV9 dc9 pm9 an9 cd9 ct9), sl9⟩)
    (c9 : PySem.W.codeIn K cd9 "over" = true)
    (k9 : PySem.W.keepIn K (.ref f9) = true)
    (a10 : PySem.W.nsIn K mainGlobals "opposite" = some (some (.ref f10)))
    (l10 : K.lookup f10 = some ⟨oc10, od10, .func (PySem.W.fnOf "opposite" "opposite" (defArgs s_opposite) (defBody s_opposite) (defScope s_opposite) .none kV10 dc10 pm10 an10 cd10 ct10), sl10⟩)
    (c10 : PySem.W.codeIn K cd10 "opposite" = true)
    (k10 : PySem.W.keepIn K (.ref f10) = true)
    (a11 : PySem.W.nsIn K mainGlobals "sign" = some (some (.ref f11)))
    (l11 : K.lookup f11 = some ⟨oc11, od11, .func (PySem.W.fnOf "sign" "sign" (defArgs s_sign) (defBody s_sign) (defScope s_sign) .none kV11 dc11 pm11 an11 cd11 ct11), sl11⟩)
    (c11 : PySem.W.codeIn K cd11 "sign" = true)
    (k11 : PySem.W.keepIn K (.ref f11) = true)
    (a12 : PySem.W.nsIn K mainGlobals "amount_text" = some (some (.ref f12)))
    (l12 : K.lookup f12 = some ⟨oc12, od12, .func (PySem.W.fnOf "amount_text" "amount_text" (defArgs s_amount_text) (defBody s_amount_text) (defScope s_amount_text) .none kV12 dc12 pm12 an12 cd12 ct12), sl12⟩)
    (c12 : PySem.W.codeIn K cd12 "amount_text" = true)
    (k12 : PySem.W.keepIn K (.ref f12) = true)
    (a13 : PySem.W.nsIn K mainGlobals "need_scale" = some (some (.ref f13)))
    (l13 : K.lookup f13 = some ⟨oc13, od13, .func (PySem.W.fnOf "need_scale" "need_scale" (defArgs s_need_scale) (defBody s_need_scale) (defScope s_need_scale) .none kV13 dc13 pm13 an13 cd13 ct13), sl13⟩)
    (c13 : PySem.W.codeIn K cd13 "need_scale" = true)
    (k13 : PySem.W.keepIn K (.ref f13) = true)
    (a14 : PySem.W.nsIn K mainGlobals "quantity_of" = some (some (.ref f14)))
    (l14 : K.lookup f14 = some ⟨oc14, od14, .func (PySem.W.fnOf "quantity_of" "quantity_of" (defArgs s_quantity_of) (defBody s_quantity_of) (defScope s_quantity_of) .none kV14 dc14 pm14 an14 cd14 ct14), sl14⟩)
    (c14 : PySem.W.codeIn K cd14 "quantity_of" = true)
    (k14 : PySem.W.keepIn K (.ref f14) = true)
    (a15 : PySem.W.nsIn K mainGlobals "_law_source" = some (some (.ref f15)))
    (l15 : K.lookup f15 = some ⟨oc15, od15, .func (PySem.W.fnOf "_law_source" "_law_source" (defArgs s_l_source) (defBody s_l_source) (defScope s_l_source) .none kV15 dc15 pm15 an15 cd15 ct15), sl15⟩)
    (c15 : PySem.W.codeIn K cd15 "_law_source" = true)
    (k15 : PySem.W.keepIn K (.ref f15) = true)
    (a16 : PySem.W.nsIn K mainGlobals "_law_draw" = some (some (.ref f16)))
    (l16 : K.lookup f16 = some ⟨oc16, od16, .func (PySem.W.fnOf "_law_draw" "_law_draw" (defArgs s_l_draw) (defBody s_l_draw) (defScope s_l_draw) .none kV16 dc16 pm16 an16 cd16 ct16), sl16⟩)
    (c16 : PySem.W.codeIn K cd16 "_law_draw" = true)
    (k16 : PySem.W.keepIn K (.ref f16) = true)
    (a17 : PySem.W.nsIn K mainGlobals "_law_choice" = some (some (.ref f17)))
    (l17 : K.lookup f17 = some ⟨oc17, od17, .func (PySem.W.fnOf "_law_choice" "_law_choice" (defArgs s_l_choice) (defBody s_l_choice) (defScope s_l_choice) .none kV17 dc17 pm17 an17 cd17 ct17), sl17⟩)
    (c17 : PySem.W.codeIn K cd17 "_law_choice" = true)
    (k17 : PySem.W.keepIn K (.ref f17) = true)
    (a18 : PySem.W.nsIn K mainGlobals "_law_same" = some (some (.ref f18)))
    (l18 : K.lookup f18 = some ⟨oc18, od18, .func (PySem.W.fnOf "_law_same" "_law_same" (defArgs s_l_same) (defBody s_l_same) (defScope s_l_same) .none kV18 dc18 pm18 an18 cd18 ct18), sl18⟩)
    (c18 : PySem.W.codeIn K cd18 "_law_same" = true)
    (k18 : PySem.W.keepIn K (.ref f18) = true)
    (a19 : PySem.W.nsIn K mainGlobals "_law_field" = some (some (.ref f19)))
    (l19 : K.lookup f19 = some ⟨oc19, od19, .func (PySem.W.fnOf "_law_field" "_law_field" (defArgs s_l_field) (defBody s_l_field) (defScope s_l_field) .none kV19 dc19 pm19 an19 cd19 ct19), sl19⟩)
    (c19 : PySem.W.codeIn K cd19 "_law_field" = true)
    (k19 : PySem.W.keepIn K (.ref f19) = true)
    (a20 : PySem.W.nsIn K mainGlobals "_law_try" = some (some (.ref f20)))
    (l20 : K.lookup f20 = some ⟨oc20, od20, .func (PySem.W.fnOf "_law_try" "_law_try" (defArgs s_l_try) (defBody s_l_try) (defScope s_l_try) .none kV20 dc20 pm20 an20 cd20 ct20), sl20⟩)
    (c20 : PySem.W.codeIn K cd20 "_law_try" = true)
    (k20 : PySem.W.keepIn K (.ref f20) = true)
    (a21 : PySem.W.nsIn K mainGlobals "_law_tries" = some (some (.ref f21)))
    (l21 : K.lookup f21 = some ⟨oc21, od21, .func (PySem.W.fnOf "_law_tries" "_law_tries" (defArgs s_l_tries) (defBody s_l_tries) (defScope s_l_tries) .none kV21 dc21 pm21 an21 cd21 ct21), sl21⟩)
    (c21 : PySem.W.codeIn K cd21 "_law_tries" = true)
    (k21 : PySem.W.keepIn K (.ref f21) = true)
    (a22 : PySem.W.nsIn K mainGlobals "_law_divisor" = some (some (.ref f22)))
    (l22 : K.lookup f22 = some ⟨oc22, od22, .func (PySem.W.fnOf "_law_divisor" "_law_divisor" (defArgs s_l_divisor) (defBody s_l_divisor) (defScope s_l_divisor) .none kV22 dc22 pm22 an22 cd22 ct22), sl22⟩)
    (c22 : PySem.W.codeIn K cd22 "_law_divisor" = true)
    (k22 : PySem.W.keepIn K (.ref f22) = true)
    (a23 : PySem.W.nsIn K mainGlobals "_law_ratio" = some (some (.ref f23)))
    (l23 : K.lookup f23 = some ⟨oc23, od23, .func (PySem.W.fnOf "_law_ratio" "_law_ratio" (defArgs s_l_ratio) (defBody s_l_ratio) (defScope s_l_ratio) .none kV23 dc23 pm23 an23 cd23 ct23), sl23⟩)
    (c23 : PySem.W.codeIn K cd23 "_law_ratio" = true)
    (k23 : PySem.W.keepIn K (.ref f23) = true)
    (a24 : PySem.W.nsIn K mainGlobals "_law_plus" = some (some (.ref f24)))
    (l24 : K.lookup f24 = some ⟨oc24, od24, .func (PySem.W.fnOf "_law_plus" "_law_plus" (defArgs s_l_plus) (defBody s_l_plus) (defScope s_l_plus) .none kV24 dc24 pm24 an24 cd24 ct24), sl24⟩)
    (c24 : PySem.W.codeIn K cd24 "_law_plus" = true)
    (k24 : PySem.W.keepIn K (.ref f24) = true)
    (a25 : PySem.W.nsIn K mainGlobals "_law_times" = some (some (.ref f25)))
    (l25 : K.lookup f25 = some ⟨oc25, od25, .func (PySem.W.fnOf "_law_times" "_law_times" (defArgs s_l_times) (defBody s_l_times) (defScope s_l_times) .none kV25 dc25 pm25 an25 cd25 ct25), sl25⟩)
    (c25 : PySem.W.codeIn K cd25 "_law_times" = true)
    (k25 : PySem.W.keepIn K (.ref f25) = true)
    (a26 : PySem.W.nsIn K mainGlobals "_law_over" = some (some (.ref f26)))
    (l26 : K.lookup f26 = some ⟨oc26, od26, .func (PySem.W.fnOf "_law_over" "_law_over" (defArgs s_l_over) (defBody s_l_over) (defScope s_l_over) .none kV26 dc26 pm26 an26 cd26 ct26), sl26⟩)
    (c26 : PySem.W.codeIn K cd26 "_law_over" = true)
    (k26 : PySem.W.keepIn K (.ref f26) = true)
    (a27 : PySem.W.nsIn K mainGlobals "_law_amount" = some (some (.ref f27)))
    (l27 : K.lookup f27 = some ⟨oc27, od27, .func (PySem.W.fnOf "_law_amount" "_law_amount" (defArgs s_l_amount) (defBody s_l_amount) (defScope s_l_amount) .none kV27 dc27 pm27 an27 cd27 ct27), sl27⟩)
    (c27 : PySem.W.codeIn K cd27 "_law_amount" = true)
    (k27 : PySem.W.keepIn K (.ref f27) = true)
    (a28 : PySem.W.nsIn K mainGlobals "_law_far" = some (some (.ref f28)))
    (l28 : K.lookup f28 = some ⟨oc28, od28, .func (PySem.W.fnOf "_law_far" "_law_far" (defArgs s_l_far) (defBody s_l_far) (defScope s_l_far) .none kV28 dc28 pm28 an28 cd28 ct28), sl28⟩)
    (c28 : PySem.W.codeIn K cd28 "_law_far" = true)
    (k28 : PySem.W.keepIn K (.ref f28) = true)
    (a29 : PySem.W.nsIn K mainGlobals "_law_names" = some (some (.ref f29)))
    (l29 : K.lookup f29 = some ⟨oc29, od29, .func (PySem.W.fnOf "_law_names" "_law_names" (defArgs s_l_names) (defBody s_l_names) (defScope s_l_names) .none kV29 dc29 pm29 an29 cd29 ct29), sl29⟩)
    (c29 : PySem.W.codeIn K cd29 "_law_names" = true)
    (k29 : PySem.W.keepIn K (.ref f29) = true)
    (a30 : PySem.W.nsIn K mainGlobals "_law_undone" = some (some (.ref f30)))
    (l30 : K.lookup f30 = some ⟨oc30, od30, .func (PySem.W.fnOf "_law_undone" "_law_undone" (defArgs s_l_undone) (defBody s_l_undone) (defScope s_l_undone) .none kV30 dc30 pm30 an30 cd30 ct30), sl30⟩)
    (c30 : PySem.W.codeIn K cd30 "_law_undone" = true)
    (k30 : PySem.W.keepIn K (.ref f30) = true)
    (a31 : PySem.W.nsIn K mainGlobals "_law_change" = some (some (.ref f31)))
    (l31 : K.lookup f31 = some ⟨oc31, od31, .func (PySem.W.fnOf "_law_change" "_law_change" (defArgs s_l_change) (defBody s_l_change) (defScope s_l_change) .none kV31 dc31 pm31 an31 cd31 ct31), sl31⟩)
    (c31 : PySem.W.codeIn K cd31 "_law_change" = true)
    (k31 : PySem.W.keepIn K (.ref f31) = true)
    (a32 : PySem.W.nsIn K mainGlobals "_law_ready" = some (some (.ref f32)))
    (l32 : K.lookup f32 = some ⟨oc32, od32, .func (PySem.W.fnOf "_law_ready" "_law_ready" (defArgs s_l_ready) (defBody s_l_ready) (defScope s_l_ready) .none kV32 dc32 pm32 an32 cd32 ct32), sl32⟩)
    (c32 : PySem.W.codeIn K cd32 "_law_ready" = true)
    (k32 : PySem.W.keepIn K (.ref f32) = true)
    (a33 : PySem.W.nsIn K mainGlobals "_law_quantity" = some (some (.ref f33)))
    (l33 : K.lookup f33 = some ⟨oc33, od33, .func (PySem.W.fnOf "_law_quantity" "_law_quantity" (defArgs s_l_quantity) (defBody s_l_quantity) (defScope s_l_quantity) .none kV33 dc33 pm33 an33 cd33 ct33), sl33⟩)
    (c33 : PySem.W.codeIn K cd33 "_law_quantity" = true)
    (k33 : PySem.W.keepIn K (.ref f33) = true)
    (a34 : PySem.W.nsIn K mainGlobals "law" = some (some (.ref f34)))
    (l34 : K.lookup f34 = some ⟨oc34, od34, .func (PySem.W.fnOf "law" "law" (defArgs s_law) (defBody s_law) (defScope s_law) .none kV34 dc34 pm34 an34 cd34 ct34), sl34⟩)
    (c34 : PySem.W.codeIn K cd34 "law" = true)
    (k34 : PySem.W.keepIn K (.ref f34) = true)
    (n_abs : PySem.W.nsIn K mainGlobals "abs" = some none)
    (n_all : PySem.W.nsIn K mainGlobals "all" = some none)
    (n_bool : PySem.W.nsIn K mainGlobals "bool" = some none)
    (n_int : PySem.W.nsIn K mainGlobals "int" = some none)
    (n_isinstance : PySem.W.nsIn K mainGlobals "isinstance" = some none)
    (n_len : PySem.W.nsIn K mainGlobals "len" = some none)
    (n_list : PySem.W.nsIn K mainGlobals "list" = some none)
    (n_property : PySem.W.nsIn K mainGlobals "property" = some none)
    (n_range : PySem.W.nsIn K mainGlobals "range" = some none)
    (n_staticmethod : PySem.W.nsIn K mainGlobals "staticmethod" = some none)
    (n_str : PySem.W.nsIn K mainGlobals "str" = some none)
    (n_tuple : PySem.W.nsIn K mainGlobals "tuple" = some none)
    (n_zip : PySem.W.nsIn K mainGlobals "zip" = some none)
    (hgC_InvalidAmount : PySem.W.nsIn K mainGlobals "InvalidAmount" = some (some (.ref hC_InvalidAmount)))
    (hat_InvalidAmount___init__ : PySem.W.findIn K (.ref hC_InvalidAmount) "__init__" = some (some (.ref hf_InvalidAmount___init__)))
    (hfn_InvalidAmount___init__ : PySem.W.isFn K (.ref hf_InvalidAmount___init__) = true)
    (hlk_InvalidAmount___init__ : K.lookup hf_InvalidAmount___init__ = some ⟨ocm_InvalidAmount___init__, odm_InvalidAmount___init__, .func (PySem.W.fnOf "__init__" "InvalidAmount.__init__" (defArgs s_InvalidAmount___init__) (defBody s_InvalidAmount___init__) (defScope s_InvalidAmount___init__) .none kVm_InvalidAmount___init__ dcm_InvalidAmount___init__ pmm_InvalidAmount___init__ anm_InvalidAmount___init__ cdm_InvalidAmount___init__ ctm_InvalidAmount___init__), slm_InvalidAmount___init__⟩)
    (hcd_InvalidAmount___init__ : PySem.W.codeIn K cdm_InvalidAmount___init__ "InvalidAmount.__init__" = true)
    (hkp_InvalidAmount___init__ : PySem.W.keepIn K (.ref hf_InvalidAmount___init__) = true)
    (hx_InvalidAmountl : K.lookup hC_InvalidAmount = some (excClassObj hx_InvalidAmountn hx_InvalidAmountq hC_InvalidAmount hx_InvalidAmountN hx_InvalidAmountb hx_InvalidAmountm true hx_InvalidAmounts hx_InvalidAmountu hx_InvalidAmounta hx_InvalidAmountc hx_InvalidAmountd hx_InvalidAmount0 hx_InvalidAmount1 hx_InvalidAmount2 hx_InvalidAmount3 hx_InvalidAmount5 "ValueError.__new__"))
    (hx_InvalidAmountr : PySem.HandSPX.refsVE hx_InvalidAmountm = true)
    (hx_InvalidAmountv : PySem.W.findIn K (.ref hC_InvalidAmount) "__setattr__" = some (some (.builtin "object.__setattr__")))
    (hx_InvalidAmounte : PySem.W.subIn K (.ref hC_InvalidAmount) (.type "BaseException") = some true)
    (hx_InvalidAmountt : PySem.W.typeIn K (.ref hC_InvalidAmount) = some (.type "type"))
    (hx_InvalidAmountk : PySem.W.keepIn K (.ref hC_InvalidAmount) = true)
    (hx_InvalidAmountf : PySem.W.typeIn K (.ref hf_InvalidAmount___init__) = some (.type "function"))
    (hx_InvalidAmountx : excB K hC_InvalidAmount = true)
    (hgC_ScaleError : PySem.W.nsIn K mainGlobals "ScaleError" = some (some (.ref hC_ScaleError)))
    (hgC_Missing : PySem.W.nsIn K mainGlobals "Missing" = some (some (.ref hC_Missing)))
    (hgC_NothingLeft : PySem.W.nsIn K mainGlobals "NothingLeft" = some (some (.ref hC_NothingLeft)))
    (hx_InvalidAmounty : PySem.W.exmAny K (.ref hC_InvalidAmount) [.ref hC_ScaleError, .ref hC_Missing, .ref hC_NothingLeft] = some true)
    (hsi_ScaleErrorr : PySem.W.readsIn K hC_ScaleError (.type "type") = true)
    (hsi_ScaleErrorg : PySem.W.specialIn K (.ref hC_ScaleError) "__getattribute__" = some (some (.builtin "type.__getattribute__")))
    (hsi_ScaleErrorf : PySem.W.findCls K (.ref hC_ScaleError) (.type "type") "__init__" = some (.val (.builtin "ValueError.__init__")))
    (hgC_InvalidName : PySem.W.nsIn K mainGlobals "InvalidName" = some (some (.ref hC_InvalidName)))
    (hat_InvalidName___init__ : PySem.W.findIn K (.ref hC_InvalidName) "__init__" = some (some (.ref hf_InvalidName___init__)))
    (hfn_InvalidName___init__ : PySem.W.isFn K (.ref hf_InvalidName___init__) = true)
    (hlk_InvalidName___init__ : K.lookup hf_InvalidName___init__ = some ⟨ocm_InvalidName___init__, odm_InvalidName___init__, .func (PySem.W.fnOf "__init__" "InvalidName.__init__" (defArgs s_InvalidName___init__) (defBody s_InvalidName___init__) (defScope s_InvalidName___init__) .none kVm_InvalidName___init__ dcm_InvalidName___init__ pmm_InvalidName___init__ anm_InvalidName___init__ cdm_InvalidName___init__ ctm_InvalidName___init__), slm_InvalidName___init__⟩)
    (hcd_InvalidName___init__ : PySem.W.codeIn K cdm_InvalidName___init__ "InvalidName.__init__" = true)
    (hkp_InvalidName___init__ : PySem.W.keepIn K (.ref hf_InvalidName___init__) = true)
    (hx_InvalidNamel : K.lookup hC_InvalidName = some (excClassObj hx_InvalidNamen hx_InvalidNameq hC_InvalidName hx_InvalidNameN hx_InvalidNameb hx_InvalidNamem true hx_InvalidNames hx_InvalidNameu hx_InvalidNamea hx_InvalidNamec hx_InvalidNamed hx_InvalidName0 hx_InvalidName1 hx_InvalidName2 hx_InvalidName3 hx_InvalidName5 "ValueError.__new__"))
    (hx_InvalidNamer : PySem.HandSPX.refsVE hx_InvalidNamem = true)
    (hx_InvalidNamev : PySem.W.findIn K (.ref hC_InvalidName) "__setattr__" = some (some (.builtin "object.__setattr__")))
    (hx_InvalidNamee : PySem.W.subIn K (.ref hC_InvalidName) (.type "BaseException") = some true)
    (hx_InvalidNamet : PySem.W.typeIn K (.ref hC_InvalidName) = some (.type "type"))
    (hx_InvalidNamek : PySem.W.keepIn K (.ref hC_InvalidName) = true)
    (hx_InvalidNamef : PySem.W.typeIn K (.ref hf_InvalidName___init__) = some (.type "function"))
    (hx_InvalidNamex : excB K hC_InvalidName = true)
    (hx_InvalidNamey : PySem.W.exmAny K (.ref hC_InvalidName) [.ref hC_ScaleError, .ref hC_Missing, .ref hC_NothingLeft] = some true)
    (hgC_ScalesDiffer : PySem.W.nsIn K mainGlobals "ScalesDiffer" = some (some (.ref hC_ScalesDiffer)))
    (hat_ScalesDiffer___init__ : PySem.W.findIn K (.ref hC_ScalesDiffer) "__init__" = some (some (.ref hf_ScalesDiffer___init__)))
    (hfn_ScalesDiffer___init__ : PySem.W.isFn K (.ref hf_ScalesDiffer___init__) = true)
    (hlk_ScalesDiffer___init__ : K.lookup hf_ScalesDiffer___init__ = some ⟨ocm_ScalesDiffer___init__, odm_ScalesDiffer___init__, .func (PySem.W.fnOf "__init__" "ScalesDiffer.__init__" (defArgs s_ScalesDiffer___init__) (defBody s_ScalesDiffer___init__) (defScope s_ScalesDiffer___init__) .none kVm_ScalesDiffer___init__ dcm_ScalesDiffer___init__ pmm_ScalesDiffer___init__ anm_ScalesDiffer___init__ cdm_ScalesDiffer___init__ ctm_ScalesDiffer___init__), slm_ScalesDiffer___init__⟩)
    (hcd_ScalesDiffer___init__ : PySem.W.codeIn K cdm_ScalesDiffer___init__ "ScalesDiffer.__init__" = true)
    (hkp_ScalesDiffer___init__ : PySem.W.keepIn K (.ref hf_ScalesDiffer___init__) = true)
    (hx_ScalesDifferl : K.lookup hC_ScalesDiffer = some (excClassObj hx_ScalesDiffern hx_ScalesDifferq hC_ScalesDiffer hx_ScalesDifferN hx_ScalesDifferb hx_ScalesDifferm true hx_ScalesDiffers hx_ScalesDifferu hx_ScalesDiffera hx_ScalesDifferc hx_ScalesDifferd hx_ScalesDiffer0 hx_ScalesDiffer1 hx_ScalesDiffer2 hx_ScalesDiffer3 hx_ScalesDiffer5 "ValueError.__new__"))
    (hx_ScalesDifferr : PySem.HandSPX.refsVE hx_ScalesDifferm = true)
    (hx_ScalesDifferv : PySem.W.findIn K (.ref hC_ScalesDiffer) "__setattr__" = some (some (.builtin "object.__setattr__")))
    (hx_ScalesDiffere : PySem.W.subIn K (.ref hC_ScalesDiffer) (.type "BaseException") = some true)
    (hx_ScalesDiffert : PySem.W.typeIn K (.ref hC_ScalesDiffer) = some (.type "type"))
    (hx_ScalesDifferk : PySem.W.keepIn K (.ref hC_ScalesDiffer) = true)
    (hx_ScalesDifferf : PySem.W.typeIn K (.ref hf_ScalesDiffer___init__) = some (.type "function"))
    (hx_ScalesDifferx : excB K hC_ScalesDiffer = true)
    (hx_ScalesDiffery : PySem.W.exmAny K (.ref hC_ScalesDiffer) [.ref hC_ScaleError, .ref hC_Missing, .ref hC_NothingLeft] = some true)
    (hgC_Change : PySem.W.nsIn K mainGlobals "Change" = some (some (.ref hC_Change)))
    (hat_Change___init__ : PySem.W.findIn K (.ref hC_Change) "__init__" = some (some (.ref hf_Change___init__)))
    (hfn_Change___init__ : PySem.W.isFn K (.ref hf_Change___init__) = true)
    (hlk_Change___init__ : K.lookup hf_Change___init__ = some ⟨ocm_Change___init__, odm_Change___init__, .func (PySem.W.fnOf "__init__" "Change.__init__" (defArgs s_Change___init__) (defBody s_Change___init__) (defScope s_Change___init__) .none kVm_Change___init__ dcm_Change___init__ pmm_Change___init__ anm_Change___init__ cdm_Change___init__ ctm_Change___init__), slm_Change___init__⟩)
    (hcd_Change___init__ : PySem.W.codeIn K cdm_Change___init__ "Change.__init__" = true)
    (hkp_Change___init__ : PySem.W.keepIn K (.ref hf_Change___init__) = true)
    (kem_Change___init__ : kVm_Change___init__ = Value.ref kDm_Change___init__)
    (knm_Change___init___0 : PySem.W.nsIn K kDm_Change___init__ "factor" = some (some kUm_Change___init___0))
    (km_Change___init___0e : kUm_Change___init___0 = Value.ref km_Change___init___0A)
    (km_Change___init___0l : K.lookup km_Change___init___0A = some ⟨.type "tuple", km_Change___init___0q, .seq #[km_Change___init___0u0, km_Change___init___0u1] km_Change___init___0n, km_Change___init___0s⟩)
    (km_Change___init___00r : RelV (.int 1) km_Change___init___0u0)
    (km_Change___init___01r : RelV (.int 1) km_Change___init___0u1)
    (knm_Change___init___1 : PySem.W.nsIn K kDm_Change___init__ "shift" = some (some kUm_Change___init___1))
    (km_Change___init___1e : kUm_Change___init___1 = Value.ref km_Change___init___1A)
    (km_Change___init___1l : K.lookup km_Change___init___1A = some ⟨.type "tuple", km_Change___init___1q, .seq #[km_Change___init___1u0, km_Change___init___1u1] km_Change___init___1n, km_Change___init___1s⟩)
    (km_Change___init___10r : RelV (.int 0) km_Change___init___1u0)
    (km_Change___init___11r : RelV (.int 1) km_Change___init___1u1)
    (hgC_Quantity : PySem.W.nsIn K mainGlobals "Quantity" = some (some (.ref hC_Quantity)))
    (hcl_Quantity1 : PySem.W.plainGet K hC_Quantity Str.empty = true)
    (hcl_Quantity2 : PySem.W.hasDictIn K hC_Quantity = true)
    (hcl_Quantity3 : PySem.W.plainOver K hC_Quantity = true)
    (hcl_Quantity4 : PySem.W.findIn K (.ref hC_Quantity) "__setattr__" = some (some (.builtin "object.__setattr__")))
    (hna_Quantity_scale : PySem.W.findIn K (.ref hC_Quantity) "scale" = some none)
    (hgC_Reading : PySem.W.nsIn K mainGlobals "Reading" = some (some (.ref hC_Reading)))
    (hcl_Reading1 : PySem.W.plainGet K hC_Reading Str.empty = true)
    (hcl_Reading2 : PySem.W.hasDictIn K hC_Reading = true)
    (hcl_Reading3 : PySem.W.plainOver K hC_Reading = true)
    (hcl_Reading4 : PySem.W.findIn K (.ref hC_Reading) "__setattr__" = some (some (.builtin "object.__setattr__")))
    (hna_Reading_scale : PySem.W.findIn K (.ref hC_Reading) "scale" = some none)
    (hgC_Span : PySem.W.nsIn K mainGlobals "Span" = some (some (.ref hC_Span)))
    (hcl_Span1 : PySem.W.plainGet K hC_Span Str.empty = true)
    (hcl_Span2 : PySem.W.hasDictIn K hC_Span = true)
    (hcl_Span3 : PySem.W.plainOver K hC_Span = true)
    (hcl_Span4 : PySem.W.findIn K (.ref hC_Span) "__setattr__" = some (some (.builtin "object.__setattr__")))
    (hna_Span_scale : PySem.W.findIn K (.ref hC_Span) "scale" = some none)
    (hcl_Change1 : PySem.W.plainGet K hC_Change Str.empty = true)
    (hcl_Change2 : PySem.W.hasDictIn K hC_Change = true)
    (hcl_Change3 : PySem.W.plainOver K hC_Change = true)
    (hcl_Change4 : PySem.W.findIn K (.ref hC_Change) "__setattr__" = some (some (.builtin "object.__setattr__")))
    (hna_Change_scale : PySem.W.findIn K (.ref hC_Change) "scale" = some none)
    (hna_Change_factor : PySem.W.findIn K (.ref hC_Change) "factor" = some none)
    (hna_Change_shift : PySem.W.findIn K (.ref hC_Change) "shift" = some none)
    (hpf_Change_is_still : PySem.W.findIn K (.ref hC_Change) "is_still" = some (some (.ref hpa_Change_is_still)))
    (hpr_Change_is_still : PySem.W.recIn K hpa_Change_is_still "property" = some (.ref hf_Change_is_still :: hrs_Change_is_still))
    (hfn_Change_is_still : PySem.W.isFn K (.ref hf_Change_is_still) = true)
    (hlk_Change_is_still : K.lookup hf_Change_is_still = some ⟨ocm_Change_is_still, odm_Change_is_still, .func (PySem.W.fnOf "is_still" "Change.is_still" (defArgs s_Change_is_still) (defBody s_Change_is_still) (defScope s_Change_is_still) .none kVm_Change_is_still dcm_Change_is_still pmm_Change_is_still anm_Change_is_still cdm_Change_is_still ctm_Change_is_still), slm_Change_is_still⟩)
    (hcd_Change_is_still : PySem.W.codeIn K cdm_Change_is_still "Change.is_still" = true)
    (hkp_Change_is_still : PySem.W.keepIn K (.ref hf_Change_is_still) = true)
    (hat_Quantity___init__ : PySem.W.findIn K (.ref hC_Quantity) "__init__" = some (some (.ref hf_Quantity___init__)))
    (hfn_Quantity___init__ : PySem.W.isFn K (.ref hf_Quantity___init__) = true)
    (hlk_Quantity___init__ : K.lookup hf_Quantity___init__ = some ⟨ocm_Quantity___init__, odm_Quantity___init__, .func (PySem.W.fnOf "__init__" "Quantity.__init__" (defArgs s_Quantity___init__) (defBody s_Quantity___init__) (defScope s_Quantity___init__) .none kVm_Quantity___init__ dcm_Quantity___init__ pmm_Quantity___init__ anm_Quantity___init__ cdm_Quantity___init__ ctm_Quantity___init__), slm_Quantity___init__⟩)
    (hcd_Quantity___init__ : PySem.W.codeIn K cdm_Quantity___init__ "Quantity.__init__" = true)
    (hkp_Quantity___init__ : PySem.W.keepIn K (.ref hf_Quantity___init__) = true)
    (hna_Quantity_amount : PySem.W.findIn K (.ref hC_Quantity) "amount" = some none)
    (hna_Reading_amount : PySem.W.findIn K (.ref hC_Reading) "amount" = some none)
    (hna_Span_amount : PySem.W.findIn K (.ref hC_Span) "amount" = some none)
    (hat_Quantity___eq__ : PySem.W.findIn K (.ref hC_Quantity) "__eq__" = some (some (.ref hf_Quantity___eq__)))
    (hfn_Quantity___eq__ : PySem.W.isFn K (.ref hf_Quantity___eq__) = true)
    (hlk_Quantity___eq__ : K.lookup hf_Quantity___eq__ = some ⟨ocm_Quantity___eq__, odm_Quantity___eq__, .func (PySem.W.fnOf "__eq__" "Quantity.__eq__" (defArgs s_Quantity___eq__) (defBody s_Quantity___eq__) (defScope s_Quantity___eq__) .none kVm_Quantity___eq__ dcm_Quantity___eq__ pmm_Quantity___eq__ anm_Quantity___eq__ cdm_Quantity___eq__ ctm_Quantity___eq__), slm_Quantity___eq__⟩)
    (hcd_Quantity___eq__ : PySem.W.codeIn K cdm_Quantity___eq__ "Quantity.__eq__" = true)
    (hkp_Quantity___eq__ : PySem.W.keepIn K (.ref hf_Quantity___eq__) = true)
    (his_Quantity1 : PySem.W.findIn K (.ref hC_Quantity) "__class__" = some (some (.builtin "object.__class__")))
    (his_Quantity2 : PySem.W.specialIn K (.builtin "object.__class__") "__get__" = some (some (.builtin "getset_descriptor.__get__")))
    (his_Quantity3 : PySem.W.takesIn K (.builtin "object.__class__") = some true)
    (his_Quantity4 : PySem.W.mroIn K hC_Quantity (.type "object") = some true)
    (hki_Quantity_Quantity : PySem.W.kitOne K (.ref hC_Quantity) (.ref hC_Quantity) = some true)
    (his_Reading1 : PySem.W.findIn K (.ref hC_Reading) "__class__" = some (some (.builtin "object.__class__")))
    (his_Reading2 : PySem.W.specialIn K (.builtin "object.__class__") "__get__" = some (some (.builtin "getset_descriptor.__get__")))
    (his_Reading3 : PySem.W.takesIn K (.builtin "object.__class__") = some true)
    (his_Reading4 : PySem.W.mroIn K hC_Reading (.type "object") = some true)
    (hki_Reading_Quantity : PySem.W.kitOne K (.ref hC_Reading) (.ref hC_Quantity) = some true)
    (his_Span1 : PySem.W.findIn K (.ref hC_Span) "__class__" = some (some (.builtin "object.__class__")))
    (his_Span2 : PySem.W.specialIn K (.builtin "object.__class__") "__get__" = some (some (.builtin "getset_descriptor.__get__")))
    (his_Span3 : PySem.W.takesIn K (.builtin "object.__class__") = some true)
    (his_Span4 : PySem.W.mroIn K hC_Span (.type "object") = some true)
    (hki_Span_Quantity : PySem.W.kitOne K (.ref hC_Span) (.ref hC_Quantity) = some true)
    (his_Change1 : PySem.W.findIn K (.ref hC_Change) "__class__" = some (some (.builtin "object.__class__")))
    (his_Change2 : PySem.W.specialIn K (.builtin "object.__class__") "__get__" = some (some (.builtin "getset_descriptor.__get__")))
    (his_Change3 : PySem.W.takesIn K (.builtin "object.__class__") = some true)
    (his_Change4 : PySem.W.mroIn K hC_Change (.type "object") = some true)
    (hki_Change_Quantity : PySem.W.kitOne K (.ref hC_Change) (.ref hC_Quantity) = some false)
    (hki_NoneType_Quantity : PySem.W.kitOne K (.type "NoneType") (.ref hC_Quantity) = some false)
    (hki_bool_Quantity : PySem.W.kitOne K (.type "bool") (.ref hC_Quantity) = some false)
    (hki_int_Quantity : PySem.W.kitOne K (.type "int") (.ref hC_Quantity) = some false)
    (hki_str_Quantity : PySem.W.kitOne K (.type "str") (.ref hC_Quantity) = some false)
    (hki_tuple_Quantity : PySem.W.kitOne K (.type "tuple") (.ref hC_Quantity) = some false)
    (hki_list_Quantity : PySem.W.kitOne K (.type "list") (.ref hC_Quantity) = some false)
    (hcn_Quantity_KINDa : PySem.W.findIn K (.ref hC_Quantity) "KIND" = some (some hcn_Quantity_KINDU))
    (hcn_Quantity_KINDg : PySem.W.specialIn K hcn_Quantity_KINDU "__get__" = some none)
    (hcn_Quantity_KINDc : PySem.W.copiedNames.contains "KIND" = false)
    (hcn_Quantity_KINDxr : RelV (.str "quantity") hcn_Quantity_KINDU)
    (hcn_Reading_KINDa : PySem.W.findIn K (.ref hC_Reading) "KIND" = some (some hcn_Reading_KINDU))
    (hcn_Reading_KINDg : PySem.W.specialIn K hcn_Reading_KINDU "__get__" = some none)
    (hcn_Reading_KINDc : PySem.W.copiedNames.contains "KIND" = false)
    (hcn_Reading_KINDxr : RelV (.str "reading") hcn_Reading_KINDU)
    (hcn_Span_KINDa : PySem.W.findIn K (.ref hC_Span) "KIND" = some (some hcn_Span_KINDU))
    (hcn_Span_KINDg : PySem.W.specialIn K hcn_Span_KINDU "__get__" = some none)
    (hcn_Span_KINDc : PySem.W.copiedNames.contains "KIND" = false)
    (hcn_Span_KINDxr : RelV (.str "span") hcn_Span_KINDU)
    (hmk_Quantity1 : PySem.W.makesIn K hC_Quantity = true)
    (hmk_Quantity2 : PySem.W.keepIn K (.ref hC_Quantity) = true)
    (hat_Reading_Quantity___init__ : PySem.W.findIn K (.ref hC_Reading) "__init__" = some (some (.ref hf_Quantity___init__)))
    (hmk_Reading1 : PySem.W.makesIn K hC_Reading = true)
    (hmk_Reading2 : PySem.W.keepIn K (.ref hC_Reading) = true)
    (hat_Span_Quantity___init__ : PySem.W.findIn K (.ref hC_Span) "__init__" = some (some (.ref hf_Quantity___init__)))
    (hmk_Span1 : PySem.W.makesIn K hC_Span = true)
    (hmk_Span2 : PySem.W.keepIn K (.ref hC_Span) = true)
    (hat_Change_led : PySem.W.findIn K (.ref hC_Change) "led" = some (some (.ref hf_Change_led)))
    (hfn_Change_led : PySem.W.isFn K (.ref hf_Change_led) = true)
    (hlk_Change_led : K.lookup hf_Change_led = some ⟨ocm_Change_led, odm_Change_led, .func (PySem.W.fnOf "led" "Change.led" (defArgs s_Change_led) (defBody s_Change_led) (defScope s_Change_led) .none kVm_Change_led dcm_Change_led pmm_Change_led anm_Change_led cdm_Change_led ctm_Change_led), slm_Change_led⟩)
    (hcd_Change_led : PySem.W.codeIn K cdm_Change_led "Change.led" = true)
    (hkp_Change_led : PySem.W.keepIn K (.ref hf_Change_led) = true)
    (hat_Change___call__ : PySem.W.findIn K (.ref hC_Change) "__call__" = some (some (.ref hf_Change___call__)))
    (hfn_Change___call__ : PySem.W.isFn K (.ref hf_Change___call__) = true)
    (hlk_Change___call__ : K.lookup hf_Change___call__ = some ⟨ocm_Change___call__, odm_Change___call__, .func (PySem.W.fnOf "__call__" "Change.__call__" (defArgs s_Change___call__) (defBody s_Change___call__) (defScope s_Change___call__) .none kVm_Change___call__ dcm_Change___call__ pmm_Change___call__ anm_Change___call__ cdm_Change___call__ ctm_Change___call__), slm_Change___call__⟩)
    (hcd_Change___call__ : PySem.W.codeIn K cdm_Change___call__ "Change.__call__" = true)
    (hkp_Change___call__ : PySem.W.keepIn K (.ref hf_Change___call__) = true)
    (hat_Change___eq__ : PySem.W.findIn K (.ref hC_Change) "__eq__" = some (some (.ref hf_Change___eq__)))
    (hfn_Change___eq__ : PySem.W.isFn K (.ref hf_Change___eq__) = true)
    (hlk_Change___eq__ : K.lookup hf_Change___eq__ = some ⟨ocm_Change___eq__, odm_Change___eq__, .func (PySem.W.fnOf "__eq__" "Change.__eq__" (defArgs s_Change___eq__) (defBody s_Change___eq__) (defScope s_Change___eq__) .none kVm_Change___eq__ dcm_Change___eq__ pmm_Change___eq__ anm_Change___eq__ cdm_Change___eq__ ctm_Change___eq__), slm_Change___eq__⟩)
    (hcd_Change___eq__ : PySem.W.codeIn K cdm_Change___eq__ "Change.__eq__" = true)
    (hkp_Change___eq__ : PySem.W.keepIn K (.ref hf_Change___eq__) = true)
    (hki_Quantity_Change : PySem.W.kitOne K (.ref hC_Quantity) (.ref hC_Change) = some false)
    (hki_Reading_Change : PySem.W.kitOne K (.ref hC_Reading) (.ref hC_Change) = some false)
    (hki_Span_Change : PySem.W.kitOne K (.ref hC_Span) (.ref hC_Change) = some false)
    (hki_Change_Change : PySem.W.kitOne K (.ref hC_Change) (.ref hC_Change) = some true)
    (hki_NoneType_Change : PySem.W.kitOne K (.type "NoneType") (.ref hC_Change) = some false)
    (hki_bool_Change : PySem.W.kitOne K (.type "bool") (.ref hC_Change) = some false)
    (hki_int_Change : PySem.W.kitOne K (.type "int") (.ref hC_Change) = some false)
    (hki_str_Change : PySem.W.kitOne K (.type "str") (.ref hC_Change) = some false)
    (hki_tuple_Change : PySem.W.kitOne K (.type "tuple") (.ref hC_Change) = some false)
    (hki_list_Change : PySem.W.kitOne K (.type "list") (.ref hC_Change) = some false)
    (hat_Change___mul__ : PySem.W.findIn K (.ref hC_Change) "__mul__" = some (some (.ref hf_Change___mul__)))
    (hfn_Change___mul__ : PySem.W.isFn K (.ref hf_Change___mul__) = true)
    (hlk_Change___mul__ : K.lookup hf_Change___mul__ = some ⟨ocm_Change___mul__, odm_Change___mul__, .func (PySem.W.fnOf "__mul__" "Change.__mul__" (defArgs s_Change___mul__) (defBody s_Change___mul__) (defScope s_Change___mul__) .none kVm_Change___mul__ dcm_Change___mul__ pmm_Change___mul__ anm_Change___mul__ cdm_Change___mul__ ctm_Change___mul__), slm_Change___mul__⟩)
    (hcd_Change___mul__ : PySem.W.codeIn K cdm_Change___mul__ "Change.__mul__" = true)
    (hkp_Change___mul__ : PySem.W.keepIn K (.ref hf_Change___mul__) = true)
    (hmk_Change1 : PySem.W.makesIn K hC_Change = true)
    (hmk_Change2 : PySem.W.keepIn K (.ref hC_Change) = true)
    (hat_Change___neg__ : PySem.W.findIn K (.ref hC_Change) "__neg__" = some (some (.ref hf_Change___neg__)))
    (hfn_Change___neg__ : PySem.W.isFn K (.ref hf_Change___neg__) = true)
    (hlk_Change___neg__ : K.lookup hf_Change___neg__ = some ⟨ocm_Change___neg__, odm_Change___neg__, .func (PySem.W.fnOf "__neg__" "Change.__neg__" (defArgs s_Change___neg__) (defBody s_Change___neg__) (defScope s_Change___neg__) .none kVm_Change___neg__ dcm_Change___neg__ pmm_Change___neg__ anm_Change___neg__ cdm_Change___neg__ ctm_Change___neg__), slm_Change___neg__⟩)
    (hcd_Change___neg__ : PySem.W.codeIn K cdm_Change___neg__ "Change.__neg__" = true)
    (hkp_Change___neg__ : PySem.W.keepIn K (.ref hf_Change___neg__) = true)
    (hbc_Change_Mult1 : PySem.W.selfFirst K hC_Change = true)
    (hbc_Change_Mult2 : PySem.W.findIn K (.ref hC_Change) (dunderR (Operator.info .Mult).2) = some none)
    (hbc_Change_Mult3 : PySem.W.findIn K (.ref hC_Change) (PySem.dunder (Operator.info .Mult).2) = some (some (.ref hf_Change___mul__)))
    (heq_Change1 : PySem.W.findIn K (.ref hC_Change) "__ne__" = some (some (.builtin "object.__ne__")))
    (heq_Change2 : PySem.W.mroIn K hC_Change (.type "object") = some true)
    (hat_Reading_Quantity___eq__ : PySem.W.findIn K (.ref hC_Reading) "__eq__" = some (some (.ref hf_Quantity___eq__)))
    (heq_Reading1 : PySem.W.findIn K (.ref hC_Reading) "__ne__" = some (some (.builtin "object.__ne__")))
    (heq_Reading2 : PySem.W.mroIn K hC_Reading (.type "object") = some true)
    (hat_Span_Quantity___eq__ : PySem.W.findIn K (.ref hC_Span) "__eq__" = some (some (.ref hf_Quantity___eq__)))
    (heq_Span1 : PySem.W.findIn K (.ref hC_Span) "__ne__" = some (some (.builtin "object.__ne__")))
    (heq_Span2 : PySem.W.mroIn K hC_Span (.type "object") = some true)
    (hnf_Change_Change : PySem.W.notFirst K hC_Change (.ref hC_Change) = true)
    (hnf_Reading_Reading : PySem.W.notFirst K hC_Reading (.ref hC_Reading) = true)
    (hnf_Span_Span : PySem.W.notFirst K hC_Span (.ref hC_Span) = true)
    (hpr_Change_is_stillg : PySem.W.specialIn K (.ref hpa_Change_is_still) "__get__" = some (some (.builtin "property.__get__")))
    (hpr_Change_is_stillt : PySem.W.takesIn K (.ref hpa_Change_is_still) = some true)
    (hco_Change : PySem.W.fnIn K hf_Change___call__ = true)
    : Tx K mg :=
  have F0 := fun_mk (st := s_wall) l0 c0 k0
  have F1 := fun_mk (st := s_is_integer) l1 c1 k1
  have F2 := fun_mk (st := s_is_name) l2 c2 k2
  have F3 := fun_mk (st := s_common_divisor) l3 c3 k3
  have F5 := fun_mk (st := s_is_amount) l5 c5 k5
  have F6 := fun_mk (st := s_plus) l6 c6 k6
  have F7 := fun_mk (st := s_minus) l7 c7 k7
  have F8 := fun_mk (st := s_times) l8 c8 k8
  have F9 := fun_mk (st := s_over) l9 c9 k9
  have F10 := fun_mk (st := s_opposite) l10 c10 k10
  have F11 := fun_mk (st := s_sign) l11 c11 k11
  have F12 := fun_mk (st := s_amount_text) l12 c12 k12
  have F13 := fun_mk (st := s_need_scale) l13 c13 k13
  have F14 := fun_mk (st := s_quantity_of) l14 c14 k14
  have F15 := fun_mk (st := s_l_source) l15 c15 k15
  have F16 := fun_mk (st := s_l_draw) l16 c16 k16
  have F17 := fun_mk (st := s_l_choice) l17 c17 k17
  have F18 := fun_mk (st := s_l_same) l18 c18 k18
  have F19 := fun_mk (st := s_l_field) l19 c19 k19
  have F20 := fun_mk (st := s_l_try) l20 c20 k20
  have F21 := fun_mk (st := s_l_tries) l21 c21 k21
  have F22 := fun_mk (st := s_l_divisor) l22 c22 k22
  have F23 := fun_mk (st := s_l_ratio) l23 c23 k23
  have F24 := fun_mk (st := s_l_plus) l24 c24 k24
  have F25 := fun_mk (st := s_l_times) l25 c25 k25
  have F26 := fun_mk (st := s_l_over) l26 c26 k26
  have F27 := fun_mk (st := s_l_amount) l27 c27 k27
  have F28 := fun_mk (st := s_l_far) l28 c28 k28
  have F29 := fun_mk (st := s_l_names) l29 c29 k29
  have F30 := fun_mk (st := s_l_undone) l30 c30 k30
  have F31 := fun_mk (st := s_l_change) l31 c31 k31
  have F32 := fun_mk (st := s_l_ready) l32 c32 k32
  have F33 := fun_mk (st := s_l_quantity) l33 c33 k33
  have F34 := fun_mk (st := s_law) l34 c34 k34
  { v_LETTERS := (.str "abcdefghijklmnopqrstuvwxyz"), u_LETTERS := _, c_LETTERS := PySem.W.mg_of X G C0a, r_LETTERS := C0r, w_LETTERS := (fun _ _ => rep_str),
    v_MOST_LETTERS := (.int 8), u_MOST_LETTERS := _, c_MOST_LETTERS := PySem.W.mg_of X G C1a, r_MOST_LETTERS := C1r, w_MOST_LETTERS := (fun _ _ => rep_int),
    v_ZERO := (.ref C2A), u_ZERO := _, c_ZERO := PySem.W.mg_of X G C2a, r_ZERO := C2e, w_ZERO := (fun M H => rep_tup (.inr ⟨_, _, _, C2l, rfl, rfl, Nat.le_of_ble_eq_true rfl, (.cons (show RelV (.int 0) _ from C20r) (.cons (show RelV (.int 1) _ from C21r) .nil))⟩) (reps_cons ((fun _ _ => rep_int) M H) (reps_cons ((fun _ _ => rep_int) M H) reps_nil))),
    v_ONE := (.ref C3A), u_ONE := _, c_ONE := PySem.W.mg_of X G C3a, r_ONE := C3e, w_ONE := (fun M H => rep_tup (.inr ⟨_, _, _, C3l, rfl, rfl, Nat.le_of_ble_eq_true rfl, (.cons (show RelV (.int 1) _ from C30r) (.cons (show RelV (.int 1) _ from C31r) .nil))⟩) (reps_cons ((fun _ _ => rep_int) M H) (reps_cons ((fun _ _ => rep_int) M H) reps_nil))),
    v_NO_TEXT := (.int 10000000000000000000000000000000000000000000000000000000000000000000000000000000000000000000000000000000000000000000000000000000000000000000000000000000000000000000000000000000000000000000000000000000000000000000000000000000000000000000000000000000000000000000000000000000000000000000000000000000000000000000000000000000000000000000000000000000000000000000000000000000000000000000000000000000000000000000000000000000000000000000000000000000000000000000000000000000000000000000000000000000000000000000000000000000000000000000000000000000000000000000000000000000000000000000000000000000000000000000000000000000000000000000000000000000000000000000000000000000000000000000000000000000000000000000000000000000000000000000000000000000000000000000000000000000000000000000000000000000000000000000000000000000000000000000000000000000000000000000000000000000000000000000000000000000000000000000000000000000000000000000000000000000000000000000000000000000000000000000000000000000000000000000000000000000000000000), u_NO_TEXT := _, c_NO_TEXT := PySem.W.mg_of X G C4a, r_NO_TEXT := C4r, w_NO_TEXT := (fun _ _ => rep_int),
    f_wall := f0, fd_wall := _, g_wall := PySem.W.mg_of X G a0, F_wall := F0, B_wall := F0.binds (ps := ["k"]) fun _ _ _ _ _ _ us hl => match us, hl with | [_], _ => rfl,
    f_is_integer := f1, fd_is_integer := _, g_is_integer := PySem.W.mg_of X G a1, F_is_integer := F1, B_is_integer := F1.binds (ps := ["value"]) fun _ _ _ _ _ _ us hl => match us, hl with | [_], _ => rfl,
    f_is_name := f2, fd_is_name := _, g_is_name := PySem.W.mg_of X G a2, F_is_name := F2, B_is_name := F2.binds (ps := ["value"]) fun _ _ _ _ _ _ us hl => match us, hl with | [_], _ => rfl,
    f_common_divisor := f3, fd_common_divisor := _, g_common_divisor := PySem.W.mg_of X G a3, F_common_divisor := F3, B_common_divisor := F3.binds (ps := ["one", "other"]) fun _ _ _ _ _ _ us hl => match us, hl with | [_, _], _ => rfl,
    f_amount := f4, fd_amount := _, g_amount := PySem.W.mg_of X G a4, dv0_amount := (.int 1), dw0_amount := (fun _ _ => rep_int), F_amount := ⟨⟨oc4, od4, _, _, _, _, _, _, _, _, rfl, l4, c4, .inr ⟨List.cons_ne_nil _ _, dT4, _, _, _, de4, dl4, rfl, (.cons (show RelV (.int 1) _ from d4_0r) .nil)⟩, .inl rfl⟩, k4⟩,
    f_is_amount := f5, fd_is_amount := _, g_is_amount := PySem.W.mg_of X G a5, F_is_amount := F5, B_is_amount := F5.binds (ps := ["value"]) fun _ _ _ _ _ _ us hl => match us, hl with | [_], _ => rfl,
    f_plus := f6, fd_plus := _, g_plus := PySem.W.mg_of X G a6, F_plus := F6, B_plus := F6.binds (ps := ["one", "other"]) fun _ _ _ _ _ _ us hl => match us, hl with | [_, _], _ => rfl,
    f_minus := f7, fd_minus := _, g_minus := PySem.W.mg_of X G a7, F_minus := F7, B_minus := F7.binds (ps := ["one", "other"]) fun _ _ _ _ _ _ us hl => match us, hl with | [_, _], _ => rfl,
    f_times := f8, fd_times := _, g_times := PySem.W.mg_of X G a8, F_times := F8, B_times := F8.binds (ps := ["one", "other"]) fun _ _ _ _ _ _ us hl => match us, hl with | [_, _], _ => rfl,
    f_over := f9, fd_over := _, g_over := PySem.W.mg_of X G a9, F_over := F9, B_over := F9.binds (ps := ["one", "other"]) fun _ _ _ _ _ _ us hl => match us, hl with | [_, _], _ => rfl,
    f_opposite := f10, fd_opposite := _, g_opposite := PySem.W.mg_of X G a10, F_opposite := F10, B_opposite := F10.binds (ps := ["one"]) fun _ _ _ _ _ _ us hl => match us, hl with | [_], _ => rfl,
    f_sign := f11, fd_sign := _, g_sign := PySem.W.mg_of X G a11, F_sign := F11, B_sign := F11.binds (ps := ["one"]) fun _ _ _ _ _ _ us hl => match us, hl with | [_], _ => rfl,
    f_amount_text := f12, fd_amount_text := _, g_amount_text := PySem.W.mg_of X G a12, F_amount_text := F12, B_amount_text := F12.binds (ps := ["one"]) fun _ _ _ _ _ _ us hl => match us, hl with | [_], _ => rfl,
    f_need_scale := f13, fd_need_scale := _, g_need_scale := PySem.W.mg_of X G a13, F_need_scale := F13, B_need_scale := F13.binds (ps := ["one", "other"]) fun _ _ _ _ _ _ us hl => match us, hl with | [_, _], _ => rfl,
    f_quantity_of := f14, fd_quantity_of := _, g_quantity_of := PySem.W.mg_of X G a14, F_quantity_of := F14, B_quantity_of := F14.binds (ps := ["kind", "scale", "amount"]) fun _ _ _ _ _ _ us hl => match us, hl with | [_, _, _], _ => rfl,
    f_l_source := f15, fd_l_source := _, g_l_source := PySem.W.mg_of X G a15, F_l_source := F15, B_l_source := F15.binds (ps := ["_law_script"]) fun _ _ _ _ _ _ us hl => match us, hl with | [_], _ => rfl,
    f_l_draw := f16, fd_l_draw := _, g_l_draw := PySem.W.mg_of X G a16, F_l_draw := F16, B_l_draw := F16.binds (ps := ["_law_rng", "_law_many"]) fun _ _ _ _ _ _ us hl => match us, hl with | [_, _], _ => rfl,
    f_l_choice := f17, fd_l_choice := _, g_l_choice := PySem.W.mg_of X G a17, F_l_choice := F17, B_l_choice := F17.binds (ps := ["_law_rng", "_law_some"]) fun _ _ _ _ _ _ us hl => match us, hl with | [_, _], _ => rfl,
    f_l_same := f18, fd_l_same := _, g_l_same := PySem.W.mg_of X G a18, F_l_same := F18, B_l_same := F18.binds (ps := ["_law_result", "_law_expected"]) fun _ _ _ _ _ _ us hl => match us, hl with | [_, _], _ => rfl,
    f_l_field := f19, fd_l_field := _, g_l_field := PySem.W.mg_of X G a19, F_l_field := F19, B_l_field := F19.binds (ps := ["_law_e"]) fun _ _ _ _ _ _ us hl => match us, hl with | [_], _ => rfl,
    f_l_try := f20, fd_l_try := _, g_l_try := PySem.W.mg_of X G a20, F_l_try := F20, B_l_try := F20.binds (ps := ["_law_ask"]) fun _ _ _ _ _ _ us hl => match us, hl with | [_], _ => rfl,
    f_l_tries := f21, fd_l_tries := _, g_l_tries := PySem.W.mg_of X G a21, F_l_tries := F21, B_l_tries := F21.binds (ps := ["_law_asks"]) fun _ _ _ _ _ _ us hl => match us, hl with | [_], _ => rfl,
    f_l_divisor := f22, fd_l_divisor := _, g_l_divisor := PySem.W.mg_of X G a22, F_l_divisor := F22, B_l_divisor := F22.binds (ps := ["_law_one", "_law_other"]) fun _ _ _ _ _ _ us hl => match us, hl with | [_, _], _ => rfl,
    f_l_ratio := f23, fd_l_ratio := _, g_l_ratio := PySem.W.mg_of X G a23, F_l_ratio := F23, B_l_ratio := F23.binds (ps := ["_law_top", "_law_bottom"]) fun _ _ _ _ _ _ us hl => match us, hl with | [_, _], _ => rfl,
    f_l_plus := f24, fd_l_plus := _, g_l_plus := PySem.W.mg_of X G a24, F_l_plus := F24, B_l_plus := F24.binds (ps := ["_law_one", "_law_other"]) fun _ _ _ _ _ _ us hl => match us, hl with | [_, _], _ => rfl,
    f_l_times := f25, fd_l_times := _, g_l_times := PySem.W.mg_of X G a25, F_l_times := F25, B_l_times := F25.binds (ps := ["_law_one", "_law_other"]) fun _ _ _ _ _ _ us hl => match us, hl with | [_, _], _ => rfl,
    f_l_over := f26, fd_l_over := _, g_l_over := PySem.W.mg_of X G a26, F_l_over := F26, B_l_over := F26.binds (ps := ["_law_one", "_law_other"]) fun _ _ _ _ _ _ us hl => match us, hl with | [_, _], _ => rfl,
    f_l_amount := f27, fd_l_amount := _, g_l_amount := PySem.W.mg_of X G a27, F_l_amount := F27, B_l_amount := F27.binds (ps := ["_law_rng"]) fun _ _ _ _ _ _ us hl => match us, hl with | [_], _ => rfl,
    f_l_far := f28, fd_l_far := _, g_l_far := PySem.W.mg_of X G a28, F_l_far := F28, B_l_far := F28.binds (ps := ["_law_rng"]) fun _ _ _ _ _ _ us hl => match us, hl with | [_], _ => rfl,
    f_l_names := f29, fd_l_names := _, g_l_names := PySem.W.mg_of X G a29, F_l_names := F29, B_l_names := F29.binds (ps := ["_law_rng", "_law_many"]) fun _ _ _ _ _ _ us hl => match us, hl with | [_, _], _ => rfl,
    f_l_undone := f30, fd_l_undone := _, g_l_undone := PySem.W.mg_of X G a30, F_l_undone := F30, B_l_undone := F30.binds (ps := ["_law_change_here"]) fun _ _ _ _ _ _ us hl => match us, hl with | [_], _ => rfl,
    f_l_change := f31, fd_l_change := _, g_l_change := PySem.W.mg_of X G a31, F_l_change := F31, B_l_change := F31.binds (ps := ["_law_rng", "_law_scale"]) fun _ _ _ _ _ _ us hl => match us, hl with | [_, _], _ => rfl,
    f_l_ready := f32, fd_l_ready := _, g_l_ready := PySem.W.mg_of X G a32, F_l_ready := F32, B_l_ready := F32.binds (ps := ["_law_change_here"]) fun _ _ _ _ _ _ us hl => match us, hl with | [_], _ => rfl,
    f_l_quantity := f33, fd_l_quantity := _, g_l_quantity := PySem.W.mg_of X G a33, F_l_quantity := F33, B_l_quantity := F33.binds (ps := ["_law_kind", "_law_scale", "_law_one"]) fun _ _ _ _ _ _ us hl => match us, hl with | [_, _, _], _ => rfl,
    f_law := f34, fd_law := _, g_law := PySem.W.mg_of X G a34, F_law := F34, B_law := F34.binds (ps := ["_law_script"]) fun _ _ _ _ _ _ us hl => match us, hl with | [_], _ => rfl,
    n_abs := PySem.W.mg_none_of X G n_abs,
    n_all := PySem.W.mg_none_of X G n_all,
    n_bool := PySem.W.mg_none_of X G n_bool,
    n_int := PySem.W.mg_none_of X G n_int,
    n_isinstance := PySem.W.mg_none_of X G n_isinstance,
    n_len := PySem.W.mg_none_of X G n_len,
    n_list := PySem.W.mg_none_of X G n_list,
    n_property := PySem.W.mg_none_of X G n_property,
    n_range := PySem.W.mg_none_of X G n_range,
    n_staticmethod := PySem.W.mg_none_of X G n_staticmethod,
    n_str := PySem.W.mg_none_of X G n_str,
    n_tuple := PySem.W.mg_none_of X G n_tuple,
    n_zip := PySem.W.mg_none_of X G n_zip,
    C_InvalidAmount := hC_InvalidAmount,
    gC_InvalidAmount := PySem.W.mg_of X G hgC_InvalidAmount,
    f_InvalidAmount___init__ := hf_InvalidAmount___init__,
    fd_InvalidAmount___init__ := _,
    F_InvalidAmount___init__ := fun_mk (st := s_InvalidAmount___init__) hlk_InvalidAmount___init__ hcd_InvalidAmount___init__ hkp_InvalidAmount___init__,
    B_InvalidAmount___init__ := (fun_mk (st := s_InvalidAmount___init__) hlk_InvalidAmount___init__ hcd_InvalidAmount___init__ hkp_InvalidAmount___init__).binds (ps := ["self", "given"]) fun _ _ _ _ _ _ us hl => match us, hl with | [_, _], _ => rfl,
    ox_InvalidAmount := ⟨⟨_, _, _, _, _, _, _, _, _, _, _, _, _, _, _, hx_InvalidAmountl, hx_InvalidAmountr⟩, hx_InvalidAmountv, hx_InvalidAmounte, hx_InvalidAmountt, hx_InvalidAmountk⟩,
    oi_InvalidAmount := hat_InvalidAmount___init__,
    ot_InvalidAmount := hx_InvalidAmountf,
    ex_InvalidAmount := excK_of hx_InvalidAmountx,
    C_ScaleError := hC_ScaleError,
    gC_ScaleError := PySem.W.mg_of X G hgC_ScaleError,
    C_Missing := hC_Missing,
    gC_Missing := PySem.W.mg_of X G hgC_Missing,
    C_NothingLeft := hC_NothingLeft,
    gC_NothingLeft := PySem.W.mg_of X G hgC_NothingLeft,
    em_InvalidAmount := hx_InvalidAmounty,
    si_ScaleError := ⟨⟨_, ⟨hsi_ScaleErrorr, hsi_ScaleErrorg⟩, hsi_ScaleErrorf⟩⟩,
    C_InvalidName := hC_InvalidName,
    gC_InvalidName := PySem.W.mg_of X G hgC_InvalidName,
    f_InvalidName___init__ := hf_InvalidName___init__,
    fd_InvalidName___init__ := _,
    F_InvalidName___init__ := fun_mk (st := s_InvalidName___init__) hlk_InvalidName___init__ hcd_InvalidName___init__ hkp_InvalidName___init__,
    B_InvalidName___init__ := (fun_mk (st := s_InvalidName___init__) hlk_InvalidName___init__ hcd_InvalidName___init__ hkp_InvalidName___init__).binds (ps := ["self", "given"]) fun _ _ _ _ _ _ us hl => match us, hl with | [_, _], _ => rfl,
    ox_InvalidName := ⟨⟨_, _, _, _, _, _, _, _, _, _, _, _, _, _, _, hx_InvalidNamel, hx_InvalidNamer⟩, hx_InvalidNamev, hx_InvalidNamee, hx_InvalidNamet, hx_InvalidNamek⟩,
    oi_InvalidName := hat_InvalidName___init__,
    ot_InvalidName := hx_InvalidNamef,
    ex_InvalidName := excK_of hx_InvalidNamex,
    em_InvalidName := hx_InvalidNamey,
    C_ScalesDiffer := hC_ScalesDiffer,
    gC_ScalesDiffer := PySem.W.mg_of X G hgC_ScalesDiffer,
    f_ScalesDiffer___init__ := hf_ScalesDiffer___init__,
    fd_ScalesDiffer___init__ := _,
    F_ScalesDiffer___init__ := fun_mk (st := s_ScalesDiffer___init__) hlk_ScalesDiffer___init__ hcd_ScalesDiffer___init__ hkp_ScalesDiffer___init__,
    B_ScalesDiffer___init__ := (fun_mk (st := s_ScalesDiffer___init__) hlk_ScalesDiffer___init__ hcd_ScalesDiffer___init__ hkp_ScalesDiffer___init__).binds (ps := ["self", "one", "other"]) fun _ _ _ _ _ _ us hl => match us, hl with | [_, _, _], _ => rfl,
    ox_ScalesDiffer := ⟨⟨_, _, _, _, _, _, _, _, _, _, _, _, _, _, _, hx_ScalesDifferl, hx_ScalesDifferr⟩, hx_ScalesDifferv, hx_ScalesDiffere, hx_ScalesDiffert, hx_ScalesDifferk⟩,
    oi_ScalesDiffer := hat_ScalesDiffer___init__,
    ot_ScalesDiffer := hx_ScalesDifferf,
    ex_ScalesDiffer := excK_of hx_ScalesDifferx,
    em_ScalesDiffer := hx_ScalesDiffery,
    C_Change := hC_Change,
    gC_Change := PySem.W.mg_of X G hgC_Change,
    f_Change___init__ := hf_Change___init__,
    fd_Change___init__ := _,
    kv0_Change___init__ := (.ref km_Change___init___0A),
    kw0_Change___init__ := (fun M H => rep_tup (.inr ⟨_, _, _, km_Change___init___0l, rfl, rfl, Nat.le_of_ble_eq_true rfl, (.cons (show RelV (.int 1) _ from km_Change___init___00r) (.cons (show RelV (.int 1) _ from km_Change___init___01r) .nil))⟩) (reps_cons ((fun _ _ => rep_int) M H) (reps_cons ((fun _ _ => rep_int) M H) reps_nil))),
    kv1_Change___init__ := (.ref km_Change___init___1A),
    kw1_Change___init__ := (fun M H => rep_tup (.inr ⟨_, _, _, km_Change___init___1l, rfl, rfl, Nat.le_of_ble_eq_true rfl, (.cons (show RelV (.int 0) _ from km_Change___init___10r) (.cons (show RelV (.int 1) _ from km_Change___init___11r) .nil))⟩) (reps_cons ((fun _ _ => rep_int) M H) (reps_cons ((fun _ _ => rep_int) M H) reps_nil))),
    F_Change___init__ := ⟨⟨ocm_Change___init__, odm_Change___init__, _, _, _, _, _, _, _, _, rfl, hlk_Change___init__, hcd_Change___init__, .inl ⟨rfl, rfl⟩, .inr ⟨kDm_Change___init__, kem_Change___init__, List.forall_mem_cons.mpr ⟨⟨_, knm_Change___init___0, km_Change___init___0e⟩, List.forall_mem_cons.mpr ⟨⟨_, knm_Change___init___1, km_Change___init___1e⟩, List.forall_mem_nil _⟩⟩⟩⟩, hkp_Change___init__⟩,
    C_Quantity := hC_Quantity,
    gC_Quantity := PySem.W.mg_of X G hgC_Quantity,
    cl_Quantity := ⟨hcl_Quantity1, hcl_Quantity2, hcl_Quantity3, hcl_Quantity4⟩,
    na_Quantity_scale := hna_Quantity_scale,
    C_Reading := hC_Reading,
    gC_Reading := PySem.W.mg_of X G hgC_Reading,
    cl_Reading := ⟨hcl_Reading1, hcl_Reading2, hcl_Reading3, hcl_Reading4⟩,
    na_Reading_scale := hna_Reading_scale,
    C_Span := hC_Span,
    gC_Span := PySem.W.mg_of X G hgC_Span,
    cl_Span := ⟨hcl_Span1, hcl_Span2, hcl_Span3, hcl_Span4⟩,
    na_Span_scale := hna_Span_scale,
    cl_Change := ⟨hcl_Change1, hcl_Change2, hcl_Change3, hcl_Change4⟩,
    na_Change_scale := hna_Change_scale,
    na_Change_factor := hna_Change_factor,
    na_Change_shift := hna_Change_shift,
    pa_Change_is_still := hpa_Change_is_still,
    f_Change_is_still := hf_Change_is_still,
    fd_Change_is_still := _,
    F_Change_is_still := fun_mk (st := s_Change_is_still) hlk_Change_is_still hcd_Change_is_still hkp_Change_is_still,
    B_Change_is_still := (fun_mk (st := s_Change_is_still) hlk_Change_is_still hcd_Change_is_still hkp_Change_is_still).binds (ps := ["self"]) fun _ _ _ _ _ _ us hl => match us, hl with | [_], _ => rfl,
    f_Quantity___init__ := hf_Quantity___init__,
    fd_Quantity___init__ := _,
    F_Quantity___init__ := fun_mk (st := s_Quantity___init__) hlk_Quantity___init__ hcd_Quantity___init__ hkp_Quantity___init__,
    B_Quantity___init__ := (fun_mk (st := s_Quantity___init__) hlk_Quantity___init__ hcd_Quantity___init__ hkp_Quantity___init__).binds (ps := ["self", "scale", "amount"]) fun _ _ _ _ _ _ us hl => match us, hl with | [_, _, _], _ => rfl,
    na_Quantity_amount := hna_Quantity_amount,
    na_Reading_amount := hna_Reading_amount,
    na_Span_amount := hna_Span_amount,
    f_Quantity___eq__ := hf_Quantity___eq__,
    fd_Quantity___eq__ := _,
    F_Quantity___eq__ := fun_mk (st := s_Quantity___eq__) hlk_Quantity___eq__ hcd_Quantity___eq__ hkp_Quantity___eq__,
    B_Quantity___eq__ := (fun_mk (st := s_Quantity___eq__) hlk_Quantity___eq__ hcd_Quantity___eq__ hkp_Quantity___eq__).binds (ps := ["self", "other"]) fun _ _ _ _ _ _ us hl => match us, hl with | [_, _], _ => rfl,
    is_Quantity := ⟨⟨hcl_Quantity1, hcl_Quantity2, hcl_Quantity3, hcl_Quantity4⟩, his_Quantity1, his_Quantity2, his_Quantity3, his_Quantity4⟩,
    ki_Quantity_Quantity := hki_Quantity_Quantity,
    is_Reading := ⟨⟨hcl_Reading1, hcl_Reading2, hcl_Reading3, hcl_Reading4⟩, his_Reading1, his_Reading2, his_Reading3, his_Reading4⟩,
    ki_Reading_Quantity := hki_Reading_Quantity,
    is_Span := ⟨⟨hcl_Span1, hcl_Span2, hcl_Span3, hcl_Span4⟩, his_Span1, his_Span2, his_Span3, his_Span4⟩,
    ki_Span_Quantity := hki_Span_Quantity,
    is_Change := ⟨⟨hcl_Change1, hcl_Change2, hcl_Change3, hcl_Change4⟩, his_Change1, his_Change2, his_Change3, his_Change4⟩,
    ki_Change_Quantity := hki_Change_Quantity,
    ki_NoneType_Quantity := hki_NoneType_Quantity,
    ki_bool_Quantity := hki_bool_Quantity,
    ki_int_Quantity := hki_int_Quantity,
    ki_str_Quantity := hki_str_Quantity,
    ki_tuple_Quantity := hki_tuple_Quantity,
    ki_list_Quantity := hki_list_Quantity,
    cn_Quantity_KIND := ⟨(.str "quantity"), _, ⟨hcn_Quantity_KINDa, hcn_Quantity_KINDxr, hcn_Quantity_KINDg, hcn_Quantity_KINDc⟩, (fun _ _ => rep_str)⟩,
    cn_Reading_KIND := ⟨(.str "reading"), _, ⟨hcn_Reading_KINDa, hcn_Reading_KINDxr, hcn_Reading_KINDg, hcn_Reading_KINDc⟩, (fun _ _ => rep_str)⟩,
    cn_Span_KIND := ⟨(.str "span"), _, ⟨hcn_Span_KINDa, hcn_Span_KINDxr, hcn_Span_KINDg, hcn_Span_KINDc⟩, (fun _ _ => rep_str)⟩,
    mk_Quantity := ⟨hmk_Quantity1, hat_Quantity___init__, hfn_Quantity___init__, hmk_Quantity2⟩,
    mk_Reading := ⟨hmk_Reading1, hat_Reading_Quantity___init__, hfn_Quantity___init__, hmk_Reading2⟩,
    mk_Span := ⟨hmk_Span1, hat_Span_Quantity___init__, hfn_Quantity___init__, hmk_Span2⟩,
    f_Change_led := hf_Change_led,
    fd_Change_led := _,
    F_Change_led := fun_mk (st := s_Change_led) hlk_Change_led hcd_Change_led hkp_Change_led,
    B_Change_led := (fun_mk (st := s_Change_led) hlk_Change_led hcd_Change_led hkp_Change_led).binds (ps := ["self", "kind", "amount"]) fun _ _ _ _ _ _ us hl => match us, hl with | [_, _, _], _ => rfl,
    f_Change___call__ := hf_Change___call__,
    fd_Change___call__ := _,
    F_Change___call__ := fun_mk (st := s_Change___call__) hlk_Change___call__ hcd_Change___call__ hkp_Change___call__,
    B_Change___call__ := (fun_mk (st := s_Change___call__) hlk_Change___call__ hcd_Change___call__ hkp_Change___call__).binds (ps := ["self", "quantity"]) fun _ _ _ _ _ _ us hl => match us, hl with | [_, _], _ => rfl,
    me_Change_led := ⟨hat_Change_led, hfn_Change_led, hkp_Change_led⟩,
    f_Change___eq__ := hf_Change___eq__,
    fd_Change___eq__ := _,
    F_Change___eq__ := fun_mk (st := s_Change___eq__) hlk_Change___eq__ hcd_Change___eq__ hkp_Change___eq__,
    B_Change___eq__ := (fun_mk (st := s_Change___eq__) hlk_Change___eq__ hcd_Change___eq__ hkp_Change___eq__).binds (ps := ["self", "other"]) fun _ _ _ _ _ _ us hl => match us, hl with | [_, _], _ => rfl,
    ki_Quantity_Change := hki_Quantity_Change,
    ki_Reading_Change := hki_Reading_Change,
    ki_Span_Change := hki_Span_Change,
    ki_Change_Change := hki_Change_Change,
    ki_NoneType_Change := hki_NoneType_Change,
    ki_bool_Change := hki_bool_Change,
    ki_int_Change := hki_int_Change,
    ki_str_Change := hki_str_Change,
    ki_tuple_Change := hki_tuple_Change,
    ki_list_Change := hki_list_Change,
    f_Change___mul__ := hf_Change___mul__,
    fd_Change___mul__ := _,
    F_Change___mul__ := fun_mk (st := s_Change___mul__) hlk_Change___mul__ hcd_Change___mul__ hkp_Change___mul__,
    B_Change___mul__ := (fun_mk (st := s_Change___mul__) hlk_Change___mul__ hcd_Change___mul__ hkp_Change___mul__).binds (ps := ["self", "other"]) fun _ _ _ _ _ _ us hl => match us, hl with | [_, _], _ => rfl,
    mk_Change := ⟨hmk_Change1, hat_Change___init__, hfn_Change___init__, hmk_Change2⟩,
    f_Change___neg__ := hf_Change___neg__,
    fd_Change___neg__ := _,
    F_Change___neg__ := fun_mk (st := s_Change___neg__) hlk_Change___neg__ hcd_Change___neg__ hkp_Change___neg__,
    B_Change___neg__ := (fun_mk (st := s_Change___neg__) hlk_Change___neg__ hcd_Change___neg__ hkp_Change___neg__).binds (ps := ["self"]) fun _ _ _ _ _ _ us hl => match us, hl with | [_], _ => rfl,
    bc_Change_Mult := ⟨hbc_Change_Mult1, hbc_Change_Mult2, ⟨_, hbc_Change_Mult3⟩⟩,
    bd_Change_Mult := ⟨hbc_Change_Mult3, hfn_Change___mul__⟩,
    sp_Change___neg__ := ⟨hat_Change___neg__, hfn_Change___neg__⟩,
    sp_Change___eq__ := ⟨hat_Change___eq__, hfn_Change___eq__⟩,
    eq_Change := ⟨heq_Change1, heq_Change2⟩,
    sp_Reading___eq__ := ⟨hat_Reading_Quantity___eq__, hfn_Quantity___eq__⟩,
    eq_Reading := ⟨heq_Reading1, heq_Reading2⟩,
    sp_Span___eq__ := ⟨hat_Span_Quantity___eq__, hfn_Quantity___eq__⟩,
    eq_Span := ⟨heq_Span1, heq_Span2⟩,
    nf_Change_Change := hnf_Change_Change,
    nf_Reading_Reading := hnf_Reading_Reading,
    nf_Span_Span := hnf_Span_Span,
    pr_Change_is_still := ⟨hpf_Change_is_still, hpr_Change_is_stillg, hpr_Change_is_stillt, ⟨_, hpr_Change_is_still⟩⟩,
    co_Change := ⟨hat_Change___call__, hfn_Change___call__, hco_Change⟩ }
section
variable {P : Program} {w : World} {K : PySem.W.Frag} {mg : Str → Option Value} {base : Heap} {W : Wd}
/-! ### the world of the law's draws: its list at r, the cells at c -/
structure RngAt (r c : Addr) (H : Hp) (ns : List Int) (i g sd : Int) : Prop where
  hr : H r = some (.lst [.ref c, .int i, .int g, .int sd])
  hc : H c = some (.lst (ns.map V.int))
  ne : r ≠ c
  i0 : 0 ≤ i
  g0 : 0 ≤ g
  s0 : 0 ≤ sd
  s1 : sd < 2147483563
def rngW (r c : Addr) : Wd where
  A a := a = r ∨ a = c
  I H := ∃ ns i g sd, RngAt r c H ns i g sd
  live H a h ha := by
    obtain ⟨ns, i, g, sd, R⟩ := h
    rcases ha with rfl | rfl
    · rw [R.hr]; intro z; cases z
    · rw [R.hc]; intro z; cases z
  nx H b φ h ha z := by
    obtain ⟨ns, i, g, sd, R⟩ := h
    rcases ha with rfl | rfl
    · rw [R.hr] at z; cases z
    · rw [R.hc] at z; cases z
  stay H H' h k _ _ := by
    obtain ⟨ns, i, g, sd, R⟩ := h
    exact ⟨ns, i, g, sd, ⟨by rw [k _ (.inl rfl)]; exact R.hr, by rw [k _ (.inr rfl)]; exact R.hc, R.ne, R.i0, R.g0, R.s0, R.s1⟩⟩
def g_draw (r : Addr) (xs : List D) (Q : D → Prop) : Prop := ∃ n : Int, xs = [.hnd (.ref r), .int n] ∧ 0 < n ∧ n ≤ 1000000000 ∧ ∀ k : Int, 0 ≤ k → k < n → Q (.int k)
theorem RngAt.set {r c : Addr} {H : Hp} {ns : List Int} {i g sd : Int} (R : RngAt r c H ns i g sd) {i' g' sd' : Int} (h1 : 0 ≤ i') (h2 : 0 ≤ g') (h3 : 0 ≤ sd') (h4 : sd' < 2147483563) :
    RngAt r c (upd H r (.lst [.ref c, .int i', .int g', .int sd'])) ns i' g' sd' := ⟨upd_same, by rw [upd_ne (Ne.symm R.ne)]; exact R.hc, R.ne, h1, h2, h3, h4⟩
theorem ext_upd {r c : Addr} {H H' : Hp} {o : HO} (e : Ext (rngW r c) H H') : Ext (rngW r c) H (upd H' r o) := fun b o n h => by
  rw [upd_ne (fun z => n (.inl z))]
  exact e b o n h
theorem fm0 (a : Int) {b : Int} (hb : 0 < b) : 0 ≤ a.fmod b := by rw [Int.fmod_eq_emod_of_nonneg a (by omega)]; exact Int.emod_nonneg a (by omega)
theorem fm1 (a : Int) {b : Int} (hb : 0 < b) : a.fmod b < b := by rw [Int.fmod_eq_emod_of_nonneg a (by omega)]; exact Int.emod_lt_of_pos a hb
theorem fd0 {a b : Int} (ha : 0 ≤ a) (hb : 0 < b) : 0 ≤ a.fdiv b := by rw [Int.fdiv_eq_ediv_of_nonneg a (by omega)]; exact Int.ediv_nonneg ha (by omega)
theorem mulW_small {i j : Int} (hi : i.natAbs < 2 ^ 64) (hj : j.natAbs < 2 ^ 64) : CMulW i j := wide_mul hi hj (by decide) (by decide) (by decide)
theorem cutSeq {t u : TS} {D : Ends} {σ : L2.St} {H : Hp} (N : L2.St → Hp → Prop) (h1 : ∀ σ' H', N σ' H' → u D σ' H') (h2 : (∀ σ' H', N σ' H' → u D σ' H') → t { D with nx := u D } σ H) : tSeq t u D σ H := h2 h1
theorem ok_l_draw (T : Tx K mg) (r c : Addr) : FnOk P w K mg base CX0 1 T.f_l_draw T.fd_l_draw ["_law_rng", "_law_many"] (spD K (rngW r c) (g_draw r)) := by
  refine T.F_l_draw.ok sc_l_draw (fun vs H Q E h => ?_) (fun cdv A outer s H vs Q E hr h => ⟨_, (pss_cons (ps_if (PW.pt (pw_and (pt_cmpR op_eq (pe_ix ix_list (pv 0) pe_int (fun _ _ => rfl)) pe_int (nomark _)) (pw_and1 (pt_cmpR op_lt (pe_ix ix_list (pv 0) pe_int (fun _ _ => rfl)) (pe_callB call_len_seq (by rfl) T.n_len bt_len (pa_cons (pe_ix ix_list (pv 0) pe_int (fun _ _ => rfl)) pa_nil)) (nomark _))))) (pss_cons (ps_set (i := 3) sc_l_draw.nd rfl (by first | exact Or.inl rfl | exact Or.inr rfl) (pe_ix ix_list (pe_ix ix_list (pv 0) pe_int (fun _ _ => rfl)) (pe_ix ix_list (pv 0) pe_int (fun _ _ => rfl)) (fun _ _ => rfl))) (pss_cons (ps_asg (pe_op op_add (pe_ix ix_list (pv 0) pe_int (fun _ _ => rfl)) pe_int) (pg_sub (pv 0) pe_int set_list)) (pss_one (ps_if (PW.pt (pw_or (pt_cmpR op_ge (pv 3) (pe_op op_pow pe_int pe_int) (nomark _)) (pw_or1 (pt_cmpR op_le (pv 3) (pe_op op_sub pe_int (pe_op op_pow pe_int pe_int)) (nomark _))))) (pss_one (ps_asg (pe_callB call_abs (by rfl) T.n_abs bt_abs (pa_cons (pv 3) pa_nil)) (pg_sub (pv 0) pe_int set_list))) (pss_one (ps_asg (pe_op op_modN (pe_callTy call_int1 (by rfl) T.n_int bt_int (pa_cons (pe_op op_add (pe_op op_add (pe_op op_mulW (pe_ix ix_list (pv 0) pe_int (fun _ _ => rfl)) pe_int) (pe_op op_mulW (pe_op op_modN (pe_callTy call_int1 (by rfl) T.n_int bt_int (pa_cons (pv 3) pa_nil)) pe_int) pe_int)) (pe_ix ix_list (pv 0) pe_int (fun _ _ => rfl))) pa_nil)) pe_int) (pg_sub (pv 0) pe_int set_list))))))) pss_nil) (pss_cons (ps_if (pt_cmpR op_gt (pe_ix ix_list (pv 0) pe_int (fun _ _ => rfl)) pe_int (nomark _)) (pss_cons (ps_set (i := 4) sc_l_draw.nd rfl (by first | exact Or.inl rfl | exact Or.inr rfl) (pe_op op_modN (pe_callTy call_int1 (by rfl) T.n_int bt_int (pa_cons (pe_ix ix_list (pv 0) pe_int (fun _ _ => rfl)) pa_nil)) (pv 1))) (pss_cons (ps_asg (pe_op op_fdivN (pe_ix ix_list (pv 0) pe_int (fun _ _ => rfl)) (pv 1)) (pg_sub (pv 0) pe_int set_list)) (pss_one (ps_ret (pv 4))))) pss_nil) (pss_cons (ps_set (i := 2) sc_l_draw.nd rfl (by first | exact Or.inl rfl | exact Or.inr rfl) (pe_ix ix_list (pv 0) pe_int (fun _ _ => rfl))) (pss_cons (ps_asg (pe_op op_modN (pe_callTy call_int1 (by rfl) T.n_int bt_int (pa_cons (pe_op op_add (pe_op op_add (pe_op op_mulW (pv 2) (pv 2)) (pe_op op_mulW (pv 2) pe_int)) pe_int) pa_nil)) pe_int) (pg_sub (pv 0) pe_int set_list)) (pss_one (ps_ret (pe_op op_modN (pe_callTy call_int1 (by rfl) T.n_int bt_int (pa_cons (pe_op op_add (pe_op op_fdivN (pe_ix ix_list (pv 0) pe_int (fun _ _ => rfl)) pe_int) (pe_op op_mulW (pe_op op_modN (pe_callTy call_int1 (by rfl) T.n_int bt_int (pa_cons (pe_ix ix_list (pv 0) pe_int (fun _ _ => rfl)) pa_nil)) pe_int) pe_int)) pa_nil)) (pv 1)))))))), ?_⟩)
  · obtain ⟨M, ds, P, m, rs, ⟨n, rfl, _⟩, _⟩ := h
    rw [rs.len]
    rfl
  · obtain ⟨M, ds, P, m, rs, ⟨n, rfl, hn0, hn1, hP⟩, k⟩ := h
    obtain ⟨v1, v2, rfl, r1, r2⟩ := rs.two
    rw [r1.hnd, r2.int]
    have fin : ∀ (H' : Hp) (x : Int), Ext (rngW r c) H H' → (rngW r c).I H' → 0 ≤ x → x < n → Q (.int x) H' := fun H' x e i h0 h1 => k _ _ H' (hP x h0 h1) e i rep_int
    obtain ⟨ns, i, g, sd, R⟩ : ∃ ns i g sd, RngAt r c H ns i g sd := m.wi
    refine cutSeq (fun σ' H' => (∃ o, σ' = [some (.ref r), some (.int n), none, o, none]) ∧ Ext (rngW r c) H H' ∧ (rngW r c).I H') ?_ (fun rest => ?_)
    · rintro σ' H' ⟨⟨o, rfl⟩, e, ns, i, g, sd, R⟩
      have hsd : sd.natAbs < 2 ^ 64 := by have h0 := R.s0; have h1 := R.s1; omega
      refine ⟨_, rfl, r, _, _, _, rfl, rfl, SqL.of R.hr, rfl, _, _, rfl, rfl, _, rfl, vifd (fun hg => ?_) (fun hg => ?_)⟩
      · -- a digit of a great cell
        refine ⟨_, rfl, r, _, _, _, rfl, rfl, SqL.of R.hr, rfl, .inl ⟨_, rfl, _, rfl, _, _, rfl, rfl, by omega, ?_⟩⟩
        refine ⟨_, rfl, r, _, _, _, rfl, rfl, SqL.of R.hr, rfl, _, rfl, _, _, rfl, rfl, ⟨by omega, by omega⟩, _, rfl, r, _, _, _, rfl, rfl, R.hr, rfl, ?_⟩
        refine ⟨_, rfl, fin _ _ (ext_upd e) ⟨ns, i, _, sd, R.set R.i0 (fd0 R.g0 hn0) R.s0 R.s1⟩ (fm0 _ hn0) (fm1 _ hn0)⟩
      · refine ⟨_, rfl, r, _, _, _, rfl, rfl, SqL.of R.hr, rfl, ?_⟩
        refine ⟨_, rfl, _, rfl, _, _, rfl, rfl, mulW_small hsd hsd, _, rfl, _, _, rfl, rfl, mulW_small hsd (by decide), _, _, rfl, rfl, _, _, rfl, rfl, .inl ⟨_, rfl, _, _, rfl, rfl, (show (2147483563 : Int) ≠ 0 by decide), _, rfl, r, _, _, _, rfl, rfl, R.hr, rfl, ?_⟩⟩
        have R2 := R.set (i' := i) (g' := g) (sd' := (sd * sd + sd * 40123 + 70001).fmod 2147483563) R.i0 R.g0 (fm0 _ (by decide)) (fm1 _ (by decide))
        have h0 := R2.s0
        have h1 := R2.s1
        refine ⟨_, rfl, r, _, _, _, rfl, rfl, SqL.of R2.hr, rfl, _, _, rfl, rfl, ⟨show (59 : Int) ≠ 0 by decide, by decide⟩, _, rfl, r, _, _, _, rfl, rfl, SqL.of R2.hr, rfl, .inl ⟨_, rfl, _, _, rfl, rfl, (show (8111 : Int) ≠ 0 by decide), _, _, rfl, rfl, ?_, _, _, rfl, rfl, .inl ⟨_, rfl, _, rfl, _, _, rfl, rfl, by omega, ?_⟩⟩⟩
        · have z0 := fm0 ((sd * sd + sd * 40123 + 70001).fmod 2147483563) (b := 8111) (by decide)
          have z1 := fm1 ((sd * sd + sd * 40123 + 70001).fmod 2147483563) (b := 8111) (by decide)
          exact mulW_small (by omega) (by decide)
        · exact fin _ _ (ext_upd e) ⟨ns, i, g, _, R2⟩ (fm0 _ hn0) (fm1 _ hn0)
    · refine ⟨_, rfl, r, _, _, _, rfl, rfl, SqL.of R.hr, rfl, rfl, _, rfl, vif (fun hg => ?_) (fun hg => ?_)⟩
      · refine ⟨_, rfl, r, _, _, _, rfl, rfl, SqL.of R.hr, rfl, _, rfl, r, _, _, _, rfl, rfl, SqL.of R.hr, rfl, c, _, rfl, .inl (SqL.of R.hc), _, _, rfl, rfl, _, rfl, vifd (fun hi => ?_) (fun hi => ?_)⟩
        · rw [List.length_map] at hi
          obtain ⟨x, hx⟩ := get_lt (xs := ns) (i := i.toNat) (by have := R.i0; omega)
          have hat : atI (ns.map V.int) i = some (.int x) := by
            have e := atI_nat (xs := ns.map V.int) (j := i.toNat) (v := .int x) (by rw [List.getElem?_map, hx]; rfl)
            rw [show ((i.toNat : Nat) : Int) = i by have := R.i0; omega] at e
            exact e
          refine ⟨_, rfl, r, _, _, _, rfl, rfl, SqL.of R.hr, rfl, _, rfl, r, _, _, _, rfl, rfl, SqL.of R.hr, rfl, c, _, _, _, rfl, rfl, SqL.of R.hc, hat, ?_⟩
          refine ⟨_, rfl, r, _, _, _, rfl, rfl, SqL.of R.hr, rfl, _, _, rfl, rfl, _, rfl, r, _, _, _, rfl, rfl, R.hr, rfl, ?_⟩
          have R2 := R.set (i' := i + 1) (g' := g) (sd' := sd) (by have := R.i0; omega) R.g0 R.s0 R.s1
          have e1 : Ext (rngW r c) H (upd H r (.lst [.ref c, .int (i + 1), .int g, .int sd])) := ext_upd (Ext.refl H)
          have p10 : CPow 10 18 := ⟨by decide, by decide, by decide⟩
          refine ⟨_, rfl, _, _, rfl, rfl, p10, _, _, rfl, rfl, _, rfl, vifd (fun h1 => ?_) (fun h1 => ?_)⟩
          · refine ⟨_, rfl, _, rfl, _, rfl, r, _, _, _, rfl, rfl, R2.hr, rfl, ?_⟩
            exact rest _ _ ⟨⟨_, rfl⟩, ext_upd e1, ns, _, _, _, R2.set R2.i0 (by show 0 ≤ (if x < 0 then -x else x); split <;> omega) R2.s0 R2.s1⟩
          · refine ⟨_, rfl, _, _, rfl, rfl, p10, _, _, rfl, rfl, _, _, rfl, rfl, _, rfl, vifd (fun h2 => ?_) (fun h2 => ?_)⟩
            · refine ⟨_, rfl, _, rfl, _, rfl, r, _, _, _, rfl, rfl, R2.hr, rfl, ?_⟩
              exact rest _ _ ⟨⟨_, rfl⟩, ext_upd e1, ns, _, _, _, R2.set R2.i0 (by show 0 ≤ (if x < 0 then -x else x); split <;> omega) R2.s0 R2.s1⟩
            · have hsd : sd.natAbs < 2 ^ 64 := by have h0 := R.s0; have h1 := R.s1; omega
              have z0 := fm0 x (b := 2147483563) (by decide)
              have z1 := fm1 x (b := 2147483563) (by decide)
              refine ⟨_, rfl, r, _, _, _, rfl, rfl, SqL.of R2.hr, rfl, _, _, rfl, rfl, mulW_small hsd (by decide), _, rfl, .inl ⟨_, rfl, _, _, rfl, rfl, (show (2147483563 : Int) ≠ 0 by decide), _, _, rfl, rfl, mulW_small (by omega) (by decide), _, _, rfl, rfl, ?_⟩⟩
              refine ⟨_, rfl, r, _, _, _, rfl, rfl, SqL.of R2.hr, rfl, _, _, rfl, rfl, .inl ⟨_, rfl, _, _, rfl, rfl, (show (2147483563 : Int) ≠ 0 by decide), _, rfl, r, _, _, _, rfl, rfl, R2.hr, rfl, ?_⟩⟩
              exact rest _ _ ⟨⟨_, rfl⟩, ext_upd e1, ns, _, _, _, R2.set R2.i0 R2.g0 (fm0 _ (by decide)) (fm1 _ (by decide))⟩
        · exact rest _ _ ⟨⟨none, rfl⟩, Ext.refl H, ns, i, g, sd, R⟩
      · exact rest _ _ ⟨⟨none, rfl⟩, Ext.refl H, ns, i, g, sd, R⟩
/-- _law_source: the world of the draws is made -/
def spSource (K : PySem.W.Frag) : Sp := fun vs H Q _ => ∃ (a : Addr) (ns : List Int), vs = [.ref a] ∧ SqL K H a (ns.map V.int) ∧ ns.length ≤ 63 ∧
  ∀ (H' : Hp) (r c : Addr), H r = none → H c = none → Same H H' → (rngW r c).I H' → Q (.ref r) H'
theorem cut_ints (ns : List Int) (lo hi : Option Int) : cutV (ns.map V.int) lo hi = (((ns.drop (HT.sIx ns.length 0 lo)).take (HT.sIx ns.length ns.length hi - HT.sIx ns.length 0 lo)).map V.int) := by
  unfold cutV
  rw [List.length_map, List.map_take, List.map_drop]
theorem same_put {H H' : Hp} {p : Addr} {o : HO} (e : Same H H') (h : H' p = none) : Same H (upd H' p o) := fun b u q => by
  have z := e b u q
  rw [upd_ne (ne_of_none z h)]
  exact z
theorem ok_l_source (T : Tx K mg) : FnOk P w K mg base CX0 1 T.f_l_source T.fd_l_source ["_law_script"] (spSource K) := by
  refine T.F_l_source.ok sc_l_source (fun vs H Q E h => ?_) (fun cdv A outer s H vs Q E hr h => ⟨_, (pss_cons (ps_set (i := 1) sc_l_source.nd rfl (by first | exact Or.inl rfl | exact Or.inr rfl) (pe_op op_add pe_int (pe_op op_mulW pe_int (pe_callB call_len_seq (by rfl) T.n_len bt_len (pa_cons (pe_slice sl_list (pv 0) po_none (po_some pe_int)) pa_nil))))) (pss_cons (ps_for PassesOwn.never rfl (pi_list (pe_slice sl_list (pv 0) po_none (po_some pe_int))) (pg_name (i := 2) sc_l_source.nd rfl (by first | exact Or.inl rfl | exact Or.inr rfl)) (pss_one (ps_set (i := 1) sc_l_source.nd rfl (by first | exact Or.inl rfl | exact Or.inr rfl) (pe_op op_modN (pe_callTy call_int1 (by rfl) T.n_int bt_int (pa_cons (pe_op op_add (pe_op op_add (pe_op op_mulW (pv 1) pe_int) (pe_op op_modN (pe_callTy call_int1 (by rfl) T.n_int bt_int (pa_cons (pv 2) pa_nil)) pe_int)) pe_int) pa_nil)) pe_int)))) (pss_one (ps_ret (pe_lst (pa_cons (pe_callTy call_list_of (by rfl) T.n_list bt_list (pa_cons (pe_slice sl_list (pv 0) po_none (po_some pe_int)) pa_nil)) (pa_cons pe_int (pa_cons pe_int (pa_cons (pv 1) pa_nil))))))))), ?_⟩)
  · obtain ⟨a, ns, rfl, _⟩ := h
    rfl
  · obtain ⟨a, ns, rfl, hS, hl, k⟩ := h
    have hcut : ∀ ns : List Int, ns.length ≤ 63 → ∀ lo hi, ∃ ms : List Int, cutV (ns.map V.int) lo hi = ms.map V.int ∧ ms.length ≤ 63 := fun ns hl lo hi => by
      refine ⟨_, cut_ints ns lo hi, ?_⟩
      rw [List.length_take, List.length_drop]
      omega
    obtain ⟨ms, hms, hml⟩ := hcut ns hl none (some 63)
    refine ⟨_, rfl, 63, rfl, a, _, rfl, hS, fun p1 hp1 => ?_⟩
    rw [hms]
    refine ⟨p1, _, rfl, .inl (SqL.of upd_same), _, _, rfl, rfl, ?_, _, _, rfl, rfl, ?_⟩
    · rw [List.length_map]
      exact mulW_small (by decide) (by omega)
    have S1 : Same H (upd H p1 (.lst (ms.map V.int))) := same_put (Same.refl H) hp1
    refine ⟨_, rfl, 63, rfl, a, _, rfl, S1.seq hS, fun p2 hp2 => ?_⟩
    rw [hms]
    have S2 := same_put (o := .lst (ms.map V.int)) S1 hp2
    refine ⟨p2, rfl, ⟨_, SqL.of upd_same⟩, for_list (K := K) (a := p2) (xs := ms.map V.int) (fun i σ H' => H' = upd (upd H p1 (.lst (ms.map V.int))) p2 (.lst (ms.map V.int)) ∧ ∃ (sd : Int) (o : Option V), σ = [some (.ref a), some (.int sd), o] ∧ 0 ≤ sd ∧ sd < 2147483563) ?_ ?_ ?_ ?_⟩
    · refine ⟨rfl, _, none, rfl, ?_, ?_⟩
      · rw [List.length_map]; omega
      · rw [List.length_map]; omega
    · rintro i σ H' _ ⟨rfl, _⟩
      exact SqL.of upd_same
    · rintro i x σ H' hx ⟨rfl, sd, o, rfl, h0, h1⟩
      rw [List.getElem?_map] at hx
      cases e : ms[i]? with
      | none => rw [e] at hx; cases hx
      | some z =>
        rw [e] at hx
        cases hx
        have z0 := fm0 z (b := 2147483563) (by decide)
        have z1 := fm1 z (b := 2147483563) (by decide)
        refine ⟨_, rfl, _, _, rfl, rfl, mulW_small (by omega) (by decide), _, rfl, .inl ⟨_, rfl, _, _, rfl, rfl, (show (2147483563 : Int) ≠ 0 by decide), _, _, rfl, rfl, _, _, rfl, rfl, .inl ⟨_, rfl, _, _, rfl, rfl, (show (2147483563 : Int) ≠ 0 by decide), ?_⟩⟩⟩
        exact ⟨rfl, _, _, rfl, fm0 _ (by decide), fm1 _ (by decide)⟩
    · rintro σ H' ⟨rfl, sd, o, rfl, h0, h1⟩
      refine ⟨_, rfl, 63, rfl, a, _, rfl, S2.seq hS, fun p3 hp3 => ?_⟩
      rw [hms]
      have S3 := same_put (o := .lst (ms.map V.int)) S2 hp3
      refine ⟨p3, _, rfl, .inl (SqL.of upd_same), fun c hc => ⟨_, rfl, (by show 4 ≤ sizeLine; decide), fun r hr => ?_⟩⟩
      have S4 := same_put (o := .lst (ms.map V.int)) S3 hc
      have hcr : c ≠ r := ne_of_none upd_same hr
      refine k _ r c (S4.free hr) (S3.free hc) (same_put S4 hr) ⟨ms, 0, 0, sd, upd_same, ?_, Ne.symm hcr, Int.le_refl _, Int.le_refl _, h0, h1⟩
      rw [upd_ne hcr]
      exact upd_same
theorem pss_ex2 {X : Cx} {st : List Stmt} {t : Addr → Addr → TS} (h : ∀ r c, PSs X st (t r c)) : PSs X st (fun D σ H => ∃ r c, t r c D σ H) := ⟨fun pins s σ H D I ⟨r, c, hw⟩ => (h r c).run pins s σ H D I hw⟩
theorem sat_one {K : PySem.W.Frag} {W : Wd} {M : Addr → Prop} {H : Hp} {σ : L2.St} {i : Nat} {v : V} (m : MOk W M H) (hm : ∀ a, W.Mf a → M a) (hh : Ext W W.Hf H) (h : σ[i]? = some (some v)) : Sat K W M H (fun _ => none) H σ ((List.replicate σ.length Sl.un).set i (.d (.hnd v))) := by
  refine ⟨m.wm, m.live, Ext.refl H, m.wi, fun i a h => (by cases h), fun i j a h => (by cases h), by simp, fun i _ => rfl, fun j s hj => ?_, hm, hh, fun a h => W.liveB _ _ m.wi h, m.nb, m.nx⟩
  by_cases e : j = i
  · subst e
    have hl : j < σ.length := (List.getElem?_eq_some_iff.mp h).1
    rw [List.getElem?_set_self (by simpa using hl)] at hj
    cases hj
    exact ⟨rfl, v, h, rep_hnd⟩
  · rw [List.getElem?_set_ne (Ne.symm e), List.getElem?_replicate] at hj
    split at hj
    · cases hj; rfl
    · cases hj
theorem law_go {K : PySem.W.Frag} {r c : Addr} {H : Hp} {Q : VK} {σ : L2.St} {i : Nat} {w : WS} (I : (rngW r c).I H) (h : σ[i]? = some (some (.ref r))) (hQ : ∀ H', Q (.bl true) H')
    (hw : w (endsD fun d => d = .bl true) ((List.replicate σ.length Sl.un).set i (.d (.hnd (.ref r))))) : LS K (rngW r c) w { nx := fun _ H' => Q .non H', rt := Q } σ H := by
  refine ⟨fun a => a = r ∨ a = c, H, fun _ => none, _, _, sat_one ⟨fun a h => h, fun a ha => (rngW r c).live H a I ha, I, fun _ _ z => z, fun a φ ha => (rngW r c).nx H a φ I ha⟩ (fun _ z => z.elim) (fun _ _ _ z => by cases z) h, hw, fun ds' oa' σ' H' hn _ => ?_, fun d v H' hd _ _ rr => ?_, fun _ _ _ _ z => z.elim, fun _ _ _ _ z => z.elim⟩
  · cases hn
  · cases hd
    rw [rr.bl]
    exact hQ H'
def spLaw (K : PySem.W.Frag) : Sp := fun vs H Q _ => ∃ (a : Addr) (ns : List Int), vs = [.ref a] ∧ SqL K H a (ns.map V.int) ∧ ns.length ≤ 63 ∧ ∀ H', Q (.bl true) H'
/-! ### _law_same: equal data is found equal -/
def g_same (n : Nat) (xs : List D) (Q : D → Prop) : Prop := ∃ d, xs = [d, d] ∧ okD n d = true ∧ Q (.bl true)
theorem same_step (T : Tx K mg) (n : Nat) (ih : ∀ (W : Wd) m, n = m + 1 → FnOk P w K mg base CX0 (m + 1) T.f_l_same T.fd_l_same ["_law_result", "_law_expected"] (spD K W (g_same m))) :
    FnOk P w K mg base CX0 (n + 1) T.f_l_same T.fd_l_same ["_law_result", "_law_expected"] (spD K W (g_same n)) := by
  cases n with
  | zero =>
    refine vfn T.F_l_same sc_l_same (fun ds Q h => ?_) ⟨_, fun cdv A outer s H E hr => (vss_cons (vs_if (vt_cmp op_isN lift_isN (ve_var 1) ve_non (nomark _)) (vss_one (vs_ret (ve_cmp op_isN lift_isN (ve_var 0) ve_non (nomark _)))) vss_nil) (vss_cons (vs_if (vt_w (vw_or (vt_val (ve_isi .list (by rfl) T.n_isinstance bt_isinstance (ve_var 1) (by rfl) T.n_list bt_list)) (vw_or1 (vt_val (ve_isi .tuple (by rfl) T.n_isinstance bt_isinstance (ve_var 1) (by rfl) T.n_tuple bt_tuple))))) (vss_cons (vs_set 2 sc_l_same.nd (ve_if (vt_val (ve_isi .list (by rfl) T.n_isinstance bt_isinstance (ve_var 1) (by rfl) T.n_list bt_list)) (ve_isi .list (by rfl) T.n_isinstance bt_isinstance (ve_var 0) (by rfl) T.n_list bt_list) (ve_isi .tuple (by rfl) T.n_isinstance bt_isinstance (ve_var 0) (by rfl) T.n_tuple bt_tuple))) (vss_one (vs_ret (ve_and (ve_var 2) (ve_and (ve_cmp (op_eqA hr.units) lift_eq (ve_callB call_len lift_len (by rfl) T.n_len bt_len (va_cons (ve_var 0) va_nil)) (ve_callB call_len lift_len (by rfl) T.n_len bt_len (va_cons (ve_var 1) va_nil)) (nomark _)) (ve_one (ve_callB (cr_all (by rfl)) lift_all (by rfl) T.n_all bt_all (va_cons (ve_lc (own := [("_law_a", 3), ("_law_b", 4)]) rfl sc_l_same.nd (vi_zipK (by rfl) T.n_zip (ve_var 0) (ve_var 1)) (blkOk_by (N := ["_law_result", "_law_expected", "_law_kind_so", "_law_a", "_law_b"]) (sc := defScope s_l_same) (by decide +kernel)) (fun _ _ _ _ _ => (vg_tup (n := 2) rfl (vgs_cons (vg_name 3 sc_l_same.nd (by decide)) (vgs_cons (vg_name 4 sc_l_same.nd (by decide)) vgs_nil)))) (fun _ _ _ _ _ => vts_nil) (fun _ _ _ _ _ => ve_never)) va_nil)))))))) vss_nil) (vss_cons (vs_if (vt_val (ve_isi .bool (by rfl) T.n_isinstance bt_isinstance (ve_var 1) (by rfl) T.n_bool bt_bool)) (vss_one (vs_ret (ve_and (ve_isi .bool (by rfl) T.n_isinstance bt_isinstance (ve_var 0) (by rfl) T.n_bool bt_bool) (ve_one (ve_cmp (op_eqA hr.units) lift_eq (ve_var 0) (ve_var 1) (nomark _)))))) vss_nil) (vss_cons (vs_if (vt_val (ve_isi .int (by rfl) T.n_isinstance bt_isinstance (ve_var 1) (by rfl) T.n_int bt_int)) (vss_one (vs_ret (ve_and (ve_isi .int (by rfl) T.n_isinstance bt_isinstance (ve_var 0) (by rfl) T.n_int bt_int) (ve_and (ve_not (ve_isi .bool (by rfl) T.n_isinstance bt_isinstance (ve_var 0) (by rfl) T.n_bool bt_bool)) (ve_one (ve_cmp (op_eqA hr.units) lift_eq (ve_var 0) (ve_var 1) (nomark _))))))) vss_nil) (vss_one (vs_ret (ve_and (ve_isi .str (by rfl) T.n_isinstance bt_isinstance (ve_var 0) (by rfl) T.n_str bt_str) (ve_one (ve_cmp (op_eqA hr.units) lift_eq (ve_var 0) (ve_var 1) (nomark _)))))))))), fun ds Q h => ?_⟩
    · obtain ⟨d, rfl, _⟩ := h
      rfl
    · obtain ⟨d, rfl, h1, h⟩ := h
      cases d with
      | non => exact h
      | bl b => exact ⟨rfl, rfl, rfl, rfl, by show Q (.bl (decide (b = b))); rw [decide_eq_true rfl]; exact h⟩
      | int b => exact ⟨rfl, rfl, rfl, rfl, rfl, rfl, by show Q (.bl (decide (b = b))); rw [decide_eq_true rfl]; exact h⟩
      | str b => exact ⟨rfl, rfl, rfl, rfl, rfl, by show Q (.bl (decide (b = b))); rw [decide_eq_true rfl]; exact h⟩
      | hnd v => cases h1
      | dic _ _ => cases h1
      | ins _ _ _ => cases h1
      | lam _ _ => cases h1
      | tup ds => cases h1
      | lst ds => cases h1
  | succ n =>
    have ih := ih W.pl n rfl
    refine vfn T.F_l_same sc_l_same (fun ds Q h => ?_) ⟨_, fun cdv A outer s H E hr => (vss_cons (vs_if (vt_cmp op_isN lift_isN (ve_var 1) ve_non (nomark _)) (vss_one (vs_ret (ve_cmp op_isN lift_isN (ve_var 0) ve_non (nomark _)))) vss_nil) (vss_cons (vs_if (vt_w (vw_or (vt_val (ve_isi .list (by rfl) T.n_isinstance bt_isinstance (ve_var 1) (by rfl) T.n_list bt_list)) (vw_or1 (vt_val (ve_isi .tuple (by rfl) T.n_isinstance bt_isinstance (ve_var 1) (by rfl) T.n_tuple bt_tuple))))) (vss_cons (vs_set 2 sc_l_same.nd (ve_if (vt_val (ve_isi .list (by rfl) T.n_isinstance bt_isinstance (ve_var 1) (by rfl) T.n_list bt_list)) (ve_isi .list (by rfl) T.n_isinstance bt_isinstance (ve_var 0) (by rfl) T.n_list bt_list) (ve_isi .tuple (by rfl) T.n_isinstance bt_isinstance (ve_var 0) (by rfl) T.n_tuple bt_tuple))) (vss_one (vs_ret (ve_and (ve_var 2) (ve_and (ve_cmp (op_eqA hr.units) lift_eq (ve_callB call_len lift_len (by rfl) T.n_len bt_len (va_cons (ve_var 0) va_nil)) (ve_callB call_len lift_len (by rfl) T.n_len bt_len (va_cons (ve_var 1) va_nil)) (nomark _)) (ve_one (ve_callB (cr_all (by rfl)) lift_all (by rfl) T.n_all bt_all (va_cons (ve_lc (own := [("_law_a", 3), ("_law_b", 4)]) rfl sc_l_same.nd (vi_zipK (by rfl) T.n_zip (ve_var 0) (ve_var 1)) (blkOk_by (N := ["_law_result", "_law_expected", "_law_kind_so", "_law_a", "_law_b"]) (sc := defScope s_l_same) (by decide +kernel)) (fun _ _ _ _ _ => (vg_tup (n := 2) rfl (vgs_cons (vg_name 3 sc_l_same.nd (by decide)) (vgs_cons (vg_name 4 sc_l_same.nd (by decide)) vgs_nil)))) (fun _ _ _ _ _ => vts_nil) (fun _ _ _ _ _ => (ve_call ih hr (by rfl) T.g_l_same T.F_l_same.kp T.B_l_same .nil pass0 (fun _ _ => reps_nil) (va_cons (ve_var 3) (va_cons (ve_var 4) va_nil))))) va_nil)))))))) vss_nil) (vss_cons (vs_if (vt_val (ve_isi .bool (by rfl) T.n_isinstance bt_isinstance (ve_var 1) (by rfl) T.n_bool bt_bool)) (vss_one (vs_ret (ve_and (ve_isi .bool (by rfl) T.n_isinstance bt_isinstance (ve_var 0) (by rfl) T.n_bool bt_bool) (ve_one (ve_cmp (op_eqA hr.units) lift_eq (ve_var 0) (ve_var 1) (nomark _)))))) vss_nil) (vss_cons (vs_if (vt_val (ve_isi .int (by rfl) T.n_isinstance bt_isinstance (ve_var 1) (by rfl) T.n_int bt_int)) (vss_one (vs_ret (ve_and (ve_isi .int (by rfl) T.n_isinstance bt_isinstance (ve_var 0) (by rfl) T.n_int bt_int) (ve_and (ve_not (ve_isi .bool (by rfl) T.n_isinstance bt_isinstance (ve_var 0) (by rfl) T.n_bool bt_bool)) (ve_one (ve_cmp (op_eqA hr.units) lift_eq (ve_var 0) (ve_var 1) (nomark _))))))) vss_nil) (vss_one (vs_ret (ve_and (ve_isi .str (by rfl) T.n_isinstance bt_isinstance (ve_var 0) (by rfl) T.n_str bt_str) (ve_one (ve_cmp (op_eqA hr.units) lift_eq (ve_var 0) (ve_var 1) (nomark _)))))))))), fun ds Q h => ?_⟩
    · obtain ⟨d, rfl, _⟩ := h
      rfl
    · obtain ⟨d, rfl, h1, h⟩ := h
      cases d with
      | non => exact h
      | bl b => exact ⟨rfl, rfl, rfl, rfl, by show Q (.bl (decide (b = b))); rw [decide_eq_true rfl]; exact h⟩
      | int b => exact ⟨rfl, rfl, rfl, rfl, rfl, rfl, by show Q (.bl (decide (b = b))); rw [decide_eq_true rfl]; exact h⟩
      | str b => exact ⟨rfl, rfl, rfl, rfl, rfl, by show Q (.bl (decide (b = b))); rw [decide_eq_true rfl]; exact h⟩
      | hnd v => cases h1
      | dic _ _ => cases h1
      | ins _ _ _ => cases h1
      | lam _ _ => cases h1
      | tup ds =>
        obtain ⟨hl, ha⟩ := Bool.and_eq_true_iff.mp h1
        have hl := of_decide_eq_true hl
        have ha := List.all_eq_true.mp ha
        refine ⟨rfl, rfl, rfl, rfl, ?_⟩
        refine vifd (fun _ => ?_) (fun e => absurd rfl e)
        refine ⟨rfl, hl, ?_⟩
        refine lcF (fun _ => .bl true) (fun d hd R hR => ?_) ?_
        · obtain ⟨x, hx, rfl⟩ := zips_same hd
          exact ⟨rfl, x, rfl, ha x hx, hR⟩
        · refine ⟨(zipsD ds ds).map fun _ => true, by rw [List.map_map]; rfl, ?_⟩
          rw [all_const]
          exact h
      | lst ds =>
        obtain ⟨hl, ha⟩ := Bool.and_eq_true_iff.mp h1
        have hl := of_decide_eq_true hl
        have ha := List.all_eq_true.mp ha
        refine ⟨rfl, rfl, rfl, ?_⟩
        refine vifd (fun _ => ?_) (fun e => absurd rfl e)
        refine ⟨rfl, hl, ?_⟩
        refine lcF (fun _ => .bl true) (fun d hd R hR => ?_) ?_
        · obtain ⟨x, hx, rfl⟩ := zips_same hd
          exact ⟨rfl, x, rfl, ha x hx, hR⟩
        · refine ⟨(zipsD ds ds).map fun _ => true, by rw [List.map_map]; rfl, ?_⟩
          rw [all_const]
          exact h
theorem ok_l_same' (T : Tx K mg) : ∀ (n : Nat) (W : Wd), FnOk P w K mg base CX0 (n + 1) T.f_l_same T.fd_l_same ["_law_result", "_law_expected"] (spD K W (g_same n))
  | 0, _ => same_step T 0 fun _ m h => absurd h (by omega)
  | n + 1, _ => same_step T (n + 1) fun W m h => by
    have e : m = n := by omega
    subst e
    exact ok_l_same' T m W
theorem ok_l_same (T : Tx K mg) (n : Nat) : FnOk P w K mg base CX0 (n + 1) T.f_l_same T.fd_l_same ["_law_result", "_law_expected"] (spD K W (g_same n)) := ok_l_same' T n W
def chD : D → (D → Prop) → Prop
  | .lst ds, Q => 0 < ds.length ∧ ds.length ≤ 1000000 ∧ ∀ d ∈ ds, Q d
  | .str z, Q => 0 < z.length ∧ z.length ≤ 1000000 ∧ ∀ c ∈ z.cps.toList, Q (.str ⟨#[c]⟩)
  | _, _ => False
def g_choice (r : Addr) (xs : List D) (Q : D → Prop) : Prop := ∃ x, xs = [.hnd (.ref r), x] ∧ chD x Q
theorem ok_l_choice (T : Tx K mg) (r c : Addr) : FnOk P w K mg base CX0 2 T.f_l_choice T.fd_l_choice ["_law_rng", "_law_some"] (spD K (rngW r c) (g_choice r)) := by
  refine vfn T.F_l_choice sc_l_choice (fun ds Q h => ?_) ⟨_, fun cdv A outer s H E hr => (vss_one (vs_ret (ve_ixA hr.units (ve_var 1) (ve_call (ok_l_draw T r c) (hr.mono (by decide)) (by rfl) T.g_l_draw T.F_l_draw.kp T.B_l_draw .nil pass0 (fun _ _ => reps_nil) (va_cons (ve_var 0) (va_cons (ve_callB call_len lift_len (by rfl) T.n_len bt_len (va_cons (ve_var 1) va_nil)) va_nil)))))), fun ds Q h => ?_⟩
  · obtain ⟨d, rfl, _⟩ := h
    rfl
  · obtain ⟨x, rfl, h⟩ := h
    cases x <;> first | exact h.elim | skip
    · rename_i z
      obtain ⟨h0, h1, h⟩ := h
      refine ⟨(by rw [sizeLine_eq]; omega), (z.length : Int), rfl, by omega, by omega, fun k k0 k1 => ⟨(by rw [sizeLine_eq]; omega), ?_⟩⟩
      have hl : z.cps.toList.length = z.length := by simp [Str.length]
      obtain ⟨x, hx⟩ := get_lt (xs := z.cps.toList) (i := k.toNat) (by omega)
      have e := atI_nat hx
      rw [show ((k.toNat : Nat) : Int) = k by omega] at e
      exact ⟨x, e, h x (List.mem_of_getElem? hx)⟩
    · rename_i xs
      obtain ⟨h0, h1, h⟩ := h
      refine ⟨(xs.length : Int), rfl, by omega, by omega, fun k k0 k1 => ?_⟩
      obtain ⟨x, hx⟩ := get_lt (xs := xs) (i := k.toNat) (by omega)
      have e := atI_nat hx
      rw [show ((k.toNat : Nat) : Int) = k by omega] at e
      exact ⟨x, e, h x (List.mem_of_getElem? hx)⟩
def g_divisor (xs : List D) (Q : D → Prop) : Prop := ∃ a b : Int, xs = [.int a, .int b] ∧ Q (.int (Int.gcd a b))
theorem ok_l_divisor (T : Tx K mg) : FnOk P w K mg base CX0 1 T.f_l_divisor T.fd_l_divisor ["_law_one", "_law_other"] (spD K W g_divisor) := by
  refine vfn T.F_l_divisor sc_l_divisor (fun ds Q h => ?_) ⟨_, fun cdv A outer s H E hr => (vss_cons (vs_par 0 1 rfl sc_l_divisor.nd (by decide) (ve_callB call_abs lift_abs (by rfl) T.n_abs bt_abs (va_cons (ve_var 0) va_nil)) (ve_callB call_abs lift_abs (by rfl) T.n_abs bt_abs (va_cons (ve_var 1) va_nil))) (vss_cons (vs_while PassesOwn.never (vt_cmp (op_neA hr.units) lift_ne (ve_var 1) ve_int (nomark _)) (vss_one (vs_par 0 1 rfl sc_l_divisor.nd (by decide) (ve_var 1) (ve_mod (ve_callTy call_int1 lift_int (by rfl) T.n_int bt_int (va_cons (ve_var 0) va_nil)) (ve_var 1))))) (vss_one (vs_ret (ve_var 0))))), fun ds Q h => ?_⟩
  · obtain ⟨a, b, rfl, _⟩ := h
    rfl
  · obtain ⟨a, b, rfl, h⟩ := h
    refine ⟨fun m ds => ∃ x y : Int, ds = [.d (.int x), .d (.int y)] ∧ 0 ≤ x ∧ 0 ≤ y ∧ m = y.toNat ∧ Int.gcd x y = Int.gcd a b, ⟨_, iabs a, iabs b, rfl, iabs_nonneg a, iabs_nonneg b, rfl, gcd_abs a b⟩, ?_⟩
    rintro m ds ⟨x, y, rfl, hx, hy, rfl, e⟩
    refine vifn (fun h0 => ⟨h0, ?_⟩) (fun h0 => ?_)
    · have hm := fm0 x (show 0 < y by omega)
      have hl := fm1 x (show 0 < y by omega)
      exact ⟨_, by omega, _, _, rfl, hy, hm, rfl, (gcd_step hx hy).trans e⟩
    · subst h0
      rw [← e, gcd_zero hx] at h
      exact h
def g_ratio (xs : List D) (Q : D → Prop) : Prop := ∃ t b : Int, xs = [.int t, .int b] ∧ b ≠ 0 ∧ b.natAbs < 2 ^ 9000 ∧ Q (ratD t b)
theorem ok_l_ratio (T : Tx K mg) : FnOk P w K mg base CX0 2 T.f_l_ratio T.fd_l_ratio ["_law_top", "_law_bottom"] (spD K W g_ratio) := by
  refine vfn T.F_l_ratio sc_l_ratio (fun ds Q h => ?_) ⟨_, fun cdv A outer s H E hr => (vss_cons (vs_set 2 sc_l_ratio.nd (ve_call (ok_l_divisor T) (hr.mono (by decide)) (by rfl) T.g_l_divisor T.F_l_divisor.kp T.B_l_divisor .nil pass0 (fun _ _ => reps_nil) (va_cons (ve_var 0) (va_cons (ve_var 1) va_nil)))) (vss_cons (vs_set 2 sc_l_ratio.nd (ve_if (vt_cmp op_gt lift_iib (ve_var 1) ve_int (nomark _)) (ve_var 2) (ve_sub ve_int (ve_var 2)))) (vss_one (vs_ret (ve_tup (va_cons (ve_fdiv (ve_var 0) (ve_var 2)) (va_cons (ve_fdiv (ve_var 1) (ve_var 2)) va_nil))))))), fun ds Q h => ?_⟩
  · obtain ⟨a, b, rfl, _⟩ := h
    rfl
  · obtain ⟨t, b, rfl, hb, hl, h⟩ := h
    refine ⟨t, b, rfl, ?_⟩
    have d1 := ratK_div (t := t) hb hl t
    have d2 := ratK_div (t := t) hb hl b
    have fin : Q (.tup [.int (t.fdiv (ratK t b)), .int (b.fdiv (ratK t b))]) := h
    refine vifd (fun h0 => ?_) (fun h0 => ?_)
    · have ek : ratK t b = ((Int.gcd t b : Nat) : Int) := by unfold ratK; rw [if_pos h0]
      rw [ek] at d1 d2 fin
      exact ⟨d1, d2, Nat.le_of_ble_eq_true rfl, fin⟩
    · have ek : ratK t b = 0 - ((Int.gcd t b : Nat) : Int) := by unfold ratK; rw [if_neg h0]
      rw [ek] at d1 d2 fin
      exact ⟨d1, d2, Nat.le_of_ble_eq_true rfl, fin⟩
/-- a drawn amount, by its size -/
def g_some (r : Addr) (n : Nat) (xs : List D) (Q : D → Prop) : Prop := xs = [.hnd (.ref r)] ∧ ∀ a b : Int, Amt n a b → Q (.tup [.int a, .int b])
theorem ok_l_amount (T : Tx K mg) (r c : Addr) : FnOk P w K mg base CX0 3 T.f_l_amount T.fd_l_amount ["_law_rng"] (spD K (rngW r c) (g_some r 4)) := by
  refine vfn T.F_l_amount sc_l_amount (fun ds Q h => ?_) ⟨_, fun cdv A outer s H E hr => (vss_one (vs_ret (ve_call (ok_l_ratio T) (hr.mono (by decide)) (by rfl) T.g_l_ratio T.F_l_ratio.kp T.B_l_ratio .nil pass0 (fun _ _ => reps_nil) (va_cons (ve_sub (ve_call (ok_l_draw T r c) (hr.mono (by decide)) (by rfl) T.g_l_draw T.F_l_draw.kp T.B_l_draw .nil pass0 (fun _ _ => reps_nil) (va_cons (ve_var 0) (va_cons ve_int va_nil))) ve_int) (va_cons (ve_call (ok_l_choice T r c) (hr.mono (by decide)) (by rfl) T.g_l_choice T.F_l_choice.kp T.B_l_choice .nil pass0 (fun _ _ => reps_nil) (va_cons (ve_var 0) (va_cons (ve_lst (va_cons ve_int (va_cons ve_int (va_cons ve_int (va_cons ve_int (va_cons ve_int va_nil)))))) va_nil))) va_nil))))), fun ds Q h => ?_⟩
  · rw [h.1]
    rfl
  · obtain ⟨rfl, h⟩ := h
    refine ⟨13, rfl, by decide, by decide, fun k k0 k1 => ?_⟩
    refine ⟨by decide, _, rfl, by decide, by decide, fun d hd => ?_⟩
    have hd : d = .int 1 ∨ d = .int 2 ∨ d = .int 3 := by
      simp only [List.mem_cons, List.not_mem_nil, or_false] at hd
      rcases hd with h | h | h | h | h <;> simp [h]
    have key : ∀ b : Int, b ≠ 0 → b.natAbs < 2 ^ 4 → Q (ratD (k - 6) b) := fun b h0 h1 => h _ _ (rat_amt h0 (by omega) h1)
    rcases hd with rfl | rfl | rfl
    · exact ⟨_, _, rfl, by decide, by decide +kernel, key 1 (by decide) (by decide)⟩
    · exact ⟨_, _, rfl, by decide, by decide +kernel, key 2 (by decide) (by decide)⟩
    · exact ⟨_, _, rfl, by decide, by decide +kernel, key 3 (by decide) (by decide)⟩
theorem ok_l_far (T : Tx K mg) (r c : Addr) : FnOk P w K mg base CX0 3 T.f_l_far T.fd_l_far ["_law_rng"] (spD K (rngW r c) (g_some r 100)) := by
  refine vfn T.F_l_far sc_l_far (fun ds Q h => ?_) ⟨_, fun cdv A outer s H E hr => (vss_cons (vs_set 1 sc_l_far.nd (ve_call (ok_l_draw T r c) (hr.mono (by decide)) (by rfl) T.g_l_draw T.F_l_draw.kp T.B_l_draw .nil pass0 (fun _ _ => reps_nil) (va_cons (ve_var 0) (va_cons (ve_pow ve_int ve_int) va_nil)))) (vss_cons (vs_set 2 sc_l_far.nd (ve_call (ok_l_choice T r c) (hr.mono (by decide)) (by rfl) T.g_l_choice T.F_l_choice.kp T.B_l_choice .nil pass0 (fun _ _ => reps_nil) (va_cons (ve_var 0) (va_cons (ve_lst (va_cons ve_int (va_cons ve_int (va_cons (ve_neg ve_int) (va_cons (ve_var 1) (va_cons (ve_sub ve_int (ve_var 1)) (va_cons (ve_sub (ve_sub (ve_pow ve_int ve_int) ve_int) (ve_var 1)) (va_cons (ve_sub (ve_addA (ve_var 1) ve_int) (ve_pow ve_int ve_int)) va_nil)))))))) va_nil)))) (vss_one (vs_ret (ve_call (ok_l_ratio T) (hr.mono (by decide)) (by rfl) T.g_l_ratio T.F_l_ratio.kp T.B_l_ratio .nil pass0 (fun _ _ => reps_nil) (va_cons (ve_var 2) (va_cons (ve_addA ve_int (ve_call (ok_l_choice T r c) (hr.mono (by decide)) (by rfl) T.g_l_choice T.F_l_choice.kp T.B_l_choice .nil pass0 (fun _ _ => reps_nil) (va_cons (ve_var 0) (va_cons (ve_lst (va_cons ve_int (va_cons ve_int (va_cons ve_int (va_cons (ve_call (ok_l_draw T r c) (hr.mono (by decide)) (by rfl) T.g_l_draw T.F_l_draw.kp T.B_l_draw .nil pass0 (fun _ _ => reps_nil) (va_cons (ve_var 0) (va_cons (ve_pow ve_int ve_int) va_nil))) (va_cons (ve_sub (ve_sub (ve_pow ve_int ve_int) ve_int) (ve_var 1)) va_nil)))))) va_nil)))) va_nil))))))), fun ds Q h => ?_⟩
  · rw [h.1]
    rfl
  · obtain ⟨rfl, h⟩ := h
    have p9 : CPow 10 9 := ⟨by decide, by decide, by decide⟩
    have p30 : CPow 10 30 := ⟨by decide, by decide, by decide⟩
    have p6 : CPow 10 6 := ⟨by decide, by decide, by decide⟩
    refine ⟨p9, _, rfl, by decide, by decide, fun k k0 k1 => ?_⟩
    refine ⟨p30, p30, Nat.le_of_ble_eq_true rfl, _, rfl, Nat.le_of_ble_eq_true rfl, Nat.le_of_ble_eq_true rfl, fun d hd => ?_⟩
    have k1 : k < 1000000000 := k1
    have hd : ∃ t : Int, d = .int t ∧ t.natAbs < 2 ^ 100 := by
      have e30 : (10 : Int) ^ (30 : Int).toNat = 1000000000000000000000000000000 := by decide
      simp only [List.mem_cons, List.not_mem_nil, or_false] at hd
      rcases hd with h | h | h | h | h | h | h
      · exact ⟨_, h, by decide⟩
      · exact ⟨_, h, by decide⟩
      · exact ⟨_, h, by decide⟩
      · exact ⟨_, h, by omega⟩
      · exact ⟨_, h, by omega⟩
      · rw [e30] at h; exact ⟨_, h, by omega⟩
      · rw [e30] at h; exact ⟨_, h, by omega⟩
    obtain ⟨t, rfl, ht⟩ := hd
    refine ⟨p6, _, rfl, by decide, by decide, fun k2 k20 k21 => ?_⟩
    have k21 : k2 < 1000000 := k21
    refine ⟨p30, Nat.le_of_ble_eq_true rfl, _, rfl, Nat.le_of_ble_eq_true rfl, Nat.le_of_ble_eq_true rfl, fun d hd => ?_⟩
    have hd : ∃ b : Int, d = .int b ∧ 0 ≤ b ∧ (1 + b).natAbs < 2 ^ 100 := by
      have e30 : (10 : Int) ^ (30 : Int).toNat = 1000000000000000000000000000000 := by decide
      simp only [List.mem_cons, List.not_mem_nil, or_false] at hd
      rcases hd with h | h | h | h | h
      · exact ⟨_, h, by decide, by decide⟩
      · exact ⟨_, h, by decide, by decide⟩
      · exact ⟨_, h, by decide, by decide⟩
      · exact ⟨_, h, by omega, by omega⟩
      · rw [e30] at h; exact ⟨_, h, by omega, by omega⟩
    obtain ⟨b, rfl, hb0, hb⟩ := hd
    exact ⟨t, 1 + b, rfl, by omega, Nat.lt_trans hb (Nat.pow_lt_pow_right (by decide) (by decide)), h _ _ (rat_amt (by omega) ht hb)⟩
def g_plus (xs : List D) (Q : D → Prop) : Prop := ∃ n m x y, xs = [x, y] ∧ AmtD n x ∧ AmtD m y ∧ n + m ≤ 9000 ∧ Q (plusD x y)
def g_times (xs : List D) (Q : D → Prop) : Prop := ∃ n m x y, xs = [x, y] ∧ AmtD n x ∧ AmtD m y ∧ n + m ≤ 9000 ∧ Q (timesD x y)
theorem amt_pos {n : Nat} {a b : Int} (A : Amt n a b) : 0 < n := by
  rcases Nat.eq_zero_or_pos n with e | e
  · have h1 := A.hb
    have h2 := A.pos
    rw [e] at h1
    omega
  · exact e
theorem plus_facts {n m : Nat} {a b c d : Int} (A : Amt n a b) (B : Amt m c d) (hn : n + m ≤ 9000) : CMulW a d ∧ CMulW c b ∧ CMulW b d ∧ b * d ≠ 0 ∧ (b * d).natAbs < 2 ^ 9000 := by
  have h0 := amt_pos A
  have h1 := amt_pos B
  have h := Int.mul_pos A.pos B.pos
  exact ⟨wide_mul A.ha B.hb h0 h1 (by omega), wide_mul B.ha A.hb h1 h0 (by omega), wide_mul A.hb B.hb h0 h1 (by omega), by omega, pow_up (mul_lt A.hb B.hb) (by omega)⟩
theorem times_facts {n m : Nat} {a b c d : Int} (A : Amt n a b) (B : Amt m c d) (hn : n + m ≤ 9000) : CMulW a c ∧ CMulW b d ∧ b * d ≠ 0 ∧ (b * d).natAbs < 2 ^ 9000 := by
  have h0 := amt_pos A
  have h1 := amt_pos B
  have h := Int.mul_pos A.pos B.pos
  exact ⟨wide_mul A.ha B.ha h0 h1 (by omega), wide_mul A.hb B.hb h0 h1 (by omega), by omega, pow_up (mul_lt A.hb B.hb) (by omega)⟩
theorem ok_l_plus (T : Tx K mg) : FnOk P w K mg base CX0 3 T.f_l_plus T.fd_l_plus ["_law_one", "_law_other"] (spD K W g_plus) := by
  refine vfn T.F_l_plus sc_l_plus (fun ds Q h => ?_) ⟨_, fun cdv A outer s H E hr => (vss_one (vs_ret (ve_call (ok_l_ratio T) (hr.mono (by decide)) (by rfl) T.g_l_ratio T.F_l_ratio.kp T.B_l_ratio .nil pass0 (fun _ _ => reps_nil) (va_cons (ve_addA (ve_mul (ve_ixA hr.units (ve_var 0) ve_int) (ve_ixA hr.units (ve_var 1) ve_int)) (ve_mul (ve_ixA hr.units (ve_var 1) ve_int) (ve_ixA hr.units (ve_var 0) ve_int))) (va_cons (ve_mul (ve_ixA hr.units (ve_var 0) ve_int) (ve_ixA hr.units (ve_var 1) ve_int)) va_nil))))), fun ds Q h => ?_⟩
  · obtain ⟨_, _, _, _, rfl, _⟩ := h
    rfl
  · obtain ⟨n, m, x, y, rfl, ⟨a, b, rfl, A⟩, ⟨c, d, rfl, B⟩, hn, h⟩ := h
    obtain ⟨f1, f2, f3, f4, f5⟩ := plus_facts A B hn
    exact ⟨_, rfl, _, rfl, f1, _, rfl, _, rfl, f2, _, rfl, _, rfl, f3, _, _, rfl, f4, f5, h⟩
theorem ok_l_times (T : Tx K mg) : FnOk P w K mg base CX0 3 T.f_l_times T.fd_l_times ["_law_one", "_law_other"] (spD K W g_times) := by
  refine vfn T.F_l_times sc_l_times (fun ds Q h => ?_) ⟨_, fun cdv A outer s H E hr => (vss_one (vs_ret (ve_call (ok_l_ratio T) (hr.mono (by decide)) (by rfl) T.g_l_ratio T.F_l_ratio.kp T.B_l_ratio .nil pass0 (fun _ _ => reps_nil) (va_cons (ve_mul (ve_ixA hr.units (ve_var 0) ve_int) (ve_ixA hr.units (ve_var 1) ve_int)) (va_cons (ve_mul (ve_ixA hr.units (ve_var 0) ve_int) (ve_ixA hr.units (ve_var 1) ve_int)) va_nil))))), fun ds Q h => ?_⟩
  · obtain ⟨_, _, _, _, rfl, _⟩ := h
    rfl
  · obtain ⟨n, m, x, y, rfl, ⟨a, b, rfl, A⟩, ⟨c, d, rfl, B⟩, hn, h⟩ := h
    obtain ⟨f1, f3, f4, f5⟩ := times_facts A B hn
    exact ⟨_, rfl, _, rfl, f1, _, rfl, _, rfl, f3, _, _, rfl, f4, f5, h⟩
/-! ### names -/
theorem str_app (a b : Str) : (a ++ b).cps.toList = a.cps.toList ++ b.cps.toList := TL.tl_append a b
theorem str_len (a : Str) : a.length = a.cps.toList.length := by simp [Str.length]
theorem sgn_join : ∀ cs : List Nat, (Txt.join ⟨#[]⟩ (cs.map fun c => (⟨#[c]⟩ : Str))).cps.toList = cs := fun cs => by
  rw [TL.join_eq]
  show TL.tl (Str.join _ _) = _
  rw [TL.tl_join]
  have : ∀ cs : List Nat, TL.joinL [] (cs.map fun c => [c]) = cs := fun cs => by
    induction cs with
    | nil => rfl
    | cons a r ih =>
      cases r with
      | nil => rfl
      | cons b r =>
        show [a] ++ ([] ++ TL.joinL [] ((b :: r).map fun c => [c])) = _
        rw [ih]
        rfl
  rw [List.map_map]
  exact this cs
theorem all2_sgn {S : Nat → Prop} {items ys : List D} (h : All2 (fun _ y => ∃ c, S c ∧ y = D.str ⟨#[c]⟩) items ys) : ∃ cs : List Nat, ys = (cs.map fun c => (⟨#[c]⟩ : Str)).map D.str ∧ cs.length = items.length ∧ ∀ c ∈ cs, S c := by
  induction h with
  | nil => exact ⟨[], rfl, rfl, fun c h => by cases h⟩
  | cons h _ ih =>
    obtain ⟨c, hc, rfl⟩ := h
    obtain ⟨cs, rfl, h2, h3⟩ := ih
    refine ⟨c :: cs, rfl, by simp [h2], fun x hx => ?_⟩
    rcases List.mem_cons.mp hx with e | hx
    · rw [e]; exact hc
    · exact h3 x hx
theorem sum_sgn (cs : List Nat) : ((cs.map fun c => (⟨#[c]⟩ : Str)).map (·.length)).sum = cs.length := by
  induction cs with
  | nil => rfl
  | cons a r ih =>
    show 1 + ((r.map fun c => (⟨#[c]⟩ : Str)).map (·.length)).sum = _
    rw [ih, List.length_cons, Nat.add_comm]
theorem cut_list (z : Str) (lo hi : Option Int) : (cutS z lo hi).cps.toList = (z.cps.toList.drop (HT.sIx z.length 0 lo)).take (HT.sIx z.length z.length hi - HT.sIx z.length 0 lo) := rfl
theorem nm_of {z : Str} {a c : Nat} (hz : z.length ≤ 7) (hs : ∀ x ∈ z.cps.toList, x ∈ abcL) (hc : c ∈ abcL) (ha : a ≤ z.length) : nmS (cutS z none (some (a : Int)) ++ ⟨#[c]⟩ ++ cutS z (some (a : Int)) none) = true := by
  have e1 : HT.sIx z.length z.length (some (a : Int)) = a := by
    unfold HT.sIx
    simp only
    rw [if_neg (by omega)]
    omega
  have e2 : HT.sIx z.length 0 (some (a : Int)) = a := by
    unfold HT.sIx
    simp only
    rw [if_neg (by omega)]
    omega
  have l0 := str_len z
  have L : (cutS z none (some (a : Int)) ++ ⟨#[c]⟩ ++ cutS z (some (a : Int)) none).cps.toList = z.cps.toList.take a ++ [c] ++ z.cps.toList.drop a := by
    rw [str_app, str_app, cut_list, cut_list, e1, e2]
    show ((z.cps.toList.drop 0).take (a - 0) ++ [c]) ++ (z.cps.toList.drop a).take (z.length - a) = _
    rw [List.drop_zero, Nat.sub_zero, List.take_of_length_le (l := z.cps.toList.drop a) (by rw [List.length_drop]; omega)]
  unfold nmS
  rw [str_len, L]
  have hl : (z.cps.toList.take a ++ [c] ++ z.cps.toList.drop a).length = z.length + 1 := by
    rw [List.length_append, List.length_append, List.length_take, List.length_drop, List.length_singleton]
    omega
  rw [hl, decide_eq_true (show 1 ≤ z.length + 1 by omega), decide_eq_true (show z.length + 1 ≤ 8 by omega), Bool.true_and, Bool.true_and, List.all_eq_true]
  intro x hx
  refine decide_eq_true ?_
  rcases List.mem_append.mp hx with hx | hx
  · rcases List.mem_append.mp hx with hx | hx
    · exact hs x (List.mem_of_mem_take hx)
    · rw [List.mem_singleton.mp hx]; exact hc
  · exact hs x (List.mem_of_mem_drop hx)
def g_names (r : Addr) (xs : List D) (Q : D → Prop) : Prop := ∃ m : Int, xs = [.hnd (.ref r), .int m] ∧ 0 ≤ m ∧ m ≤ 26 ∧ ∀ ss : List Str, ss.length = m.toNat → (∀ s ∈ ss, nmS s = true) → ss.Nodup → Q (.lst (ss.map .str))
theorem all2_nm {S : Str → Prop} {items ys : List D} (h : All2 (fun _ y => ∃ c, S c ∧ y = D.str c) items ys) : ∃ cs : List Str, ys = cs.map D.str ∧ cs.length = items.length ∧ ∀ c ∈ cs, S c := by
  induction h with
  | nil => exact ⟨[], rfl, rfl, fun c h => by cases h⟩
  | cons h _ ih =>
    obtain ⟨c, hc, rfl⟩ := h
    obtain ⟨cs, rfl, h2, h3⟩ := ih
    refine ⟨c :: cs, rfl, by simp [h2], fun x hx => ?_⟩
    rcases List.mem_cons.mp hx with e | hx
    · rw [e]; exact hc
    · exact h3 x hx
theorem rng_len (lo : Int) (n : Nat) : (rngD lo n).length = n := by simp [rngD]
theorem rng_mem {lo : Int} {n : Nat} {d : D} (h : d ∈ rngD lo n) : ∃ k : Int, d = .int k ∧ lo ≤ k ∧ k < lo + n := by
  unfold rngD at h
  obtain ⟨i, hi, rfl⟩ := List.mem_map.mp h
  have := List.mem_range.mp hi
  exact ⟨_, rfl, by omega, by omega⟩
theorem abc_len : abcS.cps.toList.length = 26 := by decide +kernel
theorem abc_at {i : Int} (h0 : -26 ≤ i) (h1 : i < 26) : ∃ c, atI abcS.cps.toList i = some c ∧ c ∈ abcL := by
  have key : ∀ j : Nat, j < 52 → ∃ c ∈ abcL, atI abcS.cps.toList ((j : Int) - 26) = some c := by decide +kernel
  obtain ⟨c, h2, h3⟩ := key (i + 26).toNat (by omega)
  rw [show (((i + 26).toNat : Nat) : Int) - 26 = i by omega] at h3
  exact ⟨c, h3, h2⟩
theorem abc_at2 {j : Nat} (h : j < 52) : atI abcS.cps.toList ((j : Int) - 26) = some (97 + j % 26) := by
  have key : ∀ j : Nat, j < 52 → atI abcS.cps.toList ((j : Int) - 26) = some (97 + j % 26) := by decide +kernel
  exact key j h
theorem abc_in (j : Nat) : 97 + j % 26 ∈ abcL := by
  have key : ∀ j : Nat, j < 26 → 97 + j ∈ abcL := by decide +kernel
  exact key _ (Nat.mod_lt _ (by decide))
theorem nodup_map_on {α β : Type} {f : α → β} : ∀ {l : List α}, l.Nodup → (∀ x ∈ l, ∀ y ∈ l, f x = f y → x = y) → (l.map f).Nodup
  | [], _, _ => .nil
  | a :: l, h, hi => by
    obtain ⟨h1, h2⟩ := List.nodup_cons.mp h
    refine List.nodup_cons.mpr ⟨fun z => ?_, nodup_map_on h2 fun x hx y hy => hi x (.tail _ hx) y (.tail _ hy)⟩
    obtain ⟨b, hb, e⟩ := List.mem_map.mp z
    exact h1 (by rw [← hi b (.tail _ hb) a (.head _) e]; exact hb)
theorem ok_l_names (T : Tx K mg) (r c : Addr) : FnOk P w K mg base CX0 3 T.f_l_names T.fd_l_names ["_law_rng", "_law_many"] (spD K (rngW r c) (g_names r)) := by
  refine vfn T.F_l_names sc_l_names (fun ds Q h => ?_) ⟨_, fun cdv A outer s H E hr => (vss_cons (vs_set 2 sc_l_names.nd ve_str) (vss_cons (vs_set 3 sc_l_names.nd (ve_join ve_str (ve_lc (own := [("_law_k", 6)]) rfl sc_l_names.nd (vi_range1 (by rfl) T.n_range (ve_call (ok_l_draw T r c) (hr.mono (by decide)) (by rfl) T.g_l_draw T.F_l_draw.kp T.B_l_draw .nil pass0 (fun _ _ => reps_nil) (va_cons (ve_var 0) (va_cons ve_int va_nil)))) (blkOk_by (N := ["_law_rng", "_law_many", "_law_abc", "_law_stem", "_law_at", "_law_first", "_law_k"]) (sc := defScope s_l_names) (by decide +kernel)) (fun _ _ _ _ _ => (vg_name 6 sc_l_names.nd (by decide))) (fun _ _ _ _ _ => vts_nil) (fun _ _ _ _ _ => (ve_call (ok_l_choice T r c) (hr.mono (by decide)) (by rfl) T.g_l_choice T.F_l_choice.kp T.B_l_choice .nil pass0 (fun _ _ => reps_nil) (va_cons (ve_var 0) (va_cons (ve_var 2) va_nil))))))) (vss_cons (vs_asg (vs := [4, 5]) (ve_tup (va_cons (ve_call (ok_l_draw T r c) (hr.mono (by decide)) (by rfl) T.g_l_draw T.F_l_draw.kp T.B_l_draw .nil pass0 (fun _ _ => reps_nil) (va_cons (ve_var 0) (va_cons (ve_addA (ve_callB call_len lift_len (by rfl) T.n_len bt_len (va_cons (ve_var 3) va_nil)) ve_int) va_nil))) (va_cons (ve_call (ok_l_draw T r c) (hr.mono (by decide)) (by rfl) T.g_l_draw T.F_l_draw.kp T.B_l_draw .nil pass0 (fun _ _ => reps_nil) (va_cons (ve_var 0) (va_cons ve_int va_nil))) va_nil))) (vg_tup (n := 2) rfl (vgs_cons (vg_name 4 sc_l_names.nd (by decide)) (vgs_cons (vg_name 5 sc_l_names.nd (by decide)) vgs_nil)))) (vss_one (vs_ret (ve_lc (own := [("_law_k", 6)]) rfl sc_l_names.nd (vi_range1 (by rfl) T.n_range (ve_var 1)) (blkOk_by (N := ["_law_rng", "_law_many", "_law_abc", "_law_stem", "_law_at", "_law_first", "_law_k"]) (sc := defScope s_l_names) (by decide +kernel)) (fun _ _ _ _ _ => (vg_name 6 sc_l_names.nd (by decide))) (fun _ _ _ _ _ => vts_nil) (fun _ _ _ _ _ => (ve_addA (ve_addA (ve_slice (ve_var 3) vo_none (vo_some (ve_var 4))) (ve_ixA hr.units (ve_var 2) (ve_sub (ve_addA (ve_var 5) (ve_var 6)) ve_int))) (ve_slice (ve_var 3) (vo_some (ve_var 4)) vo_none))))))))), fun ds Q h => ?_⟩
  · obtain ⟨m, rfl, _⟩ := h
    rfl
  · obtain ⟨m, rfl, hm0, hm1, h⟩ := h
    refine ⟨rfl, rfl, 8, rfl, by decide, by decide, fun k k0 k1 => ⟨by omega, by omega, ?_⟩⟩
    refine lcR (fun _ y => ∃ c, c ∈ abcL ∧ y = D.str ⟨#[c]⟩) (fun d hd R hR => ?_) (fun ys hys => ?_)
    · exact ⟨_, rfl, by decide, by decide, fun c hc => hR _ ⟨c, hc, rfl⟩⟩
    obtain ⟨cs, rfl, hl, hc⟩ := all2_sgn hys
    rw [rng_len] at hl
    have e0 : (Str.ofString "").length = 0 := by decide
    refine ⟨_, rfl, by rw [sum_sgn, e0]; omega, ?_⟩
    have hj := sgn_join cs
    generalize hz : (Txt.join ⟨#[]⟩ (cs.map fun c => (⟨#[c]⟩ : Str))) = z at hj
    have hz2 : Txt.join (Str.ofString "") (cs.map fun c => (⟨#[c]⟩ : Str)) = z := hz
    have zl : z.length ≤ 7 := by rw [str_len, hj, hl]; omega
    have zs : ∀ x ∈ z.cps.toList, x ∈ abcL := by rw [hj]; exact hc
    rw [hz2]
    refine ⟨(by rw [sizeLine_eq]; omega), (z.length : Int) + 1, rfl, by omega, by omega, fun a a0 a1 => ⟨26, rfl, by decide, by decide, fun f f0 f1 => ?_⟩⟩
    refine ⟨Nat.le_of_ble_eq_true rfl, rfl, rfl, by omega, by omega, ?_⟩
    have e26 : (abcS.length) ≤ sizeLine := by rw [sizeLine_eq]; decide +kernel
    obtain ⟨j, rfl⟩ := Int.eq_ofNat_of_zero_le a0
    have c1 := cutS_length z none (some (j : Int))
    have c2 := cutS_length z (some (j : Int)) none
    have zz : z.length ≤ sizeLine := by rw [sizeLine_eq]; omega
    obtain ⟨f, rfl⟩ := Int.eq_ofNat_of_zero_le f0
    refine lcF (fun d => match d with
      | .int k => .str (cutS z none (some (j : Int)) ++ ⟨#[97 + (f + k.toNat) % 26]⟩ ++ cutS z (some (j : Int)) none)
      | _ => .non) (fun d hd R hR => ?_) ?_
    · obtain ⟨k, rfl, k0, k1⟩ := rng_mem hd
      obtain ⟨k, rfl⟩ := Int.eq_ofNat_of_zero_le k0
      have h3 := abc_at2 (j := f + k) (by omega)
      rw [show ((f + k : Nat) : Int) - 26 = (f : Int) + (k : Int) - 26 by omega] at h3
      refine ⟨zz, e26, _, h3, ?_, zz, ?_, hR⟩
      · show (cutS z none (some (j : Int))).length + 1 ≤ sizeLine
        rw [sizeLine_eq]; omega
      · rw [str_len, str_app, List.length_append, ← str_len, ← str_len, sizeLine_eq]
        show (cutS z none (some (j : Int))).length + 1 + _ ≤ _
        omega
    · have key := h ((List.range m.toNat).map fun i => cutS z none (some (j : Int)) ++ ⟨#[97 + (f + i) % 26]⟩ ++ cutS z (some (j : Int)) none) (by simp) (fun s hs => ?_) ?_
      · have e : ((List.range m.toNat).map fun i => cutS z none (some (j : Int)) ++ ⟨#[97 + (f + i) % 26]⟩ ++ cutS z (some (j : Int)) none).map D.str = (rngD 0 m.toNat).map (fun d => match d with
            | .int k => .str (cutS z none (some (j : Int)) ++ ⟨#[97 + (f + k.toNat) % 26]⟩ ++ cutS z (some (j : Int)) none)
            | _ => .non) := by
          unfold rngD
          rw [List.map_map, List.map_map]
          refine List.map_congr_left fun i _ => ?_
          show D.str _ = D.str _
          rw [show ((0 : Int) + (i : Int)).toNat = i by omega]
        rw [e] at key
        exact key
      · obtain ⟨i, hi, rfl⟩ := List.mem_map.mp hs
        exact nm_of zl zs (abc_in _) (show j ≤ z.length by omega)
      · refine nodup_map_on List.nodup_range fun x hx y hy e => ?_
        have hx := List.mem_range.mp hx
        have hy := List.mem_range.mp hy
        have e := congrArg (fun s : Str => s.cps.toList) e
        simp only [str_app] at e
        have e := List.append_cancel_left (List.append_cancel_right e)
        have e : [97 + (f + x) % 26] = [97 + (f + y) % 26] := e
        have e := (List.cons.inj e).1
        omega
def g_is_integer (xs : List D) (Q : D → Prop) : Prop := ∃ x, xs = [x] ∧ noHnd x = true ∧ Q (.bl (isTy .int x && !isTy .bool x))
theorem ok_is_integer (T : Tx K mg) : FnOk P w K mg base CX0 1 T.f_is_integer T.fd_is_integer ["value"] (spD K W g_is_integer) := by
  refine vfn T.F_is_integer sc_is_integer (fun ds Q h => ?_) ⟨_, fun cdv A outer s H E hr => (vss_one (vs_ret (ve_and (ve_isi .int (by rfl) T.n_isinstance bt_isinstance (ve_var 0) (by rfl) T.n_int bt_int) (ve_one (ve_not (ve_isi .bool (by rfl) T.n_isinstance bt_isinstance (ve_var 0) (by rfl) T.n_bool bt_bool)))))), fun ds Q h => ?_⟩
  · obtain ⟨x, rfl, _⟩ := h
    rfl
  · obtain ⟨x, rfl, h1, h⟩ := h
    refine ⟨h1, ?_⟩
    cases e : isTy .int x with
    | true => rw [e] at h; exact ⟨h1, h⟩
    | false => rw [e] at h; exact h
def g_common_divisor (xs : List D) (Q : D → Prop) : Prop := ∃ a b : Int, xs = [.int a, .int b] ∧ 0 ≤ a ∧ 0 ≤ b ∧ Q (.int (Int.gcd a b))
theorem ok_common_divisor (T : Tx K mg) : FnOk P w K mg base CX0 1 T.f_common_divisor T.fd_common_divisor ["one", "other"] (spD K W g_common_divisor) := by
  refine vfn T.F_common_divisor sc_common_divisor (fun ds Q h => ?_) ⟨_, fun cdv A outer s H E hr => (vss_cons (vs_while PassesOwn.never (vt_cmp (op_neA hr.units) lift_ne (ve_var 1) ve_int (nomark _)) (vss_one (vs_par 0 1 rfl sc_common_divisor.nd (by decide) (ve_var 1) (ve_mod (ve_var 0) (ve_var 1))))) (vss_one (vs_ret (ve_var 0)))), fun ds Q h => ?_⟩
  · obtain ⟨a, b, rfl, _⟩ := h
    rfl
  · obtain ⟨a, b, rfl, ha, hb, h⟩ := h
    refine ⟨fun m ds => ∃ x y : Int, ds = [.d (.int x), .d (.int y)] ∧ 0 ≤ x ∧ 0 ≤ y ∧ m = y.toNat ∧ Int.gcd x y = Int.gcd a b, ⟨_, a, b, rfl, ha, hb, rfl, rfl⟩, ?_⟩
    rintro m ds ⟨x, y, rfl, hx, hy, rfl, e⟩
    refine vifn (fun h0 => ⟨h0, ?_⟩) (fun h0 => ?_)
    · have hm := fm0 x (show 0 < y by omega)
      have hl := fm1 x (show 0 < y by omega)
      exact ⟨_, by omega, _, _, rfl, hy, hm, rfl, (gcd_step hx hy).trans e⟩
    · subst h0
      rw [← e, gcd_zero hx] at h
      exact h
def g_is_amount (xs : List D) (Q : D → Prop) : Prop := ∃ x, xs = [x] ∧ plain x = true ∧ Q (.bl (isAmt x))
theorem ok_is_amount (T : Tx K mg) : FnOk P w K mg base CX0 2 T.f_is_amount T.fd_is_amount ["value"] (spD K W g_is_amount) := by
  refine vfn T.F_is_amount sc_is_amount (fun ds Q h => ?_) ⟨_, fun cdv A outer s H E hr => (vss_cons (vs_if (vt_w (vw_or (vt_not (vt_val (ve_isi .tuple (by rfl) T.n_isinstance bt_isinstance (ve_var 0) (by rfl) T.n_tuple bt_tuple))) (vw_or (vt_cmp (op_neA hr.units) lift_ne (ve_callB call_len lift_len (by rfl) T.n_len bt_len (va_cons (ve_var 0) va_nil)) ve_int (nomark _)) (vw_or1 (vt_not (vt_val (ve_callB (cr_all (by rfl)) lift_all (by rfl) T.n_all bt_all (va_cons (ve_lc (own := [("part", 1)]) rfl sc_is_amount.nd (vi_its (ve_var 0)) (blkOk_by (N := ["value", "part"]) (sc := defScope s_is_amount) (by decide +kernel)) (fun _ _ _ _ _ => (vg_name 1 sc_is_amount.nd (by decide))) (fun _ _ _ _ _ => vts_nil) (fun _ _ _ _ _ => (ve_call (ok_is_integer T) (hr.mono (by decide)) (by rfl) T.g_is_integer T.F_is_integer.kp T.B_is_integer .nil pass0 (fun _ _ => reps_nil) (va_cons (ve_var 1) va_nil)))) va_nil)))))))) (vss_one (vs_ret ve_bl)) vss_nil) (vss_one (vs_ret (ve_and (ve_cmp op_gt lift_iib (ve_ixA hr.units (ve_var 0) ve_int) ve_int (nomark _)) (ve_one (ve_cmp (op_eqA hr.units) lift_eq (ve_call (ok_common_divisor T) (hr.mono (by decide)) (by rfl) T.g_common_divisor T.F_common_divisor.kp T.B_common_divisor .nil pass0 (fun _ _ => reps_nil) (va_cons (ve_callB call_abs lift_abs (by rfl) T.n_abs bt_abs (va_cons (ve_ixA hr.units (ve_var 0) ve_int) va_nil)) (va_cons (ve_ixA hr.units (ve_var 0) ve_int) va_nil))) ve_int (nomark _))))))), fun ds Q h => ?_⟩
  · obtain ⟨a, rfl, _⟩ := h
    rfl
  · obtain ⟨x, rfl, h1, h⟩ := h
    cases x with
    | tup ds =>
      have hp := plains_all (plain_tup h1)
      match ds, h, hp with
      | [], h, _ => exact ⟨rfl, h⟩
      | [a], h, _ => exact ⟨rfl, h⟩
      | a :: b :: c :: r, h, _ => exact ⟨rfl, h⟩
      | [a, b], h, hp =>
        refine ⟨rfl, rfl, ?_⟩
        conv => whnf
        refine lcF (fun d => .bl (isI d)) (fun d hd R hR => ?_) ?_
        · exact ⟨d, rfl, plain_nh (hp d hd), hR⟩
        refine ⟨[isI a, isI b], rfl, ?_⟩
        rcases isI_cases a with ⟨i, rfl⟩ | ha
        · rcases isI_cases b with ⟨j, rfl⟩ | hb
          · refine ⟨_, rfl, ?_⟩
            refine vifd (fun hj => ?_) (fun hj => ?_)
            · refine ⟨_, rfl, _, rfl, iabs i, j, rfl, iabs_nonneg i, by omega, ?_⟩
              rw [gcd_absl]
              rw [amt2_int hj] at h
              exact h
            · rw [amt2_not hj] at h
              exact h
          · rw [amt2_r hb] at h
            rw [show [isI (D.int i), isI b].all id = false by rw [hb]; rfl]
            exact h
        · rw [amt2_l ha] at h
          rw [show [isI a, isI b].all id = false by rw [ha]; rfl]
          exact h
    | hnd v => cases h1
    | dic _ _ => cases h1
    | ins _ _ _ => cases h1
    | lam _ _ => cases h1
    | _ => exact ⟨rfl, h⟩
def g_is_name (xs : List D) (Q : D → Prop) : Prop := ∃ x, xs = [x] ∧ tame x = true ∧ Q (.bl (isName x))
theorem tame_str {s : Str} (h : tame (.str s) = true) : s.length ≤ 1000 := by
  unfold tame at h
  exact of_decide_eq_true h
def sgnIn : D → Bool
  | .str z => decide (z.cps.toList.headD 0 ∈ abcL)
  | _ => false
theorem sgns_mem {s : Str} {d : D} (h : d ∈ sgns s) : ∃ c ∈ s.cps.toList, d = .str ⟨#[c]⟩ := by
  unfold sgns at h
  obtain ⟨c, hc, rfl⟩ := List.mem_map.mp h
  exact ⟨c, hc, rfl⟩
theorem sgns_in (s : Str) : (sgns s).map (fun d => D.bl (sgnIn d)) = (s.cps.toList.map fun c => decide (c ∈ abcL)).map D.bl := by
  unfold sgns
  rw [List.map_map, List.map_map]
  rfl
theorem all_map {α : Type} (l : List α) (f : α → Bool) : (l.map f).all id = l.all f := by
  rw [List.all_map]
  rfl
theorem nmS_len {s : Str} (h : ¬ ((1 : Int) ≤ s.length ∧ (s.length : Int) ≤ 8)) : nmS s = false := by
  unfold nmS
  by_cases h1 : 1 ≤ s.length
  · rw [decide_eq_false (show ¬ s.length ≤ 8 by omega), Bool.and_false, Bool.false_and]
  · rw [decide_eq_false h1, Bool.false_and, Bool.false_and]
theorem nmS_all {s : Str} (h1 : (1 : Int) ≤ s.length) (h2 : (s.length : Int) ≤ 8) : nmS s = s.cps.toList.all fun c => decide (c ∈ abcL) := by
  unfold nmS
  rw [decide_eq_true (show 1 ≤ s.length by omega), decide_eq_true (show s.length ≤ 8 by omega)]
  rfl
theorem ok_is_name (T : Tx K mg) : FnOk P w K mg base CX0 1 T.f_is_name T.fd_is_name ["value"] (spD K W g_is_name) := by
  refine vfn T.F_is_name sc_is_name (fun ds Q h => ?_) ⟨_, fun cdv A outer s H E hr => (vss_cons (vs_if (vt_w (vw_or (vt_not (vt_val (ve_isi .str (by rfl) T.n_isinstance bt_isinstance (ve_var 0) (by rfl) T.n_str bt_str))) (vw_or1 (vt_not (vt_chain op_le op_le lift_iib lift_iib ve_int (ve_callB call_len lift_len (by rfl) T.n_len bt_len (va_cons (ve_var 0) va_nil)) (ve_glob (by rfl) T.c_MOST_LETTERS T.r_MOST_LETTERS T.w_MOST_LETTERS)))))) (vss_one (vs_ret ve_bl)) vss_nil) (vss_one (vs_ret (ve_callB (cr_all (by rfl)) lift_all (by rfl) T.n_all bt_all (va_cons (ve_lc (own := [("letter", 1)]) rfl sc_is_name.nd (vi_its (ve_var 0)) (blkOk_by (N := ["value", "letter"]) (sc := defScope s_is_name) (by decide +kernel)) (fun _ _ _ _ _ => (vg_name 1 sc_is_name.nd (by decide))) (fun _ _ _ _ _ => vts_nil) (fun _ _ _ _ _ => (ve_cmp op_in_sign lift_inS (ve_var 1) (ve_glob (by rfl) T.c_LETTERS T.r_LETTERS T.w_LETTERS) (by rfl)))) va_nil))))), fun ds Q h => ?_⟩
  · obtain ⟨a, rfl, _⟩ := h
    rfl
  · obtain ⟨x, rfl, h1, h⟩ := h
    cases x with
    | str s =>
      have hl := tame_str h1
      have hs : s.length ≤ sizeLine := by rw [sizeLine_eq]; omega
      refine ⟨rfl, ?_⟩
      refine ⟨hs, ?_⟩
      have fls : ¬ ((1 : Int) ≤ s.length ∧ (s.length : Int) ≤ 8) → Q (.bl false) := fun n => by
        have h : Q (.bl (nmS s)) := h
        rw [nmS_len n] at h
        exact h
      refine vifd (fun a1 => ?_) (fun a0 => fls fun z => a0 z.1)
      refine vifn (fun a0 => fls fun z => a0 z.2) (fun a2 => ?_)
      refine ⟨rfl, hs, ?_⟩
      refine lcF (fun d => .bl (sgnIn d)) (fun d hd R hR => ?_) ?_
      · obtain ⟨c, hc, rfl⟩ := sgns_mem hd
        exact ⟨c, rfl, hR⟩
      refine ⟨_, sgns_in s, ?_⟩
      rw [all_map, ← nmS_all a1 a2]
      exact h
    | hnd v => cases h1
    | dic _ _ => cases h1
    | ins _ _ _ => cases h1
    | lam _ _ => cases h1
    | _ => exact ⟨rfl, h⟩
theorem ok_amount (T : Tx K mg) : FnOk P w K mg base CX0 2 T.f_amount T.fd_amount ["top", "bottom"] (spD K W g_ratio) := by
  refine vfnD T.F_amount sc_amount (fun ds Q h => ?_) ⟨_, fun cdv A outer s H E hr => (vss_cons (vs_if (vt_cmp (op_eqA hr.units) lift_eq (ve_var 1) ve_int (nomark _)) (vss_one vs_never) vss_nil) (vss_cons (vs_set 2 sc_amount.nd (ve_call (ok_common_divisor T) (hr.mono (by decide)) (by rfl) T.g_common_divisor T.F_common_divisor.kp T.B_common_divisor .nil pass0 (fun _ _ => reps_nil) (va_cons (ve_callB call_abs lift_abs (by rfl) T.n_abs bt_abs (va_cons (ve_var 0) va_nil)) (va_cons (ve_callB call_abs lift_abs (by rfl) T.n_abs bt_abs (va_cons (ve_var 1) va_nil)) va_nil)))) (vss_cons (vs_if (vt_cmp op_ltA lift_lt (ve_var 1) ve_int (nomark _)) (vss_one (vs_set 2 sc_amount.nd (ve_neg (ve_var 2)))) vss_nil) (vss_one (vs_ret (ve_tup (va_cons (ve_fdiv (ve_var 0) (ve_var 2)) (va_cons (ve_fdiv (ve_var 1) (ve_var 2)) va_nil)))))))), fun ds Q h => ?_⟩
  · obtain ⟨a, b, rfl, _⟩ := h
    rfl
  · obtain ⟨t, b, rfl, hb, hl, h⟩ := h
    have d1 := ratK_div (t := t) hb hl t
    have d2 := ratK_div (t := t) hb hl b
    have eg : Int.gcd (iabs t) (iabs b) = Int.gcd t b := gcd_abs t b
    have fin : Q (.tup [.int (t.fdiv (ratK t b)), .int (b.fdiv (ratK t b))]) := h
    refine vifd (fun h0 => absurd h0 hb) (fun _ => ?_)
    refine ⟨iabs t, iabs b, rfl, iabs_nonneg t, iabs_nonneg b, ?_⟩
    rw [eg]
    refine vifd (fun h0 => ?_) (fun h0 => ?_)
    · have ek : ratK t b = -((Int.gcd t b : Nat) : Int) := by unfold ratK; rw [if_neg (by omega)]; omega
      rw [ek] at d1 d2 fin
      exact ⟨d1, d2, Nat.le_of_ble_eq_true rfl, fin⟩
    · have ek : ratK t b = ((Int.gcd t b : Nat) : Int) := by unfold ratK; rw [if_pos (by omega)]
      rw [ek] at d1 d2 fin
      exact ⟨d1, d2, Nat.le_of_ble_eq_true rfl, fin⟩
theorem ok_plus (T : Tx K mg) : FnOk P w K mg base CX0 3 T.f_plus T.fd_plus ["one", "other"] (spD K W g_plus) := by
  refine vfn T.F_plus sc_plus (fun ds Q h => ?_) ⟨_, fun cdv A outer s H E hr => (vss_one (vs_ret (ve_callD (ok_amount T) (hr.mono (by decide)) (by rfl) T.g_amount T.F_amount.kp (T.F_amount.binds1 2 1 (List.cons_ne_nil _ _) rfl (fun _ _ _ _ _ _ _ us its hu hi => match us, its, hu, hi with | [_, _], [_], _, _ => ⟨_, rfl, rfl⟩)) pass0 (fun M H => reps_nil) (va_cons (ve_addA (ve_mul (ve_ixA hr.units (ve_var 0) ve_int) (ve_ixA hr.units (ve_var 1) ve_int)) (ve_mul (ve_ixA hr.units (ve_var 1) ve_int) (ve_ixA hr.units (ve_var 0) ve_int))) (va_cons (ve_mul (ve_ixA hr.units (ve_var 0) ve_int) (ve_ixA hr.units (ve_var 1) ve_int)) va_nil))))), fun ds Q h => ?_⟩
  · obtain ⟨_, _, _, _, rfl, _⟩ := h
    rfl
  · obtain ⟨n, m, x, y, rfl, ⟨a, b, rfl, A⟩, ⟨c, d, rfl, B⟩, hn, h⟩ := h
    obtain ⟨f1, f2, f3, f4, f5⟩ := plus_facts A B hn
    exact ⟨_, rfl, _, rfl, f1, _, rfl, _, rfl, f2, _, rfl, _, rfl, f3, _, _, rfl, f4, f5, h⟩
theorem ok_times (T : Tx K mg) : FnOk P w K mg base CX0 3 T.f_times T.fd_times ["one", "other"] (spD K W g_times) := by
  refine vfn T.F_times sc_times (fun ds Q h => ?_) ⟨_, fun cdv A outer s H E hr => (vss_one (vs_ret (ve_callD (ok_amount T) (hr.mono (by decide)) (by rfl) T.g_amount T.F_amount.kp (T.F_amount.binds1 2 1 (List.cons_ne_nil _ _) rfl (fun _ _ _ _ _ _ _ us its hu hi => match us, its, hu, hi with | [_, _], [_], _, _ => ⟨_, rfl, rfl⟩)) pass0 (fun M H => reps_nil) (va_cons (ve_mul (ve_ixA hr.units (ve_var 0) ve_int) (ve_ixA hr.units (ve_var 1) ve_int)) (va_cons (ve_mul (ve_ixA hr.units (ve_var 0) ve_int) (ve_ixA hr.units (ve_var 1) ve_int)) va_nil))))), fun ds Q h => ?_⟩
  · obtain ⟨_, _, _, _, rfl, _⟩ := h
    rfl
  · obtain ⟨n, m, x, y, rfl, ⟨a, b, rfl, A⟩, ⟨c, d, rfl, B⟩, hn, h⟩ := h
    obtain ⟨f1, f3, f4, f5⟩ := times_facts A B hn
    exact ⟨_, rfl, _, rfl, f1, _, rfl, _, rfl, f3, _, _, rfl, f4, f5, h⟩
def g_sign (xs : List D) (Q : D → Prop) : Prop := ∃ (a : Int) (b : D), xs = [.tup [.int a, b]] ∧ Q (.int (sgnI a))
theorem ok_sign (T : Tx K mg) : FnOk P w K mg base CX0 1 T.f_sign T.fd_sign ["one"] (spD K W g_sign) := by
  refine vfn T.F_sign sc_sign (fun ds Q h => ?_) ⟨_, fun cdv A outer s H E hr => (vss_one (vs_ret (ve_sub (ve_callTy call_int1 lift_int (by rfl) T.n_int bt_int (va_cons (ve_cmp op_gt lift_iib (ve_ixA hr.units (ve_var 0) ve_int) ve_int (nomark _)) va_nil)) (ve_callTy call_int1 lift_int (by rfl) T.n_int bt_int (va_cons (ve_cmp op_ltA lift_lt (ve_ixA hr.units (ve_var 0) ve_int) ve_int (nomark _)) va_nil))))), fun ds Q h => ?_⟩
  · obtain ⟨_, _, rfl, _⟩ := h
    rfl
  · obtain ⟨a, b, rfl, h⟩ := h
    exact ⟨_, rfl, _, rfl, h⟩
def g_minus (xs : List D) (Q : D → Prop) : Prop := ∃ n m x y, xs = [x, y] ∧ AmtD n x ∧ AmtD m y ∧ n + m ≤ 9000 ∧ Q (minusD x y)
theorem ok_minus (T : Tx K mg) : FnOk P w K mg base CX0 3 T.f_minus T.fd_minus ["one", "other"] (spD K W g_minus) := by
  refine vfn T.F_minus sc_minus (fun ds Q h => ?_) ⟨_, fun cdv A outer s H E hr => (vss_one (vs_ret (ve_callD (ok_amount T) (hr.mono (by decide)) (by rfl) T.g_amount T.F_amount.kp (T.F_amount.binds1 2 1 (List.cons_ne_nil _ _) rfl (fun _ _ _ _ _ _ _ us its hu hi => match us, its, hu, hi with | [_, _], [_], _, _ => ⟨_, rfl, rfl⟩)) pass0 (fun M H => reps_nil) (va_cons (ve_sub (ve_mul (ve_ixA hr.units (ve_var 0) ve_int) (ve_ixA hr.units (ve_var 1) ve_int)) (ve_mul (ve_ixA hr.units (ve_var 1) ve_int) (ve_ixA hr.units (ve_var 0) ve_int))) (va_cons (ve_mul (ve_ixA hr.units (ve_var 0) ve_int) (ve_ixA hr.units (ve_var 1) ve_int)) va_nil))))), fun ds Q h => ?_⟩
  · obtain ⟨_, _, _, _, rfl, _⟩ := h
    rfl
  · obtain ⟨n, m, x, y, rfl, ⟨a, b, rfl, A⟩, ⟨c, d, rfl, B⟩, hn, h⟩ := h
    obtain ⟨f1, f2, f3, f4, f5⟩ := plus_facts A B hn
    have e : a * d - c * b = a * d + (0 - c) * b := by rw [Int.zero_sub, Int.neg_mul, Int.sub_eq_add_neg]
    refine ⟨_, rfl, _, rfl, f1, _, rfl, _, rfl, f2, _, rfl, _, rfl, f3, _, _, rfl, f4, f5, ?_⟩
    rw [e]
    exact h
def g_over (xs : List D) (Q : D → Prop) : Prop := ∃ n m x y, xs = [x, y] ∧ AmtD n x ∧ AmtD m y ∧ y ≠ zeroD ∧ n + m ≤ 9000 ∧ Q (overD x y)
theorem ok_over (T : Tx K mg) : FnOk P w K mg base CX0 3 T.f_over T.fd_over ["one", "other"] (spD K W g_over) := by
  refine vfn T.F_over sc_over (fun ds Q h => ?_) ⟨_, fun cdv A outer s H E hr => (vss_cons (vs_if (vt_cmp (op_eqA hr.units) lift_eq (ve_var 1) (ve_glob (by rfl) T.c_ZERO T.r_ZERO T.w_ZERO) (nomark _)) (vss_one vs_never) vss_nil) (vss_one (vs_ret (ve_callD (ok_amount T) (hr.mono (by decide)) (by rfl) T.g_amount T.F_amount.kp (T.F_amount.binds1 2 1 (List.cons_ne_nil _ _) rfl (fun _ _ _ _ _ _ _ us its hu hi => match us, its, hu, hi with | [_, _], [_], _, _ => ⟨_, rfl, rfl⟩)) pass0 (fun M H => reps_nil) (va_cons (ve_mul (ve_ixA hr.units (ve_var 0) ve_int) (ve_ixA hr.units (ve_var 1) ve_int)) (va_cons (ve_mul (ve_ixA hr.units (ve_var 0) ve_int) (ve_ixA hr.units (ve_var 1) ve_int)) va_nil)))))), fun ds Q h => ?_⟩
  · obtain ⟨_, _, _, _, rfl, _⟩ := h
    rfl
  · obtain ⟨n, m, x, y, rfl, hx, hy, hz, hn, h⟩ := h
    have hq : qD y ≠ 0 := fun z => hz (q_inj hy zero_amt (by rw [z, q_zero]))
    have ez := eqv_amtD hy zero_amt
    rw [q_zero, decide_eq_false hq] at ez
    obtain ⟨a, b, rfl, A⟩ := hx
    obtain ⟨c, d, rfl, B⟩ := hy
    have hc : c ≠ 0 := fun z => hq ((q_zero_iff B).mpr z)
    obtain ⟨f1, f2, f3, f4⟩ := over_facts A B hc hn
    refine ⟨rfl, rfl, ?_⟩
    refine vif (fun z => ?_) (fun _ => ?_)
    · rw [show eqv (.tup [.int c, .int d]) (.tup [.int 0, .int 1]) = false from ez] at z; cases z
    exact ⟨_, rfl, _, rfl, f1, _, rfl, _, rfl, f2, _, _, rfl, f3, f4, h⟩
theorem ok_l_over (T : Tx K mg) : FnOk P w K mg base CX0 3 T.f_l_over T.fd_l_over ["_law_one", "_law_other"] (spD K W g_over) := by
  refine vfn T.F_l_over sc_l_over (fun ds Q h => ?_) ⟨_, fun cdv A outer s H E hr => (vss_one (vs_ret (ve_call (ok_l_ratio T) (hr.mono (by decide)) (by rfl) T.g_l_ratio T.F_l_ratio.kp T.B_l_ratio .nil pass0 (fun _ _ => reps_nil) (va_cons (ve_mul (ve_ixA hr.units (ve_var 0) ve_int) (ve_ixA hr.units (ve_var 1) ve_int)) (va_cons (ve_mul (ve_ixA hr.units (ve_var 0) ve_int) (ve_ixA hr.units (ve_var 1) ve_int)) va_nil))))), fun ds Q h => ?_⟩
  · obtain ⟨_, _, _, _, rfl, _⟩ := h
    rfl
  · obtain ⟨n, m, x, y, rfl, hx, hy, hz, hn, h⟩ := h
    have hq : qD y ≠ 0 := fun z => hz (q_inj hy zero_amt (by rw [z, q_zero]))
    obtain ⟨a, b, rfl, A⟩ := hx
    obtain ⟨c, d, rfl, B⟩ := hy
    have hc : c ≠ 0 := fun z => hq ((q_zero_iff B).mpr z)
    obtain ⟨f1, f2, f3, f4⟩ := over_facts A B hc hn
    exact ⟨_, rfl, _, rfl, f1, _, rfl, _, rfl, f2, _, _, rfl, f3, f4, h⟩
--CUT--
def xf_InvalidAmount : XF := [("given", .inr 0), ("code", .inl "InvalidAmount")]
theorem ok_mk_InvalidAmount (T : Tx K mg) : FnOk P w K mg base CX0 1 T.f_InvalidAmount___init__ T.fd_InvalidAmount___init__ ["self", "given"] (spE T.C_InvalidAmount xf_InvalidAmount 1) := by
  refine T.F_InvalidAmount___init__.ok sc_InvalidAmount___init__ (fun vs H Q E h => ?_) (fun cdv A outer s H vs Q E hr h => ⟨_, (pss_cons (ps_expr (pe_scinit (by rfl) T.gC_ScaleError T.si_ScaleError (pa_cons (pv 0) (pa_cons pe_str pa_nil)))) (pss_cons (ps_ost (pv 0) pe_str) (pss_cons (ps_ost (pv 0) (pv 1)) pss_nil))), ?_⟩)
  · obtain ⟨a, ys, H1, rfl, hl, _⟩ := h
    rw [List.length_cons, hl]
    rfl
  · obtain ⟨a, ys, H1, rfl, hl, rfl, na, k⟩ := h
    match ys, hl with
    | [y0], _ =>
    refine ⟨_, rfl, a, T.C_InvalidAmount, [V.str "a value is no amount"], rfl, by decide, T.ox_InvalidAmount, upd_same, ?_⟩
    refine ⟨_, rfl, a, T.C_InvalidAmount, rfl, T.ox_InvalidAmount, T.ex_InvalidAmount.no _ (by decide), .inl ⟨upd_same, fun d nd ne => ?_⟩⟩
    obtain ⟨nd1, m0⟩ := MidE.first (p := (Str.ofString "code", V.str (Str.ofString "InvalidAmount"))) nd ne
    refine ⟨_, rfl, _, rfl, a, T.C_InvalidAmount, rfl, T.ox_InvalidAmount, T.ex_InvalidAmount.no _ (by decide), .inr ⟨d, _, m0.ea, m0.ed, Nat.le_of_ble_eq_true rfl, ?_⟩⟩
    have m1 := m0.next (p := (Str.ofString "given", y0)) ne
    exact k d _ nd1 ne m1.ea m1.ed m1.rest
def xf_InvalidName : XF := [("given", .inr 0), ("code", .inl "InvalidName")]
theorem ok_mk_InvalidName (T : Tx K mg) : FnOk P w K mg base CX0 1 T.f_InvalidName___init__ T.fd_InvalidName___init__ ["self", "given"] (spE T.C_InvalidName xf_InvalidName 1) := by
  refine T.F_InvalidName___init__.ok sc_InvalidName___init__ (fun vs H Q E h => ?_) (fun cdv A outer s H vs Q E hr h => ⟨_, (pss_cons (ps_expr (pe_scinit (by rfl) T.gC_ScaleError T.si_ScaleError (pa_cons (pv 0) (pa_cons pe_str pa_nil)))) (pss_cons (ps_ost (pv 0) pe_str) (pss_cons (ps_ost (pv 0) (pv 1)) pss_nil))), ?_⟩)
  · obtain ⟨a, ys, H1, rfl, hl, _⟩ := h
    rw [List.length_cons, hl]
    rfl
  · obtain ⟨a, ys, H1, rfl, hl, rfl, na, k⟩ := h
    match ys, hl with
    | [y0], _ =>
    refine ⟨_, rfl, a, T.C_InvalidName, [V.str "a value is no name"], rfl, by decide, T.ox_InvalidName, upd_same, ?_⟩
    refine ⟨_, rfl, a, T.C_InvalidName, rfl, T.ox_InvalidName, T.ex_InvalidName.no _ (by decide), .inl ⟨upd_same, fun d nd ne => ?_⟩⟩
    obtain ⟨nd1, m0⟩ := MidE.first (p := (Str.ofString "code", V.str (Str.ofString "InvalidName"))) nd ne
    refine ⟨_, rfl, _, rfl, a, T.C_InvalidName, rfl, T.ox_InvalidName, T.ex_InvalidName.no _ (by decide), .inr ⟨d, _, m0.ea, m0.ed, Nat.le_of_ble_eq_true rfl, ?_⟩⟩
    have m1 := m0.next (p := (Str.ofString "given", y0)) ne
    exact k d _ nd1 ne m1.ea m1.ed m1.rest
def xf_ScalesDiffer : XF := [("other", .inr 1), ("one", .inr 0), ("code", .inl "ScalesDiffer")]
theorem ok_mk_ScalesDiffer (T : Tx K mg) : FnOk P w K mg base CX0 1 T.f_ScalesDiffer___init__ T.fd_ScalesDiffer___init__ ["self", "one", "other"] (spE T.C_ScalesDiffer xf_ScalesDiffer 2) := by
  refine T.F_ScalesDiffer___init__.ok sc_ScalesDiffer___init__ (fun vs H Q E h => ?_) (fun cdv A outer s H vs Q E hr h => ⟨_, (pss_cons (ps_expr (pe_scinit (by rfl) T.gC_ScaleError T.si_ScaleError (pa_cons (pv 0) (pa_cons pe_str pa_nil)))) (pss_cons (ps_ost (pv 0) pe_str) (pss_cons (ps_ost (pv 0) (pv 1)) (pss_cons (ps_ost (pv 0) (pv 2)) pss_nil)))), ?_⟩)
  · obtain ⟨a, ys, H1, rfl, hl, _⟩ := h
    rw [List.length_cons, hl]
    rfl
  · obtain ⟨a, ys, H1, rfl, hl, rfl, na, k⟩ := h
    match ys, hl with
    | [y0, y1], _ =>
    refine ⟨_, rfl, a, T.C_ScalesDiffer, [V.str "two scales differ"], rfl, by decide, T.ox_ScalesDiffer, upd_same, ?_⟩
    refine ⟨_, rfl, a, T.C_ScalesDiffer, rfl, T.ox_ScalesDiffer, T.ex_ScalesDiffer.no _ (by decide), .inl ⟨upd_same, fun d nd ne => ?_⟩⟩
    obtain ⟨nd1, m0⟩ := MidE.first (p := (Str.ofString "code", V.str (Str.ofString "ScalesDiffer"))) nd ne
    refine ⟨_, rfl, _, rfl, a, T.C_ScalesDiffer, rfl, T.ox_ScalesDiffer, T.ex_ScalesDiffer.no _ (by decide), .inr ⟨d, _, m0.ea, m0.ed, Nat.le_of_ble_eq_true rfl, ?_⟩⟩
    have m1 := m0.next (p := (Str.ofString "one", y0)) ne
    refine ⟨_, rfl, _, rfl, a, T.C_ScalesDiffer, rfl, T.ox_ScalesDiffer, T.ex_ScalesDiffer.no _ (by decide), .inr ⟨d, _, m1.ea, m1.ed, Nat.le_of_ble_eq_true rfl, ?_⟩⟩
    have m2 := m1.next (p := (Str.ofString "other", y1)) ne
    exact k d _ nd1 ne m2.ea m2.ed m2.rest
theorem rng_ne {r c : Addr} : ∀ H b φ, (rngW r c).I H → (rngW r c).A b → H b ≠ some (.ext φ) := fun H b φ h ha z => by
  obtain ⟨ns, i, g, sd, R⟩ := h
  rcases ha with rfl | rfl
  · rw [R.hr] at z; cases z
  · rw [R.hc] at z; cases z
theorem tb {CX : CXT} {k : Nat} {f : Addr} {fd : FuncData} {ps : List Str} {r c Pt : Addr} {q : Str} {g : List D → (D → Prop) → Prop} (F : FnOk P w K mg base CX k f fd ps (spD K (rngW r c) g)) : FnOk P w K mg base CX k f fd ps (spD K ((rngW r c).tab Pt q) g) := fn_tab rng_ne Pt q F
/-- the law's promise where a table of lambdas stands at Pt -/
def spLawT (K : PySem.W.Frag) (Pt : Addr) : Sp := fun vs H Q _ => ∃ (a : Addr) (ns : List Int), vs = [.ref a] ∧ SqL K H a (ns.map V.int) ∧ ns.length ≤ 63 ∧ H Pt = some (.tbl #[]) ∧ ∀ H', Q (.bl true) H'
theorem law_goT {r c Pt : Addr} {q : Str} {H : Hp} {Q : L2.VK} {σ : L2.St} {i : Nat} {w : WS} (I : (rngW r c).I H) (hP : H Pt = some (.tbl #[])) (h : σ[i]? = some (some (.ref r))) (hQ : ∀ H', Q (.bl true) H')
    (hw : w (endsD fun d => d = .bl true) ((List.replicate σ.length Sl.un).set i (.d (.hnd (.ref r))))) : LS K ((rngW r c).tab Pt q) w { nx := fun _ H' => Q .non H', rt := Q } σ H := by
  have nP : ¬ (rngW r c).A Pt := fun z => by
    obtain ⟨ns, i, g, sd, R⟩ := I
    rcases z with rfl | rfl
    · rw [R.hr] at hP; cases hP
    · rw [R.hc] at hP; cases hP
  have I2 : ((rngW r c).tab Pt q).I H := ⟨I, LamX.TabS.nil hP, nP, fun z => z⟩
  refine ⟨((rngW r c).tab Pt q).A, H, fun _ => none, _, _, sat_one ⟨fun a h => h, fun a ha => ((rngW r c).tab Pt q).live H a I2 ha, I2, fun _ _ z => z, fun a φ ha => ((rngW r c).tab Pt q).nx H a φ I2 ha⟩ (fun _ z => z.elim) (fun _ _ _ z => by cases z) h, hw, fun ds' oa' σ' H' hn _ => ?_, fun d v H' hd _ _ rr => ?_, fun _ _ _ _ z => z.elim, fun _ _ _ _ z => z.elim⟩
  · cases hn
  · subst hd
    rw [rr.bl]
    exact hQ H'
/-- the fields of a caught exception by its code -/
def spField (K : PySem.W.Frag) (p : Addr × Obj) (vs : List V) (H : Hp) (Q : L2.VK) : Prop := ∃ (dd : Addr) (fs : List (Str × V)) (z : Str) (ks : List Str) (ws : List V) (Mo : Addr → Prop), vs = [.ref p.1] ∧ ExcAt K dd p.2 ∧ H dd = some (.xd fs) ∧ fs.lookup ("code" : Str) = some (V.str z) ∧ (z, ks) ∈ errTab ∧ ks.map (fun k => fs.lookup k) = ws.map some ∧ (∀ b, Mo b → H b ≠ none ∧ ∀ φ, H b ≠ some (.ext φ)) ∧
  ∀ H2 v2, Full H H2 → Rep K Mo H2 (.tup (ws.map dOf)) v2 → Q v2 H2
theorem ok_l_field (T : Tx K mg) : FnQ P w K mg base 1 T.f_l_field T.fd_l_field ["_law_e"] (spField K) := by
  refine fnq_of T.F_l_field sc_l_field (fun p vs H Q h => ?_) (fun cdv A outer s H vs Q p hr h => ?_)
  · obtain ⟨_, _, _, _, _, _, rfl, _⟩ := h
    rfl
  · obtain ⟨dd, fs, z, ks, ws, Mo, rfl, hq, hx, hcode, hmem, hks, hMo, k⟩ := h
    obtain ⟨pa, po⟩ := p
    refine ⟨LS K (excW dd fs) _, (vss_cons (vs_if (vt_cmp op_in_seq lift_in (ve_xq hq (.head _) (by decide) (ve_var 0)) (ve_tup (va_cons ve_str (va_cons ve_str va_nil))) (by rfl)) (vss_one (vs_ret (ve_tup (va_cons (ve_xq hq (.head _) (by decide) (ve_var 0)) va_nil)))) vss_nil) (vss_cons (vs_if (vt_cmp (op_eqA hr.units) lift_eq (ve_xq hq (.head _) (by decide) (ve_var 0)) ve_str (nomark _)) (vss_one (vs_ret (ve_tup (va_cons (ve_xq hq (.head _) (by decide) (ve_var 0)) (va_cons (ve_xq hq (.head _) (by decide) (ve_var 0)) va_nil))))) vss_nil) (vss_cons (vs_if (vt_cmp (op_eqA hr.units) lift_eq (ve_xq hq (.head _) (by decide) (ve_var 0)) ve_str (nomark _)) (vss_one (vs_ret (ve_tup (va_cons (ve_xq hq (.head _) (by decide) (ve_var 0)) (va_cons (ve_xq hq (.head _) (by decide) (ve_var 0)) va_nil))))) vss_nil) (vss_cons (vs_if (vt_cmp (op_eqA hr.units) lift_eq (ve_xq hq (.head _) (by decide) (ve_var 0)) ve_str (nomark _)) (vss_one (vs_ret (ve_tup (va_cons (ve_xq hq (.head _) (by decide) (ve_var 0)) (va_cons (ve_xq hq (.head _) (by decide) (ve_var 0)) va_nil))))) vss_nil) (vss_cons (vs_if (vt_cmp op_in_seq lift_in (ve_xq hq (.head _) (by decide) (ve_var 0)) (ve_tup (va_cons ve_str (va_cons ve_str va_nil))) (by rfl)) (vss_one (vs_ret (ve_tup (va_cons (ve_xq hq (.head _) (by decide) (ve_var 0)) va_nil)))) vss_nil) (vss_cons (vs_if (vt_cmp (op_eqA hr.units) lift_eq (ve_xq hq (.head _) (by decide) (ve_var 0)) ve_str (nomark _)) (vss_one (vs_ret (ve_tup (va_cons (ve_xq hq (.head _) (by decide) (ve_var 0)) va_nil)))) vss_nil) (vss_cons (vs_if (vt_cmp (op_eqA hr.units) lift_eq (ve_xq hq (.head _) (by decide) (ve_var 0)) ve_str (nomark _)) (vss_one (vs_ret (ve_tup (va_cons (ve_xq hq (.head _) (by decide) (ve_var 0)) va_nil)))) vss_nil) (vss_cons (vs_if (vt_cmp (op_eqA hr.units) lift_eq (ve_xq hq (.head _) (by decide) (ve_var 0)) ve_str (nomark _)) (vss_one (vs_ret (ve_tup (va_cons (ve_xq hq (.head _) (by decide) (ve_var 0)) va_nil)))) vss_nil) (vss_one (vs_ret (ve_if (vt_cmp (op_eqA hr.units) lift_eq (ve_xq hq (.head _) (by decide) (ve_var 0)) ve_str (nomark _)) (ve_tup (va_cons (ve_xq hq (.head _) (by decide) (ve_var 0)) va_nil)) (ve_tup va_nil)))))))))))), ?_⟩
    have m : MOk (excW dd fs) (fun b => Mo b ∨ b = dd) H := ⟨fun b hb => .inr hb, fun b hb => by
      rcases hb with hb | rfl
      · exact (hMo b hb).1
      · rw [hx]; simp, hx, fun _ _ z => z, fun b φ hb => by
      rcases hb with hb | rfl
      · exact (hMo b hb).2 φ
      · rw [hx]; intro z; cases z⟩
    refine ⟨fun b => Mo b ∨ b = dd, H, fun _ => none, startD _ [.hnd (.ref pa)], endsD (fun d => d = .tup (ws.map dOf)), sat_start (W := excW dd fs) m (reps_cons (by unfold Rep; rfl) reps_nil) (Nat.le_of_ble_eq_true rfl) (fun _ z => False.elim z) (fun _ _ _ z => by cases z), ?_, fun ds' oa' σ' H' hn S' => (by cases hn), fun d v H' hd e i r' => ?_, fun _ _ _ _ z => False.elim z, fun _ _ _ _ z => False.elim z⟩
    · have one : ∀ {a : Str} {ks' : List Str} {ws' : List V}, (a :: ks').map (fun k => fs.lookup k) = ws'.map some → ∃ v vs', ws' = v :: vs' ∧ fs.lookup a = some v ∧ ks'.map (fun k => fs.lookup k) = vs'.map some := fun {a ks' ws'} h => by
        cases ws' with
        | nil => cases h
        | cons v vs' =>
          obtain ⟨h1, h2⟩ := List.cons.inj h
          exact ⟨v, vs', rfl, h1, h2⟩
      have non : ∀ {ws' : List V}, ([] : List Str).map (fun k => fs.lookup k) = ws'.map some → ws' = [] := fun {ws'} h => by
        cases ws' with
        | nil => rfl
        | cons v vs' => cases h
      simp only [errTab, List.mem_cons, List.not_mem_nil, or_false, Prod.mk.injEq] at hmem
      rcases hmem with ⟨rfl, rfl⟩ | ⟨rfl, rfl⟩ | ⟨rfl, rfl⟩ | ⟨rfl, rfl⟩ | ⟨rfl, rfl⟩ | ⟨rfl, rfl⟩ | ⟨rfl, rfl⟩ | ⟨rfl, rfl⟩ | ⟨rfl, rfl⟩ | ⟨rfl, rfl⟩ | ⟨rfl, rfl⟩ | ⟨rfl, rfl⟩ | ⟨rfl, rfl⟩
      · obtain ⟨v0, _, rfl, h0, hks⟩ := one hks
        cases non hks
        refine ⟨rfl, _, hcode, Nat.le_of_ble_eq_true rfl, rfl, rfl, ?_⟩
        exact ⟨rfl, _, h0, Nat.le_of_ble_eq_true rfl, rfl⟩
      · obtain ⟨v0, _, rfl, h0, hks⟩ := one hks
        cases non hks
        refine ⟨rfl, _, hcode, Nat.le_of_ble_eq_true rfl, rfl, rfl, ?_⟩
        exact ⟨rfl, _, h0, Nat.le_of_ble_eq_true rfl, rfl⟩
      · obtain ⟨v0, _, rfl, h0, hks⟩ := one hks
        obtain ⟨v1, _, rfl, h1, hks⟩ := one hks
        cases non hks
        refine ⟨rfl, _, hcode, Nat.le_of_ble_eq_true rfl, rfl, rfl, ?_⟩
        refine ⟨rfl, _, hcode, ?_⟩
        exact ⟨rfl, _, h0, rfl, _, h1, Nat.le_of_ble_eq_true rfl, rfl⟩
      · obtain ⟨v0, _, rfl, h0, hks⟩ := one hks
        obtain ⟨v1, _, rfl, h1, hks⟩ := one hks
        cases non hks
        refine ⟨rfl, _, hcode, Nat.le_of_ble_eq_true rfl, rfl, rfl, ?_⟩
        refine ⟨rfl, _, hcode, ?_⟩
        refine ⟨rfl, _, hcode, ?_⟩
        exact ⟨rfl, _, h0, rfl, _, h1, Nat.le_of_ble_eq_true rfl, rfl⟩
      · obtain ⟨v0, _, rfl, h0, hks⟩ := one hks
        obtain ⟨v1, _, rfl, h1, hks⟩ := one hks
        cases non hks
        refine ⟨rfl, _, hcode, Nat.le_of_ble_eq_true rfl, rfl, rfl, ?_⟩
        refine ⟨rfl, _, hcode, ?_⟩
        refine ⟨rfl, _, hcode, ?_⟩
        refine ⟨rfl, _, hcode, ?_⟩
        exact ⟨rfl, _, h0, rfl, _, h1, Nat.le_of_ble_eq_true rfl, rfl⟩
      · obtain ⟨v0, _, rfl, h0, hks⟩ := one hks
        cases non hks
        refine ⟨rfl, _, hcode, Nat.le_of_ble_eq_true rfl, rfl, rfl, ?_⟩
        refine ⟨rfl, _, hcode, ?_⟩
        refine ⟨rfl, _, hcode, ?_⟩
        refine ⟨rfl, _, hcode, ?_⟩
        refine ⟨rfl, _, hcode, Nat.le_of_ble_eq_true rfl, rfl, rfl, ?_⟩
        exact ⟨rfl, _, h0, Nat.le_of_ble_eq_true rfl, rfl⟩
      · obtain ⟨v0, _, rfl, h0, hks⟩ := one hks
        cases non hks
        refine ⟨rfl, _, hcode, Nat.le_of_ble_eq_true rfl, rfl, rfl, ?_⟩
        refine ⟨rfl, _, hcode, ?_⟩
        refine ⟨rfl, _, hcode, ?_⟩
        refine ⟨rfl, _, hcode, ?_⟩
        refine ⟨rfl, _, hcode, Nat.le_of_ble_eq_true rfl, rfl, rfl, ?_⟩
        exact ⟨rfl, _, h0, Nat.le_of_ble_eq_true rfl, rfl⟩
      · obtain ⟨v0, _, rfl, h0, hks⟩ := one hks
        cases non hks
        refine ⟨rfl, _, hcode, Nat.le_of_ble_eq_true rfl, rfl, rfl, ?_⟩
        refine ⟨rfl, _, hcode, ?_⟩
        refine ⟨rfl, _, hcode, ?_⟩
        refine ⟨rfl, _, hcode, ?_⟩
        refine ⟨rfl, _, hcode, Nat.le_of_ble_eq_true rfl, rfl, rfl, ?_⟩
        refine ⟨rfl, _, hcode, ?_⟩
        exact ⟨rfl, _, h0, Nat.le_of_ble_eq_true rfl, rfl⟩
      · obtain ⟨v0, _, rfl, h0, hks⟩ := one hks
        cases non hks
        refine ⟨rfl, _, hcode, Nat.le_of_ble_eq_true rfl, rfl, rfl, ?_⟩
        refine ⟨rfl, _, hcode, ?_⟩
        refine ⟨rfl, _, hcode, ?_⟩
        refine ⟨rfl, _, hcode, ?_⟩
        refine ⟨rfl, _, hcode, Nat.le_of_ble_eq_true rfl, rfl, rfl, ?_⟩
        refine ⟨rfl, _, hcode, ?_⟩
        refine ⟨rfl, _, hcode, ?_⟩
        exact ⟨rfl, _, h0, Nat.le_of_ble_eq_true rfl, rfl⟩
      · obtain ⟨v0, _, rfl, h0, hks⟩ := one hks
        cases non hks
        refine ⟨rfl, _, hcode, Nat.le_of_ble_eq_true rfl, rfl, rfl, ?_⟩
        refine ⟨rfl, _, hcode, ?_⟩
        refine ⟨rfl, _, hcode, ?_⟩
        refine ⟨rfl, _, hcode, ?_⟩
        refine ⟨rfl, _, hcode, Nat.le_of_ble_eq_true rfl, rfl, rfl, ?_⟩
        refine ⟨rfl, _, hcode, ?_⟩
        refine ⟨rfl, _, hcode, ?_⟩
        refine ⟨rfl, _, hcode, ?_⟩
        exact ⟨rfl, _, h0, Nat.le_of_ble_eq_true rfl, rfl⟩
      · obtain ⟨v0, _, rfl, h0, hks⟩ := one hks
        cases non hks
        refine ⟨rfl, _, hcode, Nat.le_of_ble_eq_true rfl, rfl, rfl, ?_⟩
        refine ⟨rfl, _, hcode, ?_⟩
        refine ⟨rfl, _, hcode, ?_⟩
        refine ⟨rfl, _, hcode, ?_⟩
        refine ⟨rfl, _, hcode, Nat.le_of_ble_eq_true rfl, rfl, rfl, ?_⟩
        refine ⟨rfl, _, hcode, ?_⟩
        refine ⟨rfl, _, hcode, ?_⟩
        refine ⟨rfl, _, hcode, ?_⟩
        refine ⟨rfl, _, hcode, ?_⟩
        exact ⟨rfl, _, h0, Nat.le_of_ble_eq_true rfl, rfl⟩
      · cases non hks
        refine ⟨rfl, _, hcode, Nat.le_of_ble_eq_true rfl, rfl, rfl, ?_⟩
        refine ⟨rfl, _, hcode, ?_⟩
        refine ⟨rfl, _, hcode, ?_⟩
        refine ⟨rfl, _, hcode, ?_⟩
        refine ⟨rfl, _, hcode, Nat.le_of_ble_eq_true rfl, rfl, rfl, ?_⟩
        refine ⟨rfl, _, hcode, ?_⟩
        refine ⟨rfl, _, hcode, ?_⟩
        refine ⟨rfl, _, hcode, ?_⟩
        refine ⟨rfl, _, hcode, ?_⟩
        exact ⟨Nat.le_of_ble_eq_true rfl, rfl⟩
      · cases non hks
        refine ⟨rfl, _, hcode, Nat.le_of_ble_eq_true rfl, rfl, rfl, ?_⟩
        refine ⟨rfl, _, hcode, ?_⟩
        refine ⟨rfl, _, hcode, ?_⟩
        refine ⟨rfl, _, hcode, ?_⟩
        refine ⟨rfl, _, hcode, Nat.le_of_ble_eq_true rfl, rfl, rfl, ?_⟩
        refine ⟨rfl, _, hcode, ?_⟩
        refine ⟨rfl, _, hcode, ?_⟩
        refine ⟨rfl, _, hcode, ?_⟩
        refine ⟨rfl, _, hcode, ?_⟩
        exact ⟨Nat.le_of_ble_eq_true rfl, rfl⟩
    · subst hd
      have fH : Full H H' := fun b o z => by
        by_cases hb : b = dd
        · rw [hb] at z ⊢
          rw [hx] at z
          cases z
          exact i
        · exact e b o hb z
      exact k H' v fH (r'.car fun b o n z => ⟨fun y => n (.inl y), z⟩)
def tryCs (T : Tx K mg) : List Value := [.ref T.C_ScaleError, .ref T.C_Missing, .ref T.C_NothingLeft]
-- _law_ask, _law_said, _law_e
theorem takes_len {X : Cx} {W : WX} (tk : Takes X W) : Takes X (fun cls d σ H => σ.length = X.N.length → W cls d σ H) := fun u s' ⟨a, B, sI, pins, σ, H, cls, d, e, I, nb, up, sky, na, os, ag, w⟩ =>
  tk u s' ⟨a, B, sI, pins, σ, H, cls, d, e, I, nb, up, sky, na, os, ag, w I.len⟩
/-- the reading of the suite -/
def tsTry (K : PySem.W.Frag) (a : Addr) (cls : Value) (d : Option Addr) : TS := fun D σ H => σ[2]? = some (some (.ref a)) ∧ ∃ (C dd : Addr) (fs : List (Str × V)) (z : Str) (ks : List Str) (ws : List V) (Mo : Addr → Prop), cls = .ref C ∧ d = some dd ∧ ExcK K C ∧ H dd = some (.xd fs) ∧ fs.lookup ("code" : Str) = some (V.str z) ∧
  (z, ks) ∈ errTab ∧ ks.map (fun k => fs.lookup k) = ws.map some ∧ (∀ b, Mo b → H b ≠ none ∧ ∀ φ, H b ≠ some (.ext φ)) ∧ ∀ H2 v2, Full H H2 → Rep K Mo H2 (.tup (ws.map dOf)) v2 → ∀ p, H2 p = none → D.nx (σ.set 1 (some (.ref p))) (upd H2 p (.tup [.str z, v2]))
theorem try_gives {X : Cx} (T : Tx X.K X.mg) (cdv : Value) (q : Str) (k : Nat) : GivesT X ["_law_ask", "_law_said", "_law_e"] "_law_try" (defScope s_l_try) T.f_l_try cdv (defBody s_l_try) "_law_ask" q (k + 1) (TTry X.K (tryCs T)) := by
  intro f c' s H Q tl hr act hc h
  refine ⟨_, pss_cons (ps_set (i := 1) sc_l_try.nd rfl (.inl rfl) (pe_tup (pa_cons pe_str (pa_cons pe_non pa_nil))))
    (pss_cons (ps_try_tup3 (i := 2) (ts := tsTry X.K)
        (tb := fun W D σ H => ∃ Ech : XK, (∀ cls d σ' H', σ'.length = 3 → Ech cls d H' → W cls d σ' H') ∧ σ[0]? = some (some (.ref f)) ∧ H c' = some (LamX.CodeO c' q) ∧ tl Ech H fun v H' => 2 ≤ sizeLine ∧ ∀ p, H' p = none → D.nx (σ.set 1 (some (.ref p))) (upd H' p (.tup [.str "", v])))
        rfl rfl sc_l_try.nd rfl rfl (by rfl) T.gC_ScaleError (by rfl) T.gC_Missing (by rfl) T.gC_NothingLeft (fun W pn xe tk _ => ?_) (fun a oe cls d pn hz hf => ?_))
      (pss_one (ps_ret (pv 1)))), ?_⟩
  · refine ⟨fun pins s' σ H' D I h' => ?_⟩
    obtain ⟨Ech, hW, h1, h2, h3⟩ := h'
    have hp := fun p1 p2 => act _ pn xe Ech p1 p2 (takes_len tk) (fun cls d σ' H' h hl => hW cls d σ' H' hl h)
    refine (pss_one (ps_set (i := 1) sc_l_try.nd rfl (.inl rfl) (pe_tup (pa_cons pe_str (pa_cons (hp _ _) pa_nil))))).run pins s' σ H' D I ?_
    exact ⟨h1, h2, h3⟩
  · refine ⟨fun pins s' σ H' D I h' => ?_⟩
    obtain ⟨h1, C, dd, fs, z, ks, ws, Mo, rfl, rfl, hC, hx, hcode, hmem, hks, hMo, kk⟩ := h'
    obtain ⟨vs, hd⟩ := hf
    refine (pss_one (ps_set (i := 1) sc_l_try.nd rfl (.inl rfl) (pe_tup (pa_cons (pe_xfN (X := (cxOf CX0 X.prog X.w X.K X.mg X.base ["_law_ask", "_law_said", "_law_e"] "_law_try" (defScope s_l_try) T.f_l_try cdv X.A X.stack s H C8.E0).nox) (i := 2) hz ⟨vs, hd⟩ (by decide) rfl (.inl rfl)) (pa_cons (pe_exarg (X := (cxOf CX0 X.prog X.w X.K X.mg X.base ["_law_ask", "_law_said", "_law_e"] "_law_try" (defScope s_l_try) T.f_l_try cdv X.A X.stack s H C8.E0).nox) (i := 2) (ok_l_field T) ⟨(hr.mono (Nat.le_add_left 1 k)).dp, (hr.mono (Nat.le_add_left 1 k)).un⟩ (by rfl) T.g_l_field T.F_l_field.kp T.B_l_field rfl (.inl rfl)) pa_nil))))).run pins s' σ H' D I ?_
    refine ⟨h1, C, dd, fs, _, hC, rfl, rfl, hx, hcode, ?_⟩
    refine ⟨h1, dd, fs, z, ks, ws, Mo, rfl, ⟨C, vs, hC, hz.1, hz.2, hd⟩, hx, hcode, hmem, hks, hMo, fun H2 v2 fH r2 => ?_⟩
    exact ⟨by show 2 ≤ sizeLine; decide, fun p hp => kk H2 v2 fH r2 p hp⟩
  · refine ⟨by show 2 ≤ sizeLine; decide, fun p0 hp0 => ?_⟩
    have hcc : upd H p0 (.tup [.str "", .non]) c' = some (LamX.CodeO c' q) := by rw [upd_ne (ne_of_none hc hp0)]; exact hc
    refine ⟨fun cls d H' => excAsk X.K (tryCs T) H' cls d (fun Mo z vs => ∀ H2 v2, Full H' H2 → Rep X.K Mo H2 (.tup (vs.map dOf)) v2 → ∀ p, H2 p = none → Q (.ref p) (upd H2 p (.tup [.str z, v2]))), fun cls d σ' H' hl hx => ?_, rfl, hcc, h p0 hp0 _ _ (fun _ _ _ z => z) fun v H' hv => ⟨by decide, fun p hp => ⟨.ref p, rfl, hv p hp⟩⟩⟩
    obtain ⟨C, dd, fs, z, ks, vs, Mo, rfl, rfl, hC, hex, hdd, hcode, hmem, hks, hMo, R⟩ := hx
    match σ', hl with
    | [s0, s1, s2], _ =>
      exact ⟨hex, fun a na => ⟨rfl, C, dd, fs, z, ks, vs, Mo, rfl, rfl, hC, hdd, hcode, hmem, hks, hMo, fun H2 v2 fH r2 p hp => ⟨.ref p, rfl, R H2 v2 fH r2 p hp⟩⟩⟩
/-- _law_try(lambda: body) -/
theorem ve_tryT {X : Cx} {W : Wd} {c Pt : Addr} {k : Nat} {params : Arguments} {body : Expr} {scope : Scope} {wB : (D → Prop) → WE} {p lpos pos : Pos} (T : Tx X.K X.mg) (hg : Gl X "_law_try")
    (TB : LamX.TabB X.base X.mg c Pt) (hcode : X.env.code = .ref c) (hr : Room (k + 2) X.A) (L : LamX.LamS X.env.scope scope) (hdef : defaultsOf params X.env = ([], []))
    (hbind : ∀ (q : Str) (cl : List (Str × Addr)) (pm cv ctv : Value), bindArgs (PySem.W.kla_fn "<lambda>" q params body scope cl pm cv ctv) ⟨[], []⟩ = pure [])
    (hbody : ∀ (A : Around) (outer : List Env) (s : Shared) (H : Hp) (E : XK) (f c' : Addr) (Mf : Addr → Prop) (Hf : Hp) (PX : D → Prop), Room k (A.deeper (LamX.lamEnv X scope s.heap.objs.size f c')) → Takes (LamX.lamCx X A outer s H E scope f c') (XW X.K ((W.tab Pt (lamQ X)).fx Mf Hf) PX) →
      VE (LamX.lamCx X A outer s H E scope f c') ((W.tab Pt (lamQ X)).fx Mf Hf) body (wB PX)) :
    VE X (W.tab Pt (lamQ X)) (.Call (.Name "_law_try" p) [.Lambda params body scope lpos] [] pos) (wTry X.K (tryCs T) wB) := by
  obtain ⟨⟨oc, od, kV, doc, pm, an, cdv, ct, osl, e, lk, hcd⟩, hkp⟩ := T.F_l_try
  have hb := T.B_l_try
  rw [e] at lk hb
  exact ve_try hg T.g_l_try hkp lk hcd hb sc_l_try rfl (.inl rfl) (try_gives T cdv (lamQ X) k) TB hcode hr L hdef hbind hbody
/-! ### lambdas that are tried, one by one -/
def g_try (P : Program) (w : World) (base : Heap) (T : Tx K mg) (kl : Nat) (W : Wd) (xs : List D) (Q : D → Prop) : Prop := ∃ d wB, xs = [d] ∧ LamV P w K mg base kl W d wB ∧ wB (errD K (tryCs T) Q) fun y => Q (.tup [.str "", y])
theorem ok_l_try (T : Tx K mg) (kl : Nat) (WL : Wd) : FnOk P w K mg base CX0 (kl + 2) T.f_l_try T.fd_l_try ["_law_ask"] (spD K WL (g_try P w base T kl WL)) := by
  refine T.F_l_try.ok sc_l_try (fun vs H Q E h => ?_) (fun cdv A outer s H vs Q E hr h => ?_)
  · obtain ⟨M, ds, Pd, m, r, ⟨d, wB, rfl, _⟩, _⟩ := h
    exact r.len
  · obtain ⟨M, ds, Pd, m, r, ⟨d, wB, rfl, L, hw⟩, kk⟩ := h
    have L0 := L
    obtain ⟨f, as, rfl, _⟩ := L0
    obtain ⟨v, vs', rfl, r1, r2⟩ := r.inv
    cases r2.inv0
    obtain ⟨rfl, ha⟩ := r1.lam
    have hT := try_V (cs := tryCs T) m (fun p hp => (ha p hp).2) hw kk
    refine ⟨_, pss_cons (ps_set (i := 1) sc_l_try.nd rfl (.inl rfl) (pe_tup (pa_cons pe_str (pa_cons pe_non pa_nil))))
      (pss_cons (ps_try_tup3 (i := 2) (ts := tsTry K)
          (tb := fun W D σ H => ∃ Ech : XK, (∀ cls d σ' H', σ'.length = 3 → Ech cls d H' → W cls d σ' H') ∧ σ[0]? = some (some (.ref f)) ∧ tlV K WL as wB Ech H fun v H' => 2 ≤ sizeLine ∧ ∀ p, H' p = none → D.nx (σ.set 1 (some (.ref p))) (upd H' p (.tup [.str "", v])))
          rfl rfl sc_l_try.nd rfl rfl (by rfl) T.gC_ScaleError (by rfl) T.gC_Missing (by rfl) T.gC_NothingLeft (fun W pn xe tk _ => ?_) (fun a oe cls d pn hz hf => ?_))
        (pss_one (ps_ret (pv 1)))), ?_⟩
    · refine ⟨fun pins s' σ H' D I h' => ?_⟩
      obtain ⟨Ech, hW, h1, h3⟩ := h'
      have hp := fun p1 p2 => pe_actV (Z := (cxOf CX0 P w K mg base ["_law_ask", "_law_said", "_law_e"] "_law_try" (defScope s_l_try) T.f_l_try cdv A outer s H E).nox.tr pn xe) (i := 0) (a := "_law_ask") (p1 := p1) (p2 := p2) (E := Ech) L (takes_len tk) (fun cls d σ' H' h hl => hW cls d σ' H' hl h) hr rfl (.inl rfl)
      refine (pss_one (ps_set (i := 1) sc_l_try.nd rfl (.inl rfl) (pe_tup (pa_cons pe_str (pa_cons (hp _ _) pa_nil))))).run pins s' σ H' D I ?_
      exact ⟨h1, h3⟩
    · refine ⟨fun pins s' σ H' D I h' => ?_⟩
      obtain ⟨h1, C, dd, fs, z, ks, ws, Mo, rfl, rfl, hC, hx, hcode, hmem, hks, hMo, kk⟩ := h'
      obtain ⟨vs, hd⟩ := hf
      refine (pss_one (ps_set (i := 1) sc_l_try.nd rfl (.inl rfl) (pe_tup (pa_cons (pe_xfN (X := (cxOf CX0 P w K mg base ["_law_ask", "_law_said", "_law_e"] "_law_try" (defScope s_l_try) T.f_l_try cdv A outer s H E).nox) (i := 2) hz ⟨vs, hd⟩ (by decide) rfl (.inl rfl)) (pa_cons (pe_exarg (X := (cxOf CX0 P w K mg base ["_law_ask", "_law_said", "_law_e"] "_law_try" (defScope s_l_try) T.f_l_try cdv A outer s H E).nox) (i := 2) (ok_l_field T) ⟨(hr.mono (Nat.le_add_left 1 kl)).dp, (hr.mono (Nat.le_add_left 1 kl)).un⟩ (by rfl) T.g_l_field T.F_l_field.kp T.B_l_field rfl (.inl rfl)) pa_nil))))).run pins s' σ H' D I ?_
      refine ⟨h1, C, dd, fs, _, hC, rfl, rfl, hx, hcode, ?_⟩
      refine ⟨h1, dd, fs, z, ks, ws, Mo, rfl, ⟨C, vs, hC, hz.1, hz.2, hd⟩, hx, hcode, hmem, hks, hMo, fun H2 v2 fH r2 => ?_⟩
      exact ⟨by show 2 ≤ sizeLine; decide, fun p hp => kk H2 v2 fH r2 p hp⟩
    · refine ⟨by show 2 ≤ sizeLine; decide, fun p0 hp0 => ?_⟩
      refine ⟨fun cls d H' => excAsk K (tryCs T) H' cls d (fun Mo z vs => ∀ H2 v2, Full H' H2 → Rep K Mo H2 (.tup (vs.map dOf)) v2 → ∀ p, H2 p = none → Q (.ref p) (upd H2 p (.tup [.str z, v2]))), fun cls d σ' H' hl hx => ?_, rfl, hT p0 hp0 _ _ (fun _ _ _ z => z) fun v H' hv => ⟨by decide, fun p hp => ⟨.ref p, rfl, hv p hp⟩⟩⟩
      obtain ⟨C, dd, fs, z, ks, vs, Mo, rfl, rfl, hC, hex, hdd, hcode, hmem, hks, hMo, R⟩ := hx
      match σ', hl with
      | [s0, s1, s2], _ =>
        exact ⟨hex, fun a na => ⟨rfl, C, dd, fs, z, ks, vs, Mo, rfl, rfl, hC, hdd, hcode, hmem, hks, hMo, fun H2 v2 fH r2 p hp => ⟨.ref p, rfl, R H2 v2 fH r2 p hp⟩⟩⟩
/-- each item by its place -/
theorem lcI {items : List D} {P : List D → Prop} {g : WG} {w : WE} {ds : List Sl} (R : Nat → D → Prop) (h : ∀ i d, items[i]? = some d → ∀ Q : D → Prop, (∀ y, R i y → Q y) → g d ds fun ds1 => w ds1 Q) (hP : ∀ ys : List D, ys.length = items.length → (∀ i y, ys[i]? = some y → R i y) → P ys) :
    ∃ Iv : Nat → List D → Prop, Iv 0 [] ∧ (∀ i d acc, items[i]? = some d → Iv i acc → g d ds fun ds1 => wYes ds1 fun b => if b = true then w ds1 fun y => Iv (i + 1) (acc ++ [y]) else Iv (i + 1) acc) ∧ ∀ acc, Iv items.length acc → P acc := by
  refine ⟨fun i acc => acc.length = i ∧ ∀ j y, acc[j]? = some y → R j y, ⟨rfl, fun j y hy => by simp at hy⟩, fun i d acc hd ha => ?_, fun acc ha => hP acc ha.1 ha.2⟩
  refine h i d hd _ fun y hy => ⟨by simp [ha.1], fun j z hz => ?_⟩
  by_cases hj : j < acc.length
  · rw [List.getElem?_append_left hj] at hz
    exact ha.2 j z hz
  · rw [List.getElem?_append_right (by omega)] at hz
    have e : j - acc.length = 0 := by
      by_cases h0 : j - acc.length = 0
      · exact h0
      · rw [List.getElem?_eq_none (by simp; omega)] at hz; cases hz
    rw [e] at hz
    cases hz
    have : j = i := by have := ha.1; omega
    rw [this]
    exact hy
def g_tries (P : Program) (w : World) (base : Heap) (T : Tx K mg) (kl : Nat) (W : Wd) (xs : List D) (Q : D → Prop) : Prop := ∃ (lams : List D) (R : Nat → D → Prop), xs = [.lst lams] ∧ lams.length ≤ 1000 ∧
  (∀ i d, lams[i]? = some d → ∃ wB : (D → Prop) → (D → Prop) → Prop, LamV P w K mg base kl W d wB ∧ ∀ Q' : D → Prop, (∀ y, R i y → Q' y) → wB (errD K (tryCs T) Q') fun y => Q' (.tup [.str "", y])) ∧ ∀ ys : List D, ys.length = lams.length → (∀ i y, ys[i]? = some y → R i y) → Q (.lst ys)
theorem ok_l_tries (T : Tx K mg) (WL : Wd) : FnOk P w K mg base CX0 10 T.f_l_tries T.fd_l_tries ["_law_asks"] (spD K WL (g_tries P w base T 7 WL)) := by
  refine vfn T.F_l_tries sc_l_tries (fun ds Q h => ?_) ⟨_, fun cdv A outer s H E hr => (vss_one (vs_ret (ve_lc (own := [("_law_ask", 1)]) rfl sc_l_tries.nd (vi_its (ve_var 0)) (blkOk_by (N := ["_law_asks", "_law_ask"]) (sc := defScope s_l_tries) (by decide +kernel)) (fun _ _ _ _ _ => (vg_name 1 sc_l_tries.nd (by decide))) (fun _ _ _ _ _ => vts_nil) (fun _ _ _ _ _ => (ve_call (ok_l_try T (P := P) (w := w) (mg := mg) (base := base) 7 WL.pl) (hr.mono (by decide)) (by rfl) T.g_l_try T.F_l_try.kp T.B_l_try .nil pass0 (fun _ _ => reps_nil) (va_cons (ve_var 1) va_nil)))))), fun ds Q h => ?_⟩
  · obtain ⟨_, _, rfl, _⟩ := h
    rfl
  · obtain ⟨lams, R, rfl, hl, hL, h⟩ := h
    refine ⟨rfl, ?_⟩
    refine lcI R (fun i d hd Q' hR => ?_) (fun ys h1 h2 => h ys h1 h2)
    obtain ⟨wB, L, hw⟩ := hL i d hd
    exact ⟨d, wB, rfl, L.pl, hw Q' hR⟩
--CUT--
/-! ### changes -/
def chK : List Str := ["scale", "factor", "shift"]
def g_Change (xs : List D) (Q : List Str → List D → Prop) (PX : D → Prop) : Prop := ∃ s n m f sh, xs = [.str s, f, sh] ∧ nmS s = true ∧ AmtD n f ∧ 0 < qD f ∧ AmtD m sh ∧ Q chK [.str s, f, sh]
theorem ok_Change___init__ (T : Tx K mg) : FnOk P w K mg base (L2.CX P w) 3 T.f_Change___init__ T.fd_Change___init__ ["self", "scale", "factor", "shift"] (spI K W T.C_Change g_Change) := by
  refine vfnID T.F_Change___init__ sc_Change___init__ (fun ds Q PX h => ?_) ⟨_, fun PX Mf Hf cdv A outer s H E hr tk => (vss_cons (vs_if (vt_not (vt_val (ve_call (ok_is_name T) (hr.mono (by decide)) (by rfl) T.g_is_name T.F_is_name.kp T.B_is_name .nil pass0 (fun _ _ => reps_nil) (va_cons (ve_var 1) va_nil)))) (vss_one vs_never) vss_nil) (vss_cons (vs_if (vt_w (vw_or (vt_not (vt_val (ve_call (ok_is_amount T) (hr.mono (by decide)) (by rfl) T.g_is_amount T.F_is_amount.kp T.B_is_amount .nil pass0 (fun _ _ => reps_nil) (va_cons (ve_var 2) va_nil)))) (vw_or1 (vt_cmp op_le lift_iib (ve_call (ok_sign T) (hr.mono (by decide)) (by rfl) T.g_sign T.F_sign.kp T.B_sign .nil pass0 (fun _ _ => reps_nil) (va_cons (ve_var 2) va_nil)) ve_int (nomark _))))) (vss_one vs_never) vss_nil) (vss_cons (vs_if (vt_not (vt_val (ve_call (ok_is_amount T) (hr.mono (by decide)) (by rfl) T.g_is_amount T.F_is_amount.kp T.B_is_amount .nil pass0 (fun _ _ => reps_nil) (va_cons (ve_var 3) va_nil)))) (vss_one vs_never) vss_nil) (vss_cons (vs_fldO 0 [T.C_Quantity, T.C_Reading, T.C_Span, T.C_Change] (fl_scale T) (ve_var 1)) (vss_cons (vs_fldO 0 [T.C_Change] (fl_factor T) (ve_var 2)) (vss_one (vs_fldO 0 [T.C_Change] (fl_shift T) (ve_var 3)))))))), fun a ds Q PX h => ?_⟩
  · obtain ⟨_, _, _, _, _, rfl, _⟩ := h
    rfl
  · obtain ⟨s, n, m, f, sh, rfl, hs, hf, hp, hsh, h⟩ := h
    have t1 := nm_tame hs
    have p1 := tame_plain (amt_tame hf)
    have p2 := tame_plain (amt_tame hsh)
    have sg := (sgn_pos hf).mpr hp
    obtain ⟨fa, fb, rfl, FA⟩ := hf
    obtain ⟨sa, sb, rfl, SA⟩ := hsh
    have e1 : isName (.str s) = true := hs
    have e2 := amt_is FA
    have e3 := amt_is SA
    refine ⟨_, rfl, t1, ?_⟩
    rw [e1]
    refine ⟨_, rfl, p1, ?_⟩
    rw [e2]
    refine ⟨fa, _, rfl, ?_⟩
    refine vifd (fun z => absurd z (by have : 0 < sgnI fa := sg; show ¬ sgnI fa ≤ 0; omega)) (fun _ => ?_)
    refine ⟨_, rfl, p2, ?_⟩
    rw [e3]
    refine ⟨(by simp), by decide, by decide, .head _, by decide, by decide, .head _, by decide, by decide, rfl, rfl, h⟩
theorem ok_mk_Change (T : Tx K mg) : FnOk P w K mg base (L2.CX P w) 3 T.f_Change___init__ T.fd_Change___init__ ["self", "scale", "factor", "shift"] (spI K W T.C_Change g_Change) := ok_Change___init__ T
def g_ch1 (C : Addr) (g : D → D → (D → Prop) → Prop) (xs : List D) (Q : D → Prop) : Prop := ∃ s n m f sh, xs = [.ins C chK [.str s, f, sh]] ∧ AmtD n f ∧ AmtD m sh ∧ n ≤ 1000 ∧ m ≤ 1000 ∧ g f sh Q
theorem ok_Change_is_still (T : Tx K mg) : FnOk P w K mg base CX0 1 T.f_Change_is_still T.fd_Change_is_still ["self"] (spD K W (g_ch1 T.C_Change fun f sh Q => Q (.bl (decide (qD f = 1) && decide (qD sh = 0))))) := by
  refine vfn T.F_Change_is_still sc_Change_is_still (fun ds Q h => ?_) ⟨_, fun cdv A outer s H E hr => (vss_one (vs_ret (ve_and (ve_cmp (op_eqA hr.units) lift_eq (ve_fld [T.C_Change] (fl_factor T) (ve_var 0)) (ve_glob (by rfl) T.c_ONE T.r_ONE T.w_ONE) (nomark _)) (ve_one (ve_cmp (op_eqA hr.units) lift_eq (ve_fld [T.C_Change] (fl_shift T) (ve_var 0)) (ve_glob (by rfl) T.c_ZERO T.r_ZERO T.w_ZERO) (nomark _)))))), fun ds Q h => ?_⟩
  · obtain ⟨_, _, _, _, _, rfl, _⟩ := h
    rfl
  · obtain ⟨s, n, m, f, sh, rfl, hf, hsh, _, _, h⟩ := h
    have e1 := eqv_amtD hf one_amt
    have e2 := eqv_amtD hsh zero_amt
    rw [q_one] at e1
    rw [q_zero] at e2
    obtain ⟨fa, fb, rfl, FA⟩ := hf
    obtain ⟨sa, sb, rfl, SA⟩ := hsh
    refine ⟨.head _, _, rfl, rfl, rfl, ?_⟩
    rw [show eqv (.tup [.int fa, .int fb]) (.tup [.int 1, .int 1]) = _ from e1]
    refine vifd (fun z => ?_) (fun z => ?_)
    · refine ⟨.head _, _, rfl, rfl, rfl, ?_⟩
      rw [show eqv (.tup [.int sa, .int sb]) (.tup [.int 0, .int 1]) = _ from e2]
      rw [decide_eq_true z, Bool.true_and] at h
      exact h
    · rw [decide_eq_false z, Bool.false_and] at h
      exact h
/-! ### quantities -/
def qK : List Str := ["scale", "amount"]
def qI (C : Addr) (s : Str) (a : D) : D := .ins C qK [.str s, a]
def g_Quantity (xs : List D) (Q : List Str → List D → Prop) (PX : D → Prop) : Prop := ∃ s n a, xs = [.str s, a] ∧ nmS s = true ∧ AmtD n a ∧ Q qK [.str s, a]
theorem ok_Quantity_init (T : Tx K mg) (C : Addr) (hC : C ∈ [T.C_Quantity, T.C_Reading, T.C_Span]) : FnOk P w K mg base (L2.CX P w) 3 T.f_Quantity___init__ T.fd_Quantity___init__ ["self", "scale", "amount"] (spI K W C g_Quantity) := by
  refine vfnI T.F_Quantity___init__ sc_Quantity___init__ (fun ds Q PX h => ?_) ⟨_, fun PX Mf Hf cdv A outer s H E hr tk => (vss_cons (vs_if (vt_not (vt_val (ve_call (ok_is_name T) (hr.mono (by decide)) (by rfl) T.g_is_name T.F_is_name.kp T.B_is_name .nil pass0 (fun _ _ => reps_nil) (va_cons (ve_var 1) va_nil)))) (vss_one vs_never) vss_nil) (vss_cons (vs_if (vt_not (vt_val (ve_call (ok_is_amount T) (hr.mono (by decide)) (by rfl) T.g_is_amount T.F_is_amount.kp T.B_is_amount .nil pass0 (fun _ _ => reps_nil) (va_cons (ve_var 2) va_nil)))) (vss_one vs_never) vss_nil) (vss_cons (vs_fldO 0 [T.C_Quantity, T.C_Reading, T.C_Span, T.C_Change] (fl_scale T) (ve_var 1)) (vss_one (vs_fldO 0 [T.C_Quantity, T.C_Reading, T.C_Span] (fl_amount T) (ve_var 2)))))), fun a ds Q PX h => ?_⟩
  · obtain ⟨_, _, _, rfl, _⟩ := h
    rfl
  · obtain ⟨s, n, x, rfl, hs, hx, h⟩ := h
    have t1 := nm_tame hs
    have p1 := tame_plain (amt_tame hx)
    obtain ⟨fa, fb, rfl, FA⟩ := hx
    have e1 : isName (.str s) = true := hs
    have e2 := amt_is FA
    simp only [List.mem_cons, List.not_mem_nil, or_false] at hC
    refine ⟨_, rfl, t1, ?_⟩
    rw [e1]
    refine ⟨_, rfl, p1, ?_⟩
    rw [e2]
    exact ⟨(by simp; rcases hC with h | h | h <;> simp [h]), by decide, by decide, (by simp; rcases hC with h | h | h <;> simp [h]), by decide, by decide, rfl, rfl, h⟩
theorem ok_mk_Quantity (T : Tx K mg) : FnOk P w K mg base (L2.CX P w) 3 T.f_Quantity___init__ T.fd_Quantity___init__ ["self", "scale", "amount"] (spI K W T.C_Quantity g_Quantity) := ok_Quantity_init T _ (by simp)
theorem ok_mk_Reading (T : Tx K mg) : FnOk P w K mg base (L2.CX P w) 3 T.f_Quantity___init__ T.fd_Quantity___init__ ["self", "scale", "amount"] (spI K W T.C_Reading g_Quantity) := ok_Quantity_init T _ (by simp)
theorem ok_mk_Span (T : Tx K mg) : FnOk P w K mg base (L2.CX P w) 3 T.f_Quantity___init__ T.fd_Quantity___init__ ["self", "scale", "amount"] (spI K W T.C_Span g_Quantity) := ok_Quantity_init T _ (by simp)
abbrev qTab (T : Tx K mg) : List (Addr × D) := [(T.C_Quantity, .str "quantity"), (T.C_Reading, .str "reading"), (T.C_Span, .str "span")]
theorem qTab_lay {T : Tx K mg} {C : Addr} {k : Str} (h : (C, D.str k) ∈ qTab T) : (toPy (.str k)).canLay0 = true ∧ (toPy (.str k)).depth ≤ 60 := by
  simp only [List.mem_cons, List.not_mem_nil, or_false, Prod.mk.injEq, D.str.injEq] at h
  rcases h with ⟨_, rfl⟩ | ⟨_, rfl⟩ | ⟨_, rfl⟩ <;> exact ⟨by decide +kernel, by decide +kernel⟩
theorem qTab_mem {T : Tx K mg} {C : Addr} {d : D} (h : (C, d) ∈ qTab T) : C ∈ [T.C_Quantity, T.C_Reading, T.C_Span] := by
  simp only [List.mem_cons, List.not_mem_nil, or_false, Prod.mk.injEq] at h ⊢
  rcases h with ⟨h, _⟩ | ⟨h, _⟩ | ⟨h, _⟩ <;> simp [h]
theorem amt_lay' {n : Nat} {d : D} (h : AmtD n d) : (toPy d).canLay0 = true ∧ (toPy d).depth ≤ 60 := by
  obtain ⟨a, b, rfl, _⟩ := h
  exact ⟨rfl, by show 1 ≤ 60; decide⟩
theorem trip_shp {n : Nat} {k s : Str} {a : D} (hk : (toPy (.str k)).canLay0 = true ∧ (toPy (.str k)).depth ≤ 60) (hs : nmS s = true) (ha : AmtD n a) : shp (.tup [.str k, .str s, a]) = true := shp_tup fun x hx => by
  simp only [List.mem_cons, List.not_mem_nil, or_false] at hx
  rcases hx with rfl | rfl | rfl
  · exact hk
  · exact nm_lay hs
  · exact amt_lay' ha
theorem trip_eqv {n m : Nat} {k s k' s' : Str} {a a' : D} (ha : AmtD n a) (ha' : AmtD m a') : eqv (.tup [.str k, .str s, a]) (.tup [.str k', .str s', a']) = (decide (k = k') && (decide (s = s') && decide (qD a = qD a'))) := by
  have e : eqv (.tup [.str k, .str s, a]) (.tup [.str k', .str s', a']) = ((k == k') && ((s == s') && (eqv a a' && true))) := rfl
  rw [e, eqv_amtD ha ha', Bool.and_true]
  rfl
def g_qeq (T : Tx K mg) (xs : List D) (Q : D → Prop) : Prop := ∃ C k s n a, (C, D.str k) ∈ qTab T ∧ nmS s = true ∧ AmtD n a ∧ ((∃ C' k' s' m a', xs = [qI C s a, qI C' s' a'] ∧ (C', D.str k') ∈ qTab T ∧ nmS s' = true ∧ AmtD m a' ∧ Q (.bl (decide (k = k') && (decide (s = s') && decide (qD a = qD a'))))) ∨
  ∃ y, xs = [qI C s a, y] ∧ noHnd y = true ∧ Q (.bl false))
theorem tyN_mem {y : D} (h : noHnd y = true) : tyN y ∈ ["NoneType", "bool", "int", "str", "tuple", "list"] := by
  cases y with
  | hnd _ => cases h
  | dic _ _ => cases h
  | ins _ _ _ => cases h
  | lam _ _ => cases h
  | _ => simp [tyN]
theorem ok_Quantity___eq__ (T : Tx K mg) : FnOk P w K mg base CX0 1 T.f_Quantity___eq__ T.fd_Quantity___eq__ ["self", "other"] (spD K W (g_qeq T)) := by
  refine vfn T.F_Quantity___eq__ sc_Quantity___eq__ (fun ds Q h => ?_) ⟨_, fun cdv A outer s H E hr => (vss_cons (vs_if (vt_not (vt_val (ve_isiC [(T.C_Quantity, true), (T.C_Reading, true), (T.C_Span, true), (T.C_Change, false)] ["NoneType", "bool", "int", "str", "tuple", "list"] (by rfl) T.n_isinstance bt_isinstance (ve_var 1) (by rfl) T.gC_Quantity (isi_Quantity T).1 (isi_Quantity T).2))) (vss_one (vs_ret ve_bl)) vss_nil) (vss_one (vs_ret (ve_cmp (op_eqA hr.units) lift_eq (ve_tup (va_cons (ve_con [(T.C_Quantity, (.str "quantity")), (T.C_Reading, (.str "reading")), (T.C_Span, (.str "span"))] (cn_KIND T) (ve_var 0)) (va_cons (ve_fld [T.C_Quantity, T.C_Reading, T.C_Span, T.C_Change] (fl_scale T) (ve_var 0)) (va_cons (ve_fld [T.C_Quantity, T.C_Reading, T.C_Span] (fl_amount T) (ve_var 0)) va_nil)))) (ve_tup (va_cons (ve_con [(T.C_Quantity, (.str "quantity")), (T.C_Reading, (.str "reading")), (T.C_Span, (.str "span"))] (cn_KIND T) (ve_var 1)) (va_cons (ve_fld [T.C_Quantity, T.C_Reading, T.C_Span, T.C_Change] (fl_scale T) (ve_var 1)) (va_cons (ve_fld [T.C_Quantity, T.C_Reading, T.C_Span] (fl_amount T) (ve_var 1)) va_nil)))) (nomark _))))), fun ds Q h => ?_⟩
  · obtain ⟨_, _, _, _, _, _, _, _, ⟨_, _, _, _, _, rfl, _⟩ | ⟨_, rfl, _⟩⟩ := h
    · rfl
    · rfl
  · obtain ⟨C, k, s, n, a, hC, hs, ha, ⟨C', k', s', m, a', rfl, hC', hs', ha', h⟩ | ⟨y, rfl, hy, h⟩⟩ := h
    · refine ⟨true, ?_, ?_⟩
      · have q := qTab_mem hC'
        simp only [List.mem_cons, List.not_mem_nil, or_false] at q
        rcases q with q | q | q <;> simp [q]
      refine ⟨.str k, hC, rfl, (by have q := qTab_mem hC; simp only [List.mem_cons, List.not_mem_nil, or_false] at q ⊢; rcases q with q | q | q <;> simp [q]), _, rfl, qTab_mem hC, _, rfl, Nat.le_of_ble_eq_true rfl, ?_⟩
      refine ⟨.str k', hC', rfl, (by have q := qTab_mem hC'; simp only [List.mem_cons, List.not_mem_nil, or_false] at q ⊢; rcases q with q | q | q <;> simp [q]), _, rfl, qTab_mem hC', _, rfl, Nat.le_of_ble_eq_true rfl, ?_⟩
      refine ⟨trip_shp (qTab_lay hC) hs ha, trip_shp (qTab_lay hC') hs' ha', ?_⟩
      rw [trip_eqv ha ha']
      exact h
    · cases y with
      | hnd _ => cases hy
      | dic _ _ => cases hy
      | ins _ _ _ => cases hy
      | lam _ _ => cases hy
      | _ => exact ⟨rfl, tyN_mem rfl, h⟩
theorem qTab_mem4 {T : Tx K mg} {C : Addr} {d : D} (h : (C, d) ∈ qTab T) : C ∈ [T.C_Quantity, T.C_Reading, T.C_Span, T.C_Change] := by
  simp only [List.mem_cons, List.not_mem_nil, or_false, Prod.mk.injEq] at h ⊢
  rcases h with ⟨h, _⟩ | ⟨h, _⟩ | ⟨h, _⟩ <;> simp [h]
/-- the class of a kind -/
def RS (T : Tx K mg) (C : Addr) (k : Str) : Prop := (k = "reading" ∧ C = T.C_Reading) ∨ (k = "span" ∧ C = T.C_Span)
theorem rs_of (T : Tx K mg) {k : Str} (h : k = "reading" ∨ k = "span") : ∃ C, RS T C k := h.elim (fun h => ⟨_, .inl ⟨h, rfl⟩⟩) fun h => ⟨_, .inr ⟨h, rfl⟩⟩
theorem rs_tab {T : Tx K mg} {C : Addr} {k : Str} (h : RS T C k) : (C, D.str k) ∈ qTab T := by
  rcases h with ⟨rfl, rfl⟩ | ⟨rfl, rfl⟩ <;> simp
theorem rs_ne {T : Tx K mg} {C : Addr} {k : Str} (h : RS T C k) : k ≠ "quantity" := by
  rcases h with ⟨rfl, rfl⟩ | ⟨rfl, rfl⟩ <;> decide +kernel
theorem rs_eq {T : Tx K mg} {C C' : Addr} {k : Str} (h : RS T C k) (h' : RS T C' k) : C = C' := by
  rcases h with ⟨rfl, rfl⟩ | ⟨rfl, rfl⟩ <;> rcases h' with ⟨h1, rfl⟩ | ⟨h1, rfl⟩ <;> first | rfl | (exfalso; revert h1; decide +kernel)
def g_lquant (T : Tx K mg) (xs : List D) (P : D → Prop) : Prop := ∃ k s n a C, xs = [.str k, .str s, a] ∧ nmS s = true ∧ AmtD n a ∧ RS T C k ∧ P (qI C s a)
theorem ok_l_quantity (T : Tx K mg) : FnOk P w K mg base CX0 5 T.f_l_quantity T.fd_l_quantity ["_law_kind", "_law_scale", "_law_one"] (spD K W (g_lquant T)) := by
  refine vfn T.F_l_quantity sc_l_quantity (fun ds Q h => ?_) ⟨_, fun cdv A outer s H E hr => (vss_cons (vs_if (vt_cmp (op_eqA hr.units) lift_eq (ve_var 0) ve_str (nomark _)) (vss_one (vs_ret (ve_make T.mk_Quantity (ok_mk_Quantity T) (hr.mono (by decide)) (by rfl) T.gC_Quantity ⟨[], .nil, T.B_Quantity___init__⟩ (fun _ _ => reps_nil) takes0 (va_cons (ve_var 1) (va_cons (ve_var 2) va_nil))))) vss_nil) (vss_one (vs_ret (ve_if (vt_cmp (op_eqA hr.units) lift_eq (ve_var 0) ve_str (nomark _)) (ve_make T.mk_Reading (ok_mk_Reading T) (hr.mono (by decide)) (by rfl) T.gC_Reading ⟨[], .nil, T.B_Quantity___init__⟩ (fun _ _ => reps_nil) takes0 (va_cons (ve_var 1) (va_cons (ve_var 2) va_nil))) (ve_make T.mk_Span (ok_mk_Span T) (hr.mono (by decide)) (by rfl) T.gC_Span ⟨[], .nil, T.B_Quantity___init__⟩ (fun _ _ => reps_nil) takes0 (va_cons (ve_var 1) (va_cons (ve_var 2) va_nil))))))), fun ds Q h => ?_⟩
  · obtain ⟨_, _, _, _, _, rfl, _⟩ := h
    rfl
  · obtain ⟨k, s, n, a, C, rfl, hs, ha, ⟨rfl, rfl⟩ | ⟨rfl, rfl⟩, h⟩ := h
    · exact ⟨s, n, a, rfl, hs, ha, h⟩
    · exact ⟨s, n, a, rfl, hs, ha, h⟩
theorem ok_quantity_of (T : Tx K mg) : FnOk P w K mg base CX0 5 T.f_quantity_of T.fd_quantity_of ["kind", "scale", "amount"] (spD K W (g_lquant T)) := by
  refine vfn T.F_quantity_of sc_quantity_of (fun ds Q h => ?_) ⟨_, fun cdv A outer s H E hr => (vss_one (vs_ret (ve_if (vt_cmp (op_eqA hr.units) lift_eq (ve_var 0) ve_str (nomark _)) (ve_make T.mk_Reading (ok_mk_Reading T) (hr.mono (by decide)) (by rfl) T.gC_Reading ⟨[], .nil, T.B_Quantity___init__⟩ (fun _ _ => reps_nil) takes0 (va_cons (ve_var 1) (va_cons (ve_var 2) va_nil))) (ve_make T.mk_Span (ok_mk_Span T) (hr.mono (by decide)) (by rfl) T.gC_Span ⟨[], .nil, T.B_Quantity___init__⟩ (fun _ _ => reps_nil) takes0 (va_cons (ve_var 1) (va_cons (ve_var 2) va_nil)))))), fun ds Q h => ?_⟩
  · obtain ⟨_, _, _, _, _, rfl, _⟩ := h
    rfl
  · obtain ⟨k, s, n, a, C, rfl, hs, ha, ⟨rfl, rfl⟩ | ⟨rfl, rfl⟩, h⟩ := h
    · exact ⟨s, n, a, rfl, hs, ha, h⟩
    · exact ⟨s, n, a, rfl, hs, ha, h⟩
/-- a change as an instance -/
def chI (T : Tx K mg) (s : Str) (f sh : D) : D := .ins T.C_Change chK [.str s, f, sh]
def ledD (k : Str) (f sh a : D) : D := if k = "reading" then plusD (timesD f a) sh else timesD f a
def g_led (T : Tx K mg) : GX := fun xs P _ => ∃ k s n m p f sh a, xs = [chI T s f sh, .str k, a] ∧ AmtD n f ∧ AmtD m sh ∧ AmtD p a ∧ n + m + p ≤ 8000 ∧ P (ledD k f sh a)
theorem ok_Change_led (T : Tx K mg) : FnOk P w K mg base (L2.CX P w) 4 T.f_Change_led T.fd_Change_led ["self", "kind", "amount"] (spX K W (g_led T)) := by
  refine vfnX T.F_Change_led sc_Change_led (fun ds Q PX h => ?_) ⟨_, fun PX Mf Hf cdv A outer s H E hr tk => (vss_cons (vs_set 3 sc_Change_led.nd (ve_call (ok_times T) (hr.mono (by decide)) (by rfl) T.g_times T.F_times.kp T.B_times .nil pass0 (fun _ _ => reps_nil) (va_cons (ve_fld [T.C_Change] (fl_factor T) (ve_var 0)) (va_cons (ve_var 2) va_nil)))) (vss_one (vs_ret (ve_if (vt_cmp (op_eqA hr.units) lift_eq (ve_var 1) ve_str (nomark _)) (ve_call (ok_plus T) (hr.mono (by decide)) (by rfl) T.g_plus T.F_plus.kp T.B_plus .nil pass0 (fun _ _ => reps_nil) (va_cons (ve_var 3) (va_cons (ve_fld [T.C_Change] (fl_shift T) (ve_var 0)) va_nil))) (ve_var 3))))), fun ds Q PX h => ?_⟩
  · obtain ⟨_, _, _, _, _, _, _, _, rfl, _⟩ := h
    rfl
  · obtain ⟨k, s, n, m, p, f, sh, a, rfl, hf, hsh, ha, hn, h⟩ := h
    unfold ledD at h
    refine ⟨.head _, _, rfl, n, p, f, a, rfl, hf, ha, by omega, ?_⟩
    dsimp only [List.set]
    refine vifd (fun z => ?_) (fun z => ?_)
    · rw [if_pos z] at h
      exact ⟨.head _, _, rfl, n + p, m, _, _, rfl, times_amt hf ha, hsh, by omega, h⟩
    · rw [if_neg z] at h
      exact h
def g_call (T : Tx K mg) : GX := fun xs P _ => ∃ C k s s' n m p f sh a, xs = [chI T s f sh, qI C s' a] ∧ (C, D.str k) ∈ qTab T ∧ nmS s = true ∧ AmtD n f ∧ AmtD m sh ∧ AmtD p a ∧ n + m + p ≤ 8000 ∧ ((s' ≠ s ∨ k = "quantity") → P (qI C s' a)) ∧ (s' = s → RS T C k → P (qI C s (ledD k f sh a)))
theorem rs_or {T : Tx K mg} {C : Addr} {k : Str} (h : (C, D.str k) ∈ qTab T) : k = "quantity" ∨ RS T C k := by
  simp only [List.mem_cons, List.not_mem_nil, or_false, Prod.mk.injEq, D.str.injEq] at h
  rcases h with ⟨_, h⟩ | ⟨h1, h2⟩ | ⟨h1, h2⟩
  · exact .inl h
  · exact .inr (.inl ⟨h2, h1⟩)
  · exact .inr (.inr ⟨h2, h1⟩)
theorem led_amt {n m p : Nat} {k : Str} {f sh a : D} (hf : AmtD n f) (hsh : AmtD m sh) (ha : AmtD p a) : AmtD (n + p + m + 1) (ledD k f sh a) := by
  unfold ledD
  split
  · exact plus_amt (times_amt hf ha) hsh
  · exact (times_amt hf ha).mono (by omega)
theorem ok_Change___call__ (T : Tx K mg) : FnOk P w K mg base (L2.CX P w) 6 T.f_Change___call__ T.fd_Change___call__ ["self", "quantity"] (spX K W (g_call T)) := by
  refine vfnX T.F_Change___call__ sc_Change___call__ (fun ds Q PX h => ?_) ⟨_, fun PX Mf Hf cdv A outer s H E hr tk => (vss_cons (vs_if (vt_w (vw_or (vt_cmp (op_neA hr.units) lift_ne (ve_fld [T.C_Quantity, T.C_Reading, T.C_Span, T.C_Change] (fl_scale T) (ve_var 1)) (ve_fld [T.C_Quantity, T.C_Reading, T.C_Span, T.C_Change] (fl_scale T) (ve_var 0)) (nomark _)) (vw_or1 (vt_cmp (op_eqA hr.units) lift_eq (ve_con [(T.C_Quantity, (.str "quantity")), (T.C_Reading, (.str "reading")), (T.C_Span, (.str "span"))] (cn_KIND T) (ve_var 1)) ve_str (nomark _))))) (vss_one (vs_ret (ve_var 1))) vss_nil) (vss_one (vs_ret (ve_call (ok_quantity_of T) (hr.mono (by decide)) (by rfl) T.g_quantity_of T.F_quantity_of.kp T.B_quantity_of .nil pass0 (fun _ _ => reps_nil) (va_cons (ve_con [(T.C_Quantity, (.str "quantity")), (T.C_Reading, (.str "reading")), (T.C_Span, (.str "span"))] (cn_KIND T) (ve_var 1)) (va_cons (ve_fld [T.C_Quantity, T.C_Reading, T.C_Span, T.C_Change] (fl_scale T) (ve_var 0)) (va_cons (ve_methX [T.C_Change] (ve_var 0) (me_led T) (ok_Change_led T) (hr.mono (by decide)) ⟨[], .nil, T.B_Change_led⟩ tk (fun _ _ => reps_nil) (va_cons (ve_con [(T.C_Quantity, (.str "quantity")), (T.C_Reading, (.str "reading")), (T.C_Span, (.str "span"))] (cn_KIND T) (ve_var 1)) (va_cons (ve_fld [T.C_Quantity, T.C_Reading, T.C_Span] (fl_amount T) (ve_var 1)) va_nil))) va_nil))))))), fun ds Q PX h => ?_⟩
  · obtain ⟨_, _, _, _, _, _, _, _, _, _, rfl, _⟩ := h
    rfl
  · obtain ⟨C, k, s, s', n, m, p, f, sh, a, rfl, hC, hs, hf, hsh, ha, hn, h1, h2⟩ := h
    refine ⟨qTab_mem4 hC, _, rfl, by simp, _, rfl, ?_⟩
    refine vifn (fun z => h1 (.inl z)) (fun z => ?_)
    refine ⟨.str k, hC, rfl, vifd (fun y => h1 (.inr y)) fun y => ?_⟩
    have hR := (rs_or hC).resolve_left y
    exact ⟨.str k, hC, rfl, by simp, _, rfl, .head _, rfl, .str k, hC, rfl, qTab_mem hC, _, rfl, k, s, n, m, p, f, sh, a, rfl, hf, hsh, ha, hn, k, s, _, _, C, rfl, hs, led_amt hf hsh ha, hR, h2 z hR⟩
def g_cheq (T : Tx K mg) (xs : List D) (Q : D → Prop) : Prop := ∃ s n m f sh, nmS s = true ∧ AmtD n f ∧ AmtD m sh ∧ ((∃ s' n' m' f' sh', xs = [chI T s f sh, chI T s' f' sh'] ∧ nmS s' = true ∧ AmtD n' f' ∧ AmtD m' sh' ∧ Q (.bl (decide (s = s') && (decide (qD f = qD f') && decide (qD sh = qD sh'))))) ∨
  ∃ y, xs = [chI T s f sh, y] ∧ noHnd y = true ∧ Q (.bl false))
theorem ch3_shp {n m : Nat} {s : Str} {f sh : D} (hs : nmS s = true) (hf : AmtD n f) (hsh : AmtD m sh) : shp (.tup [.str s, f, sh]) = true := shp_tup fun x hx => by
  simp only [List.mem_cons, List.not_mem_nil, or_false] at hx
  rcases hx with rfl | rfl | rfl
  · exact nm_lay hs
  · exact amt_lay' hf
  · exact amt_lay' hsh
theorem ch3_eqv {n m n' m' : Nat} {s s' : Str} {f sh f' sh' : D} (hf : AmtD n f) (hsh : AmtD m sh) (hf' : AmtD n' f') (hsh' : AmtD m' sh') : eqv (.tup [.str s, f, sh]) (.tup [.str s', f', sh']) = (decide (s = s') && (decide (qD f = qD f') && decide (qD sh = qD sh'))) := by
  have e : eqv (.tup [.str s, f, sh]) (.tup [.str s', f', sh']) = ((s == s') && (eqv f f' && (eqv sh sh' && true))) := rfl
  rw [e, eqv_amtD hf hf', eqv_amtD hsh hsh', Bool.and_true]
  rfl
theorem ok_Change___eq__ (T : Tx K mg) : FnOk P w K mg base CX0 1 T.f_Change___eq__ T.fd_Change___eq__ ["self", "other"] (spD K W (g_cheq T)) := by
  refine vfn T.F_Change___eq__ sc_Change___eq__ (fun ds Q h => ?_) ⟨_, fun cdv A outer s H E hr => (vss_cons (vs_if (vt_not (vt_val (ve_isiC [(T.C_Quantity, false), (T.C_Reading, false), (T.C_Span, false), (T.C_Change, true)] ["NoneType", "bool", "int", "str", "tuple", "list"] (by rfl) T.n_isinstance bt_isinstance (ve_var 1) (by rfl) T.gC_Change (isi_Change T).1 (isi_Change T).2))) (vss_one (vs_ret ve_bl)) vss_nil) (vss_one (vs_ret (ve_cmp (op_eqA hr.units) lift_eq (ve_tup (va_cons (ve_fld [T.C_Quantity, T.C_Reading, T.C_Span, T.C_Change] (fl_scale T) (ve_var 0)) (va_cons (ve_fld [T.C_Change] (fl_factor T) (ve_var 0)) (va_cons (ve_fld [T.C_Change] (fl_shift T) (ve_var 0)) va_nil)))) (ve_tup (va_cons (ve_fld [T.C_Quantity, T.C_Reading, T.C_Span, T.C_Change] (fl_scale T) (ve_var 1)) (va_cons (ve_fld [T.C_Change] (fl_factor T) (ve_var 1)) (va_cons (ve_fld [T.C_Change] (fl_shift T) (ve_var 1)) va_nil)))) (nomark _))))), fun ds Q h => ?_⟩
  · obtain ⟨_, _, _, _, _, _, _, _, ⟨_, _, _, _, _, rfl, _⟩ | ⟨_, rfl, _⟩⟩ := h
    · rfl
    · rfl
  · obtain ⟨s, n, m, f, sh, hs, hf, hsh, ⟨s', n', m', f', sh', rfl, hs', hf', hsh', h⟩ | ⟨y, rfl, hy, h⟩⟩ := h
    · refine ⟨true, by simp, ?_⟩
      refine ⟨by simp, _, rfl, .head _, _, rfl, .head _, _, rfl, Nat.le_of_ble_eq_true rfl, by simp, _, rfl, .head _, _, rfl, .head _, _, rfl, Nat.le_of_ble_eq_true rfl, ch3_shp hs hf hsh, ch3_shp hs' hf' hsh', ?_⟩
      rw [ch3_eqv hf hsh hf' hsh']
      exact h
    · cases y with
      | hnd _ => cases hy
      | dic _ _ => cases hy
      | ins _ _ _ => cases hy
      | lam _ _ => cases hy
      | _ => exact ⟨rfl, by simp [tyN], h⟩
def errS (T : Tx K mg) (s s' : Str) : D := .ins T.C_ScalesDiffer ["other", "one", "code"] [.str s', .str s, .str "ScalesDiffer"]
theorem errS_ok (T : Tx K mg) {s s' : Str} {R : D → Prop} (h : R (.tup [.str "ScalesDiffer", .tup [.str s, .str s']])) : errD K (tryCs T) R (errS T s s') := ⟨T.ex_ScalesDiffer, T.em_ScalesDiffer, _, _, [.str s, .str s'], rfl, .tail _ (.tail _ (.tail _ (.tail _ (.head _)))), rfl, h⟩
def g_chmul (T : Tx K mg) : GX := fun xs P PX => ∃ s s' n m n' m' f sh f' sh', xs = [chI T s f sh, chI T s' f' sh'] ∧ nmS s = true ∧ AmtD n f ∧ AmtD m sh ∧ AmtD n' f' ∧ AmtD m' sh' ∧ 0 < qD f ∧ 0 < qD f' ∧ n + m + n' + m' ≤ 8000 ∧ (s = s' → P (chI T s (timesD f f') (plusD (timesD f' sh) sh'))) ∧ (s ≠ s' → PX (errS T s s'))
theorem q_times_pos {n m : Nat} {x y : D} (hx : AmtD n x) (hy : AmtD m y) (h1 : 0 < qD x) (h2 : 0 < qD y) : 0 < qD (timesD x y) := by
  rw [q_times hx hy]
  exact Rat.mul_pos h1 h2
theorem ok_Change___mul__ (T : Tx K mg) : FnOk P w K mg base (L2.CX P w) 5 T.f_Change___mul__ T.fd_Change___mul__ ["self", "other"] (spX K W (g_chmul T)) := by
  refine vfnX T.F_Change___mul__ sc_Change___mul__ (fun ds Q PX h => ?_) ⟨_, fun PX Mf Hf cdv A outer s H E hr tk => (vss_cons (vs_if (vt_cmp (op_neA hr.units) lift_ne (ve_fld [T.C_Quantity, T.C_Reading, T.C_Span, T.C_Change] (fl_scale T) (ve_var 0)) (ve_fld [T.C_Quantity, T.C_Reading, T.C_Span, T.C_Change] (fl_scale T) (ve_var 1)) (nomark _)) (vss_one (vs_raise T.ox_ScalesDiffer T.oi_ScalesDiffer T.ot_ScalesDiffer (ok_mk_ScalesDiffer T) (hr.mono (by decide)) T.B_ScalesDiffer___init__ (by rfl) T.gC_ScalesDiffer rfl tk (va_cons (ve_fld [T.C_Quantity, T.C_Reading, T.C_Span, T.C_Change] (fl_scale T) (ve_var 0)) (va_cons (ve_fld [T.C_Quantity, T.C_Reading, T.C_Span, T.C_Change] (fl_scale T) (ve_var 1)) va_nil)))) vss_nil) (vss_cons (vs_set 2 sc_Change___mul__.nd (ve_call (ok_plus T) (hr.mono (by decide)) (by rfl) T.g_plus T.F_plus.kp T.B_plus .nil pass0 (fun _ _ => reps_nil) (va_cons (ve_call (ok_times T) (hr.mono (by decide)) (by rfl) T.g_times T.F_times.kp T.B_times .nil pass0 (fun _ _ => reps_nil) (va_cons (ve_fld [T.C_Change] (fl_factor T) (ve_var 1)) (va_cons (ve_fld [T.C_Change] (fl_shift T) (ve_var 0)) va_nil))) (va_cons (ve_fld [T.C_Change] (fl_shift T) (ve_var 1)) va_nil)))) (vss_one (vs_ret (ve_makeK (fun xs zs => xs ++ zs) T.mk_Change (ok_mk_Change T) (hr.mono (by decide)) (by rfl) T.gC_Change ⟨_, T.F_Change___init__.kall 2 ["factor", "shift"] (fun _ _ _ _ _ _ us ws hu hw => match us, ws, hu, hw with | [_, _], [_, _], _, _ => rfl)⟩ (fun M H a xs zs vs us r1 r2 _ _ => ⟨vs ++ us, rfl, r1.app r2⟩) tk (va_cons (ve_fld [T.C_Quantity, T.C_Reading, T.C_Span, T.C_Change] (fl_scale T) (ve_var 0)) va_nil) (vk_cons (ve_call (ok_times T) (hr.mono (by decide)) (by rfl) T.g_times T.F_times.kp T.B_times .nil pass0 (fun _ _ => reps_nil) (va_cons (ve_fld [T.C_Change] (fl_factor T) (ve_var 0)) (va_cons (ve_fld [T.C_Change] (fl_factor T) (ve_var 1)) va_nil))) (vk_cons (ve_var 2) vk_nil))))))), fun ds Q PX h => ?_⟩
  · obtain ⟨_, _, _, _, _, _, _, _, _, _, rfl, _⟩ := h
    rfl
  · obtain ⟨s, s', n, m, n', m', f, sh, f', sh', rfl, hs, hf, hsh, hf', hsh', p, p', hn, h, hx⟩ := h
    refine ⟨by simp, _, rfl, by simp, _, rfl, ?_⟩
    refine vifn (fun z => ?_) (fun z => ?_)
    · exact ⟨by simp, _, rfl, by simp, _, rfl, rfl, by decide, hx z⟩
    · have T1 := times_amt hf' hsh
      have P1 := plus_amt T1 hsh'
      have F1 := times_amt hf hf'
      refine ⟨.head _, _, rfl, .head _, _, rfl, n', m, _, _, rfl, hf', hsh, by omega, .head _, _, rfl, n' + m, m', _, _, rfl, T1, hsh', by omega, ?_⟩
      exact ⟨by simp, _, rfl, .head _, _, rfl, .head _, _, rfl, n, n', _, _, rfl, hf, hf', by omega, rfl, rfl, s, _, _, _, _, rfl, hs, F1, q_times_pos hf hf' p p', P1, h z⟩
theorem pos_ne {n : Nat} {f : D} (hf : AmtD n f) (p : 0 < qD f) : f ≠ zeroD := fun e => by rw [e, q_zero] at p; exact absurd p (by decide)
theorem q_over_pos {n : Nat} {f : D} (hf : AmtD n f) (p : 0 < qD f) : 0 < qD (overD oneD f) := by
  rw [q_over one_amt hf (pos_ne hf p), q_one, Rat.div_def, Rat.one_mul]
  exact Rat.inv_pos.mpr p
def g_chneg (T : Tx K mg) : GX := fun xs P _ => ∃ s n m f sh, xs = [chI T s f sh] ∧ nmS s = true ∧ AmtD n f ∧ AmtD m sh ∧ 0 < qD f ∧ n + m ≤ 8000 ∧ P (chI T s (overD oneD f) (overD (minusD zeroD sh) f))
theorem ok_Change___neg__ (T : Tx K mg) : FnOk P w K mg base (L2.CX P w) 5 T.f_Change___neg__ T.fd_Change___neg__ ["self"] (spX K W (g_chneg T)) := by
  refine vfnX T.F_Change___neg__ sc_Change___neg__ (fun ds Q PX h => ?_) ⟨_, fun PX Mf Hf cdv A outer s H E hr tk => (vss_one (vs_ret (ve_makeK (fun xs zs => xs ++ zs) T.mk_Change (ok_mk_Change T) (hr.mono (by decide)) (by rfl) T.gC_Change ⟨_, T.F_Change___init__.kall 2 ["factor", "shift"] (fun _ _ _ _ _ _ us ws hu hw => match us, ws, hu, hw with | [_, _], [_, _], _, _ => rfl)⟩ (fun M H a xs zs vs us r1 r2 _ _ => ⟨vs ++ us, rfl, r1.app r2⟩) tk (va_cons (ve_fld [T.C_Quantity, T.C_Reading, T.C_Span, T.C_Change] (fl_scale T) (ve_var 0)) va_nil) (vk_cons (ve_call (ok_over T) (hr.mono (by decide)) (by rfl) T.g_over T.F_over.kp T.B_over .nil pass0 (fun _ _ => reps_nil) (va_cons (ve_glob (by rfl) T.c_ONE T.r_ONE T.w_ONE) (va_cons (ve_fld [T.C_Change] (fl_factor T) (ve_var 0)) va_nil))) (vk_cons (ve_call (ok_over T) (hr.mono (by decide)) (by rfl) T.g_over T.F_over.kp T.B_over .nil pass0 (fun _ _ => reps_nil) (va_cons (ve_call (ok_minus T) (hr.mono (by decide)) (by rfl) T.g_minus T.F_minus.kp T.B_minus .nil pass0 (fun _ _ => reps_nil) (va_cons (ve_glob (by rfl) T.c_ZERO T.r_ZERO T.w_ZERO) (va_cons (ve_fld [T.C_Change] (fl_shift T) (ve_var 0)) va_nil))) (va_cons (ve_fld [T.C_Change] (fl_factor T) (ve_var 0)) va_nil))) vk_nil))))), fun ds Q PX h => ?_⟩
  · obtain ⟨_, _, _, _, _, rfl, _⟩ := h
    rfl
  · obtain ⟨s, n, m, f, sh, rfl, hs, hf, hsh, p, hn, h⟩ := h
    have hz := pos_ne hf p
    have M1 := minus_amt zero_amt hsh
    exact ⟨by simp, _, rfl, .head _, _, rfl, 1, n, _, _, rfl, one_amt, hf, hz, by omega, .head _, _, rfl, 1, m, _, _, rfl, zero_amt, hsh, by omega, .head _, _, rfl, 1 + m + 1, n, _, _, rfl, M1, hf, hz, by omega, rfl, rfl, s, _, _, _, _, rfl, hs, over_amt one_amt hf hz, q_over_pos hf p, over_amt M1 hf hz, h⟩
theorem opt_Mult (T : Tx K mg) : ∀ q ∈ ([(T.C_Change, g_chmul T)] : List (Addr × GX)), BinC K .Mult q.1 ∧ OpM P w K mg base W 5 (PySem.dunder (Operator.info .Mult).2) q.1 q.2 := List.forall_mem_cons.mpr ⟨⟨T.bc_Change_Mult, ⟨⟨_, T.bd_Change_Mult.1, T.bd_Change_Mult.2, (fnR_of (ok_Change___mul__ T) T.B_Change___mul__).mono (by decide)⟩⟩⟩, List.forall_mem_nil _⟩
theorem opf_Mult {K : PySem.W.Frag} {mg : Str → Option Value} (T : Tx K mg) : ∀ q ∈ ([(T.C_Change, T.C_Change)] : List (Addr × Addr)), q.1 = q.2 ∨ (BinC K .Mult q.2 ∧ PySem.W.subIn K (.ref q.2) (.ref q.1) = some false) := List.forall_mem_cons.mpr ⟨.inl rfl, List.forall_mem_nil _⟩
theorem opb_Mult {K : PySem.W.Frag} {mg : Str → Option Value} (T : Tx K mg) : ∀ q ∈ ([] : List (Addr × String)), BinT K .Mult q.1 q.2 := List.forall_mem_nil _
theorem opt_USub (T : Tx K mg) : ∀ q ∈ ([(T.C_Change, g_chneg T)] : List (Addr × GX)), OpM P w K mg base W 5 "__neg__" q.1 q.2 := List.forall_mem_cons.mpr ⟨⟨⟨_, T.sp_Change___neg__.1, T.sp_Change___neg__.2, (fnR_of (ok_Change___neg__ T) T.B_Change___neg__).mono (by decide)⟩⟩, List.forall_mem_nil _⟩
theorem opt_Eq (T : Tx K mg) : ∀ q ∈ ([(T.C_Change, g_cheq T), (T.C_Reading, g_qeq T), (T.C_Span, g_qeq T)] : List (Addr × (List D → (D → Prop) → Prop))), EqC K q.1 ∧ EqM P w K mg base W 1 q.1 q.2 := List.forall_mem_cons.mpr ⟨⟨T.eq_Change, ⟨⟨_, T.sp_Change___eq__.1, T.sp_Change___eq__.2, (fnR_of (ok_Change___eq__ T) T.B_Change___eq__).mono (by decide)⟩⟩⟩, List.forall_mem_cons.mpr ⟨⟨T.eq_Reading, ⟨⟨_, T.sp_Reading___eq__.1, T.sp_Reading___eq__.2, (fnR_of (ok_Quantity___eq__ T) T.B_Quantity___eq__).mono (by decide)⟩⟩⟩, List.forall_mem_cons.mpr ⟨⟨T.eq_Span, ⟨⟨_, T.sp_Span___eq__.1, T.sp_Span___eq__.2, (fnR_of (ok_Quantity___eq__ T) T.B_Quantity___eq__).mono (by decide)⟩⟩⟩, List.forall_mem_nil _⟩⟩⟩
theorem opf_Eq {K : PySem.W.Frag} {mg : Str → Option Value} (T : Tx K mg) : ∀ q ∈ ([(T.C_Change, T.C_Change), (T.C_Reading, T.C_Reading), (T.C_Span, T.C_Span)] : List (Addr × Addr)), PySem.W.notFirst K q.1 (.ref q.2) = true := List.forall_mem_cons.mpr ⟨T.nf_Change_Change, List.forall_mem_cons.mpr ⟨T.nf_Reading_Reading, List.forall_mem_cons.mpr ⟨T.nf_Span_Span, List.forall_mem_nil _⟩⟩⟩
theorem opb_Eq {K : PySem.W.Frag} {mg : Str → Option Value} (T : Tx K mg) : ∀ q ∈ ([] : List (Addr × String)), PySem.W.notFirst K q.1 (.type q.2) = true := List.forall_mem_nil _
--CUT--
/-- a change as a row: scale, factor, shift -/
def RowC (n : Nat) (d : D) : Prop := ∃ s f sh, d = .tup [.str s, f, sh] ∧ nmS s = true ∧ AmtD n f ∧ AmtD n sh ∧ 0 < qD f
def g_lchange (r : Addr) (xs : List D) (Q : D → Prop) : Prop := ∃ s, xs = [.hnd (.ref r), .str s] ∧ ∀ f sh, AmtD 5 f → AmtD 5 sh → 0 < qD f → Q (.tup [.str s, f, sh])
theorem ok_l_change (T : Tx K mg) (r c : Addr) : FnOk P w K mg base CX0 4 T.f_l_change T.fd_l_change ["_law_rng", "_law_scale"] (spD K (rngW r c) (g_lchange r)) := by
  refine vfn T.F_l_change sc_l_change (fun ds Q h => ?_) ⟨_, fun cdv A outer s H E hr => (vss_cons (vs_set 2 sc_l_change.nd (ve_call (ok_l_choice T r c) (hr.mono (by decide)) (by rfl) T.g_l_choice T.F_l_choice.kp T.B_l_choice .nil pass0 (fun _ _ => reps_nil) (va_cons (ve_var 0) (va_cons (ve_lst (va_cons (ve_tup (va_cons ve_int (va_cons ve_int va_nil))) (va_cons (ve_tup (va_cons ve_int (va_cons ve_int va_nil))) (va_cons (ve_tup (va_cons ve_int (va_cons ve_int va_nil))) (va_cons (ve_tup (va_cons ve_int (va_cons ve_int va_nil))) (va_cons (ve_call (ok_l_ratio T) (hr.mono (by decide)) (by rfl) T.g_l_ratio T.F_l_ratio.kp T.B_l_ratio .nil pass0 (fun _ _ => reps_nil) (va_cons (ve_addA ve_int (ve_call (ok_l_draw T r c) (hr.mono (by decide)) (by rfl) T.g_l_draw T.F_l_draw.kp T.B_l_draw .nil pass0 (fun _ _ => reps_nil) (va_cons (ve_var 0) (va_cons ve_int va_nil)))) (va_cons (ve_addA ve_int (ve_call (ok_l_draw T r c) (hr.mono (by decide)) (by rfl) T.g_l_draw T.F_l_draw.kp T.B_l_draw .nil pass0 (fun _ _ => reps_nil) (va_cons (ve_var 0) (va_cons ve_int va_nil)))) va_nil))) va_nil)))))) va_nil)))) (vss_one (vs_ret (ve_tup (va_cons (ve_var 1) (va_cons (ve_var 2) (va_cons (ve_call (ok_l_choice T r c) (hr.mono (by decide)) (by rfl) T.g_l_choice T.F_l_choice.kp T.B_l_choice .nil pass0 (fun _ _ => reps_nil) (va_cons (ve_var 0) (va_cons (ve_lst (va_cons (ve_tup (va_cons ve_int (va_cons ve_int va_nil))) (va_cons (ve_tup (va_cons ve_int (va_cons ve_int va_nil))) (va_cons (ve_call (ok_l_amount T r c) (hr.mono (by decide)) (by rfl) T.g_l_amount T.F_l_amount.kp T.B_l_amount .nil pass0 (fun _ _ => reps_nil) (va_cons (ve_var 0) va_nil)) (va_cons (ve_call (ok_l_amount T r c) (hr.mono (by decide)) (by rfl) T.g_l_amount T.F_l_amount.kp T.B_l_amount .nil pass0 (fun _ _ => reps_nil) (va_cons (ve_var 0) va_nil)) va_nil))))) va_nil))) va_nil))))))), fun ds Q h => ?_⟩
  · obtain ⟨s, rfl, _⟩ := h
    rfl
  · obtain ⟨s, rfl, h⟩ := h
    refine ⟨Nat.le_of_ble_eq_true rfl, Nat.le_of_ble_eq_true rfl, Nat.le_of_ble_eq_true rfl, Nat.le_of_ble_eq_true rfl, 30, rfl, by decide, by decide, fun k k0 k1 => ⟨30, rfl, by decide, by decide, fun j j0 j1 => ?_⟩⟩
    have k1 : k < 30 := k1
    have j1 : j < 30 := j1
    refine ⟨1 + k, 1 + j, rfl, by omega, Nat.lt_trans (show (1 + j).natAbs < 2 ^ 5 by omega) (Nat.pow_lt_pow_right (by decide) (by decide)), ?_⟩
    refine ⟨Nat.le_of_ble_eq_true rfl, _, rfl, Nat.le_of_ble_eq_true rfl, Nat.le_of_ble_eq_true rfl, fun f hf => ?_⟩
    have hf : AmtD 5 f ∧ 0 < qD f := by
      have key : ∀ a b : Int, Amt 5 a b → 0 < a → AmtD 5 (.tup [.int a, .int b]) ∧ 0 < qD (.tup [.int a, .int b]) := fun a b A h => ⟨⟨a, b, rfl, A⟩, (q_pos A).mpr h⟩
      simp only [List.mem_cons, List.not_mem_nil, or_false] at hf
      rcases hf with rfl | rfl | rfl | rfl | rfl
      · exact key _ _ ⟨by decide, by decide, by decide, by decide⟩ (by decide)
      · exact key _ _ ⟨by decide, by decide, by decide, by decide⟩ (by decide)
      · exact key _ _ ⟨by decide, by decide, by decide, by decide⟩ (by decide)
      · exact key _ _ ⟨by decide, by decide, by decide, by decide⟩ (by decide)
      · exact ⟨⟨_, _, rfl, rat_amt (by omega) (by omega) (by omega)⟩, q_rat_pos (by omega) (by omega)⟩
    refine ⟨Nat.le_of_ble_eq_true rfl, Nat.le_of_ble_eq_true rfl, rfl, fun a b A => ⟨rfl, fun a2 b2 A2 => ⟨Nat.le_of_ble_eq_true rfl, _, rfl, Nat.le_of_ble_eq_true rfl, Nat.le_of_ble_eq_true rfl, fun sh hsh => ?_⟩⟩⟩
    have hsh : AmtD 5 sh := by
      simp only [List.mem_cons, List.not_mem_nil, or_false] at hsh
      rcases hsh with rfl | rfl | rfl | rfl
      · exact zero_amt.mono (by decide)
      · exact one_amt.mono (by decide)
      · exact ⟨_, _, rfl, A.mono (by decide)⟩
      · exact ⟨_, _, rfl, A2.mono (by decide)⟩
    exact ⟨Nat.le_of_ble_eq_true rfl, h f sh hf.1 hsh hf.2⟩
theorem ok_l_ready (T : Tx K mg) : FnOk P w K mg base CX0 5 T.f_l_ready T.fd_l_ready ["_law_change_here"] (spD K W (fun xs Q => ∃ n d, xs = [d] ∧ RowC n d ∧ ∀ s f sh, d = .tup [.str s, f, sh] → Q (.ins T.C_Change chK [.str s, f, sh]))) := by
  refine vfn T.F_l_ready sc_l_ready (fun ds Q h => ?_) ⟨_, fun cdv A outer s H E hr => (vss_one (vs_ret (ve_makeK (fun xs zs => xs ++ zs) T.mk_Change (ok_mk_Change T) (hr.mono (by decide)) (by rfl) T.gC_Change ⟨_, T.F_Change___init__.kall 2 ["factor", "shift"] (fun _ _ _ _ _ _ us ws hu hw => match us, ws, hu, hw with | [_, _], [_, _], _, _ => rfl)⟩ (fun M H a xs zs vs us r1 r2 _ _ => ⟨vs ++ us, rfl, r1.app r2⟩) takes0 (va_cons (ve_ixA hr.units (ve_var 0) ve_int) va_nil) (vk_cons (ve_ixA hr.units (ve_var 0) ve_int) (vk_cons (ve_ixA hr.units (ve_var 0) ve_int) vk_nil))))), fun ds Q h => ?_⟩
  · obtain ⟨_, _, rfl, _⟩ := h
    rfl
  · obtain ⟨n, d, rfl, ⟨s, f, sh, rfl, hs, hf, hsh, hp⟩, h⟩ := h
    exact ⟨_, rfl, _, rfl, _, rfl, rfl, rfl, s, n, n, f, sh, rfl, hs, hf, hp, hsh, h s f sh rfl⟩
def undoneD (s : Str) (f sh : D) : D := .tup [.str s, overD oneD f, timesD (negA sh) (overD oneD f)]
theorem ok_l_undone (T : Tx K mg) : FnOk P w K mg base CX0 5 T.f_l_undone T.fd_l_undone ["_law_change_here"] (spD K W (fun xs Q => ∃ s n m f sh, xs = [.tup [.str s, f, sh]] ∧ AmtD n f ∧ AmtD m sh ∧ 0 < qD f ∧ n + m ≤ 8000 ∧ Q (undoneD s f sh))) := by
  refine vfn T.F_l_undone sc_l_undone (fun ds Q h => ?_) ⟨_, fun cdv A outer s H E hr => (vss_cons (vs_set 1 sc_l_undone.nd (ve_call (ok_l_over T) (hr.mono (by decide)) (by rfl) T.g_l_over T.F_l_over.kp T.B_l_over .nil pass0 (fun _ _ => reps_nil) (va_cons (ve_tup (va_cons ve_int (va_cons ve_int va_nil))) (va_cons (ve_ixA hr.units (ve_var 0) ve_int) va_nil)))) (vss_one (vs_ret (ve_tup (va_cons (ve_ixA hr.units (ve_var 0) ve_int) (va_cons (ve_var 1) (va_cons (ve_call (ok_l_times T) (hr.mono (by decide)) (by rfl) T.g_l_times T.F_l_times.kp T.B_l_times .nil pass0 (fun _ _ => reps_nil) (va_cons (ve_tup (va_cons (ve_sub ve_int (ve_ixA hr.units (ve_ixA hr.units (ve_var 0) ve_int) ve_int)) (va_cons (ve_ixA hr.units (ve_ixA hr.units (ve_var 0) ve_int) ve_int) va_nil))) (va_cons (ve_var 1) va_nil))) va_nil))))))), fun ds Q h => ?_⟩
  · obtain ⟨_, _, _, _, _, rfl, _⟩ := h
    rfl
  · obtain ⟨s, n, m, f, sh, rfl, hf, hsh, p, hn, h⟩ := h
    have hz := pos_ne hf p
    have hsh0 := hsh
    obtain ⟨a, b, rfl, A⟩ := hsh
    have N1 : AmtD m (.tup [.int (0 - a), .int b]) := neg_amt hsh0
    exact ⟨Nat.le_of_ble_eq_true rfl, _, rfl, 1, n, _, _, rfl, one_amt, hf, hz, by omega, _, rfl, _, rfl, _, rfl, _, rfl, _, rfl, Nat.le_of_ble_eq_true rfl, m, 1 + n, _, _, rfl, N1, over_amt one_amt hf hz, by omega, Nat.le_of_ble_eq_true rfl, h⟩
--CUT--
theorem okD3 {n m : Nat} {s : Str} {f sh : D} (F : AmtD n f) (B : AmtD m sh) : okD 3 (.lst [.str s, f, sh]) = true := okD_lst (n := 2) (Nat.le_of_ble_eq_true rfl) fun x hx => by
  simp only [List.mem_cons, List.not_mem_nil, or_false] at hx
  rcases hx with rfl | rfl | rfl
  · rfl
  · exact okD_amt F _
  · exact okD_amt B _
theorem one_pos : 0 < qD oneD := by rw [q_one]; decide
theorem eq3 {s : Str} {f sh f' sh' : D} (h1 : qD f = qD f') (h2 : qD sh = qD sh') : (decide (s = s) && (decide (qD f = qD f') && decide (qD sh = qD sh'))) = true := by
  rw [decide_eq_true rfl, decide_eq_true h1, decide_eq_true h2]
  rfl
theorem eq3q {k s : Str} {a b : D} (h : qD a = qD b) : (decide (k = k) && (decide (s = s) && decide (qD a = qD b))) = true := by
  rw [decide_eq_true rfl, decide_eq_true rfl, decide_eq_true h]
  rfl
theorem rs_or_no {T : Tx K mg} {C : Addr} {k s : Str} {R : Prop} (h : RS T C k) (y : s ≠ s ∨ k = "quantity") : R := y.elim (fun y => absurd rfl y) (fun y => absurd y (rs_ne h))
theorem rs_teq {T : Tx K mg} {C : Addr} {k : Str} (h : RS T C k) : (C, g_qeq T) ∈ [(T.C_Change, g_cheq T), (T.C_Reading, g_qeq T), (T.C_Span, g_qeq T)] := by
  rcases h with ⟨_, rfl⟩ | ⟨_, rfl⟩
  · exact .tail _ (.head _)
  · exact .tail _ (.tail _ (.head _))
theorem rs_fam {T : Tx K mg} {C : Addr} {k : Str} (h : RS T C k) : (C, C) ∈ [(T.C_Change, T.C_Change), (T.C_Reading, T.C_Reading), (T.C_Span, T.C_Span)] := by
  rcases h with ⟨_, rfl⟩ | ⟨_, rfl⟩
  · exact .tail _ (.head _)
  · exact .tail _ (.tail _ (.head _))
theorem led_q {n m p : Nat} {k : Str} {f sh a : D} (F : AmtD n f) (S : AmtD m sh) (A : AmtD p a) : qD (ledD k f sh a) = qD f * qD a + (if k = "reading" then qD sh else 0) := by
  unfold ledD
  split
  · rw [q_plus (times_amt F A) S, q_times F A]
  · rw [q_times F A, Rat.add_zero]
theorem all2_three {F : D → D → Prop} {a b c : D} {ys : List D} (h : All2 F [a, b, c] ys) : ∃ x y z, ys = [x, y, z] ∧ F a x ∧ F b y ∧ F c z := by
  match ys, h with
  | _, .cons g1 (.cons g2 (.cons g3 .nil)) => exact ⟨_, _, _, rfl, g1, g2, g3⟩
def lawQ : Str := (envOfC "law" (defScope s_law) 0 0 .none).qual ++ "<lambda>"
theorem ok_law (T : Tx K mg) {cc Pt : Addr} (hc : T.fd_law.code = .ref cc) (TB : LamX.TabB base mg cc Pt) : FnOk P w K mg base CX0 13 T.f_law T.fd_law ["_law_script"] (spLawT K Pt) := by
  refine okC T.F_law hc sc_law (fun vs H Q E h => ?_) (fun A outer s H vs Q E hr h => ⟨_, (pss_cons (ps_set (i := 1) sc_law.nd rfl (by first | exact Or.inl rfl | exact Or.inr rfl) (pe_call (ok_l_source T) (hr.mono (by decide)) (by rfl) T.g_l_source T.F_l_source.kp T.B_l_source .nil pass0 (pa_cons (pv 0) pa_nil))) (pss_ex2 fun r c => (vss_cons (vs_for (vs := [2]) PassesOwn.never rfl (vi_range1 (by rfl) T.n_range ve_int) (vg_name 2 sc_law.nd (by decide)) (vss_cons (vs_set 3 sc_law.nd (ve_call (tb (ok_l_names T r c)) (hr.mono (by decide)) (by rfl) T.g_l_names T.F_l_names.kp T.B_l_names .nil pass0 (fun _ _ => reps_nil) (va_cons (ve_var 1) (va_cons ve_int va_nil)))) (vss_cons (vs_setLc 4 (own := [("_law_k", 15)]) rfl sc_law.nd rfl rfl (sw_true rfl rfl rfl (by decide +kernel)) (vi_range1 (by rfl) T.n_range ve_int) (blkOk_by (N := ["_law_script", "_law_rng", "_law_turn", "_law_names_here", "_law_rows", "_law_one", "_law_other", "_law_third", "_law_both", "_law_due", "_law_undone_here", "_law_kind", "_law_far_here", "_law_asks", "_law_given", "_law_k"]) (sc := defScope s_law) (by decide +kernel)) (fun _ _ _ _ _ => (vg_name 15 sc_law.nd (by decide))) (fun _ _ _ _ _ => vts_nil) (fun _ _ _ _ _ => (ve_call (tb (ok_l_change T r c)) (hr.mono (by decide)) (by rfl) T.g_l_change T.F_l_change.kp T.B_l_change .nil pass0 (fun _ _ => reps_nil) (va_cons (ve_var 1) (va_cons (ve_ixA hr.units (ve_var 3) ve_int) va_nil))))) (vss_cons (vs_set 5 sc_law.nd (ve_call (ok_l_ready T) (hr.mono (by decide)) (by rfl) T.g_l_ready T.F_l_ready.kp T.B_l_ready .nil pass0 (fun _ _ => reps_nil) (va_cons (ve_ixA hr.units (ve_var 4) ve_int) va_nil))) (vss_cons (vs_set 6 sc_law.nd (ve_call (ok_l_ready T) (hr.mono (by decide)) (by rfl) T.g_l_ready T.F_l_ready.kp T.B_l_ready .nil pass0 (fun _ _ => reps_nil) (va_cons (ve_ixA hr.units (ve_var 4) ve_int) va_nil))) (vss_cons (vs_set 7 sc_law.nd (ve_call (ok_l_ready T) (hr.mono (by decide)) (by rfl) T.g_l_ready T.F_l_ready.kp T.B_l_ready .nil pass0 (fun _ _ => reps_nil) (va_cons (ve_ixA hr.units (ve_var 4) ve_int) va_nil))) (vss_cons (vs_set 8 sc_law.nd (ve_binI ([(T.C_Change, g_chmul T)] : List (Addr × GX)) ([(T.C_Change, T.C_Change)] : List (Addr × Addr)) ([] : List (Addr × String)) op_mulW lift_ii (hr.mono (by decide)) takes0 (opt_Mult T) (opf_Mult T) (opb_Mult T) (ve_var 5) (ve_var 6))) (vss_cons (vs_set 9 sc_law.nd (ve_tup (va_cons (ve_ixA hr.units (ve_var 3) ve_int) (va_cons (ve_call (ok_l_times T) (hr.mono (by decide)) (by rfl) T.g_l_times T.F_l_times.kp T.B_l_times .nil pass0 (fun _ _ => reps_nil) (va_cons (ve_ixA hr.units (ve_ixA hr.units (ve_var 4) ve_int) ve_int) (va_cons (ve_ixA hr.units (ve_ixA hr.units (ve_var 4) ve_int) ve_int) va_nil))) (va_cons (ve_call (ok_l_plus T) (hr.mono (by decide)) (by rfl) T.g_l_plus T.F_l_plus.kp T.B_l_plus .nil pass0 (fun _ _ => reps_nil) (va_cons (ve_call (ok_l_times T) (hr.mono (by decide)) (by rfl) T.g_l_times T.F_l_times.kp T.B_l_times .nil pass0 (fun _ _ => reps_nil) (va_cons (ve_ixA hr.units (ve_ixA hr.units (ve_var 4) ve_int) ve_int) (va_cons (ve_ixA hr.units (ve_ixA hr.units (ve_var 4) ve_int) ve_int) va_nil))) (va_cons (ve_ixA hr.units (ve_ixA hr.units (ve_var 4) ve_int) ve_int) va_nil))) va_nil))))) (vss_cons (vs_if (vt_not (vt_val (ve_call (ok_l_same T 3) (hr.mono (by decide)) (by rfl) T.g_l_same T.F_l_same.kp T.B_l_same .nil pass0 (fun _ _ => reps_nil) (va_cons (ve_lst (va_cons (ve_fld [T.C_Quantity, T.C_Reading, T.C_Span, T.C_Change] (fl_scale T) (ve_var 8)) (va_cons (ve_fld [T.C_Change] (fl_factor T) (ve_var 8)) (va_cons (ve_fld [T.C_Change] (fl_shift T) (ve_var 8)) va_nil)))) (va_cons (ve_callTy (cr_listA (by rfl)) lift_listA (by rfl) T.n_list bt_list (va_cons (ve_var 9) va_nil)) va_nil))))) (vss_one (vs_ret ve_bl)) vss_nil) (vss_cons (vs_set 10 sc_law.nd (ve_call (ok_l_undone T) (hr.mono (by decide)) (by rfl) T.g_l_undone T.F_l_undone.kp T.B_l_undone .nil pass0 (fun _ _ => reps_nil) (va_cons (ve_ixA hr.units (ve_var 4) ve_int) va_nil))) (vss_cons (vs_if (vt_not (vt_val (ve_call (ok_l_same T 3) (hr.mono (by decide)) (by rfl) T.g_l_same T.F_l_same.kp T.B_l_same .nil pass0 (fun _ _ => reps_nil) (va_cons (ve_lst (va_cons (ve_fld [T.C_Quantity, T.C_Reading, T.C_Span, T.C_Change] (fl_scale T) (ve_negI ([(T.C_Change, g_chneg T)] : List (Addr × GX)) (hr.mono (by decide)) takes0 (opt_USub T) (ve_var 5))) (va_cons (ve_fld [T.C_Change] (fl_factor T) (ve_negI ([(T.C_Change, g_chneg T)] : List (Addr × GX)) (hr.mono (by decide)) takes0 (opt_USub T) (ve_var 5))) (va_cons (ve_fld [T.C_Change] (fl_shift T) (ve_negI ([(T.C_Change, g_chneg T)] : List (Addr × GX)) (hr.mono (by decide)) takes0 (opt_USub T) (ve_var 5))) va_nil)))) (va_cons (ve_callTy (cr_listA (by rfl)) lift_listA (by rfl) T.n_list bt_list (va_cons (ve_var 10) va_nil)) va_nil))))) (vss_one (vs_ret ve_bl)) vss_nil) (vss_cons (vs_if (vt_w (vw_or (vt_cmp (VL.OpR.or (op_neA hr.units) (op_neI (k := 1) (hr.mono (by decide)) (Nat.lt_of_le_of_lt (Nat.add_le_add_left (show 1 ≤ 64 by decide) _) hr.units))) (lift_eqI (neg := true) lift_ne (opt_Eq T) (opf_Eq T) (opb_Eq T)) (ve_binI ([(T.C_Change, g_chmul T)] : List (Addr × GX)) ([(T.C_Change, T.C_Change)] : List (Addr × Addr)) ([] : List (Addr × String)) op_mulW lift_ii (hr.mono (by decide)) takes0 (opt_Mult T) (opf_Mult T) (opb_Mult T) (ve_binI ([(T.C_Change, g_chmul T)] : List (Addr × GX)) ([(T.C_Change, T.C_Change)] : List (Addr × Addr)) ([] : List (Addr × String)) op_mulW lift_ii (hr.mono (by decide)) takes0 (opt_Mult T) (opf_Mult T) (opb_Mult T) (ve_var 5) (ve_var 6)) (ve_var 7)) (ve_binI ([(T.C_Change, g_chmul T)] : List (Addr × GX)) ([(T.C_Change, T.C_Change)] : List (Addr × Addr)) ([] : List (Addr × String)) op_mulW lift_ii (hr.mono (by decide)) takes0 (opt_Mult T) (opf_Mult T) (opb_Mult T) (ve_var 5) (ve_binI ([(T.C_Change, g_chmul T)] : List (Addr × GX)) ([(T.C_Change, T.C_Change)] : List (Addr × Addr)) ([] : List (Addr × String)) op_mulW lift_ii (hr.mono (by decide)) takes0 (opt_Mult T) (opf_Mult T) (opb_Mult T) (ve_var 6) (ve_var 7))) (nomark _)) (vw_or (vt_not (vt_val (ve_prop [T.C_Change] (ve_binI ([(T.C_Change, g_chmul T)] : List (Addr × GX)) ([(T.C_Change, T.C_Change)] : List (Addr × Addr)) ([] : List (Addr × String)) op_mulW lift_ii (hr.mono (by decide)) takes0 (opt_Mult T) (opf_Mult T) (opb_Mult T) (ve_var 5) (ve_negI ([(T.C_Change, g_chneg T)] : List (Addr × GX)) (hr.mono (by decide)) takes0 (opt_USub T) (ve_var 5))) (pr_is_still T) (ok_Change_is_still T) (hr.mono (by decide)) T.B_Change_is_still))) (vw_or1 (vt_not (vt_val (ve_prop [T.C_Change] (ve_binI ([(T.C_Change, g_chmul T)] : List (Addr × GX)) ([(T.C_Change, T.C_Change)] : List (Addr × Addr)) ([] : List (Addr × String)) op_mulW lift_ii (hr.mono (by decide)) takes0 (opt_Mult T) (opf_Mult T) (opb_Mult T) (ve_negI ([(T.C_Change, g_chneg T)] : List (Addr × GX)) (hr.mono (by decide)) takes0 (opt_USub T) (ve_var 5)) (ve_var 5)) (pr_is_still T) (ok_Change_is_still T) (hr.mono (by decide)) T.B_Change_is_still))))))) (vss_one (vs_ret ve_bl)) vss_nil) (vss_cons (vs_if (vt_w (vw_or (vt_cmp (VL.OpR.or (op_neA hr.units) (op_neI (k := 1) (hr.mono (by decide)) (Nat.lt_of_le_of_lt (Nat.add_le_add_left (show 1 ≤ 64 by decide) _) hr.units))) (lift_eqI (neg := true) lift_ne (opt_Eq T) (opf_Eq T) (opb_Eq T)) (ve_negI ([(T.C_Change, g_chneg T)] : List (Addr × GX)) (hr.mono (by decide)) takes0 (opt_USub T) (ve_negI ([(T.C_Change, g_chneg T)] : List (Addr × GX)) (hr.mono (by decide)) takes0 (opt_USub T) (ve_var 5))) (ve_var 5) (nomark _)) (vw_or (vt_cmp (VL.OpR.or (op_neA hr.units) (op_neI (k := 1) (hr.mono (by decide)) (Nat.lt_of_le_of_lt (Nat.add_le_add_left (show 1 ≤ 64 by decide) _) hr.units))) (lift_eqI (neg := true) lift_ne (opt_Eq T) (opf_Eq T) (opb_Eq T)) (ve_negI ([(T.C_Change, g_chneg T)] : List (Addr × GX)) (hr.mono (by decide)) takes0 (opt_USub T) (ve_binI ([(T.C_Change, g_chmul T)] : List (Addr × GX)) ([(T.C_Change, T.C_Change)] : List (Addr × Addr)) ([] : List (Addr × String)) op_mulW lift_ii (hr.mono (by decide)) takes0 (opt_Mult T) (opf_Mult T) (opb_Mult T) (ve_var 5) (ve_var 6))) (ve_binI ([(T.C_Change, g_chmul T)] : List (Addr × GX)) ([(T.C_Change, T.C_Change)] : List (Addr × Addr)) ([] : List (Addr × String)) op_mulW lift_ii (hr.mono (by decide)) takes0 (opt_Mult T) (opf_Mult T) (opb_Mult T) (ve_negI ([(T.C_Change, g_chneg T)] : List (Addr × GX)) (hr.mono (by decide)) takes0 (opt_USub T) (ve_var 6)) (ve_negI ([(T.C_Change, g_chneg T)] : List (Addr × GX)) (hr.mono (by decide)) takes0 (opt_USub T) (ve_var 5))) (nomark _)) (vw_or1 (vt_cmp (VL.OpR.or (op_neA hr.units) (op_neI (k := 1) (hr.mono (by decide)) (Nat.lt_of_le_of_lt (Nat.add_le_add_left (show 1 ≤ 64 by decide) _) hr.units))) (lift_eqI (neg := true) lift_ne (opt_Eq T) (opf_Eq T) (opb_Eq T)) (ve_binI ([(T.C_Change, g_chmul T)] : List (Addr × GX)) ([(T.C_Change, T.C_Change)] : List (Addr × Addr)) ([] : List (Addr × String)) op_mulW lift_ii (hr.mono (by decide)) takes0 (opt_Mult T) (opf_Mult T) (opb_Mult T) (ve_var 5) (ve_make T.mk_Change (ok_mk_Change T) (hr.mono (by decide)) (by rfl) T.gC_Change (T.F_Change___init__.binds0 2 (List.cons_ne_nil _ _) rfl (fun D _ _ _ _ _ us ks hu hk => match us, ks, hu, hk with | [_, _], [_, _], _, _ => ⟨_, _, _, _, _, _, rfl, rfl, ⟨_, _, _, _, _, _, rfl, rfl, (show _ = _ from rfl)⟩⟩)) (fun M H => reps_cons (T.kw0_Change___init__ M H) (reps_cons (T.kw1_Change___init__ M H) (reps_nil))) takes0 (va_cons (ve_ixA hr.units (ve_var 3) ve_int) va_nil))) (ve_var 5) (nomark _)))))) (vss_one (vs_ret ve_bl)) vss_nil) (vss_cons (vs_for (vs := [11]) PassesOwn.never rfl (vi_its (ve_tup (va_cons ve_str (va_cons ve_str va_nil)))) (vg_name 11 sc_law.nd (by decide)) (vss_cons (vs_set 14 sc_law.nd (ve_call (ok_l_quantity T) (hr.mono (by decide)) (by rfl) T.g_l_quantity T.F_l_quantity.kp T.B_l_quantity .nil pass0 (fun _ _ => reps_nil) (va_cons (ve_var 11) (va_cons (ve_ixA hr.units (ve_var 3) ve_int) (va_cons (ve_call (tb (ok_l_choice T r c)) (hr.mono (by decide)) (by rfl) T.g_l_choice T.F_l_choice.kp T.B_l_choice .nil pass0 (fun _ _ => reps_nil) (va_cons (ve_var 1) (va_cons (ve_lst (va_cons (ve_call (tb (ok_l_amount T r c)) (hr.mono (by decide)) (by rfl) T.g_l_amount T.F_l_amount.kp T.B_l_amount .nil pass0 (fun _ _ => reps_nil) (va_cons (ve_var 1) va_nil)) (va_cons (ve_call (tb (ok_l_far T r c)) (hr.mono (by decide)) (by rfl) T.g_l_far T.F_l_far.kp T.B_l_far .nil pass0 (fun _ _ => reps_nil) (va_cons (ve_var 1) va_nil)) va_nil))) va_nil))) va_nil))))) (vss_one (vs_if (vt_w (vw_or (vt_cmp (VL.OpR.or (op_neA hr.units) (op_neI (k := 1) (hr.mono (by decide)) (Nat.lt_of_le_of_lt (Nat.add_le_add_left (show 1 ≤ 64 by decide) _) hr.units))) (lift_eqI (neg := true) lift_ne (opt_Eq T) (opf_Eq T) (opb_Eq T)) (ve_callI (ve_var 8) T.co_Change (fnR_of (ok_Change___call__ T) T.B_Change___call__) (hr.mono (by decide)) takes0 (va_cons (ve_var 14) va_nil)) (ve_callI (ve_var 6) T.co_Change (fnR_of (ok_Change___call__ T) T.B_Change___call__) (hr.mono (by decide)) takes0 (va_cons (ve_callI (ve_var 5) T.co_Change (fnR_of (ok_Change___call__ T) T.B_Change___call__) (hr.mono (by decide)) takes0 (va_cons (ve_var 14) va_nil)) va_nil)) (nomark _)) (vw_or1 (vt_cmp (VL.OpR.or (op_neA hr.units) (op_neI (k := 1) (hr.mono (by decide)) (Nat.lt_of_le_of_lt (Nat.add_le_add_left (show 1 ≤ 64 by decide) _) hr.units))) (lift_eqI (neg := true) lift_ne (opt_Eq T) (opf_Eq T) (opb_Eq T)) (ve_callI (ve_negI ([(T.C_Change, g_chneg T)] : List (Addr × GX)) (hr.mono (by decide)) takes0 (opt_USub T) (ve_var 5)) T.co_Change (fnR_of (ok_Change___call__ T) T.B_Change___call__) (hr.mono (by decide)) takes0 (va_cons (ve_callI (ve_var 5) T.co_Change (fnR_of (ok_Change___call__ T) T.B_Change___call__) (hr.mono (by decide)) takes0 (va_cons (ve_var 14) va_nil)) va_nil)) (ve_var 14) (nomark _))))) (vss_one (vs_ret ve_bl)) vss_nil)))) (vss_cons (vs_set 12 sc_law.nd (ve_call (ok_l_ready T) (hr.mono (by decide)) (by rfl) T.g_l_ready T.F_l_ready.kp T.B_l_ready .nil pass0 (fun _ _ => reps_nil) (va_cons (ve_call (tb (ok_l_change T r c)) (hr.mono (by decide)) (by rfl) T.g_l_change T.F_l_change.kp T.B_l_change .nil pass0 (fun _ _ => reps_nil) (va_cons (ve_var 1) (va_cons (ve_ixA hr.units (ve_var 3) ve_int) va_nil))) va_nil))) (vss_cons (vs_set 13 sc_law.nd (ve_lst (va_cons (ve_lam0 (X := (cxOf CX0 P w K mg base ["_law_script", "_law_rng", "_law_turn", "_law_names_here", "_law_rows", "_law_one", "_law_other", "_law_third", "_law_both", "_law_due", "_law_undone_here", "_law_kind", "_law_far_here", "_law_asks", "_law_given", "_law_k"] "law" (defScope s_law) T.f_law (.ref cc) A outer s H E).nox) (W := rngW r c) (k := 7) TB rfl (lamSx_by (N := ["_law_script", "_law_rng", "_law_turn", "_law_names_here", "_law_rows", "_law_one", "_law_other", "_law_third", "_law_both", "_law_due", "_law_undone_here", "_law_kind", "_law_far_here", "_law_asks", "_law_given", "_law_k"]) (sc := defScope s_law) (bn := []) (by decide +kernel)) (by rfl) (fun _ _ _ _ _ _ => rfl) (fun A outer s H E f c' Mf Hf PX hr tk => (ve_binI ([(T.C_Change, g_chmul T)] : List (Addr × GX)) ([(T.C_Change, T.C_Change)] : List (Addr × Addr)) ([] : List (Addr × String)) op_mulW lift_ii (hr.mono (by decide)) tk (opt_Mult T) (opf_Mult T) (opb_Mult T) (ve_var 5) (ve_var 12)))) (va_cons (ve_lam1 (X := (cxOf CX0 P w K mg base ["_law_script", "_law_rng", "_law_turn", "_law_names_here", "_law_rows", "_law_one", "_law_other", "_law_third", "_law_both", "_law_due", "_law_undone_here", "_law_kind", "_law_far_here", "_law_asks", "_law_given", "_law_k"] "law" (defScope s_law) T.f_law (.ref cc) A outer s H E).nox) (W := rngW r c) (k := 7) TB rfl (lamSx_by (N := ["_law_script", "_law_rng", "_law_turn", "_law_names_here", "_law_rows", "_law_one", "_law_other", "_law_third", "_law_both", "_law_due", "_law_undone_here", "_law_kind", "_law_far_here", "_law_asks", "_law_given", "_law_k"]) (sc := defScope s_law) (bn := ["_law_a"]) (by decide +kernel)) rfl rfl (fun _ _ _ _ _ _ _ => ⟨_, rfl, fun _ => rfl⟩) (fun A outer s H E f c' Mf Hf PX hr tk => (ve_binI ([(T.C_Change, g_chmul T)] : List (Addr × GX)) ([(T.C_Change, T.C_Change)] : List (Addr × Addr)) ([] : List (Addr × String)) op_mulW lift_ii (hr.mono (by decide)) tk (opt_Mult T) (opf_Mult T) (opb_Mult T) (ve_var 12) (ve_var 5)))) va_nil)))) (vss_cons (vs_if (vt_not (vt_val (ve_call (ok_l_same T 3) (hr.mono (by decide)) (by rfl) T.g_l_same T.F_l_same.kp T.B_l_same .nil pass0 (fun _ _ => reps_nil) (va_cons (ve_callL (X := (cxOf CX0 P w K mg base ["_law_script", "_law_rng", "_law_turn", "_law_names_here", "_law_rows", "_law_one", "_law_other", "_law_third", "_law_both", "_law_due", "_law_undone_here", "_law_kind", "_law_far_here", "_law_asks", "_law_given", "_law_k"] "law" (defScope s_law) T.f_law (.ref cc) A outer s H E).nox) (W := (rngW r c).tab Pt (lamQ ((cxOf CX0 P w K mg base ["_law_script", "_law_rng", "_law_turn", "_law_names_here", "_law_rows", "_law_one", "_law_other", "_law_third", "_law_both", "_law_due", "_law_undone_here", "_law_kind", "_law_far_here", "_law_asks", "_law_given", "_law_k"] "law" (defScope s_law) T.f_law (.ref cc) A outer s H E).nox))) (kl := 7) (fun WL => ok_l_tries T WL) (hr.mono (by decide)) (by rfl) T.g_l_tries T.F_l_tries.kp T.B_l_tries (fun _ => rfl) rfl rfl rfl (va_cons (ve_var 13) va_nil)) (va_cons (ve_lst (va_cons (ve_tup (va_cons ve_str (va_cons (ve_tup (va_cons (ve_ixA hr.units (ve_var 3) ve_int) (va_cons (ve_ixA hr.units (ve_var 3) ve_int) va_nil))) va_nil))) (va_cons (ve_tup (va_cons ve_str (va_cons (ve_tup (va_cons (ve_ixA hr.units (ve_var 3) ve_int) (va_cons (ve_ixA hr.units (ve_var 3) ve_int) va_nil))) va_nil))) va_nil))) va_nil))))) (vss_one (vs_ret ve_bl)) vss_nil) (vss_one (vs_if (vt_not (vt_val (ve_call (ok_l_same T 3) (hr.mono (by decide)) (by rfl) T.g_l_same T.F_l_same.kp T.B_l_same .nil pass0 (fun _ _ => reps_nil) (va_cons (ve_lst (va_cons (ve_fld [T.C_Quantity, T.C_Reading, T.C_Span, T.C_Change] (fl_scale T) (ve_var 5)) (va_cons (ve_fld [T.C_Change] (fl_factor T) (ve_var 5)) (va_cons (ve_fld [T.C_Change] (fl_shift T) (ve_var 5)) va_nil)))) (va_cons (ve_callTy (cr_listA (by rfl)) lift_listA (by rfl) T.n_list bt_list (va_cons (ve_ixA hr.units (ve_var 4) ve_int) va_nil)) va_nil))))) (vss_one (vs_ret ve_bl)) vss_nil))))))))))))))))))) (vss_one (vs_ret ve_bl))))), ?_⟩)
  · obtain ⟨a, ns, rfl, _⟩ := h
    rfl
  · obtain ⟨a, ns, rfl, hS, hl, hP, k⟩ := h
    refine ⟨_, rfl, a, ns, rfl, hS, hl, fun H' r c hr0 hc0 hs hI => ⟨r, c, law_goT (q := lawQ) (i := 1) hI (hs _ _ hP) rfl k ?_⟩⟩
    -- _law_script, _law_rng, _law_turn, _law_names_here, _law_rows, _law_one, _law_other, _law_third, _law_both, _law_due, _law_undone_here, _law_kind, _law_far_here, _law_asks, _law_given, _law_k
    refine ⟨by decide, by decide, ?_⟩
    refine ⟨fun i ds => ∃ a0 a2 a3 a4 a5 a6 a7 a8 a9 a10 a11 a12 a13 a14 a15 : Sl, a15.pl ∧ ds = [a0, .d (.hnd (.ref r)), a2, a3, a4, a5, a6, a7, a8, a9, a10, a11, a12, a13, a14, a15], ⟨_, _, _, _, _, _, _, _, _, _, _, _, _, _, .un, (show Sl.pl .un from trivial), rfl⟩, ?_, ?_⟩
    · rintro i d ds _ ⟨a0, a2, a3, a4, a5, a6, a7, a8, a9, a10, a11, a12, a13, a14, a15, hpl, rfl⟩
      refine ⟨2, rfl, by decide, by decide, fun ss hss hnm hnd => ?_⟩
      match ss, hss, hnm, hnd with
      | [s1, s2], _, hnm, hnd =>
      have h1 : nmS s1 = true := hnm s1 (.head _)
      have h2 : nmS s2 = true := hnm s2 (.tail _ (.head _))
      have h12 : s1 ≠ s2 := fun e => by
        rw [e] at hnd
        exact (List.nodup_cons.mp hnd).1 (.head _)
      refine ⟨by rcases sl_pl hpl with rfl | ⟨x, rfl⟩ <;> rfl, by decide, by decide, ?_⟩
      refine lcR (fun _ y => ∃ f sh, y = .tup [.str s1, f, sh] ∧ AmtD 5 f ∧ AmtD 5 sh ∧ 0 < qD f) (fun d hd R hR => ?_) (fun ys hys => ?_)
      · exact ⟨_, rfl, s1, rfl, fun f sh F S Q => hR _ ⟨f, sh, rfl, F, S, Q⟩⟩
      obtain ⟨y1, y2, y3, rfl, ⟨f1, b1, rfl, F1, B1, Q1⟩, ⟨f2, b2, rfl, F2, B2, Q2⟩, ⟨f3, b3, rfl, F3, B3, Q3⟩⟩ : ∃ y1 y2 y3, ys = [y1, y2, y3] ∧ (∃ f sh, y1 = .tup [.str s1, f, sh] ∧ AmtD 5 f ∧ AmtD 5 sh ∧ 0 < qD f) ∧ (∃ f sh, y2 = .tup [.str s1, f, sh] ∧ AmtD 5 f ∧ AmtD 5 sh ∧ 0 < qD f) ∧ (∃ f sh, y3 = .tup [.str s1, f, sh] ∧ AmtD 5 f ∧ AmtD 5 sh ∧ 0 < qD f) := by
        obtain ⟨y1, y2, y3, e, g⟩ := all2_three (show All2 _ [.int 0, .int 1, .int 2] ys from hys)
        exact ⟨y1, y2, y3, e, g⟩
      clear hys
      dsimp only [List.set]
      refine ⟨_, rfl, 5, _, rfl, ⟨s1, f1, b1, rfl, h1, F1, B1, Q1⟩, fun z1 z2 z3 e => ?_⟩
      cases e
      refine ⟨_, rfl, 5, _, rfl, ⟨s1, f2, b2, rfl, h1, F2, B2, Q2⟩, fun z1 z2 z3 e => ?_⟩
      cases e
      refine ⟨_, rfl, 5, _, rfl, ⟨s1, f3, b3, rfl, h1, F3, B3, Q3⟩, fun z1 z2 z3 e => ?_⟩
      cases e
      dsimp only [List.set]
      have Z1 := pos_ne F1 Q1
      have Z2 := pos_ne F2 Q2
      have n1 : qD f1 ≠ 0 := fun e => absurd Q1 (by rw [e]; decide)
      have n2 : qD f2 ≠ 0 := fun e => absurd Q2 (by rw [e]; decide)
      have F12 := times_amt F1 F2
      have B12 := plus_amt (times_amt F2 B1) B2
      have P12 := q_times_pos F1 F2 Q1 Q2
      have F123 := times_amt F12 F3
      have B123 := plus_amt (times_amt F3 B12) B3
      have F23 := times_amt F2 F3
      have B23 := plus_amt (times_amt F3 B2) B3
      have P23 := q_times_pos F2 F3 Q2 Q3
      have E23 := times_amt F1 F23
      have D23 := plus_amt (times_amt F23 B1) B23
      have NF1 := over_amt one_amt F1 Z1
      have M1 := minus_amt zero_amt B1
      have NB1 := over_amt M1 F1 Z1
      have NP1 := q_over_pos F1 Q1
      have NF2 := over_amt one_amt F2 Z2
      have M2 := minus_amt zero_amt B2
      have NB2 := over_amt M2 F2 Z2
      have NP2 := q_over_pos F2 Q2
      have Y1 := pos_ne NF1 NP1
      have Z12 := pos_ne F12 P12
      have n12 : qD (timesD f1 f2) ≠ 0 := fun e => absurd P12 (by rw [e]; decide)
      have qN1 : qD (overD oneD f1) = 1 / qD f1 := by rw [q_over one_amt F1 Z1, q_one]
      have qN2 : qD (overD oneD f2) = 1 / qD f2 := by rw [q_over one_amt F2 Z2, q_one]
      have qM1 : qD (overD (minusD zeroD b1) f1) = (0 - qD b1) / qD f1 := by rw [q_over M1 F1 Z1, q_minus zero_amt B1, q_zero]
      have qM2 : qD (overD (minusD zeroD b2) f2) = (0 - qD b2) / qD f2 := by rw [q_over M2 F2 Z2, q_minus zero_amt B2, q_zero]
      have q12 : qD (timesD f1 f2) = qD f1 * qD f2 := q_times F1 F2
      have qb12 : qD (plusD (timesD f2 b1) b2) = qD f2 * qD b1 + qD b2 := by rw [q_plus (times_amt F2 B1) B2, q_times F2 B1]
      have eU : overD (minusD zeroD b1) f1 = timesD (negA b1) (overD oneD f1) := by
        refine q_inj NB1 (times_amt (neg_amt B1) NF1) ?_
        rw [qM1, q_times (neg_amt B1) NF1, q_neg B1, qN1]
        grind
      refine ⟨g_chmul T, .head _, .head _, s1, s1, 5, 5, 5, 5, f1, b1, f2, b2, rfl, h1, F1, B1, F2, B2, Q1, Q2, by decide, fun _ => ?_, fun z => absurd rfl z⟩
      dsimp only [List.set]
      refine ⟨_, rfl, _, rfl, _, rfl, _, rfl, _, rfl, 5, 5, _, _, rfl, F1, F2, by decide, _, rfl, _, rfl, _, rfl, _, rfl, 5, 5, _, _, rfl, F2, B1, by decide, _, rfl, _, rfl, 5 + 5, 5, _, _, rfl, times_amt F2 B1, B2, by decide, Nat.le_of_ble_eq_true rfl, ?_⟩
      dsimp only [List.set]
      refine ⟨by simp, _, rfl, .head _, _, rfl, .head _, _, rfl, Nat.le_of_ble_eq_true rfl, .lst [.str s1, timesD f1 f2, plusD (timesD f2 b1) b2], rfl, okD3 F12 B12, ?_⟩
      refine ⟨_, rfl, s1, 5, 5, _, _, rfl, F1, B1, Q1, by decide, ?_⟩
      dsimp only [List.set]
      refine ⟨g_chneg T, .head _, s1, 5, 5, f1, b1, rfl, h1, F1, B1, Q1, by decide, by simp, _, rfl, g_chneg T, .head _, s1, 5, 5, f1, b1, rfl, h1, F1, B1, Q1, by decide, .head _, _, rfl, g_chneg T, .head _, s1, 5, 5, f1, b1, rfl, h1, F1, B1, Q1, by decide, .head _, _, rfl, Nat.le_of_ble_eq_true rfl, ?_⟩
      rw [eU]
      refine ⟨.lst [.str s1, overD oneD f1, timesD (negA b1) (overD oneD f1)], rfl, okD3 NF1 (times_amt (neg_amt B1) NF1), ?_⟩
      -- associativity
      refine ⟨g_chmul T, .head _, .head _, s1, s1, 5, 5, 5, 5, f1, b1, f2, b2, rfl, h1, F1, B1, F2, B2, Q1, Q2, by decide, fun _ => ?_, fun z => absurd rfl z⟩
      refine ⟨g_chmul T, .head _, .head _, s1, s1, _, _, 5, 5, _, _, f3, b3, rfl, h1, F12, B12, F3, B3, P12, Q3, by decide, fun _ => ?_, fun z => absurd rfl z⟩
      refine ⟨g_chmul T, .head _, .head _, s1, s1, 5, 5, 5, 5, f2, b2, f3, b3, rfl, h1, F2, B2, F3, B3, Q2, Q3, by decide, fun _ => ?_, fun z => absurd rfl z⟩
      refine ⟨g_chmul T, .head _, .head _, s1, s1, 5, 5, _, _, f1, b1, _, _, rfl, h1, F1, B1, F23, B23, Q1, P23, by decide, fun _ => ?_, fun z => absurd rfl z⟩
      refine ⟨g_cheq T, .head _, .head _, s1, _, _, _, _, h1, F123, B123, .inl ⟨s1, _, _, _, _, rfl, h1, E23, D23, ?_⟩⟩
      rw [eq3 (by rw [q_times F12 F3, q_times F1 F2, q_times F1 F23, q_times F2 F3]; grind) (by rw [q_plus (times_amt F3 B12) B3, q_times F3 B12, q_plus (times_amt F2 B1) B2, q_times F2 B1, q_plus (times_amt F23 B1) B23, q_times F23 B1, q_times F2 F3, q_plus (times_amt F3 B2) B3, q_times F3 B2]; grind)]
      -- undone both ways
      refine ⟨g_chneg T, .head _, s1, 5, 5, f1, b1, rfl, h1, F1, B1, Q1, by decide, ?_⟩
      refine ⟨g_chmul T, .head _, .head _, s1, s1, 5, 5, _, _, f1, b1, _, _, rfl, h1, F1, B1, NF1, NB1, Q1, NP1, by decide, fun _ => ?_, fun z => absurd rfl z⟩
      refine ⟨.head _, rfl, s1, _, _, _, _, rfl, times_amt F1 NF1, plus_amt (times_amt NF1 B1) NB1, by decide, by decide, ?_⟩
      dsimp only
      rw [decide_eq_true (show qD (timesD f1 (overD oneD f1)) = 1 by rw [q_times F1 NF1, qN1]; grind), decide_eq_true (show qD (plusD (timesD (overD oneD f1) b1) (overD (minusD zeroD b1) f1)) = 0 by rw [q_plus (times_amt NF1 B1) NB1, q_times NF1 B1, qN1, qM1]; grind)]
      refine ⟨g_chneg T, .head _, s1, 5, 5, f1, b1, rfl, h1, F1, B1, Q1, by decide, ?_⟩
      refine ⟨g_chmul T, .head _, .head _, s1, s1, _, _, 5, 5, _, _, f1, b1, rfl, h1, NF1, NB1, F1, B1, NP1, Q1, by decide, fun _ => ?_, fun z => absurd rfl z⟩
      refine ⟨.head _, rfl, s1, _, _, _, _, rfl, times_amt NF1 F1, plus_amt (times_amt F1 NB1) B1, by decide, by decide, ?_⟩
      dsimp only
      rw [decide_eq_true (show qD (timesD (overD oneD f1) f1) = 1 by rw [q_times NF1 F1, qN1]; grind), decide_eq_true (show qD (plusD (timesD f1 (overD (minusD zeroD b1) f1)) b1) = 0 by rw [q_plus (times_amt F1 NB1) B1, q_times F1 NB1, qM1]; grind)]
      -- fourth if
      refine ⟨g_chneg T, .head _, s1, 5, 5, f1, b1, rfl, h1, F1, B1, Q1, by decide, ?_⟩
      refine ⟨g_chneg T, .head _, s1, _, _, _, _, rfl, h1, NF1, NB1, NP1, by decide, ?_⟩
      have MM1 := minus_amt zero_amt NB1
      refine ⟨g_cheq T, .head _, .head _, s1, _, _, _, _, h1, over_amt one_amt NF1 Y1, over_amt MM1 NF1 Y1, .inl ⟨s1, 5, 5, f1, b1, rfl, h1, F1, B1, ?_⟩⟩
      rw [eq3 (by rw [q_over one_amt NF1 Y1, q_one, qN1]; grind) (by rw [q_over MM1 NF1 Y1, q_minus zero_amt NB1, q_zero, qM1, qN1]; grind)]
      refine ⟨g_chmul T, .head _, .head _, s1, s1, 5, 5, 5, 5, f1, b1, f2, b2, rfl, h1, F1, B1, F2, B2, Q1, Q2, by decide, fun _ => ?_, fun z => absurd rfl z⟩
      have M12 := minus_amt zero_amt B12
      refine ⟨g_chneg T, .head _, s1, _, _, _, _, rfl, h1, F12, B12, P12, by decide, ?_⟩
      refine ⟨g_chneg T, .head _, s1, 5, 5, f2, b2, rfl, h1, F2, B2, Q2, by decide, ?_⟩
      refine ⟨g_chneg T, .head _, s1, 5, 5, f1, b1, rfl, h1, F1, B1, Q1, by decide, ?_⟩
      refine ⟨g_chmul T, .head _, .head _, s1, s1, _, _, _, _, _, _, _, _, rfl, h1, NF2, NB2, NF1, NB1, NP2, NP1, by decide, fun _ => ?_, fun z => absurd rfl z⟩
      refine ⟨g_cheq T, .head _, .head _, s1, _, _, _, _, h1, over_amt one_amt F12 Z12, over_amt M12 F12 Z12, .inl ⟨s1, _, _, _, _, rfl, h1, times_amt NF2 NF1, plus_amt (times_amt NF1 NB2) NB1, ?_⟩⟩
      rw [eq3 (by rw [q_over one_amt F12 Z12, q_one, q12, q_times NF2 NF1, qN1, qN2]; grind) (by rw [q_over M12 F12 Z12, q_minus zero_amt B12, q_zero, q12, qb12, q_plus (times_amt NF1 NB2) NB1, q_times NF1 NB2, qN1, qM1, qM2]; grind)]
      refine ⟨_, rfl, s1, 1, 1, _, _, rfl, h1, one_amt, one_pos, zero_amt, ?_⟩
      refine ⟨g_chmul T, .head _, .head _, s1, s1, 5, 5, 1, 1, f1, b1, _, _, rfl, h1, F1, B1, one_amt, zero_amt, Q1, one_pos, by decide, fun _ => ?_, fun z => absurd rfl z⟩
      refine ⟨g_cheq T, .head _, .head _, s1, _, _, _, _, h1, times_amt F1 one_amt, plus_amt (times_amt one_amt B1) zero_amt, .inl ⟨s1, 5, 5, f1, b1, rfl, h1, F1, B1, ?_⟩⟩
      rw [eq3 (by rw [q_times F1 one_amt, q_one, Rat.mul_one]) (by rw [q_plus (times_amt one_amt B1) zero_amt, q_times one_amt B1, q_one, q_zero]; grind)]
      refine ⟨Nat.le_of_ble_eq_true rfl, ?_⟩
      refine ⟨fun i ds => ∃ b11 b14, ds = [a0, .d (.hnd (.ref r)), .d d, .d (.lst [.str s1, .str s2]), .d (.lst [.tup [.str s1, f1, b1], .tup [.str s1, f2, b2], .tup [.str s1, f3, b3]]), .d (chI T s1 f1 b1), .d (chI T s1 f2 b2), .d (chI T s1 f3 b3), .d (chI T s1 (timesD f1 f2) (plusD (timesD f2 b1) b2)), .d (.tup [.str s1, timesD f1 f2, plusD (timesD f2 b1) b2]), .d (undoneD s1 f1 b1), b11, a12, a13, b14, a15], ⟨_, _, rfl⟩, ?_, ?_⟩
      · rintro i d' ds hd ⟨b11, b14, rfl⟩
        obtain ⟨k', rfl, hk'⟩ : ∃ k', d' = .str k' ∧ (k' = "reading" ∨ k' = "span") := by
          match i, hd with
          | 0, hd => cases hd; exact ⟨_, rfl, .inl rfl⟩
          | 1, hd => cases hd; exact ⟨_, rfl, .inr rfl⟩
          | i + 2, hd => cases hd
        obtain ⟨C, RC⟩ := rs_of T hk'
        dsimp only [List.set]
        refine ⟨_, rfl, rfl, fun p1 p2 Pp => ⟨rfl, fun q1 q2 Qq => ⟨Nat.le_of_ble_eq_true rfl, _, rfl, Nat.le_of_ble_eq_true rfl, Nat.le_of_ble_eq_true rfl, fun am ham => ?_⟩⟩⟩
        have Ham : AmtD 100 am := by
          simp only [List.mem_cons, List.not_mem_nil, or_false] at ham
          rcases ham with rfl | rfl
          · exact ⟨_, _, rfl, Pp.mono (by decide)⟩
          · exact ⟨_, _, rfl, Qq⟩
        refine ⟨k', s1, 100, am, C, rfl, h1, Ham, RC, ?_⟩
        dsimp only [List.set]
        have L1 := led_amt (k := k') F1 B1 Ham
        have L12 := led_amt (k := k') F12 B12 Ham
        have L2 := led_amt (k := k') F2 B2 L1
        have LN := led_amt (k := k') NF1 NB1 L1
        refine ⟨rfl, C, k', s1, s1, _, _, 100, _, _, am, rfl, rs_tab RC, h1, F12, B12, Ham, by decide, rs_or_no RC, fun _ _ => ?_⟩
        refine ⟨rfl, rfl, C, k', s1, s1, _, _, 100, _, _, am, rfl, rs_tab RC, h1, F1, B1, Ham, by decide, rs_or_no RC, fun _ _ => ?_⟩
        refine ⟨C, k', s1, s1, _, _, _, _, _, _, rfl, rs_tab RC, h1, F2, B2, L1, by decide, rs_or_no RC, fun _ _ => ?_⟩
        refine ⟨g_qeq T, rs_teq RC, rs_fam RC, C, k', s1, _, _, rs_tab RC, h1, L12, .inl ⟨C, k', s1, _, _, rfl, rs_tab RC, h1, L2, ?_⟩⟩
        rw [eq3q (by rw [led_q F12 B12 Ham, led_q F2 B2 L1, led_q F1 B1 Ham, q12, qb12]; split <;> grind)]
        refine ⟨g_chneg T, .head _, s1, 5, 5, f1, b1, rfl, h1, F1, B1, Q1, by decide, ?_⟩
        refine ⟨rfl, rfl, C, k', s1, s1, _, _, 100, _, _, am, rfl, rs_tab RC, h1, F1, B1, Ham, by decide, rs_or_no RC, fun _ _ => ?_⟩
        refine ⟨C, k', s1, s1, _, _, _, _, _, _, rfl, rs_tab RC, h1, NF1, NB1, L1, by decide, rs_or_no RC, fun _ _ => ?_⟩
        refine ⟨g_qeq T, rs_teq RC, rs_fam RC, C, k', s1, _, _, rs_tab RC, h1, LN, .inl ⟨C, k', s1, _, _, rfl, rs_tab RC, h1, Ham, ?_⟩⟩
        rw [eq3q (by rw [led_q NF1 NB1 L1, led_q F1 B1 Ham, qN1, qM1]; split <;> grind)]
        exact ⟨_, _, rfl⟩
      · rintro ds ⟨b11, b14, rfl⟩
        refine ⟨_, rfl, s2, rfl, fun f4 b4 F4 B4 Q4 => ?_⟩
        refine ⟨5, _, rfl, ⟨s2, f4, b4, rfl, h2, F4, B4, Q4⟩, fun z1 z2 z3 e => ?_⟩
        cases e
        dsimp only [List.set]
        intro d1 L1 d2 L2
        refine ⟨Nat.le_of_ble_eq_true rfl, ?_⟩
        dsimp only [List.set]
        intro WL hWL
        refine ⟨[d1, d2], fun i y => (i = 0 → y = .tup [.str "ScalesDiffer", .tup [.str s1, .str s2]]) ∧ (i = 1 → y = .tup [.str "ScalesDiffer", .tup [.str s2, .str s1]]), rfl, Nat.le_of_ble_eq_true rfl, fun i d0 hd => ?_, fun ys hy1 hy2 => ?_⟩
        · match i, hd with
          | 0, hd =>
            cases hd
            refine ⟨_, hWL d1 _ L1, fun Q' hQ => ?_⟩
            exact ⟨g_chmul T, .head _, .head _, s1, s2, 5, 5, 5, 5, f1, b1, f4, b4, rfl, h1, F1, B1, F4, B4, Q1, Q4, by decide, fun e => absurd e h12, fun _ => errS_ok T (hQ _ ⟨fun _ => rfl, fun e => by cases e⟩)⟩
          | 1, hd =>
            cases hd
            refine ⟨_, hWL d2 _ L2, fun Q' hQ => ?_⟩
            exact ⟨g_chmul T, .head _, .head _, s2, s1, 5, 5, 5, 5, f4, b4, f1, b1, rfl, h2, F4, B4, F1, B1, Q4, Q1, by decide, fun e => absurd e.symm h12, fun _ => errS_ok T (hQ _ ⟨fun e => by (cases e), fun _ => rfl⟩)⟩
        · clear L1 L2 hWL
          obtain ⟨y1, y2, rfl⟩ : ∃ y1 y2, ys = [y1, y2] := by
            match ys, hy1 with
            | [y1, y2], _ => exact ⟨_, _, rfl⟩
          obtain rfl := (hy2 0 y1 rfl).1 rfl
          obtain rfl := (hy2 1 y2 rfl).2 rfl
          refine ⟨_, rfl, _, rfl, Nat.le_of_ble_eq_true rfl, Nat.le_of_ble_eq_true rfl, _, rfl, _, rfl, Nat.le_of_ble_eq_true rfl, Nat.le_of_ble_eq_true rfl, Nat.le_of_ble_eq_true rfl, _, rfl, rfl, ?_⟩
          refine ⟨by simp, _, rfl, .head _, _, rfl, .head _, _, rfl, Nat.le_of_ble_eq_true rfl, _, rfl, .lst [.str s1, f1, b1], rfl, okD3 F1 B1, ?_⟩
          exact ⟨_, _, _, _, _, _, _, _, _, _, _, _, _, _, _, hpl, rfl⟩
    · rintro ds ⟨a0, a2, a3, a4, a5, a6, a7, a8, a9, a10, a11, a12, a13, a14, a15, _, rfl⟩
      rfl
--CUT--
end
theorem fin {l : PySem.W.OpenLaw} {w : World} {K : PySem.W.Frag} {mg : Str → Option Value} {fa : Addr} {h : Heap} (T : Tx K mg) (KX : K.In h) (G : h.Ns mainGlobals mg) (hfa : mg "law" = some (.ref fa)) {ts : List Addr} (hT : ∀ P ∈ ts, h.get? P = some (PySem.W.tabObj #[]))
    (hq : (PySem.W.tabIn K "law").any (fun q => ts.contains q.2 && (PySem.W.codeHdIn K q.1 q.2 && (K.lookup q.2).isNone)) = true) : LamX.LawAtS l w K CX0 13 63 "_law_script" mg fa h := by
  have e := hfa.symm.trans T.g_law
  cases e
  cases hc : PySem.W.tabIn K "law" with
  | none => rw [hc] at hq; cases hq
  | some q =>
    obtain ⟨c, Pt⟩ := q
    rw [hc] at hq
    have hq : (ts.contains Pt && (PySem.W.codeHdIn K c Pt && (K.lookup Pt).isNone)) = true := hq
    simp only [Bool.and_eq_true, List.contains_eq_mem, decide_eq_true_eq, Option.isNone_iff_eq_none] at hq
    obtain ⟨q1, q2, q3⟩ := hq
    have hcode : T.fd_law.code = .ref c := by
      obtain ⟨oc, od, kV, doc, pm, an, cdv, ct, osl, e, lk, _⟩ := T.F_law.ex
      exact PySem.W.law_code KX G hc hfa (KX _ _ lk) rfl
    have one : ∀ {Z : Addr × Addr → Prop}, Z (c, Pt) → ∀ p ∈ [(c, Pt)], Z p := fun h p hp => by rw [List.mem_singleton.mp hp]; exact h
    refine ⟨T.fd_law, [(c, Pt)], spLawT K Pt, one (hT Pt q1), one q3, one (PySem.W.codeHd_of_K KX q2), fun s v => ?_, fun H a ns hl _ hP hS => ⟨a, ns, rfl, hS, hl, hP _ (.head _), fun _ => rfl⟩, fun base _ _ TB => ok_law T hcode (TB _ (.head _))⟩
    obtain ⟨oc, od, kV, doc, pm, an, cdv, ct, osl, e, _⟩ := T.F_law.ex
    rw [e]
    exact .of_eq rfl
end Law
open PySem PySem.W PyProof.Rows
set_option maxRecDepth 100000 in
set_option maxHeartbeats 0 in
theorem PySem.Challenge.cw_unseenzero_k13_whole_changes_form_a_grou_holds : PySem.Challenge.rw_unseenzero_k13_whole_changes_form_a_grou.Holds := by
  w_on; o_law; k_head; (case hw => w_witness2)
  k_fill
  refine LamX.walk_ofTs (l := PySem.Challenge.rw_unseenzero_k13_whole_changes_form_a_grou) (n := 63) (k := 13) (x := "_law_script") (CX := fun _ => L2.CX0) rfl (by decide) rfl ⟨rfl, by decide, by decide⟩ (fun w h Y => PySem.W.km_in_of Y) ?F (fun _ _ _ _ _ z => z)
  case F =>
    intro w mg fa h Y KX G hmg
    refine' Law.fin (Law.tx_mk KX G ?C0a ?C0r ?C1a ?C1r ?C2a ?C2e ?C2l ?C20r ?C21r ?C3a ?C3e ?C3l ?C30r ?C31r ?C4a ?C4r ?a0 ?l0 ?c0 ?k0 ?a1 ?l1 ?c1 ?k1 ?a2 ?l2 ?c2 ?k2 ?a3 ?l3 ?c3 ?k3 ?a4 ?l4 ?c4 ?k4 ?de4 ?dl4 ?d4_0r ?a5 ?l5 ?c5 ?k5 ?a6 ?l6 ?c6 ?k6 ?a7 ?l7 ?c7 ?k7 ?a8 ?l8 ?c8 ?k8 ?a9 ?l9 ?c9 ?k9 ?a10 ?l10 ?c10 ?k10 ?a11 ?l11 ?c11 ?k11 ?a12 ?l12 ?c12 ?k12 ?a13 ?l13 ?c13 ?k13 ?a14 ?l14 ?c14 ?k14 ?a15 ?l15 ?c15 ?k15 ?a16 ?l16 ?c16 ?k16 ?a17 ?l17 ?c17 ?k17 ?a18 ?l18 ?c18 ?k18 ?a19 ?l19 ?c19 ?k19 ?a20 ?l20 ?c20 ?k20 ?a21 ?l21 ?c21 ?k21 ?a22 ?l22 ?c22 ?k22 ?a23 ?l23 ?c23 ?k23 ?a24 ?l24 ?c24 ?k24 ?a25 ?l25 ?c25 ?k25 ?a26 ?l26 ?c26 ?k26 ?a27 ?l27 ?c27 ?k27 ?a28 ?l28 ?c28 ?k28 ?a29 ?l29 ?c29 ?k29 ?a30 ?l30 ?c30 ?k30 ?a31 ?l31 ?c31 ?k31 ?a32 ?l32 ?c32 ?k32 ?a33 ?l33 ?c33 ?k33 ?a34 ?l34 ?c34 ?k34 ?n_abs ?n_all ?n_bool ?n_int ?n_isinstance ?n_len ?n_list ?n_property ?n_range ?n_staticmethod ?n_str ?n_tuple ?n_zip ?hgC_InvalidAmount ?hat_InvalidAmount___init__ ?hfn_InvalidAmount___init__ ?hlk_InvalidAmount___init__ ?hcd_InvalidAmount___init__ ?hkp_InvalidAmount___init__ ?hx_InvalidAmountl ?hx_InvalidAmountr ?hx_InvalidAmountv ?hx_InvalidAmounte ?hx_InvalidAmountt ?hx_InvalidAmountk ?hx_InvalidAmountf ?hx_InvalidAmountx ?hgC_ScaleError ?hgC_Missing ?hgC_NothingLeft ?hx_InvalidAmounty ?hsi_ScaleErrorr ?hsi_ScaleErrorg ?hsi_ScaleErrorf ?hgC_InvalidName ?hat_InvalidName___init__ ?hfn_InvalidName___init__ ?hlk_InvalidName___init__ ?hcd_InvalidName___init__ ?hkp_InvalidName___init__ ?hx_InvalidNamel ?hx_InvalidNamer ?hx_InvalidNamev ?hx_InvalidNamee ?hx_InvalidNamet ?hx_InvalidNamek ?hx_InvalidNamef ?hx_InvalidNamex ?hx_InvalidNamey ?hgC_ScalesDiffer ?hat_ScalesDiffer___init__ ?hfn_ScalesDiffer___init__ ?hlk_ScalesDiffer___init__ ?hcd_ScalesDiffer___init__ ?hkp_ScalesDiffer___init__ ?hx_ScalesDifferl ?hx_ScalesDifferr ?hx_ScalesDifferv ?hx_ScalesDiffere ?hx_ScalesDiffert ?hx_ScalesDifferk ?hx_ScalesDifferf ?hx_ScalesDifferx ?hx_ScalesDiffery ?hgC_Change ?hat_Change___init__ ?hfn_Change___init__ ?hlk_Change___init__ ?hcd_Change___init__ ?hkp_Change___init__ ?kem_Change___init__ ?knm_Change___init___0 ?km_Change___init___0e ?km_Change___init___0l ?km_Change___init___00r ?km_Change___init___01r ?knm_Change___init___1 ?km_Change___init___1e ?km_Change___init___1l ?km_Change___init___10r ?km_Change___init___11r ?hgC_Quantity ?hcl_Quantity1 ?hcl_Quantity2 ?hcl_Quantity3 ?hcl_Quantity4 ?hna_Quantity_scale ?hgC_Reading ?hcl_Reading1 ?hcl_Reading2 ?hcl_Reading3 ?hcl_Reading4 ?hna_Reading_scale ?hgC_Span ?hcl_Span1 ?hcl_Span2 ?hcl_Span3 ?hcl_Span4 ?hna_Span_scale ?hcl_Change1 ?hcl_Change2 ?hcl_Change3 ?hcl_Change4 ?hna_Change_scale ?hna_Change_factor ?hna_Change_shift ?hpf_Change_is_still ?hpr_Change_is_still ?hfn_Change_is_still ?hlk_Change_is_still ?hcd_Change_is_still ?hkp_Change_is_still ?hat_Quantity___init__ ?hfn_Quantity___init__ ?hlk_Quantity___init__ ?hcd_Quantity___init__ ?hkp_Quantity___init__ ?hna_Quantity_amount ?hna_Reading_amount ?hna_Span_amount ?hat_Quantity___eq__ ?hfn_Quantity___eq__ ?hlk_Quantity___eq__ ?hcd_Quantity___eq__ ?hkp_Quantity___eq__ ?his_Quantity1 ?his_Quantity2 ?his_Quantity3 ?his_Quantity4 ?hki_Quantity_Quantity ?his_Reading1 ?his_Reading2 ?his_Reading3 ?his_Reading4 ?hki_Reading_Quantity ?his_Span1 ?his_Span2 ?his_Span3 ?his_Span4 ?hki_Span_Quantity ?his_Change1 ?his_Change2 ?his_Change3 ?his_Change4 ?hki_Change_Quantity ?hki_NoneType_Quantity ?hki_bool_Quantity ?hki_int_Quantity ?hki_str_Quantity ?hki_tuple_Quantity ?hki_list_Quantity ?hcn_Quantity_KINDa ?hcn_Quantity_KINDg ?hcn_Quantity_KINDc ?hcn_Quantity_KINDxr ?hcn_Reading_KINDa ?hcn_Reading_KINDg ?hcn_Reading_KINDc ?hcn_Reading_KINDxr ?hcn_Span_KINDa ?hcn_Span_KINDg ?hcn_Span_KINDc ?hcn_Span_KINDxr ?hmk_Quantity1 ?hmk_Quantity2 ?hat_Reading_Quantity___init__ ?hmk_Reading1 ?hmk_Reading2 ?hat_Span_Quantity___init__ ?hmk_Span1 ?hmk_Span2 ?hat_Change_led ?hfn_Change_led ?hlk_Change_led ?hcd_Change_led ?hkp_Change_led ?hat_Change___call__ ?hfn_Change___call__ ?hlk_Change___call__ ?hcd_Change___call__ ?hkp_Change___call__ ?hat_Change___eq__ ?hfn_Change___eq__ ?hlk_Change___eq__ ?hcd_Change___eq__ ?hkp_Change___eq__ ?hki_Quantity_Change ?hki_Reading_Change ?hki_Span_Change ?hki_Change_Change ?hki_NoneType_Change ?hki_bool_Change ?hki_int_Change ?hki_str_Change ?hki_tuple_Change ?hki_list_Change ?hat_Change___mul__ ?hfn_Change___mul__ ?hlk_Change___mul__ ?hcd_Change___mul__ ?hkp_Change___mul__ ?hmk_Change1 ?hmk_Change2 ?hat_Change___neg__ ?hfn_Change___neg__ ?hlk_Change___neg__ ?hcd_Change___neg__ ?hkp_Change___neg__ ?hbc_Change_Mult1 ?hbc_Change_Mult2 ?hbc_Change_Mult3 ?heq_Change1 ?heq_Change2 ?hat_Reading_Quantity___eq__ ?heq_Reading1 ?heq_Reading2 ?hat_Span_Quantity___eq__ ?heq_Span1 ?heq_Span2 ?hnf_Change_Change ?hnf_Reading_Reading ?hnf_Span_Span ?hpr_Change_is_stillg ?hpr_Change_is_stillt ?hco_Change) KX G hmg (PySem.W.km_tabs_of Y) ?tq
    (case tq => kernel_rfl)
    (case C0a => k_is)
    (case C0r => exact ⟨_, rfl⟩)
    (case C1a => k_is)
    (case C1r => exact ⟨_, rfl⟩)
    (case C2a => k_is)
    (case C2e => rfl)
    (case C2l => k_is)
    (case C20r => exact ⟨_, rfl⟩)
    (case C21r => exact ⟨_, rfl⟩)
    (case C3a => k_is)
    (case C3e => rfl)
    (case C3l => k_is)
    (case C30r => exact ⟨_, rfl⟩)
    (case C31r => exact ⟨_, rfl⟩)
    (case C4a => k_is)
    (case C4r => exact ⟨_, rfl⟩)
    (case a0 => k_is)
    (case l0 => k_is)
    (case c0 => k_is)
    (case k0 => k_is)
    (case a1 => k_is)
    (case l1 => k_is)
    (case c1 => k_is)
    (case k1 => k_is)
    (case a2 => k_is)
    (case l2 => k_is)
    (case c2 => k_is)
    (case k2 => k_is)
    (case a3 => k_is)
    (case l3 => k_is)
    (case c3 => k_is)
    (case k3 => k_is)
    (case a4 => k_is)
    (case l4 => k_is)
    (case c4 => k_is)
    (case k4 => k_is)
    (case de4 => rfl)
    (case dl4 => k_is)
    (case d4_0r => exact ⟨_, rfl⟩)
    (case a5 => k_is)
    (case l5 => k_is)
    (case c5 => k_is)
    (case k5 => k_is)
    (case a6 => k_is)
    (case l6 => k_is)
    (case c6 => k_is)
    (case k6 => k_is)
    (case a7 => k_is)
    (case l7 => k_is)
    (case c7 => k_is)
    (case k7 => k_is)
    (case a8 => k_is)
    (case l8 => k_is)
    (case c8 => k_is)
    (case k8 => k_is)
    (case a9 => k_is)
    (case l9 => k_is)
    (case c9 => k_is)
    (case k9 => k_is)
    (case a10 => k_is)
    (case l10 => k_is)
    (case c10 => k_is)
    (case k10 => k_is)
    (case a11 => k_is)
    (case l11 => k_is)
    (case c11 => k_is)
    (case k11 => k_is)
    (case a12 => k_is)
    (case l12 => k_is)
    (case c12 => k_is)
    (case k12 => k_is)
    (case a13 => k_is)
    (case l13 => k_is)
    (case c13 => k_is)
    (case k13 => k_is)
    (case a14 => k_is)
    (case l14 => k_is)
    (case c14 => k_is)
    (case k14 => k_is)
    (case a15 => k_is)
    (case l15 => k_is)
    (case c15 => k_is)
    (case k15 => k_is)
    (case a16 => k_is)
    (case l16 => k_is)
    (case c16 => k_is)
    (case k16 => k_is)
    (case a17 => k_is)
    (case l17 => k_is)
    (case c17 => k_is)
    (case k17 => k_is)
    (case a18 => k_is)
    (case l18 => k_is)
    (case c18 => k_is)
    (case k18 => k_is)
    (case a19 => k_is)
    (case l19 => k_is)
    (case c19 => k_is)
    (case k19 => k_is)
    (case a20 => k_is)
    (case l20 => k_is)
    (case c20 => k_is)
    (case k20 => k_is)
    (case a21 => k_is)
    (case l21 => k_is)
    (case c21 => k_is)
    (case k21 => k_is)
    (case a22 => k_is)
    (case l22 => k_is)
    (case c22 => k_is)
    (case k22 => k_is)
    (case a23 => k_is)
    (case l23 => k_is)
    (case c23 => k_is)
    (case k23 => k_is)
    (case a24 => k_is)
    (case l24 => k_is)
    (case c24 => k_is)
    (case k24 => k_is)
    (case a25 => k_is)
    (case l25 => k_is)
    (case c25 => k_is)
    (case k25 => k_is)
    (case a26 => k_is)
    (case l26 => k_is)
    (case c26 => k_is)
    (case k26 => k_is)
    (case a27 => k_is)
    (case l27 => k_is)
    (case c27 => k_is)
    (case k27 => k_is)
    (case a28 => k_is)
    (case l28 => k_is)
    (case c28 => k_is)
    (case k28 => k_is)
    (case a29 => k_is)
    (case l29 => k_is)
    (case c29 => k_is)
    (case k29 => k_is)
    (case a30 => k_is)
    (case l30 => k_is)
    (case c30 => k_is)
    (case k30 => k_is)
    (case a31 => k_is)
    (case l31 => k_is)
    (case c31 => k_is)
    (case k31 => k_is)
    (case a32 => k_is)
    (case l32 => k_is)
    (case c32 => k_is)
    (case k32 => k_is)
    (case a33 => k_is)
    (case l33 => k_is)
    (case c33 => k_is)
    (case k33 => k_is)
    (case a34 => k_is)
    (case l34 => k_is)
    (case c34 => k_is)
    (case k34 => k_is)
    (case n_abs => k_is)
    (case n_all => k_is)
    (case n_bool => k_is)
    (case n_int => k_is)
    (case n_isinstance => k_is)
    (case n_len => k_is)
    (case n_list => k_is)
    (case n_property => k_is)
    (case n_range => k_is)
    (case n_staticmethod => k_is)
    (case n_str => k_is)
    (case n_tuple => k_is)
    (case n_zip => k_is)
    (case hgC_InvalidAmount => k_is)
    (case hat_InvalidAmount___init__ => k_is)
    (case hfn_InvalidAmount___init__ => k_is)
    (case hlk_InvalidAmount___init__ => k_is)
    (case hcd_InvalidAmount___init__ => k_is)
    (case hkp_InvalidAmount___init__ => k_is)
    (case hx_InvalidAmountl => k_is)
    (case hx_InvalidAmountr => kernel_rfl)
    (case hx_InvalidAmountv => k_is)
    (case hx_InvalidAmounte => k_is)
    (case hx_InvalidAmountt => k_is)
    (case hx_InvalidAmountk => k_is)
    (case hx_InvalidAmountf => k_is)
    (case hx_InvalidAmountx => kernel_rfl)
    (case hgC_ScaleError => k_is)
    (case hgC_Missing => k_is)
    (case hgC_NothingLeft => k_is)
    (case hx_InvalidAmounty => kernel_rfl)
    (case hsi_ScaleErrorr => k_is)
    (case hsi_ScaleErrorg => k_is)
    (case hsi_ScaleErrorf => k_is)
    (case hgC_InvalidName => k_is)
    (case hat_InvalidName___init__ => k_is)
    (case hfn_InvalidName___init__ => k_is)
    (case hlk_InvalidName___init__ => k_is)
    (case hcd_InvalidName___init__ => k_is)
    (case hkp_InvalidName___init__ => k_is)
    (case hx_InvalidNamel => k_is)
    (case hx_InvalidNamer => kernel_rfl)
    (case hx_InvalidNamev => k_is)
    (case hx_InvalidNamee => k_is)
    (case hx_InvalidNamet => k_is)
    (case hx_InvalidNamek => k_is)
    (case hx_InvalidNamef => k_is)
    (case hx_InvalidNamex => kernel_rfl)
    (case hx_InvalidNamey => kernel_rfl)
    (case hgC_ScalesDiffer => k_is)
    (case hat_ScalesDiffer___init__ => k_is)
    (case hfn_ScalesDiffer___init__ => k_is)
    (case hlk_ScalesDiffer___init__ => k_is)
    (case hcd_ScalesDiffer___init__ => k_is)
    (case hkp_ScalesDiffer___init__ => k_is)
    (case hx_ScalesDifferl => k_is)
    (case hx_ScalesDifferr => kernel_rfl)
    (case hx_ScalesDifferv => k_is)
    (case hx_ScalesDiffere => k_is)
    (case hx_ScalesDiffert => k_is)
    (case hx_ScalesDifferk => k_is)
    (case hx_ScalesDifferf => k_is)
    (case hx_ScalesDifferx => kernel_rfl)
    (case hx_ScalesDiffery => kernel_rfl)
    (case hgC_Change => k_is)
    (case hat_Change___init__ => k_is)
    (case hfn_Change___init__ => k_is)
    (case hlk_Change___init__ => k_is)
    (case hcd_Change___init__ => k_is)
    (case hkp_Change___init__ => k_is)
    (case kem_Change___init__ => rfl)
    (case knm_Change___init___0 => k_is)
    (case km_Change___init___0e => rfl)
    (case km_Change___init___0l => k_is)
    (case km_Change___init___00r => exact ⟨_, rfl⟩)
    (case km_Change___init___01r => exact ⟨_, rfl⟩)
    (case knm_Change___init___1 => k_is)
    (case km_Change___init___1e => rfl)
    (case km_Change___init___1l => k_is)
    (case km_Change___init___10r => exact ⟨_, rfl⟩)
    (case km_Change___init___11r => exact ⟨_, rfl⟩)
    (case hgC_Quantity => k_is)
    (case hcl_Quantity1 => k_is)
    (case hcl_Quantity2 => k_is)
    (case hcl_Quantity3 => k_is)
    (case hcl_Quantity4 => k_is)
    (case hna_Quantity_scale => k_is)
    (case hgC_Reading => k_is)
    (case hcl_Reading1 => k_is)
    (case hcl_Reading2 => k_is)
    (case hcl_Reading3 => k_is)
    (case hcl_Reading4 => k_is)
    (case hna_Reading_scale => k_is)
    (case hgC_Span => k_is)
    (case hcl_Span1 => k_is)
    (case hcl_Span2 => k_is)
    (case hcl_Span3 => k_is)
    (case hcl_Span4 => k_is)
    (case hna_Span_scale => k_is)
    (case hcl_Change1 => k_is)
    (case hcl_Change2 => k_is)
    (case hcl_Change3 => k_is)
    (case hcl_Change4 => k_is)
    (case hna_Change_scale => k_is)
    (case hna_Change_factor => k_is)
    (case hna_Change_shift => k_is)
    (case hpf_Change_is_still => k_is)
    (case hpr_Change_is_still => k_is)
    (case hfn_Change_is_still => k_is)
    (case hlk_Change_is_still => k_is)
    (case hcd_Change_is_still => k_is)
    (case hkp_Change_is_still => k_is)
    (case hat_Quantity___init__ => k_is)
    (case hfn_Quantity___init__ => k_is)
    (case hlk_Quantity___init__ => k_is)
    (case hcd_Quantity___init__ => k_is)
    (case hkp_Quantity___init__ => k_is)
    (case hna_Quantity_amount => k_is)
    (case hna_Reading_amount => k_is)
    (case hna_Span_amount => k_is)
    (case hat_Quantity___eq__ => k_is)
    (case hfn_Quantity___eq__ => k_is)
    (case hlk_Quantity___eq__ => k_is)
    (case hcd_Quantity___eq__ => k_is)
    (case hkp_Quantity___eq__ => k_is)
    (case his_Quantity1 => k_is)
    (case his_Quantity2 => k_is)
    (case his_Quantity3 => k_is)
    (case his_Quantity4 => k_is)
    (case hki_Quantity_Quantity => kit_is)
    (case his_Reading1 => k_is)
    (case his_Reading2 => k_is)
    (case his_Reading3 => k_is)
    (case his_Reading4 => k_is)
    (case hki_Reading_Quantity => kit_is)
    (case his_Span1 => k_is)
    (case his_Span2 => k_is)
    (case his_Span3 => k_is)
    (case his_Span4 => k_is)
    (case hki_Span_Quantity => kit_is)
    (case his_Change1 => k_is)
    (case his_Change2 => k_is)
    (case his_Change3 => k_is)
    (case his_Change4 => k_is)
    (case hki_Change_Quantity => kit_is)
    (case hki_NoneType_Quantity => kit_is)
    (case hki_bool_Quantity => kit_is)
    (case hki_int_Quantity => kit_is)
    (case hki_str_Quantity => kit_is)
    (case hki_tuple_Quantity => kit_is)
    (case hki_list_Quantity => kit_is)
    (case hcn_Quantity_KINDa => k_is)
    (case hcn_Quantity_KINDg => k_is)
    (case hcn_Quantity_KINDc => decide +kernel)
    (case hcn_Quantity_KINDxr => exact ⟨_, rfl⟩)
    (case hcn_Reading_KINDa => k_is)
    (case hcn_Reading_KINDg => k_is)
    (case hcn_Reading_KINDc => decide +kernel)
    (case hcn_Reading_KINDxr => exact ⟨_, rfl⟩)
    (case hcn_Span_KINDa => k_is)
    (case hcn_Span_KINDg => k_is)
    (case hcn_Span_KINDc => decide +kernel)
    (case hcn_Span_KINDxr => exact ⟨_, rfl⟩)
    (case hmk_Quantity1 => k_is)
    (case hmk_Quantity2 => k_is)
    (case hat_Reading_Quantity___init__ => k_is)
    (case hmk_Reading1 => k_is)
    (case hmk_Reading2 => k_is)
    (case hat_Span_Quantity___init__ => k_is)
    (case hmk_Span1 => k_is)
    (case hmk_Span2 => k_is)
    (case hat_Change_led => k_is)
    (case hfn_Change_led => k_is)
    (case hlk_Change_led => k_is)
    (case hcd_Change_led => k_is)
    (case hkp_Change_led => k_is)
    (case hat_Change___call__ => k_is)
    (case hfn_Change___call__ => k_is)
    (case hlk_Change___call__ => k_is)
    (case hcd_Change___call__ => k_is)
    (case hkp_Change___call__ => k_is)
    (case hat_Change___eq__ => k_is)
    (case hfn_Change___eq__ => k_is)
    (case hlk_Change___eq__ => k_is)
    (case hcd_Change___eq__ => k_is)
    (case hkp_Change___eq__ => k_is)
    (case hki_Quantity_Change => kit_is)
    (case hki_Reading_Change => kit_is)
    (case hki_Span_Change => kit_is)
    (case hki_Change_Change => kit_is)
    (case hki_NoneType_Change => kit_is)
    (case hki_bool_Change => kit_is)
    (case hki_int_Change => kit_is)
    (case hki_str_Change => kit_is)
    (case hki_tuple_Change => kit_is)
    (case hki_list_Change => kit_is)
    (case hat_Change___mul__ => k_is)
    (case hfn_Change___mul__ => k_is)
    (case hlk_Change___mul__ => k_is)
    (case hcd_Change___mul__ => k_is)
    (case hkp_Change___mul__ => k_is)
    (case hmk_Change1 => k_is)
    (case hmk_Change2 => k_is)
    (case hat_Change___neg__ => k_is)
    (case hfn_Change___neg__ => k_is)
    (case hlk_Change___neg__ => k_is)
    (case hcd_Change___neg__ => k_is)
    (case hkp_Change___neg__ => k_is)
    (case hbc_Change_Mult1 => k_is)
    (case hbc_Change_Mult2 => k_is)
    (case hbc_Change_Mult3 => k_is)
    (case heq_Change1 => k_is)
    (case heq_Change2 => k_is)
    (case hat_Reading_Quantity___eq__ => k_is)
    (case heq_Reading1 => k_is)
    (case heq_Reading2 => k_is)
    (case hat_Span_Quantity___eq__ => k_is)
    (case heq_Span1 => k_is)
    (case heq_Span2 => k_is)
    (case hnf_Change_Change => k_is)
    (case hnf_Reading_Reading => k_is)
    (case hnf_Span_Span => k_is)
    (case hpr_Change_is_stillg => k_is)
    (case hpr_Change_is_stillt => k_is)
    (case hco_Change => k_is)
#print axioms PySem.Challenge.cw_unseenzero_k13_whole_changes_form_a_grou_holds
