import PyProof.Rows.All
import HandS.ForMost
import HandS.IsInst
import HandS.Wide
import HandS.Zip
import HandS.Flow
import HandS.TupAny
import HandS.NoneIn
import HandS.Dict
import HandS.More
import HandS.Style
import HandS.Star
import HandS.Text
import HandS.Defaults
import KE.GoesMore
import HandS.Exc
import HandS.Property
import HandS.MakeKw
import HandS.MakeKwOnly
import HandS.FStr
import HandS.WordsExc
import HandS.ExcInit
import HandS.TryMany
import HandS.SlotsOwn
import KE.KOpsOwn
import KE.RegKCallOwn
import KE.KFmtOwn
import HandS.ClsMeth
import HandS.RaiseMore
import HandS.ExcField
import HandS.ExcIs
import KE.KTryMore
import HandS.HotCalls
import HandS.EndTab
import HandS.StrMore
import PyProof.StrOps2
import KE.KDflt
import KE.KUnpackStar
import HandS.Iter
import KE.GoesEnum
import HandS.DictComp
import HandS.Deep
import KE.KDictCopyH
import HandS.Sort
import HandS.DictSubView
import KE.KSuper
import HandS.ReplaceDef
import KE.KExcInit
import Wide.All
import OpenK.AllK
import Wide.FinOn
import KE.KStateDown
import HandS.Head0
import HandS.Head1
import HandS.Head2
import HandS.HeadHook1
import HandS.HeadHook2
import HandS.HeadHook3
import HandS.HeadHook4
import HandS.HeadEnd
import HandS.HeadWalk
import OpenK.KCls
import PyProof.AttrMiss
import HandS.Finally
import HandS.ExcOwn
import HandS.ListItems
import HandS.SetFor
import HandS.Strs
import PyProof.NeKinds
import PySem.Challenge.RW_unseenzero_k24_whole_systems_solved
set_option Elab.async false
set_option linter.all false
set_option maxRecDepth 100000
set_option maxHeartbeats 2000000
namespace VL
open PySem PySem.Spec PyProof.Rows L2
inductive D where
  | non | bl (b : Bool) | int (i : Int) | str (x : Str) | hnd (v : V) | tup (ds : List D) | lst (ds : List D) | dic (ks : List Str) (ds : List D) | ins (C : Addr) (ks : List Str) (ds : List D)
  | lam (f : Addr) (as : List (Addr × (Heap → Prop)))
def KSeqT (K : PySem.W.Frag) (a : Addr) (xs : List V) : Prop :=
  ∃ (o : Obj) (its : Array Value) (n : Nat), K.lookup a = some o ∧ o.cls = .type "tuple" ∧ o.data = .seq its n ∧ its.size ≤ sizeLine ∧ Vals xs its.toList
def KSeqL (K : PySem.W.Frag) (a : Addr) (xs : List V) : Prop :=
  ∃ (o : Obj) (its : Array Value) (n : Nat), K.lookup a = some o ∧ o.cls = .type "list" ∧ o.dict = none ∧ o.data = .seq its n ∧ its.size ≤ sizeLine ∧ Vals xs its.toList
def TupM (K : PySem.W.Frag) (M : Addr → Prop) (H : Hp) (a : Addr) (xs : List V) : Prop := (¬ M a ∧ Rd H a (.tup xs)) ∨ KSeqT K a xs
def LstM (K : PySem.W.Frag) (M : Addr → Prop) (H : Hp) (a : Addr) (xs : List V) : Prop := (¬ M a ∧ Rd H a (.lst xs)) ∨ KSeqL K a xs
theorem TupM.sq {K : PySem.W.Frag} {M : Addr → Prop} {H : Hp} {a : Addr} {xs : List V} (h : TupM K M H a xs) : SqT K H a xs := by
  rcases h with ⟨_, h⟩ | h
  · exact .inl h
  · exact .inr h
theorem LstM.sq {K : PySem.W.Frag} {M : Addr → Prop} {H : Hp} {a : Addr} {xs : List V} (h : LstM K M H a xs) : SqL K H a xs := by
  rcases h with ⟨_, h⟩ | h
  · exact .inl h
  · exact .inr h
mutual
def Rep (K : PySem.W.Frag) (M : Addr → Prop) (H : Hp) : D → V → Prop
  | .non, v => v = .non
  | .bl b, v => v = .bl b
  | .int i, v => v = .int i
  | .str x, v => v = .str x
  | .hnd u, v => v = u
  | .tup ds, v => ∃ a xs, v = .ref a ∧ TupM K M H a xs ∧ Reps K M H ds xs
  | .lst ds, v => ∃ a xs, v = .ref a ∧ LstM K M H a xs ∧ Reps K M H ds xs
  | .dic ks ds, v => ∃ (a : Addr) (us : List V), v = .ref a ∧ ¬ M a ∧ us.length = ks.length ∧ H a = some (.dK ((ks.map Sum.inr).zip us)) ∧ Reps K M H ds us
  | .ins C ks ds, v => ∃ (a dx : Addr) (us : List V), v = .ref a ∧ ¬ M a ∧ us.length = ks.length ∧ H a = some (.ins C dx (ks.zip us)) ∧ Reps K M H ds us
  | .lam f as, v => v = .ref f ∧ ∀ p ∈ as, ¬ M p.1 ∧ H p.1 = some (.ext p.2)
def Reps (K : PySem.W.Frag) (M : Addr → Prop) (H : Hp) : List D → List V → Prop
  | [], vs => vs = []
  | d :: ds, vs => ∃ v r, vs = v :: r ∧ Rep K M H d v ∧ Reps K M H ds r
end
def Car (M M' : Addr → Prop) (H H' : Hp) : Prop := ∀ b o, ¬ M b → H b = some o → ¬ M' b ∧ H' b = some o
theorem rd_car {M M' : Addr → Prop} {H H' : Hp} {a : Addr} {u : HO} (c : Car M M' H H') (hm : ¬ M a) (h : Rd H a u) : ¬ M' a ∧ Rd H' a u := by
  rcases h with h | ⟨o, h⟩
  · exact ⟨(c _ _ hm h).1, .inl (c _ _ hm h).2⟩
  · exact ⟨(c _ _ hm h).1, .inr ⟨o, (c _ _ hm h).2⟩⟩
theorem TupM.car {K : PySem.W.Frag} {M M' : Addr → Prop} {H H' : Hp} {a : Addr} {xs : List V} (c : Car M M' H H') (h : TupM K M H a xs) : TupM K M' H' a xs := by
  rcases h with ⟨m, h⟩ | h
  · exact .inl (rd_car c m h)
  · exact .inr h
theorem LstM.car {K : PySem.W.Frag} {M M' : Addr → Prop} {H H' : Hp} {a : Addr} {xs : List V} (c : Car M M' H H') (h : LstM K M H a xs) : LstM K M' H' a xs := by
  rcases h with ⟨m, h⟩ | h
  · exact .inl (rd_car c m h)
  · exact .inr h
mutual
theorem Rep.car {K : PySem.W.Frag} {M M' : Addr → Prop} {H H' : Hp} (c : Car M M' H H') : ∀ {d : D} {v : V}, Rep K M H d v → Rep K M' H' d v
  | .non, _, h => h
  | .bl _, _, h => h
  | .int _, _, h => h
  | .str _, _, h => h
  | .hnd _, _, h => h
  | .tup _, _, h => by
    unfold Rep at h ⊢
    obtain ⟨a, xs, e, t, r⟩ := h
    exact ⟨a, xs, e, t.car c, Reps.car c r⟩
  | .lst _, _, h => by
    unfold Rep at h ⊢
    obtain ⟨a, xs, e, t, r⟩ := h
    exact ⟨a, xs, e, t.car c, Reps.car c r⟩
  | .dic _ _, _, h => by
    unfold Rep at h ⊢
    obtain ⟨a, us, e, m, l, t, r⟩ := h
    exact ⟨a, us, e, (c _ _ m t).1, l, (c _ _ m t).2, Reps.car c r⟩
  | .ins _ _ _, _, h => by
    unfold Rep at h ⊢
    obtain ⟨a, dx, us, e, m, l, t, r⟩ := h
    exact ⟨a, dx, us, e, (c _ _ m t).1, l, (c _ _ m t).2, Reps.car c r⟩
  | .lam _ _, _, h => by
    unfold Rep at h ⊢
    exact ⟨h.1, fun p hp => c _ _ (h.2 p hp).1 (h.2 p hp).2⟩
theorem Reps.car {K : PySem.W.Frag} {M M' : Addr → Prop} {H H' : Hp} (c : Car M M' H H') : ∀ {ds : List D} {vs : List V}, Reps K M H ds vs → Reps K M' H' ds vs
  | [], _, h => by
    unfold Reps at h ⊢
    exact h
  | _ :: _, _, h => by
    unfold Reps at h ⊢
    obtain ⟨v, r, e, h1, h2⟩ := h
    exact ⟨v, r, e, Rep.car c h1, Reps.car c h2⟩
end
section
variable {K : PySem.W.Frag} {M M' : Addr → Prop} {H H' : Hp} {ds es : List D} {vs us : List V} {d : D} {v : V}
theorem reps_nil : Reps K M H [] [] := by unfold Reps; rfl
theorem reps_cons (h : Rep K M H d v) (t : Reps K M H ds vs) : Reps K M H (d :: ds) (v :: vs) := by unfold Reps; exact ⟨v, vs, rfl, h, t⟩
theorem Reps.inv (h : Reps K M H (d :: ds) us) : ∃ v vs, us = v :: vs ∧ Rep K M H d v ∧ Reps K M H ds vs := by unfold Reps at h; exact h
theorem Reps.inv0 (h : Reps K M H [] us) : us = [] := by unfold Reps at h; exact h
theorem Reps.app : ∀ {ds es : List D} {vs us : List V}, Reps K M H ds vs → Reps K M H es us → Reps K M H (ds ++ es) (vs ++ us)
  | [], _, _, _, h, t => by rw [h.inv0]; exact t
  | _ :: _, _, _, _, h, t => by
    obtain ⟨v, vs, rfl, h1, h2⟩ := h.inv
    exact reps_cons h1 (Reps.app h2 t)
theorem Reps.len : ∀ {ds : List D} {vs : List V}, Reps K M H ds vs → vs.length = ds.length
  | [], _, h => by rw [h.inv0]; rfl
  | _ :: _, _, h => by
    obtain ⟨v, vs, rfl, h1, h2⟩ := h.inv
    simp [Reps.len h2]
theorem Reps.get : ∀ {ds : List D} {vs : List V} {i : Nat} {d : D}, Reps K M H ds vs → ds[i]? = some d → ∃ v, vs[i]? = some v ∧ Rep K M H d v
  | [], _, _, _, _, e => by simp at e
  | _ :: _, _, 0, _, h, e => by
    obtain ⟨v, vs, rfl, h1, h2⟩ := h.inv
    simp at e
    subst e
    exact ⟨v, by simp, h1⟩
  | _ :: _, _, i + 1, _, h, e => by
    obtain ⟨v, vs, rfl, h1, h2⟩ := h.inv
    obtain ⟨u, e1, e2⟩ := Reps.get (i := i) h2 (by simpa using e)
    exact ⟨u, by simpa using e1, e2⟩
theorem Reps.take : ∀ {ds : List D} {vs : List V} (n : Nat), Reps K M H ds vs → Reps K M H (ds.take n) (vs.take n)
  | _, _, 0, _ => by simp [reps_nil]
  | [], _, _ + 1, h => by rw [h.inv0]; simp [reps_nil]
  | _ :: _, _, n + 1, h => by
    obtain ⟨v, vs, rfl, h1, h2⟩ := h.inv
    exact reps_cons h1 (Reps.take n h2)
theorem Reps.drop : ∀ {ds : List D} {vs : List V} (n : Nat), Reps K M H ds vs → Reps K M H (ds.drop n) (vs.drop n)
  | _, _, 0, h => h
  | [], _, _ + 1, h => by rw [h.inv0]; simp [reps_nil]
  | _ :: _, _, n + 1, h => by
    obtain ⟨v, vs, rfl, h1, h2⟩ := h.inv
    exact Reps.drop n h2
theorem Reps.rev {ds : List D} {vs : List V} (h : Reps K M H ds vs) : Reps K M H ds.reverse vs.reverse := by
  induction ds generalizing vs with
  | nil => rw [h.inv0]; exact reps_nil
  | cons d ds ih =>
    obtain ⟨v, vs, rfl, h1, h2⟩ := h.inv
    rw [List.reverse_cons, List.reverse_cons]
    exact (ih h2).app (reps_cons h1 reps_nil)
theorem Reps.bls : ∀ {ns : List Bool} {vs : List V}, Reps K M H (ns.map D.bl) vs → vs = ns.map V.bl
  | [], _, h => h.inv0
  | _ :: _, _, h => by
    obtain ⟨v, vs, rfl, h1, h2⟩ := h.inv
    unfold Rep at h1
    rw [h1, Reps.bls h2]
    rfl
theorem rep_int {i : Int} : Rep K M H (.int i) (.int i) := by unfold Rep; rfl
theorem rep_bl {i : Bool} : Rep K M H (.bl i) (.bl i) := by unfold Rep; rfl
theorem rep_str {i : Str} : Rep K M H (.str i) (.str i) := by unfold Rep; rfl
theorem rep_non : Rep K M H .non .non := by unfold Rep; rfl
theorem rep_hnd {v : V} : Rep K M H (.hnd v) v := by unfold Rep; rfl
theorem Rep.int {i : Int} (h : Rep K M H (.int i) v) : v = .int i := by unfold Rep at h; exact h
theorem Rep.bl {i : Bool} (h : Rep K M H (.bl i) v) : v = .bl i := by unfold Rep at h; exact h
theorem Rep.str {i : Str} (h : Rep K M H (.str i) v) : v = .str i := by unfold Rep at h; exact h
theorem Rep.non (h : Rep K M H .non v) : v = .non := by unfold Rep at h; exact h
theorem Rep.hnd {u : V} (h : Rep K M H (.hnd u) v) : v = u := by unfold Rep at h; exact h
theorem Rep.tup (h : Rep K M H (.tup ds) v) : ∃ a xs, v = .ref a ∧ TupM K M H a xs ∧ Reps K M H ds xs := by unfold Rep at h; exact h
theorem Rep.lst (h : Rep K M H (.lst ds) v) : ∃ a xs, v = .ref a ∧ LstM K M H a xs ∧ Reps K M H ds xs := by unfold Rep at h; exact h
theorem Rep.dic {ks : List Str} (h : Rep K M H (.dic ks ds) v) : ∃ (a : Addr) (us : List V), v = .ref a ∧ ¬ M a ∧ us.length = ks.length ∧ H a = some (.dK ((ks.map Sum.inr).zip us)) ∧ Reps K M H ds us := by unfold Rep at h; exact h
theorem Rep.ins {C : Addr} {ks : List Str} (h : Rep K M H (.ins C ks ds) v) : ∃ (a dx : Addr) (us : List V), v = .ref a ∧ ¬ M a ∧ us.length = ks.length ∧ H a = some (.ins C dx (ks.zip us)) ∧ Reps K M H ds us := by unfold Rep at h; exact h
theorem Rep.lam {f : Addr} {as : List (Addr × (Heap → Prop))} (h : Rep K M H (.lam f as) v) : v = .ref f ∧ ∀ p ∈ as, ¬ M p.1 ∧ H p.1 = some (.ext p.2) := by unfold Rep at h; exact h
theorem rep_dic {a : Addr} {us : List V} {ks : List Str} (m : ¬ M a) (l : us.length = ks.length) (t : H a = some (.dK ((ks.map Sum.inr).zip us))) (r : Reps K M H ds us) : Rep K M H (.dic ks ds) (.ref a) := by unfold Rep; exact ⟨a, us, rfl, m, l, t, r⟩
theorem rep_ins {a dx C : Addr} {us : List V} {ks : List Str} (m : ¬ M a) (l : us.length = ks.length) (t : H a = some (.ins C dx (ks.zip us))) (r : Reps K M H ds us) : Rep K M H (.ins C ks ds) (.ref a) := by unfold Rep; exact ⟨a, dx, us, rfl, m, l, t, r⟩
theorem rep_tup {a : Addr} {xs : List V} (t : TupM K M H a xs) (r : Reps K M H ds xs) : Rep K M H (.tup ds) (.ref a) := by unfold Rep; exact ⟨a, xs, rfl, t, r⟩
theorem rep_lst {a : Addr} {xs : List V} (t : LstM K M H a xs) (r : Reps K M H ds xs) : Rep K M H (.lst ds) (.ref a) := by unfold Rep; exact ⟨a, xs, rfl, t, r⟩
end
structure Wd where
  A : Addr → Prop
  I : Hp → Prop
  live : ∀ H a, I H → A a → H a ≠ none
  nx : ∀ H a φ, I H → A a → H a ≠ some (.ext φ)
  B : Addr → Prop := fun _ => False
  liveB : ∀ H a, I H → B a → H a ≠ none := by exact fun _ _ _ z => False.elim z
  C : Addr → Prop := fun _ => False
  cb : ∀ a, C a → B a := by exact fun _ z => False.elim z
  stay : ∀ H H' : Hp, I H → (∀ b, A b → H' b = H b) → (∀ b φ, H b = some (.ext φ) → H' b = some (.ext φ)) → (∀ b o, B b → H b = some o → H' b = some o) → I H'
  Mf : Addr → Prop := fun _ => False
  Hf : Hp := fun _ => none
def Full (H H' : Hp) : Prop := ∀ b o, H b = some o → H' b = some o
def Ext (W : Wd) (H H' : Hp) : Prop := ∀ b o, ¬ W.A b → H b = some o → H' b = some o
theorem Full.refl (H : Hp) : Full H H := fun _ _ h => h
theorem Full.trans {H H1 H2 : Hp} (a : Full H H1) (b : Full H1 H2) : Full H H2 := fun c o h => b c o (a c o h)
theorem Full.new {H : Hp} {p : Addr} {o : HO} (h : H p = none) : Full H (upd H p o) := fun a u e => by
  rw [upd_ne (ne_of_none e h)]
  exact e
theorem Full.ext {W : Wd} {H H' : Hp} (f : Full H H') : Ext W H H' := fun b o _ h => f b o h
theorem Wd.keep (W : Wd) (H H' : Hp) (h : W.I H) (f : ∀ b o, H b = some o → H' b = some o) : W.I H' := W.stay H H' h (fun b hb => by
  cases q : H b with
  | none => exact absurd q (W.live H b h hb)
  | some o => exact f b o q) (fun b φ e => f b _ e) fun b o _ e => f b o e
theorem Ext.refl {W : Wd} (H : Hp) : Ext W H H := fun _ _ _ h => h
theorem Ext.trans {W : Wd} {H H1 H2 : Hp} (a : Ext W H H1) (b : Ext W H1 H2) : Ext W H H2 := fun c o n h => b c o n (a c o n h)
structure MOk (W : Wd) (M : Addr → Prop) (H : Hp) : Prop where
  wm : ∀ a, W.A a → M a
  live : ∀ a, M a → H a ≠ none
  wi : W.I H
  nb : ∀ a, M a → ¬ W.C a
  nx : ∀ a φ, M a → H a ≠ some (.ext φ)
section
variable {K : PySem.W.Frag} {W : Wd} {M M' : Addr → Prop} {H H' : Hp} {ds : List D} {d : D} {v : V} {vs xs : List V} {p : Addr}
theorem MOk.ext (m : MOk W M H) (e : Ext W H H') (wi : W.I H') : MOk W M H' := by
  have nx : ∀ a φ, M a → H' a ≠ some (.ext φ) := fun a φ h z => by
    by_cases ha : W.A a
    · exact W.nx _ _ φ wi ha z
    · cases q : H a with
      | none => exact m.live a h q
      | some o => exact m.nx a φ h (by rw [e a o ha q] at z; rw [q, z])
  refine ⟨m.wm, fun a h => ?_, wi, m.nb, nx⟩
  by_cases ha : W.A a
  · exact W.live _ _ wi ha
  · intro z
    cases q : H a with
    | none => exact m.live a h q
    | some o => rw [e a o ha q] at z; cases z
theorem MOk.full (m : MOk W M H) (e : Full H H') : MOk W M H' := m.ext e.ext (W.keep _ _ m.wi e)
theorem MOk.car (m : MOk W M H) (e : Ext W H H') : Car M M H H' := fun b o n h => ⟨n, e b o (fun z => n (m.wm b z)) h⟩
theorem MOk.fresh (m : MOk W M H) (h : H p = none) : ¬ M p := fun z => m.live p z h
theorem Rep.ext (m : MOk W M H) (e : Ext W H H') (h : Rep K M H d v) : Rep K M H' d v := h.car (m.car e)
theorem Reps.ext (m : MOk W M H) (e : Ext W H H') (h : Reps K M H ds vs) : Reps K M H' ds vs := h.car (m.car e)
theorem MOk.newT (m : MOk W M H) (h : H p = none) (r : Reps K M H ds xs) : Rep K M (upd H p (.tup xs)) (.tup ds) (.ref p) :=
  rep_tup (.inl ⟨m.fresh h, .inl upd_same⟩) (r.ext m (Full.new h).ext)
theorem MOk.newL (m : MOk W M H) (h : H p = none) (r : Reps K M H ds xs) : Rep K M (upd H p (.lst xs)) (.lst ds) (.ref p) :=
  rep_lst (.inl ⟨m.fresh h, .inl upd_same⟩) (r.ext m (Full.new h).ext)
end
inductive O where
  | d (x : D) | l (ts : List O) | t (ks : List Str) (ts : List O) | i (a C : Addr) (ks : List Str) (ts : List O)
mutual
def O.toD : O → D
  | .d x => x
  | .l xs => .lst (O.toDs xs)
  | .t ks xs => .dic ks (O.toDs xs)
  | .i _ C ks xs => .ins C ks (O.toDs xs)
def O.toDs : List O → List D
  | [] => []
  | x :: xs => x.toD :: O.toDs xs
end
abbrev AS := Addr → Prop
def no1 : AS := fun _ => False
def one1 (a : Addr) : AS := fun b => b = a
mutual
def Own (K : PySem.W.Frag) (M : Addr → Prop) (H : Hp) : O → AS → V → Prop
  | .d x, o, v => o = no1 ∧ Rep K M H x v
  | .l ts, o, v => ∃ a xs o', v = .ref a ∧ H a = some (.lst xs) ∧ ¬ o' a ∧ (o = fun b => b = a ∨ o' b) ∧ Owns K M H ts o' xs
  | .t ks ts, o, v => ∃ a us o', v = .ref a ∧ us.length = ks.length ∧ H a = some (.dK ((ks.map Sum.inr).zip us)) ∧ ¬ o' a ∧ (o = fun b => b = a ∨ o' b) ∧ Owns K M H ts o' us
  | .i a C ks ts, o, v => ∃ dx us o', v = .ref a ∧ us.length = ks.length ∧ H a = some (.ins C dx (ks.zip us)) ∧ ¬ o' a ∧ (o = fun b => b = a ∨ o' b) ∧ Owns K M H ts o' us
def Owns (K : PySem.W.Frag) (M : Addr → Prop) (H : Hp) : List O → AS → List V → Prop
  | [], o, vs => o = no1 ∧ vs = []
  | t :: ts, o, vs => ∃ v r o1 o2, vs = v :: r ∧ (∀ b, o1 b → ¬ o2 b) ∧ (o = fun b => o1 b ∨ o2 b) ∧ Own K M H t o1 v ∧ Owns K M H ts o2 r
end
mutual
theorem Own.live {K : PySem.W.Frag} {M : Addr → Prop} {H : Hp} : ∀ {t : O} {o : AS} {v : V}, Own K M H t o v → ∀ b, o b → ∃ ob, H b = some ob ∧ ∀ φ, ob ≠ .ext φ
  | .d _, _, _, h, b, hb => by
    unfold Own at h
    rw [h.1] at hb
    exact hb.elim
  | .l _, _, _, h, b, hb => by
    unfold Own at h
    obtain ⟨a, xs, o', _, h1, _, e, r⟩ := h
    rw [e] at hb
    rcases hb with rfl | hb
    · exact ⟨_, h1, fun _ z => by cases z⟩
    · exact Owns.live r b hb
  | .t _ _, _, _, h, b, hb => by
    unfold Own at h
    obtain ⟨a, us, o', _, _, h1, _, e, r⟩ := h
    rw [e] at hb
    rcases hb with rfl | hb
    · exact ⟨_, h1, fun _ z => by cases z⟩
    · exact Owns.live r b hb
  | .i a _ _ _, _, _, h, b, hb => by
    unfold Own at h
    obtain ⟨dx, us, o', _, _, h1, _, e, r⟩ := h
    rw [e] at hb
    rcases hb with rfl | hb
    · exact ⟨_, h1, fun _ z => by cases z⟩
    · exact Owns.live r b hb
theorem Owns.live {K : PySem.W.Frag} {M : Addr → Prop} {H : Hp} : ∀ {ts : List O} {o : AS} {vs : List V}, Owns K M H ts o vs → ∀ b, o b → ∃ ob, H b = some ob ∧ ∀ φ, ob ≠ .ext φ
  | [], _, _, h, b, hb => by
    unfold Owns at h
    rw [h.1] at hb
    exact hb.elim
  | _ :: _, _, _, h, b, hb => by
    unfold Owns at h
    obtain ⟨v, r, o1, o2, _, _, e, h1, h2⟩ := h
    rw [e] at hb
    rcases hb with hb | hb
    · exact Own.live h1 b hb
    · exact Owns.live h2 b hb
end
mutual
theorem Own.car {K : PySem.W.Frag} {M M' : Addr → Prop} {H H' : Hp} (c : Car M M' H H') : ∀ {t : O} {o : AS} {v : V}, (∀ b ob, o b → H b = some ob → H' b = some ob) → Own K M H t o v → Own K M' H' t o v
  | .d _, _, _, _, h => by
    unfold Own at h ⊢
    exact ⟨h.1, h.2.car c⟩
  | .l _, _, _, f, h => by
    unfold Own at h ⊢
    obtain ⟨a, xs, o', e0, h1, n, e, r⟩ := h
    subst e
    exact ⟨a, xs, o', e0, f a _ (.inl rfl) h1, n, rfl, Owns.car c (fun b ob hb => f b ob (.inr hb)) r⟩
  | .t _ _, _, _, f, h => by
    unfold Own at h ⊢
    obtain ⟨a, us, o', e0, l, h1, n, e, r⟩ := h
    subst e
    exact ⟨a, us, o', e0, l, f a _ (.inl rfl) h1, n, rfl, Owns.car c (fun b ob hb => f b ob (.inr hb)) r⟩
  | .i a _ _ _, _, _, f, h => by
    unfold Own at h ⊢
    obtain ⟨dx, us, o', e0, l, h1, n, e, r⟩ := h
    subst e
    exact ⟨dx, us, o', e0, l, f a _ (.inl rfl) h1, n, rfl, Owns.car c (fun b ob hb => f b ob (.inr hb)) r⟩
theorem Owns.car {K : PySem.W.Frag} {M M' : Addr → Prop} {H H' : Hp} (c : Car M M' H H') : ∀ {ts : List O} {o : AS} {vs : List V}, (∀ b ob, o b → H b = some ob → H' b = some ob) → Owns K M H ts o vs → Owns K M' H' ts o vs
  | [], _, _, _, h => by
    unfold Owns at h ⊢
    exact h
  | _ :: _, _, _, f, h => by
    unfold Owns at h ⊢
    obtain ⟨v, r, o1, o2, e0, dj, e, h1, h2⟩ := h
    subst e
    exact ⟨v, r, o1, o2, e0, dj, rfl, Own.car c (fun b ob hb => f b ob (.inl hb)) h1, Owns.car c (fun b ob hb => f b ob (.inr hb)) h2⟩
end
mutual
theorem Own.rep {K : PySem.W.Frag} {M M' : Addr → Prop} {H : Hp} (c : Car M M' H H) : ∀ {t : O} {o : AS} {v : V}, (∀ b, o b → ¬ M' b) → Own K M H t o v → Rep K M' H t.toD v
  | .d _, _, _, _, h => by
    unfold Own at h
    exact h.2.car c
  | .l _, _, _, f, h => by
    unfold Own at h
    obtain ⟨a, xs, o', rfl, h1, n, e, r⟩ := h
    subst e
    exact rep_lst (.inl ⟨f a (.inl rfl), .inl h1⟩) (Owns.reps c (fun b hb => f b (.inr hb)) r)
  | .t _ _, _, _, f, h => by
    unfold Own at h
    obtain ⟨a, us, o', rfl, l, h1, n, e, r⟩ := h
    subst e
    exact rep_dic (f a (.inl rfl)) l h1 (Owns.reps c (fun b hb => f b (.inr hb)) r)
  | .i a _ _ _, _, _, f, h => by
    unfold Own at h
    obtain ⟨dx, us, o', rfl, l, h1, n, e, r⟩ := h
    subst e
    exact rep_ins (f a (.inl rfl)) l h1 (Owns.reps c (fun b hb => f b (.inr hb)) r)
theorem Owns.reps {K : PySem.W.Frag} {M M' : Addr → Prop} {H : Hp} (c : Car M M' H H) : ∀ {ts : List O} {o : AS} {vs : List V}, (∀ b, o b → ¬ M' b) → Owns K M H ts o vs → Reps K M' H (O.toDs ts) vs
  | [], _, _, _, h => by
    unfold Owns at h
    rw [h.2]
    exact reps_nil
  | _ :: _, _, _, f, h => by
    unfold Owns at h
    obtain ⟨v, r, o1, o2, rfl, dj, e, h1, h2⟩ := h
    subst e
    exact reps_cons (Own.rep c (fun b hb => f b (.inl hb)) h1) (Owns.reps c (fun b hb => f b (.inr hb)) h2)
end
inductive Sl where
  | un | d (x : D) | ml (xs : List D) | md (ks : List Str) (xs : List D) | mi (a C : Addr) (ks : List Str) (xs : List D)
  | ow (t : O)
def Mx (M0 : Addr → Prop) (oa : Nat → AS) : Addr → Prop := fun a => M0 a ∨ ∃ i, oa i a
def SlotOk (K : PySem.W.Frag) (M : Addr → Prop) (H : Hp) (o : AS) : Sl → Option (Option V) → Prop
  | .un, _ => o = no1
  | .d x, u => o = no1 ∧ ∃ v, u = some (some v) ∧ Rep K M H x v
  | .ml ds, u => ∃ a xs, o = one1 a ∧ u = some (some (.ref a)) ∧ H a = some (.lst xs) ∧ Reps K M H ds xs
  | .md ks ds, u => ∃ (a : Addr) (us : List V), o = one1 a ∧ u = some (some (.ref a)) ∧ us.length = ks.length ∧ H a = some (.dK ((ks.map Sum.inr).zip us)) ∧ Reps K M H ds us
  | .mi a C ks ds, u => ∃ (dx : Addr) (us : List V), o = one1 a ∧ u = some (some (.ref a)) ∧ us.length = ks.length ∧ H a = some (.ins C dx (ks.zip us)) ∧ Reps K M H ds us
  | .ow t, u => ∃ v, u = some (some v) ∧ Own K M H t o v
structure Sat (K : PySem.W.Frag) (W : Wd) (M0 : Addr → Prop) (H0 : Hp) (oa : Nat → AS) (H : Hp) (σ : L2.St) (ds : List Sl) : Prop where
  wm : ∀ a, W.A a → M0 a
  live : ∀ a, M0 a → H0 a ≠ none
  ext : Ext W H0 H
  wi : W.I H
  ofr : ∀ i a, oa i a → H0 a = none ∧ ¬ M0 a
  inj : ∀ i j a, oa i a → oa j a → i = j
  len : ds.length = σ.length
  out : ∀ i, ds.length ≤ i → oa i = no1
  slot : ∀ i s, ds[i]? = some s → SlotOk K (Mx M0 oa) H (oa i) s (σ[i]?)
  fm : ∀ a, W.Mf a → M0 a
  fh : Ext W W.Hf H0
  bl : ∀ a, W.B a → H0 a ≠ none
  nc : ∀ a, M0 a → ¬ W.C a
  nx : ∀ a φ, M0 a → H0 a ≠ some (.ext φ)
section
variable {K : PySem.W.Frag} {W : Wd} {M0 : Addr → Prop} {H0 H H' : Hp} {oa : Nat → AS} {σ : L2.St} {ds : List Sl}
theorem SlotOk.live {M : Addr → Prop} {o : AS} {s : Sl} {u : Option (Option V)} {a : Addr} (h : SlotOk K M H o s u) (e : o a) : ∃ ob, H a = some ob ∧ ∀ φ, ob ≠ .ext φ := by
  cases s with
  | un => rw [show o = no1 from h] at e; exact e.elim
  | d x => rw [show o = no1 from h.1] at e; exact e.elim
  | ml l =>
    obtain ⟨b, xs, e1, e2, e3, _⟩ := h
    rw [e1] at e
    cases e
    exact ⟨_, e3, fun _ z => by cases z⟩
  | md ks l =>
    obtain ⟨b, xs, e1, e2, e3, e4, _⟩ := h
    rw [e1] at e
    cases e
    exact ⟨_, e4, fun _ z => by cases z⟩
  | mi b C ks l =>
    obtain ⟨dx, xs, e1, e2, e3, e4, _⟩ := h
    rw [e1] at e
    cases e
    exact ⟨_, e4, fun _ z => by cases z⟩
  | ow t =>
    obtain ⟨v, _, h⟩ := h
    exact h.live a e
theorem SlotOk.own {M : Addr → Prop} {o : AS} {s : Sl} {u : Option (Option V)} {a : Addr} (h : SlotOk K M H o s u) (e : o a) : ∃ ob, H a = some ob := let ⟨ob, h1, _⟩ := h.live e; ⟨ob, h1⟩
theorem Sat.ownLive (S : Sat K W M0 H0 oa H σ ds) {i : Nat} {a : Addr} (h : oa i a) : ∃ ob, H a = some ob := by
  by_cases hi : i < ds.length
  · exact (S.slot i ds[i] (by simp [hi])).own h
  · rw [S.out i (by omega)] at h; exact h.elim
theorem SlotOk.nx {M : Addr → Prop} {o : AS} {s : Sl} {u : Option (Option V)} {a : Addr} (h : SlotOk K M H o s u) (e : o a) (φ : Heap → Prop) : H a ≠ some (.ext φ) := fun z => by
  obtain ⟨ob, h1, h2⟩ := h.live e
  rw [h1] at z
  exact h2 φ (Option.some.inj z)
theorem Sat.mnx (S : Sat K W M0 H0 oa H σ ds) (a : Addr) (φ : Heap → Prop) (h : Mx M0 oa a) : H a ≠ some (.ext φ) := by
  rcases h with h | ⟨i, h⟩
  · intro z
    by_cases ha : W.A a
    · exact W.nx _ _ φ S.wi ha z
    · cases q : H0 a with
      | none => exact S.live a h q
      | some o => exact S.nx a φ h (by rw [S.ext a o ha q] at z; rw [q, z])
  · by_cases hi : i < ds.length
    · exact (S.slot i ds[i] (by simp [hi])).nx h φ
    · rw [S.out i (by omega)] at h; exact h.elim
theorem Sat.mok (S : Sat K W M0 H0 oa H σ ds) : MOk W (Mx M0 oa) H := by
  refine ⟨fun a h => .inl (S.wm a h), fun a h => ?_, S.wi, fun a h hC => h.elim (fun h => S.nc a h hC) fun ⟨i, z⟩ => S.bl a (W.cb a hC) (S.ofr i a z).1, S.mnx⟩
  rcases h with h | ⟨i, h⟩
  · by_cases ha : W.A a
    · exact W.live _ _ S.wi ha
    · intro z
      cases q : H0 a with
      | none => exact S.live a h q
      | some o => rw [S.ext a o ha q] at z; cases z
  · obtain ⟨xs, e⟩ := S.ownLive h
    rw [e]
    intro z
    cases z
theorem SlotOk.car {M M' : Addr → Prop} {o : AS} {s : Sl} {u : Option (Option V)} (c : Car M M' H H') (ho : ∀ a ob, o a → H a = some ob → H' a = some ob) (h : SlotOk K M H o s u) : SlotOk K M' H' o s u := by
  cases s with
  | un => exact h
  | d x =>
    obtain ⟨e, v, e1, r⟩ := h
    exact ⟨e, v, e1, r.car c⟩
  | ml l =>
    obtain ⟨a, xs, e1, e2, e3, r⟩ := h
    exact ⟨a, xs, e1, e2, ho a _ (by rw [e1]; rfl) e3, r.car c⟩
  | md ks l =>
    obtain ⟨a, us, e1, e2, e3, e4, r⟩ := h
    exact ⟨a, us, e1, e2, e3, ho a _ (by rw [e1]; rfl) e4, r.car c⟩
  | mi a C ks l =>
    obtain ⟨dx, us, e1, e2, e3, e4, r⟩ := h
    exact ⟨dx, us, e1, e2, e3, ho a _ (by rw [e1]; rfl) e4, r.car c⟩
  | ow t =>
    obtain ⟨v, e, r⟩ := h
    exact ⟨v, e, r.car c ho⟩
theorem Sat.own_nA (S : Sat K W M0 H0 oa H σ ds) {i : Nat} {a : Addr} (h : oa i a) : ¬ W.A a := fun z => (S.ofr i a h).2 (S.wm a z)
theorem Sat.step (S : Sat K W M0 H0 oa H σ ds) (e : Ext W H H') (wi : W.I H') : Sat K W M0 H0 oa H' σ ds :=
  ⟨S.wm, S.live, S.ext.trans e, wi, S.ofr, S.inj, S.len, S.out, fun i s h => (S.slot i s h).car (S.mok.car e) fun a xs h1 h2 => e a _ (S.own_nA h1) h2, S.fm, S.fh, S.bl, S.nc, S.nx⟩
theorem Sat.full (S : Sat K W M0 H0 oa H σ ds) (e : Full H H') : Sat K W M0 H0 oa H' σ ds := S.step e.ext (W.keep _ _ S.wi e)
theorem Sat.get (S : Sat K W M0 H0 oa H σ ds) {i : Nat} {x : D} (h : ds[i]? = some (.d x)) : ∃ v, σ[i]? = some (some v) ∧ Rep K (Mx M0 oa) H x v := (S.slot i _ h).2
def oaDel (oa : Nat → AS) (i : Nat) : Nat → AS := fun j => if j = i then no1 else oa j
theorem oaDel_some {oa : Nat → AS} {i j : Nat} {a : Addr} (h : oaDel oa i j a) : j ≠ i ∧ oa j a := by
  unfold oaDel at h
  by_cases e : j = i
  · rw [if_pos e] at h; exact h.elim
  · rw [if_neg e] at h; exact ⟨e, h⟩
theorem mx_del {i : Nat} {a : Addr} (h : Mx M0 (oaDel oa i) a) : Mx M0 oa a := by
  rcases h with h | ⟨j, h⟩
  · exact .inl h
  · exact .inr ⟨j, (oaDel_some h).2⟩
theorem car_del {i : Nat} : Car (Mx M0 oa) (Mx M0 (oaDel oa i)) H H := fun b o n h => ⟨fun z => n (mx_del z), h⟩
theorem Sat.set (S : Sat K W M0 H0 oa H σ ds) {i : Nat} {x : D} {v : V} (r : Rep K (Mx M0 oa) H x v) : Sat K W M0 H0 (oaDel oa i) H (σ.set i (some v)) (ds.set i (.d x)) := by
  refine ⟨S.wm, S.live, S.ext, S.wi, fun j a h => S.ofr j a (oaDel_some h).2, fun j k a h1 h2 => S.inj j k a (oaDel_some h1).2 (oaDel_some h2).2, by simp [S.len], fun j hj => ?_, fun j s h => ?_, S.fm, S.fh, S.bl, S.nc, S.nx⟩
  · have q := S.out j (by simpa using hj)
    unfold oaDel
    split
    · rfl
    · exact q
  · by_cases e : j = i
    · subst e
      have hl : j < ds.length := by
        have := (List.getElem?_eq_some_iff.mp h).1
        simpa using this
      rw [List.getElem?_set_self hl] at h
      cases h
      refine ⟨by unfold oaDel; simp, v, ?_, r.car car_del⟩
      rw [List.getElem?_set_self (by rw [← S.len]; exact hl)]
    · rw [List.getElem?_set_ne (Ne.symm e)] at h
      rw [List.getElem?_set_ne (Ne.symm e)]
      have q := S.slot j s h
      have e2 : oaDel oa i j = oa j := by unfold oaDel; rw [if_neg e]
      rw [e2]
      exact q.car car_del fun a xs _ z => z
def oaPut (oa : Nat → AS) (i : Nat) (p : Addr) : Nat → AS := fun j => if j = i then one1 p else oa j
def oaSet (oa : Nat → AS) (i : Nat) (o : AS) : Nat → AS := fun j => if j = i then o else oa j
theorem Sat.setow (S : Sat K W M0 H0 oa H σ ds) {i : Nat} {o : AS} {sl : Sl} {v : V} (hi : i < ds.length) (h0 : ∀ p, o p → H0 p = none ∧ ¬ M0 p) (hd : ∀ p, o p → ∀ j, j ≠ i → ¬ oa j p) (hsl : SlotOk K (Mx M0 (oaSet oa i o)) H o sl (some (some v)))
    (hr : ∀ j s, j ≠ i → ds[j]? = some s → SlotOk K (Mx M0 (oaSet oa i o)) H (oa j) s (σ[j]?)) : Sat K W M0 H0 (oaSet oa i o) H (σ.set i (some v)) (ds.set i sl) := by
  have hs : ∀ j a, oaSet oa i o j a → (j = i ∧ o a) ∨ (j ≠ i ∧ oa j a) := fun j a h => by
    unfold oaSet at h
    by_cases e : j = i
    · rw [if_pos e] at h; exact .inl ⟨e, h⟩
    · rw [if_neg e] at h; exact .inr ⟨e, h⟩
  refine ⟨S.wm, S.live, S.ext, S.wi, fun j a h => ?_, fun j k a h1 h2 => ?_, by simp [S.len], fun j hj => ?_, fun j s h => ?_, S.fm, S.fh, S.bl, S.nc, S.nx⟩
  · rcases hs j a h with ⟨_, e⟩ | ⟨_, e⟩
    · exact h0 a e
    · exact S.ofr j a e
  · rcases hs j a h1 with ⟨e1, e2⟩ | ⟨e1, e2⟩
    · rcases hs k a h2 with ⟨e3, e4⟩ | ⟨e3, e4⟩
      · rw [e1, e3]
      · exact absurd e4 (hd a e2 k e3)
    · rcases hs k a h2 with ⟨e3, e4⟩ | ⟨e3, e4⟩
      · exact absurd e2 (hd a e4 j e1)
      · exact S.inj j k a e2 e4
  · have hj' : ds.length ≤ j := by simpa using hj
    unfold oaSet
    rw [if_neg (by omega)]
    exact S.out j hj'
  · by_cases e : j = i
    · subst e
      rw [List.getElem?_set_self hi] at h
      cases h
      rw [List.getElem?_set_self (by rw [← S.len]; exact hi)]
      have e2 : oaSet oa j o j = o := by unfold oaSet; simp
      rw [e2]
      exact hsl
    · rw [List.getElem?_set_ne (Ne.symm e)] at h
      rw [List.getElem?_set_ne (Ne.symm e)]
      have e2 : oaSet oa i o j = oa j := by unfold oaSet; rw [if_neg e]
      rw [e2]
      exact hr j s e h
theorem Sat.setown (S : Sat K W M0 H0 oa H σ ds) {i : Nat} {p : Addr} {sl : Sl} (hi : i < ds.length) (h0 : H0 p = none) (hm : ¬ Mx M0 oa p) (hsl : SlotOk K (Mx M0 (oaPut oa i p)) H (one1 p) sl (some (some (.ref p))))
    (hr : ∀ j s, j ≠ i → ds[j]? = some s → SlotOk K (Mx M0 (oaPut oa i p)) H (oa j) s (σ[j]?)) : Sat K W M0 H0 (oaPut oa i p) H (σ.set i (some (.ref p))) (ds.set i sl) :=
  S.setow hi (fun q hq => by cases (show q = p from hq); exact ⟨h0, fun z => hm (.inl z)⟩) (fun q hq j _ z => by cases (show q = p from hq); exact hm (.inr ⟨j, z⟩)) hsl hr
end
end VL
set_option Elab.async false
set_option linter.all false
set_option maxRecDepth 100000
set_option maxHeartbeats 2000000
namespace VL
open PySem PySem.Spec PyProof.Rows L2
abbrev WE := List Sl → (D → Prop) → Prop
abbrev WT := List Sl → (Bool → Prop) → Prop
abbrev WL := List Sl → (List D → Prop) → Prop
def LE (K : PySem.W.Frag) (W : Wd) (w : WE) : TE := fun σ H Q => ∃ M0 H0 oa ds P, Sat K W M0 H0 oa H σ ds ∧ w ds P ∧ ∀ d v H', P d → Ext W H H' → W.I H' → Rep K (Mx M0 oa) H' d v → Q v H'
def LT (K : PySem.W.Frag) (W : Wd) (w : WT) : TT := fun σ H Q => ∃ M0 H0 oa ds P, Sat K W M0 H0 oa H σ ds ∧ w ds P ∧ ∀ b H', P b → Ext W H H' → W.I H' → Q b H'
def LA (K : PySem.W.Frag) (W : Wd) (w : WL) : TA := fun σ H Q => ∃ M0 H0 oa ds P, Sat K W M0 H0 oa H σ ds ∧ w ds P ∧ ∀ xs vs H', P xs → Ext W H H' → W.I H' → Reps K (Mx M0 oa) H' xs vs → Q vs H'
abbrev VE (X : Cx) (W : Wd) (e : Expr) (w : WE) : Prop := PE X e (LE X.K W w)
abbrev VT (X : Cx) (W : Wd) (e : Expr) (w : WT) : Prop := PT X e (LT X.K W w)
abbrev VA (X : Cx) (W : Wd) (es : List Expr) (w : WL) : Prop := PA X es (LA X.K W w)
section
variable {X : Cx} {e : Expr} {es : List Expr}
theorem pe_imp {t t' : TE} (h : PE X e t) (f : ∀ σ H Q, t' σ H Q → t σ H Q) : PE X e t' := ⟨fun pins s σ H Q I hw => h.run pins s σ H Q I (f σ H Q hw)⟩
theorem pt_imp {t t' : TT} (h : PT X e t) (f : ∀ σ H Q, t' σ H Q → t σ H Q) : PT X e t' := ⟨fun pins s σ H Q I hw => h.run pins s σ H Q I (f σ H Q hw)⟩
theorem pw_imp {t t' : TT} (h : PW X e t) (f : ∀ σ H Q, t' σ H Q → t σ H Q) : PW X e t' := ⟨fun wh pins s σ H Q I hw => h.run wh pins s σ H Q I (f σ H Q hw)⟩
theorem pa_imp {t t' : TA} (h : PA X es t) (f : ∀ σ H Q, t' σ H Q → t σ H Q) : PA X es t' := ⟨fun pos pins s σ H Q I hw => h.run pos pins s σ H Q I (f σ H Q hw)⟩
end
def slD : Sl → (D → Prop) → Prop
  | .d x, P => P x
  | _, _ => False
def wVar (i : Nat) : WE := fun ds P => slD (ds.getD i .un) P
def wC (d : D) : WE := fun _ P => P d
theorem slD_of {s : Sl} {P : D → Prop} (h : slD s P) : ∃ x, s = .d x ∧ P x := by
  cases s with
  | un => exact h.elim
  | d x => exact ⟨x, rfl, h⟩
  | ml l => exact h.elim
  | md k l => exact h.elim
  | mi a C k l => exact h.elim
  | ow t => exact h.elim
theorem getD_get {ds : List Sl} {i : Nat} {x : D} (h : ds.getD i .un = .d x) : ds[i]? = some (.d x) := by
  rw [List.getD_eq_getElem?_getD] at h
  cases e : ds[i]? with
  | none => rw [e] at h; cases h
  | some s => rw [e] at h; exact congrArg some h
section
variable {X : Cx} {W : Wd} {e a b c : Expr} {es rest : List Expr} {pos : Pos}
theorem ve_var (i : Nat) {x : Str} (hN : X.N[i]? = some x := by rfl) (hv : Vis X.env.scope x := by first | exact Or.inl rfl | exact Or.inr (Or.inl rfl) | exact Or.inr (Or.inr rfl)) (hd : (x == ("__debug__" : Str)) = false := by decide)
    (hcd : (x == ("__classdict__" : Str)) = false := by decide) : VE X W (.Name x pos) (wVar i) := pe_imp (pe_var hN hv hd hcd) fun σ H Q ⟨M0, H0, oa, ds, P, S, hw, k⟩ => by
  obtain ⟨x, e, hp⟩ := slD_of hw
  obtain ⟨v, h1, r⟩ := S.get (getD_get e)
  exact ⟨v, h1, k x v H hp (Ext.refl H) S.wi r⟩
def Flat (K : PySem.W.Frag) (d : D) (v : V) : Prop := ∀ M H, Rep K M H d v
theorem ve_c {d : D} {v : V} (h : PE X e (tC v)) (f : Flat X.K d v) : VE X W e (wC d) := pe_imp h fun σ H Q ⟨M0, H0, oa, ds, P, S, hw, k⟩ => k d v H hw (Ext.refl H) S.wi (f _ _)
theorem ve_int {i j} : VE X W (.Constant (.int i) j pos) (wC (.int i)) := ve_c pe_int fun _ _ => rep_int
theorem ve_bl {i j} : VE X W (.Constant (.bool i) j pos) (wC (.bl i)) := ve_c pe_bl fun _ _ => rep_bl
theorem ve_non {j} : VE X W (.Constant .none j pos) (wC .non) := ve_c pe_non fun _ _ => rep_non
theorem ve_str {i j} : VE X W (.Constant (.str i) j pos) (wC (.str i)) := ve_c pe_str fun _ _ => rep_str
theorem ve_glob {x : Str} {d : D} {v : V} {u : Value} (hg : Gl X x) (hm : X.mg x = some u) (r : RelV v u) (f : Flat X.K d v) (hd : (x == ("__debug__" : Str)) = false := by decide) : VE X W (.Name x pos) (wC d) := ve_c (pe_glob hg hm r hd) f
def LiftOp (K : PySem.W.Frag) (W : Wd) (f : D → D → (D → Prop) → Prop) (r : R2) : Prop :=
  ∀ (M : Addr → Prop) (H : Hp) (x y : D) (v u : V) (P : D → Prop) (Q : VK), MOk W M H → Rep K M H x v → Rep K M H y u → f x y P → (∀ d z H', P d → Ext W H H' → W.I H' → Rep K M H' d z → Q z H') → r v u H Q
def wOp (f : D → D → (D → Prop) → Prop) (wa wb : WE) : WE := fun ds P => wa ds fun x => wb ds fun y => f x y P
theorem le_op {K : PySem.W.Frag} {f : D → D → (D → Prop) → Prop} {r : R2} {wa wb : WE} (hf : LiftOp K W f r) (σ : L2.St) (H : Hp) (Q : VK) (h : LE K W (wOp f wa wb) σ H Q) : tOp r (LE K W wa) (LE K W wb) σ H Q := by
  obtain ⟨M0, H0, oa, ds, P, S, hw, k⟩ := h
  refine ⟨M0, H0, oa, ds, _, S, hw, fun x v H1 hx e1 i1 r1 => ?_⟩
  refine ⟨M0, H0, oa, ds, _, S.step e1 i1, hx, fun y u H2 hy e2 i2 r2 => ?_⟩
  have S2 := (S.step e1 i1).step e2 i2
  exact hf (Mx M0 oa) H2 x y v u P Q S2.mok (r1.ext (S.step e1 i1).mok e2) r2 hy fun d z H' hp e i r => k d z H' hp ((e1.trans e2).trans e) i r
theorem ve_op {op : Operator} {f : D → D → (D → Prop) → Prop} {r : R2} {wa wb : WE} (ho : OpR X (binaryOp op) r) (hf : LiftOp X.K W f r) (ha : VE X W a wa) (hb : VE X W b wb) : VE X W (.BinOp a op b pos) (wOp f wa wb) :=
  pe_imp (pe_op ho ha hb) (le_op hf)
theorem ve_cmp {op : CmpOp} {f : D → D → (D → Prop) → Prop} {r : R2} {wa wb : WE} (ho : OpR X (compareOp op) r) (hf : LiftOp X.K W f r) (ha : VE X W a wa) (hb : VE X W b wb) (hm : behindInMarks op b = false) : VE X W (.Compare a [op] [b] pos) (wOp f wa wb) :=
  pe_imp (pe_cmpR ho ha hb hm) (le_op hf)
def asBl : D → (Bool → Prop) → Prop
  | .bl b, P => P b
  | _, _ => False
theorem asBl_of {d : D} {P : Bool → Prop} (h : asBl d P) : ∃ b, d = .bl b ∧ P b := by
  cases d with
  | bl b => exact ⟨b, rfl, h⟩
  | _ => exact h.elim
def wTest (w : WE) : WT := fun ds P => w ds fun d => asBl d P
theorem lt_test {K : PySem.W.Frag} {w : WE} (σ : L2.St) (H : Hp) (Q : Bool → Hp → Prop) (h : LT K W (wTest w) σ H Q) : tB (LE K W w) σ H Q := by
  obtain ⟨M0, H0, oa, ds, P, S, hw, k⟩ := h
  refine ⟨M0, H0, oa, ds, _, S, hw, fun x v H1 hx e1 i1 r1 => ?_⟩
  obtain ⟨b, rfl, hb⟩ := asBl_of hx
  exact ⟨b, r1.bl, k b H1 hb e1 i1⟩
theorem vt_val {w : WE} (h : VE X W e w) (he : ∀ whole, isTrue e X.env whole = (do let v ← whole; standAt e.pos; holding [v] (truthy v)) := by intro _; rfl) : VT X W e (wTest w) := pt_imp (pt_val h he) lt_test
theorem vt_cmp {op : CmpOp} {f : D → D → (D → Prop) → Prop} {r : R2} {wa wb : WE} (ho : OpR X (compareOp op) r) (hf : LiftOp X.K W f r) (ha : VE X W a wa) (hb : VE X W b wb) (hm : behindInMarks op b = false) : VT X W (.Compare a [op] [b] pos) (wTest (wOp f wa wb)) := by
  refine pt_imp (pt_cmpR ho ha hb hm) fun σ H Q h => ?_
  obtain ⟨M0, H0, oa, ds, P, S, hw, k⟩ := h
  show tOp r _ _ σ H _
  refine le_op hf σ H _ ⟨M0, H0, oa, ds, _, S, hw, fun x v H1 hx e1 i1 r1 => ?_⟩
  obtain ⟨b, rfl, hb⟩ := asBl_of hx
  exact ⟨b, r1.bl, k b H1 hb e1 i1⟩
def rAddA : R2 := fun x y H Q => (rI0 fun i j => .int (i + j)) x y H Q ∨ (∃ i j, x = .str i ∧ y = .str j ∧ i.length + j.length ≤ sizeLine ∧ Q (.str (i ++ j)) H)
theorem OpR.or {f : Value → Value → Sem Value} {r r' : R2} (h : OpR X f r) (h' : OpR X f r') : OpR X f (fun x y H Q => r x y H Q ∨ r' x y H Q) := by
  intro pins s σ H x y v u Q I r1 r2 q
  rcases q with q | q
  · exact h pins s σ H x y v u Q I r1 r2 q
  · exact h' pins s σ H x y v u Q I r1 r2 q
theorem op_addA : OpR X (binaryOp .Add) rAddA := OpR.or op_add op_add_str
def iiD (C : Int → Int → Prop) (g : Int → Int → D) : D → D → (D → Prop) → Prop
  | .int i, .int j, P => C i j ∧ P (g i j)
  | _, _, _ => False
theorem lift_ii {K : PySem.W.Frag} {C : Int → Int → Prop} {g : Int → Int → Int} : LiftOp K W (iiD C fun i j => .int (g i j)) (rI C fun i j => .int (g i j)) := by
  intro M H x y v u P Q m r1 r2 h k
  cases x <;> cases y <;> first
    | exact h.elim
    | (rename_i i j; exact ⟨i, j, r1.int, r2.int, h.1, k _ _ H h.2 (Ext.refl H) m.wi rep_int⟩)
def ii0 (g : Int → Int → D) : D → D → (D → Prop) → Prop
  | .int i, .int j, P => P (g i j)
  | _, _, _ => False
theorem lift_ii0 {K : PySem.W.Frag} {g : Int → Int → Int} : LiftOp K W (ii0 fun i j => .int (g i j)) (rI0 fun i j => .int (g i j)) := by
  intro M H x y v u P Q m r1 r2 h k
  cases x <;> cases y <;> first
    | exact h.elim
    | (rename_i i j; exact ⟨i, j, r1.int, r2.int, k _ _ H h (Ext.refl H) m.wi rep_int⟩)
theorem lift_iib {K : PySem.W.Frag} {g : Int → Int → Bool} : LiftOp K W (ii0 fun i j => .bl (g i j)) (rI0 fun i j => .bl (g i j)) := by
  intro M H x y v u P Q m r1 r2 h k
  cases x <;> cases y <;> first
    | exact h.elim
    | (rename_i i j; exact ⟨i, j, r1.int, r2.int, k _ _ H h (Ext.refl H) m.wi rep_bl⟩)
def CFdiv (_ j : Int) : Prop := j ≠ 0 ∧ j.natAbs.log2 < 9000
theorem op_fdivA : OpR X (binaryOp .FloorDiv) (rI CFdiv fun i j => .int (i.fdiv j)) := opI fun i j _ _ _ _ _ hc q => floordiv_int hc.1 q (.inl (PyProof.noPylong_of_log2 hc.2))
abbrev subD : D → D → (D → Prop) → Prop := ii0 fun i j => .int (i - j)
abbrev mulD : D → D → (D → Prop) → Prop := iiD CMulW fun i j => .int (i * j)
abbrev fdivD : D → D → (D → Prop) → Prop := iiD CFdiv fun i j => .int (i.fdiv j)
abbrev modD : D → D → (D → Prop) → Prop := iiD (fun _ j => j ≠ 0) fun i j => .int (i.fmod j)
theorem ve_sub {wa wb : WE} (ha : VE X W a wa) (hb : VE X W b wb) : VE X W (.BinOp a .Sub b pos) (wOp subD wa wb) := ve_op op_sub lift_ii0 ha hb
theorem ve_mul {wa wb : WE} (ha : VE X W a wa) (hb : VE X W b wb) : VE X W (.BinOp a .Mult b pos) (wOp mulD wa wb) := ve_op op_mulW lift_ii ha hb
theorem ve_fdiv {wa wb : WE} (ha : VE X W a wa) (hb : VE X W b wb) : VE X W (.BinOp a .FloorDiv b pos) (wOp fdivD wa wb) := ve_op op_fdivA lift_ii ha hb
theorem ve_mod {wa wb : WE} (ha : VE X W a wa) (hb : VE X W b wb) : VE X W (.BinOp a .Mod b pos) (wOp modD wa wb) := ve_op op_modN lift_ii ha hb
theorem vif {b : Bool} {A B : Prop} (h1 : b = true → A) (h0 : b = false → B) : if b = true then A else B := by
  cases b with
  | true => exact iteT (h1 rfl)
  | false => exact iteF (h0 rfl)
theorem vifd {p : Prop} {dp : Decidable p} {A B : Prop} (h1 : p → A) (h0 : ¬ p → B) : if decide p = true then A else B := vif (fun e => h1 (of_decide_eq_true e)) fun e => h0 (of_decide_eq_false e)
theorem vifn {p : Prop} {dp : Decidable p} {A B : Prop} (h1 : ¬ p → A) (h0 : p → B) : if (!decide p) = true then A else B := vif (fun e => h1 (by simpa using e)) fun e => h0 (by simpa using e)
def ltD : D → D → (D → Prop) → Prop
  | .int i, .int j, P => P (.bl (decide (i < j)))
  | .str i, .str j, P => P (.bl (decide (i.cps.toList < j.cps.toList)))
  | _, _, _ => False
def rLtA : R2 := fun x y H Q => (rI0 fun i j => .bl (decide (i < j))) x y H Q ∨ (∃ i j, x = .str i ∧ y = .str j ∧ Q (.bl (decide (i.cps.toList < j.cps.toList))) H)
theorem lift_lt {K : PySem.W.Frag} : LiftOp K W ltD rLtA := by
  intro M H x y v u P Q m r1 r2 h k
  cases x <;> cases y <;> first
    | exact h.elim
    | (rename_i i j; exact .inl ⟨i, j, r1.int, r2.int, k _ _ H h (Ext.refl H) m.wi rep_bl⟩)
    | (rename_i i j; exact .inr ⟨i, j, r1.str, r2.str, k _ _ H h (Ext.refl H) m.wi rep_bl⟩)
mutual
def toPy : D → PyData
  | .non => .none
  | .bl b => .bool b
  | .int i => .int i
  | .str x => .str x
  | .hnd _ => .dict []
  | .dic _ _ => .dict []
  | .ins _ _ _ => .dict []
  | .lam _ _ => .dict []
  | .tup ds => .tuple (toPys ds)
  | .lst ds => .list (toPys ds)
def toPys : List D → List PyData
  | [] => []
  | d :: ds => toPy d :: toPys ds
end
mutual
theorem dp_of {K : PySem.W.Frag} {M : Addr → Prop} {H : Hp} : ∀ {d : D} {v : V}, Rep K M H d v → (toPy d).canLay0 = true → Dp K H v (toPy d)
  | .non, _, h, _ => by rw [h.non]; unfold toPy; exact .non
  | .bl _, _, h, _ => by rw [h.bl]; unfold toPy; exact .bl _
  | .int _, _, h, _ => by rw [h.int]; unfold toPy; exact .int _
  | .str _, _, h, _ => by rw [h.str]; unfold toPy; exact .str _
  | .hnd _, _, _, c => by unfold toPy PyData.canLay0 at c; cases c
  | .dic _ _, _, _, c => by unfold toPy PyData.canLay0 at c; cases c
  | .ins _ _ _, _, _, c => by unfold toPy PyData.canLay0 at c; cases c
  | .lam _ _, _, _, c => by unfold toPy PyData.canLay0 at c; cases c
  | .tup _, _, h, c => by
    obtain ⟨a, xs, rfl, t, r⟩ := h.tup
    unfold toPy
    unfold toPy PyData.canLay0 at c
    exact .tup t.sq (dps_of r c)
  | .lst _, _, h, c => by
    obtain ⟨a, xs, rfl, t, r⟩ := h.lst
    unfold toPy
    unfold toPy PyData.canLay0 at c
    exact .lst t.sq (dps_of r c)
theorem dps_of {K : PySem.W.Frag} {M : Addr → Prop} {H : Hp} : ∀ {ds : List D} {vs : List V}, Reps K M H ds vs → PyData.canLayAll0 (toPys ds) = true → DpAll K H vs (toPys ds)
  | [], _, h, _ => by rw [h.inv0]; unfold toPys; exact .nil
  | _ :: _, _, h, c => by
    obtain ⟨v, vs, rfl, h1, h2⟩ := h.inv
    unfold toPys
    unfold toPys PyData.canLayAll0 at c
    obtain ⟨c1, c2⟩ := Bool.and_eq_true_iff.mp c
    exact .cons (dp_of h1 c1) (dps_of h2 c2)
end
def shp (d : D) : Bool := SeqAt.shaped (toPy d)
def eqv (x y : D) : Bool := PyData.eqv (toPy x) (toPy y)
def eqD : D → D → (D → Prop) → Prop
  | .int i, .int j, P => P (.bl (decide (i = j)))
  | .str i, .str j, P => P (.bl (decide (i = j)))
  | .bl i, .bl j, P => P (.bl (decide (i = j)))
  | x, y, P => shp x = true ∧ shp y = true ∧ P (.bl (eqv x y))
def neD : D → D → (D → Prop) → Prop
  | .int i, .int j, P => P (.bl (!decide (i = j)))
  | .str i, .str j, P => P (.bl (!decide (i = j)))
  | .bl i, .bl j, P => P (.bl (!decide (i = j)))
  | x, y, P => shp x = true ∧ shp y = true ∧ P (.bl (!eqv x y))
def rEqA (K : PySem.W.Frag) : R2 := fun x y H Q => rEq x y H Q ∨ rEqD K x y H Q
def rNeA (K : PySem.W.Frag) : R2 := fun x y H Q => rNe x y H Q ∨ rNeD K x y H Q
theorem dec_v {i j : Int} : decide (V.int i = V.int j) = decide (i = j) := by simp
theorem dec_s {i j : Str} : decide (V.str i = V.str j) = decide (i = j) := by simp
theorem dec_b {i j : Bool} : decide (V.bl i = V.bl j) = decide (i = j) := by simp
theorem lift_eq {K : PySem.W.Frag} : LiftOp K W eqD (rEqA K) := by
  intro M H x y v u P Q m r1 r2 h k
  unfold eqD at h
  split at h
  · rename_i i j
    have e1 := r1.int
    have e2 := r2.int
    subst e1 e2
    exact .inl ⟨rfl, by rw [dec_v]; exact k _ _ H h (Ext.refl H) m.wi rep_bl⟩
  · rename_i i j
    have e1 := r1.str
    have e2 := r2.str
    subst e1 e2
    exact .inl ⟨rfl, by rw [dec_s]; exact k _ _ H h (Ext.refl H) m.wi rep_bl⟩
  · rename_i i j
    have e1 := r1.bl
    have e2 := r2.bl
    subst e1 e2
    exact .inl ⟨rfl, by rw [dec_b]; exact k _ _ H h (Ext.refl H) m.wi rep_bl⟩
  · obtain ⟨h1, h2, h⟩ := h
    exact .inr ⟨toPy x, toPy y, dp_of r1 (SeqAt.canLay_of_shaped h1), dp_of r2 (SeqAt.canLay_of_shaped h2), h1, h2, k _ _ H h (Ext.refl H) m.wi rep_bl⟩
theorem lift_ne {K : PySem.W.Frag} : LiftOp K W neD (rNeA K) := by
  intro M H x y v u P Q m r1 r2 h k
  unfold neD at h
  split at h
  · rename_i i j
    have e1 := r1.int
    have e2 := r2.int
    subst e1 e2
    exact .inl ⟨rfl, by rw [dec_v]; exact k _ _ H h (Ext.refl H) m.wi rep_bl⟩
  · rename_i i j
    have e1 := r1.str
    have e2 := r2.str
    subst e1 e2
    exact .inl ⟨rfl, by rw [dec_s]; exact k _ _ H h (Ext.refl H) m.wi rep_bl⟩
  · rename_i i j
    have e1 := r1.bl
    have e2 := r2.bl
    subst e1 e2
    exact .inl ⟨rfl, by rw [dec_b]; exact k _ _ H h (Ext.refl H) m.wi rep_bl⟩
  · obtain ⟨h1, h2, h⟩ := h
    exact .inr ⟨toPy x, toPy y, dp_of r1 (SeqAt.canLay_of_shaped h1), dp_of r2 (SeqAt.canLay_of_shaped h2), h1, h2, k _ _ H h (Ext.refl H) m.wi rep_bl⟩
theorem op_eqA (hu : X.A.units + 64 < cLine) : OpR X (compareOp .Eq) (rEqA X.K) := OpR.or op_eq (op_eqD hu)
theorem op_neA (hu : X.A.units + 64 < cLine) : OpR X (compareOp .NotEq) (rNeA X.K) := OpR.or op_ne (op_neD hu)
def flatD : D → Bool
  | .non | .bl _ | .int _ | .str _ => true
  | _ => false
def fV : D → V
  | .non => .non
  | .bl b => .bl b
  | .int i => .int i
  | .str x => .str x
  | .hnd v => v
  | _ => .non
theorem Rep.flat {K : PySem.W.Frag} {M : Addr → Prop} {H : Hp} {d : D} {v : V} (h : Rep K M H d v) (f : flatD d = true) : v = fV d := by
  cases d with
  | non => exact h.non
  | bl => exact h.bl
  | int => exact h.int
  | str => exact h.str
  | _ => cases f
theorem Reps.flat {K : PySem.W.Frag} {M : Addr → Prop} {H : Hp} : ∀ {ds : List D} {vs : List V}, Reps K M H ds vs → ds.all flatD = true → vs = ds.map fV
  | [], _, h, _ => h.inv0
  | _ :: _, _, h, f => by
    obtain ⟨v, vs, rfl, h1, h2⟩ := h.inv
    obtain ⟨f1, f2⟩ := Bool.and_eq_true_iff.mp f
    rw [h1.flat f1, Reps.flat h2 f2]
    rfl
theorem flat_v {d : D} (f : flatD d = true) : flatV (fV d) = true := by
  cases d <;> first | rfl | cases f
theorem flat_vs : ∀ {ds : List D}, ds.all flatD = true → (ds.map fV).all flatV = true
  | [], _ => rfl
  | _ :: _, f => by
    obtain ⟨f1, f2⟩ := Bool.and_eq_true_iff.mp f
    show (flatV _ && (List.map fV _).all flatV) = true
    rw [flat_v f1, flat_vs f2]
    rfl
def inD (neg : Bool) : D → D → (D → Prop) → Prop
  | x, .lst xs, P => flatD x = true ∧ xs.all flatD = true ∧ P (.bl (if neg then !inV (fV x) (xs.map fV) else inV (fV x) (xs.map fV)))
  | x, .tup xs, P => flatD x = true ∧ xs.all flatD = true ∧ P (.bl (if neg then !inV (fV x) (xs.map fV) else inV (fV x) (xs.map fV)))
  | _, _, _ => False
theorem lift_in {K : PySem.W.Frag} {neg : Bool} : LiftOp K W (inD neg) (rIn K neg) := by
  intro M H x y v u P Q m r1 r2 h k
  cases y with
  | lst xs =>
    obtain ⟨h1, h2, h3⟩ := h
    obtain ⟨a, vs, rfl, t, r⟩ := r2.lst
    have e1 := r1.flat h1
    have e2 := r.flat h2
    subst e1 e2
    exact ⟨a, _, rfl, .inl t.sq, flat_v h1, flat_vs h2, k _ _ H h3 (Ext.refl H) m.wi rep_bl⟩
  | tup xs =>
    obtain ⟨h1, h2, h3⟩ := h
    obtain ⟨a, vs, rfl, t, r⟩ := r2.tup
    have e1 := r1.flat h1
    have e2 := r.flat h2
    subst e1 e2
    exact ⟨a, _, rfl, .inr t.sq, flat_v h1, flat_vs h2, k _ _ H h3 (Ext.refl H) m.wi rep_bl⟩
  | _ => cases x <;> exact h.elim
def isNn : Bool → D → D → (D → Prop) → Prop := fun neg x y P => match x, y with
  | .non, .non => P (.bl (!neg))
  | .hnd _, .non => False
  | _, .non => P (.bl neg)
  | _, _ => False
theorem lift_isN {K : PySem.W.Frag} : LiftOp K W (isNn false) (fun x y H Q => y = .non ∧ Q (.bl (decide (x = .non))) H) := by
  intro M H x y v u P Q m r1 r2 h k
  have key : ∀ b : Bool, P (.bl b) → decide (v = .non) = b → Q (.bl (decide (v = .non))) H := fun b hp e => by rw [e]; exact k _ _ H hp (Ext.refl H) m.wi rep_bl
  cases y <;> first | (cases x <;> exact h.elim) | skip
  refine ⟨r2.non, ?_⟩
  cases x with
  | non => exact key true h (by rw [r1.non]; rfl)
  | bl => exact key false h (by rw [r1.bl]; rfl)
  | int => exact key false h (by rw [r1.int]; rfl)
  | str => exact key false h (by rw [r1.str]; rfl)
  | hnd => exact h.elim
  | tup => obtain ⟨a, _, e, _⟩ := r1.tup; exact key false h (by rw [e]; rfl)
  | lst => obtain ⟨a, _, e, _⟩ := r1.lst; exact key false h (by rw [e]; rfl)
  | dic => obtain ⟨a, _, e, _⟩ := r1.dic; exact key false h (by rw [e]; rfl)
  | ins => obtain ⟨a, _, _, e, _⟩ := r1.ins; exact key false h (by rw [e]; rfl)
  | lam => exact key false h (by rw [r1.lam.1]; rfl)
theorem lift_notN {K : PySem.W.Frag} : LiftOp K W (isNn true) (fun x y H Q => y = .non ∧ Q (.bl (!decide (x = .non))) H) := by
  intro M H x y v u P Q m r1 r2 h k
  have key : ∀ b : Bool, P (.bl b) → (!decide (v = .non)) = b → Q (.bl (!decide (v = .non))) H := fun b hp e => by rw [e]; exact k _ _ H hp (Ext.refl H) m.wi rep_bl
  cases y <;> first | (cases x <;> exact h.elim) | skip
  refine ⟨r2.non, ?_⟩
  cases x with
  | non => exact key false h (by rw [r1.non]; rfl)
  | bl => exact key true h (by rw [r1.bl]; rfl)
  | int => exact key true h (by rw [r1.int]; rfl)
  | str => exact key true h (by rw [r1.str]; rfl)
  | hnd => exact h.elim
  | tup => obtain ⟨a, _, e, _⟩ := r1.tup; exact key true h (by rw [e]; rfl)
  | lst => obtain ⟨a, _, e, _⟩ := r1.lst; exact key true h (by rw [e]; rfl)
  | dic => obtain ⟨a, _, e, _⟩ := r1.dic; exact key true h (by rw [e]; rfl)
  | ins => obtain ⟨a, _, _, e, _⟩ := r1.ins; exact key true h (by rw [e]; rfl)
  | lam => exact key true h (by rw [r1.lam.1]; rfl)
theorem op_ltA : OpR X (compareOp .Lt) rLtA := OpR.or op_lt op_lt_str
def wAnd (t u : WT) : WT := fun ds P => t ds fun b => if b = true then u ds P else P false
def wOr (t u : WT) : WT := fun ds P => t ds fun b => if b = true then P true else u ds P
def wNot (t : WT) : WT := fun ds P => t ds fun b => P (!b)
abbrev VW (X : Cx) (W : Wd) (e : Expr) (w : WT) : Prop := PW X e (LT X.K W w)
theorem vw_and1 {t : WT} (ha : VT X W a t) : VW X W (.BoolOp .And [a] pos) t := pw_and1 ha
theorem vw_or1 {t : WT} (ha : VT X W a t) : VW X W (.BoolOp .Or [a] pos) t := pw_or1 ha
theorem vw_and {t u : WT} (ha : VT X W a t) (hb : VW X W (.BoolOp .And (b :: rest) pos) u) : VW X W (.BoolOp .And (a :: b :: rest) pos) (wAnd t u) := by
  refine pw_imp (pw_and ha hb) fun σ H Q h => ?_
  obtain ⟨M0, H0, oa, ds, P, S, hw, k⟩ := h
  refine ⟨M0, H0, oa, ds, _, S, hw, fun b H1 hb e1 i1 => ?_⟩
  cases b with
  | true => exact ⟨M0, H0, oa, ds, _, S.step e1 i1, hb, fun b H2 hp e2 i2 => k b H2 hp (e1.trans e2) i2⟩
  | false => exact k false H1 hb e1 i1
theorem vw_or {t u : WT} (ha : VT X W a t) (hb : VW X W (.BoolOp .Or (b :: rest) pos) u) : VW X W (.BoolOp .Or (a :: b :: rest) pos) (wOr t u) := by
  refine pw_imp (pw_or ha hb) fun σ H Q h => ?_
  obtain ⟨M0, H0, oa, ds, P, S, hw, k⟩ := h
  refine ⟨M0, H0, oa, ds, _, S, hw, fun b H1 hb e1 i1 => ?_⟩
  cases b with
  | true => exact k true H1 hb e1 i1
  | false => exact ⟨M0, H0, oa, ds, _, S.step e1 i1, hb, fun b H2 hp e2 i2 => k b H2 hp (e1.trans e2) i2⟩
theorem vt_w {t : WT} (h : VW X W e t) : VT X W e t := h.pt
theorem vt_not {t : WT} (ha : VT X W a t) : VT X W (.UnaryOp .Not a pos) (wNot t) := by
  refine pt_imp (pt_not ha) fun σ H Q h => ?_
  obtain ⟨M0, H0, oa, ds, P, S, hw, k⟩ := h
  exact ⟨M0, H0, oa, ds, _, S, hw, fun b H1 hb e1 i1 => k (!b) H1 hb e1 i1⟩
def wAndV (wa wb : WE) : WE := fun ds P => wa ds fun x => asBl x fun c => if c = true then wb ds P else P (.bl false)
def wOrV (wa wb : WE) : WE := fun ds P => wa ds fun x => asBl x fun c => if c = true then P (.bl true) else wb ds P
def wNotV (wa : WE) : WE := fun ds P => wa ds fun x => asBl x fun c => P (.bl (!c))
theorem ve_one {op} {w : WE} (h : VE X W a w) : VE X W (.BoolOp op [a] pos) w := pe_one h
theorem ve_and {wa wb : WE} (ha : VE X W a wa) (hb : VE X W (.BoolOp .And (b :: rest) pos) wb) : VE X W (.BoolOp .And (a :: b :: rest) pos) (wAndV wa wb) := by
  refine pe_imp (pe_and ha hb) fun σ H Q h => ?_
  obtain ⟨M0, H0, oa, ds, P, S, hw, k⟩ := h
  refine ⟨M0, H0, oa, ds, _, S, hw, fun x v H1 hx e1 i1 r1 => ?_⟩
  obtain ⟨c, rfl, hc⟩ := asBl_of hx
  refine ⟨c, r1.bl, ?_⟩
  cases c with
  | true => exact ⟨M0, H0, oa, ds, _, S.step e1 i1, hc, fun d v H2 hp e2 i2 r => k d v H2 hp (e1.trans e2) i2 r⟩
  | false => exact k _ _ H1 hc e1 i1 rep_bl
theorem ve_or {wa wb : WE} (ha : VE X W a wa) (hb : VE X W (.BoolOp .Or (b :: rest) pos) wb) : VE X W (.BoolOp .Or (a :: b :: rest) pos) (wOrV wa wb) := by
  refine pe_imp (pe_or ha hb) fun σ H Q h => ?_
  obtain ⟨M0, H0, oa, ds, P, S, hw, k⟩ := h
  refine ⟨M0, H0, oa, ds, _, S, hw, fun x v H1 hx e1 i1 r1 => ?_⟩
  obtain ⟨c, rfl, hc⟩ := asBl_of hx
  refine ⟨c, r1.bl, ?_⟩
  cases c with
  | true => exact k _ _ H1 hc e1 i1 rep_bl
  | false => exact ⟨M0, H0, oa, ds, _, S.step e1 i1, hc, fun d v H2 hp e2 i2 r => k d v H2 hp (e1.trans e2) i2 r⟩
theorem ve_not {wa : WE} (ha : VE X W a wa) : VE X W (.UnaryOp .Not a pos) (wNotV wa) := by
  refine pe_imp (pe_not ha) fun σ H Q h => ?_
  obtain ⟨M0, H0, oa, ds, P, S, hw, k⟩ := h
  refine ⟨M0, H0, oa, ds, _, S, hw, fun x v H1 hx e1 i1 r1 => ?_⟩
  obtain ⟨c, rfl, hc⟩ := asBl_of hx
  exact ⟨c, r1.bl, k _ _ H1 hc e1 i1 rep_bl⟩
def wIf (t : WT) (wa wb : WE) : WE := fun ds P => t ds fun c => if c = true then wa ds P else wb ds P
theorem ve_if {t : WT} {wa wb : WE} (hc : VT X W c t) (ha : VE X W a wa) (hb : VE X W b wb) : VE X W (.IfExp c a b pos) (wIf t wa wb) := by
  refine pe_imp (pe_ifExp hc ha hb) fun σ H Q h => ?_
  obtain ⟨M0, H0, oa, ds, P, S, hw, k⟩ := h
  refine ⟨M0, H0, oa, ds, _, S, hw, fun c H1 hx e1 i1 => ?_⟩
  cases c with
  | true => exact ⟨M0, H0, oa, ds, _, S.step e1 i1, hx, fun d v H2 hp e2 i2 r => k d v H2 hp (e1.trans e2) i2 r⟩
  | false => exact ⟨M0, H0, oa, ds, _, S.step e1 i1, hx, fun d v H2 hp e2 i2 r => k d v H2 hp (e1.trans e2) i2 r⟩
def wNil : WL := fun _ P => P []
def wCons (w : WE) (l : WL) : WL := fun ds P => w ds fun x => l ds fun xs => P (x :: xs)
theorem va_nil : VA X W [] wNil := pa_imp pa_nil fun σ H Q ⟨M0, H0, oa, ds, P, S, hw, k⟩ => k [] [] H hw (Ext.refl H) S.wi reps_nil
theorem va_cons {w : WE} {l : WL} (ha : VE X W e w) (hr : VA X W es l) (hs : starEach (e :: es) X.env = (false, eval e X.env) :: starEach es X.env := by rfl) : VA X W (e :: es) (wCons w l) := by
  refine pa_imp (pa_cons ha hr hs) fun σ H Q h => ?_
  obtain ⟨M0, H0, oa, ds, P, S, hw, k⟩ := h
  refine ⟨M0, H0, oa, ds, _, S, hw, fun x v H1 hx e1 i1 r1 => ?_⟩
  have S1 := S.step e1 i1
  exact ⟨M0, H0, oa, ds, _, S1, hx, fun xs vs H2 hp e2 i2 r2 => k _ _ H2 hp (e1.trans e2) i2 (reps_cons (r1.ext S1.mok e2) r2)⟩
def wTup (l : WL) : WE := fun ds P => l ds fun xs => xs.length ≤ 1000000 ∧ P (.tup xs)
def wLst (l : WL) : WE := fun ds P => l ds fun xs => xs.length ≤ 1000000 ∧ P (.lst xs)
theorem million {n : Nat} (h : n ≤ 1000000) : n ≤ sizeLine := by rw [sizeLine_eq]; omega
theorem ve_tup {l : WL} {x1} (h : VA X W es l) : VE X W (.Tuple es x1 pos) (wTup l) := by
  refine pe_imp (pe_tup h) fun σ H Q h => ?_
  obtain ⟨M0, H0, oa, ds, P, S, hw, k⟩ := h
  refine ⟨M0, H0, oa, ds, _, S, hw, fun xs vs H1 hx e1 i1 r1 => ⟨by rw [r1.len]; exact million hx.1, fun p hp => ?_⟩⟩
  have S1 := S.step e1 i1
  exact k _ _ _ hx.2 (e1.trans (Full.new hp).ext) (W.keep _ _ i1 (Full.new hp)) (S1.mok.newT hp r1)
theorem ve_lst {l : WL} (h : VA X W es l) : VE X W (.List es pos) (wLst l) := by
  refine pe_imp (pe_lst h) fun σ H Q h => ?_
  obtain ⟨M0, H0, oa, ds, P, S, hw, k⟩ := h
  refine ⟨M0, H0, oa, ds, _, S, hw, fun xs vs H1 hx e1 i1 r1 => ⟨by rw [r1.len]; exact million hx.1, fun p hp => ?_⟩⟩
  have S1 := S.step e1 i1
  exact k _ _ _ hx.2 (e1.trans (Full.new hp).ext) (W.keep _ _ i1 (Full.new hp)) (S1.mok.newL hp r1)
def wCall (f : List D → (D → Prop) → Prop) (l : WL) : WE := fun ds P => l ds fun xs => f xs P
def spD (K : PySem.W.Frag) (W : Wd) (f : List D → (D → Prop) → Prop) : Sp := fun vs H Q _ => ∃ M ds P, MOk W M H ∧ Reps K M H ds vs ∧ f ds P ∧ ∀ d v H', P d → Ext W H H' → W.I H' → Rep K M H' d v → Q v H'
theorem ve_call {CX : CXT} {k : Nat} {f : Addr} {fd : FuncData} {ps : List Str} {g : List D → (D → Prop) → Prop} {dvs : List V} {dds : List D} {ds : List Value} {x : Str} {p : Pos} {l : WL} {E : XK}
    (F : FnOk X.prog X.w X.K X.mg X.base CX k f fd ps (spD X.K W g)) (hr : Room k X.A) (hg : Gl X x) (hm : X.mg x = some (.ref f)) (hk : PySem.W.keepIn X.K (.ref f) = true) (hb : Binds X.K fd ps ds) (hd : Vals dvs ds) (hx : Passes CX X E) (hdd : ∀ M H, Reps X.K M H dds dvs)
    (ha : VA X W (e :: es) l) (hdb : (x == ("__debug__" : Str)) = false := by decide) (he : starEach (e :: es) X.env = (false, eval e X.env) :: starEach es X.env := by rfl) (hpl : (backTo pos (starEach es X.env)).any (·.1) = false := by rfl) :
    VE X W (.Call (.Name x p) (e :: es) [] pos) (wCall (fun xs P => g (xs ++ dds) P) l) := by
  refine pe_imp (pe_call F hr hg hm hk hb hd hx ha hdb he hpl) fun σ H Q h => ?_
  obtain ⟨M0, H0, oa, ds, P, S, hw, k⟩ := h
  refine ⟨M0, H0, oa, ds, _, S, hw, fun xs vs H1 hx e1 i1 r1 => ?_⟩
  have S1 := S.step e1 i1
  exact ⟨Mx M0 oa, xs ++ dds, P, S1.mok, r1.app (hdd _ _), hx, fun d v H' hp e i r => k d v H' hp (e1.trans e) i r⟩
def LiftCall (K : PySem.W.Frag) (W : Wd) (f : List D → (D → Prop) → Prop) (r : List V → Hp → VK → Prop) : Prop :=
  ∀ (M : Addr → Prop) (H : Hp) (xs : List D) (vs : List V) (P : D → Prop) (Q : VK), MOk W M H → Reps K M H xs vs → f xs P → (∀ d z H', P d → Ext W H H' → W.I H' → Rep K M H' d z → Q z H') → r vs H Q
theorem le_cb {K : PySem.W.Frag} {f : List D → (D → Prop) → Prop} {r : List V → Hp → VK → Prop} {l : WL} (hf : LiftCall K W f r) (σ : L2.St) (H : Hp) (Q : VK) (h : LE K W (wCall f l) σ H Q) : tCB r (LA K W l) σ H Q := by
  obtain ⟨M0, H0, oa, ds, P, S, hw, k⟩ := h
  refine ⟨M0, H0, oa, ds, _, S, hw, fun xs vs H1 hx e1 i1 r1 => ?_⟩
  exact hf (Mx M0 oa) H1 xs vs P Q (S.step e1 i1).mok r1 hx fun d z H' hp e i r => k d z H' hp (e1.trans e) i r
section
variable {x : Str} {p : Pos} {id T : String} {r : List V → Hp → VK → Prop} {f : List D → (D → Prop) → Prop} {l : WL}
theorem ve_callB (hc : CallR X (.builtin id) r) (hf : LiftCall X.K W f r) (hg : Gl X x) (hm : X.mg x = none) (hv : bootBuiltins x = some (.builtin id)) (ha : VA X W (e :: es) l) (hn : x ≠ "__name__" := by decide) (hdb : (x == ("__debug__" : Str)) = false := by decide)
    (he : starEach (e :: es) X.env = (false, eval e X.env) :: starEach es X.env := by rfl) (hpl : (backTo pos (starEach es X.env)).any (·.1) = false := by rfl) : VE X W (.Call (.Name x p) (e :: es) [] pos) (wCall f l) := pe_imp (pe_callB hc hg hm hv ha hn hdb he hpl) (le_cb hf)
theorem ve_callTy (hc : CallR X (.type T) r) (hf : LiftCall X.K W f r) (hg : Gl X x) (hm : X.mg x = none) (hv : bootBuiltins x = some (.type T)) (ha : VA X W (e :: es) l) (hn : x ≠ "__name__" := by decide) (hdb : (x == ("__debug__" : Str)) = false := by decide)
    (he : starEach (e :: es) X.env = (false, eval e X.env) :: starEach es X.env := by rfl) (hpl : (backTo pos (starEach es X.env)).any (·.1) = false := by rfl) : VE X W (.Call (.Name x p) (e :: es) [] pos) (wCall f l) := pe_imp (pe_callTy hc hg hm hv ha hn hdb he hpl) (le_cb hf)
end
def absD : List D → (D → Prop) → Prop
  | [.int i], P => P (.int (if i < 0 then -i else i))
  | _, _ => False
theorem Reps.one {K : PySem.W.Frag} {M : Addr → Prop} {H : Hp} {d : D} {vs : List V} (h : Reps K M H [d] vs) : ∃ v, vs = [v] ∧ Rep K M H d v := by
  obtain ⟨v, r, rfl, h1, h2⟩ := h.inv
  rw [h2.inv0]
  exact ⟨v, rfl, h1⟩
theorem Reps.two {K : PySem.W.Frag} {M : Addr → Prop} {H : Hp} {d e : D} {vs : List V} (h : Reps K M H [d, e] vs) : ∃ v u, vs = [v, u] ∧ Rep K M H d v ∧ Rep K M H e u := by
  obtain ⟨v, r, rfl, h1, h2⟩ := h.inv
  obtain ⟨u, rfl, h3⟩ := h2.one
  exact ⟨v, u, rfl, h1, h3⟩
theorem lift_abs {K : PySem.W.Frag} : LiftCall K W absD (fun xs H Q => ∃ i, xs = [.int i] ∧ Q (.int (if i < 0 then -i else i)) H) := by
  intro M H xs vs P Q m r h k
  match xs, h with
  | [.int i], h =>
    obtain ⟨v, rfl, r1⟩ := r.one
    exact ⟨i, by rw [r1.int], k _ _ H h (Ext.refl H) m.wi rep_int⟩
def intD : List D → (D → Prop) → Prop
  | [.int i], P => P (.int i)
  | [.bl b], P => P (.int (if b then 1 else 0))
  | _, _ => False
theorem lift_int {K : PySem.W.Frag} : LiftCall K W intD (fun xs H Q => (∃ i, xs = [.int i] ∧ Q (.int i) H) ∨ ∃ k, xs = [.bl k] ∧ Q (.int (if k then 1 else 0)) H) := by
  intro M H xs vs P Q m r h k
  match xs, h with
  | [.int i], h =>
    obtain ⟨v, rfl, r1⟩ := r.one
    exact .inl ⟨i, by rw [r1.int], k _ _ H h (Ext.refl H) m.wi rep_int⟩
  | [.bl i], h =>
    obtain ⟨v, rfl, r1⟩ := r.one
    exact .inr ⟨i, by rw [r1.bl], k _ _ H h (Ext.refl H) m.wi rep_int⟩
def lenD : List D → (D → Prop) → Prop
  | [.tup xs], P => P (.int xs.length)
  | [.lst xs], P => P (.int xs.length)
  | [.str x], P => x.length ≤ sizeLine ∧ P (.int x.length)
  | _, _ => False
theorem lift_len {K : PySem.W.Frag} : LiftCall K W lenD (fun xs H Q => ∃ x n, xs = [x] ∧ LenV K x H n ∧ Q (.int n) H) := by
  intro M H xs vs P Q m r h k
  match xs, h with
  | [.tup ds], h =>
    obtain ⟨v, rfl, r1⟩ := r.one
    obtain ⟨a, ys, rfl, t, r2⟩ := r1.tup
    exact ⟨_, ds.length, rfl, .inr ⟨ys, t.sq, r2.len.symm⟩, k _ _ H h (Ext.refl H) m.wi rep_int⟩
  | [.lst ds], h =>
    obtain ⟨v, rfl, r1⟩ := r.one
    obtain ⟨a, ys, rfl, t, r2⟩ := r1.lst
    exact ⟨_, ds.length, rfl, .inl ⟨ys, t.sq, r2.len.symm⟩, k _ _ H h (Ext.refl H) m.wi rep_int⟩
  | [.str x], h =>
    obtain ⟨v, rfl, r1⟩ := r.one
    have e := r1.str
    subst e
    exact ⟨.str x, x.length, rfl, ⟨h.1, rfl⟩, k _ _ H h.2 (Ext.refl H) m.wi rep_int⟩
def allD : List D → (D → Prop) → Prop
  | [.lst ds], P => ∃ bs : List Bool, ds = bs.map D.bl ∧ P (.bl (bs.all id))
  | _, _ => False
theorem lift_all {K : PySem.W.Frag} : LiftCall K W allD (rAll K) := by
  intro M H xs vs P Q m r h k
  match xs, h with
  | [.lst ds], h =>
    obtain ⟨bs, rfl, h⟩ := h
    obtain ⟨v, rfl, r1⟩ := r.one
    obtain ⟨a, ys, rfl, t, r2⟩ := r1.lst
    have e := r2.bls
    subst e
    exact ⟨a, bs, rfl, t.sq, k _ _ H h (Ext.refl H) m.wi rep_bl⟩
def listD : List D → (D → Prop) → Prop
  | [.tup xs], P => P (.lst xs)
  | [.lst xs], P => P (.lst xs)
  | _, _ => False
def tupD : List D → (D → Prop) → Prop
  | [.tup xs], P => P (.tup xs)
  | [.lst xs], P => P (.tup xs)
  | _, _ => False
theorem lift_list {K : PySem.W.Frag} : LiftCall K W listD (fun xs H Q => ∃ p ys, xs = [.ref p] ∧ (SqL K H p ys ∨ SqT K H p ys) ∧ ∀ l, H l = none → Q (.ref l) (upd H l (.lst ys))) := by
  intro M H xs vs P Q m r h k
  match xs, h with
  | [.tup ds], h =>
    obtain ⟨v, rfl, r1⟩ := r.one
    obtain ⟨a, ys, rfl, t, r2⟩ := r1.tup
    exact ⟨a, ys, rfl, .inr t.sq, fun l hl => k _ _ _ h (Full.new hl).ext (W.keep _ _ m.wi (Full.new hl)) (m.newL hl r2)⟩
  | [.lst ds], h =>
    obtain ⟨v, rfl, r1⟩ := r.one
    obtain ⟨a, ys, rfl, t, r2⟩ := r1.lst
    exact ⟨a, ys, rfl, .inl t.sq, fun l hl => k _ _ _ h (Full.new hl).ext (W.keep _ _ m.wi (Full.new hl)) (m.newL hl r2)⟩
theorem lift_tuple {K : PySem.W.Frag} : LiftCall K W tupD (fun xs H Q => ∃ p ys, xs = [.ref p] ∧ ((SqL K H p ys ∧ ∀ l, H l = none → Q (.ref l) (upd H l (.tup ys))) ∨ (SqT K H p ys ∧ Q (.ref p) H))) := by
  intro M H xs vs P Q m r h k
  match xs, h with
  | [.tup ds], h =>
    obtain ⟨v, rfl, r1⟩ := r.one
    obtain ⟨a, ys, rfl, t, r2⟩ := r1.tup
    exact ⟨a, ys, rfl, .inr ⟨t.sq, k _ _ _ h (Ext.refl H) m.wi (rep_tup t r2)⟩⟩
  | [.lst ds], h =>
    obtain ⟨v, rfl, r1⟩ := r.one
    obtain ⟨a, ys, rfl, t, r2⟩ := r1.lst
    exact ⟨a, ys, rfl, .inl ⟨t.sq, fun l hl => k _ _ _ h (Full.new hl).ext (W.keep _ _ m.wi (Full.new hl)) (m.newT hl r2)⟩⟩
inductive Ty where
  | int | str | bool | tuple | list
def Ty.nm : Ty → String
  | .int => "int" | .str => "str" | .bool => "bool" | .tuple => "tuple" | .list => "list"
def isTy : Ty → D → Bool
  | .int, .int _ => true
  | .int, .bl _ => true
  | .str, .str _ => true
  | .bool, .bl _ => true
  | .tuple, .tup _ => true
  | .list, .lst _ => true
  | _, _ => false
def noHnd : D → Bool
  | .hnd _ => false
  | .dic _ _ => false
  | .ins _ _ _ => false
  | .lam _ _ => false
  | _ => true
def tyN : D → String
  | .non => "NoneType" | .bl _ => "bool" | .int _ => "int" | .str _ => "str" | .tup _ => "tuple" | .lst _ => "list" | .hnd _ => "" | .dic _ _ => "" | .ins _ _ _ => "" | .lam _ _ => ""
inductive Kd where
  | non | bl | int | str | tup | lst
def Kd.nm : Kd → String
  | .non => "NoneType" | .bl => "bool" | .int => "int" | .str => "str" | .tup => "tuple" | .lst => "list"
def Kd.isTy : Ty → Kd → Bool
  | .int, .int => true
  | .int, .bl => true
  | .str, .str => true
  | .bool, .bl => true
  | .tuple, .tup => true
  | .list, .lst => true
  | _, _ => false
theorem kit_kd (t : Ty) (k : Kd) : kitB k.nm t.nm = some (Kd.isTy t k) := by cases t <;> cases k <;> decide +kernel
theorem kit_tab (t : Ty) (x : D) (h : noHnd x = true) : kitB (tyN x) t.nm = some (isTy t x) := by
  cases x with
  | non => exact (kit_kd t .non).trans (by cases t <;> rfl)
  | bl => exact (kit_kd t .bl).trans (by cases t <;> rfl)
  | int => exact (kit_kd t .int).trans (by cases t <;> rfl)
  | str => exact (kit_kd t .str).trans (by cases t <;> rfl)
  | tup => exact (kit_kd t .tup).trans (by cases t <;> rfl)
  | lst => exact (kit_kd t .lst).trans (by cases t <;> rfl)
  | _ => cases h
theorem Rep.ty {K : PySem.W.Frag} {M : Addr → Prop} {H : Hp} {d : D} {v : V} (h : Rep K M H d v) (n : noHnd d = true) : TyX K H v (.type (tyN d)) := by
  cases d with
  | non => rw [h.non]; exact .base .non
  | bl => rw [h.bl]; exact .base (.bl _)
  | int => rw [h.int]; exact .base (.int _)
  | str => rw [h.str]; exact .base (.str _)
  | hnd => cases n
  | dic => cases n
  | ins => cases n
  | lam => cases n
  | tup =>
    obtain ⟨a, xs, rfl, t, _⟩ := h.tup
    rcases t with ⟨_, t | ⟨o, t⟩⟩ | ⟨o, its, n, hk, hc, _⟩
    · exact .base (.tup t)
    · exact .fTuple t
    · exact .kTuple hk hc
  | lst =>
    obtain ⟨a, xs, rfl, t, _⟩ := h.lst
    rcases t with ⟨_, t | ⟨o, t⟩⟩ | ⟨o, its, n, hk, hc, _⟩
    · exact .base (.lst t)
    · exact .base (.frz t)
    · exact .kList hk hc
theorem ve_isi {x : Str} {p : Pos} (t : Ty) {w : WE} (hg : Gl X "isinstance") (hm : X.mg "isinstance" = none) (hv : bootBuiltins "isinstance" = some (.builtin "isinstance")) (ha : VE X W e w) (hgT : Gl X x) (hmT : X.mg x = none) (hvT : bootBuiltins x = some (.type t.nm)) {px : Pos}
    (hn : x ≠ "__name__" := by decide) (hdb : (x == ("__debug__" : Str)) = false := by decide)
    (hs : starEach [e, .Name x px] X.env = (false, eval e X.env) :: starEach [.Name x px] X.env := by rfl) (hpl : (backTo pos (starEach [.Name x px] X.env)).any (·.1) = false := by rfl) (hs2 : starEach [.Name x px] X.env = (false, eval (.Name x px) X.env) :: starEach [] X.env := by rfl) :
    VE X W (.Call (.Name "isinstance" p) [e, .Name x px] [] pos) (fun ds P => w ds fun d => noHnd d = true ∧ P (.bl (isTy t d))) := by
  have hT : PE X (.Name x px) (tC (.ty t.nm)) := pe_bltn (v := .ty t.nm) hgT hmT hvT rfl hn hdb
  refine pe_imp (pe_callB call_isi hg hm hv (pa_cons ha (pa_cons hT pa_nil hs2) hs) (by decide) (by decide) hs hpl) fun σ H Q h => ?_
  obtain ⟨M0, H0, oa, ds, P, S, hw, k⟩ := h
  refine ⟨M0, H0, oa, ds, _, S, hw, fun d v H1 hx e1 i1 r1 => ?_⟩
  show rIsi X.K [v, .ty t.nm] H1 Q
  exact ⟨v, .ty t.nm, .type (tyN d), .type t.nm, isTy t d, rfl, .ty _, r1.ty hx.1, kit_ty (kit_tab t d hx.1), k _ _ H1 hx.2 e1 i1 rep_bl⟩
def ixD : D → D → (D → Prop) → Prop
  | .tup xs, .int i, P => ∃ d, atI xs i = some d ∧ P d
  | .lst xs, .int i, P => ∃ d, atI xs i = some d ∧ P d
  | .str z, .int i, P => z.length ≤ sizeLine ∧ ∃ c, atI z.cps.toList i = some c ∧ P (.str ⟨#[c]⟩)
  | _, _, _ => False
theorem atI_rep {K : PySem.W.Frag} {M : Addr → Prop} {H : Hp} {ds : List D} {vs : List V} {i : Int} {d : D} (r : Reps K M H ds vs) (h : atI ds i = some d) : ∃ v, atI vs i = some v ∧ Rep K M H d v := by
  unfold atI at h ⊢
  rw [r.len]
  cases e : ixN ds.length i with
  | none => rw [e] at h; cases h
  | some j =>
    rw [e] at h
    exact r.get (i := j) h
theorem lift_ix {K : PySem.W.Frag} : LiftOp K W ixD (rIx K) := by
  intro M H x y v u P Q m r1 r2 h k
  cases x with
  | tup xs =>
    cases y with
    | int i =>
      obtain ⟨d, h1, h2⟩ := h
      obtain ⟨a, vs, rfl, t, r⟩ := r1.tup
      obtain ⟨z, e, rz⟩ := atI_rep r h1
      exact .inr (.inl ⟨a, vs, i, z, rfl, r2.int, t.sq, e, k _ _ H h2 (Ext.refl H) m.wi rz⟩)
    | _ => exact h.elim
  | lst xs =>
    cases y with
    | int i =>
      obtain ⟨d, h1, h2⟩ := h
      obtain ⟨a, vs, rfl, t, r⟩ := r1.lst
      obtain ⟨z, e, rz⟩ := atI_rep r h1
      exact .inl ⟨a, vs, i, z, rfl, r2.int, t.sq, e, k _ _ H h2 (Ext.refl H) m.wi rz⟩
    | _ => exact h.elim
  | str z =>
    cases y with
    | int i =>
      obtain ⟨hz, c, h1, h2⟩ := h
      exact .inr (.inr ⟨z, i, c, r1.str, r2.int, hz, h1, k _ _ H h2 (Ext.refl H) m.wi rep_str⟩)
    | _ => exact h.elim
  | _ => exact h.elim
def negD : D → (D → Prop) → Prop
  | .int i, P => P (.int (-i))
  | _, _ => False
def wNeg (w : WE) : WE := fun ds P => w ds fun x => negD x P
theorem ve_neg {w : WE} (ha : VE X W a w) : VE X W (.UnaryOp .USub a pos) (wNeg w) := by
  refine pe_imp (pe_un un_neg ha) fun σ H Q h => ?_
  obtain ⟨M0, H0, oa, ds, P, S, hw, k⟩ := h
  refine ⟨M0, H0, oa, ds, _, S, hw, fun x v H1 hx e1 i1 r1 => ?_⟩
  cases x <;> first | exact hx.elim | skip
  rename_i i
  exact ⟨i, r1.int, k _ _ H1 hx e1 i1 rep_int⟩
end
end VL
set_option Elab.async false
set_option linter.all false
set_option maxRecDepth 100000
set_option maxHeartbeats 2000000
namespace VL
open PySem PySem.Spec PyProof.Rows L2
structure EndsD where
  nx : List Sl → Prop
  rt : D → Prop
  bk : List Sl → Prop := fun _ => False
  ct : List Sl → Prop := fun _ => False
  rs : List Sl → D → Prop := fun _ _ => False
abbrev WS := EndsD → List Sl → Prop
def LS (K : PySem.W.Frag) (W : Wd) (w : WS) : TS := fun D σ H => ∃ M0 H0 oa ds E, Sat K W M0 H0 oa H σ ds ∧ w E ds ∧
  (∀ ds' oa' σ' H', E.nx ds' → Sat K W M0 H0 oa' H' σ' ds' → D.nx σ' H') ∧ (∀ d v H', E.rt d → Ext W H0 H' → W.I H' → Rep K M0 H' d v → D.rt v H') ∧
  (∀ ds' oa' σ' H', E.bk ds' → Sat K W M0 H0 oa' H' σ' ds' → D.bk σ' H') ∧ (∀ ds' oa' σ' H', E.ct ds' → Sat K W M0 H0 oa' H' σ' ds' → D.ct σ' H') ∧
  (∀ ds' oa' σ' H' d v, E.rs ds' d → Sat K W M0 H0 oa' H' σ' ds' → Rep K (Mx M0 oa') H' d v → D.rt v H')
abbrev VS (X : Cx) (W : Wd) (st : Stmt) (w : WS) : Prop := PS X st (LS X.K W w)
abbrev VSs (X : Cx) (W : Wd) (st : List Stmt) (w : WS) : Prop := PSs X st (LS X.K W w)
theorem ps_imp {X : Cx} {st : Stmt} {t t' : TS} (h : PS X st t) (f : ∀ D σ H, t' D σ H → t D σ H) : PS X st t' := ⟨fun pins s σ H D I hw => h.run pins s σ H D I (f D σ H hw)⟩
theorem pss_imp {X : Cx} {st : List Stmt} {t t' : TS} (h : PSs X st t) (f : ∀ D σ H, t' D σ H → t D σ H) : PSs X st t' := ⟨fun pins s σ H D I hw => h.run pins s σ H D I (f D σ H hw)⟩
theorem Rep.out {K : PySem.W.Frag} {M0 : Addr → Prop} {oa : Nat → AS} {H : Hp} {d : D} {v : V} (h : Rep K (Mx M0 oa) H d v) : Rep K M0 H d v := h.car fun _ _ n q => ⟨fun z => n (.inl z), q⟩
section
variable {X : Cx} {W : Wd} {e c : Expr} {st : Stmt} {rest body body2 : List Stmt} {pos : Pos}
def wNext : WS := fun E ds => E.nx ds
def wSeq (w u : WS) : WS := fun E ds => w { E with nx := u E } ds
theorem vss_nil : VSs X W [] wNext := pss_imp pss_nil fun D σ H ⟨M0, H0, oa, ds, E, S, hw, k1, _⟩ => k1 ds oa σ H hw S
theorem vss_cons {w u : WS} (h1 : VS X W st w) (h2 : VSs X W rest u) : VSs X W (st :: rest) (wSeq w u) := by
  refine pss_imp (pss_cons h1 h2) fun D σ H h => ?_
  obtain ⟨M0, H0, oa, ds, E, S, hw, k1, k2, k3, k4⟩ := h
  exact ⟨M0, H0, oa, ds, _, S, hw, fun ds' oa' σ' H' hn S' => ⟨M0, H0, oa', ds', E, S', hn, k1, k2, k3, k4⟩, k2, k3, k4⟩
theorem vss_one {w : WS} (h1 : VS X W st w) : VSs X W [st] (wSeq w wNext) := vss_cons h1 vss_nil
theorem vs_never : VS X W st (fun _ _ => False) := ps_imp ps_never fun D σ H ⟨M0, H0, oa, ds, E, S, hw, _⟩ => hw
def fzS : Sl → Sl
  | .ml xs => .d (.lst xs)
  | .md ks xs => .d (.dic ks xs)
  | .mi _ C ks xs => .d (.ins C ks xs)
  | .ow t => .d t.toD
  | s => s
def fz (i : Nat) (ds : List Sl) : List Sl := ds.set i (fzS (ds.getD i .un))
theorem Sat.fzd {K : PySem.W.Frag} {M0 : Addr → Prop} {H0 H : Hp} {oa : Nat → AS} {σ : L2.St} {ds : List Sl} (S : Sat K W M0 H0 oa H σ ds) {i : Nat} {v : V} {x : D} (hi : i < ds.length) (e2 : σ[i]? = some (some v))
    (hr : (∀ a, oa i a → ¬ Mx M0 (oaDel oa i) a) → Car (Mx M0 oa) (Mx M0 (oaDel oa i)) H H → Rep K (Mx M0 (oaDel oa i)) H x v) : Sat K W M0 H0 (oaDel oa i) H σ (ds.set i (.d x)) := by
  have nm : ∀ a, oa i a → ¬ Mx M0 (oaDel oa i) a := by
    rintro a e1 (z | ⟨j, z⟩)
    · exact (S.ofr i a e1).2 z
    · obtain ⟨z1, z2⟩ := oaDel_some z
      exact z1 (S.inj j i a z2 e1)
  refine ⟨S.wm, S.live, S.ext, S.wi, fun j a h => S.ofr j a (oaDel_some h).2, fun j k a h1 h2 => S.inj j k a (oaDel_some h1).2 (oaDel_some h2).2, by simp [S.len], fun j hj => ?_, fun j s h => ?_, S.fm, S.fh, S.bl, S.nc, S.nx⟩
  · have z := S.out j (by simpa using hj)
    unfold oaDel
    split
    · rfl
    · exact z
  · by_cases hj : j = i
    · subst hj
      rw [List.getElem?_set_self hi] at h
      cases h
      exact ⟨by unfold oaDel; simp, v, e2, hr nm car_del⟩
    · rw [List.getElem?_set_ne (Ne.symm hj)] at h
      have e2 : oaDel oa i j = oa j := by unfold oaDel; rw [if_neg hj]
      rw [e2]
      exact (S.slot j s h).car car_del fun a xs _ z => z
theorem Sat.fz {K : PySem.W.Frag} {M0 : Addr → Prop} {H0 H : Hp} {oa : Nat → AS} {σ : L2.St} {ds : List Sl} (S : Sat K W M0 H0 oa H σ ds) (i : Nat) : ∃ oa', Sat K W M0 H0 oa' H σ (fz i ds) := by
  by_cases hi : i < ds.length
  · have hg : ds.getD i .un = ds[i] := by simp [List.getD_eq_getElem?_getD, hi]
    have hs := S.slot i ds[i] (by simp [hi])
    cases q : ds[i] with
    | un =>
      refine ⟨oa, ?_⟩
      have : VL.fz i ds = ds := by unfold VL.fz; rw [hg, q]; show ds.set i .un = ds; rw [← q]; simp
      rw [this]; exact S
    | d x =>
      refine ⟨oa, ?_⟩
      have : VL.fz i ds = ds := by unfold VL.fz; rw [hg, q]; show ds.set i (.d x) = ds; rw [← q]; simp
      rw [this]; exact S
    | ml l =>
      rw [q] at hs
      obtain ⟨a, xs, e1, e2, e3, r⟩ := hs
      have ed : VL.fz i ds = ds.set i (.d (.lst l)) := by unfold VL.fz; rw [hg, q]; rfl
      rw [ed]
      exact ⟨_, S.fzd hi e2 fun nm c => rep_lst (.inl ⟨nm a (by rw [e1]; rfl), .inl e3⟩) (r.car c)⟩
    | md ks l =>
      rw [q] at hs
      obtain ⟨a, us, e1, e2, e3, e4, r⟩ := hs
      have ed : VL.fz i ds = ds.set i (.d (.dic ks l)) := by unfold VL.fz; rw [hg, q]; rfl
      rw [ed]
      exact ⟨_, S.fzd hi e2 fun nm c => rep_dic (nm a (by rw [e1]; rfl)) e3 e4 (r.car c)⟩
    | mi a C ks l =>
      rw [q] at hs
      obtain ⟨dx, us, e1, e2, e3, e4, r⟩ := hs
      have ed : VL.fz i ds = ds.set i (.d (.ins C ks l)) := by unfold VL.fz; rw [hg, q]; rfl
      rw [ed]
      exact ⟨_, S.fzd hi e2 fun nm c => rep_ins (nm a (by rw [e1]; rfl)) e3 e4 (r.car c)⟩
    | ow t =>
      rw [q] at hs
      obtain ⟨v, e2, r⟩ := hs
      have ed : VL.fz i ds = ds.set i (.d t.toD) := by unfold VL.fz; rw [hg, q]; rfl
      rw [ed]
      exact ⟨_, S.fzd hi e2 fun nm c => r.rep c nm⟩
  · refine ⟨oa, ?_⟩
    have : VL.fz i ds = ds := by unfold VL.fz; rw [List.set_eq_of_length_le (by omega)]
    rw [this]; exact S
theorem vss_fz (i : Nat) {w : WS} (h : VSs X W rest w) : VSs X W rest (fun E ds => w E (fz i ds)) := pss_imp h fun D σ H ⟨M0, H0, oa, ds, E, S, hw, k⟩ => by
  obtain ⟨oa', S'⟩ := S.fz i
  exact ⟨M0, H0, oa', _, E, S', hw, k⟩
def wSet (i : Nat) (w : WE) : WS := fun E ds => w ds fun d => E.nx (ds.set i (.d d))
theorem ls_set {K : PySem.W.Frag} {i : Nat} {w : WE} {D : Ends} {σ : L2.St} {H : Hp} (h : LS K W (wSet i w) D σ H) : tAsg (LE K W w) (gName i) D σ H := by
  obtain ⟨M0, H0, oa, ds, E, S, hw, k1, k2, k3, k4⟩ := h
  refine ⟨M0, H0, oa, ds, _, S, hw, fun d v H1 hd e1 i1 r1 => ?_⟩
  exact k1 _ _ _ _ hd ((S.step e1 i1).set r1)
theorem vs_set (i : Nat) {x : Str} {w : WE} {pos' : Pos} (hN : X.N.Nodup) (he : VE X W e w) (hi : X.N[i]? = some x := by rfl) (hx : Loc X.env.scope x := by first | exact Or.inl rfl | exact Or.inr rfl) (hs : swapsWith e (some (.Name x pos')) pos.line X.env = pure false := by rfl)
    (hf : X.fn x = true ∨ X.env.scope.names.lookup x = some .local := by first | exact .inl rfl | exact .inr rfl | assumption) : VS X W (.Assign [.Name x pos'] e pos) (wSet i w) := ps_imp (ps_set hN hi hx he hs hf) fun _ _ _ => ls_set
def wSetNil (i : Nat) : WS := fun E ds => i < ds.length ∧ E.nx (ds.set i (.ml []))
theorem Sat.newown {K : PySem.W.Frag} {M0 : Addr → Prop} {H0 H : Hp} {oa : Nat → AS} {σ : L2.St} {ds : List Sl} (S : Sat K W M0 H0 oa H σ ds) {i : Nat} (hi : i < ds.length) {p : Addr} (hp : H p = none) {ob : HO} {sl : Sl}
    (hsl : Car (Mx M0 oa) (Mx M0 (oaPut oa i p)) H (upd H p ob) → SlotOk K (Mx M0 (oaPut oa i p)) (upd H p ob) (one1 p) sl (some (some (.ref p)))) : Sat K W M0 H0 (oaPut oa i p) (upd H p ob) (σ.set i (some (.ref p))) (ds.set i sl) := by
  have f : Full H (upd H p ob) := Full.new hp
  have S1 := S.full f
  have hm : ¬ Mx M0 oa p := S.mok.fresh hp
  have h0 : H0 p = none := by
    cases q : H0 p with
    | none => rfl
    | some o =>
      have nA : ¬ W.A p := fun z => W.live _ _ S.wi z hp
      rw [S.ext p o nA q] at hp; cases hp
  have cr : Car (Mx M0 oa) (Mx M0 (oaPut oa i p)) H (upd H p ob) := fun b o n h => by
    have hb : b ≠ p := ne_of_none h hp
    refine ⟨fun z => ?_, by rw [upd_ne hb]; exact h⟩
    rcases z with z | ⟨j, z⟩
    · exact n (.inl z)
    · unfold oaPut at z
      by_cases e : j = i
      · rw [if_pos e] at z; exact hb z
      · rw [if_neg e] at z; exact n (.inr ⟨j, z⟩)
  refine S1.setown hi h0 hm (hsl cr) fun j s hj hs => ?_
  exact (S.slot j s hs).car cr fun a xs _ z => by rw [upd_ne (ne_of_none z hp)]; exact z
theorem Sat.newml {K : PySem.W.Frag} {M0 : Addr → Prop} {H0 H : Hp} {oa : Nat → AS} {σ : L2.St} {ds : List Sl} (S : Sat K W M0 H0 oa H σ ds) {i : Nat} (hi : i < ds.length) {p : Addr} (hp : H p = none) {xs : List D} {vs : List V}
    (r : Reps K (Mx M0 oa) H xs vs) : Sat K W M0 H0 (oaPut oa i p) (upd H p (.lst vs)) (σ.set i (some (.ref p))) (ds.set i (.ml xs)) :=
  S.newown hi hp fun c => ⟨p, vs, rfl, rfl, upd_same, r.car c⟩
theorem vs_setNil (i : Nat) {x : Str} {pos' lpos : Pos} (hN : X.N.Nodup) (hi : X.N[i]? = some x := by rfl) (hx : Loc X.env.scope x := by first | exact Or.inl rfl | exact Or.inr rfl) (hs : swapsWith (.List [] lpos) (some (.Name x pos')) pos.line X.env = pure false := by rfl)
    (hf : X.fn x = true ∨ X.env.scope.names.lookup x = some .local := by first | exact .inl rfl | exact .inr rfl | assumption) : VS X W (.Assign [.Name x pos'] (.List [] lpos) pos) (wSetNil i) := by
  refine ps_imp (ps_set hN hi hx (pe_lst pa_nil) hs hf) fun D σ H h => ?_
  obtain ⟨M0, H0, oa, ds, E, S, ⟨hl, hn⟩, k1, k2, k3, k4⟩ := h
  exact ⟨by show 0 ≤ sizeLine; exact Nat.zero_le _, fun p hp => k1 _ _ _ _ hn (S.newml hl hp reps_nil)⟩
def mlS : Sl → (List D → Prop) → Prop
  | .ml xs, P => P xs
  | _, _ => False
def wApp (i : Nat) (w : WE) : WS := fun E ds => mlS (ds.getD i .un) fun xs => w ds fun d => xs.length < 1000000 ∧ E.nx (ds.set i (.ml (xs ++ [d])))
theorem Sat.ml {K : PySem.W.Frag} {M0 : Addr → Prop} {H0 H : Hp} {oa : Nat → AS} {σ : L2.St} {ds : List Sl} (S : Sat K W M0 H0 oa H σ ds) {i : Nat} {P : List D → Prop} (h : mlS (ds.getD i .un) P) :
    ∃ l a xs, ds[i]? = some (.ml l) ∧ P l ∧ oa i = one1 a ∧ σ[i]? = some (some (.ref a)) ∧ H a = some (.lst xs) ∧ Reps K (Mx M0 oa) H l xs := by
  rw [List.getD_eq_getElem?_getD] at h
  cases e : ds[i]? with
  | none => rw [e] at h; exact h.elim
  | some s =>
    rw [e] at h
    cases s with
    | un => exact h.elim
    | d x => exact h.elim
    | md ks l => exact h.elim
    | mi a C ks l => exact h.elim
    | ow t => exact h.elim
    | ml l =>
      obtain ⟨a, xs, e1, e2, e3, r⟩ := S.slot i _ e
      exact ⟨l, a, xs, rfl, h, e1, e2, e3, r⟩
theorem Sat.own_ext {K : PySem.W.Frag} {M0 : Addr → Prop} {H0 H : Hp} {oa : Nat → AS} {σ : L2.St} {ds : List Sl} (S : Sat K W M0 H0 oa H σ ds) {i : Nat} {a : Addr} (ho : oa i a) (φ : Heap → Prop) : H a ≠ some (.ext φ) := S.mnx a φ (.inr ⟨i, ho⟩)
theorem Sat.mutown {K : PySem.W.Frag} {M0 : Addr → Prop} {H0 H : Hp} {oa : Nat → AS} {σ : L2.St} {ds : List Sl} (S : Sat K W M0 H0 oa H σ ds) {i : Nat} {a : Addr} {sl : Sl} {ob : HO} (hl : i < ds.length) (ho : oa i = one1 a)
    (hσ : σ[i]? = some (some (.ref a))) (hsl : Car (Mx M0 oa) (Mx M0 oa) H (upd H a ob) → SlotOk K (Mx M0 oa) (upd H a ob) (one1 a) sl (some (some (.ref a)))) : Sat K W M0 H0 oa (upd H a ob) σ (ds.set i sl) := by
  have ho' : oa i a := by rw [ho]; rfl
  have nA := S.own_nA ho'
  have cr : Car (Mx M0 oa) (Mx M0 oa) H (upd H a ob) := fun b o n h => ⟨n, by rw [upd_ne (fun z => n (by rw [z]; exact .inr ⟨i, ho'⟩))]; exact h⟩
  refine ⟨S.wm, S.live, fun b o n h => ?_, W.stay _ _ S.wi (fun b hb => upd_ne (fun z => nA (by rw [← z]; exact hb))) (fun b φ e => (upd_ne (fun z => S.own_ext ho' φ (by rw [← z]; exact e))).trans e) (fun b o hB e => (upd_ne (fun z => S.bl b hB (by rw [z]; exact (S.ofr i a ho').1))).trans e), S.ofr, S.inj, by simp [S.len], fun j hj => S.out j (by simpa using hj), fun j s h => ?_, S.fm, S.fh, S.bl, S.nc, S.nx⟩
  · have hb : b ≠ a := fun z => by rw [z, (S.ofr i a ho').1] at h; cases h
    rw [upd_ne hb]
    exact S.ext b o n h
  · by_cases e : j = i
    · subst e
      rw [List.getElem?_set_self hl] at h
      cases h
      rw [ho, hσ]
      exact hsl cr
    · rw [List.getElem?_set_ne (Ne.symm e)] at h
      exact (S.slot j s h).car cr fun b ys h1 h2 => by
        rw [upd_ne (fun z => e (S.inj j i a (by rw [← z]; exact h1) ho'))]
        exact h2
theorem Sat.mut {K : PySem.W.Frag} {M0 : Addr → Prop} {H0 H : Hp} {oa : Nat → AS} {σ : L2.St} {ds : List Sl} (S : Sat K W M0 H0 oa H σ ds) {i : Nat} {a : Addr} {l l' : List D} {xs' : List V} (hi : ds[i]? = some (.ml l)) (ho : oa i = one1 a)
    (hσ : σ[i]? = some (some (.ref a))) (r : Reps K (Mx M0 oa) H l' xs') : Sat K W M0 H0 oa (upd H a (.lst xs')) σ (ds.set i (.ml l')) :=
  S.mutown (List.getElem?_eq_some_iff.mp hi).1 ho hσ fun c => ⟨a, xs', rfl, rfl, upd_same, r.car c⟩
theorem vs_app (i : Nat) {x : Str} {w : WE} {p apos cpos : Pos} (he : VE X W e w) (hN : X.N[i]? = some x := by rfl) (hv : Vis X.env.scope x := by first | exact Or.inl rfl | exact Or.inr (Or.inl rfl) | exact Or.inr (Or.inr rfl))
    (hd : (x == ("__debug__" : Str)) = false := by decide) (hcd : (x == ("__classdict__" : Str)) = false := by decide)
    (hbase : attributeBase (.Name x p) "append" X.env (eval (.Name x p) X.env) = eval (.Name x p) X.env := by rfl)
    (hfew : ((backTo cpos (starEach [e] X.env)).all (fun x => !x.1) && (backToKw cpos (keywordEach [] X.env)).all (fun x => x.1.isSome)
      && decide (([e] : List Expr).length + ([] : List Keyword).length + (if ([] : List Keyword).isEmpty then 0 else 1) < 30)) = true := by rfl)
    (hline : (apos.endLine == cpos.line) = true := by rfl) (hs : starEach [e] X.env = (false, eval e X.env) :: starEach [] X.env := by rfl) (hplain : (backTo cpos (starEach [] X.env)).any (·.1) = false := by rfl)
    (hsw : swapsWith (.Call (.Attribute (.Name x p) "append" apos) [e] [] cpos) none pos.line X.env = pure false := by rfl) :
    VS X W (.Expr (.Call (.Attribute (.Name x p) "append" apos) [e] [] cpos) pos) (wApp i w) := by
  refine ps_imp (ps_expr (pe_bm PySem.F.plainAttrs_list PySem.F.slot_list_append PySem.F.type_list_append mt_append (pe_var hN hv hd hcd) (pa_cons he pa_nil hs) hbase hfew hline hs hplain) hsw) fun D σ H h => ?_
  obtain ⟨M0, H0, oa, ds, E, S, hw, k1, k2, k3, k4⟩ := h
  obtain ⟨l, a, xs, g1, hw, g2, g3, g4, g5⟩ := S.ml hw
  refine ⟨.ref a, g3, .inl ⟨rfl, _, SqL.of g4⟩, ⟨M0, H0, oa, ds, _, S, hw, fun d v H1 hd e1 i1 r1 => ?_⟩⟩
  have S1 := S.step e1 i1
  have h1 : H1 a = some (.lst xs) := e1 a _ (S.own_nA (i := i) (by rw [g2]; rfl)) g4
  refine ⟨a, xs, v, rfl, rfl, h1, ?_, ?_⟩
  · have q := hd.1
    rw [← g5.len] at q
    rw [sizeLine_eq]
    omega
  · exact k1 _ _ _ _ hd.2 (S1.mut g1 g2 g3 ((g5.ext S.mok e1).app (reps_cons r1 reps_nil)))
def wRet (w : WE) : WS := fun E ds => w ds E.rt
theorem vs_ret {w : WE} (he : VE X W e w) : VS X W (.Return (some e) pos) (wRet w) := by
  refine ps_imp (ps_ret he) fun D σ H h => ?_
  obtain ⟨M0, H0, oa, ds, E, S, hw, k1, k2, k3, k4⟩ := h
  exact ⟨M0, H0, oa, ds, _, S, hw, fun d v H1 hd e1 i1 r1 => k2 d v H1 hd (S.ext.trans e1) i1 r1.out⟩
def wIfS (t : WT) (a b : WS) : WS := fun E ds => t ds fun c => if c = true then a E ds else b E ds
theorem vs_if {t : WT} {a b : WS} (hc : VT X W c t) (ha : VSs X W body a) (hb : VSs X W body2 b) : VS X W (.If c body body2 pos) (wIfS t a b) := by
  refine ps_imp (ps_if hc ha hb) fun D σ H h => ?_
  obtain ⟨M0, H0, oa, ds, E, S, hw, k⟩ := h
  refine ⟨M0, H0, oa, ds, _, S, hw, fun d H1 hd e1 i1 => ?_⟩
  cases d with
  | true => exact ⟨M0, H0, oa, ds, E, S.step e1 i1, hd, k⟩
  | false => exact ⟨M0, H0, oa, ds, E, S.step e1 i1, hd, k⟩
def wWhile (t : WT) (b : WS) : WS := fun E ds => ∃ Iv : Nat → List Sl → Prop, (∃ m, Iv m ds) ∧ ∀ m ds, Iv m ds → t ds fun c => if c = true then b { E with nx := fun ds' => ∃ m', m' < m ∧ Iv m' ds', ct := fun ds' => ∃ m', m' < m ∧ Iv m' ds', bk := E.nx } ds else E.nx ds
theorem vs_while {t : WT} {b : WS} (hp : PassesOwn (model X.prog X.w) X.A X.env X.xe) (hc : VT X W c t) (hb : VSs X W body b) : VS X W (.While c body [] pos) (wWhile t b) := by
  refine ps_imp (ps_while hp hc hb) fun D σ H h => ?_
  obtain ⟨M0, H0, oa, ds, E, S, ⟨Iv, ⟨m0, h0⟩, turn⟩, k1, k2, k3, k4⟩ := h
  refine ⟨fun m σ H => ∃ oa ds, Iv m ds ∧ Sat X.K W M0 H0 oa H σ ds, ⟨m0, oa, ds, h0, S⟩, ?_⟩
  rintro m σ1 H1 ⟨oa1, ds1, hi, S1⟩
  refine ⟨M0, H0, oa1, ds1, _, S1, turn m ds1 hi, fun c H2 hc e2 i2 => ?_⟩
  have S2 := S1.step e2 i2
  cases c with
  | true =>
    refine ⟨fun σ' H' => ∃ m', m' < m ∧ ∃ oa ds, Iv m' ds ∧ Sat X.K W M0 H0 oa H' σ' ds, fun σ' H' h => h, ?_⟩
    refine ⟨M0, H0, oa1, ds1, _, S2, hc, ?_, k2, ?_, ?_⟩
    · rintro ds' oa' σ' H' ⟨m', hm, hi'⟩ S'
      exact ⟨m', hm, oa', ds', hi', S'⟩
    · intro ds' oa' σ' H' hn S'
      exact k1 ds' oa' σ' H' hn S'
    · refine ⟨?_, k4.2⟩
      rintro ds' oa' σ' H' ⟨m', hm, hi'⟩ S'
      exact ⟨m', hm, oa', ds', hi', S'⟩
  | false => exact k1 _ _ _ _ hc S2
def wPar (i j : Nat) (wa wb : WE) : WS := fun E ds => wa ds fun x => wb ds fun y => E.nx ((ds.set i (.d x)).set j (.d y))
theorem vs_par (i j : Nat) {x y : Str} {a b : Expr} {wa wb : WE} {px py pt : Pos} {kt k2 pt2} (hc : X.calm = true) (hN : X.N.Nodup) (hij : i ≠ j) (ha : VE X W a wa) (hb : VE X W b wb) (hi : X.N[i]? = some x := by rfl) (hj : X.N[j]? = some y := by rfl)
    (hx : X.env.scope.names.lookup x = some .local := by rfl) (hy : X.env.scope.names.lookup y = some .local := by rfl)
    (hw : swappedStores [.Tuple [.Name x px, .Name y py] kt pt] (.Tuple [a, b] k2 pt2) X.env = pure (some [x, y]) := by rfl)
    (hs : swapsWithSole [.Tuple [.Name x px, .Name y py] kt pt] (.Tuple [a, b] k2 pt2) pos.line X.env = pure false := by rfl) (hs1 : starEach [a, b] X.env = (false, eval a X.env) :: starEach [b] X.env := by rfl) (hs2 : starEach [b] X.env = (false, eval b X.env) :: starEach [] X.env := by rfl) :
    VS X W (.Assign [.Tuple [.Name x px, .Name y py] kt pt] (.Tuple [a, b] k2 pt2) pos) (wPar i j wa wb) := by
  refine ps_imp (ps_par hc hN hi hj hij hx hy (pa_cons ha (pa_cons hb pa_nil hs2) hs1) hw hs) fun D σ H h => ?_
  obtain ⟨M0, H0, oa, ds, E, S, hw, k1, k2, k3, k4⟩ := h
  refine ⟨M0, H0, oa, ds, _, S, hw, fun d v H1 hd e1 i1 r1 => ?_⟩
  have S1 := S.step e1 i1
  refine ⟨M0, H0, oa, ds, _, S1, hd, fun d2 v2 H2 hd2 e2 i2 r2 => ?_⟩
  have S2 := S1.step e2 i2
  have S3 := S2.set (i := i) (r1.ext S1.mok e2)
  exact ⟨v, v2, rfl, k1 _ _ _ _ hd2 (S3.set (i := j) (r2.car car_del))⟩
def startD (N : List Str) (ds : List D) : List Sl := ds.map Sl.d ++ List.replicate (N.length - ds.length) .un
def endsD (P : D → Prop) : EndsD := { nx := fun _ => P .non, rt := P }
end
theorem startD_get {N : List Str} {ds : List D} {i : Nat} {s : Sl} (h : (startD N ds)[i]? = some s) : s = .un ∨ ∃ x, ds[i]? = some x ∧ s = .d x := by
  unfold startD at h
  by_cases hi : i < ds.length
  · rw [List.getElem?_append_left (by simpa using hi), List.getElem?_map] at h
    cases e : ds[i]? with
    | none => rw [e] at h; cases h
    | some x => rw [e] at h; cases h; exact .inr ⟨x, rfl, rfl⟩
  · rw [List.getElem?_append_right (by simpa using hi), List.getElem?_replicate] at h
    split at h
    · cases h; exact .inl rfl
    · cases h
def Wd.pl (W : Wd) : Wd := { A := W.A, I := W.I, live := W.live, nx := W.nx, B := W.B, liveB := W.liveB, C := W.C, cb := W.cb, stay := W.stay }
theorem sat_start {K : PySem.W.Frag} {W : Wd} {M : Addr → Prop} {H : Hp} {N : List Str} {ds : List D} {vs : List V} (m : MOk W M H) (r : Reps K M H ds vs) (hl : ds.length ≤ N.length) (hm : ∀ a, W.Mf a → M a) (hh : Ext W W.Hf H) : Sat K W M H (fun _ => no1) H (L2.start N vs) (startD N ds) := by
  refine ⟨m.wm, m.live, Ext.refl H, m.wi, fun i a h => h.elim, fun i j a h => h.elim, ?_, fun i _ => rfl, fun i s h => ?_, hm, hh, fun a h => W.liveB _ _ m.wi h, m.nb, m.nx⟩
  · unfold startD L2.start
    simp [r.len]
  · rcases startD_get h with e | ⟨x, hx, e⟩
    · subst e; rfl
    · subst e
      obtain ⟨v, hv, rv⟩ := r.get hx
      refine ⟨rfl, v, ?_, rv.car fun b o n q => ⟨fun z => n (z.elim id fun ⟨_, z⟩ => z.elim), q⟩⟩
      have hi : i < vs.length := (List.getElem?_eq_some_iff.mp hv).1
      unfold L2.start
      rw [List.getElem?_append_left (by simpa using hi), List.getElem?_map, hv]
      rfl
theorem vfn {P : Program} {w : World} {K : PySem.W.Frag} {mg : Str → Option Value} {base : Heap} {W : Wd} {x qual : Str} {st : Stmt} {f : Addr} {fd : FuncData} {N ps : List Str} {k : Nat} {g : List D → (D → Prop) → Prop} (F : Fun K x qual st f fd) (S : FnScope N ps (defScope st))
    (len : ∀ ds P, g ds P → ds.length = ps.length)
    (hb : ∃ wb : WS, (∀ (cdv : Value) (A : Around) (outer : List Env) (s : Shared) (H : Hp) (E : XK), Room k (A.deeper (envOfC qual (defScope st) s.heap.objs.size f cdv)) → VSs (cxOf CX0 P w K mg base N qual (defScope st) f cdv A outer s H E).nox W.pl (defBody st) wb) ∧
      ∀ ds Q, g ds Q → wb (endsD Q) (startD N ds)) : FnOk P w K mg base CX0 (k + 1) f fd ps (spD K W g) := by
  obtain ⟨wb, h1, h2⟩ := hb
  refine F.ok S (fun vs H Q E h => ?_) (fun cdv A outer s H vs Q E hr h => ⟨LS K W.pl wb, h1 cdv A outer s H E hr, ?_⟩)
  · obtain ⟨M, ds, P, m, r, hg, _⟩ := h
    rw [r.len, len ds P hg]
  · obtain ⟨M, ds, P, m, r, hg, k⟩ := h
    have hl : ds.length ≤ N.length := by
      have q := congrArg List.length S.pre
      rw [List.length_take] at q
      rw [len ds P hg]
      omega
    refine ⟨M, H, fun _ => no1, startD N ds, endsD P, sat_start (W := W.pl) ⟨m.wm, m.live, m.wi, m.nb, m.nx⟩ r hl (fun _ z => z.elim) (fun _ _ _ z => by cases z), h2 ds P hg, fun ds' oa' σ' H' hn S' => ?_, fun d v H' hd e i r' => k d v H' hd e i r', fun _ _ _ _ z => z.elim, fun _ _ _ _ z => z.elim, fun _ _ _ _ _ _ z => z.elim⟩
    exact k .non .non H' hn S'.ext S'.wi rep_non
end VL
set_option Elab.async false
set_option linter.all false
set_option maxRecDepth 100000
set_option maxHeartbeats 2000000
namespace VL
open PySem PySem.Spec PyProof.Rows L2
abbrev WI := List Sl → (List D → Prop) → Prop
def ItOk (K : PySem.W.Frag) (W : Wd) (M : Addr → Prop) (H1 : Hp) (J : It) (items : List D) : Prop := ∀ M2 H2, Car M M2 H1 H2 → MOk W M2 H2 →
  (∀ i, i < items.length → J.go i H2) ∧ (∀ i, items.length ≤ i → i ≤ items.length → J.stop i H2) ∧ ∀ i d x H3, items[i]? = some d → J.yld i H2 x H3 → Full H2 H3 ∧ Rep K M2 H3 d x
def LI (K : PySem.W.Frag) (W : Wd) (w : WI) : TI := fun σ H R => ∃ M0 H0 oa ds P, Sat K W M0 H0 oa H σ ds ∧ w ds P ∧ ∀ items J H', P items → items.length ≤ sizeLine → Ext W H H' → W.I H' → ItOk K W (Mx M0 oa) H' J items → R J H'
abbrev VI (X : Cx) (W : Wd) (tg iter : Expr) (w : WI) : Prop := PI X tg iter (LI X.K W w)
section
variable {X : Cx} {tg e : Expr}
theorem pi_imp {iter : Expr} {t t' : TI} (h : PI X tg iter t) (f : ∀ σ H R, t' σ H R → t σ H R) : PI X tg iter t' := ⟨fun pins s σ H R I hw => h.run pins s σ H R I (f σ H R hw)⟩
def iAny (K : PySem.W.Frag) (tl : TE) : TI := fun σ H R => tl σ H fun x H1 => (∃ a xs, x = .ref a ∧ SqL K H1 a xs ∧ (xs.length ≤ sizeLine → R (Itl K a) H1)) ∨ (∃ a xs, x = .ref a ∧ SqT K H1 a xs ∧ (xs.length ≤ sizeLine → R (Itt K a) H1)) ∨ ∃ z, x = .str z ∧ R (Its z) H1
theorem pi_any {tl : TE} (hl : PE X e tl) : PI X tg e (iAny X.K tl) := by
  refine ⟨fun pins s σ H R I h => ?_⟩
  refine thn (hl.run pins s σ H _ I h) fun v s1 ⟨x, H1, I1, r1, q1⟩ => ?_
  rcases q1 with ⟨a, xs, e, hq, q⟩ | ⟨a, xs, e, hq, q⟩ | ⟨x, ex, q⟩
  · subst e
    cases r1
    obtain ⟨its, rv, p, hz⟩ := I1.list hq
    refine wpAny_pyIter_list p.isList ?_
    refine ⟨s1.heap.objs.size, [s1.heap.objs.size], _, _, H1, rfl, I1.kept (t' := s1.toks) fun b o e => Heap.get?_push_of_some _ e, turn_list a _, ⟨_, Heap.get?_push_size _ rfl, rfl, rfl⟩, fun b hb => ?_, q hz⟩
    have e : b = s1.heap.objs.size := by simpa using hb
    subst e
    exact I1.fpOk (Nat.le_refl _) (I1.hok.fresh (Nat.le_refl _))
  · subst e
    cases r1
    obtain ⟨its, rv, p, hz⟩ := I1.tuple hq
    refine wpAny_pyIter_tuple (show s1.heap.IsTuple a its.toArray from p) ?_
    refine ⟨s1.heap.objs.size, [s1.heap.objs.size], _, _, H1, rfl, I1.kept (t' := s1.toks) fun b o e => Heap.get?_push_of_some _ e, turn_tuple a _, ⟨_, Heap.get?_push_size _ rfl, rfl, rfl⟩, fun b hb => ?_, q hz⟩
    have e : b = s1.heap.objs.size := by simpa using hb
    subst e
    exact I1.fpOk (Nat.le_refl _) (I1.hok.fresh (Nat.le_refl _))
  · subst ex
    obtain ⟨t, rfl⟩ := r1
    cases ha : x.cps.all (· < 128)
    · exact wpAny_pyIter_wide ha (pi_one (tk := s1.toks) I1 _ (turn_str _ x t "str_iterator" (.inr rfl)) ⟨_, Heap.get?_push_size _ rfl, rfl, rfl⟩ q)
    · exact wpAny_pyIter_ascii ha (pi_one (tk := s1.toks) I1 _ (turn_str _ x t "str_ascii_iterator" (.inl rfl)) ⟨_, Heap.get?_push_size _ rfl, rfl, rfl⟩ q)
end
section
variable {K : PySem.W.Frag} {W : Wd} {M : Addr → Prop} {H1 : Hp}
theorem get_lt {α : Type} {xs : List α} {i : Nat} (h : i < xs.length) : ∃ x, xs[i]? = some x := ⟨xs[i], by simp [h]⟩
theorem itok_t {a : Addr} {xs : List V} {ds : List D} (t : TupM K M H1 a xs) (r : Reps K M H1 ds xs) : ItOk K W M H1 (Itt K a) ds := fun M2 H2 c m => by
  have t2 := (t.car c).sq
  refine ⟨fun i hi => ?_, fun i hi _ => ⟨xs, t2, by rw [r.len]; exact hi⟩, fun i d x H3 hd hy => ?_⟩
  · obtain ⟨x, hx⟩ := get_lt (xs := xs) (i := i) (by rw [r.len]; exact hi)
    exact ⟨xs, x, t2, hx⟩
  · obtain ⟨e, hy⟩ := hy
    subst e
    obtain ⟨v, hv, rv⟩ := r.get hd
    have := hy xs t2
    rw [hv] at this
    cases this
    exact ⟨Full.refl _, rv.car c⟩
def sgns (z : Str) : List D := z.cps.toList.map fun c => D.str ⟨#[c]⟩
theorem itok_s {z : Str} : ItOk K W M H1 (Its z) (sgns z) := fun M2 H2 c' m => by
  have hl : (sgns z).length = z.cps.size := by simp [sgns]
  refine ⟨fun i hi => by rw [hl] at hi; exact hi, fun i hi _ => by rw [hl] at hi; exact hi, fun i d x H3 hd hy => ?_⟩
  obtain ⟨e, c, hc, ex⟩ := hy
  subst e ex
  unfold sgns at hd
  rw [List.getElem?_map] at hd
  have : z.cps.toList[i]? = some c := by simpa using hc
  rw [this] at hd
  cases hd
  exact ⟨Full.refl _, rep_str⟩
def itsD : D → (List D → Prop) → Prop
  | .tup xs, P => P xs
  | .lst xs, P => P xs
  | .str z, P => z.length ≤ sizeLine ∧ P (sgns z)
  | _, _ => False
def wIts (w : WE) : WI := fun ds P => w ds fun d => itsD d P
theorem vi_its {X : Cx} {tg e : Expr} {w : WE} (h : VE X W e w) : VI X W tg e (wIts w) := by
  refine pi_imp (pi_any h) fun σ H R h => ?_
  obtain ⟨M0, H0, oa, ds, P, S, hw, k⟩ := h
  refine ⟨M0, H0, oa, ds, _, S, hw, fun d v H1 hd e1 i1 r1 => ?_⟩
  cases d with
  | tup xs =>
    obtain ⟨a, vs, rfl, t, r⟩ := r1.tup
    exact .inr (.inl ⟨a, vs, rfl, t.sq, fun hz => k xs _ H1 hd (by rw [← r.len]; exact hz) e1 i1 (itok_t t r)⟩)
  | lst xs =>
    obtain ⟨a, vs, rfl, t, r⟩ := r1.lst
    refine .inl ⟨a, vs, rfl, t.sq, fun hz => k xs _ H1 hd (by rw [← r.len]; exact hz) e1 i1 ?_⟩
    intro M2 H2 c m
    have t2 := (t.car c).sq
    refine ⟨fun i hi => ?_, fun i hi _ => ⟨vs, t2, by rw [r.len]; exact hi⟩, fun i d x H3 hd hy => ?_⟩
    · obtain ⟨x, hx⟩ := get_lt (xs := vs) (i := i) (by rw [r.len]; exact hi)
      exact ⟨vs, x, t2, hx⟩
    · obtain ⟨e, hy⟩ := hy
      subst e
      obtain ⟨v, hv, rv⟩ := r.get hd
      have := hy vs t2
      rw [hv] at this
      cases this
      exact ⟨Full.refl _, rv.car c⟩
  | str z => exact .inr (.inr ⟨z, r1.str, k _ _ H1 hd.2 (by simpa [sgns, Str.length] using hd.1) e1 i1 itok_s⟩)
  | _ => exact hd.elim
def rngD (lo : Int) (n : Nat) : List D := (List.range n).map fun (i : Nat) => D.int (lo + (i : Int))
theorem itok_r {lo : Int} {n : Nat} : ItOk K W M H1 (Itr lo n) (rngD lo n) := fun M2 H2 c m => by
  have hl : (rngD lo n).length = n := by simp [rngD]
  refine ⟨fun i hi => by rw [hl] at hi; exact hi, fun i hi _ => by rw [hl] at hi; exact hi, fun i d x H3 hd hy => ?_⟩
  obtain ⟨e, ex⟩ := hy
  subst e ex
  unfold rngD at hd
  rw [List.getElem?_map] at hd
  cases q : (List.range n)[i]? with
  | none => rw [q] at hd; cases hd
  | some j =>
    rw [q] at hd
    have hj := (List.getElem?_eq_some_iff.mp q)
    obtain ⟨_, hj⟩ := hj
    rw [List.getElem_range] at hj
    subst hj
    cases hd
    exact ⟨Full.refl _, rep_int⟩
def rng1 : List D → (List D → Prop) → Prop
  | [.int j], P => -1000000 ≤ j ∧ j ≤ 1000000 ∧ P (rngD 0 j.toNat)
  | _, _ => False
def wRng1 (w : WE) : WI := fun ds P => w ds fun x => rng1 [x] P
theorem vi_range1 {X : Cx} {tg a : Expr} {w : WE} {p pos : Pos} (hg : Gl X "range") (hm : X.mg "range" = none) (ha : VE X W a w) (hs : starEach [a] X.env = [(false, eval a X.env)] := by rfl) (hs1 : starEach [a] X.env = (false, eval a X.env) :: starEach [] X.env := by rfl) : VI X W tg (.Call (.Name "range" p) [a] [] pos) (wRng1 w) := by
  refine pi_imp (pi_range1 hg hm (pa_cons ha pa_nil hs1) hs) fun σ H R h => ?_
  obtain ⟨M0, H0, oa, ds, P, S, hw, k⟩ := h
  refine ⟨M0, H0, oa, ds, _, S, hw, fun d v H1 hd e1 i1 r1 => ?_⟩
  cases d <;> first | exact hd.elim | skip
  rename_i j
  obtain ⟨h0, h1, hd⟩ := hd
  have e := r1.int
  subst e
  refine ⟨j, rfl, by omega, by omega, k _ _ H1 hd ?_ e1 i1 itok_r⟩
  rw [show (rngD 0 j.toNat).length = j.toNat by simp [rngD], sizeLine_eq]
  omega
def zipsD (xs ys : List D) : List D := (xs.zip ys).map fun p => D.tup [p.1, p.2]
theorem zips_get {xs ys : List D} {i : Nat} {d : D} (h : (zipsD xs ys)[i]? = some d) : ∃ x y, xs[i]? = some x ∧ ys[i]? = some y ∧ d = .tup [x, y] := by
  unfold zipsD at h
  rw [List.getElem?_map] at h
  cases q : (xs.zip ys)[i]? with
  | none => rw [q] at h; cases h
  | some p =>
    rw [q] at h
    cases h
    obtain ⟨x, y⟩ := p
    rw [List.getElem?_zip_eq_some] at q
    exact ⟨x, y, q.1, q.2, rfl⟩
theorem zips_len (xs ys : List D) : (zipsD xs ys).length = min xs.length ys.length := by simp [zipsD]
end
abbrev WG := D → List Sl → (List Sl → Prop) → Prop
def LG (K : PySem.W.Frag) (W : Wd) (vs : List Nat) (w : WG) : TG := fun v σ H Q => ∃ M0 H0 oa ds d P, Sat K W M0 H0 oa H σ ds ∧ Rep K (Mx M0 oa) H d v ∧ w d ds P ∧
  ∀ ds' oa' σ', P ds' → Sat K W M0 H0 oa' H σ' ds' → wipe σ' vs = wipe σ vs → (∀ j a, oa' j a → oa j a) → (∀ j, j ∉ vs → oa' j = oa j) → Q σ' H
abbrev VG (X : Cx) (W : Wd) (vs : List Nat) (tg : Expr) (w : WG) : Prop := PG X tg (LG X.K W vs w)
theorem wipe_get (σ : L2.St) (i : Nat) : ∀ vs : List Nat, (wipe σ vs)[i]? = if i ∈ vs then (if i < σ.length then some none else none) else σ[i]?
  | [] => by simp [wipe]
  | v :: vs => by
    unfold wipe
    have ih := wipe_get σ i vs
    by_cases e : v = i
    · subst e
      by_cases hl : v < σ.length
      · rw [List.getElem?_set_self (by rw [wipe_length]; exact hl)]
        simp [hl]
      · rw [List.getElem?_eq_none (by simp [wipe_length]; omega)]
        simp [hl]
    · rw [List.getElem?_set_ne e, ih]
      have : (i ∈ v :: vs) ↔ i ∈ vs := by simp [Ne.symm e]
      simp only [this]
theorem wipe_wipe (σ : L2.St) (vs : List Nat) : wipe (wipe σ vs) vs = wipe σ vs := by
  apply List.ext_getElem?
  intro j
  rw [wipe_get, wipe_get, wipe_length]
  by_cases hj : j ∈ vs
  · simp [hj]
  · simp [hj]
theorem wipe_set {σ : L2.St} {i : Nat} {v : Option V} {vs : List Nat} (h : i ∈ vs) : wipe (σ.set i v) vs = wipe σ vs := by
  apply List.ext_getElem?
  intro j
  rw [wipe_get, wipe_get]
  by_cases hj : j ∈ vs
  · simp [hj]
  · have : i ≠ j := fun e => hj (e ▸ h)
    simp [hj, List.getElem?_set_ne this]
section
variable {X : Cx} {W : Wd} {pos : Pos} {vs : List Nat}
theorem pg_imp {tg : Expr} {t t' : TG} (h : PG X tg t) (f : ∀ v σ H Q, t' v σ H Q → t v σ H Q) : PG X tg t' := ⟨fun pins s σ H v u Q I r hw => h.run pins s σ H v u Q I r (f v σ H Q hw)⟩
theorem pgs_imp {tg : List Expr} {t t' : TGs} (h : PGs X tg t) (f : ∀ v σ H Q, t' v σ H Q → t v σ H Q) : PGs X tg t' := ⟨fun pins s σ H v u Q I r hw => h.run pins s σ H v u Q I r (f v σ H Q hw)⟩
def wgName (i : Nat) : WG := fun d ds P => P (ds.set i (.d d))
theorem vg_name (i : Nat) {x : Str} (hN : X.N.Nodup) (hv : i ∈ vs) (hi : X.N[i]? = some x := by rfl) (hx : Loc X.env.scope x := by first | exact Or.inl rfl | exact Or.inr rfl) (hf : X.fn x = true ∨ X.env.scope.names.lookup x = some .local := by first | exact .inl rfl | exact .inr rfl | assumption) :
    VG X W vs (.Name x pos) (wgName i) := by
  refine pg_imp (pg_name hN hi hx hf) fun v σ H Q h => ?_
  obtain ⟨M0, H0, oa, ds, d, P, S, r, hw, k⟩ := h
  refine k _ _ _ hw (S.set r) (wipe_set hv) (fun j a z => (oaDel_some z).2) fun j hj => ?_
  unfold oaDel
  rw [if_neg (fun e => hj (by rw [e]; exact hv))]
abbrev WGs := List D → List Sl → (List Sl → Prop) → Prop
def LGs (K : PySem.W.Frag) (W : Wd) (vs : List Nat) (w : WGs) : TGs := fun us σ H Q => ∃ M0 H0 oa ds xs P, Sat K W M0 H0 oa H σ ds ∧ Reps K (Mx M0 oa) H xs us ∧ w xs ds P ∧
  ∀ ds' oa' σ', P ds' → Sat K W M0 H0 oa' H σ' ds' → wipe σ' vs = wipe σ vs → (∀ j a, oa' j a → oa j a) → (∀ j, j ∉ vs → oa' j = oa j) → Q σ' H
def wgNil : WGs := fun xs ds P => match xs with
  | [] => P ds
  | _ => False
def wgCons (w : WG) (u : WGs) : WGs := fun xs ds P => match xs with
  | x :: r => w x ds fun ds' => u r ds' P
  | _ => False
theorem vgs_nil : PGs X [] (LGs X.K W vs wgNil) := pgs_imp pgs_nil fun us σ H Q ⟨M0, H0, oa, ds, xs, P, S, r, hw, k⟩ => by
  cases xs with
  | nil => exact ⟨r.inv0, k ds oa σ hw S rfl (fun _ _ h => h) fun _ _ => rfl⟩
  | cons x xs => exact hw.elim
theorem mx_le {M0 : Addr → Prop} {oa oa' : Nat → AS} (h : ∀ j a, oa' j a → oa j a) {H : Hp} : Car (Mx M0 oa) (Mx M0 oa') H H := fun b o n q => ⟨fun z => n (z.elim .inl fun ⟨j, z⟩ => .inr ⟨j, h j b z⟩), q⟩
theorem vgs_cons {e : Expr} {es : List Expr} {w : WG} {u : WGs} (h1 : VG X W vs e w) (h2 : PGs X es (LGs X.K W vs u)) (hs : (assignEach (e :: es) X.env).map (·.2) = assign e X.env :: (assignEach es X.env).map (·.2) := by rfl) :
    PGs X (e :: es) (LGs X.K W vs (wgCons w u)) := by
  refine pgs_imp (pgs_cons h1 h2 hs) fun us σ H Q h => ?_
  obtain ⟨M0, H0, oa, ds, xs, P, S, r, hw, k⟩ := h
  cases xs with
  | nil => exact hw.elim
  | cons x xs =>
    obtain ⟨v, vr, rfl, r1, r2⟩ := r.inv
    refine ⟨v, vr, rfl, M0, H0, oa, ds, x, _, S, r1, hw, fun ds' oa' σ' hp S' hwi hsub hout => ?_⟩
    exact ⟨M0, H0, oa', ds', xs, P, S', r2.car (mx_le hsub), hp, fun ds2 oa2 σ2 hq S2 hw2 hs2 ho2 => k ds2 oa2 σ2 hq S2 (hw2.trans hwi) (fun j a z => hsub j a (hs2 j a z)) fun j hj => (ho2 j hj).trans (hout j hj)⟩
def wgTup (n : Nat) (u : WGs) : WG := fun d ds P => match d with
  | .tup xs => xs.length = n ∧ u xs ds P
  | .lst xs => xs.length = n ∧ u xs ds P
  | _ => False
theorem PG.or' {tg : Expr} {t t' : TG} (h : PG X tg t) (h' : PG X tg t') : PG X tg (fun v σ H Q => t v σ H Q ∨ t' v σ H Q) := ⟨fun pins s σ H v u Q I r hw => hw.elim (h.run pins s σ H v u Q I r) (h'.run pins s σ H v u Q I r)⟩
theorem vg_tup {es : List Expr} {k : Nat} {u : WGs} {n : Nat} (hc : X.calm = true) (h : PGs X es (LGs X.K W vs u)) (hn : (assignEach es X.env).length = n := by rfl) (hst : (assignEach es X.env).findIdx? (·.1) = none := by rfl) : VG X W vs (.Tuple es k pos) (wgTup n u) := by
  refine pg_imp (PG.or' (pg_tup hc h hn hst) (pg_unl hc h hn hst)) fun v σ H Q h => ?_
  obtain ⟨M0, H0, oa, ds, d, P, S, r, hw, kk⟩ := h
  cases d <;> first | exact hw.elim | skip
  · rename_i xs
    obtain ⟨a, ys, rfl, t, r2⟩ := r.tup
    exact .inl ⟨a, ys, rfl, t.sq, by rw [r2.len]; exact hw.1, M0, H0, oa, ds, xs, P, S, r2, hw.2, kk⟩
  · rename_i xs
    obtain ⟨a, ys, rfl, t, r2⟩ := r.lst
    exact .inr ⟨a, ys, rfl, t.sq, by rw [r2.len]; exact hw.1, M0, H0, oa, ds, xs, P, S, r2, hw.2, kk⟩
def wAsg (w : WE) (g : WG) : WS := fun E ds => w ds fun d => g d ds E.nx
theorem vs_asg {tg e : Expr} {w : WE} {g : WG} (he : VE X W e w) (hg : VG X W vs tg g) (hs : swapsWithSole [tg] e pos.line X.env = pure false := by rfl) (hw : swappedStores [tg] e X.env = pure none := by rfl)
    (h1 : (assignEach [tg] X.env).map (·.2) = [assign tg X.env] := by rfl) : VS X W (.Assign [tg] e pos) (wAsg w g) := by
  refine ps_imp (ps_asg he hg hs hw h1) fun D σ H h => ?_
  obtain ⟨M0, H0, oa, ds, E, S, hw, k1, k2, k3, k4⟩ := h
  refine ⟨M0, H0, oa, ds, _, S, hw, fun d v H1 hd e1 i1 r1 => ?_⟩
  exact ⟨M0, H0, oa, ds, d, _, S.step e1 i1, r1, hd, fun ds' oa' σ' hp S' _ _ _ => k1 ds' oa' σ' H1 hp S'⟩
noncomputable def base (oa : Nat → AS) (H : Hp) : Hp := fun b => open Classical in if ∃ i, oa i b then none else H b
theorem base_own {oa : Nat → AS} {H : Hp} {b : Addr} (h : ∃ i, oa i b) : base oa H b = none := by unfold base; rw [if_pos h]
theorem base_not {oa : Nat → AS} {H : Hp} {b : Addr} (h : ¬ ∃ i, oa i b) : base oa H b = H b := by unfold base; rw [if_neg h]
variable {K : PySem.W.Frag} {M0 : Addr → Prop} {H0 H H' : Hp} {oa oa' : Nat → AS} {σ σ' : L2.St} {ds ds' : List Sl}
theorem Sat.ext_base (S : Sat K W M0 H0 oa H σ ds) : Ext W H0 (base oa H) := fun b o n h => by
  rw [base_not (fun ⟨i, z⟩ => by rw [(S.ofr i b z).1] at h; cases h)]
  exact S.ext b o n h
theorem Sat.rebase (S : Sat K W M0 H0 oa H σ ds) : Sat K W M0 (base oa H) oa H σ ds := by
  refine ⟨S.wm, fun a h => ?_, fun b o n h => ?_, S.wi, fun i a h => ⟨base_own ⟨i, h⟩, (S.ofr i a h).2⟩, S.inj, S.len, S.out, S.slot, S.fm, S.fh.trans S.ext_base, fun a h => by rw [base_not (fun ⟨i, z⟩ => S.bl a h (S.ofr i a z).1)]; exact W.liveB _ _ S.wi h, S.nc, fun a φ h => by rw [base_not (fun ⟨i, z⟩ => (S.ofr i a z).2 h)]; exact S.mnx a φ (.inl h)⟩
  · rw [base_not (fun ⟨i, z⟩ => (S.ofr i a z).2 h)]
    exact S.mok.live a (.inl h)
  · by_cases q : ∃ i, oa i b
    · rw [base_own q] at h; cases h
    · rw [base_not q] at h; exact h
theorem Sat.unbase (S : Sat K W M0 H0 oa H σ ds) (S' : Sat K W M0 (base oa H) oa' H' σ' ds') : Sat K W M0 H0 oa' H' σ' ds' := by
  refine ⟨S.wm, S.live, S.ext_base.trans S'.ext, S'.wi, fun i a h => ⟨?_, (S'.ofr i a h).2⟩, S'.inj, S'.len, S'.out, S'.slot, S.fm, S.fh, S.bl, S.nc, S.nx⟩
  have q := (S'.ofr i a h).1
  cases e : H0 a with
  | none => rfl
  | some o =>
    have nA := S'.own_nA h
    rw [S.ext_base a o nA e] at q
    cases q
theorem Sat.car_base (S : Sat K W M0 H0 oa H σ ds) (S' : Sat K W M0 (base oa H) oa' H' σ' ds') : Car (Mx M0 oa) (Mx M0 oa') H H' := fun b o n h => by
  have nA : ¬ W.A b := fun z => n (.inl (S.wm b z))
  have hb : base oa H b = some o := by rw [base_not (fun ⟨i, z⟩ => n (.inr ⟨i, z⟩))]; exact h
  refine ⟨fun z => ?_, S'.ext b o nA hb⟩
  rcases z with z | ⟨i, z⟩
  · exact n (.inl z)
  · rw [(S'.ofr i b z).1] at hb; cases hb
def wFor (wi : WI) (g : WG) (b : WS) : WS := fun E ds => wi ds fun items => ∃ Iv : Nat → List Sl → Prop, Iv 0 ds ∧
  (∀ i d ds, items[i]? = some d → Iv i ds → g d ds fun ds1 => b { E with nx := Iv (i + 1), ct := Iv (i + 1), bk := E.nx } ds1) ∧ ∀ ds, Iv items.length ds → E.nx ds
theorem vs_for {tg iter : Expr} {body : List Stmt} {wi : WI} {g : WG} {b : WS} (hp : PassesOwn (model X.prog X.w) X.A X.env X.xe) (hc : X.calm = true) (hi : VI X W tg iter wi) (hg : VG X W vs tg g) (hb : VSs X W body b)
    (hs : ∀ x, foldedSetIterable iter X.env x = pure x := by intro _; rfl) : VS X W (.For tg iter body [] pos) (wFor wi g b) := by
  refine ps_imp (ps_for hp hc hi hg hb hs) fun D σ H h => ?_
  obtain ⟨M0, H0, oa, ds, E, S, hw, k1, k2, k3, k4⟩ := h
  refine ⟨M0, H0, oa, ds, _, S, hw, fun items J H1 ⟨Iv, h0, turn, hd⟩ hz e1 i1 ok => ?_⟩
  have S1 := S.step e1 i1
  refine ⟨fun i m σ H => m = items.length - i ∧ i ≤ items.length ∧ ∃ oa' ds, Iv i ds ∧ Sat X.K W M0 (base oa H1) oa' H σ ds, ⟨items.length, by simp, Nat.zero_le _, oa, ds, h0, S1.rebase⟩, ?_⟩
  rintro i m σ2 H2 ⟨rfl, hi, oa2, ds2, iv, S2⟩
  obtain ⟨g1, g2, g3⟩ := ok (Mx M0 oa2) H2 (S1.car_base S2) S2.mok
  by_cases hlt : i < items.length
  · refine .inr ⟨g1 i hlt, fun σ H => ∃ oa' ds, Iv (i + 1) ds ∧ Sat X.K W M0 (base oa H1) oa' H σ ds, fun σ' H' h => ⟨_, ?_, rfl, hlt, h⟩, fun x H3 hy => ?_⟩
    · omega
    obtain ⟨f, r⟩ := g3 i items[i] x H3 (by simp [hlt]) hy
    refine ⟨M0, base oa H1, oa2, ds2, items[i], _, S2.full f, r, turn i _ ds2 (by simp [hlt]) iv, fun ds3 oa3 σ3 hp S3 _ _ _ => ?_⟩
    refine ⟨M0, base oa H1, oa3, ds3, _, S3, hp, ?_, ?_, ?_, ?_⟩
    · intro ds' oa' σ' H' hn S'
      exact ⟨oa', ds', hn, S'⟩
    · intro d v H' hr e i r'
      exact k2 d v H' hr (S1.ext_base.trans e) i r'
    · intro ds' oa' σ' H' hn S'
      exact k1 _ _ _ _ hn (S1.unbase S')
    · refine ⟨?_, fun ds' oa' σ' H' d v hr S' r => k4.2 ds' oa' σ' H' d v hr (S1.unbase S') r⟩
      intro ds' oa' σ' H' hn S'
      exact ⟨oa', ds', hn, S'⟩
  · have e : i = items.length := by omega
    subst e
    exact .inl ⟨g2 _ (Nat.le_refl _) (Nat.le_refl _), k1 _ _ _ _ (hd ds2 iv) (S1.unbase S2)⟩
def wipeD (ds : List Sl) (vs : List Nat) : List Sl := (List.range ds.length).map fun i => if i ∈ vs then .un else ds.getD i .un
def noMl (ds : List Sl) (vs : List Nat) : Bool := vs.all fun i => match ds.getD i .un with
  | .ml _ => false
  | .md _ _ => false
  | .mi _ _ _ _ => false
  | .ow _ => false
  | _ => true
theorem wipeD_get {i : Nat} {s : Sl} (h : (wipeD ds vs)[i]? = some s) : (i ∈ vs ∧ s = .un) ∨ (i ∉ vs ∧ ds[i]? = some s) := by
  unfold wipeD at h
  rw [List.getElem?_map] at h
  cases q : (List.range ds.length)[i]? with
  | none => rw [q] at h; cases h
  | some j =>
    rw [q] at h
    obtain ⟨hl, hj⟩ := List.getElem?_eq_some_iff.mp q
    rw [List.getElem_range] at hj
    subst hj
    simp at hl
    have h : (if i ∈ vs then Sl.un else ds.getD i .un) = s := Option.some.inj h
    by_cases e : i ∈ vs
    · rw [if_pos e] at h; exact .inl ⟨e, h.symm⟩
    · rw [if_neg e] at h
      refine .inr ⟨e, ?_⟩
      rw [List.getD_eq_getElem?_getD] at h
      simp [hl] at h ⊢
      exact h
theorem Sat.blk (S : Sat K W M0 H0 oa H σ ds) {Dl : Addr} (nm : noMl ds vs = true) (hD : H Dl = none) {ob : HO} {H2 : Hp} (c : ∀ b o, ¬ W.A b → H b = some o → H2 b = some o) (wi : W.I H2) (hD2 : H2 Dl = some ob) (hx : ∀ φ, ob ≠ .ext φ := by intro φ z; cases z) :
    Sat K W (fun a => M0 a ∨ a = Dl) (base oa H2) oa H2 (wipe σ vs) (wipeD ds vs) := by
  have S2 := S.step c wi
  have nC : ¬ W.C Dl := fun z => W.liveB _ _ S.wi (W.cb _ z) hD
  have hv : ∀ i ∈ vs, oa i = no1 := fun i hi => by
    by_cases hl : ds.length ≤ i
    · exact S.out i hl
    · have hl : i < ds.length := by omega
      have hs := S.slot i ds[i] (by simp [hl])
      have n1 := List.all_eq_true.mp nm i hi
      have hg : ds.getD i .un = ds[i] := by simp [List.getD_eq_getElem?_getD, hl]
      rw [hg] at n1
      cases e : ds[i] with
      | un => rw [e] at hs; exact hs
      | d x => rw [e] at hs; exact hs.1
      | ml l => rw [e] at n1; cases n1
      | md ks l => rw [e] at n1; cases n1
      | mi b C ks l => rw [e] at n1; cases n1
      | ow t => rw [e] at n1; cases n1
  have nD : ∀ i a, oa i a → a ≠ Dl := fun i a h z => by
    obtain ⟨xs, q⟩ := S.ownLive h
    rw [z, hD] at q; cases q
  have cr : Car (Mx M0 oa) (Mx (fun a => M0 a ∨ a = Dl) oa) H H2 := fun b o n h => by
    refine ⟨fun z => ?_, c b o (fun z => n (.inl (S.wm b z))) h⟩
    rcases z with (z | z) | z
    · exact n (.inl z)
    · rw [z, hD] at h; cases h
    · exact n (.inr z)
  refine ⟨fun a h => .inl (S.wm a h), fun a h => ?_, fun b o n h => ?_, wi, fun i a h => ⟨base_own ⟨i, h⟩, fun z => z.elim (S.ofr i a h).2 (nD i a h)⟩, S.inj, by simp [wipeD, S.len, wipe_length], fun i h => S.out i (by simpa [wipeD] using h), fun i s h => ?_, fun a h => .inl (S.fm a h), S.fh.trans S2.ext_base, fun a h => by rw [base_not (fun ⟨i, z⟩ => S.bl a h (S.ofr i a z).1)]; exact W.liveB _ _ wi h, fun a h hC => h.elim (fun h => S.nc a h hC) fun z => nC (by rw [← z]; exact hC), fun a φ h => by
    rw [base_not (fun ⟨i, z⟩ => h.elim (S.ofr i a z).2 (nD i a z))]
    rcases h with h | h
    · exact S2.mnx a φ (.inl h)
    · rw [h, hD2]; intro z; exact hx φ (Option.some.inj z)⟩
  · rw [base_not (fun ⟨i, z⟩ => h.elim (S.ofr i a z).2 (nD i a z))]
    rcases h with h | h
    · exact S2.mok.live a (.inl h)
    · rw [h, hD2]; intro z; cases z
  · by_cases q : ∃ i, oa i b
    · rw [base_own q] at h; cases h
    · rw [base_not q] at h; exact h
  · rcases wipeD_get h with ⟨h1, rfl⟩ | ⟨h1, h2⟩
    · exact hv i h1
    · rw [wipe_get, if_neg h1]
      exact (S.slot i s h2).car cr fun a xs q z => c a _ (S.own_nA q) z
def wLc (wi : WI) (g : WG) (t : WT) (w : WE) (vs : List Nat) : WE := fun ds P => noMl ds vs = true ∧ wi ds fun items => ∃ Iv : Nat → List D → Prop, Iv 0 [] ∧
  (∀ i d acc, items[i]? = some d → Iv i acc → g d (wipeD ds vs) fun ds1 => t ds1 fun b => if b = true then w ds1 fun y => Iv (i + 1) (acc ++ [y]) else Iv (i + 1) acc) ∧ ∀ acc, Iv items.length acc → P (.lst acc)
def wLcO (wi : WI) (g : WG) (t : WT) (w : WE) (vs : List Nat) : WL := fun ds P => noMl ds vs = true ∧ wi ds fun items => ∃ Iv : Nat → List D → Prop, Iv 0 [] ∧
  (∀ i d acc, items[i]? = some d → Iv i acc → g d (wipeD ds vs) fun ds1 => t ds1 fun b => if b = true then w ds1 fun y => Iv (i + 1) (acc ++ [y]) else Iv (i + 1) acc) ∧ ∀ acc, Iv items.length acc → P acc
def LEo (K : PySem.W.Frag) (W : Wd) (w : WL) : TE := fun σ H Q => ∃ M0 H0 oa ds P, Sat K W M0 H0 oa H σ ds ∧ w ds P ∧
  ∀ acc us Dl H', P acc → H Dl = none → Ext W H H' → W.I H' → H' Dl = some (.lst us) → Reps K (Mx (fun a => M0 a ∨ a = Dl) oa) H' acc us → Q (.ref Dl) H'
theorem le_lco {wi : WI} {g : WG} {t : WT} {w : WE} {Q : VK} (h : LEo K W (wLcO wi g t w vs) σ H Q) : tLc (LI K W wi) (LG K W vs g) (LT K W t) (LE K W w) vs σ H Q := by
  obtain ⟨M0, H0, oa, ds, P, S, ⟨nm, hw⟩, k⟩ := h
  refine ⟨M0, H0, oa, ds, _, S, hw, fun items J H1 ⟨Iv, h0, turn, hd⟩ hz e1 i1 ok => fun Dl hD => ?_⟩
  have S1 := S.step e1 i1
  have nA : ¬ W.A Dl := fun z => W.live _ _ i1 z hD
  have nB : ¬ W.B Dl := fun z => W.liveB _ _ i1 z hD
  have hMD : ¬ Mx M0 oa Dl := S1.mok.fresh hD
  let Wv : Nat → Nat → Hp → Prop := fun i m H => m = items.length - i ∧ i ≤ items.length ∧ (∀ b o, ¬ W.A b → H1 b = some o → H b = some o) ∧ W.I H ∧ ∃ acc us, H Dl = some (.lst us) ∧ acc.length ≤ i ∧ Iv i acc ∧ Reps K (Mx (fun a => M0 a ∨ a = Dl) oa) H acc us
  refine ⟨Wv, ⟨items.length, by simp, Nat.zero_le _, (Full.new hD).ext, W.keep _ _ i1 (Full.new hD), [], [], upd_same, Nat.le_refl _, h0, reps_nil⟩, ?_⟩
  rintro i m H2 ⟨rfl, hi, c2, wi2, acc, us, hD2, hl, iv, ra⟩
  have S2 := S1.blk (vs := vs) nm hD c2 wi2 hD2
  have cr : Car (Mx M0 oa) (Mx (fun a => M0 a ∨ a = Dl) oa) H1 H2 := fun b o n h => by
    refine ⟨fun z => ?_, c2 b o (fun z => n (.inl (S.wm b z))) h⟩
    rcases z with (z | z) | z
    · exact n (.inl z)
    · rw [z, hD] at h; cases h
    · exact n (.inr z)
  obtain ⟨g1, g2, g3⟩ := ok (Mx (fun a => M0 a ∨ a = Dl) oa) H2 cr S2.mok
  by_cases hlt : i < items.length
  · refine .inr ⟨g1 i hlt, fun H => Wv (i + 1) (items.length - (i + 1)) H, fun H' h => ⟨_, by omega, h⟩, fun x H3 hy => ?_⟩
    obtain ⟨f, r⟩ := g3 i items[i] x H3 (by simp [hlt]) hy
    have S3 := S2.full f
    refine ⟨_, _, oa, _, items[i], _, S3, r, turn i _ acc (by simp [hlt]) iv, fun ds4 oa4 σ4 hp S4 hwp hsub hout => ⟨hwp.trans (wipe_wipe σ vs), ?_⟩⟩
    have hv : ∀ i ∈ vs, oa i = no1 := fun j hj => by
      by_cases hl : ds.length ≤ j
      · exact S.out j hl
      · have hl : j < ds.length := by omega
        have hs := S.slot j ds[j] (by simp [hl])
        have n1 := List.all_eq_true.mp nm j hj
        have hg : ds.getD j .un = ds[j] := by simp [List.getD_eq_getElem?_getD, hl]
        rw [hg] at n1
        cases e2 : ds[j] with
        | un => rw [e2] at hs; exact hs
        | d x => rw [e2] at hs; exact hs.1
        | ow t => rw [e2] at n1; cases n1
        | ml l => rw [e2] at n1; cases n1
        | md ks l => rw [e2] at n1; cases n1
        | mi b C ks l => rw [e2] at n1; cases n1
    have hoa : oa4 = oa := by
      funext j
      by_cases hj : j ∈ vs
      · rw [hv j hj]
        funext a
        refine propext ⟨fun e => ?_, fun z => z.elim⟩
        have z := hsub j a e
        rw [hv j hj] at z
        exact z.elim
      · exact hout j hj
    subst hoa
    refine ⟨_, _, oa4, ds4, _, S4, hp, fun b H5 hb e5 i5 => ?_⟩
    have S5 := S4.step e5 i5
    have hD5 : H5 Dl = some (.lst us) := e5 Dl _ nA (f Dl _ hD2)
    have c5 : ∀ b o, ¬ W.A b → H1 b = some o → H5 b = some o := fun b o n h => e5 b o n (f b o (c2 b o n h))
    have ra5 := (ra.ext S2.mok f.ext).ext S3.mok e5
    cases b with
    | true =>
      refine ⟨_, _, oa4, ds4, _, S5, hb, fun y v H6 hy6 e6 i6 r6 => ?_⟩
      have hD6 : H6 Dl = some (.lst us) := e6 Dl _ nA hD5
      have hus : us.length = acc.length := ra.len
      refine ⟨us, hD6, by omega, rfl, hlt, fun b o n h => ?_, W.stay _ _ i6 (fun b hb => upd_ne (fun z => nA (by rw [← z]; exact hb))) (fun b φ e => (upd_ne (fun z => by rw [z, hD6] at e; cases e)).trans e) (fun b o hB e => (upd_ne (fun z => nB (by rw [← z]; exact hB))).trans e), acc ++ [y], us ++ [v], upd_same, by simp; omega, hy6, ?_⟩
      · have hb : b ≠ Dl := ne_of_none h hD
        rw [upd_ne hb]
        exact e6 b o n (c5 b o n h)
      · refine ((ra5.ext S5.mok e6).app (reps_cons r6 reps_nil)).car fun b o n h => ⟨n, ?_⟩
        rw [upd_ne (fun z => n (.inl (.inr z)))]
        exact h
    | false => exact ⟨rfl, hlt, c5, i5, acc, us, hD5, by omega, hb, ra5⟩
  · have e : i = items.length := by omega
    subst e
    have hn : H Dl = none := by
      cases q : H Dl with
      | none => rfl
      | some o => rw [e1 Dl o nA q] at hD; cases hD
    refine .inl ⟨g2 _ (Nat.le_refl _) (Nat.le_refl _), k acc us Dl H2 (hd acc iv) hn (e1.trans c2) wi2 hD2 ra⟩
theorem le_lc {wi : WI} {g : WG} {t : WT} {w : WE} {Q : VK} (h : LE K W (wLc wi g t w vs) σ H Q) : tLc (LI K W wi) (LG K W vs g) (LT K W t) (LE K W w) vs σ H Q := by
  obtain ⟨M0, H0, oa, ds, P, S, hw, k⟩ := h
  refine le_lco ⟨M0, H0, oa, ds, fun acc => P (.lst acc), S, hw, fun acc us Dl H' hp hn e i hD r => ?_⟩
  have hMD : ¬ Mx M0 oa Dl := S.mok.fresh hn
  exact k _ _ H' hp e i (rep_lst (.inl ⟨hMD, .inl hD⟩) (r.car fun b o n h => ⟨fun z => n (z.elim (fun z => .inl (.inl z)) .inr), h⟩))
def wYes : WT := fun _ P => P true
theorem le_yes {Q : Bool → Hp → Prop} (h : LT K W wYes σ H Q) : tYes σ H Q := by
  obtain ⟨M0, H0, oa, ds, P, S, hw, k⟩ := h
  exact k true H hw (Ext.refl H) S.wi
abbrev VTs (X : Cx) (W : Wd) (ifs : List Expr) (t : WT) : Prop := PTs X ifs (LT X.K W t)
theorem vts_nil : VTs X W [] wYes := ⟨fun pins s σ H Q I hw => pts_nil.run pins s σ H Q I (le_yes hw)⟩
theorem vts_one {c : Expr} {t : WT} (h : VT X W c t) : VTs X W [c] t := pts_one h
theorem ve_lc {elt tg iter : Expr} {ifs : List Expr} {scope : Scope} {own : List (Str × Nat)} {wi : WI} {g : WG} {t : WT} {w : WE} (hc : X.calm = true) (hN : X.N.Nodup) (hi : VI X W tg iter wi) (ok : BlkOk X.N X.env.scope scope own)
    (hg : ∀ (s : Shared) (H : Hp) (C : Addr) (cl : List (Str × Addr)) (fp : List Addr), VG (X.blk s H scope (compEnvC scope cl C X.env) fp) W (own.map (·.2)) tg g) (ht : ∀ (s : Shared) (H : Hp) (C : Addr) (cl : List (Str × Addr)) (fp : List Addr), VTs (X.blk s H scope (compEnvC scope cl C X.env) fp) W ifs t)
    (he : ∀ (s : Shared) (H : Hp) (C : Addr) (cl : List (Str × Addr)) (fp : List Addr), VE (X.blk s H scope (compEnvC scope cl C X.env) fp) W elt w) (hs : ∀ x, foldedSetIterable iter X.env x = pure x := by intro _; rfl) :
    VE X W (.ListComp elt [⟨tg, iter, ifs, 0⟩] scope pos) (wLc wi g t w (own.map (·.2))) := pe_imp (pe_lc hc hN hi ok hg ht he hs) fun σ H Q => le_lc
theorem vs_setLc (i : Nat) {y : Str} {py : Pos} {elt tg iter : Expr} {ifs : List Expr} {scope : Scope} {own : List (Str × Nat)} {spos : Pos} {wi : WI} {g : WG} {t : WT} {w : WE} (hc : X.calm = true) (hN : X.N.Nodup) (hy : X.N[i]? = some y) (hyl : X.env.scope.names.lookup y = some .local)
    (hsw : swapsWith (.ListComp elt [⟨tg, iter, ifs, 0⟩] scope pos) (some (.Name y py)) spos.line X.env = pure true) (hi : VI X W tg iter wi) (ok : BlkOk X.N X.env.scope scope own)
    (hg : ∀ (s : Shared) (H : Hp) (C : Addr) (cl : List (Str × Addr)) (fp : List Addr), VG (X.blk s H scope (compEnvC scope cl C X.env) fp) W (own.map (·.2)) tg g) (ht : ∀ (s : Shared) (H : Hp) (C : Addr) (cl : List (Str × Addr)) (fp : List Addr), VTs (X.blk s H scope (compEnvC scope cl C X.env) fp) W ifs t)
    (he : ∀ (s : Shared) (H : Hp) (C : Addr) (cl : List (Str × Addr)) (fp : List Addr), VE (X.blk s H scope (compEnvC scope cl C X.env) fp) W elt w) (hs : ∀ x, foldedSetIterable iter X.env x = pure x := by intro _; rfl) :
    VS X W (.Assign [.Name y py] (.ListComp elt [⟨tg, iter, ifs, 0⟩] scope pos) spos) (wSet i (wLc wi g t w (own.map (·.2)))) := by
  refine ps_imp (ps_setLc (wi := LI X.K W wi) (g := LG X.K W (own.map (·.2)) g) (tt := LT X.K W t) (te := LE X.K W w) hc hN hy hyl hsw hi ok hg ht he hs) fun D σ H h => ?_
  obtain ⟨M0, H0, oa, ds, E, S, hw, k1, k2, k3, k4⟩ := h
  exact le_lc ⟨M0, H0, oa, ds, _, S, hw, fun d v H1 hd e1 i1 r1 => k1 _ _ _ _ hd ((S.step e1 i1).set r1)⟩
theorem Sat.takeown {K : PySem.W.Frag} {M0 : Addr → Prop} {H0 H H' : Hp} {oa : Nat → AS} {σ : L2.St} {ds : List Sl} (S : Sat K W M0 H0 oa H σ ds) {i : Nat} (hi : i < ds.length) {p : Addr} (hp : H p = none) (e : Ext W H H') (wi : W.I H') {xs : List D} {vs : List V}
    (ht : H' p = some (.lst vs)) (r : Reps K (Mx (fun a => M0 a ∨ a = p) oa) H' xs vs) : Sat K W M0 H0 (oaPut oa i p) H' (σ.set i (some (.ref p))) (ds.set i (.ml xs)) := by
  have S1 := S.step e wi
  have hm : ¬ Mx M0 oa p := S.mok.fresh hp
  have h0 : H0 p = none := by
    cases q : H0 p with
    | none => rfl
    | some o =>
      have nA : ¬ W.A p := fun z => W.live _ _ S.wi z hp
      rw [S.ext p o nA q] at hp; cases hp
  have c1 : Car (Mx (fun a => M0 a ∨ a = p) oa) (Mx M0 (oaPut oa i p)) H' H' := fun b o n h => ⟨fun z => by
    rcases z with z | ⟨j, z⟩
    · exact n (.inl (.inl z))
    · unfold oaPut at z
      by_cases e : j = i
      · rw [if_pos e] at z; exact n (.inl (.inr z))
      · rw [if_neg e] at z; exact n (.inr ⟨j, z⟩), h⟩
  have cr : Car (Mx M0 oa) (Mx M0 (oaPut oa i p)) H H' := fun b o n h => by
    have hb : b ≠ p := ne_of_none h hp
    refine ⟨fun z => ?_, (S.mok.car e b o n h).2⟩
    rcases z with z | ⟨j, z⟩
    · exact n (.inl z)
    · unfold oaPut at z
      by_cases e : j = i
      · rw [if_pos e] at z; exact hb z
      · rw [if_neg e] at z; exact n (.inr ⟨j, z⟩)
  refine S1.setown hi h0 hm ⟨p, vs, rfl, rfl, ht, r.car c1⟩ fun j s hj hs => ?_
  exact (S.slot j s hs).car cr fun a ob z h => e a ob (S.own_nA z) h
theorem vs_setLcO (i : Nat) {y : Str} {py : Pos} {elt tg iter : Expr} {ifs : List Expr} {scope : Scope} {own : List (Str × Nat)} {spos : Pos} {wi : WI} {g : WG} {t : WT} {w : WE} (hc : X.calm = true) (hN : X.N.Nodup) (hy : X.N[i]? = some y) (hyl : X.env.scope.names.lookup y = some .local)
    (hsw : swapsWith (.ListComp elt [⟨tg, iter, ifs, 0⟩] scope pos) (some (.Name y py)) spos.line X.env = pure true) (hi : VI X W tg iter wi) (ok : BlkOk X.N X.env.scope scope own)
    (hg : ∀ (s : Shared) (H : Hp) (C : Addr) (cl : List (Str × Addr)) (fp : List Addr), VG (X.blk s H scope (compEnvC scope cl C X.env) fp) W (own.map (·.2)) tg g) (ht : ∀ (s : Shared) (H : Hp) (C : Addr) (cl : List (Str × Addr)) (fp : List Addr), VTs (X.blk s H scope (compEnvC scope cl C X.env) fp) W ifs t)
    (he : ∀ (s : Shared) (H : Hp) (C : Addr) (cl : List (Str × Addr)) (fp : List Addr), VE (X.blk s H scope (compEnvC scope cl C X.env) fp) W elt w) (hs : ∀ x, foldedSetIterable iter X.env x = pure x := by intro _; rfl) :
    VS X W (.Assign [.Name y py] (.ListComp elt [⟨tg, iter, ifs, 0⟩] scope pos) spos) (fun E ds => i < ds.length ∧ wLcO wi g t w (own.map (·.2)) ds fun acc => E.nx (ds.set i (.ml acc))) := by
  refine ps_imp (ps_setLc (wi := LI X.K W wi) (g := LG X.K W (own.map (·.2)) g) (tt := LT X.K W t) (te := LE X.K W w) hc hN hy hyl hsw hi ok hg ht he hs) fun D σ H h => ?_
  obtain ⟨M0, H0, oa, ds, E, S, ⟨hl, hw⟩, k1, k2, k3, k4⟩ := h
  exact le_lco ⟨M0, H0, oa, ds, _, S, hw, fun acc us Dl H' hp hn e wi' hD r => k1 _ _ _ _ hp (S.takeown hl hn e wi' hD r)⟩
end
end VL
set_option Elab.async false
set_option linter.all false
set_option maxRecDepth 100000
set_option maxHeartbeats 2000000
namespace VL
open PySem PySem.Spec PyProof.Rows L2
theorem bt_len : bootBuiltins "len" = some (.builtin "len") := by decide +kernel
theorem bt_abs : bootBuiltins "abs" = some (.builtin "abs") := by decide +kernel
theorem bt_all : bootBuiltins "all" = some (.builtin "all") := by decide +kernel
theorem bt_int : bootBuiltins "int" = some (.type "int") := by decide +kernel
theorem bt_bool : bootBuiltins "bool" = some (.type "bool") := by decide +kernel
theorem bt_list : bootBuiltins "list" = some (.type "list") := by decide +kernel
theorem bt_tuple : bootBuiltins "tuple" = some (.type "tuple") := by decide +kernel
theorem bt_isinstance : bootBuiltins "isinstance" = some (.builtin "isinstance") := by decide +kernel
theorem bt_sorted : bootBuiltins "sorted" = some (.builtin "sorted") := by decide +kernel
section
variable {X : Cx} {W : Wd} {e : Expr} {lo hi : Option Expr} {pos p2 : Pos}
def asInt : D → (Int → Prop) → Prop
  | .int i, P => P i
  | _, _ => False
end
def okD : Nat → D → Bool
  | _, .non => true
  | _, .bl _ => true
  | _, .int _ => true
  | _, .str _ => true
  | _, .hnd _ => false
  | _, .dic _ _ => false
  | _, .ins _ _ _ => false
  | _, .lam _ _ => false
  | 0, .tup _ => false
  | 0, .lst _ => false
  | n + 1, .tup ds => decide (ds.length ≤ 1000000) && ds.all (okD n)
  | n + 1, .lst ds => decide (ds.length ≤ 1000000) && ds.all (okD n)
inductive All2 (F : D → D → Prop) : List D → List D → Prop
  | nil : All2 F [] []
  | cons {x y : D} {xs ys : List D} : F x y → All2 F xs ys → All2 F (x :: xs) (y :: ys)
theorem All2.app {F : D → D → Prop} {xs ys as bs : List D} (h : All2 F xs ys) (k : All2 F as bs) : All2 F (xs ++ as) (ys ++ bs) := by
  induction h with
  | nil => exact k
  | cons h _ ih => exact .cons h ih
theorem All2.len {F : D → D → Prop} {xs ys : List D} (h : All2 F xs ys) : ys.length = xs.length := by
  induction h with
  | nil => rfl
  | cons _ _ ih => simp [ih]
theorem take_one {α : Type} {l : List α} {i : Nat} {x : α} (h : l[i]? = some x) : l.take (i + 1) = l.take i ++ [x] := by
  rw [List.take_add_one, h]
  rfl
theorem lcR {items : List D} {P : List D → Prop} {g : WG} {w : WE} {ds : List Sl} (F : D → D → Prop) (h : ∀ d ∈ items, ∀ R : D → Prop, (∀ y, F d y → R y) → g d ds fun ds1 => w ds1 R) (hP : ∀ ys, All2 F items ys → P ys) :
    ∃ Iv : Nat → List D → Prop, Iv 0 [] ∧ (∀ i d acc, items[i]? = some d → Iv i acc → g d ds fun ds1 => wYes ds1 fun b => if b = true then w ds1 fun y => Iv (i + 1) (acc ++ [y]) else Iv (i + 1) acc) ∧ ∀ acc, Iv items.length acc → P acc := by
  refine ⟨fun i acc => All2 F (items.take i) acc, .nil, fun i d acc hd ha => ?_, fun acc ha => hP acc (by have z : All2 F (items.take items.length) acc := ha; rw [List.take_length] at z; exact z)⟩
  exact h d (List.mem_of_getElem? hd) _ fun y hy => by show All2 F (items.take (i + 1)) (acc ++ [y]); rw [take_one hd]; exact ha.app (.cons hy .nil)
theorem lcF {items : List D} {P : List D → Prop} {g : WG} {w : WE} {ds : List Sl} (f : D → D) (h : ∀ d ∈ items, ∀ R : D → Prop, R (f d) → g d ds fun ds1 => w ds1 R) (hP : P (items.map f)) :
    ∃ Iv : Nat → List D → Prop, Iv 0 [] ∧ (∀ i d acc, items[i]? = some d → Iv i acc → g d ds fun ds1 => wYes ds1 fun b => if b = true then w ds1 fun y => Iv (i + 1) (acc ++ [y]) else Iv (i + 1) acc) ∧ ∀ acc, Iv items.length acc → P acc := by
  refine ⟨fun i acc => acc = (items.take i).map f, rfl, fun i d acc hd ha => ?_, fun acc ha => by have z : acc = (items.take items.length).map f := ha; rw [z, List.take_length]; exact hP⟩
  subst ha
  refine h d (List.mem_of_getElem? hd) _ ?_
  show (items.take i).map f ++ [f d] = (items.take (i + 1)).map f
  rw [take_one hd, List.map_append]
  rfl
mutual
def plain : D → Bool
  | .hnd _ => false
  | .dic _ _ => false
  | .ins _ _ _ => false
  | .lam _ _ => false
  | .tup ds => plains ds
  | .lst ds => plains ds
  | _ => true
def plains : List D → Bool
  | [] => true
  | d :: ds => plain d && plains ds
end
theorem plain_nh {d : D} (h : plain d = true) : noHnd d = true := by
  cases d <;> first | rfl | (unfold plain at h; cases h)
theorem plains_all {ds : List D} (h : plains ds = true) : ∀ d ∈ ds, plain d = true := by
  induction ds with
  | nil => intro d hd; cases hd
  | cons a r ih =>
    unfold plains at h
    obtain ⟨h1, h2⟩ := Bool.and_eq_true_iff.mp h
    intro d hd
    cases hd with
    | head => exact h1
    | tail _ hd => exact ih h2 d hd
theorem plain_tup {ds : List D} (h : plain (.tup ds) = true) : plains ds = true := by unfold plain at h; exact h
theorem plain_lst {ds : List D} (h : plain (.lst ds) = true) : plains ds = true := by unfold plain at h; exact h
end VL
set_option Elab.async false
set_option linter.all false
set_option maxRecDepth 100000
set_option maxHeartbeats 2000000
namespace VL
open PySem PySem.Spec PyProof.Rows L2
def rCatL (K : PySem.W.Frag) : R2 := fun x y H Q => ∃ a b xs ys, x = .ref a ∧ y = .ref b ∧ SqL K H a xs ∧ SqL K H b ys ∧ xs.length + ys.length ≤ sizeLine ∧ ∀ p, H p = none → Q (.ref p) (upd H p (.lst (xs ++ ys)))
theorem op_catL {X : Cx} : OpR X (binaryOp .Add) (rCatL X.K) := by
  intro pins s σ H x y v u Q I rx ry h
  obtain ⟨a, b, xs, ys, rfl, rfl, ha, hb, hz, q⟩ := h
  cases rx
  cases ry
  obtain ⟨its, r1, ⟨⟨cls, dd, data, sl⟩, n, ho, hc, hdd, hd⟩, _⟩ := I.list ha
  obtain ⟨its2, r2, ⟨⟨cls2, dd2, data2, sl2⟩, n2, ho2, hc2, hdd2, hd2⟩, _⟩ := I.list hb
  simp only at hc hd hc2 hd2
  subst hc hd hc2 hd2
  have e : its.toArray ++ its2.toArray = (its ++ its2).toArray := by simp
  have l1 := r1.length
  have l2 := r2.length
  refine concat_meets ⟨_, ho, rfl⟩ ⟨_, ho2, rfl⟩ noFill_list_add seq_list_add PySem.F.slot_list_add PySem.F.entry_list_add (PySem.F.args_list_add_2 _ _) (list_addW a b its.toArray its2.toArray n n2 dd dd2 sl sl2 (by rw [List.size_toArray, List.size_toArray]; omega)) ⟨ho, ho2, ?_⟩
  rw [e]
  exact ⟨.ref _, _, I.lnew (t' := s.toks) (r1.append r2) (by rw [List.length_append]; omega), rfl, q _ I.fresh⟩
def addA : D → D → (D → Prop) → Prop
  | .int i, .int j, P => P (.int (i + j))
  | .str i, .str j, P => i.length + j.length ≤ sizeLine ∧ P (.str (i ++ j))
  | .lst i, .lst j, P => i.length + j.length ≤ sizeLine ∧ P (.lst (i ++ j))
  | .tup i, .tup j, P => i.length + j.length ≤ sizeLine ∧ P (.tup (i ++ j))
  | _, _, _ => False
def rAddL (K : PySem.W.Frag) : R2 := fun x y H Q => (rAddA x y H Q ∨ rCatL K x y H Q) ∨ rCatA K x y H Q
section
variable {X : Cx} {W : Wd} {K : PySem.W.Frag}
theorem op_addL : OpR X (binaryOp .Add) (rAddL X.K) := OpR.or (OpR.or op_addA op_catL) op_catA
theorem lift_addL : LiftOp K W addA (rAddL K) := by
  intro M H x y v u P Q m r1 r2 h k
  cases x <;> cases y <;> first
    | exact h.elim
    | (rename_i i j; exact .inl (.inl (.inl ⟨i, j, r1.int, r2.int, k _ _ H h (Ext.refl H) m.wi rep_int⟩)))
    | (rename_i i j; exact .inl (.inl (.inr ⟨i, j, r1.str, r2.str, h.1, k _ _ H h.2 (Ext.refl H) m.wi rep_str⟩)))
    | (obtain ⟨a, xs, rfl, t, q⟩ := r1.lst
       obtain ⟨b, ys, rfl, t', q'⟩ := r2.lst
       exact .inl (.inr ⟨a, b, xs, ys, rfl, rfl, t.sq, t'.sq, by rw [q.len, q'.len]; exact h.1, fun p hp => k _ _ _ h.2 (Full.new hp).ext (W.keep _ _ m.wi (Full.new hp)) (m.newL hp (q.app q'))⟩))
    | (obtain ⟨a, xs, rfl, t, q⟩ := r1.tup
       obtain ⟨b, ys, rfl, t', q'⟩ := r2.tup
       refine .inr ⟨a, b, xs, ys, rfl, rfl, t.sq, t'.sq, by rw [q.len, q'.len]; exact h.1, fun e => ?_, fun _ e => ?_, fun _ _ p hp => k _ _ _ h.2 (Full.new hp).ext (W.keep _ _ m.wi (Full.new hp)) (m.newT hp (q.app q'))⟩
       · refine k _ _ _ h.2 (Ext.refl H) m.wi (rep_tup t' ?_)
         have z := q.app q'
         rw [e] at z
         exact z
       · refine k _ _ _ h.2 (Ext.refl H) m.wi (rep_tup t ?_)
         have z := q.app q'
         rw [e, List.append_nil] at z
         exact z)
theorem ve_addA {a b : Expr} {pos : Pos} {wa wb : WE} (ha : VE X W a wa) (hb : VE X W b wb) : VE X W (.BinOp a .Add b pos) (wOp addA wa wb) := ve_op op_addL lift_addL ha hb
def lkp : List Str → List D → Str → Option D
  | k :: ks, x :: xs, s => if k = s then some x else lkp ks xs s
  | _, _, _ => none
abbrev kz (ks : List Str) (us : List V) : List (Key × V) := (ks.map Sum.inr).zip us
theorem lkp_rep {M : Addr → Prop} {H : Hp} {s : Str} : ∀ {ks : List Str} {ds : List D} {us : List V}, Reps K M H ds us → us.length = ks.length →
    (∃ d v, lkp ks ds s = some d ∧ valV (kz ks us) (Sum.inr s) = some v ∧ Rep K M H d v) ∨ (lkp ks ds s = none ∧ valV (kz ks us) (Sum.inr s) = none)
  | [], ds, us, r, l => by
    refine .inr ⟨by cases ds <;> rfl, ?_⟩
    exact valV_nil
  | k :: ks, [], us, r, l => by rw [r.inv0] at l; cases l
  | k :: ks, d :: ds, us, r, l => by
    obtain ⟨v, vs, rfl, h1, h2⟩ := r.inv
    by_cases e : k = s
    · refine .inl ⟨d, v, by unfold lkp; rw [if_pos e], ?_, h1⟩
      exact valV_pos (p := (Sum.inr k, v)) (by rw [e])
    · have n : ¬ (Sum.inr k : Key) = Sum.inr s := fun z => e (Sum.inr.inj z)
      have ek : lkp (k :: ks) (d :: ds) s = lkp ks ds s := by rw [lkp, if_neg e]
      have ev : valV (kz (k :: ks) (v :: vs)) (Sum.inr s) = valV (kz ks vs) (Sum.inr s) := valV_neg (p := (Sum.inr k, v)) n
      rw [ek, ev]
      exact lkp_rep h2 (by simpa using l)
def dkS : Sl → (List Str → List D → Prop) → Prop
  | .md ks xs, P => P ks xs
  | .d (.dic ks xs), P => P ks xs
  | _, _ => False
structure Dk (K : PySem.W.Frag) (W : Wd) (M : Addr → Prop) (H : Hp) (a : Addr) (ks : List Str) (xs : List D) (us : List V) : Prop where
  nA : ¬ W.A a
  len : us.length = ks.length
  at_ : H a = some (.dK (kz ks us))
  r : Reps K M H xs us
theorem Dk.ext {M : Addr → Prop} {H H' : Hp} {a : Addr} {ks : List Str} {xs : List D} {us : List V} (h : Dk K W M H a ks xs us) (m : MOk W M H) (e : Ext W H H') : Dk K W M H' a ks xs us := ⟨h.nA, h.len, e _ _ h.nA h.at_, h.r.ext m e⟩
theorem Sat.dk {M0 : Addr → Prop} {H0 H : Hp} {oa : Nat → AS} {σ : L2.St} {ds : List Sl} (S : Sat K W M0 H0 oa H σ ds) {i : Nat} {P : List Str → List D → Prop} (h : dkS (ds.getD i .un) P) :
    ∃ ks xs a us, P ks xs ∧ σ[i]? = some (some (.ref a)) ∧ Dk K W (Mx M0 oa) H a ks xs us := by
  rw [List.getD_eq_getElem?_getD] at h
  cases e : ds[i]? with
  | none => rw [e] at h; exact h.elim
  | some s =>
    rw [e] at h
    cases s with
    | un => exact h.elim
    | ml l => exact h.elim
    | mi a C ks l => exact h.elim
    | ow t => exact h.elim
    | md ks l =>
      obtain ⟨a, us, e1, e2, e3, e4, r⟩ := S.slot i _ e
      exact ⟨ks, l, a, us, h, e2, S.own_nA (i := i) (by rw [e1]; rfl), e3, e4, r⟩
    | d x =>
      cases x with
      | dic ks xs =>
        obtain ⟨_, v, e1, r⟩ := S.slot i _ e
        obtain ⟨a, us, rfl, m, l, t, r2⟩ := r.dic
        exact ⟨ks, xs, a, us, h, e1, fun z => m (.inl (S.wm a z)), l, t, r2⟩
      | _ => exact h.elim
theorem rep_dk {M : Addr → Prop} {H : Hp} {ks : List Str} {xs : List D} {v : V} (m : MOk W M H) (h : Rep K M H (.dic ks xs) v) : ∃ a us, v = .ref a ∧ Dk K W M H a ks xs us := by
  obtain ⟨a, us, rfl, n, l, t, r2⟩ := h.dic
  exact ⟨a, us, rfl, fun z => n (m.wm a z), l, t, r2⟩
theorem dk_get {M : Addr → Prop} {H : Hp} {a : Addr} {ks : List Str} {xs : List D} {us : List V} {s : Str} (h : Dk K W M H a ks xs us) : ∃ o, DGet H a (.str s) o ∧ ((∃ d v, lkp ks xs s = some d ∧ o = some v ∧ Rep K M H d v) ∨ (lkp ks xs s = none ∧ o = none)) := by
  rcases lkp_rep (s := s) h.r h.len with ⟨d, v, e1, e2, r⟩ | ⟨e1, e2⟩
  · exact ⟨some v, by rw [← e2]; exact DGet.k (k := Sum.inr s) h.at_, .inl ⟨d, v, e1, rfl, r⟩⟩
  · exact ⟨none, by rw [← e2]; exact DGet.k (k := Sum.inr s) h.at_, .inr ⟨e1, rfl⟩⟩
section
variable {i : Nat} {x : Str} {k z : Expr} {pos p apos cpos : Pos} {wk wz : WE}
end
def rIxD : R2 := fun x y H Q => ∃ a v, x = .ref a ∧ DGet H a y (some v) ∧ Q v H
theorem ix_dic (hu : X.A.units + 64 < cLine) : IxR X rIxD := by
  intro value slice pins s σ H x y v u Q I rx ry h hs
  obtain ⟨a, z, rfl, g, q⟩ := h
  obtain rfl : v = Value.ref a := rx
  exact tail_any (dict_typeIs I g) PySem.F.slot_dict_getitem.lookup (d_getItem (by omega) I g ry fun w' s3 I3 rw' => ⟨z, H, I3, rw', q⟩) hs
def ixA : D → D → (D → Prop) → Prop
  | .tup xs, .int i, P => ∃ d, atI xs i = some d ∧ P d
  | .lst xs, .int i, P => ∃ d, atI xs i = some d ∧ P d
  | .str z, .int i, P => z.length ≤ sizeLine ∧ ∃ c, atI z.cps.toList i = some c ∧ P (.str ⟨#[c]⟩)
  | .dic ks xs, .str s, P => ∃ d, lkp ks xs s = some d ∧ P d
  | _, _, _ => False
theorem lift_ixA : LiftOp K W ixA (fun x y H Q => rIx K x y H Q ∨ rIxD x y H Q) := by
  intro M H x y v u P Q m r1 r2 h k
  cases x with
  | tup xs => cases y with
    | int i => exact .inl (lift_ix (W := W) M H (.tup xs) (.int i) v u P Q m r1 r2 h k)
    | _ => exact h.elim
  | lst xs => cases y with
    | int i => exact .inl (lift_ix (W := W) M H (.lst xs) (.int i) v u P Q m r1 r2 h k)
    | _ => exact h.elim
  | str xs => cases y with
    | int i => exact .inl (lift_ix (W := W) M H (.str xs) (.int i) v u P Q m r1 r2 h k)
    | _ => exact h.elim
  | dic ks xs => cases y with
    | str s =>
      obtain ⟨d, hl, hp⟩ := h
      obtain ⟨a, us, rfl, dk⟩ := rep_dk m r1
      have e := r2.str
      subst e
      obtain ⟨o, g, ⟨d2, v2, h1, rfl, r3⟩ | ⟨h1, _⟩⟩ := dk_get (s := s) dk
      · rw [hl] at h1
        cases h1
        exact .inr ⟨a, v2, rfl, g, k _ _ H hp (Ext.refl H) m.wi r3⟩
      · rw [hl] at h1; cases h1
    | _ => exact h.elim
  | _ => exact h.elim
theorem IxR.or' {r r' : R2} (h : IxR X r) (h' : IxR X r') : IxR X (fun x y H Q => r x y H Q ∨ r' x y H Q) := by
  intro value slice pins s σ H x y v u Q I r1 r2 q hs
  rcases q with q | q
  · exact h value slice pins s σ H x y v u Q I r1 r2 q hs
  · exact h' value slice pins s σ H x y v u Q I r1 r2 q hs
theorem ve_ixA {a b : Expr} {pos : Pos} {wa wb : WE} (hu : X.A.units + 64 < cLine) (ha : VE X W a wa) (hb : VE X W b wb) (hs : PlainIx b := by exact fun _ _ => rfl) : VE X W (.Subscript a b pos) (wOp ixA wa wb) :=
  pe_imp (pe_ix (IxR.or' ix_seq (ix_dic hu)) ha hb hs) (le_op lift_ixA)
theorem strs_of : ∀ (ys : List Str), ∀ {M : Addr → Prop} {H : Hp}, Reps K M H (ys.map D.str) (ys.map V.str)
  | [], _, _ => reps_nil
  | _ :: ys, _, _ => reps_cons rep_str (strs_of ys)
theorem kz_keys {ks : List Str} {us : List V} (l : us.length = ks.length) : (kz ks us).map (·.1) = ks.map Sum.inr := by
  unfold kz
  rw [List.map_fst_zip (by simp [l])]
def listA : List D → (D → Prop) → Prop
  | [.tup xs], P => P (.lst xs)
  | [.lst xs], P => P (.lst xs)
  | [.dic ks xs], P => P (.lst (ks.map D.str))
  | _, _ => False
def rListA (K : PySem.W.Frag) : List V → Hp → VK → Prop := fun xs H Q => (∃ p ys, xs = [.ref p] ∧ (SqL K H p ys ∨ SqT K H p ys) ∧ ∀ l, H l = none → Q (.ref l) (upd H l (.lst ys))) ∨
  (∃ (a : Addr) (kvs : List (Key × V)), xs = [.ref a] ∧ Rd H a (.dK kvs) ∧ ∀ p, H p = none → Q (.ref p) (upd H p (.lst (kvs.map fun kv => kV kv.1))))
theorem cr_listA (hc : X.calm = true) : CallR X (.type "list") (rListA X.K) := CallR.or call_list_of (call_listD hc)
theorem kz_vals {ks : List Str} {us : List V} (l : us.length = ks.length) : ((kz ks us).map fun kv => kV kv.1) = ks.map V.str := by
  have e : ((kz ks us).map fun kv => kV kv.1) = ((kz ks us).map (·.1)).map kV := by rw [List.map_map]; rfl
  rw [e, kz_keys l, List.map_map]
  rfl
theorem lift_listA : LiftCall K W listA (rListA K) := by
  intro M H xs vs P Q m r h k
  match xs, h with
  | [.tup ds], h => exact .inl (lift_list (W := W) M H [.tup ds] vs P Q m r h k)
  | [.lst ds], h => exact .inl (lift_list (W := W) M H [.lst ds] vs P Q m r h k)
  | [.dic ks xs], h =>
    obtain ⟨v, rfl, r1⟩ := r.one
    obtain ⟨a, us, rfl, dk⟩ := rep_dk m r1
    refine .inr ⟨a, _, rfl, .inl dk.at_, fun p hp => ?_⟩
    rw [kz_vals dk.len]
    exact k _ _ _ h (Full.new hp).ext (W.keep _ _ m.wi (Full.new hp)) (m.newL hp (strs_of _))
def revD : D → (D → Prop) → Prop
  | .lst xs, P => P (.lst xs.reverse)
  | _, _ => False
theorem ve_rev {e : Expr} {w : WE} {k : Nat} {p1 p2 p3 pos : Pos} (he : VE X W e w) : VE X W (.Subscript e (.Slice none none (some (.UnaryOp .USub (.Constant (.int 1) k p1) p2)) p3) pos) (fun ds P => w ds fun x => revD x P) := by
  refine pe_imp (pe_revL he) fun σ H Q h => ?_
  obtain ⟨M0, H0, oa, ds, P, S, hw, k⟩ := h
  refine ⟨M0, H0, oa, ds, _, S, hw, fun x v H1 hx e1 i1 r1 => ?_⟩
  cases x with
  | lst xs =>
    obtain ⟨a, us, rfl, t, q⟩ := r1.lst
    exact ⟨a, us, rfl, t.sq, fun p hp => k _ _ _ hx (e1.trans (Full.new hp).ext) (W.keep _ _ i1 (Full.new hp)) ((S.step e1 i1).mok.newL hp q.rev)⟩
  | _ => exact hx.elim
end
end VL
set_option Elab.async false
set_option linter.all false
set_option maxRecDepth 100000
set_option maxHeartbeats 2000000
namespace VL
open PySem PySem.Spec PyProof.Rows L2
section
variable {X : Cx} {W : Wd} {K : PySem.W.Frag} {e : Expr} {pos p : Pos}
theorem vt_fz (i : Nat) {t : WT} (h : VT X W e t) : VT X W e (fun ds P => t (fz i ds) P) := pt_imp h fun σ H Q ⟨M0, H0, oa, ds, P, S, hw, k⟩ => by
  obtain ⟨oa', S'⟩ := S.fz i
  exact ⟨M0, H0, oa', _, P, S', hw, k⟩
theorem rep_flat {M M' : Addr → Prop} {H : Hp} {d : D} {v : V} (h : Rep K M H d v) (f : flatD d = true) : Rep K M' H d v := by
  cases d with
  | non => rw [h.non]; exact rep_non
  | bl => rw [h.bl]; exact rep_bl
  | int => rw [h.int]; exact rep_int
  | str => rw [h.str]; exact rep_str
  | _ => cases f
theorem ve_fz (i : Nat) {w : WE} (h : VE X W e w) : VE X W e (fun ds P => w (fz i ds) fun d => flatD d = true ∧ P d) := pe_imp h fun σ H Q ⟨M0, H0, oa, ds, P, S, hw, k⟩ => by
  obtain ⟨oa', S'⟩ := S.fz i
  exact ⟨M0, H0, oa', _, _, S', hw, fun d v H' hp e1 i1 r => k d v H' hp.2 e1 i1 (rep_flat r hp.1)⟩
def lsS : Sl → (List D → Prop) → Prop
  | .ml xs, P => P xs
  | .d (.lst xs), P => P xs
  | _, _ => False
theorem Sat.ls {M0 : Addr → Prop} {H0 H : Hp} {oa : Nat → AS} {σ : L2.St} {ds : List Sl} (S : Sat K W M0 H0 oa H σ ds) {i : Nat} {P : List D → Prop} (h : lsS (ds.getD i .un) P) :
    ∃ l a xs, P l ∧ σ[i]? = some (some (.ref a)) ∧ (∀ H', Ext W H H' → SqL K H' a xs) ∧ Reps K (Mx M0 oa) H l xs := by
  rw [List.getD_eq_getElem?_getD] at h
  cases e : ds[i]? with
  | none => rw [e] at h; exact h.elim
  | some s =>
    rw [e] at h
    cases s with
    | un => exact h.elim
    | md ks l => exact h.elim
    | mi a C ks l => exact h.elim
    | ow t => exact h.elim
    | ml l =>
      obtain ⟨a, xs, e1, e2, e3, r⟩ := S.slot i _ e
      exact ⟨l, a, xs, h, e2, fun H' ex => SqL.of (ex a _ (S.own_nA (i := i) (by rw [e1]; rfl)) e3), r⟩
    | d x =>
      cases x with
      | lst l =>
        obtain ⟨_, v, e1, r⟩ := S.slot i _ e
        obtain ⟨a, xs, rfl, t, r2⟩ := r.lst
        exact ⟨l, a, xs, h, e1, fun H' ex => (t.car (S.mok.car ex)).sq, r2⟩
      | _ => exact h.elim
def wLIx (i : Nat) (wk : WE) : WE := fun ds P => lsS (ds.getD i .un) fun xs => wk ds fun k => asInt k fun j => ∃ d, atI xs j = some d ∧ P d
theorem ve_lix (i : Nat) {x : Str} {k : Expr} {wk : WE} (hk : VE X W k wk) (hN : X.N[i]? = some x := by rfl) (hv : Vis X.env.scope x := by first | exact Or.inl rfl | exact Or.inr (Or.inl rfl) | exact Or.inr (Or.inr rfl)) (hd : (x == ("__debug__" : Str)) = false := by decide)
    (hcd : (x == ("__classdict__" : Str)) = false := by decide) (hs : PlainIx k := by exact fun _ _ => rfl) : VE X W (.Subscript (.Name x p) k pos) (wLIx i wk) := by
  refine pe_imp (pe_ix ix_seq (pe_var hN hv hd hcd) hk hs) fun σ H Q h => ?_
  obtain ⟨M0, H0, oa, ds, P, S, hw, kk⟩ := h
  obtain ⟨l, a, xs, hp, hσ, hq, r⟩ := S.ls hw
  refine ⟨.ref a, hσ, M0, H0, oa, ds, _, S, hp, fun d v H1 hd e1 i1 r1 => ?_⟩
  cases d <;> first | exact hd.elim | skip
  rename_i j
  obtain ⟨d, h1, h2⟩ := hd
  obtain ⟨z, ez, rz⟩ := atI_rep r h1
  exact .inl ⟨a, xs, j, z, rfl, r1.int, hq H1 e1, ez, kk _ _ H1 h2 e1 i1 (rz.ext S.mok e1)⟩
theorem ve_callD {CX : CXT} {k : Nat} {f : Addr} {fd : FuncData} {ps : List Str} {g : List D → (D → Prop) → Prop} {dvs : List V} {dds : List D} {es : List Expr} {x : Str} {l : WL} {E : XK}
    (F : FnOk X.prog X.w X.K X.mg X.base CX k f fd ps (spD X.K W g)) (hr : Room k X.A) (hg : Gl X x) (hm : X.mg x = some (.ref f)) (hk : PySem.W.keepIn X.K (.ref f) = true) (hb : ∃ ds, Vals dvs ds ∧ Binds X.K fd ps ds) (hx : Passes CX X E) (hdd : ∀ M H, Reps X.K M H dds dvs)
    (ha : VA X W (e :: es) l) (hdb : (x == ("__debug__" : Str)) = false := by decide) (he : starEach (e :: es) X.env = (false, eval e X.env) :: starEach es X.env := by rfl) (hpl : (backTo pos (starEach es X.env)).any (·.1) = false := by rfl) :
    VE X W (.Call (.Name x p) (e :: es) [] pos) (wCall (fun xs P => g (xs ++ dds) P) l) := by
  obtain ⟨ds, h1, h2⟩ := hb
  exact ve_call F hr hg hm hk h2 h1 hx hdd ha hdb he hpl
theorem vfnD {P : Program} {w : World} {mg : Str → Option Value} {base : Heap} {x qual : Str} {st : Stmt} {f : Addr} {fd : FuncData} {N ps : List Str} {dvs : List V} {kws : List (Str × V)} {k : Nat} {g : List D → (D → Prop) → Prop}
    (F : FunD K x qual (defArgs st) (defBody st) (defScope st) dvs kws f fd) (S : FnScope N ps (defScope st))
    (len : ∀ ds P, g ds P → ds.length = ps.length)
    (hb : ∃ wb : WS, (∀ (cdv : Value) (A : Around) (outer : List Env) (s : Shared) (H : Hp) (E : XK), Room k (A.deeper (envOfC qual (defScope st) s.heap.objs.size f cdv)) → VSs (cxOf CX0 P w K mg base N qual (defScope st) f cdv A outer s H E).nox W.pl (defBody st) wb) ∧
      ∀ ds Q, g ds Q → wb (endsD Q) (startD N ds)) : FnOk P w K mg base CX0 (k + 1) f fd ps (spD K W g) := by
  obtain ⟨wb, h1, h2⟩ := hb
  refine F.ok S (fun vs H Q E h => ?_) (fun cdv A outer s H vs Q E hr h => ⟨LS K W.pl wb, (h1 cdv A outer s H E hr).nox, ?_⟩)
  · obtain ⟨M, ds, P, m, r, hg, _⟩ := h
    rw [r.len, len ds P hg]
  · obtain ⟨M, ds, P, m, r, hg, k⟩ := h
    have hl : ds.length ≤ N.length := by
      have q := congrArg List.length S.pre
      rw [List.length_take] at q
      rw [len ds P hg]
      omega
    refine ⟨M, H, fun _ => no1, startD N ds, endsD P, sat_start (W := W.pl) ⟨m.wm, m.live, m.wi, m.nb, m.nx⟩ r hl (fun _ z => z.elim) (fun _ _ _ z => by cases z), h2 ds P hg, fun ds' oa' σ' H' hn S' => ?_, fun d v H' hd e i r' => k d v H' hd e i r', fun _ _ _ _ z => z.elim, fun _ _ _ _ z => z.elim, fun _ _ _ _ _ _ z => z.elim⟩
    exact k .non .non H' hn S'.ext S'.wi rep_non
abbrev VK (X : Cx) (W : Wd) (es : List Keyword) (w : WL) : Prop := PK X es (LA X.K W w)
end
section
variable {X : Cx} {W : Wd} {e : Expr} {pos : Pos}
end
end VL
set_option Elab.async false
set_option linter.all false
set_option maxRecDepth 100000
set_option maxHeartbeats 2000000
namespace VL
open PySem PySem.Spec PyProof.Rows L2
inductive Kz | l | t
def SqK (k : Kz) (K : PySem.W.Frag) (H : Hp) (a : Addr) (xs : List V) : Prop := match k with
  | .l => SqL K H a xs
  | .t => SqT K H a xs
def IsK (k : Kz) (h : Heap) (a : Addr) (its : Array Value) : Prop := match k with
  | .l => h.IsList a its
  | .t => h.IsTuple a its
def IterK (k : Kz) (h : Heap) (it a : Addr) (i : Nat) : Prop := match k with
  | .l => h.IsListIter it a i
  | .t => h.IsTupleIter it a i
theorem drawsK {prog : Program} {w : World} {A : Around} (k : Kz) (hh : A.handled = none) (it a : Addr) (hne : a ≠ it) (items : Array Value) :
    Draws prog w A it [it, a] items.size (fun i v => items[i]? = some v) (fun i h => IterK k h it a i ∧ IsK k h a items) := by
  cases k with
  | l => exact Draws.list hh it a hne items
  | t => exact Draws.tuple hh it a hne items
def itObj (k : Kz) (a : Addr) : Obj := match k with
  | .l => { cls := .type "list_iterator", data := .fields #[.ref a, .int 0 0] }
  | .t => { cls := .type "tuple_iterator", data := .fields #[.ref a, .int 0 0] }
theorem beginsK (k : Kz) (a : Addr) (items : Array Value) : Begins (.ref a) (itObj k a) fun h => IsK k h a items := by
  cases k with
  | l => exact begins_list a items
  | t => exact begins_tuple a items
theorem iterK0 {k : Kz} {h : Heap} {it a : Addr} (e : h.get? it = some (itObj k a)) : IterK k h it a 0 := by
  cases k with
  | l => exact ⟨_, e, rfl, rfl⟩
  | t => exact ⟨_, e, rfl, rfl⟩
theorem IterK.at {k : Kz} {h h' : Heap} {it a : Addr} {i : Nat} (x : IterK k h it a i) (c : ∀ o, h.get? it = some o → h'.get? it = some o) : IterK k h' it a i := by
  cases k with
  | l => exact Heap.IsListIter.at x c
  | t => exact Heap.IsTupleIter.at x c
theorem IterK.obj {k : Kz} {h : Heap} {it a : Addr} {i : Nat} (x : IterK k h it a i) : ∃ o, h.get? it = some o ∧ ∀ v, o.data ≠ .cell v := by
  cases k with
  | l => obtain ⟨o, e, _, d⟩ := x; exact ⟨o, e, fun v q => by rw [d] at q; cases q⟩
  | t => obtain ⟨o, e, _, d⟩ := x; exact ⟨o, e, fun v q => by rw [d] at q; cases q⟩
section
variable {X : Cx} {pins : List (Addr × Obj)} {σ : L2.St} {H : Hp} {s : Shared} {a : Addr} {xs ys : List V} {k : Kz}
theorem seqK (I : Inv X pins σ H s) (h : SqK k X.K H a xs) : ∃ its : List Value, Vals xs its ∧ IsK k s.heap a its.toArray ∧ a < s.heap.objs.size := by
  cases k with
  | l =>
    obtain ⟨its, r, p, _⟩ := I.list h
    exact ⟨its, r, p.isList, p.lt⟩
  | t =>
    obtain ⟨its, r, p, _⟩ := I.tuple h
    obtain ⟨o, ho, _⟩ := id p
    exact ⟨its, r, p, Heap.lt_size ho⟩
theorem seqK_inj (I : Inv X pins σ H s) (h : SqK k X.K H a xs) (h' : SqK k X.K H a ys) : xs = ys := by
  cases k with
  | l => exact I.list_inj h h'
  | t => exact I.tuple_inj h h'
end
def ItzK (K : PySem.W.Frag) (k1 k2 : Kz) (a b : Addr) : It :=
  ⟨fun i H => ∃ (xs ys : List V) (x y : V), SqK k1 K H a xs ∧ SqK k2 K H b ys ∧ xs[i]? = some x ∧ ys[i]? = some y,
    fun i H v H' => ∃ T x y, v = .ref T ∧ H T = none ∧ H' = upd H T (.tup [x, y]) ∧ (∀ xs, SqK k1 K H a xs → xs[i]? = some x) ∧ ∀ ys, SqK k2 K H b ys → ys[i]? = some y,
    fun i H => ∃ xs ys : List V, SqK k1 K H a xs ∧ SqK k2 K H b ys ∧ (xs.length = i ∧ i ≤ ys.length ∨ ys.length = i ∧ i ≤ xs.length)⟩
structure Apart (z TI TO i1 i2 a b : Addr) : Prop where
  TIz : TI ≠ z
  TOz : TO ≠ z
  TITO : TI ≠ TO
  TIi1 : TI ≠ i1
  TIi2 : TI ≠ i2
  zi1 : z ≠ i1
  zi2 : z ≠ i2
  TOi1 : TO ≠ i1
  TOi2 : TO ≠ i2
  i12 : i1 ≠ i2
  za : z ≠ a
  zb : z ≠ b
  TOa : TO ≠ a
  TOb : TO ≠ b
  ai1 : a ≠ i1
  ai2 : a ≠ i2
  bi1 : b ≠ i1
  bi2 : b ≠ i2
theorem apart_of (n a b : Nat) (l1 : a < n) (l2 : b < n) : Apart (n + 4) (n + 2) (n + 3) n (n + 1) a b := by
  constructor <;> (show ¬ (_ : Nat) = _; omega)
theorem Apart.sep {z TI TO i1 i2 a b : Addr} (D : Apart z TI TO i1 i2 a b) : ZipSep2 z TI TO i1 i2 [i1, a] [i2, b] where
  TIz := D.TIz
  TOz := D.TOz
  TITO := D.TITO
  TIi1 := D.TIi1
  mem1 := by simp
  zf1 := by simp [D.zi1, D.za]
  Tf1 := by simp [D.TOi1, D.TOa]
  TIi2 := D.TIi2
  mem2 := by simp
  zf2 := by simp [D.zi2, D.zb]
  Tf2 := by simp [D.TOi2, D.TOb]
  sep1_2 := by simp [D.i12, Ne.symm D.bi1]
  sep2_1 := by simp [Ne.symm D.i12, Ne.symm D.ai2]
theorem turn_zipK {P : Program} {w : World} {K : PySem.W.Frag} {elts : List Expr} {kk : Nat} {tpos : Pos} {k1 k2 : Kz} {a b z TI TO i1 i2 : Addr} (D : Apart z TI TO i1 i2 a b) :
    Turn P w K (.Tuple elts kk tpos) (ItzK K k1 k2 a b) [z, TI, TO, i1, i2] z (fun i h => IsZip h z TI TO .none ∧ IsTupOf2 h TI (.ref i1) (.ref i2) ∧ (∃ x y, IsTupOf2 h TO x y) ∧ IterK k1 h i1 a i ∧ IterK k2 h i2 b i) where
  mem := by simp
  obj := fun i h st c hc => by
    obtain ⟨hz, hTI, ⟨x, y, hTO⟩, h1, h2⟩ := st
    obtain ⟨o1, e1, d1⟩ := h1.obj
    obtain ⟨o2, e2, d2⟩ := h2.obj
    have e' : c = z ∨ c = TI ∨ c = TO ∨ c = i1 ∨ c = i2 := by simpa using hc
    rcases e' with q | q | q | q | q
    · rw [q]; exact ⟨_, hz, fun v q => nomatch q⟩
    · rw [q]; exact ⟨_, hTI, fun v q => nomatch q⟩
    · rw [q]; exact ⟨_, hTO, fun v q => nomatch q⟩
    · rw [q]; exact ⟨o1, e1, d1⟩
    · rw [q]; exact ⟨o2, e2, d2⟩
  keep := fun i h h' st k => by
    obtain ⟨hz, hTI, ⟨x, y, hTO⟩, h1, h2⟩ := st
    exact ⟨k z (by simp) _ hz, k TI (by simp) _ hTI, ⟨x, y, k TO (by simp) _ hTO⟩, h1.at fun o q => k i1 (by simp) o q, h2.at fun o q => k i2 (by simp) o q⟩
  item := by
    intro X hP hw hK hc i pins s σ H E I hf st hg
    subst hP hw hK
    obtain ⟨hz, hTI, ⟨x0, y0, hTO⟩, h1, h2⟩ := st
    obtain ⟨xs, ys, x, y, hqx, hqy, hx, hy⟩ := hg
    obtain ⟨its, rv, p, _⟩ := seqK I hqx
    obtain ⟨its2, rv2, p2, _⟩ := seqK I hqy
    obtain ⟨u, hu, ru⟩ := rv.get hx
    obtain ⟨u2, hu2, ru2⟩ := rv2.get hy
    have hzl : z < s.heap.objs.size := Heap.lt_size hz
    have hh : X.A.in1.handled = none := I.ok.hd hc
    have lt1 : i < its.toArray.size := by rw [List.size_toArray]; exact (List.getElem?_eq_some_iff.mp hu).1
    have lt2 : i < its2.toArray.size := by rw [List.size_toArray]; exact (List.getElem?_eq_some_iff.mp hu2).1
    refine wpAny_pyNext_zipD2_item D.sep (drawsK k1 hh i1 a D.ai1 its.toArray) (drawsK k2 hh i2 b D.bi2 its2.toArray) hz hTI hTO ⟨h1, p⟩ ⟨h2, p2⟩ lt1 lt2 fun v1 v2 h' tk y1 y2 z' TO' st1 st2 hT hsz hk => ?_
    obtain rfl : u = v1 := by
      have : some u = some v1 := by rw [← y1]; simpa using hu.symm
      exact Option.some.inj this
    obtain rfl : u2 = v2 := by
      have : some u2 = some v2 := by rw [← y2]; simpa using hu2.symm
      exact Option.some.inj this
    obtain ⟨h1', _⟩ := st1
    obtain ⟨h2', _⟩ := st2
    refine ⟨_, rfl, wpAny_letOwnedTupleGo_zip (s := { s with heap := h', toks := tk }) z' fun h'' z'' sb => ?_⟩
    have hT2 : h''.get? s.heap.objs.size = some { cls := .type "tuple", data := .seq #[u, u2] } := (sb.2 _ (Nat.ne_of_gt hzl)).trans hT
    have new : ObjOk X.prog X.w (upd H s.heap.objs.size (.tup [x, y])) h'' s.heap.objs.size (.tup [x, y]) :=
      ⟨by show 2 ≤ sizeLine; decide, [u, u2], .cons ru (.cons ru2 .nil), ⟨_, hT2, rfl, _, rfl⟩⟩
    have I1 : Inv X pins σ (upd H s.heap.objs.size (.tup [x, y])) { s with heap := h'', toks := tk } :=
      I.turnedNew (t' := tk) (ch := [z, TI, TO, i1, i2]) (fun c o hb q => (sb.2 c (fun q' => hb (by simp [q']))).trans (hk c o (fun q' => hb (by simp [q'])) (fun q' => hb (by simp [q'])) (fun q' => hb (by simp [q'])) (fun q' => hb (by simp [q'])) q)) hf (Nat.le_refl _) new
    refine ⟨.ref s.heap.objs.size, _, I1, rfl, ⟨_, x, y, rfl, I.hok.fresh (Nat.le_refl _), rfl, fun l hl => by rw [seqK_inj I hl hqx]; exact hx, fun l hl => by rw [seqK_inj I hl hqy]; exact hy⟩, ⟨z'', ?_, ⟨u, u2, ?_⟩, ?_, ?_⟩, fun c hcm => ?_⟩
    · exact (sb.2 _ D.TIz).trans (hk _ _ D.TIz D.TITO D.TIi1 D.TIi2 hTI)
    · exact (sb.2 _ D.TOz).trans TO'
    · exact h1'.at fun o q => (sb.2 _ (Ne.symm D.zi1)).trans q
    · exact h2'.at fun o q => (sb.2 _ (Ne.symm D.zi2)).trans q
    · have hlt : c < s.heap.objs.size := by
        have e' : c = z ∨ c = TI ∨ c = TO ∨ c = i1 ∨ c = i2 := by simpa using hcm
        rcases e' with q | q | q | q | q
        · rw [q]; exact hzl
        · rw [q]; exact Heap.lt_size hTI
        · rw [q]; exact Heap.lt_size hTO
        · rw [q]; obtain ⟨_, e1, _⟩ := h1.obj; exact Heap.lt_size e1
        · rw [q]; obtain ⟨_, e2, _⟩ := h2.obj; exact Heap.lt_size e2
      rw [upd_ne (Nat.ne_of_lt hlt)]
      exact (hf c hcm).1
  done := by
    intro X hP hw hK hc i pins s σ H E I hf st hg
    subst hP hw hK
    obtain ⟨hz, hTI, ⟨x0, y0, hTO⟩, h1, h2⟩ := st
    obtain ⟨xs, ys, hqx, hqy, hend⟩ := hg
    obtain ⟨its, rv, p, _⟩ := seqK I hqx
    obtain ⟨its2, rv2, p2, _⟩ := seqK I hqy
    have l1 : xs.length = its.toArray.size := by rw [List.size_toArray]; exact rv.length
    have l2 : ys.length = its2.toArray.size := by rw [List.size_toArray]; exact rv2.length
    have hh : X.A.in1.handled = none := I.ok.hd hc
    refine wpAny_pyNext_zipD2_end D.sep (drawsK k1 hh i1 a D.ai1 its.toArray) (drawsK k2 hh i2 b D.bi2 its2.toArray) hz hTI hTO ⟨h1, p⟩ ⟨h2, p2⟩ (by omega) (by omega) (by omega) fun h' tk hk => ⟨rfl, I.turnedL (t' := tk) (ch := [z, TI, TO, i1, i2]) (fun c o hb q =>
      hk c o (fun q' => hb (by simp [q'])) (fun q' => hb (by simp [q'])) (fun q' => hb (by simp [q'])) (fun q' => hb (by simp [q'])) q) hf⟩
  self := fun A i s Q E st h => wpAny_pyIter_zip st.1 h
def iZipK (K : PySem.W.Frag) (ta : TA) : TI := fun σ H R => ta σ H fun vs H1 => ∃ k1 k2 a b xs ys, vs = [.ref a, .ref b] ∧ SqK k1 K H1 a xs ∧ SqK k2 K H1 b ys ∧ R (ItzK K k1 k2 a b) H1
theorem pi_zipK {X : Cx} {e e2 : Expr} {ta : TA} {p pos tpos : Pos} {elts : List Expr} {kk : Nat} (hg : Gl X "zip") (hm : X.mg "zip" = none) (ha : PA X [e, e2] ta)
    (hs : starEach [e, e2] X.env = (false, eval e X.env) :: starEach [e2] X.env := by rfl) (hpl : (backTo pos (starEach [e2] X.env)).any (·.1) = false := by rfl) :
    PI X (.Tuple elts kk tpos) (.Call (.Name "zip" p) [e, e2] [] pos) (iZipK X.K ta) := by
  refine ⟨fun pins s σ H R I h => ?_⟩
  refine Call_ (ld_blt I hg hm PyProof.Rows.boot_zip (PyProof.Rows.callWith_type1 (thn (ha.run pos pins s σ H _ I h) fun us s1 ⟨vs, H1, I1, r1, q1⟩ => ?_) hs hpl))
  obtain ⟨k1, k2, a, b, xs, ys, ex, hqx, hqy, q⟩ := q1
  subst ex
  cases r1 with
  | cons r rr =>
    cases rr with
    | cons r' rr =>
      cases rr
      cases r
      cases r'
      have fresh5 : ∀ c, c ∈ [s1.heap.objs.size + 4, s1.heap.objs.size + 2, s1.heap.objs.size + 3, s1.heap.objs.size, s1.heap.objs.size + 1] → FpOk X pins H1 c := fun c hcm => by
        have e' : c = s1.heap.objs.size + 4 ∨ c = s1.heap.objs.size + 2 ∨ c = s1.heap.objs.size + 3 ∨ c = s1.heap.objs.size ∨ c = s1.heap.objs.size + 1 := by simpa using hcm
        have hle : s1.heap.objs.size ≤ c := by
          rcases e' with z | z | z | z | z
          · rw [z]; exact Nat.le_add_right _ _
          · rw [z]; exact Nat.le_add_right _ _
          · rw [z]; exact Nat.le_add_right _ _
          · rw [z]; exact Nat.le_refl _
          · rw [z]; exact Nat.le_add_right _ _
        exact I1.fpOk hle (I1.hok.fresh hle)
      obtain ⟨its, rv, p1, lt1⟩ := seqK I1 hqx
      obtain ⟨its2, rv2, p2, lt2⟩ := seqK I1 hqy
      refine zip_begins2 (beginsK k1 a its.toArray) (beginsK k2 b its2.toArray) p1 p2 fun h' hz hTI hTO h1 h2 hsz hk => wpAny_pyIter_zip hz ?_
      have I2 : Inv X pins σ H1 { s1 with heap := h' } := I1.kept (t' := s1.toks) hk
      have ap := apart_of s1.heap.objs.size a b lt1 lt2
      exact ⟨s1.heap.objs.size + 4, [s1.heap.objs.size + 4, s1.heap.objs.size + 2, s1.heap.objs.size + 3, s1.heap.objs.size, s1.heap.objs.size + 1], _, _, H1, rfl, I2, turn_zipK ap, ⟨hz, hTI, ⟨_, _, hTO⟩, iterK0 h1, iterK0 h2⟩, fresh5, q⟩
section
variable {K : PySem.W.Frag} {W : Wd} {M : Addr → Prop} {H1 : Hp}
def SeqM (k : Kz) (K : PySem.W.Frag) (M : Addr → Prop) (H : Hp) (a : Addr) (xs : List V) : Prop := match k with
  | .l => LstM K M H a xs
  | .t => TupM K M H a xs
theorem SeqM.sq {k : Kz} {a : Addr} {xs : List V} (h : SeqM k K M H1 a xs) : SqK k K H1 a xs := by
  cases k with
  | l => exact LstM.sq h
  | t => exact TupM.sq h
theorem SeqM.car {k : Kz} {M' : Addr → Prop} {H' : Hp} {a : Addr} {xs : List V} (c : Car M M' H1 H') (h : SeqM k K M H1 a xs) : SeqM k K M' H' a xs := by
  cases k with
  | l => exact LstM.car c h
  | t => exact TupM.car c h
theorem itok_zk {k1 k2 : Kz} {a b : Addr} {xs ys : List V} {ds es : List D} (t : SeqM k1 K M H1 a xs) (r : Reps K M H1 ds xs) (t' : SeqM k2 K M H1 b ys) (r' : Reps K M H1 es ys) : ItOk K W M H1 (ItzK K k1 k2 a b) (zipsD ds es) := fun M2 H2 c m => by
  have u1 := (t.car c).sq
  have u2 := (t'.car c).sq
  refine ⟨fun i hi => ?_, fun i hi hi2 => ⟨xs, ys, u1, u2, ?_⟩, fun i d x H3 hd hy => ?_⟩
  · rw [zips_len] at hi
    obtain ⟨x, hx⟩ := get_lt (xs := xs) (i := i) (by rw [r.len]; omega)
    obtain ⟨y, hy⟩ := get_lt (xs := ys) (i := i) (by rw [r'.len]; omega)
    exact ⟨xs, ys, x, y, u1, u2, hx, hy⟩
  · rw [zips_len] at hi hi2
    rw [r.len, r'.len]
    omega
  · obtain ⟨T, x', y', rfl, hT, rfl, g1, g2⟩ := hy
    obtain ⟨dx, dy, h1, h2, rfl⟩ := zips_get hd
    obtain ⟨v1, hv1, rv1⟩ := r.get h1
    obtain ⟨v2, hv2, rv2⟩ := r'.get h2
    have q1 := g1 xs u1
    have q2 := g2 ys u2
    rw [hv1] at q1
    rw [hv2] at q2
    cases q1
    cases q2
    exact ⟨Full.new hT, m.newT hT (reps_cons (rv1.car c) (reps_cons (rv2.car c) reps_nil))⟩
def zipK : D → D → (List D → Prop) → Prop
  | .lst xs, .lst ys, P => xs.length ≤ 1000000 ∧ P (zipsD xs ys)
  | .tup xs, .tup ys, P => xs.length ≤ 1000000 ∧ P (zipsD xs ys)
  | .lst xs, .tup ys, P => xs.length ≤ 1000000 ∧ P (zipsD xs ys)
  | .tup xs, .lst ys, P => xs.length ≤ 1000000 ∧ P (zipsD xs ys)
  | _, _, _ => False
theorem zipK_of {x y : D} {v u : V} {P : List D → Prop} (h : zipK x y P) (r1 : Rep K M H1 x v) (r2 : Rep K M H1 y u) :
    ∃ k1 k2 a b xs ys ds es, v = .ref a ∧ u = .ref b ∧ SeqM k1 K M H1 a xs ∧ SeqM k2 K M H1 b ys ∧ Reps K M H1 ds xs ∧ Reps K M H1 es ys ∧ ds.length ≤ 1000000 ∧ P (zipsD ds es) := by
  cases x <;> cases y <;> first
    | exact h.elim
    | (obtain ⟨a, vs, rfl, t, q⟩ := r1.lst; obtain ⟨b, us, rfl, t', q'⟩ := r2.lst; exact ⟨.l, .l, a, b, vs, us, _, _, rfl, rfl, t, t', q, q', h.1, h.2⟩)
    | (obtain ⟨a, vs, rfl, t, q⟩ := r1.tup; obtain ⟨b, us, rfl, t', q'⟩ := r2.tup; exact ⟨.t, .t, a, b, vs, us, _, _, rfl, rfl, t, t', q, q', h.1, h.2⟩)
    | (obtain ⟨a, vs, rfl, t, q⟩ := r1.lst; obtain ⟨b, us, rfl, t', q'⟩ := r2.tup; exact ⟨.l, .t, a, b, vs, us, _, _, rfl, rfl, t, t', q, q', h.1, h.2⟩)
    | (obtain ⟨a, vs, rfl, t, q⟩ := r1.tup; obtain ⟨b, us, rfl, t', q'⟩ := r2.lst; exact ⟨.t, .l, a, b, vs, us, _, _, rfl, rfl, t, t', q, q', h.1, h.2⟩)
def wZipK (wa wb : WE) : WI := fun ds P => wa ds fun x => wb ds fun y => zipK x y P
theorem vi_zipK {X : Cx} {e e2 : Expr} {wa wb : WE} {p pos tpos : Pos} {elts : List Expr} {kk : Nat} (hg : Gl X "zip") (hm : X.mg "zip" = none) (ha : VE X W e wa) (hb : VE X W e2 wb)
    (hs : starEach [e, e2] X.env = (false, eval e X.env) :: starEach [e2] X.env := by rfl) (hpl : (backTo pos (starEach [e2] X.env)).any (·.1) = false := by rfl) (hs2 : starEach [e2] X.env = (false, eval e2 X.env) :: starEach [] X.env := by rfl) :
    VI X W (.Tuple elts kk tpos) (.Call (.Name "zip" p) [e, e2] [] pos) (wZipK wa wb) := by
  refine pi_imp (pi_zipK hg hm (pa_cons ha (pa_cons hb pa_nil hs2) hs) hs hpl) fun σ H R h => ?_
  obtain ⟨M0, H0, oa, ds, P, S, hw, k⟩ := h
  refine ⟨M0, H0, oa, ds, _, S, hw, fun x v H1 hx e1 i1 r1 => ?_⟩
  have S1 := S.step e1 i1
  refine ⟨M0, H0, oa, ds, _, S1, hx, fun y u H2 hy e2 i2 r2 => ?_⟩
  have r1' := r1.ext S1.mok e2
  obtain ⟨k1, k2, a, b, xs, ys, es, fs, rfl, rfl, t, t', q, q', hl, hp⟩ := zipK_of hy r1' r2
  exact ⟨k1, k2, a, b, xs, ys, rfl, t.sq, t'.sq, k _ _ H2 hp (by rw [zips_len, sizeLine_eq]; omega) (e1.trans e2) i2 (itok_zk t q t' q')⟩
end
section
variable {K : PySem.W.Frag} {W : Wd} {X : Cx}
theorem reps_rep {M : Addr → Prop} {H : Hp} {ds : List D} {vs : List V} (r : Reps K M H ds vs) : ∀ n : Nat, Reps K M H (List.replicate n ds).flatten (List.replicate n vs).flatten
  | 0 => reps_nil
  | n + 1 => by
    rw [List.replicate_succ, List.replicate_succ, List.flatten_cons, List.flatten_cons]
    exact r.app (reps_rep r n)
def wRep (l : WL) (wb : WE) : WE := fun ds P => l ds fun xs => xs.length ≤ 1000000 ∧ wb ds fun y => asInt y fun k => -1000000 ≤ k ∧ k ≤ 1000000 ∧ xs.length * k.toNat ≤ 1000000 ∧ P (.lst (List.replicate k.toNat xs).flatten)
theorem ve_rep {es : List Expr} {b : Expr} {l : WL} {wb : WE} {lp pos : Pos} (hl : VA X W es l) (hb : VE X W b wb) : VE X W (.BinOp (.List es lp) .Mult b pos) (wRep l wb) := by
  refine pe_imp (pe_op op_rep (pe_lst hl) hb) fun σ H Q h => ?_
  obtain ⟨M0, H0, oa, ds, P, S, hw, k⟩ := h
  refine ⟨M0, H0, oa, ds, _, S, hw, fun xs vs H1 hx e1 i1 r1 => ⟨by rw [r1.len, sizeLine_eq]; have := hx.1; omega, fun p hp => ?_⟩⟩
  have S1 := S.step e1 i1
  have S2 := S1.full (Full.new (o := .lst vs) hp)
  have nA : ¬ W.A p := fun z => W.live _ _ i1 z hp
  refine ⟨M0, H0, oa, ds, _, S2, hx.2, fun y u H2 hy e2 i2 r2 => ?_⟩
  cases y <;> first | exact hy.elim | skip
  rename_i j
  obtain ⟨h0, h1, h2, hy⟩ := hy
  have hp2 : H2 p = some (.lst vs) := e2 p _ nA upd_same
  have S3 := S2.step e2 i2
  have r3 := ((r1.ext S1.mok (Full.new (o := .lst vs) hp).ext).ext S2.mok e2)
  refine ⟨p, j, vs, rfl, r2.int, hp2, by omega, by omega, by rw [r1.len, sizeLine_eq]; omega, fun q hq => ?_⟩
  exact k _ _ _ hy (((e1.trans (Full.new hp).ext).trans e2).trans (Full.new hq).ext) (W.keep _ _ i2 (Full.new hq)) (S3.mok.newL hq (reps_rep r3 _))
end
section
variable {X : Cx} {W : Wd} {pos : Pos}
def wPar3 (i j l : Nat) (wa wb wc : WE) : WS := fun E ds => wa ds fun x => wb ds fun y => wc ds fun z => E.nx (((ds.set i (.d x)).set j (.d y)).set l (.d z))
theorem vs_par3 (i j l : Nat) {x y z : Str} {a b c : Expr} {wa wb wc : WE} {px py pz pt : Pos} {kt k2 pt2} (hc : X.calm = true) (hN : X.N.Nodup) (hij : i ≠ j) (hil : i ≠ l) (hjl : j ≠ l) (ha : VE X W a wa) (hb : VE X W b wb) (hcc : VE X W c wc)
    (hi : X.N[i]? = some x := by rfl) (hj : X.N[j]? = some y := by rfl) (hl : X.N[l]? = some z := by rfl)
    (hx : X.env.scope.names.lookup x = some .local := by rfl) (hy : X.env.scope.names.lookup y = some .local := by rfl) (hz : X.env.scope.names.lookup z = some .local := by rfl)
    (hw : swappedStores [.Tuple [.Name x px, .Name y py, .Name z pz] kt pt] (.Tuple [a, b, c] k2 pt2) X.env = pure (some [x, y, z]) := by rfl)
    (hs : swapsWithSole [.Tuple [.Name x px, .Name y py, .Name z pz] kt pt] (.Tuple [a, b, c] k2 pt2) pos.line X.env = pure false := by rfl)
    (hs1 : starEach [a, b, c] X.env = (false, eval a X.env) :: starEach [b, c] X.env := by rfl) (hs2 : starEach [b, c] X.env = (false, eval b X.env) :: starEach [c] X.env := by rfl) (hs3 : starEach [c] X.env = (false, eval c X.env) :: starEach [] X.env := by rfl) :
    VS X W (.Assign [.Tuple [.Name x px, .Name y py, .Name z pz] kt pt] (.Tuple [a, b, c] k2 pt2) pos) (wPar3 i j l wa wb wc) := by
  refine ps_imp (ps_par3 hc hN hi hj hl hij hil hjl hx hy hz (pa_cons ha (pa_cons hb (pa_cons hcc pa_nil hs3) hs2) hs1) hw hs) fun D σ H h => ?_
  obtain ⟨M0, H0, oa, ds, E, S, hw, k1, k2, k3, k4⟩ := h
  refine ⟨M0, H0, oa, ds, _, S, hw, fun d v H1 hd e1 i1 r1 => ?_⟩
  have S1 := S.step e1 i1
  refine ⟨M0, H0, oa, ds, _, S1, hd, fun d2 v2 H2 hd2 e2 i2 r2 => ?_⟩
  have S2 := S1.step e2 i2
  refine ⟨M0, H0, oa, ds, _, S2, hd2, fun d3 v3 H3 hd3 e3 i3 r3 => ?_⟩
  have S3 := S2.step e3 i3
  have S4 := S3.set (i := i) ((r1.ext S1.mok e2).ext S2.mok e3)
  have S5 := S4.set (i := j) ((r2.ext S2.mok e3).car car_del)
  exact ⟨v, v2, v3, rfl, k1 _ _ _ _ hd3 (S5.set (i := l) ((r3.car car_del).car car_del))⟩
end
end VL
set_option Elab.async false
set_option linter.all false
set_option maxRecDepth 100000
set_option maxHeartbeats 2000000
namespace VL
open PySem L2
def iabs (a : Int) : Int := if a < 0 then -a else a
theorem iabs_nonneg (a : Int) : 0 ≤ iabs a := by unfold iabs; split <;> omega
theorem iabs_eq (a : Int) : iabs a = (a.natAbs : Int) := by unfold iabs; split <;> omega
theorem gcd_abs (a b : Int) : Int.gcd (iabs a) (iabs b) = Int.gcd a b := by
  rw [iabs_eq, iabs_eq]
  rfl
theorem gcd_step {a b : Int} (ha : 0 ≤ a) (hb : 0 ≤ b) : Int.gcd b (a.fmod b) = Int.gcd a b := by
  rw [Int.fmod_eq_emod_of_nonneg a hb]
  obtain ⟨n, rfl⟩ := Int.eq_ofNat_of_zero_le ha
  obtain ⟨m, rfl⟩ := Int.eq_ofNat_of_zero_le hb
  show Nat.gcd m (n % m) = Nat.gcd n m
  rw [Nat.gcd_comm m, ← Nat.gcd_rec, Nat.gcd_comm]
theorem gcd_zero {a : Int} (ha : 0 ≤ a) : ((Int.gcd a 0 : Nat) : Int) = a := by
  rw [Int.gcd_zero_right]
  omega
structure Amt (n : Nat) (a b : Int) : Prop where
  pos : 0 < b
  cop : Int.gcd a b = 1
  ha : a.natAbs < 2 ^ n
  hb : b.natAbs < 2 ^ n
theorem Amt.mono {m n : Nat} {a b : Int} (h : Amt m a b) (hmn : m ≤ n) : Amt n a b :=
  ⟨h.pos, h.cop, Nat.lt_of_lt_of_le h.ha (Nat.pow_le_pow_right (by decide) hmn), Nat.lt_of_lt_of_le h.hb (Nat.pow_le_pow_right (by decide) hmn)⟩
def ratK (t b : Int) : Int := if 0 < b then (Int.gcd t b : Int) else 0 - (Int.gcd t b : Int)
def ratT (t b : Int) : Int := t.fdiv (ratK t b)
def ratB (t b : Int) : Int := b.fdiv (ratK t b)
def ratD (t b : Int) : D := .tup [.int (ratT t b), .int (ratB t b)]
theorem gcd_pos_of {t b : Int} (h : b ≠ 0) : 0 < Int.gcd t b := Int.gcd_pos_of_ne_zero_right t h
theorem ratK_ne {t b : Int} (h : b ≠ 0) : ratK t b ≠ 0 := by
  have := gcd_pos_of (t := t) h
  unfold ratK
  split <;> omega
theorem ratK_abs (t b : Int) : (ratK t b).natAbs = Int.gcd t b := by
  unfold ratK
  split <;> omega
theorem ratK_le {t b : Int} (h : b ≠ 0) : (ratK t b).natAbs ≤ b.natAbs := by
  rw [ratK_abs]
  exact Nat.le_of_dvd (by omega) (Nat.gcd_dvd_right _ _)
theorem fdiv_of {t k x : Int} (hk : k ≠ 0) (h : t = k * x) : t.fdiv k = x := by rw [h]; exact Int.mul_fdiv_cancel_left x hk
theorem rat_parts {t b : Int} (h : b ≠ 0) : t = ratK t b * ratT t b ∧ b = ratK t b * ratB t b ∧ 0 < ratB t b ∧ Int.gcd (ratT t b) (ratB t b) = 1 := by
  have hg := gcd_pos_of (t := t) h
  have dt : ((Int.gcd t b : Nat) : Int) ∣ t := Int.gcd_dvd_left t b
  have db : ((Int.gcd t b : Nat) : Int) ∣ b := Int.gcd_dvd_right t b
  have hc := Int.gcd_ediv_gcd_ediv_gcd_of_ne_zero_right (n := t) h
  obtain ⟨t', ht⟩ := dt
  obtain ⟨b', hb⟩ := db
  have hg' : ((Int.gcd t b : Nat) : Int) ≠ 0 := by omega
  have et : t / ((Int.gcd t b : Nat) : Int) = t' := Int.ediv_eq_of_eq_mul_right hg' ht
  have eb : b / ((Int.gcd t b : Nat) : Int) = b' := Int.ediv_eq_of_eq_mul_right hg' hb
  rw [et, eb] at hc
  unfold ratT ratB ratK
  generalize hG : ((Int.gcd t b : Nat) : Int) = g at *
  have g0 : 0 < g := by omega
  by_cases hp : 0 < b
  · rw [if_pos hp]
    have h1 := fdiv_of hg' ht
    have h2 := fdiv_of hg' hb
    rw [h1, h2]
    refine ⟨ht, hb, ?_, hc⟩
    exact Int.pos_of_mul_pos_right (by rw [← hb]; exact hp) g0
  · rw [if_neg hp]
    have hn : (0 - g) ≠ 0 := by omega
    have ht2 : t = (0 - g) * (-t') := by rw [Int.zero_sub, Int.neg_mul_neg]; exact ht
    have hb2 : b = (0 - g) * (-b') := by rw [Int.zero_sub, Int.neg_mul_neg]; exact hb
    have h1 := fdiv_of hn ht2
    have h2 := fdiv_of hn hb2
    rw [h1, h2]
    refine ⟨ht2, hb2, ?_, by rw [Int.gcd_neg, Int.neg_gcd]; exact hc⟩
    have hb3 : 0 < g * (-b') := by rw [Int.mul_neg, ← hb]; omega
    exact Int.pos_of_mul_pos_right hb3 g0
theorem natAbs_le_of_mul {k x y : Int} (hk : k ≠ 0) (h : y = k * x) : x.natAbs ≤ y.natAbs := by
  rw [h, Int.natAbs_mul]
  have : 0 < k.natAbs := by omega
  exact Nat.le_mul_of_pos_left _ this
theorem rat_amt {n : Nat} {t b : Int} (h : b ≠ 0) (ht : t.natAbs < 2 ^ n) (hb : b.natAbs < 2 ^ n) : Amt n (ratT t b) (ratB t b) := by
  obtain ⟨h1, h2, h3, h4⟩ := rat_parts (t := t) h
  exact ⟨h3, h4, Nat.lt_of_le_of_lt (natAbs_le_of_mul (ratK_ne h) h1) ht, Nat.lt_of_le_of_lt (natAbs_le_of_mul (ratK_ne h) h2) hb⟩
theorem ratK_div {t b : Int} (h : b ≠ 0) (hb : b.natAbs < 2 ^ 9000) (x : Int) : CFdiv x (ratK t b) := by
  refine ⟨ratK_ne h, PySem.Flt.log2_lt_of (by decide) (Nat.lt_of_le_of_lt (ratK_le h) hb)⟩
theorem rat_self {t b : Int} (hp : 0 < b) (hc : Int.gcd t b = 1) : ratT t b = t ∧ ratB t b = b := by
  have e : ratK t b = 1 := by unfold ratK; rw [if_pos hp, hc]; rfl
  unfold ratT ratB
  rw [e, Int.fdiv_one, Int.fdiv_one]
  exact ⟨rfl, rfl⟩
def amt2 : D → D → Bool
  | .int a, .int b => decide (0 < b) && decide (Int.gcd a b = 1)
  | _, _ => false
def isAmt : D → Bool
  | .tup [x, y] => amt2 x y
  | _ => false
def isI (d : D) : Bool := isTy .int d && !isTy .bool d
theorem isI_cases (d : D) : (∃ i, d = .int i) ∨ isI d = false := by
  cases d with
  | int i => exact .inl ⟨i, rfl⟩
  | _ => exact .inr rfl
theorem amt2_l {a b : D} (h : isI a = false) : isAmt (.tup [a, b]) = false := by
  cases a with
  | int i => cases h
  | _ => rfl
theorem amt2_r {a b : D} (h : isI b = false) : isAmt (.tup [a, b]) = false := by
  cases b with
  | int i => cases h
  | _ => cases a <;> rfl
theorem amt2_int {i j : Int} (h : 0 < j) : isAmt (.tup [.int i, .int j]) = decide (((Int.gcd i j : Nat) : Int) = 1) := by
  show (decide (0 < j) && decide (Int.gcd i j = 1)) = _
  rw [decide_eq_true h, Bool.true_and]
  congr 1
  apply propext
  omega
theorem amt2_not {i j : Int} (h : ¬ 0 < j) : isAmt (.tup [.int i, .int j]) = false := by
  show (decide (0 < j) && decide (Int.gcd i j = 1)) = _
  rw [decide_eq_false h, Bool.false_and]
theorem amt_is {n : Nat} {a b : Int} (h : Amt n a b) : isAmt (.tup [.int a, .int b]) = true := by
  rw [amt2_int h.pos, h.cop]
  rfl
end VL
set_option Elab.async false
set_option linter.all false
set_option maxRecDepth 100000
set_option maxHeartbeats 2000000
namespace VL
open PySem L2
def AmtD (n : Nat) (d : D) : Prop := ∃ a b, d = .tup [.int a, .int b] ∧ Amt n a b
theorem AmtD.mono {m n : Nat} {d : D} (h : AmtD m d) (hmn : m ≤ n) : AmtD n d := by
  obtain ⟨a, b, rfl, h⟩ := h
  exact ⟨a, b, rfl, h.mono hmn⟩
def zeroD : D := .tup [.int 0, .int 1]
def isZ : D → Bool
  | .tup [.int a, .int b] => decide (a = 0) && decide (b = 1)
  | _ => false
theorem zero_amt : AmtD 1 zeroD := ⟨0, 1, rfl, by decide, by decide, by decide, by decide⟩
theorem eqv_amt (a b c d : Int) : eqv (.tup [.int a, .int b]) (.tup [.int c, .int d]) = (decide (a = c) && decide (b = d)) := by
  show ((a == c) && ((b == d) && true)) = _
  rw [Bool.and_true]
  rfl
def plusD : D → D → D
  | .tup [.int a, .int b], .tup [.int c, .int d] => ratD (a * d + c * b) (b * d)
  | _, _ => .non
def timesD : D → D → D
  | .tup [.int a, .int b], .tup [.int c, .int d] => ratD (a * c) (b * d)
  | _, _ => .non
theorem mul_lt {a b : Int} {n m : Nat} (ha : a.natAbs < 2 ^ n) (hb : b.natAbs < 2 ^ m) : (a * b).natAbs < 2 ^ (n + m) := by
  rw [Int.natAbs_mul, Nat.pow_add]
  exact Nat.mul_lt_mul'' ha hb
theorem add_lt {a b : Int} {n : Nat} (ha : a.natAbs < 2 ^ n) (hb : b.natAbs < 2 ^ n) : (a + b).natAbs < 2 ^ (n + 1) := by
  have := Int.natAbs_add_le a b
  rw [Nat.pow_succ]
  omega
theorem rat_amtD {n : Nat} {t b : Int} (h : b ≠ 0) (ht : t.natAbs < 2 ^ n) (hb : b.natAbs < 2 ^ n) : AmtD n (ratD t b) := ⟨_, _, rfl, rat_amt h ht hb⟩
theorem pow_up {x m n : Nat} (h : x < 2 ^ m) (hmn : m ≤ n) : x < 2 ^ n := Nat.lt_of_lt_of_le h (Nat.pow_le_pow_right (by decide) hmn)
theorem plus_amt {n m : Nat} {x y : D} (hx : AmtD n x) (hy : AmtD m y) : AmtD (n + m + 1) (plusD x y) := by
  obtain ⟨a, b, rfl, A⟩ := hx
  obtain ⟨c, d, rfl, B⟩ := hy
  refine rat_amtD ?_ (add_lt (mul_lt A.ha B.hb) ?_) (pow_up (mul_lt A.hb B.hb) (by omega))
  · have := Int.mul_pos A.pos B.pos
    omega
  · rw [Nat.add_comm n m]
    exact mul_lt B.ha A.hb
theorem times_amt {n m : Nat} {x y : D} (hx : AmtD n x) (hy : AmtD m y) : AmtD (n + m) (timesD x y) := by
  obtain ⟨a, b, rfl, A⟩ := hx
  obtain ⟨c, d, rfl, B⟩ := hy
  refine rat_amtD ?_ (mul_lt A.ha B.ha) (mul_lt A.hb B.hb)
  have := Int.mul_pos A.pos B.pos
  omega
theorem lkp_mem {k : Str} : ∀ {ks : List Str} {ds : List D}, ds.length = ks.length → k ∈ ks → ∃ d, lkp ks ds k = some d ∧ d ∈ ds
  | q :: ks, x :: ds, l, h => by
    by_cases e : q = k
    · exact ⟨x, by simp [lkp, e], by simp⟩
    · have hk : k ∈ ks := by
        rcases List.mem_cons.mp h with h | h
        · exact absurd h.symm e
        · exact h
      obtain ⟨d, h1, h2⟩ := lkp_mem (ds := ds) (by simpa using l) hk
      exact ⟨d, by simp [lkp, e, h1], by simp [h2]⟩
  | q :: ks, [], l, _ => by cases l
def PairD (n : Nat) (p : D) : Prop := ∃ s f, p = .tup [.str s, f] ∧ AmtD n f
theorem PairD.mono {m n : Nat} {d : D} (h : PairD m d) (hmn : m ≤ n) : PairD n d := by
  obtain ⟨a, b, rfl, h⟩ := h
  exact ⟨a, b, rfl, h.mono hmn⟩
def keyOf : D → Option Str
  | .tup [.str s, _] => some s
  | _ => none
def ncnt (k : Str) (ps : List D) : Nat := (ps.filterMap keyOf).count k
structure TotOk (n : Nat) (S : Str → Prop) (ps : List D) (t : List Str × List D) : Prop where
  len : t.2.length = t.1.length
  few : t.1.length ≤ ps.length
  nd : t.1.Nodup
  val : ∀ k d, lkp t.1 t.2 k = some d → AmtD (ncnt k ps * (n + 1) + 1) d
  nm : ∀ k ∈ t.1, S k
theorem TotOk.nil {n : Nat} {S : Str → Prop} : TotOk n S [] ([], []) := ⟨rfl, Nat.le_refl _, .nil, fun k d h => by simp [lkp] at h, fun k h => by cases h⟩
theorem TotOk.get {n : Nat} {ps : List D} {S : Str → Prop} {t : List Str × List D} (h : TotOk n S ps t) (s : Str) : AmtD (ncnt s ps * (n + 1) + 1) ((lkp t.1 t.2 s).getD zeroD) := by
  cases e : lkp t.1 t.2 s with
  | none => exact zero_amt.mono (by omega)
  | some d => exact h.val s d e
mutual
def tame : D → Bool
  | .hnd _ => false
  | .dic _ _ => false
  | .ins _ _ _ => false
  | .lam _ _ => false
  | .str s => decide (s.length ≤ 1000)
  | .tup ds => decide (ds.length ≤ 1000) && tames ds
  | .lst ds => decide (ds.length ≤ 1000) && tames ds
  | _ => true
def tames : List D → Bool
  | [] => true
  | d :: ds => tame d && tames ds
end
mutual
theorem tame_plain : ∀ {d : D}, tame d = true → plain d = true
  | .non, _ => by unfold plain; rfl
  | .bl _, _ => by unfold plain; rfl
  | .int _, _ => by unfold plain; rfl
  | .str _, _ => by unfold plain; rfl
  | .hnd _, h => by unfold tame at h; cases h
  | .dic _ _, h => by unfold tame at h; cases h
  | .ins _ _ _, h => by unfold tame at h; cases h
  | .lam _ _, h => by unfold tame at h; cases h
  | .tup ds, h => by
    unfold tame at h
    unfold plain
    exact tames_plains (Bool.and_eq_true_iff.mp h).2
  | .lst ds, h => by
    unfold tame at h
    unfold plain
    exact tames_plains (Bool.and_eq_true_iff.mp h).2
theorem tames_plains : ∀ {ds : List D}, tames ds = true → plains ds = true
  | [], _ => by unfold plains; rfl
  | d :: ds, h => by
    unfold tames at h
    unfold plains
    obtain ⟨h1, h2⟩ := Bool.and_eq_true_iff.mp h
    rw [tame_plain h1, tames_plains h2]
    rfl
end
theorem amt_tame {n : Nat} {d : D} (h : AmtD n d) : tame d = true := by
  obtain ⟨a, b, rfl, _⟩ := h
  rfl
theorem lcM {items : List D} {P : List D → Prop} {g : WG} {t : WT} {w : WE} {ds : List Sl} (f : D → Option D) (h : ∀ d ∈ items, ∀ (Y : D → Prop) (N : Prop), (∀ y, f d = some y → Y y) → (f d = none → N) → g d ds fun ds1 => t ds1 fun b => if b = true then w ds1 Y else N) (hP : P (items.filterMap f)) :
    ∃ Iv : Nat → List D → Prop, Iv 0 [] ∧ (∀ i d acc, items[i]? = some d → Iv i acc → g d ds fun ds1 => t ds1 fun b => if b = true then w ds1 fun y => Iv (i + 1) (acc ++ [y]) else Iv (i + 1) acc) ∧ ∀ acc, Iv items.length acc → P acc := by
  refine ⟨fun i acc => acc = (items.take i).filterMap f, rfl, fun i d acc hd ha => ?_, fun acc ha => by have z : acc = (items.take items.length).filterMap f := ha; rw [z, List.take_length]; exact hP⟩
  subst ha
  refine h d (List.mem_of_getElem? hd) _ _ (fun y hy => ?_) fun hn => ?_
  · show (items.take i).filterMap f ++ [y] = (items.take (i + 1)).filterMap f
    rw [take_one hd, List.filterMap_append]
    simp [hy]
  · show (items.take i).filterMap f = (items.take (i + 1)).filterMap f
    rw [take_one hd, List.filterMap_append]
    simp [hn]
theorem zips_mem {xs ys : List D} {d : D} (h : d ∈ zipsD xs ys) : ∃ x ∈ xs, ∃ y ∈ ys, d = .tup [x, y] := by
  obtain ⟨i, hi⟩ := List.getElem?_of_mem h
  obtain ⟨x, y, h1, h2, e⟩ := zips_get hi
  exact ⟨x, List.mem_of_getElem? h1, y, List.mem_of_getElem? h2, e⟩
theorem toPys_lay {n : Nat} : ∀ {l : List D}, (∀ x ∈ l, (toPy x).canLay0 = true ∧ (toPy x).depth ≤ n) → PyData.canLayAll0 (toPys l) = true ∧ PyData.depthAll (toPys l) ≤ n
  | [], _ => ⟨by unfold toPys PyData.canLayAll0; rfl, by unfold toPys PyData.depthAll; omega⟩
  | x :: l, h => by
    obtain ⟨h1, h2⟩ := toPys_lay (l := l) fun y hy => h y (by simp [hy])
    obtain ⟨h3, h4⟩ := h x (by simp)
    unfold toPys PyData.canLayAll0 PyData.depthAll
    exact ⟨by rw [h1, h3]; rfl, Nat.max_le.mpr ⟨h4, h2⟩⟩
theorem shp_lst {l : List D} (h : ∀ x ∈ l, (toPy x).canLay0 = true ∧ (toPy x).depth ≤ 60) : shp (.lst l) = true := by
  obtain ⟨h1, h2⟩ := toPys_lay h
  unfold shp SeqAt.shaped toPy PyData.canLay0 PyData.depth
  rw [h1, decide_eq_true (by omega)]
  rfl
theorem shp_tup {l : List D} (h : ∀ x ∈ l, (toPy x).canLay0 = true ∧ (toPy x).depth ≤ 60) : shp (.tup l) = true := by
  obtain ⟨h1, h2⟩ := toPys_lay h
  unfold shp SeqAt.shaped toPy PyData.canLay0 PyData.depth
  rw [h1, decide_eq_true (by omega)]
  rfl
theorem eqv_nil (l : List D) : eqv (.lst l) (.lst []) = l.isEmpty := by cases l <;> rfl
theorem All2.mem {S : D → Prop} {xs ys : List D} (h : All2 (fun _ y => S y) xs ys) : ∀ y ∈ ys, S y := by
  induction h with
  | nil => intro y hy; cases hy
  | cons h _ ih =>
    intro y hy
    rcases List.mem_cons.mp hy with e | hy
    · rw [e]; exact h
    · exact ih y hy
def Sl.pl : Sl → Prop
  | .un => True
  | .d _ => True
  | _ => False
theorem sl_pl {s : Sl} (h : s.pl) : s = .un ∨ ∃ x, s = .d x := by
  cases s with
  | un => exact .inl rfl
  | d x => exact .inr ⟨x, rfl⟩
  | ml _ => exact h.elim
  | md _ _ => exact h.elim
  | mi _ _ _ _ => exact h.elim
  | ow _ => exact h.elim
def valD (ts : List D) (c : D) (ks : List Str) (xs : List D) : D := ts.foldl (fun acc t => match t with
  | .tup [.str s, f] => plusD acc (timesD f ((lkp ks xs s).getD .non))
  | _ => acc) c
theorem val_take {ts : List D} {i : Nat} {s : Str} {f c v : D} {ks : List Str} {xs : List D} (h : ts[i]? = some (.tup [.str s, f])) (hv : lkp ks xs s = some v) : valD (ts.take (i + 1)) c ks xs = plusD (valD (ts.take i) c ks xs) (timesD f v) := by
  unfold valD
  rw [take_one h, List.foldl_append]
  show plusD _ (timesD f ((lkp ks xs s).getD .non)) = _
  rw [hv]
  rfl
theorem val_amt {n m : Nat} {ts : List D} {c : D} {ks : List Str} {xs : List D} (hc : AmtD n c) (ht : ∀ t ∈ ts, PairD n t) (hk : ∀ s f, .tup [.str s, f] ∈ ts → ∃ v, lkp ks xs s = some v ∧ AmtD m v) : ∀ i, i ≤ ts.length → AmtD (n + i * (n + m + 1)) (valD (ts.take i) c ks xs)
  | 0, _ => by
    rw [Nat.zero_mul]
    exact hc
  | i + 1, h => by
    obtain ⟨t, e⟩ := get_lt (xs := ts) (i := i) (by omega)
    have hm := List.mem_of_getElem? e
    obtain ⟨s, f, rfl, hf⟩ := ht t hm
    obtain ⟨v, h1, h2⟩ := hk s f hm
    rw [val_take e h1, Nat.succ_mul]
    exact (plus_amt (val_amt hc ht hk i (by omega)) (times_amt hf h2)).mono (by omega)
theorem okD_amt {n : Nat} {d : D} (h : AmtD n d) (m : Nat) : okD (m + 1) d = true := by
  obtain ⟨a, b, rfl, _⟩ := h
  cases m <;> rfl
theorem okD_pair {n : Nat} {d : D} (h : PairD n d) (m : Nat) : okD (m + 2) d = true := by
  obtain ⟨s, f, rfl, a, b, rfl, _⟩ := h
  cases m <;> rfl
theorem okD_tup {n : Nat} {l : List D} (h1 : l.length ≤ 1000000) (h : ∀ x ∈ l, okD n x = true) : okD (n + 1) (.tup l) = true := by
  show (decide (l.length ≤ 1000000) && l.all (okD n)) = true
  rw [decide_eq_true h1, List.all_eq_true.mpr h]
  rfl
structure FormOk (n : Nat) (S : Str → Prop) (d : D) (ts : List D) (c : D) : Prop where
  e : d = .tup [.tup ts, c]
  few : ts.length ≤ 1000
  pr : ∀ t ∈ ts, ∃ s f, t = .tup [.str s, f] ∧ AmtD n f ∧ S s ∧ isZ f = false
  c : AmtD n c
theorem FormOk.ok {n : Nat} {S : Str → Prop} {d c : D} {ts : List D} (h : FormOk n S d ts c) (m : Nat) : okD (m + 4) d = true := by
  rw [h.e]
  refine okD_tup (by simp) fun x hx => ?_
  simp only [List.mem_cons, List.not_mem_nil, or_false] at hx
  rcases hx with rfl | rfl
  · refine okD_tup (by have := h.few; omega) fun t ht => ?_
    obtain ⟨s, f, rfl, hf, _⟩ := h.pr t ht
    exact okD_pair (n := n) ⟨s, f, rfl, hf⟩ m
  · exact okD_amt h.c _
mutual
theorem eqv_refl : ∀ {d : D}, plain d = true → eqv d d = true
  | .non, _ => rfl
  | .bl b, _ => by cases b <;> rfl
  | .int i, _ => by show (i == i) = true; simp
  | .str s, _ => by show (s == s) = true; simp
  | .hnd _, h => by unfold plain at h; cases h
  | .dic _ _, h => by unfold plain at h; cases h
  | .ins _ _ _, h => by unfold plain at h; cases h
  | .lam _ _, h => by unfold plain at h; cases h
  | .tup ds, h => by
    have z := eqvs_refl (plain_tup h)
    unfold eqv toPy
    unfold PyData.eqv
    exact z
  | .lst ds, h => by
    have z := eqvs_refl (plain_lst h)
    unfold eqv toPy
    unfold PyData.eqv
    exact z
theorem eqvs_refl : ∀ {ds : List D}, plains ds = true → PyData.eqvAll (toPys ds) (toPys ds) = true
  | [], _ => by unfold toPys PyData.eqvAll; rfl
  | d :: ds, h => by
    unfold plains at h
    obtain ⟨h1, h2⟩ := Bool.and_eq_true_iff.mp h
    have z1 := eqv_refl h1
    have z2 := eqvs_refl h2
    unfold eqv at z1
    unfold toPys PyData.eqvAll
    rw [z1, z2]
    rfl
end
structure Known (m : Nat) (ks : List Str) (xs : List D) : Prop where
  len : xs.length = ks.length
  val : ∀ x ∈ xs, AmtD m x
theorem Known.get {m : Nat} {ks : List Str} {xs : List D} (h : Known m ks xs) {s : Str} (hs : s ∈ ks) : ∃ v, lkp ks xs s = some v ∧ AmtD m v := by
  obtain ⟨v, h1, h2⟩ := lkp_mem h.len hs
  exact ⟨v, h1, h.val v h2⟩
theorem FormOk.pair {n : Nat} {S : Str → Prop} {d c : D} {ts : List D} (h : FormOk n S d ts c) : ∀ t ∈ ts, PairD n t := fun t ht => by
  obtain ⟨s, f, e, hf, _⟩ := h.pr t ht
  exact ⟨s, f, e, hf⟩
theorem FormOk.known {n m : Nat} {S : Str → Prop} {d c : D} {ts : List D} {ks : List Str} {xs : List D} (h : FormOk n S d ts c) (hk : ∀ s, S s → ∃ v, lkp ks xs s = some v ∧ AmtD m v) : ∀ s f, .tup [.str s, f] ∈ ts → ∃ v, lkp ks xs s = some v ∧ AmtD m v := fun s f ht => by
  obtain ⟨s', f', e, _, hs, _⟩ := h.pr _ ht
  cases e
  exact hk s hs
theorem FormOk.val {n m N : Nat} {S : Str → Prop} {d c : D} {ts : List D} {ks : List Str} {xs : List D} (h : FormOk n S d ts c) (hk : ∀ s, S s → ∃ v, lkp ks xs s = some v ∧ AmtD m v) (hN : n + ts.length * (n + m + 1) ≤ N) : AmtD N (valD ts c ks xs) := by
  have := val_amt h.c h.pair (h.known hk) ts.length (Nat.le_refl _)
  rw [List.take_length] at this
  exact this.mono hN
def sgnI (a : Int) : Int := (if decide (0 < a) = true then 1 else 0) - (if decide (a < 0) = true then 1 else 0)
def sgnD : D → Int
  | .tup [.int a, _] => sgnI a
  | _ => 0
def valZ (items : List D) (c : D) : D := items.foldl (fun acc t => match t with
  | .tup [f, v] => plusD acc (timesD f v)
  | _ => acc) c
theorem valZ_take {items : List D} {i : Nat} {f v c : D} (h : items[i]? = some (.tup [f, v])) : valZ (items.take (i + 1)) c = plusD (valZ (items.take i) c) (timesD f v) := by
  unfold valZ
  rw [take_one h, List.foldl_append]
  rfl
def RowD (n k : Nat) (row : D) : Prop := ∃ fs c rel, row = .tup [.tup fs, c, .str rel] ∧ (∀ f ∈ fs, AmtD n f) ∧ AmtD k c ∧ fs.length ≤ 20
def eqS : Str := Str.ofString "="
def negA : D → D
  | .tup [.int a, b] => .tup [.int (0 - a), b]
  | _ => .non
def minusD (x y : D) : D := plusD x (negA y)
theorem neg_amt {n : Nat} {x : D} (h : AmtD n x) : AmtD n (negA x) := by
  obtain ⟨a, b, rfl, A⟩ := h
  refine ⟨0 - a, b, rfl, A.pos, ?_, ?_, A.hb⟩
  · rw [Int.zero_sub, Int.neg_gcd]; exact A.cop
  · rw [Int.zero_sub, Int.natAbs_neg]; exact A.ha
def addT (by_ : D) : D → D
  | .tup [x, f] => plusD x (timesD by_ f)
  | _ => .non
def befD (ts fs : List D) : List D := if ts.isEmpty = true then fs.map (fun _ => zeroD) else ts
def addL (ts fs : List D) (by_ : D) : List D := (zipsD (befD ts fs) fs).map (addT by_)
theorem addL_amt {k n m : Nat} {ts fs : List D} {by_ : D} (ht : ∀ t ∈ ts, AmtD k t) (hf : ∀ f ∈ fs, AmtD n f) (hb : AmtD m by_) (hk : 0 < k) : ∀ t ∈ addL ts fs by_, AmtD (k + (n + m + 1)) t := fun t h => by
  obtain ⟨p, hp, rfl⟩ := List.mem_map.mp h
  obtain ⟨x, hx, f, hf2, rfl⟩ := zips_mem hp
  have hx2 : AmtD k x := by
    unfold befD at hx
    cases e : ts.isEmpty with
    | true =>
      rw [e] at hx
      obtain ⟨_, _, rfl⟩ := List.mem_map.mp hx
      exact zero_amt.mono hk
    | false =>
      rw [e] at hx
      exact ht x hx
  exact (plus_amt hx2 (times_amt hb (hf f hf2))).mono (by omega)
theorem addL_len (ts fs : List D) (by_ : D) : (addL ts fs by_).length ≤ fs.length := by
  unfold addL
  rw [List.length_map, zips_len]
  omega
def ltS : Str := Str.ofString "<"
def relB (t : D → Bool) : D → Bool
  | .tup [.tup [_, _, .str rel], by_] => decide (rel = ltS) && t by_
  | _ => false
def negR : D → Bool := relB fun b => decide (sgnD b < 0)
def posR : D → Bool := relB fun b => decide (0 < sgnD b)
def stepT (T : List D) : D → List D
  | .tup [.tup [.tup fs, _, _], by_] => addL T fs by_
  | _ => T
def stepC (c : D) : D → D
  | .tup [.tup [_, c', _], by_] => plusD c (timesD by_ c')
  | _ => c
def sumsT (items : List D) : List D := items.foldl stepT []
def sumsC (items : List D) : D := items.foldl stepC zeroD
theorem sumsT_take {items : List D} {i : Nat} {p : D} (h : items[i]? = some p) : sumsT (items.take (i + 1)) = stepT (sumsT (items.take i)) p := by
  unfold sumsT
  rw [take_one h, List.foldl_append]
  rfl
theorem sumsC_take {items : List D} {i : Nat} {p : D} (h : items[i]? = some p) : sumsC (items.take (i + 1)) = stepC (sumsC (items.take i)) p := by
  unfold sumsC
  rw [take_one h, List.foldl_append]
  rfl
def MulD (n k m : Nat) (p : D) : Prop := ∃ row by_, p = .tup [row, by_] ∧ RowD n k row ∧ AmtD m by_
theorem sumsT_ok {n k m : Nat} {items : List D} (h : ∀ p ∈ items, MulD n k m p) : ∀ i, i ≤ items.length → (∀ t ∈ sumsT (items.take i), AmtD (1 + i * (n + m + 1)) t) ∧ (sumsT (items.take i)).length ≤ 20
  | 0, _ => ⟨fun t ht => by simp [sumsT] at ht, by simp [sumsT]⟩
  | i + 1, hi => by
    obtain ⟨p, e⟩ := get_lt (xs := items) (i := i) (by omega)
    obtain ⟨row, by_, rfl, ⟨fs, c, rel, rfl, hf, hc, hl⟩, hb⟩ := h p (List.mem_of_getElem? e)
    obtain ⟨h1, h2⟩ := sumsT_ok h i (by omega)
    rw [sumsT_take e]
    refine ⟨fun t ht => ?_, Nat.le_trans (addL_len _ _ _) hl⟩
    rw [Nat.succ_mul]
    exact (addL_amt h1 hf hb (by omega) t ht).mono (by omega)
theorem sumsC_ok {n k m : Nat} {items : List D} (h : ∀ p ∈ items, MulD n k m p) : ∀ i, i ≤ items.length → AmtD (1 + i * (k + m + 1)) (sumsC (items.take i))
  | 0, _ => zero_amt.mono (by omega)
  | i + 1, hi => by
    obtain ⟨p, e⟩ := get_lt (xs := items) (i := i) (by omega)
    obtain ⟨row, by_, rfl, ⟨fs, c, rel, rfl, hf, hc, hl⟩, hb⟩ := h p (List.mem_of_getElem? e)
    rw [sumsC_take e, Nat.succ_mul]
    exact (plus_amt (sumsC_ok h i (by omega)) (times_amt hb hc)).mono (by omega)
theorem any_take {items : List D} {f : D → Bool} {i : Nat} {p : D} (h : items[i]? = some p) : (items.take (i + 1)).any f = ((items.take i).any f || f p) := by
  rw [take_one h, List.any_append]
  simp
theorem any_true {items : List D} {f : D → Bool} {p : D} (h : p ∈ items) (hf : f p = true) : items.any f = true := List.any_eq_true.mpr ⟨p, h, hf⟩
def refB (items : List D) : Bool := !items.any negR && ((sumsT items).all isZ && (decide (0 < sgnD (sumsC items)) || (isZ (sumsC items) && items.any posR)))
end VL
set_option Elab.async false
set_option linter.all false
set_option maxRecDepth 100000
set_option maxHeartbeats 2000000
set_option exponentiation.threshold 20000
namespace VL
open PySem L2
def qD : D → Rat
  | .tup [.int a, .int b] => Rat.divInt a b
  | _ => 0
theorem qD_rat {t b : Int} (h : b ≠ 0) : qD (ratD t b) = Rat.divInt t b := by
  obtain ⟨h1, h2, h3, _⟩ := rat_parts (t := t) h
  show Rat.divInt (ratT t b) (ratB t b) = _
  have key := Rat.divInt_mul_left (n := ratT t b) (d := ratB t b) (ratK_ne (t := t) h)
  rw [← key, ← h1, ← h2]
theorem cop_dvd {k a b : Int} (h : Int.gcd k a = 1) (hd : k ∣ a * b) : k ∣ b := by
  have h2 : k.natAbs ∣ a.natAbs * b.natAbs := by rw [← Int.natAbs_mul]; exact Int.natAbs_dvd_natAbs.mpr hd
  have h3 : Nat.Coprime k.natAbs a.natAbs := h
  exact Int.natAbs_dvd_natAbs.mp (h3.dvd_of_dvd_mul_left h2)
theorem q_inj {n m : Nat} {x y : D} (hx : AmtD n x) (hy : AmtD m y) (h : qD x = qD y) : x = y := by
  obtain ⟨a, b, rfl, A⟩ := hx
  obtain ⟨c, d, rfl, B⟩ := hy
  have hb := A.pos
  have hd := B.pos
  have h : Rat.divInt a b = Rat.divInt c d := h
  rw [Rat.divInt_eq_divInt_iff (by omega) (by omega)] at h
  have c1 := A.cop
  have c2 := B.cop
  have d1 : b ∣ d := by
    have : b ∣ a * d := ⟨c, by rw [h, Int.mul_comm]⟩
    exact cop_dvd (by rw [Int.gcd_comm]; exact c1) this
  have d2 : d ∣ b := by
    have : d ∣ c * b := ⟨a, by rw [← h, Int.mul_comm]⟩
    exact cop_dvd (by rw [Int.gcd_comm]; exact c2) this
  have e : b = d := by
    have l1 := Int.le_of_dvd hd d1
    have l2 := Int.le_of_dvd hb d2
    omega
  subst e
  have e2 : a = c := Int.eq_of_mul_eq_mul_right (by omega) h
  rw [e2]
theorem q_iff {n m : Nat} {x y : D} (hx : AmtD n x) (hy : AmtD m y) : x = y ↔ qD x = qD y := ⟨fun e => by rw [e], q_inj hx hy⟩
theorem q_plus {n m : Nat} {x y : D} (hx : AmtD n x) (hy : AmtD m y) : qD (plusD x y) = qD x + qD y := by
  obtain ⟨a, b, rfl, A⟩ := hx
  obtain ⟨c, d, rfl, B⟩ := hy
  have hb := A.pos
  have hd := B.pos
  have hz := Int.mul_pos hb hd
  show qD (ratD (a * d + c * b) (b * d)) = Rat.divInt a b + Rat.divInt c d
  rw [qD_rat (by omega), Rat.divInt_add_divInt _ _ (by omega) (by omega)]
theorem q_times {n m : Nat} {x y : D} (hx : AmtD n x) (hy : AmtD m y) : qD (timesD x y) = qD x * qD y := by
  obtain ⟨a, b, rfl, A⟩ := hx
  obtain ⟨c, d, rfl, B⟩ := hy
  have hb := A.pos
  have hd := B.pos
  have hz := Int.mul_pos hb hd
  show qD (ratD (a * c) (b * d)) = Rat.divInt a b * Rat.divInt c d
  rw [qD_rat (by omega), Rat.divInt_mul_divInt]
theorem q_neg {n : Nat} {x : D} (hx : AmtD n x) : qD (negA x) = - qD x := by
  obtain ⟨a, b, rfl, A⟩ := hx
  show Rat.divInt (0 - a) b = - Rat.divInt a b
  rw [Rat.neg_divInt, Int.zero_sub]
theorem q_minus {n m : Nat} {x y : D} (hx : AmtD n x) (hy : AmtD m y) : qD (minusD x y) = qD x - qD y := by
  unfold minusD
  rw [q_plus hx (neg_amt hy), q_neg hy, Rat.sub_eq_add_neg]
theorem minus_amt {n m : Nat} {x y : D} (hx : AmtD n x) (hy : AmtD m y) : AmtD (n + m + 1) (minusD x y) := plus_amt hx (neg_amt hy)
theorem q_zero : qD zeroD = 0 := by show Rat.divInt 0 1 = 0; simp
def oneD : D := .tup [.int 1, .int 1]
theorem one_amt : AmtD 1 oneD := ⟨1, 1, rfl, by decide, by decide, by decide, by decide⟩
theorem q_pos {n : Nat} {a b : Int} (A : Amt n a b) : 0 < qD (.tup [.int a, .int b]) ↔ 0 < a := by
  show 0 < Rat.divInt a b ↔ 0 < a
  have hb := A.pos
  have e : Rat.divInt a b * (b : Rat) = (a : Rat) := by
    rw [Rat.divInt_eq_div]
    have : (b : Rat) ≠ 0 := by
      intro z
      have := Rat.intCast_pos.mpr hb
      rw [z] at this
      exact absurd this (by decide)
    grind
  have hb' : (0 : Rat) < (b : Rat) := Rat.intCast_pos.mpr hb
  rw [← Rat.mul_pos_iff_of_pos_right hb', e, Rat.intCast_pos]
theorem q_neg_iff {n : Nat} {a b : Int} (A : Amt n a b) : qD (.tup [.int a, .int b]) < 0 ↔ a < 0 := by
  have A' : Amt n (0 - a) b := ⟨A.pos, by rw [Int.zero_sub, Int.neg_gcd]; exact A.cop, by have := A.ha; omega, A.hb⟩
  have h := q_pos A'
  have e : qD (.tup [.int (0 - a), .int b]) = - qD (.tup [.int a, .int b]) := q_neg ⟨a, b, rfl, A⟩
  rw [e] at h
  constructor
  · intro z
    have : 0 < 0 - a := h.mp (by grind)
    omega
  · intro z
    have : 0 < - qD (.tup [.int a, .int b]) := h.mpr (by omega)
    grind
theorem q_zero_iff {n : Nat} {a b : Int} (A : Amt n a b) : qD (.tup [.int a, .int b]) = 0 ↔ a = 0 := by
  have h1 := q_pos A
  have h2 := q_neg_iff A
  constructor
  · intro z
    rw [z] at h1 h2
    have : ¬ 0 < a := fun y => absurd (h1.mpr y) (by decide)
    have : ¬ a < 0 := fun y => absurd (h2.mpr y) (by decide)
    omega
  · intro z
    have n1 : ¬ 0 < qD (.tup [.int a, .int b]) := fun y => by have := h1.mp y; omega
    have n2 : ¬ qD (.tup [.int a, .int b]) < 0 := fun y => by have := h2.mp y; omega
    grind
theorem sgn_pos {n : Nat} {x : D} (h : AmtD n x) : 0 < sgnD x ↔ 0 < qD x := by
  obtain ⟨a, b, rfl, A⟩ := h
  rw [q_pos A]
  show 0 < sgnI a ↔ _
  unfold sgnI
  by_cases h1 : 0 < a
  · have h2 : ¬ a < 0 := by omega
    simp [h1, h2]
  · by_cases h2 : a < 0 <;> simp [h1, h2]
theorem sgn_neg {n : Nat} {x : D} (h : AmtD n x) : sgnD x < 0 ↔ qD x < 0 := by
  obtain ⟨a, b, rfl, A⟩ := h
  rw [q_neg_iff A]
  show sgnI a < 0 ↔ _
  unfold sgnI
  by_cases h1 : 0 < a
  · have h2 : ¬ a < 0 := by omega
    simp [h1, h2]
  · by_cases h2 : a < 0 <;> simp [h1, h2]
theorem sgn_zero {n : Nat} {x : D} (h : AmtD n x) : sgnD x = 0 ↔ qD x = 0 := by
  obtain ⟨a, b, rfl, A⟩ := h
  rw [q_zero_iff A]
  show sgnI a = 0 ↔ _
  unfold sgnI
  by_cases h1 : 0 < a
  · have h2 : ¬ a < 0 := by omega
    simp [h1, h2]
    omega
  · by_cases h2 : a < 0
    · simp [h1, h2]
      omega
    · simp [h1, h2]
      omega
def overD : D → D → D
  | .tup [.int a, .int b], .tup [.int c, .int d] => ratD (a * d) (b * c)
  | _, _ => .non
theorem over_amt {n m : Nat} {x y : D} (hx : AmtD n x) (hy : AmtD m y) (hz : y ≠ zeroD) : AmtD (n + m) (overD x y) := by
  have hq : qD y ≠ 0 := fun z => hz (q_inj hy zero_amt (by rw [z, q_zero]))
  obtain ⟨a, b, rfl, A⟩ := hx
  obtain ⟨c, d, rfl, B⟩ := hy
  have hc : c ≠ 0 := fun z => hq ((q_zero_iff B).mpr z)
  have hb := A.pos
  exact rat_amtD (Int.mul_ne_zero (by omega) hc) (mul_lt A.ha B.hb) (mul_lt A.hb B.ha)
theorem q_over {n m : Nat} {x y : D} (hx : AmtD n x) (hy : AmtD m y) (hz : y ≠ zeroD) : qD (overD x y) = qD x / qD y := by
  have hq : qD y ≠ 0 := fun z => hz (q_inj hy zero_amt (by rw [z, q_zero]))
  obtain ⟨a, b, rfl, A⟩ := hx
  obtain ⟨c, d, rfl, B⟩ := hy
  have hc : c ≠ 0 := fun z => hq ((q_zero_iff B).mpr z)
  have hb := A.pos
  show qD (ratD (a * d) (b * c)) = Rat.divInt a b / Rat.divInt c d
  rw [qD_rat (Int.mul_ne_zero (by omega) hc), Rat.div_def, Rat.inv_divInt, Rat.divInt_mul_divInt]
theorem over_facts {n m : Nat} {a b c d : Int} (A : Amt n a b) (B : Amt m c d) (hc : c ≠ 0) (hn : n + m ≤ 9000) : CMulW a d ∧ CMulW b c ∧ b * c ≠ 0 ∧ (b * c).natAbs < 2 ^ 9000 := by
  have h0 : 0 < n := by
    rcases Nat.eq_zero_or_pos n with e | e
    · have h1 := A.hb; have h2 := A.pos; rw [e] at h1; omega
    · exact e
  have h1 : 0 < m := by
    rcases Nat.eq_zero_or_pos m with e | e
    · have h1 := B.hb; have h2 := B.pos; rw [e] at h1; omega
    · exact e
  have hb := A.pos
  exact ⟨wide_mul A.ha B.hb h0 h1 (by omega), wide_mul A.hb B.ha h0 h1 (by omega), Int.mul_ne_zero (by omega) hc, pow_up (mul_lt A.hb B.ha) (by omega)⟩
theorem eqv_amtD {n m : Nat} {x y : D} (hx : AmtD n x) (hy : AmtD m y) : eqv x y = decide (qD x = qD y) := by
  have hi := q_iff hx hy
  obtain ⟨a, b, rfl, A⟩ := hx
  obtain ⟨c, d, rfl, B⟩ := hy
  rw [eqv_amt]
  by_cases h : qD (.tup [.int a, .int b]) = qD (.tup [.int c, .int d])
  · have e := hi.mpr h
    simp only [D.tup.injEq, List.cons.injEq, D.int.injEq, and_true] at e
    simp [h, e.1, e.2]
  · have e : ¬ (a = c ∧ b = d) := fun z => h (by rw [z.1, z.2])
    have : (decide (a = c) && decide (b = d)) = false := by
      rw [Bool.and_eq_false_iff]
      by_cases h1 : a = c
      · exact .inr (decide_eq_false fun h2 => e ⟨h1, h2⟩)
      · exact .inl (decide_eq_false h1)
    rw [this, decide_eq_false h]
end VL
set_option Elab.async false
set_option linter.all false
set_option maxRecDepth 100000
set_option maxHeartbeats 100000
namespace Fm
def sm : List Nat → (Nat → Rat) → Rat
  | [], _ => 0
  | i :: r, f => f i + sm r f
theorem sm_erase {f : Nat → Rat} {j : Nat} : ∀ {S : List Nat}, j ∈ S → sm S f = f j + sm (S.erase j) f
  | [], h => by cases h
  | i :: r, h => by
    by_cases e : i = j
    · subst e
      rw [List.erase_cons_head]
      rfl
    · rw [List.erase_cons_tail (by simpa using e)]
      have q := sm_erase (f := f) (S := r) (List.mem_of_ne_of_mem (Ne.symm e) h)
      show f i + sm r f = f j + (f i + sm (r.erase j) f)
      rw [q]
      grind
theorem sm_congr {f g : Nat → Rat} : ∀ {S : List Nat}, (∀ i ∈ S, f i = g i) → sm S f = sm S g
  | [], _ => rfl
  | i :: r, h => by
    show f i + sm r f = g i + sm r g
    rw [h i (.head _), sm_congr fun k hk => h k (.tail _ hk)]
theorem sm_zero {f : Nat → Rat} : ∀ {S : List Nat}, (∀ i ∈ S, f i = 0) → sm S f = 0
  | [], _ => rfl
  | i :: r, h => by
    show f i + sm r f = 0
    rw [h i (.head _), sm_zero fun k hk => h k (.tail _ hk)]
    grind
theorem sm_add {f g : Nat → Rat} : ∀ {S : List Nat}, sm S (fun i => f i + g i) = sm S f + sm S g
  | [] => by show (0 : Rat) = 0 + 0; grind
  | i :: r => by
    show f i + g i + sm r (fun i => f i + g i) = (f i + sm r f) + (g i + sm r g)
    rw [sm_add (S := r)]
    grind
theorem sm_mul {f : Nat → Rat} {c : Rat} : ∀ {S : List Nat}, sm S (fun i => c * f i) = c * sm S f
  | [] => by show (0 : Rat) = c * 0; grind
  | i :: r => by
    show c * f i + sm r (fun i => c * f i) = c * (f i + sm r f)
    rw [sm_mul (S := r)]
    grind
theorem sm_nonneg {f : Nat → Rat} : ∀ {S : List Nat}, (∀ i ∈ S, 0 ≤ f i) → 0 ≤ sm S f
  | [], _ => by show (0 : Rat) ≤ 0; grind
  | i :: r, h => by
    show 0 ≤ f i + sm r f
    have h1 := h i (.head _)
    have h2 := sm_nonneg (S := r) fun k hk => h k (.tail _ hk)
    grind
theorem homog : ∀ (e : Nat) (S : List Nat) (a : Nat → Nat → Rat), S.Nodup → e < S.length → ∃ v : Nat → Rat, (∃ i ∈ S, v i ≠ 0) ∧ (∀ i, i ∉ S → v i = 0) ∧ ∀ k, k < e → sm S (fun i => a k i * v i) = 0
  | 0, S, a, hS, h => by
    match S, h with
    | j :: r, _ => exact ⟨fun i => if i = j then 1 else 0, ⟨j, .head _, by show (if j = j then (1 : Rat) else 0) ≠ 0; rw [if_pos rfl]; decide⟩, fun i hi => if_neg fun z => hi (by rw [z]; exact .head _), fun k hk => absurd hk (Nat.not_lt_zero k)⟩
  | e + 1, S, a, hS, h => by
    by_cases hz : ∀ i ∈ S, a e i = 0
    · obtain ⟨v, h1, h2, h3⟩ := homog e S a hS (by omega)
      refine ⟨v, h1, h2, fun k hk => ?_⟩
      by_cases q : k = e
      · subst q
        exact sm_zero fun i hi => by rw [hz i hi]; grind
      · exact h3 k (by omega)
    · have hz : ∃ j, j ∈ S ∧ a e j ≠ 0 := by
        refine Classical.byContradiction fun n => hz fun i hi => Classical.byContradiction fun q => n ⟨i, hi, q⟩
      obtain ⟨j, hj, aj⟩ := hz
      have hl : (S.erase j).length = S.length - 1 := List.length_erase_of_mem hj
      obtain ⟨v, ⟨i0, hi0, n0⟩, h2, h3⟩ := homog e (S.erase j) (fun k i => a k i - a k j / a e j * a e i) (hS.erase j) (by omega)
      have nj : j ∉ S.erase j := fun z => ((List.Nodup.mem_erase_iff hS).mp z).1 rfl
      let t := sm (S.erase j) fun i => a e i * v i
      let u : Nat → Rat := fun i => if i = j then - t / a e j else v i
      have uj : u j = - t / a e j := if_pos rfl
      have ui : ∀ i, i ≠ j → u i = v i := fun i hi => if_neg hi
      have us : ∀ k, sm (S.erase j) (fun i => a k i * u i) = sm (S.erase j) fun i => a k i * v i := fun k => sm_congr fun i hi => by rw [ui i fun z => nj (z ▸ hi)]
      refine ⟨u, ⟨i0, List.mem_of_mem_erase hi0, by rw [ui i0 fun z => nj (z ▸ hi0)]; exact n0⟩, fun i hi => ?_, fun k hk => ?_⟩
      · rw [ui i fun z => hi (by rw [z]; exact hj)]
        exact h2 i fun z => hi (List.mem_of_mem_erase z)
      · rw [sm_erase hj, us k, uj]
        by_cases q : k = e
        · subst q
          show a k j * (- t / a k j) + t = 0
          grind
        · have h3 := h3 k (by omega)
          have e1 : sm (S.erase j) (fun i => (a k i - a k j / a e j * a e i) * v i) = sm (S.erase j) (fun i => a k i * v i) + (-(a k j / a e j)) * t := by
            rw [← sm_mul, ← sm_add]
            exact sm_congr fun i _ => by grind
          rw [e1] at h3
          grind
theorem sm_sub {f : Nat → Rat} : ∀ {P U : List Nat}, P.Nodup → U.Nodup → (∀ i ∈ P, i ∈ U) → (∀ i, i ∉ P → f i = 0) → sm U f = sm P f
  | [], U, _, _, _, h => sm_zero fun i _ => h i (by simp)
  | j :: P, U, hP, hU, hs, h => by
    have hj : j ∈ U := hs j (.head _)
    have nj : j ∉ P := (List.nodup_cons.mp hP).1
    let g : Nat → Rat := fun i => if i = j then 0 else f i
    have gi : ∀ i, i ≠ j → g i = f i := fun i hi => if_neg hi
    have nU : j ∉ U.erase j := fun z => ((List.Nodup.mem_erase_iff hU).mp z).1 rfl
    have q := sm_sub (f := g) (P := P) (U := U.erase j) (List.nodup_cons.mp hP).2 (hU.erase j) (fun i hi => (List.Nodup.mem_erase_iff hU).mpr ⟨fun z => nj (z ▸ hi), hs i (.tail _ hi)⟩) (fun i hi => by
      by_cases e : i = j
      · exact if_pos e
      · rw [gi i e]
        exact h i fun z => (List.mem_cons.mp z).elim e hi)
    rw [sm_congr (S := U.erase j) (g := f) fun i hi => gi i fun z => nU (by rw [z] at hi; exact hi), sm_congr (S := P) (g := f) fun i hi => gi i fun z => nj (by rw [z] at hi; exact hi)] at q
    rw [sm_erase hj, q]
    rfl
theorem least {A : Nat → Prop} {g : Nat → Rat} : ∀ {P : List Nat}, (∃ j ∈ P, A j) → ∃ j ∈ P, A j ∧ ∀ i ∈ P, A i → g j ≤ g i
  | [], h => by obtain ⟨j, hj, _⟩ := h; cases hj
  | k :: P, h => by
    by_cases hP : ∃ j ∈ P, A j
    · obtain ⟨j, hj, aj, hm⟩ := least hP
      by_cases q : A k ∧ g k < g j
      · refine ⟨k, .head _, q.1, fun i hi ai => ?_⟩
        rcases List.mem_cons.mp hi with rfl | hi
        · exact Rat.le_refl
        · exact Rat.le_trans (Rat.le_of_lt q.2) (hm i hi ai)
      · refine ⟨j, .tail _ hj, aj, fun i hi ai => ?_⟩
        rcases List.mem_cons.mp hi with rfl | hi
        · exact Rat.not_lt.mp fun z => q ⟨ai, z⟩
        · exact hm i hi ai
    · obtain ⟨j, hj, aj⟩ := h
      rcases List.mem_cons.mp hj with rfl | hj
      · refine ⟨j, .head _, aj, fun i hi ai => ?_⟩
        rcases List.mem_cons.mp hi with rfl | hi
        · exact Rat.le_refl
        · exact absurd ⟨i, hi, ai⟩ hP
      · exact absurd ⟨j, hj, aj⟩ hP
def fa (U : List Nat) (b : Nat → Rat) (s : Nat → Rat) : Rat := sm U fun i => b i * s i
inductive Cone (L : (Nat → Rat) → Prop) : (Nat → Rat) → Prop
  | zero : Cone L fun _ => 0
  | add {f s : Nat → Rat} {c : Rat} (h : Cone L f) (hc : 0 ≤ c) (hs : L s) : Cone L fun i => f i + c * s i
theorem Cone.plus {L : (Nat → Rat) → Prop} {f g : Nat → Rat} (hf : Cone L f) (hg : Cone L g) : Cone L fun i => f i + g i := by
  induction hg with
  | zero =>
    rw [show (fun i => f i + 0) = f from funext fun i => by grind]
    exact hf
  | @add g s c _ hc hs ih =>
    rw [show (fun i => f i + (g i + c * s i)) = fun i => (f i + g i) + c * s i from funext fun i => by grind]
    exact .add ih hc hs
theorem Cone.times {L : (Nat → Rat) → Prop} {f : Nat → Rat} {d : Rat} (hd : 0 ≤ d) (hf : Cone L f) : Cone L fun i => d * f i := by
  induction hf with
  | zero =>
    rw [show (fun _ : Nat => d * 0) = fun _ => 0 from funext fun i => by grind]
    exact .zero
  | @add g s c _ hc hs ih =>
    rw [show (fun i => d * (g i + c * s i)) = fun i => d * g i + (d * c) * s i from funext fun i => by grind]
    exact .add ih (Rat.mul_nonneg hd hc) hs
theorem Cone.one {L : (Nat → Rat) → Prop} {s : Nat → Rat} (hs : L s) : Cone L s := by
  have := Cone.add (L := L) (c := 1) .zero (by decide) hs
  rw [show (fun i => (0 : Rat) + 1 * s i) = s from funext fun i => by grind] at this
  exact this
def val : List (Rat × (Nat → Rat)) → Nat → Rat
  | [], _ => 0
  | q :: r, i => q.1 * q.2 i + val r i
theorem val_app {l r : List (Rat × (Nat → Rat))} {i : Nat} : val (l ++ r) i = val l i + val r i := by
  induction l with
  | nil => show val r i = 0 + val r i; grind
  | cons q l ih => show q.1 * q.2 i + val (l ++ r) i = q.1 * q.2 i + val l i + val r i; rw [ih]; grind
def vf (F : (Nat → Rat) → Rat) : List (Rat × (Nat → Rat)) → Rat
  | [] => 0
  | q :: r => q.1 * F q.2 + vf F r
theorem vf_app {F : (Nat → Rat) → Rat} {l r : List (Rat × (Nat → Rat))} : vf F (l ++ r) = vf F l + vf F r := by
  induction l with
  | nil => show vf F r = 0 + vf F r; grind
  | cons q l ih => show q.1 * F q.2 + vf F (l ++ r) = q.1 * F q.2 + vf F l + vf F r; rw [ih]; grind
theorem vf_le {F : (Nat → Rat) → Rat} : ∀ {ws : List (Rat × (Nat → Rat))}, (∀ q ∈ ws, 0 < q.1 ∧ F q.2 ≤ 0) → vf F ws ≤ 0
  | [], _ => by show (0 : Rat) ≤ 0; grind
  | q :: r, h => by
    obtain ⟨h1, h2⟩ := h q (.head _)
    have h3 := vf_le (ws := r) fun k hk => h k (.tail _ hk)
    have h4 : 0 ≤ q.1 * (- F q.2) := Rat.mul_nonneg (by grind) (by grind)
    show q.1 * F q.2 + vf F r ≤ 0
    grind
theorem vf_zero {F : (Nat → Rat) → Rat} : ∀ {ws : List (Rat × (Nat → Rat))}, (∀ q ∈ ws, 0 < q.1 ∧ F q.2 ≤ 0) → vf F ws = 0 → ∀ q ∈ ws, F q.2 = 0
  | [], _, _ => fun q h => by cases h
  | q :: r, h, e => by
    obtain ⟨h1, h2⟩ := h q (.head _)
    have h3 := vf_le (ws := r) fun k hk => h k (.tail _ hk)
    have e : q.1 * F q.2 + vf F r = 0 := e
    have h4 : 0 ≤ q.1 * (- F q.2) := Rat.mul_nonneg (by grind) (by grind)
    have h5 : q.1 * F q.2 = 0 := by grind
    have h6 : F q.2 = 0 := by
      rcases Rat.mul_eq_zero.mp h5 with z | z
      · grind
      · exact z
    have h7 := vf_zero (ws := r) (fun k hk => h k (.tail _ hk)) (by grind)
    intro k hk
    rcases List.mem_cons.mp hk with rfl | hk
    · exact h6
    · exact h7 k hk
theorem vf_neg {F : (Nat → Rat) → Rat} : ∀ {ws : List (Rat × (Nat → Rat))}, vf (fun s => - F s) ws = - vf F ws
  | [] => by show (0 : Rat) = -0; grind
  | q :: r => by
    show q.1 * (- F q.2) + vf (fun s => - F s) r = - (q.1 * F q.2 + vf F r)
    rw [vf_neg (ws := r)]
    grind
theorem cone_val {L : (Nat → Rat) → Prop} : ∀ {ws : List (Rat × (Nat → Rat))}, (∀ q ∈ ws, 0 < q.1 ∧ L q.2) → Cone L (val ws)
  | [], _ => .zero
  | q :: r, h => by
    obtain ⟨h1, h2⟩ := h q (.head _)
    have := Cone.add (cone_val (ws := r) fun k hk => h k (.tail _ hk)) (c := q.1) (by grind) h2
    rw [show (fun i => val r i + q.1 * q.2 i) = val (q :: r) from funext fun i => by show _ = q.1 * q.2 i + val r i; grind] at this
    exact this
theorem al0 {A IA x : Rat} (h : A * IA = 1) : A * (IA * x) = x := by
  rw [← Rat.mul_assoc, h, Rat.one_mul]
theorem al1 {c A IA d B IB x y v : Rat} (hA : A * IA = 1) (hB : B * IB = 1) (e : c * A = d * B) : v + c * x + d * y = v + c * A * (IA * x + IB * y) := by
  have k : c * A * (IA * x + IB * y) = c * (A * (IA * x)) + d * (B * (IB * y)) := by
    rw [Rat.mul_add]
    rw [show c * A * (IB * y) = d * (B * (IB * y)) by rw [e, Rat.mul_assoc]]
    rw [Rat.mul_assoc]
  rw [k, al0 hA, al0 hB, ← Rat.add_assoc]
theorem al2 {c A IA d B IB x y v : Rat} (hA : A * IA = 1) : v + c * x + d * y = (d - c * A * IB) * y + v + c * A * (IA * x + IB * y) := by
  have k : c * A * (IA * x + IB * y) = c * (A * (IA * x)) + c * A * IB * y := by
    rw [Rat.mul_add, Rat.mul_assoc, Rat.mul_assoc c A (IB * y), Rat.mul_assoc, Rat.mul_assoc]
  rw [k, al0 hA]
  have k2 : (d - c * A * IB) * y = d * y - c * A * IB * y := by grind
  rw [k2]
  generalize c * A * IB * y = z
  generalize c * x = z2
  generalize d * y = z3
  grind
theorem al3 {c A d B IB : Rat} (hB : B * IB = 1) (h0 : 0 < IB) (h : c * A < d * B) : 0 < d - c * A * IB := by
  have z := Rat.mul_pos (show 0 < d * B - c * A by grind) h0
  have e : (d * B - c * A) * IB = d * (B * IB) - c * A * IB := by grind
  rw [e, hB] at z
  grind
theorem al4 {c A d B IB v : Rat} (hB : B * IB = 1) (e : v + c * A + d * (-B) = 0) : (d - c * A * IB) * (-B) + v = 0 := by
  have k : (d - c * A * IB) * (-B) = d * (-B) + c * A * (B * IB) := by grind
  rw [k, hB]
  grind
theorem al10 {A : Rat} (h : A < 0) : 0 < - A := by grind
theorem al5 {A : Rat} (h : 0 < A) : A * (1 / A) = 1 := by
  have : A ≠ 0 := fun z => by rw [z] at h; exact absurd h (by decide)
  grind
theorem al6 {A : Rat} (h : 0 < A) : 0 < 1 / A := by
  rw [Rat.div_def, Rat.one_mul]
  exact Rat.inv_pos.mpr h
theorem al7 {c A d B v : Rat} (e : c * A = d * B) (h : v + c * A + d * (- B) = 0) : v = 0 := by grind
theorem al8 {c A IA d B v : Rat} (hA : A * IA = 1) (h : v + c * A + d * (- B) = 0) : (c - d * B * IA) * A + v = 0 := by
  have k : (c - d * B * IA) * A = c * A - d * B * (A * IA) := by grind
  rw [k, hA]
  grind
theorem al9 {c A IA d B IB x y v : Rat} (hB : B * IB = 1) : v + c * x + d * y = (c - d * B * IA) * x + v + d * B * (IA * x + IB * y) := by
  have := al2 (c := d) (A := B) (B := 0) (IA := IB) (d := c) (IB := IA) (x := y) (y := x) (v := v) hB
  rw [Rat.add_comm (IA * x), ← this]
  grind
theorem pairs {L L' : (Nat → Rat) → Prop} {F : (Nat → Rat) → Rat} {P : Nat → Prop} (hz : ∀ s, L s → F s = 0 → L' s)
    (hp : ∀ s r, L s → L r → 0 < F s → F r < 0 → (∀ i, s i ≠ 0 ∨ r i ≠ 0 → P i) → L' fun i => 1 / F s * s i + 1 / (- F r) * r i) :
    ∀ (n : Nat) (ws : List (Rat × (Nat → Rat))), ws.length ≤ n → (∀ q ∈ ws, 0 < q.1 ∧ L q.2 ∧ ∀ i, q.2 i ≠ 0 → P i) → vf F ws = 0 → Cone L' (val ws)
  | 0, [], _, _, _ => .zero
  | n + 1, ws, hn, h, e => by
    by_cases hA : ∃ q ∈ ws, 0 < F q.2
    · by_cases hB : ∃ q ∈ ws, F q.2 < 0
      · obtain ⟨q, hq, fq⟩ := hA
        obtain ⟨r, hr, fr⟩ := hB
        obtain ⟨l1, l2, rfl⟩ := List.append_of_mem hq
        have hr2 : r ∈ l1 ++ l2 := by
          rcases List.mem_append.mp hr with z | z
          · exact List.mem_append.mpr (.inl z)
          · rcases List.mem_cons.mp z with z | z
            · rw [z] at fr
              exfalso
              grind
            · exact List.mem_append.mpr (.inr z)
        obtain ⟨m1, m2, em⟩ := List.append_of_mem hr2
        obtain ⟨q1, q2, q3⟩ := h q hq
        obtain ⟨r1, r2, r3⟩ := h r hr
        have hm : ∀ k ∈ m1 ++ m2, 0 < k.1 ∧ L k.2 ∧ ∀ i, k.2 i ≠ 0 → P i := fun k hk => h k (by
          have : k ∈ l1 ++ l2 := by
            rw [em]
            rcases List.mem_append.mp hk with z | z
            · exact List.mem_append.mpr (.inl z)
            · exact List.mem_append.mpr (.inr (.tail _ z))
          rcases List.mem_append.mp this with z | z
          · exact List.mem_append.mpr (.inl z)
          · exact List.mem_append.mpr (.inr (.tail _ z)))
        have hl : (m1 ++ m2).length + 2 ≤ n + 1 := by
          have := congrArg List.length em
          rw [List.length_append, List.length_append, List.length_cons] at this
          rw [List.length_append, List.length_cons] at hn
          rw [List.length_append]
          omega
        have hv : ∀ i, val (l1 ++ q :: l2) i = val (m1 ++ m2) i + q.1 * q.2 i + r.1 * r.2 i := fun i => by
          have z : val (l1 ++ l2) i = val (m1 ++ r :: m2) i := by rw [em]
          rw [val_app, val_app] at z
          have z2 : val (r :: m2) i = r.1 * r.2 i + val m2 i := rfl
          have z3 : val (q :: l2) i = q.1 * q.2 i + val l2 i := rfl
          rw [val_app, val_app, z3]
          rw [z2] at z
          grind
        have hf : vf F (m1 ++ m2) + q.1 * F q.2 + r.1 * F r.2 = 0 := by
          have z : vf F (l1 ++ l2) = vf F (m1 ++ r :: m2) := by rw [em]
          rw [vf_app, vf_app] at z
          have z2 : vf F (r :: m2) = r.1 * F r.2 + vf F m2 := rfl
          have z3 : vf F (q :: l2) = q.1 * F q.2 + vf F l2 := rfl
          rw [vf_app, z3] at e
          rw [vf_app]
          rw [z2] at z
          grind
        have pr := hp q.2 r.2 q2 r2 fq fr fun i z => z.elim (q3 i) (r3 i)
        have fin : ∀ (x : Rat) (ws' : List (Rat × (Nat → Rat))), 0 ≤ x → ws'.length ≤ n → (∀ q ∈ ws', 0 < q.1 ∧ L q.2 ∧ ∀ i, q.2 i ≠ 0 → P i) → vf F ws' = 0 → (∀ i, val (m1 ++ m2) i + q.1 * q.2 i + r.1 * r.2 i = val ws' i + x * (1 / F q.2 * q.2 i + 1 / (- F r.2) * r.2 i)) → Cone L' (val (l1 ++ q :: l2)) := fun x ws' hx hl' h' e' ev => by
          have := Cone.add (pairs hz hp n ws' hl' h' e') hx pr
          rw [show val (l1 ++ q :: l2) = fun i => val ws' i + x * (1 / F q.2 * q.2 i + 1 / (- F r.2) * r.2 i) from funext fun i => by rw [hv i, ev i]]
          exact this
        clear hp hz h e hv em
        have fr' : 0 < - F r.2 := al10 fr
        have hf' : vf F (m1 ++ m2) + q.1 * F q.2 + r.1 * (- (- F r.2)) = 0 := by rw [Rat.neg_neg]; exact hf
        have hA : F q.2 * (1 / F q.2) = 1 := al5 fq
        have hB : (- F r.2) * (1 / (- F r.2)) = 1 := al5 fr'
        have iA := al6 fq
        have iB := al6 fr'
        by_cases ex : q.1 * F q.2 = r.1 * (- F r.2)
        · exact fin (q.1 * F q.2) (m1 ++ m2) (Rat.le_of_lt (Rat.mul_pos q1 fq)) (by omega) hm (al7 ex hf') fun i => al1 hA hB ex
        · by_cases lx : q.1 * F q.2 < r.1 * (- F r.2)
          · refine fin (q.1 * F q.2) ((r.1 - q.1 * F q.2 * (1 / (- F r.2)), r.2) :: (m1 ++ m2)) (Rat.le_of_lt (Rat.mul_pos q1 fq)) (by rw [List.length_cons]; omega) (fun k hk => ?_) ?_ fun i => ?_
            · rcases List.mem_cons.mp hk with rfl | hk
              · exact ⟨al3 hB iB lx, r2, r3⟩
              · exact hm k hk
            · have := al4 hB hf'
              rw [Rat.neg_neg] at this
              exact this
            · exact al2 (B := 0) hA
          · have lx : r.1 * (- F r.2) < q.1 * F q.2 := Rat.lt_of_le_of_ne (Rat.not_lt.mp lx) fun z => ex z.symm
            refine fin (r.1 * (- F r.2)) ((q.1 - r.1 * (- F r.2) * (1 / F q.2), q.2) :: (m1 ++ m2)) (Rat.le_of_lt (Rat.mul_pos r1 fr')) (by rw [List.length_cons]; omega) (fun k hk => ?_) ?_ fun i => ?_
            · rcases List.mem_cons.mp hk with rfl | hk
              · exact ⟨al3 hA iA lx, q2, q3⟩
              · exact hm k hk
            · exact al8 hA hf'
            · exact al9 (A := 0) hB
      · have hB : ∀ q ∈ ws, 0 < q.1 ∧ (fun s => - F s) q.2 ≤ 0 := fun q hq => ⟨(h q hq).1, by
          have : ¬ F q.2 < 0 := fun z => hB ⟨q, hq, z⟩
          show - F q.2 ≤ 0
          grind⟩
        have z := vf_zero hB (by rw [vf_neg, e]; grind)
        exact cone_val fun q hq => ⟨(h q hq).1, hz _ (h q hq).2.1 (by have := z q hq; grind)⟩
    · have hA : ∀ q ∈ ws, 0 < q.1 ∧ F q.2 ≤ 0 := fun q hq => ⟨(h q hq).1, by
        have : ¬ 0 < F q.2 := fun z => hA ⟨q, hq, z⟩
        grind⟩
      have z := vf_zero hA e
      exact cone_val fun q hq => ⟨(h q hq).1, hz _ (h q hq).2.1 (z q hq)⟩
theorem reach {lam v : Nat → Rat} {P : List Nat} (h0 : ∀ i, 0 ≤ lam i) (hP : ∀ i ∈ P, 0 < lam i) (hv : ∀ i, i ∉ P → v i = 0) (hn : ∃ j ∈ P, v j < 0) : ∃ (s : Rat) (j : Nat), 0 < s ∧ j ∈ P ∧ lam j + s * v j = 0 ∧ ∀ i, 0 ≤ lam i + s * v i := by
  obtain ⟨j, hj, vj, hm⟩ := least (A := fun i => v i < 0) (g := fun i => lam i * (1 / (- v i))) hn
  have lj := hP j hj
  have pj := al6 (al10 vj)
  have ej := al5 (al10 vj)
  refine ⟨lam j * (1 / (- v j)), j, Rat.mul_pos lj pj, hj, ?_, fun i => ?_⟩
  · generalize 1 / (- v j) = w at ej
    grind
  · by_cases hi : i ∈ P
    · by_cases vi : v i < 0
      · have m := hm i hi vi
        have ei := al5 (al10 vi)
        have z := Rat.mul_le_mul_of_nonneg_right m (Rat.le_of_lt (al10 vi))
        have k : lam i * (1 / (- v i)) * (- v i) = lam i * ((- v i) * (1 / (- v i))) := by rw [Rat.mul_assoc, Rat.mul_comm (1 / (- v i))]
        have z : lam j * (1 / (- v j)) * (- v i) ≤ lam i * (1 / (- v i)) * (- v i) := z
        rw [k, ei] at z
        generalize lam j * (1 / (- v j)) = s at z
        grind
      · have z := Rat.mul_nonneg (Rat.le_of_lt (Rat.mul_pos lj pj)) (Rat.not_lt.mp vi)
        have := h0 i
        generalize lam j * (1 / (- v j)) * v i = s at z
        grind
    · rw [hv i hi, Rat.mul_zero, Rat.add_zero]
      exact h0 i
theorem sm_all0 {f : Nat → Rat} : ∀ {S : List Nat}, (∀ i ∈ S, 0 ≤ f i) → sm S f = 0 → ∀ i ∈ S, f i = 0
  | [], _, _ => fun i h => by cases h
  | k :: r, h, e => by
    have e : f k + sm r f = 0 := e
    have h1 := h k (.head _)
    have h2 := sm_nonneg (S := r) fun i hi => h i (.tail _ hi)
    have h3 := sm_all0 (S := r) (fun i hi => h i (.tail _ hi)) (by grind)
    intro i hi
    rcases List.mem_cons.mp hi with rfl | hi
    · grind
    · exact h3 i hi
theorem mix {s r x v : Rat} (hs : 0 < s) (hr : 0 < r) : x = r * (1 / (s + r)) * (x + s * v) + s * (1 / (s + r)) * (x + r * (- v)) := by
  have e := al5 (show 0 < s + r by grind)
  generalize 1 / (s + r) = w at e
  have k : r * w * (x + s * v) + s * w * (x + r * (- v)) = ((s + r) * w) * x := by grind
  rw [k, e, Rat.one_mul]
theorem split {U : List Nat} {a : Nat → Nat → Rat} {t : Nat} {lam : Nat → Rat} {P : List Nat} (hU : U.Nodup) (hP : P.Nodup) (hs : ∀ i ∈ P, i ∈ U) (h0 : ∀ i, 0 ≤ lam i) (hp : ∀ i ∈ P, 0 < lam i) (hz : ∀ i, i ∉ P → lam i = 0) (hk : ∀ k, k < t → sm U (fun i => a k i * lam i) = 0) (hc : t + 1 < P.length) :
    ∃ (f g : Nat → Rat) (c d : Rat), (lam = fun i => c * f i + d * g i) ∧ 0 ≤ c ∧ 0 ≤ d ∧ ∀ h : Nat → Rat, h = f ∨ h = g → (∀ i, 0 ≤ h i) ∧ (∀ i, i ∉ P → h i = 0) ∧ (∃ j ∈ P, h j = 0) ∧ ∀ k, k < t → sm U (fun i => a k i * h i) = 0 := by
  obtain ⟨v, ⟨i0, hi0, n0⟩, vz, vk⟩ := homog (t + 1) P (fun k i => if k = t then 1 else a k i) hP hc
  have vs : sm P v = 0 := by
    have := vk t (by omega)
    rw [sm_congr (g := v) fun i _ => by show (if t = t then (1 : Rat) else a t i) * v i = v i; rw [if_pos rfl, Rat.one_mul]] at this
    exact this
  have va : ∀ k, k < t → sm U (fun i => a k i * v i) = 0 := fun k hk' => by
    rw [sm_sub hP hU hs fun i hi => by rw [vz i hi, Rat.mul_zero]]
    have := vk k (by omega)
    rw [sm_congr (g := fun i => a k i * v i) fun i _ => by show (if k = t then (1 : Rat) else a k i) * v i = a k i * v i; rw [if_neg (by omega)]] at this
    exact this
  have neg : ∃ j ∈ P, v j < 0 := Classical.byContradiction fun n => n0 (sm_all0 (fun i hi => Rat.not_lt.mp fun z => n ⟨i, hi, z⟩) vs i0 hi0)
  have vs2 : sm P (fun i => - v i) = 0 := by
    rw [sm_congr (g := fun i => (-1) * v i) fun i _ => by grind, sm_mul, vs]
    grind
  have pos : ∃ j ∈ P, (fun i => - v i) j < 0 := Classical.byContradiction fun n => n0 (by
    have := sm_all0 (f := fun i => - v i) (fun i hi => Rat.not_lt.mp fun z => n ⟨i, hi, z⟩) vs2 i0 hi0
    have : - v i0 = 0 := this
    grind)
  obtain ⟨s, j, s0, hj, ej, hf⟩ := reach h0 hp vz neg
  obtain ⟨r, k, r0, hk2, ek, hg⟩ := reach (v := fun i => - v i) h0 hp (fun i hi => by show - v i = 0; rw [vz i hi]; grind) pos
  have hw := Rat.le_of_lt (al6 (show 0 < s + r by grind))
  refine ⟨fun i => lam i + s * v i, fun i => lam i + r * (- v i), r * (1 / (s + r)), s * (1 / (s + r)), funext fun i => mix s0 r0, Rat.mul_nonneg (Rat.le_of_lt r0) hw, Rat.mul_nonneg (Rat.le_of_lt s0) hw, fun h hh => ?_⟩
  rcases hh with rfl | rfl
  · refine ⟨hf, fun i hi => ?_, ⟨j, hj, ej⟩, fun m hm => ?_⟩
    · show lam i + s * v i = 0
      rw [hz i hi, vz i hi]; grind
    · rw [sm_congr (g := fun i => a m i * lam i + s * (a m i * v i)) fun i _ => by grind, sm_add, sm_mul, hk m hm, va m hm]
      grind
  · refine ⟨hg, fun i hi => ?_, ⟨k, hk2, ek⟩, fun m hm => ?_⟩
    · show lam i + r * (- v i) = 0
      rw [hz i hi, vz i hi]; grind
    · rw [sm_congr (g := fun i => a m i * lam i + (-r) * (a m i * v i)) fun i _ => by grind, sm_add, sm_mul, hk m hm, va m hm]
      grind
theorem Cone.list {L : (Nat → Rat) → Prop} {f : Nat → Rat} (h : Cone L f) : ∃ ws : List (Rat × (Nat → Rat)), f = val ws ∧ ∀ q ∈ ws, 0 < q.1 ∧ L q.2 := by
  induction h with
  | zero => exact ⟨[], rfl, fun q h => by cases h⟩
  | @add g s c _ hc hs ih =>
    obtain ⟨ws, rfl, hw⟩ := ih
    by_cases z : c = 0
    · refine ⟨ws, funext fun i => ?_, hw⟩
      rw [z, Rat.zero_mul, Rat.add_zero]
    · refine ⟨(c, s) :: ws, funext fun i => ?_, fun q hq => ?_⟩
      · show val ws i + c * s i = c * s i + val ws i
        rw [Rat.add_comm]
      · rcases List.mem_cons.mp hq with rfl | hq
        · exact ⟨Rat.lt_of_le_of_ne hc fun e => z e.symm, hs⟩
        · exact hw q hq
theorem fa_val {U : List Nat} {b : Nat → Rat} : ∀ {ws : List (Rat × (Nat → Rat))}, vf (fa U b) ws = fa U b (val ws)
  | [] => (sm_zero fun i _ => Rat.mul_zero _).symm
  | q :: r => by
    show q.1 * fa U b q.2 + vf (fa U b) r = fa U b (val (q :: r))
    rw [fa_val (ws := r)]
    unfold fa
    rw [← sm_mul, ← sm_add]
    refine sm_congr fun i _ => ?_
    show _ = b i * (q.1 * q.2 i + val r i)
    grind
theorem val_sup {ws : List (Rat × (Nat → Rat))} (h : ∀ q ∈ ws, 0 < q.1 ∧ ∀ i, 0 ≤ q.2 i) {i : Nat} (e : val ws i = 0) : ∀ q ∈ ws, q.2 i = 0 := by
  induction ws with
  | nil => intro q h; cases h
  | cons k r ih =>
    have nn : ∀ {l : List (Rat × (Nat → Rat))}, (∀ q ∈ l, 0 < q.1 ∧ ∀ i, 0 ≤ q.2 i) → 0 ≤ val l i := by
      intro l hl
      induction l with
      | nil => exact Rat.le_refl
      | cons k r ih =>
        have h1 := Rat.mul_nonneg (Rat.le_of_lt (hl k (.head _)).1) ((hl k (.head _)).2 i)
        have h2 := ih fun q hq => hl q (.tail _ hq)
        show 0 ≤ k.1 * k.2 i + val r i
        grind
    have e : k.1 * k.2 i + val r i = 0 := e
    have h1 := Rat.mul_nonneg (Rat.le_of_lt (h k (.head _)).1) ((h k (.head _)).2 i)
    have h2 := nn (l := r) fun q hq => h q (.tail _ hq)
    have h3 : k.1 * k.2 i = 0 := by grind
    have h4 := ih (fun q hq => h q (.tail _ hq)) (by grind)
    intro q hq
    rcases List.mem_cons.mp hq with rfl | hq
    · rcases Rat.mul_eq_zero.mp h3 with z | z
      · have := (h q (.head _)).1
        grind
      · exact z
    · exact h4 q hq
theorem kept {U : List Nat} {a : Nat → Nat → Rat} {L : Nat → (Nat → Rat) → Prop} (hU : U.Nodup) (hpos : ∀ t s, L t s → ∀ i, 0 ≤ s i)
    (hb : ∀ lam : Nat → Rat, (∀ i, 0 ≤ lam i) → (∀ i, i ∉ U → lam i = 0) → Cone (L 0) lam)
    (hz : ∀ t s, L t s → fa U (a t) s = 0 → L (t + 1) s)
    (hp : ∀ t s r, L t s → L t r → 0 < fa U (a t) s → fa U (a t) r < 0 → (∃ P : List Nat, P.Nodup ∧ P.length ≤ t + 2 ∧ ∀ i, s i ≠ 0 ∨ r i ≠ 0 → i ∈ P) → L (t + 1) fun i => 1 / fa U (a t) s * s i + 1 / (- fa U (a t) r) * r i) :
    ∀ (t n : Nat) (lam : Nat → Rat) (P : List Nat), P.length ≤ n → P.Nodup → (∀ i ∈ P, i ∈ U) → (∀ i, 0 ≤ lam i) → (∀ i ∈ P, 0 < lam i) → (∀ i, i ∉ P → lam i = 0) → (∀ k, k < t → fa U (a k) lam = 0) → Cone (L t) lam
  | 0, _, lam, P, _, _, hs, h0, _, hz0, _ => hb lam h0 fun i hi => hz0 i fun z => hi (hs i z)
  | t + 1, n, lam, P, hn, hP, hs, h0, hp0, hz0, hk => by
    by_cases few : P.length ≤ t + 2
    · have ih := kept hU hpos hb hz hp t P.length lam P (Nat.le_refl _) hP hs h0 hp0 hz0 fun k hk' => hk k (by omega)
      obtain ⟨ws, rfl, hw⟩ := ih.list
      refine pairs (F := fa U (a t)) (P := fun i => i ∈ P) (hz t) (fun s r hs' hr' fs fr hPi => hp t s r hs' hr' fs fr ⟨P, hP, few, hPi⟩) ws.length ws (Nat.le_refl _) (fun q hq => ⟨(hw q hq).1, (hw q hq).2, fun i hi => Classical.byContradiction fun nP => hi (val_sup (fun k hk' => ⟨(hw k hk').1, hpos t _ (hw k hk').2⟩) (hz0 i nP) q hq)⟩) ?_
      rw [fa_val]
      exact hk t (by omega)
    · match n, hn with
      | 0, hn => omega
      | n + 1, hn =>
        obtain ⟨f, g, c, d, rfl, hc, hd, hh⟩ := split hU hP hs h0 hp0 hz0 hk (by omega)
        have go : ∀ h : Nat → Rat, h = f ∨ h = g → Cone (L (t + 1)) h := fun h e => by
          obtain ⟨h1, h2, ⟨j, hj, h3⟩, h4⟩ := hh h e
          refine kept hU hpos hb hz hp (t + 1) n h (P.filter fun i => decide (h i ≠ 0)) ?_ (hP.filter _) (fun i hi => hs i (List.mem_filter.mp hi).1) h1 (fun i hi => ?_) (fun i hi => ?_) h4
          · have : (P.filter fun i => decide (h i ≠ 0)).length < P.length := List.length_filter_lt_length_iff_exists.mpr ⟨j, hj, by simp [h3]⟩
            omega
          · have := of_decide_eq_true (List.mem_filter.mp hi).2
            exact Rat.lt_of_le_of_ne (h1 i) fun z => this z.symm
          · by_cases hi2 : i ∈ P
            · exact Classical.byContradiction fun z => hi (List.mem_filter.mpr ⟨hi2, decide_eq_true z⟩)
            · exact h2 i hi2
        exact (Cone.times hc (go f (.inl rfl))).plus (Cone.times hd (go g (.inr rfl)))
  termination_by t n => (t, n)
end Fm
set_option Elab.async false
set_option linter.all false
set_option maxRecDepth 100000
set_option maxHeartbeats 400000
namespace Fs
open Fm
def gt (l : List Rat) (i : Nat) : Rat := l.getD i 0
structure Rw where
  f : List Rat
  c : Rat
  e : Bool
structure Sm where
  f : List Rat
  c : Rat
  m : List Rat
  mem : List Nat
def addR (xs ys : List Rat) (b : Rat) : List Rat := List.zipWith (fun x y => x + b * y) xs ys
def un (n : Nat) (a b : List Nat) : List Nat := (List.range n).filter fun i => decide (i ∈ a) || decide (i ∈ b)
def Sm.withO (s o : Sm) (b : Rat) : Sm := ⟨addR s.f o.f b, s.c + b * o.c, addR s.m o.m b, un s.m.length s.mem o.mem⟩
def Sm.scaled (s : Sm) (b : Rat) : Sm := ⟨s.f.map fun x => b * x, b * s.c, s.m.map fun x => b * x, s.mem⟩
def valR (f : List Rat) (c : Rat) (p : List Rat) : Rat := (List.zip f p).foldl (fun a q => a + q.1 * q.2) c
def Sm.v (s : Sm) (p : List Rat) : Rat := valR s.f s.c p
def wo (s p : Sm) (k : Nat) : Sm := if gt s.f k = 0 then s else s.withO p (-(gt s.f k / gt p.f k))
def spotR (f : List Rat) : Option Nat := (List.range f.length).find? fun k => decide (gt f k ≠ 0)
def sgR (q : Rat) : Rat := if 0 < q then 1 else if q < 0 then -1 else 0
def solveEq : Nat → List (Nat × Sm) → List Sm → List Sm → List (Nat × Sm) × List Sm × Option (List Rat)
  | _, piv, [], S => (piv, S, none)
  | 0, piv, _, S => (piv, S, none)
  | k + 1, piv, s :: r, S => match spotR s.f with
    | none => if s.c ≠ 0 then (piv, S, some (s.scaled (sgR s.c)).m) else solveEq k piv r S
    | some sp => solveEq k (piv ++ [(sp, s)]) (r.map fun o => wo o s sp) (S.map fun o => wo o s sp)
def pairR (lo hi : Sm) (k : Nat) : Sm := (hi.scaled (1 / gt hi.f k)).withO lo (1 / (-(gt lo.f k)))
def zers (S : List Sm) (k : Nat) : List Sm := S.filter fun s => decide (gt s.f k = 0)
def negs (S : List Sm) (k : Nat) : List Sm := S.filter fun s => decide (gt s.f k < 0)
def poss (S : List Sm) (k : Nat) : List Sm := S.filter fun s => decide (0 < gt s.f k)
def rowR (lo : Sm) (P : List Sm) (k d : Nat) : List Sm := (P.map fun hi => pairR lo hi k).filter fun s => decide (s.mem.length ≤ d + 2)
def removedR (S : List Sm) (k d : Nat) : List Sm := zers S k ++ (negs S k).flatMap fun lo => rowR lo (poss S k) k d
def bndR (s : Sm) (k : Nat) (p : List Rat) : Rat := -((s.v p - gt s.f k * gt p k) / gt s.f k)
def btwS (k : Nat) (p : List Rat) (a : Option Rat × Option Rat) (s : Sm) : Option Rat × Option Rat :=
  if gt s.f k = 0 then a else
  if 0 < gt s.f k then (a.1, match a.2 with | none => some (bndR s k p) | some h => if bndR s k p - h < 0 then some (bndR s k p) else some h)
  else (match a.1 with | none => some (bndR s k p) | some l => if 0 < bndR s k p - l then some (bndR s k p) else some l, a.2)
def midR : Option Rat × Option Rat → Rat
  | (none, none) => 0
  | (none, some h) => h - 1
  | (some l, none) => l + 1
  | (some l, some h) => 1 / 2 * (l + h)
def betweenR (S : List Sm) (k : Nat) (p : List Rat) : Rat := midR (S.foldl (btwS k p) (none, none))
inductive Ans | point (p : List Rat) | never (m : List Rat)
def stg : List Nat → Nat → List Sm → List (Nat × List Sm) × List Sm
  | [], _, S => ([], S)
  | k :: r, t, S => ((k, S) :: (stg r (t + 1) (removedR S k t)).1, (stg r (t + 1) (removedR S k t)).2)
def backR (st : List (Nat × List Sm)) (p : List Rat) : List Rat := st.foldr (fun q p => p.set q.1 (betweenR q.2 q.1 p)) p
def pivV (q : Nat × Sm) (p : List Rat) : Rat := -((q.2.v p - gt q.2.f q.1 * gt p q.1) / gt q.2.f q.1)
def pivR (st : List (Nat × Sm)) (p : List Rat) : List Rat := st.foldr (fun q p => p.set q.1 (pivV q p)) p
def baseR (n : Nat) (q : Nat × Rw) : Sm := ⟨q.2.f, q.2.c, (List.range n).map fun k => if k = q.1 then 1 else 0, if q.2.e then [] else [q.1]⟩
def rowA (R : List Rw) (i : Nat) : Rw := R.getD i ⟨[], 0, false⟩
def enumR (R : List Rw) : List (Nat × Rw) := (List.range R.length).map fun i => (i, rowA R i)
def eqs (R : List Rw) : List Sm := ((enumR R).filter fun q => q.2.e).map (baseR R.length)
def lts (R : List Rw) : List Sm := ((enumR R).filter fun q => !q.2.e).map (baseR R.length)
def freeR (w : Nat) (piv : List (Nat × Sm)) : List Nat := (List.range w).filter fun k => !decide (k ∈ piv.map (·.1))
def solveR (R : List Rw) (w : Nat) : Ans := match solveEq R.length [] (eqs R) (lts R) with
  | (_, _, some m) => .never m
  | (piv, S, none) => match (stg (freeR w piv) 0 S).2.find? fun s => decide (0 ≤ s.c) with
    | some s => .never s.m
    | none => .point (pivR piv (backR (stg (freeR w piv) 0 S).1 (List.replicate w 0)))
theorem gt_add {xs ys : List Rat} {b : Rat} {i : Nat} (h : xs.length = ys.length) : gt (addR xs ys b) i = gt xs i + b * gt ys i := by
  unfold gt addR
  rw [List.getD_eq_getElem?_getD, List.getD_eq_getElem?_getD, List.getD_eq_getElem?_getD, List.getElem?_zipWith]
  cases hx : xs[i]? with
  | none =>
    have : ys[i]? = none := by
      rw [List.getElem?_eq_none_iff] at hx ⊢
      omega
    rw [this]
    show (0 : Rat) = 0 + b * 0
    grind
  | some x =>
    cases hy : ys[i]? with
    | none =>
      rw [List.getElem?_eq_none_iff] at hy
      have := (List.getElem?_eq_some_iff.mp hx).1
      omega
    | some y => rfl
theorem gt_map {xs : List Rat} {b : Rat} {i : Nat} : gt (xs.map fun x => b * x) i = b * gt xs i := by
  unfold gt
  rw [List.getD_eq_getElem?_getD, List.getD_eq_getElem?_getD, List.getElem?_map]
  cases xs[i]? with
  | none => show (0 : Rat) = b * 0; grind
  | some x => rfl
theorem len_add {xs ys : List Rat} {b : Rat} (h : xs.length = ys.length) : (addR xs ys b).length = xs.length := by
  unfold addR
  rw [List.length_zipWith, h, Nat.min_self]
theorem sm_map {f : Nat → Rat} {g : Nat → Nat} : ∀ {S : List Nat}, sm (S.map g) f = sm S fun i => f (g i)
  | [] => rfl
  | i :: S => by
    show f (g i) + sm (S.map g) f = f (g i) + _
    rw [sm_map]
theorem val_sm : ∀ (f p : List Rat) (c : Rat), f.length = p.length → valR f c p = c + sm (List.range f.length) fun k => gt f k * gt p k
  | [], [], c, _ => by show c = c + 0; grind
  | x :: f, y :: p, c, h => by
    have h : f.length = p.length := by simpa using h
    show valR f (c + x * y) p = _
    rw [val_sm f p _ h, List.length_cons, List.range_succ_eq_map]
    show _ = c + (x * y + sm ((List.range f.length).map Nat.succ) _)
    rw [sm_map]
    show c + x * y + sm (List.range f.length) (fun k => gt f k * gt p k) = c + (x * y + sm (List.range f.length) (fun k => gt f k * gt p k))
    grind
theorem gt_set {p : List Rat} {k j : Nat} {x : Rat} (h : k < p.length) : gt (p.set k x) j = if j = k then x else gt p j := by
  unfold gt
  rw [List.getD_eq_getElem?_getD, List.getD_eq_getElem?_getD, List.getElem?_set]
  by_cases e : k = j
  · subst e
    rw [if_pos rfl, if_pos h, if_pos rfl]
    rfl
  · rw [if_neg e, if_neg (fun z => e z.symm)]
theorem gt_out {p : List Rat} {k : Nat} (h : p.length ≤ k) : gt p k = 0 := by
  unfold gt
  rw [List.getD_eq_getElem?_getD, List.getElem?_eq_none h]
  rfl
theorem sm_one {S : List Nat} {k : Nat} {f : Nat → Rat} (hS : S.Nodup) (hk : k ∈ S) (h : ∀ j ∈ S, j ≠ k → f j = 0) : sm S f = f k := by
  rw [sm_erase hk, sm_zero (f := f) (S := S.erase k) fun i hi => h i (List.mem_of_mem_erase hi) fun e => by
    subst e
    exact ((List.Nodup.mem_erase_iff hS).mp hi).1 rfl]
  grind
theorem sm_sub2 {f g : Nat → Rat} : ∀ {S : List Nat}, sm S (fun i => f i - g i) = sm S f - sm S g
  | [] => by show (0 : Rat) = 0 - 0; grind
  | i :: r => by
    show f i - g i + sm r (fun i => f i - g i) = (f i + sm r f) - (g i + sm r g)
    rw [sm_sub2 (S := r)]
    grind
theorem val_set {f p : List Rat} {c x : Rat} {k : Nat} (h : f.length = p.length) (hk : k < p.length) : valR f c (p.set k x) = valR f c p + gt f k * (x - gt p k) := by
  rw [val_sm _ _ _ (by rw [List.length_set]; exact h), val_sm _ _ _ h]
  have e := sm_sub2 (f := fun j => gt f j * gt (p.set k x) j) (g := fun j => gt f j * gt p j) (S := List.range f.length)
  rw [sm_one List.nodup_range (List.mem_range.mpr (by omega : k < f.length)) (fun j _ hj => by
    show gt f j * gt (p.set k x) j - gt f j * gt p j = 0
    rw [gt_set hk, if_neg hj]
    grind)] at e
  have e1 : gt f k * gt (p.set k x) k - gt f k * gt p k = gt f k * (x - gt p k) := by
    rw [gt_set hk, if_pos rfl]
    grind
  have e : gt f k * gt (p.set k x) k - gt f k * gt p k = _ := e
  rw [e1] at e
  rw [e]
  generalize sm (List.range f.length) (fun j => gt f j * gt (p.set k x) j) = A
  generalize sm (List.range f.length) (fun j => gt f j * gt p j) = B
  grind
theorem val_zero {f p : List Rat} {c : Rat} (h : f.length = p.length) (hz : ∀ k, k < f.length → gt f k = 0 ∨ gt p k = 0) : valR f c p = c := by
  rw [val_sm _ _ _ h, sm_zero fun k hk => by
    rcases hz k (List.mem_range.mp hk) with e | e
    · rw [e]; grind
    · rw [e]; grind]
  grind
theorem v_with {s o : Sm} {b : Rat} {p : List Rat} (h1 : s.f.length = p.length) (h2 : o.f.length = p.length) : (s.withO o b).v p = s.v p + b * o.v p := by
  show valR (addR s.f o.f b) (s.c + b * o.c) p = valR s.f s.c p + b * valR o.f o.c p
  have hl : s.f.length = o.f.length := by omega
  rw [val_sm _ _ _ (by rw [len_add hl]; exact h1), val_sm _ _ _ h1, val_sm _ _ _ h2, len_add hl, sm_congr (g := fun k => gt s.f k * gt p k + b * (gt o.f k * gt p k)) fun k _ => by rw [gt_add hl]; grind, sm_add, sm_mul, ← hl]
  generalize sm (List.range s.f.length) (fun k => gt s.f k * gt p k) = A
  generalize sm (List.range s.f.length) (fun k => gt o.f k * gt p k) = B
  grind
theorem v_scaled {s : Sm} {b : Rat} {p : List Rat} (h1 : s.f.length = p.length) : (s.scaled b).v p = b * s.v p := by
  show valR (s.f.map fun x => b * x) (b * s.c) p = b * valR s.f s.c p
  rw [val_sm _ _ _ (by rw [List.length_map]; exact h1), val_sm _ _ _ h1, List.length_map, sm_congr (g := fun k => b * (gt s.f k * gt p k)) fun k _ => by rw [gt_map]; grind, sm_mul]
  generalize sm (List.range s.f.length) (fun k => gt s.f k * gt p k) = A
  grind
end Fs
set_option Elab.async false
set_option linter.all false
set_option maxRecDepth 100000
set_option maxHeartbeats 400000
namespace Fs
open Fm
theorem spot_none {f : List Rat} (h : spotR f = none) (k : Nat) : gt f k = 0 := by
  by_cases hk : k < f.length
  · have := List.find?_eq_none.mp h k (List.mem_range.mpr hk)
    exact Classical.byContradiction fun z => this (decide_eq_true z)
  · exact gt_out (by omega)
theorem spot_some {f : List Rat} {k : Nat} (h : spotR f = some k) : k < f.length ∧ gt f k ≠ 0 :=
  ⟨List.mem_range.mp (List.mem_of_find?_eq_some h), of_decide_eq_true (List.find?_some (p := fun k => decide (gt f k ≠ 0)) h)⟩
def rv (R : List Rw) (i : Nat) (p : List Rat) : Rat := valR (rowA R i).f (rowA R i).c p
def US (R : List Rw) : List Nat := (List.range R.length).filter fun i => !(rowA R i).e
theorem us_mem {R : List Rw} {i : Nat} : i ∈ US R ↔ i < R.length ∧ (rowA R i).e = false := by
  unfold US
  rw [List.mem_filter, List.mem_range]
  simp
theorem us_nd {R : List Rw} : (US R).Nodup := List.nodup_range.filter _
theorem lts_eq {R : List Rw} : lts R = (US R).map fun i => baseR R.length (i, rowA R i) := by
  unfold lts enumR US
  rw [List.filter_map, List.map_map]
  rfl
theorem eqs_mem {R : List Rw} {s : Sm} (h : s ∈ eqs R) : ∃ i, i < R.length ∧ (rowA R i).e = true ∧ s = baseR R.length (i, rowA R i) := by
  unfold eqs enumR at h
  obtain ⟨q, hq, rfl⟩ := List.mem_map.mp h
  obtain ⟨h1, h2⟩ := List.mem_filter.mp hq
  obtain ⟨i, hi, rfl⟩ := List.mem_map.mp h1
  exact ⟨i, List.mem_range.mp hi, h2, rfl⟩
theorem eqs_in {R : List Rw} {i : Nat} (h : i < R.length) (he : (rowA R i).e = true) : baseR R.length (i, rowA R i) ∈ eqs R :=
  List.mem_map.mpr ⟨_, List.mem_filter.mpr ⟨List.mem_map.mpr ⟨i, List.mem_range.mpr h, rfl⟩, he⟩, rfl⟩
structure Cb (R : List Rw) (w : Nat) (s : Sm) : Prop where
  fl : s.f.length = w
  ml : s.m.length = R.length
  cb : ∀ p, p.length = w → s.v p = sm (List.range R.length) fun i => gt s.m i * rv R i p
theorem Cb.withO {R : List Rw} {w : Nat} {s o : Sm} {b : Rat} (hs : Cb R w s) (ho : Cb R w o) : Cb R w (s.withO o b) := by
  refine ⟨?_, ?_, fun p hp => ?_⟩
  · show (addR s.f o.f b).length = w
    rw [len_add (by rw [hs.fl, ho.fl]), hs.fl]
  · show (addR s.m o.m b).length = R.length
    rw [len_add (by rw [hs.ml, ho.ml]), hs.ml]
  · rw [v_with (by rw [hs.fl, hp]) (by rw [ho.fl, hp]), hs.cb p hp, ho.cb p hp, ← sm_mul, ← sm_add]
    refine sm_congr fun i _ => ?_
    show _ = gt (addR s.m o.m b) i * rv R i p
    rw [gt_add (by rw [hs.ml, ho.ml])]
    grind
theorem Cb.scaled {R : List Rw} {w : Nat} {s : Sm} {b : Rat} (hs : Cb R w s) : Cb R w (s.scaled b) := by
  refine ⟨?_, ?_, fun p hp => ?_⟩
  · show (s.f.map _).length = w
    rw [List.length_map, hs.fl]
  · show (s.m.map _).length = _
    rw [List.length_map, hs.ml]
  · rw [v_scaled (by rw [hs.fl, hp]), hs.cb p hp, ← sm_mul]
    refine sm_congr fun i _ => ?_
    show _ = gt (s.m.map fun x => b * x) i * rv R i p
    rw [gt_map]
    grind
theorem gt_base {n i j : Nat} (h : j < n) : gt ((List.range n).map fun k => if k = i then (1 : Rat) else 0) j = if j = i then 1 else 0 := by
  unfold gt
  rw [List.getD_eq_getElem?_getD, List.getElem?_map, List.getElem?_range h]
  rfl
theorem cb_base {R : List Rw} {w i : Nat} (hw : ∀ r ∈ R, r.f.length = w) (hi : i < R.length) : Cb R w (baseR R.length (i, rowA R i)) := by
  have hr : rowA R i ∈ R := by
    unfold rowA
    rw [List.getD_eq_getElem?_getD, List.getElem?_eq_getElem hi]
    exact List.getElem_mem hi
  refine ⟨hw _ hr, by show ((List.range R.length).map _).length = _; rw [List.length_map, List.length_range], fun p hp => ?_⟩
  rw [sm_one (k := i) List.nodup_range (List.mem_range.mpr hi) fun j hj e => by
    show gt ((List.range R.length).map fun k => if k = i then (1 : Rat) else 0) j * _ = 0
    rw [gt_base (List.mem_range.mp hj), if_neg e]
    grind]
  show valR (rowA R i).f (rowA R i).c p = gt ((List.range R.length).map fun k => if k = i then (1 : Rat) else 0) i * valR (rowA R i).f (rowA R i).c p
  rw [gt_base hi, if_pos rfl]
  grind
theorem wo_v {s o : Sm} {k : Nat} {p : List Rat} (h1 : s.f.length = p.length) (h2 : o.f.length = p.length) : (wo s o k).v p = s.v p + (-(gt s.f k / gt o.f k)) * o.v p := by
  unfold wo
  split
  · rename_i e
    rw [e, Rat.div_def]
    grind
  · exact v_with h1 h2
theorem wo_f {s o : Sm} {k j : Nat} (h : s.f.length = o.f.length) : gt (wo s o k).f j = gt s.f j + (-(gt s.f k / gt o.f k)) * gt o.f j := by
  unfold wo
  split
  · rename_i e
    rw [e, Rat.div_def]
    grind
  · exact gt_add h
theorem wo_m {s o : Sm} {k j : Nat} (h : s.m.length = o.m.length) : gt (wo s o k).m j = gt s.m j + (-(gt s.f k / gt o.f k)) * gt o.m j := by
  unfold wo
  split
  · rename_i e
    rw [e, Rat.div_def]
    grind
  · exact gt_add h
theorem wo_k {s o : Sm} {k : Nat} (h : s.f.length = o.f.length) (hk : gt o.f k ≠ 0) : gt (wo s o k).f k = 0 := by
  rw [wo_f h]
  have : gt s.f k / gt o.f k * gt o.f k = gt s.f k := Rat.div_mul_cancel hk
  grind
theorem wo_cb {R : List Rw} {w : Nat} {s o : Sm} {k : Nat} (hs : Cb R w s) (ho : Cb R w o) : Cb R w (wo s o k) := by
  unfold wo
  split
  · exact hs
  · exact hs.withO ho
theorem un_nil {n : Nat} : un n [] [] = [] := by
  unfold un
  rw [List.filter_eq_nil_iff]
  intro a _
  simp
theorem un_one {n i : Nat} (h : i < n) : un n [i] [] = [i] := by
  unfold un
  induction n with
  | zero => omega
  | succ n ih =>
    rw [List.range_succ, List.filter_append]
    by_cases e : i = n
    · subst e
      rw [List.filter_eq_nil_iff.mpr fun a ha => by
        have := List.mem_range.mp ha
        simp
        omega]
      simp
    · rw [ih (by omega)]
      simp
      omega
theorem wo_mem0 {s o : Sm} {k : Nat} (hs : s.mem = []) (ho : o.mem = []) : (wo s o k).mem = [] := by
  unfold wo
  split
  · exact hs
  · show un _ s.mem o.mem = []
    rw [hs, ho, un_nil]
theorem wo_mem1 {s o : Sm} {k i : Nat} (hs : s.mem = [i]) (ho : o.mem = []) (hi : i < s.m.length) : (wo s o k).mem = [i] := by
  unfold wo
  split
  · exact hs
  · show un _ s.mem o.mem = [i]
    rw [hs, ho, un_one hi]
structure EI (R : List Rw) (w : Nat) (piv : List (Nat × Sm)) (left S : List Sm) (b : Nat → Sm) : Prop where
  se : S = (US R).map b
  hb : ∀ i ∈ US R, Cb R w (b i) ∧ (b i).mem = [i] ∧ (∀ j ∈ US R, gt (b i).m j = if j = i then 1 else 0) ∧ (∀ q ∈ piv, gt (b i).f q.1 = 0) ∧ ∀ p, p.length = w → (∀ q ∈ piv, q.2.v p = 0) → (b i).v p = rv R i p
  gl : ∀ s ∈ left, Cb R w s ∧ s.mem = [] ∧ (∀ j ∈ US R, gt s.m j = 0) ∧ ∀ q ∈ piv, gt s.f q.1 = 0
  gp : ∀ q ∈ piv, Cb R w q.2 ∧ q.2.mem = [] ∧ (∀ j ∈ US R, gt q.2.m j = 0) ∧ q.1 < w ∧ gt q.2.f q.1 ≠ 0
  pw : piv.Pairwise fun a c => gt c.2.f a.1 = 0
  bk : ∀ p, p.length = w → (∀ q ∈ piv, q.2.v p = 0) → (∀ s ∈ left, s.v p = 0) → ∀ i, i < R.length → (rowA R i).e = true → rv R i p = 0
theorem EI.init {R : List Rw} {w : Nat} (hw : ∀ r ∈ R, r.f.length = w) : EI R w [] (eqs R) (lts R) fun i => baseR R.length (i, rowA R i) := by
  refine ⟨lts_eq, fun i hi => ?_, fun s hs => ?_, fun q h => (by cases h), .nil, fun p _ _ h i hi he => h _ (eqs_in hi he)⟩
  · obtain ⟨h1, h2⟩ := us_mem.mp hi
    refine ⟨cb_base hw h1, ?_, fun j hj => gt_base (us_mem.mp hj).1, fun q h => (by cases h), fun p _ _ => rfl⟩
    show (if (rowA R i).e = true then [] else [i]) = [i]
    rw [h2]
    rfl
  · obtain ⟨i, hi, he, rfl⟩ := eqs_mem hs
    refine ⟨cb_base hw hi, ?_, fun j hj => ?_, fun q h => by cases h⟩
    · show (if (rowA R i).e = true then [] else [i]) = []
      rw [he]
      rfl
    · obtain ⟨h1, h2⟩ := us_mem.mp hj
      show gt ((List.range R.length).map fun k => if k = i then (1 : Rat) else 0) j = 0
      rw [gt_base h1, if_neg fun e => by rw [e, he] at h2; cases h2]
theorem v_none {s : Sm} {w : Nat} (h : spotR s.f = none) (hl : s.f.length = w) {p : List Rat} (hp : p.length = w) : s.v p = s.c :=
  val_zero (by omega) fun k _ => .inl (spot_none h k)
theorem EI.zero {R : List Rw} {w : Nat} {piv : List (Nat × Sm)} {s : Sm} {r S : List Sm} {b : Nat → Sm} (h : EI R w piv (s :: r) S b) (hs : spotR s.f = none) (hc : s.c = 0) : EI R w piv r S b :=
  ⟨h.se, h.hb, fun o ho => h.gl o (.tail _ ho), h.gp, h.pw, fun p hp h1 h2 => h.bk p hp h1 fun o ho => by
    rcases List.mem_cons.mp ho with rfl | ho
    · rw [v_none hs (h.gl _ (.head _)).1.fl hp, hc]
    · exact h2 o ho⟩
theorem EI.pivot {R : List Rw} {w : Nat} {piv : List (Nat × Sm)} {s : Sm} {r S : List Sm} {b : Nat → Sm} {k : Nat} (h : EI R w piv (s :: r) S b) (hs : spotR s.f = some k) :
    EI R w (piv ++ [(k, s)]) (r.map fun o => wo o s k) (S.map fun o => wo o s k) fun i => wo (b i) s k := by
  obtain ⟨c1, m1, z1, f1⟩ := h.gl s (.head _)
  obtain ⟨k1, k2⟩ := spot_some hs
  have kw : k < w := by rw [← c1.fl]; exact k1
  have fl : ∀ {o : Sm}, Cb R w o → o.f.length = s.f.length := fun ho => by rw [ho.fl, c1.fl]
  have ml : ∀ {o : Sm}, Cb R w o → o.m.length = s.m.length := fun ho => by rw [ho.ml, c1.ml]
  refine ⟨by rw [h.se, List.map_map]; rfl, fun i hi => ?_, fun o' ho' => ?_, fun q hq => ?_, ?_, fun p hp h1 h2 => ?_⟩
  · obtain ⟨c2, m2, z2, f2, v2⟩ := h.hb i hi
    refine ⟨wo_cb c2 c1, wo_mem1 m2 m1 (by rw [c2.ml]; exact (us_mem.mp hi).1), fun j hj => ?_, fun q hq => ?_, fun p hp hq => ?_⟩
    · rw [wo_m (ml c2), z2 j hj, z1 j hj]
      grind
    · rcases List.mem_append.mp hq with hq | hq
      · rw [wo_f (fl c2), f2 q hq, f1 q hq]
        grind
      · rw [List.mem_singleton.mp hq]
        exact wo_k (fl c2) k2
    · rw [wo_v (by rw [c2.fl, hp]) (by rw [c1.fl, hp]), v2 p hp fun q hq' => hq q (List.mem_append_left _ hq'), show s.v p = 0 from hq (k, s) (List.mem_append_right _ (.head _))]
      grind
  · obtain ⟨o, ho, rfl⟩ := List.mem_map.mp ho'
    obtain ⟨c2, m2, z2, f2⟩ := h.gl o (.tail _ ho)
    refine ⟨wo_cb c2 c1, wo_mem0 m2 m1, fun j hj => ?_, fun q hq => ?_⟩
    · rw [wo_m (ml c2), z2 j hj, z1 j hj]
      grind
    · rcases List.mem_append.mp hq with hq | hq
      · rw [wo_f (fl c2), f2 q hq, f1 q hq]
        grind
      · rw [List.mem_singleton.mp hq]
        exact wo_k (fl c2) k2
  · rcases List.mem_append.mp hq with hq | hq
    · exact h.gp q hq
    · rw [List.mem_singleton.mp hq]
      exact ⟨c1, m1, z1, kw, k2⟩
  · rw [List.pairwise_append]
    refine ⟨h.pw, List.pairwise_singleton _ _, fun q hq q' hq' => ?_⟩
    rw [List.mem_singleton.mp hq']
    exact f1 q hq
  · have sv : s.v p = 0 := h1 (k, s) (List.mem_append_right _ (.head _))
    refine h.bk p hp (fun q hq => h1 q (List.mem_append_left _ hq)) fun o ho => ?_
    rcases List.mem_cons.mp ho with rfl | ho
    · exact sv
    · have := h2 _ (List.mem_map.mpr ⟨o, ho, rfl⟩)
      rw [wo_v (by rw [(h.gl o (.tail _ ho)).1.fl, hp]) (by rw [c1.fl, hp]), sv] at this
      grind
structure Ref (R : List Rw) (w : Nat) (m : List Rat) : Prop where
  ml : m.length = R.length
  nn : ∀ i ∈ US R, 0 ≤ gt m i
  ex : ∃ C : Rat, (∀ p, p.length = w → sm (List.range R.length) (fun i => gt m i * rv R i p) = C) ∧ (0 < C ∨ C = 0 ∧ ∃ i ∈ US R, 0 < gt m i)
theorem sgR_mul {q : Rat} (h : q ≠ 0) : 0 < sgR q * q := by
  unfold sgR
  split
  · grind
  · split
    · grind
    · exact absurd (by grind : q = 0) h
theorem EI.bad {R : List Rw} {w : Nat} {piv : List (Nat × Sm)} {s : Sm} {r S : List Sm} {b : Nat → Sm} (h : EI R w piv (s :: r) S b) (hs : spotR s.f = none) (hc : s.c ≠ 0) : Ref R w (s.scaled (sgR s.c)).m := by
  obtain ⟨c1, m1, z1, f1⟩ := h.gl s (.head _)
  have cs := c1.scaled (b := sgR s.c)
  refine ⟨cs.ml, fun i hi => ?_, sgR s.c * s.c, fun p hp => ?_, .inl (sgR_mul hc)⟩
  · show 0 ≤ gt (s.m.map fun x => sgR s.c * x) i
    rw [gt_map, z1 i hi]
    grind
  · rw [← cs.cb p hp, v_scaled (by rw [c1.fl, hp]), v_none hs c1.fl hp]
structure GS (R : List Rw) (w : Nat) (b : Nat → Sm) (zs : List Nat) (s : Sm) : Prop where
  cb : Cb R w s
  ln : ∀ p, p.length = w → s.v p = sm (US R) fun i => gt s.m i * (b i).v p
  nn : ∀ i ∈ US R, 0 ≤ gt s.m i
  po : ∃ i ∈ US R, 0 < gt s.m i
  mm : s.mem = (List.range R.length).filter fun i => decide (i ∈ US R ∧ gt s.m i ≠ 0)
  zz : ∀ k ∈ zs, gt s.f k = 0
theorem filter_one {n i : Nat} (h : i < n) : (List.range n).filter (fun j => decide (j = i)) = [i] := by
  have := un_one h
  unfold un at this
  rw [← this]
  congr 1
  funext j
  simp
theorem EI.gs {R : List Rw} {w : Nat} {piv : List (Nat × Sm)} {S : List Sm} {b : Nat → Sm} (h : EI R w piv [] S b) {i : Nat} (hi : i ∈ US R) : GS R w b (piv.map (·.1)) (b i) := by
  obtain ⟨c2, m2, z2, f2, v2⟩ := h.hb i hi
  refine ⟨c2, fun p hp => ?_, fun j hj => ?_, ⟨i, hi, by rw [z2 i hi, if_pos rfl]; decide⟩, ?_, fun k hk => ?_⟩
  · rw [sm_one us_nd hi fun j hj e => by rw [z2 j hj, if_neg e]; grind, z2 i hi, if_pos rfl]
    grind
  · rw [z2 j hj]
    split <;> decide
  · rw [m2, ← filter_one (us_mem.mp hi).1]
    refine List.filter_congr fun j hj => ?_
    by_cases hu : j ∈ US R
    · rw [z2 j hu]
      by_cases e : j = i
      · subst e
        rw [decide_eq_true rfl, decide_eq_true ⟨hu, by rw [if_pos rfl]; decide⟩]
      · rw [decide_eq_false e, decide_eq_false fun z => z.2 (if_neg e)]
    · rw [decide_eq_false fun e : j = i => hu (e ▸ hi), decide_eq_false fun z => hu z.1]
  · obtain ⟨q, hq, rfl⟩ := List.mem_map.mp hk
    exact f2 q hq
theorem pair_v {lo hi : Sm} {k : Nat} {p : List Rat} (h1 : lo.f.length = p.length) (h2 : hi.f.length = p.length) : (pairR lo hi k).v p = 1 / gt hi.f k * hi.v p + 1 / (-(gt lo.f k)) * lo.v p := by
  unfold pairR
  rw [v_with (by show (hi.f.map _).length = _; rw [List.length_map, h2]) h1, v_scaled h2]
theorem pair_f {lo hi : Sm} {k j : Nat} (h : lo.f.length = hi.f.length) : gt (pairR lo hi k).f j = 1 / gt hi.f k * gt hi.f j + 1 / (-(gt lo.f k)) * gt lo.f j := by
  show gt (addR (hi.f.map _) lo.f _) j = _
  rw [gt_add (by rw [List.length_map, h]), gt_map]
theorem pair_m {lo hi : Sm} {k j : Nat} (h : lo.m.length = hi.m.length) : gt (pairR lo hi k).m j = 1 / gt hi.f k * gt hi.m j + 1 / (-(gt lo.f k)) * gt lo.m j := by
  show gt (addR (hi.m.map _) lo.m _) j = _
  rw [gt_add (by rw [List.length_map, h]), gt_map]
theorem pos_sum {x y a c : Rat} (hx : 0 ≤ x) (hy : 0 ≤ y) (ha : 0 < a) (hc : 0 < c) : a * x + c * y ≠ 0 ↔ x ≠ 0 ∨ y ≠ 0 := by
  have h1 := Rat.mul_nonneg (Rat.le_of_lt ha) hx
  have h2 := Rat.mul_nonneg (Rat.le_of_lt hc) hy
  constructor
  · intro h
    refine Classical.byContradiction fun n => h ?_
    have e1 : x = 0 := Classical.byContradiction fun z => n (.inl z)
    have e2 : y = 0 := Classical.byContradiction fun z => n (.inr z)
    rw [e1, e2]
    grind
  · intro h e
    have e1 : a * x = 0 := by grind
    have e2 : c * y = 0 := by grind
    rcases h with h | h
    · rcases Rat.mul_eq_zero.mp e1 with z | z
      · grind
      · exact h z
    · rcases Rat.mul_eq_zero.mp e2 with z | z
      · grind
      · exact h z
theorem inv_pos {a : Rat} (h : 0 < a) : 0 < 1 / a := al6 h
theorem GS.pair {R : List Rw} {w : Nat} {b : Nat → Sm} {zs : List Nat} {lo hi : Sm} {k : Nat} (h1 : GS R w b zs lo) (h2 : GS R w b zs hi) (l0 : gt lo.f k < 0) (h0 : 0 < gt hi.f k) : GS R w b (k :: zs) (pairR lo hi k) := by
  have i1 := inv_pos h0
  have i2 := inv_pos (al10 l0)
  have ml : lo.m.length = hi.m.length := by rw [h1.cb.ml, h2.cb.ml]
  have fl : lo.f.length = hi.f.length := by rw [h1.cb.fl, h2.cb.fl]
  refine ⟨Cb.withO h2.cb.scaled h1.cb, fun p hp => ?_, fun i hi' => ?_, ?_, ?_, fun j hj => ?_⟩
  · rw [pair_v (by rw [h1.cb.fl, hp]) (by rw [h2.cb.fl, hp]), h1.ln p hp, h2.ln p hp, ← sm_mul, ← sm_mul, ← sm_add]
    refine sm_congr fun i _ => ?_
    rw [pair_m ml]
    generalize 1 / gt hi.f k = x
    generalize 1 / (-(gt lo.f k)) = y
    grind
  · rw [pair_m ml]
    have := Rat.mul_nonneg (Rat.le_of_lt i1) (h2.nn i hi')
    have := Rat.mul_nonneg (Rat.le_of_lt i2) (h1.nn i hi')
    grind
  · obtain ⟨i, hi', hp⟩ := h2.po
    refine ⟨i, hi', ?_⟩
    rw [pair_m ml]
    have := Rat.mul_pos i1 hp
    have := Rat.mul_nonneg (Rat.le_of_lt i2) (h1.nn i hi')
    grind
  · show un (hi.m.map _).length hi.mem lo.mem = _
    rw [List.length_map, h2.cb.ml]
    unfold un
    refine List.filter_congr fun i hi' => ?_
    rw [h1.mm, h2.mm]
    have m1 : ∀ s : Sm, (i ∈ (List.range R.length).filter (fun i => decide (i ∈ US R ∧ gt s.m i ≠ 0))) ↔ (i ∈ US R ∧ gt s.m i ≠ 0) := fun s => ⟨fun h => of_decide_eq_true (List.mem_filter.mp h).2, fun h => List.mem_filter.mpr ⟨hi', decide_eq_true h⟩⟩
    rw [Bool.eq_iff_iff, Bool.or_eq_true, decide_eq_true_iff, decide_eq_true_iff, decide_eq_true_iff, m1 hi, m1 lo]
    have key : i ∈ US R → (gt (pairR lo hi k).m i ≠ 0 ↔ gt hi.m i ≠ 0 ∨ gt lo.m i ≠ 0) := fun hu => by
      rw [pair_m ml]
      exact pos_sum (h2.nn i hu) (h1.nn i hu) i1 i2
    constructor
    · rintro (⟨hu, z⟩ | ⟨hu, z⟩)
      · exact ⟨hu, (key hu).mpr (.inl z)⟩
      · exact ⟨hu, (key hu).mpr (.inr z)⟩
    · rintro ⟨hu, z⟩
      rcases (key hu).mp z with z | z
      · exact .inl ⟨hu, z⟩
      · exact .inr ⟨hu, z⟩
  · rw [pair_f fl]
    rcases List.mem_cons.mp hj with rfl | hj
    · have e1 := al5 h0
      have e2 := al5 (al10 l0)
      generalize 1 / gt hi.f j = x at e1
      generalize 1 / (-(gt lo.f j)) = y at e2
      grind
    · rw [h1.zz j hj, h2.zz j hj]
      grind
theorem rem_mem {S : List Sm} {k d : Nat} {s : Sm} : s ∈ removedR S k d ↔ (s ∈ S ∧ gt s.f k = 0) ∨ ∃ lo hi, lo ∈ S ∧ hi ∈ S ∧ gt lo.f k < 0 ∧ 0 < gt hi.f k ∧ s = pairR lo hi k ∧ s.mem.length ≤ d + 2 := by
  unfold removedR zers rowR negs poss
  rw [List.mem_append, List.mem_filter, List.mem_flatMap]
  simp only [List.mem_filter, List.mem_map, decide_eq_true_eq]
  constructor
  · rintro (h | ⟨lo, ⟨h1, h2⟩, ⟨hi, ⟨h3, h4⟩, rfl⟩, h5⟩)
    · exact .inl h
    · exact .inr ⟨lo, hi, h1, h3, h2, h4, rfl, h5⟩
  · rintro (h | ⟨lo, hi, h1, h3, h2, h4, rfl, h5⟩)
    · exact .inl h
    · exact .inr ⟨lo, ⟨h1, h2⟩, ⟨hi, ⟨h3, h4⟩, rfl⟩, h5⟩
theorem GS.rem {R : List Rw} {w : Nat} {b : Nat → Sm} {zs : List Nat} {S : List Sm} {k d : Nat} (h : ∀ s ∈ S, GS R w b zs s ∧ s.mem.length ≤ d + 1) : ∀ s ∈ removedR S k d, GS R w b (k :: zs) s ∧ s.mem.length ≤ d + 2 := fun s hs => by
  rcases rem_mem.mp hs with ⟨h1, h2⟩ | ⟨lo, hi, h1, h3, h2, h4, rfl, h5⟩
  · obtain ⟨g, l⟩ := h s h1
    refine ⟨⟨g.cb, g.ln, g.nn, g.po, g.mm, fun j hj => ?_⟩, by omega⟩
    rcases List.mem_cons.mp hj with rfl | hj
    · exact h2
    · exact g.zz j hj
  · exact ⟨(h lo h1).1.pair (h hi h3).1 h2 h4, h5⟩
end Fs
set_option Elab.async false
set_option linter.all false
set_option maxRecDepth 100000
set_option maxHeartbeats 400000
namespace Fs
open Fm
theorem le_lt {a b c : Rat} (h : a ≤ b) (k : b < c) : a < c := by grind
theorem lt_le {a b c : Rat} (h : a < b) (k : b ≤ c) : a < c := by grind
theorem len_sub : ∀ {A B : List Nat}, A.Nodup → (∀ i ∈ A, i ∈ B) → A.length ≤ B.length
  | [], B, _, _ => Nat.zero_le _
  | a :: A, B, hA, h => by
    have ha : a ∈ B := h a (.head _)
    have := len_sub (A := A) (B := B.erase a) (List.nodup_cons.mp hA).2 fun i hi => (List.mem_erase_of_ne fun e : i = a => (List.nodup_cons.mp hA).1 (by rw [← e]; exact hi)).mpr (h i (.tail _ hi))
    rw [List.length_erase_of_mem ha] at this
    have := List.length_pos_of_mem ha
    rw [List.length_cons]
    omega
def stT (sp : List Nat) (S : List Sm) : Nat → List Sm
  | 0 => S
  | t + 1 => removedR (stT sp S t) (sp.getD t 0) t
def zsT (sp zs : List Nat) : Nat → List Nat
  | 0 => zs
  | t + 1 => sp.getD t 0 :: zsT sp zs t
theorem stT_gs {R : List Rw} {w : Nat} {piv : List (Nat × Sm)} {S : List Sm} {b : Nat → Sm} (h : EI R w piv [] S b) (sp : List Nat) : ∀ t, ∀ s ∈ stT sp S t, GS R w b (zsT sp (piv.map (·.1)) t) s ∧ s.mem.length ≤ t + 1
  | 0 => fun s hs => by
    have hs : s ∈ S := hs
    rw [h.se] at hs
    obtain ⟨i, hi, rfl⟩ := List.mem_map.mp hs
    exact ⟨h.gs hi, by rw [(h.hb i hi).2.1]; exact Nat.le_refl _⟩
  | t + 1 => GS.rem (stT_gs h sp t)
theorem gt_zero {w j : Nat} : gt (List.replicate w 0) j = 0 := by
  unfold gt
  rw [List.getD_eq_getElem?_getD, List.getElem?_replicate]
  split <;> rfl
theorem f_of {s : Sm} {w k : Nat} (hl : s.f.length = w) (hk : k < w) : gt s.f k = s.v ((List.replicate w 0).set k 1) - s.v (List.replicate w 0) := by
  have := val_set (f := s.f) (p := List.replicate w 0) (c := s.c) (x := 1) (k := k) (by rw [List.length_replicate]; exact hl) (by rw [List.length_replicate]; exact hk)
  show _ = valR s.f s.c _ - valR s.f s.c _
  rw [this, gt_zero]
  generalize valR s.f s.c (List.replicate w 0) = A
  grind
theorem GS.fk {R : List Rw} {w : Nat} {b : Nat → Sm} {zs : List Nat} {s : Sm} (h : GS R w b zs s) (hb : ∀ i ∈ US R, (b i).f.length = w) (k : Nat) : gt s.f k = sm (US R) fun i => gt (b i).f k * gt s.m i := by
  by_cases hk : k < w
  · rw [f_of h.cb.fl hk, h.ln _ (by rw [List.length_set, List.length_replicate]), h.ln _ (by rw [List.length_replicate]), ← sm_sub2]
    refine sm_congr fun i hi => ?_
    rw [f_of (hb i hi) hk]
    generalize (b i).v ((List.replicate w 0).set k 1) = x
    generalize (b i).v (List.replicate w 0) = y
    grind
  · rw [gt_out (by rw [h.cb.fl]; omega), sm_zero fun i hi => by rw [gt_out (by rw [hb i hi]; omega)]; grind]
def lamU (R : List Rw) (s : Sm) (i : Nat) : Rat := if i ∈ US R then gt s.m i else 0
theorem lam_sm {R : List Rw} {s : Sm} {a : Nat → Rat} : fa (US R) a (lamU R s) = sm (US R) fun i => a i * gt s.m i :=
  sm_congr fun i hi => by show a i * (if i ∈ US R then gt s.m i else 0) = _; rw [if_pos hi]
theorem GS.lam0 {R : List Rw} {w : Nat} {b : Nat → Sm} {zs : List Nat} {s : Sm} (h : GS R w b zs s) (i : Nat) : 0 ≤ lamU R s i := by
  unfold lamU
  split
  · exact h.nn i ‹_›
  · exact Rat.le_refl
theorem lam_out {R : List Rw} {s : Sm} {i : Nat} (h : i ∉ US R) : lamU R s i = 0 := if_neg h
theorem EI.fl {R : List Rw} {w : Nat} {piv : List (Nat × Sm)} {S : List Sm} {b : Nat → Sm} (h : EI R w piv [] S b) : ∀ i ∈ US R, (b i).f.length = w := fun i hi => (h.hb i hi).1.fl
theorem GS.fa {R : List Rw} {w : Nat} {b : Nat → Sm} {zs : List Nat} {s : Sm} (h : GS R w b zs s) (hb : ∀ i ∈ US R, (b i).f.length = w) (k : Nat) : Fm.fa (US R) (fun i => gt (b i).f k) (lamU R s) = gt s.f k := by
  rw [lam_sm, h.fk hb k]
theorem cone_sup {L : (Nat → Rat) → Prop} {U : List Nat} : ∀ {S : List Nat} {lam : Nat → Rat}, (∀ i, 0 ≤ lam i) → (∀ i, i ∉ S → lam i = 0) → S.Nodup → (∀ i ∈ S, L fun j => if j = i then 1 else 0) → Cone L lam
  | [], lam, _, hz, _, _ => by
    rw [show lam = fun _ => 0 from funext fun i => hz i (by simp)]
    exact .zero
  | k :: S, lam, h0, hz, hn, hL => by
    have hk : k ∉ S := (List.nodup_cons.mp hn).1
    have := cone_sup (U := U) (S := S) (lam := fun i => if i = k then 0 else lam i) (L := L) (fun i => by
      show 0 ≤ if i = k then (0 : Rat) else lam i
      split
      · exact Rat.le_refl
      · exact h0 i) (fun i hi => by
      show (if i = k then (0 : Rat) else lam i) = 0
      split
      · rfl
      · rename_i e
        exact hz i fun z => (List.mem_cons.mp z).elim e hi) (List.nodup_cons.mp hn).2 fun i hi => hL i (.tail _ hi)
    have q := Cone.add this (h0 k) (hL k (.head _))
    rw [show (fun i => (if i = k then 0 else lam i) + lam k * if i = k then 1 else 0) = lam from funext fun i => by
      by_cases e : i = k
      · subst e
        rw [if_pos rfl, if_pos rfl]
        grind
      · rw [if_neg e, if_neg e]
        grind] at q
    exact q
def Lt (R : List Rw) (sp : List Nat) (S : List Sm) (t : Nat) (l : Nat → Rat) : Prop := ∃ s ∈ stT sp S t, l = lamU R s
theorem keeps {R : List Rw} {w : Nat} {piv : List (Nat × Sm)} {S : List Sm} {b : Nat → Sm} (h : EI R w piv [] S b) (sp : List Nat) {t : Nat} {lam : Nat → Rat} (h0 : ∀ i, 0 ≤ lam i) (hz : ∀ i, i ∉ US R → lam i = 0) (hk : ∀ k, k < t → Fm.fa (US R) (fun i => gt (b i).f (sp.getD k 0)) lam = 0) : Cone (Lt R sp S t) lam := by
  have G := stT_gs h sp
  have FL := h.fl
  refine kept (U := US R) (a := fun t i => gt (b i).f (sp.getD t 0)) (L := Lt R sp S) us_nd (fun t s hs i => ?_) (fun lam h0 hz => ?_) (fun t s hs e => ?_) (fun t s r hs hr fs fr hP => ?_) t _ lam ((US R).filter fun i => decide (lam i ≠ 0)) (Nat.le_refl _) (us_nd.filter _) (fun i hi => (List.mem_filter.mp hi).1) h0 (fun i hi => ?_) (fun i hi => ?_) hk
  · obtain ⟨q, hq, rfl⟩ := hs
    exact (G t q hq).1.lam0 i
  · refine cone_sup (U := US R) h0 hz us_nd fun i hi => ⟨b i, by show b i ∈ S; rw [h.se]; exact List.mem_map.mpr ⟨i, hi, rfl⟩, funext fun j => ?_⟩
    unfold lamU
    by_cases hj : j ∈ US R
    · rw [if_pos hj, (h.hb i hi).2.2.1 j hj]
    · rw [if_neg hj, if_neg fun e : j = i => hj (by rw [e]; exact hi)]
  · obtain ⟨q, hq, rfl⟩ := hs
    rw [(G t q hq).1.fa FL] at e
    exact ⟨q, rem_mem.mpr (.inl ⟨hq, e⟩), rfl⟩
  · obtain ⟨hi, hq, rfl⟩ := hs
    obtain ⟨lo, hr, rfl⟩ := hr
    obtain ⟨g1, l1⟩ := G t hi hq
    obtain ⟨g2, l2⟩ := G t lo hr
    rw [g1.fa FL] at fs
    rw [g2.fa FL] at fr
    obtain ⟨P, hP, hl, hin⟩ := hP
    have gp := g2.pair g1 fr fs
    have ml : lo.m.length = hi.m.length := by rw [g2.cb.ml, g1.cb.ml]
    refine ⟨pairR lo hi (sp.getD t 0), rem_mem.mpr (.inr ⟨lo, hi, hr, hq, fr, fs, rfl, ?_⟩), funext fun i => ?_⟩
    · rw [gp.mm]
      refine Nat.le_trans ?_ hl
      refine len_sub (List.nodup_range.filter _) fun i hi' => ?_
      obtain ⟨_, h2⟩ := List.mem_filter.mp hi'
      obtain ⟨h3, h4⟩ := of_decide_eq_true h2
      refine hin i ?_
      show lamU R hi i ≠ 0 ∨ lamU R lo i ≠ 0
      unfold lamU
      rw [if_pos h3, if_pos h3]
      rw [pair_m ml] at h4
      exact (pos_sum (g1.nn i h3) (g2.nn i h3) (inv_pos fs) (inv_pos (al10 fr))).mp h4
    · rw [g1.fa FL, g2.fa FL]
      unfold lamU
      by_cases hu : i ∈ US R
      · rw [if_pos hu, if_pos hu, if_pos hu, pair_m ml]
      · rw [if_neg hu, if_neg hu, if_neg hu]
        grind
  · have := of_decide_eq_true (List.mem_filter.mp hi).2
    exact Rat.lt_of_le_of_ne (h0 i) fun z => this z.symm
  · by_cases hu : i ∈ US R
    · exact Classical.byContradiction fun z => hi (List.mem_filter.mpr ⟨hu, decide_eq_true z⟩)
    · exact hz i hu
theorem vf_lt {F : (Nat → Rat) → Rat} : ∀ {ws : List (Rat × (Nat → Rat))}, ws ≠ [] → (∀ q ∈ ws, 0 < q.1 ∧ F q.2 < 0) → vf F ws < 0
  | [], h, _ => absurd rfl h
  | q :: r, _, h => by
    have h1 := h q (.head _)
    have h2 := Rat.mul_pos h1.1 (show 0 < - F q.2 by grind)
    have h3 := vf_le (F := F) (ws := r) fun k hk => ⟨(h k (.tail _ hk)).1, Rat.le_of_lt (h k (.tail _ hk)).2⟩
    show q.1 * F q.2 + vf F r < 0
    grind
theorem pair_neg {R : List Rw} {w : Nat} {piv : List (Nat × Sm)} {S : List Sm} {b : Nat → Sm} (h : EI R w piv [] S b) (sp : List Nat) {t : Nat} {p : List Rat} (hp : p.length = w) (V : ∀ s ∈ stT sp S (t + 1), s.v p < 0) {lo hi : Sm} (h1 : lo ∈ stT sp S t) (h2 : hi ∈ stT sp S t) (l0 : gt lo.f (sp.getD t 0) < 0) (h0 : 0 < gt hi.f (sp.getD t 0)) : (pairR lo hi (sp.getD t 0)).v p < 0 := by
  have G := stT_gs h sp
  have gp := (G t lo h1).1.pair (G t hi h2).1 l0 h0
  have hz : ∀ t, ∀ k, k < t → sp.getD k 0 ∈ zsT sp (piv.map (·.1)) t := fun t => by
    induction t with
    | zero => intro k hk; omega
    | succ t ih =>
      intro k hk
      by_cases e : k = t
      · subst e
        exact .head _
      · exact .tail _ (ih k (by omega))
  have C := keeps h sp (t := t + 1) (lam := lamU R (pairR lo hi (sp.getD t 0))) gp.lam0 (fun i hi => lam_out hi) fun k hk => by
    rw [gp.fa h.fl]
    exact gp.zz _ (hz (t + 1) k hk)
  obtain ⟨ws, e, hw⟩ := C.list
  have e2 : (pairR lo hi (sp.getD t 0)).v p = vf (Fm.fa (US R) fun i => (b i).v p) ws := by
    rw [fa_val, ← e, lam_sm, gp.ln p hp]
    exact sm_congr fun i _ => Rat.mul_comm _ _
  rw [e2]
  refine vf_lt (fun z => ?_) fun q hq => ⟨(hw q hq).1, ?_⟩
  · subst z
    obtain ⟨i, hi', hpo⟩ := gp.po
    have := congrFun e i
    unfold lamU at this
    rw [if_pos hi'] at this
    rw [this] at hpo
    exact absurd hpo (by show ¬ (0 : Rat) < 0; decide)
  · obtain ⟨s, hs, e3⟩ := (hw q hq).2
    rw [e3, lam_sm]
    have := V s hs
    rw [(G (t + 1) s hs).1.ln p hp] at this
    rw [sm_congr (g := fun i => gt s.m i * (b i).v p) fun i _ => Rat.mul_comm _ _]
    exact this
def LoI (k : Nat) (p : List Rat) (l : List Sm) (a : Option Rat) : Prop := match a with
  | none => ∀ s ∈ l, ¬ gt s.f k < 0
  | some x => (∃ s ∈ l, gt s.f k < 0 ∧ x = bndR s k p) ∧ ∀ s ∈ l, gt s.f k < 0 → bndR s k p ≤ x
def HiI (k : Nat) (p : List Rat) (l : List Sm) (a : Option Rat) : Prop := match a with
  | none => ∀ s ∈ l, ¬ 0 < gt s.f k
  | some x => (∃ s ∈ l, 0 < gt s.f k ∧ x = bndR s k p) ∧ ∀ s ∈ l, 0 < gt s.f k → x ≤ bndR s k p
theorem LoI.app {k : Nat} {p : List Rat} {l : List Sm} {a : Option Rat} {s : Sm} (h : LoI k p l a) (hs : ¬ gt s.f k < 0) : LoI k p (l ++ [s]) a := by
  cases a with
  | none =>
    intro o ho
    rcases List.mem_append.mp ho with ho | ho
    · exact h o ho
    · rw [List.mem_singleton.mp ho]; exact hs
  | some x =>
    obtain ⟨⟨o, ho, h1⟩, h2⟩ := h
    refine ⟨⟨o, List.mem_append_left _ ho, h1⟩, fun q hq hn => ?_⟩
    rcases List.mem_append.mp hq with hq | hq
    · exact h2 q hq hn
    · rw [List.mem_singleton.mp hq] at hn; exact absurd hn hs
theorem HiI.app {k : Nat} {p : List Rat} {l : List Sm} {a : Option Rat} {s : Sm} (h : HiI k p l a) (hs : ¬ 0 < gt s.f k) : HiI k p (l ++ [s]) a := by
  cases a with
  | none =>
    intro o ho
    rcases List.mem_append.mp ho with ho | ho
    · exact h o ho
    · rw [List.mem_singleton.mp ho]; exact hs
  | some x =>
    obtain ⟨⟨o, ho, h1⟩, h2⟩ := h
    refine ⟨⟨o, List.mem_append_left _ ho, h1⟩, fun q hq hn => ?_⟩
    rcases List.mem_append.mp hq with hq | hq
    · exact h2 q hq hn
    · rw [List.mem_singleton.mp hq] at hn; exact absurd hn hs
theorem btw_step {k : Nat} {p : List Rat} {l : List Sm} {a : Option Rat × Option Rat} {s : Sm} (h1 : LoI k p l a.1) (h2 : HiI k p l a.2) : LoI k p (l ++ [s]) (btwS k p a s).1 ∧ HiI k p (l ++ [s]) (btwS k p a s).2 := by
  obtain ⟨lo, hi⟩ := a
  unfold btwS
  by_cases e : gt s.f k = 0
  · rw [if_pos e]
    exact ⟨h1.app (by rw [e]; decide), h2.app (by rw [e]; decide)⟩
  rw [if_neg e]
  by_cases e2 : 0 < gt s.f k
  · rw [if_pos e2]
    refine ⟨h1.app (by grind), ?_⟩
    cases hi with
    | none =>
      refine ⟨⟨s, List.mem_append_right _ (.head _), e2, rfl⟩, fun q hq hn => ?_⟩
      rcases List.mem_append.mp hq with hq | hq
      · exact absurd hn (h2 q hq)
      · rw [List.mem_singleton.mp hq]; exact Rat.le_refl
    | some y =>
      obtain ⟨⟨o, ho, ho2⟩, h4⟩ := h2
      dsimp only
      by_cases c : bndR s k p - y < 0
      · rw [if_pos c]
        refine ⟨⟨s, List.mem_append_right _ (.head _), e2, rfl⟩, fun q hq hn => ?_⟩
        rcases List.mem_append.mp hq with hq | hq
        · have := h4 q hq hn
          generalize bndR s k p = B at c
          generalize bndR q k p = B2 at this
          grind
        · rw [List.mem_singleton.mp hq]; exact Rat.le_refl
      · rw [if_neg c]
        refine ⟨⟨o, List.mem_append_left _ ho, ho2⟩, fun q hq hn => ?_⟩
        rcases List.mem_append.mp hq with hq | hq
        · exact h4 q hq hn
        · rw [List.mem_singleton.mp hq]
          generalize bndR s k p = B at c
          grind
  · rw [if_neg e2]
    have e3 : gt s.f k < 0 := by grind
    refine ⟨?_, h2.app e2⟩
    cases lo with
    | none =>
      refine ⟨⟨s, List.mem_append_right _ (.head _), e3, rfl⟩, fun q hq hn => ?_⟩
      rcases List.mem_append.mp hq with hq | hq
      · exact absurd hn (h1 q hq)
      · rw [List.mem_singleton.mp hq]; exact Rat.le_refl
    | some y =>
      obtain ⟨⟨o, ho, ho2⟩, h4⟩ := h1
      dsimp only
      by_cases c : 0 < bndR s k p - y
      · rw [if_pos c]
        refine ⟨⟨s, List.mem_append_right _ (.head _), e3, rfl⟩, fun q hq hn => ?_⟩
        rcases List.mem_append.mp hq with hq | hq
        · have := h4 q hq hn
          generalize bndR s k p = B at c
          generalize bndR q k p = B2 at this
          grind
        · rw [List.mem_singleton.mp hq]; exact Rat.le_refl
      · rw [if_neg c]
        refine ⟨⟨o, List.mem_append_left _ ho, ho2⟩, fun q hq hn => ?_⟩
        rcases List.mem_append.mp hq with hq | hq
        · exact h4 q hq hn
        · rw [List.mem_singleton.mp hq]
          generalize bndR s k p = B at c
          grind
theorem btw_fold {k : Nat} {p : List Rat} : ∀ (r l : List Sm) (a : Option Rat × Option Rat), LoI k p l a.1 → HiI k p l a.2 → LoI k p (l ++ r) (r.foldl (btwS k p) a).1 ∧ HiI k p (l ++ r) (r.foldl (btwS k p) a).2
  | [], l, a, h1, h2 => by rw [List.append_nil]; exact ⟨h1, h2⟩
  | s :: r, l, a, h1, h2 => by
    have := btw_step (s := s) h1 h2
    have := btw_fold r (l ++ [s]) _ this.1 this.2
    rw [List.append_assoc] at this
    exact this
theorem btw_all {S : List Sm} {k : Nat} {p : List Rat} : LoI k p S (S.foldl (btwS k p) (none, none)).1 ∧ HiI k p S (S.foldl (btwS k p) (none, none)).2 :=
  btw_fold S [] (none, none) (fun s h => by cases h) (fun s h => by cases h)
theorem half_lo {l h : Rat} (c : l < h) : l < 1 / 2 * (l + h) := by grind
theorem half_hi {l h : Rat} (c : l < h) : 1 / 2 * (l + h) < h := by grind
theorem btw_ok {S : List Sm} {k : Nat} {p : List Rat} (h : ∀ lo hi, lo ∈ S → hi ∈ S → gt lo.f k < 0 → 0 < gt hi.f k → bndR lo k p < bndR hi k p) : (∀ s ∈ S, gt s.f k < 0 → bndR s k p < betweenR S k p) ∧ ∀ s ∈ S, 0 < gt s.f k → betweenR S k p < bndR s k p := by
  obtain ⟨h1, h2⟩ := btw_all (S := S) (k := k) (p := p)
  unfold betweenR
  generalize S.foldl (btwS k p) (none, none) = a at h1 h2
  obtain ⟨lo, hi⟩ := a
  cases lo with
  | none =>
    cases hi with
    | none => exact ⟨fun s hs hn => absurd hn (h1 s hs), fun s hs hn => absurd hn (h2 s hs)⟩
    | some y =>
      refine ⟨fun s hs hn => absurd hn (h1 s hs), fun s hs hn => ?_⟩
      have := h2.2 s hs hn
      show y - 1 < _
      generalize bndR s k p = B at this
      grind
  | some x =>
    cases hi with
    | none =>
      refine ⟨fun s hs hn => ?_, fun s hs hn => absurd hn (h2 s hs)⟩
      have := h1.2 s hs hn
      show _ < x + 1
      generalize bndR s k p = B at this
      grind
    | some y =>
      obtain ⟨⟨s1, a1, a2, rfl⟩, h3⟩ := h1
      obtain ⟨⟨s2, c1, c2, rfl⟩, h4⟩ := h2
      have lt := h s1 s2 a1 c1 a2 c2
      refine ⟨fun s hs hn => ?_, fun s hs hn => ?_⟩
      · exact le_lt (h3 s hs hn) (half_lo lt)
      · exact lt_le (half_hi lt) (h4 s hs hn)
theorem bnd_mul {s : Sm} {k : Nat} {p : List Rat} (h : gt s.f k ≠ 0) : gt s.f k * bndR s k p = -(s.v p - gt s.f k * gt p k) := by
  unfold bndR
  have := Rat.div_mul_cancel (a := s.v p - gt s.f k * gt p k) h
  generalize (s.v p - gt s.f k * gt p k) / gt s.f k = B at this
  generalize s.v p - gt s.f k * gt p k = C at this
  grind
theorem mul_lt_pos {a x y : Rat} (h : 0 < a) (c : x < y) : a * x < a * y := by
  have := Rat.mul_pos h (show 0 < y - x by grind)
  grind
theorem mul_lt_neg {a x y : Rat} (h : a < 0) (c : x < y) : a * y < a * x := by
  have := Rat.mul_pos (show 0 < -a by grind) (show 0 < y - x by grind)
  grind
theorem pair_bnd {lo hi : Sm} {k : Nat} {p : List Rat} (h1 : lo.f.length = p.length) (h2 : hi.f.length = p.length) (l0 : gt lo.f k < 0) (h0 : 0 < gt hi.f k) (h : (pairR lo hi k).v p < 0) : bndR lo k p < bndR hi k p := by
  rw [pair_v h1 h2] at h
  have e1 := bnd_mul (s := lo) (k := k) (p := p) (by grind)
  have e2 := bnd_mul (s := hi) (k := k) (p := p) (by grind)
  have i1 := al5 h0
  have i2 := al5 (al10 l0)
  generalize 1 / gt hi.f k = x at h i1
  generalize 1 / (-(gt lo.f k)) = y at h i2
  generalize bndR lo k p = A at e1 ⊢
  generalize bndR hi k p = B at e2 ⊢
  generalize hi.v p = vh at h e2
  generalize lo.v p = vl at h e1
  generalize gt hi.f k = fh at *
  generalize gt lo.f k = fl at *
  generalize gt p k = z at *
  have hv : vh = fh * z - fh * B := by grind
  have lv : vl = fl * z - fl * A := by grind
  have k1 : x * vh = z - B := by
    rw [hv, show x * (fh * z - fh * B) = fh * x * (z - B) by grind, i1, Rat.one_mul]
  have k2 : y * vl = A - z := by
    rw [lv, show y * (fl * z - fl * A) = (-fl) * y * (A - z) by grind, i2, Rat.one_mul]
  rw [k1, k2] at h
  grind
theorem set_neg {S : List Sm} {k w : Nat} {p : List Rat} (hp : p.length = w) (hk : k < w) (hl : ∀ s ∈ S, s.f.length = w) (hz : ∀ s ∈ S, gt s.f k = 0 → s.v p < 0) (h : ∀ lo hi, lo ∈ S → hi ∈ S → gt lo.f k < 0 → 0 < gt hi.f k → (pairR lo hi k).v p < 0) : ∀ s ∈ S, s.v (p.set k (betweenR S k p)) < 0 := fun s hs => by
  obtain ⟨b1, b2⟩ := btw_ok (S := S) (k := k) (p := p) fun lo hi h1 h2 l0 h0 => pair_bnd (by rw [hl lo h1, hp]) (by rw [hl hi h2, hp]) l0 h0 (h lo hi h1 h2 l0 h0)
  show valR s.f s.c _ < 0
  rw [val_set (by rw [hl s hs, hp]) (by omega)]
  show s.v p + gt s.f k * (betweenR S k p - gt p k) < 0
  by_cases e : gt s.f k = 0
  · have := hz s hs e
    rw [e]
    grind
  have m := bnd_mul (s := s) (k := k) (p := p) e
  generalize betweenR S k p = x at b1 b2
  by_cases e2 : gt s.f k < 0
  · have := mul_lt_neg e2 (b1 s hs e2)
    grind
  · have e3 : 0 < gt s.f k := by grind
    have := mul_lt_pos e3 (b2 s hs e3)
    grind
end Fs
set_option Elab.async false
set_option linter.all false
set_option maxRecDepth 100000
set_option maxHeartbeats 400000
namespace Fs
open Fm
theorem drop_get {sp r : List Nat} {t k : Nat} (h : sp.drop t = k :: r) : sp.getD t 0 = k ∧ sp.drop (t + 1) = r ∧ k ∈ sp := by
  have hl : t < sp.length := by
    refine Classical.byContradiction fun n => ?_
    rw [List.drop_eq_nil_of_le (by omega)] at h
    cases h
  rw [List.drop_eq_getElem_cons hl] at h
  injection h with h1 h2
  refine ⟨?_, h2, by rw [← h1]; exact List.getElem_mem hl⟩
  rw [List.getD_eq_getElem?_getD, List.getElem?_eq_getElem hl, ← h1]
  rfl
theorem back_ok {R : List Rw} {w : Nat} {piv : List (Nat × Sm)} {S : List Sm} {b : Nat → Sm} (h : EI R w piv [] S b) {sp : List Nat} (hs : ∀ k ∈ sp, k < w) : ∀ (r : List Nat) (t : Nat), sp.drop t = r → (∀ s ∈ (stg r t (stT sp S t)).2, s.c < 0) →
    (backR (stg r t (stT sp S t)).1 (List.replicate w 0)).length = w ∧ ∀ s ∈ stT sp S t, s.v (backR (stg r t (stT sp S t)).1 (List.replicate w 0)) < 0
  | [], t, hd, hc => by
    refine ⟨List.length_replicate, fun s hs => ?_⟩
    have := hc s hs
    have g := (stT_gs h sp t s hs).1
    show valR s.f s.c (List.replicate w 0) < 0
    rw [val_zero (by rw [g.cb.fl, List.length_replicate]) fun k _ => .inr gt_zero]
    exact this
  | k :: r, t, hd, hc => by
    obtain ⟨e1, e2, e3⟩ := drop_get hd
    have e4 : stT sp S (t + 1) = removedR (stT sp S t) k t := by show removedR (stT sp S t) (sp.getD t 0) t = _; rw [e1]
    have ih := back_ok h hs r (t + 1) e2 (by rw [e4]; exact hc)
    rw [e4] at ih
    obtain ⟨l1, V⟩ := ih
    have hk := hs k e3
    show ((backR (stg r (t + 1) (removedR (stT sp S t) k t)).1 (List.replicate w 0)).set k _).length = w ∧ ∀ s ∈ stT sp S t, s.v ((backR (stg r (t + 1) (removedR (stT sp S t) k t)).1 (List.replicate w 0)).set k (betweenR (stT sp S t) k (backR (stg r (t + 1) (removedR (stT sp S t) k t)).1 (List.replicate w 0)))) < 0
    generalize backR (stg r (t + 1) (removedR (stT sp S t) k t)).1 (List.replicate w 0) = p at l1 V
    refine ⟨by rw [List.length_set, l1], set_neg l1 hk (fun s hs => (stT_gs h sp t s hs).1.cb.fl) (fun s hs e => V s (rem_mem.mpr (.inl ⟨hs, e⟩))) fun lo hi h1 h2 l0 h0 => ?_⟩
    rw [← e4] at V
    have := pair_neg h sp (t := t) l1 V h1 h2 (by rw [e1]; exact l0) (by rw [e1]; exact h0)
    rw [e1] at this
    exact this
theorem piv_len {q : List (Nat × Sm)} {p : List Rat} : (pivR q p).length = p.length := by
  induction q with
  | nil => rfl
  | cons a q ih =>
    show ((pivR q p).set _ _).length = _
    rw [List.length_set, ih]
theorem piv_keep {w : Nat} {s : Sm} (hl : s.f.length = w) : ∀ {q : List (Nat × Sm)} {p : List Rat}, p.length = w → (∀ a ∈ q, a.1 < w) → (∀ a ∈ q, gt s.f a.1 = 0) → s.v (pivR q p) = s.v p
  | [], p, _, _, _ => rfl
  | a :: q, p, hp, hw, hz => by
    show valR s.f s.c ((pivR q p).set a.1 _) = _
    rw [val_set (by rw [piv_len, hl, hp]) (by rw [piv_len, hp]; exact hw a (.head _)), hz a (.head _)]
    have := piv_keep (s := s) hl (q := q) hp (fun c hc => hw c (.tail _ hc)) fun c hc => hz c (.tail _ hc)
    have this : valR s.f s.c (pivR q p) = s.v p := this
    rw [this]
    grind
theorem piv_ok {w : Nat} : ∀ {q : List (Nat × Sm)} {p : List Rat}, p.length = w → (∀ a ∈ q, a.2.f.length = w ∧ a.1 < w ∧ gt a.2.f a.1 ≠ 0) → (q.Pairwise fun a c => gt c.2.f a.1 = 0) → ∀ a ∈ q, a.2.v (pivR q p) = 0
  | [], p, _, _, _ => fun a h => by cases h
  | c :: q, p, hp, hw, pw => fun a ha => by
    obtain ⟨pw1, pw2⟩ := List.pairwise_cons.mp pw
    obtain ⟨l1, l2, l3⟩ := hw c (.head _)
    have ih := piv_ok (q := q) hp (fun a ha => hw a (.tail _ ha)) pw2
    rcases List.mem_cons.mp ha with rfl | ha
    · show valR a.2.f a.2.c ((pivR q p).set a.1 (pivV a (pivR q p))) = 0
      rw [val_set (by rw [piv_len, l1, hp]) (by rw [piv_len, hp]; exact l2)]
      show a.2.v (pivR q p) + gt a.2.f a.1 * (bndR a.2 a.1 (pivR q p) - gt (pivR q p) a.1) = 0
      have := bnd_mul (s := a.2) (k := a.1) (p := pivR q p) l3
      grind
    · obtain ⟨m1, m2, m3⟩ := hw a (.tail _ ha)
      show valR a.2.f a.2.c ((pivR q p).set c.1 (pivV c (pivR q p))) = 0
      rw [val_set (by rw [piv_len, m1, hp]) (by rw [piv_len, hp]; exact l2), pw1 a ha]
      have : valR a.2.f a.2.c (pivR q p) = 0 := ih a ha
      rw [this]
      grind
theorem seq_ok {R : List Rw} {w : Nat} : ∀ (n : Nat) (piv : List (Nat × Sm)) (left S : List Sm) (b : Nat → Sm), left.length ≤ n → EI R w piv left S b →
    (∃ m, (solveEq n piv left S).2.2 = some m ∧ Ref R w m) ∨ ((solveEq n piv left S).2.2 = none ∧ ∃ b', EI R w (solveEq n piv left S).1 [] (solveEq n piv left S).2.1 b')
  | n, piv, [], S, b, _, h => by
    rw [show solveEq n piv [] S = (piv, S, none) by unfold solveEq; rfl]
    exact .inr ⟨rfl, b, h⟩
  | 0, _, s :: r, _, _, hl, _ => by simp at hl
  | n + 1, piv, s :: r, S, b, hl, h => by
    have hl : r.length ≤ n := by simpa using hl
    cases e : spotR s.f with
    | none =>
      by_cases c : s.c = 0
      · rw [show solveEq (n + 1) piv (s :: r) S = solveEq n piv r S by rw [solveEq, e]; dsimp only; rw [if_neg (by simp [c])]]
        exact seq_ok n piv r S b hl (h.zero e c)
      · rw [show solveEq (n + 1) piv (s :: r) S = (piv, S, some (s.scaled (sgR s.c)).m) by rw [solveEq, e]; dsimp only; rw [if_pos c]]
        exact .inl ⟨_, rfl, h.bad e c⟩
    | some k =>
      rw [show solveEq (n + 1) piv (s :: r) S = solveEq n (piv ++ [(k, s)]) (r.map fun o => wo o s k) (S.map fun o => wo o s k) by rw [solveEq, e]]
      exact seq_ok n _ _ _ _ (by rw [List.length_map]; exact hl) (h.pivot e)
theorem free_mem {w : Nat} {piv : List (Nat × Sm)} {k : Nat} : k ∈ freeR w piv ↔ k < w ∧ k ∉ piv.map (·.1) := by
  unfold freeR
  rw [List.mem_filter, List.mem_range]
  simp
def Good (R : List Rw) (w : Nat) : Ans → Prop
  | .point p => p.length = w ∧ ∀ i, i < R.length → if (rowA R i).e = true then rv R i p = 0 else rv R i p < 0
  | .never m => Ref R w m
theorem stg_last {S : List Sm} {sp : List Nat} : ∀ (r : List Nat) (t : Nat), sp.drop t = r → (stg r t (stT sp S t)).2 = stT sp S (t + r.length)
  | [], t, _ => rfl
  | k :: r, t, hd => by
    obtain ⟨e1, e2, e3⟩ := drop_get hd
    have e4 : stT sp S (t + 1) = removedR (stT sp S t) k t := by show removedR (stT sp S t) (sp.getD t 0) t = _; rw [e1]
    show (stg r (t + 1) (removedR (stT sp S t) k t)).2 = _
    rw [← e4, stg_last r (t + 1) e2, List.length_cons]
    congr 1
    omega
theorem zs_all {sp zs : List Nat} : ∀ (t : Nat) (k : Nat), (k ∈ zs ∨ k ∈ sp.take t) → k ∈ zsT sp zs t
  | 0, k, h => by
    rcases h with h | h
    · exact h
    · simp at h
  | t + 1, k, h => by
    rcases h with h | h
    · exact .tail _ (zs_all t k (.inl h))
    · by_cases hl : t < sp.length
      · rw [List.take_add_one, List.getElem?_eq_getElem hl] at h
        rcases List.mem_append.mp h with h | h
        · exact .tail _ (zs_all t k (.inr h))
        · have e : k = sp[t] := by simpa using h
          rw [e]
          show _ ∈ sp.getD t 0 :: _
          rw [List.getD_eq_getElem?_getD, List.getElem?_eq_getElem hl]
          exact .head _
      · rw [List.take_of_length_le (by omega)] at h
        exact .tail _ (zs_all t k (.inr (by rw [List.take_of_length_le (by omega)]; exact h)))
theorem last_gs {R : List Rw} {w : Nat} {piv : List (Nat × Sm)} {S : List Sm} {b : Nat → Sm} (h : EI R w piv [] S b) {s : Sm} (hs : s ∈ (stg (freeR w piv) 0 S).2) : Cb R w s ∧ (∀ i ∈ US R, 0 ≤ gt s.m i) ∧ (∃ i ∈ US R, 0 < gt s.m i) ∧ ∀ k, gt s.f k = 0 := by
  have hs : s ∈ (stg (freeR w piv) 0 (stT (freeR w piv) S 0)).2 := hs
  rw [stg_last (sp := freeR w piv) (freeR w piv) 0 List.drop_zero] at hs
  have g := (stT_gs h _ _ s hs).1
  refine ⟨g.cb, g.nn, g.po, fun k => ?_⟩
  by_cases hk : k < w
  · refine g.zz k (zs_all _ _ ?_)
    by_cases hp : k ∈ piv.map (·.1)
    · exact .inl hp
    · exact .inr (by rw [Nat.zero_add, List.take_length]; exact free_mem.mpr ⟨hk, hp⟩)
  · exact gt_out (by rw [g.cb.fl]; omega)
theorem solve_good {R : List Rw} {w : Nat} (hw : ∀ r ∈ R, r.f.length = w) : Good R w (solveR R w) := by
  have hl : (eqs R).length ≤ R.length := by
    unfold eqs enumR
    rw [List.length_map]
    refine Nat.le_trans (List.length_filter_le _ _) ?_
    rw [List.length_map, List.length_range]
    exact Nat.le_refl _
  unfold solveR
  rcases seq_ok R.length [] (eqs R) (lts R) _ hl (EI.init hw) with ⟨m, e, hm⟩ | ⟨e, b, h⟩
  · generalize solveEq R.length [] (eqs R) (lts R) = q at e
    obtain ⟨a, c, d⟩ := q
    have e : d = some m := e
    subst e
    exact hm
  · generalize solveEq R.length [] (eqs R) (lts R) = q at e h
    obtain ⟨piv, S, d⟩ := q
    have e : d = none := e
    subst e
    have h : EI R w piv [] S b := h
    show Good R w (match (stg (freeR w piv) 0 S).2.find? fun s => decide (0 ≤ s.c) with
      | some s => .never s.m
      | none => .point (pivR piv (backR (stg (freeR w piv) 0 S).1 (List.replicate w 0))))
    cases f : (stg (freeR w piv) 0 S).2.find? fun s => decide (0 ≤ s.c) with
    | some s =>
      have hs := List.mem_of_find?_eq_some f
      have hc : 0 ≤ s.c := of_decide_eq_true (List.find?_some (p := fun s : Sm => decide (0 ≤ s.c)) f)
      obtain ⟨cb, nn, po, zz⟩ := last_gs h hs
      refine ⟨cb.ml, nn, s.c, fun p hp => ?_, ?_⟩
      · rw [← cb.cb p hp]
        exact val_zero (by rw [cb.fl, hp]) fun k _ => .inl (zz k)
      · by_cases z : s.c = 0
        · exact .inr ⟨z, po⟩
        · exact .inl (Rat.lt_of_le_of_ne hc fun e => z e.symm)
    | none =>
      have hc : ∀ s ∈ (stg (freeR w piv) 0 S).2, s.c < 0 := fun s hs => by
        have := List.find?_eq_none.mp f s hs
        exact Rat.not_le.mp fun z => this (decide_eq_true z)
      obtain ⟨l, V⟩ := back_ok h (sp := freeR w piv) (fun k hk => (free_mem.mp hk).1) (freeR w piv) 0 List.drop_zero hc
      have l : (backR (stg (freeR w piv) 0 S).1 (List.replicate w 0)).length = w := l
      have V : ∀ s ∈ S, s.v (backR (stg (freeR w piv) 0 S).1 (List.replicate w 0)) < 0 := V
      generalize backR (stg (freeR w piv) 0 S).1 (List.replicate w 0) = p at l V
      have hz := piv_ok (q := piv) l (fun a ha => ⟨(h.gp a ha).1.fl, (h.gp a ha).2.2.2.1, (h.gp a ha).2.2.2.2⟩) h.pw
      have l2 : (pivR piv p).length = w := by rw [piv_len, l]
      refine ⟨l2, fun i hi => ?_⟩
      split
      · exact h.bk _ l2 hz (fun s hs => by cases hs) i hi ‹_›
      · rename_i he
        have hu : i ∈ US R := us_mem.mpr ⟨hi, by simpa using he⟩
        obtain ⟨c2, m2, z2, f2, v2⟩ := h.hb i hu
        rw [← v2 _ l2 hz, piv_keep c2.fl l (fun a ha => (h.gp a ha).2.2.2.1) f2]
        exact V _ (by rw [h.se]; exact List.mem_map.mpr ⟨i, hu, rfl⟩)
end Fs
set_option Elab.async false
set_option linter.all false
set_option maxRecDepth 100000
set_option maxHeartbeats 400000
namespace Fs
open Fm
def Bq (n : Nat) (x : Rat) : Prop := x.num.natAbs < 2 ^ n ∧ x.den < 2 ^ n
theorem Bq.mono {n m : Nat} {x : Rat} (h : Bq n x) (l : n ≤ m) : Bq m x :=
  ⟨Nat.lt_of_lt_of_le h.1 (Nat.pow_le_pow_right (by decide) l), Nat.lt_of_lt_of_le h.2 (Nat.pow_le_pow_right (by decide) l)⟩
def Iz (b : Nat) (L : Int) (x : Rat) : Prop := ∃ z : Int, x * (L : Rat) = (z : Rat) ∧ z.natAbs < 2 ^ b
theorem Iz.mono {a b : Nat} {L : Int} {x : Rat} (h : Iz a L x) (l : a ≤ b) : Iz b L x := by
  obtain ⟨z, h1, h2⟩ := h
  exact ⟨z, h1, Nat.lt_of_lt_of_le h2 (Nat.pow_le_pow_right (by decide) l)⟩
theorem iz_bq {b : Nat} {L : Int} {x : Rat} (h0 : 0 < L) (hL : L.natAbs < 2 ^ b) (h : Iz b L x) : Bq b x := by
  obtain ⟨z, h1, h2⟩ := h
  have e1 : x * (x.den : Rat) = (x.num : Rat) := by
    have nz : (x.den : Rat) ≠ 0 := fun y => x.den_nz (Rat.natCast_inj.mp (show (x.den : Rat) = ((0 : Nat) : Rat) from y))
    have := Rat.div_mul_cancel (a := (x.num : Rat)) nz
    have e := Rat.num_divInt_den x
    rw [Rat.divInt_eq_div] at e
    have e : (x.num : Rat) / (x.den : Rat) = x := e
    rw [e] at this
    exact this
  have e2 : ((x.num * L : Int) : Rat) = ((z * (x.den : Int) : Int) : Rat) := by
    rw [Rat.intCast_mul, Rat.intCast_mul, ← h1, ← e1]
    show x * (x.den : Rat) * (L : Rat) = x * (L : Rat) * (((x.den : Nat) : Int) : Rat)
    rw [show (((x.den : Nat) : Int) : Rat) = (x.den : Rat) from rfl]
    grind
  have e3 : x.num * L = z * (x.den : Int) := Rat.intCast_inj.mp e2
  have hc := x.reduced
  have hd : 0 < x.den := Nat.pos_of_ne_zero x.den_nz
  have e4 : x.num.natAbs * L.natAbs = z.natAbs * x.den := by
    rw [← Int.natAbs_mul, e3, Int.natAbs_mul]
    rfl
  have d1 : x.den ∣ L.natAbs := (Nat.Coprime.symm hc).dvd_of_dvd_mul_left ⟨z.natAbs, by rw [e4, Nat.mul_comm]⟩
  have l0 : 0 < L.natAbs := by omega
  have l1 := Nat.le_of_dvd l0 d1
  refine ⟨?_, by omega⟩
  have : x.num.natAbs ≤ z.natAbs := by
    refine Nat.le_of_mul_le_mul_right (c := x.den) ?_ hd
    rw [← e4]
    exact Nat.mul_le_mul_left _ l1
  omega
structure CdS (b : Nat) (s : Sm) : Prop where
  ex : ∃ L : Int, 0 < L ∧ L.natAbs < 2 ^ b ∧ Iz b L s.c ∧ (∀ k, Iz b L (gt s.f k)) ∧ ∀ i, Iz b L (gt s.m i)
theorem CdS.mono {a b : Nat} {s : Sm} (h : CdS a s) (l : a ≤ b) : CdS b s := by
  obtain ⟨L, h1, h2, h3, h4, h5⟩ := h.ex
  exact ⟨⟨L, h1, Nat.lt_of_lt_of_le h2 (Nat.pow_le_pow_right (by decide) l), h3.mono l, fun k => (h4 k).mono l, fun i => (h5 i).mono l⟩⟩
theorem mem_gt {l : List Rat} {x : Rat} (h : x ∈ l) : ∃ i, i < l.length ∧ gt l i = x := by
  obtain ⟨i, hi, e⟩ := List.mem_iff_getElem.mp h
  refine ⟨i, hi, ?_⟩
  unfold gt
  rw [List.getD_eq_getElem?_getD, List.getElem?_eq_getElem hi, e]
  rfl
theorem CdS.bc {b : Nat} {s : Sm} (h : CdS b s) : Bq b s.c := by
  obtain ⟨L, h1, h2, h3, h4, h5⟩ := h.ex
  exact iz_bq h1 h2 h3
theorem CdS.bf {b : Nat} {s : Sm} (h : CdS b s) (k : Nat) : Bq b (gt s.f k) := by
  obtain ⟨L, h1, h2, h3, h4, h5⟩ := h.ex
  exact iz_bq h1 h2 (h4 k)
theorem CdS.bm {b : Nat} {s : Sm} (h : CdS b s) (k : Nat) : Bq b (gt s.m k) := by
  obtain ⟨L, h1, h2, h3, h4, h5⟩ := h.ex
  exact iz_bq h1 h2 (h5 k)
theorem pw2 {a c b d : Nat} (h1 : a < 2 ^ b) (h2 : c < 2 ^ d) : a * c < 2 ^ (b + d) := by
  rw [Nat.pow_add]
  exact Nat.mul_lt_mul'' h1 h2
theorem pw_add {a c n : Nat} (h1 : a < 2 ^ n) (h2 : c < 2 ^ n) : a + c < 2 ^ (n + 1) := by
  rw [Nat.pow_succ]
  omega
theorem quot {si sk pi pk Ls Lp : Rat} (h : pk ≠ 0) : (si + (-(sk / pk)) * pi) * (Ls * (pk * Lp)) = si * Ls * (pk * Lp) - sk * Ls * (pi * Lp) := by
  have u := Rat.div_mul_cancel (a := sk) h
  generalize sk / pk = x at u
  rw [← u]
  grind
theorem CdS.withO {b : Nat} {s o : Sm} {k : Nat} (hs : CdS b s) (ho : CdS b o) (hf : s.f.length = o.f.length) (hm : s.m.length = o.m.length) (hk : gt o.f k ≠ 0) : CdS (b + b + 1) (s.withO o (-(gt s.f k / gt o.f k))) := by
  obtain ⟨L, l0, l1, c1, f1, m1⟩ := hs.ex
  obtain ⟨M, n0, n1, c2, f2, m2⟩ := ho.ex
  obtain ⟨Sk, sk1, sk2⟩ := f1 k
  obtain ⟨Pk, pk1, pk2⟩ := f2 k
  have pz : Pk ≠ 0 := fun z => by
    rw [z] at pk1
    have : (M : Rat) ≠ 0 := fun y => by
      have := Rat.intCast_inj.mp (show (M : Rat) = ((0 : Int) : Rat) from y)
      omega
    have pk1 : gt o.f k * (M : Rat) = 0 := pk1
    rcases Rat.mul_eq_zero.mp pk1 with y | y
    · exact hk y
    · exact this y
  have key : ∀ x y : Rat, Iz b L x → Iz b M y → ∃ z : Int, (x + (-(gt s.f k / gt o.f k)) * y) * ((L : Rat) * (Pk : Rat)) = (z : Rat) ∧ z.natAbs < 2 ^ (b + b + 1) := fun x y hx hy => by
    obtain ⟨X, x1, x2⟩ := hx
    obtain ⟨Y, y1, y2⟩ := hy
    refine ⟨X * Pk - Sk * Y, ?_, ?_⟩
    · rw [← pk1, quot hk, x1, sk1, y1, pk1, Rat.intCast_sub, Rat.intCast_mul, Rat.intCast_mul]
    · have h1 := pw2 x2 pk2
      have h2 := pw2 sk2 y2
      rw [← Int.natAbs_mul] at h1 h2
      have := Int.natAbs_sub_le (X * Pk) (Sk * Y)
      have := pw_add h1 h2
      omega
  have LB : (L * Pk).natAbs < 2 ^ (b + b + 1) := by
    rw [Int.natAbs_mul]
    exact Nat.lt_of_lt_of_le (pw2 l1 pk2) (Nat.pow_le_pow_right (by decide) (by omega))
  have fin : ∃ K : Int, 0 < K ∧ K.natAbs < 2 ^ (b + b + 1) ∧ ∀ x y : Rat, Iz b L x → Iz b M y → Iz (b + b + 1) K (x + (-(gt s.f k / gt o.f k)) * y) := by
    rcases Int.lt_or_gt_of_ne pz with h | h
    · refine ⟨L * (-Pk), Int.mul_pos l0 (by omega), by rw [Int.mul_neg, Int.natAbs_neg]; exact LB, fun x y hx hy => ?_⟩
      obtain ⟨z, z1, z2⟩ := key x y hx hy
      refine ⟨-z, ?_, by rw [Int.natAbs_neg]; exact z2⟩
      rw [Rat.intCast_mul, Rat.intCast_neg, Rat.intCast_neg, ← z1]
      generalize x + (-(gt s.f k / gt o.f k)) * y = A
      grind
    · refine ⟨L * Pk, Int.mul_pos l0 h, LB, fun x y hx hy => ?_⟩
      obtain ⟨z, z1, z2⟩ := key x y hx hy
      exact ⟨z, by rw [Rat.intCast_mul]; exact z1, z2⟩
  obtain ⟨K, k0, k1, kk⟩ := fin
  refine ⟨⟨K, k0, k1, kk _ _ c1 c2, fun j => ?_, fun j => ?_⟩⟩
  · show Iz _ K (gt (addR s.f o.f _) j)
    rw [gt_add hf]
    exact kk _ _ (f1 j) (f2 j)
  · show Iz _ K (gt (addR s.m o.m _) j)
    rw [gt_add hm]
    exact kk _ _ (m1 j) (m2 j)
theorem CdS.wo {b : Nat} {s o : Sm} {k : Nat} (hs : CdS b s) (ho : CdS b o) (hf : s.f.length = o.f.length) (hm : s.m.length = o.m.length) (hk : gt o.f k ≠ 0) : CdS (b + b + 1) (wo s o k) := by
  unfold Fs.wo
  split
  · exact hs.mono (by omega)
  · exact hs.withO ho hf hm hk
theorem quot2 {h l hk lk D E : Rat} (h1 : hk ≠ 0) (h2 : -lk ≠ 0) : (1 / hk * h + 1 / (-lk) * l) * ((hk * D) * (-lk * E)) = h * D * (-lk * E) + l * E * (hk * D) := by
  have u := Rat.div_mul_cancel (a := 1) h1
  have v := Rat.div_mul_cancel (a := 1) h2
  generalize 1 / hk = x at u
  generalize 1 / (-lk) = y at v
  have e : (x * h + y * l) * ((hk * D) * (-lk * E)) = (x * hk) * (h * D * (-lk * E)) + (y * -lk) * (l * E * (hk * D)) := by grind
  rw [e, u, v, Rat.one_mul, Rat.one_mul]
theorem cast_pos {f : Rat} {L z : Int} (l0 : 0 < L) (h : 0 < f) (e : f * (L : Rat) = (z : Rat)) : 0 < z := by
  have := Rat.mul_pos h (Rat.intCast_pos.mpr l0)
  rw [e] at this
  exact Rat.intCast_pos.mp this
theorem CdS.pair {b : Nat} {lo hi : Sm} {k : Nat} (h1 : CdS b lo) (h2 : CdS b hi) (hf : lo.f.length = hi.f.length) (hm : lo.m.length = hi.m.length) (l0 : gt lo.f k < 0) (h0 : 0 < gt hi.f k) : CdS (b + b + 1) (pairR lo hi k) := by
  obtain ⟨E, e0, e1, c1, f1, m1⟩ := h1.ex
  obtain ⟨D, d0, d1, c2, f2, m2⟩ := h2.ex
  obtain ⟨Lk, lk1, lk2⟩ := f1 k
  obtain ⟨Hk, hk1, hk2⟩ := f2 k
  have hp := cast_pos d0 h0 hk1
  have lp : 0 < -Lk := cast_pos e0 (show 0 < - gt lo.f k by grind) (by rw [Rat.intCast_neg, ← lk1]; generalize gt lo.f k = A; grind)
  have kk : ∀ x y : Rat, Iz b D x → Iz b E y → Iz (b + b + 1) (Hk * -Lk) (1 / gt hi.f k * x + 1 / (-(gt lo.f k)) * y) := fun x y hx hy => by
    obtain ⟨X, x1, x2⟩ := hx
    obtain ⟨Y, y1, y2⟩ := hy
    refine ⟨X * -Lk + Y * Hk, ?_, ?_⟩
    · have q := quot2 (h := x) (l := y) (hk := gt hi.f k) (lk := gt lo.f k) (D := D) (E := E) (by grind) (by grind)
      have e3 : -gt lo.f k * (E : Rat) = ((-Lk : Int) : Rat) := by rw [Rat.intCast_neg, ← lk1]; generalize gt lo.f k = A; grind
      rw [e3, hk1, x1, y1] at q
      rw [Rat.intCast_mul, q, Rat.intCast_add, Rat.intCast_mul, Rat.intCast_mul]
    · have g1 := pw2 x2 lk2
      have g2 := pw2 y2 hk2
      rw [← Int.natAbs_mul] at g2
      rw [← Int.natAbs_neg Lk, ← Int.natAbs_mul] at g1
      have := Int.natAbs_add_le (X * -Lk) (Y * Hk)
      have := pw_add g1 g2
      omega
  refine ⟨⟨Hk * -Lk, Int.mul_pos hp lp, ?_, kk _ _ c2 c1, fun j => ?_, fun j => ?_⟩⟩
  · rw [Int.natAbs_mul, Int.natAbs_neg]
    exact Nat.lt_of_lt_of_le (pw2 hk2 lk2) (Nat.pow_le_pow_right (by decide) (by omega))
  · rw [pair_f hf]
    exact kk _ _ (f2 j) (f1 j)
  · rw [pair_m hm]
    exact kk _ _ (m2 j) (m1 j)
def bt (b : Nat) : Nat → Nat
  | 0 => b
  | n + 1 => bt b n + bt b n + 1
theorem bt_le {b n m : Nat} (h : n ≤ m) : bt b n ≤ bt b m := by
  induction m with
  | zero => rw [show n = 0 by omega]; exact Nat.le_refl _
  | succ m ih =>
    by_cases e : n = m + 1
    · rw [e]; exact Nat.le_refl _
    · have := ih (by omega)
      show _ ≤ bt b m + bt b m + 1
      omega
structure SzE (b : Nat) (piv : List (Nat × Sm)) (left S : List Sm) : Prop where
  l : ∀ s ∈ left, CdS (bt b piv.length) s
  s : ∀ s ∈ S, CdS (bt b piv.length) s
  p : ∀ (i : Nat) q, piv[i]? = some q → CdS (bt b i) q.2
theorem SzE.zero {b : Nat} {piv : List (Nat × Sm)} {s : Sm} {r S : List Sm} (h : SzE b piv (s :: r) S) : SzE b piv r S := ⟨fun o ho => h.l o (.tail _ ho), h.s, h.p⟩
theorem SzE.pivot {R : List Rw} {w b : Nat} {piv : List (Nat × Sm)} {s : Sm} {r S : List Sm} {g : Nat → Sm} {k : Nat} (h : SzE b piv (s :: r) S) (E : EI R w piv (s :: r) S g) (hs : spotR s.f = some k) : SzE b (piv ++ [(k, s)]) (r.map fun o => wo o s k) (S.map fun o => wo o s k) := by
  have e : bt b (piv ++ [(k, s)]).length = bt b piv.length + bt b piv.length + 1 := by
    rw [List.length_append]
    rfl
  obtain ⟨c1, _⟩ := E.gl s (.head _)
  have hk := (spot_some hs).2
  have one : ∀ o, Cb R w o → CdS (bt b piv.length) o → CdS (bt b piv.length + bt b piv.length + 1) (wo o s k) := fun o co ho => CdS.wo ho (h.l s (.head _)) (by rw [co.fl, c1.fl]) (by rw [co.ml, c1.ml]) hk
  refine ⟨fun o' ho => ?_, fun o' ho => ?_, fun i q hq => ?_⟩
  · rw [e]
    obtain ⟨o, ho3, rfl⟩ := List.mem_map.mp ho
    exact one o (E.gl o (.tail _ ho3)).1 (h.l o (.tail _ ho3))
  · rw [e]
    obtain ⟨o, ho3, rfl⟩ := List.mem_map.mp ho
    have ho2 := ho3
    rw [E.se] at ho3
    obtain ⟨i, hi, rfl⟩ := List.mem_map.mp ho3
    exact one _ (E.hb i hi).1 (h.s _ ho2)
  · by_cases hi : i < piv.length
    · rw [List.getElem?_append_left hi] at hq
      exact h.p i q hq
    · rw [List.getElem?_append_right (by omega)] at hq
      match hj : i - piv.length, hq with
      | 0, hq =>
        have e2 : (k, s) = q := Option.some.inj hq
        rw [← e2, show i = piv.length by omega]
        exact h.l s (.head _)
      | j + 1, hq => cases hq
theorem EI.plen {R : List Rw} {w : Nat} {piv : List (Nat × Sm)} {left S : List Sm} {b : Nat → Sm} (h : EI R w piv left S b) : (piv.map (·.1)).Nodup ∧ piv.length ≤ w := by
  have nd : (piv.map (·.1)).Nodup := by
    refine List.pairwise_map.mpr ?_
    refine List.Pairwise.imp_of_mem (fun {a c} ha hc e => ?_) h.pw
    intro z
    have := (h.gp c hc).2.2.2.2
    rw [← z] at this
    exact this e
  refine ⟨nd, ?_⟩
  have := len_sub (A := piv.map (·.1)) (B := List.range w) nd fun k hk => by
    obtain ⟨q, hq, rfl⟩ := List.mem_map.mp hk
    exact List.mem_range.mpr (h.gp q hq).2.2.2.1
  rw [List.length_map, List.length_range] at this
  exact this
theorem free_len {R : List Rw} {w : Nat} {piv : List (Nat × Sm)} {left S : List Sm} {b : Nat → Sm} (h : EI R w piv left S b) : (freeR w piv).length + piv.length ≤ w := by
  obtain ⟨nd, _⟩ := h.plen
  have fd : (freeR w piv).Nodup := List.nodup_range.filter _
  have := len_sub (A := freeR w piv ++ piv.map (·.1)) (B := List.range w) (List.nodup_append.mpr ⟨fd, nd, fun a ha c hc e => (free_mem.mp ha).2 (by rw [e]; exact hc)⟩) fun k hk => by
    rcases List.mem_append.mp hk with hk | hk
    · exact List.mem_range.mpr (free_mem.mp hk).1
    · obtain ⟨q, hq, rfl⟩ := List.mem_map.mp hk
      exact List.mem_range.mpr (h.gp q hq).2.2.2.1
  rw [List.length_append, List.length_map, List.length_range] at this
  exact this
theorem stT_cd {R : List Rw} {w b : Nat} {piv : List (Nat × Sm)} {S : List Sm} {g : Nat → Sm} (h : EI R w piv [] S g) (hS : ∀ s ∈ S, CdS (bt b piv.length) s) (sp : List Nat) : ∀ t, ∀ s ∈ stT sp S t, CdS (bt b (piv.length + t)) s
  | 0 => hS
  | t + 1 => fun s hs => by
    have ih := stT_cd h hS sp t
    have G := stT_gs h sp t
    show CdS (bt b (piv.length + t) + bt b (piv.length + t) + 1) s
    rcases rem_mem.mp hs with ⟨h1, h2⟩ | ⟨lo, hi, h1, h3, h2, h4, rfl, h5⟩
    · exact (ih s h1).mono (by omega)
    · exact (ih lo h1).pair (ih hi h3) (by rw [(G lo h1).1.cb.fl, (G hi h3).1.cb.fl]) (by rw [(G lo h1).1.cb.ml, (G hi h3).1.cb.ml]) h2 h4
end Fs
set_option Elab.async false
set_option linter.all false
set_option maxRecDepth 100000
set_option maxHeartbeats 400000
namespace Fs
open Fm
structure CdP (b : Nat) (p : List Rat) : Prop where
  ex : ∃ Q : Int, 0 < Q ∧ Q.natAbs < 2 ^ b ∧ ∀ i, Iz b Q (gt p i)
theorem CdP.mono {a b : Nat} {p : List Rat} (h : CdP a p) (l : a ≤ b) : CdP b p := by
  obtain ⟨Q, h1, h2, h3⟩ := h.ex
  exact ⟨⟨Q, h1, Nat.lt_of_lt_of_le h2 (Nat.pow_le_pow_right (by decide) l), fun i => (h3 i).mono l⟩⟩
theorem CdP.b {b : Nat} {p : List Rat} (h : CdP b p) (i : Nat) : Bq b (gt p i) := by
  obtain ⟨Q, h1, h2, h3⟩ := h.ex
  exact iz_bq h1 h2 (h3 i)
theorem CdP.zero {w : Nat} : CdP 1 (List.replicate w 0) :=
  ⟨⟨1, by decide, by decide, fun i => ⟨0, by rw [gt_zero, Rat.zero_mul]; rfl, by decide⟩⟩⟩
theorem fold_iz {M : Int} {X : Nat} : ∀ (l : List (Rat × Rat)) (a : Rat) (N : Nat), (∀ q ∈ l, ∃ z : Int, q.1 * q.2 * (M : Rat) = (z : Rat) ∧ z.natAbs < X) → (∃ z : Int, a * (M : Rat) = (z : Rat) ∧ z.natAbs < N * X) → ∃ z : Int, (l.foldl (fun a q => a + q.1 * q.2) a) * (M : Rat) = (z : Rat) ∧ z.natAbs < (N + l.length) * X
  | [], a, N, _, h => h
  | q :: l, a, N, hq, h => by
    obtain ⟨z, z1, z2⟩ := h
    obtain ⟨y, y1, y2⟩ := hq q (.head _)
    have := fold_iz l (a + q.1 * q.2) (N + 1) (fun k hk => hq k (.tail _ hk)) ⟨z + y, by rw [Rat.intCast_add, ← z1, ← y1]; generalize q.1 * q.2 = B; grind, by
      have := Int.natAbs_add_le z y
      rw [Nat.succ_mul]
      omega⟩
    rw [List.length_cons, show N + (l.length + 1) = N + 1 + l.length by omega]
    exact this
theorem zip_gt {f p : List Rat} {q : Rat × Rat} (h : q ∈ List.zip f p) : ∃ k, q.1 = gt f k ∧ q.2 = gt p k := by
  obtain ⟨k, hk, e⟩ := List.mem_iff_getElem.mp h
  rw [List.length_zip] at hk
  rw [List.getElem_zip] at e
  refine ⟨k, ?_, ?_⟩
  · rw [← e]
    unfold gt
    rw [List.getD_eq_getElem?_getD, List.getElem?_eq_getElem (by omega)]
    rfl
  · rw [← e]
    unfold gt
    rw [List.getD_eq_getElem?_getD, List.getElem?_eq_getElem (by omega)]
    rfl
theorem part_iz {f p : List Rat} {c : Rat} {L Q : Int} {B k : Nat} (hc : Iz B L c) (hf : ∀ j, Iz B L (gt f j)) (hp : ∀ j, Iz k Q (gt p j)) (q0 : 0 < Q) (hq : Q.natAbs < 2 ^ k) (i : Nat) : ∃ z : Int, (((List.zip f p).take i).foldl (fun a q => a + q.1 * q.2) c) * ((L * Q : Int) : Rat) = (z : Rat) ∧ z.natAbs < (1 + f.length) * 2 ^ (B + k) := by
  obtain ⟨C, c1, c2⟩ := hc
  have := fold_iz (M := L * Q) (X := 2 ^ (B + k)) ((List.zip f p).take i) c 1 (fun q hq => by
    obtain ⟨j, e1, e2⟩ := zip_gt (List.mem_of_mem_take hq)
    obtain ⟨x, x1, x2⟩ := hf j
    obtain ⟨y, y1, y2⟩ := hp j
    refine ⟨x * y, ?_, by rw [Int.natAbs_mul]; exact pw2 x2 y2⟩
    rw [e1, e2, Rat.intCast_mul, Rat.intCast_mul, ← x1, ← y1]
    grind) ⟨C * Q, by rw [Rat.intCast_mul, Rat.intCast_mul, ← c1]; grind, by rw [Int.natAbs_mul, Nat.one_mul]; exact pw2 c2 hq⟩
  obtain ⟨z, z1, z2⟩ := this
  refine ⟨z, z1, Nat.lt_of_lt_of_le z2 (Nat.mul_le_mul_right _ ?_)⟩
  rw [List.length_take, List.length_zip]
  omega
theorem sixteen {n w : Nat} (h : w ≤ 16) : w * 2 ^ n ≤ 2 ^ (n + 4) := by
  rw [Nat.pow_add, Nat.mul_comm]
  exact Nat.mul_le_mul_left _ (by show w ≤ 16; exact h)
theorem part_bq {s : Sm} {p : List Rat} {B k : Nat} (hs : CdS B s) (hp : CdP k p) (hl : s.f.length ≤ 14) (i : Nat) : Bq (B + k + 4) (((List.zip s.f p).take i).foldl (fun a q => a + q.1 * q.2) s.c) := by
  obtain ⟨L, l0, l1, c1, f1, m1⟩ := hs.ex
  obtain ⟨Q, q0, q1, p1⟩ := hp.ex
  obtain ⟨z, z1, z2⟩ := part_iz c1 f1 p1 q0 q1 i
  refine iz_bq (L := L * Q) (Int.mul_pos l0 q0) ?_ ⟨z, z1, ?_⟩
  · rw [Int.natAbs_mul]
    exact Nat.lt_of_lt_of_le (pw2 l1 q1) (Nat.pow_le_pow_right (by decide) (by omega))
  · exact Nat.lt_of_lt_of_le z2 (sixteen (by omega))
theorem rest_iz {s : Sm} {p : List Rat} {L Q : Int} {B k j : Nat} (hc : Iz B L s.c) (hf : ∀ j, Iz B L (gt s.f j)) (hp : ∀ j, Iz k Q (gt p j)) (q0 : 0 < Q) (hq : Q.natAbs < 2 ^ k) (hl : s.f.length ≤ 14) : ∃ z : Int, (s.v p - gt s.f j * gt p j) * ((L * Q : Int) : Rat) = (z : Rat) ∧ z.natAbs < 2 ^ (B + k + 4) := by
  obtain ⟨z, z1, z2⟩ := part_iz hc hf hp q0 hq (List.zip s.f p).length
  rw [List.take_length] at z1
  have z1 : s.v p * ((L * Q : Int) : Rat) = (z : Rat) := z1
  obtain ⟨x, x1, x2⟩ := hf j
  obtain ⟨y, y1, y2⟩ := hp j
  refine ⟨z - x * y, ?_, ?_⟩
  · rw [Rat.intCast_sub, ← z1, Rat.intCast_mul, Rat.intCast_mul, ← x1, ← y1]
    generalize s.v p = A
    grind
  · have h1 := pw2 x2 y2
    rw [← Int.natAbs_mul] at h1
    have := Int.natAbs_sub_le z (x * y)
    have := sixteen (n := B + k) (w := 1 + s.f.length + 1) (by omega)
    rw [Nat.succ_mul] at this
    omega
theorem bnd_iz {s : Sm} {p : List Rat} {L Q : Int} {B k j : Nat} (l0 : 0 < L) (hc : Iz B L s.c) (hf : ∀ j, Iz B L (gt s.f j)) (hp : ∀ j, Iz k Q (gt p j)) (q0 : 0 < Q) (hq : Q.natAbs < 2 ^ k) (hl : s.f.length ≤ 14) (hz : gt s.f j ≠ 0) : ∃ G z : Int, 0 < G ∧ G.natAbs < 2 ^ B ∧ bndR s j p * ((G * Q : Int) : Rat) = (z : Rat) ∧ z.natAbs < 2 ^ (B + k + 4) := by
  obtain ⟨z, z1, z2⟩ := rest_iz (j := j) hc hf hp q0 hq hl
  obtain ⟨x, x1, x2⟩ := hf j
  have key : bndR s j p * ((x * Q : Int) : Rat) = ((-z : Int) : Rat) := by
    have m := bnd_mul (s := s) (k := j) (p := p) hz
    rw [Rat.intCast_neg, ← z1, Rat.intCast_mul, Rat.intCast_mul, ← x1]
    generalize s.v p - gt s.f j * gt p j = A at m
    generalize bndR s j p = Z at m
    rw [show Z * (gt s.f j * (L : Rat) * (Q : Rat)) = gt s.f j * Z * ((L : Rat) * (Q : Rat)) by grind, m]
    generalize (L : Rat) * (Q : Rat) = Y
    grind
  have xz : x ≠ 0 := fun e => by
    rw [e] at x1
    have x1 : gt s.f j * (L : Rat) = 0 := x1
    rcases Rat.mul_eq_zero.mp x1 with y | y
    · exact hz y
    · have := Rat.intCast_inj.mp (show (L : Rat) = ((0 : Int) : Rat) from y)
      omega
  rcases Int.lt_or_gt_of_ne xz with h | h
  · refine ⟨-x, z, by omega, by rw [Int.natAbs_neg]; exact x2, ?_, z2⟩
    rw [Int.neg_mul, Rat.intCast_neg]
    rw [Rat.intCast_neg] at key
    generalize bndR s j p = Z at key
    grind
  · exact ⟨x, -z, h, x2, key, by rw [Int.natAbs_neg]; exact z2⟩
theorem set_cd {p : List Rat} {Q M Z : Int} {B k j : Nat} {x : Rat} (q0 : 0 < Q) (hq : Q.natAbs < 2 ^ k) (hp : ∀ j, Iz k Q (gt p j)) (hj : j < p.length) (m0 : 0 < M) (hM : M.natAbs < 2 ^ (B + B + 1)) (e : x * ((M * Q : Int) : Rat) = (Z : Rat)) (hZ : Z.natAbs < 2 ^ (k + B + B + 5)) : CdP (k + B + B + 5) (p.set j x) := by
  refine ⟨⟨M * Q, Int.mul_pos m0 q0, ?_, fun i => ?_⟩⟩
  · rw [Int.natAbs_mul]
    exact Nat.lt_of_lt_of_le (pw2 hM hq) (Nat.pow_le_pow_right (by decide) (by omega))
  · rw [gt_set hj]
    split
    · exact ⟨Z, e, hZ⟩
    · obtain ⟨y, y1, y2⟩ := hp i
      refine ⟨M * y, ?_, ?_⟩
      · rw [Rat.intCast_mul, Rat.intCast_mul, ← y1]
        grind
      · rw [Int.natAbs_mul]
        exact Nat.lt_of_lt_of_le (pw2 hM y2) (Nat.pow_le_pow_right (by decide) (by omega))
theorem one_cd {p : List Rat} {Q G z : Int} {B k j : Nat} {x d : Rat} {y : Int} (q0 : 0 < Q) (hq : Q.natAbs < 2 ^ k) (hp : ∀ j, Iz k Q (gt p j)) (hj : j < p.length) (g0 : 0 < G) (hG : G.natAbs < 2 ^ B) (e : x * ((G * Q : Int) : Rat) = (z : Rat)) (hz : z.natAbs < 2 ^ (B + k + 4)) (hd : d = (y : Rat)) (hy : y.natAbs ≤ 1) : CdP (k + B + B + 5) (p.set j (x + d)) := by
  have g2 : G.natAbs < 2 ^ (B + B + 1) := Nat.lt_of_lt_of_le hG (Nat.pow_le_pow_right (by decide) (by omega))
  refine set_cd (M := G) (Z := z + y * (G * Q)) q0 hq hp hj g0 g2 ?_ ?_
  · rw [Rat.intCast_add, ← e, Rat.intCast_mul y, ← hd]
    generalize ((G * Q : Int) : Rat) = Y
    grind
  · have h1 := pw2 hG hq
    rw [← Int.natAbs_mul] at h1
    have h2 : (y * (G * Q)).natAbs ≤ (G * Q).natAbs := by
      rw [Int.natAbs_mul]
      exact Nat.le_trans (Nat.mul_le_mul_right _ hy) (by rw [Nat.one_mul]; exact Nat.le_refl _)
    have h3 : 2 ^ (B + k) ≤ 2 ^ (B + k + 4) := Nat.pow_le_pow_right (by decide) (by omega)
    have h4 := Int.natAbs_add_le z (y * (G * Q))
    have h5 := pw_add hz (Nat.lt_of_lt_of_le h1 h3)
    have h6 : 2 ^ (B + k + 4 + 1) ≤ 2 ^ (k + B + B + 5) := Nat.pow_le_pow_right (by decide) (by omega)
    omega
theorem two_cd {p : List Rat} {Q G1 G2 z1 z2 : Int} {B k j : Nat} {x y : Rat} (q0 : 0 < Q) (hq : Q.natAbs < 2 ^ k) (hp : ∀ j, Iz k Q (gt p j)) (hj : j < p.length) (g1 : 0 < G1) (hG1 : G1.natAbs < 2 ^ B) (g2 : 0 < G2) (hG2 : G2.natAbs < 2 ^ B) (e1 : x * ((G1 * Q : Int) : Rat) = (z1 : Rat)) (h1 : z1.natAbs < 2 ^ (B + k + 4)) (e2 : y * ((G2 * Q : Int) : Rat) = (z2 : Rat)) (h2 : z2.natAbs < 2 ^ (B + k + 4)) : CdP (k + B + B + 5) (p.set j (1 / 2 * (x + y))) := by
  refine set_cd (M := 2 * (G1 * G2)) (Z := z1 * G2 + z2 * G1) q0 hq hp hj (Int.mul_pos (by decide) (Int.mul_pos g1 g2)) ?_ ?_ ?_
  · have := pw2 hG1 hG2
    rw [← Int.natAbs_mul] at this
    rw [Int.natAbs_mul, Nat.pow_succ, show (2 : Int).natAbs = 2 from rfl]
    omega
  · rw [Rat.intCast_add, Rat.intCast_mul z1, Rat.intCast_mul z2, ← e1, ← e2]
    simp only [Rat.intCast_mul]
    have : ((2 : Int) : Rat) = 2 := rfl
    rw [this]
    grind
  · have k1 := pw2 h1 hG2
    have k2 := pw2 h2 hG1
    rw [← Int.natAbs_mul] at k1 k2
    have h4 := Int.natAbs_add_le (z1 * G2) (z2 * G1)
    have h5 := pw_add k1 k2
    have h6 : 2 ^ (B + k + 4 + B + 1) ≤ 2 ^ (k + B + B + 5) := Nat.pow_le_pow_right (by decide) (by omega)
    omega
theorem btw_cd {S : List Sm} {k w B : Nat} {p : List Rat} {j : Nat} (hp : CdP k p) (hl : p.length = w) (hw : w ≤ 14) (hj : j < w) (hf : ∀ s ∈ S, s.f.length = w) (hS : ∀ s ∈ S, CdS B s) : CdP (k + B + B + 5) (p.set j (betweenR S j p)) := by
  obtain ⟨Q, q0, q1, p1⟩ := hp.ex
  obtain ⟨h1, h2⟩ := btw_all (S := S) (k := j) (p := p)
  have bz : ∀ s ∈ S, gt s.f j ≠ 0 → ∃ G z : Int, 0 < G ∧ G.natAbs < 2 ^ B ∧ bndR s j p * ((G * Q : Int) : Rat) = (z : Rat) ∧ z.natAbs < 2 ^ (B + k + 4) := fun s hs hz => by
    obtain ⟨L, l0, l1, c1, f1, m1⟩ := (hS s hs).ex
    exact bnd_iz l0 c1 f1 p1 q0 q1 (by rw [hf s hs]; exact hw) hz
  unfold betweenR
  generalize S.foldl (btwS j p) (none, none) = a at h1 h2
  obtain ⟨lo, hi⟩ := a
  have hj' : j < p.length := by omega
  cases lo with
  | none =>
    cases hi with
    | none =>
      refine set_cd (M := 1) (Z := 0) q0 q1 p1 hj' (by decide) (Nat.one_lt_two_pow (by omega)) ?_ (Nat.two_pow_pos _)
      show (0 : Rat) * _ = ((0 : Int) : Rat)
      rw [Rat.zero_mul]
      rfl
    | some y =>
      obtain ⟨⟨s, hs, hn, rfl⟩, _⟩ := h2
      obtain ⟨G, z, g0, g1, e, hz⟩ := bz s hs (by grind)
      have := one_cd (d := -1) (y := -1) q0 q1 p1 hj' g0 g1 e hz rfl (by decide)
      rw [show bndR s j p + -1 = bndR s j p - 1 by generalize bndR s j p = Z; grind] at this
      exact this
  | some x =>
    obtain ⟨⟨s, hs, hn, rfl⟩, _⟩ := h1
    obtain ⟨G, z, g0, g1, e, hz⟩ := bz s hs (by grind)
    cases hi with
    | none => exact one_cd (d := 1) (y := 1) q0 q1 p1 hj' g0 g1 e hz rfl (by decide)
    | some y =>
      obtain ⟨⟨s2, hs2, hn2, rfl⟩, _⟩ := h2
      obtain ⟨G2, z2, g2, g3, e2, hz2⟩ := bz s2 hs2 (by grind)
      exact two_cd q0 q1 p1 hj' g0 g1 g2 g3 e hz e2 hz2
def tt (b : Nat) : Nat → Nat
  | 0 => 0
  | i + 1 => tt b i + bt b i + bt b i + 5
theorem tt_le {b n m : Nat} (h : n ≤ m) : tt b n ≤ tt b m := by
  induction m with
  | zero => rw [show n = 0 by omega]; exact Nat.le_refl _
  | succ m ih =>
    by_cases e : n = m + 1
    · rw [e]; exact Nat.le_refl _
    · have := ih (by omega)
      show _ ≤ tt b m + bt b m + bt b m + 5
      omega
def pk (b : Nat) : Nat → Nat → Nat
  | _, 0 => 0
  | i, l + 1 => pk b (i + 1) l + bt b i + bt b i + 5
theorem pk_tt {b : Nat} : ∀ (l i : Nat), pk b i l + tt b i = tt b (i + l)
  | 0, i => by show 0 + tt b i = tt b i; omega
  | l + 1, i => by
    have := pk_tt (b := b) l (i + 1)
    rw [show i + (l + 1) = i + 1 + l by omega, ← this]
    show pk b (i + 1) l + bt b i + bt b i + 5 + tt b i = pk b (i + 1) l + (tt b i + bt b i + bt b i + 5)
    omega
theorem piv_cd {w b : Nat} : ∀ {q : List (Nat × Sm)} {p : List Rat} {k : Nat} (i0 : Nat), CdP k p → p.length = w → w ≤ 14 → (∀ a ∈ q, a.2.f.length = w ∧ a.1 < w ∧ gt a.2.f a.1 ≠ 0) → (∀ (i : Nat) a, q[i]? = some a → CdS (bt b (i0 + i)) a.2) → CdP (k + pk b i0 q.length) (pivR q p)
  | [], p, k, i0, h, _, _, _, _ => h
  | a :: q, p, k, i0, h, hp, hw, ha, hc => by
    obtain ⟨l1, l2, l3⟩ := ha a (.head _)
    have l4 : CdS (bt b i0) a.2 := hc 0 a rfl
    have ih := piv_cd (q := q) (i0 + 1) h hp hw (fun c hc => ha c (.tail _ hc)) fun i c hi => by
      have := hc (i + 1) c hi
      rw [show i0 + (i + 1) = i0 + 1 + i by omega] at this
      exact this
    obtain ⟨Q, q0, q1, p1⟩ := ih.ex
    obtain ⟨L, m0, m1, c1, f1, _⟩ := l4.ex
    obtain ⟨G, z, g0, g1, e, hz⟩ := bnd_iz (j := a.1) m0 c1 f1 p1 q0 q1 (by rw [l1]; exact hw) l3
    have hj : a.1 < (pivR q p).length := by rw [piv_len, hp]; exact l2
    have := one_cd (d := 0) (y := 0) q0 q1 p1 hj g0 g1 e hz rfl (by decide)
    rw [show bndR a.2 a.1 (pivR q p) + 0 = pivV a (pivR q p) by show bndR a.2 a.1 (pivR q p) + 0 = bndR a.2 a.1 (pivR q p); generalize bndR a.2 a.1 (pivR q p) = Z; grind] at this
    refine this.mono ?_
    show k + pk b (i0 + 1) q.length + bt b i0 + bt b i0 + 5 ≤ k + (pk b (i0 + 1) q.length + bt b i0 + bt b i0 + 5)
    omega
def kb (b j : Nat) : Nat → Nat → Nat
  | 0, _ => 1
  | l + 1, t => kb b j l (t + 1) + bt b (j + t) + bt b (j + t) + 5
theorem kb_tt {b j : Nat} : ∀ (l t : Nat), kb b j l t + tt b (j + t) = 1 + tt b (j + t + l)
  | 0, t => rfl
  | l + 1, t => by
    have := kb_tt (b := b) (j := j) l (t + 1)
    rw [show j + t + (l + 1) = j + (t + 1) + l by omega, ← this]
    show kb b j l (t + 1) + bt b (j + t) + bt b (j + t) + 5 + tt b (j + t) = kb b j l (t + 1) + (tt b (j + t) + bt b (j + t) + bt b (j + t) + 5)
    omega
theorem back_len {st : List (Nat × List Sm)} {p : List Rat} : (backR st p).length = p.length := by
  induction st with
  | nil => rfl
  | cons a q ih =>
    show ((backR q p).set _ _).length = _
    rw [List.length_set, ih]
theorem back_cd {R : List Rw} {w b : Nat} {piv : List (Nat × Sm)} {S : List Sm} {g : Nat → Sm} (h : EI R w piv [] S g) (hS : ∀ s ∈ S, CdS (bt b piv.length) s) (hw : w ≤ 14) {sp : List Nat} (hs : ∀ k ∈ sp, k < w) : ∀ (r : List Nat) (t : Nat), sp.drop t = r → CdP (kb b piv.length r.length t) (backR (stg r t (stT sp S t)).1 (List.replicate w 0))
  | [], t, _ => CdP.zero
  | k :: r, t, hd => by
    obtain ⟨e1, e2, e3⟩ := drop_get hd
    have e4 : stT sp S (t + 1) = removedR (stT sp S t) k t := by show removedR (stT sp S t) (sp.getD t 0) t = _; rw [e1]
    have ih := back_cd h hS hw hs r (t + 1) e2
    rw [e4] at ih
    exact btw_cd ih (by show (backR _ _).length = w; rw [back_len, List.length_replicate]) hw (hs k e3) (fun s hs => (stT_gs h sp t s hs).1.cb.fl) (stT_cd h hS sp t)
theorem stg_list {S : List Sm} {sp : List Nat} : ∀ (r : List Nat) (t : Nat), sp.drop t = r → (stg r t (stT sp S t)).1 = (List.range r.length).map fun i => (sp.getD (t + i) 0, stT sp S (t + i))
  | [], t, _ => rfl
  | k :: r, t, hd => by
    obtain ⟨e1, e2, e3⟩ := drop_get hd
    have e4 : stT sp S (t + 1) = removedR (stT sp S t) k t := by show removedR (stT sp S t) (sp.getD t 0) t = _; rw [e1]
    show (k, stT sp S t) :: (stg r (t + 1) (removedR (stT sp S t) k t)).1 = _
    rw [← e4, stg_list r (t + 1) e2, List.length_cons, List.range_succ_eq_map, List.map_cons, List.map_map]
    rw [show t + 0 = t from rfl, e1]
    congr 1
    refine List.map_congr_left fun i _ => ?_
    show (sp.getD (t + 1 + i) 0, stT sp S (t + 1 + i)) = (sp.getD (t + (i + 1)) 0, stT sp S (t + (i + 1)))
    rw [show t + 1 + i = t + (i + 1) by omega]
theorem back_step {S : List Sm} {sp : List Nat} {t : Nat} {p : List Rat} (ht : t < sp.length) : backR (stg (sp.drop t) t (stT sp S t)).1 p = (backR (stg (sp.drop (t + 1)) (t + 1) (stT sp S (t + 1))).1 p).set (sp.getD t 0) (betweenR (stT sp S t) (sp.getD t 0) (backR (stg (sp.drop (t + 1)) (t + 1) (stT sp S (t + 1))).1 p)) := by
  have e : sp.drop t = sp.getD t 0 :: sp.drop (t + 1) := by
    rw [List.drop_eq_getElem_cons ht, List.getD_eq_getElem?_getD, List.getElem?_eq_getElem ht]
    rfl
  rw [e]
  rfl
def inU (V : List Nat) (s : Sm) : Bool := s.mem.all fun i => decide (i ∈ V)
theorem inU_iff {V : List Nat} {s : Sm} : inU V s = true ↔ ∀ i ∈ s.mem, i ∈ V := by
  unfold inU
  rw [List.all_eq_true]
  simp
def cntU (S : List Sm) (V : List Nat) : Nat := (S.filter (inU V)).length
theorem sum_le {α : Type} {f g : α → Nat} : ∀ {l : List α}, (∀ a ∈ l, f a ≤ g a) → (l.map f).sum ≤ (l.map g).sum
  | [], _ => Nat.le_refl _
  | a :: l, h => by
    have := sum_le (f := f) (g := g) (l := l) fun c hc => h c (.tail _ hc)
    have := h a (.head _)
    simp only [List.map_cons, List.sum_cons]
    omega
theorem sum_const {α : Type} {c : Nat} : ∀ {l : List α}, (l.map fun _ => c).sum = l.length * c
  | [] => by simp
  | a :: l => by
    rw [List.map_cons, List.sum_cons, sum_const, List.length_cons, Nat.succ_mul]
    omega
theorem sum_if {α : Type} {c : Nat} {t : α → Bool} : ∀ {l : List α}, (l.map fun a => if t a = true then c else 0).sum = (l.filter t).length * c
  | [] => by simp
  | a :: l => by
    rw [List.map_cons, List.sum_cons, sum_if, List.filter_cons]
    split
    · rw [List.length_cons, Nat.succ_mul]
      omega
    · omega
theorem cnt3 {α β : Type} {f : α → β} {a b : β → Bool} {q : α → Bool} : ∀ {l : List α}, (∀ x ∈ l, b (f x) = true → q x = true) → (((l.map f).filter a).filter b).length ≤ (l.filter q).length
  | [], _ => Nat.le_refl _
  | x :: l, h => by
    have ih := cnt3 (f := f) (a := a) (b := b) (q := q) (l := l) fun y hy => h y (.tail _ hy)
    rw [List.map_cons, List.filter_cons, List.filter_cons]
    by_cases c : a (f x) = true
    · rw [if_pos c, List.filter_cons]
      by_cases e : b (f x) = true
      · rw [if_pos e, if_pos (h x (.head _) e), List.length_cons, List.length_cons]
        omega
      · rw [if_neg e]
        split
        · rw [List.length_cons]
          omega
        · exact ih
    · rw [if_neg c]
      split
      · rw [List.length_cons]
        omega
      · exact ih
theorem pair_in {V : List Nat} {lo hi : Sm} {k n : Nat} (h1 : ∀ i ∈ lo.mem, i < n) (h2 : ∀ i ∈ hi.mem, i < n) (hn : hi.m.length = n) (h : inU V (pairR lo hi k) = true) : inU V lo = true ∧ inU V hi = true := by
  rw [inU_iff] at h
  have e : (pairR lo hi k).mem = un n hi.mem lo.mem := by
    show un (hi.m.map _).length hi.mem lo.mem = _
    rw [List.length_map, hn]
  rw [e] at h
  refine ⟨inU_iff.mpr fun i hi' => h i ?_, inU_iff.mpr fun i hi' => h i ?_⟩
  · exact List.mem_filter.mpr ⟨List.mem_range.mpr (h1 i hi'), by simp [hi']⟩
  · exact List.mem_filter.mpr ⟨List.mem_range.mpr (h2 i hi'), by simp [hi']⟩
theorem rem_cnt {S : List Sm} {k d n : Nat} {V : List Nat} (h : ∀ s ∈ S, (∀ i ∈ s.mem, i < n) ∧ s.m.length = n) : ∃ z p q : Nat, z + p + q ≤ cntU S V ∧ cntU (removedR S k d) V ≤ z + p * q := by
  refine ⟨((zers S k).filter (inU V)).length, ((negs S k).filter (inU V)).length, ((poss S k).filter (inU V)).length, ?_, ?_⟩
  · unfold cntU zers negs poss
    clear h
    induction S with
    | nil => exact Nat.le_refl _
    | cons s S ih =>
      by_cases v : inU V s = true
      · rw [List.filter_cons (x := s) (p := inU V), if_pos v]
        rcases Std.lt_trichotomy (gt s.f k) 0 with c | c | c
        · have c1 : ¬ gt s.f k = 0 := by grind
          have c2 : ¬ 0 < gt s.f k := by grind
          simp only [List.filter_cons, c1, c2, c, v, decide_true, decide_false, if_true, List.length_cons] at ih ⊢
          simp at ih ⊢
          omega
        · have c1 : ¬ gt s.f k < 0 := by grind
          have c2 : ¬ 0 < gt s.f k := by grind
          simp only [List.filter_cons, c1, c2, c, v, decide_true, decide_false, if_true, List.length_cons] at ih ⊢
          simp at ih ⊢
          omega
        · have c1 : ¬ gt s.f k = 0 := by grind
          have c2 : ¬ gt s.f k < 0 := by grind
          simp only [List.filter_cons, c1, c2, c, v, decide_true, decide_false, if_true, List.length_cons] at ih ⊢
          simp at ih ⊢
          omega
      · rw [List.filter_cons (x := s) (p := inU V), if_neg v]
        have one : ∀ t : Sm → Bool, ((s :: S).filter t).filter (inU V) = (S.filter t).filter (inU V) := fun t => by
          rw [List.filter_cons]
          split
          · rw [List.filter_cons, if_neg v]
          · rfl
        rw [one, one, one]
        exact ih
  · unfold cntU removedR
    rw [List.filter_append, List.length_append]
    refine Nat.add_le_add_left ?_ _
    rw [List.filter_flatMap, List.length_flatMap]
    refine Nat.le_trans (sum_le (g := fun lo => if inU V lo = true then ((poss S k).filter (inU V)).length else 0) fun lo hlo => ?_) ?_
    · have hl := h lo (List.mem_filter.mp hlo).1
      show ((rowR lo (poss S k) k d).filter (inU V)).length ≤ _
      unfold rowR
      have key : ∀ hi ∈ poss S k, inU V (pairR lo hi k) = true → inU V lo = true ∧ inU V hi = true := fun hi hhi v => by
        have hh := h hi (List.mem_filter.mp hhi).1
        exact pair_in hl.1 hh.1 hh.2 v
      split
      · exact cnt3 fun hi hhi v => (key hi hhi v).2
      · rename_i v
        refine Nat.le_trans (cnt3 (q := fun _ => false) fun hi hhi u => absurd (key hi hhi u).1 v) ?_
        simp
    · rw [sum_if]
      exact Nat.le_refl _
theorem sq4 {z m C : Nat} (h : z + m ≤ C) : 4 * z + m * m ≤ 4 * C ∨ 4 * z + m * m ≤ C * C := by
  by_cases c : m ≤ 4
  · have := Nat.mul_le_mul_right m c
    exact .inl (by omega)
  · refine .inr ?_
    have h1 := Nat.mul_le_mul h h
    have h2 := Nat.mul_le_mul_left z (show 4 ≤ m by omega)
    have e : (z + m) * (z + m) = z * z + z * m + m * z + m * m := by
      rw [Nat.add_mul, Nat.mul_add, Nat.mul_add]
      omega
    have e2 : m * z = z * m := Nat.mul_comm _ _
    omega
theorem pq4 {p q : Nat} : 4 * (p * q) ≤ (p + q) * (p + q) := by
  have e : (p + q) * (p + q) = p * p + p * q + q * p + q * q := by
    rw [Nat.add_mul, Nat.mul_add, Nat.mul_add]
    omega
  have e2 : q * p = p * q := Nat.mul_comm _ _
  rcases Nat.le_total p q with h | h
  · obtain ⟨d, rfl⟩ := Nat.le.dest h
    have : p * (p + d) = p * p + p * d := Nat.mul_add _ _ _
    have : (p + d) * (p + d) = p * p + p * d + d * p + d * d := by
      rw [Nat.add_mul, Nat.mul_add, Nat.mul_add]
      omega
    have : d * p = p * d := Nat.mul_comm _ _
    omega
  · obtain ⟨d, rfl⟩ := Nat.le.dest h
    have : (q + d) * q = q * q + d * q := Nat.add_mul _ _ _
    have : (q + d) * (q + d) = q * q + q * d + d * q + d * d := by
      rw [Nat.add_mul, Nat.mul_add, Nat.mul_add]
      omega
    have : d * q = q * d := Nat.mul_comm _ _
    omega
theorem sum_add {α : Type} {f g : α → Nat} : ∀ {l : List α}, (l.map fun a => f a + g a).sum = (l.map f).sum + (l.map g).sum
  | [] => rfl
  | a :: l => by
    simp only [List.map_cons, List.sum_cons]
    rw [sum_add]
    omega
theorem not_in {V : List Nat} : ∀ {m : List Nat}, V.Nodup → V.length ≤ (V.filter fun i => !decide (i ∈ m)).length + m.length := by
  intro m hV
  have h1 : V.length = (V.filter fun i => decide (i ∈ m)).length + (V.filter fun i => !decide (i ∈ m)).length := by
    clear hV
    induction V with
    | nil => rfl
    | cons i V ih =>
      rw [List.filter_cons, List.filter_cons]
      by_cases c : i ∈ m
      · simp only [c, decide_true, if_true, Bool.not_true, List.length_cons]
        simp
        omega
      · simp only [c, decide_false, Bool.not_false, if_true, List.length_cons]
        simp
        omega
  have h2 := len_sub (A := V.filter fun i => decide (i ∈ m)) (B := m) (hV.filter _) fun i hi => of_decide_eq_true (List.mem_filter.mp hi).2
  omega
theorem average {t : Nat} {V : List Nat} (hV : V.Nodup) : ∀ {S : List Sm}, (∀ s ∈ S, s.mem.length ≤ t + 1) → (V.length - (t + 1)) * cntU S V ≤ (V.map fun i => cntU S (V.erase i)).sum
  | [], _ => by
    show _ * 0 ≤ _
    omega
  | s :: S, h => by
    have ih := average hV (S := S) fun o ho => h o (.tail _ ho)
    have e : ∀ U, cntU (s :: S) U = (if inU U s = true then 1 else 0) + cntU S U := fun U => by
      unfold cntU
      rw [List.filter_cons]
      split
      · rw [List.length_cons]
        omega
      · omega
    rw [e, Nat.mul_add, show (V.map fun i => cntU (s :: S) (V.erase i)) = V.map fun i => (if inU (V.erase i) s = true then 1 else 0) + cntU S (V.erase i) from List.map_congr_left fun i _ => e _, sum_add]
    refine Nat.add_le_add ?_ ih
    split
    · rename_i v
      have v := inU_iff.mp v
      refine Nat.le_trans ?_ (sum_le (f := fun i => if (!decide (i ∈ s.mem)) = true then 1 else 0) fun i hi => ?_)
      · rw [sum_if]
        have h1 := not_in (m := s.mem) hV
        have h2 := h s (.head _)
        omega
      · by_cases c : i ∈ s.mem
        · rw [if_neg (by simp [c])]
          exact Nat.zero_le _
        · rw [if_pos (by simp [c]), if_pos (inU_iff.mpr fun k hk => (List.mem_erase_of_ne fun z : k = i => c (by rw [← z]; exact hk)).mpr (v k hk))]
          exact Nat.le_refl _
    · omega
def Bd (S : List Sm) (u C : Nat) : Prop := ∀ V : List Nat, V.Nodup → V.length ≤ u → cntU S V ≤ C
theorem Bd.rem {S : List Sm} {k d n u C D : Nat} (h : ∀ s ∈ S, (∀ i ∈ s.mem, i < n) ∧ s.m.length = n) (b : Bd S u C) (h1 : C ≤ D) (h2 : C * C ≤ 4 * D + 3) : Bd (removedR S k d) u D := fun V hV hl => by
  obtain ⟨z, p, q, e1, e2⟩ := rem_cnt (k := k) (d := d) (V := V) h
  have e3 := b V hV hl
  have e4 := pq4 (p := p) (q := q)
  rcases sq4 (z := z) (m := p + q) (C := C) (by omega) with e | e <;> omega
theorem Bd.more {S : List Sm} {t u C D : Nat} (h : ∀ s ∈ S, s.mem.length ≤ t + 1) (b : Bd S u C) (h0 : t < u) (h1 : C ≤ D) (h2 : (u + 1) * C < (u - t) * (D + 1)) : Bd S (u + 1) D := fun V hV hl => by
  by_cases c : V.length ≤ u
  · exact Nat.le_trans (b V hV c) h1
  · have e : V.length = u + 1 := by omega
    have a := average hV h
    have s := sum_le (f := fun i => cntU S (V.erase i)) (g := fun _ => C) (l := V) fun i hi => b _ (hV.erase i) (by rw [List.length_erase_of_mem hi]; omega)
    rw [sum_const, e] at s
    rw [e, show u + 1 - (t + 1) = u - t by omega] at a
    have f : (u - t) * cntU S V < (u - t) * (D + 1) := by omega
    have := Nat.lt_of_mul_lt_mul_left f
    omega
theorem bd_base {R : List Rw} {w : Nat} {piv : List (Nat × Sm)} {S : List Sm} {g : Nat → Sm} (h : EI R w piv [] S g) (u : Nat) : Bd S u u := fun V hV hl => by
  refine Nat.le_trans ?_ hl
  unfold cntU
  rw [h.se, List.filter_map, List.length_map]
  refine len_sub (us_nd.filter _) fun i hi => ?_
  obtain ⟨h1, h2⟩ := List.mem_filter.mp hi
  have h2 : inU V (g i) = true := h2
  refine inU_iff.mp h2 i ?_
  rw [(h.hb i h1).2.1]
  exact .head _
theorem stT_nm {R : List Rw} {w : Nat} {piv : List (Nat × Sm)} {S : List Sm} {g : Nat → Sm} (h : EI R w piv [] S g) (sp : List Nat) (t : Nat) : (∀ s ∈ stT sp S t, (∀ i ∈ s.mem, i < R.length) ∧ s.m.length = R.length) ∧ ∀ s ∈ stT sp S t, s.mem.length ≤ t + 1 := by
  refine ⟨fun s hs => ?_, fun s hs => (stT_gs h sp t s hs).2⟩
  have G := (stT_gs h sp t s hs).1
  refine ⟨fun i hi => ?_, G.cb.ml⟩
  rw [G.mm] at hi
  exact List.mem_range.mp (List.mem_filter.mp hi).1
theorem few {R : List Rw} {w : Nat} {piv : List (Nat × Sm)} {S : List Sm} {g : Nat → Sm} (h : EI R w piv [] S g) (hu : (US R).length ≤ 8) (sp : List Nat) {t : Nat} (ht : t ≤ 5) : (stT sp S t).length ≤ 2520000 := by
  have N := fun t => (stT_nm h sp t).1
  have M := fun t => (stT_nm h sp t).2
  have b1 : Bd (stT sp S 1) 5 6 := (bd_base h 5).rem (N 0) (by decide) (by decide)
  have b2 : Bd (stT sp S 2) 5 9 := b1.rem (N 1) (by decide) (by decide)
  have b3 : Bd (stT sp S 3) 5 20 := b2.rem (N 2) (by decide) (by decide)
  have b4 : Bd (stT sp S 4) 5 100 := b3.rem (N 3) (by decide) (by decide)
  have b46 : Bd (stT sp S 4) 6 600 := b4.more (t := 4) (M 4) (by decide) (by decide) (by decide)
  have b56 : Bd (stT sp S 5) 6 90000 := b46.rem (N 4) (by decide) (by decide)
  have b57 : Bd (stT sp S 5) 7 630000 := b56.more (t := 5) (M 5) (by decide) (by decide) (by decide)
  have b58 : Bd (stT sp S 5) 8 2520000 := b57.more (t := 5) (M 5) (by decide) (by decide) (by decide)
  have b47 : Bd (stT sp S 4) 7 2100 := b46.more (t := 4) (M 4) (by decide) (by decide) (by decide)
  have b48 : Bd (stT sp S 4) 8 5600 := b47.more (t := 4) (M 4) (by decide) (by decide) (by decide)
  have c1 : Bd (stT sp S 1) 8 16 := (bd_base h 8).rem (N 0) (by decide) (by decide)
  have c2 : Bd (stT sp S 2) 8 64 := c1.rem (N 1) (by decide) (by decide)
  have c3 : Bd (stT sp S 3) 8 1024 := c2.rem (N 2) (by decide) (by decide)
  have all : cntU (stT sp S t) (US R) = (stT sp S t).length := by
    unfold cntU
    rw [List.filter_eq_self.mpr fun s hs => inU_iff.mpr fun i hi => ?_]
    rw [(stT_gs h sp t s hs).1.mm] at hi
    exact (of_decide_eq_true (List.mem_filter.mp hi).2).1
  rw [← all]
  match t, ht with
  | 0, _ => exact Nat.le_trans (bd_base h 8 _ us_nd hu) (by decide)
  | 1, _ => exact Nat.le_trans (c1 _ us_nd hu) (by decide)
  | 2, _ => exact Nat.le_trans (c2 _ us_nd hu) (by decide)
  | 3, _ => exact Nat.le_trans (c3 _ us_nd hu) (by decide)
  | 4, _ => exact Nat.le_trans (b48 _ us_nd hu) (by decide)
  | 5, _ => exact b58 _ us_nd hu
end Fs
set_option Elab.async false
set_option linter.all false
set_option maxRecDepth 100000
set_option maxHeartbeats 2000000
namespace PySem.W
open PySem PySem.Calls PyProof.Rows Builtin
section
variable {prog : Program} {w : World} {A : Around} {E : Value → Shared → Prop} {s : Shared} {K : Frag} {x C C' L f f' : Addr} {h₀ : Heap} {m : Str → Option Value} {ox : Obj} {od : Option Obj} {b tb : Value}
end
end PySem.W
namespace VL
open PySem PySem.Spec PyProof.Rows L2
def XW (K : PySem.W.Frag) (W : Wd) (PX : D → Prop) : WX := fun cls d _ H' => ∃ C fs ds us dd, cls = .ref C ∧ d = some dd ∧ PX (.ins C fs ds) ∧ Ext W W.Hf H' ∧ W.I H' ∧ Reps K W.Mf H' ds us ∧ us.length = fs.length ∧ H' dd = some (.xd (fs.zip us))
def XC (K : PySem.W.Frag) (W : Wd) (M : Addr → Prop) (H : Hp) (PX : D → Prop) : XK := fun cls d H' => ∃ C fs ds us dd, cls = .ref C ∧ d = some dd ∧ PX (.ins C fs ds) ∧ Ext W H H' ∧ W.I H' ∧ Reps K M H' ds us ∧ us.length = fs.length ∧ H' dd = some (.xd (fs.zip us))
theorem takes0 {X : Cx} {W : Wd} : Takes X (XW X.K W fun _ => False) := (takes_none5 (X := X)).imp fun _ _ _ _ ⟨_, _, _, _, _, _, _, z, _⟩ => z.elim
def EX (K : PySem.W.Frag) (W : Wd) (PX : D → Prop) : XK := fun cls d H' => XW K W PX cls d [] H'
theorem passesX {X : Cx} {W : Wd} {PX : D → Prop} (tk : Takes X (XW X.K W PX)) : Passes (L2.CX X.prog X.w) X (EX X.K W PX) := passes_call tk fun _ _ _ _ h => h
section
variable {K : PySem.W.Frag} {W : Wd} {M0 : Addr → Prop} {H0 H H' : Hp} {oa : Nat → AS} {σ : L2.St} {ds : List Sl} {PX : D → Prop}
theorem Sat.xc (S : Sat K W M0 H0 oa H σ ds) {cls : Value} {d : Option Addr} (h : XC K W (Mx M0 oa) H PX cls d H') : EX K W PX cls d H' := by
  obtain ⟨C, fs, xs, us, dd, e1, e2, hp, e, i, r, l, hd⟩ := h
  exact ⟨C, fs, xs, us, dd, e1, e2, hp, S.fh.trans (S.ext.trans e), i, r.car fun b o n q => ⟨fun z => n (.inl (S.fm b z)), q⟩, l, hd⟩
end
def Wd.fx (W : Wd) (M : Addr → Prop) (H : Hp) : Wd := { A := W.A, I := W.I, live := W.live, nx := W.nx, B := W.B, liveB := W.liveB, C := W.C, cb := W.cb, stay := W.stay, Mf := M, Hf := H }
section
variable {X : Cx} {W : Wd} {e o : Expr} {es : List Expr} {pos p apos : Pos} {x : Str} {k : Nat} {f : Addr} {fd : FuncData} {ps : List Str} {dvs : List V} {dds : List D} {PX : D → Prop}
end
section
variable {K : PySem.W.Frag} {M : Addr → Prop} {H : Hp}
theorem lkp_fs {f : Str} : ∀ {ks : List Str} {ds : List D} {us : List V}, Reps K M H ds us → us.length = ks.length → (∀ d, lkp ks ds f = some d → ∃ v, (ks.zip us).lookup f = some v ∧ Rep K M H d v) ∧ (lkp ks ds f = none → (ks.zip us).lookup f = none)
  | [], ds, us, r, l => ⟨fun d h => (by cases ds <;> cases h), fun _ => rfl⟩
  | k :: ks, [], us, r, l => by rw [r.inv0] at l; cases l
  | k :: ks, d :: ds, us, r, l => by
    obtain ⟨v, vs, rfl, h1, h2⟩ := r.inv
    obtain ⟨a1, a2⟩ := lkp_fs (f := f) h2 (by simpa using l)
    have e : ((k :: ks).zip (v :: vs)).lookup f = if f = k then some v else (ks.zip vs).lookup f := L2.lookup_put k f v _
    have e2 : lkp (k :: ks) (d :: ds) f = if k = f then some d else lkp ks ds f := rfl
    rw [e, e2]
    by_cases q : k = f
    · rw [if_pos q, if_pos q.symm]
      exact ⟨fun z hz => by cases hz; exact ⟨v, rfl, h1⟩, fun z => by cases z⟩
    · rw [if_neg q, if_neg (fun z => q z.symm)]
      exact ⟨a1, a2⟩
theorem putF_fs {f : Str} {d : D} {v : V} (rv : Rep K M H d v) : ∀ {ks : List Str} {ds : List D} {us : List V}, Reps K M H ds us → us.length = ks.length → f ∉ ks → putF f v (ks.zip us) = (ks ++ [f]).zip (us ++ [v]) ∧ Reps K M H (ds ++ [d]) (us ++ [v])
  | [], ds, us, r, l, n => by
    have : us = [] := by cases us with
      | nil => rfl
      | cons a b => cases l
    subst this
    exact ⟨rfl, r.app (reps_cons rv reps_nil)⟩
  | k :: ks, [], us, r, l, n => by rw [r.inv0] at l; cases l
  | k :: ks, d' :: ds, us, r, l, n => by
    obtain ⟨u, vs, rfl, h1, h2⟩ := r.inv
    have nk : ¬ k = f := fun z => n (by rw [z]; exact List.mem_cons_self)
    obtain ⟨a1, a2⟩ := putF_fs rv h2 (by simpa using l) (fun z => n (List.mem_cons_of_mem _ z))
    refine ⟨?_, reps_cons h1 a2⟩
    show (if k = f then _ else (k, u) :: putF f v (ks.zip vs)) = (k, u) :: (ks ++ [f]).zip (vs ++ [v])
    rw [if_neg nk, a1]
end
section
variable {X : Cx} {W : Wd} {e o : Expr} {es : List Expr} {pos pos' p apos : Pos}
def fldD (f : Str) (cs : List Addr) : D → (D → Prop) → Prop
  | .ins C ks xs, P => C ∈ cs ∧ ∃ d, lkp ks xs f = some d ∧ P d
  | _, _ => False
theorem ve_fld (cs : List Addr) {f : Str} {w : WE} (hc : ∀ C ∈ cs, Cls X.K C ∧ NoAttr X.K C f) (he : VE X W e w) (hb : attributeBase e f X.env (eval e X.env) = eval e X.env := by rfl) : VE X W (.Attribute e f pos) (fun ds P => w ds fun x => fldD f cs x P) := by
  refine pe_imp (pe_fld he hb) fun σ H Q h => ?_
  obtain ⟨M0, H0, oa, ds, P, S, hw, k⟩ := h
  refine ⟨M0, H0, oa, ds, _, S, hw, fun x v H1 hx e1 i1 r1 => ?_⟩
  cases x <;> first | exact hx.elim | skip
  rename_i C ks xs
  obtain ⟨hC, d, hl, hp⟩ := hx
  obtain ⟨a, dx, us, rfl, nm, l, t, r⟩ := r1.ins
  obtain ⟨z, hz, rz⟩ := (lkp_fs (f := f) r l).1 d hl
  exact ⟨a, C, dx, _, z, rfl, t, (hc C hC).1, (hc C hC).2, hz, k d z H1 hp e1 i1 rz⟩
def insD (cs : List Addr) (m : Str) : D → (D → Prop) → Prop
  | .ins C ks xs, P => C ∈ cs ∧ lkp ks xs m = none ∧ P (.ins C ks xs)
  | _, _ => False
theorem insD_of {cs : List Addr} {m : Str} {x : D} {P : D → Prop} (h : insD cs m x P) : ∃ C ks xs, x = .ins C ks xs ∧ C ∈ cs ∧ lkp ks xs m = none ∧ P (.ins C ks xs) := by
  cases x <;> first | exact h.elim | exact ⟨_, _, _, rfl, h.1, h.2.1, h.2.2⟩
section
variable {CX : CXT} {k : Nat} {f : Addr} {fd : FuncData} {ps : List Str} {sp : Sp} {dvs : List V} {dds : List D} {ds0 : List Value} {E : XK} {m : Str} {ta : TE} {t : TA} {cs : List Addr}
def tMethC (cs : List Addr) (m : Str) (sp : Sp) (dvs : List V) (E : XK) (ta : TE) (t : TA) : TE := fun σ H Q => ta σ H fun x H1 => ∃ a C dx fs, x = .ref a ∧ C ∈ cs ∧ H1 a = some (.ins C dx fs) ∧ fs.lookup m = none ∧ t σ H1 fun vs H2 => sp (x :: (vs ++ dvs)) H2 Q E
theorem pe_methC {pl : Sem Bool} (he : PE X o ta) (hc : ∀ C ∈ cs, Cls X.K C ∧ Meth X.K C m f) (F : FnOk X.prog X.w X.K X.mg X.base CX k f fd ps sp) (hr : Room k X.A) (hb : Binds X.K fd ps ds0) (hd : Vals dvs ds0) (hx : Passes CX X E) (ha : PA X (e :: es) t)
    (hst : starEach (e :: es) X.env = (false, eval e X.env) :: starEach es X.env := by rfl) (hpl : (backTo pos (starEach es X.env)).any (·.1) = false := by rfl)
    (ht : eval (.Call (.Attribute o m apos) (e :: es) [] pos) X.env = (do
      let ov ← eval o X.env
      standAt apos.atName
      let (f, first) ← holding [ov] (getMethod ov m pl)
      callWith pos f first (backTo pos (starEach (e :: es) X.env)) (backToKw pos (keywordEach [] X.env))) := by rfl) :
    PE X (.Call (.Attribute o m apos) (e :: es) [] pos) (tMethC cs m sp dvs E ta t) := by
  refine ⟨fun pins s σ H Q I h => ?_⟩
  refine PySem.W.methodCall_KW (pl := pl) (thn (he.run pins s σ H _ I h) fun u s1 ⟨x, H1, I1, rx, a, C, dx, fs, ex, hC, ea, l, q⟩ => ?_) ht
  subst ex
  obtain rfl : u = Value.ref a := rx
  obtain ⟨c, hm⟩ := hc C hC
  refine getmeth_ok I1 ea c hm l ?_
  refine PySem.W.callWith_K (first := [.ref a]) (h₀ := X.base) I.ok.mod.kin hm.kp (thn (ha.run pos pins s1 σ H1 _ I1 q) fun us s2 ⟨vs, H2, I2, r, q2⟩ => ⟨I2.kIn, ?_⟩) hst hpl
  exact run_fn (us := .ref a :: us) (vs := .ref a :: vs) F hr hb hd hx I2 (.cons rfl r) q2
end
end
end VL
namespace VL
open PySem PySem.Spec PyProof.Rows L2
def spI (K : PySem.W.Frag) (W : Wd) (C : Addr) (g : List D → (List Str → List D → Prop) → (D → Prop) → Prop) : Sp := fun vs H Q E => ∃ H1 M x dx ds vs' P PX, vs = .ref x :: vs' ∧ H = upd (upd H1 dx (.own x)) x (.ins C dx []) ∧ H1 x = none ∧ H1 dx = none ∧ dx ≠ x ∧
  MOk W M H1 ∧ Reps K M H1 ds vs' ∧ g ds P PX ∧ (∀ ks xs us dx' H', P ks xs → Ext W H1 H' → W.I H' → H' x = some (.ins C dx' (ks.zip us)) → us.length = ks.length → Reps K (fun a => M a ∨ a = x) H' xs us → Q .non H') ∧ ∀ cls d H', XC K W M H1 PX cls d H' → E cls d H'
def miN (x C : Addr) : Sl → (List Str → List D → Prop) → Prop
  | .mi x' C' ks xs, P => x' = x ∧ C' = C ∧ P ks xs
  | _, _ => False
theorem miN_of {x C : Addr} {s : Sl} {P : List Str → List D → Prop} (h : miN x C s P) : ∃ ks xs, s = .mi x C ks xs ∧ P ks xs := by
  cases s <;> first | exact h.elim | (obtain ⟨rfl, rfl, h⟩ := h; exact ⟨_, _, rfl, h⟩)
def startI (x C : Addr) (N : List Str) (ds : List D) : List Sl := .mi x C [] [] :: (ds.map Sl.d ++ List.replicate (N.length - (ds.length + 1)) .un)
def endsI (x C : Addr) (P : List Str → List D → Prop) : EndsD := { nx := fun ds => miN x C (ds.getD 0 .un) P, rt := fun _ => False }
def oaI (x : Addr) : Nat → AS := fun i => if i = 0 then one1 x else no1
theorem oaI_some {x a : Addr} {i : Nat} (h : oaI x i a) : i = 0 ∧ x = a := by
  unfold oaI at h
  by_cases hi : i = 0
  · rw [if_pos hi] at h; exact ⟨hi, (show a = x from h).symm⟩
  · rw [if_neg hi] at h; exact h.elim
theorem sat_init {K : PySem.W.Frag} {W : Wd} {M : Addr → Prop} {H1 : Hp} {N : List Str} {ds : List D} {vs : List V} {x dx C : Addr} (m : MOk W M H1) (r : Reps K M H1 ds vs) (hl : ds.length + 1 ≤ N.length) (nx : H1 x = none) (ndx : H1 dx = none) (hne : dx ≠ x) :
    Sat K (W.fx M H1) M H1 (oaI x) (upd (upd H1 dx (.own x)) x (.ins C dx [])) (L2.start N (.ref x :: vs)) (startI x C N ds) := by
  have f : Full H1 (upd (upd H1 dx (.own x)) x (.ins C dx [])) := fun b o e => by
    rw [upd_ne (ne_of_none e nx), upd_ne (ne_of_none e ndx)]
    exact e
  have cr : Car M (Mx M (oaI x)) H1 (upd (upd H1 dx (.own x)) x (.ins C dx [])) := fun b o n q => by
    refine ⟨fun z => ?_, f b o q⟩
    rcases z with z | ⟨i, z⟩
    · exact n z
    · obtain ⟨_, rfl⟩ := oaI_some z
      rw [nx] at q; cases q
  refine ⟨m.wm, m.live, f.ext, W.keep _ _ m.wi f, fun i a h => ?_, fun i j a h1 h2 => ?_, ?_, fun i hi => ?_, fun i s h => ?_, fun _ z => z, fun _ _ _ z => z, fun a h => W.liveB _ _ m.wi h, m.nb, m.nx⟩
  · obtain ⟨_, rfl⟩ := oaI_some h
    exact ⟨nx, m.fresh nx⟩
  · obtain ⟨h1, _⟩ := oaI_some h1
    obtain ⟨h2, _⟩ := oaI_some h2
    rw [h1, h2]
  · unfold startI L2.start
    simp [r.len]
  · have : i ≠ 0 := fun z => by subst z; simp [startI] at hi
    exact if_neg this
  · cases i with
    | zero =>
      cases h
      refine ⟨dx, [], rfl, rfl, rfl, upd_same, reps_nil⟩
    | succ i =>
      have h : (ds.map Sl.d ++ List.replicate (N.length - (ds.length + 1)) .un)[i]? = some s := h
      by_cases hi : i < ds.length
      · rw [List.getElem?_append_left (by simpa using hi), List.getElem?_map] at h
        cases e : ds[i]? with
        | none => rw [e] at h; cases h
        | some d =>
          rw [e] at h; cases h
          obtain ⟨v, hv, rv⟩ := r.get e
          refine ⟨rfl, v, ?_, rv.car cr⟩
          have hi2 : i < vs.length := (List.getElem?_eq_some_iff.mp hv).1
          show ((some (V.ref x)) :: vs.map some ++ _)[i + 1]? = _
          rw [List.cons_append, List.getElem?_cons_succ, List.getElem?_append_left (by simpa using hi2), List.getElem?_map, hv]
          rfl
      · rw [List.getElem?_append_right (by simpa using hi), List.getElem?_replicate] at h
        split at h
        · cases h; rfl
        · cases h
section
variable {P : Program} {w : World} {K : PySem.W.Frag} {mg : Str → Option Value} {base : Heap} {W : Wd} {x qual : Str} {st : Stmt} {f C : Addr} {fd : FuncData} {N ps : List Str} {k : Nat} {g : List D → (List Str → List D → Prop) → (D → Prop) → Prop}
theorem init_body {H1 : Hp} {M : Addr → Prop} {a dx : Addr} {ds : List D} {vs : List V} {Pd : List Str → List D → Prop} {Q : L2.VK} {wb : WS} (hl : ds.length + 1 ≤ N.length) (nx : H1 a = none) (ndx : H1 dx = none) (hne : dx ≠ a) (m : MOk W M H1) (r : Reps K M H1 ds vs)
    (hw : wb (endsI a C Pd) (startI a C N ds)) (k : ∀ ks xs us dx' H', Pd ks xs → Ext W H1 H' → W.I H' → H' a = some (.ins C dx' (ks.zip us)) → us.length = ks.length → Reps K (fun b => M b ∨ b = a) H' xs us → Q .non H') :
    LS K (W.fx M H1) wb { nx := fun _ H' => Q .non H', rt := Q } (L2.start N (.ref a :: vs)) (upd (upd H1 dx (.own a)) a (.ins C dx [])) := by
  refine ⟨M, H1, _, _, _, sat_init (W := W) m r hl nx ndx hne, hw, fun ds' oa' σ' H' hn S' => ?_, fun d v H' z => z.elim, fun _ _ _ _ z => z.elim, fun _ _ _ _ z => z.elim, fun _ _ _ _ _ _ z => z.elim⟩
  obtain ⟨ks, xs, e, hp⟩ := miN_of hn
  have hget : ds'[0]? = some (.mi a C ks xs) := by
    rw [List.getD_eq_getElem?_getD] at e
    cases q : ds'[0]? with
    | none => rw [q] at e; cases e
    | some s => rw [q] at e; exact congrArg some e
  obtain ⟨dx', us, h1, h2, h3, h4, h5⟩ := S'.slot 0 _ hget
  refine k ks xs us dx' H' hp S'.ext S'.wi h4 h3 (h5.car fun b o n q => ⟨fun z => n ?_, q⟩)
  rcases z with z | z
  · exact .inl z
  · rw [z]; exact .inr ⟨0, by rw [h1]; rfl⟩
theorem vfnI (F : Fun K x qual st f fd) (S : FnScope N ps (defScope st)) (len : ∀ ds P PX, g ds P PX → ds.length + 1 = ps.length)
    (hb : ∃ wb : (D → Prop) → WS, (∀ (PX : D → Prop) (Mf : Addr → Prop) (Hf : Hp) (cdv : Value) (A : Around) (outer : List Env) (s : Shared) (H : Hp) (E : XK), Room k (A.deeper (envOfC qual (defScope st) s.heap.objs.size f cdv)) →
        Takes (cxOf (L2.CX P w) P w K mg base N qual (defScope st) f cdv A outer s H E) (XW K (W.fx Mf Hf) PX) → VSs (cxOf (L2.CX P w) P w K mg base N qual (defScope st) f cdv A outer s H E) (W.fx Mf Hf) (defBody st) (wb PX)) ∧
      ∀ a ds Q PX, g ds Q PX → wb PX (endsI a C Q) (startI a C N ds)) : FnOk P w K mg base (L2.CX P w) (k + 1) f fd ps (spI K W C g) := by
  obtain ⟨wb, h1, h2⟩ := hb
  refine F.okX S (fun vs H Q E h => ?_) (fun cdv A outer s H vs Q E hr h => ?_)
  · obtain ⟨H1, M, a, dx, ds, vs', P, PX, rfl, _, _, _, _, m, r, hg, _⟩ := h
    rw [← len ds P PX hg, List.length_cons, r.len]
  · obtain ⟨H1, M, a, dx, ds, vs', P', PX, rfl, rfl, nx, ndx, hne, m, r, hg, k, kx⟩ := h
    have hl : ds.length + 1 ≤ N.length := by
      have q := congrArg List.length S.pre
      rw [List.length_take] at q
      rw [len ds P' PX hg]
      omega
    exact ⟨LS K (W.fx M H1) (wb PX), h1 PX M H1 cdv A outer s _ E hr ((takes_of (E := E) rfl rfl rfl rfl).imp fun cls d σ H' hx => kx cls d H' hx), init_body hl nx ndx hne m r (h2 a ds P' PX hg) k⟩
end
section
variable {X : Cx} {W : Wd} {e o : Expr} {es : List Expr} {pos pos' p apos : Pos} {x : Str}
def miS : Sl → (Addr → Addr → List Str → List D → Prop) → Prop
  | .mi a C ks xs, P => P a C ks xs
  | _, _ => False
def wFldO (i : Nat) (f : Str) (cs : List Addr) (w : WE) : WS := fun E ds => w ds fun d => miS (ds.getD i .un) fun a C ks xs => C ∈ cs ∧ f ∉ ks ∧ ks.length < 900 ∧ E.nx (ds.set i (.mi a C (ks ++ [f]) (xs ++ [d])))
theorem vs_fldO (i : Nat) (cs : List Addr) {f : Str} {w : WE} (hc : ∀ C ∈ cs, Cls X.K C ∧ NoAttr X.K C f) (he : VE X W e w) (hN : X.N[i]? = some x := by rfl) (hv : Vis X.env.scope x := by first | exact Or.inl rfl | exact Or.inr (Or.inl rfl) | exact Or.inr (Or.inr rfl))
    (hd : (x == ("__debug__" : Str)) = false := by decide) (hcd : (x == ("__classdict__" : Str)) = false := by decide) (hs : swapsWith e (some (.Attribute (.Name x p) f pos')) pos.line X.env = pure false := by rfl) :
    VS X W (.Assign [.Attribute (.Name x p) f pos'] e pos) (wFldO i f cs w) := by
  refine ps_imp (ps_fld (pe_var hN hv hd hcd) he hs) fun D σ H h => ?_
  obtain ⟨M0, H0, oa, ds, E, S, hw, k1, k2, k3, k4⟩ := h
  refine ⟨M0, H0, oa, ds, _, S, hw, fun d v H1 hd e1 i1 r1 => ?_⟩
  have S1 := S.step e1 i1
  obtain ⟨a, C, ks, xs, hg, hC, hf, hk, hn⟩ : ∃ a C ks xs, ds.getD i .un = .mi a C ks xs ∧ C ∈ cs ∧ f ∉ ks ∧ ks.length < 900 ∧ E.nx (ds.set i (.mi a C (ks ++ [f]) (xs ++ [d]))) := by
    cases q : ds.getD i .un with
    | mi a C ks xs => rw [q] at hd; exact ⟨a, C, ks, xs, rfl, hd⟩
    | _ => rw [q] at hd; exact hd.elim
  have hget : ds[i]? = some (.mi a C ks xs) := by
    rw [List.getD_eq_getElem?_getD] at hg
    cases e : ds[i]? with
    | none => rw [e] at hg; cases hg
    | some s => rw [e] at hg; exact congrArg some hg
  obtain ⟨dx, us, o1, o2, o3, o4, o5⟩ := S1.slot i _ hget
  obtain ⟨z1, z2⟩ := putF_fs r1 o5 o3 hf
  refine ⟨.ref a, o2, a, C, dx, _, rfl, o4, (hc C hC).1, (hc C hC).2, by rw [List.length_zip, o3]; omega, k1 _ oa _ _ hn ?_⟩
  refine S1.mutown (List.getElem?_eq_some_iff.mp hget).1 o1 o2 fun c => ⟨dx, us ++ [v], rfl, rfl, by simp [o3], ?_, z2.car c⟩
  rw [upd_same, z1]
section
variable {C f : Addr} {fd : FuncData} {ps : List Str} {k n : Nat} {g : List D → (List Str → List D → Prop) → (D → Prop) → Prop} {PX : D → Prop} {l lk : WL} {dvs : List V} {dds : List D}
def wMake (C : Addr) (g : List D → (List Str → List D → Prop) → (D → Prop) → Prop) (PX : D → Prop) (l : WL) : WE := fun ds P => l ds fun xs => g xs (fun ks ys => P (.ins C ks ys)) PX
theorem make_rep {K : PySem.W.Frag} {M : Addr → Prop} {H : Hp} {a dx : Addr} {ks : List Str} {xs : List D} {us : List V} (nm : ¬ M a) (l : us.length = ks.length) (t : H a = some (.ins C dx (ks.zip us))) (r : Reps K (fun b => M b ∨ b = a) H xs us) : Rep K M H (.ins C ks xs) (.ref a) :=
  rep_ins nm l t (r.car fun b o n q => ⟨fun z => n (.inl z), q⟩)
theorem ve_make (M : Mk X.K C f) (F : FnOk X.prog X.w X.K X.mg X.base (L2.CX X.prog X.w) k f fd ps (spI X.K W C g)) (hr : Room (k + 1) X.A) (hg : Gl X x) (hm : X.mg x = some (.ref C)) (hb : ∃ ds, Vals dvs ds ∧ Binds X.K fd ps ds) (hdd : ∀ M H, Reps X.K M H dds dvs)
    (tk : Takes X (XW X.K W PX)) (ha : VA X W (e :: es) l) (hdb : (x == ("__debug__" : Str)) = false := by decide) (he : starEach (e :: es) X.env = (false, eval e X.env) :: starEach es X.env := by rfl) (hpl : (backTo pos (starEach es X.env)).any (·.1) = false := by rfl) :
    VE X W (.Call (.Name x p) (e :: es) [] pos) (wMake C (fun xs P PX => g (xs ++ dds) P PX) PX l) := by
  obtain ⟨ds0, hd, hb⟩ := hb
  refine pe_imp (pe_make M F hr hg hm hb hd (passesX tk) ha hdb he hpl) fun σ H Q h => ?_
  obtain ⟨M0, H0, oa, ds, P, S, hw, kk⟩ := h
  refine ⟨M0, H0, oa, ds, _, S, hw, fun xs vs H1 hx e1 i1 r1 => fun a dx na ndx hne => ?_⟩
  have S1 := S.step e1 i1
  exact ⟨H1, Mx M0 oa, a, dx, xs ++ dds, vs ++ dvs, _, PX, rfl, rfl, na, ndx, hne, S1.mok, r1.app (hdd _ _), hx, fun ks ys us dx' H' hp e i t l r => ⟨rfl, kk _ _ H' hp (e1.trans e) i (make_rep (S1.mok.fresh na) l t r)⟩, fun cls d H' h => S1.xc h⟩
end
end
end VL
namespace PySem.W
open PySem PySem.Calls PyProof.Rows Builtin
section
variable {prog : Program} {w : World} {A : Around} {E : Value → Shared → Prop} {s : Shared} {K : Frag} {x C L f : Addr} {h₀ : Heap} {m : Str → Option Value} {ox : Obj} {od : Option Obj} {T : String}
end
end PySem.W
namespace PySem.W
open PySem PySem.Calls PyProof.Rows Builtin
section
variable {prog : Program} {w : World} {A : Around} {E : Value → Shared → Prop} {s : Shared} {K : Frag} {x C C' L f f' : Addr} {h₀ : Heap} {m : Str → Option Value} {ox : Obj} {od : Option Obj} {nm : String}
end
end PySem.W
namespace VL
open PySem PySem.Spec PyProof.Rows L2
section
variable {X : Cx} {W : Wd} {a b e : Expr} {es : List Expr} {pos : Pos} {k : Nat} {PX : D → Prop}
end
end VL
namespace VL
open PySem PySem.Spec PyProof.Rows L2
section
variable {X : Cx} {W : Wd} {e : Expr} {kws : List Keyword} {pos p px : Pos}
end
end VL
namespace VL
open PySem PySem.Spec PyProof.Rows L2
end VL
set_option Elab.async false
set_option linter.all false
set_option maxRecDepth 100000
set_option maxHeartbeats 4000000
namespace PySem.W
open PySem PySem.Spec PySem.Calls PyProof.Rows
section
variable {prog : Program} {w : World} {A : Around} {E : Value → Shared → Prop} {s : Shared} {K : Frag} {x C f : Addr} {ox : Obj} {od : Option Obj}
open Builtin in
theorem vs_repr {Q : Value → Shared → Prop} (hu : A.in1.units < cLine) (X : K.In s.heap) (I : InstAt s.heap x ox C od) (hr : findIn K (.ref C) "__repr__" = some (some (.ref f))) (hf : isFn K (.ref f) = true)
    (h : wpAny (model prog w) A.in1 (call (.ref f) [.ref x]) (fun v s' => ∃ y t, v = .str y t ∧ Q v s') E s) : wpAny (model prog w) A (call (.builtin "repr") [.ref x]) Q E s := by
  refine Calls.call_function_entry F.kind_repr F.plain_repr F.entry_repr (F.args_repr1 _) ?_
  unfold Builtin.«repr»
  refine wpAny_bind (m := oneArg "repr" _) (wpAny_pure ?_)
  refine wpAny_bind (m := cRoomFor _ _) (wpAny_cRoomFor hu ?_)
  refine wpAny_bind (m := specialOf _ _) (wpAny_bind (I.type.here ((looks_findIn X hr).here ?_)))
  refine wpAny_bind (m := callSpecialIfBound? (.ref x) (Str.ofString "__repr__") _) (ifBound_K X I hr hf (wpAny_mono h (fun v s' hq => ?_) fun _ _ y => y))
  obtain ⟨y, t, rfl, q⟩ := hq
  refine wpAny_bind (wpAny_isInstance (T := "str") (b := true) (typeIs_str _ _ _) isSubtype_str_str ?_)
  exact wpAny_pure ⟨_, rfl, q⟩
end
end PySem.W
namespace VL
open PySem PySem.Spec PyProof.Rows L2
section
variable {X : Cx} {W : Wd} {e o : Expr} {es : List Expr} {pos p px : Pos} {k : Nat}
end
end VL
set_option Elab.async false
set_option linter.all false
set_option maxRecDepth 100000
set_option maxHeartbeats 4000000
namespace VL
open PySem PySem.Spec PyProof.Rows L2
section
variable {X : Cx} {W : Wd} {e : Expr} {es : List Expr} {pos : Pos}
end
end VL
set_option Elab.async false
set_option linter.all false
set_option maxRecDepth 100000
set_option maxHeartbeats 2000000
namespace VL
open PySem PySem.Spec PyProof.Rows L2
section
variable {X : Cx} {e : Expr} {es : List Expr} {ta : TA} {x : Str} {C : Addr} {p1 p2 pos : Pos}
end
abbrev XF := List (Str × (Str ⊕ Nat))
section
variable {X : Cx} {W : Wd} {e : Expr} {es : List Expr} {l : WL} {x : Str} {C fI : Addr} {k n : Nat} {F : XF} {fd : FuncData} {ps : List Str} {PX : D → Prop} {p pos pos2 : Pos}
end
structure MidE (H1 G : Hp) (a C d : Addr) (fs : List (Str × V)) : Prop where
  ea : G a = some (exo a C (some d))
  ed : G d = some (exd d fs)
  rest : ∀ b, b ≠ a → b ≠ d → G b = H1 b
theorem MidE.first {H1 : Hp} {a C d : Addr} {p : Str × V} (nd : upd H1 a (exo a C none) d = none) (ne : d ≠ a) : H1 d = none ∧ MidE H1 (upd (upd (upd H1 a (exo a C none)) d (exd d [p])) a (exo a C (some d))) a C d [p] := by
  refine ⟨by rw [upd_ne ne] at nd; exact nd, upd_same, by rw [upd_ne ne, upd_same], fun b h1 h2 => ?_⟩
  rw [upd_ne h1, upd_ne h2, upd_ne h1]
theorem MidE.next {H1 G : Hp} {a C d : Addr} {p : Str × V} {fs : List (Str × V)} (m : MidE H1 G a C d fs) (ne : d ≠ a) : MidE H1 (upd G d (exd d (p :: fs))) a C d (p :: fs) :=
  ⟨by rw [upd_ne (Ne.symm ne)]; exact m.ea, upd_same, fun b h1 h2 => by rw [upd_ne h2]; exact m.rest b h1 h2⟩
end VL
set_option Elab.async false
set_option linter.all false
set_option maxRecDepth 100000
set_option maxHeartbeats 2000000
namespace VL
open PySem PySem.Spec PyProof.Rows L2
section
variable {X : Cx} {a d : Addr} {oe : Obj} {fs : List (Str × V)} {e : Expr} {w : WE} {pos : Pos} {n : Str}
end
section
variable {X : Cx} {a f : Addr} {oe : Obj} {pos p p1 : Pos} {x y : Str} {i k : Nat} {fd : FuncData} {ps : List Str} {pn : List (Addr × Obj)} {sp : Addr × Obj → List V → Hp → L2.VK → Prop}
end
end VL
set_option Elab.async false
set_option linter.all false
set_option maxRecDepth 100000
set_option maxHeartbeats 4000000
namespace VL
open PySem PySem.Spec PyProof.Rows L2
theorem _root_.L2H.RoomH.units {k : Nat} {A : Around} (r : L2H.RoomH k A) : A.units + 64 < cLine := by have := r.un; omega
section
variable {X : Cx} {x1 x2 x3 n : Str} {c1 c2 c3 : Addr} {i kk : Nat} {body suite : List Stmt} {b₀ : Stmt} {np1 np2 np3 tp pos pos' : Pos} {tb : WX → TS} {ts : Addr → Value → Option Addr → TS}
end
end VL
set_option Elab.async false
set_option linter.all false
set_option maxRecDepth 100000
set_option maxHeartbeats 4000000
namespace VL
open PySem PySem.Spec PyProof.Rows L2 LamX
section
variable {X : Cx} {pins : List (Addr × Obj)} {σ : L2.St} {H : Hp} {s : Shared}
theorem TabS.more {P c : Addr} {q : Str} {ps : Array Value} {l k : Value} (nPc : P ≠ c) (nC : H c = none) (ht : TriplesOk ps.toList) (hP : H P = some (.tbl ps)) (ha : ∀ (pos : Pos) (cv : Value), codeAmong pos ps.toList = some cv → ∃ c, cv = .ref c ∧ H c = some (CodeO c q)) (pos : Pos) :
    TabS (upd (upd H P (.tbl (ps ++ #[rawInt pos.line, rawInt pos.col, .ref c]))) c (CodeO c q)) P q := by
  have eL : (ps ++ #[rawInt pos.line, rawInt pos.col, .ref c]).toList = ps.toList ++ [rawInt pos.line, rawInt pos.col, .ref c] := by simp
  refine ⟨_, by rw [upd_ne nPc, upd_same], by rw [eL]; exact PySem.TriplesOk_snoc _ _ _ _ ht, fun p' cv hcv => ?_⟩
  rw [eL] at hcv
  rcases among_app _ ht hcv with z | z
  · obtain ⟨c0, e1, e2⟩ := ha p' cv z
    refine ⟨c0, e1, ?_⟩
    rw [upd_ne (ne_of_none e2 nC), upd_ne (fun z => codeO_ne ps (Option.some.inj (e2.symm.trans (by rw [z]; exact hP))))]
    exact e2
  · exact ⟨c, z, upd_same⟩
end
section
variable {X : Cx}
end
section
variable {X : Cx} {W : Wd}
end
end VL
set_option Elab.async false
set_option linter.all false
set_option maxRecDepth 100000
set_option maxHeartbeats 2000000
namespace VL
open PySem PySem.Spec PyProof.Rows L2
section
variable {X : Cx} {K : PySem.W.Frag} {W : Wd}
end
end VL
set_option Elab.async false
set_option linter.all false
set_option maxRecDepth 100000
set_option maxHeartbeats 2000000
namespace VL
open PySem PySem.Spec PyProof.Rows L2 NumText
end VL
set_option Elab.async false
set_option linter.all false
set_option maxRecDepth 100000
set_option maxHeartbeats 4000000
namespace VL
open PySem PySem.Spec PyProof.Rows L2 LamX
section
variable {cs : Addr → Prop} {P : Program} {w : World} {G H H' : Hp} {h h' B : Heap} {fs : List Addr} {b : Addr}
def Frz (cs : Addr → Prop) (H : Hp) : Prop := ∀ b, cs b → ∃ o y, H b = some (.frz o (.own y))
theorem Frz.no (z : Frz cs H) {u : Option HO} (e : H b = u) (hu : ∀ o y, u ≠ some (.frz o (.own y))) : ¬ cs b := fun c => by
  obtain ⟨o, y, q⟩ := z b c
  exact hu o y (e.symm.trans q)
end
def isC (X : Cx) (b : Addr) : Prop := ∃ y, X.env.cells.lookup y = some b
structure CellsAt (X : Cx) (σ : L2.St) (h : Heap) : Prop where
  inj : ∀ x y c, X.env.cells.lookup x = some c → X.env.cells.lookup y = some c → x = y
  has : ∀ x, (X.env.kindOf x = some .cell ∨ X.env.kindOf x = some .free) → ∃ c, X.env.cells.lookup x = some c
  val : ∀ (i : Nat) (y : Str) (v : V) (c : Addr), X.N[i]? = some y → σ[i]? = some (some v) → X.env.cells.lookup y = some c → (X.env.scope.names.lookup y = some .cell ∨ X.env.scope.names.lookup y = some .free) → ∃ u, RelV v u ∧ h.IsCell c (some u)
  cel : ∀ y c, X.env.cells.lookup y = some c → ∃ v, h.IsCell c v
  len : σ.length = X.N.length
theorem CellsAt.of {X : Cx} {pins : List (Addr × Obj)} {σ : L2.St} {H : Hp} {s : Shared} (I : L2.Inv X pins σ H s) : CellsAt X σ s.heap := by
  refine ⟨I.ok.inj, I.ok.has, fun i y v c h1 h2 h3 h4 => ?_, I.cell, I.len⟩
  obtain ⟨m, hn, hl⟩ := I.loc
  obtain ⟨u, r, q⟩ := hl i y v h1 h2 (.inr h4)
  rcases q with ⟨k, _⟩ | ⟨_, c2, e, z⟩
  · have k' : X.env.scope.names.lookup y = some .local := k
    rcases h4 with k2 | k2 <;> rw [k2] at k' <;> cases k'
  · rw [h3] at e
    cases e
    exact ⟨u, r, z⟩
theorem CellsAt.move {X : Cx} {σ : L2.St} {h h' : Heap} (C : CellsAt X σ h) (k : ∀ b o, isC X b → h.get? b = some o → h'.get? b = some o) : CellsAt X σ h' := by
  refine ⟨C.inj, C.has, fun i y v c h1 h2 h3 h4 => ?_, fun y c e => ?_, C.len⟩
  · obtain ⟨u, r, o, q1, q2⟩ := C.val i y v c h1 h2 h3 h4
    exact ⟨u, r, o, k c o ⟨y, h3⟩ q1, q2⟩
  · obtain ⟨v, o, q1, q2⟩ := C.cel y c e
    exact ⟨v, o, k c o ⟨y, e⟩ q1, q2⟩
structure LamV (P : Program) (w : World) (K : PySem.W.Frag) (mg : Str → Option Value) (base : Heap) (k : Nat) (W : Wd) (d : D) (wB : (D → Prop) → (D → Prop) → Prop) : Prop where
  ex : ∃ f as, d = .lam f as ∧ (∀ h : Heap, (∀ p ∈ as, p.2 h) → PySem.W.FnAt f h) ∧
    ∀ (A : Around) (outer : List Env) (s : Shared) (H : Hp) (Q : L2.VK) (E : XK) (M : Addr → Prop) (PX P' : D → Prop), Room (k + 1) A → Env0 P w K mg base A outer s H → MOk W M H → (∀ p ∈ as, H p.1 = some (.ext p.2)) → wB PX P' →
      (∀ d v H', P' d → Ext W H H' → W.I H' → Rep K M H' d v → Q v H') → (∀ cls d H', XC K W M H PX cls d H' → E cls d H') → codeAny (model P w) A (.call (.ref f) ⟨[], []⟩) (CR (L2.CX P w) outer P w H s Q E) s
end VL
set_option Elab.async false
set_option linter.all false
set_option maxRecDepth 100000
set_option maxHeartbeats 4000000
namespace VL
open PySem PySem.Spec PyProof.Rows L2 LamX
section
variable {X : Cx} {pins : List (Addr × Obj)} {σ : L2.St} {H : Hp} {s : Shared}
end
section
variable {X : Cx} {W : Wd} {P c : Addr} {k : Nat}
end
theorem LamV.pl {P : Program} {w : World} {K : PySem.W.Frag} {mg : Str → Option Value} {base : Heap} {k : Nat} {W : Wd} {d : D} {wB : (D → Prop) → (D → Prop) → Prop} (L : LamV P w K mg base k W d wB) : LamV P w K mg base k W.pl d wB := by
  obtain ⟨f, as, e, h1, h2⟩ := L
  exact ⟨f, as, e, h1, fun A outer s H Q E M PX P' hr e0 m has hw kk kx => h2 A outer s H Q E M PX P' hr e0 ⟨m.wm, m.live, m.wi, m.nb, m.nx⟩ has hw kk kx⟩
end VL
set_option Elab.async false
set_option linter.all false
set_option maxRecDepth 100000
set_option maxHeartbeats 4000000
namespace VL
open PySem PySem.Spec PyProof.Rows L2
section
variable {prog : Program} {w : World} {A : Around} {E : Value → Shared → Prop} {s : Shared}
theorem but_all {x : Addr} {h h' : Heap} {ob : Obj} (hx : x = h.objs.size) (e : Heap.SameBut x (h.push ob) h') {h2 : Heap} (k : ∀ b o, b ≠ x → h'.get? b = some o → h2.get? b = some o) : ∀ b o, h.get? b = some o → h2.get? b = some o := fun b o q => by
  have nb : b ≠ x := by rw [hx]; exact Nat.ne_of_lt (Heap.lt_size q)
  exact k b o nb (e.extBut b o nb (Heap.get?_push_of_some _ q))
theorem star_items (k : Kz) {l : Addr} {items : Array Value} {n i : Nat} {Q : List Value → Shared → Prop} (hl : IsK k s.heap l items) (hh : A.handled = none) (hi : i < n) (hn : n ≤ items.size + 1) (hz : items.size ≤ 1000000)
    (h : ∀ (h2 h' : Heap) (tk : Nat), (∀ b o, s.heap.get? b = some o → h2.get? b = some o) → (∀ b o, h2.get? b = some o → h'.get? b = some o) → h'.get? h2.objs.size = some { cls := .type "list", data := .seq ((items.toList.drop i).take (items.size + 1 - n)).toArray } → Q (items.toList.take i ++ [.ref h2.objs.size] ++ (items.toList.drop i).drop (items.size + 1 - n)) { s with heap := h', toks := tk }) :
    wpAny (model prog w) A (unpackItems (.ref l) n (some i)) Q E s := by
  have len1 : (items.toList.take i).length = i := by rw [List.length_take, Array.length_toList]; omega
  have len2 : (items.toList.drop i).length = (items.size + 1 - n) + (n - 1 - i) := by rw [List.length_drop, Array.length_toList]; omega
  have e1 : ¬ (items.toList.take i).length < i := by omega
  have e2 : ¬ (items.toList.drop i).length < n - 1 - i := by omega
  have e3 : (items.toList.drop i).length - (n - 1 - i) = items.size + 1 - n := by omega
  have fin : ∀ {h1 h2 : Heap} {ob : Obj} {tk : Nat}, Heap.SameBut s.heap.objs.size (s.heap.push ob) h1 → (∀ b o, b ≠ s.heap.objs.size → h1.get? b = some o → h2.get? b = some o) →
      wpAny (model prog w) A (newList ((items.toList.drop i).take (items.size + 1 - n)) >>= fun d => pure (items.toList.take i ++ [d] ++ (items.toList.drop i).drop (items.size + 1 - n))) Q E { s with heap := h2, toks := tk } := by
    intro h1 h2 ob tk g1 g2
    refine wpAny_bind (wpAny_newList ?_ (by rw [List.length_take, sizeLine_eq]; omega))
    exact wpAny_pure (h _ _ _ (but_all rfl g1 g2) (fun b o z => Heap.get?_push_of_some _ z) (Heap.get?_push_size _ rfl))
  cases k with
  | l =>
    have hl : s.heap.IsList l items := hl
    obtain ⟨ol, hol, hcl⟩ := id hl
    have ne := Nat.ne_of_lt (Heap.lt_size hol)
    unfold unpackItems notIterableAtAll
    refine wpAny_bind (wpAny_bind (wpAny_specialOf hl.typeIs slot_list_iter.lookup (wpAny_pure ?_)))
    simp only [Bool.false_eq_true, if_false]
    refine wpAny_bind (wpAny_holding (wpAny_pyIter_list hl ?_))
    refine wpAny_bind (wpAny_holding (PySem.W.kun_draw ne i 0 _ _ ⟨_, Heap.get?_push_size _ rfl, rfl, rfl⟩ (hl.push _) (by omega) fun h1 st g1 => ?_))
    have p1 : h1.IsList l items := (hl.push _).extBut g1.extBut ne
    rw [List.drop_zero, if_neg e1]
    rw [Nat.zero_add] at st
    obtain ⟨oi, hoi, _⟩ := id st
    obtain ⟨o2, ho2, _⟩ := id p1
    refine wpAny_bind (wpAny_holding (PySem.W.kun_collect (s := { s with heap := h1 }) (T := "list_iterator") (.inr (.inr (.inl rfl))) (Walks.list (A := A.in1) hh s.heap.objs.size l ne items) (fun j u z => z.1.typeIs) (show i ≤ items.size by omega) ⟨st, p1⟩ (Heap.lt_size hoi) (Heap.lt_size ho2) (fun h2 tk g2 => ?_) (by rw [sizeLine_eq]; omega)))
    dsimp only
    rw [if_neg e2, e3]
    exact fin g1 g2
  | t =>
    have hl : IsTup s.heap l items := hl
    obtain ⟨ol, hol, hcl⟩ := id hl
    have ne := Nat.ne_of_lt (Heap.lt_size hol)
    unfold unpackItems notIterableAtAll
    refine wpAny_bind (wpAny_bind (wpAny_specialOf hl.typeIs slot_tuple_iter.lookup (wpAny_pure ?_)))
    simp only [Bool.false_eq_true, if_false]
    refine wpAny_bind (wpAny_holding (iter_tuple hl ?_))
    refine wpAny_bind (wpAny_holding (draw_tuple ne i 0 _ _ ⟨_, Heap.get?_push_size _ rfl, rfl, rfl⟩ (hl.push _) (by omega) fun h1 st g1 => ?_))
    have p1 : IsTup h1 l items := (hl.push _).extBut g1.extBut ne
    rw [List.drop_zero, if_neg e1]
    rw [Nat.zero_add] at st
    obtain ⟨oi, hoi, _⟩ := id st
    obtain ⟨o2, ho2, _⟩ := id p1
    refine wpAny_bind (wpAny_holding (PySem.W.kun_collect (s := { s with heap := h1 }) (T := "tuple_iterator") (.inr (.inr (.inr rfl))) (Walks.tuple (A := A.in1) hh s.heap.objs.size l ne items) (fun j u z => z.1.typeIs) (show i ≤ items.size by omega) ⟨st, p1⟩ (Heap.lt_size hoi) (Heap.lt_size ho2) (fun h2 tk g2 => ?_) (by rw [sizeLine_eq]; omega)))
    dsimp only
    rw [if_neg e2, e3]
    exact fin g1 g2
end
def gStar (K : PySem.W.Frag) (n i : Nat) (t : TGs) : TG := fun v σ H Q => ∃ k a xs, v = .ref a ∧ SqK k K H a xs ∧ n ≤ xs.length + 1 ∧ xs.length ≤ 1000000 ∧ ∀ D, H D = none → t (xs.take i ++ [.ref D] ++ (xs.drop i).drop (xs.length + 1 - n)) σ (upd H D (.lst ((xs.drop i).take (xs.length + 1 - n)))) Q
theorem vals_take {xs : List V} {us : List Value} (r : Vals xs us) : ∀ n, Vals (xs.take n) (us.take n) := by
  induction r with
  | nil => intro n; rw [List.take_nil, List.take_nil]; exact .nil
  | cons h _ ih =>
    intro n
    cases n with
    | zero => exact .nil
    | succ n => exact .cons h (ih n)
theorem vals_drop {xs : List V} {us : List Value} (r : Vals xs us) : ∀ n, Vals (xs.drop n) (us.drop n) := by
  induction r with
  | nil => intro n; rw [List.drop_nil, List.drop_nil]; exact .nil
  | cons h t ih =>
    intro n
    cases n with
    | zero => exact .cons h t
    | succ n => exact ih n
theorem pg_star {X : Cx} {es : List Expr} {k n i : Nat} {t : TGs} {pos : Pos} (hc : X.calm = true) (h : PGs X es t) (hn : (assignEach es X.env).length = n := by rfl) (hst : (assignEach es X.env).findIdx? (·.1) = some i := by rfl) (hi : i < n := by decide) : PG X (.Tuple es k pos) (gStar X.K n i t) := by
  refine ⟨fun pins s σ H v u Q I r hw => ?_⟩
  obtain ⟨k, a, xs, rfl, hq, h1, h2, hw⟩ := hw
  cases r
  obtain ⟨its, rv, p, _⟩ := seqK I hq
  have hl : xs.length = its.length := rv.length
  have ez : its.toArray.size = xs.length := by rw [List.size_toArray, hl]
  rw [assign_Tuple]
  refine wpAny_bind (wpAny_standAt ?_)
  unfold unpack
  rw [hn, hst]
  refine wpAny_bind (wpAny_holding (star_items k p (I.ok.hd hc) hi (by omega) (by omega) fun g2 g' tk q1 q2 q3 => ?_))
  have I1 : Inv X pins σ H { s with heap := g2, toks := tk } := I.kept (t' := tk) q1
  have fr : H g2.objs.size = none := I1.hok.fresh (Nat.le_refl _)
  rw [ez] at q3 ⊢
  have rl : Vals ((xs.drop i).take (xs.length + 1 - n)) ((its.drop i).take (xs.length + 1 - n)) := vals_take (vals_drop rv i) _
  have I2 : Inv X pins σ (upd H g2.objs.size (.lst ((xs.drop i).take (xs.length + 1 - n)))) { s with heap := g', toks := tk } := I1.laid (t' := tk) q2 (Nat.le_refl _) ⟨by rw [List.length_take, List.length_drop, sizeLine_eq]; omega, _, _, rl, q3⟩
  exact h.run pins _ σ _ _ _ Q I2 (((vals_take rv i).append (.cons (show RelV (.ref g2.objs.size) (.ref g2.objs.size) from rfl) .nil)).append (vals_drop (vals_drop rv i) _)) (hw _ fr)
def starD (n i : Nat) : D → (List D → Prop) → Prop
  | .tup xs, P => n ≤ xs.length + 1 ∧ xs.length ≤ 1000000 ∧ P (xs.take i ++ [.lst ((xs.drop i).take (xs.length + 1 - n))] ++ (xs.drop i).drop (xs.length + 1 - n))
  | .lst xs, P => n ≤ xs.length + 1 ∧ xs.length ≤ 1000000 ∧ P (xs.take i ++ [.lst ((xs.drop i).take (xs.length + 1 - n))] ++ (xs.drop i).drop (xs.length + 1 - n))
  | _, _ => False
theorem starD_of {n i : Nat} {d : D} {v : V} {P : List D → Prop} {K : PySem.W.Frag} {M : Addr → Prop} {H : Hp} (h : starD n i d P) (r : Rep K M H d v) : ∃ (k : Kz) (a : Addr) (vs : List V) (xs : List D), v = .ref a ∧ SeqM k K M H a vs ∧ Reps K M H xs vs ∧ n ≤ xs.length + 1 ∧ xs.length ≤ 1000000 ∧ P (xs.take i ++ [.lst ((xs.drop i).take (xs.length + 1 - n))] ++ (xs.drop i).drop (xs.length + 1 - n)) := by
  cases d <;> first | exact h.elim | skip
  · obtain ⟨a, ys, rfl, t, r2⟩ := r.tup
    exact ⟨.t, a, ys, _, rfl, t, r2, h⟩
  · obtain ⟨a, ys, rfl, t, r2⟩ := r.lst
    exact ⟨.l, a, ys, _, rfl, t, r2, h⟩
section
variable {X : Cx} {W : Wd} {e : Expr} {es : List Expr} {pos tpos : Pos} {vs : List Nat}
theorem vs_asgStar {k n i : Nat} {w : WE} {u : WGs} (hc : X.calm = true) (he : VE X W e w) (hg : PGs X es (LGs X.K W vs u)) (hs : swapsWithSole [.Tuple es k tpos] e pos.line X.env = pure false := by rfl) (hw : swappedStores [.Tuple es k tpos] e X.env = pure none := by rfl)
    (h1 : (assignEach [.Tuple es k tpos] X.env).map (·.2) = [assign (.Tuple es k tpos) X.env] := by rfl) (hn : (assignEach es X.env).length = n := by rfl) (hst : (assignEach es X.env).findIdx? (·.1) = some i := by rfl) (hi : i < n := by decide) :
    VS X W (.Assign [.Tuple es k tpos] e pos) (fun E ds => w ds fun d => starD n i d fun xs => u xs ds E.nx) := by
  refine ps_imp (ps_asg he (pg_star hc hg hn hst hi) hs hw h1) fun D σ H h => ?_
  obtain ⟨M0, H0, oa, ds, E, S, hw, k1, k2, k3, k4⟩ := h
  refine ⟨M0, H0, oa, ds, _, S, hw, fun d v H1 hd e1 i1 r1 => ?_⟩
  obtain ⟨kz, a, ys, xs, rfl, sq, rr, l1, l2, hu⟩ := starD_of hd r1
  have S1 := S.step e1 i1
  have el := rr.len
  refine ⟨kz, a, ys, rfl, sq.sq, by omega, by omega, fun Dl hD => ?_⟩
  rw [el]
  have fu : Full H1 (upd H1 Dl (.lst ((ys.drop i).take (xs.length + 1 - n)))) := Full.new hD
  have S2 := S1.full fu
  have rm : Reps X.K (Mx M0 oa) H1 ((xs.drop i).take (xs.length + 1 - n)) ((ys.drop i).take (xs.length + 1 - n)) := (rr.drop i).take _
  have rD := S1.mok.newL hD rm
  have r2 := rr.ext S1.mok fu.ext
  refine ⟨M0, H0, oa, ds, _, _, S2, ?_, hu, fun ds' oa' σ' hp S' _ _ _ => k1 ds' oa' σ' _ hp S'⟩
  exact ((r2.take i).app (reps_cons rD reps_nil)).app ((r2.drop i).drop (xs.length + 1 - n))
end
section
variable {X : Cx} {W : Wd} {e : Expr} {pos : Pos}
end
theorem vr_enum_new {v : Value} {ob : Obj} {G : Heap → Prop} (B : Begins v ob G) :
    Meets (Builtin.«enumerate.__new__» ⟨[.type "enumerate", v], []⟩) (fun _ R s => G s.heap ∧
      R (.ok (.ret (.ref (s.heap.push ob).objs.size))) { s with heap := (s.heap.push ob).push { cls := .type "enumerate", data := .fields #[.none, .bool false, .ref s.heap.objs.size, rawInt 0, .none, .none] } }) :=
  .of_wp fun prog w A R s z => by
    obtain ⟨hp, gg, dd, kk, oo⟩ := s
    obtain ⟨g1, z⟩ := z
    have sb := sub_enumerate
    have go : ∀ {A' : Around} {E Q : Value → Shared → Prop}, Q (.ref hp.objs.size) ⟨hp.push ob, gg, dd, kk, oo⟩ → wpAny (model prog w) A' (pyIter v) Q E ⟨hp, gg, dd, kk, oo⟩ := fun q => B.iter prog w _ _ ⟨hp, gg, dd, kk, oo⟩ _ g1 q
    wp_walk using go
    refine wpAny_stack_any fun _ => wpAny_pure ?_
    split
    · rename_i c _ _ _ _ _
      cases (c == Value.type "enumerate") <;> (wp_walk using go; exact ⟨_, rfl, z⟩)
    · wp_walk using go
      exact ⟨_, rfl, z⟩
section
variable {prog : Program} {w : World} {A : Around} {E : Value → Shared → Prop} {s : Shared}
theorem vr_enum {v : Value} {ob : Obj} {G : Heap → Prop} {Q : Value → Shared → Prop} (B : Begins v ob G) (g1 : G s.heap)
    (h : ∀ h', IsEnum h' (s.heap.objs.size + 1) s.heap.objs.size 0 .none → h'.get? s.heap.objs.size = some ob → (∀ b o, s.heap.get? b = some o → h'.get? b = some o) → Q (.ref (s.heap.objs.size + 1)) { s with heap := h' }) :
    wpAny (model prog w) A (call (.type "enumerate") [v]) Q E s := by
  have sz : (s.heap.push ob).objs.size = s.heap.objs.size + 1 := Heap.size_push ..
  refine callType_new PySem.F.called_enumerate (by decide) (PySem.F.typeCall_enumerate_1 _) (PySem.F.newCall_enumerate_1 _) (fun obj => PySem.F.args_object_init_2 obj _) PySem.F.entry_enumerate_new (vr_enum_new B) ⟨g1, ?_⟩
  have at_ := Heap.get?_push_size (s.heap.push ob) (o := { cls := .type "enumerate", data := .fields #[.none, .bool false, .ref s.heap.objs.size, rawInt 0, .none, .none] }) rfl
  rw [sz] at at_
  show _ ∧ _
  rw [sz]
  exact ⟨⟨_, at_, rfl⟩, h _ at_ (Heap.get?_push_of_some _ (Heap.get?_push_size _ B.free)) fun b o q => Heap.get?_push_of_some _ (Heap.get?_push_of_some _ q)⟩
end
def IteK (K : PySem.W.Frag) (k : Kz) (a : Addr) : It :=
  ⟨fun i H => ∃ (xs : List V) (x : V), SqK k K H a xs ∧ xs[i]? = some x,
    fun i H v H' => ∃ T x, v = .ref T ∧ H T = none ∧ H' = upd H T (.tup [.int (i : Nat), x]) ∧ ∀ xs, SqK k K H a xs → xs[i]? = some x,
    fun i H => ∃ xs : List V, SqK k K H a xs ∧ xs.length = i⟩
theorem turn_enumK {P : Program} {w : World} {K : PySem.W.Frag} {elts : List Expr} {kk : Nat} {tpos : Pos} {k : Kz} {a e it : Addr} (ha : a ≠ it) (hae : a ≠ e) (hei : e ≠ it) :
    Turn P w K (.Tuple elts kk tpos) (IteK K k a) [e, it] e (fun i h => (∃ old, IsEnum h e it ((i : Nat) : Int) old) ∧ IterK k h it a i) where
  mem := by simp
  obj := fun i h st c hc => by
    obtain ⟨⟨old, he⟩, hi⟩ := st
    have e' : c = e ∨ c = it := by simpa using hc
    rcases e' with q | q
    · rw [q]; exact ⟨_, he, fun v z => nomatch z⟩
    · rw [q]; exact hi.obj
  keep := fun i h h' st kp => by
    obtain ⟨⟨old, he⟩, hi⟩ := st
    exact ⟨⟨old, kp e (by simp) _ he⟩, hi.at fun o q => kp it (by simp) o q⟩
  item := by
    intro X hP hw hK hc i pins s σ H E I hf st hg
    subst hP hw hK
    obtain ⟨⟨old, he⟩, hi⟩ := st
    obtain ⟨xs, x, hq, hx⟩ := hg
    obtain ⟨its, rv, p, _⟩ := seqK I hq
    obtain ⟨u, hu, ru⟩ := rv.get hx
    have el := Heap.lt_size he
    have hh : X.A.in1.handled = none := I.ok.hd hc
    have lt : i < its.toArray.size := by rw [List.size_toArray]; exact (List.getElem?_eq_some_iff.mp hu).1
    refine wpAny_pyNext_enum_itemD (drawsK k hh it a ha its.toArray) he ⟨hi, p⟩ lt hei (by simp [hei, Ne.symm hae]) fun v h' tk y1 out st' hT hsz hk => ?_
    obtain rfl : u = v := by
      have : some u = some v := by rw [← y1]; simpa using hu.symm
      exact Option.some.inj this
    obtain ⟨hi', _⟩ := st'
    refine ⟨_, rfl, wpAny_letOwnedTupleGo_enum (s := { s with heap := h', toks := tk + 1 }) out fun h'' en sb => ?_⟩
    have hT2 := (sb.2 _ (Nat.ne_of_gt el)).trans hT
    have new : ObjOk X.prog X.w (upd H s.heap.objs.size (.tup [.int (i : Nat), x])) h'' s.heap.objs.size (.tup [.int (i : Nat), x]) := ⟨by show 2 ≤ sizeLine; decide, [.int i tk, u], .cons ⟨_, rfl⟩ (.cons ru .nil), ⟨_, hT2, rfl, _, rfl⟩⟩
    have I1 := I.turnedNew (t' := tk + 1) (ch := [e, it]) (fun b o hb q => (sb.2 b (fun z => hb (by simp [z]))).trans (hk b o (fun z => hb (by simp [z])) (fun z => hb (by simp [z])) q)) hf (Nat.le_refl _) new
    refine ⟨.ref s.heap.objs.size, _, I1, rfl, ⟨_, x, rfl, I.hok.fresh (Nat.le_refl _), rfl, fun l hl => by rw [seqK_inj I hl hq]; exact hx⟩, ⟨⟨u, ?_⟩, hi'.at fun o q => (sb.2 it (Ne.symm hei)).trans q⟩, fun c hcm => ?_⟩
    · have e1 : ((i + 1 : Nat) : Int) = (i : Int) + 1 := by omega
      rw [e1]; exact en
    · have hlt : c < s.heap.objs.size := by
        have e' : c = e ∨ c = it := by simpa using hcm
        rcases e' with q | q
        · rw [q]; exact el
        · rw [q]; obtain ⟨_, e1, _⟩ := hi.obj; exact Heap.lt_size e1
      rw [upd_ne (Nat.ne_of_lt hlt)]
      exact (hf c hcm).1
  done := by
    intro X hP hw hK hc i pins s σ H E I hf st hg
    subst hP hw hK
    obtain ⟨⟨old, he⟩, hi⟩ := st
    obtain ⟨xs, hq, hx⟩ := hg
    obtain ⟨its, rv, p, _⟩ := seqK I hq
    have hh : X.A.in1.handled = none := I.ok.hd hc
    have l1 : its.toArray.size = i := by rw [List.size_toArray, ← hx]; exact rv.length.symm
    subst l1
    refine wpAny_pyNext_enum_endD (drawsK k hh it a ha its.toArray) he ⟨hi, p⟩ fun h' eb => ?_
    obtain ⟨f0, f1, f2, f3, f4, f5⟩ := hf it (by simp)
    exact ⟨rfl, I.turned (t' := s.toks) (fun b o hb q => eb b o hb q) f0 f1 f3 f4 f5⟩
  self := fun A i s Q E st h => let ⟨⟨_, he⟩, _⟩ := st; wpAny_pyIter_enum he h
def iEnumK (K : PySem.W.Frag) (ta : TA) : TI := fun σ H R => ta σ H fun vs H1 => ∃ k a xs, vs = [.ref a] ∧ SqK k K H1 a xs ∧ R (IteK K k a) H1
theorem pi_enumK {X : Cx} {e : Expr} {ta : TA} {p pos tpos : Pos} {elts : List Expr} {kk : Nat} (hg : Gl X "enumerate") (hm : X.mg "enumerate" = none) (ha : PA X [e] ta) (hs : starEach [e] X.env = [(false, eval e X.env)] := by rfl) :
    PI X (.Tuple elts kk tpos) (.Call (.Name "enumerate" p) [e] [] pos) (iEnumK X.K ta) := by
  refine ⟨fun pins s σ H R I h => ?_⟩
  refine Call_ (ld_blt I hg hm boot_enumerate (PyProof.Rows.callWith_type1 (thn (ha.run pos pins s σ H _ I h) fun us s1 ⟨vs, H1, I1, r1, k, a, xs, ex, hq, q⟩ => ?_) hs rfl))
  subst ex
  cases r1 with
  | cons r rr =>
    cases rr
    cases r
    obtain ⟨its, rv, p1, lt⟩ := seqK I1 hq
    refine vr_enum (beginsK k a its.toArray) p1 fun h' he hi hk => wpAny_pyIter_enum he ?_
    have I2 : Inv X pins σ H1 { s1 with heap := h' } := I1.kept (t' := s1.toks) hk
    refine ⟨s1.heap.objs.size + 1, [s1.heap.objs.size + 1, s1.heap.objs.size], _, _, H1, rfl, I2, turn_enumK (k := k) (a := a) (e := s1.heap.objs.size + 1) (it := s1.heap.objs.size) (Nat.ne_of_lt lt) (Nat.ne_of_lt (Nat.lt_succ_of_lt lt)) (Nat.succ_ne_self _), ⟨⟨.none, he⟩, iterK0 hi⟩, fun b hb => ?_, q⟩
    have hle : s1.heap.objs.size ≤ b := by
      have e' : b = s1.heap.objs.size + 1 ∨ b = s1.heap.objs.size := by simpa using hb
      rcases e' with z | z <;> rw [z]
      · exact Nat.le_add_right _ _
      · exact Nat.le_refl _
    exact I1.fpOk hle (I1.hok.fresh hle)
def enumD (xs : List D) : List D := (List.range xs.length).zip xs |>.map fun p => D.tup [.int (p.1 : Nat), p.2]
theorem enumD_len (xs : List D) : (enumD xs).length = xs.length := by simp [enumD]
theorem enumD_get {xs : List D} {i : Nat} {d : D} (h : (enumD xs)[i]? = some d) : ∃ x, xs[i]? = some x ∧ d = .tup [.int i, x] := by
  unfold enumD at h
  rw [List.getElem?_map] at h
  obtain ⟨p, hp, rfl⟩ := Option.map_eq_some_iff.mp h
  obtain ⟨a, b⟩ := p
  obtain ⟨h1, h2⟩ := List.getElem?_zip_eq_some.mp hp
  have h1 : (List.range xs.length)[i]? = some a := h1
  rw [List.getElem?_range (List.getElem?_eq_some_iff.mp h2).1] at h1
  cases h1
  exact ⟨b, h2, rfl⟩
def enD : D → (List D → Prop) → Prop
  | .tup xs, P => xs.length ≤ 1000000 ∧ P (enumD xs)
  | .lst xs, P => xs.length ≤ 1000000 ∧ P (enumD xs)
  | _, _ => False
section
variable {K : PySem.W.Frag} {W : Wd} {M : Addr → Prop} {H1 : Hp}
theorem itok_en {k : Kz} {a : Addr} {xs : List V} {ds : List D} (t : SeqM k K M H1 a xs) (r : Reps K M H1 ds xs) : ItOk K W M H1 (IteK K k a) (enumD ds) := fun M2 H2 c m => by
  have u1 := (t.car c).sq
  refine ⟨fun i hi => ?_, fun i hi hi2 => ⟨xs, u1, ?_⟩, fun i d x H3 hd hy => ?_⟩
  · rw [enumD_len] at hi
    obtain ⟨x, hx⟩ := get_lt (xs := xs) (i := i) (by rw [r.len]; omega)
    exact ⟨xs, x, u1, hx⟩
  · rw [enumD_len] at hi hi2
    rw [r.len]
    omega
  · obtain ⟨T, x', rfl, hT, rfl, g1⟩ := hy
    obtain ⟨dx, h1, rfl⟩ := enumD_get hd
    obtain ⟨v1, hv1, rv1⟩ := r.get h1
    have q1 := g1 xs u1
    rw [hv1] at q1
    cases q1
    exact ⟨Full.new hT, m.newT hT (reps_cons rep_int (reps_cons (rv1.car c) reps_nil))⟩
theorem vi_enum {X : Cx} {e : Expr} {w : WE} {p pos tpos : Pos} {elts : List Expr} {kk : Nat} (hg : Gl X "enumerate") (hm : X.mg "enumerate" = none) (ha : VE X W e w) (hs : starEach [e] X.env = [(false, eval e X.env)] := by rfl) (hs1 : starEach [e] X.env = (false, eval e X.env) :: starEach [] X.env := by rfl) :
    VI X W (.Tuple elts kk tpos) (.Call (.Name "enumerate" p) [e] [] pos) (fun ds P => w ds fun d => enD d P) := by
  refine pi_imp (pi_enumK hg hm (pa_cons ha pa_nil hs1) hs) fun σ H R h => ?_
  obtain ⟨M0, H0, oa, ds, P, S, hw, k⟩ := h
  refine ⟨M0, H0, oa, ds, _, S, hw, fun d v H1 hd e1 i1 r1 => ?_⟩
  cases d <;> first | exact hd.elim | skip
  · obtain ⟨a, ys, rfl, t, r2⟩ := r1.tup
    exact ⟨.t, a, ys, rfl, t.sq, k _ _ H1 hd.2 (by rw [enumD_len, sizeLine_eq]; exact Nat.le_trans hd.1 (by decide)) e1 i1 (itok_en (k := .t) t r2)⟩
  · obtain ⟨a, ys, rfl, t, r2⟩ := r1.lst
    exact ⟨.l, a, ys, rfl, t.sq, k _ _ H1 hd.2 (by rw [enumD_len, sizeLine_eq]; exact Nat.le_trans hd.1 (by decide)) e1 i1 (itok_en (k := .l) t r2)⟩
end
section
variable {X : Cx} {W : Wd} {e : Expr} {pos : Pos} {vs : List Nat}
theorem vgs_star {es : List Expr} {w : WG} {u : WGs} {sp : Pos} (h1 : VG X W vs e w) (h2 : PGs X es (LGs X.K W vs u)) (hs : (assignEach (e :: es) X.env).map (·.2) = assign e X.env :: (assignEach es X.env).map (·.2) := by rfl) (hst : (assignEach (.Starred e sp :: es) X.env).map (·.2) = (assignEach (e :: es) X.env).map (·.2) := by rfl) :
    PGs X (.Starred e sp :: es) (LGs X.K W vs (wgCons w u)) := by
  have h := vgs_cons (vs := vs) h1 h2 hs
  exact ⟨fun pins s σ H us ws Q I r q => by rw [hst]; exact h.run pins s σ H us ws Q I r q⟩
theorem wipe_nil (σ : L2.St) : wipe σ [] = σ := by
  apply List.ext_getElem?
  intro i
  rw [wipe_get]
  rfl
theorem wipeD_nil (ds : List Sl) : wipeD ds [] = ds := by
  apply List.ext_getElem?
  intro i
  unfold wipeD
  rw [List.getElem?_map]
  by_cases h : i < ds.length
  · rw [List.getElem?_range h, List.getElem?_eq_getElem h]
    simp [h]
  · rw [List.getElem?_eq_none (by simp; omega), List.getElem?_eq_none (by omega)]
    rfl
theorem mx_put_le {M0 : Addr → Prop} {oa : Nat → AS} {i : Nat} {p : Addr} {H : Hp} : Car (Mx (fun a => M0 a ∨ a = p) oa) (Mx M0 (oaPut oa i p)) H H := fun b o n h => ⟨fun z => n (by
  rcases z with z | ⟨j, z⟩
  · exact .inl (.inl z)
  · unfold oaPut at z
    split at z
    · exact .inl (.inr z)
    · exact .inr ⟨j, z⟩), h⟩
theorem vs_parNil (i j : Nat) {x y : Str} {wa : WE} {px py pt dp : Pos} {kt k2 pt2} (hc : X.calm = true) (hN : X.N.Nodup) (hij : i ≠ j) (ha : VE X W e wa) (hi : X.N[i]? = some x := by rfl) (hj : X.N[j]? = some y := by rfl)
    (hx : X.env.scope.names.lookup x = some .local := by rfl) (hy : X.env.scope.names.lookup y = some .local := by rfl)
    (hw : swappedStores [.Tuple [.Name x px, .Name y py] kt pt] (.Tuple [.List [] dp, e] k2 pt2) X.env = pure (some [x, y]) := by rfl)
    (hs : swapsWithSole [.Tuple [.Name x px, .Name y py] kt pt] (.Tuple [.List [] dp, e] k2 pt2) pos.line X.env = pure false := by rfl) (hs1 : starEach [.List [] dp, e] X.env = (false, eval (.List [] dp) X.env) :: starEach [e] X.env := by rfl) (hs2 : starEach [e] X.env = (false, eval e X.env) :: starEach [] X.env := by rfl) :
    VS X W (.Assign [.Tuple [.Name x px, .Name y py] kt pt] (.Tuple [.List [] dp, e] k2 pt2) pos) (fun E ds => i < ds.length ∧ wa ds fun d => E.nx ((ds.set i (.ml [])).set j (.d d))) := by
  refine ps_imp (ps_par hc hN hi hj hij hx hy (pa_cons (pe_lst pa_nil) (pa_cons ha pa_nil hs2) hs1) hw hs) fun D σ H h => ?_
  obtain ⟨M0, H0, oa, ds, E, S, ⟨hl, hw⟩, k1, k2, k3, k4⟩ := h
  refine ⟨by show 0 ≤ sizeLine; exact Nat.zero_le _, fun p hp => ?_⟩
  have fu : Full H (upd H p (.lst [])) := Full.new hp
  have S1 := S.blk (vs := []) (Dl := p) (ob := .lst []) (H2 := upd H p (.lst [])) rfl hp (fun b o _ z => fu b o z) (W.keep _ _ S.wi fu) upd_same
  rw [wipe_nil, wipeD_nil] at S1
  refine ⟨_, _, oa, ds, _, S1, hw, fun d v H3 hd e1 i1 r1 => ⟨.ref p, v, rfl, ?_⟩⟩
  have nA : ¬ W.A p := fun z => (W.live _ _ S.wi z) hp
  have S3 := S.takeown (i := i) hl hp (fu.ext.trans e1) i1 (xs := []) (vs := []) (e1 p _ nA upd_same) reps_nil
  exact k1 _ _ _ _ hd (S3.set (r1.car mx_put_le))
end
end VL
set_option Elab.async false
set_option linter.all false
set_option maxRecDepth 100000
set_option maxHeartbeats 2000000
set_option exponentiation.threshold 20000
namespace VL
open PySem PySem.Spec PyProof.Rows L2 NumText
def negF : D → Bool
  | .tup [.int a, _] => decide (a < 0)
  | _ => false
end VL
set_option Elab.async false
set_option linter.all false
set_option maxRecDepth 100000
set_option maxHeartbeats 4000000
namespace VL
open PySem PySem.Spec PyProof.Rows L2
mutual
def noMut : D → Bool
  | .lst _ => false
  | .dic _ _ => false
  | .ins _ _ _ => false
  | .tup ds => noMuts ds
  | _ => true
def noMuts : List D → Bool
  | [] => true
  | d :: ds => noMut d && noMuts ds
end
mutual
def noIns : D → Bool
  | .ins _ _ _ => false
  | .lst ds => noInss ds
  | .dic _ ds => noInss ds
  | .tup ds => noInss ds
  | _ => true
def noInss : List D → Bool
  | [] => true
  | d :: ds => noIns d && noInss ds
end
section
variable {K : PySem.W.Frag} {M M' : Addr → Prop} {H : Hp}
def isMut : HO → Prop
  | .lst _ => True
  | .dK _ => True
  | .ins _ _ _ => True
  | _ => False
mutual
theorem rep_apart (h : ∀ b, M b → M' b ∨ ∃ ob, H b = some ob ∧ isMut ob) : ∀ {d : D} {v : V}, noMut d = true → Rep K M' H d v → Rep K M H d v
  | .non, _, _, r => by unfold Rep at r ⊢; exact r
  | .bl _, _, _, r => by unfold Rep at r ⊢; exact r
  | .int _, _, _, r => by unfold Rep at r ⊢; exact r
  | .str _, _, _, r => by unfold Rep at r ⊢; exact r
  | .hnd _, _, _, r => by unfold Rep at r ⊢; exact r
  | .lst _, _, n, _ => by cases n
  | .dic _ _, _, n, _ => by cases n
  | .ins _ _ _, _, n, _ => by cases n
  | .lam _ _, _, _, r => by
    unfold Rep at r ⊢
    refine ⟨r.1, fun p hp => ⟨fun z => ?_, (r.2 p hp).2⟩⟩
    rcases h _ z with z | ⟨ob, e, z⟩
    · exact (r.2 p hp).1 z
    · rw [(r.2 p hp).2] at e; cases e; exact z
  | .tup ds, _, n, r => by
    unfold Rep at r ⊢
    obtain ⟨a, xs, e, t, rs⟩ := r
    refine ⟨a, xs, e, ?_, reps_apart h (by unfold noMut at n; exact n) rs⟩
    rcases t with ⟨m, t⟩ | t
    · refine .inl ⟨fun z => ?_, t⟩
      rcases h _ z with z | ⟨ob, e, z⟩
      · exact m z
      · rcases t with t | ⟨o, t⟩
        · rw [t] at e; cases e; exact z
        · rw [t] at e; cases e; exact z
    · exact .inr t
theorem reps_apart (h : ∀ b, M b → M' b ∨ ∃ ob, H b = some ob ∧ isMut ob) : ∀ {ds : List D} {vs : List V}, noMuts ds = true → Reps K M' H ds vs → Reps K M H ds vs
  | [], _, _, r => by unfold Reps at r ⊢; exact r
  | _ :: _, _, n, r => by
    unfold noMuts at n
    obtain ⟨n1, n2⟩ := Bool.and_eq_true_iff.mp n
    obtain ⟨v, vs, rfl, r1, r2⟩ := r.inv
    exact reps_cons (rep_apart h n1 r1) (reps_apart h n2 r2)
end
mutual
theorem rep_apartI (h : ∀ b, M b → M' b ∨ ∃ C dx fs, H b = some (.ins C dx fs)) : ∀ {d : D} {v : V}, noIns d = true → Rep K M' H d v → Rep K M H d v
  | .non, _, _, r => by unfold Rep at r ⊢; exact r
  | .bl _, _, _, r => by unfold Rep at r ⊢; exact r
  | .int _, _, _, r => by unfold Rep at r ⊢; exact r
  | .str _, _, _, r => by unfold Rep at r ⊢; exact r
  | .hnd _, _, _, r => by unfold Rep at r ⊢; exact r
  | .ins _ _ _, _, n, _ => by cases n
  | .lam _ _, _, _, r => by
    unfold Rep at r ⊢
    refine ⟨r.1, fun p hp => ⟨fun z => ?_, (r.2 p hp).2⟩⟩
    rcases h _ z with z | ⟨_, _, _, e⟩
    · exact (r.2 p hp).1 z
    · rw [(r.2 p hp).2] at e; cases e
  | .tup ds, _, n, r => by
    unfold Rep at r ⊢
    obtain ⟨a, xs, e, t, rs⟩ := r
    refine ⟨a, xs, e, ?_, reps_apartI h (by unfold noIns at n; exact n) rs⟩
    rcases t with ⟨m, t⟩ | t
    · refine .inl ⟨fun z => ?_, t⟩
      rcases h _ z with z | ⟨_, _, _, e⟩
      · exact m z
      · rcases t with t | ⟨o, t⟩ <;> (rw [t] at e; cases e)
    · exact .inr t
  | .lst ds, _, n, r => by
    unfold Rep at r ⊢
    obtain ⟨a, xs, e, t, rs⟩ := r
    refine ⟨a, xs, e, ?_, reps_apartI h (by unfold noIns at n; exact n) rs⟩
    rcases t with ⟨m, t⟩ | t
    · refine .inl ⟨fun z => ?_, t⟩
      rcases h _ z with z | ⟨_, _, _, e⟩
      · exact m z
      · rcases t with t | ⟨o, t⟩ <;> (rw [t] at e; cases e)
    · exact .inr t
  | .dic ks ds, _, n, r => by
    unfold Rep at r ⊢
    obtain ⟨a, us, e, m, l, t, rs⟩ := r
    refine ⟨a, us, e, fun z => ?_, l, t, reps_apartI h (by unfold noIns at n; exact n) rs⟩
    rcases h _ z with z | ⟨_, _, _, e⟩
    · exact m z
    · rw [t] at e; cases e
theorem reps_apartI (h : ∀ b, M b → M' b ∨ ∃ C dx fs, H b = some (.ins C dx fs)) : ∀ {ds : List D} {vs : List V}, noInss ds = true → Reps K M' H ds vs → Reps K M H ds vs
  | [], _, _, r => by unfold Reps at r ⊢; exact r
  | _ :: _, _, n, r => by
    unfold noInss at n
    obtain ⟨n1, n2⟩ := Bool.and_eq_true_iff.mp n
    obtain ⟨v, vs, rfl, r1, r2⟩ := r.inv
    exact reps_cons (rep_apartI h n1 r1) (reps_apartI h n2 r2)
end
mutual
theorem Own.mut : ∀ {t : O} {o : AS} {v : V}, Own K M H t o v → ∀ b, o b → ∃ ob, H b = some ob ∧ isMut ob
  | .d _, _, _, h, b, hb => by
    unfold Own at h
    rw [h.1] at hb
    exact hb.elim
  | .l _, _, _, h, b, hb => by
    unfold Own at h
    obtain ⟨a, xs, o', _, h1, _, e, r⟩ := h
    rw [e] at hb
    rcases hb with rfl | hb
    · exact ⟨_, h1, trivial⟩
    · exact Owns.mut r b hb
  | .t _ _, _, _, h, b, hb => by
    unfold Own at h
    obtain ⟨a, us, o', _, _, h1, _, e, r⟩ := h
    rw [e] at hb
    rcases hb with rfl | hb
    · exact ⟨_, h1, trivial⟩
    · exact Owns.mut r b hb
  | .i a _ _ _, _, _, h, b, hb => by
    unfold Own at h
    obtain ⟨dx, us, o', _, _, h1, _, e, r⟩ := h
    rw [e] at hb
    rcases hb with rfl | hb
    · exact ⟨_, h1, trivial⟩
    · exact Owns.mut r b hb
theorem Owns.mut : ∀ {ts : List O} {o : AS} {vs : List V}, Owns K M H ts o vs → ∀ b, o b → ∃ ob, H b = some ob ∧ isMut ob
  | [], _, _, h, b, hb => by
    unfold Owns at h
    rw [h.1] at hb
    exact hb.elim
  | _ :: _, _, _, h, b, hb => by
    unfold Owns at h
    obtain ⟨v, r, o1, o2, _, _, e, h1, h2⟩ := h
    rw [e] at hb
    rcases hb with hb | hb
    · exact Own.mut h1 b hb
    · exact Owns.mut h2 b hb
end
end
def lentOk : Sl → D → Bool
  | .un, _ => true
  | .d _, _ => true
  | .mi _ _ _ _, d => noIns d
  | _, d => noMut d
section
variable {X : Cx} {W : Wd} {K : PySem.W.Frag} {e : Expr} {es : List Expr} {M0 : Addr → Prop} {H0 H H' : Hp} {oa : Nat → AS} {σ : L2.St} {ds : List Sl}
theorem Sat.fz' (S : Sat K W M0 H0 oa H σ ds) (i : Nat) : ∃ oa', Sat K W M0 H0 oa' H σ (VL.fz i ds) ∧ (∀ j, j ≠ i → oa' j = oa j) := by
  by_cases hi : i < ds.length
  · have hg : ds.getD i .un = ds[i] := by simp [List.getD_eq_getElem?_getD, hi]
    have hs := S.slot i ds[i] (by simp [hi])
    have fin : ∀ {v : V} {x : D}, VL.fz i ds = ds.set i (.d x) → σ[i]? = some (some v) → ((∀ a, oa i a → ¬ Mx M0 (oaDel oa i) a) → Car (Mx M0 oa) (Mx M0 (oaDel oa i)) H H → Rep K (Mx M0 (oaDel oa i)) H x v) → ∃ oa', Sat K W M0 H0 oa' H σ (VL.fz i ds) ∧ (∀ j, j ≠ i → oa' j = oa j) := fun ed e2 h => by
      rw [ed]
      exact ⟨_, S.fzd hi e2 h, fun j hj => by unfold oaDel; rw [if_neg hj]⟩
    cases q : ds[i] with
    | un =>
      refine ⟨oa, ?_, fun _ _ => rfl⟩
      have : VL.fz i ds = ds := by unfold VL.fz; rw [hg, q]; show ds.set i .un = ds; rw [← q]; simp
      rw [this]; exact S
    | d x =>
      refine ⟨oa, ?_, fun _ _ => rfl⟩
      have : VL.fz i ds = ds := by unfold VL.fz; rw [hg, q]; show ds.set i (.d x) = ds; rw [← q]; simp
      rw [this]; exact S
    | ml l =>
      rw [q] at hs
      obtain ⟨a, xs, e1, e2, e3, r⟩ := hs
      exact fin (by unfold VL.fz; rw [hg, q]; rfl) e2 fun nm c => rep_lst (.inl ⟨nm a (by rw [e1]; rfl), .inl e3⟩) (r.car c)
    | md ks l =>
      rw [q] at hs
      obtain ⟨a, us, e1, e2, e3, e4, r⟩ := hs
      exact fin (by unfold VL.fz; rw [hg, q]; rfl) e2 fun nm c => rep_dic (nm a (by rw [e1]; rfl)) e3 e4 (r.car c)
    | mi a C ks l =>
      rw [q] at hs
      obtain ⟨dx, us, e1, e2, e3, e4, r⟩ := hs
      exact fin (by unfold VL.fz; rw [hg, q]; rfl) e2 fun nm c => rep_ins (nm a (by rw [e1]; rfl)) e3 e4 (r.car c)
    | ow t =>
      rw [q] at hs
      obtain ⟨v, e2, r⟩ := hs
      exact fin (by unfold VL.fz; rw [hg, q]; rfl) e2 fun nm c => r.rep c nm
  · refine ⟨oa, ?_, fun _ _ => rfl⟩
    have : VL.fz i ds = ds := by unfold VL.fz; rw [List.set_eq_of_length_le (by omega)]
    rw [this]; exact S
theorem Sat.lent (S : Sat K W M0 H0 oa H σ ds) {i : Nat} {oa' : Nat → AS} (ho : ∀ j, j ≠ i → oa' j = oa j) (e : Ext W H H') {d : D} {v : V} (hd : lentOk (ds.getD i .un) d = true) (r : Rep K (Mx M0 oa') H' d v) : Rep K (Mx M0 oa) H' d v := by
  have sub : ∀ b, Mx M0 oa b → Mx M0 oa' b ∨ oa i b := fun b h => by
    rcases h with h | ⟨j, h⟩
    · exact .inl (.inl h)
    · by_cases hj : j = i
      · rw [hj] at h; exact .inr h
      · exact .inl (.inr ⟨j, by rw [ho j hj]; exact h⟩)
  have none' : oa i = no1 → Rep K (Mx M0 oa) H' d v := fun z => r.car fun b o n q => ⟨fun y => (sub b y).elim n fun y => by rw [z] at y; exact y.elim, q⟩
  have keep : ∀ b ob, oa i b → H b = some ob → H' b = some ob := fun b ob h q => e b ob (S.own_nA h) q
  by_cases hi : i < ds.length
  · have hs := S.slot i ds[i] (by simp [hi])
    have hg : ds.getD i .un = ds[i] := by simp [List.getD_eq_getElem?_getD, hi]
    rw [hg] at hd
    cases q : ds[i] with
    | un => rw [q] at hs; exact none' hs
    | d x => rw [q] at hs; exact none' hs.1
    | ml l =>
      rw [q] at hs hd
      obtain ⟨a, xs, e1, e2, e3, _⟩ := hs
      refine rep_apart (fun b hb => (sub b hb).imp id fun z => ?_) hd r
      have z0 := z
      rw [e1] at z
      cases (show b = a from z)
      exact ⟨_, keep _ _ z0 e3, trivial⟩
    | md ks l =>
      rw [q] at hs hd
      obtain ⟨a, us, e1, e2, _, e3, _⟩ := hs
      refine rep_apart (fun b hb => (sub b hb).imp id fun z => ?_) hd r
      have z0 := z
      rw [e1] at z
      cases (show b = a from z)
      exact ⟨_, keep _ _ z0 e3, trivial⟩
    | mi a C ks l =>
      rw [q] at hs hd
      obtain ⟨dx, us, e1, e2, _, e3, _⟩ := hs
      refine rep_apartI (fun b hb => (sub b hb).imp id fun z => ?_) hd r
      have z0 := z
      rw [e1] at z
      cases (show b = a from z)
      exact ⟨_, _, _, keep _ _ z0 e3⟩
    | ow t =>
      rw [q] at hs hd
      obtain ⟨u, e2, ro⟩ := hs
      refine rep_apart (fun b hb => (sub b hb).imp id fun z => ?_) hd r
      obtain ⟨ob, h1, h2⟩ := ro.mut b z
      exact ⟨ob, keep _ _ z h1, h2⟩
  · exact none' (S.out i (by omega))
theorem ve_lend (i : Nat) {w : WE} (h : VE X W e w) : VE X W e (fun ds P => w (fz i ds) fun d => lentOk (ds.getD i .un) d = true ∧ P d) := pe_imp h fun σ H Q ⟨M0, H0, oa, ds, P, S, hw, k⟩ => by
  obtain ⟨oa', S', ho⟩ := S.fz' i
  exact ⟨M0, H0, oa', _, _, S', hw, fun d v H' (hp : lentOk (ds.getD i .un) d = true ∧ P d) e1 i1 r => k d v H' hp.2 e1 i1 (S.lent ho e1 hp.1 r)⟩
end
section
variable {X : Cx} {W : Wd} {e : Expr} {es : List Expr} {pos p apos cpos : Pos} {x : Str}
end
section
variable {X : Cx} {W : Wd} {K : PySem.W.Frag} {M M0 : Addr → Prop} {H0 H H' : Hp} {oa : Nat → AS} {σ : L2.St} {ds : List Sl}
theorem Owns.len : ∀ {ts : List O} {o : AS} {vs : List V}, Owns K M H ts o vs → vs.length = ts.length
  | [], _, _, h => by unfold Owns at h; rw [h.2]; rfl
  | _ :: _, _, _, h => by
    unfold Owns at h
    obtain ⟨v, r, o1, o2, rfl, _, _, _, h2⟩ := h
    simp [Owns.len h2]
end
section
variable {X : Cx} {W : Wd} {e o k v value : Expr} {es : List Expr} {pos pos' p apos cpos sp kp : Pos} {x f : Str}
end
section
variable {P : Program} {w : World} {K : PySem.W.Frag} {mg : Str → Option Value} {base : Heap} {W : Wd} {x qual : Str} {st : Stmt} {f C : Addr} {fd : FuncData} {N ps : List Str} {k : Nat} {g : List D → (O → Prop) → (D → Prop) → Prop}
end
section
variable {X : Cx} {W : Wd} {e o : Expr} {es : List Expr} {pos pos' p apos cpos : Pos} {x y m : Str} {C f : Addr} {fd : FuncData} {ps : List Str} {k : Nat} {PX : D → Prop} {l : WL} {dvs : List V} {dds : List D}
end
section
variable {X : Cx} {W : Wd} {K : PySem.W.Frag} {pos : Pos} {vs : List Nat} {σ : L2.St} {H : Hp}
end
end VL
set_option Elab.async false
set_option linter.all false
set_option maxRecDepth 100000
set_option maxHeartbeats 2000000
set_option exponentiation.threshold 20000
namespace VL
open PySem L2
def Six (m : Nat) (d : D) : Prop := ∃ n, AmtD n d ∧ ∃ z : Int, qD d * 6 = (z : Rat) ∧ z.natAbs ≤ 18 * m
theorem Six.zero : Six 0 zeroD := ⟨1, zero_amt, 0, by rw [q_zero]; decide +kernel, Nat.le_refl _⟩
theorem Six.plus {m k : Nat} {x y : D} (hx : Six m x) (hy : Six k y) : Six (m + k) (plusD x y) := by
  obtain ⟨n, A, z, e, h⟩ := hx
  obtain ⟨n', B, z', e', h'⟩ := hy
  refine ⟨_, plus_amt A B, z + z', ?_, by omega⟩
  rw [q_plus A B, Rat.add_mul, e, e', Rat.intCast_add]
theorem Six.mono {m k : Nat} {d : D} (h : Six m d) (hk : m ≤ k) : Six k d := by
  obtain ⟨n, A, z, e, hz⟩ := h
  exact ⟨n, A, z, e, by omega⟩
end VL
set_option Elab.async false
set_option linter.all false
set_option maxRecDepth 100000
set_option maxHeartbeats 4000000
namespace VL
open PySem PySem.Spec PyProof.Rows L2
section
variable {X : Cx} {W : Wd} {K : PySem.W.Frag} {e a b c o : Expr} {es : List Expr} {pos p apos cpos : Pos} {x : Str}
theorem ve_methD (cs : List Addr) {m : Str} {pl : Sem Bool} {k : Nat} {f : Addr} {fd : FuncData} {ps : List Str} {g : List D → (D → Prop) → Prop} {w : WE} {l : WL} (he : VE X W o w) (hc : ∀ C ∈ cs, Cls X.K C ∧ Meth X.K C m f) (F : FnOk X.prog X.w X.K X.mg X.base CX0 k f fd ps (spD X.K W g)) (hr : Room k X.A)
    (hb : Binds X.K fd ps []) (ha : VA X W (e :: es) l)
    (hst : starEach (e :: es) X.env = (false, eval e X.env) :: starEach es X.env := by rfl) (hpl : (backTo pos (starEach es X.env)).any (·.1) = false := by rfl)
    (ht : eval (.Call (.Attribute o m apos) (e :: es) [] pos) X.env = (do
      let ov ← eval o X.env
      standAt apos.atName
      let (f, first) ← holding [ov] (getMethod ov m pl)
      callWith pos f first (backTo pos (starEach (e :: es) X.env)) (backToKw pos (keywordEach [] X.env))) := by rfl) :
    VE X W (.Call (.Attribute o m apos) (e :: es) [] pos) (fun ds P => w ds fun x => insD cs m x fun x => l ds fun xs => g (x :: xs) P) := by
  refine pe_imp (pe_methC (cs := cs) (dvs := []) he hc F hr hb .nil (E := fun _ _ _ => False) (fun _ _ _ _ _ _ _ z => z.elim) ha hst hpl ht) fun σ H Q h => ?_
  obtain ⟨M0, H0, oa, ds, P, S, hw, kk⟩ := h
  refine ⟨M0, H0, oa, ds, _, S, hw, fun x v H1 hx e1 i1 r1 => ?_⟩
  obtain ⟨C, ks, ys, rfl, hC, hl, hx⟩ := insD_of hx
  have S1 := S.step e1 i1
  have r1' := r1
  obtain ⟨a, dx, us, rfl, nm, l0, t0, r⟩ := r1'.ins
  refine ⟨a, C, dx, _, rfl, hC, t0, (lkp_fs (f := m) r l0).2 hl, M0, H0, oa, ds, _, S1, hx, fun xs vs H2 hx2 e2 i2 r2 => ?_⟩
  have S2 := S1.step e2 i2
  show spD X.K W g (V.ref a :: (vs ++ [])) H2 Q _
  rw [List.append_nil]
  exact ⟨Mx M0 oa, .ins C ks ys :: xs, P, S2.mok, reps_cons (r1.ext S1.mok e2) r2, hx2, fun d v H' hp e i r => kk d v H' hp ((e1.trans e2).trans e) i r⟩
end
end VL
set_option Elab.async false
set_option linter.all false
set_option maxRecDepth 100000
set_option maxHeartbeats 4000000
namespace VL
open PySem PySem.Spec PyProof.Rows L2
section
variable {X : Cx} {W : Wd} {K : PySem.W.Frag} {e : Expr} {es : List Expr} {pos : Pos}
theorem none_back {W : Wd} {H H1 : Hp} {p : Addr} (e1 : Ext W H H1) (i1 : W.I H1) (hp : H1 p = none) : H p = none := by
  have nA : ¬ W.A p := fun z => W.live _ _ i1 z hp
  cases q : H p with
  | none => rfl
  | some o => rw [e1 p o nA q] at hp; cases hp
theorem reps_new {M0 : Addr → Prop} {oa : Nat → AS} {H1 : Hp} {xs : List D} {vs : List V} {p : Addr} (hp : H1 p = none) (r : Reps K (Mx M0 oa) H1 xs vs) : Reps K (Mx (fun a => M0 a ∨ a = p) oa) (upd H1 p (.lst vs)) xs vs := by
  refine r.car fun b o n h => ?_
  have hb : b ≠ p := fun z => by rw [z, hp] at h; cases h
  refine ⟨fun z => ?_, by rw [upd_ne hb]; exact h⟩
  rcases z with (z | z) | z
  · exact n (.inl z)
  · exact hb z
  · exact n (.inr z)
def wLstO (l : WL) : WL := fun ds P => l ds fun xs => xs.length ≤ 1000000 ∧ P xs
theorem leo_lst {l : WL} (h : VA X W es l) : PE X (.List es pos) (LEo X.K W (wLstO l)) := by
  refine pe_imp (pe_lst h) fun σ H Q h => ?_
  obtain ⟨M0, H0, oa, ds, P, S, hw, k⟩ := h
  refine ⟨M0, H0, oa, ds, _, S, hw, fun xs vs H1 hx e1 i1 r1 => ⟨by rw [r1.len]; exact million hx.1, fun p hp => ?_⟩⟩
  exact k xs vs p _ hx.2 (none_back e1 i1 hp) (e1.trans (Full.new hp).ext) (W.keep _ _ i1 (Full.new hp)) upd_same (reps_new hp r1)
end
end VL
set_option Elab.async false
set_option linter.all false
set_option maxRecDepth 100000
set_option maxHeartbeats 4000000
set_option exponentiation.threshold 20000
namespace VL
open PySem PySem.Spec PyProof.Rows L2
end VL
set_option Elab.async false
set_option linter.all false
set_option maxRecDepth 100000
set_option maxHeartbeats 2000000
set_option exponentiation.threshold 20000
namespace VL
open PySem L2
end VL
set_option Elab.async false
set_option linter.all false
set_option maxRecDepth 100000
set_option maxHeartbeats 4000000
namespace VL
open PySem PySem.Spec PyProof.Rows L2 PySem.Calls
section
variable {X : Cx} {W : Wd} {C : Addr} {x : Str} {p pos : Pos}
end
section
variable {X : Cx} {W : Wd} {o : Expr} {pos apos : Pos}
end
theorem Reps.set {K : PySem.W.Frag} {M : Addr → Prop} {H : Hp} {d : D} {v : V} (h : Rep K M H d v) : ∀ {l : List D} {xs : List V} (n : Nat), Reps K M H l xs → Reps K M H (l.set n d) (xs.set n v)
  | [], _, _, r => by rw [r.inv0]; exact reps_nil
  | _ :: _, _, 0, r => by
    obtain ⟨u, us, rfl, r1, r2⟩ := r.inv
    exact reps_cons h r2
  | _ :: _, _, n + 1, r => by
    obtain ⟨u, us, rfl, r1, r2⟩ := r.inv
    exact reps_cons r1 (Reps.set h n r2)
theorem asInt_ofD {d : D} {P : Int → Prop} (h : asInt d P) : ∃ i, d = .int i ∧ P i := by
  cases d <;> first | exact h.elim | exact ⟨_, rfl, h⟩
section
variable {X : Cx} {W : Wd} {k v : Expr} {x y : Str} {p sp pos px py pt : Pos}
def wLPut (i : Nat) (wk wv : WE) : WS := fun E ds => mlS (ds.getD i .un) fun xs => wv ds fun d => wk ds fun k => asInt k fun j => ∃ n, ixN xs.length j = some n ∧ E.nx (ds.set i (.ml (xs.set n d)))
theorem vs_lput (i : Nat) {wk wv : WE} (hk : VE X W k wk) (hval : VE X W v wv) (hN : X.N[i]? = some x := by rfl) (hv : Vis X.env.scope x := by first | exact Or.inl rfl | exact Or.inr (Or.inl rfl) | exact Or.inr (Or.inr rfl))
    (hd : (x == ("__debug__" : Str)) = false := by decide) (hcd : (x == ("__classdict__" : Str)) = false := by decide) (hs : swapsWithSole [.Subscript (.Name x p) k sp] v pos.line X.env = pure false := by rfl) (hw : swappedStores [.Subscript (.Name x p) k sp] v X.env = pure none := by rfl)
    (ha : ∀ u, assign (.Subscript (.Name x p) k sp) X.env u = (do
      let ov ← holding [u] (eval (.Name x p) X.env)
      let iv ← holding [u, ov] (eval k X.env)
      standAt sp
      holding [u, ov, iv] (setItem ov iv u)
      release [u, ov, iv] []) := by intro _; rfl) :
    VS X W (.Assign [.Subscript (.Name x p) k sp] v pos) (wLPut i wk wv) := by
  refine ps_imp (ps_asg hval (pg_sub (pe_var hN hv hd hcd) hk set_list ha) hs hw) fun D σ H h => ?_
  obtain ⟨M0, H0, oa, ds, E, S, hw, k1, k2, k3, k4⟩ := h
  obtain ⟨l, a, xs, g1, hw, g2, g3, g4, g5⟩ := S.ml hw
  refine ⟨M0, H0, oa, ds, _, S, hw, fun d u H1 hd e1 i1 r1 => ?_⟩
  have S1 := S.step e1 i1
  refine ⟨.ref a, g3, ?_⟩
  refine ⟨M0, H0, oa, ds, _, S1, hd, fun kd kv H2 hk2 e2 i2 r2 => ?_⟩
  obtain ⟨j, rfl, n, hn, q⟩ := asInt_ofD hk2
  have S2 := S1.step e2 i2
  have nA : ¬ W.A a := S.own_nA (i := i) (by rw [g2]; rfl)
  have h2 : H2 a = some (.lst xs) := e2 a _ nA (e1 a _ nA g4)
  refine ⟨a, xs, j, n, rfl, r2.int, h2, by rw [g5.len]; exact hn, ?_⟩
  exact k1 _ _ _ _ q (S2.mut g1 g2 g3 (Reps.set (r1.ext S1.mok e2) n ((g5.ext S.mok e1).ext S1.mok e2)))
end
end VL
set_option Elab.async false
set_option linter.all false
set_option maxRecDepth 100000
set_option maxHeartbeats 2000000
set_option exponentiation.threshold 20000
namespace VL
open PySem PySem.Spec PyProof.Rows L2
section
variable {X : Cx} {W : Wd} {pos : Pos}
end
section
open PySem.AutoSeq1
end
section
variable {X : Cx} {W : Wd} {pos : Pos}
end
end VL
set_option Elab.async false
set_option linter.all false
set_option maxRecDepth 100000
set_option maxHeartbeats 2000000
set_option exponentiation.threshold 20000
namespace VL
open PySem PySem.Spec PyProof.Rows L2
section
variable {X : Cx} {W : Wd} {o e : Expr} {es : List Expr} {pos apos : Pos}
end
end VL
set_option Elab.async false
set_option linter.all false
set_option maxRecDepth 100000
set_option maxHeartbeats 2000000
set_option exponentiation.threshold 20000
namespace VL
open PySem PySem.Spec PyProof.Rows L2
section
variable {X : Cx} {W : Wd} {e : Expr} {es : List Expr} {pos p : Pos} {x : Str} {k : Nat} {f : Addr} {PX : D → Prop}
end
end VL
set_option Elab.async false
set_option linter.all false
set_option maxRecDepth 100000
set_option maxHeartbeats 2000000
set_option exponentiation.threshold 20000
namespace VL
open PySem PySem.Spec PyProof.Rows L2
section
variable {CX : CXT} {P : Program} {w : World} {K : PySem.W.Frag} {mg : Str → Option Value} {base : Heap} {ps : List Str} {qual : Str} {scope : Scope} {f cc D : Addr} {cd : Value} {A : Around} {outer : List Env} {s : Shared} {H : Hp} {E : XK} {vs : List V} {us : List Value} {h1 : Heap} {tk : Nat} {cl : Value} {cld : Option Addr} {csl : Array (Option Value)}
end
section
variable {X : Cx} {st0 : List Stmt} {e : Expr} {es : List Expr} {te : TE} {t : TA} {pos p : Pos} {k : Nat} {f : Addr} {fd : FuncData} {ps : List Str} {ds : List Value} {dvs : List V} {sp : Sp} {E : XK} {x : Str} {CX : CXT}
end
end VL
set_option Elab.async false
set_option linter.all false
set_option maxRecDepth 100000
set_option maxHeartbeats 4000000
namespace VL
open PySem PySem.Spec PyProof.Rows L2
open PySem.W (excTail excOver excTail_contains excTail_pass osa_openX)
structure Fam where
  B : String
  nw : String
  ini : String
  tail : List Value
  eb : ExcBaseFacts B nw ini tail
  sf : StoreFacts B tail "object.__setattr__" "object"
  hi : PySem.W.handedIn (.builtin ini) = true
structure OxT (m : Fam) (K : PySem.W.Frag) (C : Addr) : Prop where
  made : ∃ nm q N bs bm sn sub ab col dd k0 k1 k2 k3 k5, K.lookup C = some (excClassObj nm q C N bs bm true sn sub ab col dd k0 k1 k2 k3 k5 m.nw) ∧ excTail m.tail bm = true
  sets : PySem.W.findIn K (Value.ref C) "__setattr__" = some (some (Value.builtin "object.__setattr__"))
  isEx : PySem.W.subIn K (Value.ref C) (Value.type "BaseException") = some true
  isTy : PySem.W.typeIn K (Value.ref C) = some (Value.type "type")
  kept : PySem.W.keepIn K (Value.ref C) = true
theorem OxT.cl {m : Fam} {K : PySem.W.Frag} {C : Addr} (T : OxT m K C) : ∃ cd, PySem.W.clsIn K C = some cd ∧ cd.hasDict = true ∧ excOver K C m.tail = true := by
  obtain ⟨nm, q, N, bs, bm, sn, sub, ab, col, dd, k0, k1, k2, k3, k5, hC, ht⟩ := T.made
  have e : PySem.W.clsIn K C = some { name := nm, bases := bs, mro := Value.ref C :: bm, ns := N, qualname := q, hasDict := true, slotNames := sn, subclasses := sub, abstract := ab, collection := col, hasDel := false } := by
    unfold PySem.W.clsIn
    rw [hC] <;> rfl
  refine ⟨_, e, rfl, ?_⟩
  unfold excOver
  rw [e]
  show (C == C && excTail m.tail bm) = true
  rw [ht]
  simp
section
variable {prog : Program} {w : World} {A : Around} {R : Result → Shared → Prop} {hp : Heap} {g : Array GenState} {d : Drawn} {t : Nat} {os : OsState}
end
section
variable {m : Fam} {X : Cx} {pins : List (Addr × Obj)} {σ : L2.St} {H : Hp} {s : Shared} {a C dx : Addr} {f : Str} {y : V} {u : Value} {fs : List (Str × V)} {Q : Unit → Shared → Prop} {E : Value → Shared → Prop} {A : Around}
end
section
variable {m : Fam} {X : Cx} {W : Wd} {o e : Expr} {es : List Expr} {to te : TE} {ta : TA} {l : WL} {f x : Str} {C fI : Addr} {k n : Nat} {F : XF} {fd : FuncData} {ps : List Str} {PX : D → Prop} {p p' p1 p2 pos pos2 : Pos}
end
end VL
set_option Elab.async false
set_option linter.all false
set_option maxRecDepth 100000
set_option maxHeartbeats 4000000
namespace VL
open PySem PySem.Spec PyProof.Rows L2
def prF (K : PySem.W.Frag) (p : Addr) : Addr := match PySem.W.recIn K p "property" with
  | some (.ref f :: _) => f
  | _ => 0
structure SupD where
  at_ : Str × Option Str
  name : Str
  qual : Str
  params : Arguments
  body : List Stmt
  scope : Scope
  prop : Bool := false
def SupD.ad (K : PySem.W.Frag) (d : SupD) : Addr := match d.prop with
  | false => He.fAd K d.at_
  | true => prF K (He.fAd K d.at_)
def SupD.clo (d : SupD) : List Str := match d.prop with
  | false => [("__class__" : Str)]
  | true => []
abbrev FnS : Type := Option (Str × Str × Arguments × FuncBody × Scope × Addr × List Str × Addr)
def fnS (K : PySem.W.Frag) (d : SupD) : FnS := match K.lookup (d.ad K) with
  | some ⟨_, _, .func fd, _⟩ => some (fd.name, fd.qualname, fd.params, fd.body, fd.scope, fd.globals, fd.closure.map (·.1), fd.builtins)
  | _ => none
def SupD.val (d : SupD) : FnS := some (d.name, d.qual, d.params, .stmts d.body, d.scope, mainGlobals, d.clo, builtinsNs)
def obsS (su : List SupD) (K : PySem.W.Frag) : List FnS := su.map fun d => fnS K d
def valS (su : List SupD) : List FnS := su.map SupD.val
def SaysY (fn : List He.DefD) (ex : PySem.W.Frag → Bool) (K : PySem.W.Frag) : Prop := He.SaysD [] fn K ∧ ex K = true
theorem SaysY.d {fn : List He.DefD} {ex : PySem.W.Frag → Bool} {K : PySem.W.Frag} (c : SaysY fn ex K) : He.SaysD [] fn K := c.1
theorem SaysY.more {fn : List He.DefD} {ex : PySem.W.Frag → Bool} {K : PySem.W.Frag} (c : SaysY fn ex K) : ex K = true := c.2
end VL
set_option Elab.async false
set_option linter.all false
set_option maxRecDepth 100000
set_option maxHeartbeats 2000000
set_option exponentiation.threshold 20000
namespace VL
open PySem PySem.Spec PyProof.Rows L2
def codeFileB (K : PySem.W.Frag) (a : Addr) (file : Str) : Bool := match K.lookup a with
  | some ⟨_, _, .fields vs, _⟩ => (match vs[2]? with
    | some (Value.str f _) => f == file
    | _ => false)
  | _ => false
def cellB (K : PySem.W.Frag) (a D : Addr) : Bool := match K.lookup a with
  | some ⟨_, _, .cell (some (.ref d)), _⟩ => d == D
  | _ => false
structure SupX (K : PySem.W.Frag) (file : Str) (name qual : Str) (st : Stmt) (m : Str) (f C D g : Addr) (fd : FuncData) (cda cc : Addr) : Prop where
  ex : ∃ (oc : Value) (od : Option Addr) (kV doc pm : Value) (an : Option Addr) (ct : Value) (osl : Array (Option Value)),
    fd = PySem.W.ksFn name qual (defArgs st) (defBody st) (defScope st) .none kV doc pm an (.ref cda) ct cc ∧ K.lookup f = some ⟨oc, od, .func fd, osl⟩
  hq : PySem.W.codeIn K (.ref cda) qual = true
  hf : codeFileB K cda file = true
  hc : cellB K cc D = true
  cD : (PySem.W.clsIn K D).isSome = true
  up : ((PySem.W.clsIn K C).bind fun cd => PySem.W.alongIn K m ((cd.mro.dropWhile (· != .ref D)).drop 1)) = some (some (.ref g))
  sub : PySem.W.mroIn K C (.ref D) = some true
  ty : PySem.W.typeIn K (.ref g) = some (.type "function")
  fn : PySem.W.fnIn K g = true
  ho : PySem.W.nsIn K cStatics "thirdparty.any" = some none
structure SupF (K : PySem.W.Frag) (file : Str) (name qual : Str) (st : Stmt) (m : Str) (f C D g : Addr) (fd : FuncData) : Prop where
  ex : ∃ cda cc : Addr, SupX K file name qual st m f C D g fd cda cc
class SupP (P : Program) (file : outParam Str) : Prop where
  file : ((P.main.file : Str) == file) = true
  top : (P.main.scope.names.lookup ("super" : Str)).isSome = false
instance {P : Program} {w : World} {K : PySem.W.Frag} {mg : Str → Option Value} {base : Heap} {CX : CXT} {N : List Str} {q : Str} {sc : Scope} {f : Addr} {cdv : Value} {A : Around} {outer : List Env} {s : Shared} {H : Hp} {E : XK} {file : Str} [h : SupP P file] : SupP (cxOf CX P w K mg base N q sc f cdv A outer s H E).prog file := h
instance {X : Cx} {file : Str} [h : SupP X.prog file] : SupP X.nox.prog file := h
theorem SupF.binds {K : PySem.W.Frag} {file name qual : Str} {st : Stmt} {m : Str} {f C D g : Addr} {fd : FuncData} {ps : List Str} (F : SupF K file name qual st m f C D g fd)
    (h : ∀ (kV doc pm : Value) (an : Option Addr) (cdv ct : Value) (cc : Addr) (us : List Value), us.length = ps.length → bindArgs (PySem.W.ksFn name qual (defArgs st) (defBody st) (defScope st) .none kV doc pm an cdv ct cc) ⟨us, []⟩ = pure (ps.zip us)) : Binds K fd ps [] := by
  obtain ⟨cda, cc, ⟨oc, od, kV, doc, pm, an, ct, osl, rfl, lk⟩, _⟩ := F.ex
  exact .all (h kV doc pm an _ ct cc)
section
variable {P : Program} {w : World} {K : PySem.W.Frag} {mg : Str → Option Value} {base : Heap} {W : Wd} {file name qual : Str} {st : Stmt} {m : Str} {f C Dc g : Addr} {fd : FuncData} {ps : List Str}
end
end VL
set_option Elab.async false
set_option linter.all false
set_option maxRecDepth 100000
set_option maxHeartbeats 2000000
namespace PySem.W
open PySem PySem.Calls PyProof.Rows Builtin
section
variable {prog : Program} {w : World} {A : Around} {E : Value → Shared → Prop} {s : Shared} {K : Frag} {x C C' L f f' : Addr} {h₀ : Heap} {m : Str → Option Value} {ox : Obj} {od : Option Obj} {b tb : Value}
end
end PySem.W
namespace VL
open PySem PySem.Spec PyProof.Rows L2
section
variable {X : Cx} {W : Wd} {a b e : Expr} {es : List Expr} {pos : Pos} {k : Nat} {PX : D → Prop}
end
end VL
namespace VL
open PySem PySem.Spec PyProof.Rows L2
section
variable {X : Cx} {W : Wd} {K : PySem.W.Frag} {pos : Pos}
end
end VL
set_option Elab.async false
set_option linter.all false
set_option maxRecDepth 100000
set_option maxHeartbeats 2000000
namespace VL
open PySem PySem.Spec PyProof.Rows L2
section
variable {X : Cx} {W : Wd} {K : PySem.W.Frag} {e o k v : Expr} {es : List Expr} {pos pos' p apos cpos sp kp : Pos} {x y f : Str} {M M0 : Addr → Prop} {H H0 H' : Hp} {oa : Nat → AS}
end
end VL
set_option Elab.async false
set_option linter.all false
set_option maxRecDepth 100000
set_option maxHeartbeats 4000000
namespace VL
open PySem PySem.Spec PyProof.Rows L2
section
variable {K : PySem.W.Frag} {W : Wd} {p : Addr} {us : List V} {vals : List D} {Mb Mf : Addr → Prop} {Hb Hf : Hp} {M0 : Addr → Prop} {H0 H : Hp} {oa : Nat → AS} {σ : L2.St} {ds : List Sl}
end
section
variable {X : Cx} {W : Wd} {e : Expr} {p : Addr} {us : List V} {vals : List D} {Mb Mf : Addr → Prop} {Hb Hf : Hp}
end
section
variable {P : Program} {w : World} {K : PySem.W.Frag} {mg : Str → Option Value} {base : Heap} {W : Wd} {x qual : Str} {st : Stmt} {f C : Addr} {fd : FuncData} {N ps : List Str} {k : Nat} {g : Addr → List D → List D → (List Str → List D → Prop) → Prop}
end
section
variable {K : PySem.W.Frag} {W : Wd} {M0 : Addr → Prop} {H0 H : Hp} {oa : Nat → AS} {σ : L2.St} {ds : List Sl}
end
section
variable {X : Cx} {W : Wd} {e : Expr} {es : List Expr} {pos p : Pos} {x : Str}
variable {C f : Addr} {fd : FuncData} {ps : List Str} {k n : Nat} {g : Addr → List D → List D → (List Str → List D → Prop) → Prop} {PX : D → Prop} {l lk : WL}
end
end VL
set_option Elab.async false
set_option linter.all false
set_option maxRecDepth 100000
set_option maxHeartbeats 4000000
namespace VL
open PySem PySem.Spec PyProof.Rows L2
structure RO where
  C : Addr
  ks : List Str
  xs : List D
abbrev Reg := Addr → Option RO
def Reg.at (R : Reg) (b : Addr) : Prop := ∃ o, R b = some o
structure RgOk (K : PySem.W.Frag) (W : Wd) (M : Addr → Prop) (H : Hp) (R : Reg) : Prop where
  st : ∀ a o, R a = some o → ∃ (dx : Addr) (us : List V), us.length = o.ks.length ∧ H a = some (.ins o.C dx (o.ks.zip us)) ∧ Reps K M H o.xs us
  ms : ∀ a, Reg.at R a → M a
  na : ∀ a, Reg.at R a → ¬ W.A a
  nb : ∀ a, Reg.at R a → ¬ W.B a
structure RF where
  M : Addr → Prop
  H : Hp
  R : Reg
structure Lat (W : Wd) (F : RF) (M : Addr → Prop) (H : Hp) (R : Reg) : Prop where
  m : ∀ b, M b ↔ F.M b ∨ Reg.at R b
  up : ∀ b, Reg.at F.R b → Reg.at R b
  fr : ∀ b, Reg.at R b → Reg.at F.R b ∨ F.H b = none
  k : ∀ b o, ¬ W.A b → ¬ Reg.at F.R b → F.H b = some o → H b = some o
section
variable {K : PySem.W.Frag} {W : Wd} {M M' M0 : Addr → Prop} {H H' H0 : Hp} {R R' : Reg} {F : RF}
theorem RgOk.at_ (G : RgOk K W M H R) {b : Addr} (h : Reg.at R b) : M b ∧ ¬ W.A b ∧ ¬ W.B b ∧ ∃ C dx fs, H b = some (.ins C dx fs) := by
  obtain ⟨o, ho⟩ := h
  obtain ⟨dx, us, _, e, _⟩ := G.st b o ho
  exact ⟨G.ms b ⟨o, ho⟩, G.na b ⟨o, ho⟩, G.nb b ⟨o, ho⟩, _, _, _, e⟩
theorem RgOk.live (G : RgOk K W M H R) {b : Addr} (h : Reg.at R b) : H b ≠ none := by
  obtain ⟨_, _, _, C, dx, fs, e⟩ := G.at_ h
  rw [e]
  simp
theorem RgOk.move (G : RgOk K W M H R) (hm : ∀ b, Reg.at R b → M' b) (hr : ∀ b, Reg.at R b → H' b = H b) (c : Car M M' H H') : RgOk K W M' H' R := by
  refine ⟨fun a o ho => ?_, hm, G.na, G.nb⟩
  obtain ⟨dx, us, l, e, r⟩ := G.st a o ho
  exact ⟨dx, us, l, (hr _ ⟨o, ho⟩).trans e, r.car c⟩
theorem RgOk.ext (G : RgOk K W M H R) (wm : ∀ a, W.A a → M a) (e : Ext W H H') : RgOk K W M H' R := by
  refine G.move (fun b h => (G.at_ h).1) (fun b h => ?_) fun b o n h => ⟨n, e b o (fun z => n (wm b z)) h⟩
  obtain ⟨_, na, _, C, dx, fs, q⟩ := G.at_ h
  rw [q]
  exact e b _ na q
theorem Lat.ext (L : Lat W F M H R) (e : Ext W H H') : Lat W F M H' R := ⟨L.m, L.up, L.fr, fun b o n1 n2 h => e b o n1 (L.k b o n1 n2 h)⟩
theorem Lat.refl (G : RgOk K W M H R) : Lat W ⟨M, H, R⟩ M H R := ⟨fun b => ⟨.inl, fun h => h.elim id fun z => (G.at_ z).1⟩, fun _ h => h, fun _ h => .inl h, fun _ _ _ _ h => h⟩
theorem Lat.trans {M1 M2 : Addr → Prop} {H1 H2 : Hp} {R1 R2 : Reg} (a : Lat W F M1 H1 R1) (b : Lat W ⟨M1, H1, R1⟩ M2 H2 R2) (lv : ∀ a, W.A a → H1 a ≠ none) : Lat W F M2 H2 R2 := by
  refine ⟨fun x => (b.m x).trans ⟨fun z => ?_, fun z => ?_⟩, fun x h => b.up x (a.up x h), fun x h => ?_, fun x o n1 n2 h => ?_⟩
  · rcases z with z | z
    · exact ((a.m x).mp z).imp id (b.up x)
    · exact .inr z
  · rcases z with z | z
    · exact .inl ((a.m x).mpr (.inl z))
    · exact .inr z
  · rcases b.fr x h with h | h
    · exact a.fr x h
    · have h : H1 x = none := h
      cases q : F.H x with
      | none => exact .inr rfl
      | some o =>
        by_cases hR : Reg.at F.R x
        · exact .inl hR
        · have nA : ¬ W.A x := fun z => lv x z h
          rw [a.k x o nA hR q] at h
          cases h
  · refine b.k x o n1 (fun z => ?_) (a.k x o n1 n2 h)
    rcases a.fr x z with z | z
    · exact n2 z
    · rw [h] at z; cases z
theorem Lat.mok (m : MOk W F.M F.H) (G0 : RgOk K W F.M F.H F.R) (L : Lat W F M H R) (G : RgOk K W M H R) (i : W.I H) : MOk W M H := by
  have key : ∀ a, F.M a → ¬ W.A a → ¬ Reg.at R a → ∃ o, F.H a = some o ∧ H a = some o := fun a h nA nR => by
    cases q : F.H a with
    | none => exact absurd q (m.live a h)
    | some o => exact ⟨o, rfl, L.k a o nA (fun z => nR (L.up a z)) q⟩
  refine ⟨fun a h => (L.m a).mpr (.inl (m.wm a h)), fun a h => ?_, i, fun a h => ?_, fun a φ h => ?_⟩
  · by_cases hA : W.A a
    · exact W.live H a i hA
    by_cases hR : Reg.at R a
    · exact G.live hR
    obtain ⟨o, _, e⟩ := key a (((L.m a).mp h).resolve_right hR) hA hR
    rw [e]
    simp
  · by_cases hR : Reg.at R a
    · exact fun hC => (G.at_ hR).2.2.1 (W.cb a hC)
    · exact m.nb a (((L.m a).mp h).resolve_right hR)
  · by_cases hA : W.A a
    · exact W.nx H a φ i hA
    by_cases hR : Reg.at R a
    · obtain ⟨_, _, _, C, dx, fs, e⟩ := G.at_ hR
      rw [e]
      intro z
      cases z
    obtain ⟨o, e1, e2⟩ := key a (((L.m a).mp h).resolve_right hR) hA hR
    rw [e2, ← e1]
    exact m.nx a φ (((L.m a).mp h).resolve_right hR)
end
structure StF (K : PySem.W.Frag) (W : Wd) (F : RF) (M0 : Addr → Prop) (H0 : Hp) (oa : Nat → AS) (H : Hp) (σ : L2.St) (R : Reg) (ds : List Sl) : Prop where
  S : Sat K W.pl M0 H0 oa H σ ds
  G : RgOk K W M0 H0 R
  L : Lat W F M0 H0 R
def rgS (M0 : Addr → Prop) (R : Reg) (b : Addr) : Prop := Reg.at R b ∨ ¬ M0 b
def Wd.rg (W : Wd) (M0 : Addr → Prop) (H0 : Hp) (R : Reg) : Wd where
  A := W.A
  I H := W.I H ∧ ∀ b o, rgS M0 R b → H0 b = some o → H b = some o
  live := fun H a h ha => W.live H a h.1 ha
  nx := fun H a φ h ha => W.nx H a φ h.1 ha
  B b := W.B b ∨ (rgS M0 R b ∧ H0 b ≠ none)
  liveB := fun H a h hB => by
    rcases hB with hB | ⟨hB, hl⟩
    · exact W.liveB H a h.1 hB
    · cases e : H0 a with
      | none => exact absurd e hl
      | some o => rw [h.2 a o hB e]; simp
  C b := W.C b ∨ (¬ M0 b ∧ H0 b ≠ none)
  cb := fun a hC => by
    rcases hC with hC | ⟨h1, h2⟩
    · exact .inl (W.cb a hC)
    · exact .inr ⟨.inr h1, h2⟩
  stay := fun H H' h k kx kb => ⟨W.stay H H' h.1 k kx (fun b o hB z => kb b o (.inl hB) z), fun b o hb z => kb b o (.inr ⟨hb, by rw [z]; simp⟩) (h.2 b o hb z)⟩
  Mf := M0
  Hf := H0
section
variable {K : PySem.W.Frag} {W : Wd} {M M' M0 : Addr → Prop} {H H' H0 : Hp} {R R' : Reg} {F : RF} {oa oa' : Nat → AS} {σ σ' : L2.St} {ds ds' : List Sl}
theorem Sat.npl (S : Sat K W.pl M0 H0 oa H σ ds) : MOk W (Mx M0 oa) H := let m := S.mok; ⟨m.wm, m.live, m.wi, m.nb, m.nx⟩
theorem StF.mok (T : StF K W F M0 H0 oa H σ R ds) : MOk W (Mx M0 oa) H := T.S.npl
theorem StF.rgi (T : StF K W F M0 H0 oa H σ R ds) : ∀ b o, rgS M0 R b → H0 b = some o → H b = some o := fun b o h e => by
  rcases h with h | h
  · exact T.S.ext b o (T.G.at_ h).2.1 e
  · exact T.S.ext b o (fun z => h (T.S.wm b z)) e
theorem StF.rg (T : StF K W F M0 H0 oa H σ R ds) : Sat K (W.rg M0 H0 R) M0 H0 oa H σ ds := by
  have S := T.S
  refine ⟨S.wm, S.live, S.ext, ⟨S.wi, T.rgi⟩, S.ofr, S.inj, S.len, S.out, S.slot, fun _ z => z, fun _ _ _ z => z, fun a h => ?_, fun a h hC => ?_, S.nx⟩
  · rcases h with h | h
    · exact S.bl a h
    · exact h.2
  · rcases hC with hC | hC
    · exact S.nc a h hC
    · exact hC.1 h
theorem StF.step (T : StF K W F M0 H0 oa H σ R ds) (e : Ext W H H') (i : W.I H') : StF K W F M0 H0 oa H' σ R ds := ⟨T.S.step e i, T.G, T.L⟩
theorem mxo_car (S : Sat K W.pl M0 H0 oa H σ ds) : Car M0 (Mx M0 oa) H0 H := fun b o n h => by
  have no : ¬ ∃ i, oa i b := fun ⟨i, z⟩ => by rw [(S.ofr i b z).1] at h; cases h
  exact ⟨fun z => z.elim n no, S.ext b o (fun z => n (S.wm b z)) h⟩
theorem StF.rgh (T : StF K W F M0 H0 oa H σ R ds) : RgOk K W (Mx M0 oa) H R := by
  refine T.G.move (fun b h => .inl (T.G.at_ h).1) (fun b h => ?_) (mxo_car T.S)
  obtain ⟨_, na, _, C, dx, fs, q⟩ := T.G.at_ h
  rw [q]
  exact T.S.ext b _ na q
theorem StF.turn (T : StF K W F M0 H0 oa H σ R ds) (i : W.I H') (G : RgOk K W M' H' R') (L : Lat W ⟨Mx M0 oa, H, R⟩ M' H' R') :
    ∃ M1 H1, StF K W F M1 H1 oa H' σ R' ds ∧ Lat W ⟨M0, H0, R⟩ M1 H1 R' ∧ Car (Mx M0 oa) (Mx M1 oa) H H' ∧ ∀ b, M' b ↔ Mx M1 oa b := by
  have S := T.S
  have m' : MOk W M' H' := L.mok T.mok T.rgh G i
  have own : ∀ b, (∃ i, oa i b) → ¬ M0 b ∧ H b ≠ none ∧ ¬ Reg.at R' b := fun b ⟨j, z⟩ => by
    have h1 := S.ofr j b z
    obtain ⟨ob, h2⟩ := S.ownLive z
    refine ⟨h1.2, by rw [h2]; simp, fun y => ?_⟩
    rcases L.fr b y with y | y
    · exact h1.2 (T.G.at_ y).1
    · have y : H b = none := y
      rw [h2] at y; cases y
  have em : ∀ b, M' b ↔ Mx (fun b => M0 b ∨ Reg.at R' b) oa b := fun b => by
    refine (L.m b).trans ⟨fun z => ?_, fun z => ?_⟩
    · rcases z with z | z
      · exact z.elim (fun z => .inl (.inl z)) .inr
      · exact .inl (.inr z)
    · rcases z with (z | z) | z
      · exact .inl (.inl z)
      · exact .inr z
      · exact .inl (.inr z)
  have nR : ∀ b, ¬ Mx M0 oa b → ¬ Reg.at R b := fun b n z => n (.inl (T.G.at_ z).1)
  have c : Car (Mx M0 oa) (Mx (fun b => M0 b ∨ Reg.at R' b) oa) H H' := fun b o n h => by
    refine ⟨fun z => ?_, L.k b o (fun z => n (.inl (S.wm b z))) (nR b n) h⟩
    rcases z with (z | z) | z
    · exact n (.inl z)
    · rcases L.fr b z with z | z
      · exact nR b n z
      · have z : H b = none := z
        rw [h] at z; cases z
    · exact n (.inr z)
  have nM : ∀ a, (M0 a ∨ Reg.at R' a) → ¬ ∃ i, oa i a := fun a h z => h.elim (own a z).1 (own a z).2.2
  have L1 : Lat W ⟨M0, H0, R⟩ (fun b => M0 b ∨ Reg.at R' b) (base oa H') R' := by
    refine ⟨fun b => Iff.rfl, L.up, fun b h => ?_, fun b o nA nR h => ?_⟩
    · rcases L.fr b h with h | h
      · exact .inl h
      · refine .inr ?_
        have h : H b = none := h
        show H0 b = none
        cases q : H0 b with
        | none => rfl
        | some o =>
          have nA : ¬ W.A b := fun z => W.live H b S.wi z h
          have := S.ext b o nA q
          rw [h] at this; cases this
    · have h : H0 b = some o := h
      rw [base_not fun ⟨j, z⟩ => by rw [(S.ofr j b z).1] at h; cases h]
      exact L.k b o nA nR (S.ext b o nA h)
  refine ⟨fun b => M0 b ∨ Reg.at R' b, base oa H', ⟨?_, ?_, T.L.trans L1 fun a h => S.live a (S.wm a h)⟩, L1, c, em⟩
  · refine ⟨fun a h => .inl (S.wm a h), fun a h => ?_, fun b o n h => ?_, i, fun j a h => ⟨base_own ⟨j, h⟩, fun z => nM a z ⟨j, h⟩⟩, S.inj, S.len, S.out, fun j s h => ?_, fun _ z => z.elim, fun _ _ _ z => (by cases z), fun a h => ?_, fun a h => ?_, fun a φ h => ?_⟩
    · rw [base_not (nM a h)]
      exact m'.live a ((em a).mpr (.inl h))
    · by_cases q : ∃ i, oa i b
      · rw [base_own q] at h; cases h
      · rw [base_not q] at h; exact h
    · refine (S.slot j s h).car c fun b ob hb q => L.k b ob (S.own_nA hb) (fun z => (own b ⟨j, hb⟩).1 (T.G.at_ z).1) q
    · rw [base_not (fun ⟨j, z⟩ => S.bl a h (S.ofr j a z).1)]
      exact W.liveB _ _ i h
    · exact m'.nb a ((em a).mpr (.inl h))
    · rw [base_not (nM a h)]
      exact m'.nx a φ ((em a).mpr (.inl h))
  · refine G.move (fun b h => .inr h) (fun b h => base_not (nM b (.inr h))) fun b o n h => ?_
    have n2 : ¬ Mx (fun b => M0 b ∨ Reg.at R' b) oa b := fun z => n ((em b).mpr z)
    exact ⟨fun z => n2 (.inl z), by rw [base_not fun z => n2 (.inr z)]; exact h⟩
theorem StF.rebase (T : StF K W F M0 H0 oa H σ R ds) : StF K W F M0 (base oa H) oa H σ R ds := by
  have nM : ∀ a, M0 a → ¬ ∃ i, oa i a := fun a h ⟨i, z⟩ => (T.S.ofr i a z).2 h
  refine ⟨T.S.rebase, T.rgh.move (fun b h => (T.G.at_ h).1) (fun b h => base_not (nM b (T.G.at_ h).1)) (fun b o n h => ⟨fun z => n (.inl z), by rw [base_not fun z => n (.inr z)]; exact h⟩), T.L.ext T.S.ext_base⟩
end
abbrev WLF := Reg → List Sl → (Reg → List D → Prop) → Prop
structure EndsF where
  nx : Reg → List Sl → Prop
  rt : Reg → D → Prop
  bk : Reg → List Sl → Prop := fun _ _ => False
  ct : Reg → List Sl → Prop := fun _ _ => False
def EndsF.at (E : EndsF) (R : Reg) : EndsD := { nx := E.nx R, rt := E.rt R, bk := E.bk R, ct := E.ct R, rs := fun _ d => E.rt R d }
theorem Car.trans {M M1 M2 : Addr → Prop} {H H1 H2 : Hp} (a : Car M M1 H H1) (b : Car M1 M2 H1 H2) : Car M M2 H H2 := fun x o n h => let ⟨n1, h1⟩ := a x o n h; b x o n1 h1
theorem Car.refl (M : Addr → Prop) (H : Hp) : Car M M H H := fun _ _ n h => ⟨n, h⟩
theorem StF.rt {K : PySem.W.Frag} {W : Wd} {M0 : Addr → Prop} {H H0 : Hp} {R : Reg} {F : RF} {oa : Nat → AS} {σ : L2.St} {ds : List Sl} (T : StF K W F M0 H0 oa H σ R ds) : RgOk K W M0 H R ∧ Lat W F M0 H R := ⟨T.G.ext T.S.wm T.S.ext, T.L.ext T.S.ext⟩
def XRF (K : PySem.W.Frag) (W : Wd) (F : RF) (PX : Reg → D → Prop) : XK := fun cls d H' => ∃ C fs xs us dd R' M', cls = .ref C ∧ d = some dd ∧ PX R' (.ins C fs xs) ∧ W.I H' ∧ RgOk K W M' H' R' ∧ Lat W F M' H' R' ∧ Reps K M' H' xs us ∧ us.length = fs.length ∧ H' dd = some (.xd (fs.zip us))
structure RgW (K : PySem.W.Frag) (W : Wd) (M0 : Addr → Prop) (H0 : Hp) (R : Reg) : Prop where
  wm : ∀ a, W.A a → M0 a
  G : RgOk K W M0 H0 R
theorem StF.w {K : PySem.W.Frag} {W : Wd} {M0 : Addr → Prop} {H H0 : Hp} {R : Reg} {F : RF} {oa : Nat → AS} {σ : L2.St} {ds : List Sl} (T : StF K W F M0 H0 oa H σ R ds) : RgW K W M0 H0 R := ⟨T.S.wm, T.G⟩
theorem RgW.keep {K : PySem.W.Frag} {W : Wd} {M0 M : Addr → Prop} {H0 H H' : Hp} {R : Reg} (w : RgW K W M0 H0 R) (m : MOk (W.rg M0 H0 R) M H) (e : Ext W H H') (i : W.I H') : (W.rg M0 H0 R).I H' := by
  refine ⟨i, fun b o h q => e b o (fun z => ?_) (m.wi.2 b o h q)⟩
  rcases h with h | h
  · exact (w.G.at_ h).2.1 z
  · exact h (w.wm b z)
section
variable {P : Program} {w : World} {K : PySem.W.Frag} {mg : Str → Option Value} {base : Heap} {CX : CXT} {k : Nat} {f : Addr} {fd : FuncData} {ps : List Str} {W : Wd} {M0 : Addr → Prop} {H0 : Hp} {R : Reg}
end
section
variable {X : Cx} {W : Wd} {F : RF} {PX : Reg → D → Prop} {e c o : Expr} {es : List Expr} {st : Stmt} {sts rest body body2 : List Stmt} {pos p : Pos} {x : Str}
theorem StF.lv {K : PySem.W.Frag} {M0 : Addr → Prop} {H H0 : Hp} {R : Reg} {oa : Nat → AS} {σ : L2.St} {ds : List Sl} (T : StF K W F M0 H0 oa H σ R ds) : ∀ a, W.A a → H0 a ≠ none := fun a h => T.S.live a (T.S.wm a h)
section
variable {k : Nat} {f : Addr} {fd : FuncData} {ps : List Str} {dvs : List V} {dds : List D} {g : Reg → List D → (Reg → D → Prop) → (Reg → D → Prop) → Prop} {l : WLF}
end
end
end VL
set_option Elab.async false
set_option linter.all false
set_option maxRecDepth 100000
set_option maxHeartbeats 4000000
namespace VL
open PySem PySem.Spec PyProof.Rows L2
section
variable {X : Cx} {W : Wd} {e : Expr} {pos : Pos} {M0 : Addr → Prop} {H0 : Hp} {R : Reg}
mutual
inductive LentD (R : Reg) : D → D → Prop
  | ins {a : Addr} {o : RO} (h : R a = some o) : LentD R (.hnd (.ref a)) (.ins o.C o.ks o.xs)
  | same (d : D) : LentD R d d
  | lst {xs ys : List D} (h : LentDs R xs ys) : LentD R (.lst xs) (.lst ys)
  | tup {xs ys : List D} (h : LentDs R xs ys) : LentD R (.tup xs) (.tup ys)
inductive LentDs (R : Reg) : List D → List D → Prop
  | nil : LentDs R [] []
  | cons {x y : D} {xs ys : List D} (h : LentD R x y) (t : LentDs R xs ys) : LentDs R (x :: xs) (y :: ys)
end
mutual
theorem LentD.rep {K : PySem.W.Frag} {M : Addr → Prop} {H : Hp} {R : Reg} (hi : ∀ a o, R a = some o → ¬ M a ∧ ∃ (dx : Addr) (us : List V), us.length = o.ks.length ∧ H a = some (.ins o.C dx (o.ks.zip us)) ∧ Reps K M H o.xs us) : ∀ {x y : D} {v : V}, LentD R x y → Rep K M H x v → Rep K M H y v
  | _, _, _, .ins h, r => by
    rw [r.hnd]
    obtain ⟨nm, dx, us, l, e, rr⟩ := hi _ _ h
    exact rep_ins nm l e rr
  | _, _, _, .same _, r => r
  | _, _, _, .lst h, r => by
    obtain ⟨a, xs, rfl, t, rr⟩ := r.lst
    exact rep_lst t (LentDs.reps hi h rr)
  | _, _, _, .tup h, r => by
    obtain ⟨a, xs, rfl, t, rr⟩ := r.tup
    exact rep_tup t (LentDs.reps hi h rr)
theorem LentDs.reps {K : PySem.W.Frag} {M : Addr → Prop} {H : Hp} {R : Reg} (hi : ∀ a o, R a = some o → ¬ M a ∧ ∃ (dx : Addr) (us : List V), us.length = o.ks.length ∧ H a = some (.ins o.C dx (o.ks.zip us)) ∧ Reps K M H o.xs us) : ∀ {xs ys : List D} {vs : List V}, LentDs R xs ys → Reps K M H xs vs → Reps K M H ys vs
  | _, _, _, .nil, r => r
  | _, _, _, .cons h t, r => by
    obtain ⟨v, vs, rfl, h1, h2⟩ := r.inv
    exact reps_cons (LentD.rep hi h h1) (LentDs.reps hi t h2)
end
end
theorem Sat.hd {K : PySem.W.Frag} {W : Wd} {M0 : Addr → Prop} {H0 H : Hp} {oa : Nat → AS} {σ : L2.St} {ds : List Sl} {i : Nat} {a : Addr} (S : Sat K W M0 H0 oa H σ ds) (h : ds.getD i .un = .d (.hnd (.ref a))) : σ[i]? = some (some (.ref a)) := by
  obtain ⟨v, e, r⟩ := S.get (getD_get h)
  rw [e, r.hnd]
section
variable {X : Cx} {W : Wd} {F : RF} {PX : Reg → D → Prop} {e c o : Expr} {es : List Expr} {st : Stmt} {sts rest body body2 : List Stmt} {pos p pos' : Pos} {x f : Str}
theorem StF.xc {K : PySem.W.Frag} {M0 : Addr → Prop} {H H0 H' : Hp} {R : Reg} {oa : Nat → AS} {σ : L2.St} {ds : List Sl} {cls : Value} {d : Option Addr} (T : StF K W F M0 H0 oa H σ R ds) (h : XC K W (Mx M0 oa) H (PX R) cls d H') : XRF K W F PX cls d H' := by
  obtain ⟨C, fs, xs, us, dd, e1, e2, hp, e, i, r, hl, hd⟩ := h
  obtain ⟨g1, l1⟩ := (T.step e i).rt
  exact ⟨C, fs, xs, us, dd, R, M0, e1, e2, hp, i, g1, l1, r.car fun b o n q => ⟨fun z => n (.inl z), q⟩, hl, hd⟩
section
variable {C fI : Addr} {k n : Nat} {fd : FuncData} {ps : List Str} {g : List D → (List Str → List D → Prop) → (D → Prop) → Prop} {l lk : WLF} {dvs : List V} {dds : List D}
end
theorem Lat.car {K : PySem.W.Frag} {M0 M1 : Addr → Prop} {H H' H1 : Hp} {R R' : Reg} {oa oa' : Nat → AS} {σ σ' : L2.St} {ds ds' : List Sl} {H0 : Hp} (T : StF K W F M0 H0 oa H σ R ds) (T' : StF K W F M1 H1 oa' H' σ' R' ds') (L : Lat W ⟨M0, base oa H, R⟩ M1 H1 R') : Car (Mx M0 oa) (Mx M1 oa') H H' := fun b o n h => by
  have hb : base oa H b = some o := by rw [base_not fun z => n (.inr z)]; exact h
  have nA : ¬ W.A b := fun z => n (.inl (T.S.wm b z))
  have nR : ¬ Reg.at R b := fun z => n (.inl (T.G.at_ z).1)
  have h1 := L.k b o nA nR hb
  refine ⟨fun z => ?_, T'.S.ext b o nA h1⟩
  rcases z with z | ⟨i, z⟩
  · rcases (L.m b).mp z with z | z
    · exact n (.inl z)
    · rcases L.fr b z with z | z
      · exact nR z
      · have z : base oa H b = none := z
        rw [hb] at z; cases z
  · rw [(T'.S.ofr i b z).1] at h1; cases h1
end
end VL
set_option Elab.async false
set_option linter.all false
set_option maxRecDepth 100000
set_option maxHeartbeats 4000000
namespace VL
open PySem PySem.Spec PyProof.Rows L2 LamX
section
variable {X : Cx} {W : Wd} {M1 M : Addr → Prop} {H1 G H : Hp} {R1 R : Reg} {h1 : ∀ b, W.A b ∨ Reg.at R1 b → M1 b} {hn : ∀ b, isC X b → H1 b = none} {hG : Frz (isC X) G} {σ : L2.St} {ds : List Sl}
end
section
variable {X : Cx} {W : Wd} {F : RF} {P c : Addr} {k : Nat}
end
theorem RgOk.full {K : PySem.W.Frag} {W : Wd} {M : Addr → Prop} {H H' : Hp} {R : Reg} (G : RgOk K W M H R) (f : Full H H') : RgOk K W M H' R := by
  refine G.move (fun b h => (G.at_ h).1) (fun b h => ?_) fun b o n h => ⟨n, f b o h⟩
  obtain ⟨_, _, _, C, dx, fs, e⟩ := G.at_ h
  rw [e]
  exact f b _ e
end VL
set_option Elab.async false
set_option linter.all false
set_option maxRecDepth 100000
set_option maxHeartbeats 4000000
namespace VL
open PySem PySem.Spec PyProof.Rows L2
section
variable {X : Cx} {W : Wd} {F : RF} {PX : Reg → D → Prop} {e c o : Expr} {es : List Expr} {st : Stmt} {sts rest body body2 : List Stmt} {pos p pos' : Pos} {x : Str}
section
variable {k : Nat} {f : Addr} {fd : FuncData} {ps : List Str} {dvs : List V} {dds : List D} {l : WLF}
end
end
section
variable {X : Cx} {W : Wd} {e : Expr} {es : List Expr} {body : List Stmt} {pos tpos : Pos} {vs : List Nat}
end
end VL
set_option Elab.async false
set_option linter.all false
set_option maxRecDepth 100000
set_option maxHeartbeats 4000000
namespace VL
open PySem PySem.Spec PyProof.Rows L2
structure TabIs (n : Str) (h : Heap) (K : PySem.W.Frag) (c P : Addr) : Prop where
  t1 : PySem.W.tabIn K n = some (c, P)
  t2 : PySem.W.codeHdIn K c P = true
  t3 : K.lookup P = none
  t4 : h.get? P = some (PySem.W.tabObj #[])
def tabPs (ns : List Str) (K : PySem.W.Frag) : List (Option Addr) := ns.map fun n => (PySem.W.tabIn K n).map Prod.snd
structure SaysT (ns : List Str) (fn : List He.DefD) (su : List SupD) (ex : PySem.W.Frag → Bool) (h : Heap) (K : PySem.W.Frag) : Prop where
  y : SaysY fn ex K
  s : obsS su K = valS su
  t : ∀ n ∈ ns, ∃ c P, TabIs n h K c P
  nd : (tabPs ns K).Nodup
theorem SaysT.ne {ns : List Str} {fn : List He.DefD} {su : List SupD} {ex : PySem.W.Frag → Bool} {h : Heap} {K : PySem.W.Frag} (z : SaysT ns fn su ex h K) {i j : Nat} {n m : Str} {c P c' P' : Addr} (hi : ns[i]? = some n) (hj : ns[j]? = some m) (hij : i < j) (t : TabIs n h K c P) (t' : TabIs m h K c' P') : P ≠ P' := fun e => by
  have h1 : (tabPs ns K)[i]? = some (some P) := by unfold tabPs; rw [List.getElem?_map, hi]; show some ((PySem.W.tabIn K n).map Prod.snd) = _; rw [t.t1]; rfl
  have h2 : (tabPs ns K)[j]? = some (some P') := by unfold tabPs; rw [List.getElem?_map, hj]; show some ((PySem.W.tabIn K m).map Prod.snd) = _; rw [t'.t1]; rfl
  obtain ⟨b1, e1⟩ := List.getElem?_eq_some_iff.mp h1
  obtain ⟨b2, e2⟩ := List.getElem?_eq_some_iff.mp h2
  have := List.pairwise_iff_getElem.mp z.nd i j b1 b2 hij
  rw [e1, e2, e] at this
  exact this rfl
section
variable {X : Cx} {W : Wd} {e o : Expr} {es : List Expr} {pos p : Pos} {M0 : Addr → Prop} {H0 : Hp} {R : Reg}
end
end VL
set_option Elab.async false
set_option linter.all false
set_option maxRecDepth 100000
set_option maxHeartbeats 4000000
namespace VL
open PySem PySem.Spec PyProof.Rows L2
section
variable {X : Cx} {W : Wd} {F : RF} {pos : Pos} {vs : List Nat}
end
end VL
set_option Elab.async false
set_option linter.all false
set_option maxRecDepth 100000
set_option maxHeartbeats 4000000
namespace VL
open PySem PySem.Spec PyProof.Rows L2
section
variable {X : Cx} {W : Wd} {k : Nat} {C f : Addr} {PX : D → Prop} {a b : Expr} {pos : Pos}
end
end VL
set_option Elab.async false
set_option linter.all false
set_option maxRecDepth 100000
set_option maxHeartbeats 4000000
namespace VL
open PySem PySem.Spec PyProof.Rows L2
section
variable {X : Cx} {W : Wd} {F : RF} {pos : Pos} {x f : Str} {p : Pos}
theorem StF.fz {K : PySem.W.Frag} {M0 : Addr → Prop} {H0 H : Hp} {oa : Nat → AS} {σ : L2.St} {R : Reg} {ds : List Sl} (T : StF K W F M0 H0 oa H σ R ds) (i : Nat) : ∃ oa', StF K W F M0 H0 oa' H σ R (VL.fz i ds) := by
  obtain ⟨oa', S'⟩ := T.S.fz i
  exact ⟨oa', S', T.G, T.L⟩
end
section
variable {K : PySem.W.Frag} {M M' : Addr → Prop} {H : Hp} {bad : List Str → Prop}
end
section
variable {X : Cx} {W : Wd} {M0 : Addr → Prop} {H0 : Hp} {R : Reg} {e : Expr}
end
end VL
set_option Elab.async false
set_option linter.all false
set_option maxRecDepth 100000
set_option maxHeartbeats 4000000
namespace VL
open PySem PySem.Spec PyProof.Rows L2
section
variable {X : Cx} {W : Wd} {e : Expr} {p apos cpos pos : Pos}
end
end VL
set_option Elab.async false
set_option linter.all false
set_option maxRecDepth 100000
set_option maxHeartbeats 4000000
namespace VL
open PySem PySem.Spec PyProof.Rows L2
section
variable {X : Cx} {W : Wd} {F : RF} {pos : Pos}
end
section
variable {X : Cx} {W : Wd} {pos : Pos}
theorem vs_parOO (i j : Nat) {x y : Str} {a b : Expr} {wa wb : WL} {px py pt : Pos} {kt k2 pt2} (hc : X.calm = true) (hN : X.N.Nodup) (hij : i ≠ j) (ha : PE X a (LEo X.K W wa)) (hb : PE X b (LEo X.K W wb)) (hi : X.N[i]? = some x := by rfl) (hj : X.N[j]? = some y := by rfl)
    (hx : X.env.scope.names.lookup x = some .local := by rfl) (hy : X.env.scope.names.lookup y = some .local := by rfl)
    (hw : swappedStores [.Tuple [.Name x px, .Name y py] kt pt] (.Tuple [a, b] k2 pt2) X.env = pure (some [x, y]) := by rfl)
    (hs : swapsWithSole [.Tuple [.Name x px, .Name y py] kt pt] (.Tuple [a, b] k2 pt2) pos.line X.env = pure false := by rfl) (hs1 : starEach [a, b] X.env = (false, eval a X.env) :: starEach [b] X.env := by rfl) (hs2 : starEach [b] X.env = (false, eval b X.env) :: starEach [] X.env := by rfl) :
    VS X W (.Assign [.Tuple [.Name x px, .Name y py] kt pt] (.Tuple [a, b] k2 pt2) pos) (fun E ds => i < ds.length ∧ j < ds.length ∧ wa ds fun xs => wb ds fun ys => E.nx ((ds.set i (.ml xs)).set j (.ml ys))) := by
  refine ps_imp (ps_par hc hN hi hj hij hx hy (pa_cons ha (pa_cons hb pa_nil hs2) hs1) hw hs) fun D σ H h => ?_
  obtain ⟨M0, H0, oa, ds, E, S, ⟨hl, hl2, hw⟩, k1, k2, k3, k4⟩ := h
  refine ⟨M0, H0, oa, ds, _, S, hw, fun xs us p H1 hp hn e1 i1 h1 r1 => ?_⟩
  have S1 := S.blk (vs := []) (Dl := p) (ob := .lst us) (H2 := H1) rfl hn (fun b o n z => e1 b o n z) i1 h1
  rw [wipe_nil, wipeD_nil] at S1
  refine ⟨_, _, oa, ds, _, S1, hp, fun ys us2 q H2 hq hn2 e2 i2 h2 r2 => ⟨.ref p, .ref q, rfl, ?_⟩⟩
  have S3 := S.takeown (i := i) hl hn e1 i1 h1 r1
  refine k1 _ _ _ _ hq (S3.takeown (i := j) (by rw [List.length_set]; exact hl2) hn2 e2 i2 h2 (r2.car fun b o n z => ⟨fun y => n ?_, z⟩))
  rcases y with y | ⟨m, y⟩
  · exact .inl (y.elim (fun z => .inl (.inl z)) .inr)
  · unfold oaPut at y
    by_cases e : m = i
    · rw [if_pos e] at y
      exact .inl (.inl (.inr y))
    · rw [if_neg e] at y
      exact .inr ⟨m, y⟩
end
end VL
set_option Elab.async false
set_option linter.all false
set_option maxRecDepth 100000
set_option maxHeartbeats 4000000
namespace VSe
open PySem PySem.Spec PyProof.Rows L2
def nOb (w : World) : Obj := { cls := .type "set", dict := none, data := .set #[] 0 (.fresh 0 0 (!w.params.followText "set-order")) }
def nHp (w : World) (h : Heap) : Heap := h.push (nOb w)
section
variable {pr : Program} {w : World} {A : Around} {E : Value → Shared → Prop} {s : Shared}
def Grown (s : Shared) (b : Heap) : Prop := ∀ (a : Addr) (o : Obj), s.heap.get? a = some o → b.get? a = some o
def Made (w : World) (s : Shared) (ns : List Int) (b : Heap) : Prop := ∃ c, SetR w b s.heap.objs.size (fun j => decide (j ∈ ns)) c ∧ c ≤ ns.length ∧ Grown s b
theorem at_ints {xs : Array Value} {ns : List Int} (hi : IntsAre xs.toList ns) (hz : xs.size = ns.length) (i : Nat) (v : Value) (hv : xs[i]? = some v) : ∃ k t, ns[i]? = some k ∧ v = .int k t := by
  have q : i < ns.length := hz ▸ (Array.getElem?_eq_some_iff.mp hv).1
  have hv' : xs.toList[i]? = some v := by rw [Array.getElem?_toList]; exact hv
  obtain ⟨t, rfl⟩ := IntsAre.int_at hi i v hv'
  refine ⟨ns[i], t, List.getElem?_eq_getElem q, ?_⟩
  rw [List.getD_eq_getElem?_getD, List.getElem?_eq_getElem q] <;> rfl
theorem fill_ok {l : Addr} {xs : Array Value} {ns : List Int} (hh : A.handled = none) (hl : s.heap.IsList l xs) (hi : IntsAre xs.toList ns) (hb : ns.length + 1 < scanBound) :
    codeAny (model pr w) A (.builtin "set.__init__" ⟨[.ref s.heap.objs.size, .ref l], []⟩) (wants (fun r z => r = .none ∧ ∃ b tk, z = { s with heap := b, toks := tk } ∧ Made w s ns b) E) { s with heap := nHp w s.heap } := by
  have hz : xs.size = ns.length := by
    have q := IntsAre.length hi
    rwa [Array.length_toList] at q
  have hS : (nHp w s.heap).get? s.heap.objs.size = some (nOb w) := Heap.get?_push_size _ rfl
  have hT : Shared.TypeIs { s with heap := nHp w s.heap } (.ref s.heap.objs.size) "set" := ⟨_, hS, rfl⟩
  have sub1 := PySem.F.sub_list_set
  have sub2 := PySem.F.sub_list_frozenset
  have nd : (Value.type "list" == Value.type "dict") = false := by decide
  refine codeAny_builtin PySem.F.entry_set_init ?_
  rw [Around.under_plainId PySem.F.called_set.init.plain _]
  obtain ⟨⟨oc, od, oda, osl⟩, ho, hc, n0, hd⟩ := hl
  simp only at hc hd
  subst hc
  subst hd
  have hl1 : (nHp w s.heap).get? l = some { cls := .type "list", dict := od, data := .seq xs n0, slots := osl } := Heap.get?_push_of_some _ ho
  have hl2 : (nHp w s.heap).IsList l xs := ⟨_, hl1, rfl, n0, rfl⟩
  have z1 : (nHp w s.heap).objs.size = s.heap.objs.size + 1 := Heap.size_push ..
  have ll : l < s.heap.objs.size := Heap.lt_size ho
  have lne : l ≠ (nHp w s.heap).objs.size := by rw [z1]; exact Nat.ne_of_lt (Nat.lt_succ_of_lt ll)
  unfold Builtin.«set.__init__» noKeywords Builtin.Frozenset.updateFrom
  generalize hG : pyIter = G
  wp_walk
  subst hG
  refine wpAny_pyIter_list hl2 ?_
  refine wpAny_bind (wpAny_runValue ?_)
  have nin : s.heap.objs.size ∉ [(nHp w s.heap).objs.size, l] := by
    rw [z1]
    simp only [List.mem_cons, List.not_mem_nil, or_false, not_or]
    exact ⟨Nat.ne_of_lt (Nat.lt_succ_self _), Nat.ne_of_gt ll⟩
  refine set_update_ints ((Walks.list (by simp [hh]) _ l lne xs).toS) s.heap.objs.size nin ns hz hb (at_ints hi hz) (xs.size - 0) 0 _ (by omega) (Nat.zero_le _) ⟨⟨_, Heap.get?_push_size _ rfl, rfl, rfl⟩, hl2.push _⟩ ⟨0, Nat.le_refl 0, setR_new_at (Heap.get?_push_of_some _ hS)⟩ fun z c hm hc hR => ?_
  obtain ⟨zh, zg, zd, zt, zo⟩ := z
  have eg : zg = s.gens := hm.gens
  have ed : zd = s.drawn := hm.drawn
  have eo : zo = s.os := hm.os
  subst eg
  subst ed
  subst eo
  refine wpAny_pure ?_
  show wpAny _ _ (ret Value.none) _ _ _
  refine wpAny_pure ⟨rfl, zh, zt, rfl, c, hR, by rw [← hz]; exact hc, fun b o e => ?_⟩
  have lb : b < s.heap.objs.size := Heap.lt_size e
  refine hm.heap b o ?_ (Heap.get?_push_of_some _ (Heap.get?_push_of_some _ e))
  rw [z1]
  simp only [List.mem_cons, List.not_mem_nil, or_false, not_or]
  exact ⟨Nat.ne_of_lt lb, Nat.ne_of_lt (Nat.lt_succ_of_lt lb)⟩
theorem sl_call {l : Addr} {xs : Array Value} {ns : List Int} {Q : Value → Shared → Prop} (hh : A.handled = none) (hl : s.heap.IsList l xs) (hi : IntsAre xs.toList ns) (hb : ns.length + 1 < scanBound)
    (h : ∀ b tk, Made w s ns b → Q (.ref s.heap.objs.size) { s with heap := b, toks := tk }) : wpAny (model pr w) A (call (.type "set") [.ref l]) Q E s := by
  obtain ⟨mc, mt, hmro⟩ := PySem.F.called_set.mro
  have g1 := PySem.F.called_set.made
  have g2 := PySem.F.called_set.sub
  have g3 := PySem.F.called_set.notType
  have g4 := PySem.F.called_set.canCreate
  have g5 := PySem.F.typeCall_set_1 (.ref l)
  refine wpAny_call (codeAny_of_tree ?_)
  show wpAny _ _ (callAny (.type "set") _) _ _ _
  refine wpAny_pure ⟨Code.quiet_builtin _ (by decide +kernel), codeAny_builtin PySem.F.entry_type_call ?_⟩
  rw [Around.under_plain (weight_type_call_type "set" [.ref l] []) rfl]
  repeat (any_goals (first | assumption | wp_step))
  refine codeAny_mono (code_set_led1 (.ref l) (E := E) (Q₁ := fun v z => v = .ref s.heap.objs.size ∧ z = { s with heap := nHp w s.heap }) ⟨rfl, rfl⟩) fun r z hr => ?_
  match r, hr with
  | .error e, hr => exact hr
  | .ok (.ret v), hr =>
    obtain ⟨rfl, rfl⟩ := hr
    have hT : Shared.TypeIs { s with heap := nHp w s.heap } (.ref s.heap.objs.size) "set" := ⟨_, Heap.get?_push_size _ rfl, rfl⟩
    have g6 := PySem.F.called_set.init.lookup
    have g7 := PySem.F.called_set.init.bind (.ref s.heap.objs.size)
    repeat (any_goals (first | assumption | wp_step))
    refine codeAny_mono (codeAny_call_builtin_code (Code.quiet_builtin _ (by decide +kernel)) (check_set_init_1 hT (fill_ok (A := A.in1) (E := E) (by simp [hh]) hl hi hb))) fun r2 z2 hr2 => ?_
    match r2, hr2 with
    | .error e, hr2 => exact hr2
    | .ok (.ret v2), hr2 =>
      obtain ⟨rfl, b, tk, rfl, hm⟩ := hr2
      repeat (any_goals (first | assumption | wp_step))
      exact h _ _ hm
    | .ok .next, hr2 => exact hr2.elim
    | .ok .brk, hr2 => exact hr2.elim
    | .ok .cont, hr2 => exact hr2.elim
  | .ok .next, hr => exact hr.elim
  | .ok .brk, hr => exact hr.elim
  | .ok .cont, hr => exact hr.elim
end
section
variable {X : Cx}
def rSetL (K : PySem.W.Frag) (w : World) : List V → Hp → L2.VK → Prop := fun vs H Q => ∃ (l : Addr) (ns : List Int), vs = [.ref l] ∧ SqL K H l (ns.map V.int) ∧ ns.length < 64 ∧ ∀ p S n, H p = none → (∀ k : Int, S k = decide (k ∈ ns)) → n ≤ ns.length → Q (.ref p) (upd H p (SetO w p S n))
theorem call_setL (hc : X.calm = true) : CallR X (.type "set") (rSetL X.K X.w) := by
  intro pins s σ H vs us Q I r h
  obtain ⟨l, ns, rfl, hq, hl, q⟩ := h
  obtain ⟨u, rfl, rx⟩ := vals1 r
  cases rx
  obtain ⟨its, r2, pl, hz⟩ := I.list hq
  refine sl_call (ns := ns) (I.ok.hd hc) pl.isList (by simpa using RZ.intsAre_vals r2) (by unfold scanBound; omega) fun b tk ⟨c, hR, hc2, hg⟩ => ?_
  exact ⟨.ref s.heap.objs.size, _, I.laid (t' := tk) (fun a o e => hg a o e) (Nat.le_refl _) (setO_new hR), rfl, q _ _ _ (I.hok.fresh (Nat.le_refl _)) (fun k => rfl) hc2⟩
end
end VSe
namespace VL
open PySem PySem.Spec PyProof.Rows L2
theorem bt_set : bootBuiltins "set" = some (.type "set") := by decide +kernel
def wSrtSet (we : WE) : WE := fun ds P => we ds fun d => ∃ ns : List Int, d = .lst (ns.map .int) ∧ ns.length < 64 ∧ ∀ r : List Int, r.Pairwise (· < ·) → (∀ k, k ∈ r ↔ k ∈ ns) → P (.lst (r.map .int))
theorem reps_ints : ∀ {ns : List Int} {K : PySem.W.Frag} {M : Addr → Prop} {H : Hp} {us : List V}, Reps K M H (ns.map D.int) us → us = ns.map V.int
  | [], _, _, _, us, r => by
    have := r.len
    match us, this with
    | [], _ => rfl
  | n :: ns, _, _, _, us, r => by
    obtain ⟨v, vs, rfl, r1, r2⟩ := r
    rw [r1.int, reps_ints r2]
    rfl
theorem ints_of : ∀ (ns : List Int) {K : PySem.W.Frag} {M : Addr → Prop} {H : Hp}, Reps K M H (ns.map D.int) (ns.map V.int)
  | [], _, _, _ => reps_nil
  | _ :: ns, _, _, _ => reps_cons rep_int (ints_of ns)
section
variable {X : Cx} {W : Wd} {a : Expr} {p q p2 p3 : Pos}
theorem ve_srtSet {wo : WE} (hc : X.calm = true) (hg : Gl X "sorted") (hm : X.mg "sorted" = none) (hv : bootBuiltins "sorted" = some (.builtin "sorted")) (hg2 : Gl X "set") (hm2 : X.mg "set" = none) (hv2 : bootBuiltins "set" = some (.type "set")) (ho : VE X W a wo)
    (hs : starEach [a] X.env = (false, eval a X.env) :: starEach [] X.env := by rfl) (hpl : (backTo q (starEach [] X.env)).any (·.1) = false := by rfl)
    (hs2 : starEach [.Call (.Name "set" p2) [a] [] q] X.env = (false, eval (.Call (.Name "set" p2) [a] [] q) X.env) :: starEach [] X.env := by rfl) (hpl2 : (backTo p3 (starEach [] X.env)).any (·.1) = false := by rfl) :
    VE X W (.Call (.Name "sorted" p) [.Call (.Name "set" p2) [a] [] q] [] p3) (wSrtSet wo) := by
  refine pe_imp (pe_callB (cr_sortedSet hc) hg hm hv (pa_cons (pe_callTy (VSe.call_setL hc) hg2 hm2 hv2 (pa_cons ho pa_nil hs) (by decide) (by decide) hs hpl) pa_nil hs2) (by decide) (by decide) hs2 hpl2) fun σ H Q h => ?_
  obtain ⟨M0, H0, oa, ds, P, S, hw, k⟩ := h
  refine ⟨M0, H0, oa, ds, _, S, hw, fun d v H1 hd e1 i1 r1 => ?_⟩
  obtain ⟨ns, rfl, hn, hd⟩ := hd
  have S1 := S.step e1 i1
  obtain ⟨l, us, rfl, t, r2⟩ := r1.lst
  have e := reps_ints r2
  subst e
  refine ⟨l, ns, rfl, t.sq, hn, fun p S2 n hp hS hle => ?_⟩
  have f1 : Full H1 (upd H1 p (SetO X.w p S2 n)) := Full.new hp
  have T1 := S1.full f1
  refine ⟨p, S2, n, rfl, upd_same, by omega, fun r p' hr hm3 _ hp' => ?_⟩
  have f2 := Full.new (o := HO.lst (r.map V.int)) hp'
  refine k _ _ _ (hd r hr fun k => by rw [hm3, hS]; simp) ((e1.trans f1.ext).trans f2.ext) (W.keep _ _ T1.wi f2) ?_
  exact T1.mok.newL hp' (ints_of r)
end
def wAppB (i : Nat) (w : WE) : WS := fun E ds => mlS (ds.getD i .un) fun xs => w ds fun d => xs.length < 16000000 ∧ E.nx (ds.set i (.ml (xs ++ [d])))
section
variable {X : Cx} {W : Wd} {e : Expr} {x : Str} {p apos cpos pos : Pos}
theorem vs_appB (i : Nat) {x : Str} {w : WE} {p apos cpos : Pos} (he : VE X W e w) (hN : X.N[i]? = some x := by rfl) (hv : Vis X.env.scope x := by first | exact Or.inl rfl | exact Or.inr (Or.inl rfl) | exact Or.inr (Or.inr rfl))
    (hd : (x == ("__debug__" : Str)) = false := by decide) (hcd : (x == ("__classdict__" : Str)) = false := by decide)
    (hbase : attributeBase (.Name x p) "append" X.env (eval (.Name x p) X.env) = eval (.Name x p) X.env := by rfl)
    (hfew : ((backTo cpos (starEach [e] X.env)).all (fun x => !x.1) && (backToKw cpos (keywordEach [] X.env)).all (fun x => x.1.isSome)
      && decide (([e] : List Expr).length + ([] : List Keyword).length + (if ([] : List Keyword).isEmpty then 0 else 1) < 30)) = true := by rfl)
    (hline : (apos.endLine == cpos.line) = true := by rfl) (hs : starEach [e] X.env = (false, eval e X.env) :: starEach [] X.env := by rfl) (hplain : (backTo cpos (starEach [] X.env)).any (·.1) = false := by rfl)
    (hsw : swapsWith (.Call (.Attribute (.Name x p) "append" apos) [e] [] cpos) none pos.line X.env = pure false := by rfl) :
    VS X W (.Expr (.Call (.Attribute (.Name x p) "append" apos) [e] [] cpos) pos) (wAppB i w) := by
  refine ps_imp (ps_expr (pe_bm PySem.F.plainAttrs_list PySem.F.slot_list_append PySem.F.type_list_append mt_append (pe_var hN hv hd hcd) (pa_cons he pa_nil hs) hbase hfew hline hs hplain) hsw) fun D σ H h => ?_
  obtain ⟨M0, H0, oa, ds, E, S, hw, k1, k2, k3, k4⟩ := h
  obtain ⟨l, a, xs, g1, hw, g2, g3, g4, g5⟩ := S.ml hw
  refine ⟨.ref a, g3, .inl ⟨rfl, _, SqL.of g4⟩, ⟨M0, H0, oa, ds, _, S, hw, fun d v H1 hd e1 i1 r1 => ?_⟩⟩
  have S1 := S.step e1 i1
  have h1 : H1 a = some (.lst xs) := e1 a _ (S.own_nA (i := i) (by rw [g2]; rfl)) g4
  refine ⟨a, xs, v, rfl, rfl, h1, ?_, ?_⟩
  · have q := hd.1
    rw [← g5.len] at q
    rw [sizeLine_eq]
    omega
  · exact k1 _ _ _ _ hd.2 (S1.mut g1 g2 g3 ((g5.ext S.mok e1).app (reps_cons r1 reps_nil)))
end
def neN : D → D → (D → Prop) → Prop
  | .lst (_ :: _), .lst [], P => P (.bl true)
  | x, y, P => neD x y P
def rNeN (K : PySem.W.Frag) : R2 := fun x y H Q => (∃ a b vs, x = .ref a ∧ y = .ref b ∧ SqL K H a vs ∧ SqL K H b [] ∧ vs ≠ [] ∧ Q (.bl true) H) ∨ rNeA K x y H Q
theorem op_neN {X : Cx} (hu : X.A.units + 64 < cLine) : OpR X (compareOp .NotEq) (rNeN X.K) := by
  intro pins s σ H x y v u Q I rx ry h
  rcases h with ⟨a, b, vs, rfl, rfl, h1, h2, hne, q⟩ | h
  · cases (show v = Value.ref a from rx)
    cases (show u = Value.ref b from ry)
    obtain ⟨i1, r1, p1, _⟩ := I.list h1
    obtain ⟨i2, r2, p2, _⟩ := I.list h2
    have l1 := r1.length
    have l2 := r2.length
    refine PySem.SeqAt.RcNeAt.lists_lengths p1.isList p2.isList ?_ (by omega) _ _ _ _ ⟨.bl true, H, I, rfl, q⟩
    cases vs with
    | nil => exact absurd rfl hne
    | cons z zs =>
      have l1 : i1.length = zs.length + 1 := by rw [← l1]; rfl
      have l2 : i2.length = 0 := by rw [← l2]; rfl
      simp [l1, l2]
  · exact op_neA hu pins s σ H x y v u Q I rx ry h
theorem lift_neN {K : PySem.W.Frag} {W : Wd} : LiftOp K W neN (rNeN K) := by
  intro M H x y v u P Q m r1 r2 h k
  unfold neN at h
  split at h
  · obtain ⟨a, us, rfl, t1, rr⟩ := r1.lst
    obtain ⟨b, ws, rfl, t2, rr2⟩ := r2.lst
    obtain ⟨z, zs, rfl, _, _⟩ := rr.inv
    have e0 := rr2.inv0
    subst e0
    exact .inl ⟨a, b, _, rfl, rfl, t1.sq, t2.sq, (by intro z; cases z), k _ _ H h (Ext.refl H) m.wi rep_bl⟩
  · exact .inr (lift_ne (W := W) M H _ _ _ _ P Q m r1 r2 h k)
theorem vs_parNilC {X : Cx} {W : Wd} {e : Expr} {pos : Pos} (i j : Nat) {x y : Str} {wa : WE} {px py pt dp : Pos} {kt k2 pt2} (hc : X.calm = true) (hN : X.N.Nodup) (ha : VE X W e wa) (hi : X.N[i]? = some x := by rfl) (hj : X.N[j]? = some y := by rfl)
    (hx : Loc X.env.scope x := by first | exact Or.inl rfl | exact Or.inr rfl) (hy : Loc X.env.scope y := by first | exact Or.inl rfl | exact Or.inr rfl)
    (hfx : X.fn x = true ∨ X.env.scope.names.lookup x = some .local := by first | exact .inl rfl | exact .inr rfl | assumption) (hfy : X.fn y = true ∨ X.env.scope.names.lookup y = some .local := by first | exact .inl rfl | exact .inr rfl | assumption)
    (hw : swappedStores [.Tuple [.Name x px, .Name y py] kt pt] (.Tuple [.List [] dp, e] k2 pt2) X.env = pure none := by rfl)
    (hs : swapsWithSole [.Tuple [.Name x px, .Name y py] kt pt] (.Tuple [.List [] dp, e] k2 pt2) pos.line X.env = pure false := by rfl) (hs1 : starEach [.List [] dp, e] X.env = (false, eval (.List [] dp) X.env) :: starEach [e] X.env := by rfl) (hs2 : starEach [e] X.env = (false, eval e X.env) :: starEach [] X.env := by rfl)
    (h1 : (assignEach [.Tuple [.Name x px, .Name y py] kt pt] X.env).map (·.2) = [assign (.Tuple [.Name x px, .Name y py] kt pt) X.env] := by rfl)
    (hn : (assignEach [.Name x px, .Name y py] X.env).length = 2 := by rfl) (hst : (assignEach [.Name x px, .Name y py] X.env).findIdx? (·.1) = none := by rfl)
    (hp1 : (assignEach [.Name x px, .Name y py] X.env).map (·.2) = assign (.Name x px) X.env :: (assignEach [.Name y py] X.env).map (·.2) := by rfl) (hp2 : (assignEach [.Name y py] X.env).map (·.2) = assign (.Name y py) X.env :: (assignEach [] X.env).map (·.2) := by rfl) :
    VS X W (.Assign [.Tuple [.Name x px, .Name y py] kt pt] (.Tuple [.List [] dp, e] k2 pt2) pos) (fun E ds => i < ds.length ∧ wa ds fun d => E.nx ((ds.set i (.ml [])).set j (.d d))) := by
  refine ps_imp (ps_asg (pe_tup (pa_cons (pe_lst pa_nil) (pa_cons ha pa_nil hs2) hs1)) (pg_tup (n := 2) hc (pgs_cons (pg_name hN hi hx hfx) (pgs_cons (pg_name hN hj hy hfy) pgs_nil hp2) hp1) hn hst) hs hw h1) fun D σ H h => ?_
  obtain ⟨M0, H0, oa, ds, E, S, ⟨hl, hw⟩, k1, k2, k3, k4⟩ := h
  refine ⟨by show 0 ≤ sizeLine; exact Nat.zero_le _, fun q hq => ?_⟩
  have fu : Full H (upd H q (.lst [])) := Full.new hq
  have S1 := S.blk (vs := []) (Dl := q) (ob := .lst []) (H2 := upd H q (.lst [])) rfl hq (fun b o _ z => fu b o z) (W.keep _ _ S.wi fu) upd_same
  rw [wipe_nil, wipeD_nil] at S1
  refine ⟨_, _, oa, ds, _, S1, hw, fun d v H3 hd e1 i1 r1 => ?_⟩
  refine ⟨by show 2 ≤ sizeLine; decide, fun p hp => ?_⟩
  have nA : ¬ W.A q := fun z => (W.live _ _ S.wi z) hq
  have S3 := (S.takeown (i := i) hl hq (fu.ext.trans e1) i1 (xs := []) (vs := []) (e1 q _ nA upd_same) reps_nil).set (i := j) (r1.car mx_put_le)
  exact ⟨p, [.ref q, v], rfl, .inl (.inl upd_same), rfl, .ref q, [v], rfl, v, [], rfl, rfl, k1 _ _ _ _ hd (S3.step (Full.new hp).ext (W.keep _ _ S3.wi (Full.new hp)))⟩
end VL
set_option Elab.async false
set_option linter.all false
set_option maxRecDepth 100000
set_option maxHeartbeats 1000000
set_option exponentiation.threshold 20000
namespace VL
open PySem L2 Fs
def aQ (q : Rat) : D := .tup [.int q.num, .int (q.den : Int)]
theorem q_aQ (q : Rat) : qD (aQ q) = q := Rat.num_divInt_den q
theorem aQ_amt {n : Nat} {q : Rat} (h : Bq n q) : AmtD n (aQ q) :=
  ⟨q.num, (q.den : Int), rfl, by have := q.den_nz; omega, q.reduced, h.1, h.2⟩
theorem bq_big (q : Rat) : ∃ n, Bq n q := by
  refine ⟨q.num.natAbs + q.den, ?_, ?_⟩
  · exact Nat.lt_of_lt_of_le Nat.lt_two_pow_self (Nat.pow_le_pow_right (by decide) (by omega))
  · exact Nat.lt_of_lt_of_le Nat.lt_two_pow_self (Nat.pow_le_pow_right (by decide) (by omega))
theorem aQ_any (q : Rat) : ∃ n, AmtD n (aQ q) := let ⟨n, h⟩ := bq_big q; ⟨n, aQ_amt h⟩
theorem aQ_of {n : Nat} {x : D} (h : AmtD n x) : x = aQ (qD x) := by
  obtain ⟨m, hm⟩ := aQ_any (qD x)
  exact q_inj h hm (q_aQ _).symm
theorem bq_of {n : Nat} {x : D} (h : AmtD n x) : Bq n (qD x) := by
  have e := aQ_of h
  obtain ⟨a, b, e2, A⟩ := h
  rw [e2] at e ⊢
  unfold aQ at e
  injection e with e
  injection e with e1 e3
  injection e3 with e3 _
  injection e1 with e1
  injection e3 with e3
  have h1 := A.ha
  have h2 := A.hb
  rw [e1] at h1
  rw [e3] at h2
  exact ⟨h1, h2⟩
theorem bq_aQ {n : Nat} {q : Rat} (h : AmtD n (aQ q)) : Bq n q := by
  have := bq_of h
  rw [q_aQ] at this
  exact this
theorem aQ_inj {x y : Rat} (h : aQ x = aQ y) : x = y := by rw [← q_aQ x, h, q_aQ]
theorem aQ_zero : aQ 0 = zeroD := rfl
theorem plus_aQ (x y : Rat) : plusD (aQ x) (aQ y) = aQ (x + y) := by
  obtain ⟨n, hx⟩ := aQ_any x
  obtain ⟨m, hy⟩ := aQ_any y
  rw [aQ_of (plus_amt hx hy), q_plus hx hy, q_aQ, q_aQ]
theorem times_aQ (x y : Rat) : timesD (aQ x) (aQ y) = aQ (x * y) := by
  obtain ⟨n, hx⟩ := aQ_any x
  obtain ⟨m, hy⟩ := aQ_any y
  rw [aQ_of (times_amt hx hy), q_times hx hy, q_aQ, q_aQ]
theorem minus_aQ (x y : Rat) : minusD (aQ x) (aQ y) = aQ (x - y) := by
  obtain ⟨n, hx⟩ := aQ_any x
  obtain ⟨m, hy⟩ := aQ_any y
  rw [aQ_of (minus_amt hx hy), q_minus hx hy, q_aQ, q_aQ]
theorem aQ_nz {y : Rat} (h : y ≠ 0) : aQ y ≠ zeroD := fun z => h (aQ_inj z)
theorem over_aQ (x : Rat) {y : Rat} (h : y ≠ 0) : overD (aQ x) (aQ y) = aQ (x / y) := by
  obtain ⟨n, hx⟩ := aQ_any x
  obtain ⟨m, hy⟩ := aQ_any y
  rw [aQ_of (over_amt hx hy (aQ_nz h)), q_over hx hy (aQ_nz h), q_aQ, q_aQ]
theorem neg_aQ (x : Rat) : D.tup [.int (-x.num), .int (x.den : Int)] = aQ (-x) := rfl
theorem bq_plus {n m : Nat} {x y : Rat} (hx : Bq n x) (hy : Bq m y) : Bq (n + m + 1) (x + y) := by
  have := plus_amt (aQ_amt hx) (aQ_amt hy)
  rw [plus_aQ] at this
  exact bq_aQ this
theorem bq_times {n m : Nat} {x y : Rat} (hx : Bq n x) (hy : Bq m y) : Bq (n + m) (x * y) := by
  have := times_amt (aQ_amt hx) (aQ_amt hy)
  rw [times_aQ] at this
  exact bq_aQ this
theorem bq_neg {n : Nat} {x : Rat} (hx : Bq n x) : Bq n (-x) := by
  refine ⟨?_, hx.2⟩
  show (-x.num).natAbs < 2 ^ n
  rw [Int.natAbs_neg]
  exact hx.1
theorem bq_minus {n m : Nat} {x y : Rat} (hx : Bq n x) (hy : Bq m y) : Bq (n + m + 1) (x - y) := by
  rw [Rat.sub_eq_add_neg]
  exact bq_plus hx (bq_neg hy)
theorem bq_over {n m : Nat} {x y : Rat} (hx : Bq n x) (hy : Bq m y) (h : y ≠ 0) : Bq (n + m) (x / y) := by
  have := over_amt (aQ_amt hx) (aQ_amt hy) (aQ_nz h)
  rw [over_aQ x h] at this
  exact bq_aQ this
theorem bq0 {n : Nat} : Bq (n + 1) 0 := Bq.mono (n := 1) ⟨by decide, by decide⟩ (by omega)
theorem bq1 {n : Nat} : Bq (n + 1) 1 := Bq.mono (n := 1) ⟨by decide, by decide⟩ (by omega)
theorem sgI_iff {q : Rat} : (0 < sgnI q.num ↔ 0 < q) ∧ (sgnI q.num < 0 ↔ q < 0) ∧ (sgnI q.num = 0 ↔ q = 0) := by
  obtain ⟨n, h⟩ := aQ_any q
  have h1 := sgn_pos h
  have h2 := sgn_neg h
  have h3 := sgn_zero h
  rw [q_aQ] at h1 h2 h3
  exact ⟨h1, h2, h3⟩
theorem eqv_aQ (x y : Rat) : eqv (aQ x) (aQ y) = decide (x = y) := by
  obtain ⟨n, hx⟩ := aQ_any x
  obtain ⟨m, hy⟩ := aQ_any y
  rw [eqv_amtD hx hy, q_aQ, q_aQ]
theorem mapQ_get {α β : Type} {f : α → β} {l : List α} {i : Nat} {y : β} (h : (l.map f)[i]? = some y) : ∃ x, l[i]? = some x ∧ y = f x := by
  rw [List.getElem?_map] at h
  cases e : l[i]? with
  | none => rw [e] at h; cases h
  | some x =>
    rw [e] at h
    exact ⟨x, rfl, (Option.some.inj h).symm⟩
theorem aQ_get {l : List Rat} {i : Nat} (h : i < l.length) : (l.map aQ)[i]? = some (aQ (gt l i)) := by
  rw [List.getElem?_map, List.getElem?_eq_getElem h]
  unfold gt
  rw [List.getD_eq_getElem?_getD, List.getElem?_eq_getElem h]
  rfl
theorem gt_get {l : List Rat} {i : Nat} (h : i < l.length) : l[i]? = some (gt l i) := by
  unfold gt
  rw [List.getD_eq_getElem?_getD, List.getElem?_eq_getElem h]
  rfl
theorem aQ_half : aQ (1 / 2) = .tup [.int 1, .int 2] := by
  have hh : AmtD 2 (.tup [.int 1, .int 2]) := ⟨1, 2, rfl, by decide, by decide, by decide, by decide⟩
  have e := aQ_of hh
  rw [show qD (.tup [.int 1, .int 2]) = 1 / 2 by show Rat.divInt 1 2 = 1 / 2; rw [Rat.divInt_eq_div]; rfl] at e
  exact e.symm
def rowQ (r : Rw) : D := .tup [.tup (r.f.map aQ), aQ r.c, .str (if r.e = true then eqS else ltS)]
def sumK : List Str := ["factors", "constant", "multipliers", "members"]
def nD (i : Nat) : D := .int (i : Int)
def smQ (C : Addr) (s : Sm) : D := .ins C sumK [.lst (s.f.map aQ), aQ s.c, .lst (s.m.map aQ), .lst (s.mem.map nD)]
structure Sz (n : Nat) (s : Sm) : Prop where
  c : Bq n s.c
  f : ∀ x ∈ s.f, Bq n x
  m : ∀ x ∈ s.m, Bq n x
theorem Sz.mono {n m : Nat} {s : Sm} (h : Sz n s) (l : n ≤ m) : Sz m s := ⟨h.c.mono l, fun x hx => (h.f x hx).mono l, fun x hx => (h.m x hx).mono l⟩
theorem sz_of {b : Nat} {s : Sm} (h : CdS b s) : Sz b s := by
  refine ⟨h.bc, fun x hx => ?_, fun x hx => ?_⟩
  · obtain ⟨i, _, rfl⟩ := mem_gt hx
    exact h.bf i
  · obtain ⟨i, _, rfl⟩ := mem_gt hx
    exact h.bm i
theorem amts_of {n : Nat} {l : List Rat} (h : ∀ x ∈ l, Bq n x) : ∀ d ∈ l.map aQ, AmtD n d := fun d hd => by
  obtain ⟨x, hx, rfl⟩ := List.mem_map.mp hd
  exact aQ_amt (h x hx)
theorem addL_q {xs ys : List Rat} {b : Rat} (h : xs.length = ys.length) : addL (xs.map aQ) (ys.map aQ) (aQ b) = (addR xs ys b).map aQ := by
  have key : ∀ (xs ys : List Rat), xs.length = ys.length → (zipsD (xs.map aQ) (ys.map aQ)).map (addT (aQ b)) = (addR xs ys b).map aQ := fun xs => by
    induction xs with
    | nil => intro ys h; cases ys <;> first | rfl | cases h
    | cons x xs ih =>
      intro ys h
      cases ys with
      | nil => cases h
      | cons y ys =>
        have h : xs.length = ys.length := by simpa using h
        show addT (aQ b) (.tup [aQ x, aQ y]) :: (zipsD (xs.map aQ) (ys.map aQ)).map (addT (aQ b)) = aQ (x + b * y) :: (addR xs ys b).map aQ
        rw [ih ys h]
        congr 1
        show plusD (aQ x) (timesD (aQ b) (aQ y)) = _
        rw [times_aQ, plus_aQ]
  unfold addL befD
  by_cases e : xs = []
  · subst e
    have : ys = [] := List.eq_nil_of_length_eq_zero h.symm
    subst this
    rfl
  · rw [if_neg (by simpa using e)]
    exact key xs ys h
theorem valZ_q : ∀ (f p : List Rat) (c : Rat) (i : Nat), valZ ((zipsD (f.map aQ) (p.map aQ)).take i) (aQ c) = aQ (((List.zip f p).take i).foldl (fun a q => a + q.1 * q.2) c)
  | _, _, _, 0 => rfl
  | [], _, _, _ + 1 => rfl
  | _ :: _, [], _, _ + 1 => rfl
  | x :: f, y :: p, c, i + 1 => by
    show valZ ((zipsD (f.map aQ) (p.map aQ)).take i) (plusD (aQ c) (timesD (aQ x) (aQ y))) = aQ (((List.zip f p).take i).foldl (fun a q => a + q.1 * q.2) (c + x * y))
    rw [times_aQ, plus_aQ, valZ_q f p]
theorem valZ_v (f p : List Rat) (c : Rat) : valZ (zipsD (f.map aQ) (p.map aQ)) (aQ c) = aQ (valR f c p) := by
  have := valZ_q f p c (zipsD (f.map aQ) (p.map aQ)).length
  rw [List.take_length] at this
  rw [this]
  unfold valR
  rw [show (zipsD (f.map aQ) (p.map aQ)).length = (List.zip f p).length by rw [zips_len, List.length_map, List.length_map, List.length_zip], List.take_length]
theorem un_uniq {n : Nat} {a b : List Nat} {r : List Int} (ha : ∀ i ∈ a, i < n) (hb : ∀ i ∈ b, i < n) (hp : r.Pairwise (· < ·)) (hm : ∀ k, k ∈ r ↔ k ∈ (a ++ b).map (fun i : Nat => (i : Int))) : r.map D.int = (un n a b).map nD := by
  have e : r = (un n a b).map fun i : Nat => (i : Int) := by
    refine List.Perm.eq_of_pairwise (fun x y _ _ h1 h2 => by have h1 : x < y := h1; have h2 : y < x := h2; omega) hp ?_ ?_
    · rw [List.pairwise_map]
      refine List.Pairwise.imp (fun {x y} h => ?_) (List.pairwise_lt_range.filter _ : (un n a b).Pairwise (· < ·))
      omega
    · refine (List.perm_ext_iff_of_nodup ?_ ?_).mpr fun k => ?_
      · exact hp.imp fun {x y} h => by omega
      · rw [List.nodup_iff_pairwise_ne, List.pairwise_map]
        refine List.Pairwise.imp (fun {x y} h => ?_) (List.pairwise_lt_range.filter _ : (un n a b).Pairwise (· < ·))
        omega
      · rw [hm, List.mem_map, List.mem_map]
        constructor
        · rintro ⟨i, hi, rfl⟩
          refine ⟨i, List.mem_filter.mpr ⟨List.mem_range.mpr ?_, ?_⟩, rfl⟩
          · rcases List.mem_append.mp hi with h | h
            · exact ha i h
            · exact hb i h
          · rcases List.mem_append.mp hi with h | h <;> simp [h]
        · rintro ⟨i, hi, rfl⟩
          have := (List.mem_filter.mp hi).2
          refine ⟨i, ?_, rfl⟩
          simpa using this
  rw [e, List.map_map]
  rfl
section
variable {α : Type} {S : List α} {P : List D → Prop} {gg : WG} {t : WT} {w : WE} {ds : List Sl}
theorem lcS {g : α → D} (f : α → Bool) (h : ∀ s ∈ S, ∀ (Y : D → Prop) (N : Prop), (f s = true → Y (g s)) → (f s = false → N) → gg (g s) ds fun ds1 => t ds1 fun b => if b = true then w ds1 Y else N) (hP : P ((S.filter f).map g)) :
    ∃ Iv : Nat → List D → Prop, Iv 0 [] ∧ (∀ i d acc, (S.map g)[i]? = some d → Iv i acc → gg d ds fun ds1 => t ds1 fun b => if b = true then w ds1 fun y => Iv (i + 1) (acc ++ [y]) else Iv (i + 1) acc) ∧ ∀ acc, Iv (S.map g).length acc → P acc := by
  refine ⟨fun i acc => acc = ((S.take i).filter f).map g, rfl, fun i d acc hd ha => ?_, fun acc ha => by have z : acc = ((S.take (S.map g).length).filter f).map g := ha; rw [z, List.length_map, List.take_length]; exact hP⟩
  obtain ⟨s, hs, rfl⟩ := mapQ_get hd
  subst ha
  refine h s (List.mem_of_getElem? hs) _ _ (fun e => ?_) fun e => ?_
  · show _ = ((S.take (i + 1)).filter f).map g
    rw [take_one hs, List.filter_append, List.filter_cons_of_pos e, List.map_append]
    rfl
  · show _ = ((S.take (i + 1)).filter f).map g
    rw [take_one hs, List.filter_append, List.filter_cons_of_neg (by rw [e]; decide), List.filter_nil, List.append_nil]
theorem lcSF {g : α → D} (f : α → Bool) (F : α → D) (h : ∀ s ∈ S, ∀ (Y : D → Prop) (N : Prop), (f s = true → Y (F s)) → (f s = false → N) → gg (g s) ds fun ds1 => t ds1 fun b => if b = true then w ds1 Y else N) (hP : P ((S.filter f).map F)) :
    ∃ Iv : Nat → List D → Prop, Iv 0 [] ∧ (∀ i d acc, (S.map g)[i]? = some d → Iv i acc → gg d ds fun ds1 => t ds1 fun b => if b = true then w ds1 fun y => Iv (i + 1) (acc ++ [y]) else Iv (i + 1) acc) ∧ ∀ acc, Iv (S.map g).length acc → P acc := by
  refine ⟨fun i acc => acc = ((S.take i).filter f).map F, rfl, fun i d acc hd ha => ?_, fun acc ha => by have z : acc = ((S.take (S.map g).length).filter f).map F := ha; rw [z, List.length_map, List.take_length]; exact hP⟩
  obtain ⟨s, hs, rfl⟩ := mapQ_get hd
  subst ha
  refine h s (List.mem_of_getElem? hs) _ _ (fun e => ?_) fun e => ?_
  · show _ = ((S.take (i + 1)).filter f).map F
    rw [take_one hs, List.filter_append, List.filter_cons_of_pos e, List.map_append]
    rfl
  · show _ = ((S.take (i + 1)).filter f).map F
    rw [take_one hs, List.filter_append, List.filter_cons_of_neg (by rw [e]; decide), List.filter_nil, List.append_nil]
theorem lcG {g : α → D} (F : α → D) (h : ∀ s ∈ S, ∀ R : D → Prop, R (F s) → gg (g s) ds fun ds1 => w ds1 R) (hP : P (S.map F)) :
    ∃ Iv : Nat → List D → Prop, Iv 0 [] ∧ (∀ i d acc, (S.map g)[i]? = some d → Iv i acc → gg d ds fun ds1 => wYes ds1 fun b => if b = true then w ds1 fun y => Iv (i + 1) (acc ++ [y]) else Iv (i + 1) acc) ∧ ∀ acc, Iv (S.map g).length acc → P acc := by
  refine ⟨fun i acc => acc = (S.take i).map F, rfl, fun i d acc hd ha => ?_, fun acc ha => by have z : acc = (S.take (S.map g).length).map F := ha; rw [z, List.length_map, List.take_length]; exact hP⟩
  obtain ⟨s, hs, rfl⟩ := mapQ_get hd
  subst ha
  refine h s (List.mem_of_getElem? hs) _ ?_
  show _ = (S.take (i + 1)).map F
  rw [take_one hs, List.map_append]
  rfl
end
section
variable {s : Sm} {k : Nat} {p : List Rat} {lo hi : Option Rat} {y : Rat}
theorem btw_h0 (f : 0 < gt s.f k) : btwS k p (lo, none) s = (lo, some (bndR s k p)) := by
  unfold btwS
  rw [if_neg (by grind), if_pos f]
theorem btw_h1 (f : 0 < gt s.f k) (c : bndR s k p - y < 0) : btwS k p (lo, some y) s = (lo, some (bndR s k p)) := by
  unfold btwS
  rw [if_neg (by grind), if_pos f]
  dsimp only
  rw [if_pos c]
theorem btw_h2 (f : 0 < gt s.f k) (c : ¬ bndR s k p - y < 0) : btwS k p (lo, some y) s = (lo, some y) := by
  unfold btwS
  rw [if_neg (by grind), if_pos f]
  dsimp only
  rw [if_neg c]
theorem btw_l0 (f : gt s.f k < 0) : btwS k p (none, hi) s = (some (bndR s k p), hi) := by
  unfold btwS
  rw [if_neg (by grind), if_neg (by grind)]
theorem btw_l1 (f : gt s.f k < 0) (c : 0 < bndR s k p - y) : btwS k p (some y, hi) s = (some (bndR s k p), hi) := by
  unfold btwS
  rw [if_neg (by grind), if_neg (by grind)]
  dsimp only
  rw [if_pos c]
theorem btw_l2 (f : gt s.f k < 0) (c : ¬ 0 < bndR s k p - y) : btwS k p (some y, hi) s = (some y, hi) := by
  unfold btwS
  rw [if_neg (by grind), if_neg (by grind)]
  dsimp only
  rw [if_neg c]
end
theorem enum_q (f : List Rat) : enumD (f.map aQ) = (List.range f.length).map fun i => .tup [nD i, aQ (gt f i)] := by
  refine List.ext_getElem? fun i => ?_
  by_cases h : i < f.length
  · have h1 : i < (enumD (f.map aQ)).length := by rw [enumD_len, List.length_map]; exact h
    obtain ⟨y, hy, e⟩ := enumD_get (List.getElem?_eq_getElem h1)
    rw [List.getElem?_eq_getElem h1, e, List.getElem?_map, List.getElem?_range h]
    rw [aQ_get h] at hy
    cases hy
    rfl
  · rw [List.getElem?_eq_none (by rw [enumD_len, List.length_map]; omega), List.getElem?_eq_none (by rw [List.length_map, List.length_range]; omega)]
theorem spot_head (f : List Rat) : ((List.range f.length).filter fun k => decide (gt f k ≠ 0)).head? = spotR f := List.head?_filter
theorem sg_aQ (q : Rat) : D.tup [.int (sgnI q.num), .int 1] = aQ (sgR q) := by
  unfold sgR
  by_cases h : 0 < q
  · rw [if_pos h]
    have := sgI_iff.1.mpr h
    have e : sgnI q.num = 1 := by unfold sgnI at this ⊢; split <;> split <;> simp_all
    rw [e]
    rfl
  · rw [if_neg h]
    by_cases h2 : q < 0
    · rw [if_pos h2]
      have := sgI_iff.2.1.mpr h2
      have e : sgnI q.num = -1 := by unfold sgnI at this ⊢; split <;> split <;> simp_all
      rw [e]
      rfl
    · rw [if_neg h2]
      have := sgI_iff.2.2.mpr (show q = 0 by grind)
      rw [this]
      rfl
theorem bq_sg (q : Rat) : Bq 1 (sgR q) := by
  unfold sgR
  split
  · exact bq1 (n := 0)
  · split
    · exact ⟨by decide, by decide⟩
    · exact bq0 (n := 0)
theorem seq_nil {n : Nat} {piv : List (Nat × Sm)} {S : List Sm} : solveEq n piv [] S = (piv, S, none) := by unfold solveEq; rfl
theorem seq_zero {n : Nat} {piv : List (Nat × Sm)} {s : Sm} {r S : List Sm} (e : spotR s.f = none) (c : s.c = 0) : solveEq (n + 1) piv (s :: r) S = solveEq n piv r S := by
  rw [solveEq, e]
  dsimp only
  rw [if_neg (by simp [c])]
theorem seq_bad {n : Nat} {piv : List (Nat × Sm)} {s : Sm} {r S : List Sm} (e : spotR s.f = none) (c : s.c ≠ 0) : solveEq (n + 1) piv (s :: r) S = (piv, S, some (s.scaled (sgR s.c)).m) := by
  rw [solveEq, e]
  dsimp only
  rw [if_pos c]
theorem seq_pivot {n k : Nat} {piv : List (Nat × Sm)} {s : Sm} {r S : List Sm} (e : spotR s.f = some k) : solveEq (n + 1) piv (s :: r) S = solveEq n (piv ++ [(k, s)]) (r.map fun o => wo o s k) (S.map fun o => wo o s k) := by
  rw [solveEq, e]
theorem neN_cons {x : D} {xs : List D} {P : D → Prop} (h : P (.bl true)) : neN (.lst (x :: xs)) (.lst []) P := h
theorem star_cons {x : D} {xs : List D} {P : List D → Prop} (h : xs.length + 1 ≤ 1000000) (hP : P [x, .lst xs]) : starD 2 1 (.lst (x :: xs)) P := by
  refine ⟨by simp, by simpa using h, ?_⟩
  have e : ((x :: xs).take 1 ++ [D.lst (((x :: xs).drop 1).take ((x :: xs).length + 1 - 2))]) ++ ((x :: xs).drop 1).drop ((x :: xs).length + 1 - 2) = [x, .lst xs] := by simp
  rw [e]
  exact hP
theorem seq_star {g : List D → List Sl → (List Sl → Prop) → Prop} {b : WS} {E : EndsD} {ds : List Sl} {i : Nat} {x : D} {xs : List D} (hi : ds.getD i .un = .d (.lst (x :: xs))) (h : xs.length + 1 ≤ 1000000) (hP : g [x, .lst xs] ds (b E)) : wSeq (fun E ds => wVar i ds fun d => starD 2 1 d fun xs => g xs ds E.nx) b E ds := by
  show slD (ds.getD i .un) fun d => starD 2 1 d fun xs => g xs ds (b E)
  rw [hi]
  exact star_cons (P := fun xs => g xs ds (b E)) h hP
theorem seq_ok2 {R : List Rw} {w b : Nat} : ∀ (n : Nat) (piv : List (Nat × Sm)) (left S : List Sm) (g : Nat → Sm), left.length ≤ n → EI R w piv left S g → SzE b piv left S →
    (∃ m, (solveEq n piv left S).2.2 = some m ∧ ∀ x ∈ m, Bq (1 + bt b w) x) ∨ ((solveEq n piv left S).2.2 = none ∧ ∃ g', EI R w (solveEq n piv left S).1 [] (solveEq n piv left S).2.1 g' ∧ SzE b (solveEq n piv left S).1 [] (solveEq n piv left S).2.1)
  | n, piv, [], S, g, _, h, z => by
    rw [seq_nil]
    exact .inr ⟨rfl, g, h, z⟩
  | 0, _, s :: r, _, _, hl, _, _ => by simp at hl
  | n + 1, piv, s :: r, S, g, hl, h, z => by
    have hl : r.length ≤ n := by simpa using hl
    cases e : spotR s.f with
    | none =>
      by_cases c : s.c = 0
      · rw [seq_zero e c]
        exact seq_ok2 n piv r S g hl (h.zero e c) z.zero
      · rw [seq_bad e c]
        refine .inl ⟨_, rfl, fun x hx => ?_⟩
        obtain ⟨y, hy, rfl⟩ := List.mem_map.mp hx
        exact bq_times (bq_sg _) ((sz_of ((z.l s (.head _)).mono (bt_le h.plen.2))).m y hy)
    | some k =>
      rw [seq_pivot e]
      exact seq_ok2 n _ _ _ _ (by rw [List.length_map]; exact hl) (h.pivot e) (z.pivot h e)
theorem rng_nD {n : Nat} : rngD 0 n = (List.range n).map nD := by
  unfold rngD
  refine List.map_congr_left fun i _ => ?_
  show D.int (0 + (i : Int)) = .int (i : Int)
  rw [Int.zero_add]
theorem find_at {α : Type} {p : α → Bool} : ∀ {l : List α} {j : Nat} {s : α}, (∀ x ∈ l.take j, p x = false) → l[j]? = some s → p s = true → l.find? p = some s
  | [], _, _, _, h, _ => by simp at h
  | a :: l, 0, s, _, h, hp => by
    have e : a = s := by simpa using h
    rw [e, List.find?_cons_of_pos hp]
  | a :: l, j + 1, s, hn, h, hp => by
    rw [List.find?_cons_of_neg (by rw [hn a (by rw [List.take_succ_cons]; exact .head _)]; decide)]
    exact find_at (fun x hx => hn x (by rw [List.take_succ_cons]; exact .tail _ hx)) (by simpa using h) hp
theorem flat_nD (l : List Nat) : (l.map nD).all flatD = true := by
  rw [List.all_eq_true]
  intro d hd
  obtain ⟨s, _, rfl⟩ := List.mem_map.mp hd
  rfl
theorem inV_nD {k : Nat} {l : List Nat} : inV (fV (nD k)) ((l.map nD).map fV) = decide (k ∈ l) := by
  by_cases h : k ∈ l
  · rw [decide_eq_true h]
    refine List.any_eq_true.mpr ⟨.int k, List.mem_map.mpr ⟨nD k, List.mem_map.mpr ⟨k, h, rfl⟩, rfl⟩, ?_⟩
    show decide ((k : Int) = (k : Int)) = true
    exact decide_eq_true rfl
  · rw [decide_eq_false h]
    refine Bool.eq_false_iff.mpr fun z => h ?_
    obtain ⟨y, hy, e⟩ := List.any_eq_true.mp z
    obtain ⟨d, hd, rfl⟩ := List.mem_map.mp hy
    obtain ⟨i, hi, rfl⟩ := List.mem_map.mp hd
    have e : decide ((i : Int) = (k : Int)) = true ∨ decide ((k : Int) = (i : Int)) = true := by first | exact .inl e | exact .inr e
    rcases e with e | e
    · have := of_decide_eq_true e
      rw [show k = i by omega]
      exact hi
    · have := of_decide_eq_true e
      rw [show k = i by omega]
      exact hi
theorem ixQ {n j : Nat} (hj : j < n) : ixN n (j : Int) = some j := by
  unfold ixN
  rw [if_pos (by omega), if_pos (by omega)] <;> simp
def stQ (C : Addr) (q : Nat × List Sm) : D := .tup [nD q.1, .lst (q.2.map (smQ C))]
def ansQ : Ans → D
  | .point p => .tup [.str "point", .tup (p.map aQ)]
  | .never m => .tup [.str "never", .tup (m.map aQ)]
theorem row_app {lo : Sm} {A B : List Sm} {k d : Nat} : rowR lo (A ++ B) k d = rowR lo A k d ++ rowR lo B k d := by
  unfold rowR
  rw [List.map_append, List.filter_append]
theorem row_one {lo hi : Sm} {A : List Sm} {k d : Nat} : rowR lo (A ++ [hi]) k d = rowR lo A k d ++ if (pairR lo hi k).mem.length ≤ d + 2 then [pairR lo hi k] else [] := by
  rw [row_app]
  congr 1
  unfold rowR
  rw [List.map_cons, List.map_nil, List.filter_cons]
  by_cases h : (pairR lo hi k).mem.length ≤ d + 2
  · rw [if_pos (decide_eq_true h), if_pos h]
    rfl
  · rw [if_neg (by simp [h]), if_neg h]
    rfl
theorem part_len {S : List Sm} {k d i j : Nat} {lo : Sm} (h : (negs S k)[i]? = some lo) : (zers S k ++ ((negs S k).take i).flatMap (fun lo => rowR lo (poss S k) k d) ++ rowR lo ((poss S k).take j) k d).length ≤ (removedR S k d).length := by
  unfold removedR
  have e1 : negs S k = (negs S k).take i ++ [lo] ++ (negs S k).drop (i + 1) := by rw [← take_one h, List.take_append_drop]
  have e2 : rowR lo (poss S k) k d = rowR lo ((poss S k).take j) k d ++ rowR lo ((poss S k).drop j) k d := by rw [← row_app, List.take_append_drop]
  have e3 : (negs S k).flatMap (fun lo => rowR lo (poss S k) k d) = ((negs S k).take i).flatMap (fun lo => rowR lo (poss S k) k d) ++ rowR lo (poss S k) k d ++ ((negs S k).drop (i + 1)).flatMap (fun lo => rowR lo (poss S k) k d) := by
    have := congrArg (fun l : List Sm => l.flatMap (fun lo => rowR lo (poss S k) k d)) e1
    rw [List.flatMap_append, List.flatMap_append, List.flatMap_singleton] at this
    exact this
  rw [e3, e2]
  simp only [List.length_append]
  omega
end VL
set_option Elab.async false
set_option linter.all false
set_option maxRecDepth 100000
set_option maxHeartbeats 1000000
set_option exponentiation.threshold 20000
namespace VL
open PySem L2 Fs Fm
def rmQ (q : Rw × Rat) : D := .tup [rowQ q.1, aQ q.2]
theorem zips_q : ∀ (R : List Rw) (m : List Rat), zipsD (R.map rowQ) (m.map aQ) = (List.zip R m).map rmQ
  | [], _ => rfl
  | _ :: _, [] => rfl
  | r :: R, x :: m => by
    show D.tup [rowQ r, aQ x] :: zipsD (R.map rowQ) (m.map aQ) = _
    rw [zips_q R m]
    rfl
def accT (w : Nat) (l : List (Rw × Rat)) : List Rat := l.foldl (fun F q => addR F q.1.f q.2) (List.replicate w 0)
theorem bef_z (w : Nat) {fs : List D} (h : fs.length = w) : befD [] fs = befD ((List.replicate w (0 : Rat)).map aQ) fs := by
  unfold befD
  cases w with
  | zero => rfl
  | succ w =>
    rw [if_pos (show ([] : List D).isEmpty = true from rfl), if_neg (by simp), List.map_replicate, List.map_const', h]
    rfl
theorem fold_T {w : Nat} : ∀ (l : List (Rw × Rat)) (F : List Rat), F.length = w → (∀ q ∈ l, q.1.f.length = w) → (l.map rmQ).foldl stepT (F.map aQ) = (l.foldl (fun F q => addR F q.1.f q.2) F).map aQ
  | [], _, _, _ => rfl
  | q :: l, F, hF, h => by
    have hq := h q (.head _)
    show (l.map rmQ).foldl stepT (addL (F.map aQ) (q.1.f.map aQ) (aQ q.2)) = _
    rw [addL_q (by rw [hF, hq]), fold_T l _ (by rw [len_add (by rw [hF, hq]), hF]) fun k hk => h k (.tail _ hk)]
    rfl
theorem sumsT_q {w : Nat} {q : Rw × Rat} {l : List (Rw × Rat)} (h : ∀ k ∈ q :: l, k.1.f.length = w) : sumsT ((q :: l).map rmQ) = (accT w (q :: l)).map aQ := by
  have hq := h q (.head _)
  have e : stepT [] (rmQ q) = stepT ((List.replicate w (0 : Rat)).map aQ) (rmQ q) := by
    show addL [] (q.1.f.map aQ) (aQ q.2) = addL ((List.replicate w (0 : Rat)).map aQ) (q.1.f.map aQ) (aQ q.2)
    unfold addL
    rw [bef_z w (by rw [List.length_map, hq])]
  show (l.map rmQ).foldl stepT (stepT [] (rmQ q)) = _
  rw [e]
  exact fold_T (q :: l) (List.replicate w 0) List.length_replicate h
def sumL (l : List (Rw × Rat)) (φ : Rw → Rat) : Rat := (l.map fun q => q.2 * φ q.1).foldr (· + ·) 0
theorem acc_gt {w : Nat} {k : Nat} : ∀ (l : List (Rw × Rat)) (F : List Rat), F.length = w → (∀ q ∈ l, q.1.f.length = w) → gt (l.foldl (fun F q => addR F q.1.f q.2) F) k = gt F k + sumL l fun r => gt r.f k
  | [], F, _, _ => by show gt F k = gt F k + 0; grind
  | q :: l, F, hF, h => by
    have hq := h q (.head _)
    show gt (l.foldl (fun F q => addR F q.1.f q.2) (addR F q.1.f q.2)) k = gt F k + (q.2 * gt q.1.f k + sumL l fun r => gt r.f k)
    rw [acc_gt l _ (by rw [len_add (by rw [hF, hq]), hF]) fun k hk => h k (.tail _ hk), gt_add (by rw [hF, hq])]
    grind
theorem fold_C : ∀ (l : List (Rw × Rat)) (c : Rat), (l.map rmQ).foldl stepC (aQ c) = aQ (c + sumL l fun r => r.c)
  | [], c => by show aQ c = aQ (c + 0); rw [show c + 0 = c by grind]
  | q :: l, c => by
    show (l.map rmQ).foldl stepC (plusD (aQ c) (timesD (aQ q.2) (aQ q.1.c))) = aQ (c + (q.2 * q.1.c + sumL l fun r => r.c))
    rw [times_aQ, plus_aQ, fold_C l]
    congr 1
    grind
theorem sumL_sm (φ : Rw → Rat) : ∀ (R : List Rw) (m : List Rat), m.length = R.length → sumL (List.zip R m) φ = sm (List.range R.length) fun i => gt m i * φ (rowA R i)
  | [], [], _ => rfl
  | r :: R, x :: m, h => by
    have h : m.length = R.length := by simpa using h
    show x * φ r + sumL (List.zip R m) φ = _
    rw [sumL_sm φ R m h, List.length_cons, List.range_succ_eq_map]
    show _ = x * φ r + sm ((List.range R.length).map Nat.succ) _
    rw [sm_map]
    rfl
theorem row_in {R : List Rw} {i : Nat} (h : i < R.length) : rowA R i ∈ R := by
  unfold rowA
  rw [List.getD_eq_getElem?_getD, List.getElem?_eq_getElem h]
  exact List.getElem_mem h
theorem ref_parts {R : List Rw} {w : Nat} {m : List Rat} (h : Ref R w m) (hw : ∀ r ∈ R, r.f.length = w) : (∀ k, sumL (List.zip R m) (fun r => gt r.f k) = 0) ∧ (0 < sumL (List.zip R m) (fun r => r.c) ∨ (sumL (List.zip R m) (fun r => r.c) = 0 ∧ ∃ i ∈ US R, 0 < gt m i)) := by
  obtain ⟨C, hC, hp⟩ := h.ex
  have ew : ∀ i ∈ List.range R.length, (rowA R i).f.length = w := fun i hi => hw _ (row_in (List.mem_range.mp hi))
  have e0 : sumL (List.zip R m) (fun r => r.c) = C := by
    rw [sumL_sm _ R m h.ml, ← hC (List.replicate w 0) List.length_replicate]
    refine sm_congr fun i hi => ?_
    show _ = gt m i * valR (rowA R i).f (rowA R i).c (List.replicate w 0)
    rw [val_zero (by rw [ew i hi, List.length_replicate]) fun k _ => .inr gt_zero]
  refine ⟨fun k => ?_, by rw [e0]; exact hp⟩
  rw [sumL_sm _ R m h.ml]
  by_cases hk : k < w
  · have d := sm_sub2 (f := fun i => gt m i * rv R i ((List.replicate w 0).set k 1)) (g := fun i => gt m i * rv R i (List.replicate w 0)) (S := List.range R.length)
    rw [hC _ (by rw [List.length_set, List.length_replicate]), hC _ List.length_replicate] at d
    rw [show C - C = 0 by grind] at d
    rw [← d]
    refine sm_congr fun i hi => ?_
    show _ = gt m i * valR (rowA R i).f (rowA R i).c ((List.replicate w 0).set k 1) - gt m i * valR (rowA R i).f (rowA R i).c (List.replicate w 0)
    rw [val_set (by rw [ew i hi, List.length_replicate]) (by rw [List.length_replicate]; exact hk), gt_zero]
    generalize valR (rowA R i).f (rowA R i).c (List.replicate w 0) = V
    grind
  · refine sm_zero fun i hi => ?_
    rw [gt_out (p := (rowA R i).f) (k := k) (by rw [ew i hi]; omega)]
    grind
theorem isZ_aQ (x : Rat) : isZ (aQ x) = decide (x = 0) := by
  have := eqv_aQ x 0
  rw [aQ_zero] at this
  show (decide (x.num = 0) && decide ((x.den : Int) = 1)) = _
  rw [← this]
  exact (eqv_amt _ _ _ _).symm
theorem ref_B {R : List Rw} {w : Nat} {m : List Rat} (h : Ref R w m) (hw : ∀ r ∈ R, r.f.length = w) : refB (zipsD (R.map rowQ) (m.map aQ)) = true := by
  obtain ⟨h1, h2⟩ := ref_parts h hw
  rw [zips_q]
  have hl : ∀ q ∈ List.zip R m, q.1.f.length = w := fun q hq => hw q.1 (List.of_mem_zip hq).1
  have at_ : ∀ q ∈ List.zip R m, ∃ i, i < R.length ∧ q.1 = rowA R i ∧ q.2 = gt m i := fun q hq => by
    obtain ⟨i, hi, e⟩ := List.mem_iff_getElem.mp hq
    rw [List.length_zip] at hi
    rw [List.getElem_zip] at e
    refine ⟨i, by omega, ?_, ?_⟩
    · rw [← e]
      unfold rowA
      rw [List.getD_eq_getElem?_getD, List.getElem?_eq_getElem (by omega)]
      rfl
    · rw [← e]
      unfold gt
      rw [List.getD_eq_getElem?_getD, List.getElem?_eq_getElem (by omega)]
      rfl
  have neq : ltS ≠ eqS := by decide
  have hn : ((List.zip R m).map rmQ).any negR = false := by
    rw [List.any_map]
    refine List.any_eq_false.mpr fun q hq => ?_
    obtain ⟨i, hi, e1, e2⟩ := at_ q hq
    show ¬ (decide ((if q.1.e = true then eqS else ltS) = ltS) && decide (sgnI q.2.num < 0)) = true
    rw [e1, e2]
    cases he : (rowA R i).e with
    | true => rw [if_pos rfl, decide_eq_false fun z => neq z.symm]; simp
    | false =>
      have := h.nn i (us_mem.mpr ⟨hi, he⟩)
      rw [decide_eq_false (p := sgnI (gt m i).num < 0) fun z => absurd (sgI_iff.2.1.mp z) (Rat.not_lt.mpr this)]
      simp
  have hC : sumsC ((List.zip R m).map rmQ) = aQ (sumL (List.zip R m) fun r => r.c) := by
    have := fold_C (List.zip R m) 0
    rw [show (0 : Rat) + sumL (List.zip R m) (fun r => r.c) = sumL (List.zip R m) fun r => r.c by grind] at this
    exact this
  have hT : (sumsT ((List.zip R m).map rmQ)).all isZ = true := by
    cases e : List.zip R m with
    | nil => rfl
    | cons q l =>
      rw [e] at hl h1
      rw [sumsT_q hl, List.all_map]
      refine List.all_eq_true.mpr fun x hx => ?_
      obtain ⟨k, _, rfl⟩ := mem_gt hx
      show isZ (aQ _) = true
      rw [isZ_aQ]
      refine decide_eq_true ?_
      unfold accT
      rw [acc_gt _ _ List.length_replicate hl, gt_zero, h1 k]
      grind
  unfold refB
  rw [hn, hC, hT]
  show (decide (0 < sgnI (sumL (List.zip R m) fun r => r.c).num) || (isZ (aQ (sumL (List.zip R m) fun r => r.c)) && ((List.zip R m).map rmQ).any posR)) = true
  rcases h2 with h2 | ⟨h2, i, hi, hp⟩
  · rw [decide_eq_true (sgI_iff.1.mpr h2)]
    rfl
  · rw [isZ_aQ, decide_eq_true h2, Bool.true_and, List.any_map, Bool.or_eq_true]
    refine .inr (List.any_eq_true.mpr ?_)
    obtain ⟨hi1, hi2⟩ := us_mem.mp hi
    have hz : i < (List.zip R m).length := by rw [List.length_zip, h.ml]; omega
    refine ⟨(List.zip R m)[i], List.getElem_mem _, ?_⟩
    have e1 : ((List.zip R m)[i]).1 = rowA R i := by
      rw [List.getElem_zip]
      unfold rowA
      rw [List.getD_eq_getElem?_getD, List.getElem?_eq_getElem hi1]
      rfl
    have e2 : ((List.zip R m)[i]).2 = gt m i := by
      rw [List.getElem_zip]
      unfold gt
      rw [List.getD_eq_getElem?_getD, List.getElem?_eq_getElem (by rw [h.ml]; exact hi1)]
      rfl
    show (decide ((if ((List.zip R m)[i]).1.e = true then eqS else ltS) = ltS) && decide (0 < sgnI ((List.zip R m)[i]).2.num)) = true
    rw [e1, e2, hi2, decide_eq_true (sgI_iff.1.mpr hp)]
    rfl
def rowOk (p : List Rat) (r : Rw) : Bool := if r.e = true then decide (valR r.f r.c p = 0) else decide (valR r.f r.c p < 0)
theorem good_all {R : List Rw} {w : Nat} {p : List Rat} (h : Good R w (.point p)) : R.all (rowOk p) = true := by
  refine List.all_eq_true.mpr fun r hr => ?_
  obtain ⟨i, hi, e⟩ := List.mem_iff_getElem.mp hr
  have := h.2 i hi
  have er : rowA R i = r := by
    unfold rowA
    rw [List.getD_eq_getElem?_getD, List.getElem?_eq_getElem hi, e]
    rfl
  unfold rv at this
  rw [er] at this
  unfold rowOk
  split
  · rename_i he
    rw [if_pos he] at this
    exact decide_eq_true this
  · rename_i he
    rw [if_neg he] at this
    exact decide_eq_true this
def AnsSz (b w : Nat) : Ans → Prop
  | .point p => CdP (1 + tt b w) p
  | .never m => ∀ x ∈ m, Bq (1 + bt b w) x
theorem solve_size {R : List Rw} {w b : Nat} (hw : ∀ r ∈ R, r.f.length = w) (w14 : w ≤ 14) (hz : SzE b [] (eqs R) (lts R)) : AnsSz b w (solveR R w) := by
  have hl : (eqs R).length ≤ R.length := by
    unfold eqs enumR
    rw [List.length_map]
    refine Nat.le_trans (List.length_filter_le _ _) ?_
    rw [List.length_map, List.length_range]
    exact Nat.le_refl _
  unfold solveR
  rcases seq_ok2 R.length [] (eqs R) (lts R) _ hl (EI.init hw) hz with ⟨m, e, hm⟩ | ⟨e, g, h, z⟩
  · generalize solveEq R.length [] (eqs R) (lts R) = q at e
    obtain ⟨a, c, d⟩ := q
    have e : d = some m := e
    subst e
    exact hm
  · generalize solveEq R.length [] (eqs R) (lts R) = q at e h z
    obtain ⟨piv, S, d⟩ := q
    have e : d = none := e
    subst e
    have h : EI R w piv [] S g := h
    have z : SzE b piv [] S := z
    show AnsSz b w (match (stg (freeR w piv) 0 S).2.find? fun s => decide (0 ≤ s.c) with
      | some s => .never s.m
      | none => .point (pivR piv (backR (stg (freeR w piv) 0 S).1 (List.replicate w 0))))
    have fl := free_len h
    have spw : ∀ k ∈ freeR w piv, k < w := fun k hk => (free_mem.mp hk).1
    cases f : (stg (freeR w piv) 0 S).2.find? fun s => decide (0 ≤ s.c) with
    | some s =>
      have hs : s ∈ (stg (freeR w piv) 0 (stT (freeR w piv) S 0)).2 := List.mem_of_find?_eq_some f
      rw [stg_last (sp := freeR w piv) (freeR w piv) 0 List.drop_zero] at hs
      intro x hx
      exact ((sz_of ((stT_cd h z.s (freeR w piv) _ s hs).mono (bt_le (show piv.length + (0 + (freeR w piv).length) ≤ w by omega)))).m x hx).mono (by omega)
    | none =>
      have c0 : CdP _ (backR (stg (freeR w piv) 0 S).1 (List.replicate w 0)) := back_cd h z.s w14 spw (freeR w piv) 0 List.drop_zero
      have l0 : (backR (stg (freeR w piv) 0 S).1 (List.replicate w 0)).length = w := by rw [back_len, List.length_replicate]
      refine (piv_cd (w := w) (b := b) 0 c0 l0 w14 (fun a ha => ⟨(h.gp a ha).1.fl, (h.gp a ha).2.2.2.1, (h.gp a ha).2.2.2.2⟩) fun i a hi => ?_).mono ?_
      · rw [Nat.zero_add]
        exact z.p i a hi
      · have k1 := kb_tt (b := b) (j := piv.length) (freeR w piv).length 0
        have k2 := pk_tt (b := b) piv.length 0
        have k3 := tt_le (b := b) (show piv.length + 0 + (freeR w piv).length ≤ w by omega)
        rw [show (0 : Nat) + piv.length = piv.length + 0 by omega] at k2
        have : tt b 0 = 0 := rfl
        omega
end VL
set_option Elab.async false
set_option linter.all false
set_option maxRecDepth 100000
set_option maxHeartbeats 4000000
set_option exponentiation.threshold 20000
namespace Law
open PySem PySem.Spec PyProof.Rows L2 VL
def topS (i : Nat) : Stmt := PySem.Challenge.pw_unseenzero_k24_whole_systems_solved.main.body.getD i (.Pass ⟨0, 0, 0, 0⟩)
abbrev s_InvalidAmount___init__ : Stmt := inClass (topS 2) 0
abbrev s_common_divisor : Stmt := topS 6
abbrev s_amount : Stmt := topS 7
abbrev s_plus : Stmt := topS 8
abbrev s_minus : Stmt := topS 9
abbrev s_times : Stmt := topS 10
abbrev s_over : Stmt := topS 11
abbrev s_opposite : Stmt := topS 12
abbrev s_sign : Stmt := topS 13
abbrev s_row_value : Stmt := topS 16
abbrev s_is_point : Stmt := topS 17
abbrev s_refutes : Stmt := topS 18
abbrev s_added : Stmt := topS 19
abbrev s_Sum___init__ : Stmt := inClass (topS 20) 0
abbrev s_Sum_with_other : Stmt := inClass (topS 20) 1
abbrev s_Sum_scaled : Stmt := inClass (topS 20) 2
abbrev s_Sum_value : Stmt := inClass (topS 20) 3
abbrev s_sums_of : Stmt := topS 21
abbrev s_without : Stmt := topS 22
abbrev s_solve_equal : Stmt := topS 23
abbrev s_pair_of : Stmt := topS 24
abbrev s_removed : Stmt := topS 25
abbrev s_between : Stmt := topS 26
abbrev s_solve : Stmt := topS 27
abbrev s_l_source : Stmt := topS 29
abbrev s_l_draw : Stmt := topS 30
abbrev s_l_choice : Stmt := topS 31
abbrev s_l_divisor : Stmt := topS 32
abbrev s_l_ratio : Stmt := topS 33
abbrev s_l_plus : Stmt := topS 34
abbrev s_l_times : Stmt := topS 35
abbrev s_l_sign : Stmt := topS 36
abbrev s_l_amount : Stmt := topS 37
abbrev s_l_factor : Stmt := topS 38
abbrev s_l_is_amount : Stmt := topS 39
abbrev s_l_row_value : Stmt := topS 40
abbrev s_l_is_point : Stmt := topS 41
abbrev s_l_refutes : Stmt := topS 42
abbrev s_l_drawn_system : Stmt := topS 43
abbrev s_l_is_solution : Stmt := topS 44
abbrev s_law : Stmt := topS 45
theorem sc_InvalidAmount___init__ : FnScope ["self", "given"] ["self", "given"] (defScope s_InvalidAmount___init__) := ⟨rfl, rfl, rfl, by decide +kernel, rfl, by decide +kernel, by decide +kernel⟩
theorem sc_common_divisor : FnScope ["one", "other"] ["one", "other"] (defScope s_common_divisor) := ⟨rfl, rfl, rfl, by decide +kernel, rfl, by decide +kernel, by decide +kernel⟩
theorem sc_amount : FnScope ["top", "bottom", "by"] ["top", "bottom"] (defScope s_amount) := ⟨rfl, rfl, rfl, by decide +kernel, rfl, by decide +kernel, by decide +kernel⟩
theorem sc_plus : FnScope ["one", "other"] ["one", "other"] (defScope s_plus) := ⟨rfl, rfl, rfl, by decide +kernel, rfl, by decide +kernel, by decide +kernel⟩
theorem sc_minus : FnScope ["one", "other"] ["one", "other"] (defScope s_minus) := ⟨rfl, rfl, rfl, by decide +kernel, rfl, by decide +kernel, by decide +kernel⟩
theorem sc_times : FnScope ["one", "other"] ["one", "other"] (defScope s_times) := ⟨rfl, rfl, rfl, by decide +kernel, rfl, by decide +kernel, by decide +kernel⟩
theorem sc_over : FnScope ["one", "other"] ["one", "other"] (defScope s_over) := ⟨rfl, rfl, rfl, by decide +kernel, rfl, by decide +kernel, by decide +kernel⟩
theorem sc_opposite : FnScope ["one"] ["one"] (defScope s_opposite) := ⟨rfl, rfl, rfl, by decide +kernel, rfl, by decide +kernel, by decide +kernel⟩
theorem sc_sign : FnScope ["one"] ["one"] (defScope s_sign) := ⟨rfl, rfl, rfl, by decide +kernel, rfl, by decide +kernel, by decide +kernel⟩
theorem sc_row_value : FnScope ["row", "point", "found", "factor", "value"] ["row", "point"] (defScope s_row_value) := ⟨rfl, rfl, rfl, by decide +kernel, rfl, by decide +kernel, by decide +kernel⟩
theorem sc_is_point : FnScope ["rows", "point", "row"] ["rows", "point"] (defScope s_is_point) := ⟨rfl, rfl, rfl, by decide +kernel, rfl, by decide +kernel, by decide +kernel⟩
theorem sc_refutes : FnScope ["rows", "multipliers", "total", "constant", "strict", "row", "by", "factor"] ["rows", "multipliers"] (defScope s_refutes) := ⟨rfl, rfl, rfl, by decide +kernel, rfl, by decide +kernel, by decide +kernel⟩
theorem sc_added : FnScope ["total", "factors", "by", "before", "factor", "one"] ["total", "factors", "by"] (defScope s_added) := ⟨rfl, rfl, rfl, by decide +kernel, rfl, by decide +kernel, by decide +kernel⟩
theorem sc_Sum___init__ : FnScope ["self", "factors", "constant", "multipliers", "members"] ["self", "factors", "constant", "multipliers", "members"] (defScope s_Sum___init__) := ⟨rfl, rfl, rfl, by decide +kernel, rfl, by decide +kernel, by decide +kernel⟩
theorem sc_Sum_with_other : FnScope ["self", "other", "by", "members"] ["self", "other", "by"] (defScope s_Sum_with_other) := ⟨rfl, rfl, rfl, by decide +kernel, rfl, by decide +kernel, by decide +kernel⟩
theorem sc_Sum_scaled : FnScope ["self", "by", "factor", "one"] ["self", "by"] (defScope s_Sum_scaled) := ⟨rfl, rfl, rfl, by decide +kernel, rfl, by decide +kernel, by decide +kernel⟩
theorem sc_Sum_value : FnScope ["self", "point"] ["self", "point"] (defScope s_Sum_value) := ⟨rfl, rfl, rfl, by decide +kernel, rfl, by decide +kernel, by decide +kernel⟩
theorem sc_sums_of : FnScope ["rows", "equal", "strict", "at", "row", "multipliers", "k"] ["rows"] (defScope s_sums_of) := ⟨rfl, rfl, rfl, by decide +kernel, rfl, by decide +kernel, by decide +kernel⟩
theorem sc_without : FnScope ["one", "pivot", "spot"] ["one", "pivot", "spot"] (defScope s_without) := ⟨rfl, rfl, rfl, by decide +kernel, rfl, by decide +kernel, by decide +kernel⟩
theorem sc_solve_equal : FnScope ["equal", "strict", "pivots", "left", "spots", "one", "spot", "rest", "factor", "other"] ["equal", "strict"] (defScope s_solve_equal) := ⟨rfl, rfl, rfl, by decide +kernel, rfl, by decide +kernel, by decide +kernel⟩
theorem sc_pair_of : FnScope ["low", "high", "spot"] ["low", "high", "spot"] (defScope s_pair_of) := ⟨rfl, rfl, rfl, by decide +kernel, rfl, by decide +kernel, by decide +kernel⟩
theorem sc_removed : FnScope ["strict", "spot", "done", "found", "low", "high", "one", "later"] ["strict", "spot", "done"] (defScope s_removed) := ⟨rfl, rfl, rfl, by decide +kernel, rfl, by decide +kernel, by decide +kernel⟩
theorem sc_between : FnScope ["strict", "spot", "point", "one", "low", "high", "factor", "bound"] ["strict", "spot", "point"] (defScope s_between) := ⟨rfl, rfl, rfl, by decide +kernel, rfl, by decide +kernel, by decide +kernel⟩
theorem sc_solve : FnScope ["rows", "width", "spot", "one", "point", "equal", "first", "pivots", "strict", "bad", "stages", "used", "sums", "rest", "k"] ["rows", "width"] (defScope s_solve) := ⟨rfl, rfl, rfl, by decide +kernel, rfl, by decide +kernel, by decide +kernel⟩
theorem sc_l_source : FnScope ["_law_script", "_law_seed", "_law_cell"] ["_law_script"] (defScope s_l_source) := ⟨rfl, rfl, rfl, by decide +kernel, rfl, by decide +kernel, by decide +kernel⟩
theorem sc_l_draw : FnScope ["_law_rng", "_law_many", "_law_seed", "_law_cell", "_law_got"] ["_law_rng", "_law_many"] (defScope s_l_draw) := ⟨rfl, rfl, rfl, by decide +kernel, rfl, by decide +kernel, by decide +kernel⟩
theorem sc_l_choice : FnScope ["_law_rng", "_law_some"] ["_law_rng", "_law_some"] (defScope s_l_choice) := ⟨rfl, rfl, rfl, by decide +kernel, rfl, by decide +kernel, by decide +kernel⟩
theorem sc_l_divisor : FnScope ["_law_one", "_law_other"] ["_law_one", "_law_other"] (defScope s_l_divisor) := ⟨rfl, rfl, rfl, by decide +kernel, rfl, by decide +kernel, by decide +kernel⟩
theorem sc_l_ratio : FnScope ["_law_top", "_law_bottom", "_law_by"] ["_law_top", "_law_bottom"] (defScope s_l_ratio) := ⟨rfl, rfl, rfl, by decide +kernel, rfl, by decide +kernel, by decide +kernel⟩
theorem sc_l_plus : FnScope ["_law_one", "_law_other"] ["_law_one", "_law_other"] (defScope s_l_plus) := ⟨rfl, rfl, rfl, by decide +kernel, rfl, by decide +kernel, by decide +kernel⟩
theorem sc_l_times : FnScope ["_law_one", "_law_other"] ["_law_one", "_law_other"] (defScope s_l_times) := ⟨rfl, rfl, rfl, by decide +kernel, rfl, by decide +kernel, by decide +kernel⟩
theorem sc_l_sign : FnScope ["_law_one"] ["_law_one"] (defScope s_l_sign) := ⟨rfl, rfl, rfl, by decide +kernel, rfl, by decide +kernel, by decide +kernel⟩
theorem sc_l_amount : FnScope ["_law_rng"] ["_law_rng"] (defScope s_l_amount) := ⟨rfl, rfl, rfl, by decide +kernel, rfl, by decide +kernel, by decide +kernel⟩
theorem sc_l_factor : FnScope ["_law_rng"] ["_law_rng"] (defScope s_l_factor) := ⟨rfl, rfl, rfl, by decide +kernel, rfl, by decide +kernel, by decide +kernel⟩
theorem sc_l_is_amount : FnScope ["_law_value", "_law_one"] ["_law_value"] (defScope s_l_is_amount) := ⟨rfl, rfl, rfl, by decide +kernel, rfl, by decide +kernel, by decide +kernel⟩
theorem sc_l_row_value : FnScope ["_law_row", "_law_point", "_law_total", "_law_fac", "_law_one"] ["_law_row", "_law_point"] (defScope s_l_row_value) := ⟨rfl, rfl, rfl, by decide +kernel, rfl, by decide +kernel, by decide +kernel⟩
theorem sc_l_is_point : FnScope ["_law_rows", "_law_point", "_law_row"] ["_law_rows", "_law_point"] (defScope s_l_is_point) := ⟨rfl, rfl, rfl, by decide +kernel, rfl, by decide +kernel, by decide +kernel⟩
theorem sc_l_refutes : FnScope ["_law_rows", "_law_width", "_law_multipliers", "_law_total", "_law_strict", "_law_row", "_law_by", "_law_one", "_law_fac"] ["_law_rows", "_law_width", "_law_multipliers"] (defScope s_l_refutes) := ⟨rfl, rfl, rfl, by decide +kernel, rfl, by decide +kernel, by decide +kernel⟩
theorem sc_l_drawn_system : FnScope ["_law_rng", "_law_width", "_law_rows", "_law_k", "_law_factors_z", "_law_by", "_law_total", "_law_last", "_law_one", "_law_other", "_law_j", "_law_a", "_law_b"] ["_law_rng", "_law_width"] (defScope s_l_drawn_system) := ⟨rfl, rfl, rfl, by decide +kernel, rfl, by decide +kernel, by decide +kernel⟩
theorem sc_l_is_solution : FnScope ["_law_rows", "_law_width", "_law_found", "_law_good", "_law_one"] ["_law_rows", "_law_width", "_law_found"] (defScope s_l_is_solution) := ⟨rfl, rfl, rfl, by decide +kernel, rfl, by decide +kernel, by decide +kernel⟩
theorem sc_law : FnScope ["_law_script", "_law_rng", "_law_turn", "_law_width", "_law_rows", "_law_handed", "_law_found", "_law_late"] ["_law_script"] (defScope s_law) := ⟨rfl, rfl, rfl, by decide +kernel, rfl, by decide +kernel, by decide +kernel⟩
def d_ZERO : D := (.tup [(.int 0), (.int 1)])
def d_ONE : D := (.tup [(.int 1), (.int 1)])
def d_HALF : D := (.tup [(.int 1), (.int 2)])
structure Tx (K : PySem.W.Frag) (mg : Str → Option Value) where
  v_ZERO : V
  u_ZERO : Value
  c_ZERO : mg "ZERO" = some u_ZERO
  r_ZERO : RelV v_ZERO u_ZERO
  w_ZERO : Flat K (.tup [(.int 0), (.int 1)]) v_ZERO
  v_ONE : V
  u_ONE : Value
  c_ONE : mg "ONE" = some u_ONE
  r_ONE : RelV v_ONE u_ONE
  w_ONE : Flat K (.tup [(.int 1), (.int 1)]) v_ONE
  v_HALF : V
  u_HALF : Value
  c_HALF : mg "HALF" = some u_HALF
  r_HALF : RelV v_HALF u_HALF
  w_HALF : Flat K (.tup [(.int 1), (.int 2)]) v_HALF
  f_common_divisor : Addr
  fd_common_divisor : FuncData
  g_common_divisor : mg "common_divisor" = some (.ref f_common_divisor)
  F_common_divisor : Fun K "common_divisor" "common_divisor" s_common_divisor f_common_divisor fd_common_divisor
  B_common_divisor : Binds K fd_common_divisor ["one", "other"] []
  f_amount : Addr
  fd_amount : FuncData
  g_amount : mg "amount" = some (.ref f_amount)
  dv0_amount : V
  dw0_amount : Flat K (.int 1) dv0_amount
  F_amount : FunD K "amount" "amount" (defArgs s_amount) (defBody s_amount) (defScope s_amount) [dv0_amount] [] f_amount fd_amount
  f_plus : Addr
  fd_plus : FuncData
  g_plus : mg "plus" = some (.ref f_plus)
  F_plus : Fun K "plus" "plus" s_plus f_plus fd_plus
  B_plus : Binds K fd_plus ["one", "other"] []
  f_minus : Addr
  fd_minus : FuncData
  g_minus : mg "minus" = some (.ref f_minus)
  F_minus : Fun K "minus" "minus" s_minus f_minus fd_minus
  B_minus : Binds K fd_minus ["one", "other"] []
  f_times : Addr
  fd_times : FuncData
  g_times : mg "times" = some (.ref f_times)
  F_times : Fun K "times" "times" s_times f_times fd_times
  B_times : Binds K fd_times ["one", "other"] []
  f_over : Addr
  fd_over : FuncData
  g_over : mg "over" = some (.ref f_over)
  F_over : Fun K "over" "over" s_over f_over fd_over
  B_over : Binds K fd_over ["one", "other"] []
  f_opposite : Addr
  fd_opposite : FuncData
  g_opposite : mg "opposite" = some (.ref f_opposite)
  F_opposite : Fun K "opposite" "opposite" s_opposite f_opposite fd_opposite
  B_opposite : Binds K fd_opposite ["one"] []
  f_sign : Addr
  fd_sign : FuncData
  g_sign : mg "sign" = some (.ref f_sign)
  F_sign : Fun K "sign" "sign" s_sign f_sign fd_sign
  B_sign : Binds K fd_sign ["one"] []
  f_row_value : Addr
  fd_row_value : FuncData
  g_row_value : mg "row_value" = some (.ref f_row_value)
  F_row_value : Fun K "row_value" "row_value" s_row_value f_row_value fd_row_value
  B_row_value : Binds K fd_row_value ["row", "point"] []
  f_is_point : Addr
  fd_is_point : FuncData
  g_is_point : mg "is_point" = some (.ref f_is_point)
  F_is_point : Fun K "is_point" "is_point" s_is_point f_is_point fd_is_point
  B_is_point : Binds K fd_is_point ["rows", "point"] []
  f_refutes : Addr
  fd_refutes : FuncData
  g_refutes : mg "refutes" = some (.ref f_refutes)
  F_refutes : Fun K "refutes" "refutes" s_refutes f_refutes fd_refutes
  B_refutes : Binds K fd_refutes ["rows", "multipliers"] []
  f_added : Addr
  fd_added : FuncData
  g_added : mg "added" = some (.ref f_added)
  F_added : Fun K "added" "added" s_added f_added fd_added
  B_added : Binds K fd_added ["total", "factors", "by"] []
  f_sums_of : Addr
  fd_sums_of : FuncData
  g_sums_of : mg "sums_of" = some (.ref f_sums_of)
  F_sums_of : Fun K "sums_of" "sums_of" s_sums_of f_sums_of fd_sums_of
  B_sums_of : Binds K fd_sums_of ["rows"] []
  f_without : Addr
  fd_without : FuncData
  g_without : mg "without" = some (.ref f_without)
  F_without : Fun K "without" "without" s_without f_without fd_without
  B_without : Binds K fd_without ["one", "pivot", "spot"] []
  f_solve_equal : Addr
  fd_solve_equal : FuncData
  g_solve_equal : mg "solve_equal" = some (.ref f_solve_equal)
  F_solve_equal : Fun K "solve_equal" "solve_equal" s_solve_equal f_solve_equal fd_solve_equal
  B_solve_equal : Binds K fd_solve_equal ["equal", "strict"] []
  f_pair_of : Addr
  fd_pair_of : FuncData
  g_pair_of : mg "pair_of" = some (.ref f_pair_of)
  F_pair_of : Fun K "pair_of" "pair_of" s_pair_of f_pair_of fd_pair_of
  B_pair_of : Binds K fd_pair_of ["low", "high", "spot"] []
  f_removed : Addr
  fd_removed : FuncData
  g_removed : mg "removed" = some (.ref f_removed)
  F_removed : Fun K "removed" "removed" s_removed f_removed fd_removed
  B_removed : Binds K fd_removed ["strict", "spot", "done"] []
  f_between : Addr
  fd_between : FuncData
  g_between : mg "between" = some (.ref f_between)
  F_between : Fun K "between" "between" s_between f_between fd_between
  B_between : Binds K fd_between ["strict", "spot", "point"] []
  f_solve : Addr
  fd_solve : FuncData
  g_solve : mg "solve" = some (.ref f_solve)
  F_solve : Fun K "solve" "solve" s_solve f_solve fd_solve
  B_solve : Binds K fd_solve ["rows", "width"] []
  f_l_source : Addr
  fd_l_source : FuncData
  g_l_source : mg "_law_source" = some (.ref f_l_source)
  F_l_source : Fun K "_law_source" "_law_source" s_l_source f_l_source fd_l_source
  B_l_source : Binds K fd_l_source ["_law_script"] []
  f_l_draw : Addr
  fd_l_draw : FuncData
  g_l_draw : mg "_law_draw" = some (.ref f_l_draw)
  F_l_draw : Fun K "_law_draw" "_law_draw" s_l_draw f_l_draw fd_l_draw
  B_l_draw : Binds K fd_l_draw ["_law_rng", "_law_many"] []
  f_l_choice : Addr
  fd_l_choice : FuncData
  g_l_choice : mg "_law_choice" = some (.ref f_l_choice)
  F_l_choice : Fun K "_law_choice" "_law_choice" s_l_choice f_l_choice fd_l_choice
  B_l_choice : Binds K fd_l_choice ["_law_rng", "_law_some"] []
  f_l_divisor : Addr
  fd_l_divisor : FuncData
  g_l_divisor : mg "_law_divisor" = some (.ref f_l_divisor)
  F_l_divisor : Fun K "_law_divisor" "_law_divisor" s_l_divisor f_l_divisor fd_l_divisor
  B_l_divisor : Binds K fd_l_divisor ["_law_one", "_law_other"] []
  f_l_ratio : Addr
  fd_l_ratio : FuncData
  g_l_ratio : mg "_law_ratio" = some (.ref f_l_ratio)
  F_l_ratio : Fun K "_law_ratio" "_law_ratio" s_l_ratio f_l_ratio fd_l_ratio
  B_l_ratio : Binds K fd_l_ratio ["_law_top", "_law_bottom"] []
  f_l_plus : Addr
  fd_l_plus : FuncData
  g_l_plus : mg "_law_plus" = some (.ref f_l_plus)
  F_l_plus : Fun K "_law_plus" "_law_plus" s_l_plus f_l_plus fd_l_plus
  B_l_plus : Binds K fd_l_plus ["_law_one", "_law_other"] []
  f_l_times : Addr
  fd_l_times : FuncData
  g_l_times : mg "_law_times" = some (.ref f_l_times)
  F_l_times : Fun K "_law_times" "_law_times" s_l_times f_l_times fd_l_times
  B_l_times : Binds K fd_l_times ["_law_one", "_law_other"] []
  f_l_sign : Addr
  fd_l_sign : FuncData
  g_l_sign : mg "_law_sign" = some (.ref f_l_sign)
  F_l_sign : Fun K "_law_sign" "_law_sign" s_l_sign f_l_sign fd_l_sign
  B_l_sign : Binds K fd_l_sign ["_law_one"] []
  f_l_amount : Addr
  fd_l_amount : FuncData
  g_l_amount : mg "_law_amount" = some (.ref f_l_amount)
  F_l_amount : Fun K "_law_amount" "_law_amount" s_l_amount f_l_amount fd_l_amount
  B_l_amount : Binds K fd_l_amount ["_law_rng"] []
  f_l_factor : Addr
  fd_l_factor : FuncData
  g_l_factor : mg "_law_factor" = some (.ref f_l_factor)
  F_l_factor : Fun K "_law_factor" "_law_factor" s_l_factor f_l_factor fd_l_factor
  B_l_factor : Binds K fd_l_factor ["_law_rng"] []
  f_l_is_amount : Addr
  fd_l_is_amount : FuncData
  g_l_is_amount : mg "_law_is_amount" = some (.ref f_l_is_amount)
  F_l_is_amount : Fun K "_law_is_amount" "_law_is_amount" s_l_is_amount f_l_is_amount fd_l_is_amount
  B_l_is_amount : Binds K fd_l_is_amount ["_law_value"] []
  f_l_row_value : Addr
  fd_l_row_value : FuncData
  g_l_row_value : mg "_law_row_value" = some (.ref f_l_row_value)
  F_l_row_value : Fun K "_law_row_value" "_law_row_value" s_l_row_value f_l_row_value fd_l_row_value
  B_l_row_value : Binds K fd_l_row_value ["_law_row", "_law_point"] []
  f_l_is_point : Addr
  fd_l_is_point : FuncData
  g_l_is_point : mg "_law_is_point" = some (.ref f_l_is_point)
  F_l_is_point : Fun K "_law_is_point" "_law_is_point" s_l_is_point f_l_is_point fd_l_is_point
  B_l_is_point : Binds K fd_l_is_point ["_law_rows", "_law_point"] []
  f_l_refutes : Addr
  fd_l_refutes : FuncData
  g_l_refutes : mg "_law_refutes" = some (.ref f_l_refutes)
  F_l_refutes : Fun K "_law_refutes" "_law_refutes" s_l_refutes f_l_refutes fd_l_refutes
  B_l_refutes : Binds K fd_l_refutes ["_law_rows", "_law_width", "_law_multipliers"] []
  f_l_drawn_system : Addr
  fd_l_drawn_system : FuncData
  g_l_drawn_system : mg "_law_drawn_system" = some (.ref f_l_drawn_system)
  F_l_drawn_system : Fun K "_law_drawn_system" "_law_drawn_system" s_l_drawn_system f_l_drawn_system fd_l_drawn_system
  B_l_drawn_system : Binds K fd_l_drawn_system ["_law_rng", "_law_width"] []
  f_l_is_solution : Addr
  fd_l_is_solution : FuncData
  g_l_is_solution : mg "_law_is_solution" = some (.ref f_l_is_solution)
  F_l_is_solution : Fun K "_law_is_solution" "_law_is_solution" s_l_is_solution f_l_is_solution fd_l_is_solution
  B_l_is_solution : Binds K fd_l_is_solution ["_law_rows", "_law_width", "_law_found"] []
  f_law : Addr
  fd_law : FuncData
  g_law : mg "law" = some (.ref f_law)
  F_law : Fun K "law" "law" s_law f_law fd_law
  B_law : Binds K fd_law ["_law_script"] []
  n_abs : mg "abs" = none
  n_all : mg "all" = none
  n_bool : mg "bool" = none
  n_enumerate : mg "enumerate" = none
  n_int : mg "int" = none
  n_isinstance : mg "isinstance" = none
  n_len : mg "len" = none
  n_list : mg "list" = none
  n_range : mg "range" = none
  n_set : mg "set" = none
  n_sorted : mg "sorted" = none
  n_tuple : mg "tuple" = none
  n_zip : mg "zip" = none
  C_Sum : Addr
  gC_Sum : mg "Sum" = some (.ref C_Sum)
  f_Sum___init__ : Addr
  fd_Sum___init__ : FuncData
  F_Sum___init__ : Fun K "__init__" "Sum.__init__" s_Sum___init__ f_Sum___init__ fd_Sum___init__
  B_Sum___init__ : Binds K fd_Sum___init__ ["self", "factors", "constant", "multipliers", "members"] []
  cl_Sum : Cls K C_Sum
  na_Sum_factors : NoAttr K C_Sum "factors"
  na_Sum_constant : NoAttr K C_Sum "constant"
  na_Sum_multipliers : NoAttr K C_Sum "multipliers"
  na_Sum_members : NoAttr K C_Sum "members"
  f_Sum_with_other : Addr
  fd_Sum_with_other : FuncData
  F_Sum_with_other : Fun K "with_other" "Sum.with_other" s_Sum_with_other f_Sum_with_other fd_Sum_with_other
  B_Sum_with_other : Binds K fd_Sum_with_other ["self", "other", "by"] []
  mk_Sum : Mk K C_Sum f_Sum___init__
  f_Sum_scaled : Addr
  fd_Sum_scaled : FuncData
  F_Sum_scaled : Fun K "scaled" "Sum.scaled" s_Sum_scaled f_Sum_scaled fd_Sum_scaled
  B_Sum_scaled : Binds K fd_Sum_scaled ["self", "by"] []
  f_Sum_value : Addr
  fd_Sum_value : FuncData
  F_Sum_value : Fun K "value" "Sum.value" s_Sum_value f_Sum_value fd_Sum_value
  B_Sum_value : Binds K fd_Sum_value ["self", "point"] []
  me_Sum_with_other : Meth K C_Sum "with_other" f_Sum_with_other
  me_Sum_scaled : Meth K C_Sum "scaled" f_Sum_scaled
  me_Sum_value : Meth K C_Sum "value" f_Sum_value
theorem fl_factors {K : PySem.W.Frag} {mg : Str → Option Value} (T : Tx K mg) : ∀ C ∈ [T.C_Sum], Cls K C ∧ NoAttr K C "factors" := List.forall_mem_cons.mpr ⟨⟨T.cl_Sum, T.na_Sum_factors⟩, List.forall_mem_nil _⟩
theorem fl_constant {K : PySem.W.Frag} {mg : Str → Option Value} (T : Tx K mg) : ∀ C ∈ [T.C_Sum], Cls K C ∧ NoAttr K C "constant" := List.forall_mem_cons.mpr ⟨⟨T.cl_Sum, T.na_Sum_constant⟩, List.forall_mem_nil _⟩
theorem fl_multipliers {K : PySem.W.Frag} {mg : Str → Option Value} (T : Tx K mg) : ∀ C ∈ [T.C_Sum], Cls K C ∧ NoAttr K C "multipliers" := List.forall_mem_cons.mpr ⟨⟨T.cl_Sum, T.na_Sum_multipliers⟩, List.forall_mem_nil _⟩
theorem fl_members {K : PySem.W.Frag} {mg : Str → Option Value} (T : Tx K mg) : ∀ C ∈ [T.C_Sum], Cls K C ∧ NoAttr K C "members" := List.forall_mem_cons.mpr ⟨⟨T.cl_Sum, T.na_Sum_members⟩, List.forall_mem_nil _⟩
theorem me_with_other {K : PySem.W.Frag} {mg : Str → Option Value} (T : Tx K mg) : ∀ C ∈ [T.C_Sum], Cls K C ∧ Meth K C "with_other" T.f_Sum_with_other := List.forall_mem_cons.mpr ⟨⟨T.cl_Sum, T.me_Sum_with_other⟩, List.forall_mem_nil _⟩
theorem me_scaled {K : PySem.W.Frag} {mg : Str → Option Value} (T : Tx K mg) : ∀ C ∈ [T.C_Sum], Cls K C ∧ Meth K C "scaled" T.f_Sum_scaled := List.forall_mem_cons.mpr ⟨⟨T.cl_Sum, T.me_Sum_scaled⟩, List.forall_mem_nil _⟩
theorem me_value {K : PySem.W.Frag} {mg : Str → Option Value} (T : Tx K mg) : ∀ C ∈ [T.C_Sum], Cls K C ∧ Meth K C "value" T.f_Sum_value := List.forall_mem_cons.mpr ⟨⟨T.cl_Sum, T.me_Sum_value⟩, List.forall_mem_nil _⟩
def tx_mk {K : PySem.W.Frag} {h : Heap} {mg : Str → Option Value} (X : K.In h) (G : h.Ns mainGlobals mg)
    {C0U : Value}
    {C0A : Addr} {C0q : Option Addr} {C0n : Nat} {C0s : Array (Option Value)}
    {C0u0 C0u1 : Value}
    {C1U : Value}
    {C1A : Addr} {C1q : Option Addr} {C1n : Nat} {C1s : Array (Option Value)}
    {C1u0 C1u1 : Value}
    {C2U : Value}
    {C2A : Addr} {C2q : Option Addr} {C2n : Nat} {C2s : Array (Option Value)}
    {C2u0 C2u1 : Value}
    {f0 : Addr} {od0 an0 : Option Addr} {sl0 : Array (Option Value)} {oc0 kV0 dc0 pm0 cd0 ct0 : Value}
    {f1 : Addr} {od1 an1 : Option Addr} {sl1 : Array (Option Value)} {oc1 kV1 dc1 pm1 cd1 ct1 : Value}
    {dV1 : Value}
    {dT1 : Addr} {dc_1 : Value} {dq1 : Option Addr} {dn1 : Nat} {ds1 : Array (Option Value)} {dU1_0 : Value}
    {f2 : Addr} {od2 an2 : Option Addr} {sl2 : Array (Option Value)} {oc2 kV2 dc2 pm2 cd2 ct2 : Value}
    {f3 : Addr} {od3 an3 : Option Addr} {sl3 : Array (Option Value)} {oc3 kV3 dc3 pm3 cd3 ct3 : Value}
    {f4 : Addr} {od4 an4 : Option Addr} {sl4 : Array (Option Value)} {oc4 kV4 dc4 pm4 cd4 ct4 : Value}
    {f5 : Addr} {od5 an5 : Option Addr} {sl5 : Array (Option Value)} {oc5 kV5 dc5 pm5 cd5 ct5 : Value}
    {f6 : Addr} {od6 an6 : Option Addr} {sl6 : Array (Option Value)} {oc6 kV6 dc6 pm6 cd6 ct6 : Value}
    {f7 : Addr} {od7 an7 : Option Addr} {sl7 : Array (Option Value)} {oc7 kV7 dc7 pm7 cd7 ct7 : Value}
    {f8 : Addr} {od8 an8 : Option Addr} {sl8 : Array (Option Value)} {oc8 kV8 dc8 pm8 cd8 ct8 : Value}
    {f9 : Addr} {od9 an9 : Option Addr} {sl9 : Array (Option Value)} {oc9 kV9 dc9 pm9 cd9 ct9 : Value}
    {f10 : Addr} {od10 an10 : Option Addr} {sl10 : Array (Option Value)} {oc10 kV10 dc10 pm10 cd10 ct10 : Value}
    {f11 : Addr} {od11 an11 : Option Addr} {sl11 : Array (Option Value)} {oc11 kV11 dc11 pm11 cd11 ct11 : Value}
    {f12 : Addr} {od12 an12 : Option Addr} {sl12 : Array (Option Value)} {oc12 kV12 dc12 pm12 cd12 ct12 : Value}
    {f13 : Addr} {od13 an13 : Option Addr} {sl13 : Array (Option Value)} {oc13 kV13 dc13 pm13 cd13 ct13 : Value}
    {f14 : Addr} {od14 an14 : Option Addr} {sl14 : Array (Option Value)} {oc14 kV14 dc14 pm14 cd14 ct14 : Value}
    {f15 : Addr} {od15 an15 : Option Addr} {sl15 : Array (Option Value)} {oc15 kV15 dc15 pm15 cd15 ct15 : Value}
    {f16 : Addr} {od16 an16 : Option Addr} {sl16 : Array (Option Value)} {oc16 kV16 dc16 pm16 cd16 ct16 : Value}
    {f17 : Addr} {od17 an17 : Option Addr} {sl17 : Array (Option Value)} {oc17 kV17 dc17 pm17 cd17 ct17 : Value}
    {f18 : Addr} {od18 an18 : Option Addr} {sl18 : Array (Option Value)} {oc18 kV18 dc18 pm18 cd18 ct18 : Value}
    {f19 : Addr} {od19 an19 : Option Addr} {sl19 : Array (Option Value)} {oc19 kV19 dc19 pm19 cd19 ct19 : Value}
    {f20 : Addr} {od20 an20 : Option Addr} {sl20 : Array (Option Value)} {oc20 kV20 dc20 pm20 cd20 ct20 : Value}
    {f21 : Addr} {od21 an21 : Option Addr} {sl21 : Array (Option Value)} {oc21 kV21 dc21 pm21 cd21 ct21 : Value}
    {f22 : Addr} {od22 an22 : Option Addr} {sl22 : Array (Option Value)} {oc22 kV22 dc22 pm22 cd22 ct22 : Value}
    {f23 : Addr} {od23 an23 : Option Addr} {sl23 : Array (Option Value)} {oc23 kV23 dc23 pm23 cd23 ct23 : Value}
    {f24 : Addr} {od24 an24 : Option Addr} {sl24 : Array (Option Value)} {oc24 kV24 dc24 pm24 cd24 ct24 : Value}
    {f25 : Addr} {od25 an25 : Option Addr} {sl25 : Array (Option Value)} {oc25 kV25 dc25 pm25 cd25 ct25 : Value}
    {f26 : Addr} {od26 an26 : Option Addr} {sl26 : Array (Option Value)} {oc26 kV26 dc26 pm26 cd26 ct26 : Value}
    {f27 : Addr} {od27 an27 : Option Addr} {sl27 : Array (Option Value)} {oc27 kV27 dc27 pm27 cd27 ct27 : Value}
    {f28 : Addr} {od28 an28 : Option Addr} {sl28 : Array (Option Value)} {oc28 kV28 dc28 pm28 cd28 ct28 : Value}
    {f29 : Addr} {od29 an29 : Option Addr} {sl29 : Array (Option Value)} {oc29 kV29 dc29 pm29 cd29 ct29 : Value}
    {f30 : Addr} {od30 an30 : Option Addr} {sl30 : Array (Option Value)} {oc30 kV30 dc30 pm30 cd30 ct30 : Value}
    {f31 : Addr} {od31 an31 : Option Addr} {sl31 : Array (Option Value)} {oc31 kV31 dc31 pm31 cd31 ct31 : Value}
    {f32 : Addr} {od32 an32 : Option Addr} {sl32 : Array (Option Value)} {oc32 kV32 dc32 pm32 cd32 ct32 : Value}
    {f33 : Addr} {od33 an33 : Option Addr} {sl33 : Array (Option Value)} {oc33 kV33 dc33 pm33 cd33 ct33 : Value}
    {f34 : Addr} {od34 an34 : Option Addr} {sl34 : Array (Option Value)} {oc34 kV34 dc34 pm34 cd34 ct34 : Value}
    {f35 : Addr} {od35 an35 : Option Addr} {sl35 : Array (Option Value)} {oc35 kV35 dc35 pm35 cd35 ct35 : Value}
    {hC_Sum : Addr}
    {hf_Sum___init__ : Addr} {odm_Sum___init__ anm_Sum___init__ : Option Addr} {slm_Sum___init__ : Array (Option Value)} {ocm_Sum___init__ kVm_Sum___init__ dcm_Sum___init__ pmm_Sum___init__ cdm_Sum___init__ ctm_Sum___init__ : Value}
    {hf_Sum_with_other : Addr} {odm_Sum_with_other anm_Sum_with_other : Option Addr} {slm_Sum_with_other : Array (Option Value)} {ocm_Sum_with_other kVm_Sum_with_other dcm_Sum_with_other pmm_Sum_with_other cdm_Sum_with_other ctm_Sum_with_other : Value}
    {hf_Sum_scaled : Addr} {odm_Sum_scaled anm_Sum_scaled : Option Addr} {slm_Sum_scaled : Array (Option Value)} {ocm_Sum_scaled kVm_Sum_scaled dcm_Sum_scaled pmm_Sum_scaled cdm_Sum_scaled ctm_Sum_scaled : Value}
    {hf_Sum_value : Addr} {odm_Sum_value anm_Sum_value : Option Addr} {slm_Sum_value : Array (Option Value)} {ocm_Sum_value kVm_Sum_value dcm_Sum_value pmm_Sum_value cdm_Sum_value ctm_Sum_value : Value}
    (C0a : PySem.W.nsIn K mainGlobals "ZERO" = some (some C0U))
    (C0e : C0U = Value.ref C0A)
    (C0l : K.lookup C0A = some ⟨.type "tuple", C0q, .seq #[C0u0, C0u1] C0n, C0s⟩)
    (C00r : RelV (.int 0) C0u0)
    (C01r : RelV (.int 1) C0u1)
    (C1a : PySem.W.nsIn K mainGlobals "ONE" = some (some C1U))
    (C1e : C1U = Value.ref C1A)
    (C1l : K.lookup C1A = some ⟨.type "tuple", C1q, .seq #[C1u0, C1u1] C1n, C1s⟩)
    (C10r : RelV (.int 1) C1u0)
    (C11r : RelV (.int 1) C1u1)
    (C2a : PySem.W.nsIn K mainGlobals "HALF" = some (some C2U))
    (C2e : C2U = Value.ref C2A)
    (C2l : K.lookup C2A = some ⟨.type "tuple", C2q, .seq #[C2u0, C2u1] C2n, C2s⟩)
    (C20r : RelV (.int 1) C2u0)
    (C21r : RelV (.int 2) C2u1)
    (a0 : PySem.W.nsIn K mainGlobals "common_divisor" = some (some (.ref f0)))
    (l0 : K.lookup f0 = some ⟨oc0, od0, .func (PySem.W.fnOf "common_divisor" "common_divisor" (defArgs s_common_divisor) (defBody s_common_divisor) (defScope s_common_divisor) .none kV0 dc0 pm0 an0 cd0 ct0), sl0⟩)
    (c0 : PySem.W.codeIn K cd0 "common_divisor" = true)
    (k0 : PySem.W.keepIn K (.ref f0) = true)
    (a1 : PySem.W.nsIn K mainGlobals "amount" = some (some (.ref f1)))
    (l1 : K.lookup f1 = some ⟨oc1, od1, .func (PySem.W.fnOf "amount" "amount" (defArgs s_amount) (defBody s_amount) (defScope s_amount) dV1 kV1 dc1 pm1 an1 cd1 ct1), sl1⟩)
    (c1 : PySem.W.codeIn K cd1 "amount" = true)
    (k1 : PySem.W.keepIn K (.ref f1) = true)
    (de1 : dV1 = Value.ref dT1)
    (dl1 : K.lookup dT1 = some ⟨dc_1, dq1, .seq #[dU1_0] dn1, ds1⟩)
    (d1_0r : RelV (.int 1) dU1_0)
    (a2 : PySem.W.nsIn K mainGlobals "plus" = some (some (.ref f2)))
    (l2 : K.lookup f2 = some ⟨oc2, od2, .func (PySem.W.fnOf "plus" "plus" (defArgs s_plus) (defBody s_plus) (defScope s_plus) .none kV2 dc2 pm2 an2 cd2 ct2), sl2⟩)
    (c2 : PySem.W.codeIn K cd2 "plus" = true)
    (k2 : PySem.W.keepIn K (.ref f2) = true)
    (a3 : PySem.W.nsIn K mainGlobals "minus" = some (some (.ref f3)))
    (l3 : K.lookup f3 = some ⟨oc3, od3, .func (PySem.W.fnOf "minus" "minus" (defArgs s_minus) (defBody s_minus) (defScope s_minus) .none kV3 dc3 pm3 an3 cd3 ct3), sl3⟩)
    (c3 : PySem.W.codeIn K cd3 "minus" = true)
    (k3 : PySem.W.keepIn K (.ref f3) = true)
    (a4 : PySem.W.nsIn K mainGlobals "times" = some (some (.ref f4)))
    (l4 : K.lookup f4 = some ⟨oc4, od4, .func (PySem.W.fnOf "times" "times" (defArgs s_times) (defBody s_times) (defScope s_times) .none kV4 dc4 pm4 an4 cd4 ct4), sl4⟩)
    (c4 : PySem.W.codeIn K cd4 "times" = true)
    (k4 : PySem.W.keepIn K (.ref f4) = true)
    (a5 : PySem.W.nsIn K mainGlobals "over" = some (some (.ref f5)))
    (l5 : K.lookup f5 = some ⟨oc5, od5, .func (PySem.W.fnOf "over" "over" (defArgs s_over) (defBody s_over) (defScope s_over) .none kV5 dc5 pm5 an5 cd5 ct5), sl5⟩)
    (c5 : PySem.W.codeIn K cd5 "over" = true)
    (k5 : PySem.W.keepIn K (.ref f5) = true)
    (a6 : PySem.W.nsIn K mainGlobals "opposite" = some (some (.ref f6)))
    (l6 : K.lookup f6 = some ⟨oc6, od6, .func (PySem.W.fnOf "opposite" "opposite" (defArgs s_opposite) (defBody s_opposite) (defScope s_opposite) .none kV6 dc6 pm6 an6 cd6 ct6), sl6⟩)
    (c6 : PySem.W.codeIn K cd6 "opposite" = true)
    (k6 : PySem.W.keepIn K (.ref f6) = true)
    (a7 : PySem.W.nsIn K mainGlobals "sign" = some (some (.ref f7)))
    (l7 : K.lookup f7 = some ⟨oc7, od7, .func (PySem.W.fnOf "sign" "sign" (defArgs s_sign) (defBody s_sign) (defScope s_sign) .none kV7 dc7 pm7 an7 cd7 ct7), sl7⟩)
    (c7 : PySem.W.codeIn K cd7 "sign" = true)
    (k7 : PySem.W.keepIn K (.ref f7) = true)
    (a8 : PySem.W.nsIn K mainGlobals "row_value" = some (some (.ref f8)))
    (l8 : K.lookup f8 = some ⟨oc8, od8, .func (PySem.W.fnOf "row_value" "row_value" (defArgs s_row_value) (defBody s_row_value) (defScope s_row_value) .none kV8 dc8 pm8 an8 cd8 ct8), sl8⟩)
    (c8 : PySem.W.codeIn K cd8 "row_value" = true)
    (k8 : PySem.W.keepIn K (.ref f8) = true)
    (a9 : PySem.W.nsIn K mainGlobals "is_point" = some (some (.ref f9)))
    (l9 : K.lookup f9 = some ⟨oc9, od9, .func (PySem.W.fnOf "is_point" "is_point" (defArgs s_is_point) (defBody s_is_point) (defScope s_is_point) .none kV9 dc9 pm9 an9 cd9 ct9), sl9⟩)
    (c9 : PySem.W.codeIn K cd9 "is_point" = true)
    (k9 : PySem.W.keepIn K (.ref f9) = true)
    (a10 : PySem.W.nsIn K mainGlobals "refutes" = some (some (.ref f10)))
    (l10 : K.lookup f10 = some ⟨oc10, od10, .func (PySem.W.fnOf "refutes" "refutes" (defArgs s_refutes) (defBody s_refutes) (defScope s_refutes) .none kV10 dc10 pm10 an10 cd10 ct10), sl10⟩)
    (c10 : PySem.W.codeIn K cd10 "refutes" = true)
    (k10 : PySem.W.keepIn K (.ref f10) = true)
    (a11 : PySem.W.nsIn K mainGlobals "added" = some (some (.ref f11)))
    (l11 : K.lookup f11 = some ⟨oc11, od11, .func (PySem.W.fnOf "added" "added" (defArgs s_added) (defBody s_added) (defScope s_added) .none kV11 dc11 pm11 an11 cd11 ct11), sl11⟩)
    (c11 : PySem.W.codeIn K cd11 "added" = true)
    (k11 : PySem.W.keepIn K (.ref f11) = true)
    (a12 : PySem.W.nsIn K mainGlobals "sums_of" = some (some (.ref f12)))
    (l12 : K.lookup f12 = some ⟨oc12, od12, .func (PySem.W.fnOf "sums_of" "sums_of" (defArgs s_sums_of) (defBody s_sums_of) (defScope s_sums_of) .none kV12 dc12 pm12 an12 cd12 ct12), sl12⟩)
    (c12 : PySem.W.codeIn K cd12 "sums_of" = true)
    (k12 : PySem.W.keepIn K (.ref f12) = true)
    (a13 : PySem.W.nsIn K mainGlobals "without" = some (some (.ref f13)))
    (l13 : K.lookup f13 = some ⟨oc13, od13, .func (PySem.W.fnOf "without" "without" (defArgs s_without) (defBody s_without) (defScope s_without) .none kV13 dc13 pm13 an13 cd13 ct13), sl13⟩)
    (c13 : PySem.W.codeIn K cd13 "without" = true)
    (k13 : PySem.W.keepIn K (.ref f13) = true)
    (a14 : PySem.W.nsIn K mainGlobals "solve_equal" = some (some (.ref f14)))
    (l14 : K.lookup f14 = some ⟨oc14, od14, .func (PySem.W.fnOf "solve_equal" "solve_equal" (defArgs s_solve_equal) (defBody s_solve_equal) (defScope s_solve_equal) .none kV14 dc14 pm14 an14 cd14 ct14), sl14⟩)
    (c14 : PySem.W.codeIn K cd14 "solve_equal" = true)
    (k14 : PySem.W.keepIn K (.ref f14) = true)
    (a15 : PySem.W.nsIn K mainGlobals "pair_of" = some (some (.ref f15)))
    (l15 : K.lookup f15 = some ⟨oc15, od15, .func (PySem.W.fnOf "pair_of" "pair_of" (defArgs s_pair_of) (defBody s_pair_of) (defScope s_pair_of) .none kV15 dc15 pm15 an15 cd15 ct15), sl15⟩)
    (c15 : PySem.W.codeIn K cd15 "pair_of" = true)
    (k15 : PySem.W.keepIn K (.ref f15) = true)
    (a16 : PySem.W.nsIn K mainGlobals "removed" = some (some (.ref f16)))
    (l16 : K.lookup f16 = some ⟨oc16, od16, .func (PySem.W.fnOf "removed" "removed" (defArgs s_removed) (defBody s_removed) (defScope s_removed) .none kV16 dc16 pm16 an16 cd16 ct16), sl16⟩)
    (c16 : PySem.W.codeIn K cd16 "removed" = true)
    (k16 : PySem.W.keepIn K (.ref f16) = true)
    (a17 : PySem.W.nsIn K mainGlobals "between" = some (some (.ref f17)))
    (l17 : K.lookup f17 = some ⟨oc17, od17, .func (PySem.W.fnOf "between" "between" (defArgs s_between) (defBody s_between) (defScope s_between) .none kV17 dc17 pm17 an17 cd17 ct17), sl17⟩)
    (c17 : PySem.W.codeIn K cd17 "between" = true)
    (k17 : PySem.W.keepIn K (.ref f17) = true)
    (a18 : PySem.W.nsIn K mainGlobals "solve" = some (some (.ref f18)))
    (l18 : K.lookup f18 = some ⟨oc18, od18, .func (PySem.W.fnOf "solve" "solve" (defArgs s_solve) (defBody s_solve) (defScope s_solve) .none kV18 dc18 pm18 an18 cd18 ct18), sl18⟩)
    (c18 : PySem.W.codeIn K cd18 "solve" = true)
    (k18 : PySem.W.keepIn K (.ref f18) = true)
    (a19 : PySem.W.nsIn K mainGlobals "_law_source" = some (some (.ref f19)))
    (l19 : K.lookup f19 = some ⟨oc19, od19, .func (PySem.W.fnOf "_law_source" "_law_source" (defArgs s_l_source) (defBody s_l_source) (defScope s_l_source) .none kV19 dc19 pm19 an19 cd19 ct19), sl19⟩)
    (c19 : PySem.W.codeIn K cd19 "_law_source" = true)
    (k19 : PySem.W.keepIn K (.ref f19) = true)
    (a20 : PySem.W.nsIn K mainGlobals "_law_draw" = some (some (.ref f20)))
    (l20 : K.lookup f20 = some ⟨oc20, od20, .func (PySem.W.fnOf "_law_draw" "_law_draw" (defArgs s_l_draw) (defBody s_l_draw) (defScope s_l_draw) .none kV20 dc20 pm20 an20 cd20 ct20), sl20⟩)
    (c20 : PySem.W.codeIn K cd20 "_law_draw" = true)
    (k20 : PySem.W.keepIn K (.ref f20) = true)
    (a21 : PySem.W.nsIn K mainGlobals "_law_choice" = some (some (.ref f21)))
    (l21 : K.lookup f21 = some ⟨oc21, od21, .func (PySem.W.fnOf "_law_choice" "_law_choice" (defArgs s_l_choice) (defBody s_l_choice) (defScope s_l_choice) .none kV21 dc21 pm21 an21 cd21 ct21), sl21⟩)
    (c21 : PySem.W.codeIn K cd21 "_law_choice" = true)
    (k21 : PySem.W.keepIn K (.ref f21) = true)
    (a22 : PySem.W.nsIn K mainGlobals "_law_divisor" = some (some (.ref f22)))
    (l22 : K.lookup f22 = some ⟨oc22, od22, .func (PySem.W.fnOf "_law_divisor" "_law_divisor" (defArgs s_l_divisor) (defBody s_l_divisor) (defScope s_l_divisor) .none kV22 dc22 pm22 an22 cd22 ct22), sl22⟩)
    (c22 : PySem.W.codeIn K cd22 "_law_divisor" = true)
    (k22 : PySem.W.keepIn K (.ref f22) = true)
    (a23 : PySem.W.nsIn K mainGlobals "_law_ratio" = some (some (.ref f23)))
    (l23 : K.lookup f23 = some ⟨oc23, od23, .func (PySem.W.fnOf "_law_ratio" "_law_ratio" (defArgs s_l_ratio) (defBody s_l_ratio) (defScope s_l_ratio) .none kV23 dc23 pm23 an23 cd23 ct23), sl23⟩)
    (c23 : PySem.W.codeIn K cd23 "_law_ratio" = true)
    (k23 : PySem.W.keepIn K (.ref f23) = true)
    (a24 : PySem.W.nsIn K mainGlobals "_law_plus" = some (some (.ref f24)))
    (l24 : K.lookup f24 = some ⟨oc24, od24, .func (PySem.W.fnOf "_law_plus" "_law_plus" (defArgs s_l_plus) (defBody s_l_plus) (defScope s_l_plus) .none kV24 dc24 pm24 an24 cd24 ct24), sl24⟩)
    (c24 : PySem.W.codeIn K cd24 "_law_plus" = true)
    (k24 : PySem.W.keepIn K (.ref f24) = true)
    (a25 : PySem.W.nsIn K mainGlobals "_law_times" = some (some (.ref f25)))
    (l25 : K.lookup f25 = some ⟨oc25, od25, .func (PySem.W.fnOf "_law_times" "_law_times" (defArgs s_l_times) (defBody s_l_times) (defScope s_l_times) .none kV25 dc25 pm25 an25 cd25 ct25), sl25⟩)
    (c25 : PySem.W.codeIn K cd25 "_law_times" = true)
    (k25 : PySem.W.keepIn K (.ref f25) = true)
    (a26 : PySem.W.nsIn K mainGlobals "_law_sign" = some (some (.ref f26)))
    (l26 : K.lookup f26 = some ⟨oc26, od26, .func (PySem.W.fnOf "_law_sign" "_law_sign" (defArgs s_l_sign) (defBody s_l_sign) (defScope s_l_sign) .none kV26 dc26 pm26 an26 cd26 ct26), sl26⟩)
    (c26 : PySem.W.codeIn K cd26 "_law_sign" = true)
    (k26 : PySem.W.keepIn K (.ref f26) = true)
    (a27 : PySem.W.nsIn K mainGlobals "_law_amount" = some (some (.ref f27)))
    (l27 : K.lookup f27 = some ⟨oc27, od27, .func (PySem.W.fnOf "_law_amount" "_law_amount" (defArgs s_l_amount) (defBody s_l_amount) (defScope s_l_amount) .none kV27 dc27 pm27 an27 cd27 ct27), sl27⟩)
    (c27 : PySem.W.codeIn K cd27 "_law_amount" = true)
    (k27 : PySem.W.keepIn K (.ref f27) = true)
    (a28 : PySem.W.nsIn K mainGlobals "_law_factor" = some (some (.ref f28)))
    (l28 : K.lookup f28 = some ⟨oc28, od28, .func (PySem.W.fnOf "_law_factor" "_law_factor" (defArgs s_l_factor) (defBody s_l_factor) (defScope s_l_factor) .none kV28 dc28 pm28 an28 cd28 ct28), sl28⟩)
    (c28 : PySem.W.codeIn K cd28 "_law_factor" = true)
    (k28 : PySem.W.keepIn K (.ref f28) = true)
    (a29 : PySem.W.nsIn K mainGlobals "_law_is_amount" = some (some (.ref f29)))
    (l29 : K.lookup f29 = some ⟨oc29, od29, .func (PySem.W.fnOf "_law_is_amount" "_law_is_amount" (defArgs s_l_is_amount) (defBody s_l_is_amount) (defScope s_l_is_amount) .none kV29 dc29 pm29 an29 cd29 ct29), sl29⟩)
    (c29 : PySem.W.codeIn K cd29 "_law_is_amount" = true)
    (k29 : PySem.W.keepIn K (.ref f29) = true)
    (a30 : PySem.W.nsIn K mainGlobals "_law_row_value" = some (some (.ref f30)))
    (l30 : K.lookup f30 = some ⟨oc30, od30, .func (PySem.W.fnOf "_law_row_value" "_law_row_value" (defArgs s_l_row_value) (defBody s_l_row_value) (defScope s_l_row_value) .none kV30 dc30 pm30 an30 cd30 ct30), sl30⟩)
    (c30 : PySem.W.codeIn K cd30 "_law_row_value" = true)
    (k30 : PySem.W.keepIn K (.ref f30) = true)
    (a31 : PySem.W.nsIn K mainGlobals "_law_is_point" = some (some (.ref f31)))
    (l31 : K.lookup f31 = some ⟨oc31, od31, .func (PySem.W.fnOf "_law_is_point" "_law_is_point" (defArgs s_l_is_point) (defBody s_l_is_point) (defScope s_l_is_point) .none kV31 dc31 pm31 an31 cd31 ct31), sl31⟩)
    (c31 : PySem.W.codeIn K cd31 "_law_is_point" = true)
    (k31 : PySem.W.keepIn K (.ref f31) = true)
    (a32 : PySem.W.nsIn K mainGlobals "_law_refutes" = some (some (.ref f32)))
    (l32 : K.lookup f32 = some ⟨oc32, od32, .func (PySem.W.fnOf "_law_refutes" "_law_refutes" (defArgs s_l_refutes) (defBody s_l_refutes) (defScope s_l_refutes) .none kV32 dc32 pm32 an32 cd32 ct32), sl32⟩)
    (c32 : PySem.W.codeIn K cd32 "_law_refutes" = true)
    (k32 : PySem.W.keepIn K (.ref f32) = true)
    (a33 : PySem.W.nsIn K mainGlobals "_law_drawn_system" = some (some (.ref f33)))
    (l33 : K.lookup f33 = some ⟨oc33, od33, .func (PySem.W.fnOf "_law_drawn_system" "_law_drawn_system" (defArgs s_l_drawn_system) (defBody s_l_drawn_system) (defScope s_l_drawn_system) .none kV33 dc33 pm33 an33 cd33 ct33), sl33⟩)
    (c33 : PySem.W.codeIn K cd33 "_law_drawn_system" = true)
    (k33 : PySem.W.keepIn K (.ref f33) = true)
    (a34 : PySem.W.nsIn K mainGlobals "_law_is_solution" = some (some (.ref f34)))
    (l34 : K.lookup f34 = some ⟨oc34, od34, .func (PySem.W.fnOf "_law_is_solution" "_law_is_solution" (defArgs s_l_is_solution) (defBody s_l_is_solution) (defScope s_l_is_solution) .none kV34 dc34 pm34 an34 cd34 ct34), sl34⟩)
    (c34 : PySem.W.codeIn K cd34 "_law_is_solution" = true)
    (k34 : PySem.W.keepIn K (.ref f34) = true)
    (a35 : PySem.W.nsIn K mainGlobals "law" = some (some (.ref f35)))
    (l35 : K.lookup f35 = some ⟨oc35, od35, .func (PySem.W.fnOf "law" "law" (defArgs s_law) (defBody s_law) (defScope s_law) .none kV35 dc35 pm35 an35 cd35 ct35), sl35⟩)
    (c35 : PySem.W.codeIn K cd35 "law" = true)
    (k35 : PySem.W.keepIn K (.ref f35) = true)
    (n_abs : PySem.W.nsIn K mainGlobals "abs" = some none)
    (n_all : PySem.W.nsIn K mainGlobals "all" = some none)
    (n_bool : PySem.W.nsIn K mainGlobals "bool" = some none)
    (n_enumerate : PySem.W.nsIn K mainGlobals "enumerate" = some none)
    (n_int : PySem.W.nsIn K mainGlobals "int" = some none)
    (n_isinstance : PySem.W.nsIn K mainGlobals "isinstance" = some none)
    (n_len : PySem.W.nsIn K mainGlobals "len" = some none)
    (n_list : PySem.W.nsIn K mainGlobals "list" = some none)
    (n_range : PySem.W.nsIn K mainGlobals "range" = some none)
    (n_set : PySem.W.nsIn K mainGlobals "set" = some none)
    (n_sorted : PySem.W.nsIn K mainGlobals "sorted" = some none)
    (n_tuple : PySem.W.nsIn K mainGlobals "tuple" = some none)
    (n_zip : PySem.W.nsIn K mainGlobals "zip" = some none)
    (hgC_Sum : PySem.W.nsIn K mainGlobals "Sum" = some (some (.ref hC_Sum)))
    (hat_Sum___init__ : PySem.W.findIn K (.ref hC_Sum) "__init__" = some (some (.ref hf_Sum___init__)))
    (hfn_Sum___init__ : PySem.W.isFn K (.ref hf_Sum___init__) = true)
    (hlk_Sum___init__ : K.lookup hf_Sum___init__ = some ⟨ocm_Sum___init__, odm_Sum___init__, .func (PySem.W.fnOf "__init__" "Sum.__init__" (defArgs s_Sum___init__) (defBody s_Sum___init__) (defScope s_Sum___init__) .none kVm_Sum___init__ dcm_Sum___init__ pmm_Sum___init__ anm_Sum___init__ cdm_Sum___init__ ctm_Sum___init__), slm_Sum___init__⟩)
    (hcd_Sum___init__ : PySem.W.codeIn K cdm_Sum___init__ "Sum.__init__" = true)
    (hkp_Sum___init__ : PySem.W.keepIn K (.ref hf_Sum___init__) = true)
    (hcl_Sum1 : PySem.W.plainGet K hC_Sum Str.empty = true)
    (hcl_Sum2 : PySem.W.hasDictIn K hC_Sum = true)
    (hcl_Sum3 : PySem.W.plainOver K hC_Sum = true)
    (hcl_Sum4 : PySem.W.findIn K (.ref hC_Sum) "__setattr__" = some (some (.builtin "object.__setattr__")))
    (hna_Sum_factors : PySem.W.findIn K (.ref hC_Sum) "factors" = some none)
    (hna_Sum_constant : PySem.W.findIn K (.ref hC_Sum) "constant" = some none)
    (hna_Sum_multipliers : PySem.W.findIn K (.ref hC_Sum) "multipliers" = some none)
    (hna_Sum_members : PySem.W.findIn K (.ref hC_Sum) "members" = some none)
    (hat_Sum_with_other : PySem.W.findIn K (.ref hC_Sum) "with_other" = some (some (.ref hf_Sum_with_other)))
    (hfn_Sum_with_other : PySem.W.isFn K (.ref hf_Sum_with_other) = true)
    (hlk_Sum_with_other : K.lookup hf_Sum_with_other = some ⟨ocm_Sum_with_other, odm_Sum_with_other, .func (PySem.W.fnOf "with_other" "Sum.with_other" (defArgs s_Sum_with_other) (defBody s_Sum_with_other) (defScope s_Sum_with_other) .none kVm_Sum_with_other dcm_Sum_with_other pmm_Sum_with_other anm_Sum_with_other cdm_Sum_with_other ctm_Sum_with_other), slm_Sum_with_other⟩)
    (hcd_Sum_with_other : PySem.W.codeIn K cdm_Sum_with_other "Sum.with_other" = true)
    (hkp_Sum_with_other : PySem.W.keepIn K (.ref hf_Sum_with_other) = true)
    (hmk_Sum1 : PySem.W.makesIn K hC_Sum = true)
    (hmk_Sum2 : PySem.W.keepIn K (.ref hC_Sum) = true)
    (hat_Sum_scaled : PySem.W.findIn K (.ref hC_Sum) "scaled" = some (some (.ref hf_Sum_scaled)))
    (hfn_Sum_scaled : PySem.W.isFn K (.ref hf_Sum_scaled) = true)
    (hlk_Sum_scaled : K.lookup hf_Sum_scaled = some ⟨ocm_Sum_scaled, odm_Sum_scaled, .func (PySem.W.fnOf "scaled" "Sum.scaled" (defArgs s_Sum_scaled) (defBody s_Sum_scaled) (defScope s_Sum_scaled) .none kVm_Sum_scaled dcm_Sum_scaled pmm_Sum_scaled anm_Sum_scaled cdm_Sum_scaled ctm_Sum_scaled), slm_Sum_scaled⟩)
    (hcd_Sum_scaled : PySem.W.codeIn K cdm_Sum_scaled "Sum.scaled" = true)
    (hkp_Sum_scaled : PySem.W.keepIn K (.ref hf_Sum_scaled) = true)
    (hat_Sum_value : PySem.W.findIn K (.ref hC_Sum) "value" = some (some (.ref hf_Sum_value)))
    (hfn_Sum_value : PySem.W.isFn K (.ref hf_Sum_value) = true)
    (hlk_Sum_value : K.lookup hf_Sum_value = some ⟨ocm_Sum_value, odm_Sum_value, .func (PySem.W.fnOf "value" "Sum.value" (defArgs s_Sum_value) (defBody s_Sum_value) (defScope s_Sum_value) .none kVm_Sum_value dcm_Sum_value pmm_Sum_value anm_Sum_value cdm_Sum_value ctm_Sum_value), slm_Sum_value⟩)
    (hcd_Sum_value : PySem.W.codeIn K cdm_Sum_value "Sum.value" = true)
    (hkp_Sum_value : PySem.W.keepIn K (.ref hf_Sum_value) = true)
    : Tx K mg :=
  have F0 := fun_mk (st := s_common_divisor) l0 c0 k0
  have F2 := fun_mk (st := s_plus) l2 c2 k2
  have F3 := fun_mk (st := s_minus) l3 c3 k3
  have F4 := fun_mk (st := s_times) l4 c4 k4
  have F5 := fun_mk (st := s_over) l5 c5 k5
  have F6 := fun_mk (st := s_opposite) l6 c6 k6
  have F7 := fun_mk (st := s_sign) l7 c7 k7
  have F8 := fun_mk (st := s_row_value) l8 c8 k8
  have F9 := fun_mk (st := s_is_point) l9 c9 k9
  have F10 := fun_mk (st := s_refutes) l10 c10 k10
  have F11 := fun_mk (st := s_added) l11 c11 k11
  have F12 := fun_mk (st := s_sums_of) l12 c12 k12
  have F13 := fun_mk (st := s_without) l13 c13 k13
  have F14 := fun_mk (st := s_solve_equal) l14 c14 k14
  have F15 := fun_mk (st := s_pair_of) l15 c15 k15
  have F16 := fun_mk (st := s_removed) l16 c16 k16
  have F17 := fun_mk (st := s_between) l17 c17 k17
  have F18 := fun_mk (st := s_solve) l18 c18 k18
  have F19 := fun_mk (st := s_l_source) l19 c19 k19
  have F20 := fun_mk (st := s_l_draw) l20 c20 k20
  have F21 := fun_mk (st := s_l_choice) l21 c21 k21
  have F22 := fun_mk (st := s_l_divisor) l22 c22 k22
  have F23 := fun_mk (st := s_l_ratio) l23 c23 k23
  have F24 := fun_mk (st := s_l_plus) l24 c24 k24
  have F25 := fun_mk (st := s_l_times) l25 c25 k25
  have F26 := fun_mk (st := s_l_sign) l26 c26 k26
  have F27 := fun_mk (st := s_l_amount) l27 c27 k27
  have F28 := fun_mk (st := s_l_factor) l28 c28 k28
  have F29 := fun_mk (st := s_l_is_amount) l29 c29 k29
  have F30 := fun_mk (st := s_l_row_value) l30 c30 k30
  have F31 := fun_mk (st := s_l_is_point) l31 c31 k31
  have F32 := fun_mk (st := s_l_refutes) l32 c32 k32
  have F33 := fun_mk (st := s_l_drawn_system) l33 c33 k33
  have F34 := fun_mk (st := s_l_is_solution) l34 c34 k34
  have F35 := fun_mk (st := s_law) l35 c35 k35
  { v_ZERO := (.ref C0A), u_ZERO := _, c_ZERO := PySem.W.mg_of X G C0a, r_ZERO := C0e, w_ZERO := (fun M H => rep_tup (.inr ⟨_, _, _, C0l, rfl, rfl, Nat.le_of_ble_eq_true rfl, (.cons (show RelV (.int 0) _ from C00r) (.cons (show RelV (.int 1) _ from C01r) .nil))⟩) (reps_cons ((fun _ _ => rep_int) M H) (reps_cons ((fun _ _ => rep_int) M H) reps_nil))),
    v_ONE := (.ref C1A), u_ONE := _, c_ONE := PySem.W.mg_of X G C1a, r_ONE := C1e, w_ONE := (fun M H => rep_tup (.inr ⟨_, _, _, C1l, rfl, rfl, Nat.le_of_ble_eq_true rfl, (.cons (show RelV (.int 1) _ from C10r) (.cons (show RelV (.int 1) _ from C11r) .nil))⟩) (reps_cons ((fun _ _ => rep_int) M H) (reps_cons ((fun _ _ => rep_int) M H) reps_nil))),
    v_HALF := (.ref C2A), u_HALF := _, c_HALF := PySem.W.mg_of X G C2a, r_HALF := C2e, w_HALF := (fun M H => rep_tup (.inr ⟨_, _, _, C2l, rfl, rfl, Nat.le_of_ble_eq_true rfl, (.cons (show RelV (.int 1) _ from C20r) (.cons (show RelV (.int 2) _ from C21r) .nil))⟩) (reps_cons ((fun _ _ => rep_int) M H) (reps_cons ((fun _ _ => rep_int) M H) reps_nil))),
    f_common_divisor := f0, fd_common_divisor := _, g_common_divisor := PySem.W.mg_of X G a0, F_common_divisor := F0, B_common_divisor := F0.binds (ps := ["one", "other"]) fun _ _ _ _ _ _ us hl => match us, hl with | [_, _], _ => rfl,
    f_amount := f1, fd_amount := _, g_amount := PySem.W.mg_of X G a1, dv0_amount := (.int 1), dw0_amount := (fun _ _ => rep_int), F_amount := ⟨⟨oc1, od1, _, _, _, _, _, _, _, _, rfl, l1, c1, .inr ⟨List.cons_ne_nil _ _, dT1, _, _, _, de1, dl1, rfl, (.cons (show RelV (.int 1) _ from d1_0r) .nil)⟩, .inl rfl⟩, k1⟩,
    f_plus := f2, fd_plus := _, g_plus := PySem.W.mg_of X G a2, F_plus := F2, B_plus := F2.binds (ps := ["one", "other"]) fun _ _ _ _ _ _ us hl => match us, hl with | [_, _], _ => rfl,
    f_minus := f3, fd_minus := _, g_minus := PySem.W.mg_of X G a3, F_minus := F3, B_minus := F3.binds (ps := ["one", "other"]) fun _ _ _ _ _ _ us hl => match us, hl with | [_, _], _ => rfl,
    f_times := f4, fd_times := _, g_times := PySem.W.mg_of X G a4, F_times := F4, B_times := F4.binds (ps := ["one", "other"]) fun _ _ _ _ _ _ us hl => match us, hl with | [_, _], _ => rfl,
    f_over := f5, fd_over := _, g_over := PySem.W.mg_of X G a5, F_over := F5, B_over := F5.binds (ps := ["one", "other"]) fun _ _ _ _ _ _ us hl => match us, hl with | [_, _], _ => rfl,
    f_opposite := f6, fd_opposite := _, g_opposite := PySem.W.mg_of X G a6, F_opposite := F6, B_opposite := F6.binds (ps := ["one"]) fun _ _ _ _ _ _ us hl => match us, hl with | [_], _ => rfl,
    f_sign := f7, fd_sign := _, g_sign := PySem.W.mg_of X G a7, F_sign := F7, B_sign := F7.binds (ps := ["one"]) fun _ _ _ _ _ _ us hl => match us, hl with | [_], _ => rfl,
    f_row_value := f8, fd_row_value := _, g_row_value := PySem.W.mg_of X G a8, F_row_value := F8, B_row_value := F8.binds (ps := ["row", "point"]) fun _ _ _ _ _ _ us hl => match us, hl with | [_, _], _ => rfl,
    f_is_point := f9, fd_is_point := _, g_is_point := PySem.W.mg_of X G a9, F_is_point := F9, B_is_point := F9.binds (ps := ["rows", "point"]) fun _ _ _ _ _ _ us hl => match us, hl with | [_, _], _ => rfl,
    f_refutes := f10, fd_refutes := _, g_refutes := PySem.W.mg_of X G a10, F_refutes := F10, B_refutes := F10.binds (ps := ["rows", "multipliers"]) fun _ _ _ _ _ _ us hl => match us, hl with | [_, _], _ => rfl,
    f_added := f11, fd_added := _, g_added := PySem.W.mg_of X G a11, F_added := F11, B_added := F11.binds (ps := ["total", "factors", "by"]) fun _ _ _ _ _ _ us hl => match us, hl with | [_, _, _], _ => rfl,
    f_sums_of := f12, fd_sums_of := _, g_sums_of := PySem.W.mg_of X G a12, F_sums_of := F12, B_sums_of := F12.binds (ps := ["rows"]) fun _ _ _ _ _ _ us hl => match us, hl with | [_], _ => rfl,
    f_without := f13, fd_without := _, g_without := PySem.W.mg_of X G a13, F_without := F13, B_without := F13.binds (ps := ["one", "pivot", "spot"]) fun _ _ _ _ _ _ us hl => match us, hl with | [_, _, _], _ => rfl,
    f_solve_equal := f14, fd_solve_equal := _, g_solve_equal := PySem.W.mg_of X G a14, F_solve_equal := F14, B_solve_equal := F14.binds (ps := ["equal", "strict"]) fun _ _ _ _ _ _ us hl => match us, hl with | [_, _], _ => rfl,
    f_pair_of := f15, fd_pair_of := _, g_pair_of := PySem.W.mg_of X G a15, F_pair_of := F15, B_pair_of := F15.binds (ps := ["low", "high", "spot"]) fun _ _ _ _ _ _ us hl => match us, hl with | [_, _, _], _ => rfl,
    f_removed := f16, fd_removed := _, g_removed := PySem.W.mg_of X G a16, F_removed := F16, B_removed := F16.binds (ps := ["strict", "spot", "done"]) fun _ _ _ _ _ _ us hl => match us, hl with | [_, _, _], _ => rfl,
    f_between := f17, fd_between := _, g_between := PySem.W.mg_of X G a17, F_between := F17, B_between := F17.binds (ps := ["strict", "spot", "point"]) fun _ _ _ _ _ _ us hl => match us, hl with | [_, _, _], _ => rfl,
    f_solve := f18, fd_solve := _, g_solve := PySem.W.mg_of X G a18, F_solve := F18, B_solve := F18.binds (ps := ["rows", "width"]) fun _ _ _ _ _ _ us hl => match us, hl with | [_, _], _ => rfl,
    f_l_source := f19, fd_l_source := _, g_l_source := PySem.W.mg_of X G a19, F_l_source := F19, B_l_source := F19.binds (ps := ["_law_script"]) fun _ _ _ _ _ _ us hl => match us, hl with | [_], _ => rfl,
    f_l_draw := f20, fd_l_draw := _, g_l_draw := PySem.W.mg_of X G a20, F_l_draw := F20, B_l_draw := F20.binds (ps := ["_law_rng", "_law_many"]) fun _ _ _ _ _ _ us hl => match us, hl with | [_, _], _ => rfl,
    f_l_choice := f21, fd_l_choice := _, g_l_choice := PySem.W.mg_of X G a21, F_l_choice := F21, B_l_choice := F21.binds (ps := ["_law_rng", "_law_some"]) fun _ _ _ _ _ _ us hl => match us, hl with | [_, _], _ => rfl,
    f_l_divisor := f22, fd_l_divisor := _, g_l_divisor := PySem.W.mg_of X G a22, F_l_divisor := F22, B_l_divisor := F22.binds (ps := ["_law_one", "_law_other"]) fun _ _ _ _ _ _ us hl => match us, hl with | [_, _], _ => rfl,
    f_l_ratio := f23, fd_l_ratio := _, g_l_ratio := PySem.W.mg_of X G a23, F_l_ratio := F23, B_l_ratio := F23.binds (ps := ["_law_top", "_law_bottom"]) fun _ _ _ _ _ _ us hl => match us, hl with | [_, _], _ => rfl,
    f_l_plus := f24, fd_l_plus := _, g_l_plus := PySem.W.mg_of X G a24, F_l_plus := F24, B_l_plus := F24.binds (ps := ["_law_one", "_law_other"]) fun _ _ _ _ _ _ us hl => match us, hl with | [_, _], _ => rfl,
    f_l_times := f25, fd_l_times := _, g_l_times := PySem.W.mg_of X G a25, F_l_times := F25, B_l_times := F25.binds (ps := ["_law_one", "_law_other"]) fun _ _ _ _ _ _ us hl => match us, hl with | [_, _], _ => rfl,
    f_l_sign := f26, fd_l_sign := _, g_l_sign := PySem.W.mg_of X G a26, F_l_sign := F26, B_l_sign := F26.binds (ps := ["_law_one"]) fun _ _ _ _ _ _ us hl => match us, hl with | [_], _ => rfl,
    f_l_amount := f27, fd_l_amount := _, g_l_amount := PySem.W.mg_of X G a27, F_l_amount := F27, B_l_amount := F27.binds (ps := ["_law_rng"]) fun _ _ _ _ _ _ us hl => match us, hl with | [_], _ => rfl,
    f_l_factor := f28, fd_l_factor := _, g_l_factor := PySem.W.mg_of X G a28, F_l_factor := F28, B_l_factor := F28.binds (ps := ["_law_rng"]) fun _ _ _ _ _ _ us hl => match us, hl with | [_], _ => rfl,
    f_l_is_amount := f29, fd_l_is_amount := _, g_l_is_amount := PySem.W.mg_of X G a29, F_l_is_amount := F29, B_l_is_amount := F29.binds (ps := ["_law_value"]) fun _ _ _ _ _ _ us hl => match us, hl with | [_], _ => rfl,
    f_l_row_value := f30, fd_l_row_value := _, g_l_row_value := PySem.W.mg_of X G a30, F_l_row_value := F30, B_l_row_value := F30.binds (ps := ["_law_row", "_law_point"]) fun _ _ _ _ _ _ us hl => match us, hl with | [_, _], _ => rfl,
    f_l_is_point := f31, fd_l_is_point := _, g_l_is_point := PySem.W.mg_of X G a31, F_l_is_point := F31, B_l_is_point := F31.binds (ps := ["_law_rows", "_law_point"]) fun _ _ _ _ _ _ us hl => match us, hl with | [_, _], _ => rfl,
    f_l_refutes := f32, fd_l_refutes := _, g_l_refutes := PySem.W.mg_of X G a32, F_l_refutes := F32, B_l_refutes := F32.binds (ps := ["_law_rows", "_law_width", "_law_multipliers"]) fun _ _ _ _ _ _ us hl => match us, hl with | [_, _, _], _ => rfl,
    f_l_drawn_system := f33, fd_l_drawn_system := _, g_l_drawn_system := PySem.W.mg_of X G a33, F_l_drawn_system := F33, B_l_drawn_system := F33.binds (ps := ["_law_rng", "_law_width"]) fun _ _ _ _ _ _ us hl => match us, hl with | [_, _], _ => rfl,
    f_l_is_solution := f34, fd_l_is_solution := _, g_l_is_solution := PySem.W.mg_of X G a34, F_l_is_solution := F34, B_l_is_solution := F34.binds (ps := ["_law_rows", "_law_width", "_law_found"]) fun _ _ _ _ _ _ us hl => match us, hl with | [_, _, _], _ => rfl,
    f_law := f35, fd_law := _, g_law := PySem.W.mg_of X G a35, F_law := F35, B_law := F35.binds (ps := ["_law_script"]) fun _ _ _ _ _ _ us hl => match us, hl with | [_], _ => rfl,
    n_abs := PySem.W.mg_none_of X G n_abs,
    n_all := PySem.W.mg_none_of X G n_all,
    n_bool := PySem.W.mg_none_of X G n_bool,
    n_enumerate := PySem.W.mg_none_of X G n_enumerate,
    n_int := PySem.W.mg_none_of X G n_int,
    n_isinstance := PySem.W.mg_none_of X G n_isinstance,
    n_len := PySem.W.mg_none_of X G n_len,
    n_list := PySem.W.mg_none_of X G n_list,
    n_range := PySem.W.mg_none_of X G n_range,
    n_set := PySem.W.mg_none_of X G n_set,
    n_sorted := PySem.W.mg_none_of X G n_sorted,
    n_tuple := PySem.W.mg_none_of X G n_tuple,
    n_zip := PySem.W.mg_none_of X G n_zip,
    C_Sum := hC_Sum,
    gC_Sum := PySem.W.mg_of X G hgC_Sum,
    f_Sum___init__ := hf_Sum___init__,
    fd_Sum___init__ := _,
    F_Sum___init__ := fun_mk (st := s_Sum___init__) hlk_Sum___init__ hcd_Sum___init__ hkp_Sum___init__,
    B_Sum___init__ := (fun_mk (st := s_Sum___init__) hlk_Sum___init__ hcd_Sum___init__ hkp_Sum___init__).binds (ps := ["self", "factors", "constant", "multipliers", "members"]) fun _ _ _ _ _ _ us hl => match us, hl with | [_, _, _, _, _], _ => rfl,
    cl_Sum := ⟨hcl_Sum1, hcl_Sum2, hcl_Sum3, hcl_Sum4⟩,
    na_Sum_factors := hna_Sum_factors,
    na_Sum_constant := hna_Sum_constant,
    na_Sum_multipliers := hna_Sum_multipliers,
    na_Sum_members := hna_Sum_members,
    f_Sum_with_other := hf_Sum_with_other,
    fd_Sum_with_other := _,
    F_Sum_with_other := fun_mk (st := s_Sum_with_other) hlk_Sum_with_other hcd_Sum_with_other hkp_Sum_with_other,
    B_Sum_with_other := (fun_mk (st := s_Sum_with_other) hlk_Sum_with_other hcd_Sum_with_other hkp_Sum_with_other).binds (ps := ["self", "other", "by"]) fun _ _ _ _ _ _ us hl => match us, hl with | [_, _, _], _ => rfl,
    mk_Sum := ⟨hmk_Sum1, hat_Sum___init__, hfn_Sum___init__, hmk_Sum2⟩,
    f_Sum_scaled := hf_Sum_scaled,
    fd_Sum_scaled := _,
    F_Sum_scaled := fun_mk (st := s_Sum_scaled) hlk_Sum_scaled hcd_Sum_scaled hkp_Sum_scaled,
    B_Sum_scaled := (fun_mk (st := s_Sum_scaled) hlk_Sum_scaled hcd_Sum_scaled hkp_Sum_scaled).binds (ps := ["self", "by"]) fun _ _ _ _ _ _ us hl => match us, hl with | [_, _], _ => rfl,
    f_Sum_value := hf_Sum_value,
    fd_Sum_value := _,
    F_Sum_value := fun_mk (st := s_Sum_value) hlk_Sum_value hcd_Sum_value hkp_Sum_value,
    B_Sum_value := (fun_mk (st := s_Sum_value) hlk_Sum_value hcd_Sum_value hkp_Sum_value).binds (ps := ["self", "point"]) fun _ _ _ _ _ _ us hl => match us, hl with | [_, _], _ => rfl,
    me_Sum_with_other := ⟨hat_Sum_with_other, hfn_Sum_with_other, hkp_Sum_with_other⟩,
    me_Sum_scaled := ⟨hat_Sum_scaled, hfn_Sum_scaled, hkp_Sum_scaled⟩,
    me_Sum_value := ⟨hat_Sum_value, hfn_Sum_value, hkp_Sum_value⟩ }
section
variable {P : Program} {w : World} {K : PySem.W.Frag} {mg : Str → Option Value} {base : Heap} {W : Wd}
structure RngAt (r c : Addr) (H : Hp) (ns : List Int) (i g sd : Int) : Prop where
  hr : H r = some (.lst [.ref c, .int i, .int g, .int sd])
  hc : H c = some (.lst (ns.map V.int))
  ne : r ≠ c
  i0 : 0 ≤ i
  g0 : 0 ≤ g
  s0 : 0 ≤ sd
  s1 : sd < 2147483563
def rngW (r c : Addr) : Wd where
  A a := a = r ∨ a = c
  I H := ∃ ns i g sd, RngAt r c H ns i g sd
  live H a h ha := by
    obtain ⟨ns, i, g, sd, R⟩ := h
    rcases ha with rfl | rfl
    · rw [R.hr]; intro z; cases z
    · rw [R.hc]; intro z; cases z
  nx H b φ h ha z := by
    obtain ⟨ns, i, g, sd, R⟩ := h
    rcases ha with rfl | rfl
    · rw [R.hr] at z; cases z
    · rw [R.hc] at z; cases z
  stay H H' h k _ _ := by
    obtain ⟨ns, i, g, sd, R⟩ := h
    exact ⟨ns, i, g, sd, ⟨by rw [k _ (.inl rfl)]; exact R.hr, by rw [k _ (.inr rfl)]; exact R.hc, R.ne, R.i0, R.g0, R.s0, R.s1⟩⟩
def g_draw (r : Addr) (xs : List D) (Q : D → Prop) : Prop := ∃ n : Int, xs = [.hnd (.ref r), .int n] ∧ 0 < n ∧ n ≤ 1000000000 ∧ ∀ k : Int, 0 ≤ k → k < n → Q (.int k)
theorem RngAt.set {r c : Addr} {H : Hp} {ns : List Int} {i g sd : Int} (R : RngAt r c H ns i g sd) {i' g' sd' : Int} (h1 : 0 ≤ i') (h2 : 0 ≤ g') (h3 : 0 ≤ sd') (h4 : sd' < 2147483563) :
    RngAt r c (upd H r (.lst [.ref c, .int i', .int g', .int sd'])) ns i' g' sd' := ⟨upd_same, by rw [upd_ne (Ne.symm R.ne)]; exact R.hc, R.ne, h1, h2, h3, h4⟩
theorem ext_upd {r c : Addr} {H H' : Hp} {o : HO} (e : Ext (rngW r c) H H') : Ext (rngW r c) H (upd H' r o) := fun b o n h => by
  rw [upd_ne (fun z => n (.inl z))]
  exact e b o n h
theorem fm0 (a : Int) {b : Int} (hb : 0 < b) : 0 ≤ a.fmod b := by rw [Int.fmod_eq_emod_of_nonneg a (by omega)]; exact Int.emod_nonneg a (by omega)
theorem fm1 (a : Int) {b : Int} (hb : 0 < b) : a.fmod b < b := by rw [Int.fmod_eq_emod_of_nonneg a (by omega)]; exact Int.emod_lt_of_pos a hb
theorem fd0 {a b : Int} (ha : 0 ≤ a) (hb : 0 < b) : 0 ≤ a.fdiv b := by rw [Int.fdiv_eq_ediv_of_nonneg a (by omega)]; exact Int.ediv_nonneg ha (by omega)
theorem mulW_small {i j : Int} (hi : i.natAbs < 2 ^ 64) (hj : j.natAbs < 2 ^ 64) : CMulW i j := wide_mul hi hj (by decide) (by decide) (by decide)
theorem cutSeq {t u : TS} {D : Ends} {σ : L2.St} {H : Hp} (N : L2.St → Hp → Prop) (h1 : ∀ σ' H', N σ' H' → u D σ' H') (h2 : (∀ σ' H', N σ' H' → u D σ' H') → t { D with nx := u D } σ H) : tSeq t u D σ H := h2 h1
theorem ok_l_draw (T : Tx K mg) (r c : Addr) : FnOk P w K mg base CX0 1 T.f_l_draw T.fd_l_draw ["_law_rng", "_law_many"] (spD K (rngW r c) (g_draw r)) := by
  refine T.F_l_draw.ok sc_l_draw (fun vs H Q E h => ?_) (fun cdv A outer s H vs Q E hr h => ⟨_, (pss_cons (ps_if (PW.pt (pw_and (pt_cmpR op_eq (pe_ix ix_list (pv 0) pe_int (fun _ _ => rfl)) pe_int (nomark _)) (pw_and1 (pt_cmpR op_lt (pe_ix ix_list (pv 0) pe_int (fun _ _ => rfl)) (pe_callB call_len_seq (by rfl) T.n_len bt_len (pa_cons (pe_ix ix_list (pv 0) pe_int (fun _ _ => rfl)) pa_nil)) (nomark _))))) (pss_cons (ps_set (i := 3) sc_l_draw.nd rfl (by first | exact Or.inl rfl | exact Or.inr rfl) (pe_ix ix_list (pe_ix ix_list (pv 0) pe_int (fun _ _ => rfl)) (pe_ix ix_list (pv 0) pe_int (fun _ _ => rfl)) (fun _ _ => rfl))) (pss_cons (ps_asg (pe_op op_add (pe_ix ix_list (pv 0) pe_int (fun _ _ => rfl)) pe_int) (pg_sub (pv 0) pe_int set_list)) (pss_one (ps_if (PW.pt (pw_or (pt_cmpR op_ge (pv 3) (pe_op op_pow pe_int pe_int) (nomark _)) (pw_or1 (pt_cmpR op_le (pv 3) (pe_op op_sub pe_int (pe_op op_pow pe_int pe_int)) (nomark _))))) (pss_one (ps_asg (pe_callB call_abs (by rfl) T.n_abs bt_abs (pa_cons (pv 3) pa_nil)) (pg_sub (pv 0) pe_int set_list))) (pss_one (ps_asg (pe_op op_modN (pe_callTy call_int1 (by rfl) T.n_int bt_int (pa_cons (pe_op op_add (pe_op op_add (pe_op op_mulW (pe_ix ix_list (pv 0) pe_int (fun _ _ => rfl)) pe_int) (pe_op op_mulW (pe_op op_modN (pe_callTy call_int1 (by rfl) T.n_int bt_int (pa_cons (pv 3) pa_nil)) pe_int) pe_int)) (pe_ix ix_list (pv 0) pe_int (fun _ _ => rfl))) pa_nil)) pe_int) (pg_sub (pv 0) pe_int set_list))))))) pss_nil) (pss_cons (ps_if (pt_cmpR op_gt (pe_ix ix_list (pv 0) pe_int (fun _ _ => rfl)) pe_int (nomark _)) (pss_cons (ps_set (i := 4) sc_l_draw.nd rfl (by first | exact Or.inl rfl | exact Or.inr rfl) (pe_op op_modN (pe_callTy call_int1 (by rfl) T.n_int bt_int (pa_cons (pe_ix ix_list (pv 0) pe_int (fun _ _ => rfl)) pa_nil)) (pv 1))) (pss_cons (ps_asg (pe_op op_fdivN (pe_ix ix_list (pv 0) pe_int (fun _ _ => rfl)) (pv 1)) (pg_sub (pv 0) pe_int set_list)) (pss_one (ps_ret (pv 4))))) pss_nil) (pss_cons (ps_set (i := 2) sc_l_draw.nd rfl (by first | exact Or.inl rfl | exact Or.inr rfl) (pe_ix ix_list (pv 0) pe_int (fun _ _ => rfl))) (pss_cons (ps_asg (pe_op op_modN (pe_callTy call_int1 (by rfl) T.n_int bt_int (pa_cons (pe_op op_add (pe_op op_add (pe_op op_mulW (pv 2) (pv 2)) (pe_op op_mulW (pv 2) pe_int)) pe_int) pa_nil)) pe_int) (pg_sub (pv 0) pe_int set_list)) (pss_one (ps_ret (pe_op op_modN (pe_callTy call_int1 (by rfl) T.n_int bt_int (pa_cons (pe_op op_add (pe_op op_fdivN (pe_ix ix_list (pv 0) pe_int (fun _ _ => rfl)) pe_int) (pe_op op_mulW (pe_op op_modN (pe_callTy call_int1 (by rfl) T.n_int bt_int (pa_cons (pe_ix ix_list (pv 0) pe_int (fun _ _ => rfl)) pa_nil)) pe_int) pe_int)) pa_nil)) (pv 1)))))))), ?_⟩)
  · obtain ⟨M, ds, P, m, rs, ⟨n, rfl, _⟩, _⟩ := h
    rw [rs.len]
    rfl
  · obtain ⟨M, ds, P, m, rs, ⟨n, rfl, hn0, hn1, hP⟩, k⟩ := h
    obtain ⟨v1, v2, rfl, r1, r2⟩ := rs.two
    rw [r1.hnd, r2.int]
    have fin : ∀ (H' : Hp) (x : Int), Ext (rngW r c) H H' → (rngW r c).I H' → 0 ≤ x → x < n → Q (.int x) H' := fun H' x e i h0 h1 => k _ _ H' (hP x h0 h1) e i rep_int
    obtain ⟨ns, i, g, sd, R⟩ : ∃ ns i g sd, RngAt r c H ns i g sd := m.wi
    refine cutSeq (fun σ' H' => (∃ o, σ' = [some (.ref r), some (.int n), none, o, none]) ∧ Ext (rngW r c) H H' ∧ (rngW r c).I H') ?_ (fun rest => ?_)
    · rintro σ' H' ⟨⟨o, rfl⟩, e, ns, i, g, sd, R⟩
      have hsd : sd.natAbs < 2 ^ 64 := by have h0 := R.s0; have h1 := R.s1; omega
      refine ⟨_, rfl, r, _, _, _, rfl, rfl, SqL.of R.hr, rfl, _, _, rfl, rfl, _, rfl, vifd (fun hg => ?_) (fun hg => ?_)⟩
      · -- a digit of a great cell
        refine ⟨_, rfl, r, _, _, _, rfl, rfl, SqL.of R.hr, rfl, .inl ⟨_, rfl, _, rfl, _, _, rfl, rfl, by omega, ?_⟩⟩
        refine ⟨_, rfl, r, _, _, _, rfl, rfl, SqL.of R.hr, rfl, _, rfl, _, _, rfl, rfl, ⟨by omega, by omega⟩, _, rfl, r, _, _, _, rfl, rfl, R.hr, rfl, ?_⟩
        refine ⟨_, rfl, fin _ _ (ext_upd e) ⟨ns, i, _, sd, R.set R.i0 (fd0 R.g0 hn0) R.s0 R.s1⟩ (fm0 _ hn0) (fm1 _ hn0)⟩
      · refine ⟨_, rfl, r, _, _, _, rfl, rfl, SqL.of R.hr, rfl, ?_⟩
        refine ⟨_, rfl, _, rfl, _, _, rfl, rfl, mulW_small hsd hsd, _, rfl, _, _, rfl, rfl, mulW_small hsd (by decide), _, _, rfl, rfl, _, _, rfl, rfl, .inl ⟨_, rfl, _, _, rfl, rfl, (show (2147483563 : Int) ≠ 0 by decide), _, rfl, r, _, _, _, rfl, rfl, R.hr, rfl, ?_⟩⟩
        have R2 := R.set (i' := i) (g' := g) (sd' := (sd * sd + sd * 40123 + 70001).fmod 2147483563) R.i0 R.g0 (fm0 _ (by decide)) (fm1 _ (by decide))
        have h0 := R2.s0
        have h1 := R2.s1
        refine ⟨_, rfl, r, _, _, _, rfl, rfl, SqL.of R2.hr, rfl, _, _, rfl, rfl, ⟨show (59 : Int) ≠ 0 by decide, by decide⟩, _, rfl, r, _, _, _, rfl, rfl, SqL.of R2.hr, rfl, .inl ⟨_, rfl, _, _, rfl, rfl, (show (8111 : Int) ≠ 0 by decide), _, _, rfl, rfl, ?_, _, _, rfl, rfl, .inl ⟨_, rfl, _, rfl, _, _, rfl, rfl, by omega, ?_⟩⟩⟩
        · have z0 := fm0 ((sd * sd + sd * 40123 + 70001).fmod 2147483563) (b := 8111) (by decide)
          have z1 := fm1 ((sd * sd + sd * 40123 + 70001).fmod 2147483563) (b := 8111) (by decide)
          exact mulW_small (by omega) (by decide)
        · exact fin _ _ (ext_upd e) ⟨ns, i, g, _, R2⟩ (fm0 _ hn0) (fm1 _ hn0)
    · refine ⟨_, rfl, r, _, _, _, rfl, rfl, SqL.of R.hr, rfl, rfl, _, rfl, vif (fun hg => ?_) (fun hg => ?_)⟩
      · refine ⟨_, rfl, r, _, _, _, rfl, rfl, SqL.of R.hr, rfl, _, rfl, r, _, _, _, rfl, rfl, SqL.of R.hr, rfl, c, _, rfl, .inl (SqL.of R.hc), _, _, rfl, rfl, _, rfl, vifd (fun hi => ?_) (fun hi => ?_)⟩
        · rw [List.length_map] at hi
          obtain ⟨x, hx⟩ := get_lt (xs := ns) (i := i.toNat) (by have := R.i0; omega)
          have hat : atI (ns.map V.int) i = some (.int x) := by
            have e := atI_nat (xs := ns.map V.int) (j := i.toNat) (v := .int x) (by rw [List.getElem?_map, hx]; rfl)
            rw [show ((i.toNat : Nat) : Int) = i by have := R.i0; omega] at e
            exact e
          refine ⟨_, rfl, r, _, _, _, rfl, rfl, SqL.of R.hr, rfl, _, rfl, r, _, _, _, rfl, rfl, SqL.of R.hr, rfl, c, _, _, _, rfl, rfl, SqL.of R.hc, hat, ?_⟩
          refine ⟨_, rfl, r, _, _, _, rfl, rfl, SqL.of R.hr, rfl, _, _, rfl, rfl, _, rfl, r, _, _, _, rfl, rfl, R.hr, rfl, ?_⟩
          have R2 := R.set (i' := i + 1) (g' := g) (sd' := sd) (by have := R.i0; omega) R.g0 R.s0 R.s1
          have e1 : Ext (rngW r c) H (upd H r (.lst [.ref c, .int (i + 1), .int g, .int sd])) := ext_upd (Ext.refl H)
          have p10 : CPow 10 18 := ⟨by decide, by decide, by decide⟩
          refine ⟨_, rfl, _, _, rfl, rfl, p10, _, _, rfl, rfl, _, rfl, vifd (fun h1 => ?_) (fun h1 => ?_)⟩
          · refine ⟨_, rfl, _, rfl, _, rfl, r, _, _, _, rfl, rfl, R2.hr, rfl, ?_⟩
            exact rest _ _ ⟨⟨_, rfl⟩, ext_upd e1, ns, _, _, _, R2.set R2.i0 (by show 0 ≤ (if x < 0 then -x else x); split <;> omega) R2.s0 R2.s1⟩
          · refine ⟨_, rfl, _, _, rfl, rfl, p10, _, _, rfl, rfl, _, _, rfl, rfl, _, rfl, vifd (fun h2 => ?_) (fun h2 => ?_)⟩
            · refine ⟨_, rfl, _, rfl, _, rfl, r, _, _, _, rfl, rfl, R2.hr, rfl, ?_⟩
              exact rest _ _ ⟨⟨_, rfl⟩, ext_upd e1, ns, _, _, _, R2.set R2.i0 (by show 0 ≤ (if x < 0 then -x else x); split <;> omega) R2.s0 R2.s1⟩
            · have hsd : sd.natAbs < 2 ^ 64 := by have h0 := R.s0; have h1 := R.s1; omega
              have z0 := fm0 x (b := 2147483563) (by decide)
              have z1 := fm1 x (b := 2147483563) (by decide)
              refine ⟨_, rfl, r, _, _, _, rfl, rfl, SqL.of R2.hr, rfl, _, _, rfl, rfl, mulW_small hsd (by decide), _, rfl, .inl ⟨_, rfl, _, _, rfl, rfl, (show (2147483563 : Int) ≠ 0 by decide), _, _, rfl, rfl, mulW_small (by omega) (by decide), _, _, rfl, rfl, ?_⟩⟩
              refine ⟨_, rfl, r, _, _, _, rfl, rfl, SqL.of R2.hr, rfl, _, _, rfl, rfl, .inl ⟨_, rfl, _, _, rfl, rfl, (show (2147483563 : Int) ≠ 0 by decide), _, rfl, r, _, _, _, rfl, rfl, R2.hr, rfl, ?_⟩⟩
              exact rest _ _ ⟨⟨_, rfl⟩, ext_upd e1, ns, _, _, _, R2.set R2.i0 R2.g0 (fm0 _ (by decide)) (fm1 _ (by decide))⟩
        · exact rest _ _ ⟨⟨none, rfl⟩, Ext.refl H, ns, i, g, sd, R⟩
      · exact rest _ _ ⟨⟨none, rfl⟩, Ext.refl H, ns, i, g, sd, R⟩
def spSource (K : PySem.W.Frag) : Sp := fun vs H Q _ => ∃ (a : Addr) (ns : List Int), vs = [.ref a] ∧ SqL K H a (ns.map V.int) ∧ ns.length ≤ 63 ∧
  ∀ (H' : Hp) (r c : Addr), H r = none → H c = none → Same H H' → (rngW r c).I H' → Q (.ref r) H'
theorem cut_ints (ns : List Int) (lo hi : Option Int) : cutV (ns.map V.int) lo hi = (((ns.drop (HT.sIx ns.length 0 lo)).take (HT.sIx ns.length ns.length hi - HT.sIx ns.length 0 lo)).map V.int) := by
  unfold cutV
  rw [List.length_map, List.map_take, List.map_drop]
theorem same_put {H H' : Hp} {p : Addr} {o : HO} (e : Same H H') (h : H' p = none) : Same H (upd H' p o) := fun b u q => by
  have z := e b u q
  rw [upd_ne (ne_of_none z h)]
  exact z
theorem ok_l_source (T : Tx K mg) : FnOk P w K mg base CX0 1 T.f_l_source T.fd_l_source ["_law_script"] (spSource K) := by
  refine T.F_l_source.ok sc_l_source (fun vs H Q E h => ?_) (fun cdv A outer s H vs Q E hr h => ⟨_, (pss_cons (ps_set (i := 1) sc_l_source.nd rfl (by first | exact Or.inl rfl | exact Or.inr rfl) (pe_op op_add pe_int (pe_op op_mulW pe_int (pe_callB call_len_seq (by rfl) T.n_len bt_len (pa_cons (pe_slice sl_list (pv 0) po_none (po_some pe_int)) pa_nil))))) (pss_cons (ps_for PassesOwn.never rfl (pi_list (pe_slice sl_list (pv 0) po_none (po_some pe_int))) (pg_name (i := 2) sc_l_source.nd rfl (by first | exact Or.inl rfl | exact Or.inr rfl)) (pss_one (ps_set (i := 1) sc_l_source.nd rfl (by first | exact Or.inl rfl | exact Or.inr rfl) (pe_op op_modN (pe_callTy call_int1 (by rfl) T.n_int bt_int (pa_cons (pe_op op_add (pe_op op_add (pe_op op_mulW (pv 1) pe_int) (pe_op op_modN (pe_callTy call_int1 (by rfl) T.n_int bt_int (pa_cons (pv 2) pa_nil)) pe_int)) pe_int) pa_nil)) pe_int)))) (pss_one (ps_ret (pe_lst (pa_cons (pe_callTy call_list_of (by rfl) T.n_list bt_list (pa_cons (pe_slice sl_list (pv 0) po_none (po_some pe_int)) pa_nil)) (pa_cons pe_int (pa_cons pe_int (pa_cons (pv 1) pa_nil))))))))), ?_⟩)
  · obtain ⟨a, ns, rfl, _⟩ := h
    rfl
  · obtain ⟨a, ns, rfl, hS, hl, k⟩ := h
    have hcut : ∀ ns : List Int, ns.length ≤ 63 → ∀ lo hi, ∃ ms : List Int, cutV (ns.map V.int) lo hi = ms.map V.int ∧ ms.length ≤ 63 := fun ns hl lo hi => by
      refine ⟨_, cut_ints ns lo hi, ?_⟩
      rw [List.length_take, List.length_drop]
      omega
    obtain ⟨ms, hms, hml⟩ := hcut ns hl none (some 63)
    refine ⟨_, rfl, 63, rfl, a, _, rfl, hS, fun p1 hp1 => ?_⟩
    rw [hms]
    refine ⟨p1, _, rfl, .inl (SqL.of upd_same), _, _, rfl, rfl, ?_, _, _, rfl, rfl, ?_⟩
    · rw [List.length_map]
      exact mulW_small (by decide) (by omega)
    have S1 : Same H (upd H p1 (.lst (ms.map V.int))) := same_put (Same.refl H) hp1
    refine ⟨_, rfl, 63, rfl, a, _, rfl, S1.seq hS, fun p2 hp2 => ?_⟩
    rw [hms]
    have S2 := same_put (o := .lst (ms.map V.int)) S1 hp2
    refine ⟨p2, rfl, ⟨_, SqL.of upd_same⟩, for_list (K := K) (a := p2) (xs := ms.map V.int) (fun i σ H' => H' = upd (upd H p1 (.lst (ms.map V.int))) p2 (.lst (ms.map V.int)) ∧ ∃ (sd : Int) (o : Option V), σ = [some (.ref a), some (.int sd), o] ∧ 0 ≤ sd ∧ sd < 2147483563) ?_ ?_ ?_ ?_⟩
    · refine ⟨rfl, _, none, rfl, ?_, ?_⟩
      · rw [List.length_map]; omega
      · rw [List.length_map]; omega
    · rintro i σ H' _ ⟨rfl, _⟩
      exact SqL.of upd_same
    · rintro i x σ H' hx ⟨rfl, sd, o, rfl, h0, h1⟩
      rw [List.getElem?_map] at hx
      cases e : ms[i]? with
      | none => rw [e] at hx; cases hx
      | some z =>
        rw [e] at hx
        cases hx
        have z0 := fm0 z (b := 2147483563) (by decide)
        have z1 := fm1 z (b := 2147483563) (by decide)
        refine ⟨_, rfl, _, _, rfl, rfl, mulW_small (by omega) (by decide), _, rfl, .inl ⟨_, rfl, _, _, rfl, rfl, (show (2147483563 : Int) ≠ 0 by decide), _, _, rfl, rfl, _, _, rfl, rfl, .inl ⟨_, rfl, _, _, rfl, rfl, (show (2147483563 : Int) ≠ 0 by decide), ?_⟩⟩⟩
        exact ⟨rfl, _, _, rfl, fm0 _ (by decide), fm1 _ (by decide)⟩
    · rintro σ H' ⟨rfl, sd, o, rfl, h0, h1⟩
      refine ⟨_, rfl, 63, rfl, a, _, rfl, S2.seq hS, fun p3 hp3 => ?_⟩
      rw [hms]
      have S3 := same_put (o := .lst (ms.map V.int)) S2 hp3
      refine ⟨p3, _, rfl, .inl (SqL.of upd_same), fun c hc => ⟨_, rfl, (by show 4 ≤ sizeLine; decide), fun r hr => ?_⟩⟩
      have S4 := same_put (o := .lst (ms.map V.int)) S3 hc
      have hcr : c ≠ r := ne_of_none upd_same hr
      refine k _ r c (S4.free hr) (S3.free hc) (same_put S4 hr) ⟨ms, 0, 0, sd, upd_same, ?_, Ne.symm hcr, Int.le_refl _, Int.le_refl _, h0, h1⟩
      rw [upd_ne hcr]
      exact upd_same
theorem pss_ex2 {X : Cx} {st : List Stmt} {t : Addr → Addr → TS} (h : ∀ r c, PSs X st (t r c)) : PSs X st (fun D σ H => ∃ r c, t r c D σ H) := ⟨fun pins s σ H D I ⟨r, c, hw⟩ => (h r c).run pins s σ H D I hw⟩
theorem sat_one {K : PySem.W.Frag} {W : Wd} {M : Addr → Prop} {H : Hp} {σ : L2.St} {i : Nat} {v : V} (m : MOk W M H) (hm : ∀ a, W.Mf a → M a) (hh : Ext W W.Hf H) (h : σ[i]? = some (some v)) : Sat K W M H (fun _ => no1) H σ ((List.replicate σ.length Sl.un).set i (.d (.hnd v))) := by
  refine ⟨m.wm, m.live, Ext.refl H, m.wi, fun i a h => h.elim, fun i j a h => h.elim, by simp, fun i _ => rfl, fun j s hj => ?_, hm, hh, fun a h => W.liveB _ _ m.wi h, m.nb, m.nx⟩
  by_cases e : j = i
  · subst e
    have hl : j < σ.length := (List.getElem?_eq_some_iff.mp h).1
    rw [List.getElem?_set_self (by simpa using hl)] at hj
    cases hj
    exact ⟨rfl, v, h, rep_hnd⟩
  · rw [List.getElem?_set_ne (Ne.symm e), List.getElem?_replicate] at hj
    split at hj
    · cases hj; rfl
    · cases hj
theorem law_go {K : PySem.W.Frag} {r c : Addr} {H : Hp} {Q : VK} {σ : L2.St} {i : Nat} {w : WS} (I : (rngW r c).I H) (h : σ[i]? = some (some (.ref r))) (hQ : ∀ H', Q (.bl true) H')
    (hw : w (endsD fun d => d = .bl true) ((List.replicate σ.length Sl.un).set i (.d (.hnd (.ref r))))) : LS K (rngW r c) w { nx := fun _ H' => Q .non H', rt := Q } σ H := by
  refine ⟨fun a => a = r ∨ a = c, H, fun _ => no1, _, _, sat_one ⟨fun a h => h, fun a ha => (rngW r c).live H a I ha, I, fun _ _ z => z, fun a φ ha => (rngW r c).nx H a φ I ha⟩ (fun _ z => z.elim) (fun _ _ _ z => by cases z) h, hw, fun ds' oa' σ' H' hn _ => ?_, fun d v H' hd _ _ rr => ?_, fun _ _ _ _ z => z.elim, fun _ _ _ _ z => z.elim, fun _ _ _ _ _ _ z => z.elim⟩
  · cases hn
  · cases hd
    rw [rr.bl]
    exact hQ H'
def spLaw (K : PySem.W.Frag) : Sp := fun vs H Q _ => ∃ (a : Addr) (ns : List Int), vs = [.ref a] ∧ SqL K H a (ns.map V.int) ∧ ns.length ≤ 63 ∧ ∀ H', Q (.bl true) H'
def chD : D → (D → Prop) → Prop
  | .lst ds, Q => 0 < ds.length ∧ ds.length ≤ 1000000 ∧ ∀ d ∈ ds, Q d
  | .str z, Q => 0 < z.length ∧ z.length ≤ 1000000 ∧ ∀ c ∈ z.cps.toList, Q (.str ⟨#[c]⟩)
  | _, _ => False
def g_choice (r : Addr) (xs : List D) (Q : D → Prop) : Prop := ∃ x, xs = [.hnd (.ref r), x] ∧ chD x Q
theorem ok_l_choice (T : Tx K mg) (r c : Addr) : FnOk P w K mg base CX0 2 T.f_l_choice T.fd_l_choice ["_law_rng", "_law_some"] (spD K (rngW r c) (g_choice r)) := by
  refine vfn T.F_l_choice sc_l_choice (fun ds Q h => ?_) ⟨_, fun cdv A outer s H E hr => (vss_one (vs_ret (ve_ixA hr.units (ve_var 1) (ve_call (ok_l_draw T r c) (hr.mono (by decide)) (by rfl) T.g_l_draw T.F_l_draw.kp T.B_l_draw .nil pass0 (fun _ _ => reps_nil) (va_cons (ve_var 0) (va_cons (ve_callB call_len lift_len (by rfl) T.n_len bt_len (va_cons (ve_var 1) va_nil)) va_nil)))))), fun ds Q h => ?_⟩
  · obtain ⟨d, rfl, _⟩ := h
    rfl
  · obtain ⟨x, rfl, h⟩ := h
    cases x <;> first | exact h.elim | skip
    · rename_i z
      obtain ⟨h0, h1, h⟩ := h
      refine ⟨(by rw [sizeLine_eq]; omega), (z.length : Int), rfl, by omega, by omega, fun k k0 k1 => ⟨(by rw [sizeLine_eq]; omega), ?_⟩⟩
      have hl : z.cps.toList.length = z.length := by simp [Str.length]
      obtain ⟨x, hx⟩ := get_lt (xs := z.cps.toList) (i := k.toNat) (by omega)
      have e := atI_nat hx
      rw [show ((k.toNat : Nat) : Int) = k by omega] at e
      exact ⟨x, e, h x (List.mem_of_getElem? hx)⟩
    · rename_i xs
      obtain ⟨h0, h1, h⟩ := h
      refine ⟨(xs.length : Int), rfl, by omega, by omega, fun k k0 k1 => ?_⟩
      obtain ⟨x, hx⟩ := get_lt (xs := xs) (i := k.toNat) (by omega)
      have e := atI_nat hx
      rw [show ((k.toNat : Nat) : Int) = k by omega] at e
      exact ⟨x, e, h x (List.mem_of_getElem? hx)⟩
def g_divisor (xs : List D) (Q : D → Prop) : Prop := ∃ a b : Int, xs = [.int a, .int b] ∧ Q (.int (Int.gcd a b))
theorem ok_l_divisor (T : Tx K mg) : FnOk P w K mg base CX0 1 T.f_l_divisor T.fd_l_divisor ["_law_one", "_law_other"] (spD K W g_divisor) := by
  refine vfn T.F_l_divisor sc_l_divisor (fun ds Q h => ?_) ⟨_, fun cdv A outer s H E hr => (vss_cons (vs_par 0 1 rfl sc_l_divisor.nd (by decide) (ve_callB call_abs lift_abs (by rfl) T.n_abs bt_abs (va_cons (ve_var 0) va_nil)) (ve_callB call_abs lift_abs (by rfl) T.n_abs bt_abs (va_cons (ve_var 1) va_nil))) (vss_cons (vs_while PassesOwn.never (vt_cmp (op_neA hr.units) lift_ne (ve_var 1) ve_int (nomark _)) (vss_one (vs_par 0 1 rfl sc_l_divisor.nd (by decide) (ve_var 1) (ve_mod (ve_callTy call_int1 lift_int (by rfl) T.n_int bt_int (va_cons (ve_var 0) va_nil)) (ve_var 1))))) (vss_one (vs_ret (ve_var 0))))), fun ds Q h => ?_⟩
  · obtain ⟨a, b, rfl, _⟩ := h
    rfl
  · obtain ⟨a, b, rfl, h⟩ := h
    refine ⟨fun m ds => ∃ x y : Int, ds = [.d (.int x), .d (.int y)] ∧ 0 ≤ x ∧ 0 ≤ y ∧ m = y.toNat ∧ Int.gcd x y = Int.gcd a b, ⟨_, iabs a, iabs b, rfl, iabs_nonneg a, iabs_nonneg b, rfl, gcd_abs a b⟩, ?_⟩
    rintro m ds ⟨x, y, rfl, hx, hy, rfl, e⟩
    refine vifn (fun h0 => ⟨h0, ?_⟩) (fun h0 => ?_)
    · have hm := fm0 x (show 0 < y by omega)
      have hl := fm1 x (show 0 < y by omega)
      exact ⟨_, by omega, _, _, rfl, hy, hm, rfl, (gcd_step hx hy).trans e⟩
    · subst h0
      rw [← e, gcd_zero hx] at h
      exact h
def g_ratio (xs : List D) (Q : D → Prop) : Prop := ∃ t b : Int, xs = [.int t, .int b] ∧ b ≠ 0 ∧ b.natAbs < 2 ^ 9000 ∧ Q (ratD t b)
theorem ok_l_ratio (T : Tx K mg) : FnOk P w K mg base CX0 2 T.f_l_ratio T.fd_l_ratio ["_law_top", "_law_bottom"] (spD K W g_ratio) := by
  refine vfn T.F_l_ratio sc_l_ratio (fun ds Q h => ?_) ⟨_, fun cdv A outer s H E hr => (vss_cons (vs_set 2 sc_l_ratio.nd (ve_call (ok_l_divisor T) (hr.mono (by decide)) (by rfl) T.g_l_divisor T.F_l_divisor.kp T.B_l_divisor .nil pass0 (fun _ _ => reps_nil) (va_cons (ve_var 0) (va_cons (ve_var 1) va_nil)))) (vss_cons (vs_set 2 sc_l_ratio.nd (ve_if (vt_cmp op_gt lift_iib (ve_var 1) ve_int (nomark _)) (ve_var 2) (ve_sub ve_int (ve_var 2)))) (vss_one (vs_ret (ve_tup (va_cons (ve_fdiv (ve_var 0) (ve_var 2)) (va_cons (ve_fdiv (ve_var 1) (ve_var 2)) va_nil))))))), fun ds Q h => ?_⟩
  · obtain ⟨a, b, rfl, _⟩ := h
    rfl
  · obtain ⟨t, b, rfl, hb, hl, h⟩ := h
    refine ⟨t, b, rfl, ?_⟩
    have d1 := ratK_div (t := t) hb hl t
    have d2 := ratK_div (t := t) hb hl b
    have fin : Q (.tup [.int (t.fdiv (ratK t b)), .int (b.fdiv (ratK t b))]) := h
    refine vifd (fun h0 => ?_) (fun h0 => ?_)
    · have ek : ratK t b = ((Int.gcd t b : Nat) : Int) := by unfold ratK; rw [if_pos h0]
      rw [ek] at d1 d2 fin
      exact ⟨d1, d2, Nat.le_of_ble_eq_true rfl, fin⟩
    · have ek : ratK t b = 0 - ((Int.gcd t b : Nat) : Int) := by unfold ratK; rw [if_neg h0]
      rw [ek] at d1 d2 fin
      exact ⟨d1, d2, Nat.le_of_ble_eq_true rfl, fin⟩
def W6 (L N : Nat) (x : Rat) : Prop := ∃ z : Int, x * ((L : Int) : Rat) = (z : Rat) ∧ z.natAbs ≤ N
def g_dq (r : Addr) (xs : List D) (Q : D → Prop) : Prop := xs = [.hnd (.ref r)] ∧ ∀ x : Rat, W6 6 36 x → Q (aQ x)
theorem rat_aQ {t b : Int} (h : b ≠ 0) : ratD t b = aQ (Rat.divInt t b) := by
  have : AmtD (t.natAbs + b.natAbs) (ratD t b) := rat_amtD h (Nat.lt_of_lt_of_le Nat.lt_two_pow_self (Nat.pow_le_pow_right (by decide) (by omega))) (Nat.lt_of_lt_of_le Nat.lt_two_pow_self (Nat.pow_le_pow_right (by decide) (by omega)))
  rw [aQ_of this, qD_rat h]
theorem w6_rat {t : Int} {b c : Int} (hb : b ≠ 0) (hc : b * c = 6) (ht : (t * c).natAbs ≤ 36) : W6 6 36 (Rat.divInt t b) := by
  refine ⟨t * c, ?_, ht⟩
  have e : (((6 : Nat) : Int) : Rat) = (b : Rat) * (c : Rat) := by rw [← Rat.intCast_mul, hc]; rfl
  have hz : (b : Rat) ≠ 0 := fun z => hb (Rat.intCast_inj.mp (show (b : Rat) = ((0 : Int) : Rat) from z))
  rw [e, Rat.intCast_mul, Rat.divInt_eq_div, ← Rat.mul_assoc, Rat.div_mul_cancel hz]
theorem ok_l_amount (T : Tx K mg) (r c : Addr) : FnOk P w K mg base CX0 3 T.f_l_amount T.fd_l_amount ["_law_rng"] (spD K (rngW r c) (g_dq r)) := by
  refine vfn T.F_l_amount sc_l_amount (fun ds Q h => ?_) ⟨_, fun cdv A outer s H E hr => (vss_one (vs_ret (ve_call (ok_l_ratio T) (hr.mono (by decide)) (by rfl) T.g_l_ratio T.F_l_ratio.kp T.B_l_ratio .nil pass0 (fun _ _ => reps_nil) (va_cons (ve_sub (ve_call (ok_l_draw T r c) (hr.mono (by decide)) (by rfl) T.g_l_draw T.F_l_draw.kp T.B_l_draw .nil pass0 (fun _ _ => reps_nil) (va_cons (ve_var 0) (va_cons ve_int va_nil))) ve_int) (va_cons (ve_call (ok_l_choice T r c) (hr.mono (by decide)) (by rfl) T.g_l_choice T.F_l_choice.kp T.B_l_choice .nil pass0 (fun _ _ => reps_nil) (va_cons (ve_var 0) (va_cons (ve_lst (va_cons ve_int (va_cons ve_int (va_cons ve_int (va_cons ve_int (va_cons ve_int va_nil)))))) va_nil))) va_nil))))), fun ds Q h => ?_⟩
  · rw [h.1]
    rfl
  · obtain ⟨rfl, h⟩ := h
    refine ⟨13, rfl, by decide, by decide, fun k k0 k1 => ?_⟩
    refine ⟨by decide, _, rfl, by decide, by decide, fun d hd => ?_⟩
    have hd : d = .int 1 ∨ d = .int 2 ∨ d = .int 3 := by
      simp only [List.mem_cons, List.not_mem_nil, or_false] at hd
      rcases hd with h | h | h | h | h <;> simp [h]
    have key : ∀ b c : Int, b ≠ 0 → b * c = 6 → 0 ≤ c → c ≤ 6 → ((k - 6) * c).natAbs ≤ 36 → Q (ratD (k - 6) b) := fun b c h0 hc c0 c1 hn => by
      rw [rat_aQ h0]
      exact h _ (w6_rat h0 hc hn)
    rcases hd with rfl | rfl | rfl
    · exact ⟨_, _, rfl, by decide, by decide +kernel, key 1 6 (by decide) (by decide) (by decide) (by decide) (by omega)⟩
    · exact ⟨_, _, rfl, by decide, by decide +kernel, key 2 3 (by decide) (by decide) (by decide) (by decide) (by omega)⟩
    · exact ⟨_, _, rfl, by decide, by decide +kernel, key 3 2 (by decide) (by decide) (by decide) (by decide) (by omega)⟩
theorem w6_lit {a b c : Int} (hb : b ≠ 0) (hc : b * c = 6) (ht : (a * c).natAbs ≤ 36) (hg : 0 < b ∧ Int.gcd a b = 1) : ∃ x, D.tup [.int a, .int b] = aQ x ∧ W6 6 36 x := by
  refine ⟨Rat.divInt a b, ?_, w6_rat hb hc ht⟩
  rw [← rat_aQ hb]
  have := rat_self hg.1 hg.2
  unfold ratD
  rw [this.1, this.2]
theorem ok_l_factor (T : Tx K mg) (r c : Addr) : FnOk P w K mg base CX0 3 T.f_l_factor T.fd_l_factor ["_law_rng"] (spD K (rngW r c) (g_dq r)) := by
  refine vfn T.F_l_factor sc_l_factor (fun ds Q h => ?_) ⟨_, fun cdv A outer s H E hr => (vss_one (vs_ret (ve_call (ok_l_choice T r c) (hr.mono (by decide)) (by rfl) T.g_l_choice T.F_l_choice.kp T.B_l_choice .nil pass0 (fun _ _ => reps_nil) (va_cons (ve_var 0) (va_cons (ve_lst (va_cons (ve_tup (va_cons ve_int (va_cons ve_int va_nil))) (va_cons (ve_tup (va_cons ve_int (va_cons ve_int va_nil))) (va_cons (ve_tup (va_cons (ve_neg ve_int) (va_cons ve_int va_nil))) (va_cons (ve_tup (va_cons ve_int (va_cons ve_int va_nil))) (va_cons (ve_tup (va_cons (ve_neg ve_int) (va_cons ve_int va_nil))) va_nil)))))) va_nil))))), fun ds Q h => ?_⟩
  · rw [h.1]
    rfl
  · obtain ⟨rfl, h⟩ := h
    refine ⟨Nat.le_of_ble_eq_true rfl, Nat.le_of_ble_eq_true rfl, Nat.le_of_ble_eq_true rfl, Nat.le_of_ble_eq_true rfl, Nat.le_of_ble_eq_true rfl, Nat.le_of_ble_eq_true rfl, _, rfl, Nat.le_of_ble_eq_true rfl, Nat.le_of_ble_eq_true rfl, fun d hd => ?_⟩
    have key : ∀ a b c : Int, b ≠ 0 → b * c = 6 → (a * c).natAbs ≤ 36 → 0 < b ∧ Int.gcd a b = 1 → Q (.tup [.int a, .int b]) := fun a b c h1 h2 h3 h4 => by
      obtain ⟨x, e, hx⟩ := w6_lit h1 h2 h3 h4
      rw [e]
      exact h x hx
    simp only [List.mem_cons, List.not_mem_nil, or_false] at hd
    rcases hd with rfl | rfl | rfl | rfl | rfl
    · exact key 1 1 6 (by decide) (by decide) (by decide) (by decide)
    · exact key 1 1 6 (by decide) (by decide) (by decide) (by decide)
    · exact key (-1) 1 6 (by decide) (by decide) (by decide) (by decide)
    · exact key 2 1 6 (by decide) (by decide) (by decide) (by decide)
    · exact key (-1) 2 3 (by decide) (by decide) (by decide) (by decide)
def g_plus (xs : List D) (Q : D → Prop) : Prop := ∃ n m x y, xs = [x, y] ∧ AmtD n x ∧ AmtD m y ∧ n + m ≤ 9000 ∧ Q (plusD x y)
def g_times (xs : List D) (Q : D → Prop) : Prop := ∃ n m x y, xs = [x, y] ∧ AmtD n x ∧ AmtD m y ∧ n + m ≤ 9000 ∧ Q (timesD x y)
theorem amt_pos {n : Nat} {a b : Int} (A : Amt n a b) : 0 < n := by
  rcases Nat.eq_zero_or_pos n with e | e
  · have h1 := A.hb
    have h2 := A.pos
    rw [e] at h1
    omega
  · exact e
theorem plus_facts {n m : Nat} {a b c d : Int} (A : Amt n a b) (B : Amt m c d) (hn : n + m ≤ 9000) : CMulW a d ∧ CMulW c b ∧ CMulW b d ∧ b * d ≠ 0 ∧ (b * d).natAbs < 2 ^ 9000 := by
  have h0 := amt_pos A
  have h1 := amt_pos B
  have h := Int.mul_pos A.pos B.pos
  exact ⟨wide_mul A.ha B.hb h0 h1 (by omega), wide_mul B.ha A.hb h1 h0 (by omega), wide_mul A.hb B.hb h0 h1 (by omega), by omega, pow_up (mul_lt A.hb B.hb) (by omega)⟩
theorem times_facts {n m : Nat} {a b c d : Int} (A : Amt n a b) (B : Amt m c d) (hn : n + m ≤ 9000) : CMulW a c ∧ CMulW b d ∧ b * d ≠ 0 ∧ (b * d).natAbs < 2 ^ 9000 := by
  have h0 := amt_pos A
  have h1 := amt_pos B
  have h := Int.mul_pos A.pos B.pos
  exact ⟨wide_mul A.ha B.ha h0 h1 (by omega), wide_mul A.hb B.hb h0 h1 (by omega), by omega, pow_up (mul_lt A.hb B.hb) (by omega)⟩
theorem ok_l_plus (T : Tx K mg) : FnOk P w K mg base CX0 3 T.f_l_plus T.fd_l_plus ["_law_one", "_law_other"] (spD K W g_plus) := by
  refine vfn T.F_l_plus sc_l_plus (fun ds Q h => ?_) ⟨_, fun cdv A outer s H E hr => (vss_one (vs_ret (ve_call (ok_l_ratio T) (hr.mono (by decide)) (by rfl) T.g_l_ratio T.F_l_ratio.kp T.B_l_ratio .nil pass0 (fun _ _ => reps_nil) (va_cons (ve_addA (ve_mul (ve_ixA hr.units (ve_var 0) ve_int) (ve_ixA hr.units (ve_var 1) ve_int)) (ve_mul (ve_ixA hr.units (ve_var 1) ve_int) (ve_ixA hr.units (ve_var 0) ve_int))) (va_cons (ve_mul (ve_ixA hr.units (ve_var 0) ve_int) (ve_ixA hr.units (ve_var 1) ve_int)) va_nil))))), fun ds Q h => ?_⟩
  · obtain ⟨_, _, _, _, rfl, _⟩ := h
    rfl
  · obtain ⟨n, m, x, y, rfl, ⟨a, b, rfl, A⟩, ⟨c, d, rfl, B⟩, hn, h⟩ := h
    obtain ⟨f1, f2, f3, f4, f5⟩ := plus_facts A B hn
    exact ⟨_, rfl, _, rfl, f1, _, rfl, _, rfl, f2, _, rfl, _, rfl, f3, _, _, rfl, f4, f5, h⟩
theorem ok_l_times (T : Tx K mg) : FnOk P w K mg base CX0 3 T.f_l_times T.fd_l_times ["_law_one", "_law_other"] (spD K W g_times) := by
  refine vfn T.F_l_times sc_l_times (fun ds Q h => ?_) ⟨_, fun cdv A outer s H E hr => (vss_one (vs_ret (ve_call (ok_l_ratio T) (hr.mono (by decide)) (by rfl) T.g_l_ratio T.F_l_ratio.kp T.B_l_ratio .nil pass0 (fun _ _ => reps_nil) (va_cons (ve_mul (ve_ixA hr.units (ve_var 0) ve_int) (ve_ixA hr.units (ve_var 1) ve_int)) (va_cons (ve_mul (ve_ixA hr.units (ve_var 0) ve_int) (ve_ixA hr.units (ve_var 1) ve_int)) va_nil))))), fun ds Q h => ?_⟩
  · obtain ⟨_, _, _, _, rfl, _⟩ := h
    rfl
  · obtain ⟨n, m, x, y, rfl, ⟨a, b, rfl, A⟩, ⟨c, d, rfl, B⟩, hn, h⟩ := h
    obtain ⟨f1, f3, f4, f5⟩ := times_facts A B hn
    exact ⟨_, rfl, _, rfl, f1, _, rfl, _, rfl, f3, _, _, rfl, f4, f5, h⟩
def g_common_divisor (xs : List D) (Q : D → Prop) : Prop := ∃ a b : Int, xs = [.int a, .int b] ∧ 0 ≤ a ∧ 0 ≤ b ∧ Q (.int (Int.gcd a b))
theorem ok_common_divisor (T : Tx K mg) : FnOk P w K mg base CX0 1 T.f_common_divisor T.fd_common_divisor ["one", "other"] (spD K W g_common_divisor) := by
  refine vfn T.F_common_divisor sc_common_divisor (fun ds Q h => ?_) ⟨_, fun cdv A outer s H E hr => (vss_cons (vs_while PassesOwn.never (vt_cmp (op_neA hr.units) lift_ne (ve_var 1) ve_int (nomark _)) (vss_one (vs_par 0 1 rfl sc_common_divisor.nd (by decide) (ve_var 1) (ve_mod (ve_var 0) (ve_var 1))))) (vss_one (vs_ret (ve_var 0)))), fun ds Q h => ?_⟩
  · obtain ⟨a, b, rfl, _⟩ := h
    rfl
  · obtain ⟨a, b, rfl, ha, hb, h⟩ := h
    refine ⟨fun m ds => ∃ x y : Int, ds = [.d (.int x), .d (.int y)] ∧ 0 ≤ x ∧ 0 ≤ y ∧ m = y.toNat ∧ Int.gcd x y = Int.gcd a b, ⟨_, a, b, rfl, ha, hb, rfl, rfl⟩, ?_⟩
    rintro m ds ⟨x, y, rfl, hx, hy, rfl, e⟩
    refine vifn (fun h0 => ⟨h0, ?_⟩) (fun h0 => ?_)
    · have hm := fm0 x (show 0 < y by omega)
      have hl := fm1 x (show 0 < y by omega)
      exact ⟨_, by omega, _, _, rfl, hy, hm, rfl, (gcd_step hx hy).trans e⟩
    · subst h0
      rw [← e, gcd_zero hx] at h
      exact h
theorem ok_amount (T : Tx K mg) : FnOk P w K mg base CX0 2 T.f_amount T.fd_amount ["top", "bottom"] (spD K W g_ratio) := by
  refine vfnD T.F_amount sc_amount (fun ds Q h => ?_) ⟨_, fun cdv A outer s H E hr => (vss_cons (vs_if (vt_cmp (op_eqA hr.units) lift_eq (ve_var 1) ve_int (nomark _)) (vss_one vs_never) vss_nil) (vss_cons (vs_set 2 sc_amount.nd (ve_call (ok_common_divisor T) (hr.mono (by decide)) (by rfl) T.g_common_divisor T.F_common_divisor.kp T.B_common_divisor .nil pass0 (fun _ _ => reps_nil) (va_cons (ve_callB call_abs lift_abs (by rfl) T.n_abs bt_abs (va_cons (ve_var 0) va_nil)) (va_cons (ve_callB call_abs lift_abs (by rfl) T.n_abs bt_abs (va_cons (ve_var 1) va_nil)) va_nil)))) (vss_cons (vs_if (vt_cmp op_ltA lift_lt (ve_var 1) ve_int (nomark _)) (vss_one (vs_set 2 sc_amount.nd (ve_neg (ve_var 2)))) vss_nil) (vss_one (vs_ret (ve_tup (va_cons (ve_fdiv (ve_var 0) (ve_var 2)) (va_cons (ve_fdiv (ve_var 1) (ve_var 2)) va_nil)))))))), fun ds Q h => ?_⟩
  · obtain ⟨a, b, rfl, _⟩ := h
    rfl
  · obtain ⟨t, b, rfl, hb, hl, h⟩ := h
    have d1 := ratK_div (t := t) hb hl t
    have d2 := ratK_div (t := t) hb hl b
    have eg : Int.gcd (iabs t) (iabs b) = Int.gcd t b := gcd_abs t b
    have fin : Q (.tup [.int (t.fdiv (ratK t b)), .int (b.fdiv (ratK t b))]) := h
    refine vifd (fun h0 => absurd h0 hb) (fun _ => ?_)
    refine ⟨iabs t, iabs b, rfl, iabs_nonneg t, iabs_nonneg b, ?_⟩
    rw [eg]
    refine vifd (fun h0 => ?_) (fun h0 => ?_)
    · have ek : ratK t b = -((Int.gcd t b : Nat) : Int) := by unfold ratK; rw [if_neg (by omega)]; omega
      rw [ek] at d1 d2 fin
      exact ⟨d1, d2, Nat.le_of_ble_eq_true rfl, fin⟩
    · have ek : ratK t b = ((Int.gcd t b : Nat) : Int) := by unfold ratK; rw [if_pos (by omega)]
      rw [ek] at d1 d2 fin
      exact ⟨d1, d2, Nat.le_of_ble_eq_true rfl, fin⟩
theorem ok_plus (T : Tx K mg) : FnOk P w K mg base CX0 3 T.f_plus T.fd_plus ["one", "other"] (spD K W g_plus) := by
  refine vfn T.F_plus sc_plus (fun ds Q h => ?_) ⟨_, fun cdv A outer s H E hr => (vss_one (vs_ret (ve_callD (ok_amount T) (hr.mono (by decide)) (by rfl) T.g_amount T.F_amount.kp (T.F_amount.binds1 2 1 (List.cons_ne_nil _ _) rfl (fun _ _ _ _ _ _ _ us its hu hi => match us, its, hu, hi with | [_, _], [_], _, _ => ⟨_, rfl, rfl⟩)) pass0 (fun M H => reps_nil) (va_cons (ve_addA (ve_mul (ve_ixA hr.units (ve_var 0) ve_int) (ve_ixA hr.units (ve_var 1) ve_int)) (ve_mul (ve_ixA hr.units (ve_var 1) ve_int) (ve_ixA hr.units (ve_var 0) ve_int))) (va_cons (ve_mul (ve_ixA hr.units (ve_var 0) ve_int) (ve_ixA hr.units (ve_var 1) ve_int)) va_nil))))), fun ds Q h => ?_⟩
  · obtain ⟨_, _, _, _, rfl, _⟩ := h
    rfl
  · obtain ⟨n, m, x, y, rfl, ⟨a, b, rfl, A⟩, ⟨c, d, rfl, B⟩, hn, h⟩ := h
    obtain ⟨f1, f2, f3, f4, f5⟩ := plus_facts A B hn
    exact ⟨_, rfl, _, rfl, f1, _, rfl, _, rfl, f2, _, rfl, _, rfl, f3, _, _, rfl, f4, f5, h⟩
theorem ok_times (T : Tx K mg) : FnOk P w K mg base CX0 3 T.f_times T.fd_times ["one", "other"] (spD K W g_times) := by
  refine vfn T.F_times sc_times (fun ds Q h => ?_) ⟨_, fun cdv A outer s H E hr => (vss_one (vs_ret (ve_callD (ok_amount T) (hr.mono (by decide)) (by rfl) T.g_amount T.F_amount.kp (T.F_amount.binds1 2 1 (List.cons_ne_nil _ _) rfl (fun _ _ _ _ _ _ _ us its hu hi => match us, its, hu, hi with | [_, _], [_], _, _ => ⟨_, rfl, rfl⟩)) pass0 (fun M H => reps_nil) (va_cons (ve_mul (ve_ixA hr.units (ve_var 0) ve_int) (ve_ixA hr.units (ve_var 1) ve_int)) (va_cons (ve_mul (ve_ixA hr.units (ve_var 0) ve_int) (ve_ixA hr.units (ve_var 1) ve_int)) va_nil))))), fun ds Q h => ?_⟩
  · obtain ⟨_, _, _, _, rfl, _⟩ := h
    rfl
  · obtain ⟨n, m, x, y, rfl, ⟨a, b, rfl, A⟩, ⟨c, d, rfl, B⟩, hn, h⟩ := h
    obtain ⟨f1, f3, f4, f5⟩ := times_facts A B hn
    exact ⟨_, rfl, _, rfl, f1, _, rfl, _, rfl, f3, _, _, rfl, f4, f5, h⟩
def g_sign (xs : List D) (Q : D → Prop) : Prop := ∃ (a : Int) (b : D), xs = [.tup [.int a, b]] ∧ Q (.int (sgnI a))
theorem ok_sign (T : Tx K mg) : FnOk P w K mg base CX0 1 T.f_sign T.fd_sign ["one"] (spD K W g_sign) := by
  refine vfn T.F_sign sc_sign (fun ds Q h => ?_) ⟨_, fun cdv A outer s H E hr => (vss_one (vs_ret (ve_sub (ve_callTy call_int1 lift_int (by rfl) T.n_int bt_int (va_cons (ve_cmp op_gt lift_iib (ve_ixA hr.units (ve_var 0) ve_int) ve_int (nomark _)) va_nil)) (ve_callTy call_int1 lift_int (by rfl) T.n_int bt_int (va_cons (ve_cmp op_ltA lift_lt (ve_ixA hr.units (ve_var 0) ve_int) ve_int (nomark _)) va_nil))))), fun ds Q h => ?_⟩
  · obtain ⟨_, _, rfl, _⟩ := h
    rfl
  · obtain ⟨a, b, rfl, h⟩ := h
    exact ⟨_, rfl, _, rfl, h⟩
theorem ok_l_sign (T : Tx K mg) : FnOk P w K mg base CX0 1 T.f_l_sign T.fd_l_sign ["_law_one"] (spD K W g_sign) := by
  refine vfn T.F_l_sign sc_l_sign (fun ds Q h => ?_) ⟨_, fun cdv A outer s H E hr => (vss_one (vs_ret (ve_sub (ve_callTy call_int1 lift_int (by rfl) T.n_int bt_int (va_cons (ve_cmp op_gt lift_iib (ve_ixA hr.units (ve_var 0) ve_int) ve_int (nomark _)) va_nil)) (ve_callTy call_int1 lift_int (by rfl) T.n_int bt_int (va_cons (ve_cmp op_ltA lift_lt (ve_ixA hr.units (ve_var 0) ve_int) ve_int (nomark _)) va_nil))))), fun ds Q h => ?_⟩
  · obtain ⟨_, _, rfl, _⟩ := h
    rfl
  · obtain ⟨a, b, rfl, h⟩ := h
    exact ⟨_, rfl, _, rfl, h⟩
def g_minus (xs : List D) (Q : D → Prop) : Prop := ∃ n m x y, xs = [x, y] ∧ AmtD n x ∧ AmtD m y ∧ n + m ≤ 9000 ∧ Q (minusD x y)
theorem ok_minus (T : Tx K mg) : FnOk P w K mg base CX0 3 T.f_minus T.fd_minus ["one", "other"] (spD K W g_minus) := by
  refine vfn T.F_minus sc_minus (fun ds Q h => ?_) ⟨_, fun cdv A outer s H E hr => (vss_one (vs_ret (ve_callD (ok_amount T) (hr.mono (by decide)) (by rfl) T.g_amount T.F_amount.kp (T.F_amount.binds1 2 1 (List.cons_ne_nil _ _) rfl (fun _ _ _ _ _ _ _ us its hu hi => match us, its, hu, hi with | [_, _], [_], _, _ => ⟨_, rfl, rfl⟩)) pass0 (fun M H => reps_nil) (va_cons (ve_sub (ve_mul (ve_ixA hr.units (ve_var 0) ve_int) (ve_ixA hr.units (ve_var 1) ve_int)) (ve_mul (ve_ixA hr.units (ve_var 1) ve_int) (ve_ixA hr.units (ve_var 0) ve_int))) (va_cons (ve_mul (ve_ixA hr.units (ve_var 0) ve_int) (ve_ixA hr.units (ve_var 1) ve_int)) va_nil))))), fun ds Q h => ?_⟩
  · obtain ⟨_, _, _, _, rfl, _⟩ := h
    rfl
  · obtain ⟨n, m, x, y, rfl, ⟨a, b, rfl, A⟩, ⟨c, d, rfl, B⟩, hn, h⟩ := h
    obtain ⟨f1, f2, f3, f4, f5⟩ := plus_facts A B hn
    have e : a * d - c * b = a * d + (0 - c) * b := by rw [Int.zero_sub, Int.neg_mul, Int.sub_eq_add_neg]
    refine ⟨_, rfl, _, rfl, f1, _, rfl, _, rfl, f2, _, rfl, _, rfl, f3, _, _, rfl, f4, f5, ?_⟩
    rw [e]
    exact h
def g_over (xs : List D) (Q : D → Prop) : Prop := ∃ n m x y, xs = [x, y] ∧ AmtD n x ∧ AmtD m y ∧ y ≠ zeroD ∧ n + m ≤ 9000 ∧ Q (overD x y)
theorem ok_over (T : Tx K mg) : FnOk P w K mg base CX0 3 T.f_over T.fd_over ["one", "other"] (spD K W g_over) := by
  refine vfn T.F_over sc_over (fun ds Q h => ?_) ⟨_, fun cdv A outer s H E hr => (vss_cons (vs_if (vt_cmp (op_eqA hr.units) lift_eq (ve_var 1) (ve_glob (by rfl) T.c_ZERO T.r_ZERO T.w_ZERO) (nomark _)) (vss_one vs_never) vss_nil) (vss_one (vs_ret (ve_callD (ok_amount T) (hr.mono (by decide)) (by rfl) T.g_amount T.F_amount.kp (T.F_amount.binds1 2 1 (List.cons_ne_nil _ _) rfl (fun _ _ _ _ _ _ _ us its hu hi => match us, its, hu, hi with | [_, _], [_], _, _ => ⟨_, rfl, rfl⟩)) pass0 (fun M H => reps_nil) (va_cons (ve_mul (ve_ixA hr.units (ve_var 0) ve_int) (ve_ixA hr.units (ve_var 1) ve_int)) (va_cons (ve_mul (ve_ixA hr.units (ve_var 0) ve_int) (ve_ixA hr.units (ve_var 1) ve_int)) va_nil)))))), fun ds Q h => ?_⟩
  · obtain ⟨_, _, _, _, rfl, _⟩ := h
    rfl
  · obtain ⟨n, m, x, y, rfl, hx, hy, hz, hn, h⟩ := h
    have hq : qD y ≠ 0 := fun z => hz (q_inj hy zero_amt (by rw [z, q_zero]))
    have ez := eqv_amtD hy zero_amt
    rw [q_zero, decide_eq_false hq] at ez
    obtain ⟨a, b, rfl, A⟩ := hx
    obtain ⟨c, d, rfl, B⟩ := hy
    have hc : c ≠ 0 := fun z => hq ((q_zero_iff B).mpr z)
    obtain ⟨f1, f2, f3, f4⟩ := over_facts A B hc hn
    refine ⟨rfl, rfl, ?_⟩
    refine vif (fun z => ?_) (fun _ => ?_)
    · rw [show eqv (.tup [.int c, .int d]) (.tup [.int 0, .int 1]) = false from ez] at z; cases z
    exact ⟨_, rfl, _, rfl, f1, _, rfl, _, rfl, f2, _, _, rfl, f3, f4, h⟩
open Fs (Bq Sm Rw CdS CdP)
def g_opp (xs : List D) (Q : D → Prop) : Prop := ∃ a b, xs = [.tup [.int a, b]] ∧ Q (.tup [.int (-a), b])
theorem ok_opposite (T : Tx K mg) : FnOk P w K mg base CX0 1 T.f_opposite T.fd_opposite ["one"] (spD K W g_opp) := by
  refine vfn T.F_opposite sc_opposite (fun ds Q h => ?_) ⟨_, fun cdv A outer s H E hr => (vss_one (vs_ret (ve_tup (va_cons (ve_neg (ve_ixA hr.units (ve_var 0) ve_int)) (va_cons (ve_ixA hr.units (ve_var 0) ve_int) va_nil))))), fun ds Q h => ?_⟩
  · obtain ⟨_, _, rfl, _⟩ := h
    rfl
  · obtain ⟨a, b, rfl, h⟩ := h
    exact ⟨_, rfl, _, rfl, Nat.le_of_ble_eq_true rfl, h⟩
def g_Sum (xs : List D) (Q : List Str → List D → Prop) (PX : D → Prop) : Prop := ∃ a b c d, xs = [a, b, c, d] ∧ Q sumK [a, b, c, d]
theorem ok_Sum___init__ (T : Tx K mg) : FnOk P w K mg base (L2.CX P w) 2 T.f_Sum___init__ T.fd_Sum___init__ ["self", "factors", "constant", "multipliers", "members"] (spI K W T.C_Sum g_Sum) := by
  refine vfnI T.F_Sum___init__ sc_Sum___init__ (fun ds Q PX h => ?_) ⟨_, fun PX Mf Hf cdv A outer s H E hr tk => (vss_cons (vs_fldO 0 [T.C_Sum] (fl_factors T) (ve_var 1)) (vss_cons (vs_fldO 0 [T.C_Sum] (fl_constant T) (ve_var 2)) (vss_cons (vs_fldO 0 [T.C_Sum] (fl_multipliers T) (ve_var 3)) (vss_one (vs_fldO 0 [T.C_Sum] (fl_members T) (ve_var 4)))))), fun a ds Q PX h => ?_⟩
  · obtain ⟨_, _, _, _, rfl, _⟩ := h
    rfl
  · obtain ⟨x, y, z, u, rfl, h⟩ := h
    exact ⟨.head _, by decide, by decide, .head _, by decide, by decide, .head _, by decide, by decide, .head _, by decide, by decide, rfl, rfl, h⟩
theorem ok_mk_Sum (T : Tx K mg) : FnOk P w K mg base (L2.CX P w) 2 T.f_Sum___init__ T.fd_Sum___init__ ["self", "factors", "constant", "multipliers", "members"] (spI K W T.C_Sum g_Sum) := ok_Sum___init__ T
def g_added (xs : List D) (Q : D → Prop) : Prop := ∃ n m k ts ft fs by_, xs = [.lst ts, ft, by_] ∧ (ft = .tup fs ∨ ft = .lst fs) ∧ (∀ t ∈ ts, AmtD k t) ∧ (∀ f ∈ fs, AmtD n f) ∧ AmtD m by_ ∧ 0 < k ∧ k + n + m ≤ 9000 ∧ ts.length ≤ 1000 ∧ fs.length ≤ 1000 ∧ Q (.lst (addL ts fs by_))
theorem amt_lay {n : Nat} {d : D} (h : AmtD n d) : (toPy d).canLay0 = true ∧ (toPy d).depth ≤ 60 := by
  obtain ⟨a, b, rfl, _⟩ := h
  exact ⟨rfl, by show 1 ≤ 60; decide⟩
theorem ok_added (T : Tx K mg) : FnOk P w K mg base CX0 4 T.f_added T.fd_added ["total", "factors", "by"] (spD K W g_added) := by
  refine vfn T.F_added sc_added (fun ds Q h => ?_) ⟨_, fun cdv A outer s H E hr => (vss_cons (vs_set 3 sc_added.nd (ve_if (vt_cmp (op_neA hr.units) lift_ne (ve_var 0) (ve_lst va_nil) (nomark _)) (ve_var 0) (ve_lc (own := [("factor", 4)]) rfl sc_added.nd (vi_its (ve_var 1)) (blkOk_by (N := ["total", "factors", "by", "before", "factor", "one"]) (sc := defScope s_added) (by decide +kernel)) (fun _ _ _ _ _ => (vg_name 4 sc_added.nd (by decide))) (fun _ _ _ _ _ => vts_nil) (fun sB HB CB clB fpB => (ve_glob (by rfl) T.c_ZERO T.r_ZERO T.w_ZERO))))) (vss_one (vs_ret (ve_lc (own := [("one", 5), ("factor", 4)]) rfl sc_added.nd (vi_zipK (by rfl) T.n_zip (ve_var 3) (ve_var 1)) (blkOk_by (N := ["total", "factors", "by", "before", "factor", "one"]) (sc := defScope s_added) (by decide +kernel)) (fun _ _ _ _ _ => (vg_tup (n := 2) rfl (vgs_cons (vg_name 5 sc_added.nd (by decide)) (vgs_cons (vg_name 4 sc_added.nd (by decide)) vgs_nil)))) (fun _ _ _ _ _ => vts_nil) (fun sB HB CB clB fpB => (ve_call (ok_plus T) (hr.mono (by decide)) (by rfl) T.g_plus T.F_plus.kp T.B_plus .nil pass0 (fun _ _ => reps_nil) (va_cons (ve_var 5) (va_cons (ve_call (ok_times T) (hr.mono (by decide)) (by rfl) T.g_times T.F_times.kp T.B_times .nil pass0 (fun _ _ => reps_nil) (va_cons (ve_var 2) (va_cons (ve_var 4) va_nil))) va_nil)))))))), fun ds Q h => ?_⟩
  · obtain ⟨_, _, _, _, _, _, _, rfl, _⟩ := h
    rfl
  · obtain ⟨n, m, k, ts, ft, fs, by_, rfl, hft, ht, hf, hb, hk, hN, hl, hl2, h⟩ := h
    have lay : shp (.lst ts) = true := shp_lst fun t h => amt_lay (ht t h)
    have hQ : Q (.lst ((zipsD (befD ts fs) fs).map (addT by_))) := h
    unfold befD at hQ
    have elt : ∀ B : List D, (∀ b ∈ B, AmtD k b) → ∀ d ∈ zipsD B fs, ∃ x f, d = .tup [x, f] ∧ AmtD k x ∧ AmtD n f := fun B hB d hd => by
      obtain ⟨x, hx, y, hy, e⟩ := zips_mem hd
      exact ⟨x, y, e, hB x hx, hf y hy⟩
    rcases hft with rfl | rfl
    all_goals
      refine ⟨Nat.le_of_ble_eq_true rfl, lay, rfl, ?_⟩
      rw [eqv_nil]
      cases e : ts.isEmpty with
      | false =>
        rw [e] at hQ
        refine ⟨rfl, by omega, ?_⟩
        refine lcF (addT by_) (fun d hd R hR => ?_) hQ
        obtain ⟨x, f, rfl, hx, hf2⟩ := elt ts ht d hd
        exact ⟨rfl, m, n, _, _, rfl, hb, hf2, by omega, k, m + n, _, _, rfl, hx, times_amt hb hf2, by omega, hR⟩
      | true =>
        rw [e] at hQ
        refine ⟨rfl, ?_⟩
        refine lcF (fun _ => zeroD) (fun d hd R hR => hR) ?_
        have hz : ∀ b ∈ fs.map (fun _ => zeroD), AmtD k b := fun b hb => by
          obtain ⟨_, _, rfl⟩ := List.mem_map.mp hb
          exact zero_amt.mono hk
        refine ⟨rfl, by rw [List.length_map]; omega, ?_⟩
        refine lcF (addT by_) (fun d hd R hR => ?_) hQ
        obtain ⟨x, f, rfl, hx, hf2⟩ := elt _ hz d hd
        exact ⟨rfl, m, n, _, _, rfl, hb, hf2, by omega, k, m + n, _, _, rfl, hx, times_amt hb hf2, by omega, hR⟩
def g_with_other (T : Tx K mg) (xs : List D) (Q : D → Prop) : Prop := ∃ n m k s o b, xs = [smQ T.C_Sum s, smQ T.C_Sum o, aQ b] ∧ Sz n s ∧ Sz m o ∧ Bq k b ∧ 0 < n ∧ n + m + k ≤ 9000 ∧ s.f.length = o.f.length ∧ s.m.length = o.m.length ∧ s.f.length ≤ 1000 ∧ s.m.length ≤ 1000 ∧ s.mem.length + o.mem.length < 64 ∧ (∀ i ∈ s.mem, i < s.m.length) ∧ (∀ i ∈ o.mem, i < s.m.length) ∧ Q (smQ T.C_Sum (s.withO o b))
theorem ok_Sum_with_other (T : Tx K mg) : FnOk P w K mg base CX0 5 T.f_Sum_with_other T.fd_Sum_with_other ["self", "other", "by"] (spD K W (g_with_other T)) := by
  refine vfn T.F_Sum_with_other sc_Sum_with_other (fun ds Q h => ?_) ⟨_, fun cdv A outer s H E hr => (vss_cons (vs_set 3 sc_Sum_with_other.nd (ve_srtSet rfl (by rfl) T.n_sorted bt_sorted (by rfl) T.n_set bt_set (ve_addA (ve_fld [T.C_Sum] (fl_members T) (ve_var 0)) (ve_fld [T.C_Sum] (fl_members T) (ve_var 1))))) (vss_one (vs_ret (ve_make T.mk_Sum (ok_mk_Sum T) (hr.mono (by decide)) (by rfl) T.gC_Sum ⟨[], .nil, T.B_Sum___init__⟩ (fun _ _ => reps_nil) takes0 (va_cons (ve_call (ok_added T) (hr.mono (by decide)) (by rfl) T.g_added T.F_added.kp T.B_added .nil pass0 (fun _ _ => reps_nil) (va_cons (ve_fld [T.C_Sum] (fl_factors T) (ve_var 0)) (va_cons (ve_fld [T.C_Sum] (fl_factors T) (ve_var 1)) (va_cons (ve_var 2) va_nil)))) (va_cons (ve_call (ok_plus T) (hr.mono (by decide)) (by rfl) T.g_plus T.F_plus.kp T.B_plus .nil pass0 (fun _ _ => reps_nil) (va_cons (ve_fld [T.C_Sum] (fl_constant T) (ve_var 0)) (va_cons (ve_call (ok_times T) (hr.mono (by decide)) (by rfl) T.g_times T.F_times.kp T.B_times .nil pass0 (fun _ _ => reps_nil) (va_cons (ve_var 2) (va_cons (ve_fld [T.C_Sum] (fl_constant T) (ve_var 1)) va_nil))) va_nil))) (va_cons (ve_call (ok_added T) (hr.mono (by decide)) (by rfl) T.g_added T.F_added.kp T.B_added .nil pass0 (fun _ _ => reps_nil) (va_cons (ve_fld [T.C_Sum] (fl_multipliers T) (ve_var 0)) (va_cons (ve_fld [T.C_Sum] (fl_multipliers T) (ve_var 1)) (va_cons (ve_var 2) va_nil)))) (va_cons (ve_var 3) va_nil)))))))), fun ds Q h => ?_⟩
  · obtain ⟨_, _, _, _, _, _, rfl, _⟩ := h
    rfl
  · obtain ⟨n, m, k, s, o, b, rfl, hs, ho, hb, hn0, hN, hf, hm, lf, lm, hl, i1, i2, h⟩ := h
    refine ⟨.head _, _, rfl, .head _, _, rfl, ?_⟩
    have e : smQ T.C_Sum (s.withO o b) = .ins T.C_Sum sumK [.lst (addL (s.f.map aQ) (o.f.map aQ) (aQ b)), plusD (aQ s.c) (timesD (aQ b) (aQ o.c)), .lst (addL (s.m.map aQ) (o.m.map aQ) (aQ b)), .lst ((Fs.un s.m.length s.mem o.mem).map nD)] := by
      rw [addL_q hf, addL_q hm, times_aQ, plus_aQ]
      rfl
    rw [e] at h
    refine ⟨by rw [List.length_map, List.length_map, sizeLine_eq]; omega, (s.mem ++ o.mem).map (fun i : Nat => (i : Int)), by rw [List.map_map, ← List.map_append]; rfl, by rw [List.length_map, List.length_append]; exact hl, fun r hr hm2 => ?_⟩
    rw [un_uniq i1 i2 hr hm2]
    dsimp only [List.set]
    refine ⟨.head _, _, rfl, .head _, _, rfl, m, k, n, _, _, _, _, rfl, .inr rfl, amts_of hs.f, amts_of ho.f, aQ_amt hb, hn0, by omega, by rw [List.length_map]; omega, by rw [List.length_map]; omega, ?_⟩
    refine ⟨.head _, _, rfl, .head _, _, rfl, k, m, _, _, rfl, aQ_amt hb, aQ_amt ho.c, by omega, n, k + m, _, _, rfl, aQ_amt hs.c, times_amt (aQ_amt hb) (aQ_amt ho.c), by omega, ?_⟩
    refine ⟨.head _, _, rfl, .head _, _, rfl, m, k, n, _, _, _, _, rfl, .inr rfl, amts_of hs.m, amts_of ho.m, aQ_amt hb, hn0, by omega, by rw [List.length_map]; omega, by rw [List.length_map]; omega, ?_⟩
    exact ⟨_, _, _, _, rfl, h⟩
def g_scaled (T : Tx K mg) (xs : List D) (Q : D → Prop) : Prop := ∃ n k s b, xs = [smQ T.C_Sum s, aQ b] ∧ Sz n s ∧ Bq k b ∧ n + k ≤ 9000 ∧ Q (smQ T.C_Sum (s.scaled b))
theorem ok_Sum_scaled (T : Tx K mg) : FnOk P w K mg base CX0 4 T.f_Sum_scaled T.fd_Sum_scaled ["self", "by"] (spD K W (g_scaled T)) := by
  refine vfn T.F_Sum_scaled sc_Sum_scaled (fun ds Q h => ?_) ⟨_, fun cdv A outer s H E hr => (vss_one (vs_ret (ve_make T.mk_Sum (ok_mk_Sum T) (hr.mono (by decide)) (by rfl) T.gC_Sum ⟨[], .nil, T.B_Sum___init__⟩ (fun _ _ => reps_nil) takes0 (va_cons (ve_lc (own := [("factor", 2)]) rfl sc_Sum_scaled.nd (vi_its (ve_fld [T.C_Sum] (fl_factors T) (ve_var 0))) (blkOk_by (N := ["self", "by", "factor", "one"]) (sc := defScope s_Sum_scaled) (by decide +kernel)) (fun _ _ _ _ _ => (vg_name 2 sc_Sum_scaled.nd (by decide))) (fun _ _ _ _ _ => vts_nil) (fun sB HB CB clB fpB => (ve_call (ok_times T) (hr.mono (by decide)) (by rfl) T.g_times T.F_times.kp T.B_times .nil pass0 (fun _ _ => reps_nil) (va_cons (ve_var 1) (va_cons (ve_var 2) va_nil))))) (va_cons (ve_call (ok_times T) (hr.mono (by decide)) (by rfl) T.g_times T.F_times.kp T.B_times .nil pass0 (fun _ _ => reps_nil) (va_cons (ve_var 1) (va_cons (ve_fld [T.C_Sum] (fl_constant T) (ve_var 0)) va_nil))) (va_cons (ve_lc (own := [("one", 3)]) rfl sc_Sum_scaled.nd (vi_its (ve_fld [T.C_Sum] (fl_multipliers T) (ve_var 0))) (blkOk_by (N := ["self", "by", "factor", "one"]) (sc := defScope s_Sum_scaled) (by decide +kernel)) (fun _ _ _ _ _ => (vg_name 3 sc_Sum_scaled.nd (by decide))) (fun _ _ _ _ _ => vts_nil) (fun sB HB CB clB fpB => (ve_call (ok_times T) (hr.mono (by decide)) (by rfl) T.g_times T.F_times.kp T.B_times .nil pass0 (fun _ _ => reps_nil) (va_cons (ve_var 1) (va_cons (ve_var 3) va_nil))))) (va_cons (ve_callTy (cr_listA (by rfl)) lift_listA (by rfl) T.n_list bt_list (va_cons (ve_fld [T.C_Sum] (fl_members T) (ve_var 0)) va_nil)) va_nil))))))), fun ds Q h => ?_⟩
  · obtain ⟨_, _, _, _, rfl, _⟩ := h
    rfl
  · obtain ⟨n, k, s, b, rfl, hs, hb, hN, h⟩ := h
    have tm : ∀ l : List Rat, (∀ x ∈ l, Bq n x) → ∀ d ∈ l.map aQ, AmtD n d ∧ timesD (aQ b) d = timesD (aQ b) d := fun l hl d hd => ⟨amts_of hl d hd, rfl⟩
    have te : ∀ l : List Rat, (l.map aQ).map (timesD (aQ b)) = (l.map fun x => b * x).map aQ := fun l => by
      rw [List.map_map, List.map_map]
      exact List.map_congr_left fun x _ => times_aQ b x
    have e : smQ T.C_Sum (s.scaled b) = .ins T.C_Sum sumK [.lst ((s.f.map aQ).map (timesD (aQ b))), timesD (aQ b) (aQ s.c), .lst ((s.m.map aQ).map (timesD (aQ b))), .lst (s.mem.map nD)] := by
      rw [te, te, times_aQ]
      rfl
    rw [e] at h
    refine ⟨rfl, .head _, _, rfl, ?_⟩
    refine lcF (timesD (aQ b)) (fun d hd R hR => ⟨k, n, _, _, rfl, aQ_amt hb, amts_of hs.f d hd, by omega, hR⟩) ?_
    refine ⟨.head _, _, rfl, k, n, _, _, rfl, aQ_amt hb, aQ_amt hs.c, by omega, ?_⟩
    refine ⟨rfl, .head _, _, rfl, ?_⟩
    refine lcF (timesD (aQ b)) (fun d hd R hR => ⟨k, n, _, _, rfl, aQ_amt hb, amts_of hs.m d hd, by omega, hR⟩) ?_
    exact ⟨.head _, _, rfl, _, _, _, _, rfl, h⟩
def g_row_value (xs : List D) (Q : D → Prop) : Prop := ∃ n m k ft fs c rest pt ps, xs = [.tup (ft :: c :: rest), pt] ∧ (rest = [] ∨ ∃ rel, rest = [rel]) ∧ (ft = .tup fs ∨ ft = .lst fs) ∧ (pt = .tup ps ∨ pt = .lst ps) ∧ (∀ f ∈ fs, AmtD n f) ∧ (∀ p ∈ ps, AmtD m p) ∧ (∀ i, AmtD k (valZ ((zipsD fs ps).take i) c)) ∧ fs.length ≤ 1000 ∧ k + n + m ≤ 9000 ∧ Q (valZ (zipsD fs ps) c)
theorem ok_row_value (T : Tx K mg) : FnOk P w K mg base CX0 4 T.f_row_value T.fd_row_value ["row", "point"] (spD K W g_row_value) := by
  refine vfn T.F_row_value sc_row_value (fun ds Q h => ?_) ⟨_, fun cdv A outer s H E hr => (vss_cons (vs_set 2 sc_row_value.nd (ve_ixA hr.units (ve_var 0) ve_int)) (vss_cons (vs_for (vs := [3, 4]) PassesOwn.never rfl (vi_zipK (by rfl) T.n_zip (ve_ixA hr.units (ve_var 0) ve_int) (ve_var 1)) (vg_tup (n := 2) rfl (vgs_cons (vg_name 3 sc_row_value.nd (by decide)) (vgs_cons (vg_name 4 sc_row_value.nd (by decide)) vgs_nil))) (vss_one (vs_set 2 sc_row_value.nd (ve_call (ok_plus T) (hr.mono (by decide)) (by rfl) T.g_plus T.F_plus.kp T.B_plus .nil pass0 (fun _ _ => reps_nil) (va_cons (ve_var 2) (va_cons (ve_call (ok_times T) (hr.mono (by decide)) (by rfl) T.g_times T.F_times.kp T.B_times .nil pass0 (fun _ _ => reps_nil) (va_cons (ve_var 3) (va_cons (ve_var 4) va_nil))) va_nil)))))) (vss_one (vs_ret (ve_var 2))))), fun ds Q h => ?_⟩
  · obtain ⟨_, _, _, _, _, _, _, _, _, rfl, _⟩ := h
    rfl
  · obtain ⟨n, m, k, ft, fs, c, rest, pt, ps, rfl, hrest, hft, hpt, hf, hp, hv, hl, hN, h⟩ := h
    have hit : ∀ t ∈ zipsD fs ps, ∃ f v, t = .tup [f, v] ∧ AmtD n f ∧ AmtD m v := fun t ht => by
      obtain ⟨x, hx, y, hy, e⟩ := zips_mem ht
      exact ⟨x, y, e, hf x hx, hp y hy⟩
    rcases hrest with rfl | ⟨rel, rfl⟩ <;> rcases hft with rfl | rfl <;> rcases hpt with rfl | rfl
    all_goals
      refine ⟨_, rfl, _, rfl, by omega, ?_⟩
      refine ⟨fun i sl => ∃ x y o3 o4, sl = [.d y, .d x, .d (valZ ((zipsD fs ps).take i) c), o3, o4], ⟨_, _, _, _, rfl⟩, ?_, ?_⟩
      · rintro i d sl hd ⟨x, y, o3, o4, rfl⟩
        obtain ⟨f, v, rfl, h1, h2⟩ := hit d (List.mem_of_getElem? hd)
        refine ⟨rfl, n, m, _, _, rfl, h1, h2, by omega, k, n + m, _, _, rfl, hv i, times_amt h1 h2, by omega, ?_⟩
        exact ⟨_, _, _, _, by rw [valZ_take hd]; rfl⟩
      · rintro sl ⟨x, y, o3, o4, rfl⟩
        rw [List.take_length]
        exact h
def g_value (T : Tx K mg) (xs : List D) (Q : D → Prop) : Prop := ∃ b k s p pt, xs = [smQ T.C_Sum s, pt] ∧ (pt = .tup (p.map aQ) ∨ pt = .lst (p.map aQ)) ∧ CdS b s ∧ CdP k p ∧ s.f.length ≤ 14 ∧ 2 * (b + k) + 4 ≤ 9000 ∧ Q (aQ (s.v p))
theorem ok_Sum_value (T : Tx K mg) : FnOk P w K mg base CX0 5 T.f_Sum_value T.fd_Sum_value ["self", "point"] (spD K W (g_value T)) := by
  refine vfn T.F_Sum_value sc_Sum_value (fun ds Q h => ?_) ⟨_, fun cdv A outer s H E hr => (vss_one (vs_ret (ve_call (ok_row_value T) (hr.mono (by decide)) (by rfl) T.g_row_value T.F_row_value.kp T.B_row_value .nil pass0 (fun _ _ => reps_nil) (va_cons (ve_tup (va_cons (ve_fld [T.C_Sum] (fl_factors T) (ve_var 0)) (va_cons (ve_fld [T.C_Sum] (fl_constant T) (ve_var 0)) va_nil))) (va_cons (ve_var 1) va_nil))))), fun ds Q h => ?_⟩
  · obtain ⟨_, _, _, _, _, rfl, _⟩ := h
    rfl
  · obtain ⟨b, k, s, p, pt, rfl, hpt, hs, hp, hl, hN, h⟩ := h
    have e : valZ (zipsD (s.f.map aQ) (p.map aQ)) (aQ s.c) = aQ (s.v p) := valZ_v _ _ _
    rw [← e] at h
    refine ⟨.head _, _, rfl, .head _, _, rfl, Nat.le_of_ble_eq_true rfl, b, k, b + k + 4, _, s.f.map aQ, _, _, _, p.map aQ, rfl, .inl rfl, .inr rfl, ?_, amts_of (sz_of hs).f, amts_of (fun x hx => ?_), fun i => ?_, by rw [List.length_map]; omega, by omega, h⟩
    · exact hpt
    · obtain ⟨i, _, rfl⟩ := Fs.mem_gt hx
      exact hp.b i
    · rw [valZ_q]
      exact aQ_amt (Fs.part_bq hs hp hl i)
open Fs (Bq Sm Rw CdS CdP EI SzE)
structure SmR (n w r : Nat) (s : Sm) : Prop where
  sz : Sz n s
  fl : s.f.length = w
  ml : s.m.length = r
  mm : ∀ i ∈ s.mem, i < r
  me : s.mem.length ≤ 31
def baseD (C : Addr) (n i : Nat) (r : Rw) : D := smQ C (Fs.baseR n (i, r))
def g_sums_of (T : Tx K mg) (xs : List D) (Q : D → Prop) : Prop := ∃ (R : List Rw) (rt : D), xs = [rt] ∧ (rt = .lst (R.map rowQ) ∨ rt = .tup (R.map rowQ)) ∧ R.length ≤ 31 ∧ (∀ r ∈ R, r.f.length ≤ 1000) ∧ Q (.tup [.lst ((Fs.eqs R).map (smQ T.C_Sum)), .lst ((Fs.lts R).map (smQ T.C_Sum))])
theorem row_at {R : List Rw} {i : Nat} {r : Rw} (h : R[i]? = some r) : Fs.rowA R i = r := by
  unfold Fs.rowA
  rw [List.getD_eq_getElem?_getD, h]
  rfl
theorem enum_take {R : List Rw} {i : Nat} {r : Rw} (h : R[i]? = some r) : (Fs.enumR R).take (i + 1) = (Fs.enumR R).take i ++ [(i, r)] := by
  refine take_one ?_
  unfold Fs.enumR
  have hi := (List.getElem?_eq_some_iff.mp h).1
  rw [List.getElem?_map, List.getElem?_range hi, ← row_at h]
  rfl
def selD (i : Nat) : D → D
  | .int j => if j = (i : Int) then oneD else zeroD
  | _ => .non
theorem sel_map {n i : Nat} : (rngD 0 n).map (selD i) = ((List.range n).map fun k => if k = i then (1 : Rat) else 0).map aQ := by
  unfold rngD
  rw [List.map_map, List.map_map]
  refine List.map_congr_left fun k _ => ?_
  show (if (0 : Int) + (k : Int) = (i : Int) then oneD else zeroD) = aQ (if k = i then 1 else 0)
  by_cases e : k = i
  · rw [if_pos e, if_pos (by omega)]
    rfl
  · rw [if_neg e, if_neg (by omega)]
    rfl
theorem ok_sums_of (T : Tx K mg) : FnOk P w K mg base CX0 4 T.f_sums_of T.fd_sums_of ["rows"] (spD K W (g_sums_of T)) := by
  refine vfn T.F_sums_of sc_sums_of (fun ds Q h => ?_) ⟨_, fun cdv A outer s H E hr => (vss_cons (vs_parOO 1 2 rfl sc_sums_of.nd (by decide) (leo_lst va_nil) (leo_lst va_nil)) (vss_cons (vs_for (vs := [3, 4]) PassesOwn.never rfl (vi_enum (by rfl) T.n_enumerate (ve_var 0)) (vg_tup (n := 2) rfl (vgs_cons (vg_name 3 sc_sums_of.nd (by decide)) (vgs_cons (vg_name 4 sc_sums_of.nd (by decide)) vgs_nil))) (vss_cons (vs_setLc 5 (own := [("k", 6)]) rfl sc_sums_of.nd rfl rfl (sw_true rfl rfl rfl (by decide +kernel)) (vi_range1 (by rfl) T.n_range (ve_callB call_len lift_len (by rfl) T.n_len bt_len (va_cons (ve_var 0) va_nil))) (blkOk_by (N := ["rows", "equal", "strict", "at", "row", "multipliers", "k"]) (sc := defScope s_sums_of) (by decide +kernel)) (fun _ _ _ _ _ => (vg_name 6 sc_sums_of.nd (by decide))) (fun _ _ _ _ _ => vts_nil) (fun sB HB CB clB fpB => (ve_if (vt_cmp (op_eqA hr.units) lift_eq (ve_var 6) (ve_var 3) (nomark _)) (ve_glob (by rfl) T.c_ONE T.r_ONE T.w_ONE) (ve_glob (by rfl) T.c_ZERO T.r_ZERO T.w_ZERO)))) (vss_one (vs_if (vt_cmp (op_eqA hr.units) lift_eq (ve_ixA hr.units (ve_var 4) ve_int) ve_str (nomark _)) (vss_one (vs_app 1 (ve_make T.mk_Sum (ok_mk_Sum T) (hr.mono (by decide)) (by rfl) T.gC_Sum ⟨[], .nil, T.B_Sum___init__⟩ (fun _ _ => reps_nil) takes0 (va_cons (ve_callTy (cr_listA (by rfl)) lift_listA (by rfl) T.n_list bt_list (va_cons (ve_ixA hr.units (ve_var 4) ve_int) va_nil)) (va_cons (ve_ixA hr.units (ve_var 4) ve_int) (va_cons (ve_var 5) (va_cons (ve_lst va_nil) va_nil))))))) (vss_one (vs_app 2 (ve_make T.mk_Sum (ok_mk_Sum T) (hr.mono (by decide)) (by rfl) T.gC_Sum ⟨[], .nil, T.B_Sum___init__⟩ (fun _ _ => reps_nil) takes0 (va_cons (ve_callTy (cr_listA (by rfl)) lift_listA (by rfl) T.n_list bt_list (va_cons (ve_ixA hr.units (ve_var 4) ve_int) va_nil)) (va_cons (ve_ixA hr.units (ve_var 4) ve_int) (va_cons (ve_var 5) (va_cons (ve_lst (va_cons (ve_var 3) va_nil)) va_nil))))))))))) (vss_fz 2 (vss_fz 1 (vss_one (vs_ret (ve_tup (va_cons (ve_var 1) (va_cons (ve_var 2) va_nil))))))))), fun ds Q h => ?_⟩
  · obtain ⟨_, _, rfl, _⟩ := h
    rfl
  · obtain ⟨R, rt, rfl, hrt, hn, hw, h⟩ := h
    have hlen : (R.map rowQ).length = R.length := List.length_map ..
    have fin : Q (.tup [.lst (((((Fs.enumR R).take R.length).filter fun q => q.2.e).map (Fs.baseR R.length)).map (smQ T.C_Sum)), .lst (((((Fs.enumR R).take R.length).filter fun q => !q.2.e).map (Fs.baseR R.length)).map (smQ T.C_Sum))]) := by
      rw [List.take_of_length_le (by unfold Fs.enumR; rw [List.length_map, List.length_range]; exact Nat.le_refl _)]
      exact h
    have go : ∀ y : D, (y = .lst (R.map rowQ) ∨ y = .tup (R.map rowQ)) → ∀ (P : D → Prop), P (.int R.length) → lenD [y] P := fun y hy P hP => by
      rcases hy with rfl | rfl
      · show P (.int (R.map rowQ).length)
        rw [hlen]
        exact hP
      · show P (.int (R.map rowQ).length)
        rw [hlen]
        exact hP
    have hrt0 := hrt
    rcases hrt with rfl | rfl
    all_goals
      refine ⟨Nat.le_of_ble_eq_true rfl, Nat.le_of_ble_eq_true rfl, Nat.le_of_ble_eq_true rfl, Nat.le_of_ble_eq_true rfl, by rw [hlen]; omega, ?_⟩
      refine ⟨fun i sl => ∃ y o3 o4 o5, sl = [.d y, .ml (((((Fs.enumR R).take i).filter fun q => q.2.e).map (Fs.baseR R.length)).map (smQ T.C_Sum)), .ml (((((Fs.enumR R).take i).filter fun q => !q.2.e).map (Fs.baseR R.length)).map (smQ T.C_Sum)), o3, o4, o5, .un] ∧ (y = .lst (R.map rowQ) ∨ y = .tup (R.map rowQ)), ⟨_, _, _, _, rfl, hrt0⟩, ?_, ?_⟩
      · rintro i d sl hd ⟨y, o3, o4, o5, rfl, hy⟩
        obtain ⟨r0, hr, rfl⟩ := enumD_get hd
        obtain ⟨r, hr2, rfl⟩ := mapQ_get hr
        have e1 := enum_take hr2
        have lt : ∀ f : Nat × Rw → Bool, (((((Fs.enumR R).take i).filter f).map (Fs.baseR R.length)).map (smQ T.C_Sum)).length < 1000000 := fun f => by
          rw [List.length_map, List.length_map]
          have h1 := List.length_filter_le f ((Fs.enumR R).take i)
          have h2 : ((Fs.enumR R).take i).length ≤ R.length := by
            rw [List.length_take]
            unfold Fs.enumR
            rw [List.length_map, List.length_range]
            omega
          omega
        refine ⟨rfl, rfl, ?_⟩
        refine go y hy _ ?_
        refine ⟨by omega, by omega, ?_⟩
        rw [Int.toNat_natCast]
        refine lcF (selD i) (fun d hd P hP => ?_) ?_
        · obtain ⟨j, hj, rfl⟩ := List.mem_map.mp hd
          refine vifd (fun z => ?_) (fun z => ?_)
          · have : selD i (.int (0 + (j : Int))) = oneD := if_pos z
            rw [this] at hP
            exact hP
          · have : selD i (.int (0 + (j : Int))) = zeroD := if_neg z
            rw [this] at hP
            exact hP
        rw [sel_map]
        dsimp only [List.set]
        refine ⟨_, rfl, ?_⟩
        cases he : r.e with
        | true =>
          have e2 : smQ T.C_Sum (Fs.baseR R.length (i, r)) = .ins T.C_Sum sumK [.lst (r.f.map aQ), aQ r.c, .lst (((List.range R.length).map fun k => if k = i then (1 : Rat) else 0).map aQ), .lst []] := by
            show D.ins _ _ [_, _, _, .lst ((if r.e = true then [] else [i]).map nD)] = _
            rw [he]
            rfl
          have a1 : ((((Fs.enumR R).take (i + 1)).filter fun q => q.2.e).map (Fs.baseR R.length)).map (smQ T.C_Sum) = ((((Fs.enumR R).take i).filter fun q => q.2.e).map (Fs.baseR R.length)).map (smQ T.C_Sum) ++ [smQ T.C_Sum (Fs.baseR R.length (i, r))] := by
            rw [e1, List.filter_append, List.filter_cons_of_pos (by exact he), List.map_append, List.map_append]
            rfl
          have a2 : ((((Fs.enumR R).take (i + 1)).filter fun q => !q.2.e).map (Fs.baseR R.length)).map (smQ T.C_Sum) = ((((Fs.enumR R).take i).filter fun q => !q.2.e).map (Fs.baseR R.length)).map (smQ T.C_Sum) := by
            rw [e1, List.filter_append, List.filter_cons_of_neg (by show ¬ (!r.e) = true; rw [he]; decide), List.filter_nil, List.append_nil]
          refine ⟨_, rfl, _, rfl, Nat.le_of_ble_eq_true rfl, _, _, _, _, rfl, lt _, y, .d (.int i), .d (rowQ r), .d (.lst (((List.range R.length).map fun k => if k = i then (1 : Rat) else 0).map aQ)), ?_, hy⟩
          rw [a1, a2, e2]
          rfl
        | false =>
          have e2 : smQ T.C_Sum (Fs.baseR R.length (i, r)) = .ins T.C_Sum sumK [.lst (r.f.map aQ), aQ r.c, .lst (((List.range R.length).map fun k => if k = i then (1 : Rat) else 0).map aQ), .lst [.int i]] := by
            show D.ins _ _ [_, _, _, .lst ((if r.e = true then [] else [i]).map nD)] = _
            rw [he]
            rfl
          have a1 : ((((Fs.enumR R).take (i + 1)).filter fun q => !q.2.e).map (Fs.baseR R.length)).map (smQ T.C_Sum) = ((((Fs.enumR R).take i).filter fun q => !q.2.e).map (Fs.baseR R.length)).map (smQ T.C_Sum) ++ [smQ T.C_Sum (Fs.baseR R.length (i, r))] := by
            rw [e1, List.filter_append, List.filter_cons_of_pos (by show (!r.e) = true; rw [he]; rfl), List.map_append, List.map_append]
            rfl
          have a2 : ((((Fs.enumR R).take (i + 1)).filter fun q => q.2.e).map (Fs.baseR R.length)).map (smQ T.C_Sum) = ((((Fs.enumR R).take i).filter fun q => q.2.e).map (Fs.baseR R.length)).map (smQ T.C_Sum) := by
            rw [e1, List.filter_append, List.filter_cons_of_neg (by show ¬ r.e = true; rw [he]; decide), List.filter_nil, List.append_nil]
          refine ⟨_, rfl, _, rfl, Nat.le_of_ble_eq_true rfl, _, _, _, _, rfl, lt _, y, .d (.int i), .d (rowQ r), .d (.lst (((List.range R.length).map fun k => if k = i then (1 : Rat) else 0).map aQ)), ?_, hy⟩
          rw [a1, a2, e2]
          rfl
      · rintro sl ⟨y, o3, o4, o5, rfl, hy⟩
        rw [enumD_len, hlen]
        exact ⟨Nat.le_of_ble_eq_true rfl, fin⟩
open Fs (Bq Sm Rw CdS CdP EI SzE)
def g_without (T : Tx K mg) (xs : List D) (Q : D → Prop) : Prop := ∃ (n w r : Nat) (s o : Sm) (k : Nat), xs = [smQ T.C_Sum s, smQ T.C_Sum o, .int k] ∧ SmR n w r s ∧ SmR n w r o ∧ 0 < n ∧ 4 * n ≤ 9000 ∧ w ≤ 1000 ∧ r ≤ 1000 ∧ k < w ∧ Fs.gt o.f k ≠ 0 ∧ Q (smQ T.C_Sum (Fs.wo s o k))
theorem ok_without (T : Tx K mg) : FnOk P w K mg base CX0 6 T.f_without T.fd_without ["one", "pivot", "spot"] (spD K W (g_without T)) := by
  refine vfn T.F_without sc_without (fun ds Q h => ?_) ⟨_, fun cdv A outer s H E hr => (vss_cons (vs_if (vt_cmp (op_eqA hr.units) lift_eq (ve_ixA hr.units (ve_fld [T.C_Sum] (fl_factors T) (ve_var 0)) (ve_var 2)) (ve_glob (by rfl) T.c_ZERO T.r_ZERO T.w_ZERO) (nomark _)) (vss_one (vs_ret (ve_var 0))) vss_nil) (vss_one (vs_ret (ve_methD [T.C_Sum] (ve_var 0) (me_with_other T) (ok_Sum_with_other T) (hr.mono (by decide)) T.B_Sum_with_other (va_cons (ve_var 1) (va_cons (ve_call (ok_opposite T) (hr.mono (by decide)) (by rfl) T.g_opposite T.F_opposite.kp T.B_opposite .nil pass0 (fun _ _ => reps_nil) (va_cons (ve_call (ok_over T) (hr.mono (by decide)) (by rfl) T.g_over T.F_over.kp T.B_over .nil pass0 (fun _ _ => reps_nil) (va_cons (ve_ixA hr.units (ve_fld [T.C_Sum] (fl_factors T) (ve_var 0)) (ve_var 2)) (va_cons (ve_ixA hr.units (ve_fld [T.C_Sum] (fl_factors T) (ve_var 1)) (ve_var 2)) va_nil))) va_nil)) va_nil)))))), fun ds Q h => ?_⟩
  · obtain ⟨_, _, _, _, _, _, rfl, _⟩ := h
    rfl
  · obtain ⟨n, w, r, s, o, k, rfl, hs, ho, h0, hN, hw, hr, hk, hz, h⟩ := h
    have g1 : atI (s.f.map aQ) (k : Int) = some (aQ (Fs.gt s.f k)) := atI_nat (aQ_get (by rw [hs.fl]; exact hk))
    have g2 : atI (o.f.map aQ) (k : Int) = some (aQ (Fs.gt o.f k)) := atI_nat (aQ_get (by rw [ho.fl]; exact hk))
    have b1 : Bq n (Fs.gt s.f k) := hs.sz.f _ (by rw [← hs.fl] at hk; exact List.mem_of_getElem? (gt_get hk))
    have b2 : Bq n (Fs.gt o.f k) := ho.sz.f _ (by rw [← ho.fl] at hk; exact List.mem_of_getElem? (gt_get hk))
    unfold Fs.wo at h
    refine ⟨.head _, _, rfl, _, g1, rfl, rfl, ?_⟩
    rw [show eqv (aQ (Fs.gt s.f k)) (.tup [.int 0, .int 1]) = _ from eqv_aQ (Fs.gt s.f k) 0]
    refine vifd (fun z => ?_) (fun z => ?_)
    · rw [if_pos z] at h
      exact h
    · rw [if_neg z] at h
      refine ⟨.head _, rfl, .head _, _, rfl, _, g1, .head _, _, rfl, _, g2, n, n, _, _, rfl, aQ_amt b1, aQ_amt b2, aQ_nz hz, by omega, ?_⟩
      rw [over_aQ _ hz]
      refine ⟨_, _, rfl, ?_⟩
      rw [neg_aQ]
      exact ⟨n, n, n + n, s, o, _, rfl, hs.sz, ho.sz, bq_neg (bq_over b1 b2 hz), h0, by omega, by rw [hs.fl, ho.fl], by rw [hs.ml, ho.ml], by rw [hs.fl]; exact hw, by rw [hs.ml]; exact hr, by have := hs.me; have := ho.me; omega, by rw [hs.ml]; exact hs.mm, by rw [hs.ml]; exact ho.mm, h⟩
def g_pair_of (T : Tx K mg) (xs : List D) (Q : D → Prop) : Prop := ∃ (n w r : Nat) (lo hi : Sm) (k : Nat), xs = [smQ T.C_Sum lo, smQ T.C_Sum hi, .int k] ∧ SmR n w r lo ∧ SmR n w r hi ∧ 0 < n ∧ 4 * n + 10 ≤ 9000 ∧ w ≤ 1000 ∧ r ≤ 1000 ∧ k < w ∧ Fs.gt lo.f k ≠ 0 ∧ Fs.gt hi.f k ≠ 0 ∧ Q (smQ T.C_Sum (Fs.pairR lo hi k))
theorem ok_pair_of (T : Tx K mg) : FnOk P w K mg base CX0 6 T.f_pair_of T.fd_pair_of ["low", "high", "spot"] (spD K W (g_pair_of T)) := by
  refine vfn T.F_pair_of sc_pair_of (fun ds Q h => ?_) ⟨_, fun cdv A outer s H E hr => (vss_one (vs_ret (ve_methD [T.C_Sum] (ve_methD [T.C_Sum] (ve_var 1) (me_scaled T) (ok_Sum_scaled T) (hr.mono (by decide)) T.B_Sum_scaled (va_cons (ve_call (ok_over T) (hr.mono (by decide)) (by rfl) T.g_over T.F_over.kp T.B_over .nil pass0 (fun _ _ => reps_nil) (va_cons (ve_glob (by rfl) T.c_ONE T.r_ONE T.w_ONE) (va_cons (ve_ixA hr.units (ve_fld [T.C_Sum] (fl_factors T) (ve_var 1)) (ve_var 2)) va_nil))) va_nil)) (me_with_other T) (ok_Sum_with_other T) (hr.mono (by decide)) T.B_Sum_with_other (va_cons (ve_var 0) (va_cons (ve_call (ok_over T) (hr.mono (by decide)) (by rfl) T.g_over T.F_over.kp T.B_over .nil pass0 (fun _ _ => reps_nil) (va_cons (ve_glob (by rfl) T.c_ONE T.r_ONE T.w_ONE) (va_cons (ve_call (ok_opposite T) (hr.mono (by decide)) (by rfl) T.g_opposite T.F_opposite.kp T.B_opposite .nil pass0 (fun _ _ => reps_nil) (va_cons (ve_ixA hr.units (ve_fld [T.C_Sum] (fl_factors T) (ve_var 0)) (ve_var 2)) va_nil)) va_nil))) va_nil))))), fun ds Q h => ?_⟩
  · obtain ⟨_, _, _, _, _, _, rfl, _⟩ := h
    rfl
  · obtain ⟨n, w, r, lo, hi, k, rfl, hl, hh, h0, hN, hw, hr, hk, z1, z2, h⟩ := h
    have g1 : atI (lo.f.map aQ) (k : Int) = some (aQ (Fs.gt lo.f k)) := atI_nat (aQ_get (by rw [hl.fl]; exact hk))
    have g2 : atI (hi.f.map aQ) (k : Int) = some (aQ (Fs.gt hi.f k)) := atI_nat (aQ_get (by rw [hh.fl]; exact hk))
    have b1 : Bq n (Fs.gt lo.f k) := hl.sz.f _ (by rw [← hl.fl] at hk; exact List.mem_of_getElem? (gt_get hk))
    have b2 : Bq n (Fs.gt hi.f k) := hh.sz.f _ (by rw [← hh.fl] at hk; exact List.mem_of_getElem? (gt_get hk))
    have z3 : -(Fs.gt lo.f k) ≠ 0 := fun z => z1 (by rw [← Rat.neg_neg (Fs.gt lo.f k), z]; rfl)
    have i2 : Bq (1 + n) (1 / Fs.gt hi.f k) := bq_over (bq1 (n := 0)) b2 z2
    have i1 : Bq (1 + n) (1 / (-(Fs.gt lo.f k))) := bq_over (bq1 (n := 0)) (bq_neg b1) z3
    have ss : Sz (1 + n + n) (hi.scaled (1 / Fs.gt hi.f k)) := by
      refine ⟨bq_times i2 hh.sz.c, fun x hx => ?_, fun x hx => ?_⟩
      · obtain ⟨y, hy, rfl⟩ := List.mem_map.mp hx
        exact bq_times i2 (hh.sz.f y hy)
      · obtain ⟨y, hy, rfl⟩ := List.mem_map.mp hx
        exact bq_times i2 (hh.sz.m y hy)
    have f1 : (hi.scaled (1 / Fs.gt hi.f k)).f.length = w := by show (hi.f.map _).length = w; rw [List.length_map, hh.fl]
    have f2 : (hi.scaled (1 / Fs.gt hi.f k)).m.length = r := by show (hi.m.map _).length = r; rw [List.length_map, hh.ml]
    refine ⟨.head _, rfl, .head _, _, rfl, _, g2, 1, n, _, _, rfl, one_amt, aQ_amt b2, aQ_nz z2, by omega, ?_⟩
    rw [show overD (.tup [.int 1, .int 1]) (aQ (Fs.gt hi.f k)) = aQ (1 / Fs.gt hi.f k) from over_aQ 1 z2]
    refine ⟨n, 1 + n, hi, _, rfl, hh.sz, i2, by omega, ?_⟩
    refine ⟨.head _, rfl, .head _, _, rfl, _, g1, _, _, rfl, ?_⟩
    rw [neg_aQ]
    refine ⟨1, n, _, _, rfl, one_amt, aQ_amt (bq_neg b1), aQ_nz z3, by omega, ?_⟩
    rw [show overD (.tup [.int 1, .int 1]) (aQ (-(Fs.gt lo.f k))) = aQ (1 / (-(Fs.gt lo.f k))) from over_aQ 1 z3]
    exact ⟨1 + n + n, n, 1 + n, _, lo, _, rfl, ss, hl.sz, i1, by omega, by omega, by rw [f1, hl.fl], by rw [f2, hl.ml], by rw [f1]; exact hw, by rw [f2]; exact hr, by have := hl.me; have := hh.me; show hi.mem.length + _ < 64; omega, by rw [f2]; exact hh.mm, by rw [f2]; exact hl.mm, h⟩
open Fs (Bq Sm Rw CdS CdP EI SzE)
def g_removed (T : Tx K mg) (xs : List D) (Q : D → Prop) : Prop := ∃ (n w r : Nat) (S : List Sm) (k d : Nat), xs = [.lst (S.map (smQ T.C_Sum)), .int k, .int d] ∧ (∀ s ∈ S, SmR n w r s) ∧ 0 < n ∧ 4 * n + 10 ≤ 9000 ∧ w ≤ 1000 ∧ r ≤ 1000 ∧ k < w ∧ (Fs.removedR S k d).length < 16000000 ∧ Q (.lst ((Fs.removedR S k d).map (smQ T.C_Sum)))
theorem ok_removed (T : Tx K mg) : FnOk P w K mg base CX0 7 T.f_removed T.fd_removed ["strict", "spot", "done"] (spD K W (g_removed T)) := by
  refine vfn T.F_removed sc_removed (fun ds Q h => ?_) ⟨_, fun cdv A outer s H E hr => (vss_cons (vs_setLcO 3 (own := [("one", 6)]) rfl sc_removed.nd rfl rfl (sw_true rfl rfl rfl (by decide +kernel)) (vi_its (ve_var 0)) (blkOk_by (N := ["strict", "spot", "done", "found", "low", "high", "one", "later"]) (sc := defScope s_removed) (by decide +kernel)) (fun _ _ _ _ _ => (vg_name 6 sc_removed.nd (by decide))) (fun _ _ _ _ _ => (vts_one (vt_cmp (op_eqA hr.units) lift_eq (ve_ixA hr.units (ve_fld [T.C_Sum] (fl_factors T) (ve_var 6)) (ve_var 1)) (ve_glob (by rfl) T.c_ZERO T.r_ZERO T.w_ZERO) (nomark _)))) (fun sB HB CB clB fpB => (ve_var 6))) (vss_cons (vs_for (vs := [4]) PassesOwn.never rfl (vi_its (ve_lc (own := [("one", 6)]) rfl sc_removed.nd (vi_its (ve_var 0)) (blkOk_by (N := ["strict", "spot", "done", "found", "low", "high", "one", "later"]) (sc := defScope s_removed) (by decide +kernel)) (fun _ _ _ _ _ => (vg_name 6 sc_removed.nd (by decide))) (fun _ _ _ _ _ => (vts_one (vt_cmp op_ltA lift_lt (ve_call (ok_sign T) (hr.mono (by decide)) (by rfl) T.g_sign T.F_sign.kp T.B_sign .nil pass0 (fun _ _ => reps_nil) (va_cons (ve_ixA hr.units (ve_fld [T.C_Sum] (fl_factors T) (ve_var 6)) (ve_var 1)) va_nil)) ve_int (nomark _)))) (fun sB HB CB clB fpB => (ve_var 6)))) (vg_name 4 sc_removed.nd (by decide)) (vss_one (vs_for (vs := [5]) PassesOwn.never rfl (vi_its (ve_lc (own := [("one", 6)]) rfl sc_removed.nd (vi_its (ve_var 0)) (blkOk_by (N := ["strict", "spot", "done", "found", "low", "high", "one", "later"]) (sc := defScope s_removed) (by decide +kernel)) (fun _ _ _ _ _ => (vg_name 6 sc_removed.nd (by decide))) (fun _ _ _ _ _ => (vts_one (vt_cmp op_gt lift_iib (ve_call (ok_sign T) (hr.mono (by decide)) (by rfl) T.g_sign T.F_sign.kp T.B_sign .nil pass0 (fun _ _ => reps_nil) (va_cons (ve_ixA hr.units (ve_fld [T.C_Sum] (fl_factors T) (ve_var 6)) (ve_var 1)) va_nil)) ve_int (nomark _)))) (fun sB HB CB clB fpB => (ve_var 6)))) (vg_name 5 sc_removed.nd (by decide)) (vss_cons (vs_set 7 sc_removed.nd (ve_call (ok_pair_of T) (hr.mono (by decide)) (by rfl) T.g_pair_of T.F_pair_of.kp T.B_pair_of .nil pass0 (fun _ _ => reps_nil) (va_cons (ve_var 4) (va_cons (ve_var 5) (va_cons (ve_var 1) va_nil))))) (vss_one (vs_if (vt_cmp op_le lift_iib (ve_callB call_len lift_len (by rfl) T.n_len bt_len (va_cons (ve_fld [T.C_Sum] (fl_members T) (ve_var 7)) va_nil)) (ve_addA (ve_var 2) ve_int) (nomark _)) (vss_one (vs_appB 3 (ve_var 7))) vss_nil)))))) (vss_fz 3 (vss_one (vs_ret (ve_var 3)))))), fun ds Q h => ?_⟩
  · obtain ⟨_, _, _, _, _, _, rfl, _⟩ := h
    rfl
  · obtain ⟨n, w, r, S, k, d, rfl, hS, h0, hN, hw, hr, hk, hl, h⟩ := h
    have gx : ∀ s ∈ S, atI (s.f.map aQ) (k : Int) = some (aQ (Fs.gt s.f k)) := fun s hs => atI_nat (aQ_get (by rw [(hS s hs).fl]; exact hk))
    have z0 : ∀ s : Sm, eqv (aQ (Fs.gt s.f k)) (.tup [.int 0, .int 1]) = decide (Fs.gt s.f k = 0) := fun s => eqv_aQ (Fs.gt s.f k) 0
    refine ⟨Nat.le_of_ble_eq_true rfl, rfl, ?_⟩
    refine lcS (g := smQ T.C_Sum) (fun s => decide (Fs.gt s.f k = 0)) (fun s hs Y N hY hN => ?_) ?_
    · refine ⟨.head _, _, rfl, _, gx s hs, rfl, rfl, ?_⟩
      rw [z0 s]
      refine vifd (fun z => hY (decide_eq_true z)) (fun z => hN (decide_eq_false z))
    refine ⟨rfl, ?_⟩
    refine lcS (g := smQ T.C_Sum) (fun s => decide (Fs.gt s.f k < 0)) (fun s hs Y N hY hN => ?_) ?_
    · refine ⟨.head _, _, rfl, _, gx s hs, _, _, rfl, ?_⟩
      refine vifd (fun z => hY (decide_eq_true (sgI_iff.2.1.mp z))) (fun z => hN (decide_eq_false fun y => z (sgI_iff.2.1.mpr y)))
    refine ⟨fun i sl => ∃ o4 o5 o7, sl = [.d (.lst (S.map (smQ T.C_Sum))), .d (.int k), .d (.int d), .ml ((Fs.zers S k ++ ((Fs.negs S k).take i).flatMap fun lo => Fs.rowR lo (Fs.poss S k) k d).map (smQ T.C_Sum)), o4, o5, .un, o7], ⟨_, _, _, by rw [List.take_zero, List.flatMap_nil, List.append_nil]; rfl⟩, ?_, ?_⟩
    · rintro i d0 sl hd ⟨o4, o5, o7, rfl⟩
      obtain ⟨lo, hlo, rfl⟩ := mapQ_get (show ((Fs.negs S k).map (smQ T.C_Sum))[i]? = some d0 from hd)
      obtain ⟨lS, l0⟩ := List.mem_filter.mp (List.mem_of_getElem? hlo)
      have l0 := of_decide_eq_true l0
      refine ⟨rfl, ?_⟩
      refine lcS (g := smQ T.C_Sum) (fun s => decide (0 < Fs.gt s.f k)) (fun s hs Y N hY hN => ?_) ?_
      · refine ⟨.head _, _, rfl, _, gx s hs, _, _, rfl, ?_⟩
        refine vifd (fun z => hY (decide_eq_true (sgI_iff.1.mp z))) (fun z => hN (decide_eq_false fun y => z (sgI_iff.1.mpr y)))
      refine ⟨fun j sl => ∃ o5 o7, sl = [.d (.lst (S.map (smQ T.C_Sum))), .d (.int k), .d (.int d), .ml ((Fs.zers S k ++ ((Fs.negs S k).take i).flatMap (fun lo => Fs.rowR lo (Fs.poss S k) k d) ++ Fs.rowR lo ((Fs.poss S k).take j) k d).map (smQ T.C_Sum)), .d (smQ T.C_Sum lo), o5, .un, o7], ⟨_, _, by rw [List.take_zero, show Fs.rowR lo [] k d = [] from rfl, List.append_nil]; rfl⟩, ?_, ?_⟩
      · rintro j d1 sl hd1 ⟨o5, o7, rfl⟩
        obtain ⟨hi, hhi, rfl⟩ := mapQ_get (show ((Fs.poss S k).map (smQ T.C_Sum))[j]? = some d1 from hd1)
        obtain ⟨hS', h0'⟩ := List.mem_filter.mp (List.mem_of_getElem? hhi)
        have h0' := of_decide_eq_true h0'
        have nx := part_len (d := d) (j := j) hlo
        refine ⟨n, w, r, lo, hi, k, rfl, hS lo lS, hS hi hS', h0, hN, hw, hr, hk, (fun z => by rw [z] at l0; exact absurd l0 (by decide)), (fun z => by rw [z] at h0'; exact absurd h0' (by decide)), ?_⟩
        dsimp only [List.set]
        have e1 : Fs.rowR lo ((Fs.poss S k).take (j + 1)) k d = Fs.rowR lo ((Fs.poss S k).take j) k d ++ if (Fs.pairR lo hi k).mem.length ≤ d + 2 then [Fs.pairR lo hi k] else [] := by
          rw [take_one hhi, row_one]
        refine ⟨.head _, _, rfl, ?_⟩
        refine vifd (fun z => ?_) (fun z => ?_)
        · have z : ((((Fs.pairR lo hi k).mem.map nD).length : Nat) : Int) ≤ (d : Int) + 2 := z
          rw [List.length_map] at z
          rw [if_pos (by omega)] at e1
          refine ⟨by rw [List.length_map]; omega, .d (smQ T.C_Sum hi), .d (smQ T.C_Sum (Fs.pairR lo hi k)), ?_⟩
          rw [e1, ← List.append_assoc, List.map_append (l₂ := [Fs.pairR lo hi k])]
          rfl
        · have z : ¬ ((((Fs.pairR lo hi k).mem.map nD).length : Nat) : Int) ≤ (d : Int) + 2 := z
          rw [List.length_map] at z
          rw [if_neg (by omega), List.append_nil] at e1
          refine ⟨.d (smQ T.C_Sum hi), .d (smQ T.C_Sum (Fs.pairR lo hi k)), ?_⟩
          rw [e1]
      · rintro sl ⟨o5, o7, rfl⟩
        rw [List.length_map, show (S.filter fun s => decide (0 < Fs.gt s.f k)) = Fs.poss S k from rfl, List.take_length]
        refine ⟨.d (smQ T.C_Sum lo), o5, o7, ?_⟩
        rw [take_one hlo, List.flatMap_append, List.flatMap_singleton, ← List.append_assoc]
    · rintro sl ⟨o4, o5, o7, rfl⟩
      rw [List.length_map, show (S.filter fun s => decide (Fs.gt s.f k < 0)) = Fs.negs S k from rfl, List.take_length]
      exact h
open Fs (Bq Sm Rw CdS CdP EI SzE)
def oQ : Option Rat → D
  | none => .non
  | some x => aQ x
def g_between (T : Tx K mg) (xs : List D) (Q : D → Prop) : Prop := ∃ (b κ w : Nat) (S : List Sm) (k : Nat) (p : List Rat), xs = [.lst (S.map (smQ T.C_Sum)), .int k, .lst (p.map aQ)] ∧ (∀ s ∈ S, CdS b s ∧ s.f.length = w) ∧ CdP κ p ∧ p.length = w ∧ w ≤ 14 ∧ k < w ∧ 6 * (b + κ) + 20 ≤ 9000 ∧ Q (aQ (Fs.betweenR S k p))
theorem ok_between (T : Tx K mg) : FnOk P w K mg base CX0 7 T.f_between T.fd_between ["strict", "spot", "point"] (spD K W (g_between T)) := by
  refine vfn T.F_between sc_between (fun ds Q h => ?_) ⟨_, fun cdv A outer s H E hr => (vss_cons (vs_asg (vs := [4, 5]) (ve_tup (va_cons ve_non (va_cons ve_non va_nil))) (vg_tup (n := 2) rfl (vgs_cons (vg_name 4 sc_between.nd (by decide)) (vgs_cons (vg_name 5 sc_between.nd (by decide)) vgs_nil)))) (vss_cons (vs_for (vs := [3]) PassesOwn.never rfl (vi_its (ve_var 0)) (vg_name 3 sc_between.nd (by decide)) (vss_cons (vs_set 6 sc_between.nd (ve_ixA hr.units (ve_fld [T.C_Sum] (fl_factors T) (ve_var 3)) (ve_var 1))) (vss_one (vs_if (vt_cmp (op_neA hr.units) lift_ne (ve_var 6) (ve_glob (by rfl) T.c_ZERO T.r_ZERO T.w_ZERO) (nomark _)) (vss_cons (vs_set 7 sc_between.nd (ve_call (ok_opposite T) (hr.mono (by decide)) (by rfl) T.g_opposite T.F_opposite.kp T.B_opposite .nil pass0 (fun _ _ => reps_nil) (va_cons (ve_call (ok_over T) (hr.mono (by decide)) (by rfl) T.g_over T.F_over.kp T.B_over .nil pass0 (fun _ _ => reps_nil) (va_cons (ve_call (ok_minus T) (hr.mono (by decide)) (by rfl) T.g_minus T.F_minus.kp T.B_minus .nil pass0 (fun _ _ => reps_nil) (va_cons (ve_methD [T.C_Sum] (ve_var 3) (me_value T) (ok_Sum_value T) (hr.mono (by decide)) T.B_Sum_value (va_cons (ve_var 2) va_nil)) (va_cons (ve_call (ok_times T) (hr.mono (by decide)) (by rfl) T.g_times T.F_times.kp T.B_times .nil pass0 (fun _ _ => reps_nil) (va_cons (ve_var 6) (va_cons (ve_ixA hr.units (ve_var 2) (ve_var 1)) va_nil))) va_nil))) (va_cons (ve_var 6) va_nil))) va_nil))) (vss_cons (vs_if (vt_w (vw_and (vt_cmp op_gt lift_iib (ve_call (ok_sign T) (hr.mono (by decide)) (by rfl) T.g_sign T.F_sign.kp T.B_sign .nil pass0 (fun _ _ => reps_nil) (va_cons (ve_var 6) va_nil)) ve_int (nomark _)) (vw_and1 (vt_w (vw_or (vt_cmp op_isN lift_isN (ve_var 5) ve_non (nomark _)) (vw_or1 (vt_cmp op_ltA lift_lt (ve_call (ok_sign T) (hr.mono (by decide)) (by rfl) T.g_sign T.F_sign.kp T.B_sign .nil pass0 (fun _ _ => reps_nil) (va_cons (ve_call (ok_minus T) (hr.mono (by decide)) (by rfl) T.g_minus T.F_minus.kp T.B_minus .nil pass0 (fun _ _ => reps_nil) (va_cons (ve_var 7) (va_cons (ve_var 5) va_nil))) va_nil)) ve_int (nomark _)))))))) (vss_one (vs_set 5 sc_between.nd (ve_var 7))) vss_nil) (vss_one (vs_if (vt_w (vw_and (vt_cmp op_ltA lift_lt (ve_call (ok_sign T) (hr.mono (by decide)) (by rfl) T.g_sign T.F_sign.kp T.B_sign .nil pass0 (fun _ _ => reps_nil) (va_cons (ve_var 6) va_nil)) ve_int (nomark _)) (vw_and1 (vt_w (vw_or (vt_cmp op_isN lift_isN (ve_var 4) ve_non (nomark _)) (vw_or1 (vt_cmp op_gt lift_iib (ve_call (ok_sign T) (hr.mono (by decide)) (by rfl) T.g_sign T.F_sign.kp T.B_sign .nil pass0 (fun _ _ => reps_nil) (va_cons (ve_call (ok_minus T) (hr.mono (by decide)) (by rfl) T.g_minus T.F_minus.kp T.B_minus .nil pass0 (fun _ _ => reps_nil) (va_cons (ve_var 7) (va_cons (ve_var 4) va_nil))) va_nil)) ve_int (nomark _)))))))) (vss_one (vs_set 4 sc_between.nd (ve_var 7))) vss_nil)))) vss_nil)))) (vss_cons (vs_if (vt_w (vw_and (vt_cmp op_isN lift_isN (ve_var 4) ve_non (nomark _)) (vw_and1 (vt_cmp op_isN lift_isN (ve_var 5) ve_non (nomark _))))) (vss_one (vs_ret (ve_glob (by rfl) T.c_ZERO T.r_ZERO T.w_ZERO))) vss_nil) (vss_cons (vs_if (vt_w (vw_or (vt_cmp op_isN lift_isN (ve_var 4) ve_non (nomark _)) (vw_or1 (vt_cmp op_isN lift_isN (ve_var 5) ve_non (nomark _))))) (vss_one (vs_ret (ve_if (vt_cmp op_isN lift_isN (ve_var 4) ve_non (nomark _)) (ve_call (ok_minus T) (hr.mono (by decide)) (by rfl) T.g_minus T.F_minus.kp T.B_minus .nil pass0 (fun _ _ => reps_nil) (va_cons (ve_var 5) (va_cons (ve_glob (by rfl) T.c_ONE T.r_ONE T.w_ONE) va_nil))) (ve_call (ok_plus T) (hr.mono (by decide)) (by rfl) T.g_plus T.F_plus.kp T.B_plus .nil pass0 (fun _ _ => reps_nil) (va_cons (ve_var 4) (va_cons (ve_glob (by rfl) T.c_ONE T.r_ONE T.w_ONE) va_nil)))))) vss_nil) (vss_one (vs_ret (ve_call (ok_times T) (hr.mono (by decide)) (by rfl) T.g_times T.F_times.kp T.B_times .nil pass0 (fun _ _ => reps_nil) (va_cons (ve_glob (by rfl) T.c_HALF T.r_HALF T.w_HALF) (va_cons (ve_call (ok_plus T) (hr.mono (by decide)) (by rfl) T.g_plus T.F_plus.kp T.B_plus .nil pass0 (fun _ _ => reps_nil) (va_cons (ve_var 4) (va_cons (ve_var 5) va_nil))) va_nil))))))))), fun ds Q h => ?_⟩
  · obtain ⟨_, _, _, _, _, _, rfl, _⟩ := h
    rfl
  · obtain ⟨b, κ, w, S, k, p, rfl, hS, hp, hpl, hw, hk, hN, h⟩ := h
    have gp : atI (p.map aQ) (k : Int) = some (aQ (Fs.gt p k)) := atI_nat (aQ_get (by rw [hpl]; exact hk))
    have bb : ∀ s ∈ S, Fs.gt s.f k ≠ 0 → Bq (3 * (b + κ) + 5) (Fs.bndR s k p) := fun s hs hz => by
      have h1 : Bq (b + κ + 4) (s.v p) := by
        have := Fs.part_bq (hS s hs).1 hp (by rw [(hS s hs).2]; exact hw) (List.zip s.f p).length
        rw [List.take_length] at this
        exact this
      exact (bq_neg (bq_over (bq_minus h1 (bq_times ((hS s hs).1.bf k) (hp.b k))) ((hS s hs).1.bf k) hz)).mono (by omega)
    refine ⟨Nat.le_of_ble_eq_true rfl, rfl, fun i sl => ∃ (lo hi : Option Rat) (o3 o6 o7 : Sl), sl = [.d (.lst (S.map (smQ T.C_Sum))), .d (.int k), .d (.lst (p.map aQ)), o3, .d (oQ lo), .d (oQ hi), o6, o7] ∧ (S.take i).foldl (Fs.btwS k p) (none, none) = (lo, hi) ∧ (∀ x, lo = some x → Bq (3 * (b + κ) + 5) x) ∧ ∀ x, hi = some x → Bq (3 * (b + κ) + 5) x, ⟨none, none, _, _, _, rfl, rfl, fun _ z => (by cases z), fun _ z => (by cases z)⟩, ?_, ?_⟩
    · rintro i d0 sl hd ⟨lo, hi, o3, o6, o7, rfl, hf, hlo, hhi⟩
      obtain ⟨s, hs, rfl⟩ := mapQ_get hd
      have sS := List.mem_of_getElem? hs
      obtain ⟨cs, fl⟩ := hS s sS
      have g1 : atI (s.f.map aQ) (k : Int) = some (aQ (Fs.gt s.f k)) := atI_nat (aQ_get (by rw [fl]; exact hk))
      have f1 : (S.take (i + 1)).foldl (Fs.btwS k p) (none, none) = Fs.btwS k p (lo, hi) s := by
        rw [take_one hs, List.foldl_append, hf]
        rfl
      have z0 : eqv (aQ (Fs.gt s.f k)) (.tup [.int 0, .int 1]) = decide (Fs.gt s.f k = 0) := eqv_aQ (Fs.gt s.f k) 0
      refine ⟨.head _, _, rfl, _, g1, rfl, rfl, ?_⟩
      rw [z0]
      refine vifn (fun z => ?_) (fun z => ?_)
      · have h1 : Bq (b + κ + 4) (s.v p) := by
          have := Fs.part_bq cs hp (by rw [fl]; exact hw) (List.zip s.f p).length
          rw [List.take_length] at this
          exact this
        have h2 := bq_times (cs.bf k) (hp.b k)
        have h3 := bq_minus h1 h2
        refine ⟨.head _, rfl, b, κ, s, p, _, rfl, .inr rfl, cs, hp, by rw [fl]; exact hw, by omega, ?_⟩
        refine ⟨_, gp, b, κ, _, _, rfl, aQ_amt (cs.bf k), aQ_amt (hp.b k), by omega, ?_⟩
        rw [times_aQ]
        refine ⟨b + κ + 4, b + κ, _, _, rfl, aQ_amt h1, aQ_amt h2, by omega, ?_⟩
        rw [minus_aQ]
        refine ⟨b + κ + 4 + (b + κ) + 1, b, _, _, rfl, aQ_amt h3, aQ_amt (cs.bf k), aQ_nz z, by omega, ?_⟩
        rw [over_aQ _ z]
        refine ⟨_, _, rfl, ?_⟩
        rw [neg_aQ, show -((s.v p - Fs.gt s.f k * Fs.gt p k) / Fs.gt s.f k) = Fs.bndR s k p from rfl]
        dsimp only [List.set]
        have bM := bb s sS z
        refine ⟨_, _, rfl, ?_⟩
        refine vifd (fun fz => ?_) (fun fz => ?_)
        · have fz := sgI_iff.1.mp fz
          cases hi with
          | none =>
            refine ⟨_, _, rfl, ?_⟩
            refine vifd (fun y => absurd (sgI_iff.2.1.mp y) (by grind)) (fun _ => ?_)
            exact ⟨lo, some (Fs.bndR s k p), _, _, _, rfl, by rw [f1, btw_h0 fz], hlo, fun x hx => by cases hx; exact bM⟩
          | some y =>
            refine ⟨3 * (b + κ) + 5, 3 * (b + κ) + 5, _, _, rfl, aQ_amt bM, aQ_amt (hhi y rfl), by omega, (Fs.bndR s k p - y).num, .int ((Fs.bndR s k p - y).den : Int), congrArg (fun d => [d]) (minus_aQ _ _), ?_⟩
            refine vifd (fun c => ?_) (fun c => ?_)
            · have c := sgI_iff.2.1.mp c
              refine ⟨_, _, rfl, ?_⟩
              refine vifd (fun y => absurd (sgI_iff.2.1.mp y) (by grind)) (fun _ => ?_)
              exact ⟨lo, some (Fs.bndR s k p), _, _, _, rfl, by rw [f1, btw_h1 fz c], hlo, fun x hx => by cases hx; exact bM⟩
            · have c : ¬ Fs.bndR s k p - y < 0 := fun q => c (sgI_iff.2.1.mpr q)
              refine ⟨_, _, rfl, ?_⟩
              refine vifd (fun y => absurd (sgI_iff.2.1.mp y) (by grind)) (fun _ => ?_)
              exact ⟨lo, some y, _, _, _, rfl, by rw [f1, btw_h2 fz c], hlo, hhi⟩
        · have fz : ¬ 0 < Fs.gt s.f k := fun q => fz (sgI_iff.1.mpr q)
          have fn : Fs.gt s.f k < 0 := by grind
          refine ⟨_, _, rfl, ?_⟩
          refine vifd (fun _ => ?_) (fun y => absurd (sgI_iff.2.1.mpr fn) y)
          cases lo with
          | none => exact ⟨some (Fs.bndR s k p), hi, _, _, _, rfl, by rw [f1, btw_l0 fn], fun x hx => (by cases hx; exact bM), hhi⟩
          | some y =>
            refine ⟨3 * (b + κ) + 5, 3 * (b + κ) + 5, _, _, rfl, aQ_amt bM, aQ_amt (hlo y rfl), by omega, (Fs.bndR s k p - y).num, .int ((Fs.bndR s k p - y).den : Int), congrArg (fun d => [d]) (minus_aQ _ _), ?_⟩
            refine vifd (fun c => ?_) (fun c => ?_)
            · have c := sgI_iff.1.mp c
              exact ⟨some (Fs.bndR s k p), hi, _, _, _, rfl, by rw [f1, btw_l1 fn c], fun x hx => (by cases hx; exact bM), hhi⟩
            · have c : ¬ 0 < Fs.bndR s k p - y := fun q => c (sgI_iff.1.mpr q)
              exact ⟨some y, hi, _, _, _, rfl, by rw [f1, btw_l2 fn c], hlo, hhi⟩
      · have e : Fs.btwS k p (lo, hi) s = (lo, hi) := by
          unfold Fs.btwS
          rw [if_pos z]
        exact ⟨lo, hi, _, _, _, rfl, by rw [f1, e], hlo, hhi⟩
    · rintro sl ⟨lo, hi, o3, o6, o7, rfl, hf, hlo, hhi⟩
      rw [List.length_map, List.take_length] at hf
      unfold Fs.betweenR at h
      rw [hf] at h
      cases lo with
      | none =>
        cases hi with
        | none => exact h
        | some y =>
          refine ⟨3 * (b + κ) + 5, 1, _, _, rfl, aQ_amt (hhi y rfl), one_amt, by omega, ?_⟩
          rw [show minusD (oQ (some y)) (.tup [.int 1, .int 1]) = aQ (y - 1) from minus_aQ y 1]
          exact h
      | some x =>
        cases hi with
        | none =>
          refine ⟨3 * (b + κ) + 5, 1, _, _, rfl, aQ_amt (hlo x rfl), one_amt, by omega, ?_⟩
          rw [show plusD (oQ (some x)) (.tup [.int 1, .int 1]) = aQ (x + 1) from plus_aQ x 1]
          exact h
        | some y =>
          have hh : AmtD 2 (.tup [.int 1, .int 2]) := ⟨1, 2, rfl, by decide, by decide, by decide, by decide⟩
          refine ⟨3 * (b + κ) + 5, 3 * (b + κ) + 5, _, _, rfl, aQ_amt (hlo x rfl), aQ_amt (hhi y rfl), by omega, ?_⟩
          rw [show plusD (oQ (some x)) (oQ (some y)) = aQ (x + y) from plus_aQ x y]
          refine ⟨2, 3 * (b + κ) + 5 + (3 * (b + κ) + 5) + 1, _, _, rfl, hh, aQ_amt (bq_plus (hlo x rfl) (hhi y rfl)), by omega, ?_⟩
          rw [show timesD (.tup [.int 1, .int 2]) (aQ (x + y)) = aQ (1 / 2 * (x + y)) by rw [← aQ_half]; exact times_aQ (1 / 2) (x + y)]
          exact h
open Fs (Bq Sm Rw CdS CdP EI SzE)
def pvQ (C : Addr) (q : Nat × Sm) : D := .tup [.int (q.1 : Int), smQ C q.2]
def badQ : Option (List Rat) → D
  | none => .non
  | some m => .lst (m.map aQ)
structure RowsOk (R : List Rw) (w b : Nat) : Prop where
  pos : 0 < b
  wd : ∀ r ∈ R, r.f.length = w
  n : R.length ≤ 31
  w14 : w ≤ 14
  cd : ∀ i, i < R.length → CdS b (Fs.baseR R.length (i, Fs.rowA R i))
  sz : 6 * (Fs.bt b w + 1 + Fs.tt b w) + 20 ≤ 9000
theorem RowsOk.init {R : List Rw} {w b : Nat} (h : RowsOk R w b) : SzE b [] (Fs.eqs R) (Fs.lts R) := by
  refine ⟨fun s hs => ?_, fun s hs => ?_, fun i q hq => by simp at hq⟩
  · obtain ⟨i, hi, _, rfl⟩ := Fs.eqs_mem hs
    exact h.cd i hi
  · rw [Fs.lts_eq] at hs
    obtain ⟨i, hi, rfl⟩ := List.mem_map.mp hs
    exact h.cd i (Fs.us_mem.mp hi).1
theorem smr_of {R : List Rw} {w N : Nat} {s : Sm} (c : Fs.Cb R w s) (hd : CdS N s) (hm : s.mem = [] ∨ ∃ i, i < R.length ∧ s.mem = [i]) : SmR N w R.length s := by
  refine ⟨sz_of hd, c.fl, c.ml, fun i hi => ?_, ?_⟩
  · rcases hm with e | ⟨j, hj, e⟩
    · rw [e] at hi; cases hi
    · rw [e] at hi
      rw [List.mem_singleton.mp hi]
      exact hj
  · rcases hm with e | ⟨j, hj, e⟩
    · rw [e]; exact Nat.zero_le _
    · rw [e]; show 1 ≤ 31; decide
def g_solve_equal (T : Tx K mg) (xs : List D) (Q : D → Prop) : Prop := ∃ (R : List Rw) (w b : Nat), xs = [.lst ((Fs.eqs R).map (smQ T.C_Sum)), .lst ((Fs.lts R).map (smQ T.C_Sum))] ∧ RowsOk R w b ∧ Q (.tup [.lst ((Fs.solveEq R.length [] (Fs.eqs R) (Fs.lts R)).1.map (pvQ T.C_Sum)), .lst ((Fs.solveEq R.length [] (Fs.eqs R) (Fs.lts R)).2.1.map (smQ T.C_Sum)), badQ (Fs.solveEq R.length [] (Fs.eqs R) (Fs.lts R)).2.2])
theorem ok_solve_equal (T : Tx K mg) : FnOk P w K mg base CX0 7 T.f_solve_equal T.fd_solve_equal ["equal", "strict"] (spD K W (g_solve_equal T)) := by
  refine vfn T.F_solve_equal sc_solve_equal (fun ds Q h => ?_) ⟨_, fun cdv A outer s H E hr => (vss_cons (vs_parNil 2 3 rfl sc_solve_equal.nd (by decide) (ve_callTy (cr_listA (by rfl)) lift_listA (by rfl) T.n_list bt_list (va_cons (ve_var 0) va_nil))) (vss_cons (vs_while PassesOwn.never (vt_cmp (op_neN hr.units) lift_neN (ve_var 3) (ve_lst va_nil) (nomark _)) (vss_cons (vs_asgStar (vs := [5, 7]) (n := 2) (i := 1) rfl (ve_var 3) (vgs_cons (vg_name 5 sc_solve_equal.nd (by decide)) (vgs_star (vg_name 7 sc_solve_equal.nd (by decide)) vgs_nil))) (vss_cons (vs_setLc 4 (own := [("spot", 6), ("factor", 8)]) rfl sc_solve_equal.nd rfl rfl (sw_true rfl rfl rfl (by decide +kernel)) (vi_enum (by rfl) T.n_enumerate (ve_fld [T.C_Sum] (fl_factors T) (ve_var 5))) (blkOk_by (N := ["equal", "strict", "pivots", "left", "spots", "one", "spot", "rest", "factor", "other"]) (sc := defScope s_solve_equal) (by decide +kernel)) (fun _ _ _ _ _ => (vg_tup (n := 2) rfl (vgs_cons (vg_name 6 sc_solve_equal.nd (by decide)) (vgs_cons (vg_name 8 sc_solve_equal.nd (by decide)) vgs_nil)))) (fun _ _ _ _ _ => (vts_one (vt_cmp (op_neA hr.units) lift_ne (ve_var 8) (ve_glob (by rfl) T.c_ZERO T.r_ZERO T.w_ZERO) (nomark _)))) (fun sB HB CB clB fpB => (ve_var 6))) (vss_one (vs_if (vt_cmp (op_eqA hr.units) lift_eq (ve_var 4) (ve_lst va_nil) (nomark _)) (vss_cons (vs_if (vt_cmp (op_neA hr.units) lift_ne (ve_fld [T.C_Sum] (fl_constant T) (ve_var 5)) (ve_glob (by rfl) T.c_ZERO T.r_ZERO T.w_ZERO) (nomark _)) (vss_fz 2 (vss_one (vs_ret (ve_tup (va_cons (ve_var 2) (va_cons (ve_var 1) (va_cons (ve_fld [T.C_Sum] (fl_multipliers T) (ve_methD [T.C_Sum] (ve_var 5) (me_scaled T) (ok_Sum_scaled T) (hr.mono (by decide)) T.B_Sum_scaled (va_cons (ve_tup (va_cons (ve_call (ok_sign T) (hr.mono (by decide)) (by rfl) T.g_sign T.F_sign.kp T.B_sign .nil pass0 (fun _ _ => reps_nil) (va_cons (ve_fld [T.C_Sum] (fl_constant T) (ve_var 5)) va_nil)) (va_cons ve_int va_nil))) va_nil))) va_nil))))))) vss_nil) (vss_one (vs_set 3 sc_solve_equal.nd (ve_var 7)))) (vss_cons (vs_set 6 sc_solve_equal.nd (ve_ixA hr.units (ve_var 4) ve_int)) (vss_cons (vs_setLc 3 (own := [("other", 9)]) rfl sc_solve_equal.nd rfl rfl (sw_true rfl rfl rfl (by decide +kernel)) (vi_its (ve_var 7)) (blkOk_by (N := ["equal", "strict", "pivots", "left", "spots", "one", "spot", "rest", "factor", "other"]) (sc := defScope s_solve_equal) (by decide +kernel)) (fun _ _ _ _ _ => (vg_name 9 sc_solve_equal.nd (by decide))) (fun _ _ _ _ _ => vts_nil) (fun sB HB CB clB fpB => (ve_call (ok_without T) (hr.mono (by decide)) (by rfl) T.g_without T.F_without.kp T.B_without .nil pass0 (fun _ _ => reps_nil) (va_cons (ve_var 9) (va_cons (ve_var 5) (va_cons (ve_var 6) va_nil)))))) (vss_cons (vs_setLc 1 (own := [("other", 9)]) rfl sc_solve_equal.nd rfl rfl (sw_true rfl rfl rfl (by decide +kernel)) (vi_its (ve_var 1)) (blkOk_by (N := ["equal", "strict", "pivots", "left", "spots", "one", "spot", "rest", "factor", "other"]) (sc := defScope s_solve_equal) (by decide +kernel)) (fun _ _ _ _ _ => (vg_name 9 sc_solve_equal.nd (by decide))) (fun _ _ _ _ _ => vts_nil) (fun sB HB CB clB fpB => (ve_call (ok_without T) (hr.mono (by decide)) (by rfl) T.g_without T.F_without.kp T.B_without .nil pass0 (fun _ _ => reps_nil) (va_cons (ve_var 9) (va_cons (ve_var 5) (va_cons (ve_var 6) va_nil)))))) (vss_one (vs_app 2 (ve_tup (va_cons (ve_var 6) (va_cons (ve_var 5) va_nil))))))))))))) (vss_fz 2 (vss_one (vs_ret (ve_tup (va_cons (ve_var 2) (va_cons (ve_var 1) (va_cons ve_non va_nil))))))))), fun ds Q h => ?_⟩
  · obtain ⟨_, _, _, rfl, _⟩ := h
    rfl
  · obtain ⟨R, w, b, rfl, RO, h⟩ := h
    have bp : 0 < Fs.bt b w := by
      have := Fs.bt_le (b := b) (Nat.zero_le w)
      have : b ≤ Fs.bt b w := this
      have := RO.pos
      omega
    have bw := RO.sz
    have w14 := RO.w14
    have n31 := RO.n
    have hl0 : (Fs.eqs R).length ≤ R.length := by
      unfold Fs.eqs Fs.enumR
      rw [List.length_map]
      refine Nat.le_trans (List.length_filter_le _ _) ?_
      rw [List.length_map, List.length_range]
      exact Nat.le_refl _
    refine ⟨Nat.le_of_ble_eq_true rfl, ?_⟩
    refine ⟨fun m sl => ∃ (piv : List (Nat × Sm)) (left S : List Sm) (g : Nat → Sm) (k : Nat) (o4 o5 o6 o7 : Sl), sl = [.d (.lst ((Fs.eqs R).map (smQ T.C_Sum))), .d (.lst (S.map (smQ T.C_Sum))), .ml (piv.map (pvQ T.C_Sum)), .d (.lst (left.map (smQ T.C_Sum))), o4, o5, o6, o7, .un, .un] ∧ o6.pl ∧ m = left.length ∧ left.length ≤ k ∧ k ≤ R.length ∧ EI R w piv left S g ∧ SzE b piv left S ∧ Fs.solveEq k piv left S = Fs.solveEq R.length [] (Fs.eqs R) (Fs.lts R),
      ⟨_, [], Fs.eqs R, Fs.lts R, _, R.length, _, _, _, _, rfl, trivial, rfl, hl0, Nat.le_refl _, EI.init RO.wd, RO.init, rfl⟩, ?_⟩
    rintro m sl ⟨piv, left, S, g, k, o4, o5, o6, o7, rfl, p6, rfl, hk, hkR, hI, hZ, hE⟩
    have pl := (hI.plen).2
    have up := Fs.bt_le (b := b) pl
    cases left with
    | nil =>
      rw [seq_nil] at hE
      rw [← hE] at h
      refine ⟨Nat.le_of_ble_eq_true rfl, rfl, rfl, ?_⟩
      exact ⟨Nat.le_of_ble_eq_true rfl, h⟩
    | cons s r =>
      obtain ⟨k, rfl⟩ : ∃ k', k = k' + 1 := ⟨k - 1, by rw [List.length_cons] at hk; omega⟩
      obtain ⟨c1, m1, z1, f1⟩ := hI.gl s (.head _)
      have cd1 := (hZ.l s (.head _)).mono up
      have sR : SmR (Fs.bt b w) w R.length s := smr_of c1 cd1 (.inl m1)
      refine ⟨Nat.le_of_ble_eq_true rfl, ?_⟩
      have lf : ∀ i ∈ List.range s.f.length, i < s.f.length := fun i hi => List.mem_range.mp hi
      have fl1 := c1.fl
      rw [List.length_cons] at hk
      refine neN_cons (x := smQ T.C_Sum s) (xs := r.map (smQ T.C_Sum)) ?_
      dsimp only [asBl]
      rw [if_pos rfl]
      refine seq_star (i := 3) (x := smQ T.C_Sum s) (xs := r.map (smQ T.C_Sum)) rfl (by rw [List.length_map]; omega) ?_
      refine ⟨by rcases sl_pl p6 with rfl | ⟨x, rfl⟩ <;> rfl, .head _, _, rfl, by rw [List.length_map]; omega, ?_⟩
      rw [enum_q]
      refine lcSF (g := fun i => D.tup [nD i, aQ (Fs.gt s.f i)]) (fun i => decide (Fs.gt s.f i ≠ 0)) nD (fun i hi Y N hY hN => ?_) ?_
      · refine ⟨rfl, rfl, rfl, ?_⟩
        rw [show eqv (aQ (Fs.gt s.f i)) (.tup [.int 0, .int 1]) = decide (Fs.gt s.f i = 0) from eqv_aQ _ 0]
        refine vifn (fun z => hY (decide_eq_true z)) (fun z => hN (decide_eq_false fun y => y z))
      have lay : ∀ l : List Nat, shp (.lst (l.map nD)) = true := fun l => shp_lst fun x hx => by
        obtain ⟨i, _, rfl⟩ := List.mem_map.mp hx
        exact ⟨rfl, by show 0 ≤ 60; decide⟩
      have hh := spot_head s.f
      generalize hsp : (List.range s.f.length).filter (fun k => decide (Fs.gt s.f k ≠ 0)) = sp at hh
      dsimp only [List.set]
      cases sp with
      | nil =>
        have hn : Fs.spotR s.f = none := hh.symm
        refine ⟨Nat.le_of_ble_eq_true rfl, rfl, rfl, ?_⟩
        refine ⟨.head _, _, rfl, rfl, rfl, ?_⟩
        rw [show eqv (aQ s.c) (.tup [.int 0, .int 1]) = decide (s.c = 0) from eqv_aQ _ 0]
        refine vifn (fun hc => ?_) (fun hc => ?_)
        · rw [seq_bad hn hc] at hE
          rw [← hE] at h
          exact ⟨.head _, rfl, .head _, _, rfl, _, _, rfl, Nat.le_of_ble_eq_true rfl, Fs.bt b w, 1, s, Fs.sgR s.c, congrArg (fun d => [smQ T.C_Sum s, d]) (sg_aQ s.c), sR.sz, bq_sg _, by omega, .head _, _, rfl, Nat.le_of_ble_eq_true rfl, h⟩
        · rw [seq_zero hn hc] at hE
          exact ⟨r.length, by rw [List.length_cons]; omega, piv, r, S, g, k, _, _, _, _, rfl, p6, rfl, by omega, by omega, hI.zero hn hc, hZ.zero, hE⟩
      | cons k0 sp =>
        have hn : Fs.spotR s.f = some k0 := hh.symm
        obtain ⟨kl, kz⟩ := Fs.spot_some hn
        have kw : k0 < w := by rw [← fl1]; exact kl
        rw [seq_pivot hn] at hE
        have hI2 := hI.pivot hn
        have hZ2 := hZ.pivot hI hn
        refine ⟨Nat.le_of_ble_eq_true rfl, lay _, rfl, ?_⟩
        refine ⟨nD k0, atI_nat (j := 0) (by rw [List.map_cons]; rfl), ?_⟩
        dsimp only [List.set]
        refine ⟨rfl, ?_⟩
        refine lcG (g := smQ T.C_Sum) (fun o => smQ T.C_Sum (Fs.wo o s k0)) (fun o ho P hP => ?_) ?_
        · obtain ⟨c2, m2, _, _⟩ := hI.gl o (.tail _ ho)
          exact ⟨Fs.bt b w, w, R.length, o, s, k0, rfl, smr_of c2 ((hZ.l o (.tail _ ho)).mono up) (.inl m2), sR, bp, by omega, by omega, by omega, kw, kz, hP⟩
        dsimp only [List.set]
        refine ⟨rfl, ?_⟩
        refine lcG (g := smQ T.C_Sum) (fun o => smQ T.C_Sum (Fs.wo o s k0)) (fun o ho P hP => ?_) ?_
        · have ho2 := ho
          rw [hI.se] at ho
          obtain ⟨i, hi, rfl⟩ := List.mem_map.mp ho
          obtain ⟨c2, m2, _, _, _⟩ := hI.hb i hi
          exact ⟨Fs.bt b w, w, R.length, g i, s, k0, rfl, smr_of c2 ((hZ.s _ ho2).mono up) (.inr ⟨i, (Fs.us_mem.mp hi).1, m2⟩), sR, bp, by omega, by omega, by omega, kw, kz, hP⟩
        dsimp only [List.set]
        refine ⟨Nat.le_of_ble_eq_true rfl, by rw [List.length_map]; omega, ?_⟩
        refine ⟨(r.map fun o => Fs.wo o s k0).length, by rw [List.length_map, List.length_cons]; omega, piv ++ [(k0, s)], r.map fun o => Fs.wo o s k0, S.map fun o => Fs.wo o s k0, _, k, .d (.lst ((k0 :: sp).map nD)), .d (smQ T.C_Sum s), .d (.int k0), .d (.lst (r.map (smQ T.C_Sum))), ?_, trivial, rfl, by rw [List.length_map]; omega, by omega, hI2, hZ2, hE⟩
        rw [List.map_append, List.map_map, List.map_map]
        rfl
open Fs (Bq Sm Rw CdS CdP EI SzE)
def g_solve (T : Tx K mg) (xs : List D) (Q : D → Prop) : Prop := ∃ (R : List Rw) (w b : Nat) (rt : D), xs = [rt, .int w] ∧ (rt = .lst (R.map rowQ) ∨ rt = .tup (R.map rowQ)) ∧ RowsOk R w b ∧ (∀ piv S g, EI R w piv [] S g → ∀ sp t, t ≤ w → (Fs.stT sp S t).length < 16000000) ∧ Q (ansQ (Fs.solveR R w))
theorem ok_solve (T : Tx K mg) : FnOk P w K mg base CX0 8 T.f_solve T.fd_solve ["rows", "width"] (spD K W (g_solve T)) := by
  refine vfn T.F_solve sc_solve (fun ds Q h => ?_) ⟨_, fun cdv A outer s H E hr => (vss_cons (vs_asg (vs := [5, 6]) (ve_call (ok_sums_of T) (hr.mono (by decide)) (by rfl) T.g_sums_of T.F_sums_of.kp T.B_sums_of .nil pass0 (fun _ _ => reps_nil) (va_cons (ve_var 0) va_nil)) (vg_tup (n := 2) rfl (vgs_cons (vg_name 5 sc_solve.nd (by decide)) (vgs_cons (vg_name 6 sc_solve.nd (by decide)) vgs_nil)))) (vss_cons (vs_asg (vs := [7, 8, 9]) (ve_call (ok_solve_equal T) (hr.mono (by decide)) (by rfl) T.g_solve_equal T.F_solve_equal.kp T.B_solve_equal .nil pass0 (fun _ _ => reps_nil) (va_cons (ve_var 5) (va_cons (ve_var 6) va_nil))) (vg_tup (n := 3) rfl (vgs_cons (vg_name 7 sc_solve.nd (by decide)) (vgs_cons (vg_name 8 sc_solve.nd (by decide)) (vgs_cons (vg_name 9 sc_solve.nd (by decide)) vgs_nil))))) (vss_cons (vs_if (vt_cmp op_notN lift_notN (ve_var 9) ve_non (nomark _)) (vss_one (vs_ret (ve_tup (va_cons ve_str (va_cons (ve_callTy call_tuple_of lift_tuple (by rfl) T.n_tuple bt_tuple (va_cons (ve_var 9) va_nil)) va_nil))))) vss_nil) (vss_cons (vs_parNilC 10 11 rfl sc_solve.nd (ve_lc (own := [("spot", 2), ("one", 3)]) rfl sc_solve.nd (vi_its (ve_var 7)) (blkOk_by (N := ["rows", "width", "spot", "one", "point", "equal", "first", "pivots", "strict", "bad", "stages", "used", "sums", "rest", "k"]) (sc := defScope s_solve) (by decide +kernel)) (fun _ _ _ _ _ => (vg_tup (n := 2) rfl (vgs_cons (vg_name 2 sc_solve.nd (by decide)) (vgs_cons (vg_name 3 sc_solve.nd (by decide)) vgs_nil)))) (fun _ _ _ _ _ => vts_nil) (fun sB HB CB clB fpB => (ve_var 2)))) (vss_cons (vs_for (vs := [2]) PassesOwn.never rfl (vi_its (ve_lc (own := [("k", 14)]) rfl sc_solve.nd (vi_range1 (by rfl) T.n_range (ve_var 1)) (blkOk_by (N := ["rows", "width", "spot", "one", "point", "equal", "first", "pivots", "strict", "bad", "stages", "used", "sums", "rest", "k"]) (sc := defScope s_solve) (by decide +kernel)) (fun _ _ _ _ _ => (vg_name 14 sc_solve.nd (by decide))) (fun _ _ _ _ _ => (vts_one (vt_cmp op_notIn_seq lift_in (ve_var 14) (ve_var 11) (by rfl)))) (fun sB HB CB clB fpB => (ve_var 14)))) (vg_name 2 sc_solve.nd (by decide)) (vss_cons (vs_app 10 (ve_tup (va_cons (ve_var 2) (va_cons (ve_var 8) va_nil)))) (vss_one (vs_set 8 sc_solve.nd (ve_call (ok_removed T) (hr.mono (by decide)) (by rfl) T.g_removed T.F_removed.kp T.B_removed .nil pass0 (fun _ _ => reps_nil) (va_cons (ve_var 8) (va_cons (ve_var 2) (va_cons (ve_sub (ve_fz 10 (ve_callB call_len lift_len (by rfl) T.n_len bt_len (va_cons (ve_var 10) va_nil))) ve_int) va_nil)))))))) (vss_cons (vs_for (vs := [3]) PassesOwn.never rfl (vi_its (ve_var 8)) (vg_name 3 sc_solve.nd (by decide)) (vss_one (vs_if (vt_cmp op_ge lift_iib (ve_call (ok_sign T) (hr.mono (by decide)) (by rfl) T.g_sign T.F_sign.kp T.B_sign .nil pass0 (fun _ _ => reps_nil) (va_cons (ve_fld [T.C_Sum] (fl_constant T) (ve_var 3)) va_nil)) ve_int (nomark _)) (vss_one (vs_ret (ve_tup (va_cons ve_str (va_cons (ve_callTy call_tuple_of lift_tuple (by rfl) T.n_tuple bt_tuple (va_cons (ve_fld [T.C_Sum] (fl_multipliers T) (ve_var 3)) va_nil)) va_nil))))) vss_nil))) (vss_cons (vs_setLcO 4 (own := [("k", 14)]) rfl sc_solve.nd rfl rfl (sw_true rfl rfl rfl (by decide +kernel)) (vi_range1 (by rfl) T.n_range (ve_var 1)) (blkOk_by (N := ["rows", "width", "spot", "one", "point", "equal", "first", "pivots", "strict", "bad", "stages", "used", "sums", "rest", "k"]) (sc := defScope s_solve) (by decide +kernel)) (fun _ _ _ _ _ => (vg_name 14 sc_solve.nd (by decide))) (fun _ _ _ _ _ => vts_nil) (fun sB HB CB clB fpB => (ve_glob (by rfl) T.c_ZERO T.r_ZERO T.w_ZERO))) (vss_fz 10 (vss_cons (vs_for (vs := [2, 12]) PassesOwn.never rfl (vi_its (ve_rev (ve_var 10))) (vg_tup (n := 2) rfl (vgs_cons (vg_name 2 sc_solve.nd (by decide)) (vgs_cons (vg_name 12 sc_solve.nd (by decide)) vgs_nil))) (vss_one (vs_lput 4 (ve_var 2) (ve_lend 4 (ve_call (ok_between T) (hr.mono (by decide)) (by rfl) T.g_between T.F_between.kp T.B_between .nil pass0 (fun _ _ => reps_nil) (va_cons (ve_var 12) (va_cons (ve_var 2) (va_cons (ve_var 4) va_nil)))))))) (vss_cons (vs_for (vs := [2, 3]) PassesOwn.never rfl (vi_its (ve_rev (ve_var 7))) (vg_tup (n := 2) rfl (vgs_cons (vg_name 2 sc_solve.nd (by decide)) (vgs_cons (vg_name 3 sc_solve.nd (by decide)) vgs_nil))) (vss_cons (vs_set 13 sc_solve.nd (ve_lend 4 (ve_call (ok_minus T) (hr.mono (by decide)) (by rfl) T.g_minus T.F_minus.kp T.B_minus .nil pass0 (fun _ _ => reps_nil) (va_cons (ve_methD [T.C_Sum] (ve_var 3) (me_value T) (ok_Sum_value T) (hr.mono (by decide)) T.B_Sum_value (va_cons (ve_var 4) va_nil)) (va_cons (ve_call (ok_times T) (hr.mono (by decide)) (by rfl) T.g_times T.F_times.kp T.B_times .nil pass0 (fun _ _ => reps_nil) (va_cons (ve_ixA hr.units (ve_fld [T.C_Sum] (fl_factors T) (ve_var 3)) (ve_var 2)) (va_cons (ve_lix 4 (ve_var 2)) va_nil))) va_nil))))) (vss_one (vs_lput 4 (ve_var 2) (ve_call (ok_opposite T) (hr.mono (by decide)) (by rfl) T.g_opposite T.F_opposite.kp T.B_opposite .nil pass0 (fun _ _ => reps_nil) (va_cons (ve_call (ok_over T) (hr.mono (by decide)) (by rfl) T.g_over T.F_over.kp T.B_over .nil pass0 (fun _ _ => reps_nil) (va_cons (ve_var 13) (va_cons (ve_ixA hr.units (ve_fld [T.C_Sum] (fl_factors T) (ve_var 3)) (ve_var 2)) va_nil))) va_nil)))))) (vss_fz 4 (vss_one (vs_ret (ve_tup (va_cons ve_str (va_cons (ve_callTy call_tuple_of lift_tuple (by rfl) T.n_tuple bt_tuple (va_cons (ve_var 4) va_nil)) va_nil)))))))))))))))), fun ds Q h => ?_⟩
  · obtain ⟨_, _, _, _, rfl, _⟩ := h
    rfl
  · obtain ⟨R, w, b, rt, rfl, hrt, RO, hC, h⟩ := h
    have bw := RO.sz
    have w14 := RO.w14
    have n31 := RO.n
    have hl0 : (Fs.eqs R).length ≤ R.length := by
      unfold Fs.eqs Fs.enumR
      rw [List.length_map]
      refine Nat.le_trans (List.length_filter_le _ _) ?_
      rw [List.length_map, List.length_range]
      exact Nat.le_refl _
    refine ⟨R, rt, rfl, hrt, n31, fun r hr => by rw [RO.wd r hr]; omega, ?_⟩
    refine ⟨rfl, R, w, b, rfl, RO, rfl, ?_⟩
    have D := seq_ok2 R.length [] (Fs.eqs R) (Fs.lts R) _ hl0 (EI.init RO.wd) RO.init
    unfold Fs.solveR at h
    generalize hq : Fs.solveEq R.length [] (Fs.eqs R) (Fs.lts R) = q at h D
    obtain ⟨piv, S, bad⟩ := q
    rcases D with ⟨m, e, _⟩ | ⟨e, g, hI, hZ⟩
    · have e : bad = some m := e
      subst e
      exact ⟨Nat.le_of_ble_eq_true rfl, h⟩
    have e : bad = none := e
    subst e
    have h : Q (ansQ (match (Fs.stg (Fs.freeR w piv) 0 S).2.find? fun s => decide (0 ≤ s.c) with | some s => .never s.m | none => .point (Fs.pivR piv (Fs.backR (Fs.stg (Fs.freeR w piv) 0 S).1 (List.replicate w 0))))) := h
    have hI : EI R w piv [] S g := hI
    have hZ : SzE b piv [] S := hZ
    have pl := hI.plen.2
    have fl := Fs.free_len hI
    have spw : ∀ k ∈ Fs.freeR w piv, k < w := fun k hk => (Fs.free_mem.mp hk).1
    have hfree : ((List.range w).filter fun k => !decide (k ∈ piv.map (·.1))) = Fs.freeR w piv := rfl
    generalize Fs.freeR w piv = sp at h fl spw hfree
    have stE : (Fs.stg sp 0 S).2 = Fs.stT sp S sp.length := by
      have e : (Fs.stg sp 0 (Fs.stT sp S 0)).2 = _ := Fs.stg_last (sp := sp) sp 0 List.drop_zero
      rw [Nat.zero_add] at e
      exact e
    rw [stE] at h
    have bp : 0 < Fs.bt b w := by
      have : b ≤ Fs.bt b w := Fs.bt_le (b := b) (Nat.zero_le w)
      have := RO.pos
      omega
    have sm : ∀ t, t ≤ sp.length → ∀ s ∈ Fs.stT sp S t, CdS (Fs.bt b w) s ∧ SmR (Fs.bt b w) w R.length s := fun t ht s hs => by
      have c := (Fs.stT_cd hI hZ.s sp t s hs).mono (Fs.bt_le (b := b) (show piv.length + t ≤ w by omega))
      obtain ⟨G, ml⟩ := Fs.stT_gs hI sp t s hs
      refine ⟨c, sz_of c, G.cb.fl, G.cb.ml, fun i hi => ?_, by omega⟩
      rw [G.mm] at hi
      exact List.mem_range.mp (List.mem_filter.mp hi).1
    refine ⟨Nat.le_of_ble_eq_true rfl, rfl, ?_⟩
    refine lcG (g := pvQ T.C_Sum) (fun q => nD q.1) (fun q hq P hP => ⟨rfl, hP⟩) ?_
    rw [show (piv.map fun q => nD q.1) = (piv.map (·.1)).map nD by rw [List.map_map]; rfl]
    refine ⟨rfl, by omega, by omega, ?_⟩
    rw [Int.toNat_natCast, rng_nD]
    refine lcS (g := nD) (fun k => !decide (k ∈ piv.map (·.1))) (fun k hk Y N hY hN => ?_) ?_
    · refine ⟨rfl, flat_nD _, ?_⟩
      rw [inV_nD]
      refine vifn (fun z => hY (by simpa using z)) (fun z => hN (by simpa using z))
    rw [hfree]
    have stg_at : ∀ i, i < sp.length → ((List.range sp.length).map fun t => (sp.getD t 0, Fs.stT sp S t))[i]? = some (sp.getD i 0, Fs.stT sp S i) := fun i hi => by
      rw [List.getElem?_map, List.getElem?_range hi]
      rfl
    have sp14 : sp.length ≤ 14 := by omega
    refine ⟨fun i sl => ∃ o2 o3 : Sl, sl = [.d rt, .d (.int w), o2, o3, .un, .d (.lst ((Fs.eqs R).map (smQ T.C_Sum))), .d (.lst ((Fs.lts R).map (smQ T.C_Sum))), .d (.lst (piv.map (pvQ T.C_Sum))), .d (.lst ((Fs.stT sp S i).map (smQ T.C_Sum))), .d .non, .ml (((List.range i).map fun t => (sp.getD t 0, Fs.stT sp S t)).map (stQ T.C_Sum)), .d (.lst ((piv.map (·.1)).map nD)), .un, .un, .un] ∧ o2.pl ∧ o3.pl, ⟨.un, .un, rfl, trivial, trivial⟩, ?_, ?_⟩
    · rintro i d0 sl hd ⟨o2, o3, rfl, p2, p3⟩
      obtain ⟨k, hk, rfl⟩ := mapQ_get hd
      have hi := (List.getElem?_eq_some_iff.mp hk).1
      have gk : sp.getD i 0 = k := by rw [List.getD_eq_getElem?_getD, hk]; rfl
      have kw := spw k (List.mem_of_getElem? hk)
      have e1 : Fs.removedR (Fs.stT sp S i) k i = Fs.stT sp S (i + 1) := by show _ = Fs.removedR (Fs.stT sp S i) (sp.getD i 0) i; rw [gk]
      refine ⟨Nat.le_of_ble_eq_true rfl, by rw [List.length_map, List.length_map, List.length_range]; omega, ?_⟩
      refine ⟨rfl, Fs.bt b w, w, R.length, Fs.stT sp S i, k, i, ?_, fun s hs => (sm i (by omega) s hs).2, bp, by omega, by omega, by omega, kw, by rw [e1]; exact hC piv S g hI sp (i + 1) (by omega), ?_⟩
      · show [D.lst ((Fs.stT sp S i).map (smQ T.C_Sum)), nD k, D.int ((((((List.range i).map fun t => (sp.getD t 0, Fs.stT sp S t)).map (stQ T.C_Sum)) ++ [D.tup [nD k, .lst ((Fs.stT sp S i).map (smQ T.C_Sum))]]).length : Nat) - 1)] = _
        rw [List.length_append, List.length_map, List.length_map, List.length_range, List.length_singleton, show ((i + 1 : Nat) : Int) - 1 = (i : Int) by omega]
        rfl
      · rw [e1]
        refine ⟨.d (nD k), o3, ?_, trivial, p3⟩
        rw [List.range_succ, List.map_append, List.map_append, List.map_singleton, List.map_singleton, gk]
        rfl
    rintro sl ⟨o2, o3, rfl, p2, p3⟩
    rw [List.length_map]
    generalize hL : (List.range sp.length).map (fun t => (sp.getD t 0, Fs.stT sp S t)) = L at stg_at
    refine ⟨fun j sl => ∃ o2 o3 : Sl, sl = [.d rt, .d (.int w), o2, o3, .un, .d (.lst ((Fs.eqs R).map (smQ T.C_Sum))), .d (.lst ((Fs.lts R).map (smQ T.C_Sum))), .d (.lst (piv.map (pvQ T.C_Sum))), .d (.lst ((Fs.stT sp S sp.length).map (smQ T.C_Sum))), .d .non, .ml (L.map (stQ T.C_Sum)), .d (.lst ((piv.map (·.1)).map nD)), .un, .un, .un] ∧ o2.pl ∧ o3.pl ∧ ∀ x ∈ (Fs.stT sp S sp.length).take j, decide (0 ≤ x.c) = false, ⟨o2, o3, rfl, p2, p3, fun x hx => by simp at hx⟩, ?_, ?_⟩
    · rintro j d0 sl hd ⟨o2, o3, rfl, p2, p3, hn⟩
      obtain ⟨s, hs, rfl⟩ := mapQ_get hd
      refine ⟨.head _, _, rfl, _, _, rfl, ?_⟩
      refine vifd (fun z => ?_) (fun z => ?_)
      · have hc : decide (0 ≤ s.c) = true := decide_eq_true (Rat.not_lt.mp fun y => by have := sgI_iff.2.1.mpr y; omega)
        rw [find_at hn hs hc] at h
        exact ⟨.head _, _, rfl, Nat.le_of_ble_eq_true rfl, h⟩
      · refine ⟨o2, .d (smQ T.C_Sum s), rfl, p2, trivial, fun x hx => ?_⟩
        rw [take_one hs] at hx
        rcases List.mem_append.mp hx with hx | hx
        · exact hn x hx
        · rw [List.mem_singleton.mp hx]
          exact decide_eq_false fun y => z (by
            have n1 : ¬ sgnI s.c.num < 0 := fun q => absurd (sgI_iff.2.1.mp q) (Rat.not_lt.mpr y)
            omega)
    rintro sl ⟨o2, o3, rfl, p2, p3, hn⟩
    rw [List.length_map, List.take_length] at hn
    rw [List.find?_eq_none.mpr fun x hx => by rw [hn x hx]; decide] at h
    refine ⟨Nat.le_of_ble_eq_true rfl, rfl, by omega, by omega, ?_⟩
    rw [Int.toNat_natCast, rng_nD]
    refine lcG (g := nD) (fun _ => zeroD) (fun k hk P hP => hP) ?_
    rw [show ((List.range w).map fun _ => zeroD) = (List.replicate w 0).map aQ by rw [List.map_const', List.length_range, List.map_replicate]; rfl]
    dsimp only [List.set]
    have L1 : L.length = sp.length := by rw [← hL, List.length_map, List.length_range]
    have stL : (Fs.stg sp 0 S).1 = L := by
      have e : (Fs.stg sp 0 (Fs.stT sp S 0)).1 = _ := Fs.stg_list (sp := sp) sp 0 List.drop_zero
      rw [← hL]
      refine Eq.trans e (List.map_congr_left fun i _ => ?_)
      rw [Nat.zero_add]
    have cdb : ∀ t, t ≤ sp.length → CdP (1 + Fs.tt b w) (Fs.backR (Fs.stg (sp.drop t) t (Fs.stT sp S t)).1 (List.replicate w 0)) := fun t ht => by
      refine (Fs.back_cd hI hZ.s w14 spw (sp.drop t) t rfl).mono ?_
      have k1 := Fs.kb_tt (b := b) (j := piv.length) (sp.drop t).length t
      rw [List.length_drop] at k1 ⊢
      have k2 := Fs.tt_le (b := b) (show piv.length + t + (sp.length - t) ≤ w by omega)
      omega
    have lnb : ∀ t, (Fs.backR (Fs.stg (sp.drop t) t (Fs.stT sp S t)).1 (List.replicate w 0)).length = w := fun t => by rw [Fs.back_len, List.length_replicate]
    refine ⟨fun i sl => ∃ o2 o3 o12 : Sl, sl = [.d rt, .d (.int w), o2, o3, .ml ((Fs.backR (Fs.stg (sp.drop (sp.length - i)) (sp.length - i) (Fs.stT sp S (sp.length - i))).1 (List.replicate w 0)).map aQ), .d (.lst ((Fs.eqs R).map (smQ T.C_Sum))), .d (.lst ((Fs.lts R).map (smQ T.C_Sum))), .d (.lst (piv.map (pvQ T.C_Sum))), .d (.lst ((Fs.stT sp S sp.length).map (smQ T.C_Sum))), .d .non, .d (.lst (L.map (stQ T.C_Sum))), .d (.lst ((piv.map (·.1)).map nD)), o12, .un, .un], ⟨o2, o3, .un, by rw [Nat.sub_zero, List.drop_length]; rfl⟩, ?_, ?_⟩
    · rintro i d0 sl hd ⟨o2, o3, o12, rfl⟩
      rw [← List.map_reverse] at hd
      obtain ⟨q, hq, rfl⟩ := mapQ_get hd
      have hi := (List.getElem?_eq_some_iff.mp hq).1
      rw [List.length_reverse, L1] at hi
      rw [List.getElem?_reverse (by rw [L1]; exact hi), L1] at hq
      obtain ⟨t, ht, ht2⟩ : ∃ t, t + 1 = sp.length - i ∧ sp.length - 1 - i = t := ⟨sp.length - 1 - i, by omega, rfl⟩
      rw [ht2, stg_at t (by omega)] at hq
      have hq := Option.some.inj hq
      subst hq
      have kw : sp.getD t 0 < w := spw _ (by
        rw [List.getD_eq_getElem?_getD, List.getElem?_eq_getElem (show t < sp.length by omega)]
        exact List.getElem_mem _)
      have bs := Fs.back_step (S := S) (sp := sp) (t := t) (p := List.replicate w 0) (by omega)
      have c0 := cdb (t + 1) (by omega)
      have l0 := lnb (t + 1)
      rw [← ht]
      generalize Fs.backR (Fs.stg (sp.drop (t + 1)) (t + 1) (Fs.stT sp S (t + 1))).1 (List.replicate w 0) = p at c0 l0 bs
      refine ⟨rfl, Fs.bt b w, 1 + Fs.tt b w, w, Fs.stT sp S t, sp.getD t 0, p, rfl, fun s hs => ⟨(sm t (by omega) s hs).1, (sm t (by omega) s hs).2.fl⟩, c0, l0, w14, kw, by omega, rfl, sp.getD t 0, ixQ (by rw [List.length_map, l0]; exact kw), .d (nD (sp.getD t 0)), o3, .d (.lst ((Fs.stT sp S t).map (smQ T.C_Sum))), ?_⟩
      rw [show sp.length - (i + 1) = t by omega, bs, List.map_set]
      rfl
    rintro sl ⟨o2, o3, o12, rfl⟩
    rw [List.length_reverse, List.length_map, L1, Nat.sub_self]
    have cd0 : CdP (Fs.kb b piv.length sp.length 0) (Fs.backR (Fs.stg (sp.drop 0) 0 (Fs.stT sp S 0)).1 (List.replicate w 0)) := Fs.back_cd hI hZ.s w14 spw (sp.drop 0) 0 rfl
    have ln0 := lnb 0
    have h : Q (ansQ (.point (Fs.pivR piv (Fs.backR (Fs.stg (sp.drop 0) 0 (Fs.stT sp S 0)).1 (List.replicate w 0))))) := h
    have kk := Fs.kb_tt (b := b) (j := piv.length) sp.length 0
    have kw := Fs.tt_le (b := b) (show piv.length + 0 + sp.length ≤ w by omega)
    generalize Fs.backR (Fs.stg (sp.drop 0) 0 (Fs.stT sp S 0)).1 (List.replicate w 0) = p0 at cd0 ln0 h ⊢
    have cdp : ∀ t, t ≤ piv.length → CdP (1 + Fs.tt b w) (Fs.pivR (piv.drop t) p0) := fun t ht => by
      refine (Fs.piv_cd (w := w) (b := b) t cd0 ln0 w14 (fun a ha => ?_) fun i a hi => ?_).mono ?_
      · have G := hI.gp a (List.mem_of_mem_drop ha)
        exact ⟨G.1.fl, G.2.2.2.1, G.2.2.2.2⟩
      · rw [List.getElem?_drop] at hi
        exact hZ.p _ _ hi
      · have k1 := Fs.pk_tt (b := b) (piv.drop t).length t
        rw [List.length_drop] at k1 ⊢
        rw [show t + (piv.length - t) = piv.length + 0 by omega] at k1
        omega
    refine ⟨fun i sl => ∃ o2 o3 o13 : Sl, sl = [.d rt, .d (.int w), o2, o3, .ml ((Fs.pivR (piv.drop (piv.length - i)) p0).map aQ), .d (.lst ((Fs.eqs R).map (smQ T.C_Sum))), .d (.lst ((Fs.lts R).map (smQ T.C_Sum))), .d (.lst (piv.map (pvQ T.C_Sum))), .d (.lst ((Fs.stT sp S sp.length).map (smQ T.C_Sum))), .d .non, .d (.lst (L.map (stQ T.C_Sum))), .d (.lst ((piv.map (·.1)).map nD)), o12, o13, .un], ⟨o2, o3, .un, by rw [Nat.sub_zero, List.drop_length]; rfl⟩, ?_, ?_⟩
    · rintro i d0 sl hd ⟨o2, o3, o13, rfl⟩
      rw [← List.map_reverse] at hd
      obtain ⟨q, hq, rfl⟩ := mapQ_get hd
      have hi := (List.getElem?_eq_some_iff.mp hq).1
      rw [List.length_reverse] at hi
      rw [List.getElem?_reverse hi] at hq
      obtain ⟨t, ht, ht2⟩ : ∃ t, t + 1 = piv.length - i ∧ piv.length - 1 - i = t := ⟨piv.length - 1 - i, by omega, rfl⟩
      rw [ht2] at hq
      have G := hI.gp q (List.mem_of_getElem? hq)
      obtain ⟨c1, m1, _, qw, qz⟩ := G
      have cs : CdS (Fs.bt b w) q.2 := (hZ.p t q hq).mono (Fs.bt_le (b := b) (by omega))
      have bs : Fs.pivR (piv.drop t) p0 = (Fs.pivR (piv.drop (t + 1)) p0).set q.1 (Fs.pivV q (Fs.pivR (piv.drop (t + 1)) p0)) := by
        have hl := (List.getElem?_eq_some_iff.mp hq).1
        rw [List.drop_eq_getElem_cons hl, (List.getElem?_eq_some_iff.mp hq).2]
        rfl
      have c0 := cdp (t + 1) (by omega)
      have l0 : (Fs.pivR (piv.drop (t + 1)) p0).length = w := by rw [Fs.piv_len, ln0]
      rw [← ht]
      generalize Fs.pivR (piv.drop (t + 1)) p0 = p at c0 l0 bs
      have gp : atI (p.map aQ) (q.1 : Int) = some (aQ (Fs.gt p q.1)) := atI_nat (aQ_get (by rw [l0]; exact qw))
      have g1 : atI (q.2.f.map aQ) (q.1 : Int) = some (aQ (Fs.gt q.2.f q.1)) := atI_nat (aQ_get (by rw [c1.fl]; exact qw))
      have h1 : Bq (Fs.bt b w + (1 + Fs.tt b w) + 4) (q.2.v p) := by
        have := Fs.part_bq cs c0 (by rw [c1.fl]; exact w14) (List.zip q.2.f p).length
        rw [List.take_length] at this
        exact this
      have h2 := bq_times (cs.bf q.1) (c0.b q.1)
      have h3 := bq_minus h1 h2
      refine ⟨rfl, .head _, rfl, Fs.bt b w, 1 + Fs.tt b w, q.2, p, _, rfl, .inr rfl, cs, c0, by rw [c1.fl]; exact w14, by omega, ?_⟩
      refine ⟨.head _, _, rfl, _, g1, _, gp, Fs.bt b w, 1 + Fs.tt b w, _, _, rfl, aQ_amt (cs.bf q.1), aQ_amt (c0.b q.1), by omega, ?_⟩
      rw [times_aQ]
      refine ⟨Fs.bt b w + (1 + Fs.tt b w) + 4, Fs.bt b w + (1 + Fs.tt b w), _, _, rfl, aQ_amt h1, aQ_amt h2, by omega, ?_⟩
      rw [minus_aQ]
      refine ⟨rfl, ?_⟩
      dsimp only [List.set]
      refine ⟨.head _, _, rfl, _, g1, _, _, _, _, rfl, aQ_amt h3, aQ_amt (cs.bf q.1), aQ_nz qz, by omega, ?_⟩
      rw [over_aQ _ qz]
      refine ⟨_, _, rfl, ?_⟩
      rw [neg_aQ]
      refine ⟨q.1, ixQ (by rw [List.length_map, l0]; exact qw), .d (nD q.1), .d (smQ T.C_Sum q.2), .d (aQ (q.2.v p - Fs.gt q.2.f q.1 * Fs.gt p q.1)), ?_⟩
      rw [show piv.length - (i + 1) = t by omega, bs, List.map_set]
      rfl
    rintro sl ⟨o2, o3, o13, rfl⟩
    rw [List.length_reverse, List.length_map, Nat.sub_self, List.drop_zero]
    exact ⟨Nat.le_of_ble_eq_true rfl, h⟩
open Fs (Bq Sm Rw CdS CdP EI SzE)
structure PtOk (R : List Rw) (w b k : Nat) (p : List Rat) : Prop where
  wd : ∀ r ∈ R, r.f.length = w
  w14 : w ≤ 14
  cd : ∀ i, i < R.length → CdS b (Fs.baseR R.length (i, Fs.rowA R i))
  cp : CdP k p
  pl : p.length = w
  sz : 2 * (b + k) + 4 ≤ 9000
theorem PtOk.row {R : List Rw} {w b k : Nat} {p : List Rat} (h : PtOk R w b k p) {i : Nat} {r : Rw} (hr : R[i]? = some r) : (∀ x ∈ r.f, Bq b x) ∧ (∀ x ∈ p, Bq k x) ∧ (∀ j, AmtD (b + k + 4) (valZ ((zipsD (r.f.map aQ) (p.map aQ)).take j) (aQ r.c))) ∧ r.f.length = w := by
  have hi := (List.getElem?_eq_some_iff.mp hr).1
  have e := row_at hr
  have c := h.cd i hi
  rw [e] at c
  have hl := h.wd r (List.mem_of_getElem? hr)
  refine ⟨(sz_of c).f, fun x hx => ?_, fun j => ?_, hl⟩
  · obtain ⟨i, _, rfl⟩ := Fs.mem_gt hx
    exact h.cp.b i
  · rw [valZ_q]
    exact aQ_amt (Fs.part_bq c h.cp (by show r.f.length ≤ 14; rw [hl]; exact h.w14) j)
theorem all_take {R : List Rw} {p : List Rat} {r : Rw} (h : r ∈ R) (hb : rowOk p r = false) : R.all (rowOk p) = false := by
  cases e : R.all (rowOk p) with
  | false => rfl
  | true => rw [List.all_eq_true.mp e r h] at hb; cases hb
def g_is_point (xs : List D) (Q : D → Prop) : Prop := ∃ (R : List Rw) (w b k : Nat) (p : List Rat) (rt pt : D), xs = [rt, pt] ∧ (rt = .lst (R.map rowQ) ∨ rt = .tup (R.map rowQ)) ∧ (pt = .tup (p.map aQ) ∨ pt = .lst (p.map aQ)) ∧ PtOk R w b k p ∧ Q (.bl (R.all (rowOk p)))
theorem ok_is_point (T : Tx K mg) : FnOk P w K mg base CX0 5 T.f_is_point T.fd_is_point ["rows", "point"] (spD K W g_is_point) := by
  refine vfn T.F_is_point sc_is_point (fun ds Q h => ?_) ⟨_, fun cdv A outer s H E hr => (vss_cons (vs_for (vs := [2]) PassesOwn.never rfl (vi_its (ve_var 0)) (vg_name 2 sc_is_point.nd (by decide)) (vss_cons (vs_if (vt_cmp (op_neA hr.units) lift_ne (ve_callB call_len lift_len (by rfl) T.n_len bt_len (va_cons (ve_var 1) va_nil)) (ve_callB call_len lift_len (by rfl) T.n_len bt_len (va_cons (ve_ixA hr.units (ve_var 2) ve_int) va_nil)) (nomark _)) (vss_one (vs_ret ve_bl)) vss_nil) (vss_one (vs_if (vt_cmp (op_neA hr.units) lift_ne (ve_call (ok_sign T) (hr.mono (by decide)) (by rfl) T.g_sign T.F_sign.kp T.B_sign .nil pass0 (fun _ _ => reps_nil) (va_cons (ve_call (ok_row_value T) (hr.mono (by decide)) (by rfl) T.g_row_value T.F_row_value.kp T.B_row_value .nil pass0 (fun _ _ => reps_nil) (va_cons (ve_var 2) (va_cons (ve_var 1) va_nil))) va_nil)) (ve_if (vt_cmp (op_eqA hr.units) lift_eq (ve_ixA hr.units (ve_var 2) ve_int) ve_str (nomark _)) ve_int (ve_neg ve_int)) (nomark _)) (vss_one (vs_ret ve_bl)) vss_nil)))) (vss_one (vs_ret ve_bl))), fun ds Q h => ?_⟩
  · obtain ⟨_, _, _, _, _, _, _, rfl, _⟩ := h
    rfl
  · obtain ⟨R, w, b, k, p, rt, pt, rfl, hrt, hpt, PO, h⟩ := h
    rcases hrt with rfl | rfl <;> rcases hpt with rfl | rfl
    all_goals
      refine ⟨fun i sl => ∃ (y z : D) (o : Sl), sl = [.d y, .d z, o] ∧ (z = .tup (p.map aQ) ∨ z = .lst (p.map aQ)) ∧ ∀ r ∈ R.take i, rowOk p r = true, ⟨_, _, _, rfl, (by first | exact .inl rfl | exact .inr rfl), fun r h => by simp at h⟩, ?_, ?_⟩
      · rintro i d sl hd ⟨y0, z0, o, rfl, hz, hg⟩
        obtain ⟨r, hr, rfl⟩ := mapQ_get hd
        have hm := List.mem_of_getElem? hr
        obtain ⟨q1, q2, q3, q4⟩ := PO.row hr
        have sz := PO.sz
        have w14 := PO.w14
        have good : rowOk p r = true → ∀ r ∈ R.take (i + 1), rowOk p r = true := fun h2 x hx => by
          rw [take_one hr] at hx
          rcases List.mem_append.mp hx with hx | hx
          · exact hg x hx
          · rw [List.mem_singleton.mp hx]; exact h2
        have bad : rowOk p r = false → Q (.bl false) := fun hb => by rw [all_take hm hb] at h; exact h
        have hlen : ∀ P : D → Prop, P (.int (w : Int)) → lenD [z0] P := fun P hP => by
          rcases hz with rfl | rfl
          · show P (.int ((p.map aQ).length : Nat))
            rw [List.length_map, PO.pl]
            exact hP
          · show P (.int ((p.map aQ).length : Nat))
            rw [List.length_map, PO.pl]
            exact hP
        refine hlen _ ?_
        refine ⟨_, rfl, ?_⟩
        refine vifn (fun z => absurd (show (w : Int) = (((r.f.map aQ).length : Nat) : Int) by rw [List.length_map, q4]) z) (fun _ => ?_)
        refine ⟨b, k, b + k + 4, _, _, _, _, _, _, rfl, .inr ⟨_, rfl⟩, .inl rfl, hz, amts_of q1, amts_of q2, q3, by rw [List.length_map]; omega, by omega, ?_⟩
        rw [valZ_v]
        refine ⟨_, _, rfl, ?_⟩
        refine ⟨_, rfl, ?_⟩
        have hv : Fs.valR r.f r.c p = Fs.valR r.f r.c p := rfl
        cases he : r.e with
        | true =>
          have hk : rowOk p r = decide (Fs.valR r.f r.c p = 0) := by unfold rowOk; rw [if_pos he]
          refine vifn (fun z => bad (hk.trans (decide_eq_false fun y => z (sgI_iff.2.2.mpr y)))) (fun z => ⟨_, z0, .d (rowQ r), rfl, hz, good (hk.trans (decide_eq_true (sgI_iff.2.2.mp z)))⟩)
        | false =>
          have hk : rowOk p r = decide (Fs.valR r.f r.c p < 0) := by unfold rowOk; rw [if_neg (by rw [he]; decide)]
          have m1 : sgnI (Fs.valR r.f r.c p).num = -1 ↔ Fs.valR r.f r.c p < 0 := by
            rw [← sgI_iff.2.1]
            unfold sgnI
            split <;> split <;> simp
          refine vifn (fun z => bad (hk.trans (decide_eq_false fun y => z (m1.mpr y)))) (fun z => ⟨_, z0, .d (rowQ r), rfl, hz, good (hk.trans (decide_eq_true (m1.mp z)))⟩)
      · rintro sl ⟨y0, z0, o, rfl, hz, hg⟩
        rw [List.length_map, List.take_length] at hg
        rw [List.all_eq_true.mpr hg] at h
        exact h
theorem ok_l_row_value (T : Tx K mg) : FnOk P w K mg base CX0 4 T.f_l_row_value T.fd_l_row_value ["_law_row", "_law_point"] (spD K W g_row_value) := by
  refine vfn T.F_l_row_value sc_l_row_value (fun ds Q h => ?_) ⟨_, fun cdv A outer s H E hr => (vss_cons (vs_set 2 sc_l_row_value.nd (ve_ixA hr.units (ve_var 0) ve_int)) (vss_cons (vs_for (vs := [3, 4]) PassesOwn.never rfl (vi_zipK (by rfl) T.n_zip (ve_ixA hr.units (ve_var 0) ve_int) (ve_var 1)) (vg_tup (n := 2) rfl (vgs_cons (vg_name 3 sc_l_row_value.nd (by decide)) (vgs_cons (vg_name 4 sc_l_row_value.nd (by decide)) vgs_nil))) (vss_one (vs_set 2 sc_l_row_value.nd (ve_call (ok_l_plus T) (hr.mono (by decide)) (by rfl) T.g_l_plus T.F_l_plus.kp T.B_l_plus .nil pass0 (fun _ _ => reps_nil) (va_cons (ve_var 2) (va_cons (ve_call (ok_l_times T) (hr.mono (by decide)) (by rfl) T.g_l_times T.F_l_times.kp T.B_l_times .nil pass0 (fun _ _ => reps_nil) (va_cons (ve_var 3) (va_cons (ve_var 4) va_nil))) va_nil)))))) (vss_one (vs_ret (ve_var 2))))), fun ds Q h => ?_⟩
  · obtain ⟨_, _, _, _, _, _, _, _, _, rfl, _⟩ := h
    rfl
  · obtain ⟨n, m, k, ft, fs, c, rest, pt, ps, rfl, hrest, hft, hpt, hf, hp, hv, hl, hN, h⟩ := h
    have hit : ∀ t ∈ zipsD fs ps, ∃ f v, t = .tup [f, v] ∧ AmtD n f ∧ AmtD m v := fun t ht => by
      obtain ⟨x, hx, y, hy, e⟩ := zips_mem ht
      exact ⟨x, y, e, hf x hx, hp y hy⟩
    rcases hrest with rfl | ⟨rel, rfl⟩ <;> rcases hft with rfl | rfl <;> rcases hpt with rfl | rfl
    all_goals
      refine ⟨_, rfl, _, rfl, by omega, ?_⟩
      refine ⟨fun i sl => ∃ x y o3 o4, sl = [.d y, .d x, .d (valZ ((zipsD fs ps).take i) c), o3, o4], ⟨_, _, _, _, rfl⟩, ?_, ?_⟩
      · rintro i d sl hd ⟨x, y, o3, o4, rfl⟩
        obtain ⟨f, v, rfl, h1, h2⟩ := hit d (List.mem_of_getElem? hd)
        refine ⟨rfl, n, m, _, _, rfl, h1, h2, by omega, k, n + m, _, _, rfl, hv i, times_amt h1 h2, by omega, ?_⟩
        exact ⟨_, _, _, _, by rw [valZ_take hd]; rfl⟩
      · rintro sl ⟨x, y, o3, o4, rfl⟩
        rw [List.take_length]
        exact h
theorem ok_l_is_point (T : Tx K mg) : FnOk P w K mg base CX0 5 T.f_l_is_point T.fd_l_is_point ["_law_rows", "_law_point"] (spD K W g_is_point) := by
  refine vfn T.F_l_is_point sc_l_is_point (fun ds Q h => ?_) ⟨_, fun cdv A outer s H E hr => (vss_cons (vs_for (vs := [2]) PassesOwn.never rfl (vi_its (ve_var 0)) (vg_name 2 sc_l_is_point.nd (by decide)) (vss_one (vs_if (vt_cmp (op_neA hr.units) lift_ne (ve_call (ok_l_sign T) (hr.mono (by decide)) (by rfl) T.g_l_sign T.F_l_sign.kp T.B_l_sign .nil pass0 (fun _ _ => reps_nil) (va_cons (ve_call (ok_l_row_value T) (hr.mono (by decide)) (by rfl) T.g_l_row_value T.F_l_row_value.kp T.B_l_row_value .nil pass0 (fun _ _ => reps_nil) (va_cons (ve_var 2) (va_cons (ve_var 1) va_nil))) va_nil)) (ve_if (vt_cmp (op_eqA hr.units) lift_eq (ve_ixA hr.units (ve_var 2) ve_int) ve_str (nomark _)) ve_int (ve_neg ve_int)) (nomark _)) (vss_one (vs_ret ve_bl)) vss_nil))) (vss_one (vs_ret ve_bl))), fun ds Q h => ?_⟩
  · obtain ⟨_, _, _, _, _, _, _, rfl, _⟩ := h
    rfl
  · obtain ⟨R, w, b, k, p, rt, pt, rfl, hrt, hpt, PO, h⟩ := h
    rcases hrt with rfl | rfl <;> rcases hpt with rfl | rfl
    all_goals
      refine ⟨fun i sl => ∃ (y z : D) (o : Sl), sl = [.d y, .d z, o] ∧ (z = .tup (p.map aQ) ∨ z = .lst (p.map aQ)) ∧ ∀ r ∈ R.take i, rowOk p r = true, ⟨_, _, _, rfl, (by first | exact .inl rfl | exact .inr rfl), fun r h => by simp at h⟩, ?_, ?_⟩
      · rintro i d sl hd ⟨y0, z0, o, rfl, hz, hg⟩
        obtain ⟨r, hr, rfl⟩ := mapQ_get hd
        have hm := List.mem_of_getElem? hr
        obtain ⟨q1, q2, q3, q4⟩ := PO.row hr
        have sz := PO.sz
        have w14 := PO.w14
        have good : rowOk p r = true → ∀ r ∈ R.take (i + 1), rowOk p r = true := fun h2 x hx => by
          rw [take_one hr] at hx
          rcases List.mem_append.mp hx with hx | hx
          · exact hg x hx
          · rw [List.mem_singleton.mp hx]; exact h2
        have bad : rowOk p r = false → Q (.bl false) := fun hb => by rw [all_take hm hb] at h; exact h
        refine ⟨b, k, b + k + 4, _, _, _, _, _, _, rfl, .inr ⟨_, rfl⟩, .inl rfl, hz, amts_of q1, amts_of q2, q3, by rw [List.length_map]; omega, by omega, ?_⟩
        rw [valZ_v]
        refine ⟨_, _, rfl, ?_⟩
        refine ⟨_, rfl, ?_⟩
        have hv : Fs.valR r.f r.c p = Fs.valR r.f r.c p := rfl
        cases he : r.e with
        | true =>
          have hk : rowOk p r = decide (Fs.valR r.f r.c p = 0) := by unfold rowOk; rw [if_pos he]
          refine vifn (fun z => bad (hk.trans (decide_eq_false fun y => z (sgI_iff.2.2.mpr y)))) (fun z => ⟨_, z0, .d (rowQ r), rfl, hz, good (hk.trans (decide_eq_true (sgI_iff.2.2.mp z)))⟩)
        | false =>
          have hk : rowOk p r = decide (Fs.valR r.f r.c p < 0) := by unfold rowOk; rw [if_neg (by rw [he]; decide)]
          have m1 : sgnI (Fs.valR r.f r.c p).num = -1 ↔ Fs.valR r.f r.c p < 0 := by
            rw [← sgI_iff.2.1]
            unfold sgnI
            split <;> split <;> simp
          refine vifn (fun z => bad (hk.trans (decide_eq_false fun y => z (m1.mpr y)))) (fun z => ⟨_, z0, .d (rowQ r), rfl, hz, good (hk.trans (decide_eq_true (m1.mp z)))⟩)
      · rintro sl ⟨y0, z0, o, rfl, hz, hg⟩
        rw [List.length_map, List.take_length] at hg
        rw [List.all_eq_true.mpr hg] at h
        exact h
def g_refutes (xs : List D) (Q : D → Prop) : Prop := ∃ n k m rt rs mt ms, xs = [rt, mt] ∧ (rt = .lst rs ∨ rt = .tup rs) ∧ (mt = .tup ms ∨ mt = .lst ms) ∧ (∀ r ∈ rs, RowD n k r) ∧ (∀ y ∈ ms, AmtD m y) ∧ rs.length ≤ 20 ∧ 1 + 21 * (n + m + 1) ≤ 9000 ∧ 1 + 21 * (k + m + 1) ≤ 9000 ∧ Q (.bl (decide (ms.length = rs.length) && refB (zipsD rs ms)))
theorem ok_refutes (T : Tx K mg) : FnOk P w K mg base CX0 5 T.f_refutes T.fd_refutes ["rows", "multipliers"] (spD K W g_refutes) := by
  refine vfn T.F_refutes sc_refutes (fun ds Q h => ?_) ⟨_, fun cdv A outer s H E hr => (vss_cons (vs_if (vt_cmp (op_neA hr.units) lift_ne (ve_callB call_len lift_len (by rfl) T.n_len bt_len (va_cons (ve_var 1) va_nil)) (ve_callB call_len lift_len (by rfl) T.n_len bt_len (va_cons (ve_var 0) va_nil)) (nomark _)) (vss_one (vs_ret ve_bl)) vss_nil) (vss_cons (vs_par3 2 3 4 rfl sc_refutes.nd (by decide) (by decide) (by decide) (ve_lst va_nil) (ve_glob (by rfl) T.c_ZERO T.r_ZERO T.w_ZERO) ve_bl) (vss_cons (vs_for (vs := [5, 6]) PassesOwn.never rfl (vi_zipK (by rfl) T.n_zip (ve_var 0) (ve_var 1)) (vg_tup (n := 2) rfl (vgs_cons (vg_name 5 sc_refutes.nd (by decide)) (vgs_cons (vg_name 6 sc_refutes.nd (by decide)) vgs_nil))) (vss_cons (vs_if (vt_w (vw_and (vt_cmp (op_eqA hr.units) lift_eq (ve_ixA hr.units (ve_var 5) ve_int) ve_str (nomark _)) (vw_and1 (vt_cmp op_ltA lift_lt (ve_call (ok_sign T) (hr.mono (by decide)) (by rfl) T.g_sign T.F_sign.kp T.B_sign .nil pass0 (fun _ _ => reps_nil) (va_cons (ve_var 6) va_nil)) ve_int (nomark _))))) (vss_one (vs_ret ve_bl)) vss_nil) (vss_cons (vs_set 4 sc_refutes.nd (ve_or (ve_var 4) (ve_one (ve_and (ve_cmp (op_eqA hr.units) lift_eq (ve_ixA hr.units (ve_var 5) ve_int) ve_str (nomark _)) (ve_one (ve_cmp op_gt lift_iib (ve_call (ok_sign T) (hr.mono (by decide)) (by rfl) T.g_sign T.F_sign.kp T.B_sign .nil pass0 (fun _ _ => reps_nil) (va_cons (ve_var 6) va_nil)) ve_int (nomark _))))))) (vss_cons (vs_set 2 sc_refutes.nd (ve_call (ok_added T) (hr.mono (by decide)) (by rfl) T.g_added T.F_added.kp T.B_added .nil pass0 (fun _ _ => reps_nil) (va_cons (ve_var 2) (va_cons (ve_ixA hr.units (ve_var 5) ve_int) (va_cons (ve_var 6) va_nil))))) (vss_one (vs_set 3 sc_refutes.nd (ve_call (ok_plus T) (hr.mono (by decide)) (by rfl) T.g_plus T.F_plus.kp T.B_plus .nil pass0 (fun _ _ => reps_nil) (va_cons (ve_var 3) (va_cons (ve_call (ok_times T) (hr.mono (by decide)) (by rfl) T.g_times T.F_times.kp T.B_times .nil pass0 (fun _ _ => reps_nil) (va_cons (ve_var 6) (va_cons (ve_ixA hr.units (ve_var 5) ve_int) va_nil))) va_nil))))))))) (vss_cons (vs_if (vt_not (vt_val (ve_callB (cr_all (by rfl)) lift_all (by rfl) T.n_all bt_all (va_cons (ve_lc (own := [("factor", 7)]) rfl sc_refutes.nd (vi_its (ve_var 2)) (blkOk_by (N := ["rows", "multipliers", "total", "constant", "strict", "row", "by", "factor"]) (sc := defScope s_refutes) (by decide +kernel)) (fun _ _ _ _ _ => (vg_name 7 sc_refutes.nd (by decide))) (fun _ _ _ _ _ => vts_nil) (fun sB HB CB clB fpB => (ve_cmp (op_eqA hr.units) lift_eq (ve_var 7) (ve_glob (by rfl) T.c_ZERO T.r_ZERO T.w_ZERO) (nomark _)))) va_nil)))) (vss_one (vs_ret ve_bl)) vss_nil) (vss_one (vs_ret (ve_or (ve_cmp op_gt lift_iib (ve_call (ok_sign T) (hr.mono (by decide)) (by rfl) T.g_sign T.F_sign.kp T.B_sign .nil pass0 (fun _ _ => reps_nil) (va_cons (ve_var 3) va_nil)) ve_int (nomark _)) (ve_one (ve_and (ve_cmp (op_eqA hr.units) lift_eq (ve_var 3) (ve_glob (by rfl) T.c_ZERO T.r_ZERO T.w_ZERO) (nomark _)) (ve_one (ve_var 4))))))))))), fun ds Q h => ?_⟩
  · obtain ⟨_, _, _, _, _, _, _, rfl, _⟩ := h
    rfl
  · obtain ⟨n, k, m, rt, rs, mt, ms, rfl, hrt, hmt, hrs, hms, hl, hN, hN2, h⟩ := h
    have hit : ∀ p ∈ zipsD rs ms, MulD n k m p := fun p hp => by
      obtain ⟨x, hx, y, hy, e⟩ := zips_mem hp
      exact ⟨x, y, e, hrs x hx, hms y hy⟩
    have hzl : (zipsD rs ms).length ≤ 20 := by rw [zips_len]; omega
    rcases hrt with rfl | rfl <;> rcases hmt with rfl | rfl
    all_goals
      refine vifn (fun ne => ?_) (fun eq => ?_)
      · have ne' : ¬ ms.length = rs.length := fun z => ne (by rw [z])
        rw [decide_eq_false ne', Bool.false_and] at h
        exact h
      have eq' : ms.length = rs.length := by
        have : (ms.length : Int) = (rs.length : Int) := eq
        omega
      rw [decide_eq_true eq', Bool.true_and] at h
      generalize hI : zipsD rs ms = items at hit hzl h
      have negF : items.any negR = true → Q (.bl false) := fun hn => by
        unfold refB at h
        rw [hn] at h
        exact h
      have hv : Nat → True := fun _ => trivial
      refine ⟨Nat.le_of_ble_eq_true rfl, by omega, ?_⟩
      rw [hI]
      refine ⟨fun i sl => (∃ y o5 o6 o7 x, sl = [.d y, .d x, .d (.lst (sumsT (items.take i))), .d (sumsC (items.take i)), .d (.bl ((items.take i).any posR)), o5, o6, o7] ∧ o7.pl) ∧ (items.take i).any negR = false, ⟨⟨_, _, _, _, _, rfl, trivial⟩, rfl⟩, ?_, ?_⟩
      · rintro i d sl hd ⟨⟨y0, o5, o6, o7, x, rfl, p7⟩, hneg⟩
        have hi : i < items.length := (List.getElem?_eq_some_iff.mp hd).1
        have hm := List.mem_of_getElem? hd
        obtain ⟨hT, hTl⟩ := sumsT_ok hit i (by omega)
        have hC := sumsC_ok hit i (by omega)
        have e1 := sumsT_take hd
        have e2 := sumsC_take hd
        have e3 := any_take (f := posR) hd
        have e4 := any_take (f := negR) hd
        obtain ⟨row, by_, rfl, ⟨fs, c, rel, rfl, hf, hc, hfl⟩, hb⟩ := hit d hm
        have b1 : 1 + i * (n + m + 1) + (n + m + 1) ≤ 9000 := by
          have := Nat.mul_le_mul_right (n + m + 1) (show i + 1 ≤ 21 by omega)
          rw [Nat.succ_mul] at this
          omega
        have b2 : 1 + i * (k + m + 1) + (k + m + 1) ≤ 9000 := by
          have := Nat.mul_le_mul_right (k + m + 1) (show i + 1 ≤ 21 by omega)
          rw [Nat.succ_mul] at this
          omega
        have hb' := hb
        obtain ⟨p, q, rfl, B⟩ := hb
        have nx2 : ∀ st : Bool, st = ((items.take i).any posR || posR (.tup [.tup [.tup fs, c, .str rel], .tup [.int p, .int q]])) → ((items.take i).any negR || negR (.tup [.tup [.tup fs, c, .str rel], .tup [.int p, .int q]])) = false → ∀ o5 o6 : Sl,
            (∃ y' o5' o6' o7' x', [Sl.d y0, .d x, .d (.lst (addL (sumsT (items.take i)) fs (.tup [.int p, .int q]))), .d (plusD (sumsC (items.take i)) (timesD (.tup [.int p, .int q]) c)), .d (.bl st), o5, o6, o7] = [Sl.d y', .d x', .d (.lst (sumsT (items.take (i + 1)))), .d (sumsC (items.take (i + 1))), .d (.bl ((items.take (i + 1)).any posR)), o5', o6', o7'] ∧ o7'.pl) ∧ (items.take (i + 1)).any negR = false := fun st h1 h2 o5 o6 => by
          rw [e1, e2, e3, e4, h1]
          exact ⟨⟨_, _, _, _, _, rfl, p7⟩, h2⟩
        have hneg' : negR (.tup [.tup [.tup fs, c, .str rel], .tup [.int p, .int q]]) = (decide (rel = ltS) && decide (sgnI p < 0)) := rfl
        have hpos' : posR (.tup [.tup [.tup fs, c, .str rel], .tup [.int p, .int q]]) = (decide (rel = ltS) && decide (0 < sgnI p)) := rfl
        rw [hneg, hneg', hpos'] at nx2
        refine ⟨rfl, _, rfl, ?_⟩
        refine vifd (fun he => ?_) (fun he => ?_)
        · have he' : rel = ltS := he
          refine ⟨p, _, rfl, ?_⟩
          refine vifd (fun hs => ?_) (fun hs => ?_)
          · refine negF (any_true hm ?_)
            rw [hneg', decide_eq_true he', decide_eq_true hs]
            rfl
          · have ng : (false || (decide (rel = ltS) && decide (sgnI p < 0))) = false := by rw [decide_eq_false hs, Bool.and_false]; rfl
            cases eb : (items.take i).any posR with
            | true => exact ⟨_, rfl, n, m, _, _, _, _, _, rfl, .inl rfl, hT, hf, hb', by omega, by omega, by omega, by omega, _, rfl, m, k, _, _, rfl, hb', hc, by omega, _, m + k, _, _, rfl, hC, times_amt hb' hc, by omega, nx2 _ (by rw [eb]; rfl) ng _ _⟩
            | false =>
              refine ⟨_, rfl, ?_⟩
              refine vifd (fun _ => ?_) (fun hx => absurd he hx)
              refine ⟨p, _, rfl, ?_⟩
              exact ⟨_, rfl, n, m, _, _, _, _, _, rfl, .inl rfl, hT, hf, hb', by omega, by omega, by omega, by omega, _, rfl, m, k, _, _, rfl, hb', hc, by omega, _, m + k, _, _, rfl, hC, times_amt hb' hc, by omega, nx2 _ (by rw [eb, decide_eq_true he']; rfl) ng _ _⟩
        · have he' : ¬ rel = ltS := he
          have ng : (false || (decide (rel = ltS) && decide (sgnI p < 0))) = false := by rw [decide_eq_false he']; rfl
          cases eb : (items.take i).any posR with
          | true => exact ⟨_, rfl, n, m, _, _, _, _, _, rfl, .inl rfl, hT, hf, hb', by omega, by omega, by omega, by omega, _, rfl, m, k, _, _, rfl, hb', hc, by omega, _, m + k, _, _, rfl, hC, times_amt hb' hc, by omega, nx2 _ (by rw [eb]; rfl) ng _ _⟩
          | false =>
            refine ⟨_, rfl, ?_⟩
            refine vifd (fun hx => absurd hx he) (fun _ => ?_)
            exact ⟨_, rfl, n, m, _, _, _, _, _, rfl, .inl rfl, hT, hf, hb', by omega, by omega, by omega, by omega, _, rfl, m, k, _, _, rfl, hb', hc, by omega, _, m + k, _, _, rfl, hC, times_amt hb' hc, by omega, nx2 _ (by rw [eb, decide_eq_false he']; rfl) ng _ _⟩
      · rintro sl ⟨⟨y0, o5, o6, o7, x, rfl, p7⟩, hneg⟩
        rw [List.take_length] at hneg ⊢
        have hT := (sumsT_ok hit items.length (Nat.le_refl _)).1
        have hC := sumsC_ok hit items.length (Nat.le_refl _)
        rw [List.take_length] at hT hC
        unfold refB at h
        rw [hneg] at h
        have h : Q (.bl ((sumsT items).all isZ && (decide (0 < sgnD (sumsC items)) || (isZ (sumsC items) && items.any posR)))) := h
        refine ⟨by rcases sl_pl p7 with rfl | ⟨y, rfl⟩ <;> rfl, ?_⟩
        refine lcF (fun d => .bl (isZ d)) (fun d hd R hR => ?_) ?_
        · obtain ⟨a, b, rfl, _⟩ := hT d hd
          refine ⟨rfl, rfl, ?_⟩
          rw [eqv_amt]
          exact hR
        refine ⟨(sumsT items).map isZ, by rw [List.map_map]; rfl, ?_⟩
        rw [show ((sumsT items).map isZ).all id = (sumsT items).all isZ by rw [List.all_map]; rfl]
        cases ea : (sumsT items).all isZ with
        | false => rw [ea] at h; exact h
        | true =>
          rw [ea] at h
          obtain ⟨a, b, ec, _⟩ := hC
          rw [ec] at h ⊢
          have h : Q (.bl (decide (0 < sgnI a) || ((decide (a = 0) && decide (b = 1)) && items.any posR))) := h
          refine ⟨a, _, rfl, ?_⟩
          refine vifd (fun hp => ?_) (fun hp => ?_)
          · rw [decide_eq_true hp] at h
            exact h
          · rw [decide_eq_false hp] at h
            refine ⟨rfl, rfl, ?_⟩
            rw [eqv_amt]
            cases ez : (decide (a = 0) && decide (b = 1)) with
            | false => rw [ez] at h; exact h
            | true => rw [ez] at h; exact h
def RowsD (w n k : Nat) (d : D) : Prop := ∃ fs c rel, d = .tup [.tup fs, c, .str rel] ∧ fs.length = w ∧ (∀ f ∈ fs, AmtD n f) ∧ AmtD k c ∧ (rel = eqS ∨ rel = ltS)
def befW (w : Nat) (T : List D) : List D := if T.isEmpty = true then List.replicate w zeroD else T
theorem befD_w {fs T : List D} {w : Nat} (h : fs.length = w) : befD T fs = befW w T := by
  unfold befD befW
  rw [List.map_const', h]
theorem befW_len {w : Nat} {T : List D} (h : T.isEmpty = true ∨ T.length = w) : (befW w T).length = w := by
  unfold befW
  split
  · exact List.length_replicate
  · rename_i e
    exact h.resolve_left e
theorem befW_id {w : Nat} {T : List D} (h : T.length = w) : befW w T = T := by
  unfold befW
  split
  · rename_i e
    have : T = [] := List.isEmpty_iff.mp e
    subst this
    subst h
    rfl
  · rfl
def secD : D → D
  | .tup [_, b] => b
  | _ => .non
theorem fm_any {t : D → Bool} {g : D → D} : ∀ items : List D, (items.filterMap fun p => if t p = true then some (g p) else none).isEmpty = !items.any t
  | [] => rfl
  | p :: ps => by
    rw [List.filterMap_cons, List.any_cons]
    cases e : t p with
    | true => simp
    | false => simp [fm_any ps]
theorem sgnI_neg {a : Int} : sgnI a < 0 ↔ a < 0 := by
  unfold sgnI
  by_cases h1 : 0 < a
  · have h2 : ¬ a < 0 := by omega
    simp [h1, h2]
  · by_cases h2 : a < 0 <;> simp [h1, h2]
theorem sgnI_pos {a : Int} : 0 < sgnI a ↔ 0 < a := by
  unfold sgnI
  by_cases h1 : 0 < a
  · have h2 : ¬ a < 0 := by omega
    simp [h1, h2]
  · by_cases h2 : a < 0 <;> simp [h1, h2]
def g_lrefutes (xs : List D) (Q : D → Prop) : Prop := ∃ (wd n k m : Nat) (rs ms : List D), xs = [.lst rs, .int wd, .tup ms] ∧ wd ≤ 20 ∧ (∀ r ∈ rs, RowsD wd n k r) ∧ (∀ y ∈ ms, AmtD m y) ∧ rs.length ≤ 20 ∧ 1 + 21 * (n + m + 1) ≤ 9000 ∧ 1 + 21 * (k + m + 1) ≤ 9000 ∧ Q (.bl (refB (zipsD rs ms)))
theorem ok_l_refutes (T : Tx K mg) : FnOk P w K mg base CX0 5 T.f_l_refutes T.fd_l_refutes ["_law_rows", "_law_width", "_law_multipliers"] (spD K W g_lrefutes) := by
  refine vfn T.F_l_refutes sc_l_refutes (fun ds Q h => ?_) ⟨_, fun cdv A outer s H E hr => (vss_cons (vs_if (vt_cmp (op_neA hr.units) lift_ne (ve_lc (own := [("_law_row", 5), ("_law_by", 6)]) rfl sc_l_refutes.nd (vi_zipK (by rfl) T.n_zip (ve_var 0) (ve_var 2)) (blkOk_by (N := ["_law_rows", "_law_width", "_law_multipliers", "_law_total", "_law_strict", "_law_row", "_law_by", "_law_one", "_law_fac"]) (sc := defScope s_l_refutes) (by decide +kernel)) (fun _ _ _ _ _ => (vg_tup (n := 2) rfl (vgs_cons (vg_name 5 sc_l_refutes.nd (by decide)) (vgs_cons (vg_name 6 sc_l_refutes.nd (by decide)) vgs_nil)))) (fun _ _ _ _ _ => (vts_one (vt_w (vw_and (vt_cmp (op_eqA hr.units) lift_eq (ve_ixA hr.units (ve_var 5) ve_int) ve_str (nomark _)) (vw_and1 (vt_cmp op_ltA lift_lt (ve_ixA hr.units (ve_var 6) ve_int) ve_int (nomark _))))))) (fun sB HB CB clB fpB => (ve_var 6))) (ve_lst va_nil) (nomark _)) (vss_one (vs_ret ve_bl)) vss_nil) (vss_cons (vs_set 3 sc_l_refutes.nd (ve_tup (va_cons (ve_rep (va_cons (ve_tup (va_cons ve_int (va_cons ve_int va_nil))) va_nil) (ve_var 1)) (va_cons (ve_tup (va_cons ve_int (va_cons ve_int va_nil))) va_nil)))) (vss_cons (vs_for (vs := [5, 6]) PassesOwn.never rfl (vi_zipK (by rfl) T.n_zip (ve_var 0) (ve_var 2)) (vg_tup (n := 2) rfl (vgs_cons (vg_name 5 sc_l_refutes.nd (by decide)) (vgs_cons (vg_name 6 sc_l_refutes.nd (by decide)) vgs_nil))) (vss_one (vs_set 3 sc_l_refutes.nd (ve_tup (va_cons (ve_lc (own := [("_law_one", 7), ("_law_fac", 8)]) rfl sc_l_refutes.nd (vi_zipK (by rfl) T.n_zip (ve_ixA hr.units (ve_var 3) ve_int) (ve_ixA hr.units (ve_var 5) ve_int)) (blkOk_by (N := ["_law_rows", "_law_width", "_law_multipliers", "_law_total", "_law_strict", "_law_row", "_law_by", "_law_one", "_law_fac"]) (sc := defScope s_l_refutes) (by decide +kernel)) (fun _ _ _ _ _ => (vg_tup (n := 2) rfl (vgs_cons (vg_name 7 sc_l_refutes.nd (by decide)) (vgs_cons (vg_name 8 sc_l_refutes.nd (by decide)) vgs_nil)))) (fun _ _ _ _ _ => vts_nil) (fun sB HB CB clB fpB => (ve_call (ok_l_plus T) (hr.mono (by decide)) (by rfl) T.g_l_plus T.F_l_plus.kp T.B_l_plus .nil pass0 (fun _ _ => reps_nil) (va_cons (ve_var 7) (va_cons (ve_call (ok_l_times T) (hr.mono (by decide)) (by rfl) T.g_l_times T.F_l_times.kp T.B_l_times .nil pass0 (fun _ _ => reps_nil) (va_cons (ve_var 6) (va_cons (ve_var 8) va_nil))) va_nil))))) (va_cons (ve_call (ok_l_plus T) (hr.mono (by decide)) (by rfl) T.g_l_plus T.F_l_plus.kp T.B_l_plus .nil pass0 (fun _ _ => reps_nil) (va_cons (ve_ixA hr.units (ve_var 3) ve_int) (va_cons (ve_call (ok_l_times T) (hr.mono (by decide)) (by rfl) T.g_l_times T.F_l_times.kp T.B_l_times .nil pass0 (fun _ _ => reps_nil) (va_cons (ve_var 6) (va_cons (ve_ixA hr.units (ve_var 5) ve_int) va_nil))) va_nil))) va_nil)))))) (vss_cons (vs_if (vt_cmp (op_neA hr.units) lift_ne (ve_lc (own := [("_law_one", 7)]) rfl sc_l_refutes.nd (vi_its (ve_ixA hr.units (ve_var 3) ve_int)) (blkOk_by (N := ["_law_rows", "_law_width", "_law_multipliers", "_law_total", "_law_strict", "_law_row", "_law_by", "_law_one", "_law_fac"]) (sc := defScope s_l_refutes) (by decide +kernel)) (fun _ _ _ _ _ => (vg_name 7 sc_l_refutes.nd (by decide))) (fun _ _ _ _ _ => (vts_one (vt_cmp (op_neA hr.units) lift_ne (ve_var 7) (ve_tup (va_cons ve_int (va_cons ve_int va_nil))) (nomark _)))) (fun sB HB CB clB fpB => (ve_var 7))) (ve_lst va_nil) (nomark _)) (vss_one (vs_ret ve_bl)) vss_nil) (vss_cons (vs_setLc 4 (own := [("_law_row", 5), ("_law_by", 6)]) rfl sc_l_refutes.nd rfl rfl (sw_true rfl rfl rfl (by decide +kernel)) (vi_zipK (by rfl) T.n_zip (ve_var 0) (ve_var 2)) (blkOk_by (N := ["_law_rows", "_law_width", "_law_multipliers", "_law_total", "_law_strict", "_law_row", "_law_by", "_law_one", "_law_fac"]) (sc := defScope s_l_refutes) (by decide +kernel)) (fun _ _ _ _ _ => (vg_tup (n := 2) rfl (vgs_cons (vg_name 5 sc_l_refutes.nd (by decide)) (vgs_cons (vg_name 6 sc_l_refutes.nd (by decide)) vgs_nil)))) (fun _ _ _ _ _ => (vts_one (vt_w (vw_and (vt_cmp (op_eqA hr.units) lift_eq (ve_ixA hr.units (ve_var 5) ve_int) ve_str (nomark _)) (vw_and1 (vt_cmp op_gt lift_iib (ve_ixA hr.units (ve_var 6) ve_int) ve_int (nomark _))))))) (fun sB HB CB clB fpB => (ve_var 6))) (vss_one (vs_ret (ve_or (ve_cmp op_gt lift_iib (ve_ixA hr.units (ve_ixA hr.units (ve_var 3) ve_int) ve_int) ve_int (nomark _)) (ve_one (ve_and (ve_cmp (op_eqA hr.units) lift_eq (ve_ixA hr.units (ve_ixA hr.units (ve_var 3) ve_int) ve_int) ve_int (nomark _)) (ve_one (ve_cmp (op_neA hr.units) lift_ne (ve_var 4) (ve_lst va_nil) (nomark _))))))))))))), fun ds Q h => ?_⟩
  · obtain ⟨_, _, _, _, _, _, rfl, _⟩ := h
    rfl
  · obtain ⟨wd, n, k, m, rs, ms, rfl, hw, hrs, hms, hl, hN, hN2, h⟩ := h
    have hit : ∀ p ∈ zipsD rs ms, ∃ fs c rel by_, p = .tup [.tup [.tup fs, c, .str rel], by_] ∧ fs.length = wd ∧ (∀ f ∈ fs, AmtD n f) ∧ AmtD k c ∧ AmtD m by_ := fun p hp => by
      obtain ⟨x, hx, y, hy, e⟩ := zips_mem hp
      obtain ⟨fs, c, rel, rfl, h1, h2, h3, _⟩ := hrs x hx
      exact ⟨fs, c, rel, y, e, h1, h2, h3, hms y hy⟩
    have hmul : ∀ p ∈ zipsD rs ms, MulD n k m p := fun p hp => by
      obtain ⟨fs, c, rel, y, e, h1, h2, h3, h4⟩ := hit p hp
      exact ⟨_, y, e, ⟨fs, c, rel, rfl, h2, h3, by omega⟩, h4⟩
    have hzl : (zipsD rs ms).length ≤ 20 := by rw [zips_len]; omega
    have shF : ∀ t : D → Bool, shp (.lst ((zipsD rs ms).filterMap fun p => if t p = true then some (secD p) else none)) = true := fun t => shp_lst fun x hx => by
      obtain ⟨p, hp, e⟩ := List.mem_filterMap.mp hx
      obtain ⟨fs, c, rel, y, rfl, _, _, _, h4⟩ := hit p hp
      split at e
      · cases e
        exact amt_lay h4
      · cases e
    refine ⟨rfl, by omega, ?_⟩
    generalize hI : zipsD rs ms = items at hit hmul hzl shF h
    refine lcM (fun p => if negR p = true then some (secD p) else none) (fun d hd Y N hY hN => ?_) ?_
    · obtain ⟨fs, c, rel, y, rfl, hfl, hf, hc, hb⟩ := hit d hd
      obtain ⟨p, q, rfl, B⟩ := hb
      have hneg : negR (.tup [.tup [.tup fs, c, .str rel], .tup [.int p, .int q]]) = (decide (rel = ltS) && decide (sgnI p < 0)) := rfl
      refine ⟨rfl, _, rfl, ?_⟩
      refine vifd (fun he => ?_) (fun he => hN ?_)
      · refine ⟨_, rfl, ?_⟩
        refine vifd (fun hs => hY _ ?_) (fun hs => hN ?_)
        · rw [if_pos (by rw [hneg, decide_eq_true (show rel = ltS from he), decide_eq_true (sgnI_neg.mpr hs)]; rfl)]
          rfl
        · rw [if_neg (by rw [hneg, decide_eq_false (fun z => hs (sgnI_neg.mp z)), Bool.and_false]; exact Bool.false_ne_true)]
      · rw [if_neg (by rw [hneg, decide_eq_false (show ¬ rel = ltS from he), Bool.false_and]; exact Bool.false_ne_true)]
    refine ⟨Nat.le_of_ble_eq_true rfl, shF negR, rfl, ?_⟩
    rw [eqv_nil, fm_any]
    unfold refB at h
    cases en : items.any negR with
    | true =>
      rw [en] at h
      exact h
    | false =>
      rw [en] at h
      have h : Q (.bl ((sumsT items).all isZ && (decide (0 < sgnD (sumsC items)) || (isZ (sumsC items) && items.any posR)))) := h
      refine ⟨Nat.le_of_ble_eq_true rfl, Nat.le_of_ble_eq_true rfl, by omega, by omega, by show 1 * _ ≤ _; omega, Nat.le_of_ble_eq_true rfl, Nat.le_of_ble_eq_true rfl, ?_⟩
      rw [Int.toNat_natCast, List.flatten_replicate_singleton]
      dsimp only [List.set]
      refine ⟨by omega, ?_⟩
      rw [hI]
      refine ⟨fun i sl => (∃ o4 o5 o6 o7 o8, sl = [.d (.lst rs), .d (.int wd), .d (.tup ms), .d (.tup [.lst (befW wd (sumsT (items.take i))), sumsC (items.take i)]), o4, o5, o6, o7, o8] ∧ o5.pl ∧ o6.pl ∧ o7.pl ∧ o8.pl) ∧ ((sumsT (items.take i)).isEmpty = true ∨ (sumsT (items.take i)).length = wd), ⟨⟨_, _, _, _, _, rfl, trivial, trivial, trivial, trivial⟩, .inl rfl⟩, ?_, ?_⟩
      · rintro i d sl hd ⟨⟨o4, o5, o6, o7, o8, rfl, p5, p6, p7, p8⟩, hS⟩
        have hi : i < items.length := (List.getElem?_eq_some_iff.mp hd).1
        obtain ⟨hT, hTl⟩ := sumsT_ok hmul i (by omega)
        have hC := sumsC_ok hmul i (by omega)
        have e1 := sumsT_take hd
        have e2 := sumsC_take hd
        obtain ⟨fs, c, rel, y, rfl, hfl, hf, hc, hb⟩ := hit d (List.mem_of_getElem? hd)
        have b1 : 1 + i * (n + m + 1) + (n + m + 1) ≤ 9000 := by
          have := Nat.mul_le_mul_right (n + m + 1) (show i + 1 ≤ 21 by omega)
          rw [Nat.succ_mul] at this
          omega
        have b2 : 1 + i * (k + m + 1) + (k + m + 1) ≤ 9000 := by
          have := Nat.mul_le_mul_right (k + m + 1) (show i + 1 ≤ 21 by omega)
          rw [Nat.succ_mul] at this
          omega
        have hBl := befW_len hS
        have hB : ∀ x ∈ befW wd (sumsT (items.take i)), AmtD (1 + i * (n + m + 1)) x := fun x hx => by
          unfold befW at hx
          split at hx
          · rw [(List.mem_replicate.mp hx).2]
            exact zero_amt.mono (by omega)
          · exact hT x hx
        refine ⟨rfl, by rcases sl_pl p7 with rfl | ⟨x, rfl⟩ <;> rcases sl_pl p8 with rfl | ⟨x', rfl⟩ <;> rfl, _, rfl, _, rfl, by omega, ?_⟩
        refine lcF (addT y) (fun d hd R hR => ?_) ?_
        · obtain ⟨x, hx, f, hf2, rfl⟩ := zips_mem hd
          exact ⟨rfl, m, n, _, _, rfl, hb, hf f hf2, by omega, 1 + i * (n + m + 1), m + n, _, _, rfl, hB x hx, times_amt hb (hf f hf2), by omega, hR⟩
        refine ⟨_, rfl, _, rfl, m, k, _, _, rfl, hb, hc, by omega, 1 + i * (k + m + 1), m + k, _, _, rfl, hC, times_amt hb hc, by omega, Nat.le_of_ble_eq_true rfl, ?_⟩
        dsimp only [List.set]
        have e3 : sumsT (items.take (i + 1)) = (zipsD (befW wd (sumsT (items.take i))) fs).map (addT y) := by
          rw [e1, ← befD_w hfl]
          rfl
        have e4 : sumsC (items.take (i + 1)) = plusD (sumsC (items.take i)) (timesD y c) := e2
        have e5 : (sumsT (items.take (i + 1))).length = wd := by
          rw [e3, List.length_map, zips_len]
          omega
        have e6 := (befW_id e5).trans e3
        refine ⟨?_, .inr e5⟩
        rw [e6, e4]
        exact ⟨_, _, _, _, _, rfl, by trivial, by trivial, p7, p8⟩
      · rintro sl ⟨⟨o4, o5, o6, o7, o8, rfl, p5, p6, p7, p8⟩, hS⟩
        obtain ⟨hT, hTl⟩ := sumsT_ok hmul items.length (Nat.le_refl _)
        have hC := sumsC_ok hmul items.length (Nat.le_refl _)
        rw [List.take_length] at hS hT hC ⊢
        have hB : ∀ x ∈ befW wd (sumsT items), AmtD (1 + items.length * (n + m + 1)) x := fun x hx => by
          unfold befW at hx
          split at hx
          · rw [(List.mem_replicate.mp hx).2]
            exact zero_amt.mono (by omega)
          · exact hT x hx
        have hBz : (befW wd (sumsT items)).all isZ = (sumsT items).all isZ := by
          unfold befW
          split
          · rename_i e
            rw [List.isEmpty_iff.mp e]
            simp [zeroD, isZ]
          · rfl
        refine ⟨by rcases sl_pl p7 with rfl | ⟨x, rfl⟩ <;> rfl, _, rfl, ?_⟩
        refine lcM (fun p => if (!isZ p) = true then some (id p) else none) (fun d hd Y N hY hN => ?_) ?_
        · obtain ⟨a, b, rfl, A⟩ := hB d hd
          refine ⟨Nat.le_of_ble_eq_true rfl, rfl, rfl, ?_⟩
          rw [eqv_amt]
          exact vif (fun e => hY _ (if_pos e)) (fun e => hN (if_neg (fun z => by have z' := z.symm.trans e; cases z')))
        refine ⟨Nat.le_of_ble_eq_true rfl, shp_lst (fun x hx => ?_), rfl, ?_⟩
        · obtain ⟨p, hp, e⟩ := List.mem_filterMap.mp hx
          split at e
          · cases e
            exact amt_lay (hB _ hp)
          · cases e
        rw [eqv_nil, fm_any (t := fun p => !isZ p), ← List.not_all_eq_any_not, hBz]
        cases ea : (sumsT items).all isZ with
        | false =>
          rw [ea] at h
          exact h
        | true =>
          rw [ea] at h
          refine ⟨by rcases sl_pl p5 with rfl | ⟨x, rfl⟩ <;> rcases sl_pl p6 with rfl | ⟨x', rfl⟩ <;> rfl, by omega, ?_⟩
          rw [hI]
          refine lcM (fun p => if posR p = true then some (secD p) else none) (fun d hd Y N hY hN => ?_) ?_
          · obtain ⟨fs, c, rel, y, rfl, hfl, hf, hc, hb⟩ := hit d hd
            obtain ⟨p, q, rfl, B⟩ := hb
            have hpos : posR (.tup [.tup [.tup fs, c, .str rel], .tup [.int p, .int q]]) = (decide (rel = ltS) && decide (0 < sgnI p)) := rfl
            refine ⟨rfl, _, rfl, ?_⟩
            refine vifd (fun he => ?_) (fun he => hN ?_)
            · refine ⟨_, rfl, ?_⟩
              refine vifd (fun hs => hY _ ?_) (fun hs => hN ?_)
              · rw [if_pos (by rw [hpos, decide_eq_true (show rel = ltS from he), decide_eq_true (sgnI_pos.mpr hs)]; rfl)]
                rfl
              · rw [if_neg (by rw [hpos, decide_eq_false (fun z => hs (sgnI_pos.mp z)), Bool.and_false]; exact Bool.false_ne_true)]
            · rw [if_neg (by rw [hpos, decide_eq_false (show ¬ rel = ltS from he), Bool.false_and]; exact Bool.false_ne_true)]
          dsimp only [List.set]
          obtain ⟨a, b, ec, A⟩ := hC
          rw [ec] at h ⊢
          have h : Q (.bl (decide (0 < sgnI a) || ((decide (a = 0) && decide (b = 1)) && items.any posR))) := h
          refine ⟨_, rfl, _, rfl, ?_⟩
          refine vifd (fun hp => ?_) (fun hp => ?_)
          · rw [decide_eq_true (sgnI_pos.mpr hp)] at h
            exact h
          · rw [decide_eq_false (fun z => hp (sgnI_pos.mp z)), Bool.false_or] at h
            refine ⟨_, rfl, _, rfl, ?_⟩
            refine vifd (fun hz => ?_) (fun hz => ?_)
            · have hb1 : b = 1 := by
                have := A.cop
                rw [show a = 0 from hz, Int.gcd_zero_left] at this
                have := A.pos
                omega
              rw [decide_eq_true (show a = 0 from hz), decide_eq_true hb1] at h
              refine ⟨Nat.le_of_ble_eq_true rfl, shF posR, rfl, ?_⟩
              rw [eqv_nil, fm_any, Bool.not_not]
              exact h
            · rw [decide_eq_false (show ¬ a = 0 from hz)] at h
              exact h
open Fs (Bq Sm Rw CdS CdP EI SzE)
def RowW (w L N : Nat) (r : Rw) : Prop := r.f.length = w ∧ W6 L N r.c ∧ ∀ x ∈ r.f, W6 L N x
theorem W6.bq {L N b : Nat} {x : Rat} (h : W6 L N x) (h0 : 0 < L) (h1 : L < 2 ^ b) (h2 : N < 2 ^ b) : Bq b x := by
  obtain ⟨z, e, hz⟩ := h
  exact Fs.iz_bq (L := (L : Int)) (by omega) (by rw [Int.natAbs_natCast]; exact h1) ⟨z, e, by omega⟩
theorem W6.up {L N : Nat} {x : Rat} (h : W6 L N x) : W6 (2 * L) (4 * N + L) x := by
  obtain ⟨z, e, hz⟩ := h
  refine ⟨2 * z, ?_, by omega⟩
  rw [Rat.intCast_mul, ← e, show (((2 * L : Nat) : Int) : Rat) = ((2 : Int) : Rat) * ((L : Int) : Rat) by rw [← Rat.intCast_mul]; rfl]
  grind
theorem W6.sum {L N : Nat} {x y v c : Rat} (hx : W6 L N x) (hy : W6 L N y) (hv : v = -1 ∨ v = 1 ∨ v = -1 / 2) : W6 (2 * L) (4 * N) (v * (x + y)) := by
  obtain ⟨a, e1, h1⟩ := hx
  obtain ⟨b, e2, h2⟩ := hy
  have e0 : (((2 * L : Nat) : Int) : Rat) = 2 * ((L : Int) : Rat) := by
    rw [show (2 : Rat) = ((2 : Int) : Rat) from rfl, ← Rat.intCast_mul]
    rfl
  rcases hv with rfl | rfl | rfl
  · refine ⟨-2 * (a + b), ?_, by omega⟩
    rw [Rat.intCast_mul, Rat.intCast_add, ← e1, ← e2, e0, show ((-2 : Int) : Rat) = -2 from rfl]
    grind
  · refine ⟨2 * (a + b), ?_, by omega⟩
    rw [Rat.intCast_mul, Rat.intCast_add, ← e1, ← e2, e0, show ((2 : Int) : Rat) = 2 from rfl]
    grind
  · refine ⟨-(a + b), ?_, by omega⟩
    rw [Rat.intCast_neg, Rat.intCast_add, ← e1, ← e2, e0]
    grind
theorem W6.half {L N : Nat} {x c : Rat} (hx : W6 (2 * L) (4 * N) x) (hc : c = 0 ∨ c = 1 / 2 ∨ c = -1 / 2) : W6 (2 * L) (4 * N + L) (x + c) := by
  obtain ⟨a, e1, h1⟩ := hx
  have e0 : (((2 * L : Nat) : Int) : Rat) = 2 * ((L : Int) : Rat) := by
    rw [show (2 : Rat) = ((2 : Int) : Rat) from rfl, ← Rat.intCast_mul]
    rfl
  rcases hc with rfl | rfl | rfl
  · exact ⟨a, by rw [← e1]; grind, by omega⟩
  · refine ⟨a + L, ?_, by omega⟩
    rw [Rat.intCast_add, ← e1, e0]
    grind
  · refine ⟨a - L, ?_, by omega⟩
    rw [Rat.intCast_sub, ← e1, e0]
    grind
theorem list_aQ {S : Rat → Prop} : ∀ {ys : List D}, (∀ y ∈ ys, ∃ x, y = aQ x ∧ S x) → ∃ fs : List Rat, ys = fs.map aQ ∧ ∀ x ∈ fs, S x
  | [], _ => ⟨[], rfl, fun _ h => by cases h⟩
  | y :: ys, h => by
    obtain ⟨x, rfl, hx⟩ := h y (.head _)
    obtain ⟨fs, rfl, hf⟩ := list_aQ fun z hz => h z (.tail _ hz)
    refine ⟨x :: fs, rfl, fun z hz => ?_⟩
    rcases List.mem_cons.mp hz with rfl | hz
    · exact hx
    · exact hf z hz
theorem amt_lay1 {n : Nat} {d : D} (h : AmtD n d) : (toPy d).canLay0 = true ∧ (toPy d).depth ≤ 1 := by
  obtain ⟨a, b, rfl, _⟩ := h
  exact ⟨rfl, by show 1 ≤ 1; decide⟩
theorem tup_lay {n : Nat} {l : List D} (h : ∀ x ∈ l, (toPy x).canLay0 = true ∧ (toPy x).depth ≤ n) : (toPy (.tup l)).canLay0 = true ∧ (toPy (.tup l)).depth ≤ n + 1 := by
  obtain ⟨h1, h2⟩ := toPys_lay h
  refine ⟨?_, ?_⟩
  · unfold toPy PyData.canLay0
    exact h1
  · unfold toPy PyData.depth
    omega
theorem aQ_lay1 (x : Rat) : (toPy (aQ x)).canLay0 = true ∧ (toPy (aQ x)).depth ≤ 1 := by
  obtain ⟨n, h⟩ := aQ_any x
  exact amt_lay1 h
theorem rw_lay (r : Rw) : (toPy (rowQ r)).canLay0 = true ∧ (toPy (rowQ r)).depth ≤ 60 := by
  have z : (toPy (.str (if r.e = true then eqS else ltS))).canLay0 = true ∧ (toPy (.str (if r.e = true then eqS else ltS))).depth ≤ 2 := by
    split <;> exact ⟨by decide +kernel, by decide +kernel⟩
  have t := tup_lay (n := 2) (l := [.tup (r.f.map aQ), aQ r.c, .str (if r.e = true then eqS else ltS)]) fun x hx => by
    simp only [List.mem_cons, List.not_mem_nil, or_false] at hx
    rcases hx with rfl | rfl | rfl
    · refine tup_lay (n := 1) fun y hy => ?_
      obtain ⟨q, _, rfl⟩ := List.mem_map.mp hy
      exact aQ_lay1 q
    · exact ⟨(aQ_lay1 _).1, by have := (aQ_lay1 r.c).2; omega⟩
    · exact z
  exact ⟨t.1, by have := t.2; show (toPy (.tup _)).depth ≤ 60; omega⟩
theorem rw_shp (R : List Rw) : shp (.lst (R.map rowQ)) = true := by
  refine shp_lst fun x hx => ?_
  obtain ⟨r, hr, rfl⟩ := List.mem_map.mp hx
  exact rw_lay r
theorem noMut_tup {ds : List D} (h : noMuts ds = true) : noMut (.tup ds) = true := by unfold noMut; exact h
theorem noMut_str {s : Str} : noMut (.str s) = true := by unfold noMut; rfl
theorem noMut_int {s : Int} : noMut (.int s) = true := by unfold noMut; rfl
theorem noMuts_nil : noMuts [] = true := by unfold noMuts; rfl
theorem noMuts_cons {d : D} {ds : List D} (h1 : noMut d = true) (h2 : noMuts ds = true) : noMuts (d :: ds) = true := by
  unfold noMuts
  rw [h1, h2]
  rfl
theorem noMuts_all : ∀ {ds : List D}, (∀ d ∈ ds, noMut d = true) → noMuts ds = true
  | [], _ => noMuts_nil
  | d :: ds, h => noMuts_cons (h d (.head _)) (noMuts_all fun e he => h e (.tail _ he))
theorem rowQ_noMut (r : Rw) : noMut (rowQ r) = true := noMut_tup (noMuts_all fun v hv => by
  simp only [List.mem_cons, List.not_mem_nil, or_false] at hv
  rcases hv with rfl | rfl | rfl
  · exact noMut_tup (noMuts_all fun y hy => by
      obtain ⟨q, _, rfl⟩ := List.mem_map.mp hy
      rfl)
  · rfl
  · rfl)
def LJ (i : Nat) : Nat := 6 * 2 ^ i
def NJ : Nat → Nat
  | 0 => 36
  | i + 1 => 4 * NJ i + LJ i
theorem lj_up (i : Nat) : LJ (i + 1) = 2 * LJ i := by unfold LJ; rw [Nat.pow_succ]; omega
theorem RowW.up {w i : Nat} {r : Rw} (h : RowW w (LJ i) (NJ i) r) : RowW w (LJ (i + 1)) (NJ (i + 1)) r := by
  rw [lj_up]
  exact ⟨h.1, h.2.1.up, fun x hx => (h.2.2 x hx).up⟩
theorem RowW.top {w i : Nat} {r : Rw} (h : RowW w (LJ i) (NJ i) r) (hi : i ≤ 2) : RowW w 24 612 r := by
  match i, hi with
  | 0, _ => exact h.up.up
  | 1, _ => exact h.up
  | 2, _ => exact h
def g_drsys (r : Addr) (xs : List D) (Q : D → Prop) : Prop := ∃ w : Nat, xs = [.hnd (.ref r), .int w] ∧ w ≤ 5 ∧ ∀ R : List Rw, R.length ≤ 8 → (∀ x ∈ R, RowW w 24 612 x) → Q (.lst (R.map rowQ))
theorem ok_l_drawn_system (T : Tx K mg) (r c : Addr) : FnOk P w K mg base CX0 5 T.f_l_drawn_system T.fd_l_drawn_system ["_law_rng", "_law_width"] (spD K (rngW r c) (g_drsys r)) := by
  refine vfn T.F_l_drawn_system sc_l_drawn_system (fun ds Q h => ?_) ⟨_, fun cdv A outer s H E hr => (vss_cons (vs_setNil 2 sc_l_drawn_system.nd) (vss_cons (vs_for (vs := [3]) PassesOwn.never rfl (vi_range1 (by rfl) T.n_range (ve_call (ok_l_draw T r c) (hr.mono (by decide)) (by rfl) T.g_l_draw T.F_l_draw.kp T.B_l_draw .nil pass0 (fun _ _ => reps_nil) (va_cons (ve_var 0) (va_cons ve_int va_nil)))) (vg_name 3 sc_l_drawn_system.nd (by decide)) (vss_cons (vs_set 4 sc_l_drawn_system.nd (ve_callTy call_tuple_of lift_tuple (by rfl) T.n_tuple bt_tuple (va_cons (ve_lc (own := [("_law_j", 10)]) rfl sc_l_drawn_system.nd (vi_range1 (by rfl) T.n_range (ve_var 1)) (blkOk_by (N := ["_law_rng", "_law_width", "_law_rows", "_law_k", "_law_factors_z", "_law_by", "_law_total", "_law_last", "_law_one", "_law_other", "_law_j", "_law_a", "_law_b"]) (sc := defScope s_l_drawn_system) (by decide +kernel)) (fun _ _ _ _ _ => (vg_name 10 sc_l_drawn_system.nd (by decide))) (fun _ _ _ _ _ => vts_nil) (fun sB HB CB clB fpB => (ve_call (ok_l_choice T r c) (hr.mono (by decide)) (by rfl) T.g_l_choice T.F_l_choice.kp T.B_l_choice .nil pass0 (fun _ _ => reps_nil) (va_cons (ve_var 0) (va_cons (ve_lst (va_cons (ve_tup (va_cons ve_int (va_cons ve_int va_nil))) (va_cons (ve_tup (va_cons ve_int (va_cons ve_int va_nil))) (va_cons (ve_call (ok_l_factor T r c) (hr.mono (by decide)) (by rfl) T.g_l_factor T.F_l_factor.kp T.B_l_factor .nil pass0 (fun _ _ => reps_nil) (va_cons (ve_var 0) va_nil)) (va_cons (ve_call (ok_l_amount T r c) (hr.mono (by decide)) (by rfl) T.g_l_amount T.F_l_amount.kp T.B_l_amount .nil pass0 (fun _ _ => reps_nil) (va_cons (ve_var 0) va_nil)) va_nil))))) va_nil))))) va_nil))) (vss_one (vs_app 2 (ve_tup (va_cons (ve_var 4) (va_cons (ve_call (ok_l_choice T r c) (hr.mono (by decide)) (by rfl) T.g_l_choice T.F_l_choice.kp T.B_l_choice .nil pass0 (fun _ _ => reps_nil) (va_cons (ve_var 0) (va_cons (ve_lst (va_cons (ve_tup (va_cons ve_int (va_cons ve_int va_nil))) (va_cons (ve_call (ok_l_amount T r c) (hr.mono (by decide)) (by rfl) T.g_l_amount T.F_l_amount.kp T.B_l_amount .nil pass0 (fun _ _ => reps_nil) (va_cons (ve_var 0) va_nil)) va_nil))) va_nil))) (va_cons (ve_call (ok_l_choice T r c) (hr.mono (by decide)) (by rfl) T.g_l_choice T.F_l_choice.kp T.B_l_choice .nil pass0 (fun _ _ => reps_nil) (va_cons (ve_var 0) (va_cons (ve_lst (va_cons ve_str (va_cons ve_str (va_cons ve_str (va_cons ve_str va_nil))))) va_nil))) va_nil)))))))) (vss_cons (vs_for (vs := [3]) PassesOwn.never rfl (vi_range1 (by rfl) T.n_range (ve_if (vt_fz 2 (vt_cmp (op_neA hr.units) lift_ne (ve_var 2) (ve_lst va_nil) (nomark _))) (ve_call (ok_l_draw T r c) (hr.mono (by decide)) (by rfl) T.g_l_draw T.F_l_draw.kp T.B_l_draw .nil pass0 (fun _ _ => reps_nil) (va_cons (ve_var 0) (va_cons ve_int va_nil))) ve_int)) (vg_name 3 sc_l_drawn_system.nd (by decide)) (vss_cons (vs_par 8 9 rfl sc_l_drawn_system.nd (by decide) (ve_lend 2 (ve_call (ok_l_choice T r c) (hr.mono (by decide)) (by rfl) T.g_l_choice T.F_l_choice.kp T.B_l_choice .nil pass0 (fun _ _ => reps_nil) (va_cons (ve_var 0) (va_cons (ve_var 2) va_nil)))) (ve_lend 2 (ve_call (ok_l_choice T r c) (hr.mono (by decide)) (by rfl) T.g_l_choice T.F_l_choice.kp T.B_l_choice .nil pass0 (fun _ _ => reps_nil) (va_cons (ve_var 0) (va_cons (ve_var 2) va_nil))))) (vss_cons (vs_set 5 sc_l_drawn_system.nd (ve_call (ok_l_choice T r c) (hr.mono (by decide)) (by rfl) T.g_l_choice T.F_l_choice.kp T.B_l_choice .nil pass0 (fun _ _ => reps_nil) (va_cons (ve_var 0) (va_cons (ve_lst (va_cons (ve_tup (va_cons (ve_neg ve_int) (va_cons ve_int va_nil))) (va_cons (ve_tup (va_cons (ve_neg ve_int) (va_cons ve_int va_nil))) (va_cons (ve_tup (va_cons ve_int (va_cons ve_int va_nil))) (va_cons (ve_tup (va_cons (ve_neg ve_int) (va_cons ve_int va_nil))) va_nil))))) va_nil)))) (vss_cons (vs_set 6 sc_l_drawn_system.nd (ve_callTy call_tuple_of lift_tuple (by rfl) T.n_tuple bt_tuple (va_cons (ve_lc (own := [("_law_a", 11), ("_law_b", 12)]) rfl sc_l_drawn_system.nd (vi_zipK (by rfl) T.n_zip (ve_ixA hr.units (ve_var 8) ve_int) (ve_ixA hr.units (ve_var 9) ve_int)) (blkOk_by (N := ["_law_rng", "_law_width", "_law_rows", "_law_k", "_law_factors_z", "_law_by", "_law_total", "_law_last", "_law_one", "_law_other", "_law_j", "_law_a", "_law_b"]) (sc := defScope s_l_drawn_system) (by decide +kernel)) (fun _ _ _ _ _ => (vg_tup (n := 2) rfl (vgs_cons (vg_name 11 sc_l_drawn_system.nd (by decide)) (vgs_cons (vg_name 12 sc_l_drawn_system.nd (by decide)) vgs_nil)))) (fun _ _ _ _ _ => vts_nil) (fun sB HB CB clB fpB => (ve_call (ok_l_times T) (hr.mono (by decide)) (by rfl) T.g_l_times T.F_l_times.kp T.B_l_times .nil pass0 (fun _ _ => reps_nil) (va_cons (ve_var 5) (va_cons (ve_call (ok_l_plus T) (hr.mono (by decide)) (by rfl) T.g_l_plus T.F_l_plus.kp T.B_l_plus .nil pass0 (fun _ _ => reps_nil) (va_cons (ve_var 11) (va_cons (ve_var 12) va_nil))) va_nil))))) va_nil))) (vss_cons (vs_set 7 sc_l_drawn_system.nd (ve_call (ok_l_times T) (hr.mono (by decide)) (by rfl) T.g_l_times T.F_l_times.kp T.B_l_times .nil pass0 (fun _ _ => reps_nil) (va_cons (ve_var 5) (va_cons (ve_call (ok_l_plus T) (hr.mono (by decide)) (by rfl) T.g_l_plus T.F_l_plus.kp T.B_l_plus .nil pass0 (fun _ _ => reps_nil) (va_cons (ve_ixA hr.units (ve_var 8) ve_int) (va_cons (ve_ixA hr.units (ve_var 9) ve_int) va_nil))) va_nil)))) (vss_one (vs_app 2 (ve_tup (va_cons (ve_var 6) (va_cons (ve_call (ok_l_plus T) (hr.mono (by decide)) (by rfl) T.g_l_plus T.F_l_plus.kp T.B_l_plus .nil pass0 (fun _ _ => reps_nil) (va_cons (ve_var 7) (va_cons (ve_call (ok_l_choice T r c) (hr.mono (by decide)) (by rfl) T.g_l_choice T.F_l_choice.kp T.B_l_choice .nil pass0 (fun _ _ => reps_nil) (va_cons (ve_var 0) (va_cons (ve_lst (va_cons (ve_tup (va_cons ve_int (va_cons ve_int va_nil))) (va_cons (ve_tup (va_cons ve_int (va_cons ve_int va_nil))) (va_cons (ve_tup (va_cons ve_int (va_cons ve_int va_nil))) (va_cons (ve_tup (va_cons (ve_neg ve_int) (va_cons ve_int va_nil))) va_nil))))) va_nil))) va_nil))) (va_cons (ve_call (ok_l_choice T r c) (hr.mono (by decide)) (by rfl) T.g_l_choice T.F_l_choice.kp T.B_l_choice .nil pass0 (fun _ _ => reps_nil) (va_cons (ve_var 0) (va_cons (ve_lst (va_cons ve_str (va_cons ve_str va_nil))) va_nil))) va_nil))))))))))) (vss_fz 2 (vss_one (vs_ret (ve_var 2))))))), fun ds Q h => ?_⟩
  · obtain ⟨_, rfl, _⟩ := h
    rfl
  · obtain ⟨w, rfl, hw, h⟩ := h
    have lit0 : W6 6 36 0 := ⟨0, by rw [Rat.zero_mul]; rfl, by decide⟩
    have rels : ∀ {d : D}, d ∈ [D.str "<", .str "<", .str "<", .str "="] ∨ d ∈ [D.str "<", .str "="] → ∃ e : Bool, d = .str (if e = true then eqS else ltS) := fun {d} hd => by
      simp only [List.mem_cons, List.not_mem_nil, or_false] at hd
      rcases hd with (rfl | rfl | rfl | rfl) | (rfl | rfl)
      · exact ⟨false, rfl⟩
      · exact ⟨false, rfl⟩
      · exact ⟨false, rfl⟩
      · exact ⟨true, rfl⟩
      · exact ⟨false, rfl⟩
      · exact ⟨true, rfl⟩
    refine ⟨Nat.le_of_ble_eq_true rfl, ?_⟩
    refine ⟨7, rfl, by decide, by decide, fun m m0 m1 => ?_⟩
    refine ⟨by omega, by omega, ?_⟩
    refine ⟨fun i sl => ∃ (R : List Rw) (o3 o4 : Sl), sl = [.d (.hnd (.ref r)), .d (.int w), .ml (R.map rowQ), o3, o4, .un, .un, .un, .un, .un, .un, .un, .un] ∧ R.length = i ∧ ∀ x ∈ R, RowW w 6 36 x, ⟨[], _, _, rfl, rfl, fun x hx => by cases hx⟩, ?_, ?_⟩
    · rintro i d sl hd ⟨R, o3, o4, rfl, hl, hR⟩
      have hi : i < m.toNat := by
        have := (List.getElem?_eq_some_iff.mp hd).1
        rwa [show (rngD 0 m.toNat).length = m.toNat by simp [rngD]] at this
      refine ⟨rfl, by omega, by omega, ?_⟩
      refine lcR (fun _ y => ∃ x, y = aQ x ∧ W6 6 36 x) (fun d hd Y hY => ?_) (fun ys hys => ?_)
      · refine ⟨Nat.le_of_ble_eq_true rfl, Nat.le_of_ble_eq_true rfl, rfl, fun x hx => ⟨rfl, fun y hy => ⟨Nat.le_of_ble_eq_true rfl, _, rfl, Nat.le_of_ble_eq_true rfl, Nat.le_of_ble_eq_true rfl, fun d hd => hY _ ?_⟩⟩⟩
        simp only [List.mem_cons, List.not_mem_nil, or_false] at hd
        rcases hd with rfl | rfl | rfl | rfl
        · exact ⟨0, rfl, lit0⟩
        · exact ⟨0, rfl, lit0⟩
        · exact ⟨_, rfl, hx⟩
        · exact ⟨_, rfl, hy⟩
      have hyl := hys.len
      rw [show (rngD 0 ((w : Int)).toNat).length = w by simp [rngD]] at hyl
      obtain ⟨fs, rfl, hfs⟩ := list_aQ (hys.mem (S := fun y => ∃ x, y = aQ x ∧ W6 6 36 x))
      rw [List.length_map] at hyl
      dsimp only [List.set]
      refine ⟨Nat.le_of_ble_eq_true rfl, rfl, fun a ha => ⟨Nat.le_of_ble_eq_true rfl, _, rfl, Nat.le_of_ble_eq_true rfl, Nat.le_of_ble_eq_true rfl, fun cd hc => ?_⟩⟩
      have hc : ∃ x, cd = aQ x ∧ W6 6 36 x := by
        simp only [List.mem_cons, List.not_mem_nil, or_false] at hc
        rcases hc with rfl | rfl
        · exact ⟨0, rfl, lit0⟩
        · exact ⟨_, rfl, ha⟩
      obtain ⟨cx, rfl, hcx⟩ := hc
      refine ⟨Nat.le_of_ble_eq_true rfl, _, rfl, Nat.le_of_ble_eq_true rfl, Nat.le_of_ble_eq_true rfl, fun rd hr => ?_⟩
      obtain ⟨e, rfl⟩ := rels (.inl hr)
      refine ⟨Nat.le_of_ble_eq_true rfl, by rw [List.length_map]; omega, R ++ [⟨fs, cx, e⟩], .d d, .d (.tup (fs.map aQ)), ?_, by rw [List.length_append, hl]; rfl, fun x hx => ?_⟩
      · rw [List.map_append]
        rfl
      · rcases List.mem_append.mp hx with hx | hx
        · exact hR x hx
        · rw [List.mem_singleton.mp hx]
          exact ⟨by omega, hcx, hfs⟩
    rintro sl ⟨R, o3, o4, rfl, hl, hR⟩
    rw [show (rngD 0 m.toNat).length = m.toNat by simp [rngD]] at hl
    have hshp := rw_shp R
    refine ⟨Nat.le_of_ble_eq_true rfl, hshp, rfl, ?_⟩
    rw [eqv_nil]
    cases R with
    | nil =>
      refine ⟨by decide, by decide, ?_⟩
      refine ⟨fun i sl => ∃ o3 : Sl, sl = [.d (.hnd (.ref r)), .d (.int w), .ml (([] : List Rw).map rowQ), o3, o4, .un, .un, .un, .un, .un, .un, .un, .un], ⟨o3, rfl⟩, ?_, ?_⟩
      · rintro i d sl hd ⟨o3, rfl⟩
        cases hd
      · rintro sl ⟨o3, rfl⟩
        exact h [] (by decide) fun x hx => by cases hx
    | cons r0 R =>
    refine ⟨3, rfl, by decide, by decide, fun m2 m20 m21 => ?_⟩
    refine ⟨by omega, by omega, ?_⟩
    refine ⟨fun i sl => ∃ (R : List Rw) (o3 o4 o5 o6 o7 o8 o9 : Sl), sl = [.d (.hnd (.ref r)), .d (.int w), .ml (R.map rowQ), o3, o4, o5, o6, o7, o8, o9, .un, .un, .un] ∧ R.length ≤ 6 + i ∧ 0 < R.length ∧ ∀ x ∈ R, RowW w (LJ i) (NJ i) x, ⟨r0 :: R, _, _, _, _, _, _, _, rfl, by omega, by rw [List.length_cons]; omega, hR⟩, ?_, ?_⟩
    · rintro i d sl hd ⟨R, o3, o4, o5, o6, o7, o8, o9, rfl, hl, h0, hR⟩
      have hi : i < m2.toNat := by
        have := (List.getElem?_eq_some_iff.mp hd).1
        rwa [show (rngD 0 m2.toNat).length = m2.toNat by simp [rngD]] at this
      have hi2 : i < 2 := by omega
      have sizes : 0 < LJ i ∧ LJ i < 2 ^ 10 ∧ NJ i < 2 ^ 10 ∧ 0 < 2 * LJ i ∧ 2 * LJ i < 2 ^ 10 ∧ 4 * NJ i < 2 ^ 10 := by
        match i, hi2 with
        | 0, _ => decide
        | 1, _ => decide
      obtain ⟨s1, s2, s3, s4, s5, s6⟩ := sizes
      have inR : ∀ {d : D}, d ∈ R.map rowQ → ∃ x ∈ R, d = rowQ x := fun {d} hd => by
        obtain ⟨x, hx, rfl⟩ := List.mem_map.mp hd
        exact ⟨x, hx, rfl⟩
      refine ⟨_, rfl, by rw [List.length_map]; exact h0, by rw [List.length_map]; omega, fun d1 hd1 => ?_⟩
      obtain ⟨r1, hr1, rfl⟩ := inR hd1
      refine ⟨rowQ_noMut r1, _, rfl, by rw [List.length_map]; exact h0, by rw [List.length_map]; omega, fun d2 hd2 => ?_⟩
      obtain ⟨r2, hr2, rfl⟩ := inR hd2
      refine ⟨rowQ_noMut r2, ?_⟩
      dsimp only [List.set]
      obtain ⟨w1, c1, f1⟩ := hR r1 hr1
      obtain ⟨w2, c2, f2⟩ := hR r2 hr2
      refine ⟨Nat.le_of_ble_eq_true rfl, Nat.le_of_ble_eq_true rfl, Nat.le_of_ble_eq_true rfl, Nat.le_of_ble_eq_true rfl, Nat.le_of_ble_eq_true rfl, _, rfl, Nat.le_of_ble_eq_true rfl, Nat.le_of_ble_eq_true rfl, fun bd hb => ?_⟩
      have hb : ∃ v, bd = aQ v ∧ (v = -1 ∨ v = 1 ∨ v = -1 / 2) ∧ Bq 2 v := by
        have mh : aQ (-1 / 2) = .tup [.int (-1), .int 2] := by
          have hh : AmtD 2 (.tup [.int (-1), .int 2]) := ⟨-1, 2, rfl, by decide, by decide, by decide, by decide⟩
          have e := aQ_of hh
          rw [show qD (.tup [.int (-1), .int 2]) = -1 / 2 by show Rat.divInt (-1) 2 = -1 / 2; rw [Rat.divInt_eq_div]; rfl] at e
          exact e.symm
        have hh : Bq 2 (-1 / 2) := bq_aQ (by rw [mh]; exact ⟨-1, 2, rfl, by decide, by decide, by decide, by decide⟩)
        simp only [List.mem_cons, List.not_mem_nil, or_false] at hb
        rcases hb with rfl | rfl | rfl | rfl
        · exact ⟨-1, rfl, .inl rfl, by decide, by decide⟩
        · exact ⟨-1, rfl, .inl rfl, by decide, by decide⟩
        · exact ⟨1, rfl, .inr (.inl rfl), by decide, by decide⟩
        · exact ⟨-1 / 2, mh.symm, .inr (.inr rfl), hh⟩
      obtain ⟨v, rfl, hv, bv⟩ := hb
      dsimp only [List.set]
      have one : ∀ (x y : Rat), W6 (LJ i) (NJ i) x → W6 (LJ i) (NJ i) y → Bq 10 x ∧ Bq 10 y ∧ Bq 21 (x + y) ∧ W6 (2 * LJ i) (4 * NJ i) (v * (x + y)) := fun x y hx hy => by
        have b1 := hx.bq s1 s2 s3
        have b2 := hy.bq s1 s2 s3
        exact ⟨b1, b2, bq_plus b1 b2, W6.sum (c := 0) hx hy hv⟩
      refine ⟨rfl, _, rfl, _, rfl, by rw [List.length_map, w1]; omega, ?_⟩
      refine lcR (fun _ y => ∃ x, y = aQ x ∧ W6 (2 * LJ i) (4 * NJ i) x) (fun d hd Y hY => ?_) (fun ys hys => ?_)
      · obtain ⟨x, hx, y, hy, rfl⟩ := zips_mem hd
        obtain ⟨x, hx', rfl⟩ := List.mem_map.mp hx
        obtain ⟨y, hy', rfl⟩ := List.mem_map.mp hy
        obtain ⟨b1, b2, b3, hw3⟩ := one x y (f1 x hx') (f2 y hy')
        refine ⟨rfl, 10, 10, _, _, rfl, aQ_amt b1, aQ_amt b2, by decide, ?_⟩
        rw [plus_aQ]
        refine ⟨2, 21, _, _, rfl, aQ_amt bv, aQ_amt b3, by decide, ?_⟩
        rw [times_aQ]
        exact hY _ ⟨_, rfl, hw3⟩
      have hyl := hys.len
      rw [zips_len, List.length_map, List.length_map, w1, w2, Nat.min_self] at hyl
      obtain ⟨fs, rfl, hfs⟩ := list_aQ (hys.mem (S := fun y => ∃ x, y = aQ x ∧ W6 (2 * LJ i) (4 * NJ i) x))
      rw [List.length_map] at hyl
      dsimp only [List.set]
      obtain ⟨b1, b2, b3, hw3⟩ := one r1.c r2.c c1 c2
      refine ⟨_, rfl, _, rfl, 10, 10, _, _, rfl, aQ_amt b1, aQ_amt b2, by decide, ?_⟩
      rw [plus_aQ]
      refine ⟨2, 21, _, _, rfl, aQ_amt bv, aQ_amt b3, by decide, ?_⟩
      rw [times_aQ]
      dsimp only [List.set]
      refine ⟨Nat.le_of_ble_eq_true rfl, Nat.le_of_ble_eq_true rfl, Nat.le_of_ble_eq_true rfl, Nat.le_of_ble_eq_true rfl, Nat.le_of_ble_eq_true rfl, _, rfl, Nat.le_of_ble_eq_true rfl, Nat.le_of_ble_eq_true rfl, fun cd hc => ?_⟩
      have hc : ∃ q, cd = aQ q ∧ (q = 0 ∨ q = 1 / 2 ∨ q = -1 / 2) ∧ Bq 2 q := by
        have mh : aQ (-1 / 2) = .tup [.int (-1), .int 2] := by
          have hh : AmtD 2 (.tup [.int (-1), .int 2]) := ⟨-1, 2, rfl, by decide, by decide, by decide, by decide⟩
          have e := aQ_of hh
          rw [show qD (.tup [.int (-1), .int 2]) = -1 / 2 by show Rat.divInt (-1) 2 = -1 / 2; rw [Rat.divInt_eq_div]; rfl] at e
          exact e.symm
        simp only [List.mem_cons, List.not_mem_nil, or_false] at hc
        rcases hc with rfl | rfl | rfl | rfl
        · exact ⟨0, rfl, .inl rfl, by decide, by decide⟩
        · exact ⟨0, rfl, .inl rfl, by decide, by decide⟩
        · exact ⟨1 / 2, aQ_half.symm, .inr (.inl rfl), bq_aQ (by rw [aQ_half]; exact ⟨1, 2, rfl, by decide, by decide, by decide, by decide⟩)⟩
        · exact ⟨-1 / 2, mh.symm, .inr (.inr rfl), bq_aQ (by rw [mh]; exact ⟨-1, 2, rfl, by decide, by decide, by decide, by decide⟩)⟩
      obtain ⟨q, rfl, hq, bq⟩ := hc
      have b4 : Bq 12 (v * (r1.c + r2.c)) := (hw3.bq s4 (Nat.lt_of_lt_of_le s5 (by decide : 2 ^ 10 ≤ 2 ^ 12)) (Nat.lt_of_lt_of_le s6 (by decide : 2 ^ 10 ≤ 2 ^ 12)))
      refine ⟨12, 2, _, _, rfl, aQ_amt b4, aQ_amt bq, by decide, ?_⟩
      rw [plus_aQ]
      refine ⟨Nat.le_of_ble_eq_true rfl, _, rfl, Nat.le_of_ble_eq_true rfl, Nat.le_of_ble_eq_true rfl, fun rd hr => ?_⟩
      obtain ⟨e, rfl⟩ := rels (.inr hr)
      refine ⟨Nat.le_of_ble_eq_true rfl, by rw [List.length_map]; omega, R ++ [⟨fs, v * (r1.c + r2.c) + q, e⟩], .d d, o4, .d (aQ v), .d (.tup (fs.map aQ)), .d (aQ (v * (r1.c + r2.c))), .d (rowQ r1), .d (rowQ r2), ?_, by rw [List.length_append, List.length_singleton]; omega, by rw [List.length_append, List.length_singleton]; omega, fun x hx => ?_⟩
      · rw [List.map_append]
        rfl
      · rcases List.mem_append.mp hx with hx | hx
        · exact (hR x hx).up
        · rw [List.mem_singleton.mp hx, lj_up]
          refine ⟨by omega, W6.half hw3 hq, fun y hy => ?_⟩
          have := W6.half (hfs y hy) (c := 0) (.inl rfl)
          rw [show y + 0 = y by grind] at this
          exact this
    · rintro sl ⟨R, o3, o4, o5, o6, o7, o8, o9, rfl, hl, h0, hR⟩
      rw [show (rngD 0 m2.toNat).length = m2.toNat by simp [rngD]] at hl hR
      exact h R (by omega) fun x hx => (hR x hx).top (by omega)
def g_is_amount (xs : List D) (Q : D → Prop) : Prop := ∃ x, xs = [x] ∧ plain x = true ∧ Q (.bl (isAmt x))
theorem ok_l_is_amount (T : Tx K mg) : FnOk P w K mg base CX0 2 T.f_l_is_amount T.fd_l_is_amount ["_law_value"] (spD K W g_is_amount) := by
  refine vfn T.F_l_is_amount sc_l_is_amount (fun ds Q h => ?_) ⟨_, fun cdv A outer s H E hr => (vss_cons (vs_if (vt_w (vw_or (vt_not (vt_val (ve_isi .tuple (by rfl) T.n_isinstance bt_isinstance (ve_var 0) (by rfl) T.n_tuple bt_tuple))) (vw_or1 (vt_cmp (op_neA hr.units) lift_ne (ve_callB call_len lift_len (by rfl) T.n_len bt_len (va_cons (ve_var 0) va_nil)) ve_int (nomark _))))) (vss_one (vs_ret ve_bl)) vss_nil) (vss_cons (vs_if (vt_not (vt_val (ve_callB (cr_all (by rfl)) lift_all (by rfl) T.n_all bt_all (va_cons (ve_lc (own := [("_law_one", 1)]) rfl sc_l_is_amount.nd (vi_its (ve_var 0)) (blkOk_by (N := ["_law_value", "_law_one"]) (sc := defScope s_l_is_amount) (by decide +kernel)) (fun _ _ _ _ _ => (vg_name 1 sc_l_is_amount.nd (by decide))) (fun _ _ _ _ _ => vts_nil) (fun sB HB CB clB fpB => (ve_and (ve_isi .int (by rfl) T.n_isinstance bt_isinstance (ve_var 1) (by rfl) T.n_int bt_int) (ve_one (ve_not (ve_isi .bool (by rfl) T.n_isinstance bt_isinstance (ve_var 1) (by rfl) T.n_bool bt_bool)))))) va_nil)))) (vss_one (vs_ret ve_bl)) vss_nil) (vss_one (vs_ret (ve_and (ve_cmp op_gt lift_iib (ve_ixA hr.units (ve_var 0) ve_int) ve_int (nomark _)) (ve_one (ve_cmp (op_eqA hr.units) lift_eq (ve_call (ok_l_divisor T) (hr.mono (by decide)) (by rfl) T.g_l_divisor T.F_l_divisor.kp T.B_l_divisor .nil pass0 (fun _ _ => reps_nil) (va_cons (ve_ixA hr.units (ve_var 0) ve_int) (va_cons (ve_ixA hr.units (ve_var 0) ve_int) va_nil))) ve_int (nomark _)))))))), fun ds Q h => ?_⟩
  · obtain ⟨a, rfl, _⟩ := h
    rfl
  · obtain ⟨x, rfl, h1, h⟩ := h
    cases x with
    | tup ds =>
      have hp := plains_all (plain_tup h1)
      match ds, h, hp with
      | [], h, _ => exact ⟨rfl, h⟩
      | [a], h, _ => exact ⟨rfl, h⟩
      | a :: b :: c :: r, h, _ => exact ⟨rfl, h⟩
      | [a, b], h, hp =>
        refine ⟨rfl, rfl, ?_⟩
        conv => whnf
        refine lcF (fun d => .bl (isI d)) (fun d hd R hR => ?_) ?_
        · refine ⟨plain_nh (hp d hd), ?_⟩
          cases e : isTy .int d with
          | true => refine ⟨plain_nh (hp d hd), ?_⟩; unfold isI at hR; rw [e] at hR; exact hR
          | false => unfold isI at hR; rw [e] at hR; exact hR
        refine ⟨[isI a, isI b], rfl, ?_⟩
        rcases isI_cases a with ⟨i, rfl⟩ | ha
        · rcases isI_cases b with ⟨j, rfl⟩ | hb
          · refine ⟨_, rfl, ?_⟩
            refine vifd (fun hj => ?_) (fun hj => ?_)
            · refine ⟨_, rfl, _, rfl, i, j, rfl, ?_⟩
              rw [amt2_int hj] at h
              exact h
            · rw [amt2_not hj] at h
              exact h
          · rw [amt2_r hb] at h
            rw [show [isI (D.int i), isI b].all id = false by rw [hb]; rfl]
            exact h
        · rw [amt2_l ha] at h
          rw [show [isI a, isI b].all id = false by rw [ha]; rfl]
          exact h
    | hnd v => cases h1
    | dic _ _ => cases h1
    | ins _ _ _ => cases h1
    | lam _ _ => cases h1
    | _ => exact ⟨rfl, h⟩
open Fs (Bq Sm Rw CdS CdP EI SzE)
structure Sys (R : List Rw) (w : Nat) : Prop where
  w5 : w ≤ 5
  n8 : R.length ≤ 8
  rw : ∀ x ∈ R, RowW w 24 612 x
theorem w6_iz {x : Rat} (h : W6 24 612 x) : Fs.Iz 10 24 x := by
  obtain ⟨z, e, hz⟩ := h
  exact ⟨z, e, Nat.lt_of_le_of_lt hz (by decide)⟩
theorem Sys.cd {R : List Rw} {w : Nat} (h : Sys R w) : ∀ i, i < R.length → CdS 10 (Fs.baseR R.length (i, Fs.rowA R i)) := fun i hi => by
  obtain ⟨h1, h2, h3⟩ := h.rw _ (row_in hi)
  have z0 : Fs.Iz 10 24 0 := ⟨0, by rw [Rat.zero_mul]; rfl, by decide⟩
  have z1 : Fs.Iz 10 24 1 := ⟨24, by rw [Rat.one_mul], by decide⟩
  refine ⟨⟨24, by decide, by decide, w6_iz h2, fun k => ?_, fun j => ?_⟩⟩
  · by_cases hk : k < (Fs.rowA R i).f.length
    · exact w6_iz (h3 _ (List.mem_of_getElem? (gt_get hk)))
    · show Fs.Iz 10 24 (Fs.gt (Fs.rowA R i).f k)
      rw [Fs.gt_out (by omega)]
      exact z0
  · show Fs.Iz 10 24 (Fs.gt ((List.range R.length).map fun k => if k = i then (1 : Rat) else 0) j)
    by_cases hj : j < R.length
    · rw [Fs.gt_base hj]
      split
      · exact z1
      · exact z0
    · rw [Fs.gt_out (by rw [List.length_map, List.length_range]; omega)]
      exact z0
theorem Sys.sz {w : Nat} (h : w ≤ 5) : Fs.bt 10 w ≤ 351 ∧ Fs.tt 10 w ≤ 697 := ⟨Nat.le_trans (Fs.bt_le h) (by decide), Nat.le_trans (Fs.tt_le h) (by decide)⟩
theorem Sys.ok {R : List Rw} {w : Nat} (h : Sys R w) : RowsOk R w 10 := by
  have := h.w5
  have := h.n8
  obtain ⟨s1, s2⟩ := Sys.sz h.w5
  exact ⟨by decide, fun r hr => (h.rw r hr).1, by omega, by omega, h.cd, by omega⟩
theorem Sys.few {R : List Rw} {w : Nat} (h : Sys R w) : ∀ piv S g, EI R w piv [] S g → ∀ sp t, t ≤ w → (Fs.stT sp S t).length < 16000000 := fun piv S g hI sp t ht => by
  have hu : (Fs.US R).length ≤ 8 := by
    have := List.length_filter_le (fun i => !(Fs.rowA R i).e) (List.range R.length)
    rw [List.length_range] at this
    exact Nat.le_trans this h.n8
  have := Fs.few hI hu sp (t := t) (by have := h.w5; omega)
  omega
theorem Sys.size {R : List Rw} {w : Nat} (h : Sys R w) : AnsSz 10 w (Fs.solveR R w) := solve_size h.ok.wd h.ok.w14 h.ok.init
theorem Sys.good {R : List Rw} {w : Nat} (h : Sys R w) : Fs.Good R w (Fs.solveR R w) := Fs.solve_good h.ok.wd
theorem Sys.rowD {R : List Rw} {w : Nat} (h : Sys R w) : ∀ d ∈ R.map rowQ, RowD 10 10 d ∧ RowsD w 10 10 d := fun d hd => by
  obtain ⟨r, hr, rfl⟩ := List.mem_map.mp hd
  obtain ⟨h1, h2, h3⟩ := h.rw r hr
  have h5 := h.w5
  have bq : ∀ {x : Rat}, W6 24 612 x → AmtD 10 (aQ x) := fun hx => aQ_amt (hx.bq (by decide) (by decide) (by decide))
  have hf : ∀ f ∈ r.f.map aQ, AmtD 10 f := fun f hf => by
    obtain ⟨x, hx, rfl⟩ := List.mem_map.mp hf
    exact bq (h3 x hx)
  refine ⟨⟨_, _, _, rfl, hf, bq h2, by rw [List.length_map]; omega⟩, ⟨_, _, _, rfl, by rw [List.length_map]; exact h1, hf, bq h2, ?_⟩⟩
  split
  · exact .inl rfl
  · exact .inr rfl
def g_lsol (xs : List D) (Q : D → Prop) : Prop := ∃ (R : List Rw) (w : Nat), xs = [.lst (R.map rowQ), .int w, ansQ (Fs.solveR R w)] ∧ Sys R w ∧ Q (.bl true)
theorem ok_l_is_solution (T : Tx K mg) : FnOk P w K mg base CX0 7 T.f_l_is_solution T.fd_l_is_solution ["_law_rows", "_law_width", "_law_found"] (spD K W g_lsol) := by
  refine vfn T.F_l_is_solution sc_l_is_solution (fun ds Q h => ?_) ⟨_, fun cdv A outer s H E hr => (vss_cons (vs_if (vt_w (vw_or (vt_not (vt_val (ve_isi .tuple (by rfl) T.n_isinstance bt_isinstance (ve_var 2) (by rfl) T.n_tuple bt_tuple))) (vw_or (vt_cmp (op_neA hr.units) lift_ne (ve_callB call_len lift_len (by rfl) T.n_len bt_len (va_cons (ve_var 2) va_nil)) ve_int (nomark _)) (vw_or1 (vt_not (vt_val (ve_isi .tuple (by rfl) T.n_isinstance bt_isinstance (ve_ixA hr.units (ve_var 2) ve_int) (by rfl) T.n_tuple bt_tuple))))))) (vss_one (vs_ret ve_bl)) vss_nil) (vss_cons (vs_if (vt_not (vt_val (ve_callB (cr_all (by rfl)) lift_all (by rfl) T.n_all bt_all (va_cons (ve_lc (own := [("_law_one", 4)]) rfl sc_l_is_solution.nd (vi_its (ve_ixA hr.units (ve_var 2) ve_int)) (blkOk_by (N := ["_law_rows", "_law_width", "_law_found", "_law_good", "_law_one"]) (sc := defScope s_l_is_solution) (by decide +kernel)) (fun _ _ _ _ _ => (vg_name 4 sc_l_is_solution.nd (by decide))) (fun _ _ _ _ _ => vts_nil) (fun sB HB CB clB fpB => (ve_call (ok_l_is_amount T) (hr.mono (by decide)) (by rfl) T.g_l_is_amount T.F_l_is_amount.kp T.B_l_is_amount .nil pass0 (fun _ _ => reps_nil) (va_cons (ve_var 4) va_nil)))) va_nil)))) (vss_one (vs_ret ve_bl)) vss_nil) (vss_cons (vs_if (vt_cmp (op_eqA hr.units) lift_eq (ve_ixA hr.units (ve_var 2) ve_int) ve_str (nomark _)) (vss_one (vs_ret (ve_and (ve_cmp (op_eqA hr.units) lift_eq (ve_callB call_len lift_len (by rfl) T.n_len bt_len (va_cons (ve_ixA hr.units (ve_var 2) ve_int) va_nil)) (ve_var 1) (nomark _)) (ve_and (ve_call (ok_l_is_point T) (hr.mono (by decide)) (by rfl) T.g_l_is_point T.F_l_is_point.kp T.B_l_is_point .nil pass0 (fun _ _ => reps_nil) (va_cons (ve_var 0) (va_cons (ve_ixA hr.units (ve_var 2) ve_int) va_nil))) (ve_one (ve_call (ok_is_point T) (hr.mono (by decide)) (by rfl) T.g_is_point T.F_is_point.kp T.B_is_point .nil pass0 (fun _ _ => reps_nil) (va_cons (ve_var 0) (va_cons (ve_ixA hr.units (ve_var 2) ve_int) va_nil)))))))) vss_nil) (vss_cons (vs_set 3 sc_l_is_solution.nd (ve_and (ve_cmp (op_eqA hr.units) lift_eq (ve_ixA hr.units (ve_var 2) ve_int) ve_str (nomark _)) (ve_one (ve_cmp (op_eqA hr.units) lift_eq (ve_callB call_len lift_len (by rfl) T.n_len bt_len (va_cons (ve_ixA hr.units (ve_var 2) ve_int) va_nil)) (ve_callB call_len lift_len (by rfl) T.n_len bt_len (va_cons (ve_var 0) va_nil)) (nomark _))))) (vss_one (vs_ret (ve_and (ve_var 3) (ve_and (ve_call (ok_l_refutes T) (hr.mono (by decide)) (by rfl) T.g_l_refutes T.F_l_refutes.kp T.B_l_refutes .nil pass0 (fun _ _ => reps_nil) (va_cons (ve_var 0) (va_cons (ve_var 1) (va_cons (ve_ixA hr.units (ve_var 2) ve_int) va_nil)))) (ve_one (ve_call (ok_refutes T) (hr.mono (by decide)) (by rfl) T.g_refutes T.F_refutes.kp T.B_refutes .nil pass0 (fun _ _ => reps_nil) (va_cons (ve_var 0) (va_cons (ve_ixA hr.units (ve_var 2) ve_int) va_nil)))))))))))), fun ds Q h => ?_⟩
  · obtain ⟨_, _, rfl, _⟩ := h
    rfl
  · obtain ⟨R, w, rfl, hS, h⟩ := h
    have hA := hS.size
    have hG := hS.good
    have h5 := hS.w5
    have h8 := hS.n8
    obtain ⟨s1, s2⟩ := Sys.sz h5
    have isA : ∀ x : Rat, isAmt (aQ x) = true := fun x => by
      obtain ⟨n, a, b, e, A⟩ := aQ_any x
      rw [e]
      exact amt_is A
    have allA : ∀ l : List Rat, (l.map fun x => isAmt (aQ x)).all id = true := fun l => by
      rw [List.all_map]
      exact List.all_eq_true.mpr fun x _ => isA x
    have plA : ∀ x : Rat, plain (aQ x) = true := fun x => by
      obtain ⟨n, h⟩ := aQ_any x
      exact tame_plain (amt_tame h)
    cases hs : Fs.solveR R w with
    | point p =>
      rw [hs] at hA hG
      have PO : PtOk R w 10 (1 + Fs.tt 10 w) p := ⟨hS.ok.wd, hS.ok.w14, hS.cd, hA, hG.1, by omega⟩
      refine ⟨rfl, _, rfl, rfl, ?_⟩
      refine ⟨rfl, _, rfl, ?_⟩
      refine lcG (g := aQ) (fun x => .bl (isAmt (aQ x))) (fun x hx Y hY => ⟨_, rfl, plA x, hY⟩) ?_
      refine ⟨p.map fun x => isAmt (aQ x), by rw [List.map_map]; rfl, ?_⟩
      rw [allA p]
      refine ⟨_, rfl, ?_⟩
      refine ⟨_, rfl, ?_⟩
      refine vifd (fun _ => ?_) (fun z => absurd (show (((p.map aQ).length : Nat) : Int) = (w : Int) by rw [List.length_map, hG.1]) z)
      refine ⟨_, rfl, R, w, 10, 1 + Fs.tt 10 w, p, _, _, rfl, .inl rfl, .inl rfl, PO, ?_⟩
      rw [good_all hG]
      refine ⟨_, rfl, R, w, 10, 1 + Fs.tt 10 w, p, _, _, rfl, .inl rfl, .inl rfl, PO, ?_⟩
      rw [good_all hG]
      exact h
    | never m =>
      rw [hs] at hA hG
      have hB : refB (zipsD (R.map rowQ) (m.map aQ)) = true := ref_B hG hS.ok.wd
      have ml : m.length = R.length := hG.ml
      have am : ∀ y ∈ m.map aQ, AmtD 352 y := amts_of fun x hx => (hA x hx).mono (by omega)
      refine ⟨rfl, _, rfl, rfl, ?_⟩
      refine ⟨rfl, _, rfl, ?_⟩
      refine lcG (g := aQ) (fun x => .bl (isAmt (aQ x))) (fun x hx Y hY => ⟨_, rfl, plA x, hY⟩) ?_
      refine ⟨m.map fun x => isAmt (aQ x), by rw [List.map_map]; rfl, ?_⟩
      rw [allA m]
      refine ⟨_, rfl, ?_⟩
      refine ⟨_, rfl, ?_⟩
      have el : (((m.map aQ).length : Nat) : Int) = (((R.map rowQ).length : Nat) : Int) := by rw [List.length_map, List.length_map, ml]
      have hrd : ∀ d ∈ R.map rowQ, RowD 10 10 d := fun d hd => (hS.rowD d hd).1
      have hrs : ∀ d ∈ R.map rowQ, RowsD w 10 10 d := fun d hd => (hS.rowD d hd).2
      have hl20 : (R.map rowQ).length ≤ 20 := by rw [List.length_map]; omega
      refine ⟨_, rfl, ?_⟩
      dsimp only [List.set]
      refine vifd (fun _ => ?_) (fun z => absurd el z)
      refine ⟨_, rfl, w, 10, 10, 352, R.map rowQ, m.map aQ, rfl, by omega, hrs, am, hl20, by decide, by decide, ?_⟩
      rw [hB]
      refine ⟨_, rfl, 10, 10, 352, _, R.map rowQ, _, m.map aQ, rfl, .inl rfl, .inl rfl, hrd, am, hl20, by decide, by decide, ?_⟩
      rw [hB, decide_eq_true (show (m.map aQ).length = (R.map rowQ).length by rw [List.length_map, List.length_map, ml])]
      exact h
open Fs (Bq Sm Rw CdS CdP EI SzE)
theorem plains_of : ∀ {l : List D}, (∀ x ∈ l, plain x = true) → plains l = true
  | [], _ => by unfold plains; rfl
  | d :: l, h => by
    unfold plains
    rw [h d (.head _), plains_of fun x hx => h x (.tail _ hx)]
    rfl
theorem plain_aQ (x : Rat) : plain (aQ x) = true := by
  obtain ⟨n, h⟩ := aQ_any x
  exact tame_plain (amt_tame h)
theorem plain_aQs (l : List Rat) : plains (l.map aQ) = true := plains_of fun x hx => by
  obtain ⟨q, _, rfl⟩ := List.mem_map.mp hx
  exact plain_aQ q
theorem plain_tupI {l : List D} (h : plains l = true) : VL.plain (.tup l) = true := by unfold VL.plain; exact h
theorem plain_rowQ (r : Rw) : plain (rowQ r) = true := plain_tupI (plains_of fun x hx => by
  simp only [List.mem_cons, List.not_mem_nil, or_false] at hx
  rcases hx with rfl | rfl | rfl
  · exact plain_tupI (plain_aQs _)
  · exact plain_aQ _
  · rfl)
theorem plain_rows (R : List Rw) : plain (.lst (R.map rowQ)) = true := by
  have : plains (R.map rowQ) = true := plains_of fun x hx => by
    obtain ⟨q, _, rfl⟩ := List.mem_map.mp hx
    exact plain_rowQ q
  unfold VL.plain
  exact this
theorem ans_is (A : Fs.Ans) : ∃ (s : Str) (l : List Rat), ansQ A = .tup [.str s, .tup (l.map aQ)] ∧ shp (ansQ A) = true ∧ VL.plain (ansQ A) = true := by
  have key : ∀ (s : Str) (l : List Rat), ((toPy (.str s)).canLay0 = true ∧ (toPy (.str s)).depth ≤ 2) → shp (.tup [.str s, .tup (l.map aQ)]) = true ∧ VL.plain (.tup [.str s, .tup (l.map aQ)]) = true := fun s l hs => by
    refine ⟨shp_tup fun x hx => ?_, plain_tupI (plains_of fun x hx => ?_)⟩
    · simp only [List.mem_cons, List.not_mem_nil, or_false] at hx
      rcases hx with rfl | rfl
      · exact ⟨hs.1, by have := hs.2; omega⟩
      · have := tup_lay (n := 1) (l := l.map aQ) fun y hy => by
          obtain ⟨q, _, rfl⟩ := List.mem_map.mp hy
          exact aQ_lay1 q
        exact ⟨this.1, by have := this.2; omega⟩
    · simp only [List.mem_cons, List.not_mem_nil, or_false] at hx
      rcases hx with rfl | rfl
      · rfl
      · exact plain_tupI (plain_aQs _)
  cases A with
  | point p => exact ⟨_, p, rfl, key _ p ⟨by decide +kernel, by decide +kernel⟩⟩
  | never m => exact ⟨_, m, rfl, key _ m ⟨by decide +kernel, by decide +kernel⟩⟩
theorem nil_sys : Sys [] 2 := ⟨by decide, by decide, fun x hx => by cases hx⟩
theorem nil_ans : ∃ p : List Rat, Fs.solveR [] 2 = .point p ∧ p.length = 2 := by
  have hG := nil_sys.good
  cases hs : Fs.solveR [] 2 with
  | point p =>
    rw [hs] at hG
    exact ⟨p, rfl, hG.1⟩
  | never m =>
    rw [hs] at hG
    obtain ⟨C, hC, hp⟩ := (show Fs.Ref [] 2 m from hG).ex
    have e : (0 : Rat) = C := hC (List.replicate 2 0) rfl
    rcases hp with hp | ⟨_, i, hi, _⟩
    · rw [← e] at hp
      exact absurd hp (by decide)
    · have := (Fs.us_mem.mp hi).1
      exact absurd this (Nat.not_lt_zero _)
theorem ok_law (T : Tx K mg) : FnOk P w K mg base CX0 14 T.f_law T.fd_law ["_law_script"] (spLaw K) := by
  refine T.F_law.ok sc_law (fun vs H Q E h => ?_) (fun cdv A outer s H vs Q E hr h => ⟨_, (pss_cons (ps_set (i := 1) sc_law.nd rfl (by first | exact Or.inl rfl | exact Or.inr rfl) (pe_call (ok_l_source T) (hr.mono (by decide)) (by rfl) T.g_l_source T.F_l_source.kp T.B_l_source .nil pass0 (pa_cons (pv 0) pa_nil))) (pss_ex2 fun r c => (vss_cons (vs_for (vs := [2]) PassesOwn.never rfl (vi_range1 (by rfl) T.n_range ve_int) (vg_name 2 sc_law.nd (by decide)) (vss_cons (vs_set 3 sc_law.nd (ve_call (ok_l_draw T r c) (hr.mono (by decide)) (by rfl) T.g_l_draw T.F_l_draw.kp T.B_l_draw .nil pass0 (fun _ _ => reps_nil) (va_cons (ve_var 1) (va_cons ve_int va_nil)))) (vss_cons (vs_set 4 sc_law.nd (ve_call (ok_l_drawn_system T r c) (hr.mono (by decide)) (by rfl) T.g_l_drawn_system T.F_l_drawn_system.kp T.B_l_drawn_system .nil pass0 (fun _ _ => reps_nil) (va_cons (ve_var 1) (va_cons (ve_var 3) va_nil)))) (vss_cons (vs_set 5 sc_law.nd (ve_callTy (cr_listA (by rfl)) lift_listA (by rfl) T.n_list bt_list (va_cons (ve_var 4) va_nil))) (vss_cons (vs_set 6 sc_law.nd (ve_call (ok_solve T) (hr.mono (by decide)) (by rfl) T.g_solve T.F_solve.kp T.B_solve .nil pass0 (fun _ _ => reps_nil) (va_cons (ve_var 5) (va_cons (ve_var 3) va_nil)))) (vss_cons (vs_if (vt_w (vw_or (vt_cmp (op_neA hr.units) lift_ne (ve_var 5) (ve_var 4) (nomark _)) (vw_or (vt_not (vt_val (ve_call (ok_l_is_solution T) (hr.mono (by decide)) (by rfl) T.g_l_is_solution T.F_l_is_solution.kp T.B_l_is_solution .nil pass0 (fun _ _ => reps_nil) (va_cons (ve_var 4) (va_cons (ve_var 3) (va_cons (ve_var 6) va_nil)))))) (vw_or1 (vt_cmp (op_neA hr.units) lift_ne (ve_call (ok_solve T) (hr.mono (by decide)) (by rfl) T.g_solve T.F_solve.kp T.B_solve .nil pass0 (fun _ _ => reps_nil) (va_cons (ve_callTy (cr_listA (by rfl)) lift_listA (by rfl) T.n_list bt_list (va_cons (ve_var 4) va_nil)) (va_cons (ve_var 3) va_nil))) (ve_var 6) (nomark _)))))) (vss_one (vs_ret ve_bl)) vss_nil) (vss_cons (vs_set 7 sc_law.nd (ve_call (ok_solve T) (hr.mono (by decide)) (by rfl) T.g_solve T.F_solve.kp T.B_solve .nil pass0 (fun _ _ => reps_nil) (va_cons (ve_callTy call_tuple_of lift_tuple (by rfl) T.n_tuple bt_tuple (va_cons (ve_var 4) va_nil)) (va_cons (ve_var 3) va_nil)))) (vss_one (vs_if (vt_w (vw_or (vt_not (vt_val (ve_call (ok_l_is_solution T) (hr.mono (by decide)) (by rfl) T.g_l_is_solution T.F_l_is_solution.kp T.B_l_is_solution .nil pass0 (fun _ _ => reps_nil) (va_cons (ve_var 4) (va_cons (ve_var 3) (va_cons (ve_var 7) va_nil)))))) (vw_or1 (vt_cmp (op_neA hr.units) lift_ne (ve_ixA hr.units (ve_var 7) ve_int) (ve_ixA hr.units (ve_var 6) ve_int) (nomark _))))) (vss_one (vs_ret ve_bl)) vss_nil))))))))) (vss_one (vs_ret (ve_and (ve_cmp (op_eqA hr.units) lift_eq (ve_ixA hr.units (ve_call (ok_solve T) (hr.mono (by decide)) (by rfl) T.g_solve T.F_solve.kp T.B_solve .nil pass0 (fun _ _ => reps_nil) (va_cons (ve_lst va_nil) (va_cons ve_int va_nil))) ve_int) ve_str (nomark _)) (ve_one (ve_cmp (op_eqA hr.units) lift_eq (ve_callB call_len lift_len (by rfl) T.n_len bt_len (va_cons (ve_ixA hr.units (ve_call (ok_solve T) (hr.mono (by decide)) (by rfl) T.g_solve T.F_solve.kp T.B_solve .nil pass0 (fun _ _ => reps_nil) (va_cons (ve_lst va_nil) (va_cons ve_int va_nil))) ve_int) va_nil)) ve_int (nomark _))))))))), ?_⟩)
  · obtain ⟨a, ns, rfl, _⟩ := h
    rfl
  · obtain ⟨a, ns, rfl, hS, hl, k⟩ := h
    refine ⟨_, rfl, a, ns, rfl, hS, hl, fun H' r c hr0 hc0 hs hI => ⟨r, c, law_go (i := 1) hI rfl k ?_⟩⟩
    refine ⟨by decide, by decide, ?_⟩
    refine ⟨fun i ds => ∃ a0 a2 a3 a4 a5 a6 a7 : Sl, ds = [a0, .d (.hnd (.ref r)), a2, a3, a4, a5, a6, a7], ⟨_, _, _, _, _, _, _, rfl⟩, ?_, ?_⟩
    · rintro i d ds _ ⟨a0, a2, a3, a4, a5, a6, a7, rfl⟩
      refine ⟨6, rfl, by decide, by decide, fun wi w0 w1 => ?_⟩
      obtain ⟨wd, rfl⟩ : ∃ n : Nat, wi = n := ⟨wi.toNat, by omega⟩
      dsimp only [List.set]
      refine ⟨wd, rfl, by omega, fun R n8 hR => ?_⟩
      dsimp only [List.set]
      have hY : Sys R wd := ⟨by omega, n8, hR⟩
      refine ⟨R, wd, 10, _, rfl, .inl rfl, hY.ok, hY.few, ?_⟩
      dsimp only [List.set]
      obtain ⟨s, l, eA, hA, hP⟩ := ans_is (Fs.solveR R wd)
      rw [eA] at hA hP ⊢
      refine ⟨rw_shp R, rw_shp R, ?_⟩
      rw [eqv_refl (plain_rows R)]
      refine ⟨R, wd, by rw [eA]; rfl, hY, ?_⟩
      refine ⟨R, wd, 10, _, rfl, .inl rfl, hY.ok, hY.few, ?_⟩
      rw [eA]
      refine ⟨hA, hA, ?_⟩
      rw [eqv_refl hP]
      refine ⟨R, wd, 10, _, rfl, .inr rfl, hY.ok, hY.few, ?_⟩
      rw [eA]
      dsimp only [List.set]
      refine ⟨R, wd, by rw [eA]; rfl, hY, ?_⟩
      refine ⟨_, rfl, _, rfl, ?_⟩
      refine vifn (fun z => absurd rfl z) (fun _ => ?_)
      exact ⟨_, _, _, _, _, _, _, rfl⟩
    · rintro ds ⟨a0, a2, a3, a4, a5, a6, a7, rfl⟩
      obtain ⟨p, hp, hl2⟩ := nil_ans
      refine ⟨Nat.le_of_ble_eq_true rfl, [], 2, 10, _, rfl, .inl rfl, nil_sys.ok, nil_sys.few, ?_⟩
      rw [hp]
      refine ⟨_, rfl, ?_⟩
      refine ⟨Nat.le_of_ble_eq_true rfl, [], 2, 10, _, rfl, .inl rfl, nil_sys.ok, nil_sys.few, ?_⟩
      rw [hp]
      refine ⟨_, rfl, ?_⟩
      show D.bl (decide ((((p.map aQ).length : Nat) : Int) = 2)) = .bl true
      rw [List.length_map, hl2]
      rfl
end
theorem fin {l : PySem.W.OpenLaw} {w : World} {K : PySem.W.Frag} {mg : Str → Option Value} {fa : Addr} (T : Tx K mg) (hfa : mg "law" = some (.ref fa)) :
    ∃ fd : FuncData, (∀ (s : Shared) (v : Value), BindsTo s fd ⟨[v], []⟩ [("_law_script", v)]) ∧ ∀ base : Heap, K.In base → base.Ns mainGlobals mg → FnOk l.prog w K mg base CX0 14 fa fd ["_law_script"] (spLaw K) := by
  have e := hfa.symm.trans T.g_law
  cases e
  refine ⟨T.fd_law, fun s v => ?_, fun base _ _ => ok_law T⟩
  obtain ⟨oc, od, kV, doc, pm, an, cdv, ct, osl, e, _⟩ := T.F_law.ex
  rw [e]
  exact .of_eq rfl
theorem walk {l : PySem.W.OpenLaw} {q : Program} {loose : List Str} {XP : (Str → Option Value) → Heap → Prop} {YP : World → Heap → Prop} {d : DefRec} {K : Params → PySem.W.Frag} (hn : l.most = some 63) (hdf : d.params.defaults = [])
    (hY : ∀ (w : World) (h : Heap), YP w h → (K w.params).In h)
    (F : ∀ (w : World) (mg : Str → Option Value) (fa : Addr) (h : Heap), (K w.params).In h → h.Ns mainGlobals mg → mg d.name = some (.ref fa) →
      ∃ fd : FuncData, (∀ (s : Shared) (u : Value), BindsTo s fd ⟨[u], []⟩ [("_law_script", u)]) ∧ ∀ base : Heap, (K w.params).In base → base.Ns mainGlobals mg → FnOk l.prog w (K w.params) mg base CX0 14 fa fd ["_law_script"] (spLaw (K w.params))) :
    PySem.W.WalkO q loose XP YP l.row.toRowW d [] (fun f vs => PySem.call f vs) :=
  L2.walk_of (n := 63) (k := 14) (x := "_law_script") (CX := fun _ => CX0) (sp := fun w => spLaw (K w.params)) hn (by decide) hdf ⟨rfl, by decide, by decide⟩ hY F (fun _ _ a ns hl _ hS => ⟨a, ns, rfl, hS, hl, fun _ => rfl⟩) fun _ _ _ _ _ z => z
end Law
open PySem PySem.W PyProof.Rows
set_option maxRecDepth 100000 in
set_option maxHeartbeats 0 in
theorem PySem.Challenge.cw_unseenzero_k24_whole_systems_solved_holds : PySem.Challenge.rw_unseenzero_k24_whole_systems_solved.Holds := by
  w_on; o_law; k_head; (case hw => w_witness2)
  k_fill
  refine Law.walk (l := PySem.Challenge.rw_unseenzero_k24_whole_systems_solved) rfl rfl (fun w h Y => PySem.W.kIn_of Y) ?F
  case F =>
    intro w mg fa h KX G hmg
    refine' Law.fin (Law.tx_mk KX G ?C0a ?C0e ?C0l ?C00r ?C01r ?C1a ?C1e ?C1l ?C10r ?C11r ?C2a ?C2e ?C2l ?C20r ?C21r ?a0 ?l0 ?c0 ?k0 ?a1 ?l1 ?c1 ?k1 ?de1 ?dl1 ?d1_0r ?a2 ?l2 ?c2 ?k2 ?a3 ?l3 ?c3 ?k3 ?a4 ?l4 ?c4 ?k4 ?a5 ?l5 ?c5 ?k5 ?a6 ?l6 ?c6 ?k6 ?a7 ?l7 ?c7 ?k7 ?a8 ?l8 ?c8 ?k8 ?a9 ?l9 ?c9 ?k9 ?a10 ?l10 ?c10 ?k10 ?a11 ?l11 ?c11 ?k11 ?a12 ?l12 ?c12 ?k12 ?a13 ?l13 ?c13 ?k13 ?a14 ?l14 ?c14 ?k14 ?a15 ?l15 ?c15 ?k15 ?a16 ?l16 ?c16 ?k16 ?a17 ?l17 ?c17 ?k17 ?a18 ?l18 ?c18 ?k18 ?a19 ?l19 ?c19 ?k19 ?a20 ?l20 ?c20 ?k20 ?a21 ?l21 ?c21 ?k21 ?a22 ?l22 ?c22 ?k22 ?a23 ?l23 ?c23 ?k23 ?a24 ?l24 ?c24 ?k24 ?a25 ?l25 ?c25 ?k25 ?a26 ?l26 ?c26 ?k26 ?a27 ?l27 ?c27 ?k27 ?a28 ?l28 ?c28 ?k28 ?a29 ?l29 ?c29 ?k29 ?a30 ?l30 ?c30 ?k30 ?a31 ?l31 ?c31 ?k31 ?a32 ?l32 ?c32 ?k32 ?a33 ?l33 ?c33 ?k33 ?a34 ?l34 ?c34 ?k34 ?a35 ?l35 ?c35 ?k35 ?n_abs ?n_all ?n_bool ?n_enumerate ?n_int ?n_isinstance ?n_len ?n_list ?n_range ?n_set ?n_sorted ?n_tuple ?n_zip ?hgC_Sum ?hat_Sum___init__ ?hfn_Sum___init__ ?hlk_Sum___init__ ?hcd_Sum___init__ ?hkp_Sum___init__ ?hcl_Sum1 ?hcl_Sum2 ?hcl_Sum3 ?hcl_Sum4 ?hna_Sum_factors ?hna_Sum_constant ?hna_Sum_multipliers ?hna_Sum_members ?hat_Sum_with_other ?hfn_Sum_with_other ?hlk_Sum_with_other ?hcd_Sum_with_other ?hkp_Sum_with_other ?hmk_Sum1 ?hmk_Sum2 ?hat_Sum_scaled ?hfn_Sum_scaled ?hlk_Sum_scaled ?hcd_Sum_scaled ?hkp_Sum_scaled ?hat_Sum_value ?hfn_Sum_value ?hlk_Sum_value ?hcd_Sum_value ?hkp_Sum_value) hmg
    (case C0a => k_is)
    (case C0e => rfl)
    (case C0l => k_is)
    (case C00r => exact ⟨_, rfl⟩)
    (case C01r => exact ⟨_, rfl⟩)
    (case C1a => k_is)
    (case C1e => rfl)
    (case C1l => k_is)
    (case C10r => exact ⟨_, rfl⟩)
    (case C11r => exact ⟨_, rfl⟩)
    (case C2a => k_is)
    (case C2e => rfl)
    (case C2l => k_is)
    (case C20r => exact ⟨_, rfl⟩)
    (case C21r => exact ⟨_, rfl⟩)
    (case a0 => k_is)
    (case l0 => k_is)
    (case c0 => k_is)
    (case k0 => k_is)
    (case a1 => k_is)
    (case l1 => k_is)
    (case c1 => k_is)
    (case k1 => k_is)
    (case de1 => rfl)
    (case dl1 => k_is)
    (case d1_0r => exact ⟨_, rfl⟩)
    (case a2 => k_is)
    (case l2 => k_is)
    (case c2 => k_is)
    (case k2 => k_is)
    (case a3 => k_is)
    (case l3 => k_is)
    (case c3 => k_is)
    (case k3 => k_is)
    (case a4 => k_is)
    (case l4 => k_is)
    (case c4 => k_is)
    (case k4 => k_is)
    (case a5 => k_is)
    (case l5 => k_is)
    (case c5 => k_is)
    (case k5 => k_is)
    (case a6 => k_is)
    (case l6 => k_is)
    (case c6 => k_is)
    (case k6 => k_is)
    (case a7 => k_is)
    (case l7 => k_is)
    (case c7 => k_is)
    (case k7 => k_is)
    (case a8 => k_is)
    (case l8 => k_is)
    (case c8 => k_is)
    (case k8 => k_is)
    (case a9 => k_is)
    (case l9 => k_is)
    (case c9 => k_is)
    (case k9 => k_is)
    (case a10 => k_is)
    (case l10 => k_is)
    (case c10 => k_is)
    (case k10 => k_is)
    (case a11 => k_is)
    (case l11 => k_is)
    (case c11 => k_is)
    (case k11 => k_is)
    (case a12 => k_is)
    (case l12 => k_is)
    (case c12 => k_is)
    (case k12 => k_is)
    (case a13 => k_is)
    (case l13 => k_is)
    (case c13 => k_is)
    (case k13 => k_is)
    (case a14 => k_is)
    (case l14 => k_is)
    (case c14 => k_is)
    (case k14 => k_is)
    (case a15 => k_is)
    (case l15 => k_is)
    (case c15 => k_is)
    (case k15 => k_is)
    (case a16 => k_is)
    (case l16 => k_is)
    (case c16 => k_is)
    (case k16 => k_is)
    (case a17 => k_is)
    (case l17 => k_is)
    (case c17 => k_is)
    (case k17 => k_is)
    (case a18 => k_is)
    (case l18 => k_is)
    (case c18 => k_is)
    (case k18 => k_is)
    (case a19 => k_is)
    (case l19 => k_is)
    (case c19 => k_is)
    (case k19 => k_is)
    (case a20 => k_is)
    (case l20 => k_is)
    (case c20 => k_is)
    (case k20 => k_is)
    (case a21 => k_is)
    (case l21 => k_is)
    (case c21 => k_is)
    (case k21 => k_is)
    (case a22 => k_is)
    (case l22 => k_is)
    (case c22 => k_is)
    (case k22 => k_is)
    (case a23 => k_is)
    (case l23 => k_is)
    (case c23 => k_is)
    (case k23 => k_is)
    (case a24 => k_is)
    (case l24 => k_is)
    (case c24 => k_is)
    (case k24 => k_is)
    (case a25 => k_is)
    (case l25 => k_is)
    (case c25 => k_is)
    (case k25 => k_is)
    (case a26 => k_is)
    (case l26 => k_is)
    (case c26 => k_is)
    (case k26 => k_is)
    (case a27 => k_is)
    (case l27 => k_is)
    (case c27 => k_is)
    (case k27 => k_is)
    (case a28 => k_is)
    (case l28 => k_is)
    (case c28 => k_is)
    (case k28 => k_is)
    (case a29 => k_is)
    (case l29 => k_is)
    (case c29 => k_is)
    (case k29 => k_is)
    (case a30 => k_is)
    (case l30 => k_is)
    (case c30 => k_is)
    (case k30 => k_is)
    (case a31 => k_is)
    (case l31 => k_is)
    (case c31 => k_is)
    (case k31 => k_is)
    (case a32 => k_is)
    (case l32 => k_is)
    (case c32 => k_is)
    (case k32 => k_is)
    (case a33 => k_is)
    (case l33 => k_is)
    (case c33 => k_is)
    (case k33 => k_is)
    (case a34 => k_is)
    (case l34 => k_is)
    (case c34 => k_is)
    (case k34 => k_is)
    (case a35 => k_is)
    (case l35 => k_is)
    (case c35 => k_is)
    (case k35 => k_is)
    (case n_abs => k_is)
    (case n_all => k_is)
    (case n_bool => k_is)
    (case n_enumerate => k_is)
    (case n_int => k_is)
    (case n_isinstance => k_is)
    (case n_len => k_is)
    (case n_list => k_is)
    (case n_range => k_is)
    (case n_set => k_is)
    (case n_sorted => k_is)
    (case n_tuple => k_is)
    (case n_zip => k_is)
    (case hgC_Sum => k_is)
    (case hat_Sum___init__ => k_is)
    (case hfn_Sum___init__ => k_is)
    (case hlk_Sum___init__ => k_is)
    (case hcd_Sum___init__ => k_is)
    (case hkp_Sum___init__ => k_is)
    (case hcl_Sum1 => k_is)
    (case hcl_Sum2 => k_is)
    (case hcl_Sum3 => k_is)
    (case hcl_Sum4 => k_is)
    (case hna_Sum_factors => k_is)
    (case hna_Sum_constant => k_is)
    (case hna_Sum_multipliers => k_is)
    (case hna_Sum_members => k_is)
    (case hat_Sum_with_other => k_is)
    (case hfn_Sum_with_other => k_is)
    (case hlk_Sum_with_other => k_is)
    (case hcd_Sum_with_other => k_is)
    (case hkp_Sum_with_other => k_is)
    (case hmk_Sum1 => k_is)
    (case hmk_Sum2 => k_is)
    (case hat_Sum_scaled => k_is)
    (case hfn_Sum_scaled => k_is)
    (case hlk_Sum_scaled => k_is)
    (case hcd_Sum_scaled => k_is)
    (case hkp_Sum_scaled => k_is)
    (case hat_Sum_value => k_is)
    (case hfn_Sum_value => k_is)
    (case hlk_Sum_value => k_is)
    (case hcd_Sum_value => k_is)
    (case hkp_Sum_value => k_is)
#print axioms PySem.Challenge.cw_unseenzero_k24_whole_systems_solved_holds
