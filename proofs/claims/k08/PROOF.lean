import PyProof.Rows.All
import HandS.ForMost
import HandS.IsInst
import HandS.Wide
import HandS.Zip
import HandS.Flow
import HandS.TupAny
import HandS.NoneIn
import HandS.Dict
import HandS.More
import HandS.Style
import HandS.Star
import HandS.Text
import HandS.Defaults
import KE.GoesMore
import HandS.Exc
import HandS.Property
import HandS.MakeKw
import HandS.MakeKwOnly
import HandS.FStr
import HandS.WordsExc
import HandS.ExcInit
import HandS.TryMany
import HandS.SlotsOwn
import KE.KOpsOwn
import KE.RegKCallOwn
import KE.KFmtOwn
import HandS.ClsMeth
import HandS.RaiseMore
import HandS.ExcField
import HandS.ExcIs
import KE.KTryMore
import HandS.HotCalls
import HandS.EndTab
import HandS.StrMore
import PyProof.StrOps2
import KE.KDflt
import KE.KUnpackStar
import HandS.Iter
import KE.GoesEnum
import HandS.DictComp
import HandS.Deep
import KE.KDictCopyH
import HandS.Sort
import HandS.DictSubView
import KE.KSuper
import HandS.ReplaceDef
import KE.KExcInit
import Wide.All
import OpenK.AllK
import Wide.FinOn
import KE.KStateDown
import HandS.Head0
import HandS.Head1
import HandS.Head2
import HandS.HeadHook1
import HandS.HeadHook2
import HandS.HeadHook3
import HandS.HeadHook4
import HandS.HeadEnd
import HandS.HeadWalk
import OpenK.KCls
import PyProof.AttrMiss
import Open.Pieces
import PySem.Challenge.RW_unseenzero_k08_texts_that_are_no_forms
import KE.KLam
import KE.KNestM
set_option Elab.async false
set_option linter.all false
set_option maxRecDepth 100000
set_option maxHeartbeats 2000000
namespace VL
open PySem PySem.Spec PyProof.Rows L2
inductive D where
  | non | bl (b : Bool) | int (i : Int) | str (x : Str) | hnd (v : V) | tup (ds : List D) | lst (ds : List D) | dic (ks : List Str) (ds : List D) | ins (C : Addr) (ks : List Str) (ds : List D)
  | lam (f : Addr) (as : List (Addr × (Heap → Prop)))
def KSeqT (K : PySem.W.Frag) (a : Addr) (xs : List V) : Prop :=
  ∃ (o : Obj) (its : Array Value) (n : Nat), K.lookup a = some o ∧ o.cls = .type "tuple" ∧ o.data = .seq its n ∧ its.size ≤ sizeLine ∧ Vals xs its.toList
def KSeqL (K : PySem.W.Frag) (a : Addr) (xs : List V) : Prop :=
  ∃ (o : Obj) (its : Array Value) (n : Nat), K.lookup a = some o ∧ o.cls = .type "list" ∧ o.dict = none ∧ o.data = .seq its n ∧ its.size ≤ sizeLine ∧ Vals xs its.toList
def TupM (K : PySem.W.Frag) (M : Addr → Prop) (H : Hp) (a : Addr) (xs : List V) : Prop := (¬ M a ∧ Rd H a (.tup xs)) ∨ KSeqT K a xs
def LstM (K : PySem.W.Frag) (M : Addr → Prop) (H : Hp) (a : Addr) (xs : List V) : Prop := (¬ M a ∧ Rd H a (.lst xs)) ∨ KSeqL K a xs
theorem TupM.sq {K : PySem.W.Frag} {M : Addr → Prop} {H : Hp} {a : Addr} {xs : List V} (h : TupM K M H a xs) : SqT K H a xs := by
  rcases h with ⟨_, h⟩ | h
  · exact .inl h
  · exact .inr h
theorem LstM.sq {K : PySem.W.Frag} {M : Addr → Prop} {H : Hp} {a : Addr} {xs : List V} (h : LstM K M H a xs) : SqL K H a xs := by
  rcases h with ⟨_, h⟩ | h
  · exact .inl h
  · exact .inr h
mutual
def Rep (K : PySem.W.Frag) (M : Addr → Prop) (H : Hp) : D → V → Prop
  | .non, v => v = .non
  | .bl b, v => v = .bl b
  | .int i, v => v = .int i
  | .str x, v => v = .str x
  | .hnd u, v => v = u
  | .tup ds, v => ∃ a xs, v = .ref a ∧ TupM K M H a xs ∧ Reps K M H ds xs
  | .lst ds, v => ∃ a xs, v = .ref a ∧ LstM K M H a xs ∧ Reps K M H ds xs
  | .dic ks ds, v => ∃ (a : Addr) (us : List V), v = .ref a ∧ ¬ M a ∧ us.length = ks.length ∧ H a = some (.dK ((ks.map Sum.inr).zip us)) ∧ Reps K M H ds us
  | .ins C ks ds, v => ∃ (a dx : Addr) (us : List V), v = .ref a ∧ ¬ M a ∧ us.length = ks.length ∧ H a = some (.ins C dx (ks.zip us)) ∧ Reps K M H ds us
  | .lam f as, v => v = .ref f ∧ ∀ p ∈ as, ¬ M p.1 ∧ H p.1 = some (.ext p.2)
def Reps (K : PySem.W.Frag) (M : Addr → Prop) (H : Hp) : List D → List V → Prop
  | [], vs => vs = []
  | d :: ds, vs => ∃ v r, vs = v :: r ∧ Rep K M H d v ∧ Reps K M H ds r
end
def Car (M M' : Addr → Prop) (H H' : Hp) : Prop := ∀ b o, ¬ M b → H b = some o → ¬ M' b ∧ H' b = some o
theorem rd_car {M M' : Addr → Prop} {H H' : Hp} {a : Addr} {u : HO} (c : Car M M' H H') (hm : ¬ M a) (h : Rd H a u) : ¬ M' a ∧ Rd H' a u := by
  rcases h with h | ⟨o, h⟩
  · exact ⟨(c _ _ hm h).1, .inl (c _ _ hm h).2⟩
  · exact ⟨(c _ _ hm h).1, .inr ⟨o, (c _ _ hm h).2⟩⟩
theorem TupM.car {K : PySem.W.Frag} {M M' : Addr → Prop} {H H' : Hp} {a : Addr} {xs : List V} (c : Car M M' H H') (h : TupM K M H a xs) : TupM K M' H' a xs := by
  rcases h with ⟨m, h⟩ | h
  · exact .inl (rd_car c m h)
  · exact .inr h
theorem LstM.car {K : PySem.W.Frag} {M M' : Addr → Prop} {H H' : Hp} {a : Addr} {xs : List V} (c : Car M M' H H') (h : LstM K M H a xs) : LstM K M' H' a xs := by
  rcases h with ⟨m, h⟩ | h
  · exact .inl (rd_car c m h)
  · exact .inr h
mutual
theorem Rep.car {K : PySem.W.Frag} {M M' : Addr → Prop} {H H' : Hp} (c : Car M M' H H') : ∀ {d : D} {v : V}, Rep K M H d v → Rep K M' H' d v
  | .non, _, h => h
  | .bl _, _, h => h
  | .int _, _, h => h
  | .str _, _, h => h
  | .hnd _, _, h => h
  | .tup _, _, h => by
    unfold Rep at h ⊢
    obtain ⟨a, xs, e, t, r⟩ := h
    exact ⟨a, xs, e, t.car c, Reps.car c r⟩
  | .lst _, _, h => by
    unfold Rep at h ⊢
    obtain ⟨a, xs, e, t, r⟩ := h
    exact ⟨a, xs, e, t.car c, Reps.car c r⟩
  | .dic _ _, _, h => by
    unfold Rep at h ⊢
    obtain ⟨a, us, e, m, l, t, r⟩ := h
    exact ⟨a, us, e, (c _ _ m t).1, l, (c _ _ m t).2, Reps.car c r⟩
  | .ins _ _ _, _, h => by
    unfold Rep at h ⊢
    obtain ⟨a, dx, us, e, m, l, t, r⟩ := h
    exact ⟨a, dx, us, e, (c _ _ m t).1, l, (c _ _ m t).2, Reps.car c r⟩
  | .lam _ _, _, h => by
    unfold Rep at h ⊢
    exact ⟨h.1, fun p hp => c _ _ (h.2 p hp).1 (h.2 p hp).2⟩
theorem Reps.car {K : PySem.W.Frag} {M M' : Addr → Prop} {H H' : Hp} (c : Car M M' H H') : ∀ {ds : List D} {vs : List V}, Reps K M H ds vs → Reps K M' H' ds vs
  | [], _, h => by
    unfold Reps at h ⊢
    exact h
  | _ :: _, _, h => by
    unfold Reps at h ⊢
    obtain ⟨v, r, e, h1, h2⟩ := h
    exact ⟨v, r, e, Rep.car c h1, Reps.car c h2⟩
end
section
variable {K : PySem.W.Frag} {M M' : Addr → Prop} {H H' : Hp} {ds es : List D} {vs us : List V} {d : D} {v : V}
theorem reps_nil : Reps K M H [] [] := by unfold Reps; rfl
theorem reps_cons (h : Rep K M H d v) (t : Reps K M H ds vs) : Reps K M H (d :: ds) (v :: vs) := by unfold Reps; exact ⟨v, vs, rfl, h, t⟩
theorem Reps.inv (h : Reps K M H (d :: ds) us) : ∃ v vs, us = v :: vs ∧ Rep K M H d v ∧ Reps K M H ds vs := by unfold Reps at h; exact h
theorem Reps.inv0 (h : Reps K M H [] us) : us = [] := by unfold Reps at h; exact h
theorem Reps.app : ∀ {ds es : List D} {vs us : List V}, Reps K M H ds vs → Reps K M H es us → Reps K M H (ds ++ es) (vs ++ us)
  | [], _, _, _, h, t => by rw [h.inv0]; exact t
  | _ :: _, _, _, _, h, t => by
    obtain ⟨v, vs, rfl, h1, h2⟩ := h.inv
    exact reps_cons h1 (Reps.app h2 t)
theorem Reps.len : ∀ {ds : List D} {vs : List V}, Reps K M H ds vs → vs.length = ds.length
  | [], _, h => by rw [h.inv0]; rfl
  | _ :: _, _, h => by
    obtain ⟨v, vs, rfl, h1, h2⟩ := h.inv
    simp [Reps.len h2]
theorem Reps.get : ∀ {ds : List D} {vs : List V} {i : Nat} {d : D}, Reps K M H ds vs → ds[i]? = some d → ∃ v, vs[i]? = some v ∧ Rep K M H d v
  | [], _, _, _, _, e => by simp at e
  | _ :: _, _, 0, _, h, e => by
    obtain ⟨v, vs, rfl, h1, h2⟩ := h.inv
    simp at e
    subst e
    exact ⟨v, by simp, h1⟩
  | _ :: _, _, i + 1, _, h, e => by
    obtain ⟨v, vs, rfl, h1, h2⟩ := h.inv
    obtain ⟨u, e1, e2⟩ := Reps.get (i := i) h2 (by simpa using e)
    exact ⟨u, by simpa using e1, e2⟩
theorem Reps.take : ∀ {ds : List D} {vs : List V} (n : Nat), Reps K M H ds vs → Reps K M H (ds.take n) (vs.take n)
  | _, _, 0, _ => by simp [reps_nil]
  | [], _, _ + 1, h => by rw [h.inv0]; simp [reps_nil]
  | _ :: _, _, n + 1, h => by
    obtain ⟨v, vs, rfl, h1, h2⟩ := h.inv
    exact reps_cons h1 (Reps.take n h2)
theorem Reps.drop : ∀ {ds : List D} {vs : List V} (n : Nat), Reps K M H ds vs → Reps K M H (ds.drop n) (vs.drop n)
  | _, _, 0, h => h
  | [], _, _ + 1, h => by rw [h.inv0]; simp [reps_nil]
  | _ :: _, _, n + 1, h => by
    obtain ⟨v, vs, rfl, h1, h2⟩ := h.inv
    exact Reps.drop n h2
theorem Reps.bls : ∀ {ns : List Bool} {vs : List V}, Reps K M H (ns.map D.bl) vs → vs = ns.map V.bl
  | [], _, h => h.inv0
  | _ :: _, _, h => by
    obtain ⟨v, vs, rfl, h1, h2⟩ := h.inv
    unfold Rep at h1
    rw [h1, Reps.bls h2]
    rfl
theorem Reps.strs : ∀ {ns : List Str} {vs : List V}, Reps K M H (ns.map D.str) vs → vs = ns.map V.str
  | [], _, h => h.inv0
  | _ :: _, _, h => by
    obtain ⟨v, vs, rfl, h1, h2⟩ := h.inv
    unfold Rep at h1
    rw [h1, Reps.strs h2]
    rfl
theorem rep_int {i : Int} : Rep K M H (.int i) (.int i) := by unfold Rep; rfl
theorem rep_bl {i : Bool} : Rep K M H (.bl i) (.bl i) := by unfold Rep; rfl
theorem rep_str {i : Str} : Rep K M H (.str i) (.str i) := by unfold Rep; rfl
theorem rep_non : Rep K M H .non .non := by unfold Rep; rfl
theorem rep_hnd {v : V} : Rep K M H (.hnd v) v := by unfold Rep; rfl
theorem Rep.int {i : Int} (h : Rep K M H (.int i) v) : v = .int i := by unfold Rep at h; exact h
theorem Rep.bl {i : Bool} (h : Rep K M H (.bl i) v) : v = .bl i := by unfold Rep at h; exact h
theorem Rep.str {i : Str} (h : Rep K M H (.str i) v) : v = .str i := by unfold Rep at h; exact h
theorem Rep.non (h : Rep K M H .non v) : v = .non := by unfold Rep at h; exact h
theorem Rep.hnd {u : V} (h : Rep K M H (.hnd u) v) : v = u := by unfold Rep at h; exact h
theorem Rep.tup (h : Rep K M H (.tup ds) v) : ∃ a xs, v = .ref a ∧ TupM K M H a xs ∧ Reps K M H ds xs := by unfold Rep at h; exact h
theorem Rep.lst (h : Rep K M H (.lst ds) v) : ∃ a xs, v = .ref a ∧ LstM K M H a xs ∧ Reps K M H ds xs := by unfold Rep at h; exact h
theorem Rep.dic {ks : List Str} (h : Rep K M H (.dic ks ds) v) : ∃ (a : Addr) (us : List V), v = .ref a ∧ ¬ M a ∧ us.length = ks.length ∧ H a = some (.dK ((ks.map Sum.inr).zip us)) ∧ Reps K M H ds us := by unfold Rep at h; exact h
theorem Rep.ins {C : Addr} {ks : List Str} (h : Rep K M H (.ins C ks ds) v) : ∃ (a dx : Addr) (us : List V), v = .ref a ∧ ¬ M a ∧ us.length = ks.length ∧ H a = some (.ins C dx (ks.zip us)) ∧ Reps K M H ds us := by unfold Rep at h; exact h
theorem Rep.lam {f : Addr} {as : List (Addr × (Heap → Prop))} (h : Rep K M H (.lam f as) v) : v = .ref f ∧ ∀ p ∈ as, ¬ M p.1 ∧ H p.1 = some (.ext p.2) := by unfold Rep at h; exact h
theorem rep_dic {a : Addr} {us : List V} {ks : List Str} (m : ¬ M a) (l : us.length = ks.length) (t : H a = some (.dK ((ks.map Sum.inr).zip us))) (r : Reps K M H ds us) : Rep K M H (.dic ks ds) (.ref a) := by unfold Rep; exact ⟨a, us, rfl, m, l, t, r⟩
theorem rep_ins {a dx C : Addr} {us : List V} {ks : List Str} (m : ¬ M a) (l : us.length = ks.length) (t : H a = some (.ins C dx (ks.zip us))) (r : Reps K M H ds us) : Rep K M H (.ins C ks ds) (.ref a) := by unfold Rep; exact ⟨a, dx, us, rfl, m, l, t, r⟩
theorem rep_tup {a : Addr} {xs : List V} (t : TupM K M H a xs) (r : Reps K M H ds xs) : Rep K M H (.tup ds) (.ref a) := by unfold Rep; exact ⟨a, xs, rfl, t, r⟩
theorem rep_lst {a : Addr} {xs : List V} (t : LstM K M H a xs) (r : Reps K M H ds xs) : Rep K M H (.lst ds) (.ref a) := by unfold Rep; exact ⟨a, xs, rfl, t, r⟩
end
structure Wd where
  A : Addr → Prop
  I : Hp → Prop
  live : ∀ H a, I H → A a → H a ≠ none
  nx : ∀ H a φ, I H → A a → H a ≠ some (.ext φ)
  B : Addr → Prop := fun _ => False
  liveB : ∀ H a, I H → B a → H a ≠ none := by exact fun _ _ _ z => False.elim z
  C : Addr → Prop := fun _ => False
  cb : ∀ a, C a → B a := by exact fun _ z => False.elim z
  stay : ∀ H H' : Hp, I H → (∀ b, A b → H' b = H b) → (∀ b φ, H b = some (.ext φ) → H' b = some (.ext φ)) → (∀ b o, B b → H b = some o → H' b = some o) → I H'
  Mf : Addr → Prop := fun _ => False
  Hf : Hp := fun _ => none
def Full (H H' : Hp) : Prop := ∀ b o, H b = some o → H' b = some o
def Ext (W : Wd) (H H' : Hp) : Prop := ∀ b o, ¬ W.A b → H b = some o → H' b = some o
theorem Full.refl (H : Hp) : Full H H := fun _ _ h => h
theorem Full.trans {H H1 H2 : Hp} (a : Full H H1) (b : Full H1 H2) : Full H H2 := fun c o h => b c o (a c o h)
theorem Full.new {H : Hp} {p : Addr} {o : HO} (h : H p = none) : Full H (upd H p o) := fun a u e => by
  rw [upd_ne (ne_of_none e h)]
  exact e
theorem Full.ext {W : Wd} {H H' : Hp} (f : Full H H') : Ext W H H' := fun b o _ h => f b o h
theorem Wd.keep (W : Wd) (H H' : Hp) (h : W.I H) (f : ∀ b o, H b = some o → H' b = some o) : W.I H' := W.stay H H' h (fun b hb => by
  cases q : H b with
  | none => exact absurd q (W.live H b h hb)
  | some o => exact f b o q) (fun b φ e => f b _ e) fun b o _ e => f b o e
theorem Ext.refl {W : Wd} (H : Hp) : Ext W H H := fun _ _ _ h => h
theorem Ext.trans {W : Wd} {H H1 H2 : Hp} (a : Ext W H H1) (b : Ext W H1 H2) : Ext W H H2 := fun c o n h => b c o n (a c o n h)
structure MOk (W : Wd) (M : Addr → Prop) (H : Hp) : Prop where
  wm : ∀ a, W.A a → M a
  live : ∀ a, M a → H a ≠ none
  wi : W.I H
  nb : ∀ a, M a → ¬ W.C a
  nx : ∀ a φ, M a → H a ≠ some (.ext φ)
section
variable {K : PySem.W.Frag} {W : Wd} {M M' : Addr → Prop} {H H' : Hp} {ds : List D} {d : D} {v : V} {vs xs : List V} {p : Addr}
theorem MOk.ext (m : MOk W M H) (e : Ext W H H') (wi : W.I H') : MOk W M H' := by
  have nx : ∀ a φ, M a → H' a ≠ some (.ext φ) := fun a φ h z => by
    by_cases ha : W.A a
    · exact W.nx _ _ φ wi ha z
    · cases q : H a with
      | none => exact m.live a h q
      | some o => exact m.nx a φ h (by rw [e a o ha q] at z; rw [q, z])
  refine ⟨m.wm, fun a h => ?_, wi, m.nb, nx⟩
  by_cases ha : W.A a
  · exact W.live _ _ wi ha
  · intro z
    cases q : H a with
    | none => exact m.live a h q
    | some o => rw [e a o ha q] at z; cases z
theorem MOk.full (m : MOk W M H) (e : Full H H') : MOk W M H' := m.ext e.ext (W.keep _ _ m.wi e)
theorem MOk.car (m : MOk W M H) (e : Ext W H H') : Car M M H H' := fun b o n h => ⟨n, e b o (fun z => n (m.wm b z)) h⟩
theorem MOk.fresh (m : MOk W M H) (h : H p = none) : ¬ M p := fun z => m.live p z h
theorem Rep.ext (m : MOk W M H) (e : Ext W H H') (h : Rep K M H d v) : Rep K M H' d v := h.car (m.car e)
theorem Reps.ext (m : MOk W M H) (e : Ext W H H') (h : Reps K M H ds vs) : Reps K M H' ds vs := h.car (m.car e)
theorem MOk.newT (m : MOk W M H) (h : H p = none) (r : Reps K M H ds xs) : Rep K M (upd H p (.tup xs)) (.tup ds) (.ref p) :=
  rep_tup (.inl ⟨m.fresh h, .inl upd_same⟩) (r.ext m (Full.new h).ext)
theorem MOk.newL (m : MOk W M H) (h : H p = none) (r : Reps K M H ds xs) : Rep K M (upd H p (.lst xs)) (.lst ds) (.ref p) :=
  rep_lst (.inl ⟨m.fresh h, .inl upd_same⟩) (r.ext m (Full.new h).ext)
end
inductive O where
  | d (x : D) | l (ts : List O) | t (ks : List Str) (ts : List O) | i (a C : Addr) (ks : List Str) (ts : List O)
mutual
def O.toD : O → D
  | .d x => x
  | .l xs => .lst (O.toDs xs)
  | .t ks xs => .dic ks (O.toDs xs)
  | .i _ C ks xs => .ins C ks (O.toDs xs)
def O.toDs : List O → List D
  | [] => []
  | x :: xs => x.toD :: O.toDs xs
end
abbrev AS := Addr → Prop
def no1 : AS := fun _ => False
def one1 (a : Addr) : AS := fun b => b = a
theorem one1_inj {a b : Addr} (h : one1 a = one1 b) : a = b := (congrFun h a).mp rfl
mutual
def Own (K : PySem.W.Frag) (M : Addr → Prop) (H : Hp) : O → AS → V → Prop
  | .d x, o, v => o = no1 ∧ Rep K M H x v
  | .l ts, o, v => ∃ a xs o', v = .ref a ∧ H a = some (.lst xs) ∧ ¬ o' a ∧ (o = fun b => b = a ∨ o' b) ∧ Owns K M H ts o' xs
  | .t ks ts, o, v => ∃ a us o', v = .ref a ∧ us.length = ks.length ∧ H a = some (.dK ((ks.map Sum.inr).zip us)) ∧ ¬ o' a ∧ (o = fun b => b = a ∨ o' b) ∧ Owns K M H ts o' us
  | .i a C ks ts, o, v => ∃ dx us o', v = .ref a ∧ us.length = ks.length ∧ H a = some (.ins C dx (ks.zip us)) ∧ ¬ o' a ∧ (o = fun b => b = a ∨ o' b) ∧ Owns K M H ts o' us
def Owns (K : PySem.W.Frag) (M : Addr → Prop) (H : Hp) : List O → AS → List V → Prop
  | [], o, vs => o = no1 ∧ vs = []
  | t :: ts, o, vs => ∃ v r o1 o2, vs = v :: r ∧ (∀ b, o1 b → ¬ o2 b) ∧ (o = fun b => o1 b ∨ o2 b) ∧ Own K M H t o1 v ∧ Owns K M H ts o2 r
end
mutual
theorem Own.live {K : PySem.W.Frag} {M : Addr → Prop} {H : Hp} : ∀ {t : O} {o : AS} {v : V}, Own K M H t o v → ∀ b, o b → ∃ ob, H b = some ob ∧ ∀ φ, ob ≠ .ext φ
  | .d _, _, _, h, b, hb => by
    unfold Own at h
    rw [h.1] at hb
    exact hb.elim
  | .l _, _, _, h, b, hb => by
    unfold Own at h
    obtain ⟨a, xs, o', _, h1, _, e, r⟩ := h
    rw [e] at hb
    rcases hb with rfl | hb
    · exact ⟨_, h1, fun _ z => by cases z⟩
    · exact Owns.live r b hb
  | .t _ _, _, _, h, b, hb => by
    unfold Own at h
    obtain ⟨a, us, o', _, _, h1, _, e, r⟩ := h
    rw [e] at hb
    rcases hb with rfl | hb
    · exact ⟨_, h1, fun _ z => by cases z⟩
    · exact Owns.live r b hb
  | .i a _ _ _, _, _, h, b, hb => by
    unfold Own at h
    obtain ⟨dx, us, o', _, _, h1, _, e, r⟩ := h
    rw [e] at hb
    rcases hb with rfl | hb
    · exact ⟨_, h1, fun _ z => by cases z⟩
    · exact Owns.live r b hb
theorem Owns.live {K : PySem.W.Frag} {M : Addr → Prop} {H : Hp} : ∀ {ts : List O} {o : AS} {vs : List V}, Owns K M H ts o vs → ∀ b, o b → ∃ ob, H b = some ob ∧ ∀ φ, ob ≠ .ext φ
  | [], _, _, h, b, hb => by
    unfold Owns at h
    rw [h.1] at hb
    exact hb.elim
  | _ :: _, _, _, h, b, hb => by
    unfold Owns at h
    obtain ⟨v, r, o1, o2, _, _, e, h1, h2⟩ := h
    rw [e] at hb
    rcases hb with hb | hb
    · exact Own.live h1 b hb
    · exact Owns.live h2 b hb
end
mutual
theorem Own.car {K : PySem.W.Frag} {M M' : Addr → Prop} {H H' : Hp} (c : Car M M' H H') : ∀ {t : O} {o : AS} {v : V}, (∀ b ob, o b → H b = some ob → H' b = some ob) → Own K M H t o v → Own K M' H' t o v
  | .d _, _, _, _, h => by
    unfold Own at h ⊢
    exact ⟨h.1, h.2.car c⟩
  | .l _, _, _, f, h => by
    unfold Own at h ⊢
    obtain ⟨a, xs, o', e0, h1, n, e, r⟩ := h
    subst e
    exact ⟨a, xs, o', e0, f a _ (.inl rfl) h1, n, rfl, Owns.car c (fun b ob hb => f b ob (.inr hb)) r⟩
  | .t _ _, _, _, f, h => by
    unfold Own at h ⊢
    obtain ⟨a, us, o', e0, l, h1, n, e, r⟩ := h
    subst e
    exact ⟨a, us, o', e0, l, f a _ (.inl rfl) h1, n, rfl, Owns.car c (fun b ob hb => f b ob (.inr hb)) r⟩
  | .i a _ _ _, _, _, f, h => by
    unfold Own at h ⊢
    obtain ⟨dx, us, o', e0, l, h1, n, e, r⟩ := h
    subst e
    exact ⟨dx, us, o', e0, l, f a _ (.inl rfl) h1, n, rfl, Owns.car c (fun b ob hb => f b ob (.inr hb)) r⟩
theorem Owns.car {K : PySem.W.Frag} {M M' : Addr → Prop} {H H' : Hp} (c : Car M M' H H') : ∀ {ts : List O} {o : AS} {vs : List V}, (∀ b ob, o b → H b = some ob → H' b = some ob) → Owns K M H ts o vs → Owns K M' H' ts o vs
  | [], _, _, _, h => by
    unfold Owns at h ⊢
    exact h
  | _ :: _, _, _, f, h => by
    unfold Owns at h ⊢
    obtain ⟨v, r, o1, o2, e0, dj, e, h1, h2⟩ := h
    subst e
    exact ⟨v, r, o1, o2, e0, dj, rfl, Own.car c (fun b ob hb => f b ob (.inl hb)) h1, Owns.car c (fun b ob hb => f b ob (.inr hb)) h2⟩
end
mutual
theorem Own.rep {K : PySem.W.Frag} {M M' : Addr → Prop} {H : Hp} (c : Car M M' H H) : ∀ {t : O} {o : AS} {v : V}, (∀ b, o b → ¬ M' b) → Own K M H t o v → Rep K M' H t.toD v
  | .d _, _, _, _, h => by
    unfold Own at h
    exact h.2.car c
  | .l _, _, _, f, h => by
    unfold Own at h
    obtain ⟨a, xs, o', rfl, h1, n, e, r⟩ := h
    subst e
    exact rep_lst (.inl ⟨f a (.inl rfl), .inl h1⟩) (Owns.reps c (fun b hb => f b (.inr hb)) r)
  | .t _ _, _, _, f, h => by
    unfold Own at h
    obtain ⟨a, us, o', rfl, l, h1, n, e, r⟩ := h
    subst e
    exact rep_dic (f a (.inl rfl)) l h1 (Owns.reps c (fun b hb => f b (.inr hb)) r)
  | .i a _ _ _, _, _, f, h => by
    unfold Own at h
    obtain ⟨dx, us, o', rfl, l, h1, n, e, r⟩ := h
    subst e
    exact rep_ins (f a (.inl rfl)) l h1 (Owns.reps c (fun b hb => f b (.inr hb)) r)
theorem Owns.reps {K : PySem.W.Frag} {M M' : Addr → Prop} {H : Hp} (c : Car M M' H H) : ∀ {ts : List O} {o : AS} {vs : List V}, (∀ b, o b → ¬ M' b) → Owns K M H ts o vs → Reps K M' H (O.toDs ts) vs
  | [], _, _, _, h => by
    unfold Owns at h
    rw [h.2]
    exact reps_nil
  | _ :: _, _, _, f, h => by
    unfold Owns at h
    obtain ⟨v, r, o1, o2, rfl, dj, e, h1, h2⟩ := h
    subst e
    exact reps_cons (Own.rep c (fun b hb => f b (.inl hb)) h1) (Owns.reps c (fun b hb => f b (.inr hb)) h2)
end
inductive Sl where
  | un | d (x : D) | ml (xs : List D) | md (ks : List Str) (xs : List D) | mi (a C : Addr) (ks : List Str) (xs : List D)
  | ow (t : O)
def Mx (M0 : Addr → Prop) (oa : Nat → AS) : Addr → Prop := fun a => M0 a ∨ ∃ i, oa i a
def SlotOk (K : PySem.W.Frag) (M : Addr → Prop) (H : Hp) (o : AS) : Sl → Option (Option V) → Prop
  | .un, _ => o = no1
  | .d x, u => o = no1 ∧ ∃ v, u = some (some v) ∧ Rep K M H x v
  | .ml ds, u => ∃ a xs, o = one1 a ∧ u = some (some (.ref a)) ∧ H a = some (.lst xs) ∧ Reps K M H ds xs
  | .md ks ds, u => ∃ (a : Addr) (us : List V), o = one1 a ∧ u = some (some (.ref a)) ∧ us.length = ks.length ∧ H a = some (.dK ((ks.map Sum.inr).zip us)) ∧ Reps K M H ds us
  | .mi a C ks ds, u => ∃ (dx : Addr) (us : List V), o = one1 a ∧ u = some (some (.ref a)) ∧ us.length = ks.length ∧ H a = some (.ins C dx (ks.zip us)) ∧ Reps K M H ds us
  | .ow t, u => ∃ v, u = some (some v) ∧ Own K M H t o v
structure Sat (K : PySem.W.Frag) (W : Wd) (M0 : Addr → Prop) (H0 : Hp) (oa : Nat → AS) (H : Hp) (σ : L2.St) (ds : List Sl) : Prop where
  wm : ∀ a, W.A a → M0 a
  live : ∀ a, M0 a → H0 a ≠ none
  ext : Ext W H0 H
  wi : W.I H
  ofr : ∀ i a, oa i a → H0 a = none ∧ ¬ M0 a
  inj : ∀ i j a, oa i a → oa j a → i = j
  len : ds.length = σ.length
  out : ∀ i, ds.length ≤ i → oa i = no1
  slot : ∀ i s, ds[i]? = some s → SlotOk K (Mx M0 oa) H (oa i) s (σ[i]?)
  fm : ∀ a, W.Mf a → M0 a
  fh : Ext W W.Hf H0
  bl : ∀ a, W.B a → H0 a ≠ none
  nc : ∀ a, M0 a → ¬ W.C a
  nx : ∀ a φ, M0 a → H0 a ≠ some (.ext φ)
section
variable {K : PySem.W.Frag} {W : Wd} {M0 : Addr → Prop} {H0 H H' : Hp} {oa : Nat → AS} {σ : L2.St} {ds : List Sl}
theorem SlotOk.live {M : Addr → Prop} {o : AS} {s : Sl} {u : Option (Option V)} {a : Addr} (h : SlotOk K M H o s u) (e : o a) : ∃ ob, H a = some ob ∧ ∀ φ, ob ≠ .ext φ := by
  cases s with
  | un => rw [show o = no1 from h] at e; exact e.elim
  | d x => rw [show o = no1 from h.1] at e; exact e.elim
  | ml l =>
    obtain ⟨b, xs, e1, e2, e3, _⟩ := h
    rw [e1] at e
    cases e
    exact ⟨_, e3, fun _ z => by cases z⟩
  | md ks l =>
    obtain ⟨b, xs, e1, e2, e3, e4, _⟩ := h
    rw [e1] at e
    cases e
    exact ⟨_, e4, fun _ z => by cases z⟩
  | mi b C ks l =>
    obtain ⟨dx, xs, e1, e2, e3, e4, _⟩ := h
    rw [e1] at e
    cases e
    exact ⟨_, e4, fun _ z => by cases z⟩
  | ow t =>
    obtain ⟨v, _, h⟩ := h
    exact h.live a e
theorem SlotOk.own {M : Addr → Prop} {o : AS} {s : Sl} {u : Option (Option V)} {a : Addr} (h : SlotOk K M H o s u) (e : o a) : ∃ ob, H a = some ob := let ⟨ob, h1, _⟩ := h.live e; ⟨ob, h1⟩
theorem Sat.ownLive (S : Sat K W M0 H0 oa H σ ds) {i : Nat} {a : Addr} (h : oa i a) : ∃ ob, H a = some ob := by
  by_cases hi : i < ds.length
  · exact (S.slot i ds[i] (by simp [hi])).own h
  · rw [S.out i (by omega)] at h; exact h.elim
theorem SlotOk.nx {M : Addr → Prop} {o : AS} {s : Sl} {u : Option (Option V)} {a : Addr} (h : SlotOk K M H o s u) (e : o a) (φ : Heap → Prop) : H a ≠ some (.ext φ) := fun z => by
  obtain ⟨ob, h1, h2⟩ := h.live e
  rw [h1] at z
  exact h2 φ (Option.some.inj z)
theorem Sat.mnx (S : Sat K W M0 H0 oa H σ ds) (a : Addr) (φ : Heap → Prop) (h : Mx M0 oa a) : H a ≠ some (.ext φ) := by
  rcases h with h | ⟨i, h⟩
  · intro z
    by_cases ha : W.A a
    · exact W.nx _ _ φ S.wi ha z
    · cases q : H0 a with
      | none => exact S.live a h q
      | some o => exact S.nx a φ h (by rw [S.ext a o ha q] at z; rw [q, z])
  · by_cases hi : i < ds.length
    · exact (S.slot i ds[i] (by simp [hi])).nx h φ
    · rw [S.out i (by omega)] at h; exact h.elim
theorem Sat.mok (S : Sat K W M0 H0 oa H σ ds) : MOk W (Mx M0 oa) H := by
  refine ⟨fun a h => .inl (S.wm a h), fun a h => ?_, S.wi, fun a h hC => h.elim (fun h => S.nc a h hC) fun ⟨i, z⟩ => S.bl a (W.cb a hC) (S.ofr i a z).1, S.mnx⟩
  rcases h with h | ⟨i, h⟩
  · by_cases ha : W.A a
    · exact W.live _ _ S.wi ha
    · intro z
      cases q : H0 a with
      | none => exact S.live a h q
      | some o => rw [S.ext a o ha q] at z; cases z
  · obtain ⟨xs, e⟩ := S.ownLive h
    rw [e]
    intro z
    cases z
theorem SlotOk.car {M M' : Addr → Prop} {o : AS} {s : Sl} {u : Option (Option V)} (c : Car M M' H H') (ho : ∀ a ob, o a → H a = some ob → H' a = some ob) (h : SlotOk K M H o s u) : SlotOk K M' H' o s u := by
  cases s with
  | un => exact h
  | d x =>
    obtain ⟨e, v, e1, r⟩ := h
    exact ⟨e, v, e1, r.car c⟩
  | ml l =>
    obtain ⟨a, xs, e1, e2, e3, r⟩ := h
    exact ⟨a, xs, e1, e2, ho a _ (by rw [e1]; rfl) e3, r.car c⟩
  | md ks l =>
    obtain ⟨a, us, e1, e2, e3, e4, r⟩ := h
    exact ⟨a, us, e1, e2, e3, ho a _ (by rw [e1]; rfl) e4, r.car c⟩
  | mi a C ks l =>
    obtain ⟨dx, us, e1, e2, e3, e4, r⟩ := h
    exact ⟨dx, us, e1, e2, e3, ho a _ (by rw [e1]; rfl) e4, r.car c⟩
  | ow t =>
    obtain ⟨v, e, r⟩ := h
    exact ⟨v, e, r.car c ho⟩
theorem Sat.own_nA (S : Sat K W M0 H0 oa H σ ds) {i : Nat} {a : Addr} (h : oa i a) : ¬ W.A a := fun z => (S.ofr i a h).2 (S.wm a z)
theorem Sat.step (S : Sat K W M0 H0 oa H σ ds) (e : Ext W H H') (wi : W.I H') : Sat K W M0 H0 oa H' σ ds :=
  ⟨S.wm, S.live, S.ext.trans e, wi, S.ofr, S.inj, S.len, S.out, fun i s h => (S.slot i s h).car (S.mok.car e) fun a xs h1 h2 => e a _ (S.own_nA h1) h2, S.fm, S.fh, S.bl, S.nc, S.nx⟩
theorem Sat.full (S : Sat K W M0 H0 oa H σ ds) (e : Full H H') : Sat K W M0 H0 oa H' σ ds := S.step e.ext (W.keep _ _ S.wi e)
theorem Sat.get (S : Sat K W M0 H0 oa H σ ds) {i : Nat} {x : D} (h : ds[i]? = some (.d x)) : ∃ v, σ[i]? = some (some v) ∧ Rep K (Mx M0 oa) H x v := (S.slot i _ h).2
def oaDel (oa : Nat → AS) (i : Nat) : Nat → AS := fun j => if j = i then no1 else oa j
theorem oaDel_some {oa : Nat → AS} {i j : Nat} {a : Addr} (h : oaDel oa i j a) : j ≠ i ∧ oa j a := by
  unfold oaDel at h
  by_cases e : j = i
  · rw [if_pos e] at h; exact h.elim
  · rw [if_neg e] at h; exact ⟨e, h⟩
theorem mx_del {i : Nat} {a : Addr} (h : Mx M0 (oaDel oa i) a) : Mx M0 oa a := by
  rcases h with h | ⟨j, h⟩
  · exact .inl h
  · exact .inr ⟨j, (oaDel_some h).2⟩
theorem car_del {i : Nat} : Car (Mx M0 oa) (Mx M0 (oaDel oa i)) H H := fun b o n h => ⟨fun z => n (mx_del z), h⟩
theorem Sat.set (S : Sat K W M0 H0 oa H σ ds) {i : Nat} {x : D} {v : V} (r : Rep K (Mx M0 oa) H x v) : Sat K W M0 H0 (oaDel oa i) H (σ.set i (some v)) (ds.set i (.d x)) := by
  refine ⟨S.wm, S.live, S.ext, S.wi, fun j a h => S.ofr j a (oaDel_some h).2, fun j k a h1 h2 => S.inj j k a (oaDel_some h1).2 (oaDel_some h2).2, by simp [S.len], fun j hj => ?_, fun j s h => ?_, S.fm, S.fh, S.bl, S.nc, S.nx⟩
  · have q := S.out j (by simpa using hj)
    unfold oaDel
    split
    · rfl
    · exact q
  · by_cases e : j = i
    · subst e
      have hl : j < ds.length := by
        have := (List.getElem?_eq_some_iff.mp h).1
        simpa using this
      rw [List.getElem?_set_self hl] at h
      cases h
      refine ⟨by unfold oaDel; simp, v, ?_, r.car car_del⟩
      rw [List.getElem?_set_self (by rw [← S.len]; exact hl)]
    · rw [List.getElem?_set_ne (Ne.symm e)] at h
      rw [List.getElem?_set_ne (Ne.symm e)]
      have q := S.slot j s h
      have e2 : oaDel oa i j = oa j := by unfold oaDel; rw [if_neg e]
      rw [e2]
      exact q.car car_del fun a xs _ z => z
def oaPut (oa : Nat → AS) (i : Nat) (p : Addr) : Nat → AS := fun j => if j = i then one1 p else oa j
def oaSet (oa : Nat → AS) (i : Nat) (o : AS) : Nat → AS := fun j => if j = i then o else oa j
theorem Sat.setow (S : Sat K W M0 H0 oa H σ ds) {i : Nat} {o : AS} {sl : Sl} {v : V} (hi : i < ds.length) (h0 : ∀ p, o p → H0 p = none ∧ ¬ M0 p) (hd : ∀ p, o p → ∀ j, j ≠ i → ¬ oa j p) (hsl : SlotOk K (Mx M0 (oaSet oa i o)) H o sl (some (some v)))
    (hr : ∀ j s, j ≠ i → ds[j]? = some s → SlotOk K (Mx M0 (oaSet oa i o)) H (oa j) s (σ[j]?)) : Sat K W M0 H0 (oaSet oa i o) H (σ.set i (some v)) (ds.set i sl) := by
  have hs : ∀ j a, oaSet oa i o j a → (j = i ∧ o a) ∨ (j ≠ i ∧ oa j a) := fun j a h => by
    unfold oaSet at h
    by_cases e : j = i
    · rw [if_pos e] at h; exact .inl ⟨e, h⟩
    · rw [if_neg e] at h; exact .inr ⟨e, h⟩
  refine ⟨S.wm, S.live, S.ext, S.wi, fun j a h => ?_, fun j k a h1 h2 => ?_, by simp [S.len], fun j hj => ?_, fun j s h => ?_, S.fm, S.fh, S.bl, S.nc, S.nx⟩
  · rcases hs j a h with ⟨_, e⟩ | ⟨_, e⟩
    · exact h0 a e
    · exact S.ofr j a e
  · rcases hs j a h1 with ⟨e1, e2⟩ | ⟨e1, e2⟩
    · rcases hs k a h2 with ⟨e3, e4⟩ | ⟨e3, e4⟩
      · rw [e1, e3]
      · exact absurd e4 (hd a e2 k e3)
    · rcases hs k a h2 with ⟨e3, e4⟩ | ⟨e3, e4⟩
      · exact absurd e2 (hd a e4 j e1)
      · exact S.inj j k a e2 e4
  · have hj' : ds.length ≤ j := by simpa using hj
    unfold oaSet
    rw [if_neg (by omega)]
    exact S.out j hj'
  · by_cases e : j = i
    · subst e
      rw [List.getElem?_set_self hi] at h
      cases h
      rw [List.getElem?_set_self (by rw [← S.len]; exact hi)]
      have e2 : oaSet oa j o j = o := by unfold oaSet; simp
      rw [e2]
      exact hsl
    · rw [List.getElem?_set_ne (Ne.symm e)] at h
      rw [List.getElem?_set_ne (Ne.symm e)]
      have e2 : oaSet oa i o j = oa j := by unfold oaSet; rw [if_neg e]
      rw [e2]
      exact hr j s e h
theorem Sat.setown (S : Sat K W M0 H0 oa H σ ds) {i : Nat} {p : Addr} {sl : Sl} (hi : i < ds.length) (h0 : H0 p = none) (hm : ¬ Mx M0 oa p) (hsl : SlotOk K (Mx M0 (oaPut oa i p)) H (one1 p) sl (some (some (.ref p))))
    (hr : ∀ j s, j ≠ i → ds[j]? = some s → SlotOk K (Mx M0 (oaPut oa i p)) H (oa j) s (σ[j]?)) : Sat K W M0 H0 (oaPut oa i p) H (σ.set i (some (.ref p))) (ds.set i sl) :=
  S.setow hi (fun q hq => by cases (show q = p from hq); exact ⟨h0, fun z => hm (.inl z)⟩) (fun q hq j _ z => by cases (show q = p from hq); exact hm (.inr ⟨j, z⟩)) hsl hr
end
end VL
set_option Elab.async false
set_option linter.all false
set_option maxRecDepth 100000
set_option maxHeartbeats 2000000
namespace VL
open PySem PySem.Spec PyProof.Rows L2
abbrev WE := List Sl → (D → Prop) → Prop
abbrev WT := List Sl → (Bool → Prop) → Prop
abbrev WL := List Sl → (List D → Prop) → Prop
def LE (K : PySem.W.Frag) (W : Wd) (w : WE) : TE := fun σ H Q => ∃ M0 H0 oa ds P, Sat K W M0 H0 oa H σ ds ∧ w ds P ∧ ∀ d v H', P d → Ext W H H' → W.I H' → Rep K (Mx M0 oa) H' d v → Q v H'
def LT (K : PySem.W.Frag) (W : Wd) (w : WT) : TT := fun σ H Q => ∃ M0 H0 oa ds P, Sat K W M0 H0 oa H σ ds ∧ w ds P ∧ ∀ b H', P b → Ext W H H' → W.I H' → Q b H'
def LA (K : PySem.W.Frag) (W : Wd) (w : WL) : TA := fun σ H Q => ∃ M0 H0 oa ds P, Sat K W M0 H0 oa H σ ds ∧ w ds P ∧ ∀ xs vs H', P xs → Ext W H H' → W.I H' → Reps K (Mx M0 oa) H' xs vs → Q vs H'
abbrev VE (X : Cx) (W : Wd) (e : Expr) (w : WE) : Prop := PE X e (LE X.K W w)
abbrev VT (X : Cx) (W : Wd) (e : Expr) (w : WT) : Prop := PT X e (LT X.K W w)
abbrev VA (X : Cx) (W : Wd) (es : List Expr) (w : WL) : Prop := PA X es (LA X.K W w)
section
variable {X : Cx} {e : Expr} {es : List Expr}
theorem pe_imp {t t' : TE} (h : PE X e t) (f : ∀ σ H Q, t' σ H Q → t σ H Q) : PE X e t' := ⟨fun pins s σ H Q I hw => h.run pins s σ H Q I (f σ H Q hw)⟩
theorem pt_imp {t t' : TT} (h : PT X e t) (f : ∀ σ H Q, t' σ H Q → t σ H Q) : PT X e t' := ⟨fun pins s σ H Q I hw => h.run pins s σ H Q I (f σ H Q hw)⟩
theorem pw_imp {t t' : TT} (h : PW X e t) (f : ∀ σ H Q, t' σ H Q → t σ H Q) : PW X e t' := ⟨fun wh pins s σ H Q I hw => h.run wh pins s σ H Q I (f σ H Q hw)⟩
theorem pa_imp {t t' : TA} (h : PA X es t) (f : ∀ σ H Q, t' σ H Q → t σ H Q) : PA X es t' := ⟨fun pos pins s σ H Q I hw => h.run pos pins s σ H Q I (f σ H Q hw)⟩
end
def slD : Sl → (D → Prop) → Prop
  | .d x, P => P x
  | _, _ => False
def wVar (i : Nat) : WE := fun ds P => slD (ds.getD i .un) P
def wC (d : D) : WE := fun _ P => P d
theorem slD_of {s : Sl} {P : D → Prop} (h : slD s P) : ∃ x, s = .d x ∧ P x := by
  cases s with
  | un => exact h.elim
  | d x => exact ⟨x, rfl, h⟩
  | ml l => exact h.elim
  | md k l => exact h.elim
  | mi a C k l => exact h.elim
  | ow t => exact h.elim
theorem getD_get {ds : List Sl} {i : Nat} {x : D} (h : ds.getD i .un = .d x) : ds[i]? = some (.d x) := by
  rw [List.getD_eq_getElem?_getD] at h
  cases e : ds[i]? with
  | none => rw [e] at h; cases h
  | some s => rw [e] at h; exact congrArg some h
section
variable {X : Cx} {W : Wd} {e a b c : Expr} {es rest : List Expr} {pos : Pos}
theorem ve_var (i : Nat) {x : Str} (hN : X.N[i]? = some x := by rfl) (hv : Vis X.env.scope x := by first | exact Or.inl rfl | exact Or.inr (Or.inl rfl) | exact Or.inr (Or.inr rfl)) (hd : (x == ("__debug__" : Str)) = false := by decide)
    (hcd : (x == ("__classdict__" : Str)) = false := by decide) : VE X W (.Name x pos) (wVar i) := pe_imp (pe_var hN hv hd hcd) fun σ H Q ⟨M0, H0, oa, ds, P, S, hw, k⟩ => by
  obtain ⟨x, e, hp⟩ := slD_of hw
  obtain ⟨v, h1, r⟩ := S.get (getD_get e)
  exact ⟨v, h1, k x v H hp (Ext.refl H) S.wi r⟩
def Flat (K : PySem.W.Frag) (d : D) (v : V) : Prop := ∀ M H, Rep K M H d v
theorem ve_c {d : D} {v : V} (h : PE X e (tC v)) (f : Flat X.K d v) : VE X W e (wC d) := pe_imp h fun σ H Q ⟨M0, H0, oa, ds, P, S, hw, k⟩ => k d v H hw (Ext.refl H) S.wi (f _ _)
theorem ve_int {i j} : VE X W (.Constant (.int i) j pos) (wC (.int i)) := ve_c pe_int fun _ _ => rep_int
theorem ve_bl {i j} : VE X W (.Constant (.bool i) j pos) (wC (.bl i)) := ve_c pe_bl fun _ _ => rep_bl
theorem ve_non {j} : VE X W (.Constant .none j pos) (wC .non) := ve_c pe_non fun _ _ => rep_non
theorem ve_str {i j} : VE X W (.Constant (.str i) j pos) (wC (.str i)) := ve_c pe_str fun _ _ => rep_str
theorem ve_glob {x : Str} {d : D} {v : V} {u : Value} (hg : Gl X x) (hm : X.mg x = some u) (r : RelV v u) (f : Flat X.K d v) (hd : (x == ("__debug__" : Str)) = false := by decide) : VE X W (.Name x pos) (wC d) := ve_c (pe_glob hg hm r hd) f
def LiftOp (K : PySem.W.Frag) (W : Wd) (f : D → D → (D → Prop) → Prop) (r : R2) : Prop :=
  ∀ (M : Addr → Prop) (H : Hp) (x y : D) (v u : V) (P : D → Prop) (Q : VK), MOk W M H → Rep K M H x v → Rep K M H y u → f x y P → (∀ d z H', P d → Ext W H H' → W.I H' → Rep K M H' d z → Q z H') → r v u H Q
def wOp (f : D → D → (D → Prop) → Prop) (wa wb : WE) : WE := fun ds P => wa ds fun x => wb ds fun y => f x y P
theorem le_op {K : PySem.W.Frag} {f : D → D → (D → Prop) → Prop} {r : R2} {wa wb : WE} (hf : LiftOp K W f r) (σ : L2.St) (H : Hp) (Q : VK) (h : LE K W (wOp f wa wb) σ H Q) : tOp r (LE K W wa) (LE K W wb) σ H Q := by
  obtain ⟨M0, H0, oa, ds, P, S, hw, k⟩ := h
  refine ⟨M0, H0, oa, ds, _, S, hw, fun x v H1 hx e1 i1 r1 => ?_⟩
  refine ⟨M0, H0, oa, ds, _, S.step e1 i1, hx, fun y u H2 hy e2 i2 r2 => ?_⟩
  have S2 := (S.step e1 i1).step e2 i2
  exact hf (Mx M0 oa) H2 x y v u P Q S2.mok (r1.ext (S.step e1 i1).mok e2) r2 hy fun d z H' hp e i r => k d z H' hp ((e1.trans e2).trans e) i r
theorem ve_op {op : Operator} {f : D → D → (D → Prop) → Prop} {r : R2} {wa wb : WE} (ho : OpR X (binaryOp op) r) (hf : LiftOp X.K W f r) (ha : VE X W a wa) (hb : VE X W b wb) : VE X W (.BinOp a op b pos) (wOp f wa wb) :=
  pe_imp (pe_op ho ha hb) (le_op hf)
theorem ve_cmp {op : CmpOp} {f : D → D → (D → Prop) → Prop} {r : R2} {wa wb : WE} (ho : OpR X (compareOp op) r) (hf : LiftOp X.K W f r) (ha : VE X W a wa) (hb : VE X W b wb) (hm : behindInMarks op b = false) : VE X W (.Compare a [op] [b] pos) (wOp f wa wb) :=
  pe_imp (pe_cmpR ho ha hb hm) (le_op hf)
def asBl : D → (Bool → Prop) → Prop
  | .bl b, P => P b
  | _, _ => False
theorem asBl_of {d : D} {P : Bool → Prop} (h : asBl d P) : ∃ b, d = .bl b ∧ P b := by
  cases d with
  | bl b => exact ⟨b, rfl, h⟩
  | _ => exact h.elim
def wTest (w : WE) : WT := fun ds P => w ds fun d => asBl d P
theorem lt_test {K : PySem.W.Frag} {w : WE} (σ : L2.St) (H : Hp) (Q : Bool → Hp → Prop) (h : LT K W (wTest w) σ H Q) : tB (LE K W w) σ H Q := by
  obtain ⟨M0, H0, oa, ds, P, S, hw, k⟩ := h
  refine ⟨M0, H0, oa, ds, _, S, hw, fun x v H1 hx e1 i1 r1 => ?_⟩
  obtain ⟨b, rfl, hb⟩ := asBl_of hx
  exact ⟨b, r1.bl, k b H1 hb e1 i1⟩
theorem vt_val {w : WE} (h : VE X W e w) (he : ∀ whole, isTrue e X.env whole = (do let v ← whole; standAt e.pos; holding [v] (truthy v)) := by intro _; rfl) : VT X W e (wTest w) := pt_imp (pt_val h he) lt_test
theorem vt_cmp {op : CmpOp} {f : D → D → (D → Prop) → Prop} {r : R2} {wa wb : WE} (ho : OpR X (compareOp op) r) (hf : LiftOp X.K W f r) (ha : VE X W a wa) (hb : VE X W b wb) (hm : behindInMarks op b = false) : VT X W (.Compare a [op] [b] pos) (wTest (wOp f wa wb)) := by
  refine pt_imp (pt_cmpR ho ha hb hm) fun σ H Q h => ?_
  obtain ⟨M0, H0, oa, ds, P, S, hw, k⟩ := h
  show tOp r _ _ σ H _
  refine le_op hf σ H _ ⟨M0, H0, oa, ds, _, S, hw, fun x v H1 hx e1 i1 r1 => ?_⟩
  obtain ⟨b, rfl, hb⟩ := asBl_of hx
  exact ⟨b, r1.bl, k b H1 hb e1 i1⟩
def rAddA : R2 := fun x y H Q => (rI0 fun i j => .int (i + j)) x y H Q ∨ (∃ i j, x = .str i ∧ y = .str j ∧ i.length + j.length ≤ sizeLine ∧ Q (.str (i ++ j)) H)
theorem OpR.or {f : Value → Value → Sem Value} {r r' : R2} (h : OpR X f r) (h' : OpR X f r') : OpR X f (fun x y H Q => r x y H Q ∨ r' x y H Q) := by
  intro pins s σ H x y v u Q I r1 r2 q
  rcases q with q | q
  · exact h pins s σ H x y v u Q I r1 r2 q
  · exact h' pins s σ H x y v u Q I r1 r2 q
theorem op_addA : OpR X (binaryOp .Add) rAddA := OpR.or op_add op_add_str
def iiD (C : Int → Int → Prop) (g : Int → Int → D) : D → D → (D → Prop) → Prop
  | .int i, .int j, P => C i j ∧ P (g i j)
  | _, _, _ => False
theorem lift_ii {K : PySem.W.Frag} {C : Int → Int → Prop} {g : Int → Int → Int} : LiftOp K W (iiD C fun i j => .int (g i j)) (rI C fun i j => .int (g i j)) := by
  intro M H x y v u P Q m r1 r2 h k
  cases x <;> cases y <;> first
    | exact h.elim
    | (rename_i i j; exact ⟨i, j, r1.int, r2.int, h.1, k _ _ H h.2 (Ext.refl H) m.wi rep_int⟩)
def ii0 (g : Int → Int → D) : D → D → (D → Prop) → Prop
  | .int i, .int j, P => P (g i j)
  | _, _, _ => False
theorem lift_ii0 {K : PySem.W.Frag} {g : Int → Int → Int} : LiftOp K W (ii0 fun i j => .int (g i j)) (rI0 fun i j => .int (g i j)) := by
  intro M H x y v u P Q m r1 r2 h k
  cases x <;> cases y <;> first
    | exact h.elim
    | (rename_i i j; exact ⟨i, j, r1.int, r2.int, k _ _ H h (Ext.refl H) m.wi rep_int⟩)
theorem lift_iib {K : PySem.W.Frag} {g : Int → Int → Bool} : LiftOp K W (ii0 fun i j => .bl (g i j)) (rI0 fun i j => .bl (g i j)) := by
  intro M H x y v u P Q m r1 r2 h k
  cases x <;> cases y <;> first
    | exact h.elim
    | (rename_i i j; exact ⟨i, j, r1.int, r2.int, k _ _ H h (Ext.refl H) m.wi rep_bl⟩)
def CFdiv (_ j : Int) : Prop := j ≠ 0 ∧ j.natAbs.log2 < 9000
theorem op_fdivA : OpR X (binaryOp .FloorDiv) (rI CFdiv fun i j => .int (i.fdiv j)) := opI fun i j _ _ _ _ _ hc q => floordiv_int hc.1 q (.inl (PyProof.noPylong_of_log2 hc.2))
abbrev subD : D → D → (D → Prop) → Prop := ii0 fun i j => .int (i - j)
abbrev mulD : D → D → (D → Prop) → Prop := iiD CMulW fun i j => .int (i * j)
abbrev fdivD : D → D → (D → Prop) → Prop := iiD CFdiv fun i j => .int (i.fdiv j)
abbrev modD : D → D → (D → Prop) → Prop := iiD (fun _ j => j ≠ 0) fun i j => .int (i.fmod j)
theorem ve_sub {wa wb : WE} (ha : VE X W a wa) (hb : VE X W b wb) : VE X W (.BinOp a .Sub b pos) (wOp subD wa wb) := ve_op op_sub lift_ii0 ha hb
theorem ve_mul {wa wb : WE} (ha : VE X W a wa) (hb : VE X W b wb) : VE X W (.BinOp a .Mult b pos) (wOp mulD wa wb) := ve_op op_mulW lift_ii ha hb
theorem ve_fdiv {wa wb : WE} (ha : VE X W a wa) (hb : VE X W b wb) : VE X W (.BinOp a .FloorDiv b pos) (wOp fdivD wa wb) := ve_op op_fdivA lift_ii ha hb
theorem ve_mod {wa wb : WE} (ha : VE X W a wa) (hb : VE X W b wb) : VE X W (.BinOp a .Mod b pos) (wOp modD wa wb) := ve_op op_modN lift_ii ha hb
theorem vif {b : Bool} {A B : Prop} (h1 : b = true → A) (h0 : b = false → B) : if b = true then A else B := by
  cases b with
  | true => exact iteT (h1 rfl)
  | false => exact iteF (h0 rfl)
theorem vifd {p : Prop} {dp : Decidable p} {A B : Prop} (h1 : p → A) (h0 : ¬ p → B) : if decide p = true then A else B := vif (fun e => h1 (of_decide_eq_true e)) fun e => h0 (of_decide_eq_false e)
theorem vifn {p : Prop} {dp : Decidable p} {A B : Prop} (h1 : ¬ p → A) (h0 : p → B) : if (!decide p) = true then A else B := vif (fun e => h1 (by simpa using e)) fun e => h0 (by simpa using e)
def ltD : D → D → (D → Prop) → Prop
  | .int i, .int j, P => P (.bl (decide (i < j)))
  | .str i, .str j, P => P (.bl (decide (i.cps.toList < j.cps.toList)))
  | _, _, _ => False
def rLtA : R2 := fun x y H Q => (rI0 fun i j => .bl (decide (i < j))) x y H Q ∨ (∃ i j, x = .str i ∧ y = .str j ∧ Q (.bl (decide (i.cps.toList < j.cps.toList))) H)
theorem lift_lt {K : PySem.W.Frag} : LiftOp K W ltD rLtA := by
  intro M H x y v u P Q m r1 r2 h k
  cases x <;> cases y <;> first
    | exact h.elim
    | (rename_i i j; exact .inl ⟨i, j, r1.int, r2.int, k _ _ H h (Ext.refl H) m.wi rep_bl⟩)
    | (rename_i i j; exact .inr ⟨i, j, r1.str, r2.str, k _ _ H h (Ext.refl H) m.wi rep_bl⟩)
mutual
def toPy : D → PyData
  | .non => .none
  | .bl b => .bool b
  | .int i => .int i
  | .str x => .str x
  | .hnd _ => .dict []
  | .dic _ _ => .dict []
  | .ins _ _ _ => .dict []
  | .lam _ _ => .dict []
  | .tup ds => .tuple (toPys ds)
  | .lst ds => .list (toPys ds)
def toPys : List D → List PyData
  | [] => []
  | d :: ds => toPy d :: toPys ds
end
mutual
theorem dp_of {K : PySem.W.Frag} {M : Addr → Prop} {H : Hp} : ∀ {d : D} {v : V}, Rep K M H d v → (toPy d).canLay0 = true → Dp K H v (toPy d)
  | .non, _, h, _ => by rw [h.non]; unfold toPy; exact .non
  | .bl _, _, h, _ => by rw [h.bl]; unfold toPy; exact .bl _
  | .int _, _, h, _ => by rw [h.int]; unfold toPy; exact .int _
  | .str _, _, h, _ => by rw [h.str]; unfold toPy; exact .str _
  | .hnd _, _, _, c => by unfold toPy PyData.canLay0 at c; cases c
  | .dic _ _, _, _, c => by unfold toPy PyData.canLay0 at c; cases c
  | .ins _ _ _, _, _, c => by unfold toPy PyData.canLay0 at c; cases c
  | .lam _ _, _, _, c => by unfold toPy PyData.canLay0 at c; cases c
  | .tup _, _, h, c => by
    obtain ⟨a, xs, rfl, t, r⟩ := h.tup
    unfold toPy
    unfold toPy PyData.canLay0 at c
    exact .tup t.sq (dps_of r c)
  | .lst _, _, h, c => by
    obtain ⟨a, xs, rfl, t, r⟩ := h.lst
    unfold toPy
    unfold toPy PyData.canLay0 at c
    exact .lst t.sq (dps_of r c)
theorem dps_of {K : PySem.W.Frag} {M : Addr → Prop} {H : Hp} : ∀ {ds : List D} {vs : List V}, Reps K M H ds vs → PyData.canLayAll0 (toPys ds) = true → DpAll K H vs (toPys ds)
  | [], _, h, _ => by rw [h.inv0]; unfold toPys; exact .nil
  | _ :: _, _, h, c => by
    obtain ⟨v, vs, rfl, h1, h2⟩ := h.inv
    unfold toPys
    unfold toPys PyData.canLayAll0 at c
    obtain ⟨c1, c2⟩ := Bool.and_eq_true_iff.mp c
    exact .cons (dp_of h1 c1) (dps_of h2 c2)
end
def shp (d : D) : Bool := SeqAt.shaped (toPy d)
def eqv (x y : D) : Bool := PyData.eqv (toPy x) (toPy y)
def eqD : D → D → (D → Prop) → Prop
  | .int i, .int j, P => P (.bl (decide (i = j)))
  | .str i, .str j, P => P (.bl (decide (i = j)))
  | .bl i, .bl j, P => P (.bl (decide (i = j)))
  | x, y, P => shp x = true ∧ shp y = true ∧ P (.bl (eqv x y))
def neD : D → D → (D → Prop) → Prop
  | .int i, .int j, P => P (.bl (!decide (i = j)))
  | .str i, .str j, P => P (.bl (!decide (i = j)))
  | .bl i, .bl j, P => P (.bl (!decide (i = j)))
  | x, y, P => shp x = true ∧ shp y = true ∧ P (.bl (!eqv x y))
def rEqA (K : PySem.W.Frag) : R2 := fun x y H Q => rEq x y H Q ∨ rEqD K x y H Q
def rNeA (K : PySem.W.Frag) : R2 := fun x y H Q => rNe x y H Q ∨ rNeD K x y H Q
theorem dec_v {i j : Int} : decide (V.int i = V.int j) = decide (i = j) := by simp
theorem dec_s {i j : Str} : decide (V.str i = V.str j) = decide (i = j) := by simp
theorem dec_b {i j : Bool} : decide (V.bl i = V.bl j) = decide (i = j) := by simp
theorem lift_eq {K : PySem.W.Frag} : LiftOp K W eqD (rEqA K) := by
  intro M H x y v u P Q m r1 r2 h k
  unfold eqD at h
  split at h
  · rename_i i j
    have e1 := r1.int
    have e2 := r2.int
    subst e1 e2
    exact .inl ⟨rfl, by rw [dec_v]; exact k _ _ H h (Ext.refl H) m.wi rep_bl⟩
  · rename_i i j
    have e1 := r1.str
    have e2 := r2.str
    subst e1 e2
    exact .inl ⟨rfl, by rw [dec_s]; exact k _ _ H h (Ext.refl H) m.wi rep_bl⟩
  · rename_i i j
    have e1 := r1.bl
    have e2 := r2.bl
    subst e1 e2
    exact .inl ⟨rfl, by rw [dec_b]; exact k _ _ H h (Ext.refl H) m.wi rep_bl⟩
  · obtain ⟨h1, h2, h⟩ := h
    exact .inr ⟨toPy x, toPy y, dp_of r1 (SeqAt.canLay_of_shaped h1), dp_of r2 (SeqAt.canLay_of_shaped h2), h1, h2, k _ _ H h (Ext.refl H) m.wi rep_bl⟩
theorem lift_ne {K : PySem.W.Frag} : LiftOp K W neD (rNeA K) := by
  intro M H x y v u P Q m r1 r2 h k
  unfold neD at h
  split at h
  · rename_i i j
    have e1 := r1.int
    have e2 := r2.int
    subst e1 e2
    exact .inl ⟨rfl, by rw [dec_v]; exact k _ _ H h (Ext.refl H) m.wi rep_bl⟩
  · rename_i i j
    have e1 := r1.str
    have e2 := r2.str
    subst e1 e2
    exact .inl ⟨rfl, by rw [dec_s]; exact k _ _ H h (Ext.refl H) m.wi rep_bl⟩
  · rename_i i j
    have e1 := r1.bl
    have e2 := r2.bl
    subst e1 e2
    exact .inl ⟨rfl, by rw [dec_b]; exact k _ _ H h (Ext.refl H) m.wi rep_bl⟩
  · obtain ⟨h1, h2, h⟩ := h
    exact .inr ⟨toPy x, toPy y, dp_of r1 (SeqAt.canLay_of_shaped h1), dp_of r2 (SeqAt.canLay_of_shaped h2), h1, h2, k _ _ H h (Ext.refl H) m.wi rep_bl⟩
theorem op_eqA (hu : X.A.units + 64 < cLine) : OpR X (compareOp .Eq) (rEqA X.K) := OpR.or op_eq (op_eqD hu)
theorem op_neA (hu : X.A.units + 64 < cLine) : OpR X (compareOp .NotEq) (rNeA X.K) := OpR.or op_ne (op_neD hu)
def flatD : D → Bool
  | .non | .bl _ | .int _ | .str _ => true
  | _ => false
def fV : D → V
  | .non => .non
  | .bl b => .bl b
  | .int i => .int i
  | .str x => .str x
  | .hnd v => v
  | _ => .non
theorem Rep.flat {K : PySem.W.Frag} {M : Addr → Prop} {H : Hp} {d : D} {v : V} (h : Rep K M H d v) (f : flatD d = true) : v = fV d := by
  cases d with
  | non => exact h.non
  | bl => exact h.bl
  | int => exact h.int
  | str => exact h.str
  | _ => cases f
theorem Reps.flat {K : PySem.W.Frag} {M : Addr → Prop} {H : Hp} : ∀ {ds : List D} {vs : List V}, Reps K M H ds vs → ds.all flatD = true → vs = ds.map fV
  | [], _, h, _ => h.inv0
  | _ :: _, _, h, f => by
    obtain ⟨v, vs, rfl, h1, h2⟩ := h.inv
    obtain ⟨f1, f2⟩ := Bool.and_eq_true_iff.mp f
    rw [h1.flat f1, Reps.flat h2 f2]
    rfl
theorem flat_v {d : D} (f : flatD d = true) : flatV (fV d) = true := by
  cases d <;> first | rfl | cases f
theorem flat_vs : ∀ {ds : List D}, ds.all flatD = true → (ds.map fV).all flatV = true
  | [], _ => rfl
  | _ :: _, f => by
    obtain ⟨f1, f2⟩ := Bool.and_eq_true_iff.mp f
    show (flatV _ && (List.map fV _).all flatV) = true
    rw [flat_v f1, flat_vs f2]
    rfl
def inD (neg : Bool) : D → D → (D → Prop) → Prop
  | x, .lst xs, P => flatD x = true ∧ xs.all flatD = true ∧ P (.bl (if neg then !inV (fV x) (xs.map fV) else inV (fV x) (xs.map fV)))
  | x, .tup xs, P => flatD x = true ∧ xs.all flatD = true ∧ P (.bl (if neg then !inV (fV x) (xs.map fV) else inV (fV x) (xs.map fV)))
  | _, _, _ => False
theorem lift_in {K : PySem.W.Frag} {neg : Bool} : LiftOp K W (inD neg) (rIn K neg) := by
  intro M H x y v u P Q m r1 r2 h k
  cases y with
  | lst xs =>
    obtain ⟨h1, h2, h3⟩ := h
    obtain ⟨a, vs, rfl, t, r⟩ := r2.lst
    have e1 := r1.flat h1
    have e2 := r.flat h2
    subst e1 e2
    exact ⟨a, _, rfl, .inl t.sq, flat_v h1, flat_vs h2, k _ _ H h3 (Ext.refl H) m.wi rep_bl⟩
  | tup xs =>
    obtain ⟨h1, h2, h3⟩ := h
    obtain ⟨a, vs, rfl, t, r⟩ := r2.tup
    have e1 := r1.flat h1
    have e2 := r.flat h2
    subst e1 e2
    exact ⟨a, _, rfl, .inr t.sq, flat_v h1, flat_vs h2, k _ _ H h3 (Ext.refl H) m.wi rep_bl⟩
  | _ => cases x <;> exact h.elim
def inSgn (neg : Bool) : D → D → (D → Prop) → Prop
  | .str c, .str z, P => ∃ n, c = ⟨#[n]⟩ ∧ P (.bl (if neg then !decide (n ∈ z.cps.toList) else decide (n ∈ z.cps.toList)))
  | _, _, _ => False
theorem lift_inS {K : PySem.W.Frag} : LiftOp K W (inSgn false) (fun x y H Q => ∃ (c : Nat) (z : Str), x = .str ⟨#[c]⟩ ∧ y = .str z ∧ Q (.bl (decide (c ∈ z.cps.toList))) H) := by
  intro M H x y v u P Q m r1 r2 h k
  cases x <;> cases y <;> first
    | exact h.elim
    | (rename_i i j; obtain ⟨n, rfl, h⟩ := h; exact ⟨n, j, r1.str, r2.str, k _ _ H h (Ext.refl H) m.wi rep_bl⟩)
def isNn : Bool → D → D → (D → Prop) → Prop := fun neg x y P => match x, y with
  | .non, .non => P (.bl (!neg))
  | .hnd _, .non => False
  | _, .non => P (.bl neg)
  | _, _ => False
theorem lift_isN {K : PySem.W.Frag} : LiftOp K W (isNn false) (fun x y H Q => y = .non ∧ Q (.bl (decide (x = .non))) H) := by
  intro M H x y v u P Q m r1 r2 h k
  have key : ∀ b : Bool, P (.bl b) → decide (v = .non) = b → Q (.bl (decide (v = .non))) H := fun b hp e => by rw [e]; exact k _ _ H hp (Ext.refl H) m.wi rep_bl
  cases y <;> first | (cases x <;> exact h.elim) | skip
  refine ⟨r2.non, ?_⟩
  cases x with
  | non => exact key true h (by rw [r1.non]; rfl)
  | bl => exact key false h (by rw [r1.bl]; rfl)
  | int => exact key false h (by rw [r1.int]; rfl)
  | str => exact key false h (by rw [r1.str]; rfl)
  | hnd => exact h.elim
  | tup => obtain ⟨a, _, e, _⟩ := r1.tup; exact key false h (by rw [e]; rfl)
  | lst => obtain ⟨a, _, e, _⟩ := r1.lst; exact key false h (by rw [e]; rfl)
  | dic => obtain ⟨a, _, e, _⟩ := r1.dic; exact key false h (by rw [e]; rfl)
  | ins => obtain ⟨a, _, _, e, _⟩ := r1.ins; exact key false h (by rw [e]; rfl)
  | lam => exact key false h (by rw [r1.lam.1]; rfl)
theorem op_ltA : OpR X (compareOp .Lt) rLtA := OpR.or op_lt op_lt_str
def wAnd (t u : WT) : WT := fun ds P => t ds fun b => if b = true then u ds P else P false
def wOr (t u : WT) : WT := fun ds P => t ds fun b => if b = true then P true else u ds P
def wNot (t : WT) : WT := fun ds P => t ds fun b => P (!b)
abbrev VW (X : Cx) (W : Wd) (e : Expr) (w : WT) : Prop := PW X e (LT X.K W w)
theorem vw_and1 {t : WT} (ha : VT X W a t) : VW X W (.BoolOp .And [a] pos) t := pw_and1 ha
theorem vw_or1 {t : WT} (ha : VT X W a t) : VW X W (.BoolOp .Or [a] pos) t := pw_or1 ha
theorem vw_and {t u : WT} (ha : VT X W a t) (hb : VW X W (.BoolOp .And (b :: rest) pos) u) : VW X W (.BoolOp .And (a :: b :: rest) pos) (wAnd t u) := by
  refine pw_imp (pw_and ha hb) fun σ H Q h => ?_
  obtain ⟨M0, H0, oa, ds, P, S, hw, k⟩ := h
  refine ⟨M0, H0, oa, ds, _, S, hw, fun b H1 hb e1 i1 => ?_⟩
  cases b with
  | true => exact ⟨M0, H0, oa, ds, _, S.step e1 i1, hb, fun b H2 hp e2 i2 => k b H2 hp (e1.trans e2) i2⟩
  | false => exact k false H1 hb e1 i1
theorem vw_or {t u : WT} (ha : VT X W a t) (hb : VW X W (.BoolOp .Or (b :: rest) pos) u) : VW X W (.BoolOp .Or (a :: b :: rest) pos) (wOr t u) := by
  refine pw_imp (pw_or ha hb) fun σ H Q h => ?_
  obtain ⟨M0, H0, oa, ds, P, S, hw, k⟩ := h
  refine ⟨M0, H0, oa, ds, _, S, hw, fun b H1 hb e1 i1 => ?_⟩
  cases b with
  | true => exact k true H1 hb e1 i1
  | false => exact ⟨M0, H0, oa, ds, _, S.step e1 i1, hb, fun b H2 hp e2 i2 => k b H2 hp (e1.trans e2) i2⟩
theorem vt_w {t : WT} (h : VW X W e t) : VT X W e t := h.pt
theorem vt_not {t : WT} (ha : VT X W a t) : VT X W (.UnaryOp .Not a pos) (wNot t) := by
  refine pt_imp (pt_not ha) fun σ H Q h => ?_
  obtain ⟨M0, H0, oa, ds, P, S, hw, k⟩ := h
  exact ⟨M0, H0, oa, ds, _, S, hw, fun b H1 hb e1 i1 => k (!b) H1 hb e1 i1⟩
def wAndV (wa wb : WE) : WE := fun ds P => wa ds fun x => asBl x fun c => if c = true then wb ds P else P (.bl false)
def wNotV (wa : WE) : WE := fun ds P => wa ds fun x => asBl x fun c => P (.bl (!c))
theorem ve_one {op} {w : WE} (h : VE X W a w) : VE X W (.BoolOp op [a] pos) w := pe_one h
theorem ve_and {wa wb : WE} (ha : VE X W a wa) (hb : VE X W (.BoolOp .And (b :: rest) pos) wb) : VE X W (.BoolOp .And (a :: b :: rest) pos) (wAndV wa wb) := by
  refine pe_imp (pe_and ha hb) fun σ H Q h => ?_
  obtain ⟨M0, H0, oa, ds, P, S, hw, k⟩ := h
  refine ⟨M0, H0, oa, ds, _, S, hw, fun x v H1 hx e1 i1 r1 => ?_⟩
  obtain ⟨c, rfl, hc⟩ := asBl_of hx
  refine ⟨c, r1.bl, ?_⟩
  cases c with
  | true => exact ⟨M0, H0, oa, ds, _, S.step e1 i1, hc, fun d v H2 hp e2 i2 r => k d v H2 hp (e1.trans e2) i2 r⟩
  | false => exact k _ _ H1 hc e1 i1 rep_bl
theorem ve_not {wa : WE} (ha : VE X W a wa) : VE X W (.UnaryOp .Not a pos) (wNotV wa) := by
  refine pe_imp (pe_not ha) fun σ H Q h => ?_
  obtain ⟨M0, H0, oa, ds, P, S, hw, k⟩ := h
  refine ⟨M0, H0, oa, ds, _, S, hw, fun x v H1 hx e1 i1 r1 => ?_⟩
  obtain ⟨c, rfl, hc⟩ := asBl_of hx
  exact ⟨c, r1.bl, k _ _ H1 hc e1 i1 rep_bl⟩
def wIf (t : WT) (wa wb : WE) : WE := fun ds P => t ds fun c => if c = true then wa ds P else wb ds P
theorem ve_if {t : WT} {wa wb : WE} (hc : VT X W c t) (ha : VE X W a wa) (hb : VE X W b wb) : VE X W (.IfExp c a b pos) (wIf t wa wb) := by
  refine pe_imp (pe_ifExp hc ha hb) fun σ H Q h => ?_
  obtain ⟨M0, H0, oa, ds, P, S, hw, k⟩ := h
  refine ⟨M0, H0, oa, ds, _, S, hw, fun c H1 hx e1 i1 => ?_⟩
  cases c with
  | true => exact ⟨M0, H0, oa, ds, _, S.step e1 i1, hx, fun d v H2 hp e2 i2 r => k d v H2 hp (e1.trans e2) i2 r⟩
  | false => exact ⟨M0, H0, oa, ds, _, S.step e1 i1, hx, fun d v H2 hp e2 i2 r => k d v H2 hp (e1.trans e2) i2 r⟩
def wChain (f g : D → D → (D → Prop) → Prop) (wa wb wc : WE) : WE := fun ds P => wa ds fun x => wb ds fun y => f x y fun z => asBl z fun k => if k = true then wc ds fun w => g y w P else P (.bl false)
theorem le_chain {K : PySem.W.Frag} {f g : D → D → (D → Prop) → Prop} {r r' : R2} {wa wb wc : WE} (hf : LiftOp K W f r) (hg : LiftOp K W g r') (σ : L2.St) (H : Hp) (Q : VK) (h : LE K W (wChain f g wa wb wc) σ H Q) :
    tChain r r' (LE K W wa) (LE K W wb) (LE K W wc) σ H Q := by
  obtain ⟨M0, H0, oa, ds, P, S, hw, k⟩ := h
  refine ⟨M0, H0, oa, ds, _, S, hw, fun x v H1 hx e1 i1 r1 => ?_⟩
  refine ⟨M0, H0, oa, ds, _, S.step e1 i1, hx, fun y u H2 hy e2 i2 r2 => ?_⟩
  have S1 := S.step e1 i1
  have S2 := S1.step e2 i2
  refine hf (Mx M0 oa) H2 x y v u _ _ S2.mok (r1.ext S1.mok e2) r2 hy fun d z H3 hp e3 i3 r3 => ?_
  obtain ⟨c, rfl, hc⟩ := asBl_of hp
  have S3 := S2.step e3 i3
  refine ⟨c, r3.bl, ?_⟩
  cases c with
  | true =>
    refine ⟨M0, H0, oa, ds, _, S3, hc, fun w z' H4 hq e4 i4 r4 => ?_⟩
    have S4 := S3.step e4 i4
    exact hg (Mx M0 oa) H4 y w u z' P Q S4.mok ((r2.ext S2.mok e3).ext S3.mok e4) r4 hq fun d z H' hp e i r => k d z H' hp ((((e1.trans e2).trans e3).trans e4).trans e) i r
  | false => exact k _ _ H3 hc ((e1.trans e2).trans e3) i3 rep_bl
theorem vt_chain {op op' : CmpOp} {f g : D → D → (D → Prop) → Prop} {r r' : R2} {wa wb wc : WE} (ho : OpR X (compareOp op) r) (ho' : OpR X (compareOp op') r') (hf : LiftOp X.K W f r) (hg : LiftOp X.K W g r') (ha : VE X W a wa) (hb : VE X W b wb) (hc : VE X W c wc)
    (hm : lastMarks [op, op'] [b, c] = false := by with_unfolding_all rfl) : VT X W (.Compare a [op, op'] [b, c] pos) (wTest (wChain f g wa wb wc)) := by
  refine pt_imp (pt_chain ho ho' ha hb hc hm) fun σ H Q h => ?_
  obtain ⟨M0, H0, oa, ds, P, S, hw, k⟩ := h
  refine le_chain hf hg σ H _ ⟨M0, H0, oa, ds, _, S, hw, fun x v H1 hx e1 i1 r1 => ?_⟩
  obtain ⟨b, rfl, hb⟩ := asBl_of hx
  exact ⟨b, r1.bl, k b H1 hb e1 i1⟩
def wNil : WL := fun _ P => P []
def wCons (w : WE) (l : WL) : WL := fun ds P => w ds fun x => l ds fun xs => P (x :: xs)
theorem va_nil : VA X W [] wNil := pa_imp pa_nil fun σ H Q ⟨M0, H0, oa, ds, P, S, hw, k⟩ => k [] [] H hw (Ext.refl H) S.wi reps_nil
theorem va_cons {w : WE} {l : WL} (ha : VE X W e w) (hr : VA X W es l) (hs : starEach (e :: es) X.env = (false, eval e X.env) :: starEach es X.env := by rfl) : VA X W (e :: es) (wCons w l) := by
  refine pa_imp (pa_cons ha hr hs) fun σ H Q h => ?_
  obtain ⟨M0, H0, oa, ds, P, S, hw, k⟩ := h
  refine ⟨M0, H0, oa, ds, _, S, hw, fun x v H1 hx e1 i1 r1 => ?_⟩
  have S1 := S.step e1 i1
  exact ⟨M0, H0, oa, ds, _, S1, hx, fun xs vs H2 hp e2 i2 r2 => k _ _ H2 hp (e1.trans e2) i2 (reps_cons (r1.ext S1.mok e2) r2)⟩
def wTup (l : WL) : WE := fun ds P => l ds fun xs => xs.length ≤ 1000000 ∧ P (.tup xs)
def wLst (l : WL) : WE := fun ds P => l ds fun xs => xs.length ≤ 1000000 ∧ P (.lst xs)
theorem million {n : Nat} (h : n ≤ 1000000) : n ≤ sizeLine := by rw [sizeLine_eq]; omega
theorem ve_tup {l : WL} {x1} (h : VA X W es l) : VE X W (.Tuple es x1 pos) (wTup l) := by
  refine pe_imp (pe_tup h) fun σ H Q h => ?_
  obtain ⟨M0, H0, oa, ds, P, S, hw, k⟩ := h
  refine ⟨M0, H0, oa, ds, _, S, hw, fun xs vs H1 hx e1 i1 r1 => ⟨by rw [r1.len]; exact million hx.1, fun p hp => ?_⟩⟩
  have S1 := S.step e1 i1
  exact k _ _ _ hx.2 (e1.trans (Full.new hp).ext) (W.keep _ _ i1 (Full.new hp)) (S1.mok.newT hp r1)
theorem ve_lst {l : WL} (h : VA X W es l) : VE X W (.List es pos) (wLst l) := by
  refine pe_imp (pe_lst h) fun σ H Q h => ?_
  obtain ⟨M0, H0, oa, ds, P, S, hw, k⟩ := h
  refine ⟨M0, H0, oa, ds, _, S, hw, fun xs vs H1 hx e1 i1 r1 => ⟨by rw [r1.len]; exact million hx.1, fun p hp => ?_⟩⟩
  have S1 := S.step e1 i1
  exact k _ _ _ hx.2 (e1.trans (Full.new hp).ext) (W.keep _ _ i1 (Full.new hp)) (S1.mok.newL hp r1)
def wCall (f : List D → (D → Prop) → Prop) (l : WL) : WE := fun ds P => l ds fun xs => f xs P
def spD (K : PySem.W.Frag) (W : Wd) (f : List D → (D → Prop) → Prop) : Sp := fun vs H Q _ => ∃ M ds P, MOk W M H ∧ Reps K M H ds vs ∧ f ds P ∧ ∀ d v H', P d → Ext W H H' → W.I H' → Rep K M H' d v → Q v H'
theorem ve_call {CX : CXT} {k : Nat} {f : Addr} {fd : FuncData} {ps : List Str} {g : List D → (D → Prop) → Prop} {dvs : List V} {dds : List D} {ds : List Value} {x : Str} {p : Pos} {l : WL} {E : XK}
    (F : FnOk X.prog X.w X.K X.mg X.base CX k f fd ps (spD X.K W g)) (hr : Room k X.A) (hg : Gl X x) (hm : X.mg x = some (.ref f)) (hk : PySem.W.keepIn X.K (.ref f) = true) (hb : Binds X.K fd ps ds) (hd : Vals dvs ds) (hx : Passes CX X E) (hdd : ∀ M H, Reps X.K M H dds dvs)
    (ha : VA X W (e :: es) l) (hdb : (x == ("__debug__" : Str)) = false := by decide) (he : starEach (e :: es) X.env = (false, eval e X.env) :: starEach es X.env := by rfl) (hpl : (backTo pos (starEach es X.env)).any (·.1) = false := by rfl) :
    VE X W (.Call (.Name x p) (e :: es) [] pos) (wCall (fun xs P => g (xs ++ dds) P) l) := by
  refine pe_imp (pe_call F hr hg hm hk hb hd hx ha hdb he hpl) fun σ H Q h => ?_
  obtain ⟨M0, H0, oa, ds, P, S, hw, k⟩ := h
  refine ⟨M0, H0, oa, ds, _, S, hw, fun xs vs H1 hx e1 i1 r1 => ?_⟩
  have S1 := S.step e1 i1
  exact ⟨Mx M0 oa, xs ++ dds, P, S1.mok, r1.app (hdd _ _), hx, fun d v H' hp e i r => k d v H' hp (e1.trans e) i r⟩
def LiftCall (K : PySem.W.Frag) (W : Wd) (f : List D → (D → Prop) → Prop) (r : List V → Hp → VK → Prop) : Prop :=
  ∀ (M : Addr → Prop) (H : Hp) (xs : List D) (vs : List V) (P : D → Prop) (Q : VK), MOk W M H → Reps K M H xs vs → f xs P → (∀ d z H', P d → Ext W H H' → W.I H' → Rep K M H' d z → Q z H') → r vs H Q
theorem le_cb {K : PySem.W.Frag} {f : List D → (D → Prop) → Prop} {r : List V → Hp → VK → Prop} {l : WL} (hf : LiftCall K W f r) (σ : L2.St) (H : Hp) (Q : VK) (h : LE K W (wCall f l) σ H Q) : tCB r (LA K W l) σ H Q := by
  obtain ⟨M0, H0, oa, ds, P, S, hw, k⟩ := h
  refine ⟨M0, H0, oa, ds, _, S, hw, fun xs vs H1 hx e1 i1 r1 => ?_⟩
  exact hf (Mx M0 oa) H1 xs vs P Q (S.step e1 i1).mok r1 hx fun d z H' hp e i r => k d z H' hp (e1.trans e) i r
section
variable {x : Str} {p : Pos} {id T : String} {r : List V → Hp → VK → Prop} {f : List D → (D → Prop) → Prop} {l : WL}
theorem ve_callB (hc : CallR X (.builtin id) r) (hf : LiftCall X.K W f r) (hg : Gl X x) (hm : X.mg x = none) (hv : bootBuiltins x = some (.builtin id)) (ha : VA X W (e :: es) l) (hn : x ≠ "__name__" := by decide) (hdb : (x == ("__debug__" : Str)) = false := by decide)
    (he : starEach (e :: es) X.env = (false, eval e X.env) :: starEach es X.env := by rfl) (hpl : (backTo pos (starEach es X.env)).any (·.1) = false := by rfl) : VE X W (.Call (.Name x p) (e :: es) [] pos) (wCall f l) := pe_imp (pe_callB hc hg hm hv ha hn hdb he hpl) (le_cb hf)
theorem ve_callTy (hc : CallR X (.type T) r) (hf : LiftCall X.K W f r) (hg : Gl X x) (hm : X.mg x = none) (hv : bootBuiltins x = some (.type T)) (ha : VA X W (e :: es) l) (hn : x ≠ "__name__" := by decide) (hdb : (x == ("__debug__" : Str)) = false := by decide)
    (he : starEach (e :: es) X.env = (false, eval e X.env) :: starEach es X.env := by rfl) (hpl : (backTo pos (starEach es X.env)).any (·.1) = false := by rfl) : VE X W (.Call (.Name x p) (e :: es) [] pos) (wCall f l) := pe_imp (pe_callTy hc hg hm hv ha hn hdb he hpl) (le_cb hf)
end
def absD : List D → (D → Prop) → Prop
  | [.int i], P => P (.int (if i < 0 then -i else i))
  | _, _ => False
theorem Reps.one {K : PySem.W.Frag} {M : Addr → Prop} {H : Hp} {d : D} {vs : List V} (h : Reps K M H [d] vs) : ∃ v, vs = [v] ∧ Rep K M H d v := by
  obtain ⟨v, r, rfl, h1, h2⟩ := h.inv
  rw [h2.inv0]
  exact ⟨v, rfl, h1⟩
theorem Reps.two {K : PySem.W.Frag} {M : Addr → Prop} {H : Hp} {d e : D} {vs : List V} (h : Reps K M H [d, e] vs) : ∃ v u, vs = [v, u] ∧ Rep K M H d v ∧ Rep K M H e u := by
  obtain ⟨v, r, rfl, h1, h2⟩ := h.inv
  obtain ⟨u, rfl, h3⟩ := h2.one
  exact ⟨v, u, rfl, h1, h3⟩
theorem lift_abs {K : PySem.W.Frag} : LiftCall K W absD (fun xs H Q => ∃ i, xs = [.int i] ∧ Q (.int (if i < 0 then -i else i)) H) := by
  intro M H xs vs P Q m r h k
  match xs, h with
  | [.int i], h =>
    obtain ⟨v, rfl, r1⟩ := r.one
    exact ⟨i, by rw [r1.int], k _ _ H h (Ext.refl H) m.wi rep_int⟩
def intD : List D → (D → Prop) → Prop
  | [.int i], P => P (.int i)
  | [.bl b], P => P (.int (if b then 1 else 0))
  | _, _ => False
theorem lift_int {K : PySem.W.Frag} : LiftCall K W intD (fun xs H Q => (∃ i, xs = [.int i] ∧ Q (.int i) H) ∨ ∃ k, xs = [.bl k] ∧ Q (.int (if k then 1 else 0)) H) := by
  intro M H xs vs P Q m r h k
  match xs, h with
  | [.int i], h =>
    obtain ⟨v, rfl, r1⟩ := r.one
    exact .inl ⟨i, by rw [r1.int], k _ _ H h (Ext.refl H) m.wi rep_int⟩
  | [.bl i], h =>
    obtain ⟨v, rfl, r1⟩ := r.one
    exact .inr ⟨i, by rw [r1.bl], k _ _ H h (Ext.refl H) m.wi rep_int⟩
def lenD : List D → (D → Prop) → Prop
  | [.tup xs], P => P (.int xs.length)
  | [.lst xs], P => P (.int xs.length)
  | [.str x], P => x.length ≤ sizeLine ∧ P (.int x.length)
  | _, _ => False
theorem lift_len {K : PySem.W.Frag} : LiftCall K W lenD (fun xs H Q => ∃ x n, xs = [x] ∧ LenV K x H n ∧ Q (.int n) H) := by
  intro M H xs vs P Q m r h k
  match xs, h with
  | [.tup ds], h =>
    obtain ⟨v, rfl, r1⟩ := r.one
    obtain ⟨a, ys, rfl, t, r2⟩ := r1.tup
    exact ⟨_, ds.length, rfl, .inr ⟨ys, t.sq, r2.len.symm⟩, k _ _ H h (Ext.refl H) m.wi rep_int⟩
  | [.lst ds], h =>
    obtain ⟨v, rfl, r1⟩ := r.one
    obtain ⟨a, ys, rfl, t, r2⟩ := r1.lst
    exact ⟨_, ds.length, rfl, .inl ⟨ys, t.sq, r2.len.symm⟩, k _ _ H h (Ext.refl H) m.wi rep_int⟩
  | [.str x], h =>
    obtain ⟨v, rfl, r1⟩ := r.one
    have e := r1.str
    subst e
    exact ⟨.str x, x.length, rfl, ⟨h.1, rfl⟩, k _ _ H h.2 (Ext.refl H) m.wi rep_int⟩
def allD : List D → (D → Prop) → Prop
  | [.lst ds], P => ∃ bs : List Bool, ds = bs.map D.bl ∧ P (.bl (bs.all id))
  | _, _ => False
theorem lift_all {K : PySem.W.Frag} : LiftCall K W allD (rAll K) := by
  intro M H xs vs P Q m r h k
  match xs, h with
  | [.lst ds], h =>
    obtain ⟨bs, rfl, h⟩ := h
    obtain ⟨v, rfl, r1⟩ := r.one
    obtain ⟨a, ys, rfl, t, r2⟩ := r1.lst
    have e := r2.bls
    subst e
    exact ⟨a, bs, rfl, t.sq, k _ _ H h (Ext.refl H) m.wi rep_bl⟩
def listD : List D → (D → Prop) → Prop
  | [.tup xs], P => P (.lst xs)
  | [.lst xs], P => P (.lst xs)
  | _, _ => False
def tupD : List D → (D → Prop) → Prop
  | [.tup xs], P => P (.tup xs)
  | [.lst xs], P => P (.tup xs)
  | _, _ => False
theorem lift_list {K : PySem.W.Frag} : LiftCall K W listD (fun xs H Q => ∃ p ys, xs = [.ref p] ∧ (SqL K H p ys ∨ SqT K H p ys) ∧ ∀ l, H l = none → Q (.ref l) (upd H l (.lst ys))) := by
  intro M H xs vs P Q m r h k
  match xs, h with
  | [.tup ds], h =>
    obtain ⟨v, rfl, r1⟩ := r.one
    obtain ⟨a, ys, rfl, t, r2⟩ := r1.tup
    exact ⟨a, ys, rfl, .inr t.sq, fun l hl => k _ _ _ h (Full.new hl).ext (W.keep _ _ m.wi (Full.new hl)) (m.newL hl r2)⟩
  | [.lst ds], h =>
    obtain ⟨v, rfl, r1⟩ := r.one
    obtain ⟨a, ys, rfl, t, r2⟩ := r1.lst
    exact ⟨a, ys, rfl, .inl t.sq, fun l hl => k _ _ _ h (Full.new hl).ext (W.keep _ _ m.wi (Full.new hl)) (m.newL hl r2)⟩
theorem lift_tuple {K : PySem.W.Frag} : LiftCall K W tupD (fun xs H Q => ∃ p ys, xs = [.ref p] ∧ ((SqL K H p ys ∧ ∀ l, H l = none → Q (.ref l) (upd H l (.tup ys))) ∨ (SqT K H p ys ∧ Q (.ref p) H))) := by
  intro M H xs vs P Q m r h k
  match xs, h with
  | [.tup ds], h =>
    obtain ⟨v, rfl, r1⟩ := r.one
    obtain ⟨a, ys, rfl, t, r2⟩ := r1.tup
    exact ⟨a, ys, rfl, .inr ⟨t.sq, k _ _ _ h (Ext.refl H) m.wi (rep_tup t r2)⟩⟩
  | [.lst ds], h =>
    obtain ⟨v, rfl, r1⟩ := r.one
    obtain ⟨a, ys, rfl, t, r2⟩ := r1.lst
    exact ⟨a, ys, rfl, .inl ⟨t.sq, fun l hl => k _ _ _ h (Full.new hl).ext (W.keep _ _ m.wi (Full.new hl)) (m.newT hl r2)⟩⟩
def strD : List D → (D → Prop) → Prop
  | [.int i], P => i.natAbs.log2 < 1920 ∧ P (.str (toString i))
  | _, _ => False
theorem lift_str {K : PySem.W.Frag} : LiftCall K W strD (fun xs H Q => ∃ i, xs = [.int i] ∧ i.natAbs.log2 < 1920 ∧ Q (.str (toString i)) H) := by
  intro M H xs vs P Q m r h k
  match xs, h with
  | [.int i], h =>
    obtain ⟨v, rfl, r1⟩ := r.one
    exact ⟨i, by rw [r1.int], h.1, k _ _ H h.2 (Ext.refl H) m.wi rep_str⟩
inductive Ty where
  | int | str | bool | tuple | list
def Ty.nm : Ty → String
  | .int => "int" | .str => "str" | .bool => "bool" | .tuple => "tuple" | .list => "list"
def isTy : Ty → D → Bool
  | .int, .int _ => true
  | .int, .bl _ => true
  | .str, .str _ => true
  | .bool, .bl _ => true
  | .tuple, .tup _ => true
  | .list, .lst _ => true
  | _, _ => false
def noHnd : D → Bool
  | .hnd _ => false
  | .dic _ _ => false
  | .ins _ _ _ => false
  | .lam _ _ => false
  | _ => true
def tyN : D → String
  | .non => "NoneType" | .bl _ => "bool" | .int _ => "int" | .str _ => "str" | .tup _ => "tuple" | .lst _ => "list" | .hnd _ => "" | .dic _ _ => "" | .ins _ _ _ => "" | .lam _ _ => ""
inductive Kd where
  | non | bl | int | str | tup | lst
def Kd.nm : Kd → String
  | .non => "NoneType" | .bl => "bool" | .int => "int" | .str => "str" | .tup => "tuple" | .lst => "list"
def Kd.isTy : Ty → Kd → Bool
  | .int, .int => true
  | .int, .bl => true
  | .str, .str => true
  | .bool, .bl => true
  | .tuple, .tup => true
  | .list, .lst => true
  | _, _ => false
theorem kit_kd (t : Ty) (k : Kd) : kitB k.nm t.nm = some (Kd.isTy t k) := by cases t <;> cases k <;> decide +kernel
theorem kit_tab (t : Ty) (x : D) (h : noHnd x = true) : kitB (tyN x) t.nm = some (isTy t x) := by
  cases x with
  | non => exact (kit_kd t .non).trans (by cases t <;> rfl)
  | bl => exact (kit_kd t .bl).trans (by cases t <;> rfl)
  | int => exact (kit_kd t .int).trans (by cases t <;> rfl)
  | str => exact (kit_kd t .str).trans (by cases t <;> rfl)
  | tup => exact (kit_kd t .tup).trans (by cases t <;> rfl)
  | lst => exact (kit_kd t .lst).trans (by cases t <;> rfl)
  | _ => cases h
theorem Rep.ty {K : PySem.W.Frag} {M : Addr → Prop} {H : Hp} {d : D} {v : V} (h : Rep K M H d v) (n : noHnd d = true) : TyX K H v (.type (tyN d)) := by
  cases d with
  | non => rw [h.non]; exact .base .non
  | bl => rw [h.bl]; exact .base (.bl _)
  | int => rw [h.int]; exact .base (.int _)
  | str => rw [h.str]; exact .base (.str _)
  | hnd => cases n
  | dic => cases n
  | ins => cases n
  | lam => cases n
  | tup =>
    obtain ⟨a, xs, rfl, t, _⟩ := h.tup
    rcases t with ⟨_, t | ⟨o, t⟩⟩ | ⟨o, its, n, hk, hc, _⟩
    · exact .base (.tup t)
    · exact .fTuple t
    · exact .kTuple hk hc
  | lst =>
    obtain ⟨a, xs, rfl, t, _⟩ := h.lst
    rcases t with ⟨_, t | ⟨o, t⟩⟩ | ⟨o, its, n, hk, hc, _⟩
    · exact .base (.lst t)
    · exact .base (.frz t)
    · exact .kList hk hc
theorem ve_isi {x : Str} {p : Pos} (t : Ty) {w : WE} (hg : Gl X "isinstance") (hm : X.mg "isinstance" = none) (hv : bootBuiltins "isinstance" = some (.builtin "isinstance")) (ha : VE X W e w) (hgT : Gl X x) (hmT : X.mg x = none) (hvT : bootBuiltins x = some (.type t.nm)) {px : Pos}
    (hn : x ≠ "__name__" := by decide) (hdb : (x == ("__debug__" : Str)) = false := by decide)
    (hs : starEach [e, .Name x px] X.env = (false, eval e X.env) :: starEach [.Name x px] X.env := by rfl) (hpl : (backTo pos (starEach [.Name x px] X.env)).any (·.1) = false := by rfl) (hs2 : starEach [.Name x px] X.env = (false, eval (.Name x px) X.env) :: starEach [] X.env := by rfl) :
    VE X W (.Call (.Name "isinstance" p) [e, .Name x px] [] pos) (fun ds P => w ds fun d => noHnd d = true ∧ P (.bl (isTy t d))) := by
  have hT : PE X (.Name x px) (tC (.ty t.nm)) := pe_bltn (v := .ty t.nm) hgT hmT hvT rfl hn hdb
  refine pe_imp (pe_callB call_isi hg hm hv (pa_cons ha (pa_cons hT pa_nil hs2) hs) (by decide) (by decide) hs hpl) fun σ H Q h => ?_
  obtain ⟨M0, H0, oa, ds, P, S, hw, k⟩ := h
  refine ⟨M0, H0, oa, ds, _, S, hw, fun d v H1 hx e1 i1 r1 => ?_⟩
  show rIsi X.K [v, .ty t.nm] H1 Q
  exact ⟨v, .ty t.nm, .type (tyN d), .type t.nm, isTy t d, rfl, .ty _, r1.ty hx.1, kit_ty (kit_tab t d hx.1), k _ _ H1 hx.2 e1 i1 rep_bl⟩
def ixD : D → D → (D → Prop) → Prop
  | .tup xs, .int i, P => ∃ d, atI xs i = some d ∧ P d
  | .lst xs, .int i, P => ∃ d, atI xs i = some d ∧ P d
  | .str z, .int i, P => z.length ≤ sizeLine ∧ ∃ c, atI z.cps.toList i = some c ∧ P (.str ⟨#[c]⟩)
  | _, _, _ => False
theorem atI_rep {K : PySem.W.Frag} {M : Addr → Prop} {H : Hp} {ds : List D} {vs : List V} {i : Int} {d : D} (r : Reps K M H ds vs) (h : atI ds i = some d) : ∃ v, atI vs i = some v ∧ Rep K M H d v := by
  unfold atI at h ⊢
  rw [r.len]
  cases e : ixN ds.length i with
  | none => rw [e] at h; cases h
  | some j =>
    rw [e] at h
    exact r.get (i := j) h
theorem lift_ix {K : PySem.W.Frag} : LiftOp K W ixD (rIx K) := by
  intro M H x y v u P Q m r1 r2 h k
  cases x with
  | tup xs =>
    cases y with
    | int i =>
      obtain ⟨d, h1, h2⟩ := h
      obtain ⟨a, vs, rfl, t, r⟩ := r1.tup
      obtain ⟨z, e, rz⟩ := atI_rep r h1
      exact .inr (.inl ⟨a, vs, i, z, rfl, r2.int, t.sq, e, k _ _ H h2 (Ext.refl H) m.wi rz⟩)
    | _ => exact h.elim
  | lst xs =>
    cases y with
    | int i =>
      obtain ⟨d, h1, h2⟩ := h
      obtain ⟨a, vs, rfl, t, r⟩ := r1.lst
      obtain ⟨z, e, rz⟩ := atI_rep r h1
      exact .inl ⟨a, vs, i, z, rfl, r2.int, t.sq, e, k _ _ H h2 (Ext.refl H) m.wi rz⟩
    | _ => exact h.elim
  | str z =>
    cases y with
    | int i =>
      obtain ⟨hz, c, h1, h2⟩ := h
      exact .inr (.inr ⟨z, i, c, r1.str, r2.int, hz, h1, k _ _ H h2 (Ext.refl H) m.wi rep_str⟩)
    | _ => exact h.elim
  | _ => exact h.elim
def negD : D → (D → Prop) → Prop
  | .int i, P => P (.int (-i))
  | _, _ => False
def wNeg (w : WE) : WE := fun ds P => w ds fun x => negD x P
theorem ve_neg {w : WE} (ha : VE X W a w) : VE X W (.UnaryOp .USub a pos) (wNeg w) := by
  refine pe_imp (pe_un un_neg ha) fun σ H Q h => ?_
  obtain ⟨M0, H0, oa, ds, P, S, hw, k⟩ := h
  refine ⟨M0, H0, oa, ds, _, S, hw, fun x v H1 hx e1 i1 r1 => ?_⟩
  cases x <;> first | exact hx.elim | skip
  rename_i i
  exact ⟨i, r1.int, k _ _ H1 hx e1 i1 rep_int⟩
end
end VL
set_option Elab.async false
set_option linter.all false
set_option maxRecDepth 100000
set_option maxHeartbeats 2000000
namespace VL
open PySem PySem.Spec PyProof.Rows L2
structure EndsD where
  nx : List Sl → Prop
  rt : D → Prop
  bk : List Sl → Prop := fun _ => False
  ct : List Sl → Prop := fun _ => False
  rs : List Sl → D → Prop := fun _ _ => False
abbrev WS := EndsD → List Sl → Prop
def LS (K : PySem.W.Frag) (W : Wd) (w : WS) : TS := fun D σ H => ∃ M0 H0 oa ds E, Sat K W M0 H0 oa H σ ds ∧ w E ds ∧
  (∀ ds' oa' σ' H', E.nx ds' → Sat K W M0 H0 oa' H' σ' ds' → D.nx σ' H') ∧ (∀ d v H', E.rt d → Ext W H0 H' → W.I H' → Rep K M0 H' d v → D.rt v H') ∧
  (∀ ds' oa' σ' H', E.bk ds' → Sat K W M0 H0 oa' H' σ' ds' → D.bk σ' H') ∧ (∀ ds' oa' σ' H', E.ct ds' → Sat K W M0 H0 oa' H' σ' ds' → D.ct σ' H') ∧
  (∀ ds' oa' σ' H' d v, E.rs ds' d → Sat K W M0 H0 oa' H' σ' ds' → Rep K (Mx M0 oa') H' d v → D.rt v H')
abbrev VS (X : Cx) (W : Wd) (st : Stmt) (w : WS) : Prop := PS X st (LS X.K W w)
abbrev VSs (X : Cx) (W : Wd) (st : List Stmt) (w : WS) : Prop := PSs X st (LS X.K W w)
theorem ps_imp {X : Cx} {st : Stmt} {t t' : TS} (h : PS X st t) (f : ∀ D σ H, t' D σ H → t D σ H) : PS X st t' := ⟨fun pins s σ H D I hw => h.run pins s σ H D I (f D σ H hw)⟩
theorem pss_imp {X : Cx} {st : List Stmt} {t t' : TS} (h : PSs X st t) (f : ∀ D σ H, t' D σ H → t D σ H) : PSs X st t' := ⟨fun pins s σ H D I hw => h.run pins s σ H D I (f D σ H hw)⟩
theorem Rep.out {K : PySem.W.Frag} {M0 : Addr → Prop} {oa : Nat → AS} {H : Hp} {d : D} {v : V} (h : Rep K (Mx M0 oa) H d v) : Rep K M0 H d v := h.car fun _ _ n q => ⟨fun z => n (.inl z), q⟩
section
variable {X : Cx} {W : Wd} {e c : Expr} {st : Stmt} {rest body body2 : List Stmt} {pos : Pos}
def wNext : WS := fun E ds => E.nx ds
def wSeq (w u : WS) : WS := fun E ds => w { E with nx := u E } ds
theorem vss_nil : VSs X W [] wNext := pss_imp pss_nil fun D σ H ⟨M0, H0, oa, ds, E, S, hw, k1, _⟩ => k1 ds oa σ H hw S
theorem vss_cons {w u : WS} (h1 : VS X W st w) (h2 : VSs X W rest u) : VSs X W (st :: rest) (wSeq w u) := by
  refine pss_imp (pss_cons h1 h2) fun D σ H h => ?_
  obtain ⟨M0, H0, oa, ds, E, S, hw, k1, k2, k3, k4⟩ := h
  exact ⟨M0, H0, oa, ds, _, S, hw, fun ds' oa' σ' H' hn S' => ⟨M0, H0, oa', ds', E, S', hn, k1, k2, k3, k4⟩, k2, k3, k4⟩
theorem vss_one {w : WS} (h1 : VS X W st w) : VSs X W [st] (wSeq w wNext) := vss_cons h1 vss_nil
theorem vs_never : VS X W st (fun _ _ => False) := ps_imp ps_never fun D σ H ⟨M0, H0, oa, ds, E, S, hw, _⟩ => hw
def fzS : Sl → Sl
  | .ml xs => .d (.lst xs)
  | .md ks xs => .d (.dic ks xs)
  | .mi _ C ks xs => .d (.ins C ks xs)
  | .ow t => .d t.toD
  | s => s
def fz (i : Nat) (ds : List Sl) : List Sl := ds.set i (fzS (ds.getD i .un))
theorem Sat.fzd {K : PySem.W.Frag} {M0 : Addr → Prop} {H0 H : Hp} {oa : Nat → AS} {σ : L2.St} {ds : List Sl} (S : Sat K W M0 H0 oa H σ ds) {i : Nat} {v : V} {x : D} (hi : i < ds.length) (e2 : σ[i]? = some (some v))
    (hr : (∀ a, oa i a → ¬ Mx M0 (oaDel oa i) a) → Car (Mx M0 oa) (Mx M0 (oaDel oa i)) H H → Rep K (Mx M0 (oaDel oa i)) H x v) : Sat K W M0 H0 (oaDel oa i) H σ (ds.set i (.d x)) := by
  have nm : ∀ a, oa i a → ¬ Mx M0 (oaDel oa i) a := by
    rintro a e1 (z | ⟨j, z⟩)
    · exact (S.ofr i a e1).2 z
    · obtain ⟨z1, z2⟩ := oaDel_some z
      exact z1 (S.inj j i a z2 e1)
  refine ⟨S.wm, S.live, S.ext, S.wi, fun j a h => S.ofr j a (oaDel_some h).2, fun j k a h1 h2 => S.inj j k a (oaDel_some h1).2 (oaDel_some h2).2, by simp [S.len], fun j hj => ?_, fun j s h => ?_, S.fm, S.fh, S.bl, S.nc, S.nx⟩
  · have z := S.out j (by simpa using hj)
    unfold oaDel
    split
    · rfl
    · exact z
  · by_cases hj : j = i
    · subst hj
      rw [List.getElem?_set_self hi] at h
      cases h
      exact ⟨by unfold oaDel; simp, v, e2, hr nm car_del⟩
    · rw [List.getElem?_set_ne (Ne.symm hj)] at h
      have e2 : oaDel oa i j = oa j := by unfold oaDel; rw [if_neg hj]
      rw [e2]
      exact (S.slot j s h).car car_del fun a xs _ z => z
theorem Sat.fz {K : PySem.W.Frag} {M0 : Addr → Prop} {H0 H : Hp} {oa : Nat → AS} {σ : L2.St} {ds : List Sl} (S : Sat K W M0 H0 oa H σ ds) (i : Nat) : ∃ oa', Sat K W M0 H0 oa' H σ (fz i ds) := by
  by_cases hi : i < ds.length
  · have hg : ds.getD i .un = ds[i] := by simp [List.getD_eq_getElem?_getD, hi]
    have hs := S.slot i ds[i] (by simp [hi])
    cases q : ds[i] with
    | un =>
      refine ⟨oa, ?_⟩
      have : VL.fz i ds = ds := by unfold VL.fz; rw [hg, q]; show ds.set i .un = ds; rw [← q]; simp
      rw [this]; exact S
    | d x =>
      refine ⟨oa, ?_⟩
      have : VL.fz i ds = ds := by unfold VL.fz; rw [hg, q]; show ds.set i (.d x) = ds; rw [← q]; simp
      rw [this]; exact S
    | ml l =>
      rw [q] at hs
      obtain ⟨a, xs, e1, e2, e3, r⟩ := hs
      have ed : VL.fz i ds = ds.set i (.d (.lst l)) := by unfold VL.fz; rw [hg, q]; rfl
      rw [ed]
      exact ⟨_, S.fzd hi e2 fun nm c => rep_lst (.inl ⟨nm a (by rw [e1]; rfl), .inl e3⟩) (r.car c)⟩
    | md ks l =>
      rw [q] at hs
      obtain ⟨a, us, e1, e2, e3, e4, r⟩ := hs
      have ed : VL.fz i ds = ds.set i (.d (.dic ks l)) := by unfold VL.fz; rw [hg, q]; rfl
      rw [ed]
      exact ⟨_, S.fzd hi e2 fun nm c => rep_dic (nm a (by rw [e1]; rfl)) e3 e4 (r.car c)⟩
    | mi a C ks l =>
      rw [q] at hs
      obtain ⟨dx, us, e1, e2, e3, e4, r⟩ := hs
      have ed : VL.fz i ds = ds.set i (.d (.ins C ks l)) := by unfold VL.fz; rw [hg, q]; rfl
      rw [ed]
      exact ⟨_, S.fzd hi e2 fun nm c => rep_ins (nm a (by rw [e1]; rfl)) e3 e4 (r.car c)⟩
    | ow t =>
      rw [q] at hs
      obtain ⟨v, e2, r⟩ := hs
      have ed : VL.fz i ds = ds.set i (.d t.toD) := by unfold VL.fz; rw [hg, q]; rfl
      rw [ed]
      exact ⟨_, S.fzd hi e2 fun nm c => r.rep c nm⟩
  · refine ⟨oa, ?_⟩
    have : VL.fz i ds = ds := by unfold VL.fz; rw [List.set_eq_of_length_le (by omega)]
    rw [this]; exact S
theorem vss_fz (i : Nat) {w : WS} (h : VSs X W rest w) : VSs X W rest (fun E ds => w E (fz i ds)) := pss_imp h fun D σ H ⟨M0, H0, oa, ds, E, S, hw, k⟩ => by
  obtain ⟨oa', S'⟩ := S.fz i
  exact ⟨M0, H0, oa', _, E, S', hw, k⟩
def wSet (i : Nat) (w : WE) : WS := fun E ds => w ds fun d => E.nx (ds.set i (.d d))
theorem ls_set {K : PySem.W.Frag} {i : Nat} {w : WE} {D : Ends} {σ : L2.St} {H : Hp} (h : LS K W (wSet i w) D σ H) : tAsg (LE K W w) (gName i) D σ H := by
  obtain ⟨M0, H0, oa, ds, E, S, hw, k1, k2, k3, k4⟩ := h
  refine ⟨M0, H0, oa, ds, _, S, hw, fun d v H1 hd e1 i1 r1 => ?_⟩
  exact k1 _ _ _ _ hd ((S.step e1 i1).set r1)
theorem vs_set (i : Nat) {x : Str} {w : WE} {pos' : Pos} (hN : X.N.Nodup) (he : VE X W e w) (hi : X.N[i]? = some x := by rfl) (hx : Loc X.env.scope x := by first | exact Or.inl rfl | exact Or.inr rfl) (hs : swapsWith e (some (.Name x pos')) pos.line X.env = pure false := by rfl)
    (hf : X.fn x = true ∨ X.env.scope.names.lookup x = some .local := by first | exact .inl rfl | exact .inr rfl | assumption) : VS X W (.Assign [.Name x pos'] e pos) (wSet i w) := ps_imp (ps_set hN hi hx he hs hf) fun _ _ _ => ls_set
theorem Sat.newown {K : PySem.W.Frag} {M0 : Addr → Prop} {H0 H : Hp} {oa : Nat → AS} {σ : L2.St} {ds : List Sl} (S : Sat K W M0 H0 oa H σ ds) {i : Nat} (hi : i < ds.length) {p : Addr} (hp : H p = none) {ob : HO} {sl : Sl}
    (hsl : Car (Mx M0 oa) (Mx M0 (oaPut oa i p)) H (upd H p ob) → SlotOk K (Mx M0 (oaPut oa i p)) (upd H p ob) (one1 p) sl (some (some (.ref p)))) : Sat K W M0 H0 (oaPut oa i p) (upd H p ob) (σ.set i (some (.ref p))) (ds.set i sl) := by
  have f : Full H (upd H p ob) := Full.new hp
  have S1 := S.full f
  have hm : ¬ Mx M0 oa p := S.mok.fresh hp
  have h0 : H0 p = none := by
    cases q : H0 p with
    | none => rfl
    | some o =>
      have nA : ¬ W.A p := fun z => W.live _ _ S.wi z hp
      rw [S.ext p o nA q] at hp; cases hp
  have cr : Car (Mx M0 oa) (Mx M0 (oaPut oa i p)) H (upd H p ob) := fun b o n h => by
    have hb : b ≠ p := ne_of_none h hp
    refine ⟨fun z => ?_, by rw [upd_ne hb]; exact h⟩
    rcases z with z | ⟨j, z⟩
    · exact n (.inl z)
    · unfold oaPut at z
      by_cases e : j = i
      · rw [if_pos e] at z; exact hb z
      · rw [if_neg e] at z; exact n (.inr ⟨j, z⟩)
  refine S1.setown hi h0 hm (hsl cr) fun j s hj hs => ?_
  exact (S.slot j s hs).car cr fun a xs _ z => by rw [upd_ne (ne_of_none z hp)]; exact z
def seqD : D → (List D → Prop) → Prop
  | .tup xs, P => P xs
  | .lst xs, P => P xs
  | _, _ => False
theorem seqD_of {K : PySem.W.Frag} {M : Addr → Prop} {H : Hp} {d : D} {v : V} {P : List D → Prop} (h : seqD d P) (r : Rep K M H d v) : ∃ xs a vs, P xs ∧ v = .ref a ∧ (SqL K H a vs ∨ SqT K H a vs) ∧ Reps K M H xs vs := by
  cases d with
  | tup xs => obtain ⟨a, vs, e, t, q⟩ := r.tup; exact ⟨xs, a, vs, h, e, .inr t.sq, q⟩
  | lst xs => obtain ⟨a, vs, e, t, q⟩ := r.lst; exact ⟨xs, a, vs, h, e, .inl t.sq, q⟩
  | _ => exact h.elim
def mlS : Sl → (List D → Prop) → Prop
  | .ml xs, P => P xs
  | _, _ => False
def wApp (i : Nat) (w : WE) : WS := fun E ds => mlS (ds.getD i .un) fun xs => w ds fun d => xs.length < 1000000 ∧ E.nx (ds.set i (.ml (xs ++ [d])))
theorem Sat.ml {K : PySem.W.Frag} {M0 : Addr → Prop} {H0 H : Hp} {oa : Nat → AS} {σ : L2.St} {ds : List Sl} (S : Sat K W M0 H0 oa H σ ds) {i : Nat} {P : List D → Prop} (h : mlS (ds.getD i .un) P) :
    ∃ l a xs, ds[i]? = some (.ml l) ∧ P l ∧ oa i = one1 a ∧ σ[i]? = some (some (.ref a)) ∧ H a = some (.lst xs) ∧ Reps K (Mx M0 oa) H l xs := by
  rw [List.getD_eq_getElem?_getD] at h
  cases e : ds[i]? with
  | none => rw [e] at h; exact h.elim
  | some s =>
    rw [e] at h
    cases s with
    | un => exact h.elim
    | d x => exact h.elim
    | md ks l => exact h.elim
    | mi a C ks l => exact h.elim
    | ow t => exact h.elim
    | ml l =>
      obtain ⟨a, xs, e1, e2, e3, r⟩ := S.slot i _ e
      exact ⟨l, a, xs, rfl, h, e1, e2, e3, r⟩
theorem Sat.own_ext {K : PySem.W.Frag} {M0 : Addr → Prop} {H0 H : Hp} {oa : Nat → AS} {σ : L2.St} {ds : List Sl} (S : Sat K W M0 H0 oa H σ ds) {i : Nat} {a : Addr} (ho : oa i a) (φ : Heap → Prop) : H a ≠ some (.ext φ) := S.mnx a φ (.inr ⟨i, ho⟩)
theorem Sat.mutown {K : PySem.W.Frag} {M0 : Addr → Prop} {H0 H : Hp} {oa : Nat → AS} {σ : L2.St} {ds : List Sl} (S : Sat K W M0 H0 oa H σ ds) {i : Nat} {a : Addr} {sl : Sl} {ob : HO} (hl : i < ds.length) (ho : oa i = one1 a)
    (hσ : σ[i]? = some (some (.ref a))) (hsl : Car (Mx M0 oa) (Mx M0 oa) H (upd H a ob) → SlotOk K (Mx M0 oa) (upd H a ob) (one1 a) sl (some (some (.ref a)))) : Sat K W M0 H0 oa (upd H a ob) σ (ds.set i sl) := by
  have ho' : oa i a := by rw [ho]; rfl
  have nA := S.own_nA ho'
  have cr : Car (Mx M0 oa) (Mx M0 oa) H (upd H a ob) := fun b o n h => ⟨n, by rw [upd_ne (fun z => n (by rw [z]; exact .inr ⟨i, ho'⟩))]; exact h⟩
  refine ⟨S.wm, S.live, fun b o n h => ?_, W.stay _ _ S.wi (fun b hb => upd_ne (fun z => nA (by rw [← z]; exact hb))) (fun b φ e => (upd_ne (fun z => S.own_ext ho' φ (by rw [← z]; exact e))).trans e) (fun b o hB e => (upd_ne (fun z => S.bl b hB (by rw [z]; exact (S.ofr i a ho').1))).trans e), S.ofr, S.inj, by simp [S.len], fun j hj => S.out j (by simpa using hj), fun j s h => ?_, S.fm, S.fh, S.bl, S.nc, S.nx⟩
  · have hb : b ≠ a := fun z => by rw [z, (S.ofr i a ho').1] at h; cases h
    rw [upd_ne hb]
    exact S.ext b o n h
  · by_cases e : j = i
    · subst e
      rw [List.getElem?_set_self hl] at h
      cases h
      rw [ho, hσ]
      exact hsl cr
    · rw [List.getElem?_set_ne (Ne.symm e)] at h
      exact (S.slot j s h).car cr fun b ys h1 h2 => by
        rw [upd_ne (fun z => e (S.inj j i a (by rw [← z]; exact h1) ho'))]
        exact h2
theorem Sat.mut {K : PySem.W.Frag} {M0 : Addr → Prop} {H0 H : Hp} {oa : Nat → AS} {σ : L2.St} {ds : List Sl} (S : Sat K W M0 H0 oa H σ ds) {i : Nat} {a : Addr} {l l' : List D} {xs' : List V} (hi : ds[i]? = some (.ml l)) (ho : oa i = one1 a)
    (hσ : σ[i]? = some (some (.ref a))) (r : Reps K (Mx M0 oa) H l' xs') : Sat K W M0 H0 oa (upd H a (.lst xs')) σ (ds.set i (.ml l')) :=
  S.mutown (List.getElem?_eq_some_iff.mp hi).1 ho hσ fun c => ⟨a, xs', rfl, rfl, upd_same, r.car c⟩
theorem vs_app (i : Nat) {x : Str} {w : WE} {p apos cpos : Pos} (he : VE X W e w) (hN : X.N[i]? = some x := by rfl) (hv : Vis X.env.scope x := by first | exact Or.inl rfl | exact Or.inr (Or.inl rfl) | exact Or.inr (Or.inr rfl))
    (hd : (x == ("__debug__" : Str)) = false := by decide) (hcd : (x == ("__classdict__" : Str)) = false := by decide)
    (hbase : attributeBase (.Name x p) "append" X.env (eval (.Name x p) X.env) = eval (.Name x p) X.env := by rfl)
    (hfew : ((backTo cpos (starEach [e] X.env)).all (fun x => !x.1) && (backToKw cpos (keywordEach [] X.env)).all (fun x => x.1.isSome)
      && decide (([e] : List Expr).length + ([] : List Keyword).length + (if ([] : List Keyword).isEmpty then 0 else 1) < 30)) = true := by rfl)
    (hline : (apos.endLine == cpos.line) = true := by rfl) (hs : starEach [e] X.env = (false, eval e X.env) :: starEach [] X.env := by rfl) (hplain : (backTo cpos (starEach [] X.env)).any (·.1) = false := by rfl)
    (hsw : swapsWith (.Call (.Attribute (.Name x p) "append" apos) [e] [] cpos) none pos.line X.env = pure false := by rfl) :
    VS X W (.Expr (.Call (.Attribute (.Name x p) "append" apos) [e] [] cpos) pos) (wApp i w) := by
  refine ps_imp (ps_expr (pe_bm PySem.F.plainAttrs_list PySem.F.slot_list_append PySem.F.type_list_append mt_append (pe_var hN hv hd hcd) (pa_cons he pa_nil hs) hbase hfew hline hs hplain) hsw) fun D σ H h => ?_
  obtain ⟨M0, H0, oa, ds, E, S, hw, k1, k2, k3, k4⟩ := h
  obtain ⟨l, a, xs, g1, hw, g2, g3, g4, g5⟩ := S.ml hw
  refine ⟨.ref a, g3, .inl ⟨rfl, _, SqL.of g4⟩, ⟨M0, H0, oa, ds, _, S, hw, fun d v H1 hd e1 i1 r1 => ?_⟩⟩
  have S1 := S.step e1 i1
  have h1 : H1 a = some (.lst xs) := e1 a _ (S.own_nA (i := i) (by rw [g2]; rfl)) g4
  refine ⟨a, xs, v, rfl, rfl, h1, ?_, ?_⟩
  · have q := hd.1
    rw [← g5.len] at q
    rw [sizeLine_eq]
    omega
  · exact k1 _ _ _ _ hd.2 (S1.mut g1 g2 g3 ((g5.ext S.mok e1).app (reps_cons r1 reps_nil)))
def wRet (w : WE) : WS := fun E ds => w ds E.rt
theorem vs_ret {w : WE} (he : VE X W e w) : VS X W (.Return (some e) pos) (wRet w) := by
  refine ps_imp (ps_ret he) fun D σ H h => ?_
  obtain ⟨M0, H0, oa, ds, E, S, hw, k1, k2, k3, k4⟩ := h
  exact ⟨M0, H0, oa, ds, _, S, hw, fun d v H1 hd e1 i1 r1 => k2 d v H1 hd (S.ext.trans e1) i1 r1.out⟩
def wIfS (t : WT) (a b : WS) : WS := fun E ds => t ds fun c => if c = true then a E ds else b E ds
theorem vs_if {t : WT} {a b : WS} (hc : VT X W c t) (ha : VSs X W body a) (hb : VSs X W body2 b) : VS X W (.If c body body2 pos) (wIfS t a b) := by
  refine ps_imp (ps_if hc ha hb) fun D σ H h => ?_
  obtain ⟨M0, H0, oa, ds, E, S, hw, k⟩ := h
  refine ⟨M0, H0, oa, ds, _, S, hw, fun d H1 hd e1 i1 => ?_⟩
  cases d with
  | true => exact ⟨M0, H0, oa, ds, E, S.step e1 i1, hd, k⟩
  | false => exact ⟨M0, H0, oa, ds, E, S.step e1 i1, hd, k⟩
def wWhile (t : WT) (b : WS) : WS := fun E ds => ∃ Iv : Nat → List Sl → Prop, (∃ m, Iv m ds) ∧ ∀ m ds, Iv m ds → t ds fun c => if c = true then b { E with nx := fun ds' => ∃ m', m' < m ∧ Iv m' ds', ct := fun ds' => ∃ m', m' < m ∧ Iv m' ds', bk := E.nx } ds else E.nx ds
theorem vs_while {t : WT} {b : WS} (hp : PassesOwn (model X.prog X.w) X.A X.env X.xe) (hc : VT X W c t) (hb : VSs X W body b) : VS X W (.While c body [] pos) (wWhile t b) := by
  refine ps_imp (ps_while hp hc hb) fun D σ H h => ?_
  obtain ⟨M0, H0, oa, ds, E, S, ⟨Iv, ⟨m0, h0⟩, turn⟩, k1, k2, k3, k4⟩ := h
  refine ⟨fun m σ H => ∃ oa ds, Iv m ds ∧ Sat X.K W M0 H0 oa H σ ds, ⟨m0, oa, ds, h0, S⟩, ?_⟩
  rintro m σ1 H1 ⟨oa1, ds1, hi, S1⟩
  refine ⟨M0, H0, oa1, ds1, _, S1, turn m ds1 hi, fun c H2 hc e2 i2 => ?_⟩
  have S2 := S1.step e2 i2
  cases c with
  | true =>
    refine ⟨fun σ' H' => ∃ m', m' < m ∧ ∃ oa ds, Iv m' ds ∧ Sat X.K W M0 H0 oa H' σ' ds, fun σ' H' h => h, ?_⟩
    refine ⟨M0, H0, oa1, ds1, _, S2, hc, ?_, k2, ?_, ?_⟩
    · rintro ds' oa' σ' H' ⟨m', hm, hi'⟩ S'
      exact ⟨m', hm, oa', ds', hi', S'⟩
    · intro ds' oa' σ' H' hn S'
      exact k1 ds' oa' σ' H' hn S'
    · refine ⟨?_, k4.2⟩
      rintro ds' oa' σ' H' ⟨m', hm, hi'⟩ S'
      exact ⟨m', hm, oa', ds', hi', S'⟩
  | false => exact k1 _ _ _ _ hc S2
def wPar (i j : Nat) (wa wb : WE) : WS := fun E ds => wa ds fun x => wb ds fun y => E.nx ((ds.set i (.d x)).set j (.d y))
theorem vs_par (i j : Nat) {x y : Str} {a b : Expr} {wa wb : WE} {px py pt : Pos} {kt k2 pt2} (hc : X.calm = true) (hN : X.N.Nodup) (hij : i ≠ j) (ha : VE X W a wa) (hb : VE X W b wb) (hi : X.N[i]? = some x := by rfl) (hj : X.N[j]? = some y := by rfl)
    (hx : X.env.scope.names.lookup x = some .local := by rfl) (hy : X.env.scope.names.lookup y = some .local := by rfl)
    (hw : swappedStores [.Tuple [.Name x px, .Name y py] kt pt] (.Tuple [a, b] k2 pt2) X.env = pure (some [x, y]) := by rfl)
    (hs : swapsWithSole [.Tuple [.Name x px, .Name y py] kt pt] (.Tuple [a, b] k2 pt2) pos.line X.env = pure false := by rfl) (hs1 : starEach [a, b] X.env = (false, eval a X.env) :: starEach [b] X.env := by rfl) (hs2 : starEach [b] X.env = (false, eval b X.env) :: starEach [] X.env := by rfl) :
    VS X W (.Assign [.Tuple [.Name x px, .Name y py] kt pt] (.Tuple [a, b] k2 pt2) pos) (wPar i j wa wb) := by
  refine ps_imp (ps_par hc hN hi hj hij hx hy (pa_cons ha (pa_cons hb pa_nil hs2) hs1) hw hs) fun D σ H h => ?_
  obtain ⟨M0, H0, oa, ds, E, S, hw, k1, k2, k3, k4⟩ := h
  refine ⟨M0, H0, oa, ds, _, S, hw, fun d v H1 hd e1 i1 r1 => ?_⟩
  have S1 := S.step e1 i1
  refine ⟨M0, H0, oa, ds, _, S1, hd, fun d2 v2 H2 hd2 e2 i2 r2 => ?_⟩
  have S2 := S1.step e2 i2
  have S3 := S2.set (i := i) (r1.ext S1.mok e2)
  exact ⟨v, v2, rfl, k1 _ _ _ _ hd2 (S3.set (i := j) (r2.car car_del))⟩
def startD (N : List Str) (ds : List D) : List Sl := ds.map Sl.d ++ List.replicate (N.length - ds.length) .un
def endsD (P : D → Prop) : EndsD := { nx := fun _ => P .non, rt := P }
end
theorem startD_get {N : List Str} {ds : List D} {i : Nat} {s : Sl} (h : (startD N ds)[i]? = some s) : s = .un ∨ ∃ x, ds[i]? = some x ∧ s = .d x := by
  unfold startD at h
  by_cases hi : i < ds.length
  · rw [List.getElem?_append_left (by simpa using hi), List.getElem?_map] at h
    cases e : ds[i]? with
    | none => rw [e] at h; cases h
    | some x => rw [e] at h; cases h; exact .inr ⟨x, rfl, rfl⟩
  · rw [List.getElem?_append_right (by simpa using hi), List.getElem?_replicate] at h
    split at h
    · cases h; exact .inl rfl
    · cases h
def Wd.pl (W : Wd) : Wd := { A := W.A, I := W.I, live := W.live, nx := W.nx, B := W.B, liveB := W.liveB, C := W.C, cb := W.cb, stay := W.stay }
theorem sat_start {K : PySem.W.Frag} {W : Wd} {M : Addr → Prop} {H : Hp} {N : List Str} {ds : List D} {vs : List V} (m : MOk W M H) (r : Reps K M H ds vs) (hl : ds.length ≤ N.length) (hm : ∀ a, W.Mf a → M a) (hh : Ext W W.Hf H) : Sat K W M H (fun _ => no1) H (L2.start N vs) (startD N ds) := by
  refine ⟨m.wm, m.live, Ext.refl H, m.wi, fun i a h => h.elim, fun i j a h => h.elim, ?_, fun i _ => rfl, fun i s h => ?_, hm, hh, fun a h => W.liveB _ _ m.wi h, m.nb, m.nx⟩
  · unfold startD L2.start
    simp [r.len]
  · rcases startD_get h with e | ⟨x, hx, e⟩
    · subst e; rfl
    · subst e
      obtain ⟨v, hv, rv⟩ := r.get hx
      refine ⟨rfl, v, ?_, rv.car fun b o n q => ⟨fun z => n (z.elim id fun ⟨_, z⟩ => z.elim), q⟩⟩
      have hi : i < vs.length := (List.getElem?_eq_some_iff.mp hv).1
      unfold L2.start
      rw [List.getElem?_append_left (by simpa using hi), List.getElem?_map, hv]
      rfl
theorem vfn {P : Program} {w : World} {K : PySem.W.Frag} {mg : Str → Option Value} {base : Heap} {W : Wd} {x qual : Str} {st : Stmt} {f : Addr} {fd : FuncData} {N ps : List Str} {k : Nat} {g : List D → (D → Prop) → Prop} (F : Fun K x qual st f fd) (S : FnScope N ps (defScope st))
    (len : ∀ ds P, g ds P → ds.length = ps.length)
    (hb : ∃ wb : WS, (∀ (cdv : Value) (A : Around) (outer : List Env) (s : Shared) (H : Hp) (E : XK), Room k (A.deeper (envOfC qual (defScope st) s.heap.objs.size f cdv)) → VSs (cxOf CX0 P w K mg base N qual (defScope st) f cdv A outer s H E).nox W.pl (defBody st) wb) ∧
      ∀ ds Q, g ds Q → wb (endsD Q) (startD N ds)) : FnOk P w K mg base CX0 (k + 1) f fd ps (spD K W g) := by
  obtain ⟨wb, h1, h2⟩ := hb
  refine F.ok S (fun vs H Q E h => ?_) (fun cdv A outer s H vs Q E hr h => ⟨LS K W.pl wb, h1 cdv A outer s H E hr, ?_⟩)
  · obtain ⟨M, ds, P, m, r, hg, _⟩ := h
    rw [r.len, len ds P hg]
  · obtain ⟨M, ds, P, m, r, hg, k⟩ := h
    have hl : ds.length ≤ N.length := by
      have q := congrArg List.length S.pre
      rw [List.length_take] at q
      rw [len ds P hg]
      omega
    refine ⟨M, H, fun _ => no1, startD N ds, endsD P, sat_start (W := W.pl) ⟨m.wm, m.live, m.wi, m.nb, m.nx⟩ r hl (fun _ z => z.elim) (fun _ _ _ z => by cases z), h2 ds P hg, fun ds' oa' σ' H' hn S' => ?_, fun d v H' hd e i r' => k d v H' hd e i r', fun _ _ _ _ z => z.elim, fun _ _ _ _ z => z.elim, fun _ _ _ _ _ _ z => z.elim⟩
    exact k .non .non H' hn S'.ext S'.wi rep_non
end VL
set_option Elab.async false
set_option linter.all false
set_option maxRecDepth 100000
set_option maxHeartbeats 2000000
namespace VL
open PySem PySem.Spec PyProof.Rows L2
abbrev WI := List Sl → (List D → Prop) → Prop
def ItOk (K : PySem.W.Frag) (W : Wd) (M : Addr → Prop) (H1 : Hp) (J : It) (items : List D) : Prop := ∀ M2 H2, Car M M2 H1 H2 → MOk W M2 H2 →
  (∀ i, i < items.length → J.go i H2) ∧ (∀ i, items.length ≤ i → i ≤ items.length → J.stop i H2) ∧ ∀ i d x H3, items[i]? = some d → J.yld i H2 x H3 → Full H2 H3 ∧ Rep K M2 H3 d x
def LI (K : PySem.W.Frag) (W : Wd) (w : WI) : TI := fun σ H R => ∃ M0 H0 oa ds P, Sat K W M0 H0 oa H σ ds ∧ w ds P ∧ ∀ items J H', P items → items.length ≤ sizeLine → Ext W H H' → W.I H' → ItOk K W (Mx M0 oa) H' J items → R J H'
abbrev VI (X : Cx) (W : Wd) (tg iter : Expr) (w : WI) : Prop := PI X tg iter (LI X.K W w)
section
variable {X : Cx} {tg e : Expr}
theorem pi_imp {iter : Expr} {t t' : TI} (h : PI X tg iter t) (f : ∀ σ H R, t' σ H R → t σ H R) : PI X tg iter t' := ⟨fun pins s σ H R I hw => h.run pins s σ H R I (f σ H R hw)⟩
def iAny (K : PySem.W.Frag) (tl : TE) : TI := fun σ H R => tl σ H fun x H1 => (∃ a xs, x = .ref a ∧ SqL K H1 a xs ∧ (xs.length ≤ sizeLine → R (Itl K a) H1)) ∨ (∃ a xs, x = .ref a ∧ SqT K H1 a xs ∧ (xs.length ≤ sizeLine → R (Itt K a) H1)) ∨ ∃ z, x = .str z ∧ R (Its z) H1
theorem pi_any {tl : TE} (hl : PE X e tl) : PI X tg e (iAny X.K tl) := by
  refine ⟨fun pins s σ H R I h => ?_⟩
  refine thn (hl.run pins s σ H _ I h) fun v s1 ⟨x, H1, I1, r1, q1⟩ => ?_
  rcases q1 with ⟨a, xs, e, hq, q⟩ | ⟨a, xs, e, hq, q⟩ | ⟨x, ex, q⟩
  · subst e
    cases r1
    obtain ⟨its, rv, p, hz⟩ := I1.list hq
    refine wpAny_pyIter_list p.isList ?_
    refine ⟨s1.heap.objs.size, [s1.heap.objs.size], _, _, H1, rfl, I1.kept (t' := s1.toks) fun b o e => Heap.get?_push_of_some _ e, turn_list a _, ⟨_, Heap.get?_push_size _ rfl, rfl, rfl⟩, fun b hb => ?_, q hz⟩
    have e : b = s1.heap.objs.size := by simpa using hb
    subst e
    exact I1.fpOk (Nat.le_refl _) (I1.hok.fresh (Nat.le_refl _))
  · subst e
    cases r1
    obtain ⟨its, rv, p, hz⟩ := I1.tuple hq
    refine wpAny_pyIter_tuple (show s1.heap.IsTuple a its.toArray from p) ?_
    refine ⟨s1.heap.objs.size, [s1.heap.objs.size], _, _, H1, rfl, I1.kept (t' := s1.toks) fun b o e => Heap.get?_push_of_some _ e, turn_tuple a _, ⟨_, Heap.get?_push_size _ rfl, rfl, rfl⟩, fun b hb => ?_, q hz⟩
    have e : b = s1.heap.objs.size := by simpa using hb
    subst e
    exact I1.fpOk (Nat.le_refl _) (I1.hok.fresh (Nat.le_refl _))
  · subst ex
    obtain ⟨t, rfl⟩ := r1
    cases ha : x.cps.all (· < 128)
    · exact wpAny_pyIter_wide ha (pi_one (tk := s1.toks) I1 _ (turn_str _ x t "str_iterator" (.inr rfl)) ⟨_, Heap.get?_push_size _ rfl, rfl, rfl⟩ q)
    · exact wpAny_pyIter_ascii ha (pi_one (tk := s1.toks) I1 _ (turn_str _ x t "str_ascii_iterator" (.inl rfl)) ⟨_, Heap.get?_push_size _ rfl, rfl, rfl⟩ q)
end
section
variable {K : PySem.W.Frag} {W : Wd} {M : Addr → Prop} {H1 : Hp}
theorem get_lt {α : Type} {xs : List α} {i : Nat} (h : i < xs.length) : ∃ x, xs[i]? = some x := ⟨xs[i], by simp [h]⟩
theorem itok_t {a : Addr} {xs : List V} {ds : List D} (t : TupM K M H1 a xs) (r : Reps K M H1 ds xs) : ItOk K W M H1 (Itt K a) ds := fun M2 H2 c m => by
  have t2 := (t.car c).sq
  refine ⟨fun i hi => ?_, fun i hi _ => ⟨xs, t2, by rw [r.len]; exact hi⟩, fun i d x H3 hd hy => ?_⟩
  · obtain ⟨x, hx⟩ := get_lt (xs := xs) (i := i) (by rw [r.len]; exact hi)
    exact ⟨xs, x, t2, hx⟩
  · obtain ⟨e, hy⟩ := hy
    subst e
    obtain ⟨v, hv, rv⟩ := r.get hd
    have := hy xs t2
    rw [hv] at this
    cases this
    exact ⟨Full.refl _, rv.car c⟩
def sgns (z : Str) : List D := z.cps.toList.map fun c => D.str ⟨#[c]⟩
theorem itok_s {z : Str} : ItOk K W M H1 (Its z) (sgns z) := fun M2 H2 c' m => by
  have hl : (sgns z).length = z.cps.size := by simp [sgns]
  refine ⟨fun i hi => by rw [hl] at hi; exact hi, fun i hi _ => by rw [hl] at hi; exact hi, fun i d x H3 hd hy => ?_⟩
  obtain ⟨e, c, hc, ex⟩ := hy
  subst e ex
  unfold sgns at hd
  rw [List.getElem?_map] at hd
  have : z.cps.toList[i]? = some c := by simpa using hc
  rw [this] at hd
  cases hd
  exact ⟨Full.refl _, rep_str⟩
def itsD : D → (List D → Prop) → Prop
  | .tup xs, P => P xs
  | .lst xs, P => P xs
  | .str z, P => z.length ≤ sizeLine ∧ P (sgns z)
  | _, _ => False
def wIts (w : WE) : WI := fun ds P => w ds fun d => itsD d P
theorem vi_its {X : Cx} {tg e : Expr} {w : WE} (h : VE X W e w) : VI X W tg e (wIts w) := by
  refine pi_imp (pi_any h) fun σ H R h => ?_
  obtain ⟨M0, H0, oa, ds, P, S, hw, k⟩ := h
  refine ⟨M0, H0, oa, ds, _, S, hw, fun d v H1 hd e1 i1 r1 => ?_⟩
  cases d with
  | tup xs =>
    obtain ⟨a, vs, rfl, t, r⟩ := r1.tup
    exact .inr (.inl ⟨a, vs, rfl, t.sq, fun hz => k xs _ H1 hd (by rw [← r.len]; exact hz) e1 i1 (itok_t t r)⟩)
  | lst xs =>
    obtain ⟨a, vs, rfl, t, r⟩ := r1.lst
    refine .inl ⟨a, vs, rfl, t.sq, fun hz => k xs _ H1 hd (by rw [← r.len]; exact hz) e1 i1 ?_⟩
    intro M2 H2 c m
    have t2 := (t.car c).sq
    refine ⟨fun i hi => ?_, fun i hi _ => ⟨vs, t2, by rw [r.len]; exact hi⟩, fun i d x H3 hd hy => ?_⟩
    · obtain ⟨x, hx⟩ := get_lt (xs := vs) (i := i) (by rw [r.len]; exact hi)
      exact ⟨vs, x, t2, hx⟩
    · obtain ⟨e, hy⟩ := hy
      subst e
      obtain ⟨v, hv, rv⟩ := r.get hd
      have := hy vs t2
      rw [hv] at this
      cases this
      exact ⟨Full.refl _, rv.car c⟩
  | str z => exact .inr (.inr ⟨z, r1.str, k _ _ H1 hd.2 (by simpa [sgns, Str.length] using hd.1) e1 i1 itok_s⟩)
  | _ => exact hd.elim
def rngD (lo : Int) (n : Nat) : List D := (List.range n).map fun (i : Nat) => D.int (lo + (i : Int))
theorem itok_r {lo : Int} {n : Nat} : ItOk K W M H1 (Itr lo n) (rngD lo n) := fun M2 H2 c m => by
  have hl : (rngD lo n).length = n := by simp [rngD]
  refine ⟨fun i hi => by rw [hl] at hi; exact hi, fun i hi _ => by rw [hl] at hi; exact hi, fun i d x H3 hd hy => ?_⟩
  obtain ⟨e, ex⟩ := hy
  subst e ex
  unfold rngD at hd
  rw [List.getElem?_map] at hd
  cases q : (List.range n)[i]? with
  | none => rw [q] at hd; cases hd
  | some j =>
    rw [q] at hd
    have hj := (List.getElem?_eq_some_iff.mp q)
    obtain ⟨_, hj⟩ := hj
    rw [List.getElem_range] at hj
    subst hj
    cases hd
    exact ⟨Full.refl _, rep_int⟩
def rng1 : List D → (List D → Prop) → Prop
  | [.int j], P => -1000000 ≤ j ∧ j ≤ 1000000 ∧ P (rngD 0 j.toNat)
  | _, _ => False
def wRng1 (w : WE) : WI := fun ds P => w ds fun x => rng1 [x] P
theorem vi_range1 {X : Cx} {tg a : Expr} {w : WE} {p pos : Pos} (hg : Gl X "range") (hm : X.mg "range" = none) (ha : VE X W a w) (hs : starEach [a] X.env = [(false, eval a X.env)] := by rfl) (hs1 : starEach [a] X.env = (false, eval a X.env) :: starEach [] X.env := by rfl) : VI X W tg (.Call (.Name "range" p) [a] [] pos) (wRng1 w) := by
  refine pi_imp (pi_range1 hg hm (pa_cons ha pa_nil hs1) hs) fun σ H R h => ?_
  obtain ⟨M0, H0, oa, ds, P, S, hw, k⟩ := h
  refine ⟨M0, H0, oa, ds, _, S, hw, fun d v H1 hd e1 i1 r1 => ?_⟩
  cases d <;> first | exact hd.elim | skip
  rename_i j
  obtain ⟨h0, h1, hd⟩ := hd
  have e := r1.int
  subst e
  refine ⟨j, rfl, by omega, by omega, k _ _ H1 hd ?_ e1 i1 itok_r⟩
  rw [show (rngD 0 j.toNat).length = j.toNat by simp [rngD], sizeLine_eq]
  omega
def zipsD (xs ys : List D) : List D := (xs.zip ys).map fun p => D.tup [p.1, p.2]
theorem zips_get {xs ys : List D} {i : Nat} {d : D} (h : (zipsD xs ys)[i]? = some d) : ∃ x y, xs[i]? = some x ∧ ys[i]? = some y ∧ d = .tup [x, y] := by
  unfold zipsD at h
  rw [List.getElem?_map] at h
  cases q : (xs.zip ys)[i]? with
  | none => rw [q] at h; cases h
  | some p =>
    rw [q] at h
    cases h
    obtain ⟨x, y⟩ := p
    rw [List.getElem?_zip_eq_some] at q
    exact ⟨x, y, q.1, q.2, rfl⟩
theorem zips_len (xs ys : List D) : (zipsD xs ys).length = min xs.length ys.length := by simp [zipsD]
end
abbrev WG := D → List Sl → (List Sl → Prop) → Prop
def LG (K : PySem.W.Frag) (W : Wd) (vs : List Nat) (w : WG) : TG := fun v σ H Q => ∃ M0 H0 oa ds d P, Sat K W M0 H0 oa H σ ds ∧ Rep K (Mx M0 oa) H d v ∧ w d ds P ∧
  ∀ ds' oa' σ', P ds' → Sat K W M0 H0 oa' H σ' ds' → wipe σ' vs = wipe σ vs → (∀ j a, oa' j a → oa j a) → (∀ j, j ∉ vs → oa' j = oa j) → Q σ' H
abbrev VG (X : Cx) (W : Wd) (vs : List Nat) (tg : Expr) (w : WG) : Prop := PG X tg (LG X.K W vs w)
theorem wipe_get (σ : L2.St) (i : Nat) : ∀ vs : List Nat, (wipe σ vs)[i]? = if i ∈ vs then (if i < σ.length then some none else none) else σ[i]?
  | [] => by simp [wipe]
  | v :: vs => by
    unfold wipe
    have ih := wipe_get σ i vs
    by_cases e : v = i
    · subst e
      by_cases hl : v < σ.length
      · rw [List.getElem?_set_self (by rw [wipe_length]; exact hl)]
        simp [hl]
      · rw [List.getElem?_eq_none (by simp [wipe_length]; omega)]
        simp [hl]
    · rw [List.getElem?_set_ne e, ih]
      have : (i ∈ v :: vs) ↔ i ∈ vs := by simp [Ne.symm e]
      simp only [this]
theorem wipe_wipe (σ : L2.St) (vs : List Nat) : wipe (wipe σ vs) vs = wipe σ vs := by
  apply List.ext_getElem?
  intro j
  rw [wipe_get, wipe_get, wipe_length]
  by_cases hj : j ∈ vs
  · simp [hj]
  · simp [hj]
theorem wipe_set {σ : L2.St} {i : Nat} {v : Option V} {vs : List Nat} (h : i ∈ vs) : wipe (σ.set i v) vs = wipe σ vs := by
  apply List.ext_getElem?
  intro j
  rw [wipe_get, wipe_get]
  by_cases hj : j ∈ vs
  · simp [hj]
  · have : i ≠ j := fun e => hj (e ▸ h)
    simp [hj, List.getElem?_set_ne this]
section
variable {X : Cx} {W : Wd} {pos : Pos} {vs : List Nat}
theorem pg_imp {tg : Expr} {t t' : TG} (h : PG X tg t) (f : ∀ v σ H Q, t' v σ H Q → t v σ H Q) : PG X tg t' := ⟨fun pins s σ H v u Q I r hw => h.run pins s σ H v u Q I r (f v σ H Q hw)⟩
theorem pgs_imp {tg : List Expr} {t t' : TGs} (h : PGs X tg t) (f : ∀ v σ H Q, t' v σ H Q → t v σ H Q) : PGs X tg t' := ⟨fun pins s σ H v u Q I r hw => h.run pins s σ H v u Q I r (f v σ H Q hw)⟩
def wgName (i : Nat) : WG := fun d ds P => P (ds.set i (.d d))
theorem vg_name (i : Nat) {x : Str} (hN : X.N.Nodup) (hv : i ∈ vs) (hi : X.N[i]? = some x := by rfl) (hx : Loc X.env.scope x := by first | exact Or.inl rfl | exact Or.inr rfl) (hf : X.fn x = true ∨ X.env.scope.names.lookup x = some .local := by first | exact .inl rfl | exact .inr rfl | assumption) :
    VG X W vs (.Name x pos) (wgName i) := by
  refine pg_imp (pg_name hN hi hx hf) fun v σ H Q h => ?_
  obtain ⟨M0, H0, oa, ds, d, P, S, r, hw, k⟩ := h
  refine k _ _ _ hw (S.set r) (wipe_set hv) (fun j a z => (oaDel_some z).2) fun j hj => ?_
  unfold oaDel
  rw [if_neg (fun e => hj (by rw [e]; exact hv))]
abbrev WGs := List D → List Sl → (List Sl → Prop) → Prop
def LGs (K : PySem.W.Frag) (W : Wd) (vs : List Nat) (w : WGs) : TGs := fun us σ H Q => ∃ M0 H0 oa ds xs P, Sat K W M0 H0 oa H σ ds ∧ Reps K (Mx M0 oa) H xs us ∧ w xs ds P ∧
  ∀ ds' oa' σ', P ds' → Sat K W M0 H0 oa' H σ' ds' → wipe σ' vs = wipe σ vs → (∀ j a, oa' j a → oa j a) → (∀ j, j ∉ vs → oa' j = oa j) → Q σ' H
def wgNil : WGs := fun xs ds P => match xs with
  | [] => P ds
  | _ => False
def wgCons (w : WG) (u : WGs) : WGs := fun xs ds P => match xs with
  | x :: r => w x ds fun ds' => u r ds' P
  | _ => False
theorem vgs_nil : PGs X [] (LGs X.K W vs wgNil) := pgs_imp pgs_nil fun us σ H Q ⟨M0, H0, oa, ds, xs, P, S, r, hw, k⟩ => by
  cases xs with
  | nil => exact ⟨r.inv0, k ds oa σ hw S rfl (fun _ _ h => h) fun _ _ => rfl⟩
  | cons x xs => exact hw.elim
theorem mx_le {M0 : Addr → Prop} {oa oa' : Nat → AS} (h : ∀ j a, oa' j a → oa j a) {H : Hp} : Car (Mx M0 oa) (Mx M0 oa') H H := fun b o n q => ⟨fun z => n (z.elim .inl fun ⟨j, z⟩ => .inr ⟨j, h j b z⟩), q⟩
theorem vgs_cons {e : Expr} {es : List Expr} {w : WG} {u : WGs} (h1 : VG X W vs e w) (h2 : PGs X es (LGs X.K W vs u)) (hs : (assignEach (e :: es) X.env).map (·.2) = assign e X.env :: (assignEach es X.env).map (·.2) := by rfl) :
    PGs X (e :: es) (LGs X.K W vs (wgCons w u)) := by
  refine pgs_imp (pgs_cons h1 h2 hs) fun us σ H Q h => ?_
  obtain ⟨M0, H0, oa, ds, xs, P, S, r, hw, k⟩ := h
  cases xs with
  | nil => exact hw.elim
  | cons x xs =>
    obtain ⟨v, vr, rfl, r1, r2⟩ := r.inv
    refine ⟨v, vr, rfl, M0, H0, oa, ds, x, _, S, r1, hw, fun ds' oa' σ' hp S' hwi hsub hout => ?_⟩
    exact ⟨M0, H0, oa', ds', xs, P, S', r2.car (mx_le hsub), hp, fun ds2 oa2 σ2 hq S2 hw2 hs2 ho2 => k ds2 oa2 σ2 hq S2 (hw2.trans hwi) (fun j a z => hsub j a (hs2 j a z)) fun j hj => (ho2 j hj).trans (hout j hj)⟩
def wgTup (n : Nat) (u : WGs) : WG := fun d ds P => match d with
  | .tup xs => xs.length = n ∧ u xs ds P
  | .lst xs => xs.length = n ∧ u xs ds P
  | _ => False
theorem PG.or' {tg : Expr} {t t' : TG} (h : PG X tg t) (h' : PG X tg t') : PG X tg (fun v σ H Q => t v σ H Q ∨ t' v σ H Q) := ⟨fun pins s σ H v u Q I r hw => hw.elim (h.run pins s σ H v u Q I r) (h'.run pins s σ H v u Q I r)⟩
theorem vg_tup {es : List Expr} {k : Nat} {u : WGs} {n : Nat} (hc : X.calm = true) (h : PGs X es (LGs X.K W vs u)) (hn : (assignEach es X.env).length = n := by rfl) (hst : (assignEach es X.env).findIdx? (·.1) = none := by rfl) : VG X W vs (.Tuple es k pos) (wgTup n u) := by
  refine pg_imp (PG.or' (pg_tup hc h hn hst) (pg_unl hc h hn hst)) fun v σ H Q h => ?_
  obtain ⟨M0, H0, oa, ds, d, P, S, r, hw, kk⟩ := h
  cases d <;> first | exact hw.elim | skip
  · rename_i xs
    obtain ⟨a, ys, rfl, t, r2⟩ := r.tup
    exact .inl ⟨a, ys, rfl, t.sq, by rw [r2.len]; exact hw.1, M0, H0, oa, ds, xs, P, S, r2, hw.2, kk⟩
  · rename_i xs
    obtain ⟨a, ys, rfl, t, r2⟩ := r.lst
    exact .inr ⟨a, ys, rfl, t.sq, by rw [r2.len]; exact hw.1, M0, H0, oa, ds, xs, P, S, r2, hw.2, kk⟩
def wAsg (w : WE) (g : WG) : WS := fun E ds => w ds fun d => g d ds E.nx
theorem vs_asg {tg e : Expr} {w : WE} {g : WG} (he : VE X W e w) (hg : VG X W vs tg g) (hs : swapsWithSole [tg] e pos.line X.env = pure false := by rfl) (hw : swappedStores [tg] e X.env = pure none := by rfl)
    (h1 : (assignEach [tg] X.env).map (·.2) = [assign tg X.env] := by rfl) : VS X W (.Assign [tg] e pos) (wAsg w g) := by
  refine ps_imp (ps_asg he hg hs hw h1) fun D σ H h => ?_
  obtain ⟨M0, H0, oa, ds, E, S, hw, k1, k2, k3, k4⟩ := h
  refine ⟨M0, H0, oa, ds, _, S, hw, fun d v H1 hd e1 i1 r1 => ?_⟩
  exact ⟨M0, H0, oa, ds, d, _, S.step e1 i1, r1, hd, fun ds' oa' σ' hp S' _ _ _ => k1 ds' oa' σ' H1 hp S'⟩
noncomputable def base (oa : Nat → AS) (H : Hp) : Hp := fun b => open Classical in if ∃ i, oa i b then none else H b
theorem base_own {oa : Nat → AS} {H : Hp} {b : Addr} (h : ∃ i, oa i b) : base oa H b = none := by unfold base; rw [if_pos h]
theorem base_not {oa : Nat → AS} {H : Hp} {b : Addr} (h : ¬ ∃ i, oa i b) : base oa H b = H b := by unfold base; rw [if_neg h]
variable {K : PySem.W.Frag} {M0 : Addr → Prop} {H0 H H' : Hp} {oa oa' : Nat → AS} {σ σ' : L2.St} {ds ds' : List Sl}
theorem Sat.ext_base (S : Sat K W M0 H0 oa H σ ds) : Ext W H0 (base oa H) := fun b o n h => by
  rw [base_not (fun ⟨i, z⟩ => by rw [(S.ofr i b z).1] at h; cases h)]
  exact S.ext b o n h
theorem Sat.rebase (S : Sat K W M0 H0 oa H σ ds) : Sat K W M0 (base oa H) oa H σ ds := by
  refine ⟨S.wm, fun a h => ?_, fun b o n h => ?_, S.wi, fun i a h => ⟨base_own ⟨i, h⟩, (S.ofr i a h).2⟩, S.inj, S.len, S.out, S.slot, S.fm, S.fh.trans S.ext_base, fun a h => by rw [base_not (fun ⟨i, z⟩ => S.bl a h (S.ofr i a z).1)]; exact W.liveB _ _ S.wi h, S.nc, fun a φ h => by rw [base_not (fun ⟨i, z⟩ => (S.ofr i a z).2 h)]; exact S.mnx a φ (.inl h)⟩
  · rw [base_not (fun ⟨i, z⟩ => (S.ofr i a z).2 h)]
    exact S.mok.live a (.inl h)
  · by_cases q : ∃ i, oa i b
    · rw [base_own q] at h; cases h
    · rw [base_not q] at h; exact h
theorem Sat.unbase (S : Sat K W M0 H0 oa H σ ds) (S' : Sat K W M0 (base oa H) oa' H' σ' ds') : Sat K W M0 H0 oa' H' σ' ds' := by
  refine ⟨S.wm, S.live, S.ext_base.trans S'.ext, S'.wi, fun i a h => ⟨?_, (S'.ofr i a h).2⟩, S'.inj, S'.len, S'.out, S'.slot, S.fm, S.fh, S.bl, S.nc, S.nx⟩
  have q := (S'.ofr i a h).1
  cases e : H0 a with
  | none => rfl
  | some o =>
    have nA := S'.own_nA h
    rw [S.ext_base a o nA e] at q
    cases q
theorem Sat.car_base (S : Sat K W M0 H0 oa H σ ds) (S' : Sat K W M0 (base oa H) oa' H' σ' ds') : Car (Mx M0 oa) (Mx M0 oa') H H' := fun b o n h => by
  have nA : ¬ W.A b := fun z => n (.inl (S.wm b z))
  have hb : base oa H b = some o := by rw [base_not (fun ⟨i, z⟩ => n (.inr ⟨i, z⟩))]; exact h
  refine ⟨fun z => ?_, S'.ext b o nA hb⟩
  rcases z with z | ⟨i, z⟩
  · exact n (.inl z)
  · rw [(S'.ofr i b z).1] at hb; cases hb
def wFor (wi : WI) (g : WG) (b : WS) : WS := fun E ds => wi ds fun items => ∃ Iv : Nat → List Sl → Prop, Iv 0 ds ∧
  (∀ i d ds, items[i]? = some d → Iv i ds → g d ds fun ds1 => b { E with nx := Iv (i + 1), ct := Iv (i + 1), bk := E.nx } ds1) ∧ ∀ ds, Iv items.length ds → E.nx ds
theorem vs_for {tg iter : Expr} {body : List Stmt} {wi : WI} {g : WG} {b : WS} (hp : PassesOwn (model X.prog X.w) X.A X.env X.xe) (hc : X.calm = true) (hi : VI X W tg iter wi) (hg : VG X W vs tg g) (hb : VSs X W body b)
    (hs : ∀ x, foldedSetIterable iter X.env x = pure x := by intro _; rfl) : VS X W (.For tg iter body [] pos) (wFor wi g b) := by
  refine ps_imp (ps_for hp hc hi hg hb hs) fun D σ H h => ?_
  obtain ⟨M0, H0, oa, ds, E, S, hw, k1, k2, k3, k4⟩ := h
  refine ⟨M0, H0, oa, ds, _, S, hw, fun items J H1 ⟨Iv, h0, turn, hd⟩ hz e1 i1 ok => ?_⟩
  have S1 := S.step e1 i1
  refine ⟨fun i m σ H => m = items.length - i ∧ i ≤ items.length ∧ ∃ oa' ds, Iv i ds ∧ Sat X.K W M0 (base oa H1) oa' H σ ds, ⟨items.length, by simp, Nat.zero_le _, oa, ds, h0, S1.rebase⟩, ?_⟩
  rintro i m σ2 H2 ⟨rfl, hi, oa2, ds2, iv, S2⟩
  obtain ⟨g1, g2, g3⟩ := ok (Mx M0 oa2) H2 (S1.car_base S2) S2.mok
  by_cases hlt : i < items.length
  · refine .inr ⟨g1 i hlt, fun σ H => ∃ oa' ds, Iv (i + 1) ds ∧ Sat X.K W M0 (base oa H1) oa' H σ ds, fun σ' H' h => ⟨_, ?_, rfl, hlt, h⟩, fun x H3 hy => ?_⟩
    · omega
    obtain ⟨f, r⟩ := g3 i items[i] x H3 (by simp [hlt]) hy
    refine ⟨M0, base oa H1, oa2, ds2, items[i], _, S2.full f, r, turn i _ ds2 (by simp [hlt]) iv, fun ds3 oa3 σ3 hp S3 _ _ _ => ?_⟩
    refine ⟨M0, base oa H1, oa3, ds3, _, S3, hp, ?_, ?_, ?_, ?_⟩
    · intro ds' oa' σ' H' hn S'
      exact ⟨oa', ds', hn, S'⟩
    · intro d v H' hr e i r'
      exact k2 d v H' hr (S1.ext_base.trans e) i r'
    · intro ds' oa' σ' H' hn S'
      exact k1 _ _ _ _ hn (S1.unbase S')
    · refine ⟨?_, fun ds' oa' σ' H' d v hr S' r => k4.2 ds' oa' σ' H' d v hr (S1.unbase S') r⟩
      intro ds' oa' σ' H' hn S'
      exact ⟨oa', ds', hn, S'⟩
  · have e : i = items.length := by omega
    subst e
    exact .inl ⟨g2 _ (Nat.le_refl _) (Nat.le_refl _), k1 _ _ _ _ (hd ds2 iv) (S1.unbase S2)⟩
def wipeD (ds : List Sl) (vs : List Nat) : List Sl := (List.range ds.length).map fun i => if i ∈ vs then .un else ds.getD i .un
def noMl (ds : List Sl) (vs : List Nat) : Bool := vs.all fun i => match ds.getD i .un with
  | .ml _ => false
  | .md _ _ => false
  | .mi _ _ _ _ => false
  | .ow _ => false
  | _ => true
theorem wipeD_get {i : Nat} {s : Sl} (h : (wipeD ds vs)[i]? = some s) : (i ∈ vs ∧ s = .un) ∨ (i ∉ vs ∧ ds[i]? = some s) := by
  unfold wipeD at h
  rw [List.getElem?_map] at h
  cases q : (List.range ds.length)[i]? with
  | none => rw [q] at h; cases h
  | some j =>
    rw [q] at h
    obtain ⟨hl, hj⟩ := List.getElem?_eq_some_iff.mp q
    rw [List.getElem_range] at hj
    subst hj
    simp at hl
    have h : (if i ∈ vs then Sl.un else ds.getD i .un) = s := Option.some.inj h
    by_cases e : i ∈ vs
    · rw [if_pos e] at h; exact .inl ⟨e, h.symm⟩
    · rw [if_neg e] at h
      refine .inr ⟨e, ?_⟩
      rw [List.getD_eq_getElem?_getD] at h
      simp [hl] at h ⊢
      exact h
theorem Sat.blk (S : Sat K W M0 H0 oa H σ ds) {Dl : Addr} (nm : noMl ds vs = true) (hD : H Dl = none) {ob : HO} {H2 : Hp} (c : ∀ b o, ¬ W.A b → H b = some o → H2 b = some o) (wi : W.I H2) (hD2 : H2 Dl = some ob) (hx : ∀ φ, ob ≠ .ext φ := by intro φ z; cases z) :
    Sat K W (fun a => M0 a ∨ a = Dl) (base oa H2) oa H2 (wipe σ vs) (wipeD ds vs) := by
  have S2 := S.step c wi
  have nC : ¬ W.C Dl := fun z => W.liveB _ _ S.wi (W.cb _ z) hD
  have hv : ∀ i ∈ vs, oa i = no1 := fun i hi => by
    by_cases hl : ds.length ≤ i
    · exact S.out i hl
    · have hl : i < ds.length := by omega
      have hs := S.slot i ds[i] (by simp [hl])
      have n1 := List.all_eq_true.mp nm i hi
      have hg : ds.getD i .un = ds[i] := by simp [List.getD_eq_getElem?_getD, hl]
      rw [hg] at n1
      cases e : ds[i] with
      | un => rw [e] at hs; exact hs
      | d x => rw [e] at hs; exact hs.1
      | ml l => rw [e] at n1; cases n1
      | md ks l => rw [e] at n1; cases n1
      | mi b C ks l => rw [e] at n1; cases n1
      | ow t => rw [e] at n1; cases n1
  have nD : ∀ i a, oa i a → a ≠ Dl := fun i a h z => by
    obtain ⟨xs, q⟩ := S.ownLive h
    rw [z, hD] at q; cases q
  have cr : Car (Mx M0 oa) (Mx (fun a => M0 a ∨ a = Dl) oa) H H2 := fun b o n h => by
    refine ⟨fun z => ?_, c b o (fun z => n (.inl (S.wm b z))) h⟩
    rcases z with (z | z) | z
    · exact n (.inl z)
    · rw [z, hD] at h; cases h
    · exact n (.inr z)
  refine ⟨fun a h => .inl (S.wm a h), fun a h => ?_, fun b o n h => ?_, wi, fun i a h => ⟨base_own ⟨i, h⟩, fun z => z.elim (S.ofr i a h).2 (nD i a h)⟩, S.inj, by simp [wipeD, S.len, wipe_length], fun i h => S.out i (by simpa [wipeD] using h), fun i s h => ?_, fun a h => .inl (S.fm a h), S.fh.trans S2.ext_base, fun a h => by rw [base_not (fun ⟨i, z⟩ => S.bl a h (S.ofr i a z).1)]; exact W.liveB _ _ wi h, fun a h hC => h.elim (fun h => S.nc a h hC) fun z => nC (by rw [← z]; exact hC), fun a φ h => by
    rw [base_not (fun ⟨i, z⟩ => h.elim (S.ofr i a z).2 (nD i a z))]
    rcases h with h | h
    · exact S2.mnx a φ (.inl h)
    · rw [h, hD2]; intro z; exact hx φ (Option.some.inj z)⟩
  · rw [base_not (fun ⟨i, z⟩ => h.elim (S.ofr i a z).2 (nD i a z))]
    rcases h with h | h
    · exact S2.mok.live a (.inl h)
    · rw [h, hD2]; intro z; cases z
  · by_cases q : ∃ i, oa i b
    · rw [base_own q] at h; cases h
    · rw [base_not q] at h; exact h
  · rcases wipeD_get h with ⟨h1, rfl⟩ | ⟨h1, h2⟩
    · exact hv i h1
    · rw [wipe_get, if_neg h1]
      exact (S.slot i s h2).car cr fun a xs q z => c a _ (S.own_nA q) z
def wLc (wi : WI) (g : WG) (t : WT) (w : WE) (vs : List Nat) : WE := fun ds P => noMl ds vs = true ∧ wi ds fun items => ∃ Iv : Nat → List D → Prop, Iv 0 [] ∧
  (∀ i d acc, items[i]? = some d → Iv i acc → g d (wipeD ds vs) fun ds1 => t ds1 fun b => if b = true then w ds1 fun y => Iv (i + 1) (acc ++ [y]) else Iv (i + 1) acc) ∧ ∀ acc, Iv items.length acc → P (.lst acc)
def wLcO (wi : WI) (g : WG) (t : WT) (w : WE) (vs : List Nat) : WL := fun ds P => noMl ds vs = true ∧ wi ds fun items => ∃ Iv : Nat → List D → Prop, Iv 0 [] ∧
  (∀ i d acc, items[i]? = some d → Iv i acc → g d (wipeD ds vs) fun ds1 => t ds1 fun b => if b = true then w ds1 fun y => Iv (i + 1) (acc ++ [y]) else Iv (i + 1) acc) ∧ ∀ acc, Iv items.length acc → P acc
def LEo (K : PySem.W.Frag) (W : Wd) (w : WL) : TE := fun σ H Q => ∃ M0 H0 oa ds P, Sat K W M0 H0 oa H σ ds ∧ w ds P ∧
  ∀ acc us Dl H', P acc → H Dl = none → Ext W H H' → W.I H' → H' Dl = some (.lst us) → Reps K (Mx (fun a => M0 a ∨ a = Dl) oa) H' acc us → Q (.ref Dl) H'
theorem le_lco {wi : WI} {g : WG} {t : WT} {w : WE} {Q : VK} (h : LEo K W (wLcO wi g t w vs) σ H Q) : tLc (LI K W wi) (LG K W vs g) (LT K W t) (LE K W w) vs σ H Q := by
  obtain ⟨M0, H0, oa, ds, P, S, ⟨nm, hw⟩, k⟩ := h
  refine ⟨M0, H0, oa, ds, _, S, hw, fun items J H1 ⟨Iv, h0, turn, hd⟩ hz e1 i1 ok => fun Dl hD => ?_⟩
  have S1 := S.step e1 i1
  have nA : ¬ W.A Dl := fun z => W.live _ _ i1 z hD
  have nB : ¬ W.B Dl := fun z => W.liveB _ _ i1 z hD
  have hMD : ¬ Mx M0 oa Dl := S1.mok.fresh hD
  let Wv : Nat → Nat → Hp → Prop := fun i m H => m = items.length - i ∧ i ≤ items.length ∧ (∀ b o, ¬ W.A b → H1 b = some o → H b = some o) ∧ W.I H ∧ ∃ acc us, H Dl = some (.lst us) ∧ acc.length ≤ i ∧ Iv i acc ∧ Reps K (Mx (fun a => M0 a ∨ a = Dl) oa) H acc us
  refine ⟨Wv, ⟨items.length, by simp, Nat.zero_le _, (Full.new hD).ext, W.keep _ _ i1 (Full.new hD), [], [], upd_same, Nat.le_refl _, h0, reps_nil⟩, ?_⟩
  rintro i m H2 ⟨rfl, hi, c2, wi2, acc, us, hD2, hl, iv, ra⟩
  have S2 := S1.blk (vs := vs) nm hD c2 wi2 hD2
  have cr : Car (Mx M0 oa) (Mx (fun a => M0 a ∨ a = Dl) oa) H1 H2 := fun b o n h => by
    refine ⟨fun z => ?_, c2 b o (fun z => n (.inl (S.wm b z))) h⟩
    rcases z with (z | z) | z
    · exact n (.inl z)
    · rw [z, hD] at h; cases h
    · exact n (.inr z)
  obtain ⟨g1, g2, g3⟩ := ok (Mx (fun a => M0 a ∨ a = Dl) oa) H2 cr S2.mok
  by_cases hlt : i < items.length
  · refine .inr ⟨g1 i hlt, fun H => Wv (i + 1) (items.length - (i + 1)) H, fun H' h => ⟨_, by omega, h⟩, fun x H3 hy => ?_⟩
    obtain ⟨f, r⟩ := g3 i items[i] x H3 (by simp [hlt]) hy
    have S3 := S2.full f
    refine ⟨_, _, oa, _, items[i], _, S3, r, turn i _ acc (by simp [hlt]) iv, fun ds4 oa4 σ4 hp S4 hwp hsub hout => ⟨hwp.trans (wipe_wipe σ vs), ?_⟩⟩
    have hv : ∀ i ∈ vs, oa i = no1 := fun j hj => by
      by_cases hl : ds.length ≤ j
      · exact S.out j hl
      · have hl : j < ds.length := by omega
        have hs := S.slot j ds[j] (by simp [hl])
        have n1 := List.all_eq_true.mp nm j hj
        have hg : ds.getD j .un = ds[j] := by simp [List.getD_eq_getElem?_getD, hl]
        rw [hg] at n1
        cases e2 : ds[j] with
        | un => rw [e2] at hs; exact hs
        | d x => rw [e2] at hs; exact hs.1
        | ow t => rw [e2] at n1; cases n1
        | ml l => rw [e2] at n1; cases n1
        | md ks l => rw [e2] at n1; cases n1
        | mi b C ks l => rw [e2] at n1; cases n1
    have hoa : oa4 = oa := by
      funext j
      by_cases hj : j ∈ vs
      · rw [hv j hj]
        funext a
        refine propext ⟨fun e => ?_, fun z => z.elim⟩
        have z := hsub j a e
        rw [hv j hj] at z
        exact z.elim
      · exact hout j hj
    subst hoa
    refine ⟨_, _, oa4, ds4, _, S4, hp, fun b H5 hb e5 i5 => ?_⟩
    have S5 := S4.step e5 i5
    have hD5 : H5 Dl = some (.lst us) := e5 Dl _ nA (f Dl _ hD2)
    have c5 : ∀ b o, ¬ W.A b → H1 b = some o → H5 b = some o := fun b o n h => e5 b o n (f b o (c2 b o n h))
    have ra5 := (ra.ext S2.mok f.ext).ext S3.mok e5
    cases b with
    | true =>
      refine ⟨_, _, oa4, ds4, _, S5, hb, fun y v H6 hy6 e6 i6 r6 => ?_⟩
      have hD6 : H6 Dl = some (.lst us) := e6 Dl _ nA hD5
      have hus : us.length = acc.length := ra.len
      refine ⟨us, hD6, by omega, rfl, hlt, fun b o n h => ?_, W.stay _ _ i6 (fun b hb => upd_ne (fun z => nA (by rw [← z]; exact hb))) (fun b φ e => (upd_ne (fun z => by rw [z, hD6] at e; cases e)).trans e) (fun b o hB e => (upd_ne (fun z => nB (by rw [← z]; exact hB))).trans e), acc ++ [y], us ++ [v], upd_same, by simp; omega, hy6, ?_⟩
      · have hb : b ≠ Dl := ne_of_none h hD
        rw [upd_ne hb]
        exact e6 b o n (c5 b o n h)
      · refine ((ra5.ext S5.mok e6).app (reps_cons r6 reps_nil)).car fun b o n h => ⟨n, ?_⟩
        rw [upd_ne (fun z => n (.inl (.inr z)))]
        exact h
    | false => exact ⟨rfl, hlt, c5, i5, acc, us, hD5, by omega, hb, ra5⟩
  · have e : i = items.length := by omega
    subst e
    have hn : H Dl = none := by
      cases q : H Dl with
      | none => rfl
      | some o => rw [e1 Dl o nA q] at hD; cases hD
    refine .inl ⟨g2 _ (Nat.le_refl _) (Nat.le_refl _), k acc us Dl H2 (hd acc iv) hn (e1.trans c2) wi2 hD2 ra⟩
theorem le_lc {wi : WI} {g : WG} {t : WT} {w : WE} {Q : VK} (h : LE K W (wLc wi g t w vs) σ H Q) : tLc (LI K W wi) (LG K W vs g) (LT K W t) (LE K W w) vs σ H Q := by
  obtain ⟨M0, H0, oa, ds, P, S, hw, k⟩ := h
  refine le_lco ⟨M0, H0, oa, ds, fun acc => P (.lst acc), S, hw, fun acc us Dl H' hp hn e i hD r => ?_⟩
  have hMD : ¬ Mx M0 oa Dl := S.mok.fresh hn
  exact k _ _ H' hp e i (rep_lst (.inl ⟨hMD, .inl hD⟩) (r.car fun b o n h => ⟨fun z => n (z.elim (fun z => .inl (.inl z)) .inr), h⟩))
def wYes : WT := fun _ P => P true
theorem le_yes {Q : Bool → Hp → Prop} (h : LT K W wYes σ H Q) : tYes σ H Q := by
  obtain ⟨M0, H0, oa, ds, P, S, hw, k⟩ := h
  exact k true H hw (Ext.refl H) S.wi
abbrev VTs (X : Cx) (W : Wd) (ifs : List Expr) (t : WT) : Prop := PTs X ifs (LT X.K W t)
theorem vts_nil : VTs X W [] wYes := ⟨fun pins s σ H Q I hw => pts_nil.run pins s σ H Q I (le_yes hw)⟩
theorem vts_one {c : Expr} {t : WT} (h : VT X W c t) : VTs X W [c] t := pts_one h
theorem ve_lc {elt tg iter : Expr} {ifs : List Expr} {scope : Scope} {own : List (Str × Nat)} {wi : WI} {g : WG} {t : WT} {w : WE} (hc : X.calm = true) (hN : X.N.Nodup) (hi : VI X W tg iter wi) (ok : BlkOk X.N X.env.scope scope own)
    (hg : ∀ (s : Shared) (H : Hp) (C : Addr) (cl : List (Str × Addr)) (fp : List Addr), VG (X.blk s H scope (compEnvC scope cl C X.env) fp) W (own.map (·.2)) tg g) (ht : ∀ (s : Shared) (H : Hp) (C : Addr) (cl : List (Str × Addr)) (fp : List Addr), VTs (X.blk s H scope (compEnvC scope cl C X.env) fp) W ifs t)
    (he : ∀ (s : Shared) (H : Hp) (C : Addr) (cl : List (Str × Addr)) (fp : List Addr), VE (X.blk s H scope (compEnvC scope cl C X.env) fp) W elt w) (hs : ∀ x, foldedSetIterable iter X.env x = pure x := by intro _; rfl) :
    VE X W (.ListComp elt [⟨tg, iter, ifs, 0⟩] scope pos) (wLc wi g t w (own.map (·.2))) := pe_imp (pe_lc hc hN hi ok hg ht he hs) fun σ H Q => le_lc
theorem vs_setLc (i : Nat) {y : Str} {py : Pos} {elt tg iter : Expr} {ifs : List Expr} {scope : Scope} {own : List (Str × Nat)} {spos : Pos} {wi : WI} {g : WG} {t : WT} {w : WE} (hc : X.calm = true) (hN : X.N.Nodup) (hy : X.N[i]? = some y) (hyl : X.env.scope.names.lookup y = some .local)
    (hsw : swapsWith (.ListComp elt [⟨tg, iter, ifs, 0⟩] scope pos) (some (.Name y py)) spos.line X.env = pure true) (hi : VI X W tg iter wi) (ok : BlkOk X.N X.env.scope scope own)
    (hg : ∀ (s : Shared) (H : Hp) (C : Addr) (cl : List (Str × Addr)) (fp : List Addr), VG (X.blk s H scope (compEnvC scope cl C X.env) fp) W (own.map (·.2)) tg g) (ht : ∀ (s : Shared) (H : Hp) (C : Addr) (cl : List (Str × Addr)) (fp : List Addr), VTs (X.blk s H scope (compEnvC scope cl C X.env) fp) W ifs t)
    (he : ∀ (s : Shared) (H : Hp) (C : Addr) (cl : List (Str × Addr)) (fp : List Addr), VE (X.blk s H scope (compEnvC scope cl C X.env) fp) W elt w) (hs : ∀ x, foldedSetIterable iter X.env x = pure x := by intro _; rfl) :
    VS X W (.Assign [.Name y py] (.ListComp elt [⟨tg, iter, ifs, 0⟩] scope pos) spos) (wSet i (wLc wi g t w (own.map (·.2)))) := by
  refine ps_imp (ps_setLc (wi := LI X.K W wi) (g := LG X.K W (own.map (·.2)) g) (tt := LT X.K W t) (te := LE X.K W w) hc hN hy hyl hsw hi ok hg ht he hs) fun D σ H h => ?_
  obtain ⟨M0, H0, oa, ds, E, S, hw, k1, k2, k3, k4⟩ := h
  exact le_lc ⟨M0, H0, oa, ds, _, S, hw, fun d v H1 hd e1 i1 r1 => k1 _ _ _ _ hd ((S.step e1 i1).set r1)⟩
theorem Sat.takeown {K : PySem.W.Frag} {M0 : Addr → Prop} {H0 H H' : Hp} {oa : Nat → AS} {σ : L2.St} {ds : List Sl} (S : Sat K W M0 H0 oa H σ ds) {i : Nat} (hi : i < ds.length) {p : Addr} (hp : H p = none) (e : Ext W H H') (wi : W.I H') {xs : List D} {vs : List V}
    (ht : H' p = some (.lst vs)) (r : Reps K (Mx (fun a => M0 a ∨ a = p) oa) H' xs vs) : Sat K W M0 H0 (oaPut oa i p) H' (σ.set i (some (.ref p))) (ds.set i (.ml xs)) := by
  have S1 := S.step e wi
  have hm : ¬ Mx M0 oa p := S.mok.fresh hp
  have h0 : H0 p = none := by
    cases q : H0 p with
    | none => rfl
    | some o =>
      have nA : ¬ W.A p := fun z => W.live _ _ S.wi z hp
      rw [S.ext p o nA q] at hp; cases hp
  have c1 : Car (Mx (fun a => M0 a ∨ a = p) oa) (Mx M0 (oaPut oa i p)) H' H' := fun b o n h => ⟨fun z => by
    rcases z with z | ⟨j, z⟩
    · exact n (.inl (.inl z))
    · unfold oaPut at z
      by_cases e : j = i
      · rw [if_pos e] at z; exact n (.inl (.inr z))
      · rw [if_neg e] at z; exact n (.inr ⟨j, z⟩), h⟩
  have cr : Car (Mx M0 oa) (Mx M0 (oaPut oa i p)) H H' := fun b o n h => by
    have hb : b ≠ p := ne_of_none h hp
    refine ⟨fun z => ?_, (S.mok.car e b o n h).2⟩
    rcases z with z | ⟨j, z⟩
    · exact n (.inl z)
    · unfold oaPut at z
      by_cases e : j = i
      · rw [if_pos e] at z; exact hb z
      · rw [if_neg e] at z; exact n (.inr ⟨j, z⟩)
  refine S1.setown hi h0 hm ⟨p, vs, rfl, rfl, ht, r.car c1⟩ fun j s hj hs => ?_
  exact (S.slot j s hs).car cr fun a ob z h => e a ob (S.own_nA z) h
theorem vs_setLcO (i : Nat) {y : Str} {py : Pos} {elt tg iter : Expr} {ifs : List Expr} {scope : Scope} {own : List (Str × Nat)} {spos : Pos} {wi : WI} {g : WG} {t : WT} {w : WE} (hc : X.calm = true) (hN : X.N.Nodup) (hy : X.N[i]? = some y) (hyl : X.env.scope.names.lookup y = some .local)
    (hsw : swapsWith (.ListComp elt [⟨tg, iter, ifs, 0⟩] scope pos) (some (.Name y py)) spos.line X.env = pure true) (hi : VI X W tg iter wi) (ok : BlkOk X.N X.env.scope scope own)
    (hg : ∀ (s : Shared) (H : Hp) (C : Addr) (cl : List (Str × Addr)) (fp : List Addr), VG (X.blk s H scope (compEnvC scope cl C X.env) fp) W (own.map (·.2)) tg g) (ht : ∀ (s : Shared) (H : Hp) (C : Addr) (cl : List (Str × Addr)) (fp : List Addr), VTs (X.blk s H scope (compEnvC scope cl C X.env) fp) W ifs t)
    (he : ∀ (s : Shared) (H : Hp) (C : Addr) (cl : List (Str × Addr)) (fp : List Addr), VE (X.blk s H scope (compEnvC scope cl C X.env) fp) W elt w) (hs : ∀ x, foldedSetIterable iter X.env x = pure x := by intro _; rfl) :
    VS X W (.Assign [.Name y py] (.ListComp elt [⟨tg, iter, ifs, 0⟩] scope pos) spos) (fun E ds => i < ds.length ∧ wLcO wi g t w (own.map (·.2)) ds fun acc => E.nx (ds.set i (.ml acc))) := by
  refine ps_imp (ps_setLc (wi := LI X.K W wi) (g := LG X.K W (own.map (·.2)) g) (tt := LT X.K W t) (te := LE X.K W w) hc hN hy hyl hsw hi ok hg ht he hs) fun D σ H h => ?_
  obtain ⟨M0, H0, oa, ds, E, S, ⟨hl, hw⟩, k1, k2, k3, k4⟩ := h
  exact le_lco ⟨M0, H0, oa, ds, _, S, hw, fun acc us Dl H' hp hn e wi' hD r => k1 _ _ _ _ hp (S.takeown hl hn e wi' hD r)⟩
end
end VL
set_option Elab.async false
set_option linter.all false
set_option maxRecDepth 100000
set_option maxHeartbeats 2000000
namespace VL
open PySem PySem.Spec PyProof.Rows L2
theorem bt_len : bootBuiltins "len" = some (.builtin "len") := by decide +kernel
theorem bt_abs : bootBuiltins "abs" = some (.builtin "abs") := by decide +kernel
theorem bt_all : bootBuiltins "all" = some (.builtin "all") := by decide +kernel
theorem bt_int : bootBuiltins "int" = some (.type "int") := by decide +kernel
theorem bt_str : bootBuiltins "str" = some (.type "str") := by decide +kernel
theorem bt_bool : bootBuiltins "bool" = some (.type "bool") := by decide +kernel
theorem bt_list : bootBuiltins "list" = some (.type "list") := by decide +kernel
theorem bt_tuple : bootBuiltins "tuple" = some (.type "tuple") := by decide +kernel
theorem bt_isinstance : bootBuiltins "isinstance" = some (.builtin "isinstance") := by decide +kernel
theorem bt_sorted : bootBuiltins "sorted" = some (.builtin "sorted") := by decide +kernel
abbrev WO := List Sl → (Option Int → Prop) → Prop
def LO (K : PySem.W.Frag) (W : Wd) (w : WO) : TO := fun σ H Q => ∃ M0 H0 oa ds P, Sat K W M0 H0 oa H σ ds ∧ w ds P ∧ ∀ b H', P b → Ext W H H' → W.I H' → Q b H'
abbrev VO (X : Cx) (W : Wd) (e : Option Expr) (w : WO) : Prop := PO X e (LO X.K W w)
section
variable {X : Cx} {W : Wd} {e : Expr} {lo hi : Option Expr} {pos p2 : Pos}
theorem po_imp {t t' : TO} (h : PO X lo t) (f : ∀ σ H Q, t' σ H Q → t σ H Q) : PO X lo t' := ⟨fun pins s σ H Q I hw => h.run pins s σ H Q I (f σ H Q hw)⟩
def wNoP : WO := fun _ P => P none
def asInt : D → (Int → Prop) → Prop
  | .int i, P => P i
  | _, _ => False
def wP (w : WE) : WO := fun ds P => w ds fun d => asInt d fun i => P (some i)
theorem vo_none : VO X W none wNoP := po_imp po_none fun σ H Q ⟨M0, H0, oa, ds, P, S, hw, k⟩ => k none H hw (Ext.refl H) S.wi
theorem vo_some {w : WE} (h : VE X W e w) : VO X W (some e) (wP w) := by
  refine po_imp (po_some h) fun σ H Q h => ?_
  obtain ⟨M0, H0, oa, ds, P, S, hw, k⟩ := h
  refine ⟨M0, H0, oa, ds, _, S, hw, fun d v H1 hd e1 i1 r1 => ?_⟩
  cases d <;> first | exact hd.elim | skip
  exact ⟨_, r1.int, k _ H1 hd e1 i1⟩
def cutD (xs : List D) (lo hi : Option Int) : List D := (xs.drop (HT.sIx xs.length 0 lo)).take (HT.sIx xs.length xs.length hi - HT.sIx xs.length 0 lo)
theorem cut_rep {K : PySem.W.Frag} {M : Addr → Prop} {H : Hp} {xs : List D} {vs : List V} (r : Reps K M H xs vs) (lo hi : Option Int) : Reps K M H (cutD xs lo hi) (cutV vs lo hi) := by
  unfold cutD cutV
  rw [r.len]
  exact (r.drop _).take _
def slcD (lo hi : Option Int) : D → (D → Prop) → Prop
  | .lst xs, P => P (.lst (cutD xs lo hi))
  | .tup xs, P => P (.tup (cutD xs lo hi))
  | .str z, P => z.length ≤ sizeLine ∧ P (.str (cutS z lo hi))
  | _, _ => False
def wSlc (w : WE) (l h : WO) : WE := fun ds P => w ds fun x => l ds fun a => h ds fun b => slcD a b x P
def rSlAny (K : PySem.W.Frag) : V → Option Int → Option Int → Hp → VK → Prop := fun x lo hi H Q => (rSlL K x lo hi H Q ∨ rSlA K x lo hi H Q) ∨ rSlS x lo hi H Q
theorem sl_any : SlR X (rSlAny X.K) := (sl_list.or sl_tupA).or sl_str
theorem ve_slice {w : WE} {l h : WO} (he : VE X W e w) (hl : VO X W lo l) (hu : VO X W hi h) : VE X W (.Subscript e (.Slice lo hi none p2) pos) (wSlc w l h) := by
  refine pe_imp (pe_slice sl_any he hl hu) fun σ H Q h => ?_
  obtain ⟨M0, H0, oa, ds, P, S, hw, k⟩ := h
  refine ⟨M0, H0, oa, ds, _, S, hw, fun d v H1 hd e1 i1 r1 => ?_⟩
  have S1 := S.step e1 i1
  refine ⟨M0, H0, oa, ds, _, S1, hd, fun a H2 ha e2 i2 => ?_⟩
  have S2 := S1.step e2 i2
  refine ⟨M0, H0, oa, ds, _, S2, ha, fun b H3 hb e3 i3 => ?_⟩
  have S3 := S2.step e3 i3
  have r3 := (r1.ext S1.mok e2).ext S2.mok e3
  have e13 := (e1.trans e2).trans e3
  cases d with
  | lst xs =>
    obtain ⟨p, vs, rfl, t, r⟩ := r3.lst
    exact .inl (.inl ⟨p, vs, rfl, t.sq, fun q hq => k _ _ _ hb (e13.trans (Full.new hq).ext) (W.keep _ _ i3 (Full.new hq)) (S3.mok.newL hq (cut_rep r a b))⟩)
  | tup xs =>
    obtain ⟨p, vs, rfl, t, r⟩ := r3.tup
    refine .inl (.inr ⟨p, vs, rfl, t.sq, fun hw => ?_, fun hw q hq => k _ _ _ hb (e13.trans (Full.new hq).ext) (W.keep _ _ i3 (Full.new hq)) (S3.mok.newT hq (cut_rep r a b))⟩)
    refine k _ _ _ hb e13 i3 (rep_tup t ?_)
    have e : cutD xs a b = xs := by
      unfold cutD
      rw [← r.len, hw.1, hw.2]
      simp [r.len]
    rw [e]
    exact r
  | str z => exact .inr ⟨z, r3.str, hb.1, k _ _ _ hb.2 e13 i3 rep_str⟩
  | _ => exact hb.elim
end
theorem ve_never {X : Cx} {W : Wd} {e : Expr} : VE X W e (fun _ _ => False) := ⟨fun _ _ _ _ _ _ h => by
  obtain ⟨_, _, _, _, _, _, z, _⟩ := h
  exact z.elim⟩
def okD : Nat → D → Bool
  | _, .non => true
  | _, .bl _ => true
  | _, .int _ => true
  | _, .str _ => true
  | _, .hnd _ => false
  | _, .dic _ _ => false
  | _, .ins _ _ _ => false
  | _, .lam _ _ => false
  | 0, .tup _ => false
  | 0, .lst _ => false
  | n + 1, .tup ds => decide (ds.length ≤ 1000000) && ds.all (okD n)
  | n + 1, .lst ds => decide (ds.length ≤ 1000000) && ds.all (okD n)
theorem zips_same {ds : List D} {d : D} (h : d ∈ zipsD ds ds) : ∃ x ∈ ds, d = .tup [x, x] := by
  obtain ⟨i, hi⟩ := List.getElem?_of_mem h
  obtain ⟨x, y, h1, h2, e⟩ := zips_get hi
  rw [h1] at h2
  cases h2
  exact ⟨x, List.mem_of_getElem? h1, e⟩
theorem all_const {α : Type} (l : List α) : (l.map fun _ => true).all id = true := by
  induction l with
  | nil => rfl
  | cons a l ih => simp [ih]
inductive All2 (F : D → D → Prop) : List D → List D → Prop
  | nil : All2 F [] []
  | cons {x y : D} {xs ys : List D} : F x y → All2 F xs ys → All2 F (x :: xs) (y :: ys)
theorem All2.app {F : D → D → Prop} {xs ys as bs : List D} (h : All2 F xs ys) (k : All2 F as bs) : All2 F (xs ++ as) (ys ++ bs) := by
  induction h with
  | nil => exact k
  | cons h _ ih => exact .cons h ih
theorem All2.len {F : D → D → Prop} {xs ys : List D} (h : All2 F xs ys) : ys.length = xs.length := by
  induction h with
  | nil => rfl
  | cons _ _ ih => simp [ih]
theorem take_one {α : Type} {l : List α} {i : Nat} {x : α} (h : l[i]? = some x) : l.take (i + 1) = l.take i ++ [x] := by
  rw [List.take_add_one, h]
  rfl
theorem lcR {items : List D} {P : List D → Prop} {g : WG} {w : WE} {ds : List Sl} (F : D → D → Prop) (h : ∀ d ∈ items, ∀ R : D → Prop, (∀ y, F d y → R y) → g d ds fun ds1 => w ds1 R) (hP : ∀ ys, All2 F items ys → P ys) :
    ∃ Iv : Nat → List D → Prop, Iv 0 [] ∧ (∀ i d acc, items[i]? = some d → Iv i acc → g d ds fun ds1 => wYes ds1 fun b => if b = true then w ds1 fun y => Iv (i + 1) (acc ++ [y]) else Iv (i + 1) acc) ∧ ∀ acc, Iv items.length acc → P acc := by
  refine ⟨fun i acc => All2 F (items.take i) acc, .nil, fun i d acc hd ha => ?_, fun acc ha => hP acc (by have z : All2 F (items.take items.length) acc := ha; rw [List.take_length] at z; exact z)⟩
  exact h d (List.mem_of_getElem? hd) _ fun y hy => by show All2 F (items.take (i + 1)) (acc ++ [y]); rw [take_one hd]; exact ha.app (.cons hy .nil)
theorem lcF {items : List D} {P : List D → Prop} {g : WG} {w : WE} {ds : List Sl} (f : D → D) (h : ∀ d ∈ items, ∀ R : D → Prop, R (f d) → g d ds fun ds1 => w ds1 R) (hP : P (items.map f)) :
    ∃ Iv : Nat → List D → Prop, Iv 0 [] ∧ (∀ i d acc, items[i]? = some d → Iv i acc → g d ds fun ds1 => wYes ds1 fun b => if b = true then w ds1 fun y => Iv (i + 1) (acc ++ [y]) else Iv (i + 1) acc) ∧ ∀ acc, Iv items.length acc → P acc := by
  refine ⟨fun i acc => acc = (items.take i).map f, rfl, fun i d acc hd ha => ?_, fun acc ha => by have z : acc = (items.take items.length).map f := ha; rw [z, List.take_length]; exact hP⟩
  subst ha
  refine h d (List.mem_of_getElem? hd) _ ?_
  show (items.take i).map f ++ [f d] = (items.take (i + 1)).map f
  rw [take_one hd, List.map_append]
  rfl
mutual
def plain : D → Bool
  | .hnd _ => false
  | .dic _ _ => false
  | .ins _ _ _ => false
  | .lam _ _ => false
  | .tup ds => plains ds
  | .lst ds => plains ds
  | _ => true
def plains : List D → Bool
  | [] => true
  | d :: ds => plain d && plains ds
end
theorem plain_nh {d : D} (h : plain d = true) : noHnd d = true := by
  cases d <;> first | rfl | (unfold plain at h; cases h)
theorem plains_all {ds : List D} (h : plains ds = true) : ∀ d ∈ ds, plain d = true := by
  induction ds with
  | nil => intro d hd; cases hd
  | cons a r ih =>
    unfold plains at h
    obtain ⟨h1, h2⟩ := Bool.and_eq_true_iff.mp h
    intro d hd
    cases hd with
    | head => exact h1
    | tail _ hd => exact ih h2 d hd
theorem plain_tup {ds : List D} (h : plain (.tup ds) = true) : plains ds = true := by unfold plain at h; exact h
end VL
set_option Elab.async false
set_option linter.all false
set_option maxRecDepth 100000
set_option maxHeartbeats 2000000
namespace VL
open PySem PySem.Spec PyProof.Rows L2
def rCatL (K : PySem.W.Frag) : R2 := fun x y H Q => ∃ a b xs ys, x = .ref a ∧ y = .ref b ∧ SqL K H a xs ∧ SqL K H b ys ∧ xs.length + ys.length ≤ sizeLine ∧ ∀ p, H p = none → Q (.ref p) (upd H p (.lst (xs ++ ys)))
theorem op_catL {X : Cx} : OpR X (binaryOp .Add) (rCatL X.K) := by
  intro pins s σ H x y v u Q I rx ry h
  obtain ⟨a, b, xs, ys, rfl, rfl, ha, hb, hz, q⟩ := h
  cases rx
  cases ry
  obtain ⟨its, r1, ⟨⟨cls, dd, data, sl⟩, n, ho, hc, hdd, hd⟩, _⟩ := I.list ha
  obtain ⟨its2, r2, ⟨⟨cls2, dd2, data2, sl2⟩, n2, ho2, hc2, hdd2, hd2⟩, _⟩ := I.list hb
  simp only at hc hd hc2 hd2
  subst hc hd hc2 hd2
  have e : its.toArray ++ its2.toArray = (its ++ its2).toArray := by simp
  have l1 := r1.length
  have l2 := r2.length
  refine concat_meets ⟨_, ho, rfl⟩ ⟨_, ho2, rfl⟩ noFill_list_add seq_list_add PySem.F.slot_list_add PySem.F.entry_list_add (PySem.F.args_list_add_2 _ _) (list_addW a b its.toArray its2.toArray n n2 dd dd2 sl sl2 (by rw [List.size_toArray, List.size_toArray]; omega)) ⟨ho, ho2, ?_⟩
  rw [e]
  exact ⟨.ref _, _, I.lnew (t' := s.toks) (r1.append r2) (by rw [List.length_append]; omega), rfl, q _ I.fresh⟩
def addA : D → D → (D → Prop) → Prop
  | .int i, .int j, P => P (.int (i + j))
  | .str i, .str j, P => i.length + j.length ≤ sizeLine ∧ P (.str (i ++ j))
  | .lst i, .lst j, P => i.length + j.length ≤ sizeLine ∧ P (.lst (i ++ j))
  | .tup i, .tup j, P => i.length + j.length ≤ sizeLine ∧ P (.tup (i ++ j))
  | _, _, _ => False
def rAddL (K : PySem.W.Frag) : R2 := fun x y H Q => (rAddA x y H Q ∨ rCatL K x y H Q) ∨ rCatA K x y H Q
section
variable {X : Cx} {W : Wd} {K : PySem.W.Frag}
theorem op_addL : OpR X (binaryOp .Add) (rAddL X.K) := OpR.or (OpR.or op_addA op_catL) op_catA
theorem lift_addL : LiftOp K W addA (rAddL K) := by
  intro M H x y v u P Q m r1 r2 h k
  cases x <;> cases y <;> first
    | exact h.elim
    | (rename_i i j; exact .inl (.inl (.inl ⟨i, j, r1.int, r2.int, k _ _ H h (Ext.refl H) m.wi rep_int⟩)))
    | (rename_i i j; exact .inl (.inl (.inr ⟨i, j, r1.str, r2.str, h.1, k _ _ H h.2 (Ext.refl H) m.wi rep_str⟩)))
    | (obtain ⟨a, xs, rfl, t, q⟩ := r1.lst
       obtain ⟨b, ys, rfl, t', q'⟩ := r2.lst
       exact .inl (.inr ⟨a, b, xs, ys, rfl, rfl, t.sq, t'.sq, by rw [q.len, q'.len]; exact h.1, fun p hp => k _ _ _ h.2 (Full.new hp).ext (W.keep _ _ m.wi (Full.new hp)) (m.newL hp (q.app q'))⟩))
    | (obtain ⟨a, xs, rfl, t, q⟩ := r1.tup
       obtain ⟨b, ys, rfl, t', q'⟩ := r2.tup
       refine .inr ⟨a, b, xs, ys, rfl, rfl, t.sq, t'.sq, by rw [q.len, q'.len]; exact h.1, fun e => ?_, fun _ e => ?_, fun _ _ p hp => k _ _ _ h.2 (Full.new hp).ext (W.keep _ _ m.wi (Full.new hp)) (m.newT hp (q.app q'))⟩
       · refine k _ _ _ h.2 (Ext.refl H) m.wi (rep_tup t' ?_)
         have z := q.app q'
         rw [e] at z
         exact z
       · refine k _ _ _ h.2 (Ext.refl H) m.wi (rep_tup t ?_)
         have z := q.app q'
         rw [e, List.append_nil] at z
         exact z)
theorem ve_addA {a b : Expr} {pos : Pos} {wa wb : WE} (ha : VE X W a wa) (hb : VE X W b wb) : VE X W (.BinOp a .Add b pos) (wOp addA wa wb) := ve_op op_addL lift_addL ha hb
def lkp : List Str → List D → Str → Option D
  | k :: ks, x :: xs, s => if k = s then some x else lkp ks xs s
  | _, _, _ => none
abbrev kz (ks : List Str) (us : List V) : List (Key × V) := (ks.map Sum.inr).zip us
theorem lkp_rep {M : Addr → Prop} {H : Hp} {s : Str} : ∀ {ks : List Str} {ds : List D} {us : List V}, Reps K M H ds us → us.length = ks.length →
    (∃ d v, lkp ks ds s = some d ∧ valV (kz ks us) (Sum.inr s) = some v ∧ Rep K M H d v) ∨ (lkp ks ds s = none ∧ valV (kz ks us) (Sum.inr s) = none)
  | [], ds, us, r, l => by
    refine .inr ⟨by cases ds <;> rfl, ?_⟩
    exact valV_nil
  | k :: ks, [], us, r, l => by rw [r.inv0] at l; cases l
  | k :: ks, d :: ds, us, r, l => by
    obtain ⟨v, vs, rfl, h1, h2⟩ := r.inv
    by_cases e : k = s
    · refine .inl ⟨d, v, by unfold lkp; rw [if_pos e], ?_, h1⟩
      exact valV_pos (p := (Sum.inr k, v)) (by rw [e])
    · have n : ¬ (Sum.inr k : Key) = Sum.inr s := fun z => e (Sum.inr.inj z)
      have ek : lkp (k :: ks) (d :: ds) s = lkp ks ds s := by rw [lkp, if_neg e]
      have ev : valV (kz (k :: ks) (v :: vs)) (Sum.inr s) = valV (kz ks vs) (Sum.inr s) := valV_neg (p := (Sum.inr k, v)) n
      rw [ek, ev]
      exact lkp_rep h2 (by simpa using l)
def putKs (ks : List Str) (s : Str) : List Str := if s ∈ ks then ks else ks ++ [s]
def putDs (ks : List Str) (ds : List D) (s : Str) (d : D) : List D := if s ∈ ks then (ks.zip ds).map (fun p => if p.1 = s then d else p.2) else ds ++ [d]
theorem put_map {M : Addr → Prop} {H : Hp} {s : Str} {d : D} {v : V} (rv : Rep K M H d v) : ∀ {ks : List Str} {ds : List D} {us : List V}, Reps K M H ds us → us.length = ks.length →
    ∃ us', us'.length = ks.length ∧ (kz ks us).map (fun kv => if kv.1 = Sum.inr s then (kv.1, v) else kv) = kz ks us' ∧ Reps K M H ((ks.zip ds).map fun p => if p.1 = s then d else p.2) us'
  | [], ds, us, r, l => ⟨[], rfl, rfl, reps_nil⟩
  | k :: ks, [], us, r, l => by rw [r.inv0] at l; cases l
  | k :: ks, x :: ds, us, r, l => by
    obtain ⟨u, vs, rfl, h1, h2⟩ := r.inv
    obtain ⟨us', l', e', r'⟩ := put_map rv h2 (by simpa using l)
    refine ⟨(if k = s then v else u) :: us', by simp [l'], ?_, ?_⟩
    · show (if (Sum.inr k : Key) = Sum.inr s then (Sum.inr k, v) else (Sum.inr k, u)) :: (kz ks vs).map _ = (Sum.inr k, if k = s then v else u) :: kz ks us'
      rw [e']
      by_cases e : k = s
      · rw [if_pos (by rw [e]), if_pos e]
      · rw [if_neg (fun z => e (Sum.inr.inj z)), if_neg e]
    · show Reps K M H ((if k = s then d else x) :: (ks.zip ds).map _) _
      refine reps_cons ?_ r'
      by_cases e : k = s
      · rw [if_pos e, if_pos e]; exact rv
      · rw [if_neg e, if_neg e]; exact h1
theorem kz_any {s : Str} : ∀ {ks : List Str} {us : List V}, us.length = ks.length → ((kz ks us).any fun kv => decide (kv.1 = Sum.inr s)) = decide (s ∈ ks)
  | [], us, _ => rfl
  | k :: ks, [], l => by cases l
  | k :: ks, u :: us, l => by
    have ih := kz_any (s := s) (ks := ks) (us := us) (by simpa using l)
    show (decide ((Sum.inr k : Key) = Sum.inr s) || (kz ks us).any fun kv => decide (kv.1 = Sum.inr s)) = _
    rw [ih]
    by_cases e : k = s
    · simp [e]
    · have n : ¬ (Sum.inr k : Key) = Sum.inr s := fun z => e (Sum.inr.inj z)
      have n2 : ¬ s = k := fun z => e z.symm
      simp [e, n2]
theorem put_rep {M : Addr → Prop} {H : Hp} {s : Str} {d : D} {v : V} {ks : List Str} {ds : List D} {us : List V} (rv : Rep K M H d v) (r : Reps K M H ds us) (l : us.length = ks.length) :
    ∃ us', us'.length = (putKs ks s).length ∧ putK (kz ks us) (Sum.inr s) v = kz (putKs ks s) us' ∧ Reps K M H (putDs ks ds s d) us' := by
  unfold putK putKs putDs
  rw [kz_any l]
  by_cases e : s ∈ ks
  · rw [if_pos (decide_eq_true e), if_pos e, if_pos e]
    exact put_map rv r l
  · simp only [e, decide_false, if_false, Bool.false_eq_true]
    refine ⟨us ++ [v], by simp [l], ?_, r.app (reps_cons rv reps_nil)⟩
    show (ks.map Sum.inr).zip us ++ [(Sum.inr s, v)] = ((ks ++ [s]).map Sum.inr).zip (us ++ [v])
    rw [List.map_append, List.zip_append (by simp [l])]
    rfl
def dkS : Sl → (List Str → List D → Prop) → Prop
  | .md ks xs, P => P ks xs
  | .d (.dic ks xs), P => P ks xs
  | _, _ => False
def strS : D → (Str → Prop) → Prop
  | .str s, P => P s
  | _, _ => False
theorem strS_of {d : D} {P : Str → Prop} (h : strS d P) : ∃ s, d = .str s ∧ P s := by
  cases d with
  | str s => exact ⟨s, rfl, h⟩
  | _ => exact h.elim
structure Dk (K : PySem.W.Frag) (W : Wd) (M : Addr → Prop) (H : Hp) (a : Addr) (ks : List Str) (xs : List D) (us : List V) : Prop where
  nA : ¬ W.A a
  len : us.length = ks.length
  at_ : H a = some (.dK (kz ks us))
  r : Reps K M H xs us
theorem Dk.ext {M : Addr → Prop} {H H' : Hp} {a : Addr} {ks : List Str} {xs : List D} {us : List V} (h : Dk K W M H a ks xs us) (m : MOk W M H) (e : Ext W H H') : Dk K W M H' a ks xs us := ⟨h.nA, h.len, e _ _ h.nA h.at_, h.r.ext m e⟩
theorem Sat.dk {M0 : Addr → Prop} {H0 H : Hp} {oa : Nat → AS} {σ : L2.St} {ds : List Sl} (S : Sat K W M0 H0 oa H σ ds) {i : Nat} {P : List Str → List D → Prop} (h : dkS (ds.getD i .un) P) :
    ∃ ks xs a us, P ks xs ∧ σ[i]? = some (some (.ref a)) ∧ Dk K W (Mx M0 oa) H a ks xs us := by
  rw [List.getD_eq_getElem?_getD] at h
  cases e : ds[i]? with
  | none => rw [e] at h; exact h.elim
  | some s =>
    rw [e] at h
    cases s with
    | un => exact h.elim
    | ml l => exact h.elim
    | mi a C ks l => exact h.elim
    | ow t => exact h.elim
    | md ks l =>
      obtain ⟨a, us, e1, e2, e3, e4, r⟩ := S.slot i _ e
      exact ⟨ks, l, a, us, h, e2, S.own_nA (i := i) (by rw [e1]; rfl), e3, e4, r⟩
    | d x =>
      cases x with
      | dic ks xs =>
        obtain ⟨_, v, e1, r⟩ := S.slot i _ e
        obtain ⟨a, us, rfl, m, l, t, r2⟩ := r.dic
        exact ⟨ks, xs, a, us, h, e1, fun z => m (.inl (S.wm a z)), l, t, r2⟩
      | _ => exact h.elim
theorem rep_dk {M : Addr → Prop} {H : Hp} {ks : List Str} {xs : List D} {v : V} (m : MOk W M H) (h : Rep K M H (.dic ks xs) v) : ∃ a us, v = .ref a ∧ Dk K W M H a ks xs us := by
  obtain ⟨a, us, rfl, n, l, t, r2⟩ := h.dic
  exact ⟨a, us, rfl, fun z => n (m.wm a z), l, t, r2⟩
theorem dk_get {M : Addr → Prop} {H : Hp} {a : Addr} {ks : List Str} {xs : List D} {us : List V} {s : Str} (h : Dk K W M H a ks xs us) : ∃ o, DGet H a (.str s) o ∧ ((∃ d v, lkp ks xs s = some d ∧ o = some v ∧ Rep K M H d v) ∨ (lkp ks xs s = none ∧ o = none)) := by
  rcases lkp_rep (s := s) h.r h.len with ⟨d, v, e1, e2, r⟩ | ⟨e1, e2⟩
  · exact ⟨some v, by rw [← e2]; exact DGet.k (k := Sum.inr s) h.at_, .inl ⟨d, v, e1, rfl, r⟩⟩
  · exact ⟨none, by rw [← e2]; exact DGet.k (k := Sum.inr s) h.at_, .inr ⟨e1, rfl⟩⟩
section
variable {i : Nat} {x : Str} {k z : Expr} {pos p apos cpos : Pos} {wk wz : WE}
def wDGet (i : Nat) (wk : WE) : WE := fun ds P => dkS (ds.getD i .un) fun ks xs => wk ds fun k => strS k fun s => ∃ d, lkp ks xs s = some d ∧ P d
theorem ve_dget (i : Nat) (hu : X.A.units + 64 < cLine) (hk : VE X W k wk) (hN : X.N[i]? = some x := by rfl) (hv : Vis X.env.scope x := by first | exact Or.inl rfl | exact Or.inr (Or.inl rfl) | exact Or.inr (Or.inr rfl)) (hd : (x == ("__debug__" : Str)) = false := by decide)
    (hcd : (x == ("__classdict__" : Str)) = false := by decide) (hs : NoSl k := by exact fun _ _ => rfl) : VE X W (.Subscript (.Name x p) k pos) (wDGet i wk) := by
  refine pe_imp (L2.pe_dget (by omega) (pe_var hN hv hd hcd) hk hs) fun σ H Q h => ?_
  obtain ⟨M0, H0, oa, ds, P, S, hw, kk⟩ := h
  obtain ⟨ks, xs, a, us, hp, hσ, dk⟩ := S.dk hw
  refine ⟨.ref a, hσ, M0, H0, oa, ds, _, S, hp, fun d v H1 hd e1 i1 r1 => ?_⟩
  obtain ⟨s, rfl, d', hl, hP⟩ := strS_of hd
  have dk1 := dk.ext S.mok e1
  have e := r1.str
  subst e
  obtain ⟨o, g, ⟨d2, v2, h1, rfl, r2⟩ | ⟨h1, _⟩⟩ := dk_get (s := s) dk1
  · rw [hl] at h1
    cases h1
    exact ⟨a, v2, rfl, g, kk _ _ H1 hP e1 i1 r2⟩
  · rw [hl] at h1; cases h1
def wDGet2 (i : Nat) (wk wz : WE) : WE := fun ds P => dkS (ds.getD i .un) fun ks xs => wk ds fun k => strS k fun s => wz ds fun z => P ((lkp ks xs s).getD z)
theorem ve_dget2 (i : Nat) (hu : X.A.units + 64 < cLine) (hk : VE X W k wk) (hz : VE X W z wz) (hN : X.N[i]? = some x := by rfl) (hv : Vis X.env.scope x := by first | exact Or.inl rfl | exact Or.inr (Or.inl rfl) | exact Or.inr (Or.inr rfl)) (hd : (x == ("__debug__" : Str)) = false := by decide)
    (hcd : (x == ("__classdict__" : Str)) = false := by decide) (m : M2 X (.Name x p) "get" apos k z cpos := by exact ⟨rfl, rfl, rfl, rfl⟩) : VE X W (.Call (.Attribute (.Name x p) "get" apos) [k, z] [] cpos) (wDGet2 i wk wz) := by
  refine pe_imp (L2.pe_dget2 (by omega) (pe_var hN hv hd hcd) hk hz m) fun σ H Q h => ?_
  obtain ⟨M0, H0, oa, ds, P, S, hw, kk⟩ := h
  obtain ⟨ks, xs, a, us, hp, hσ, dk⟩ := S.dk hw
  refine ⟨.ref a, hσ, a, rfl, .inl ⟨_, .inl dk.at_⟩, M0, H0, oa, ds, _, S, hp, fun d v H1 hd e1 i1 r1 => ?_⟩
  obtain ⟨s, rfl, hz⟩ := strS_of hd
  have S1 := S.step e1 i1
  refine ⟨M0, H0, oa, ds, _, S1, hz, fun zd zv H2 hzd e2 i2 r2 => ?_⟩
  have dk2 := (dk.ext S.mok e1).ext S1.mok e2
  have e := r1.str
  subst e
  obtain ⟨o, g, ⟨d2, v2, h1, rfl, r3⟩ | ⟨h1, rfl⟩⟩ := dk_get (s := s) dk2
  · rw [h1] at hzd
    exact ⟨_, g, kk _ _ H2 hzd (e1.trans e2) i2 r3⟩
  · rw [h1] at hzd
    exact ⟨_, g, kk _ _ H2 hzd (e1.trans e2) i2 r2⟩
def wSetDic (i : Nat) : WS := fun E ds => i < ds.length ∧ E.nx (ds.set i (.md [] []))
theorem vs_setDic (i : Nat) {pos' lpos : Pos} (hN : X.N.Nodup) (hi : X.N[i]? = some x := by rfl) (hx : Loc X.env.scope x := by first | exact Or.inl rfl | exact Or.inr rfl) (hs : swapsWith (.Dict [] [] lpos) (some (.Name x pos')) pos.line X.env = pure false := by rfl)
    (hf : X.fn x = true ∨ X.env.scope.names.lookup x = some .local := by first | exact .inl rfl | exact .inr rfl | assumption) : VS X W (.Assign [.Name x pos'] (.Dict [] [] lpos) pos) (wSetDic i) := by
  refine ps_imp (ps_set hN hi hx pe_dnewK hs hf) fun D σ H h => ?_
  obtain ⟨M0, H0, oa, ds, E, S, ⟨hl, hn⟩, k1, k2, k3, k4⟩ := h
  exact fun p hp => k1 _ _ _ _ hn (S.newown hl hp fun c => ⟨p, [], rfl, rfl, rfl, upd_same, reps_nil⟩)
def mdS : Sl → (List Str → List D → Prop) → Prop
  | .md ks xs, P => P ks xs
  | _, _ => False
def wDPut (i : Nat) (wk wv : WE) : WS := fun E ds => wv ds fun v => mdS (ds.getD i .un) fun ks xs => wk ds fun k => strS k fun s => ks.length < 1000000 ∧ E.nx (ds.set i (.md (putKs ks s) (putDs ks xs s v)))
theorem vs_dput (i : Nat) {v : Expr} {wv : WE} {pos' : Pos} (hu : X.A.units + 64 < cLine) (hk : VE X W k wk) (hval : VE X W v wv) (hN : X.N[i]? = some x := by rfl) (hv : Vis X.env.scope x := by first | exact Or.inl rfl | exact Or.inr (Or.inl rfl) | exact Or.inr (Or.inr rfl)) (hd : (x == ("__debug__" : Str)) = false := by decide)
    (hcd : (x == ("__classdict__" : Str)) = false := by decide) (hsl : NoSl k := by exact fun _ _ => rfl) (hs : swapsWith v (some (.Subscript (.Name x p) k pos')) pos.line X.env = pure false := by rfl) : VS X W (.Assign [.Subscript (.Name x p) k pos'] v pos) (wDPut i wk wv) := by
  refine ps_imp (L2.ps_dput (by omega) (pe_var hN hv hd hcd) hk hval hs) fun D σ H h => ?_
  obtain ⟨M0, H0, oa, ds, E, S, hw, k1, k2, k3, k4⟩ := h
  refine ⟨M0, H0, oa, ds, _, S, hw, fun dv v1 H1 hd1 e1 i1 r1 => ?_⟩
  have S1 := S.step e1 i1
  obtain ⟨ks, xs, hg, hd2⟩ : ∃ ks xs, ds.getD i .un = .md ks xs ∧ _ := by
    cases q : ds.getD i .un with
    | md ks xs => rw [q] at hd1; exact ⟨ks, xs, rfl, hd1⟩
    | _ => rw [q] at hd1; exact hd1.elim
  have hget : ds[i]? = some (.md ks xs) := by
    rw [List.getD_eq_getElem?_getD] at hg
    cases e : ds[i]? with
    | none => rw [e] at hg; cases hg
    | some s => rw [e] at hg; exact congrArg some hg
  obtain ⟨a, us, o1, o2, o3, o4, o5⟩ := S1.slot i _ hget
  refine ⟨.ref a, o2, M0, H0, oa, ds, _, S1, hd2, fun d v2 H2 hd3 e2 i2 r2 => ?_⟩
  obtain ⟨s, rfl, hl, hn⟩ := strS_of hd3
  have S2 := S1.step e2 i2
  have es := r2.str
  subst es
  obtain ⟨a', us', p1, p2, p3, p4, p5⟩ := S2.slot i _ hget
  rw [o1] at p1
  obtain rfl := one1_inj p1
  have l1000 : us'.length < sizeLine := by rw [sizeLine_eq]; omega
  refine ⟨a, _, rfl, DPut.k (k := Sum.inr s) p4 (by show (kz ks us').length < sizeLine; simp [p3]; omega), k1 _ oa _ _ hn ?_⟩
  obtain ⟨us2, q1, q2, q3⟩ := put_rep (s := s) (r1.ext S1.mok e2) p5 p3
  refine S2.mutown (List.getElem?_eq_some_iff.mp hget).1 o1 p2 fun c => ⟨a, us2, rfl, rfl, q1, ?_, q3.car c⟩
  rw [upd_same]
  exact congrArg (fun z => some (HO.dK z)) q2
end
def rIxD : R2 := fun x y H Q => ∃ a v, x = .ref a ∧ DGet H a y (some v) ∧ Q v H
theorem ix_dic (hu : X.A.units + 64 < cLine) : IxR X rIxD := by
  intro value slice pins s σ H x y v u Q I rx ry h hs
  obtain ⟨a, z, rfl, g, q⟩ := h
  obtain rfl : v = Value.ref a := rx
  exact tail_any (dict_typeIs I g) PySem.F.slot_dict_getitem.lookup (d_getItem (by omega) I g ry fun w' s3 I3 rw' => ⟨z, H, I3, rw', q⟩) hs
def ixA : D → D → (D → Prop) → Prop
  | .tup xs, .int i, P => ∃ d, atI xs i = some d ∧ P d
  | .lst xs, .int i, P => ∃ d, atI xs i = some d ∧ P d
  | .str z, .int i, P => z.length ≤ sizeLine ∧ ∃ c, atI z.cps.toList i = some c ∧ P (.str ⟨#[c]⟩)
  | .dic ks xs, .str s, P => ∃ d, lkp ks xs s = some d ∧ P d
  | _, _, _ => False
theorem lift_ixA : LiftOp K W ixA (fun x y H Q => rIx K x y H Q ∨ rIxD x y H Q) := by
  intro M H x y v u P Q m r1 r2 h k
  cases x with
  | tup xs => cases y with
    | int i => exact .inl (lift_ix (W := W) M H (.tup xs) (.int i) v u P Q m r1 r2 h k)
    | _ => exact h.elim
  | lst xs => cases y with
    | int i => exact .inl (lift_ix (W := W) M H (.lst xs) (.int i) v u P Q m r1 r2 h k)
    | _ => exact h.elim
  | str xs => cases y with
    | int i => exact .inl (lift_ix (W := W) M H (.str xs) (.int i) v u P Q m r1 r2 h k)
    | _ => exact h.elim
  | dic ks xs => cases y with
    | str s =>
      obtain ⟨d, hl, hp⟩ := h
      obtain ⟨a, us, rfl, dk⟩ := rep_dk m r1
      have e := r2.str
      subst e
      obtain ⟨o, g, ⟨d2, v2, h1, rfl, r3⟩ | ⟨h1, _⟩⟩ := dk_get (s := s) dk
      · rw [hl] at h1
        cases h1
        exact .inr ⟨a, v2, rfl, g, k _ _ H hp (Ext.refl H) m.wi r3⟩
      · rw [hl] at h1; cases h1
    | _ => exact h.elim
  | _ => exact h.elim
theorem IxR.or' {r r' : R2} (h : IxR X r) (h' : IxR X r') : IxR X (fun x y H Q => r x y H Q ∨ r' x y H Q) := by
  intro value slice pins s σ H x y v u Q I r1 r2 q hs
  rcases q with q | q
  · exact h value slice pins s σ H x y v u Q I r1 r2 q hs
  · exact h' value slice pins s σ H x y v u Q I r1 r2 q hs
theorem ve_ixA {a b : Expr} {pos : Pos} {wa wb : WE} (hu : X.A.units + 64 < cLine) (ha : VE X W a wa) (hb : VE X W b wb) (hs : PlainIx b := by exact fun _ _ => rfl) : VE X W (.Subscript a b pos) (wOp ixA wa wb) :=
  pe_imp (pe_ix (IxR.or' ix_seq (ix_dic hu)) ha hb hs) (le_op lift_ixA)
def leS (a b : Str) : Bool := !decide (b.cps.toList < a.cps.toList)
def srt (l : List Str) : List Str := l.mergeSort leS
theorem str_ext {a b : Str} (h : a.cps.toList = b.cps.toList) : a = b := by
  cases a; cases b
  simp at h
  rw [h]
theorem leS_anti {a b : Str} (h1 : leS a b = true) (h2 : leS b a = true) : a = b := by
  unfold leS at h1 h2
  refine str_ext (List.le_antisymm ?_ ?_)
  · simpa using h1
  · simpa using h2
theorem leS_trans (a b c : Str) (h1 : leS a b = true) (h2 : leS b c = true) : leS a c = true := by
  unfold leS at h1 h2 ⊢
  have h1 : a.cps.toList ≤ b.cps.toList := by simpa using h1
  have h2 : b.cps.toList ≤ c.cps.toList := by simpa using h2
  have := List.le_trans h1 h2
  simpa using this
theorem leS_total (a b : Str) : (leS a b || leS b a) = true := by
  unfold leS
  rcases List.le_total a.cps.toList b.cps.toList with h | h
  · have : ¬ b.cps.toList < a.cps.toList := h
    simp [this]
  · have : ¬ a.cps.toList < b.cps.toList := h
    simp [this]
theorem sorted_pw : ∀ {l : List Str} {p : Str}, risingS p l = true → (p :: l).Pairwise (fun a b => leS a b = true)
  | [], p, _ => List.pairwise_singleton ..
  | x :: r, p, h => by
    unfold risingS at h
    obtain ⟨h1, h2⟩ := Bool.and_eq_true_iff.mp h
    have ih := sorted_pw h2
    have hx : leS p x = true := by unfold leS; rw [← lt_meets] at h1; exact h1
    refine List.pairwise_cons.mpr ⟨fun y hy => ?_, ih⟩
    rcases List.mem_cons.mp hy with e | hy
    · rw [e]; exact hx
    · exact leS_trans p x y hx ((List.pairwise_cons.mp ih).1 y hy)
theorem srt_of {ys ks : List Str} (h1 : ys.Perm ks) (h2 : sortedS ys = true) : ys = srt ks := by
  have hp : ys.Pairwise (fun a b => leS a b = true) := by
    cases ys with
    | nil => exact .nil
    | cons x r => exact sorted_pw h2
  have hq : (srt ks).Pairwise (fun a b => leS a b = true) := List.pairwise_mergeSort leS_trans leS_total ks
  exact List.Perm.eq_of_pairwise (fun a b _ _ h1 h2 => leS_anti h1 h2) hp hq (h1.trans (List.mergeSort_perm ks leS).symm)
theorem strs_of : ∀ (ys : List Str), ∀ {M : Addr → Prop} {H : Hp}, Reps K M H (ys.map D.str) (ys.map V.str)
  | [], _, _ => reps_nil
  | _ :: ys, _, _ => reps_cons rep_str (strs_of ys)
def sortD : List D → (D → Prop) → Prop
  | [.dic ks xs], P => xs.length = ks.length → ks.length < 64 ∧ P (.lst ((srt ks).map D.str))
  | [.lst xs], P => ∃ ks : List Str, xs = ks.map D.str ∧ ks.length < 64 ∧ P (.lst ((srt ks).map D.str))
  | _, _ => False
theorem kz_keys {ks : List Str} {us : List V} (l : us.length = ks.length) : (kz ks us).map (·.1) = ks.map Sum.inr := by
  unfold kz
  rw [List.map_fst_zip (by simp [l])]
theorem lift_sorted : LiftCall K W sortD (fun vs H Q => rSortedS K vs H Q ∨ (∃ (a : Addr) (kvs : List (Key × V)) (ks : List Str), vs = [.ref a] ∧ Rd H a (.dK kvs) ∧ kvs.map (·.1) = ks.map Sum.inr ∧ ks.length < 64 ∧
    ∀ ys p, ys.Perm ks → sortedS ys = true → H p = none → Q (.ref p) (upd H p (.lst (ys.map V.str))))) := by
  intro M H xs vs P Q m r h k
  match xs, h with
  | [.dic ks xs], h =>
    obtain ⟨v, rfl, r1⟩ := r.one
    obtain ⟨a, us, rfl, dk⟩ := rep_dk m r1
    obtain ⟨h1, h2⟩ := h (by rw [← dk.r.len, dk.len])
    refine .inr ⟨a, _, ks, rfl, .inl dk.at_, kz_keys dk.len, h1, fun ys p hy hs hp => ?_⟩
    rw [srt_of hy hs]
    exact k _ _ _ h2 (Full.new hp).ext (W.keep _ _ m.wi (Full.new hp)) (m.newL hp (strs_of _))
  | [.lst xs], h =>
    obtain ⟨ks, rfl, h1, h2⟩ := h
    obtain ⟨v, rfl, r1⟩ := r.one
    obtain ⟨a, us, rfl, t, r2⟩ := r1.lst
    have e := r2.strs
    subst e
    refine .inl ⟨a, ks, rfl, t.sq, h1, fun ys p hy hs hp => ?_⟩
    rw [srt_of hy hs]
    exact k _ _ _ h2 (Full.new hp).ext (W.keep _ _ m.wi (Full.new hp)) (m.newL hp (strs_of _))
theorem cr_sortedA (hc : X.calm = true) : CallR X (.builtin "sorted") (fun vs H Q => rSortedS X.K vs H Q ∨ (∃ (a : Addr) (kvs : List (Key × V)) (ks : List Str), vs = [.ref a] ∧ Rd H a (.dK kvs) ∧ kvs.map (·.1) = ks.map Sum.inr ∧ ks.length < 64 ∧
    ∀ ys p, ys.Perm ks → sortedS ys = true → H p = none → Q (.ref p) (upd H p (.lst (ys.map V.str))))) := CallR.or cr_sortedS (call_sortedD hc)
def listA : List D → (D → Prop) → Prop
  | [.tup xs], P => P (.lst xs)
  | [.lst xs], P => P (.lst xs)
  | [.dic ks xs], P => P (.lst (ks.map D.str))
  | _, _ => False
def rListA (K : PySem.W.Frag) : List V → Hp → VK → Prop := fun xs H Q => (∃ p ys, xs = [.ref p] ∧ (SqL K H p ys ∨ SqT K H p ys) ∧ ∀ l, H l = none → Q (.ref l) (upd H l (.lst ys))) ∨
  (∃ (a : Addr) (kvs : List (Key × V)), xs = [.ref a] ∧ Rd H a (.dK kvs) ∧ ∀ p, H p = none → Q (.ref p) (upd H p (.lst (kvs.map fun kv => kV kv.1))))
theorem cr_listA (hc : X.calm = true) : CallR X (.type "list") (rListA X.K) := CallR.or call_list_of (call_listD hc)
theorem kz_vals {ks : List Str} {us : List V} (l : us.length = ks.length) : ((kz ks us).map fun kv => kV kv.1) = ks.map V.str := by
  have e : ((kz ks us).map fun kv => kV kv.1) = ((kz ks us).map (·.1)).map kV := by rw [List.map_map]; rfl
  rw [e, kz_keys l, List.map_map]
  rfl
theorem lift_listA : LiftCall K W listA (rListA K) := by
  intro M H xs vs P Q m r h k
  match xs, h with
  | [.tup ds], h => exact .inl (lift_list (W := W) M H [.tup ds] vs P Q m r h k)
  | [.lst ds], h => exact .inl (lift_list (W := W) M H [.lst ds] vs P Q m r h k)
  | [.dic ks xs], h =>
    obtain ⟨v, rfl, r1⟩ := r.one
    obtain ⟨a, us, rfl, dk⟩ := rep_dk m r1
    refine .inr ⟨a, _, rfl, .inl dk.at_, fun p hp => ?_⟩
    rw [kz_vals dk.len]
    exact k _ _ _ h (Full.new hp).ext (W.keep _ _ m.wi (Full.new hp)) (m.newL hp (strs_of _))
def joinD : D → D → (D → Prop) → Prop
  | .str a, .lst xs, P => ∃ ys : List Str, xs = ys.map D.str ∧ (ys.map (·.length)).sum + ys.length * a.length ≤ 16777216 ∧ P (.str (Txt.join a ys))
  | .str a, .tup xs, P => ∃ ys : List Str, xs = ys.map D.str ∧ (ys.map (·.length)).sum + ys.length * a.length ≤ 16777216 ∧ P (.str (Txt.join a ys))
  | _, _, _ => False
def isStr : D → Bool
  | .str _ => true
  | _ => false
def wM1 (f : D → D → (D → Prop) → Prop) (wa wb : WE) : WE := fun ds P => wa ds fun x => isStr x = true ∧ wb ds fun y => f x y P
theorem ve_m1 {o e c : Expr} {wa wb : WE} {f : D → D → (D → Prop) → Prop} {r : V → List V → Hp → VK → Prop} (h : PE X c (tM1 r (LE X.K W wa) (LE X.K W wb))) (hf : LiftOp X.K W f (fun x y H Q => r x [y] H Q)) : VE X W c (wM1 f wa wb) := by
  refine pe_imp h fun σ H Q h => ?_
  obtain ⟨M0, H0, oa, ds, P, S, hw, k⟩ := h
  refine ⟨M0, H0, oa, ds, _, S, hw, fun x v H1 hx e1 i1 r1 => ?_⟩
  have S1 := S.step e1 i1
  obtain ⟨hs, hx⟩ := hx
  refine ⟨?_, M0, H0, oa, ds, _, S1, hx, fun y u H2 hy e2 i2 r2 => ?_⟩
  · cases x <;> first | exact ⟨_, r1.str⟩ | cases hs
  · have S2 := S1.step e2 i2
    exact hf (Mx M0 oa) H2 x y v u P Q S2.mok (r1.ext S1.mok e2) r2 hy fun d z H' hp e i r => k d z H' hp ((e1.trans e2).trans e) i r
theorem lift_join : LiftOp K W joinD (fun x y H Q => ∃ a p, ∃ ys : List Str, x = .str a ∧ [y] = [.ref p] ∧ (SqL K H p (ys.map V.str) ∨ SqT K H p (ys.map V.str)) ∧
      (ys.map (·.length)).sum + ys.length * a.length ≤ 16777216 ∧ Q (.str (Txt.join a ys)) H) := by
  intro M H x y v u P Q m r1 r2 h k
  cases x <;> cases y <;> first
    | exact h.elim
    | (rename_i s ds
       obtain ⟨ys, rfl, h1, h2⟩ := h
       first
         | (obtain ⟨a, us, rfl, t, q⟩ := r2.lst
            have e := q.strs
            subst e
            exact ⟨s, a, ys, r1.str, rfl, .inl t.sq, h1, k _ _ H h2 (Ext.refl H) m.wi rep_str⟩)
         | (obtain ⟨a, us, rfl, t, q⟩ := r2.tup
            have e := q.strs
            subst e
            exact ⟨s, a, ys, r1.str, rfl, .inr t.sq, h1, k _ _ H h2 (Ext.refl H) m.wi rep_str⟩))
theorem ve_join {o e : Expr} {apos pos : Pos} {wa wb : WE} (ho : VE X W o wa) (he : VE X W e wb) (hs : starEach [e] X.env = [(false, eval e X.env)] := by rfl) (hbase : attributeBase o "join" X.env (eval o X.env) = eval o X.env := by rfl) (hline : (apos.endLine == pos.line) = true := by rfl) :
    VE X W (.Call (.Attribute o "join" apos) [e] [] pos) (wM1 joinD wa wb) := ve_m1 (o := o) (e := e) (pe_join ho he hs hbase hline) lift_join
end
end VL
set_option Elab.async false
set_option linter.all false
set_option maxRecDepth 100000
set_option maxHeartbeats 2000000
namespace VL
open PySem PySem.Spec PyProof.Rows L2
section
variable {X : Cx} {W : Wd} {K : PySem.W.Frag} {e : Expr} {pos p : Pos}
theorem vt_fz (i : Nat) {t : WT} (h : VT X W e t) : VT X W e (fun ds P => t (fz i ds) P) := pt_imp h fun σ H Q ⟨M0, H0, oa, ds, P, S, hw, k⟩ => by
  obtain ⟨oa', S'⟩ := S.fz i
  exact ⟨M0, H0, oa', _, P, S', hw, k⟩
def lsS : Sl → (List D → Prop) → Prop
  | .ml xs, P => P xs
  | .d (.lst xs), P => P xs
  | _, _ => False
theorem Sat.ls {M0 : Addr → Prop} {H0 H : Hp} {oa : Nat → AS} {σ : L2.St} {ds : List Sl} (S : Sat K W M0 H0 oa H σ ds) {i : Nat} {P : List D → Prop} (h : lsS (ds.getD i .un) P) :
    ∃ l a xs, P l ∧ σ[i]? = some (some (.ref a)) ∧ (∀ H', Ext W H H' → SqL K H' a xs) ∧ Reps K (Mx M0 oa) H l xs := by
  rw [List.getD_eq_getElem?_getD] at h
  cases e : ds[i]? with
  | none => rw [e] at h; exact h.elim
  | some s =>
    rw [e] at h
    cases s with
    | un => exact h.elim
    | md ks l => exact h.elim
    | mi a C ks l => exact h.elim
    | ow t => exact h.elim
    | ml l =>
      obtain ⟨a, xs, e1, e2, e3, r⟩ := S.slot i _ e
      exact ⟨l, a, xs, h, e2, fun H' ex => SqL.of (ex a _ (S.own_nA (i := i) (by rw [e1]; rfl)) e3), r⟩
    | d x =>
      cases x with
      | lst l =>
        obtain ⟨_, v, e1, r⟩ := S.slot i _ e
        obtain ⟨a, xs, rfl, t, r2⟩ := r.lst
        exact ⟨l, a, xs, h, e1, fun H' ex => (t.car (S.mok.car ex)).sq, r2⟩
      | _ => exact h.elim
def wStar (w : WE) (l : WL) : WL := fun ds P => w ds fun d => seqD d fun xs => l ds fun ys => P (xs ++ ys)
theorem va_star {es : List Expr} {w : WE} {l : WL} {sp : Pos} (he : VE X W e w) (hr : VA X W es l) (hs : starEach (.Starred e sp :: es) X.env = (true, eval e X.env) :: starEach es X.env := by rfl) : VA X W (.Starred e sp :: es) (wStar w l) := by
  refine pa_imp (StX.pa_star he hr hs) fun σ H Q h => ?_
  obtain ⟨M0, H0, oa, ds, P, S, hw, k⟩ := h
  refine ⟨M0, H0, oa, ds, _, S, hw, fun d v H1 hd e1 i1 r1 => ?_⟩
  obtain ⟨xs, a, vs, hp, rfl, hq, rr⟩ := seqD_of hd r1
  have S1 := S.step e1 i1
  exact ⟨a, vs, rfl, hq.symm, M0, H0, oa, ds, _, S1, hp, fun ys us H2 hp2 e2 i2 r2 => k _ _ H2 hp2 (e1.trans e2) i2 ((rr.ext S1.mok e2).app r2)⟩
theorem ve_callD {CX : CXT} {k : Nat} {f : Addr} {fd : FuncData} {ps : List Str} {g : List D → (D → Prop) → Prop} {dvs : List V} {dds : List D} {es : List Expr} {x : Str} {l : WL} {E : XK}
    (F : FnOk X.prog X.w X.K X.mg X.base CX k f fd ps (spD X.K W g)) (hr : Room k X.A) (hg : Gl X x) (hm : X.mg x = some (.ref f)) (hk : PySem.W.keepIn X.K (.ref f) = true) (hb : ∃ ds, Vals dvs ds ∧ Binds X.K fd ps ds) (hx : Passes CX X E) (hdd : ∀ M H, Reps X.K M H dds dvs)
    (ha : VA X W (e :: es) l) (hdb : (x == ("__debug__" : Str)) = false := by decide) (he : starEach (e :: es) X.env = (false, eval e X.env) :: starEach es X.env := by rfl) (hpl : (backTo pos (starEach es X.env)).any (·.1) = false := by rfl) :
    VE X W (.Call (.Name x p) (e :: es) [] pos) (wCall (fun xs P => g (xs ++ dds) P) l) := by
  obtain ⟨ds, h1, h2⟩ := hb
  exact ve_call F hr hg hm hk h2 h1 hx hdd ha hdb he hpl
theorem vfnD {P : Program} {w : World} {mg : Str → Option Value} {base : Heap} {x qual : Str} {st : Stmt} {f : Addr} {fd : FuncData} {N ps : List Str} {dvs : List V} {kws : List (Str × V)} {k : Nat} {g : List D → (D → Prop) → Prop}
    (F : FunD K x qual (defArgs st) (defBody st) (defScope st) dvs kws f fd) (S : FnScope N ps (defScope st))
    (len : ∀ ds P, g ds P → ds.length = ps.length)
    (hb : ∃ wb : WS, (∀ (cdv : Value) (A : Around) (outer : List Env) (s : Shared) (H : Hp) (E : XK), Room k (A.deeper (envOfC qual (defScope st) s.heap.objs.size f cdv)) → VSs (cxOf CX0 P w K mg base N qual (defScope st) f cdv A outer s H E).nox W.pl (defBody st) wb) ∧
      ∀ ds Q, g ds Q → wb (endsD Q) (startD N ds)) : FnOk P w K mg base CX0 (k + 1) f fd ps (spD K W g) := by
  obtain ⟨wb, h1, h2⟩ := hb
  refine F.ok S (fun vs H Q E h => ?_) (fun cdv A outer s H vs Q E hr h => ⟨LS K W.pl wb, (h1 cdv A outer s H E hr).nox, ?_⟩)
  · obtain ⟨M, ds, P, m, r, hg, _⟩ := h
    rw [r.len, len ds P hg]
  · obtain ⟨M, ds, P, m, r, hg, k⟩ := h
    have hl : ds.length ≤ N.length := by
      have q := congrArg List.length S.pre
      rw [List.length_take] at q
      rw [len ds P hg]
      omega
    refine ⟨M, H, fun _ => no1, startD N ds, endsD P, sat_start (W := W.pl) ⟨m.wm, m.live, m.wi, m.nb, m.nx⟩ r hl (fun _ z => z.elim) (fun _ _ _ z => by cases z), h2 ds P hg, fun ds' oa' σ' H' hn S' => ?_, fun d v H' hd e i r' => k d v H' hd e i r', fun _ _ _ _ z => z.elim, fun _ _ _ _ z => z.elim, fun _ _ _ _ _ _ z => z.elim⟩
    exact k .non .non H' hn S'.ext S'.wi rep_non
abbrev VK (X : Cx) (W : Wd) (es : List Keyword) (w : WL) : Prop := PK X es (LA X.K W w)
end
section
variable {X : Cx} {W : Wd} {e : Expr} {pos : Pos}
end
end VL
set_option Elab.async false
set_option linter.all false
set_option maxRecDepth 100000
set_option maxHeartbeats 2000000
namespace VL
open PySem PySem.Spec PyProof.Rows L2
inductive Kz | l | t
def SqK (k : Kz) (K : PySem.W.Frag) (H : Hp) (a : Addr) (xs : List V) : Prop := match k with
  | .l => SqL K H a xs
  | .t => SqT K H a xs
def IsK (k : Kz) (h : Heap) (a : Addr) (its : Array Value) : Prop := match k with
  | .l => h.IsList a its
  | .t => h.IsTuple a its
def IterK (k : Kz) (h : Heap) (it a : Addr) (i : Nat) : Prop := match k with
  | .l => h.IsListIter it a i
  | .t => h.IsTupleIter it a i
theorem drawsK {prog : Program} {w : World} {A : Around} (k : Kz) (hh : A.handled = none) (it a : Addr) (hne : a ≠ it) (items : Array Value) :
    Draws prog w A it [it, a] items.size (fun i v => items[i]? = some v) (fun i h => IterK k h it a i ∧ IsK k h a items) := by
  cases k with
  | l => exact Draws.list hh it a hne items
  | t => exact Draws.tuple hh it a hne items
def itObj (k : Kz) (a : Addr) : Obj := match k with
  | .l => { cls := .type "list_iterator", data := .fields #[.ref a, .int 0 0] }
  | .t => { cls := .type "tuple_iterator", data := .fields #[.ref a, .int 0 0] }
theorem beginsK (k : Kz) (a : Addr) (items : Array Value) : Begins (.ref a) (itObj k a) fun h => IsK k h a items := by
  cases k with
  | l => exact begins_list a items
  | t => exact begins_tuple a items
theorem iterK0 {k : Kz} {h : Heap} {it a : Addr} (e : h.get? it = some (itObj k a)) : IterK k h it a 0 := by
  cases k with
  | l => exact ⟨_, e, rfl, rfl⟩
  | t => exact ⟨_, e, rfl, rfl⟩
theorem IterK.at {k : Kz} {h h' : Heap} {it a : Addr} {i : Nat} (x : IterK k h it a i) (c : ∀ o, h.get? it = some o → h'.get? it = some o) : IterK k h' it a i := by
  cases k with
  | l => exact Heap.IsListIter.at x c
  | t => exact Heap.IsTupleIter.at x c
theorem IterK.obj {k : Kz} {h : Heap} {it a : Addr} {i : Nat} (x : IterK k h it a i) : ∃ o, h.get? it = some o ∧ ∀ v, o.data ≠ .cell v := by
  cases k with
  | l => obtain ⟨o, e, _, d⟩ := x; exact ⟨o, e, fun v q => by rw [d] at q; cases q⟩
  | t => obtain ⟨o, e, _, d⟩ := x; exact ⟨o, e, fun v q => by rw [d] at q; cases q⟩
section
variable {X : Cx} {pins : List (Addr × Obj)} {σ : L2.St} {H : Hp} {s : Shared} {a : Addr} {xs ys : List V} {k : Kz}
theorem seqK (I : Inv X pins σ H s) (h : SqK k X.K H a xs) : ∃ its : List Value, Vals xs its ∧ IsK k s.heap a its.toArray ∧ a < s.heap.objs.size := by
  cases k with
  | l =>
    obtain ⟨its, r, p, _⟩ := I.list h
    exact ⟨its, r, p.isList, p.lt⟩
  | t =>
    obtain ⟨its, r, p, _⟩ := I.tuple h
    obtain ⟨o, ho, _⟩ := id p
    exact ⟨its, r, p, Heap.lt_size ho⟩
theorem seqK_inj (I : Inv X pins σ H s) (h : SqK k X.K H a xs) (h' : SqK k X.K H a ys) : xs = ys := by
  cases k with
  | l => exact I.list_inj h h'
  | t => exact I.tuple_inj h h'
end
def ItzK (K : PySem.W.Frag) (k1 k2 : Kz) (a b : Addr) : It :=
  ⟨fun i H => ∃ (xs ys : List V) (x y : V), SqK k1 K H a xs ∧ SqK k2 K H b ys ∧ xs[i]? = some x ∧ ys[i]? = some y,
    fun i H v H' => ∃ T x y, v = .ref T ∧ H T = none ∧ H' = upd H T (.tup [x, y]) ∧ (∀ xs, SqK k1 K H a xs → xs[i]? = some x) ∧ ∀ ys, SqK k2 K H b ys → ys[i]? = some y,
    fun i H => ∃ xs ys : List V, SqK k1 K H a xs ∧ SqK k2 K H b ys ∧ (xs.length = i ∧ i ≤ ys.length ∨ ys.length = i ∧ i ≤ xs.length)⟩
structure Apart (z TI TO i1 i2 a b : Addr) : Prop where
  TIz : TI ≠ z
  TOz : TO ≠ z
  TITO : TI ≠ TO
  TIi1 : TI ≠ i1
  TIi2 : TI ≠ i2
  zi1 : z ≠ i1
  zi2 : z ≠ i2
  TOi1 : TO ≠ i1
  TOi2 : TO ≠ i2
  i12 : i1 ≠ i2
  za : z ≠ a
  zb : z ≠ b
  TOa : TO ≠ a
  TOb : TO ≠ b
  ai1 : a ≠ i1
  ai2 : a ≠ i2
  bi1 : b ≠ i1
  bi2 : b ≠ i2
theorem apart_of (n a b : Nat) (l1 : a < n) (l2 : b < n) : Apart (n + 4) (n + 2) (n + 3) n (n + 1) a b := by
  constructor <;> (show ¬ (_ : Nat) = _; omega)
theorem Apart.sep {z TI TO i1 i2 a b : Addr} (D : Apart z TI TO i1 i2 a b) : ZipSep2 z TI TO i1 i2 [i1, a] [i2, b] where
  TIz := D.TIz
  TOz := D.TOz
  TITO := D.TITO
  TIi1 := D.TIi1
  mem1 := by simp
  zf1 := by simp [D.zi1, D.za]
  Tf1 := by simp [D.TOi1, D.TOa]
  TIi2 := D.TIi2
  mem2 := by simp
  zf2 := by simp [D.zi2, D.zb]
  Tf2 := by simp [D.TOi2, D.TOb]
  sep1_2 := by simp [D.i12, Ne.symm D.bi1]
  sep2_1 := by simp [Ne.symm D.i12, Ne.symm D.ai2]
theorem turn_zipK {P : Program} {w : World} {K : PySem.W.Frag} {elts : List Expr} {kk : Nat} {tpos : Pos} {k1 k2 : Kz} {a b z TI TO i1 i2 : Addr} (D : Apart z TI TO i1 i2 a b) :
    Turn P w K (.Tuple elts kk tpos) (ItzK K k1 k2 a b) [z, TI, TO, i1, i2] z (fun i h => IsZip h z TI TO .none ∧ IsTupOf2 h TI (.ref i1) (.ref i2) ∧ (∃ x y, IsTupOf2 h TO x y) ∧ IterK k1 h i1 a i ∧ IterK k2 h i2 b i) where
  mem := by simp
  obj := fun i h st c hc => by
    obtain ⟨hz, hTI, ⟨x, y, hTO⟩, h1, h2⟩ := st
    obtain ⟨o1, e1, d1⟩ := h1.obj
    obtain ⟨o2, e2, d2⟩ := h2.obj
    have e' : c = z ∨ c = TI ∨ c = TO ∨ c = i1 ∨ c = i2 := by simpa using hc
    rcases e' with q | q | q | q | q
    · rw [q]; exact ⟨_, hz, fun v q => nomatch q⟩
    · rw [q]; exact ⟨_, hTI, fun v q => nomatch q⟩
    · rw [q]; exact ⟨_, hTO, fun v q => nomatch q⟩
    · rw [q]; exact ⟨o1, e1, d1⟩
    · rw [q]; exact ⟨o2, e2, d2⟩
  keep := fun i h h' st k => by
    obtain ⟨hz, hTI, ⟨x, y, hTO⟩, h1, h2⟩ := st
    exact ⟨k z (by simp) _ hz, k TI (by simp) _ hTI, ⟨x, y, k TO (by simp) _ hTO⟩, h1.at fun o q => k i1 (by simp) o q, h2.at fun o q => k i2 (by simp) o q⟩
  item := by
    intro X hP hw hK hc i pins s σ H E I hf st hg
    subst hP hw hK
    obtain ⟨hz, hTI, ⟨x0, y0, hTO⟩, h1, h2⟩ := st
    obtain ⟨xs, ys, x, y, hqx, hqy, hx, hy⟩ := hg
    obtain ⟨its, rv, p, _⟩ := seqK I hqx
    obtain ⟨its2, rv2, p2, _⟩ := seqK I hqy
    obtain ⟨u, hu, ru⟩ := rv.get hx
    obtain ⟨u2, hu2, ru2⟩ := rv2.get hy
    have hzl : z < s.heap.objs.size := Heap.lt_size hz
    have hh : X.A.in1.handled = none := I.ok.hd hc
    have lt1 : i < its.toArray.size := by rw [List.size_toArray]; exact (List.getElem?_eq_some_iff.mp hu).1
    have lt2 : i < its2.toArray.size := by rw [List.size_toArray]; exact (List.getElem?_eq_some_iff.mp hu2).1
    refine wpAny_pyNext_zipD2_item D.sep (drawsK k1 hh i1 a D.ai1 its.toArray) (drawsK k2 hh i2 b D.bi2 its2.toArray) hz hTI hTO ⟨h1, p⟩ ⟨h2, p2⟩ lt1 lt2 fun v1 v2 h' tk y1 y2 z' TO' st1 st2 hT hsz hk => ?_
    obtain rfl : u = v1 := by
      have : some u = some v1 := by rw [← y1]; simpa using hu.symm
      exact Option.some.inj this
    obtain rfl : u2 = v2 := by
      have : some u2 = some v2 := by rw [← y2]; simpa using hu2.symm
      exact Option.some.inj this
    obtain ⟨h1', _⟩ := st1
    obtain ⟨h2', _⟩ := st2
    refine ⟨_, rfl, wpAny_letOwnedTupleGo_zip (s := { s with heap := h', toks := tk }) z' fun h'' z'' sb => ?_⟩
    have hT2 : h''.get? s.heap.objs.size = some { cls := .type "tuple", data := .seq #[u, u2] } := (sb.2 _ (Nat.ne_of_gt hzl)).trans hT
    have new : ObjOk X.prog X.w (upd H s.heap.objs.size (.tup [x, y])) h'' s.heap.objs.size (.tup [x, y]) :=
      ⟨by show 2 ≤ sizeLine; decide, [u, u2], .cons ru (.cons ru2 .nil), ⟨_, hT2, rfl, _, rfl⟩⟩
    have I1 : Inv X pins σ (upd H s.heap.objs.size (.tup [x, y])) { s with heap := h'', toks := tk } :=
      I.turnedNew (t' := tk) (ch := [z, TI, TO, i1, i2]) (fun c o hb q => (sb.2 c (fun q' => hb (by simp [q']))).trans (hk c o (fun q' => hb (by simp [q'])) (fun q' => hb (by simp [q'])) (fun q' => hb (by simp [q'])) (fun q' => hb (by simp [q'])) q)) hf (Nat.le_refl _) new
    refine ⟨.ref s.heap.objs.size, _, I1, rfl, ⟨_, x, y, rfl, I.hok.fresh (Nat.le_refl _), rfl, fun l hl => by rw [seqK_inj I hl hqx]; exact hx, fun l hl => by rw [seqK_inj I hl hqy]; exact hy⟩, ⟨z'', ?_, ⟨u, u2, ?_⟩, ?_, ?_⟩, fun c hcm => ?_⟩
    · exact (sb.2 _ D.TIz).trans (hk _ _ D.TIz D.TITO D.TIi1 D.TIi2 hTI)
    · exact (sb.2 _ D.TOz).trans TO'
    · exact h1'.at fun o q => (sb.2 _ (Ne.symm D.zi1)).trans q
    · exact h2'.at fun o q => (sb.2 _ (Ne.symm D.zi2)).trans q
    · have hlt : c < s.heap.objs.size := by
        have e' : c = z ∨ c = TI ∨ c = TO ∨ c = i1 ∨ c = i2 := by simpa using hcm
        rcases e' with q | q | q | q | q
        · rw [q]; exact hzl
        · rw [q]; exact Heap.lt_size hTI
        · rw [q]; exact Heap.lt_size hTO
        · rw [q]; obtain ⟨_, e1, _⟩ := h1.obj; exact Heap.lt_size e1
        · rw [q]; obtain ⟨_, e2, _⟩ := h2.obj; exact Heap.lt_size e2
      rw [upd_ne (Nat.ne_of_lt hlt)]
      exact (hf c hcm).1
  done := by
    intro X hP hw hK hc i pins s σ H E I hf st hg
    subst hP hw hK
    obtain ⟨hz, hTI, ⟨x0, y0, hTO⟩, h1, h2⟩ := st
    obtain ⟨xs, ys, hqx, hqy, hend⟩ := hg
    obtain ⟨its, rv, p, _⟩ := seqK I hqx
    obtain ⟨its2, rv2, p2, _⟩ := seqK I hqy
    have l1 : xs.length = its.toArray.size := by rw [List.size_toArray]; exact rv.length
    have l2 : ys.length = its2.toArray.size := by rw [List.size_toArray]; exact rv2.length
    have hh : X.A.in1.handled = none := I.ok.hd hc
    refine wpAny_pyNext_zipD2_end D.sep (drawsK k1 hh i1 a D.ai1 its.toArray) (drawsK k2 hh i2 b D.bi2 its2.toArray) hz hTI hTO ⟨h1, p⟩ ⟨h2, p2⟩ (by omega) (by omega) (by omega) fun h' tk hk => ⟨rfl, I.turnedL (t' := tk) (ch := [z, TI, TO, i1, i2]) (fun c o hb q =>
      hk c o (fun q' => hb (by simp [q'])) (fun q' => hb (by simp [q'])) (fun q' => hb (by simp [q'])) (fun q' => hb (by simp [q'])) q) hf⟩
  self := fun A i s Q E st h => wpAny_pyIter_zip st.1 h
def iZipK (K : PySem.W.Frag) (ta : TA) : TI := fun σ H R => ta σ H fun vs H1 => ∃ k1 k2 a b xs ys, vs = [.ref a, .ref b] ∧ SqK k1 K H1 a xs ∧ SqK k2 K H1 b ys ∧ R (ItzK K k1 k2 a b) H1
theorem pi_zipK {X : Cx} {e e2 : Expr} {ta : TA} {p pos tpos : Pos} {elts : List Expr} {kk : Nat} (hg : Gl X "zip") (hm : X.mg "zip" = none) (ha : PA X [e, e2] ta)
    (hs : starEach [e, e2] X.env = (false, eval e X.env) :: starEach [e2] X.env := by rfl) (hpl : (backTo pos (starEach [e2] X.env)).any (·.1) = false := by rfl) :
    PI X (.Tuple elts kk tpos) (.Call (.Name "zip" p) [e, e2] [] pos) (iZipK X.K ta) := by
  refine ⟨fun pins s σ H R I h => ?_⟩
  refine Call_ (ld_blt I hg hm PyProof.Rows.boot_zip (PyProof.Rows.callWith_type1 (thn (ha.run pos pins s σ H _ I h) fun us s1 ⟨vs, H1, I1, r1, q1⟩ => ?_) hs hpl))
  obtain ⟨k1, k2, a, b, xs, ys, ex, hqx, hqy, q⟩ := q1
  subst ex
  cases r1 with
  | cons r rr =>
    cases rr with
    | cons r' rr =>
      cases rr
      cases r
      cases r'
      have fresh5 : ∀ c, c ∈ [s1.heap.objs.size + 4, s1.heap.objs.size + 2, s1.heap.objs.size + 3, s1.heap.objs.size, s1.heap.objs.size + 1] → FpOk X pins H1 c := fun c hcm => by
        have e' : c = s1.heap.objs.size + 4 ∨ c = s1.heap.objs.size + 2 ∨ c = s1.heap.objs.size + 3 ∨ c = s1.heap.objs.size ∨ c = s1.heap.objs.size + 1 := by simpa using hcm
        have hle : s1.heap.objs.size ≤ c := by
          rcases e' with z | z | z | z | z
          · rw [z]; exact Nat.le_add_right _ _
          · rw [z]; exact Nat.le_add_right _ _
          · rw [z]; exact Nat.le_add_right _ _
          · rw [z]; exact Nat.le_refl _
          · rw [z]; exact Nat.le_add_right _ _
        exact I1.fpOk hle (I1.hok.fresh hle)
      obtain ⟨its, rv, p1, lt1⟩ := seqK I1 hqx
      obtain ⟨its2, rv2, p2, lt2⟩ := seqK I1 hqy
      refine zip_begins2 (beginsK k1 a its.toArray) (beginsK k2 b its2.toArray) p1 p2 fun h' hz hTI hTO h1 h2 hsz hk => wpAny_pyIter_zip hz ?_
      have I2 : Inv X pins σ H1 { s1 with heap := h' } := I1.kept (t' := s1.toks) hk
      have ap := apart_of s1.heap.objs.size a b lt1 lt2
      exact ⟨s1.heap.objs.size + 4, [s1.heap.objs.size + 4, s1.heap.objs.size + 2, s1.heap.objs.size + 3, s1.heap.objs.size, s1.heap.objs.size + 1], _, _, H1, rfl, I2, turn_zipK ap, ⟨hz, hTI, ⟨_, _, hTO⟩, iterK0 h1, iterK0 h2⟩, fresh5, q⟩
section
variable {K : PySem.W.Frag} {W : Wd} {M : Addr → Prop} {H1 : Hp}
def SeqM (k : Kz) (K : PySem.W.Frag) (M : Addr → Prop) (H : Hp) (a : Addr) (xs : List V) : Prop := match k with
  | .l => LstM K M H a xs
  | .t => TupM K M H a xs
theorem SeqM.sq {k : Kz} {a : Addr} {xs : List V} (h : SeqM k K M H1 a xs) : SqK k K H1 a xs := by
  cases k with
  | l => exact LstM.sq h
  | t => exact TupM.sq h
theorem SeqM.car {k : Kz} {M' : Addr → Prop} {H' : Hp} {a : Addr} {xs : List V} (c : Car M M' H1 H') (h : SeqM k K M H1 a xs) : SeqM k K M' H' a xs := by
  cases k with
  | l => exact LstM.car c h
  | t => exact TupM.car c h
theorem itok_zk {k1 k2 : Kz} {a b : Addr} {xs ys : List V} {ds es : List D} (t : SeqM k1 K M H1 a xs) (r : Reps K M H1 ds xs) (t' : SeqM k2 K M H1 b ys) (r' : Reps K M H1 es ys) : ItOk K W M H1 (ItzK K k1 k2 a b) (zipsD ds es) := fun M2 H2 c m => by
  have u1 := (t.car c).sq
  have u2 := (t'.car c).sq
  refine ⟨fun i hi => ?_, fun i hi hi2 => ⟨xs, ys, u1, u2, ?_⟩, fun i d x H3 hd hy => ?_⟩
  · rw [zips_len] at hi
    obtain ⟨x, hx⟩ := get_lt (xs := xs) (i := i) (by rw [r.len]; omega)
    obtain ⟨y, hy⟩ := get_lt (xs := ys) (i := i) (by rw [r'.len]; omega)
    exact ⟨xs, ys, x, y, u1, u2, hx, hy⟩
  · rw [zips_len] at hi hi2
    rw [r.len, r'.len]
    omega
  · obtain ⟨T, x', y', rfl, hT, rfl, g1, g2⟩ := hy
    obtain ⟨dx, dy, h1, h2, rfl⟩ := zips_get hd
    obtain ⟨v1, hv1, rv1⟩ := r.get h1
    obtain ⟨v2, hv2, rv2⟩ := r'.get h2
    have q1 := g1 xs u1
    have q2 := g2 ys u2
    rw [hv1] at q1
    rw [hv2] at q2
    cases q1
    cases q2
    exact ⟨Full.new hT, m.newT hT (reps_cons (rv1.car c) (reps_cons (rv2.car c) reps_nil))⟩
def zipK : D → D → (List D → Prop) → Prop
  | .lst xs, .lst ys, P => xs.length ≤ 1000000 ∧ P (zipsD xs ys)
  | .tup xs, .tup ys, P => xs.length ≤ 1000000 ∧ P (zipsD xs ys)
  | .lst xs, .tup ys, P => xs.length ≤ 1000000 ∧ P (zipsD xs ys)
  | .tup xs, .lst ys, P => xs.length ≤ 1000000 ∧ P (zipsD xs ys)
  | _, _, _ => False
theorem zipK_of {x y : D} {v u : V} {P : List D → Prop} (h : zipK x y P) (r1 : Rep K M H1 x v) (r2 : Rep K M H1 y u) :
    ∃ k1 k2 a b xs ys ds es, v = .ref a ∧ u = .ref b ∧ SeqM k1 K M H1 a xs ∧ SeqM k2 K M H1 b ys ∧ Reps K M H1 ds xs ∧ Reps K M H1 es ys ∧ ds.length ≤ 1000000 ∧ P (zipsD ds es) := by
  cases x <;> cases y <;> first
    | exact h.elim
    | (obtain ⟨a, vs, rfl, t, q⟩ := r1.lst; obtain ⟨b, us, rfl, t', q'⟩ := r2.lst; exact ⟨.l, .l, a, b, vs, us, _, _, rfl, rfl, t, t', q, q', h.1, h.2⟩)
    | (obtain ⟨a, vs, rfl, t, q⟩ := r1.tup; obtain ⟨b, us, rfl, t', q'⟩ := r2.tup; exact ⟨.t, .t, a, b, vs, us, _, _, rfl, rfl, t, t', q, q', h.1, h.2⟩)
    | (obtain ⟨a, vs, rfl, t, q⟩ := r1.lst; obtain ⟨b, us, rfl, t', q'⟩ := r2.tup; exact ⟨.l, .t, a, b, vs, us, _, _, rfl, rfl, t, t', q, q', h.1, h.2⟩)
    | (obtain ⟨a, vs, rfl, t, q⟩ := r1.tup; obtain ⟨b, us, rfl, t', q'⟩ := r2.lst; exact ⟨.t, .l, a, b, vs, us, _, _, rfl, rfl, t, t', q, q', h.1, h.2⟩)
def wZipK (wa wb : WE) : WI := fun ds P => wa ds fun x => wb ds fun y => zipK x y P
theorem vi_zipK {X : Cx} {e e2 : Expr} {wa wb : WE} {p pos tpos : Pos} {elts : List Expr} {kk : Nat} (hg : Gl X "zip") (hm : X.mg "zip" = none) (ha : VE X W e wa) (hb : VE X W e2 wb)
    (hs : starEach [e, e2] X.env = (false, eval e X.env) :: starEach [e2] X.env := by rfl) (hpl : (backTo pos (starEach [e2] X.env)).any (·.1) = false := by rfl) (hs2 : starEach [e2] X.env = (false, eval e2 X.env) :: starEach [] X.env := by rfl) :
    VI X W (.Tuple elts kk tpos) (.Call (.Name "zip" p) [e, e2] [] pos) (wZipK wa wb) := by
  refine pi_imp (pi_zipK hg hm (pa_cons ha (pa_cons hb pa_nil hs2) hs) hs hpl) fun σ H R h => ?_
  obtain ⟨M0, H0, oa, ds, P, S, hw, k⟩ := h
  refine ⟨M0, H0, oa, ds, _, S, hw, fun x v H1 hx e1 i1 r1 => ?_⟩
  have S1 := S.step e1 i1
  refine ⟨M0, H0, oa, ds, _, S1, hx, fun y u H2 hy e2 i2 r2 => ?_⟩
  have r1' := r1.ext S1.mok e2
  obtain ⟨k1, k2, a, b, xs, ys, es, fs, rfl, rfl, t, t', q, q', hl, hp⟩ := zipK_of hy r1' r2
  exact ⟨k1, k2, a, b, xs, ys, rfl, t.sq, t'.sq, k _ _ H2 hp (by rw [zips_len, sizeLine_eq]; omega) (e1.trans e2) i2 (itok_zk t q t' q')⟩
end
section
variable {K : PySem.W.Frag} {W : Wd} {X : Cx}
theorem reps_rep {M : Addr → Prop} {H : Hp} {ds : List D} {vs : List V} (r : Reps K M H ds vs) : ∀ n : Nat, Reps K M H (List.replicate n ds).flatten (List.replicate n vs).flatten
  | 0 => reps_nil
  | n + 1 => by
    rw [List.replicate_succ, List.replicate_succ, List.flatten_cons, List.flatten_cons]
    exact r.app (reps_rep r n)
def wRep (l : WL) (wb : WE) : WE := fun ds P => l ds fun xs => xs.length ≤ 1000000 ∧ wb ds fun y => asInt y fun k => -1000000 ≤ k ∧ k ≤ 1000000 ∧ xs.length * k.toNat ≤ 1000000 ∧ P (.lst (List.replicate k.toNat xs).flatten)
theorem ve_rep {es : List Expr} {b : Expr} {l : WL} {wb : WE} {lp pos : Pos} (hl : VA X W es l) (hb : VE X W b wb) : VE X W (.BinOp (.List es lp) .Mult b pos) (wRep l wb) := by
  refine pe_imp (pe_op op_rep (pe_lst hl) hb) fun σ H Q h => ?_
  obtain ⟨M0, H0, oa, ds, P, S, hw, k⟩ := h
  refine ⟨M0, H0, oa, ds, _, S, hw, fun xs vs H1 hx e1 i1 r1 => ⟨by rw [r1.len, sizeLine_eq]; have := hx.1; omega, fun p hp => ?_⟩⟩
  have S1 := S.step e1 i1
  have S2 := S1.full (Full.new (o := .lst vs) hp)
  have nA : ¬ W.A p := fun z => W.live _ _ i1 z hp
  refine ⟨M0, H0, oa, ds, _, S2, hx.2, fun y u H2 hy e2 i2 r2 => ?_⟩
  cases y <;> first | exact hy.elim | skip
  rename_i j
  obtain ⟨h0, h1, h2, hy⟩ := hy
  have hp2 : H2 p = some (.lst vs) := e2 p _ nA upd_same
  have S3 := S2.step e2 i2
  have r3 := ((r1.ext S1.mok (Full.new (o := .lst vs) hp).ext).ext S2.mok e2)
  refine ⟨p, j, vs, rfl, r2.int, hp2, by omega, by omega, by rw [r1.len, sizeLine_eq]; omega, fun q hq => ?_⟩
  exact k _ _ _ hy (((e1.trans (Full.new hp).ext).trans e2).trans (Full.new hq).ext) (W.keep _ _ i2 (Full.new hq)) (S3.mok.newL hq (reps_rep r3 _))
end
section
variable {X : Cx} {W : Wd} {pos : Pos}
end
end VL
set_option Elab.async false
set_option linter.all false
set_option maxRecDepth 100000
set_option maxHeartbeats 2000000
namespace VL
open PySem L2
def iabs (a : Int) : Int := if a < 0 then -a else a
theorem iabs_nonneg (a : Int) : 0 ≤ iabs a := by unfold iabs; split <;> omega
theorem iabs_eq (a : Int) : iabs a = (a.natAbs : Int) := by unfold iabs; split <;> omega
theorem gcd_abs (a b : Int) : Int.gcd (iabs a) (iabs b) = Int.gcd a b := by
  rw [iabs_eq, iabs_eq]
  rfl
theorem gcd_absl (a b : Int) : Int.gcd (iabs a) b = Int.gcd a b := by
  rw [iabs_eq]
  rfl
theorem gcd_step {a b : Int} (ha : 0 ≤ a) (hb : 0 ≤ b) : Int.gcd b (a.fmod b) = Int.gcd a b := by
  rw [Int.fmod_eq_emod_of_nonneg a hb]
  obtain ⟨n, rfl⟩ := Int.eq_ofNat_of_zero_le ha
  obtain ⟨m, rfl⟩ := Int.eq_ofNat_of_zero_le hb
  show Nat.gcd m (n % m) = Nat.gcd n m
  rw [Nat.gcd_comm m, ← Nat.gcd_rec, Nat.gcd_comm]
theorem gcd_zero {a : Int} (ha : 0 ≤ a) : ((Int.gcd a 0 : Nat) : Int) = a := by
  rw [Int.gcd_zero_right]
  omega
structure Amt (n : Nat) (a b : Int) : Prop where
  pos : 0 < b
  cop : Int.gcd a b = 1
  ha : a.natAbs < 2 ^ n
  hb : b.natAbs < 2 ^ n
theorem Amt.mono {m n : Nat} {a b : Int} (h : Amt m a b) (hmn : m ≤ n) : Amt n a b :=
  ⟨h.pos, h.cop, Nat.lt_of_lt_of_le h.ha (Nat.pow_le_pow_right (by decide) hmn), Nat.lt_of_lt_of_le h.hb (Nat.pow_le_pow_right (by decide) hmn)⟩
def ratK (t b : Int) : Int := if 0 < b then (Int.gcd t b : Int) else 0 - (Int.gcd t b : Int)
def ratT (t b : Int) : Int := t.fdiv (ratK t b)
def ratB (t b : Int) : Int := b.fdiv (ratK t b)
def ratD (t b : Int) : D := .tup [.int (ratT t b), .int (ratB t b)]
theorem gcd_pos_of {t b : Int} (h : b ≠ 0) : 0 < Int.gcd t b := Int.gcd_pos_of_ne_zero_right t h
theorem ratK_ne {t b : Int} (h : b ≠ 0) : ratK t b ≠ 0 := by
  have := gcd_pos_of (t := t) h
  unfold ratK
  split <;> omega
theorem ratK_abs (t b : Int) : (ratK t b).natAbs = Int.gcd t b := by
  unfold ratK
  split <;> omega
theorem ratK_le {t b : Int} (h : b ≠ 0) : (ratK t b).natAbs ≤ b.natAbs := by
  rw [ratK_abs]
  exact Nat.le_of_dvd (by omega) (Nat.gcd_dvd_right _ _)
theorem fdiv_of {t k x : Int} (hk : k ≠ 0) (h : t = k * x) : t.fdiv k = x := by rw [h]; exact Int.mul_fdiv_cancel_left x hk
theorem rat_parts {t b : Int} (h : b ≠ 0) : t = ratK t b * ratT t b ∧ b = ratK t b * ratB t b ∧ 0 < ratB t b ∧ Int.gcd (ratT t b) (ratB t b) = 1 := by
  have hg := gcd_pos_of (t := t) h
  have dt : ((Int.gcd t b : Nat) : Int) ∣ t := Int.gcd_dvd_left t b
  have db : ((Int.gcd t b : Nat) : Int) ∣ b := Int.gcd_dvd_right t b
  have hc := Int.gcd_ediv_gcd_ediv_gcd_of_ne_zero_right (n := t) h
  obtain ⟨t', ht⟩ := dt
  obtain ⟨b', hb⟩ := db
  have hg' : ((Int.gcd t b : Nat) : Int) ≠ 0 := by omega
  have et : t / ((Int.gcd t b : Nat) : Int) = t' := Int.ediv_eq_of_eq_mul_right hg' ht
  have eb : b / ((Int.gcd t b : Nat) : Int) = b' := Int.ediv_eq_of_eq_mul_right hg' hb
  rw [et, eb] at hc
  unfold ratT ratB ratK
  generalize hG : ((Int.gcd t b : Nat) : Int) = g at *
  have g0 : 0 < g := by omega
  by_cases hp : 0 < b
  · rw [if_pos hp]
    have h1 := fdiv_of hg' ht
    have h2 := fdiv_of hg' hb
    rw [h1, h2]
    refine ⟨ht, hb, ?_, hc⟩
    exact Int.pos_of_mul_pos_right (by rw [← hb]; exact hp) g0
  · rw [if_neg hp]
    have hn : (0 - g) ≠ 0 := by omega
    have ht2 : t = (0 - g) * (-t') := by rw [Int.zero_sub, Int.neg_mul_neg]; exact ht
    have hb2 : b = (0 - g) * (-b') := by rw [Int.zero_sub, Int.neg_mul_neg]; exact hb
    have h1 := fdiv_of hn ht2
    have h2 := fdiv_of hn hb2
    rw [h1, h2]
    refine ⟨ht2, hb2, ?_, by rw [Int.gcd_neg, Int.neg_gcd]; exact hc⟩
    have hb3 : 0 < g * (-b') := by rw [Int.mul_neg, ← hb]; omega
    exact Int.pos_of_mul_pos_right hb3 g0
theorem natAbs_le_of_mul {k x y : Int} (hk : k ≠ 0) (h : y = k * x) : x.natAbs ≤ y.natAbs := by
  rw [h, Int.natAbs_mul]
  have : 0 < k.natAbs := by omega
  exact Nat.le_mul_of_pos_left _ this
theorem rat_amt {n : Nat} {t b : Int} (h : b ≠ 0) (ht : t.natAbs < 2 ^ n) (hb : b.natAbs < 2 ^ n) : Amt n (ratT t b) (ratB t b) := by
  obtain ⟨h1, h2, h3, h4⟩ := rat_parts (t := t) h
  exact ⟨h3, h4, Nat.lt_of_le_of_lt (natAbs_le_of_mul (ratK_ne h) h1) ht, Nat.lt_of_le_of_lt (natAbs_le_of_mul (ratK_ne h) h2) hb⟩
theorem ratK_div {t b : Int} (h : b ≠ 0) (hb : b.natAbs < 2 ^ 9000) (x : Int) : CFdiv x (ratK t b) := by
  refine ⟨ratK_ne h, PySem.Flt.log2_lt_of (by decide) (Nat.lt_of_le_of_lt (ratK_le h) hb)⟩
theorem rat_self {t b : Int} (hp : 0 < b) (hc : Int.gcd t b = 1) : ratT t b = t ∧ ratB t b = b := by
  have e : ratK t b = 1 := by unfold ratK; rw [if_pos hp, hc]; rfl
  unfold ratT ratB
  rw [e, Int.fdiv_one, Int.fdiv_one]
  exact ⟨rfl, rfl⟩
def amt2 : D → D → Bool
  | .int a, .int b => decide (0 < b) && decide (Int.gcd a b = 1)
  | _, _ => false
def isAmt : D → Bool
  | .tup [x, y] => amt2 x y
  | _ => false
def isI (d : D) : Bool := isTy .int d && !isTy .bool d
theorem isI_cases (d : D) : (∃ i, d = .int i) ∨ isI d = false := by
  cases d with
  | int i => exact .inl ⟨i, rfl⟩
  | _ => exact .inr rfl
theorem amt2_l {a b : D} (h : isI a = false) : isAmt (.tup [a, b]) = false := by
  cases a with
  | int i => cases h
  | _ => rfl
theorem amt2_r {a b : D} (h : isI b = false) : isAmt (.tup [a, b]) = false := by
  cases b with
  | int i => cases h
  | _ => cases a <;> rfl
theorem amt2_int {i j : Int} (h : 0 < j) : isAmt (.tup [.int i, .int j]) = decide (((Int.gcd i j : Nat) : Int) = 1) := by
  show (decide (0 < j) && decide (Int.gcd i j = 1)) = _
  rw [decide_eq_true h, Bool.true_and]
  congr 1
  apply propext
  omega
theorem amt2_not {i j : Int} (h : ¬ 0 < j) : isAmt (.tup [.int i, .int j]) = false := by
  show (decide (0 < j) && decide (Int.gcd i j = 1)) = _
  rw [decide_eq_false h, Bool.false_and]
theorem amt_is {n : Nat} {a b : Int} (h : Amt n a b) : isAmt (.tup [.int a, .int b]) = true := by
  rw [amt2_int h.pos, h.cop]
  rfl
end VL
set_option Elab.async false
set_option linter.all false
set_option maxRecDepth 100000
set_option maxHeartbeats 2000000
namespace VL
open PySem L2
def abcS : Str := Str.ofString "abcdefghijklmnopqrstuvwxyz"
def abcL : List Nat := abcS.cps.toList
def nmS (s : Str) : Bool := decide (1 ≤ s.length) && decide (s.length ≤ 8) && s.cps.toList.all fun c => decide (c ∈ abcL)
def isName : D → Bool
  | .str s => nmS s
  | _ => false
def AmtD (n : Nat) (d : D) : Prop := ∃ a b, d = .tup [.int a, .int b] ∧ Amt n a b
theorem AmtD.mono {m n : Nat} {d : D} (h : AmtD m d) (hmn : m ≤ n) : AmtD n d := by
  obtain ⟨a, b, rfl, h⟩ := h
  exact ⟨a, b, rfl, h.mono hmn⟩
def zeroD : D := .tup [.int 0, .int 1]
def isZ : D → Bool
  | .tup [.int a, .int b] => decide (a = 0) && decide (b = 1)
  | _ => false
theorem zero_amt : AmtD 1 zeroD := ⟨0, 1, rfl, by decide, by decide, by decide, by decide⟩
theorem eqv_amt (a b c d : Int) : eqv (.tup [.int a, .int b]) (.tup [.int c, .int d]) = (decide (a = c) && decide (b = d)) := by
  show ((a == c) && ((b == d) && true)) = _
  rw [Bool.and_true]
  rfl
def plusD : D → D → D
  | .tup [.int a, .int b], .tup [.int c, .int d] => ratD (a * d + c * b) (b * d)
  | _, _ => .non
def timesD : D → D → D
  | .tup [.int a, .int b], .tup [.int c, .int d] => ratD (a * c) (b * d)
  | _, _ => .non
theorem mul_lt {a b : Int} {n m : Nat} (ha : a.natAbs < 2 ^ n) (hb : b.natAbs < 2 ^ m) : (a * b).natAbs < 2 ^ (n + m) := by
  rw [Int.natAbs_mul, Nat.pow_add]
  exact Nat.mul_lt_mul'' ha hb
theorem add_lt {a b : Int} {n : Nat} (ha : a.natAbs < 2 ^ n) (hb : b.natAbs < 2 ^ n) : (a + b).natAbs < 2 ^ (n + 1) := by
  have := Int.natAbs_add_le a b
  rw [Nat.pow_succ]
  omega
theorem rat_amtD {n : Nat} {t b : Int} (h : b ≠ 0) (ht : t.natAbs < 2 ^ n) (hb : b.natAbs < 2 ^ n) : AmtD n (ratD t b) := ⟨_, _, rfl, rat_amt h ht hb⟩
theorem pow_up {x m n : Nat} (h : x < 2 ^ m) (hmn : m ≤ n) : x < 2 ^ n := Nat.lt_of_lt_of_le h (Nat.pow_le_pow_right (by decide) hmn)
theorem plus_amt {n m : Nat} {x y : D} (hx : AmtD n x) (hy : AmtD m y) : AmtD (n + m + 1) (plusD x y) := by
  obtain ⟨a, b, rfl, A⟩ := hx
  obtain ⟨c, d, rfl, B⟩ := hy
  refine rat_amtD ?_ (add_lt (mul_lt A.ha B.hb) ?_) (pow_up (mul_lt A.hb B.hb) (by omega))
  · have := Int.mul_pos A.pos B.pos
    omega
  · rw [Nat.add_comm n m]
    exact mul_lt B.ha A.hb
theorem times_amt {n m : Nat} {x y : D} (hx : AmtD n x) (hy : AmtD m y) : AmtD (n + m) (timesD x y) := by
  obtain ⟨a, b, rfl, A⟩ := hx
  obtain ⟨c, d, rfl, B⟩ := hy
  refine rat_amtD ?_ (mul_lt A.ha B.ha) (mul_lt A.hb B.hb)
  have := Int.mul_pos A.pos B.pos
  omega
theorem lkp_put {s k : Str} {v : D} : ∀ {ks : List Str} {ds : List D}, ds.length = ks.length → lkp (putKs ks s) (putDs ks ds s v) k = if k = s then some v else lkp ks ds k := by
  intro ks ds l
  have key : ∀ {ks : List Str} {ds : List D}, ds.length = ks.length → lkp ks ((ks.zip ds).map fun p => if p.1 = s then v else p.2) k = if k = s ∧ k ∈ ks then some v else lkp ks ds k := by
    intro ks
    induction ks with
    | nil => intro ds l; simp [lkp]
    | cons q ks ih =>
      intro ds l
      match ds, l with
      | x :: ds, l =>
        have ih := ih (ds := ds) (by simpa using l)
        show lkp (q :: ks) ((if q = s then v else x) :: _) k = _
        by_cases e : q = k
        · subst e
          by_cases e2 : q = s
          · simp [lkp, e2]
          · simp [lkp, e2]
        · have ne : ¬ k = q := fun z => e z.symm
          show (if q = k then _ else lkp ks ((ks.zip ds).map _) k) = if _ then _ else (if q = k then some x else lkp ks ds k)
          rw [if_neg e, if_neg e, ih]
          simp [ne]
  unfold putKs putDs
  by_cases hs : s ∈ ks
  · rw [if_pos hs, if_pos hs, key l]
    by_cases e : k = s
    · subst e; simp [hs]
    · simp [e]
  · rw [if_neg hs, if_neg hs]
    have key2 : ∀ {ks : List Str} {ds : List D}, ds.length = ks.length → s ∉ ks → lkp (ks ++ [s]) (ds ++ [v]) k = if k = s then some v else lkp ks ds k := by
      intro ks
      induction ks with
      | nil =>
        intro ds l _
        match ds, l with
        | [], _ =>
          by_cases e : k = s
          · subst e; simp [lkp]
          · have ne : ¬ s = k := fun z => e z.symm
            simp [lkp, e, ne]
      | cons q ks ih =>
        intro ds l hn
        match ds, l with
        | x :: ds, l =>
          have hn' : ¬ s = q ∧ s ∉ ks := ⟨fun z => hn (by rw [z]; simp), fun z => hn (by simp [z])⟩
          have ih := ih (ds := ds) (by simpa using l) hn'.2
          show (if q = k then some x else lkp (ks ++ [s]) (ds ++ [v]) k) = _
          rw [ih]
          by_cases e : q = k
          · subst e
            have ne : ¬ q = s := fun z => hn'.1 z.symm
            simp [lkp, ne]
          · simp [lkp, e]
    exact key2 l hs
theorem put_len {s : Str} {v : D} {ks : List Str} {ds : List D} (l : ds.length = ks.length) : (putDs ks ds s v).length = (putKs ks s).length := by
  unfold putKs putDs
  by_cases hs : s ∈ ks
  · rw [if_pos hs, if_pos hs]
    simp [l]
  · rw [if_neg hs, if_neg hs]
    simp [l]
theorem putKs_len (ks : List Str) (s : Str) : (putKs ks s).length ≤ ks.length + 1 := by
  unfold putKs
  split
  · omega
  · simp
theorem mem_putKs {ks : List Str} {s k : Str} : k ∈ putKs ks s ↔ k ∈ ks ∨ k = s := by
  unfold putKs
  by_cases hs : s ∈ ks
  · rw [if_pos hs]
    refine ⟨.inl, fun h => ?_⟩
    rcases h with h | h
    · exact h
    · rw [h]; exact hs
  · rw [if_neg hs]
    simp
theorem putKs_nodup {ks : List Str} {s : Str} (h : ks.Nodup) : (putKs ks s).Nodup := by
  unfold putKs
  by_cases hs : s ∈ ks
  · rw [if_pos hs]; exact h
  · rw [if_neg hs]
    refine List.nodup_append.mpr ⟨h, by simp, ?_⟩
    intro a ha b hb
    have e := List.mem_singleton.mp hb
    rw [e]
    exact fun z => hs (by rw [← z]; exact ha)
theorem lkp_mem {k : Str} : ∀ {ks : List Str} {ds : List D}, ds.length = ks.length → k ∈ ks → ∃ d, lkp ks ds k = some d ∧ d ∈ ds
  | q :: ks, x :: ds, l, h => by
    by_cases e : q = k
    · exact ⟨x, by simp [lkp, e], by simp⟩
    · have hk : k ∈ ks := by
        rcases List.mem_cons.mp h with h | h
        · exact absurd h.symm e
        · exact h
      obtain ⟨d, h1, h2⟩ := lkp_mem (ds := ds) (by simpa using l) hk
      exact ⟨d, by simp [lkp, e, h1], by simp [h2]⟩
  | q :: ks, [], l, _ => by cases l
theorem lkp_some {k : Str} {d : D} : ∀ {ks : List Str} {ds : List D}, lkp ks ds k = some d → k ∈ ks ∧ d ∈ ds
  | q :: ks, x :: ds, h => by
    by_cases e : q = k
    · simp [lkp, e] at h
      subst h
      exact ⟨by simp [e], by simp⟩
    · simp only [lkp, if_neg e] at h
      obtain ⟨h1, h2⟩ := lkp_some h
      exact ⟨by simp [h1], by simp [h2]⟩
  | [], _, h => by cases h
  | _ :: _, [], h => by cases h
theorem mem_srt {ks : List Str} {s : Str} : s ∈ srt ks ↔ s ∈ ks := (List.mergeSort_perm ks leS).mem_iff
theorem srt_len (ks : List Str) : (srt ks).length = ks.length := (List.mergeSort_perm ks leS).length_eq
theorem srt_nodup {ks : List Str} (h : ks.Nodup) : (srt ks).Nodup := (List.mergeSort_perm ks leS).nodup_iff.mpr h
def totStep (t : List Str × List D) : D → List Str × List D
  | .tup [.str s, f] => (putKs t.1 s, putDs t.1 t.2 s (plusD ((lkp t.1 t.2 s).getD zeroD) f))
  | _ => t
def totals (ps : List D) : List Str × List D := ps.foldl totStep ([], [])
def keepT (t : List Str × List D) (s : Str) : Option D := match lkp t.1 t.2 s with
  | some v => if isZ v then none else some (.tup [.str s, v])
  | none => none
def formTs (t : List Str × List D) : List D := (srt t.1).filterMap (keepT t)
def formD (ps : List D) (c : D) : D := .tup [.tup (formTs (totals ps)), c]
def PairD (n : Nat) (p : D) : Prop := ∃ s f, p = .tup [.str s, f] ∧ AmtD n f
theorem PairD.mono {m n : Nat} {d : D} (h : PairD m d) (hmn : m ≤ n) : PairD n d := by
  obtain ⟨a, b, rfl, h⟩ := h
  exact ⟨a, b, rfl, h.mono hmn⟩
def keyOf : D → Option Str
  | .tup [.str s, _] => some s
  | _ => none
def ncnt (k : Str) (ps : List D) : Nat := (ps.filterMap keyOf).count k
theorem ncnt_le (k : Str) (ps : List D) : ncnt k ps ≤ ps.length := Nat.le_trans List.count_le_length (List.length_filterMap_le _ _)
theorem ncnt_take (k : Str) (ps : List D) (i : Nat) : ncnt k (ps.take i) ≤ ncnt k ps := ((List.take_sublist i ps).filterMap keyOf).count_le k
theorem ncnt_app (k : Str) (ps qs : List D) : ncnt k (ps ++ qs) = ncnt k ps + ncnt k qs := by
  unfold ncnt
  rw [List.filterMap_append, List.count_append]
structure TotOk (n : Nat) (S : Str → Prop) (ps : List D) (t : List Str × List D) : Prop where
  len : t.2.length = t.1.length
  few : t.1.length ≤ ps.length
  nd : t.1.Nodup
  val : ∀ k d, lkp t.1 t.2 k = some d → AmtD (ncnt k ps * (n + 1) + 1) d
  nm : ∀ k ∈ t.1, S k
theorem TotOk.nil {n : Nat} {S : Str → Prop} : TotOk n S [] ([], []) := ⟨rfl, Nat.le_refl _, .nil, fun k d h => by simp [lkp] at h, fun k h => by cases h⟩
theorem TotOk.get {n : Nat} {ps : List D} {S : Str → Prop} {t : List Str × List D} (h : TotOk n S ps t) (s : Str) : AmtD (ncnt s ps * (n + 1) + 1) ((lkp t.1 t.2 s).getD zeroD) := by
  cases e : lkp t.1 t.2 s with
  | none => exact zero_amt.mono (by omega)
  | some d => exact h.val s d e
theorem TotOk.put {n : Nat} {ps : List D} {S : Str → Prop} {t : List Str × List D} (h : TotOk n S ps t) {s : Str} {f : D} (hf : AmtD n f) (hs : S s) : TotOk n S (ps ++ [.tup [.str s, f]]) (putKs t.1 s, putDs t.1 t.2 s (plusD ((lkp t.1 t.2 s).getD zeroD) f)) := by
  refine ⟨put_len h.len, Nat.le_trans (putKs_len _ _) (by have := h.few; rw [List.length_append, List.length_singleton]; omega), putKs_nodup h.nd, fun k d hk => ?_, fun k hk => ?_⟩
  · have hk : lkp (putKs t.1 s) (putDs t.1 t.2 s _) k = some d := hk
    rw [lkp_put h.len] at hk
    rw [ncnt_app]
    by_cases e2 : k = s
    · rw [if_pos e2] at hk
      cases hk
      subst e2
      have e : ncnt k [.tup [.str k, f]] = 1 := by
        show List.count k [k] = 1
        simp
      have e3 : (ncnt k ps + 1) * (n + 1) + 1 = (ncnt k ps * (n + 1) + 1) + n + 1 := by rw [Nat.add_mul]; omega
      rw [e, e3]
      exact plus_amt (h.get k) hf
    · rw [if_neg e2] at hk
      refine (h.val k d hk).mono ?_
      have := Nat.mul_le_mul_right (n + 1) (show ncnt k ps ≤ ncnt k ps + ncnt k [.tup [.str s, f]] by omega)
      omega
  · rcases mem_putKs.mp hk with hk | hk
    · exact h.nm k hk
    · rw [hk]; exact hs
theorem tot_ok {n : Nat} {S : Str → Prop} {ps : List D} (h : ∀ p ∈ ps, ∃ s f, p = .tup [.str s, f] ∧ AmtD n f ∧ S s) : TotOk n S ps (totals ps) := by
  have key : ∀ (l pre : List D) (t : List Str × List D), (∀ p ∈ l, ∃ s f, p = .tup [.str s, f] ∧ AmtD n f ∧ S s) → TotOk n S pre t → TotOk n S (pre ++ l) (l.foldl totStep t) := by
    intro l
    induction l with
    | nil => intro pre t _ ht; rw [List.append_nil]; exact ht
    | cons p l ih =>
      intro pre t hl ht
      obtain ⟨s, f, rfl, hf, hs⟩ := hl p (by simp)
      have := ih (pre ++ [.tup [.str s, f]]) (totStep t (.tup [.str s, f])) (fun q hq => hl q (by simp [hq])) (ht.put hf hs)
      rw [List.append_assoc] at this
      exact this
  exact key ps [] ([], []) h TotOk.nil
theorem tot_take {ps : List D} {i : Nat} {p : D} (h : ps[i]? = some p) : totals (ps.take (i + 1)) = totStep (totals (ps.take i)) p := by
  unfold totals
  rw [take_one h, List.foldl_append]
  rfl
theorem formTs_mem {n : Nat} {ps : List D} {S : Str → Prop} {t : List Str × List D} (h : TotOk n S ps t) {d : D} (hd : d ∈ formTs t) : ∃ s f, d = .tup [.str s, f] ∧ AmtD (ncnt s ps * (n + 1) + 1) f ∧ S s ∧ isZ f = false := by
  unfold formTs at hd
  obtain ⟨s, h1, h2⟩ := List.mem_filterMap.mp hd
  unfold keepT at h2
  cases e : lkp t.1 t.2 s with
  | none => rw [e] at h2; cases h2
  | some v =>
    rw [e] at h2
    cases hz : isZ v with
    | true => simp [hz] at h2
    | false =>
      simp [hz] at h2
      exact ⟨s, v, h2.symm, h.val s v e, h.nm s (lkp_some e).1, hz⟩
theorem formTs_len (t : List Str × List D) : (formTs t).length ≤ t.1.length := by
  unfold formTs
  refine Nat.le_trans (List.length_filterMap_le _ _) ?_
  rw [srt_len]
  exact Nat.le_refl _
def nameOf : D → D
  | .tup [a, _] => a
  | _ => .non
def facOf : D → D
  | .tup [_, b] => b
  | _ => .non
def isTerm : D → Bool
  | .tup [a, b] => isName a && isAmt b
  | _ => false
def ltB : D → D → Bool
  | .str a, .str b => decide (a.cps.toList < b.cps.toList)
  | _, _ => false
def asc : List D → Bool
  | x :: y :: r => ltB x y && asc (y :: r)
  | _ => true
def goodT (t : D) : Bool := isTerm t && !isZ (facOf t)
def formP (ts : List D) (c : D) : Bool := isAmt c && (ts.all goodT && asc (ts.map nameOf))
def formX : D → D → Bool
  | .tup ts, c => formP ts c
  | _, _ => false
def isForm : D → Bool
  | .tup [x, c] => formX x c
  | _ => false
theorem goodT_of {t : D} (h : goodT t = true) : ∃ s f, t = .tup [.str s, f] ∧ nmS s = true ∧ isAmt f = true ∧ isZ f = false := by
  unfold goodT at h
  obtain ⟨h1, h2⟩ := Bool.and_eq_true_iff.mp h
  unfold isTerm at h1
  split at h1
  · rename_i a b
    obtain ⟨h3, h4⟩ := Bool.and_eq_true_iff.mp h1
    cases a with
    | str s => exact ⟨s, b, rfl, h3, h4, by simpa [facOf] using h2⟩
    | _ => cases h3
  · cases h1
theorem zip_asc : ∀ l : List D, ((l.zip (l.drop 1)).map fun p => ltB p.1 p.2).all id = asc l
  | [] => rfl
  | [_] => rfl
  | x :: y :: r => by
    have ih := zip_asc (y :: r)
    show (ltB x y && (((y :: r).zip ((y :: r).drop 1)).map fun p => ltB p.1 p.2).all id) = _
    rw [ih]
    rfl
theorem amt_cases {d : D} (h : isAmt d = true) : ∃ a b, d = .tup [.int a, .int b] := by
  unfold isAmt at h
  split at h
  · rename_i x y
    unfold amt2 at h
    split at h
    · exact ⟨_, _, rfl⟩
    · cases h
  · cases h
mutual
def tame : D → Bool
  | .hnd _ => false
  | .dic _ _ => false
  | .ins _ _ _ => false
  | .lam _ _ => false
  | .str s => decide (s.length ≤ 1000)
  | .tup ds => decide (ds.length ≤ 1000) && tames ds
  | .lst ds => decide (ds.length ≤ 1000) && tames ds
  | _ => true
def tames : List D → Bool
  | [] => true
  | d :: ds => tame d && tames ds
end
mutual
theorem tame_plain : ∀ {d : D}, tame d = true → plain d = true
  | .non, _ => by unfold plain; rfl
  | .bl _, _ => by unfold plain; rfl
  | .int _, _ => by unfold plain; rfl
  | .str _, _ => by unfold plain; rfl
  | .hnd _, h => by unfold tame at h; cases h
  | .dic _ _, h => by unfold tame at h; cases h
  | .ins _ _ _, h => by unfold tame at h; cases h
  | .lam _ _, h => by unfold tame at h; cases h
  | .tup ds, h => by
    unfold tame at h
    unfold plain
    exact tames_plains (Bool.and_eq_true_iff.mp h).2
  | .lst ds, h => by
    unfold tame at h
    unfold plain
    exact tames_plains (Bool.and_eq_true_iff.mp h).2
theorem tames_plains : ∀ {ds : List D}, tames ds = true → plains ds = true
  | [], _ => by unfold plains; rfl
  | d :: ds, h => by
    unfold tames at h
    unfold plains
    obtain ⟨h1, h2⟩ := Bool.and_eq_true_iff.mp h
    rw [tame_plain h1, tames_plains h2]
    rfl
end
theorem tames_all {ds : List D} : tames ds = true ↔ ∀ d ∈ ds, tame d = true := by
  induction ds with
  | nil => unfold tames; simp
  | cons a r ih =>
    unfold tames
    rw [Bool.and_eq_true_iff, ih]
    simp
theorem tame_tup {ds : List D} : tame (.tup ds) = true ↔ ds.length ≤ 1000 ∧ ∀ d ∈ ds, tame d = true := by
  rw [tame, Bool.and_eq_true_iff, tames_all, decide_eq_true_iff]
theorem amt_tame {n : Nat} {d : D} (h : AmtD n d) : tame d = true := by
  obtain ⟨a, b, rfl, _⟩ := h
  rfl
theorem lcM {items : List D} {P : List D → Prop} {g : WG} {t : WT} {w : WE} {ds : List Sl} (f : D → Option D) (h : ∀ d ∈ items, ∀ (Y : D → Prop) (N : Prop), (∀ y, f d = some y → Y y) → (f d = none → N) → g d ds fun ds1 => t ds1 fun b => if b = true then w ds1 Y else N) (hP : P (items.filterMap f)) :
    ∃ Iv : Nat → List D → Prop, Iv 0 [] ∧ (∀ i d acc, items[i]? = some d → Iv i acc → g d ds fun ds1 => t ds1 fun b => if b = true then w ds1 fun y => Iv (i + 1) (acc ++ [y]) else Iv (i + 1) acc) ∧ ∀ acc, Iv items.length acc → P acc := by
  refine ⟨fun i acc => acc = (items.take i).filterMap f, rfl, fun i d acc hd ha => ?_, fun acc ha => by have z : acc = (items.take items.length).filterMap f := ha; rw [z, List.take_length]; exact hP⟩
  subst ha
  refine h d (List.mem_of_getElem? hd) _ _ (fun y hy => ?_) fun hn => ?_
  · show (items.take i).filterMap f ++ [y] = (items.take (i + 1)).filterMap f
    rw [take_one hd, List.filterMap_append]
    simp [hy]
  · show (items.take i).filterMap f = (items.take (i + 1)).filterMap f
    rw [take_one hd, List.filterMap_append]
    simp [hn]
theorem cut_tail (xs : List D) : cutD xs (some 1) none = xs.drop 1 := by
  unfold cutD
  cases xs with
  | nil => rfl
  | cons a r =>
    show ((a :: r).drop (min 1 (r.length + 1))).take (r.length + 1 - min 1 (r.length + 1)) = _
    rw [show min 1 (r.length + 1) = 1 by omega]
    show r.take _ = r
    rw [List.take_of_length_le (by omega)]
def pairLt : D → Bool
  | .tup [x, y] => ltB x y
  | _ => false
theorem zips_lt (xs ys : List D) : (zipsD xs ys).map (fun d => D.bl (pairLt d)) = ((xs.zip ys).map fun p => ltB p.1 p.2).map D.bl := by
  unfold zipsD
  rw [List.map_map, List.map_map]
  rfl
theorem zips_mem {xs ys : List D} {d : D} (h : d ∈ zipsD xs ys) : ∃ x ∈ xs, ∃ y ∈ ys, d = .tup [x, y] := by
  obtain ⟨i, hi⟩ := List.getElem?_of_mem h
  obtain ⟨x, y, h1, h2, e⟩ := zips_get hi
  exact ⟨x, List.mem_of_getElem? h1, y, List.mem_of_getElem? h2, e⟩
theorem toPys_lay {n : Nat} : ∀ {l : List D}, (∀ x ∈ l, (toPy x).canLay0 = true ∧ (toPy x).depth ≤ n) → PyData.canLayAll0 (toPys l) = true ∧ PyData.depthAll (toPys l) ≤ n
  | [], _ => ⟨by unfold toPys PyData.canLayAll0; rfl, by unfold toPys PyData.depthAll; omega⟩
  | x :: l, h => by
    obtain ⟨h1, h2⟩ := toPys_lay (l := l) fun y hy => h y (by simp [hy])
    obtain ⟨h3, h4⟩ := h x (by simp)
    unfold toPys PyData.canLayAll0 PyData.depthAll
    exact ⟨by rw [h1, h3]; rfl, Nat.max_le.mpr ⟨h4, h2⟩⟩
theorem shp_lst {l : List D} (h : ∀ x ∈ l, (toPy x).canLay0 = true ∧ (toPy x).depth ≤ 60) : shp (.lst l) = true := by
  obtain ⟨h1, h2⟩ := toPys_lay h
  unfold shp SeqAt.shaped toPy PyData.canLay0 PyData.depth
  rw [h1, decide_eq_true (by omega)]
  rfl
theorem shp_tup {l : List D} (h : ∀ x ∈ l, (toPy x).canLay0 = true ∧ (toPy x).depth ≤ 60) : shp (.tup l) = true := by
  obtain ⟨h1, h2⟩ := toPys_lay h
  unfold shp SeqAt.shaped toPy PyData.canLay0 PyData.depth
  rw [h1, decide_eq_true (by omega)]
  rfl
theorem nm_lay {s : Str} (h : nmS s = true) : (toPy (.str s)).canLay0 = true ∧ (toPy (.str s)).depth ≤ 60 := by
  unfold nmS at h
  obtain ⟨_, h⟩ := Bool.and_eq_true_iff.mp h
  have h := List.all_eq_true.mp h
  unfold toPy PyData.canLay0 PyData.depth
  refine ⟨?_, by omega⟩
  have key : ∀ c ∈ abcL, c < 0x110000 := by decide +kernel
  show s.cps.all (· < 0x110000) = true
  rw [← Array.all_toList, List.all_eq_true]
  intro c hc
  exact decide_eq_true (key c (of_decide_eq_true (h c hc)))
theorem eqv_nil (l : List D) : eqv (.lst l) (.lst []) = l.isEmpty := by cases l <;> rfl
theorem tot_at {n : Nat} {ps : List D} (h : ∀ p ∈ ps, PairD n p) (i : Nat) : TotOk n (fun _ => True) (ps.take i) (totals (ps.take i)) := tot_ok fun p hp => by
  obtain ⟨s, f, rfl, hf⟩ := h p (List.mem_of_mem_take hp)
  exact ⟨s, f, rfl, hf, trivial⟩
theorem ncnt_mul {n M : Nat} {ps : List D} (hM : ∀ k, ncnt k ps ≤ M) (k : Str) (i : Nat) : ncnt k (ps.take i) * (n + 1) + 1 ≤ M * (n + 1) + 1 := by
  have := Nat.mul_le_mul_right (n + 1) (Nat.le_trans (ncnt_take k ps i) (hM k))
  omega
theorem tot_amt {n i M N : Nat} {ps : List D} (h : ∀ p ∈ ps, PairD n p) (hM : ∀ k, ncnt k ps ≤ M) (hN : M * (n + 1) + 1 ≤ N) {s : Str} {v : D} (hv : lkp (totals (ps.take i)).1 (totals (ps.take i)).2 s = some v) : AmtD N v :=
  ((tot_at h i).val s v hv).mono (Nat.le_trans (ncnt_mul hM s i) hN)
theorem tot_get {n i M N : Nat} {ps : List D} (h : ∀ p ∈ ps, PairD n p) (hM : ∀ k, ncnt k ps ≤ M) (hN : M * (n + 1) + 1 ≤ N) (s : Str) : AmtD N ((lkp (totals (ps.take i)).1 (totals (ps.take i)).2 s).getD zeroD) := by
  cases e : lkp (totals (ps.take i)).1 (totals (ps.take i)).2 s with
  | none => exact zero_amt.mono (by omega)
  | some v => exact tot_amt h hM hN e
theorem tot_few {n i : Nat} {ps : List D} (h : ∀ p ∈ ps, PairD n p) : (totals (ps.take i)).1.length ≤ ps.length := by
  have := (tot_at h i).few
  rw [List.length_take] at this
  omega
def keepD (t : List Str × List D) : D → Option D
  | .str s => keepT t s
  | _ => none
theorem keep_map (t : List Str × List D) : ((srt t.1).map D.str).filterMap (keepD t) = formTs t := by
  unfold formTs
  rw [List.filterMap_map]
  rfl
theorem keepT_some {t : List Str × List D} {s : Str} {a b : Int} (h : lkp t.1 t.2 s = some (.tup [.int a, .int b])) : keepT t s = if (decide (a = 0) && decide (b = 1)) = true then none else some (.tup [.str s, .tup [.int a, .int b]]) := by
  unfold keepT
  rw [h]
  rfl
theorem All2.mem {S : D → Prop} {xs ys : List D} (h : All2 (fun _ y => S y) xs ys) : ∀ y ∈ ys, S y := by
  induction h with
  | nil => intro y hy; cases hy
  | cons h _ ih =>
    intro y hy
    rcases List.mem_cons.mp hy with e | hy
    · rw [e]; exact h
    · exact ih y hy
def Sl.pl : Sl → Prop
  | .un => True
  | .d _ => True
  | _ => False
theorem sl_pl {s : Sl} (h : s.pl) : s = .un ∨ ∃ x, s = .d x := by
  cases s with
  | un => exact .inl rfl
  | d x => exact .inr ⟨x, rfl⟩
  | ml _ => exact h.elim
  | md _ _ => exact h.elim
  | mi _ _ _ _ => exact h.elim
  | ow _ => exact h.elim
def valD (ts : List D) (c : D) (ks : List Str) (xs : List D) : D := ts.foldl (fun acc t => match t with
  | .tup [.str s, f] => plusD acc (timesD f ((lkp ks xs s).getD .non))
  | _ => acc) c
theorem val_take {ts : List D} {i : Nat} {s : Str} {f c v : D} {ks : List Str} {xs : List D} (h : ts[i]? = some (.tup [.str s, f])) (hv : lkp ks xs s = some v) : valD (ts.take (i + 1)) c ks xs = plusD (valD (ts.take i) c ks xs) (timesD f v) := by
  unfold valD
  rw [take_one h, List.foldl_append]
  show plusD _ (timesD f ((lkp ks xs s).getD .non)) = _
  rw [hv]
  rfl
theorem val_amt {n m : Nat} {ts : List D} {c : D} {ks : List Str} {xs : List D} (hc : AmtD n c) (ht : ∀ t ∈ ts, PairD n t) (hk : ∀ s f, .tup [.str s, f] ∈ ts → ∃ v, lkp ks xs s = some v ∧ AmtD m v) : ∀ i, i ≤ ts.length → AmtD (n + i * (n + m + 1)) (valD (ts.take i) c ks xs)
  | 0, _ => by
    rw [Nat.zero_mul]
    exact hc
  | i + 1, h => by
    obtain ⟨t, e⟩ := get_lt (xs := ts) (i := i) (by omega)
    have hm := List.mem_of_getElem? e
    obtain ⟨s, f, rfl, hf⟩ := ht t hm
    obtain ⟨v, h1, h2⟩ := hk s f hm
    rw [val_take e h1, Nat.succ_mul]
    exact (plus_amt (val_amt hc ht hk i (by omega)) (times_amt hf h2)).mono (by omega)
theorem rat_one {n : Nat} {a b : Int} (A : Amt n a b) : ratD a b = .tup [.int a, .int b] := by
  obtain ⟨h1, h2⟩ := rat_self A.pos A.cop
  unfold ratD
  rw [h1, h2]
theorem plus_zero {n : Nat} {f : D} (h : AmtD n f) : plusD zeroD f = f := by
  obtain ⟨a, b, rfl, A⟩ := h
  show ratD (0 * b + a * 1) (1 * b) = _
  rw [Int.zero_mul, Int.zero_add, Int.mul_one, Int.one_mul]
  exact rat_one A
theorem isZ_zero {f : D} (h : AmtD n f) (hz : isZ f = true) : f = zeroD := by
  obtain ⟨a, b, rfl, A⟩ := h
  have hz : (decide (a = 0) && decide (b = 1)) = true := hz
  obtain ⟨h1, h2⟩ := Bool.and_eq_true_iff.mp hz
  rw [of_decide_eq_true h1, of_decide_eq_true h2]
  rfl
theorem tot_diff : ∀ (ps : List D) (t : List Str × List D) {n : Nat}, t.2.length = t.1.length → (∀ p ∈ ps, ∃ s f, p = .tup [.str s, f] ∧ AmtD n f) → (t.1 ++ ps.filterMap keyOf).Nodup →
    ps.foldl totStep t = (t.1 ++ ps.filterMap keyOf, t.2 ++ ps.map facOf)
  | [], t, _, _, _, _ => by simp
  | p :: ps, t, n, hl, h, hn => by
    obtain ⟨s, f, rfl, hf⟩ := h p (by simp)
    have ek : (D.tup [.str s, f] :: ps).filterMap keyOf = s :: ps.filterMap keyOf := rfl
    rw [ek] at hn ⊢
    have hs : s ∉ t.1 := fun z => by
      have := (List.nodup_append.mp hn).2.2 s z s (by simp)
      exact this rfl
    have hlk : lkp t.1 t.2 s = none := by
      cases e : lkp t.1 t.2 s with
      | none => rfl
      | some v => exact absurd (lkp_some e).1 hs
    have es : totStep t (.tup [.str s, f]) = (t.1 ++ [s], t.2 ++ [f]) := by
      show (putKs t.1 s, putDs t.1 t.2 s (plusD ((lkp t.1 t.2 s).getD zeroD) f)) = _
      rw [hlk]
      show (putKs t.1 s, putDs t.1 t.2 s (plusD zeroD f)) = _
      rw [plus_zero hf]
      unfold putKs putDs
      rw [if_neg hs, if_neg hs]
    rw [List.foldl_cons, es, tot_diff ps _ (n := n) (by simp [hl]) (fun q hq => h q (by simp [hq])) (by simpa using hn)]
    simp [facOf]
theorem lkp_zip : ∀ {ps : List D} {n : Nat}, (∀ p ∈ ps, ∃ s f, p = .tup [.str s, f] ∧ AmtD n f) → (ps.filterMap keyOf).Nodup → ∀ s f, .tup [.str s, f] ∈ ps → lkp (ps.filterMap keyOf) (ps.map facOf) s = some f
  | [], _, _, _, s, f, h => by cases h
  | p :: ps, n, h, hn, s, f, hm => by
    obtain ⟨s0, f0, rfl, _⟩ := h p (by simp)
    have ek : (D.tup [.str s0, f0] :: ps).filterMap keyOf = s0 :: ps.filterMap keyOf := rfl
    rw [ek] at hn ⊢
    show (if s0 = s then some f0 else lkp (ps.filterMap keyOf) (ps.map facOf) s) = some f
    rcases List.mem_cons.mp hm with e | hm
    · cases e
      rw [if_pos rfl]
    · have : s ∈ ps.filterMap keyOf := List.mem_filterMap.mpr ⟨_, hm, rfl⟩
      have ne : s0 ≠ s := fun z => (List.nodup_cons.mp hn).1 (by rw [z]; exact this)
      rw [if_neg ne]
      exact lkp_zip (fun q hq => h q (by simp [hq])) (List.nodup_cons.mp hn).2 s f hm
theorem formTs_self {ps : List D} {n : Nat} (h : ∀ p ∈ ps, ∃ s f, p = .tup [.str s, f] ∧ AmtD n f ∧ isZ f = false) (hn : (ps.filterMap keyOf).Nodup) (hs : (ps.filterMap keyOf).Pairwise fun a b => leS a b = true) : formTs (totals ps) = ps := by
  have h' : ∀ p ∈ ps, ∃ s f, p = .tup [.str s, f] ∧ AmtD n f := fun p hp => by
    obtain ⟨s, f, e, hf, _⟩ := h p hp
    exact ⟨s, f, e, hf⟩
  have et : totals ps = (ps.filterMap keyOf, ps.map facOf) := by
    unfold totals
    rw [tot_diff ps ([], []) (n := n) rfl h' (by simpa using hn)]
    simp
  unfold formTs
  rw [et]
  have es : srt (ps.filterMap keyOf) = ps.filterMap keyOf := List.mergeSort_of_pairwise hs
  rw [show (ps.filterMap keyOf, ps.map facOf).1 = ps.filterMap keyOf from rfl, es]
  have key : ∀ l : List D, (∀ p ∈ l, p ∈ ps) → (l.filterMap keyOf).filterMap (keepT (ps.filterMap keyOf, ps.map facOf)) = l := by
    intro l
    induction l with
    | nil => intro _; rfl
    | cons p l ih =>
      intro hm
      obtain ⟨s, f, rfl, hf, hz⟩ := h p (hm p (by simp))
      have ek : (D.tup [.str s, f] :: l).filterMap keyOf = s :: l.filterMap keyOf := rfl
      have e1 : keepT (ps.filterMap keyOf, ps.map facOf) s = some (.tup [.str s, f]) := by
        unfold keepT
        rw [lkp_zip h' hn s f (hm _ (by simp))]
        simp [hz]
      rw [ek, List.filterMap_cons, e1, ih fun q hq => hm q (by simp [hq])]
  exact key ps fun p hp => hp
theorem keys_form {t : List Str × List D} : ∀ l : List Str, ((l.filterMap (keepT t)).filterMap keyOf).Sublist l
  | [] => .slnil
  | s :: l => by
    rw [List.filterMap_cons]
    cases e : keepT t s with
    | none => exact (keys_form l).cons _
    | some d =>
      unfold keepT at e
      cases e2 : lkp t.1 t.2 s with
      | none => rw [e2] at e; cases e
      | some v =>
        rw [e2] at e
        cases hz : isZ v with
        | true => simp [hz] at e
        | false =>
          simp [hz] at e
          subst e
          exact (keys_form l).cons₂ s
theorem form_nodup {t : List Str × List D} (h : t.1.Nodup) : ((formTs t).filterMap keyOf).Nodup := (keys_form _).nodup (srt_nodup h)
theorem form_sorted (t : List Str × List D) : ((formTs t).filterMap keyOf).Pairwise fun a b => leS a b = true := (List.pairwise_mergeSort leS_trans leS_total t.1).sublist (keys_form _)
theorem okD_amt {n : Nat} {d : D} (h : AmtD n d) (m : Nat) : okD (m + 1) d = true := by
  obtain ⟨a, b, rfl, _⟩ := h
  cases m <;> rfl
theorem okD_pair {n : Nat} {d : D} (h : PairD n d) (m : Nat) : okD (m + 2) d = true := by
  obtain ⟨s, f, rfl, a, b, rfl, _⟩ := h
  cases m <;> rfl
theorem okD_tup {n : Nat} {l : List D} (h1 : l.length ≤ 1000000) (h : ∀ x ∈ l, okD n x = true) : okD (n + 1) (.tup l) = true := by
  show (decide (l.length ≤ 1000000) && l.all (okD n)) = true
  rw [decide_eq_true h1, List.all_eq_true.mpr h]
  rfl
structure FormOk (n : Nat) (S : Str → Prop) (d : D) (ts : List D) (c : D) : Prop where
  e : d = .tup [.tup ts, c]
  few : ts.length ≤ 1000
  pr : ∀ t ∈ ts, ∃ s f, t = .tup [.str s, f] ∧ AmtD n f ∧ S s ∧ isZ f = false
  c : AmtD n c
theorem FormOk.ok {n : Nat} {S : Str → Prop} {d c : D} {ts : List D} (h : FormOk n S d ts c) (m : Nat) : okD (m + 4) d = true := by
  rw [h.e]
  refine okD_tup (by simp) fun x hx => ?_
  simp only [List.mem_cons, List.not_mem_nil, or_false] at hx
  rcases hx with rfl | rfl
  · refine okD_tup (by have := h.few; omega) fun t ht => ?_
    obtain ⟨s, f, rfl, hf, _⟩ := h.pr t ht
    exact okD_pair (n := n) ⟨s, f, rfl, hf⟩ m
  · exact okD_amt h.c _
theorem form_ok {n M N : Nat} {S : Str → Prop} {ps : List D} {c : D} (h : ∀ p ∈ ps, ∃ s f, p = .tup [.str s, f] ∧ AmtD n f ∧ S s) (hl : ps.length ≤ 1000) (hM : ∀ k, ncnt k ps ≤ M) (hN : M * (n + 1) + 1 ≤ N) (hc : AmtD N c) : FormOk N S (formD ps c) (formTs (totals ps)) c := by
  have tk := tot_ok h
  refine ⟨rfl, Nat.le_trans (formTs_len _) (Nat.le_trans tk.few hl), fun t ht => ?_, hc⟩
  obtain ⟨s, f, e, hf, hs, hz⟩ := formTs_mem tk ht
  have := Nat.mul_le_mul_right (n + 1) (hM s)
  exact ⟨s, f, e, hf.mono (by omega), hs, hz⟩
theorem pair_lay {n : Nat} {d : D} (h : ∃ s f, d = .tup [.str s, f] ∧ AmtD n f ∧ nmS s = true) : (toPy d).canLay0 = true ∧ (toPy d).depth ≤ 60 := by
  obtain ⟨s, f, rfl, ⟨a, b, rfl, _⟩, hs⟩ := h
  have z := (nm_lay hs).1
  refine ⟨?_, by show 2 ≤ 60; decide⟩
  show ((toPy (.str s)).canLay0 && (true && true)) = true
  rw [z]
  rfl
structure Known (m : Nat) (ks : List Str) (xs : List D) : Prop where
  len : xs.length = ks.length
  val : ∀ x ∈ xs, AmtD m x
theorem Known.get {m : Nat} {ks : List Str} {xs : List D} (h : Known m ks xs) {s : Str} (hs : s ∈ ks) : ∃ v, lkp ks xs s = some v ∧ AmtD m v := by
  obtain ⟨v, h1, h2⟩ := lkp_mem h.len hs
  exact ⟨v, h1, h.val v h2⟩
theorem Known.put {m : Nat} {ks : List Str} {xs : List D} (h : Known m ks xs) (s : Str) {v : D} (hv : AmtD m v) : Known m (putKs ks s) (putDs ks xs s v) := by
  refine ⟨put_len h.len, fun x hx => ?_⟩
  unfold putDs at hx
  by_cases e : s ∈ ks
  · rw [if_pos e] at hx
    obtain ⟨p, hp, rfl⟩ := List.mem_map.mp hx
    by_cases e2 : p.1 = s
    · rw [if_pos e2]; exact hv
    · rw [if_neg e2]; exact h.val _ (List.of_mem_zip hp).2
  · rw [if_neg e] at hx
    rcases List.mem_append.mp hx with hx | hx
    · exact h.val x hx
    · rw [List.mem_singleton.mp hx]; exact hv
theorem nm_tame {s : Str} (hs : nmS s = true) : tame (.str s) = true := by
  unfold tame
  unfold nmS at hs
  have h1 := (Bool.and_eq_true_iff.mp (Bool.and_eq_true_iff.mp hs).1).2
  have := of_decide_eq_true h1
  exact decide_eq_true (by omega)
theorem pair_tame {n : Nat} {d : D} (h : ∃ s f, d = .tup [.str s, f] ∧ AmtD n f ∧ nmS s = true) : tame d = true := by
  obtain ⟨s, f, rfl, hf, hs⟩ := h
  refine tame_tup.mpr ⟨Nat.le_of_ble_eq_true rfl, fun x hx => ?_⟩
  simp only [List.mem_cons, List.not_mem_nil, or_false] at hx
  rcases hx with rfl | rfl
  · exact nm_tame hs
  · exact amt_tame hf
theorem FormOk.pair {n : Nat} {S : Str → Prop} {d c : D} {ts : List D} (h : FormOk n S d ts c) : ∀ t ∈ ts, PairD n t := fun t ht => by
  obtain ⟨s, f, e, hf, _⟩ := h.pr t ht
  exact ⟨s, f, e, hf⟩
theorem FormOk.known {n m : Nat} {S : Str → Prop} {d c : D} {ts : List D} {ks : List Str} {xs : List D} (h : FormOk n S d ts c) (hk : ∀ s, S s → ∃ v, lkp ks xs s = some v ∧ AmtD m v) : ∀ s f, .tup [.str s, f] ∈ ts → ∃ v, lkp ks xs s = some v ∧ AmtD m v := fun s f ht => by
  obtain ⟨s', f', e, _, hs, _⟩ := h.pr _ ht
  cases e
  exact hk s hs
theorem FormOk.val {n m N : Nat} {S : Str → Prop} {d c : D} {ts : List D} {ks : List Str} {xs : List D} (h : FormOk n S d ts c) (hk : ∀ s, S s → ∃ v, lkp ks xs s = some v ∧ AmtD m v) (hN : n + ts.length * (n + m + 1) ≤ N) : AmtD N (valD ts c ks xs) := by
  have := val_amt h.c h.pair (h.known hk) ts.length (Nat.le_refl _)
  rw [List.take_length] at this
  exact this.mono hN
def sgnI (a : Int) : Int := (if decide (0 < a) = true then 1 else 0) - (if decide (a < 0) = true then 1 else 0)
def sgnD : D → Int
  | .tup [.int a, _] => sgnI a
  | _ => 0
def negA : D → D
  | .tup [.int a, b] => .tup [.int (0 - a), b]
  | _ => .non
def minusD (x y : D) : D := plusD x (negA y)
theorem neg_amt {n : Nat} {x : D} (h : AmtD n x) : AmtD n (negA x) := by
  obtain ⟨a, b, rfl, A⟩ := h
  refine ⟨0 - a, b, rfl, A.pos, ?_, ?_, A.hb⟩
  · rw [Int.zero_sub, Int.neg_gcd]; exact A.cop
  · rw [Int.zero_sub, Int.natAbs_neg]; exact A.ha
def addT (by_ : D) : D → D
  | .tup [x, f] => plusD x (timesD by_ f)
  | _ => .non
def befD (ts fs : List D) : List D := if ts.isEmpty = true then fs.map (fun _ => zeroD) else ts
def addL (ts fs : List D) (by_ : D) : List D := (zipsD (befD ts fs) fs).map (addT by_)
def ltS : Str := Str.ofString "<"
def relB (t : D → Bool) : D → Bool
  | .tup [.tup [_, _, .str rel], by_] => decide (rel = ltS) && t by_
  | _ => false
def stepT (T : List D) : D → List D
  | .tup [.tup [.tup fs, _, _], by_] => addL T fs by_
  | _ => T
def textD : D → Str
  | .tup [.int a, .int b] => if b = 1 then Str.ofString (toString a) else Str.ofString (toString a) ++ ("/" : Str) ++ Str.ofString (toString b)
  | _ => Str.empty
end VL
set_option Elab.async false
set_option linter.all false
set_option maxRecDepth 100000
set_option maxHeartbeats 2000000
set_option exponentiation.threshold 20000
namespace VL
open PySem L2
def qD : D → Rat
  | .tup [.int a, .int b] => Rat.divInt a b
  | _ => 0
theorem qD_rat {t b : Int} (h : b ≠ 0) : qD (ratD t b) = Rat.divInt t b := by
  obtain ⟨h1, h2, h3, _⟩ := rat_parts (t := t) h
  show Rat.divInt (ratT t b) (ratB t b) = _
  have key := Rat.divInt_mul_left (n := ratT t b) (d := ratB t b) (ratK_ne (t := t) h)
  rw [← key, ← h1, ← h2]
theorem q_plus {n m : Nat} {x y : D} (hx : AmtD n x) (hy : AmtD m y) : qD (plusD x y) = qD x + qD y := by
  obtain ⟨a, b, rfl, A⟩ := hx
  obtain ⟨c, d, rfl, B⟩ := hy
  have hb := A.pos
  have hd := B.pos
  have hz := Int.mul_pos hb hd
  show qD (ratD (a * d + c * b) (b * d)) = Rat.divInt a b + Rat.divInt c d
  rw [qD_rat (by omega), Rat.divInt_add_divInt _ _ (by omega) (by omega)]
theorem minus_amt {n m : Nat} {x y : D} (hx : AmtD n x) (hy : AmtD m y) : AmtD (n + m + 1) (minusD x y) := plus_amt hx (neg_amt hy)
theorem q_zero : qD zeroD = 0 := by show Rat.divInt 0 1 = 0; simp
def oneD : D := .tup [.int 1, .int 1]
theorem one_amt : AmtD 1 oneD := ⟨1, 1, rfl, by decide, by decide, by decide, by decide⟩
end VL
set_option Elab.async false
set_option linter.all false
set_option maxRecDepth 100000
set_option maxHeartbeats 2000000
set_option exponentiation.threshold 20000
namespace VL
open PySem L2
def Six (m : Nat) (d : D) : Prop := ∃ n, AmtD n d ∧ ∃ z : Int, qD d * 6 = (z : Rat) ∧ z.natAbs ≤ 18 * m
theorem Six.zero : Six 0 zeroD := ⟨1, zero_amt, 0, by rw [q_zero]; decide +kernel, Nat.le_refl _⟩
theorem Six.plus {m k : Nat} {x y : D} (hx : Six m x) (hy : Six k y) : Six (m + k) (plusD x y) := by
  obtain ⟨n, A, z, e, h⟩ := hx
  obtain ⟨n', B, z', e', h'⟩ := hy
  refine ⟨_, plus_amt A B, z + z', ?_, by omega⟩
  rw [q_plus A B, Rat.add_mul, e, e', Rat.intCast_add]
theorem Six.mono {m k : Nat} {d : D} (h : Six m d) (hk : m ≤ k) : Six k d := by
  obtain ⟨n, A, z, e, hz⟩ := h
  exact ⟨n, A, z, e, by omega⟩
end VL
set_option Elab.async false
set_option linter.all false
set_option maxRecDepth 100000
set_option maxHeartbeats 2000000
namespace PySem.W
open PySem PySem.Calls PyProof.Rows Builtin
section
variable {prog : Program} {w : World} {A : Around} {E : Value → Shared → Prop} {s : Shared} {K : Frag} {x C C' L f f' : Addr} {h₀ : Heap} {m : Str → Option Value} {ox : Obj} {od : Option Obj} {b tb : Value}
end
end PySem.W
namespace VL
open PySem PySem.Spec PyProof.Rows L2
def XW (K : PySem.W.Frag) (W : Wd) (PX : D → Prop) : WX := fun cls d _ H' => ∃ C fs ds us dd, cls = .ref C ∧ d = some dd ∧ PX (.ins C fs ds) ∧ Ext W W.Hf H' ∧ W.I H' ∧ Reps K W.Mf H' ds us ∧ us.length = fs.length ∧ H' dd = some (.xd (fs.zip us))
def XC (K : PySem.W.Frag) (W : Wd) (M : Addr → Prop) (H : Hp) (PX : D → Prop) : XK := fun cls d H' => ∃ C fs ds us dd, cls = .ref C ∧ d = some dd ∧ PX (.ins C fs ds) ∧ Ext W H H' ∧ W.I H' ∧ Reps K M H' ds us ∧ us.length = fs.length ∧ H' dd = some (.xd (fs.zip us))
def EX (K : PySem.W.Frag) (W : Wd) (PX : D → Prop) : XK := fun cls d H' => XW K W PX cls d [] H'
theorem passesX {X : Cx} {W : Wd} {PX : D → Prop} (tk : Takes X (XW X.K W PX)) : Passes (L2.CX X.prog X.w) X (EX X.K W PX) := passes_call tk fun _ _ _ _ h => h
section
variable {K : PySem.W.Frag} {W : Wd} {M0 : Addr → Prop} {H0 H H' : Hp} {oa : Nat → AS} {σ : L2.St} {ds : List Sl} {PX : D → Prop}
theorem Sat.xc (S : Sat K W M0 H0 oa H σ ds) {cls : Value} {d : Option Addr} (h : XC K W (Mx M0 oa) H PX cls d H') : EX K W PX cls d H' := by
  obtain ⟨C, fs, xs, us, dd, e1, e2, hp, e, i, r, l, hd⟩ := h
  exact ⟨C, fs, xs, us, dd, e1, e2, hp, S.fh.trans (S.ext.trans e), i, r.car fun b o n q => ⟨fun z => n (.inl (S.fm b z)), q⟩, l, hd⟩
end
def spX (K : PySem.W.Frag) (W : Wd) (g : List D → (D → Prop) → (D → Prop) → Prop) : Sp := fun vs H Q E => ∃ M ds P PX, MOk W M H ∧ Reps K M H ds vs ∧ g ds P PX ∧ (∀ d v H', P d → Ext W H H' → W.I H' → Rep K M H' d v → Q v H') ∧ ∀ cls d H', XC K W M H PX cls d H' → E cls d H'
def Wd.fx (W : Wd) (M : Addr → Prop) (H : Hp) : Wd := { A := W.A, I := W.I, live := W.live, nx := W.nx, B := W.B, liveB := W.liveB, C := W.C, cb := W.cb, stay := W.stay, Mf := M, Hf := H }
theorem vfnX {P : Program} {w : World} {K : PySem.W.Frag} {mg : Str → Option Value} {base : Heap} {W : Wd} {x qual : Str} {st : Stmt} {f : Addr} {fd : FuncData} {N ps : List Str} {k : Nat} {g : List D → (D → Prop) → (D → Prop) → Prop} (F : Fun K x qual st f fd) (S : FnScope N ps (defScope st))
    (len : ∀ ds P PX, g ds P PX → ds.length = ps.length)
    (hb : ∃ wb : (D → Prop) → WS, (∀ (PX : D → Prop) (Mf : Addr → Prop) (Hf : Hp) (cdv : Value) (A : Around) (outer : List Env) (s : Shared) (H : Hp) (E : XK), Room k (A.deeper (envOfC qual (defScope st) s.heap.objs.size f cdv)) →
        Takes (cxOf (L2.CX P w) P w K mg base N qual (defScope st) f cdv A outer s H E) (XW K (W.fx Mf Hf) PX) → VSs (cxOf (L2.CX P w) P w K mg base N qual (defScope st) f cdv A outer s H E) (W.fx Mf Hf) (defBody st) (wb PX)) ∧
      ∀ ds Q PX, g ds Q PX → wb PX (endsD Q) (startD N ds)) : FnOk P w K mg base (L2.CX P w) (k + 1) f fd ps (spX K W g) := by
  obtain ⟨wb, h1, h2⟩ := hb
  refine F.okX S (fun vs H Q E h => ?_) (fun cdv A outer s H vs Q E hr h => ?_)
  · obtain ⟨M, ds, P, PX, m, r, hg, _⟩ := h
    rw [r.len, len ds P PX hg]
  · obtain ⟨M, ds, P', PX, m, r, hg, k, kx⟩ := h
    have hl : ds.length ≤ N.length := by
      have q := congrArg List.length S.pre
      rw [List.length_take] at q
      rw [len ds P' PX hg]
      omega
    refine ⟨LS K (W.fx M H) (wb PX), h1 PX M H cdv A outer s H E hr ((takes_of (E := E) rfl rfl rfl rfl).imp fun cls d σ H' hx => kx cls d H' hx), ?_⟩
    refine ⟨M, H, fun _ => no1, startD N ds, endsD P', sat_start (W := W.fx M H) ⟨m.wm, m.live, m.wi, m.nb, m.nx⟩ r hl (fun _ z => z) (fun _ _ _ z => z), h2 ds P' PX hg, fun ds' oa' σ' H' hn S' => ?_, fun d v H' hd e i r' => k d v H' hd e i r', fun _ _ _ _ z => z.elim, fun _ _ _ _ z => z.elim, fun _ _ _ _ _ _ z => z.elim⟩
    exact k .non .non H' hn S'.ext S'.wi rep_non
section
variable {X : Cx} {W : Wd} {e o : Expr} {es : List Expr} {pos p apos : Pos} {x : Str} {k : Nat} {f : Addr} {fd : FuncData} {ps : List Str} {dvs : List V} {dds : List D} {PX : D → Prop}
def wCallX (f : List D → (D → Prop) → (D → Prop) → Prop) (PX : D → Prop) (l : WL) : WE := fun ds P => l ds fun xs => f xs P PX
theorem ve_callX {g : List D → (D → Prop) → (D → Prop) → Prop} {l : WL} (F : FnOk X.prog X.w X.K X.mg X.base (L2.CX X.prog X.w) k f fd ps (spX X.K W g)) (hr : Room k X.A) (hg : Gl X x) (hm : X.mg x = some (.ref f)) (hk : PySem.W.keepIn X.K (.ref f) = true)
    (hb : ∃ ds, Vals dvs ds ∧ Binds X.K fd ps ds) (tk : Takes X (XW X.K W PX)) (hdd : ∀ M H, Reps X.K M H dds dvs) (ha : VA X W (e :: es) l) (hdb : (x == ("__debug__" : Str)) = false := by decide) (he : starEach (e :: es) X.env = (false, eval e X.env) :: starEach es X.env := by rfl)
    (hpl : (backTo pos (starEach es X.env)).any (·.1) = false := by rfl) : VE X W (.Call (.Name x p) (e :: es) [] pos) (wCallX (fun xs P PX => g (xs ++ dds) P PX) PX l) := by
  obtain ⟨ds0, hd, hb⟩ := hb
  refine pe_imp (pe_call F hr hg hm hk hb hd (passesX tk) ha hdb he hpl) fun σ H Q h => ?_
  obtain ⟨M0, H0, oa, ds, P, S, hw, kk⟩ := h
  refine ⟨M0, H0, oa, ds, _, S, hw, fun xs vs H1 hx e1 i1 r1 => ?_⟩
  have S1 := S.step e1 i1
  exact ⟨Mx M0 oa, xs ++ dds, P, PX, S1.mok, r1.app (hdd _ _), hx, fun d v H' hp e i r => kk d v H' hp (e1.trans e) i r, fun cls d H' h => S1.xc h⟩
end
section
variable {K : PySem.W.Frag} {M : Addr → Prop} {H : Hp}
theorem lkp_fs {f : Str} : ∀ {ks : List Str} {ds : List D} {us : List V}, Reps K M H ds us → us.length = ks.length → (∀ d, lkp ks ds f = some d → ∃ v, (ks.zip us).lookup f = some v ∧ Rep K M H d v) ∧ (lkp ks ds f = none → (ks.zip us).lookup f = none)
  | [], ds, us, r, l => ⟨fun d h => (by cases ds <;> cases h), fun _ => rfl⟩
  | k :: ks, [], us, r, l => by rw [r.inv0] at l; cases l
  | k :: ks, d :: ds, us, r, l => by
    obtain ⟨v, vs, rfl, h1, h2⟩ := r.inv
    obtain ⟨a1, a2⟩ := lkp_fs (f := f) h2 (by simpa using l)
    have e : ((k :: ks).zip (v :: vs)).lookup f = if f = k then some v else (ks.zip vs).lookup f := L2.lookup_put k f v _
    have e2 : lkp (k :: ks) (d :: ds) f = if k = f then some d else lkp ks ds f := rfl
    rw [e, e2]
    by_cases q : k = f
    · rw [if_pos q, if_pos q.symm]
      exact ⟨fun z hz => by cases hz; exact ⟨v, rfl, h1⟩, fun z => by cases z⟩
    · rw [if_neg q, if_neg (fun z => q z.symm)]
      exact ⟨a1, a2⟩
end
section
variable {X : Cx} {W : Wd} {e o : Expr} {es : List Expr} {pos pos' p apos : Pos}
section
variable {CX : CXT} {k : Nat} {f : Addr} {fd : FuncData} {ps : List Str} {sp : Sp} {dvs : List V} {dds : List D} {ds0 : List Value} {E : XK} {m : Str} {ta : TE} {t : TA} {cs : List Addr}
end
end
end VL
namespace VL
open PySem PySem.Spec PyProof.Rows L2
section
variable {P : Program} {w : World} {K : PySem.W.Frag} {mg : Str → Option Value} {base : Heap} {W : Wd} {x qual : Str} {st : Stmt} {f C : Addr} {fd : FuncData} {N ps : List Str} {k : Nat} {g : List D → (List Str → List D → Prop) → (D → Prop) → Prop}
end
section
variable {X : Cx} {W : Wd} {e o : Expr} {es : List Expr} {pos pos' p apos : Pos} {x : Str}
section
variable {C f : Addr} {fd : FuncData} {ps : List Str} {k n : Nat} {g : List D → (List Str → List D → Prop) → (D → Prop) → Prop} {PX : D → Prop} {l lk : WL} {dvs : List V} {dds : List D}
end
end
end VL
namespace PySem.W
open PySem PySem.Calls PyProof.Rows Builtin
section
variable {prog : Program} {w : World} {A : Around} {E : Value → Shared → Prop} {s : Shared} {K : Frag} {x C L f : Addr} {h₀ : Heap} {m : Str → Option Value} {ox : Obj} {od : Option Obj} {T : String}
end
end PySem.W
namespace PySem.W
open PySem PySem.Calls PyProof.Rows Builtin
section
variable {prog : Program} {w : World} {A : Around} {E : Value → Shared → Prop} {s : Shared} {K : Frag} {x C C' L f f' : Addr} {h₀ : Heap} {m : Str → Option Value} {ox : Obj} {od : Option Obj} {nm : String}
end
end PySem.W
namespace VL
open PySem PySem.Spec PyProof.Rows L2
abbrev GX := List D → (D → Prop) → (D → Prop) → Prop
section
variable {X : Cx} {W : Wd} {a b e : Expr} {es : List Expr} {pos : Pos} {k : Nat} {PX : D → Prop}
end
end VL
namespace VL
open PySem PySem.Spec PyProof.Rows L2
section
variable {X : Cx} {W : Wd} {e : Expr} {kws : List Keyword} {pos p px : Pos}
end
end VL
namespace VL
open PySem PySem.Spec PyProof.Rows L2
end VL
set_option Elab.async false
set_option linter.all false
set_option maxRecDepth 100000
set_option maxHeartbeats 4000000
namespace PySem.W
open PySem PySem.Spec PySem.Calls PyProof.Rows
section
variable {prog : Program} {w : World} {A : Around} {E : Value → Shared → Prop} {s : Shared} {K : Frag} {x C f : Addr} {ox : Obj} {od : Option Obj}
open Builtin in
theorem vs_repr {Q : Value → Shared → Prop} (hu : A.in1.units < cLine) (X : K.In s.heap) (I : InstAt s.heap x ox C od) (hr : findIn K (.ref C) "__repr__" = some (some (.ref f))) (hf : isFn K (.ref f) = true)
    (h : wpAny (model prog w) A.in1 (call (.ref f) [.ref x]) (fun v s' => ∃ y t, v = .str y t ∧ Q v s') E s) : wpAny (model prog w) A (call (.builtin "repr") [.ref x]) Q E s := by
  refine Calls.call_function_entry F.kind_repr F.plain_repr F.entry_repr (F.args_repr1 _) ?_
  unfold Builtin.«repr»
  refine wpAny_bind (m := oneArg "repr" _) (wpAny_pure ?_)
  refine wpAny_bind (m := cRoomFor _ _) (wpAny_cRoomFor hu ?_)
  refine wpAny_bind (m := specialOf _ _) (wpAny_bind (I.type.here ((looks_findIn X hr).here ?_)))
  refine wpAny_bind (m := callSpecialIfBound? (.ref x) (Str.ofString "__repr__") _) (ifBound_K X I hr hf (wpAny_mono h (fun v s' hq => ?_) fun _ _ y => y))
  obtain ⟨y, t, rfl, q⟩ := hq
  refine wpAny_bind (wpAny_isInstance (T := "str") (b := true) (typeIs_str _ _ _) isSubtype_str_str ?_)
  exact wpAny_pure ⟨_, rfl, q⟩
end
end PySem.W
namespace VL
open PySem PySem.Spec PyProof.Rows L2
section
variable {X : Cx} {W : Wd} {e o : Expr} {es : List Expr} {pos p px : Pos} {k : Nat}
def wJ : List WE → Str → List Sl → (D → Prop) → Prop
  | [], acc, _, P => P (.str acc)
  | w :: ws, acc, ds, P => w ds fun d => match d with
    | .str y => y.length ≤ 1000 ∧ wJ ws (acc ++ y) ds P
    | .int i => i.natAbs.log2 < 1920 ∧ wJ ws (acc ++ Str.ofString (toString i)) ds P
    | _ => False
inductive VJ (X : Cx) (W : Wd) : List Expr → List WE → Prop where
  | nil : VJ X W [] []
  | lit {e : Expr} {z : Str} {es : List Expr} {ws : List WE} (h : VE X W e (wC (.str z))) (r : VJ X W es ws) : VJ X W (e :: es) (wC (.str z) :: ws)
  | fmt {e : Expr} {w : WE} {pos : Pos} {es : List Expr} {ws : List WE} (h : VE X W e w) (r : VJ X W es ws) : VJ X W (.FormattedValue e (-1) none pos :: es) (w :: ws)
theorem int_len {i : Int} (h : i.natAbs.log2 < 1920) : (Str.ofString (toString i)).length ≤ 2000 := by
  have e := int_text_length_le (k := 1920) (by decide) h
  rw [PySem.ofString_length]; omega
theorem vj_run {es : List Expr} {ws : List WE} (h : VJ X W es ws) : ∃ ts, PJ X es ts ∧ ∀ (σ : L2.St) M0 H0 oa ds (H : Hp) (acc : Str) (P : D → Prop) (Q : Str → Hp → Prop), Sat X.K W M0 H0 oa H σ ds → wJ ws acc ds P → acc.length + 2000 * ws.length ≤ sizeLine →
    (∀ out H', P (.str out) → Ext W H H' → W.I H' → Q out H') → tJs ts acc σ H Q := by
  induction h with
  | nil => exact ⟨[], .nil, fun σ M0 H0 oa ds H acc P Q S hw _ k => k acc H hw (Ext.refl H) S.wi⟩
  | @lit e z es ws h r ih =>
    obtain ⟨ts, h1, h2⟩ := ih
    refine ⟨_ :: ts, .cons h h1, fun σ M0 H0 oa ds H acc P Q S hw hl k => ?_⟩
    refine ⟨M0, H0, oa, ds, fun d => d = .str z, S, rfl, fun d v H1 hd e1 i1 r1 => ?_⟩
    subst hd
    obtain ⟨hz, hw⟩ := hw
    have el := Str.length_append acc z
    rw [List.length_cons] at hl
    refine ⟨z, r1.str, by omega, h2 σ M0 H0 oa ds H1 _ P Q (S.step e1 i1) hw (by omega) fun out H' hp e i => k out H' hp (e1.trans e) i⟩
  | @fmt e w pos es ws h r ih =>
    obtain ⟨ts, h1, h2⟩ := ih
    refine ⟨_ :: ts, .cons (pe_fmt h) h1, fun σ M0 H0 oa ds H acc P Q S hw hl k => ?_⟩
    refine ⟨M0, H0, oa, ds, _, S, hw, fun d v H1 hd e1 i1 r1 => ?_⟩
    rw [List.length_cons] at hl
    cases d <;> first | exact hd.elim | skip
    · rename_i i
      obtain ⟨hz, hw⟩ := hd
      have li := int_len hz
      have el := Str.length_append acc (Str.ofString (toString i))
      exact .inr ⟨i, r1.int, hz, _, rfl, by omega, h2 σ M0 H0 oa ds H1 _ P Q (S.step e1 i1) hw (by omega) fun out H' hp e i => k out H' hp (e1.trans e) i⟩
    · rename_i y
      obtain ⟨hz, hw⟩ := hd
      have el := Str.length_append acc y
      exact .inl ⟨y, r1.str, by rw [sizeLine_eq]; omega, y, rfl, by omega, h2 σ M0 H0 oa ds H1 _ P Q (S.step e1 i1) hw (by omega) fun out H' hp e i => k out H' hp (e1.trans e) i⟩
theorem ve_fstr {v1 v2 : Expr} {ws : List WE} (h : VJ X W (v1 :: v2 :: es) ws) (hl : ws.length ≤ 100 := by exact Nat.le_of_ble_eq_true rfl) : VE X W (.JoinedStr (v1 :: v2 :: es) pos) (fun ds P => wJ ws Str.empty ds P) := by
  obtain ⟨ts, h1, h2⟩ := vj_run h
  refine pe_imp (pe_joined h1) fun σ H Q hh => ?_
  obtain ⟨M0, H0, oa, ds, P, S, hw, kk⟩ := hh
  exact h2 σ M0 H0 oa ds H Str.empty P _ S hw (by rw [sizeLine_eq]; show 0 + _ ≤ _; omega) fun out H' hp e i => kk _ _ H' hp e i rep_str
end
end VL
set_option Elab.async false
set_option linter.all false
set_option maxRecDepth 100000
set_option maxHeartbeats 4000000
namespace VL
open PySem PySem.Spec PyProof.Rows L2
section
variable {X : Cx} {W : Wd} {e : Expr} {es : List Expr} {pos : Pos}
theorem meet {α : Type} (R : α → Prop) (sl : α → List Sl) {w u : WS} {E : EndsD} {ds : List Sl} (b : (∀ x, R x → u E (sl x)) → wSeq w u E ds) (a : ∀ x, R x → u E (sl x)) : wSeq w u E ds := b a
theorem meet1 (sl : List Sl) {w u : WS} {E : EndsD} {ds : List Sl} (b : u E sl → wSeq w u E ds) (a : u E sl) : wSeq w u E ds := b a
end
end VL
set_option Elab.async false
set_option linter.all false
set_option maxRecDepth 100000
set_option maxHeartbeats 2000000
namespace VL
open PySem PySem.Spec PyProof.Rows L2
structure ScI (K : PySem.W.Frag) (C : Addr) : Prop where
  ex : ∃ mc, ClX.CRead K C mc ∧ PySem.W.findCls K (.ref C) mc "__init__" = some (.val (.builtin "ValueError.__init__"))
section
variable {X : Cx} {e : Expr} {es : List Expr} {ta : TA} {x : Str} {C : Addr} {p1 p2 pos : Pos}
theorem pe_scinit {pl : Sem Bool} (hg : Gl X x) (hm : X.mg x = some (.ref C)) (c : ScI X.K C) (ha : PA X (e :: es) ta) (hdb : (x == ("__debug__" : Str)) = false := by decide)
    (hc : eval (.Call (.Attribute (.Name x p1) "__init__" p2) (e :: es) [] pos) X.env = (do
      let ov ← eval (.Name x p1) X.env
      standAt p2.atName
      let (f, first) ← holding [ov] (getMethod ov "__init__" pl)
      callWith pos f first (backTo pos (starEach (e :: es) X.env)) (backToKw pos (keywordEach [] X.env))) := by rfl)
    (he : starEach (e :: es) X.env = (false, eval e X.env) :: starEach es X.env := by rfl) (hpl : (backTo pos (starEach es X.env)).any (·.1) = false := by rfl) :
    PE X (.Call (.Attribute (.Name x p1) "__init__" p2) (e :: es) [] pos) (tVeI X.K ta) := by
  have hT : PE X (.Name x p1) (tC (.ref C)) := pe_glob hg hm rfl hdb
  obtain ⟨mc, r, hf⟩ := c.ex
  refine ⟨fun pins s σ H Q I h => ?_⟩
  refine PySem.W.methodCall_KW (pl := pl) (thn (hT.run pins s σ H (fun y H1 => y = .ref C ∧ H1 = H) I ⟨rfl, rfl⟩) fun u s1 ⟨y, H1, I1, rx, ex, eh⟩ => ?_) hc
  subst ex eh
  obtain rfl : u = Value.ref C := rx
  refine PySem.W.method_cls I1.kIn r.ga (PySem.W.cls_value I1.kIn r.rd hf (by decide +kernel) ?_)
  have I2 := I1.tok (s1.toks + 1)
  show wpAny _ _ (callWith pos (Value.builtin "ValueError.__init__") [] (backTo pos (starEach (e :: es) X.env)) []) _ _ _
  refine PyProof.Rows.callWith_method1 (thn (ha.run pos pins _ σ H1 _ I2 h) fun us s3 ⟨vs, H2, I3, rv, a, C', ws, ev, hl, T, ea, q⟩ => ?_) he hpl
  subst ev
  cases rv with
  | @cons _ u0 _ ur ra rw' =>
    obtain rfl : u0 = Value.ref a := ra
    have hlen : ur.length ≤ sizeLine := by
      rw [← Paired.length rw', sizeLine_eq]
      omega
    exact oinit_ok T I3 ea hlen fun s' J => ⟨.non, H2, J, rfl, q⟩
end
abbrev XF := List (Str × (Str ⊕ Nat))
def xfU (F : XF) (ys : List V) : List V := F.map fun p => match p.2 with | .inl z => .str z | .inr i => ys.getD i .non
def xfV (F : XF) (ys : List V) : List (Str × V) := (F.map (·.1)).zip (xfU F ys)
def xfD (F : XF) (ds : List D) : List D := F.map fun p => match p.2 with | .inl z => .str z | .inr i => ds.getD i .non
theorem xf_len (F : XF) (ys : List V) : (xfU F ys).length = (F.map (·.1)).length := by simp [xfU]
theorem xf_reps {K : PySem.W.Frag} {M : Addr → Prop} {H : Hp} {ds : List D} {vs : List V} (r : Reps K M H ds vs) : ∀ F : XF, Reps K M H (xfD F ds) (xfU F vs)
  | [] => reps_nil
  | (n, .inl z) :: F => reps_cons rep_str (xf_reps r F)
  | (n, .inr i) :: F => by
    refine reps_cons ?_ (xf_reps r F)
    show Rep K M H (ds.getD i .non) (vs.getD i .non)
    rw [List.getD_eq_getElem?_getD, List.getD_eq_getElem?_getD]
    cases q : ds[i]? with
    | some d =>
      obtain ⟨v, e, rv⟩ := r.get q
      rw [e]
      exact rv
    | none =>
      have : vs[i]? = none := by
        rw [List.getElem?_eq_none_iff, r.len, ← List.getElem?_eq_none_iff]
        exact q
      rw [this]
      exact rep_non
def spE (C : Addr) (F : XF) (n : Nat) : Sp := fun vs H Q _ => ∃ a ys H1, vs = .ref a :: ys ∧ ys.length = n ∧ H = upd H1 a (exo a C none) ∧ H1 a = none ∧
  ∀ d H2, H1 d = none → d ≠ a → H2 a = some (exo a C (some d)) → H2 d = some (exd d (xfV F ys)) → (∀ b, b ≠ a → b ≠ d → H2 b = H1 b) → Q .non H2
section
variable {X : Cx} {W : Wd} {e : Expr} {es : List Expr} {l : WL} {x : Str} {C fI : Addr} {k n : Nat} {F : XF} {fd : FuncData} {ps : List Str} {PX : D → Prop} {p pos pos2 : Pos}
def wRaise (C : Addr) (F : XF) (n : Nat) (PX : D → Prop) (l : WL) : WS := fun _ ds => l ds fun xs => xs.length = n ∧ n ≤ 1000 ∧ PX (.ins C (F.map (·.1)) (xfD F xs))
theorem vs_raise (T : OexC X.K C) (iC : PySem.W.findIn X.K (.ref C) "__init__" = some (some (.ref fI))) (tI : PySem.W.typeIn X.K (.ref fI) = some (.type "function")) (F1 : FnOk X.prog X.w X.K X.mg X.base CX0 k fI fd ps (spE C F n)) (hr : Room (k + 1) X.A)
    (hb : Binds X.K fd ps []) (hg : Gl X x) (hm : X.mg x = some (.ref C)) (hc : X.calm = true) (tk : Takes X (XW X.K W PX)) (ha : VA X W (e :: es) l) (hdb : (x == ("__debug__" : Str)) = false := by decide)
    (he : starEach (e :: es) X.env = (false, eval e X.env) :: starEach es X.env := by rfl) (hpl : (backTo pos (starEach es X.env)).any (·.1) = false := by rfl) : VS X W (.Raise (some (.Call (.Name x p) (e :: es) [] pos)) none pos2) (wRaise C F n PX l) := by
  refine ps_imp (ps_raise hc tk (pmk_oex (dvs := []) T iC tI F1 hr hb .nil pass0 hg hm ha hdb he hpl)) fun D σ H h => ?_
  obtain ⟨M0, H0, oa, ds, E, S, hw, _⟩ := h
  refine ⟨M0, H0, oa, ds, _, S, hw, fun xs vs H1 hx e1 i1 r1 => ⟨by rw [r1.len, hx.1]; exact hx.2.1, fun a na => ?_⟩⟩
  obtain ⟨hl, _, hp⟩ := hx
  have r1' := r1.len
  refine ⟨a, vs, H1, by rw [List.append_nil], by rw [r1', hl], rfl, na, fun d H2 nd ne ea ed hrest => ⟨rfl, d, xfV F vs, ea, ed, nd, ?_⟩⟩
  have eH : upd (del H2 a) d (.xd (xfV F vs)) = upd H1 d (.xd (xfV F vs)) := by
    funext b
    by_cases hb1 : b = d
    · rw [hb1, upd_same, upd_same]
    · rw [upd_ne hb1, upd_ne hb1]
      by_cases hb2 : b = a
      · rw [hb2, del_same, na]
      · rw [del_ne hb2, hrest b hb2 hb1]
  rw [eH]
  have f := Full.new (o := HO.xd (xfV F vs)) nd
  refine ⟨C, F.map (·.1), xfD F xs, xfU F vs, d, rfl, rfl, hp, S.fh.trans (S.ext.trans (e1.trans f.ext)), W.keep _ _ i1 f, ?_, xf_len F vs, upd_same⟩
  exact (xf_reps r1 F).car fun b o nb q => ⟨fun z => nb (.inl (S.fm b z)), f b o q⟩
end
structure MidE (H1 G : Hp) (a C d : Addr) (fs : List (Str × V)) : Prop where
  ea : G a = some (exo a C (some d))
  ed : G d = some (exd d fs)
  rest : ∀ b, b ≠ a → b ≠ d → G b = H1 b
theorem MidE.first {H1 : Hp} {a C d : Addr} {p : Str × V} (nd : upd H1 a (exo a C none) d = none) (ne : d ≠ a) : H1 d = none ∧ MidE H1 (upd (upd (upd H1 a (exo a C none)) d (exd d [p])) a (exo a C (some d))) a C d [p] := by
  refine ⟨by rw [upd_ne ne] at nd; exact nd, upd_same, by rw [upd_ne ne, upd_same], fun b h1 h2 => ?_⟩
  rw [upd_ne h1, upd_ne h2, upd_ne h1]
theorem MidE.next {H1 G : Hp} {a C d : Addr} {p : Str × V} {fs : List (Str × V)} (m : MidE H1 G a C d fs) (ne : d ≠ a) : MidE H1 (upd G d (exd d (p :: fs))) a C d (p :: fs) :=
  ⟨by rw [upd_ne (Ne.symm ne)]; exact m.ea, upd_same, fun b h1 h2 => by rw [upd_ne h2]; exact m.rest b h1 h2⟩
end VL
set_option Elab.async false
set_option linter.all false
set_option maxRecDepth 100000
set_option maxHeartbeats 2000000
namespace VL
open PySem PySem.Spec PyProof.Rows L2
def excW (d : Addr) (fs : List (Str × V)) : Wd where
  A b := b = d
  I H := H d = some (.xd fs)
  live := fun H b h hb => by rw [hb, h]; simp
  nx := fun H b φ h hb => by rw [hb, h]; intro z; cases z
  stay := fun H H' h k _ _ => (k d rfl).trans h
def dOf : V → D
  | .str z => .str z
  | v => .hnd v
theorem rep_dOf {K : PySem.W.Frag} {M : Addr → Prop} {H : Hp} (v : V) : Rep K M H (dOf v) v := by
  cases v <;> first | exact rep_str | exact (by unfold dOf Rep; rfl)
theorem dOf_inv {K : PySem.W.Frag} {M : Addr → Prop} {H : Hp} {v u : V} (h : Rep K M H (dOf v) u) : u = v := by
  cases v <;> (unfold dOf Rep at h; exact h)
theorem dOfs_inv {K : PySem.W.Frag} {M : Addr → Prop} {H : Hp} : ∀ {vs us : List V}, Reps K M H (vs.map dOf) us → us = vs
  | [], _, h => h.inv0
  | _ :: _, _, h => by
    obtain ⟨v, r, rfl, h1, h2⟩ := h.inv
    rw [dOf_inv h1, dOfs_inv h2]
def excNames : List Str := ["code", "given", "part", "at", "command", "path", "one", "other", "name", "row", "operation", "most"]
def excB (K : PySem.W.Frag) (C : Addr) : Bool := xfB K C && excNames.all fun n => decide (PySem.W.findIn K (.ref C) n = some none)
structure ExcK (K : PySem.W.Frag) (C : Addr) : Prop where
  xf : XfC K C
  no : ∀ n ∈ excNames, PySem.W.findIn K (.ref C) n = some none
theorem excK_of {K : PySem.W.Frag} {C : Addr} (h : excB K C = true) : ExcK K C := by
  obtain ⟨h1, h2⟩ := Bool.and_eq_true_iff.mp h
  exact ⟨xfB_ok h1, fun n hn => of_decide_eq_true (List.all_eq_true.mp h2 n hn)⟩
structure ExcAt (K : PySem.W.Frag) (d : Addr) (oe : Obj) : Prop where
  ex : ∃ C vs, ExcK K C ∧ oe.cls = .ref C ∧ oe.dict = some d ∧ oe.data = .fields vs
section
variable {X : Cx} {a d : Addr} {oe : Obj} {fs : List (Str × V)} {e : Expr} {w : WE} {pos : Pos} {n : Str}
theorem ve_xq (q : ExcAt X.K d oe) (hp : (a, oe) ∈ X.pn) (hn : n ∈ excNames) (he : VE X (excW d fs) e w) (hb : attributeBase e n X.env (eval e X.env) = eval e X.env := by rfl) :
    VE X (excW d fs) (.Attribute e n pos) (fun ds P => w ds fun x => x = .hnd (.ref a) ∧ ∃ v, fs.lookup n = some v ∧ P (dOf v)) := by
  refine ⟨fun pins s σ H Q I h => ?_⟩
  obtain ⟨M0, H0, oa, ds, P, S, hw, kk⟩ := h
  obtain ⟨C, vs, hC, hcls, hdict, hdata⟩ := q.ex
  refine attr_of hb (thn (he.run pins s σ H (fun x H1 => x = .ref a ∧ Ext (excW d fs) H H1 ∧ (excW d fs).I H1 ∧ ∃ v, fs.lookup n = some v ∧ P (dOf v)) I ⟨M0, H0, oa, ds, _, S, hw, fun x v H1 hx e1 i1 r1 => ?_⟩) fun u s1 hh => ?_)
  · obtain ⟨rfl, v', hl, hp⟩ := hx
    have : v = .ref a := by unfold Rep at r1; exact r1
    exact ⟨this, e1, i1, v', hl, hp⟩
  obtain ⟨x, H1, I1, rx, ex, e1, i1, v, hl, hpp⟩ := hh
  subst ex
  obtain rfl : u = Value.ref a := rx
  obtain ⟨ha, _⟩ := I1.pin (a, oe) (List.mem_append_left _ hp)
  have hx : ObjOk X.prog X.w H1 s1.heap d (.xd fs) := I1.hok d _ i1
  obtain ⟨mA, hns, hr⟩ := hx
  obtain ⟨od, ho, hlk⟩ := lookIn_ns hns
  obtain ⟨u, hu, ru⟩ := RelO.some_of (v := v) (o := mA n) (by rw [← hl]; exact hr n)
  have J : PySem.W.InstAt s1.heap a oe C (some od) := ⟨ha, hcls, by unfold PySem.W.notCls; rw [hdata] <;> rfl, by rw [hdict]; exact ho⟩
  exact HandSPX.exc_get I1.kIn J hC.xf.ga hC.xf.gg hC.xf.exC (PySem.W.findObj_own hC.xf.hdC (hC.no n hn) rfl (by rw [hlk, hu])) (handed_of ru) ⟨v, H1, I1.tok _, ru, kk _ _ _ hpp e1 i1 (rep_dOf v)⟩
theorem pe_xfN {cls : Value} {d : Option Addr} {pn : List (Addr × Obj)} {x : Str} {p1 : Pos} {i : Nat} (hz : Zc cls d oe) (hf : ∃ vs, oe.data = .fields vs) (hn : n ∈ excNames) (hN : X.N[i]? = some x) (hv : Vis X.env.scope x) (hd : (x == ("__debug__" : Str)) = false := by decide) (hcd : (x == ("__classdict__" : Str)) = false := by decide)
    (hb : attributeBase (.Name x p1) n (X.suite a ((a, oe) :: pn)).env (eval (.Name x p1) (X.suite a ((a, oe) :: pn)).env) = eval (.Name x p1) (X.suite a ((a, oe) :: pn)).env := by rfl) :
    PE (X.suite a ((a, oe) :: pn)) (.Attribute (.Name x p1) n pos) (fun σ H Q => σ[i]? = some (some (.ref a)) ∧ ∃ C dd fs v, ExcK X.K C ∧ cls = .ref C ∧ d = some dd ∧ H dd = some (.xd fs) ∧ fs.lookup n = some v ∧ Q v H) := by
  refine ⟨fun pins s σ H Q I h => ?_⟩
  obtain ⟨h1, C, dd, fs, v, hC, hc, hd1, hx, hl, q⟩ := h
  exact (pe_xf (X := X) (C := C) hC.xf (hC.no n hn) hz hf (pe_var (X := X.suite a ((a, oe) :: pn)) (pos := p1) hN hv hd hcd) hb).run pins s σ H Q I ⟨_, h1, rfl, hc, dd, fs, v, hd1, hx, hl, q⟩
end
structure FnQ (P : Program) (w : World) (K : PySem.W.Frag) (mg : Str → Option Value) (base : Heap) (k : Nat) (f : Addr) (fd : FuncData) (ps : List Str) (sp : Addr × Obj → List V → Hp → L2.VK → Prop) : Prop where
  len : ∀ p vs H Q, sp p vs H Q → vs.length = ps.length
  run : ∀ (A : Around) (outer : List Env) (s : Shared) (H : Hp) (args : Args) (us : List Value) (vs : List V) (Q : L2.VK) (p : Addr × Obj), L2H.RoomH k A → L2H.PinOk outer H s p → Env0 P w K mg base A outer s H → BindsTo s fd args (ps.zip us) → Vals vs us → sp p vs H Q →
    codeAny (model P w) A (.call (.ref f) args) (CR CX0 outer P w H s Q (fun _ _ _ => False)) s
theorem fnq_of {P : Program} {w : World} {K : PySem.W.Frag} {mg : Str → Option Value} {base : Heap} {k : Nat} {f : Addr} {fd : FuncData} {x qual : Str} {st : Stmt} {N ps : List Str} {sp : Addr × Obj → List V → Hp → L2.VK → Prop} (F : Fun K x qual st f fd) (S : FnScope N ps (defScope st))
    (len : ∀ p vs H Q, sp p vs H Q → vs.length = ps.length)
    (hbody : ∀ (cdv : Value) (A : Around) (outer : List Env) (s : Shared) (H : Hp) (vs : List V) (Q : L2.VK) (p : Addr × Obj), L2H.RoomH k (A.deeper (envOfC qual (defScope st) s.heap.objs.size f cdv)) → sp p vs H Q →
      ∃ t, PSs (L2H.cxH CX0 P w K mg base N qual (defScope st) f cdv A outer s H (fun _ _ _ => False) p) (defBody st) t ∧ t { nx := fun _ H' => Q .non H', rt := Q } (L2.start N vs) H) :
    FnQ P w K mg base (k + 1) f fd ps sp := by
  obtain ⟨⟨oc, od, kV, doc, pm, an, cdv, ct, osl, rfl, lk, hcd⟩, hkp⟩ := F
  refine ⟨len, fun A outer s H args us vs Q p hr hpin e0 hb r hsp => ?_⟩
  have hl := len _ _ _ _ hsp
  have KX : K.In s.heap := e0.mod.kin.keeps fun b o e => (e0.bs b o e).1
  have lim : s.heap.NoLimit := e0.mod.nolimit.keeps fun b o e => (e0.bs b o e).1
  have hkind : ∀ y ∈ ps.zip us, (defScope st).names.lookup y.1 = some .local ∨ ((defScope st).names.lookup y.1 = some .cell ∧ ((cellsFrom (s.heap.objs.size + 1) (defScope st).names []).lookup y.1).isSome = true) := fun ⟨n, v⟩ hy => by
    rcases S.par n (List.of_mem_zip hy).1 with q | q
    · exact .inl q
    · exact .inr ⟨q, PySem.W.cellsFrom_some _ _ _ (.inl q)⟩
  refine codeAny_call_function hr.depth (KX _ _ lk) rfl S.co S.gen rfl (PySem.W.codeRec_of KX hcd) (hb _ _ _ _ ?_)
  refine wpAny_newFunctionEnv_cells S.kind hkind fun env he s1 xx => ?_
  subst he
  refine ⟨lim.keeps xx.toInCall.keep, codeAny_func ?_⟩
  obtain ⟨t, ht, hq⟩ := hbody cdv A outer s H vs Q p (hr.deeper _) hsp
  have I : L2.Inv (L2H.cxH CX0 P w K mg base N qual (defScope st) f cdv A outer s H (fun _ _ _ => False) p) [] (L2.start N vs) H s1 := L2H.inv_startH S hpin e0 hl r xx
  refine wpAny_mono (ht.run [] s1 (L2.start N vs) H _ I hq) (fun fl s' hs => ?_) fun e s' hs => hs
  cases fl with
  | ret u =>
    obtain ⟨v, σ', H', J, rv, q⟩ := hs
    exact ⟨v, H', J.os, J.bare, J.base, J.hok, rv, q⟩
  | next =>
    obtain ⟨σ', H', J, q⟩ := hs
    exact ⟨.non, H', J.os, J.bare, J.base, J.hok, rfl, q⟩
  | brk =>
    obtain ⟨_, _, _, q⟩ := hs
    exact False.elim q
  | cont =>
    obtain ⟨_, _, _, q⟩ := hs
    exact False.elim q
section
variable {X : Cx} {a f : Addr} {oe : Obj} {pos p p1 : Pos} {x y : Str} {i k : Nat} {fd : FuncData} {ps : List Str} {pn : List (Addr × Obj)} {sp : Addr × Obj → List V → Hp → L2.VK → Prop}
theorem pe_exarg (F : FnQ X.prog X.w X.K X.mg X.base k f fd ps sp) (hr : L2H.RoomH k (X.suite a ((a, oe) :: pn)).A) (hg : Gl X x) (hm : X.mg x = some (.ref f)) (hk : PySem.W.keepIn X.K (.ref f) = true) (hb : Binds X.K fd ps [])
    (hN : X.N[i]? = some y) (hv : Vis X.env.scope y) (hd : (y == ("__debug__" : Str)) = false := by decide) (hcd : (y == ("__classdict__" : Str)) = false := by decide) (hdb : (x == ("__debug__" : Str)) = false := by decide)
    (he : starEach [.Name y p1] X.env = (false, eval (.Name y p1) X.env) :: starEach [] X.env := by rfl) (hpl : (backTo pos (starEach [] X.env)).any (·.1) = false := by rfl) :
    PE (X.suite a ((a, oe) :: pn)) (.Call (.Name x p) [.Name y p1] [] pos) (fun σ H Q => σ[i]? = some (some (.ref a)) ∧ sp (a, oe) [.ref a] H Q) := by
  refine ⟨fun pins s σ H Q I h => ?_⟩
  obtain ⟨h1, hsp⟩ := h
  refine wpAny_Call_Name_kw (ld_glob I hg hm ?_ hdb)
  have hA : PA (X.suite a ((a, oe) :: pn)) [.Name y p1] _ := pa_cons (pe_var (X := X.suite a ((a, oe) :: pn)) (pos := p1) hN hv hd hcd) pa_nil
  refine PySem.W.callWith_K (h₀ := X.base) I.ok.mod.kin hk (thn (hA.run pos pins s σ H (fun vs H1 => vs = [.ref a] ∧ H1 = H) I ⟨_, h1, rfl, rfl⟩) fun us s1 ⟨vs, H1, I1, rv, ev, eH⟩ => ⟨I1.kIn, ?_⟩) he hpl
  subst ev eH
  have P1 := I1.pin (a, oe) (List.mem_append_left _ List.mem_cons_self)
  have hpin : L2H.PinOk (X.suite a ((a, oe) :: pn)).stack H1 s1 (a, oe) := ⟨P1.1, P1.2.1, fun hm => (List.mem_cons.mp (I1.stkSub a hm)).elim P1.2.2.1 P1.2.2.2.1, P1.2.2.2.2⟩
  have hus : us.length = ps.length := by rw [← Paired.length rv]; exact F.len _ _ _ _ hsp
  have hbi := hb s1 us I1.kIn (by rw [List.append_nil]; exact hus)
  rw [List.append_nil] at hbi
  refine wpAny_call (codeAny_mono (F.run (X.suite a ((a, oe) :: pn)).A (X.suite a ((a, oe) :: pn)).stack s1 H1 ⟨us, []⟩ us [.ref a] Q (a, oe) hr hpin I1.env0 hbi rv hsp) fun r s2 hq => ?_)
  cases r with
  | error er => exact (show False from hq).elim
  | ok fl =>
    cases fl with
    | ret u => exact I1.after hq
    | next => exact False.elim hq
    | brk => exact False.elim hq
    | cont => exact False.elim hq
end
end VL
set_option Elab.async false
set_option linter.all false
set_option maxRecDepth 100000
set_option maxHeartbeats 4000000
namespace VL
open PySem PySem.Spec PyProof.Rows L2
theorem _root_.L2H.RoomH.units {k : Nat} {A : Around} (r : L2H.RoomH k A) : A.units + 64 < cLine := by have := r.un; omega
theorem flyZ_keeps {B : Heap} {l : List Env} {e : Addr} {Z : Obj → Prop} {h h' : Heap} (R : PySem.HandSPX.FlyingZ B l e Z h) (k : ∀ b o, h.get? b = some o → h'.get? b = some o) : PySem.HandSPX.FlyingZ B l e Z h' := by
  obtain ⟨f1, f2, f3, oe, vs, T, oT, ts, he, hz, hd, h1, hnT, hTe, hT, hdT, h3⟩ := R
  exact ⟨fun b o q => k b o (f1 b o q), f2, f3.of_keeps fun b o q _ => ⟨o, k b o q, rfl⟩, oe, vs, T, oT, ts, k _ _ he, hz, hd, h1, hnT, hTe, k _ _ hT, hdT, h3⟩
def wExc3 (K : PySem.W.Frag) (cs : List Value) (i : Nat) (ts : Addr → Value → Option Addr → TS) (D : Ends) : WX := fun cls d σ H => PySem.W.exmAny K cls cs = some true ∧
  ∀ a, H a = none → ts a cls d { nx := fun σ' H' => D.nx (σ'.set i none) H', rt := D.rt, bk := fun σ' H' => D.bk (σ'.set i none) H', ct := fun σ' H' => D.ct (σ'.set i none) H' } (σ.set i (some (.ref a))) H
section
variable {X : Cx} {x1 x2 x3 n : Str} {c1 c2 c3 : Addr} {i kk : Nat} {body suite : List Stmt} {b₀ : Stmt} {np1 np2 np3 tp pos pos' : Pos} {tb : WX → TS} {ts : Addr → Value → Option Addr → TS}
theorem ps_try_tup3 (hs : X.stack = X.env :: X.outer) (hf : X.env.frame = some X.env.locals) (hN : X.N.Nodup) (hi : X.N[i]? = some n) (hln : X.env.kindOf n = some .local) (g1 : Gl X x1) (m1 : X.mg x1 = some (.ref c1)) (g2 : Gl X x2) (m2 : X.mg x2 = some (.ref c2)) (g3 : Gl X x3) (m3 : X.mg x3 = some (.ref c3))
    (hb : ∀ (W : WX) (pn : List (Addr × Obj)) (xe : Value → Shared → Prop), Takes (X.tr pn xe) W → PassesOwn (model X.prog X.w) X.A X.env xe → PSs (X.tr pn xe) body (tb W))
    (hsu : ∀ (a : Addr) (oe : Obj) (cls : Value) (d : Option Addr) (pn : List (Addr × Obj)), Zc cls d oe → (∃ vs, oe.data = .fields vs) → PSs (X.suite a ((a, oe) :: pn)) (b₀ :: suite) (ts a cls d))
    (d1 : (x1 == ("__debug__" : Str)) = false := by decide) (d2 : (x2 == ("__debug__" : Str)) = false := by decide) (d3 : (x3 == ("__debug__" : Str)) = false := by decide) :
    PS X (.Try body [.ExceptHandler (some (.Tuple [.Name x1 np1, .Name x2 np2, .Name x3 np3] kk tp)) (some n) (b₀ :: suite) pos'] [] [] pos) (fun D σ H => tb (wExc3 X.K [.ref c1, .ref c2, .ref c3] i ts D) D σ H) := by
  refine ⟨fun pins s σ H D I h => ?_⟩
  have ok := I.ok
  have hfr : X.A.frames = some (X.env :: X.outer) := by rw [ok.frames, hs]
  refine wpAny_Try_except ?_
  refine wpAny_mono ((hb (wExc3 X.K [.ref c1, .ref c2, .ref c3] i ts D) (X.pn ++ pins) (fun e s₁ => wpAny (model X.prog X.w) X.A (noteFrame e X.env) (fun _ s₂ => wpAny (model X.prog X.w) X.A (setFlight e none) (fun _ s₃ =>
    wpAny (model X.prog X.w) X.A (handleBy e X.env [.ExceptHandler (some (.Tuple [.Name x1 np1, .Name x2 np2, .Name x3 np3] kk tp)) (some n) (b₀ :: suite) pos']) (SP X pins D) X.xe s₃) X.xe s₂) X.xe s₁) (fun u s' xx => ?_) PassesOwn.looking).run [] s σ H D (I.toTry _) h) (fun f s1 hsp => ?_) (fun e s1 he => he)
  · obtain ⟨a, B, sI, pins', σ', H', cls, d, rfl, J', nb, up, sky, na, os, ag, hb1, hyes⟩ := xx
    have J : L2.Inv X pins σ' H' sI := J'.ofTry ok
    have sky' : Sky B (X.env :: X.outer) a (Zc cls d) X.env.locals s'.heap := by rw [← hs]; exact sky
    show wpAny (model X.prog X.w) X.A (noteFrame (.ref a) X.env) _ _ _
    refine Sky.land Zc.steady hfr hf sky' fun h3 fl3 up3 => ?_
    have J3 : L2.Inv X pins σ' H' { s' with heap := h3 } := J.landed nb fl3.1 (up.trans up3) os ag
    obtain ⟨oe3, vs3, he3, hz3, hd3⟩ := fl3.there
    have nfr : a ∉ frs (X.env :: X.outer) := fun hm => by
      obtain ⟨_, o', e', hnf⟩ := fl3.2.2.1.mem hm
      rw [he3] at e'; cases e'
      exact hnf _ hd3
    have nL : a ≠ X.env.locals := fun z => nfr (List.mem_filterMap.mpr ⟨X.env, List.mem_cons_self, by rw [hf, z]⟩)
    have nF : a ∉ X.fs := fun hm => by
      obtain ⟨e, he, q⟩ := List.mem_filterMap.mp hm
      exact nfr (List.mem_filterMap.mpr ⟨e, List.mem_cons_of_mem _ he, q⟩)
    have S3 := J3.suite he3 hd3 na nL nF
    refine wpAny_handleBy_cons (codeAny_handlers_test ?_) (by intro q; cases q)
    have LT : PySem.W.Looks (model X.prog X.w) h3 (typeOf (.ref a)) cls := fun A Q E s k q => wpAny_typeOf_ref (k _ _ he3) (by rw [hz3.1]; exact q)
    refine wpAny_Tuple ?_
    refine wpAny_items_cons (ld_glob (X := X.suite a ((a, oe3) :: (X.pn ++ pins))) S3 g1 m1 ?_ d1)
    refine wpAny_items_cons (ld_glob (X := X.suite a ((a, oe3) :: (X.pn ++ pins))) S3 g2 m2 ?_ d2)
    refine wpAny_items_cons (ld_glob (X := X.suite a ((a, oe3) :: (X.pn ++ pins))) S3 g3 m3 ?_ d3)
    refine wpAny_items_nil ⟨by size_fits, ?_⟩
    have kp : ∀ q o, h3.get? q = some o → (h3.push { cls := .type "tuple", data := .seq [Value.ref c1, .ref c2, .ref c3].toArray }).get? q = some o := fun _ _ z => Heap.get?_push_of_some _ z
    refine (PySem.W.exm_tup3 (J3.kIn.keeps kp) (LT.keeps kp) (Heap.get?_push_size h3 rfl) hb1).here ?_
    have fl5 := flyZ_keeps fl3 kp
    have up5 := (up.trans up3).trans (Heap.UpToSlots.of_keeps kp)
    refine codeAny_handlers_suite_as ?_
    refine PySem.HandSPX.lands_againZ fl5 fun h4 fl4 up4 => ?_
    have J4 : L2.Inv X pins σ' H' { s' with heap := h4 } := J.landed nb fl4.1 (up5.trans up4) os ag
    obtain ⟨oe4, vs4, he4, hz4, hd4⟩ := fl4.there
    have S4 := J4.suite he4 hd4 na nL nF
    refine store_ok (X := X.suite a ((a, oe4) :: (X.pn ++ pins))) (v := .ref a) S4 hN hi (.inl hln) rfl (fun s5 S5 => ?_) (.inr hln)
    refine wpAny_mono ((hsu a oe4 cls d (X.pn ++ pins) hz4 ⟨_, hd4⟩).run [] s5 _ H' _ S5 (hyes a na)) (fun f s6 hsp => ?_) (fun _ _ z => False.elim z)
    have end_ : ∀ {σ6 : L2.St} {H6 : Hp} {Q : Shared → Prop}, L2.Inv (X.suite a ((a, oe4) :: (X.pn ++ pins))) [] σ6 H6 s6 → (∀ s7, L2.Inv X pins (σ6.set i none) H6 s7 → Q s7) →
        wpAny (model X.prog X.w) X.A (do bindName X.env n .none; unbindBehindTheSuite X.env n pos') (fun _ s7 => Q s7) X.xe s6 := fun {σ6 H6 Q} S6 hq => gone_ok (S6.unsuite ok) hN hi hln hq
    cases f with
    | next =>
      obtain ⟨σ6, H6, S6, q6⟩ := hsp
      exact end_ S6 fun s7 J7 => ⟨_, _, J7, q6⟩
    | brk =>
      obtain ⟨σ6, H6, S6, q6⟩ := hsp
      exact end_ S6 fun s7 J7 => ⟨_, _, J7, q6⟩
    | cont =>
      obtain ⟨σ6, H6, S6, q6⟩ := hsp
      exact end_ S6 fun s7 J7 => ⟨_, _, J7, q6⟩
    | ret u =>
      obtain ⟨v6, σ6, H6, S6, r6, q6⟩ := hsp
      exact end_ S6 fun s7 J7 => ⟨_, _, _, J7, r6, q6⟩
  · cases f with
    | next =>
      obtain ⟨σ', H', J', q⟩ := hsp
      exact wpAny_execs_nil ⟨σ', H', J'.ofTry ok, q⟩
    | brk =>
      obtain ⟨σ', H', J', q⟩ := hsp
      exact ⟨σ', H', J'.ofTry ok, q⟩
    | cont =>
      obtain ⟨σ', H', J', q⟩ := hsp
      exact ⟨σ', H', J'.ofTry ok, q⟩
    | ret u =>
      obtain ⟨v, σ', H', J', r, q⟩ := hsp
      exact ⟨v, σ', H', J'.ofTry ok, r, q⟩
end
end VL
set_option Elab.async false
set_option linter.all false
set_option maxRecDepth 100000
set_option maxHeartbeats 4000000
namespace VL
open PySem PySem.Spec PyProof.Rows L2 LamX
abbrev lamQ (X : Cx) : Str := X.env.qual ++ "<lambda>"
def ExtP (P : Addr) (H H' : Hp) : Prop := ∀ b o, b ≠ P → H b = some o → H' b = some o
section
variable {X : Cx} {pins : List (Addr × Obj)} {σ : L2.St} {H : Hp} {s : Shared}
theorem TabS.more {P c : Addr} {q : Str} {ps : Array Value} {l k : Value} (nPc : P ≠ c) (nC : H c = none) (ht : TriplesOk ps.toList) (hP : H P = some (.tbl ps)) (ha : ∀ (pos : Pos) (cv : Value), codeAmong pos ps.toList = some cv → ∃ c, cv = .ref c ∧ H c = some (CodeO c q)) (pos : Pos) :
    TabS (upd (upd H P (.tbl (ps ++ #[rawInt pos.line, rawInt pos.col, .ref c]))) c (CodeO c q)) P q := by
  have eL : (ps ++ #[rawInt pos.line, rawInt pos.col, .ref c]).toList = ps.toList ++ [rawInt pos.line, rawInt pos.col, .ref c] := by simp
  refine ⟨_, by rw [upd_ne nPc, upd_same], by rw [eL]; exact PySem.TriplesOk_snoc _ _ _ _ ht, fun p' cv hcv => ?_⟩
  rw [eL] at hcv
  rcases among_app _ ht hcv with z | z
  · obtain ⟨c0, e1, e2⟩ := ha p' cv z
    refine ⟨c0, e1, ?_⟩
    rw [upd_ne (ne_of_none e2 nC), upd_ne (fun z => codeO_ne ps (Option.some.inj (e2.symm.trans (by rw [z]; exact hP))))]
    exact e2
  · exact ⟨c, z, upd_same⟩
theorem lam_make3 {c P : Addr} {params : Arguments} {body : Expr} {scope : Scope} {pos : Pos} {E : Value → Shared → Prop} {Q : Value → Shared → Prop} (I : L2.Inv X pins σ H s) (TB : TabB X.base X.mg c P) (hcode : X.env.code = .ref c)
    (hT : TabS H P (lamQ X)) (hdef : defaultsOf params X.env = ([], [])) (hfree : ∀ y ∈ scope.names, y.2 = .free → ∃ c, X.env.cells.lookup y.1 = some c)
    (h : ∀ (f c' : Addr) (pm ctv : Value) (H1 : Hp) (s' : Shared), L2.Inv X pins σ H1 s' → ExtP P H H1 → TabS H1 P (lamQ X) →
      s'.heap.get? f = some (PySem.W.kla_obj "<lambda>" (lamQ X) params body scope (cloFrom X.env.cells scope.names []) pm c' ctv) → H1 f = none → f ∉ frs X.stack → H1 c' = some (CodeO c' (lamQ X)) → Q (.ref f) s') :
    wpAny (model X.prog X.w) X.A (eval (.Lambda params body scope pos) X.env) Q E s := by
  obtain ⟨ps, hP, ht, ha⟩ := hT
  refine PySem.W.kla_eval hdef ?_
  have bP : s.heap.BuiltinsAt X.mg P := TB.bm.keeps I.bk
  have hP' : s.heap.get? P = some { cls := .none, data := .fields ps } := I.hok P _ hP
  have above : ∀ f, s.heap.objs.size ≤ f → f ∉ frs X.stack := fun f hf z => by
    rcases List.mem_cons.mp (I.stkSub _ z) with e | e
    · have h1 := I.lt
      rw [← e] at h1
      exact Nat.lt_irrefl _ (Nat.lt_of_lt_of_le h1 hf)
    · exact I.nofs hf e
  cases hc : codeAmong pos ps.toList with
  | none =>
    refine PySem.W.kla_makeFunction (mg := X.mg) (c := c) (P := P) (ps := ps) (closure_ok hfree) I.ok.glob (I.mod.glob.keeps I.bk) hcode (TB.code.keeps I.bk) hP' ht hc TB.gP bP fun c' ctv h' tk hx hge hlt hrec htb => ?_
    obtain ⟨c2, oc, vs, t, e2, hoc, hd, hv⟩ := hrec
    cases e2
    have nC : H c' = none := I.hok.fresh hge
    have nPc : P ≠ c' := ne_of_none hP nC
    have hsz : s.heap.objs.size ≤ h'.objs.size := Nat.le_trans hge (Nat.le_of_lt hlt)
    have J := inv_table (t' := tk) (q := lamQ X) (more := #[rawInt pos.line, rawInt pos.col, .ref c']) (h' := h'.push (PySem.W.kla_obj "<lambda>" (lamQ X) params body scope (cloFrom X.env.cells scope.names []) ((X.mg "__name__").getD .none) c' ctv)) I hP
      (fun b o hb e => Heap.get?_push_of_some _ (hx b o hb e)) (Heap.get?_push_of_some _ htb) hge ⟨oc, vs, t, Heap.get?_push_of_some _ hoc, hd, hv⟩
    refine h h'.objs.size c' ((X.mg "__name__").getD .none) ctv _ _ J (fun b o hb e => by rw [upd_ne (ne_of_none e nC), upd_ne hb]; exact e) (TabS.more (l := .none) (k := .none) nPc nC ht hP ha pos) (Heap.get?_push_size _ rfl) ?_ (above _ hsz) upd_same
    rw [upd_ne (Nat.ne_of_gt hlt), upd_ne (Nat.ne_of_gt (Nat.lt_of_lt_of_le (Heap.lt_size hP') hsz))]
    exact I.hok.fresh hsz
  | some cv =>
    obtain ⟨c', e, hco⟩ := ha pos cv hc
    subst e
    refine PySem.W.kla_makeFunctionHit (mg := X.mg) (c := c) (P := P) (ps := ps) (closure_ok hfree) I.ok.glob (I.mod.glob.keeps I.bk) hcode (TB.code.keeps I.bk) hP' ht hc bP fun ctv h' tk hx hsz => ?_
    have J : L2.Inv X pins σ H { s with heap := h'.push (PySem.W.kla_obj "<lambda>" (lamQ X) params body scope (cloFrom X.env.cells scope.names []) ((X.mg "__name__").getD .none) c' ctv), toks := tk } := I.kept fun b o e => Heap.get?_push_of_some _ (hx b o e)
    exact h h'.objs.size c' ((X.mg "__name__").getD .none) ctv H _ J (fun b o _ e => e) ⟨ps, hP, ht, ha⟩ (Heap.get?_push_size _ rfl) (I.hok.fresh hsz) (above _ hsz) hco
end
def GivesT (X : Cx) (Ng : List Str) (x : Str) (sg : Scope) (g : Addr) (cdg : Value) (bg : List Stmt) (a : Str) (q : Str) (k : Nat) (TT : (XK → Hp → L2.VK → Prop) → Hp → L2.VK → Prop) : Prop :=
  ∀ (f c' : Addr) (s : Shared) (H : Hp) (Q : L2.VK) (tl : XK → Hp → L2.VK → Prop), Room k (X.A.deeper (envOfC x sg s.heap.objs.size g cdg)) →
    (∀ (W : WX) (pn : List (Addr × Obj)) (xe : Value → Shared → Prop) (E : XK) (p1 p2 : Pos), Takes ((cxOf CX0 X.prog X.w X.K X.mg X.base Ng x sg g cdg X.A X.stack s H C8.E0).tr pn xe) W → (∀ cls d σ' H', E cls d H' → W cls d σ' H') →
      PE ((cxOf CX0 X.prog X.w X.K X.mg X.base Ng x sg g cdg X.A X.stack s H C8.E0).tr pn xe) (.Call (.Name a p1) [] [] p2) (fun σZ HZ Q => σZ[0]? = some (some (.ref f)) ∧ HZ c' = some (CodeO c' q) ∧ tl E HZ Q)) →
    H c' = some (CodeO c' q) → TT tl H Q →
    ∃ t, PSs (cxOf CX0 X.prog X.w X.K X.mg X.base Ng x sg g cdg X.A X.stack s H C8.E0).nox bg t ∧ t { nx := fun _ H' => Q .non H', rt := Q } (L2.start Ng [.ref f]) H
def tLam3 (P : Addr) (q : Str) (TT : (XK → Hp → L2.VK → Prop) → Hp → L2.VK → Prop) (t : XK → TE) : TE := fun σ H Q => TabS H P q ∧ ∀ H1, ExtP P H H1 → TabS H1 P q → TT (fun E H' Q' => t E σ H' Q') H1 Q
section
variable {X : Cx}
theorem pe_lamcall3 {TT : (XK → Hp → L2.VK → Prop) → Hp → L2.VK → Prop} {x a : Str} {g c P : Addr} {k : Nat} {pg : Arguments} {bg : List Stmt} {sg : Scope} {dV kV doc pm cdv ct oc : Value} {an od : Option Addr} {osl : Array (Option Value)} {Ng : List Str}
    {params : Arguments} {body : Expr} {scope : Scope} {t : XK → TE} {p lpos pos : Pos} (hg : Gl X x) (hm : X.mg x = some (.ref g)) (hk : PySem.W.keepIn X.K (.ref g) = true)
    (lk : X.K.lookup g = some ⟨oc, od, .func (PySem.W.fnOf x x pg bg sg dV kV doc pm an cdv ct), osl⟩) (hcg : PySem.W.codeIn X.K cdv x = true) (hb : L2.Binds X.K (PySem.W.fnOf x x pg bg sg dV kV doc pm an cdv ct) [a] []) (Sg : FnScope Ng [a] sg) (hNg : Ng[0]? = some a) (hva : Vis sg a)
    (hG : GivesT X Ng x sg g cdv bg a (lamQ X) (k + 1) TT)
    (TB : TabB X.base X.mg c P) (hcode : X.env.code = .ref c) (hr : Room (k + 2) X.A) (L : LamS X.env.scope scope) (hdef : defaultsOf params X.env = ([], []))
    (hbind : ∀ (q : Str) (cl : List (Str × Addr)) (pm cv ctv : Value), bindArgs (PySem.W.kla_fn "<lambda>" q params body scope cl pm cv ctv) ⟨[], []⟩ = pure [])
    (hbody : ∀ (A : Around) (outer : List Env) (s : Shared) (H : Hp) (E : XK) (f c' : Addr), Room k (A.deeper (lamEnv X scope s.heap.objs.size f c')) → PE (lamCx X A outer s H E scope f c') body (t E))
    (hdb : (x == ("__debug__" : Str)) = false := by decide) (hd : (a == ("__debug__" : Str)) = false := by decide) (hcd : (a == ("__classdict__" : Str)) = false := by decide) :
    PE X (.Call (.Name x p) [.Lambda params body scope lpos] [] pos) (tLam3 P (lamQ X) TT t) := by
  refine ⟨fun pins s σ H Q I h => ?_⟩
  obtain ⟨hT, h⟩ := h
  refine wpAny_Call_Name_kw (ld_glob I hg hm ?_ hdb)
  refine PySem.W.callWith_K (h₀ := X.base) I.ok.mod.kin hk ?_ (by rfl) (by rfl)
  show wpAny _ _ (spliced ((false, eval (.Lambda params body scope lpos) X.env) :: backTo pos (starEach [] X.env))) _ _ s
  refine Calls.spliced_cons (lam_make3 I TB hcode hT hdef (L.has I.ok) fun f c' pm' ctv H1 s' I1 eN T1 hf hfn hfr hco => ?_)
  refine Calls.spliced_nil ⟨I1.kIn, ?_⟩
  have rc : codeAny (model X.prog X.w) X.A (.call (.ref g) ⟨[.ref f], []⟩) (CR CX0 X.stack X.prog X.w H1 s' Q C8.E0) s' := by
    refine run_ofS (N := Ng) (ps := [a]) (us := [.ref f]) (vs := [.ref f]) lk hcg Sg hr I1.env0 (hb s' [.ref f] I1.kIn rfl) (.cons rfl .nil) rfl fun hr' => ?_
    obtain ⟨t', ht', hq'⟩ := hG f c' s' H1 Q (fun E H' Q' => t E σ H' Q') hr' (fun W pn xe E p1 p2 tk hW => pe_act (i := 0) I1 L hf hfn hfr (hbind _ _ _ _ _) tk hW hr' (fun A outer s H hr2 => hbody A outer s H E f c' hr2) hNg hva hd hcd) hco (h H1 eN T1)
    exact ⟨t', ht'.nox, hq'⟩
  refine wpAny_call (codeAny_mono rc fun r s2 hq => ?_)
  cases r with
  | error e => exact (show False from hq).elim
  | ok fl =>
    cases fl with
    | ret u => exact I1.after hq
    | next => exact False.elim hq
    | brk => exact False.elim hq
    | cont => exact False.elim hq
end
def Wd.tab (W : Wd) (P : Addr) (q : Str) : Wd where
  A b := W.A b ∨ b = P
  I H := W.I H ∧ TabS H P q ∧ ¬ W.A P ∧ ¬ W.B P
  B := W.B
  nx := fun H a φ h ha => by
    rcases ha with ha | rfl
    · exact W.nx H a φ h.1 ha
    · obtain ⟨ps, e, _⟩ := h.2.1
      rw [e]
      intro z
      cases z
  liveB := fun H a h hB => W.liveB H a h.1 hB
  C := W.C
  cb := W.cb
  live := fun H a h ha => by
    rcases ha with ha | rfl
    · exact W.live H a h.1 ha
    · obtain ⟨ps, e, _⟩ := h.2.1
      rw [e]
      simp
  stay := fun H H' h k kx kb => by
    obtain ⟨h1, ⟨ps, e1, e2, e3⟩, h4⟩ := h
    refine ⟨W.stay H H' h1 (fun b hb => k b (.inl hb)) kx kb, ⟨ps, (k P (.inr rfl)).trans e1, e2, fun pos cv hc => ?_⟩, h4⟩
    obtain ⟨c, e, hco⟩ := e3 pos cv hc
    exact ⟨c, e, kx c _ hco⟩
theorem fn_tab {P : Program} {w : World} {K : PySem.W.Frag} {mg : Str → Option Value} {base : Heap} {CX : CXT} {k : Nat} {f : Addr} {fd : FuncData} {ps : List Str} {W : Wd} {g : List D → (D → Prop) → Prop} (hne : ∀ H b φ, W.I H → W.A b → H b ≠ some (.ext φ)) (Pt : Addr) (q : Str)
    (F : FnOk P w K mg base CX k f fd ps (spD K W g)) : FnOk P w K mg base CX k f fd ps (spD K (W.tab Pt q) g) := by
  refine F.imp fun vs H Q E h => ?_
  obtain ⟨M, ds, Pd, m, r, hg, kk⟩ := h
  refine ⟨M, ds, Pd, ⟨fun a ha => m.wm a (.inl ha), m.live, m.wi.1, m.nb, m.nx⟩, r, hg, fun d v H' hp e i rv => kk d v H' hp (fun b o nb hb => e b o (fun z => nb (.inl z)) hb) ⟨i, ?_, m.wi.2.2⟩ rv⟩
  obtain ⟨ps', e1, e2, e3⟩ := m.wi.2.1
  refine ⟨ps', e Pt _ m.wi.2.2.1 e1, e2, fun pos cv hc => ?_⟩
  obtain ⟨c, ec, hco⟩ := e3 pos cv hc
  exact ⟨c, ec, e c _ (fun hA => hne H c _ m.wi.1 hA hco) hco⟩
theorem okC {P : Program} {w : World} {K : PySem.W.Frag} {mg : Str → Option Value} {base : Heap} {CX : CXT} {k : Nat} {x qual : Str} {st : Stmt} {f c : Addr} {fd : FuncData} {N ps : List Str} {sp : Sp} (F : Fun K x qual st f fd) (hc : fd.code = .ref c) (S : FnScope N ps (defScope st))
    (len : ∀ vs H Q E, sp vs H Q E → vs.length = ps.length)
    (hbody : ∀ (A : Around) (outer : List Env) (s : Shared) (H : Hp) (vs : List V) (Q : L2.VK) (E : XK), Room k (A.deeper (envOfC qual (defScope st) s.heap.objs.size f (.ref c))) → sp vs H Q E →
      ∃ t, PSs (cxOf CX P w K mg base N qual (defScope st) f (.ref c) A outer s H E).nox (defBody st) t ∧ t { nx := fun _ H' => Q .non H', rt := Q } (L2.start N vs) H) : FnOk P w K mg base CX (k + 1) f fd ps sp := by
  obtain ⟨⟨oc, od, kV, doc, pm, an, cdv, ct, osl, rfl, lk, hcd⟩, hkp⟩ := F
  have e : cdv = .ref c := hc
  subst e
  refine fn_of lk hcd S len fun A outer s H vs Q E hr hsp => ?_
  obtain ⟨t, h, q⟩ := hbody A outer s H vs Q E hr hsp
  exact ⟨t, h.nox, q⟩
def errTab : List (Str × List Str) := [("InvalidAmount", ["given"]), ("InvalidName", ["given"]), ("InvalidMachine", ["part", "at"]), ("InvalidTree", ["command", "path"]), ("ScalesDiffer", ["one", "other"]), ("UnknownName", ["name"]), ("UnknownScale", ["name"]),
  ("InvalidText", ["row"]), ("NotDefined", ["operation"]), ("WrongQuantity", ["at"]), ("ShelfFull", ["most"]), ("NotRelated", []), ("NothingLeft", [])]
def excAsk (K : PySem.W.Frag) (cs : List Value) (H' : Hp) (cls : Value) (d : Option Addr) (R : (Addr → Prop) → Str → List V → Prop) : Prop :=
  ∃ C dd fs z ks vs Mo, cls = .ref C ∧ d = some dd ∧ ExcK K C ∧ PySem.W.exmAny K cls cs = some true ∧ H' dd = some (.xd fs) ∧ fs.lookup ("code" : Str) = some (V.str z) ∧ (z, ks) ∈ errTab ∧ ks.map (fun k => fs.lookup k) = vs.map some ∧ (∀ b, Mo b → H' b ≠ none ∧ ∀ φ, H' b ≠ some (.ext φ)) ∧ R Mo z vs
def TTry (K : PySem.W.Frag) (cs : List Value) (tl : XK → Hp → L2.VK → Prop) (H : Hp) (Q : L2.VK) : Prop :=
  ∀ p0, H p0 = none → ∀ (E' : XK) (R : L2.VK), (∀ cls d H', excAsk K cs H' cls d (fun Mo z vs => ∀ H2 v2, Full H' H2 → Rep K Mo H2 (.tup (vs.map dOf)) v2 → ∀ p, H2 p = none → Q (.ref p) (upd H2 p (.tup [.str z, v2]))) → E' cls d H') →
    (∀ v H', (∀ p, H' p = none → Q (.ref p) (upd H' p (.tup [.str "", v]))) → R v H') → tl E' (upd H p0 (.tup [.str "", .non])) R
def unown : List Sl → List Sl := List.map fun s => match s with
  | .d x => .d x
  | _ => .un
def errD (K : PySem.W.Frag) (cs : List Value) (P : D → Prop) : D → Prop
  | .ins C fs xs => ExcK K C ∧ PySem.W.exmAny K (.ref C) cs = some true ∧ ∃ z ks ys, lkp fs xs "code" = some (.str z) ∧ (z, ks) ∈ errTab ∧ ks.map (fun k => lkp fs xs k) = ys.map some ∧ P (.tup [.str z, .tup ys])
  | _ => False
def wTry (K : PySem.W.Frag) (cs : List Value) (wB : (D → Prop) → WE) : WE := fun ds P => wB (errD K cs P) (unown ds) fun d => P (.tup [.str "", d])
theorem mx_no {M : Addr → Prop} {b : Addr} (h : Mx M (fun _ => no1) b) : M b := h.elim id fun ⟨_, z⟩ => z.elim
theorem Sat.unown {K : PySem.W.Frag} {W : Wd} {M0 : Addr → Prop} {H0 H : Hp} {oa : Nat → AS} {σ : L2.St} {ds : List Sl} (S : Sat K W M0 H0 oa H σ ds) : Sat K (W.fx (Mx M0 oa) H) (Mx M0 oa) H (fun _ => no1) H σ (VL.unown ds) := by
  have m := S.mok
  refine ⟨m.wm, m.live, Ext.refl H, S.wi, fun i a h => h.elim, fun i j a h => h.elim, by unfold VL.unown; rw [List.length_map]; exact S.len, fun i _ => rfl, fun i s h => ?_, fun _ z => z, Ext.refl H, fun a h => W.liveB _ _ S.wi h, m.nb, m.nx⟩
  unfold VL.unown at h
  rw [List.getElem?_map] at h
  cases q : ds[i]? with
  | none => rw [q] at h; cases h
  | some s0 =>
    rw [q] at h
    cases h
    have hs := S.slot i s0 q
    cases s0 with
    | d x =>
      obtain ⟨_, v, e, r⟩ := hs
      exact ⟨rfl, v, e, r.car fun b o n z => ⟨fun y => n (mx_no y), z⟩⟩
    | un => rfl
    | ml l => rfl
    | md ks l => rfl
    | ow t => rfl
    | mi a C ks l => rfl
theorem tup_join {K : PySem.W.Frag} {M : Addr → Prop} {H : Hp} {ys : List D} {vs : List V} {v : V} (r : Reps K M H ys vs) (h : Rep K M H (.tup (vs.map dOf)) v) : Rep K M H (.tup ys) v := by
  obtain ⟨a, us, rfl, t, q⟩ := h.tup
  rw [dOfs_inv q] at t
  exact rep_tup t r
section
variable {X : Cx} {W : Wd}
theorem ve_try {cs : List Value} {x a : Str} {g c P : Addr} {k : Nat} {pg : Arguments} {bg : List Stmt} {sg : Scope} {dV kV doc pm cdv ct oc : Value} {an od : Option Addr} {osl : Array (Option Value)} {Ng : List Str}
    {params : Arguments} {body : Expr} {scope : Scope} {wB : (D → Prop) → WE} {p lpos pos : Pos} (hg : Gl X x) (hm : X.mg x = some (.ref g)) (hk : PySem.W.keepIn X.K (.ref g) = true)
    (lk : X.K.lookup g = some ⟨oc, od, .func (PySem.W.fnOf x x pg bg sg dV kV doc pm an cdv ct), osl⟩) (hcg : PySem.W.codeIn X.K cdv x = true) (hb : L2.Binds X.K (PySem.W.fnOf x x pg bg sg dV kV doc pm an cdv ct) [a] []) (Sg : FnScope Ng [a] sg) (hNg : Ng[0]? = some a) (hva : Vis sg a)
    (hG : GivesT X Ng x sg g cdv bg a (lamQ X) (k + 1) (TTry X.K cs))
    (TB : TabB X.base X.mg c P) (hcode : X.env.code = .ref c) (hr : Room (k + 2) X.A) (L : LamS X.env.scope scope) (hdef : defaultsOf params X.env = ([], []))
    (hbind : ∀ (q : Str) (cl : List (Str × Addr)) (pm cv ctv : Value), bindArgs (PySem.W.kla_fn "<lambda>" q params body scope cl pm cv ctv) ⟨[], []⟩ = pure [])
    (hbody : ∀ (A : Around) (outer : List Env) (s : Shared) (H : Hp) (E : XK) (f c' : Addr) (Mf : Addr → Prop) (Hf : Hp) (PX : D → Prop), Room k (A.deeper (lamEnv X scope s.heap.objs.size f c')) → Takes (lamCx X A outer s H E scope f c') (XW X.K ((W.tab P (lamQ X)).fx Mf Hf) PX) →
      VE (lamCx X A outer s H E scope f c') ((W.tab P (lamQ X)).fx Mf Hf) body (wB PX))
    (hdb : (x == ("__debug__" : Str)) = false := by decide) (hd : (a == ("__debug__" : Str)) = false := by decide) (hcd : (a == ("__classdict__" : Str)) = false := by decide) :
    VE X (W.tab P (lamQ X)) (.Call (.Name x p) [.Lambda params body scope lpos] [] pos) (wTry X.K cs wB) := by
  let t : XK → TE := fun E σ H Q => ∃ M H1 ds PX P', Sat X.K ((W.tab P (lamQ X)).fx M H) M H (fun _ => no1) H σ ds ∧ H1 = H ∧ wB PX ds P' ∧ (∀ d v H', P' d → Ext (W.tab P (lamQ X)) H H' → (W.tab P (lamQ X)).I H' → Rep X.K M H' d v → Q v H') ∧ ∀ cls d H', XC X.K (W.tab P (lamQ X)) M H PX cls d H' → E cls d H'
  refine pe_imp (pe_lamcall3 (t := t) hg hm hk lk hcg hb Sg hNg hva hG TB hcode hr L hdef hbind (fun A outer s H E f c' hr2 => ?_) hdb hd hcd) fun σ H Q h => ?_
  · refine ⟨fun pins s1 σ1 H1 Q1 I1 ht => ?_⟩
    obtain ⟨M, _, ds, PX, P', S, _, hw, kk, kx⟩ := ht
    have tk : Takes (lamCx X A outer s H E scope f c') (fun cls d _ H => E cls d H) := takes_of rfl rfl rfl rfl
    exact (hbody A outer s H E f c' M H1 PX hr2 (tk.imp fun cls d σ' H' hx => kx cls d H' hx)).run pins s1 σ1 H1 Q1 I1 ⟨M, H1, fun _ => no1, ds, P', S, hw, fun d v H' hp e i r => kk d v H' hp e i (r.car fun b o n z => ⟨fun y => n (.inl y), z⟩)⟩
  · obtain ⟨M0, H0, oa, ds, Pd, S, hw, kk⟩ := h
    refine ⟨S.wi.2.1, fun H1 eP T1 p0 hp0 E' R hE hR => ?_⟩
    have e1 : Ext (W.tab P (lamQ X)) H H1 := fun b o n z => eP b o (fun y => n (.inr y)) z
    have i1 : (W.tab P (lamQ X)).I H1 := by
      refine ⟨W.stay H H1 S.wi.1 (fun b hb => ?_) (fun b φ z => eP b _ (fun y => ?_) z) (fun b o hB z => eP b o (fun y => S.wi.2.2.2 (by rw [← y]; exact hB)) z), T1, S.wi.2.2⟩
      · have hbP : b ≠ P := fun y => S.wi.2.2.1 (by rw [← y]; exact hb)
        cases q : H b with
        | none => exact absurd q (W.live H b S.wi.1 hb)
        | some o => exact eP b o hbP q
      · obtain ⟨ps, z2, _⟩ := S.wi.2.1
        rw [y, z2] at z
        cases z
    have f0 : Full H1 (upd H1 p0 (.tup [.str "", .non])) := Full.new hp0
    have S2 := (S.step e1 i1).full f0
    refine ⟨Mx M0 oa, _, _, errD X.K cs Pd, _, S2.unown, rfl, hw, fun d v H' hp e i r => hR v H' fun p hp1 => ?_, fun cls d H' hx => hE cls d H' ?_⟩
    · have m2 := S2.mok.ext e i
      have f1 : Full H' (upd H' p (.tup [.str "", v])) := Full.new hp1
      refine kk _ _ _ hp (e1.trans (f0.ext.trans (e.trans f1.ext))) ((W.tab P (lamQ X)).keep _ _ i f1) ?_
      exact m2.newT hp1 (reps_cons rep_str (reps_cons r reps_nil))
    · obtain ⟨C, fs, xs, us, dd, rfl, rfl, hpx, e, i, r, hlen, hdd⟩ := hx
      obtain ⟨hC, hex, z, ks, ys, hcode', hmem, hks, hP⟩ := hpx
      have m2 := S2.mok.ext e i
      obtain ⟨vc, hvc, rvc⟩ := (lkp_fs (f := "code") r hlen).1 _ hcode'
      have evc : vc = .str z := by unfold Rep at rvc; exact rvc
      subst evc
      have key : ∀ (ks : List Str) (ys : List D), ks.map (fun k => lkp fs xs k) = ys.map some → ∃ vs : List V, ks.map (fun k => (fs.zip us).lookup k) = vs.map some ∧ Reps X.K (Mx M0 oa) H' ys vs := by
        intro ks
        induction ks with
        | nil =>
          intro ys h
          cases ys with
          | nil => exact ⟨[], rfl, reps_nil⟩
          | cons _ _ => cases h
        | cons k ks ih =>
          intro ys h
          cases ys with
          | nil => cases h
          | cons y ys =>
            obtain ⟨h1, h2⟩ := List.cons.inj h
            obtain ⟨vs, e1, r1⟩ := ih ys h2
            obtain ⟨v, e2, r2⟩ := (lkp_fs (f := k) r hlen).1 _ h1
            exact ⟨v :: vs, by rw [List.map_cons, List.map_cons, e1, e2], reps_cons r2 r1⟩
      obtain ⟨vs, hvs, rvs⟩ := key ks ys hks
      refine ⟨C, dd, fs.zip us, z, ks, vs, Mx M0 oa, rfl, rfl, hC, hex, hdd, hvc, hmem, hvs, fun b hb => ⟨m2.live b hb, fun φ => m2.nx b φ hb⟩, fun H2 v2 fH r2 p hp1 => ?_⟩
      have i2 := (W.tab P (lamQ X)).keep _ _ i fH
      have m3 := m2.full fH
      have f1 : Full H2 (upd H2 p (.tup [.str z, v2])) := Full.new hp1
      refine kk _ _ _ hP (e1.trans (f0.ext.trans (e.trans (fH.ext.trans f1.ext)))) ((W.tab P (lamQ X)).keep _ _ i2 f1) ?_
      exact m3.newT hp1 (reps_cons rep_str (reps_cons (tup_join (rvs.car fun b o n z => ⟨n, fH b o z⟩) r2) reps_nil))
end
end VL
set_option Elab.async false
set_option linter.all false
set_option maxRecDepth 100000
set_option maxHeartbeats 2000000
namespace VL
open PySem PySem.Spec PyProof.Rows L2
section
variable {X : Cx} {K : PySem.W.Frag} {W : Wd}
theorem reps_strs {M : Addr → Prop} {H : Hp} : ∀ ns : List Str, Reps K M H (ns.map D.str) (ns.map V.str)
  | [] => reps_nil
  | _ :: ns => reps_cons rep_str (reps_strs ns)
def splitD : D → D → (D → Prop) → Prop
  | .str a, .str b, P => (b.length == 0) = false ∧ a.length + 2 ≤ sizeLine ∧ P (.lst ((Txt.split a b).map D.str))
  | _, _, _ => False
theorem lift_split : LiftOp K W splitD (fun x y H Q => ∃ a b, x = .str a ∧ [y] = [.str b] ∧ (b.length == 0) = false ∧ a.length + 2 ≤ sizeLine ∧ rNewStrs (Txt.split a b) H Q) := by
  intro M H x y v u P Q m r1 r2 h k
  cases x <;> cases y <;> first
    | exact h.elim
    | (rename_i a b
       obtain ⟨h1, h2, h3⟩ := h
       refine ⟨a, b, r1.str, by rw [r2.str], h1, h2, fun p hp => ?_⟩
       have f := Full.new (o := HO.lst ((Txt.split a b).map V.str)) hp
       exact k _ _ _ h3 f.ext (W.keep _ _ m.wi f) (m.newL hp (reps_strs _)))
theorem ve_split {o e : Expr} {apos pos : Pos} {wa wb : WE} (ho : VE X W o wa) (he : VE X W e wb) (hs : starEach [e] X.env = [(false, eval e X.env)] := by rfl) (hbase : attributeBase o "split" X.env (eval o X.env) = eval o X.env := by rfl) (hline : (apos.endLine == pos.line) = true := by rfl) :
    VE X W (.Call (.Attribute o "split" apos) [e] [] pos) (wM1 splitD wa wb) := ve_m1 (o := o) (e := e) (pe_split ho he hs hbase hline) lift_split
def partD : D → D → (D → Prop) → Prop
  | .str a, .str b, P => (b.length == 0) = false ∧ a.length ≤ sizeLine ∧ P (.tup [.str (Txt.partition a b).1, .str (Txt.partition a b).2.1, .str (Txt.partition a b).2.2])
  | _, _, _ => False
theorem lift_part : LiftOp K W partD (fun x y H Q => ∃ a b, x = .str a ∧ [y] = [.str b] ∧ (b.length == 0) = false ∧ a.length ≤ sizeLine ∧ ∀ p, H p = none → Q (.ref p) (upd H p (.tup [.str (Txt.partition a b).1, .str (Txt.partition a b).2.1, .str (Txt.partition a b).2.2]))) := by
  intro M H x y v u P Q m r1 r2 h k
  cases x <;> cases y <;> first
    | exact h.elim
    | (rename_i a b
       obtain ⟨h1, h2, h3⟩ := h
       refine ⟨a, b, r1.str, by rw [r2.str], h1, h2, fun p hp => ?_⟩
       have f := Full.new (o := HO.tup [.str (Txt.partition a b).1, .str (Txt.partition a b).2.1, .str (Txt.partition a b).2.2]) hp
       exact k _ _ _ h3 f.ext (W.keep _ _ m.wi f) (m.newT hp (reps_cons rep_str (reps_cons rep_str (reps_cons rep_str reps_nil)))))
theorem ve_partition {o e : Expr} {apos pos : Pos} {wa wb : WE} (ho : VE X W o wa) (he : VE X W e wb) (hs : starEach [e] X.env = [(false, eval e X.env)] := by rfl) (hbase : attributeBase o "partition" X.env (eval o X.env) = eval o X.env := by rfl) (hline : (apos.endLine == pos.line) = true := by rfl) :
    VE X W (.Call (.Attribute o "partition" apos) [e] [] pos) (wM1 partD wa wb) := ve_m1 (o := o) (e := e) (pe_partition ho he hs hbase hline) lift_part
def rmpD : D → D → (D → Prop) → Prop
  | .str a, .str b, P => a.length ≤ sizeLine ∧ P (.str (Txt.removeprefix a b))
  | _, _, _ => False
theorem lift_rmp : LiftOp K W rmpD (fun x y H Q => ∃ a b, x = .str a ∧ [y] = [.str b] ∧ a.length ≤ sizeLine ∧ Q (.str (Txt.removeprefix a b)) H) := by
  intro M H x y v u P Q m r1 r2 h k
  cases x <;> cases y <;> first
    | exact h.elim
    | (rename_i a b
       exact ⟨a, b, r1.str, by rw [r2.str], h.1, k _ _ H h.2 (Ext.refl H) m.wi rep_str⟩)
theorem ve_removeprefix {o e : Expr} {apos pos : Pos} {wa wb : WE} (ho : VE X W o wa) (he : VE X W e wb) (hs : starEach [e] X.env = [(false, eval e X.env)] := by rfl) (hbase : attributeBase o "removeprefix" X.env (eval o X.env) = eval o X.env := by rfl) (hline : (apos.endLine == pos.line) = true := by rfl) :
    VE X W (.Call (.Attribute o "removeprefix" apos) [e] [] pos) (wM1 rmpD wa wb) := ve_m1 (o := o) (e := e) (pe_m1 PySem.F.slot_str_removeprefix PySem.F.type_str_removeprefix mt_removeprefix ho he hs hbase hline) lift_rmp
def intSD : List D → (D → Prop) → Prop
  | [.str a], P => ∃ n, PySem.intText? a = some n ∧ a.length ≤ 640 ∧ P (.int n)
  | _, _ => False
theorem lift_intS : LiftCall K W intSD (fun xs H Q => ∃ a n, xs = [.str a] ∧ PySem.intText? a = some n ∧ a.length ≤ 640 ∧ Q (.int n) H) := by
  intro M H xs vs P Q m r h k
  match xs, h with
  | [.str a], h =>
    obtain ⟨n, h1, h2, h3⟩ := h
    obtain ⟨v, vs, rfl, r1, r2⟩ := r.inv
    rw [r2.inv0, r1.str]
    exact ⟨a, n, rfl, h1, h2, k _ _ H h3 (Ext.refl H) m.wi rep_int⟩
def repT (a : Str) (n : Int) : Str := ⟨(List.replicate n.toNat a.cps).foldl (· ++ ·) #[]⟩
theorem rep_fold (c : Array Nat) : ∀ (k : Nat) (acc : Array Nat), ((List.replicate k c).foldl (· ++ ·) acc).size = acc.size + k * c.size
  | 0, acc => by simp
  | k + 1, acc => by
    rw [List.replicate_succ, List.foldl_cons, rep_fold c k, Array.size_append, Nat.succ_mul]
    omega
theorem rep_len (a : Str) (n : Int) : Str.length ⟨(List.replicate n.toNat a.cps).foldl (· ++ ·) #[]⟩ = n.toNat * a.length := by
  show ((List.replicate n.toNat a.cps).foldl (· ++ ·) #[]).size = _
  rw [rep_fold]
  simp
  rfl
def mulS : D → D → (D → Prop) → Prop
  | .str a, .int n, P => a.length = 1 ∧ 2 ≤ n ∧ n ≤ 1000 ∧ P (.str (repT a n))
  | _, _, _ => False
theorem op_mulS : OpR X (binaryOp .Mult) (fun x y H Q => ∃ a n, x = .str a ∧ y = .int n ∧ a.length = 1 ∧ 2 ≤ n ∧ n ≤ 1000 ∧ Q (.str (repT a n)) H) := by
  intro pins s σ H x y v u Q I rx ry h
  obtain ⟨a, n, rfl, rfl, h1, h2, h3, q⟩ := h
  obtain ⟨t, rfl⟩ := rx
  obtain ⟨t', rfl⟩ := ry
  have e1 : ¬ n < 1 := by omega
  have e2 : (n == 1 || a.length == 0) = false := by
    rw [h1]
    simp
    omega
  refine PySem.P.mul_str (by simp; omega) (fun _ _ => ?_) (fun _ _ => ?_) ?_
  · rw [h1]
    have : (1000 : Int) ≤ (2 ^ 63 - 1) / n := Int.le_ediv_of_mul_le (by omega) (by omega)
    omega
  · rw [h1]
    unfold PySem.Builtin.Str.tooLong
    rw [decide_eq_false_iff_not, sizeLine_eq]
    omega
  · rw [if_neg e1, e2]
    refine ⟨?_, ⟨.str (repT a n), H, I.tok _, ⟨_, rfl⟩, q⟩⟩
    rw [rep_len, h1, sizeLine_eq]
    omega
theorem lift_mulS : LiftOp K W mulS (fun x y H Q => ∃ a n, x = .str a ∧ y = .int n ∧ a.length = 1 ∧ 2 ≤ n ∧ n ≤ 1000 ∧ Q (.str (repT a n)) H) := by
  intro M H x y v u P Q m r1 r2 h k
  cases x <;> cases y <;> first
    | exact h.elim
    | (rename_i a n
       obtain ⟨h1, h2, h3, h4⟩ := h
       exact ⟨a, n, r1.str, r2.int, h1, h2, h3, k _ _ H h4 (Ext.refl H) m.wi rep_str⟩)
theorem ve_mulS {a b : Expr} {pos : Pos} {wa wb : WE} (ha : VE X W a wa) (hb : VE X W b wb) : VE X W (.BinOp a .Mult b pos) (wOp mulS wa wb) := ve_op op_mulS lift_mulS ha hb
end
end VL
set_option Elab.async false
set_option linter.all false
set_option maxRecDepth 100000
set_option maxHeartbeats 2000000
namespace VL
open PySem PySem.Spec PyProof.Rows L2 NumText
def dig (c : Nat) : Bool := decide (48 ≤ c) && decide (c ≤ 57)
def digsB (l : List Nat) : Bool := decide (1 ≤ l.length) && (decide (l.length ≤ 30) && l.all dig)
def bareL : List Nat → List Nat
  | [] => []
  | c :: r => if c = 45 then r else c :: r
def valL : List Nat → Int
  | [] => 0
  | c :: r => if c = 45 then -((digitsVal r : Nat) : Int) else ((digitsVal (c :: r) : Nat) : Int)
def canL (l : List Nat) : Bool := !(decide (1 < (bareL l).length) && decide ((bareL l).head? = some 48)) && !(decide (bareL l = [48]) && !decide (l = [48]))
def numB (l : List Nat) : Bool := digsB (bareL l) && canL l
def textL (i : Int) : List Nat := TL.tl (Str.ofString (toString i))
theorem textL_nat (n : Nat) : textL (n : Int) = TL.numL n := TL.tl_num n
theorem textL_neg {n : Nat} (h : 0 < n) : textL (-(n : Int)) = 45 :: TL.numL n := by
  cases n with
  | zero => omega
  | succ m =>
    have e := TL.tl_num (m + 1)
    show (Str.ofString (toString (Int.negSucc m))).cps.toList = _
    have e2 : (Str.ofString (toString ((m + 1 : Nat) : Int))).cps.toList = _ := e
    rw [signs_ofString] at e2 ⊢
    show ("-" ++ toString (m + 1)).toList.map Char.toNat = _
    rw [String.toList_append, List.map_append]
    rw [show (toString ((m + 1 : Nat) : Int)) = toString (m + 1) from rfl] at e2
    rw [e2]
    rfl
theorem digs_all {l : List Nat} (h : digsB l = true) : AllDigits l ∧ l ≠ [] ∧ l.length ≤ 30 := by
  unfold digsB at h
  simp only [Bool.and_eq_true, decide_eq_true_eq, List.all_eq_true, dig] at h
  obtain ⟨h1, h2, h3⟩ := h
  exact ⟨fun c hc => h3 c hc, fun z => by rw [z] at h1; simp at h1, h2⟩
theorem fold_lt : ∀ (r : List Nat) (acc : Nat), AllDigits r → r.foldl (fun acc c => acc * 10 + (c - 48)) acc < (acc + 1) * 10 ^ r.length
  | [], acc, _ => by simp
  | c :: r, acc, h => by
    have hc := h c (.head _)
    have ih := fold_lt r (acc * 10 + (c - 48)) (fun d hd => h d (.tail _ hd))
    rw [List.foldl_cons, List.length_cons, Nat.pow_succ]
    refine Nat.lt_of_lt_of_le ih ?_
    have : acc * 10 + (c - 48) + 1 ≤ (acc + 1) * 10 := by omega
    calc (acc * 10 + (c - 48) + 1) * 10 ^ r.length ≤ (acc + 1) * 10 * 10 ^ r.length := Nat.mul_le_mul_right _ this
      _ = (acc + 1) * (10 ^ r.length * 10) := by rw [Nat.mul_assoc, Nat.mul_comm 10]
theorem digitsVal_lt {r : List Nat} (h : AllDigits r) : digitsVal r < 10 ^ r.length := by
  have := fold_lt r 0 h
  unfold digitsVal
  omega
theorem num_back {l : List Nat} (h : AllDigits l) (hn : l ≠ []) : TL.numL (digitsVal l) = l ↔ ¬ (1 < l.length ∧ l.head? = some 48) := by
  have back : ∀ cs : List Nat, AllDigits cs → (cs.map Char.ofNat).map Char.toNat = cs := fun cs hc => by
    rw [List.map_map]
    conv => rhs; rw [← List.map_id cs]
    refine List.map_congr_left fun c hcm => ?_
    have := hc c hcm
    show (Char.ofNat c).toNat = c
    have hv : c.isValidChar := .inl (by omega)
    unfold Char.ofNat
    rw [dif_pos hv]
    rfl
  cases l with
  | nil => exact absurd rfl hn
  | cons c r =>
    by_cases hz : 1 < (c :: r).length ∧ (c :: r).head? = some 48
    · refine ⟨fun e => ?_, fun z => absurd hz z⟩
      exfalso
      obtain ⟨h1, h2⟩ := hz
      have hc : c = 48 := by simpa using h2
      subst hc
      have e1 : digitsVal (48 :: r) = digitsVal r := digitsVal_zero
      rw [e1] at e
      have hl := congrArg List.length e
      have hr : r ≠ [] := fun z => by rw [z] at h1; simp at h1
      have hlt : digitsVal r < 10 ^ r.length := digitsVal_lt fun d hd => h d (.tail _ hd)
      have := TL.numL_len (k := r.length) (by cases r with | nil => exact absurd rfl hr | cons _ _ => simp) hlt
      rw [hl] at this
      simp at this
      omega
    · refine ⟨fun _ => hz, fun _ => ?_⟩
      have e := toDigits_digitsVal r.length (c :: r) (by simp) h (by
        by_cases hr : r = []
        · exact .inl (by rw [hr]; rfl)
        · refine .inr ⟨c, r, rfl, ?_⟩
          have h48 := (h c (.head _)).1
          have : c ≠ 48 := fun z => hz ⟨by cases r with | nil => exact absurd rfl hr | cons _ _ => simp, by rw [z]; rfl⟩
          omega)
      show (Nat.toDigits 10 (digitsVal (c :: r))).map Char.toNat = _
      rw [e, back _ h]
theorem zero_val {l : List Nat} (h : AllDigits l) : digitsVal l = 0 ↔ ∀ c ∈ l, c = 48 := by
  constructor
  · intro e
    induction l with
    | nil => intro c hc; cases hc
    | cons d r ih =>
      have hd := h d (.head _)
      by_cases hd0 : d = 48
      · subst hd0
        rw [digitsVal_zero] at e
        intro c hc
        rcases List.mem_cons.mp hc with rfl | hc
        · rfl
        · exact ih (fun c hc => h c (.tail _ hc)) e c hc
      · have := digitsVal_pos (c := d) (cs := r) (by omega)
        omega
  · intro e
    induction l with
    | nil => rfl
    | cons d r ih =>
      have : d = 48 := e d (.head _)
      subst this
      rw [digitsVal_zero]
      exact ih (fun c hc => h c (.tail _ hc)) fun c hc => e c (.tail _ hc)
theorem num_iff {l : List Nat} (h : digsB (bareL l) = true) : textL (valL l) = l ↔ canL l = true := by
  obtain ⟨ha, hne, _⟩ := digs_all h
  unfold canL
  cases l with
  | nil => exact absurd rfl hne
  | cons c r =>
    by_cases hc : c = 45
    · subst hc
      have eb : bareL (45 :: r) = r := by simp [bareL]
      have ev : valL (45 :: r) = -((digitsVal r : Nat) : Int) := by simp [valL]
      rw [eb] at ha hne ⊢
      rw [ev]
      have e48 : ¬ (45 :: r = [48]) := fun z => by cases z
      rw [decide_eq_false e48, Bool.not_false, Bool.and_true]
      by_cases hz : digitsVal r = 0
      · rw [hz]
        have : textL (-((0 : Nat) : Int)) = [48] := textL_nat 0
        rw [this]
        refine ⟨fun z => (by cases z), fun z => ?_⟩
        exfalso
        simp only [Bool.and_eq_true, Bool.not_eq_true', Bool.and_eq_false_imp, decide_eq_true_eq, decide_eq_false_iff_not] at z
        obtain ⟨z1, z2⟩ := z
        have all := (zero_val ha).mp hz
        cases r with
        | nil => exact hne rfl
        | cons d r =>
          have hd := all d (.head _)
          subst hd
          cases r with
          | nil => exact z2 rfl
          | cons d2 r => exact z1 (by simp) rfl
      · rw [textL_neg (by omega)]
        have key := num_back ha hne
        have nz : ¬ (r = [48]) := fun z => hz (by rw [z]; rfl)
        rw [decide_eq_false nz, Bool.not_false, Bool.and_true]
        constructor
        · intro z
          have z2 := key.mp (List.cons.inj z).2
          simp only [Bool.not_eq_true', Bool.and_eq_false_imp, decide_eq_true_eq, decide_eq_false_iff_not]
          exact fun h1 h2 => z2 ⟨h1, h2⟩
        · intro z
          simp only [Bool.not_eq_true', Bool.and_eq_false_imp, decide_eq_true_eq, decide_eq_false_iff_not] at z
          rw [key.mpr fun h => z h.1 h.2]
    · have eb : bareL (c :: r) = c :: r := if_neg hc
      have ev : valL (c :: r) = ((digitsVal (c :: r) : Nat) : Int) := if_neg hc
      rw [eb] at ha hne ⊢
      rw [ev, textL_nat, num_back ha hne]
      have : (decide (c :: r = [48]) && !decide (c :: r = [48])) = false := by cases decide (c :: r = [48]) <;> rfl
      rw [this, Bool.not_false, Bool.and_true]
      simp only [Bool.not_eq_true', Bool.and_eq_false_imp, decide_eq_true_eq, decide_eq_false_iff_not, not_and]
theorem num_val {z : Str} (h : digsB (bareL (TL.tl z)) = true) : PySem.intText? z = some (valL (TL.tl z)) ∧ z.length ≤ 31 := by
  obtain ⟨ha, hne, hl⟩ := digs_all h
  have hlen : z.length = (TL.tl z).length := by show z.cps.size = z.cps.toList.length; simp
  have key : ∀ l, TL.tl z = l → AllDigits (bareL l) → bareL l ≠ [] → (bareL l).length ≤ 30 → PySem.intText? z = some (valL l) ∧ l.length ≤ 31 := fun l e h1 h2 h3 => by
    cases l with
    | nil => exact absurd rfl h2
    | cons c r =>
      by_cases hc : c = 45
      · subst hc
        have eb : bareL (45 :: r) = r := by simp [bareL]
        have ev : valL (45 :: r) = -((digitsVal r : Nat) : Int) := by simp [valL]
        rw [eb] at h1 h2 h3
        rw [ev]
        refine ⟨intText_neg e h1 h2 ?_, by simp; omega⟩
        rw [hlen, e]
        simp
        omega
      · have eb : bareL (c :: r) = c :: r := if_neg hc
        have ev : valL (c :: r) = ((digitsVal (c :: r) : Nat) : Int) := if_neg hc
        rw [eb] at h1 h2 h3
        rw [ev]
        have e' : z.cps.toList = c :: r := e
        have := intText_digits (x := z) (by rw [e']; exact h1) (by rw [e']; exact h2) (by rw [hlen, e]; omega)
        rw [e'] at this
        exact ⟨this, by omega⟩
  have := key _ rfl ha hne hl
  exact ⟨this.1, by rw [hlen]; exact this.2⟩
theorem val_lt {l : List Nat} (h : digsB (bareL l) = true) : (valL l).natAbs < 10 ^ 30 := by
  obtain ⟨ha, hne, hl⟩ := digs_all h
  cases l with
  | nil => exact absurd rfl hne
  | cons c r =>
    by_cases hc : c = 45
    · subst hc
      have eb : bareL (45 :: r) = r := by simp [bareL]
      have ev : valL (45 :: r) = -((digitsVal r : Nat) : Int) := by simp [valL]
      rw [eb] at ha hl
      rw [ev, Int.natAbs_neg, Int.natAbs_natCast]
      exact Nat.lt_of_lt_of_le (digitsVal_lt ha) (Nat.pow_le_pow_right (by decide) hl)
    · have eb : bareL (c :: r) = c :: r := if_neg hc
      have ev : valL (c :: r) = ((digitsVal (c :: r) : Nat) : Int) := if_neg hc
      rw [eb] at ha hl
      rw [ev, Int.natAbs_natCast]
      exact Nat.lt_of_lt_of_le (digitsVal_lt ha) (Nat.pow_le_pow_right (by decide) hl)
theorem tl_len (z : Str) : z.length = (TL.tl z).length := by show z.cps.size = z.cps.toList.length; simp
theorem rmp_bare (z : Str) : TL.tl (Txt.removeprefix z "-") = bareL (TL.tl z) := by
  rw [PySem.StrLaws.removeprefix_eq, PySem.StrLaws.subAt_eq]
  have e1 : ("-" : Str).length = 1 := rfl
  have e2 : ("-" : Str).cps.toList = [45] := rfl
  rw [e1, e2, tl_len z]
  show TL.tl (if (decide (0 + 1 ≤ (TL.tl z).length) && (((TL.tl z).drop 0).take 1 == [45])) = true then (⟨(((TL.tl z).drop 1).take ((TL.tl z).length - 1)).toArray⟩ : Str) else z) = bareL (TL.tl z)
  cases hz : TL.tl z with
  | nil =>
    rw [if_neg (by simp)]
    rw [hz]
    rfl
  | cons c r =>
    by_cases hc : c = 45
    · subst hc
      rw [if_pos (by simp)]
      show (((45 :: r).drop 1).take ((45 :: r).length - 1)).toArray.toList = _
      simp [bareL]
    · rw [if_neg (by simp [hc]), hz]
      simp [bareL, hc]
def amtP : List (List Nat) → Option (Int × Int)
  | [p] => if numB p = true then some (valL p, 1) else none
  | [p, q] => if numB p = true ∧ numB q = true ∧ 1 < valL q ∧ Int.gcd (valL p) (valL q) = 1 then some (valL p, valL q) else none
  | _ => none
def amtIn (l : List Nat) : Option (Int × Int) := amtP (TL.spl [47] 0 [] l)
theorem numB_dig {l : List Nat} (h : numB l = true) : ∀ c ∈ l, c = 45 ∨ (48 ≤ c ∧ c ≤ 57) := by
  have hd : digsB (bareL l) = true := by unfold numB at h; exact (Bool.and_eq_true_iff.mp h).1
  obtain ⟨ha, _, _⟩ := digs_all hd
  intro c hc
  cases l with
  | nil => cases hc
  | cons d r =>
    by_cases hd45 : d = 45
    · subst hd45
      rcases List.mem_cons.mp hc with rfl | hc
      · exact .inl rfl
      · exact .inr (ha c (by simpa [bareL] using hc))
    · exact .inr (ha c (by simpa [bareL, hd45] using hc))
theorem cut_bar : ∀ l : List Nat, (47 ∉ l) ∨ ∃ p q, l = p ++ 47 :: q ∧ 47 ∉ p
  | [] => .inl (by simp)
  | c :: r => by
    by_cases hc : c = 47
    · exact .inr ⟨[], r, by rw [hc]; rfl, by simp⟩
    · rcases cut_bar r with h | ⟨p, q, e, h⟩
      · exact .inl (by simp [h]; exact fun z => hc z.symm)
      · exact .inr ⟨c :: p, q, by rw [e]; rfl, by simp [h]; exact fun z => hc z.symm⟩
theorem spl_none {l : List Nat} (h : 47 ∉ l) : TL.spl [47] 0 [] l = [l] := by
  have := TL.spl_last1 (s := 47) (S := []) (p := l) (acc := []) h
  simpa using this
theorem spl_some {p q : List Nat} (h : 47 ∉ p) : TL.spl [47] 0 [] (p ++ 47 :: q) = p :: TL.spl [47] 0 [] q := by
  have := TL.spl_part1 (s := 47) (S := []) (p := p) (rest := q) (acc := []) h
  simpa using this
theorem par_none' {l : List Nat} (h : 47 ∉ l) : TL.par [47] [] l = none := TL.par_none1 h
theorem par_some {p q : List Nat} (h : 47 ∉ p) : TL.par [47] [] (p ++ 47 :: q) = some (p, q) := by
  have := TL.par_part1 (s := 47) (S := []) (p := p) (rest := q) (acc := []) h
  simpa using this
theorem spl_ne : ∀ (l acc : List Nat), TL.spl [47] 0 acc l ≠ []
  | [], acc => by rw [TL.spl_nil]; simp
  | c :: r, acc => by
    cases hc : TL.pre [47] (c :: r) with
    | true => rw [TL.spl_hit hc]; simp
    | false => rw [TL.spl_miss hc]; exact spl_ne r _
theorem amt_none {l : List Nat} (h : 47 ∉ l) : amtIn l = if numB l = true then some (valL l, 1) else none := by unfold amtIn; rw [spl_none h]; rfl
theorem amt_some {p q : List Nat} (h : 47 ∉ p) : amtIn (p ++ 47 :: q) = if numB p = true ∧ numB q = true ∧ 1 < valL q ∧ Int.gcd (valL p) (valL q) = 1 then some (valL p, valL q) else none := by
  unfold amtIn
  rw [spl_some h]
  rcases cut_bar q with hq | ⟨p2, q2, e, hp2⟩
  · rw [spl_none hq]
    rfl
  · have hm : 47 ∈ q := by rw [e]; simp
    have hn : ¬ numB q = true := fun z => by
      have := numB_dig z 47 hm
      omega
    rw [if_neg fun z => hn z.2.1, e, spl_some hp2]
    cases hs : TL.spl [47] 0 [] q2 with
    | nil => exact absurd hs (spl_ne _ _)
    | cons a b => rfl
def digC : D → Bool
  | .str z => dig (z.cps.toList.headD 0)
  | _ => false
theorem sgn_of {s : Str} {d : D} (h : d ∈ sgns s) : ∃ c ∈ TL.tl s, d = .str ⟨#[c]⟩ := by
  unfold sgns at h
  obtain ⟨c, hc, rfl⟩ := List.mem_map.mp h
  exact ⟨c, hc, rfl⟩
theorem dig_mem (c : Nat) : decide (c ∈ ("0123456789" : Str).cps.toList) = dig c := by
  rw [show ("0123456789" : Str).cps.toList = [48, 49, 50, 51, 52, 53, 54, 55, 56, 57] from rfl]
  unfold dig
  rw [Bool.eq_iff_iff]
  simp only [List.mem_cons, List.not_mem_nil, or_false, decide_eq_true_eq, Bool.and_eq_true]
  omega
theorem digs_map (s : Str) : (sgns s).map (fun d => D.bl (digC d)) = ((TL.tl s).map dig).map D.bl := by
  unfold sgns
  rw [List.map_map, List.map_map]
  rfl
theorem all_id (l : List Nat) : (l.map dig).all id = l.all dig := by rw [List.all_map]; rfl
theorem digsB_of {l : List Nat} (h1 : 1 ≤ l.length) (h2 : l.length ≤ 30) : digsB l = l.all dig := by
  unfold digsB
  rw [decide_eq_true h1, decide_eq_true h2]
  rfl
theorem digsB_no {l : List Nat} (h : ¬ (1 ≤ l.length ∧ l.length ≤ 30)) : digsB l = false := by
  unfold digsB
  by_cases h1 : 1 ≤ l.length
  · rw [decide_eq_false (show ¬ l.length ≤ 30 from fun z => h ⟨h1, z⟩), Bool.false_and, Bool.and_false]
  · rw [decide_eq_false h1, Bool.false_and]
theorem val_log {l : List Nat} (h : digsB (bareL l) = true) : (valL l).natAbs.log2 < 1920 := PySem.Flt.log2_lt_of (by decide) (Nat.lt_of_lt_of_le (val_lt h) (Nat.le_of_ble_eq_true rfl))
theorem bare_minus {l r : List Nat} (h : l = 45 :: r) : bareL l = r := by rw [h]; simp [bareL]
theorem bare_plain {l : List Nat} (h : ¬ ∃ r, l = 45 :: r) : bareL l = l := by
  cases l with
  | nil => rfl
  | cons c r =>
    have : c ≠ 45 := fun z => h ⟨r, by rw [z]⟩
    simp [bareL, this]
def amtD : Option (Int × Int) → D
  | some (a, b) => .tup [.int a, .int b]
  | none => .non
theorem text_num {a : Int} (h : a.natAbs < 10 ^ 30) : digsB (bareL (textL a)) = true ∧ valL (textL a) = a ∧ (textL a).length ≤ 31 := by
  have key : ∀ n : Nat, n < 10 ^ 30 → digsB (TL.numL n) = true ∧ (TL.numL n).length ≤ 30 := fun n hn => by
    have h1 := TL.numL_len (k := 30) (by decide) hn
    have h2 := TL.numL_ne n
    refine ⟨?_, h1⟩
    rw [digsB_of (by cases hq : TL.numL n with | nil => exact absurd hq h2 | cons _ _ => simp) h1, List.all_eq_true]
    intro c hc
    have := TL.numL_digits n c hc
    unfold dig
    rw [decide_eq_true this.1, decide_eq_true this.2]
    rfl
  cases a with
  | ofNat n =>
    have hn : n < 10 ^ 30 := h
    obtain ⟨k1, k2⟩ := key n hn
    have e : textL (Int.ofNat n) = TL.numL n := textL_nat n
    have h45 : 45 ∉ TL.numL n := TL.numL_free (.inl (by decide))
    have eb : bareL (TL.numL n) = TL.numL n := bare_plain fun ⟨r, hr⟩ => h45 (by rw [hr]; exact .head _)
    rw [e, eb]
    refine ⟨k1, ?_, by omega⟩
    have hv := TL.numL_val n
    cases hq : TL.numL n with
    | nil => exact absurd hq (TL.numL_ne n)
    | cons c r =>
      have hc : c ≠ 45 := fun z => h45 (by rw [hq, z]; exact .head _)
      rw [hq] at hv
      show (if c = 45 then -((digitsVal r : Nat) : Int) else ((digitsVal (c :: r) : Nat) : Int)) = _
      rw [if_neg hc, hv]
      rfl
  | negSucc m =>
    have hn : m + 1 < 10 ^ 30 := h
    obtain ⟨k1, k2⟩ := key (m + 1) hn
    have e : textL (Int.negSucc m) = 45 :: TL.numL (m + 1) := textL_neg (n := m + 1) (by omega)
    rw [e, bare_minus rfl]
    refine ⟨k1, ?_, by simp; omega⟩
    show (if (45 : Nat) = 45 then -((digitsVal (TL.numL (m + 1)) : Nat) : Int) else ((digitsVal (45 :: TL.numL (m + 1)) : Nat) : Int)) = _
    rw [if_pos rfl, TL.numL_val]
    rfl
theorem text_numB {a : Int} (h : a.natAbs < 10 ^ 30) : numB (textL a) = true := by
  obtain ⟨h1, h2, _⟩ := text_num h
  unfold numB
  rw [h1, Bool.true_and]
  exact (num_iff h1).mp (by rw [h2])
theorem no_bar {l : List Nat} (h : numB l = true) : 47 ∉ l := fun hm => by
  have := numB_dig h 47 hm
  omega
theorem amt_one {a : Int} (h : a.natAbs < 10 ^ 30) : amtIn (textL a) = some (a, 1) := by
  have hn := text_numB h
  rw [amt_none (no_bar hn), if_pos hn, (text_num h).2.1]
theorem amt_two {a b : Int} (h : a.natAbs < 10 ^ 30) (hb : b.natAbs < 10 ^ 30) (h1 : 1 < b) (hg : Int.gcd a b = 1) : amtIn (textL a ++ 47 :: textL b) = some (a, b) := by
  have hn := text_numB h
  have hm := text_numB hb
  rw [amt_some (no_bar hn), (text_num h).2.1, (text_num hb).2.1, if_pos ⟨hn, hm, h1, hg⟩]
end VL
set_option Elab.async false
set_option linter.all false
set_option maxRecDepth 100000
set_option maxHeartbeats 4000000
namespace VL
open PySem PySem.Spec PyProof.Rows L2 LamX
section
variable {cs : Addr → Prop} {P : Program} {w : World} {G H H' : Hp} {h h' B : Heap} {fs : List Addr} {b : Addr}
def Frz (cs : Addr → Prop) (H : Hp) : Prop := ∀ b, cs b → ∃ o y, H b = some (.frz o (.own y))
theorem Frz.no (z : Frz cs H) {u : Option HO} (e : H b = u) (hu : ∀ o y, u ≠ some (.frz o (.own y))) : ¬ cs b := fun c => by
  obtain ⟨o, y, q⟩ := z b c
  exact hu o y (e.symm.trans q)
end
structure CellsAt (X : Cx) (σ : L2.St) (h : Heap) : Prop where
  inj : ∀ x y c, X.env.cells.lookup x = some c → X.env.cells.lookup y = some c → x = y
  has : ∀ x, (X.env.kindOf x = some .cell ∨ X.env.kindOf x = some .free) → ∃ c, X.env.cells.lookup x = some c
  val : ∀ (i : Nat) (y : Str) (v : V) (c : Addr), X.N[i]? = some y → σ[i]? = some (some v) → X.env.cells.lookup y = some c → (X.env.scope.names.lookup y = some .cell ∨ X.env.scope.names.lookup y = some .free) → ∃ u, RelV v u ∧ h.IsCell c (some u)
  cel : ∀ y c, X.env.cells.lookup y = some c → ∃ v, h.IsCell c v
  len : σ.length = X.N.length
theorem CellsAt.of {X : Cx} {pins : List (Addr × Obj)} {σ : L2.St} {H : Hp} {s : Shared} (I : L2.Inv X pins σ H s) : CellsAt X σ s.heap := by
  refine ⟨I.ok.inj, I.ok.has, fun i y v c h1 h2 h3 h4 => ?_, I.cell, I.len⟩
  obtain ⟨m, hn, hl⟩ := I.loc
  obtain ⟨u, r, q⟩ := hl i y v h1 h2 (.inr h4)
  rcases q with ⟨k, _⟩ | ⟨_, c2, e, z⟩
  · have k' : X.env.scope.names.lookup y = some .local := k
    rcases h4 with k2 | k2 <;> rw [k2] at k' <;> cases k'
  · rw [h3] at e
    cases e
    exact ⟨u, r, z⟩
structure LamV (P : Program) (w : World) (K : PySem.W.Frag) (mg : Str → Option Value) (base : Heap) (k : Nat) (W : Wd) (d : D) (wB : (D → Prop) → (D → Prop) → Prop) : Prop where
  ex : ∃ f as, d = .lam f as ∧ (∀ h : Heap, (∀ p ∈ as, p.2 h) → PySem.W.FnAt f h) ∧
    ∀ (A : Around) (outer : List Env) (s : Shared) (H : Hp) (Q : L2.VK) (E : XK) (M : Addr → Prop) (PX P' : D → Prop), Room (k + 1) A → Env0 P w K mg base A outer s H → MOk W M H → (∀ p ∈ as, H p.1 = some (.ext p.2)) → wB PX P' →
      (∀ d v H', P' d → Ext W H H' → W.I H' → Rep K M H' d v → Q v H') → (∀ cls d H', XC K W M H PX cls d H' → E cls d H') → codeAny (model P w) A (.call (.ref f) ⟨[], []⟩) (CR (L2.CX P w) outer P w H s Q E) s
end VL
set_option Elab.async false
set_option linter.all false
set_option maxRecDepth 100000
set_option maxHeartbeats 4000000
namespace VL
open PySem PySem.Spec PyProof.Rows L2 LamX
section
variable {X : Cx} {pins : List (Addr × Obj)} {σ : L2.St} {H : Hp} {s : Shared}
end
section
variable {X : Cx} {W : Wd} {P c : Addr} {k : Nat}
end
theorem LamV.pl {P : Program} {w : World} {K : PySem.W.Frag} {mg : Str → Option Value} {base : Heap} {k : Nat} {W : Wd} {d : D} {wB : (D → Prop) → (D → Prop) → Prop} (L : LamV P w K mg base k W d wB) : LamV P w K mg base k W.pl d wB := by
  obtain ⟨f, as, e, h1, h2⟩ := L
  exact ⟨f, as, e, h1, fun A outer s H Q E M PX P' hr e0 m has hw kk kx => h2 A outer s H Q E M PX P' hr e0 ⟨m.wm, m.live, m.wi, m.nb, m.nx⟩ has hw kk kx⟩
end VL
set_option Elab.async false
set_option linter.all false
set_option maxRecDepth 100000
set_option maxHeartbeats 4000000
namespace VL
open PySem PySem.Spec PyProof.Rows L2
section
variable {prog : Program} {w : World} {A : Around} {E : Value → Shared → Prop} {s : Shared}
theorem but_all {x : Addr} {h h' : Heap} {ob : Obj} (hx : x = h.objs.size) (e : Heap.SameBut x (h.push ob) h') {h2 : Heap} (k : ∀ b o, b ≠ x → h'.get? b = some o → h2.get? b = some o) : ∀ b o, h.get? b = some o → h2.get? b = some o := fun b o q => by
  have nb : b ≠ x := by rw [hx]; exact Nat.ne_of_lt (Heap.lt_size q)
  exact k b o nb (e.extBut b o nb (Heap.get?_push_of_some _ q))
theorem star_items (k : Kz) {l : Addr} {items : Array Value} {n i : Nat} {Q : List Value → Shared → Prop} (hl : IsK k s.heap l items) (hh : A.handled = none) (hi : i < n) (hn : n ≤ items.size + 1) (hz : items.size ≤ 1000000)
    (h : ∀ (h2 h' : Heap) (tk : Nat), (∀ b o, s.heap.get? b = some o → h2.get? b = some o) → (∀ b o, h2.get? b = some o → h'.get? b = some o) → h'.get? h2.objs.size = some { cls := .type "list", data := .seq ((items.toList.drop i).take (items.size + 1 - n)).toArray } → Q (items.toList.take i ++ [.ref h2.objs.size] ++ (items.toList.drop i).drop (items.size + 1 - n)) { s with heap := h', toks := tk }) :
    wpAny (model prog w) A (unpackItems (.ref l) n (some i)) Q E s := by
  have len1 : (items.toList.take i).length = i := by rw [List.length_take, Array.length_toList]; omega
  have len2 : (items.toList.drop i).length = (items.size + 1 - n) + (n - 1 - i) := by rw [List.length_drop, Array.length_toList]; omega
  have e1 : ¬ (items.toList.take i).length < i := by omega
  have e2 : ¬ (items.toList.drop i).length < n - 1 - i := by omega
  have e3 : (items.toList.drop i).length - (n - 1 - i) = items.size + 1 - n := by omega
  have fin : ∀ {h1 h2 : Heap} {ob : Obj} {tk : Nat}, Heap.SameBut s.heap.objs.size (s.heap.push ob) h1 → (∀ b o, b ≠ s.heap.objs.size → h1.get? b = some o → h2.get? b = some o) →
      wpAny (model prog w) A (newList ((items.toList.drop i).take (items.size + 1 - n)) >>= fun d => pure (items.toList.take i ++ [d] ++ (items.toList.drop i).drop (items.size + 1 - n))) Q E { s with heap := h2, toks := tk } := by
    intro h1 h2 ob tk g1 g2
    refine wpAny_bind (wpAny_newList ?_ (by rw [List.length_take, sizeLine_eq]; omega))
    exact wpAny_pure (h _ _ _ (but_all rfl g1 g2) (fun b o z => Heap.get?_push_of_some _ z) (Heap.get?_push_size _ rfl))
  cases k with
  | l =>
    have hl : s.heap.IsList l items := hl
    obtain ⟨ol, hol, hcl⟩ := id hl
    have ne := Nat.ne_of_lt (Heap.lt_size hol)
    unfold unpackItems notIterableAtAll
    refine wpAny_bind (wpAny_bind (wpAny_specialOf hl.typeIs slot_list_iter.lookup (wpAny_pure ?_)))
    simp only [Bool.false_eq_true, if_false]
    refine wpAny_bind (wpAny_holding (wpAny_pyIter_list hl ?_))
    refine wpAny_bind (wpAny_holding (PySem.W.kun_draw ne i 0 _ _ ⟨_, Heap.get?_push_size _ rfl, rfl, rfl⟩ (hl.push _) (by omega) fun h1 st g1 => ?_))
    have p1 : h1.IsList l items := (hl.push _).extBut g1.extBut ne
    rw [List.drop_zero, if_neg e1]
    rw [Nat.zero_add] at st
    obtain ⟨oi, hoi, _⟩ := id st
    obtain ⟨o2, ho2, _⟩ := id p1
    refine wpAny_bind (wpAny_holding (PySem.W.kun_collect (s := { s with heap := h1 }) (T := "list_iterator") (.inr (.inr (.inl rfl))) (Walks.list (A := A.in1) hh s.heap.objs.size l ne items) (fun j u z => z.1.typeIs) (show i ≤ items.size by omega) ⟨st, p1⟩ (Heap.lt_size hoi) (Heap.lt_size ho2) (fun h2 tk g2 => ?_) (by rw [sizeLine_eq]; omega)))
    dsimp only
    rw [if_neg e2, e3]
    exact fin g1 g2
  | t =>
    have hl : IsTup s.heap l items := hl
    obtain ⟨ol, hol, hcl⟩ := id hl
    have ne := Nat.ne_of_lt (Heap.lt_size hol)
    unfold unpackItems notIterableAtAll
    refine wpAny_bind (wpAny_bind (wpAny_specialOf hl.typeIs slot_tuple_iter.lookup (wpAny_pure ?_)))
    simp only [Bool.false_eq_true, if_false]
    refine wpAny_bind (wpAny_holding (iter_tuple hl ?_))
    refine wpAny_bind (wpAny_holding (draw_tuple ne i 0 _ _ ⟨_, Heap.get?_push_size _ rfl, rfl, rfl⟩ (hl.push _) (by omega) fun h1 st g1 => ?_))
    have p1 : IsTup h1 l items := (hl.push _).extBut g1.extBut ne
    rw [List.drop_zero, if_neg e1]
    rw [Nat.zero_add] at st
    obtain ⟨oi, hoi, _⟩ := id st
    obtain ⟨o2, ho2, _⟩ := id p1
    refine wpAny_bind (wpAny_holding (PySem.W.kun_collect (s := { s with heap := h1 }) (T := "tuple_iterator") (.inr (.inr (.inr rfl))) (Walks.tuple (A := A.in1) hh s.heap.objs.size l ne items) (fun j u z => z.1.typeIs) (show i ≤ items.size by omega) ⟨st, p1⟩ (Heap.lt_size hoi) (Heap.lt_size ho2) (fun h2 tk g2 => ?_) (by rw [sizeLine_eq]; omega)))
    dsimp only
    rw [if_neg e2, e3]
    exact fin g1 g2
end
def gStar (K : PySem.W.Frag) (n i : Nat) (t : TGs) : TG := fun v σ H Q => ∃ k a xs, v = .ref a ∧ SqK k K H a xs ∧ n ≤ xs.length + 1 ∧ xs.length ≤ 1000000 ∧ ∀ D, H D = none → t (xs.take i ++ [.ref D] ++ (xs.drop i).drop (xs.length + 1 - n)) σ (upd H D (.lst ((xs.drop i).take (xs.length + 1 - n)))) Q
theorem vals_take {xs : List V} {us : List Value} (r : Vals xs us) : ∀ n, Vals (xs.take n) (us.take n) := by
  induction r with
  | nil => intro n; rw [List.take_nil, List.take_nil]; exact .nil
  | cons h _ ih =>
    intro n
    cases n with
    | zero => exact .nil
    | succ n => exact .cons h (ih n)
theorem vals_drop {xs : List V} {us : List Value} (r : Vals xs us) : ∀ n, Vals (xs.drop n) (us.drop n) := by
  induction r with
  | nil => intro n; rw [List.drop_nil, List.drop_nil]; exact .nil
  | cons h t ih =>
    intro n
    cases n with
    | zero => exact .cons h t
    | succ n => exact ih n
theorem pg_star {X : Cx} {es : List Expr} {k n i : Nat} {t : TGs} {pos : Pos} (hc : X.calm = true) (h : PGs X es t) (hn : (assignEach es X.env).length = n := by rfl) (hst : (assignEach es X.env).findIdx? (·.1) = some i := by rfl) (hi : i < n := by decide) : PG X (.Tuple es k pos) (gStar X.K n i t) := by
  refine ⟨fun pins s σ H v u Q I r hw => ?_⟩
  obtain ⟨k, a, xs, rfl, hq, h1, h2, hw⟩ := hw
  cases r
  obtain ⟨its, rv, p, _⟩ := seqK I hq
  have hl : xs.length = its.length := rv.length
  have ez : its.toArray.size = xs.length := by rw [List.size_toArray, hl]
  rw [assign_Tuple]
  refine wpAny_bind (wpAny_standAt ?_)
  unfold unpack
  rw [hn, hst]
  refine wpAny_bind (wpAny_holding (star_items k p (I.ok.hd hc) hi (by omega) (by omega) fun g2 g' tk q1 q2 q3 => ?_))
  have I1 : Inv X pins σ H { s with heap := g2, toks := tk } := I.kept (t' := tk) q1
  have fr : H g2.objs.size = none := I1.hok.fresh (Nat.le_refl _)
  rw [ez] at q3 ⊢
  have rl : Vals ((xs.drop i).take (xs.length + 1 - n)) ((its.drop i).take (xs.length + 1 - n)) := vals_take (vals_drop rv i) _
  have I2 : Inv X pins σ (upd H g2.objs.size (.lst ((xs.drop i).take (xs.length + 1 - n)))) { s with heap := g', toks := tk } := I1.laid (t' := tk) q2 (Nat.le_refl _) ⟨by rw [List.length_take, List.length_drop, sizeLine_eq]; omega, _, _, rl, q3⟩
  exact h.run pins _ σ _ _ _ Q I2 (((vals_take rv i).append (.cons (show RelV (.ref g2.objs.size) (.ref g2.objs.size) from rfl) .nil)).append (vals_drop (vals_drop rv i) _)) (hw _ fr)
def starD (n i : Nat) : D → (List D → Prop) → Prop
  | .tup xs, P => n ≤ xs.length + 1 ∧ xs.length ≤ 1000000 ∧ P (xs.take i ++ [.lst ((xs.drop i).take (xs.length + 1 - n))] ++ (xs.drop i).drop (xs.length + 1 - n))
  | .lst xs, P => n ≤ xs.length + 1 ∧ xs.length ≤ 1000000 ∧ P (xs.take i ++ [.lst ((xs.drop i).take (xs.length + 1 - n))] ++ (xs.drop i).drop (xs.length + 1 - n))
  | _, _ => False
theorem starD_of {n i : Nat} {d : D} {v : V} {P : List D → Prop} {K : PySem.W.Frag} {M : Addr → Prop} {H : Hp} (h : starD n i d P) (r : Rep K M H d v) : ∃ (k : Kz) (a : Addr) (vs : List V) (xs : List D), v = .ref a ∧ SeqM k K M H a vs ∧ Reps K M H xs vs ∧ n ≤ xs.length + 1 ∧ xs.length ≤ 1000000 ∧ P (xs.take i ++ [.lst ((xs.drop i).take (xs.length + 1 - n))] ++ (xs.drop i).drop (xs.length + 1 - n)) := by
  cases d <;> first | exact h.elim | skip
  · obtain ⟨a, ys, rfl, t, r2⟩ := r.tup
    exact ⟨.t, a, ys, _, rfl, t, r2, h⟩
  · obtain ⟨a, ys, rfl, t, r2⟩ := r.lst
    exact ⟨.l, a, ys, _, rfl, t, r2, h⟩
section
variable {X : Cx} {W : Wd} {e : Expr} {es : List Expr} {pos tpos : Pos} {vs : List Nat}
theorem vs_asgStar {k n i : Nat} {w : WE} {u : WGs} (hc : X.calm = true) (he : VE X W e w) (hg : PGs X es (LGs X.K W vs u)) (hs : swapsWithSole [.Tuple es k tpos] e pos.line X.env = pure false := by rfl) (hw : swappedStores [.Tuple es k tpos] e X.env = pure none := by rfl)
    (h1 : (assignEach [.Tuple es k tpos] X.env).map (·.2) = [assign (.Tuple es k tpos) X.env] := by rfl) (hn : (assignEach es X.env).length = n := by rfl) (hst : (assignEach es X.env).findIdx? (·.1) = some i := by rfl) (hi : i < n := by decide) :
    VS X W (.Assign [.Tuple es k tpos] e pos) (fun E ds => w ds fun d => starD n i d fun xs => u xs ds E.nx) := by
  refine ps_imp (ps_asg he (pg_star hc hg hn hst hi) hs hw h1) fun D σ H h => ?_
  obtain ⟨M0, H0, oa, ds, E, S, hw, k1, k2, k3, k4⟩ := h
  refine ⟨M0, H0, oa, ds, _, S, hw, fun d v H1 hd e1 i1 r1 => ?_⟩
  obtain ⟨kz, a, ys, xs, rfl, sq, rr, l1, l2, hu⟩ := starD_of hd r1
  have S1 := S.step e1 i1
  have el := rr.len
  refine ⟨kz, a, ys, rfl, sq.sq, by omega, by omega, fun Dl hD => ?_⟩
  rw [el]
  have fu : Full H1 (upd H1 Dl (.lst ((ys.drop i).take (xs.length + 1 - n)))) := Full.new hD
  have S2 := S1.full fu
  have rm : Reps X.K (Mx M0 oa) H1 ((xs.drop i).take (xs.length + 1 - n)) ((ys.drop i).take (xs.length + 1 - n)) := (rr.drop i).take _
  have rD := S1.mok.newL hD rm
  have r2 := rr.ext S1.mok fu.ext
  refine ⟨M0, H0, oa, ds, _, _, S2, ?_, hu, fun ds' oa' σ' hp S' _ _ _ => k1 ds' oa' σ' _ hp S'⟩
  exact ((r2.take i).app (reps_cons rD reps_nil)).app ((r2.drop i).drop (xs.length + 1 - n))
def augT : D → D → (D → Prop) → Prop
  | .int i, .int j, P => P (.int (i + j))
  | .str a, .str b, P => a.length + b.length ≤ sizeLine ∧ P (.str (a ++ b))
  | _, _, _ => False
def rAugT : R2 := fun x y H Q => (rI0 fun i j => .int (i + j)) x y H Q ∨ ∃ i j, x = .str i ∧ y = .str j ∧ i.length + j.length ≤ sizeLine ∧ Q (.str (i ++ j)) H
theorem ip_augT : PIp X .Add rAugT := fun pins s σ H x y v u Q I rx ry h => h.elim (iop_add pins s σ H x y v u Q I rx ry) (iop_add_str pins s σ H x y v u Q I rx ry)
theorem vs_augT (i : Nat) {x : Str} {w : WE} {pos' : Pos} (hN : X.N.Nodup) (he : VE X W e w) (hi : X.N[i]? = some x := by rfl) (hx : Loc X.env.scope x := by first | exact Or.inl rfl | exact Or.inr rfl)
    (hf : X.fn x = true ∨ X.env.scope.names.lookup x = some .local := by first | exact .inl rfl | exact .inr rfl | assumption) :
    VS X W (.AugAssign (.Name x pos') .Add e pos) (fun E ds => slD (ds.getD i .un) fun x => w ds fun y => augT x y fun d => E.nx (ds.set i (.d d))) := by
  refine ps_imp (ps_aug hN hi hx he ip_augT hf) fun D σ H h => ?_
  obtain ⟨M0, H0, oa, ds, E, S, hw, k1, k2, k3, k4⟩ := h
  obtain ⟨xd, e, hp⟩ := slD_of hw
  obtain ⟨v, h1, r⟩ := S.get (getD_get e)
  refine ⟨v, h1, M0, H0, oa, ds, _, S, hp, fun y u H1 hy e1 i1 r1 => ?_⟩
  have S1 := S.step e1 i1
  have rx := r.ext S.mok e1
  cases xd <;> cases y <;> first | exact hy.elim | skip
  · cases rx.int; cases r1.int
    exact .inl ⟨_, _, rfl, rfl, k1 _ _ _ _ hy (S1.set rep_int)⟩
  · cases rx.str; cases r1.str
    exact .inr ⟨_, _, rfl, rfl, hy.1, k1 _ _ _ _ hy.2 (S1.set rep_str)⟩
def swD : D → D → (D → Prop) → Prop
  | .str a, .str b, P => P (.bl (Txt.startswith a b))
  | _, _, _ => False
theorem lift_sw {K : PySem.W.Frag} : LiftOp K W swD (fun x y H Q => ∃ a b, x = .str a ∧ [y] = [.str b] ∧ Q (.bl (Txt.startswith a b)) H) := fun M H x y v u P Q m r1 r2 h k => by
  cases x <;> cases y <;> first | exact h.elim | skip
  cases r1.str; cases r2.str
  exact ⟨_, _, rfl, rfl, k _ _ H h (Full.refl H).ext m.wi rep_bl⟩
theorem ve_startswith {o e : Expr} {apos pos : Pos} {wa wb : WE} (ho : VE X W o wa) (he : VE X W e wb) (hs : starEach [e] X.env = [(false, eval e X.env)] := by rfl) (hbase : attributeBase o "startswith" X.env (eval o X.env) = eval o X.env := by rfl) (hline : (apos.endLine == pos.line) = true := by rfl) :
    VE X W (.Call (.Attribute o "startswith" apos) [e] [] pos) (wM1 swD wa wb) := ve_m1 (o := o) (e := e) (pe_m1 PySem.F.slot_str_startswith PySem.F.type_str_startswith mt_startswith ho he hs hbase hline) lift_sw
def evens {α : Type} : List α → List α
  | [] => []
  | [a] => [a]
  | a :: _ :: r => a :: evens r
end
theorem evens_pick {α : Type} (xs : List α) : ∀ (n m : Nat), xs.length = n → m = (n + 1) / 2 → (List.range m).filterMap (fun k => xs[2 * k]?) = evens xs := by
  induction xs using evens.induct with
  | case1 =>
    intro n m h1 h2
    have : m = 0 := by subst h1; simpa using h2
    subst this
    rfl
  | case2 a =>
    intro n m h1 h2
    have : m = 1 := by subst h1; simpa using h2
    subst this
    rfl
  | case3 a b r ih =>
    intro n m h1 h2
    rw [List.length_cons, List.length_cons] at h1
    obtain ⟨m, rfl⟩ : ∃ k, m = k + 1 := ⟨m - 1, by omega⟩
    rw [List.range_succ_eq_map, List.filterMap_cons]
    show a :: _ = a :: _
    rw [List.filterMap_map]
    exact congrArg _ (ih r.length m rfl (by omega))
theorem fm_congr {α β : Type} {f g : α → Option β} : ∀ {l : List α}, (∀ x ∈ l, f x = g x) → l.filterMap f = l.filterMap g
  | [], _ => rfl
  | a :: l, h => by
    rw [List.filterMap_cons, List.filterMap_cons, h a (.head _), fm_congr fun x hx => h x (.tail _ hx)]
theorem range_two (start n m : Nat) (h : m = (n - start + 1) / 2) : PySem.sliceRange (start : Int) (n : Int) 2 = (List.range m).map fun k => start + 2 * k := by
  unfold PySem.sliceRange
  rw [if_pos (by decide)]
  show List.map (fun (k : Nat) => ((start : Int) + 2 * (k : Int)).toNat) (List.range (if (start : Int) < (n : Int) then ((n : Int) - start + 2 - 1) / 2 else 0).toNat) = _
  have e : (if (start : Int) < n then ((n : Int) - start + 2 - 1) / 2 else 0).toNat = m := by split <;> omega
  rw [e]
  refine List.map_congr_left fun k _ => ?_
  omega
theorem pick_even (items : Array Value) : slicePick items none none (some 2) = (evens items.toList).toArray := by
  unfold slicePick
  rw [show sliceBounds none none (some 2) items.size = (((0 : Nat) : Int), (items.size : Int), 2) from rfl]
  dsimp only
  rw [range_two 0 items.size ((items.size + 1) / 2) (by omega), List.filterMap_map]
  congr 1
  rw [← evens_pick items.toList items.size _ (Array.length_toList ..) rfl]
  refine fm_congr fun k _ => ?_
  show items[0 + 2 * k]? = _
  rw [Nat.zero_add, Array.getElem?_toList]
theorem pick_odd (items : Array Value) : slicePick items (some 1) none (some 2) = (evens (items.toList.drop 1)).toArray := by
  unfold slicePick
  have eb : sliceBounds (some 1) none (some 2) items.size = (((min 1 items.size : Nat) : Int), (items.size : Int), 2) := by
    unfold sliceBounds
    simp only [Option.getD_some]
    rw [if_pos (by decide), if_neg (by decide), if_pos (by decide)]
    congr 1
    omega
  rw [eb]
  dsimp only
  rw [range_two (min 1 items.size) items.size (items.size / 2) (by omega), List.filterMap_map]
  congr 1
  rw [← evens_pick (items.toList.drop 1) (items.size - 1) (items.size / 2) (by rw [List.length_drop, Array.length_toList]) (by omega)]
  refine fm_congr fun k hk => ?_
  have hk := List.mem_range.mp hk
  show items[min 1 items.size + 2 * k]? = _
  rw [List.getElem?_drop, Array.getElem?_toList, show min 1 items.size = 1 by omega]
section
variable {X : Cx} {W : Wd} {e : Expr} {pos : Pos}
def tPick (K : PySem.W.Frag) (f : List V → List V) (te : TE) : TE := fun σ H Q => te σ H fun x H1 => ∃ a xs, x = .ref a ∧ SqL K H1 a xs ∧ ∀ p, H1 p = none → Q (.ref p) (upd H1 p (.lst (f xs)))
theorem evens_len {α : Type} : ∀ l : List α, (evens l).length ≤ l.length
  | [] => Nat.le_refl _
  | [_] => Nat.le_refl _
  | _ :: _ :: r => by have := evens_len r; show (evens r).length + 1 ≤ r.length + 1 + 1; omega
theorem vals_even {xs : List V} {us : List Value} (r : Vals xs us) : Vals (evens xs) (evens us) := by
  induction xs using evens.induct generalizing us with
  | case1 => cases r; exact .nil
  | case2 a => cases r with | cons h t => cases t; exact .cons h .nil
  | case3 a b l ih => cases r with | cons h t => cases t with | cons h2 t2 => exact .cons h (ih t2)
theorem reps_even {K : PySem.W.Frag} {M : Addr → Prop} {H : Hp} {xs : List D} {us : List V} (r : Reps K M H xs us) : Reps K M H (evens xs) (evens us) := by
  induction xs using evens.induct generalizing us with
  | case1 => cases r.inv0; exact reps_nil
  | case2 a => obtain ⟨v, vs, rfl, h, t⟩ := r.inv; cases t.inv0; exact reps_cons h reps_nil
  | case3 a b l ih => obtain ⟨v, vs, rfl, h, t⟩ := r.inv; obtain ⟨v', vs', rfl, h', t'⟩ := t.inv; exact reps_cons h (ih t')
theorem pe_evens {te : TE} {k : Nat} {p1 p3 : Pos} (he : PE X e te) : PE X (.Subscript e (.Slice none none (some (.Constant (.int 2) k p1)) p3) pos) (tPick X.K evens te) := by
  refine ⟨fun pins s σ H Q I h => ?_⟩
  refine Subscript_ (thn (he.run pins s σ H _ I h) fun v s1 ⟨x, H1, I1, r1, a, xs, ex, hx, q⟩ => ?_)
  subst ex
  cases r1
  have hst : PO X (some (.Constant (.int 2) k p1)) (tPart (tC (.int 2))) := po_some pe_int
  refine wpAny_Slice (thn (po_none.run pins s1 σ H1 (fun o G => o = none ∧ G = H1) I1 ⟨rfl, rfl⟩) fun vl s2 ⟨l, G2, I2, pl, el, e2⟩ => ?_)
  subst el e2
  refine thn (po_none.run pins s2 σ G2 (fun o G => o = none ∧ G = G2) I2 ⟨rfl, rfl⟩) fun vu s3 ⟨u, G3, I3, pu, eu, e3⟩ => ?_
  subst eu e3
  refine thn (hst.run pins s3 σ G3 (fun o G => o = some 2 ∧ G = G3) I3 ⟨2, rfl, rfl, rfl⟩) fun vs s4 ⟨o, G4, I4, ps, eo, e4⟩ => ?_
  subst eo e4
  have I5 : Inv X pins σ G4 { s4 with heap := s4.heap.push { cls := .type "slice", data := .fields #[vl, vu, vs] } } := I4.kept (t' := s4.toks) fun b ob q => Heap.get?_push_of_some _ q
  obtain ⟨its, r, ht, hz⟩ := I5.list hx
  have hlen := r.length
  show wpAny (model X.prog X.w) X.A (subscriptTail e (.Slice none none (some (.Constant (.int 2) k p1)) p3) (.ref a) (.ref s4.heap.objs.size)) (EP X pins σ Q) X.xe { s4 with heap := s4.heap.push { cls := .type "slice", data := .fields #[vl, vu, vs] } }
  refine tail_any (ops := [.ref a, .ref s4.heap.objs.size]) ht.isList.typeIs (PySem.slot_list_getitem.lookup) ?_ (by with_unfolding_all rfl)
  refine wpAny_getItem_list_slice ht.isList (Heap.IsSliceOf.new _ vl vu vs) pl pu ps (by decide) ?_ (by rw [List.size_toArray]; omega)
  rw [pick_even]
  have hl2 := evens_len xs
  exact ⟨.ref _, _, I5.laid (t' := s4.toks) (o := .lst (evens xs)) (fun b ob q => Heap.get?_push_of_some _ q) (Nat.le_refl _) ⟨by omega, _, 0, vals_even r, Heap.get?_push_size _ rfl⟩, rfl, q _ (I5.hok.fresh (Nat.le_refl _))⟩
theorem pe_odds {te : TE} {k kl : Nat} {p0 p1 p3 : Pos} (he : PE X e te) : PE X (.Subscript e (.Slice (some (.Constant (.int 1) kl p0)) none (some (.Constant (.int 2) k p1)) p3) pos) (tPick X.K (fun xs => evens (xs.drop 1)) te) := by
  refine ⟨fun pins s σ H Q I h => ?_⟩
  refine Subscript_ (thn (he.run pins s σ H _ I h) fun v s1 ⟨x, H1, I1, r1, a, xs, ex, hx, q⟩ => ?_)
  subst ex
  cases r1
  have hst : PO X (some (.Constant (.int 2) k p1)) (tPart (tC (.int 2))) := po_some pe_int
  have hlo : PO X (some (.Constant (.int 1) kl p0)) (tPart (tC (.int 1))) := po_some pe_int
  refine wpAny_Slice (thn (hlo.run pins s1 σ H1 (fun o G => o = some 1 ∧ G = H1) I1 ⟨1, rfl, rfl, rfl⟩) fun vl s2 ⟨l, G2, I2, pl, el, e2⟩ => ?_)
  subst el e2
  refine thn (po_none.run pins s2 σ G2 (fun o G => o = none ∧ G = G2) I2 ⟨rfl, rfl⟩) fun vu s3 ⟨u, G3, I3, pu, eu, e3⟩ => ?_
  subst eu e3
  refine thn (hst.run pins s3 σ G3 (fun o G => o = some 2 ∧ G = G3) I3 ⟨2, rfl, rfl, rfl⟩) fun vs s4 ⟨o, G4, I4, ps, eo, e4⟩ => ?_
  subst eo e4
  have I5 : Inv X pins σ G4 { s4 with heap := s4.heap.push { cls := .type "slice", data := .fields #[vl, vu, vs] } } := I4.kept (t' := s4.toks) fun b ob q => Heap.get?_push_of_some _ q
  obtain ⟨its, r, ht, hz⟩ := I5.list hx
  have hlen := r.length
  show wpAny (model X.prog X.w) X.A (subscriptTail e (.Slice (some (.Constant (.int 1) kl p0)) none (some (.Constant (.int 2) k p1)) p3) (.ref a) (.ref s4.heap.objs.size)) (EP X pins σ Q) X.xe { s4 with heap := s4.heap.push { cls := .type "slice", data := .fields #[vl, vu, vs] } }
  refine tail_any (ops := [.ref a, .ref s4.heap.objs.size]) ht.isList.typeIs (PySem.slot_list_getitem.lookup) ?_ (by with_unfolding_all rfl)
  refine wpAny_getItem_list_slice ht.isList (Heap.IsSliceOf.new _ vl vu vs) pl pu ps (by decide) ?_ (by rw [List.size_toArray]; omega)
  rw [pick_odd]
  have hl2 := evens_len (xs.drop 1)
  rw [List.length_drop] at hl2
  exact ⟨.ref _, _, I5.laid (t' := s4.toks) (o := .lst (evens (xs.drop 1))) (fun b ob q => Heap.get?_push_of_some _ q) (Nat.le_refl _) ⟨by omega, _, 0, vals_even (vals_drop r 1), Heap.get?_push_size _ rfl⟩, rfl, q _ (I5.hok.fresh (Nat.le_refl _))⟩
def evD (f : List D → List D) : D → (D → Prop) → Prop
  | .lst xs, P => P (.lst (f xs))
  | _, _ => False
theorem ve_evens {w : WE} {k : Nat} {p1 p3 : Pos} (he : VE X W e w) : VE X W (.Subscript e (.Slice none none (some (.Constant (.int 2) k p1)) p3) pos) (fun ds P => w ds fun x => evD evens x P) := by
  refine pe_imp (pe_evens he) fun σ H Q h => ?_
  obtain ⟨M0, H0, oa, ds, P, S, hw, k⟩ := h
  refine ⟨M0, H0, oa, ds, _, S, hw, fun d v H1 hd e1 i1 r1 => ?_⟩
  cases d <;> first | exact hd.elim | skip
  obtain ⟨a, ys, rfl, t, r2⟩ := r1.lst
  refine ⟨a, ys, rfl, t.sq, fun p hp => ?_⟩
  have fu : Full H1 (upd H1 p (.lst (evens ys))) := Full.new hp
  exact k _ _ _ hd (e1.trans fu.ext) (W.keep _ _ i1 fu) ((S.step e1 i1).mok.newL hp (reps_even r2))
theorem ve_odds {w : WE} {k kl : Nat} {p0 p1 p3 : Pos} (he : VE X W e w) : VE X W (.Subscript e (.Slice (some (.Constant (.int 1) kl p0)) none (some (.Constant (.int 2) k p1)) p3) pos) (fun ds P => w ds fun x => evD (fun xs => evens (xs.drop 1)) x P) := by
  refine pe_imp (pe_odds he) fun σ H Q h => ?_
  obtain ⟨M0, H0, oa, ds, P, S, hw, k⟩ := h
  refine ⟨M0, H0, oa, ds, _, S, hw, fun d v H1 hd e1 i1 r1 => ?_⟩
  cases d <;> first | exact hd.elim | skip
  obtain ⟨a, ys, rfl, t, r2⟩ := r1.lst
  refine ⟨a, ys, rfl, t.sq, fun p hp => ?_⟩
  have fu : Full H1 (upd H1 p (.lst (evens (ys.drop 1)))) := Full.new hp
  exact k _ _ _ hd (e1.trans fu.ext) (W.keep _ _ i1 fu) ((S.step e1 i1).mok.newL hp (reps_even (r2.drop 1)))
end
theorem vr_enum_new {v : Value} {ob : Obj} {G : Heap → Prop} (B : Begins v ob G) :
    Meets (Builtin.«enumerate.__new__» ⟨[.type "enumerate", v], []⟩) (fun _ R s => G s.heap ∧
      R (.ok (.ret (.ref (s.heap.push ob).objs.size))) { s with heap := (s.heap.push ob).push { cls := .type "enumerate", data := .fields #[.none, .bool false, .ref s.heap.objs.size, rawInt 0, .none, .none] } }) :=
  .of_wp fun prog w A R s z => by
    obtain ⟨hp, gg, dd, kk, oo⟩ := s
    obtain ⟨g1, z⟩ := z
    have sb := sub_enumerate
    have go : ∀ {A' : Around} {E Q : Value → Shared → Prop}, Q (.ref hp.objs.size) ⟨hp.push ob, gg, dd, kk, oo⟩ → wpAny (model prog w) A' (pyIter v) Q E ⟨hp, gg, dd, kk, oo⟩ := fun q => B.iter prog w _ _ ⟨hp, gg, dd, kk, oo⟩ _ g1 q
    wp_walk using go
    refine wpAny_stack_any fun _ => wpAny_pure ?_
    split
    · rename_i c _ _ _ _ _
      cases (c == Value.type "enumerate") <;> (wp_walk using go; exact ⟨_, rfl, z⟩)
    · wp_walk using go
      exact ⟨_, rfl, z⟩
section
variable {prog : Program} {w : World} {A : Around} {E : Value → Shared → Prop} {s : Shared}
theorem vr_enum {v : Value} {ob : Obj} {G : Heap → Prop} {Q : Value → Shared → Prop} (B : Begins v ob G) (g1 : G s.heap)
    (h : ∀ h', IsEnum h' (s.heap.objs.size + 1) s.heap.objs.size 0 .none → h'.get? s.heap.objs.size = some ob → (∀ b o, s.heap.get? b = some o → h'.get? b = some o) → Q (.ref (s.heap.objs.size + 1)) { s with heap := h' }) :
    wpAny (model prog w) A (call (.type "enumerate") [v]) Q E s := by
  have sz : (s.heap.push ob).objs.size = s.heap.objs.size + 1 := Heap.size_push ..
  refine callType_new PySem.F.called_enumerate (by decide) (PySem.F.typeCall_enumerate_1 _) (PySem.F.newCall_enumerate_1 _) (fun obj => PySem.F.args_object_init_2 obj _) PySem.F.entry_enumerate_new (vr_enum_new B) ⟨g1, ?_⟩
  have at_ := Heap.get?_push_size (s.heap.push ob) (o := { cls := .type "enumerate", data := .fields #[.none, .bool false, .ref s.heap.objs.size, rawInt 0, .none, .none] }) rfl
  rw [sz] at at_
  show _ ∧ _
  rw [sz]
  exact ⟨⟨_, at_, rfl⟩, h _ at_ (Heap.get?_push_of_some _ (Heap.get?_push_size _ B.free)) fun b o q => Heap.get?_push_of_some _ (Heap.get?_push_of_some _ q)⟩
end
def IteK (K : PySem.W.Frag) (k : Kz) (a : Addr) : It :=
  ⟨fun i H => ∃ (xs : List V) (x : V), SqK k K H a xs ∧ xs[i]? = some x,
    fun i H v H' => ∃ T x, v = .ref T ∧ H T = none ∧ H' = upd H T (.tup [.int (i : Nat), x]) ∧ ∀ xs, SqK k K H a xs → xs[i]? = some x,
    fun i H => ∃ xs : List V, SqK k K H a xs ∧ xs.length = i⟩
theorem turn_enumK {P : Program} {w : World} {K : PySem.W.Frag} {elts : List Expr} {kk : Nat} {tpos : Pos} {k : Kz} {a e it : Addr} (ha : a ≠ it) (hae : a ≠ e) (hei : e ≠ it) :
    Turn P w K (.Tuple elts kk tpos) (IteK K k a) [e, it] e (fun i h => (∃ old, IsEnum h e it ((i : Nat) : Int) old) ∧ IterK k h it a i) where
  mem := by simp
  obj := fun i h st c hc => by
    obtain ⟨⟨old, he⟩, hi⟩ := st
    have e' : c = e ∨ c = it := by simpa using hc
    rcases e' with q | q
    · rw [q]; exact ⟨_, he, fun v z => nomatch z⟩
    · rw [q]; exact hi.obj
  keep := fun i h h' st kp => by
    obtain ⟨⟨old, he⟩, hi⟩ := st
    exact ⟨⟨old, kp e (by simp) _ he⟩, hi.at fun o q => kp it (by simp) o q⟩
  item := by
    intro X hP hw hK hc i pins s σ H E I hf st hg
    subst hP hw hK
    obtain ⟨⟨old, he⟩, hi⟩ := st
    obtain ⟨xs, x, hq, hx⟩ := hg
    obtain ⟨its, rv, p, _⟩ := seqK I hq
    obtain ⟨u, hu, ru⟩ := rv.get hx
    have el := Heap.lt_size he
    have hh : X.A.in1.handled = none := I.ok.hd hc
    have lt : i < its.toArray.size := by rw [List.size_toArray]; exact (List.getElem?_eq_some_iff.mp hu).1
    refine wpAny_pyNext_enum_itemD (drawsK k hh it a ha its.toArray) he ⟨hi, p⟩ lt hei (by simp [hei, Ne.symm hae]) fun v h' tk y1 out st' hT hsz hk => ?_
    obtain rfl : u = v := by
      have : some u = some v := by rw [← y1]; simpa using hu.symm
      exact Option.some.inj this
    obtain ⟨hi', _⟩ := st'
    refine ⟨_, rfl, wpAny_letOwnedTupleGo_enum (s := { s with heap := h', toks := tk + 1 }) out fun h'' en sb => ?_⟩
    have hT2 := (sb.2 _ (Nat.ne_of_gt el)).trans hT
    have new : ObjOk X.prog X.w (upd H s.heap.objs.size (.tup [.int (i : Nat), x])) h'' s.heap.objs.size (.tup [.int (i : Nat), x]) := ⟨by show 2 ≤ sizeLine; decide, [.int i tk, u], .cons ⟨_, rfl⟩ (.cons ru .nil), ⟨_, hT2, rfl, _, rfl⟩⟩
    have I1 := I.turnedNew (t' := tk + 1) (ch := [e, it]) (fun b o hb q => (sb.2 b (fun z => hb (by simp [z]))).trans (hk b o (fun z => hb (by simp [z])) (fun z => hb (by simp [z])) q)) hf (Nat.le_refl _) new
    refine ⟨.ref s.heap.objs.size, _, I1, rfl, ⟨_, x, rfl, I.hok.fresh (Nat.le_refl _), rfl, fun l hl => by rw [seqK_inj I hl hq]; exact hx⟩, ⟨⟨u, ?_⟩, hi'.at fun o q => (sb.2 it (Ne.symm hei)).trans q⟩, fun c hcm => ?_⟩
    · have e1 : ((i + 1 : Nat) : Int) = (i : Int) + 1 := by omega
      rw [e1]; exact en
    · have hlt : c < s.heap.objs.size := by
        have e' : c = e ∨ c = it := by simpa using hcm
        rcases e' with q | q
        · rw [q]; exact el
        · rw [q]; obtain ⟨_, e1, _⟩ := hi.obj; exact Heap.lt_size e1
      rw [upd_ne (Nat.ne_of_lt hlt)]
      exact (hf c hcm).1
  done := by
    intro X hP hw hK hc i pins s σ H E I hf st hg
    subst hP hw hK
    obtain ⟨⟨old, he⟩, hi⟩ := st
    obtain ⟨xs, hq, hx⟩ := hg
    obtain ⟨its, rv, p, _⟩ := seqK I hq
    have hh : X.A.in1.handled = none := I.ok.hd hc
    have l1 : its.toArray.size = i := by rw [List.size_toArray, ← hx]; exact rv.length.symm
    subst l1
    refine wpAny_pyNext_enum_endD (drawsK k hh it a ha its.toArray) he ⟨hi, p⟩ fun h' eb => ?_
    obtain ⟨f0, f1, f2, f3, f4, f5⟩ := hf it (by simp)
    exact ⟨rfl, I.turned (t' := s.toks) (fun b o hb q => eb b o hb q) f0 f1 f3 f4 f5⟩
  self := fun A i s Q E st h => let ⟨⟨_, he⟩, _⟩ := st; wpAny_pyIter_enum he h
def iEnumK (K : PySem.W.Frag) (ta : TA) : TI := fun σ H R => ta σ H fun vs H1 => ∃ k a xs, vs = [.ref a] ∧ SqK k K H1 a xs ∧ R (IteK K k a) H1
theorem pi_enumK {X : Cx} {e : Expr} {ta : TA} {p pos tpos : Pos} {elts : List Expr} {kk : Nat} (hg : Gl X "enumerate") (hm : X.mg "enumerate" = none) (ha : PA X [e] ta) (hs : starEach [e] X.env = [(false, eval e X.env)] := by rfl) :
    PI X (.Tuple elts kk tpos) (.Call (.Name "enumerate" p) [e] [] pos) (iEnumK X.K ta) := by
  refine ⟨fun pins s σ H R I h => ?_⟩
  refine Call_ (ld_blt I hg hm boot_enumerate (PyProof.Rows.callWith_type1 (thn (ha.run pos pins s σ H _ I h) fun us s1 ⟨vs, H1, I1, r1, k, a, xs, ex, hq, q⟩ => ?_) hs rfl))
  subst ex
  cases r1 with
  | cons r rr =>
    cases rr
    cases r
    obtain ⟨its, rv, p1, lt⟩ := seqK I1 hq
    refine vr_enum (beginsK k a its.toArray) p1 fun h' he hi hk => wpAny_pyIter_enum he ?_
    have I2 : Inv X pins σ H1 { s1 with heap := h' } := I1.kept (t' := s1.toks) hk
    refine ⟨s1.heap.objs.size + 1, [s1.heap.objs.size + 1, s1.heap.objs.size], _, _, H1, rfl, I2, turn_enumK (k := k) (a := a) (e := s1.heap.objs.size + 1) (it := s1.heap.objs.size) (Nat.ne_of_lt lt) (Nat.ne_of_lt (Nat.lt_succ_of_lt lt)) (Nat.succ_ne_self _), ⟨⟨.none, he⟩, iterK0 hi⟩, fun b hb => ?_, q⟩
    have hle : s1.heap.objs.size ≤ b := by
      have e' : b = s1.heap.objs.size + 1 ∨ b = s1.heap.objs.size := by simpa using hb
      rcases e' with z | z <;> rw [z]
      · exact Nat.le_add_right _ _
      · exact Nat.le_refl _
    exact I1.fpOk hle (I1.hok.fresh hle)
def enumD (xs : List D) : List D := (List.range xs.length).zip xs |>.map fun p => D.tup [.int (p.1 : Nat), p.2]
theorem enumD_len (xs : List D) : (enumD xs).length = xs.length := by simp [enumD]
theorem enumD_get {xs : List D} {i : Nat} {d : D} (h : (enumD xs)[i]? = some d) : ∃ x, xs[i]? = some x ∧ d = .tup [.int i, x] := by
  unfold enumD at h
  rw [List.getElem?_map] at h
  obtain ⟨p, hp, rfl⟩ := Option.map_eq_some_iff.mp h
  obtain ⟨a, b⟩ := p
  obtain ⟨h1, h2⟩ := List.getElem?_zip_eq_some.mp hp
  have h1 : (List.range xs.length)[i]? = some a := h1
  rw [List.getElem?_range (List.getElem?_eq_some_iff.mp h2).1] at h1
  cases h1
  exact ⟨b, h2, rfl⟩
def enD : D → (List D → Prop) → Prop
  | .tup xs, P => xs.length ≤ 1000000 ∧ P (enumD xs)
  | .lst xs, P => xs.length ≤ 1000000 ∧ P (enumD xs)
  | _, _ => False
section
variable {K : PySem.W.Frag} {W : Wd} {M : Addr → Prop} {H1 : Hp}
theorem itok_en {k : Kz} {a : Addr} {xs : List V} {ds : List D} (t : SeqM k K M H1 a xs) (r : Reps K M H1 ds xs) : ItOk K W M H1 (IteK K k a) (enumD ds) := fun M2 H2 c m => by
  have u1 := (t.car c).sq
  refine ⟨fun i hi => ?_, fun i hi hi2 => ⟨xs, u1, ?_⟩, fun i d x H3 hd hy => ?_⟩
  · rw [enumD_len] at hi
    obtain ⟨x, hx⟩ := get_lt (xs := xs) (i := i) (by rw [r.len]; omega)
    exact ⟨xs, x, u1, hx⟩
  · rw [enumD_len] at hi hi2
    rw [r.len]
    omega
  · obtain ⟨T, x', rfl, hT, rfl, g1⟩ := hy
    obtain ⟨dx, h1, rfl⟩ := enumD_get hd
    obtain ⟨v1, hv1, rv1⟩ := r.get h1
    have q1 := g1 xs u1
    rw [hv1] at q1
    cases q1
    exact ⟨Full.new hT, m.newT hT (reps_cons rep_int (reps_cons (rv1.car c) reps_nil))⟩
theorem vi_enum {X : Cx} {e : Expr} {w : WE} {p pos tpos : Pos} {elts : List Expr} {kk : Nat} (hg : Gl X "enumerate") (hm : X.mg "enumerate" = none) (ha : VE X W e w) (hs : starEach [e] X.env = [(false, eval e X.env)] := by rfl) (hs1 : starEach [e] X.env = (false, eval e X.env) :: starEach [] X.env := by rfl) :
    VI X W (.Tuple elts kk tpos) (.Call (.Name "enumerate" p) [e] [] pos) (fun ds P => w ds fun d => enD d P) := by
  refine pi_imp (pi_enumK hg hm (pa_cons ha pa_nil hs1) hs) fun σ H R h => ?_
  obtain ⟨M0, H0, oa, ds, P, S, hw, k⟩ := h
  refine ⟨M0, H0, oa, ds, _, S, hw, fun d v H1 hd e1 i1 r1 => ?_⟩
  cases d <;> first | exact hd.elim | skip
  · obtain ⟨a, ys, rfl, t, r2⟩ := r1.tup
    exact ⟨.t, a, ys, rfl, t.sq, k _ _ H1 hd.2 (by rw [enumD_len, sizeLine_eq]; exact Nat.le_trans hd.1 (by decide)) e1 i1 (itok_en (k := .t) t r2)⟩
  · obtain ⟨a, ys, rfl, t, r2⟩ := r1.lst
    exact ⟨.l, a, ys, rfl, t.sq, k _ _ H1 hd.2 (by rw [enumD_len, sizeLine_eq]; exact Nat.le_trans hd.1 (by decide)) e1 i1 (itok_en (k := .l) t r2)⟩
end
section
variable {X : Cx} {W : Wd} {e : Expr} {pos : Pos} {vs : List Nat}
theorem vgs_star {es : List Expr} {w : WG} {u : WGs} {sp : Pos} (h1 : VG X W vs e w) (h2 : PGs X es (LGs X.K W vs u)) (hs : (assignEach (e :: es) X.env).map (·.2) = assign e X.env :: (assignEach es X.env).map (·.2) := by rfl) (hst : (assignEach (.Starred e sp :: es) X.env).map (·.2) = (assignEach (e :: es) X.env).map (·.2) := by rfl) :
    PGs X (.Starred e sp :: es) (LGs X.K W vs (wgCons w u)) := by
  have h := vgs_cons (vs := vs) h1 h2 hs
  exact ⟨fun pins s σ H us ws Q I r q => by rw [hst]; exact h.run pins s σ H us ws Q I r q⟩
theorem wipe_nil (σ : L2.St) : wipe σ [] = σ := by
  apply List.ext_getElem?
  intro i
  rw [wipe_get]
  rfl
theorem wipeD_nil (ds : List Sl) : wipeD ds [] = ds := by
  apply List.ext_getElem?
  intro i
  unfold wipeD
  rw [List.getElem?_map]
  by_cases h : i < ds.length
  · rw [List.getElem?_range h, List.getElem?_eq_getElem h]
    simp [h]
  · rw [List.getElem?_eq_none (by simp; omega), List.getElem?_eq_none (by omega)]
    rfl
theorem mx_put_le {M0 : Addr → Prop} {oa : Nat → AS} {i : Nat} {p : Addr} {H : Hp} : Car (Mx (fun a => M0 a ∨ a = p) oa) (Mx M0 (oaPut oa i p)) H H := fun b o n h => ⟨fun z => n (by
  rcases z with z | ⟨j, z⟩
  · exact .inl (.inl z)
  · unfold oaPut at z
    split at z
    · exact .inl (.inr z)
    · exact .inr ⟨j, z⟩), h⟩
theorem vs_parNil (i j : Nat) {x y : Str} {wa : WE} {px py pt dp : Pos} {kt k2 pt2} (hc : X.calm = true) (hN : X.N.Nodup) (hij : i ≠ j) (ha : VE X W e wa) (hi : X.N[i]? = some x := by rfl) (hj : X.N[j]? = some y := by rfl)
    (hx : X.env.scope.names.lookup x = some .local := by rfl) (hy : X.env.scope.names.lookup y = some .local := by rfl)
    (hw : swappedStores [.Tuple [.Name x px, .Name y py] kt pt] (.Tuple [.List [] dp, e] k2 pt2) X.env = pure (some [x, y]) := by rfl)
    (hs : swapsWithSole [.Tuple [.Name x px, .Name y py] kt pt] (.Tuple [.List [] dp, e] k2 pt2) pos.line X.env = pure false := by rfl) (hs1 : starEach [.List [] dp, e] X.env = (false, eval (.List [] dp) X.env) :: starEach [e] X.env := by rfl) (hs2 : starEach [e] X.env = (false, eval e X.env) :: starEach [] X.env := by rfl) :
    VS X W (.Assign [.Tuple [.Name x px, .Name y py] kt pt] (.Tuple [.List [] dp, e] k2 pt2) pos) (fun E ds => i < ds.length ∧ wa ds fun d => E.nx ((ds.set i (.ml [])).set j (.d d))) := by
  refine ps_imp (ps_par hc hN hi hj hij hx hy (pa_cons (pe_lst pa_nil) (pa_cons ha pa_nil hs2) hs1) hw hs) fun D σ H h => ?_
  obtain ⟨M0, H0, oa, ds, E, S, ⟨hl, hw⟩, k1, k2, k3, k4⟩ := h
  refine ⟨by show 0 ≤ sizeLine; exact Nat.zero_le _, fun p hp => ?_⟩
  have fu : Full H (upd H p (.lst [])) := Full.new hp
  have S1 := S.blk (vs := []) (Dl := p) (ob := .lst []) (H2 := upd H p (.lst [])) rfl hp (fun b o _ z => fu b o z) (W.keep _ _ S.wi fu) upd_same
  rw [wipe_nil, wipeD_nil] at S1
  refine ⟨_, _, oa, ds, _, S1, hw, fun d v H3 hd e1 i1 r1 => ⟨.ref p, v, rfl, ?_⟩⟩
  have nA : ¬ W.A p := fun z => (W.live _ _ S.wi z) hp
  have S3 := S.takeown (i := i) hl hp (fu.ext.trans e1) i1 (xs := []) (vs := []) (e1 p _ nA upd_same) reps_nil
  exact k1 _ _ _ _ hd (S3.set (r1.car mx_put_le))
end
end VL
set_option Elab.async false
set_option linter.all false
set_option maxRecDepth 100000
set_option maxHeartbeats 2000000
set_option exponentiation.threshold 20000
namespace VL
open PySem PySem.Spec PyProof.Rows L2 NumText
def negF : D → Bool
  | .tup [.int a, _] => decide (a < 0)
  | _ => false
def barD : D → D
  | .tup [.int a, b] => .tup [.int (if a < 0 then -a else a), b]
  | d => d
def partS (s : Str) (f : D) : Str := if s = ("" : Str) then textD f else if eqv f oneD = true then s else textD f ++ ("*" : Str) ++ s
def markF (first : Bool) (f : D) : Str := if negF f = true then (if first = true then ("-" : Str) else (" - " : Str)) else (if first = true then ("" : Str) else (" + " : Str))
def pStep (first : Bool) (acc : Str) : D → Str
  | .tup [.str s, f] => acc ++ markF first f ++ partS s (barD f)
  | _ => acc
def formS : List D → Str
  | [] => ("" : Str)
  | p :: r => r.foldl (pStep false) (pStep true ("" : Str) p)
theorem formS_snoc {l : List D} (p : D) (h : l ≠ []) : formS (l ++ [p]) = pStep false (formS l) p := by
  cases l with
  | nil => exact absurd rfl h
  | cons a r =>
    show List.foldl _ _ (r ++ [p]) = _
    rw [List.foldl_append]
    rfl
theorem formS_take {ps : List D} {i : Nat} {p : D} (h : ps[i]? = some p) : formS (ps.take (i + 1)) = pStep (decide (i = 0)) (formS (ps.take i)) p := by
  rw [take_one h]
  cases i with
  | zero => rfl
  | succ i =>
    rw [decide_eq_false (Nat.succ_ne_zero i)]
    refine formS_snoc p fun e => ?_
    have hl := (List.getElem?_eq_some_iff.mp h).1
    have := congrArg List.length e
    rw [List.length_take, List.length_nil] at this
    omega
def constP (ts : List D) (c : D) : List D := if isZ c = true ∧ ts ≠ [] then [] else [.tup [.str ("" : Str), c]]
def partsD (ts : List D) (c : D) : List D := ts ++ constP ts c
def sgnT (f : D) : Str := if negF f = true then ("-" : Str) else ("+" : Str)
def wordW : D → Str
  | .tup [.str s, f] => partS s (barD f)
  | _ => ("" : Str)
def facW : D → D
  | .tup [_, f] => f
  | _ => .non
def headW (p : D) : Str := (if negF (facW p) = true then ("-" : Str) else ("" : Str)) ++ wordW p
def moreW (p : D) : List Str := [sgnT (facW p), wordW p]
def wordsS : List D → List Str
  | [] => []
  | p :: r => headW p :: r.flatMap moreW
structure PartOk (p : D) : Prop where
  ex : ∃ (s : Str) (a b : Int), p = .tup [.str s, .tup [.int a, .int b]] ∧ (s = ("" : Str) ∨ nmS s = true) ∧ 0 < b ∧ Int.gcd a b = 1 ∧ a.natAbs < 10 ^ 30 ∧ b.natAbs < 10 ^ 30
theorem joinL_app (S a b : List Nat) : ∀ l : List (List Nat), l ≠ [] → TL.joinL S (l ++ [a, b]) = TL.joinL S l ++ (S ++ (a ++ (S ++ b)))
  | [], h => absurd rfl h
  | [p], _ => rfl
  | p :: q :: r, _ => by
    show p ++ (S ++ TL.joinL S (q :: r ++ [a, b])) = p ++ (S ++ TL.joinL S (q :: r)) ++ _
    rw [joinL_app S a b (q :: r) (by simp), List.append_assoc, List.append_assoc]
def spS : Str := (" " : Str)
theorem tl_sp : TL.tl spS = [32] := rfl
theorem join_more {W : List Str} (a b : Str) (h : W ≠ []) : Str.join spS (W ++ [a, b]) = Str.join spS W ++ spS ++ a ++ spS ++ b := by
  refine TL.ext_tl ?_
  rw [TL.tl_join, TL.tl_append, TL.tl_append, TL.tl_append, TL.tl_append, TL.tl_join, List.map_append]
  show TL.joinL _ (W.map TL.tl ++ [TL.tl a, TL.tl b]) = _
  rw [joinL_app _ _ _ _ (by simpa using h)]
  simp [List.append_assoc]
theorem step_more {s : Str} {f : D} (acc : Str) : pStep false acc (.tup [.str s, f]) = acc ++ spS ++ sgnT f ++ spS ++ partS s (barD f) := by
  show acc ++ markF false f ++ partS s (barD f) = _
  have e : markF false f = spS ++ sgnT f ++ spS := by
    unfold markF sgnT
    cases negF f <;> decide
  rw [e]
  refine TL.ext_tl ?_
  simp [TL.tl_append, List.append_assoc]
theorem fold_more : ∀ (r : List D) (W : List Str) (acc : Str), W ≠ [] → acc = Str.join spS W → (∀ p ∈ r, ∃ s f, p = .tup [.str s, f]) → r.foldl (pStep false) acc = Str.join spS (W ++ r.flatMap moreW)
  | [], W, acc, _, e, _ => by rw [e, List.flatMap_nil, List.append_nil]; rfl
  | p :: r, W, acc, hW, e, hr => by
    obtain ⟨s, f, rfl⟩ := hr p (.head _)
    rw [List.foldl_cons, List.flatMap_cons, ← List.append_assoc]
    refine fold_more r _ _ (by simp [hW]) ?_ fun p hp => hr p (.tail _ hp)
    rw [step_more, e]
    show _ = Str.join spS (W ++ [sgnT f, partS s (barD f)])
    rw [join_more _ _ hW]
theorem formS_join {ps : List D} (h : ∀ p ∈ ps, PartOk p) (hn : ps ≠ []) : formS ps = Txt.join spS (wordsS ps) := by
  rw [TL.join_eq]
  cases ps with
  | nil => exact absurd rfl hn
  | cons p r =>
    have h' : ∀ p ∈ r, ∃ s f, p = D.tup [.str s, f] := fun p hp => by
      obtain ⟨s, a, b, e, _⟩ := (h p (.tail _ hp)).ex
      exact ⟨_, _, e⟩
    obtain ⟨s, a, b, rfl, _⟩ := (h p (.head _)).ex
    refine fold_more r [headW _] _ (by simp) ?_ h'
    show ("" : Str) ++ markF true _ ++ _ = headW _
    rw [show (("" : Str) ++ markF true (.tup [.int a, .int b]) : Str) = (if negF (.tup [.int a, .int b]) = true then ("-" : Str) else ("" : Str)) by unfold markF; cases negF (.tup [.int a, .int b]) <;> decide]
    rfl
theorem abc_sp {c : Nat} (h : c ∈ abcL) : 97 ≤ c ∧ c ≤ 122 := by
  have key : ∀ c ∈ abcL, 97 ≤ c ∧ c ≤ 122 := by decide +kernel
  exact key c h
theorem nm_sign {s : Str} (h : nmS s = true) : ∀ c ∈ TL.tl s, 97 ≤ c ∧ c ≤ 122 := fun c hc => by
  unfold nmS at h
  simp only [Bool.and_eq_true, List.all_eq_true] at h
  exact abc_sp (of_decide_eq_true (h.2 c hc))
theorem nm_ne {s : Str} (h : nmS s = true) : TL.tl s ≠ [] := fun e => by
  unfold nmS at h
  simp only [Bool.and_eq_true] at h
  have h1 := of_decide_eq_true h.1.1
  rw [tl_len, e] at h1
  exact absurd h1 (by decide)
theorem tl_amt {a b : Int} : TL.tl (textD (.tup [.int a, .int b])) = if b = 1 then textL a else textL a ++ 47 :: textL b := by
  show TL.tl (if b = 1 then _ else _) = _
  split
  · rfl
  · rw [TL.tl_append, TL.tl_append, List.append_assoc]
    rfl
theorem textL_nn {a : Int} (h : 0 ≤ a) : ∀ c ∈ textL a, 48 ≤ c ∧ c ≤ 57 := fun c hc => by
  obtain ⟨n, rfl⟩ := Int.eq_ofNat_of_zero_le h
  rw [textL_nat] at hc
  exact TL.numL_digits n c hc
theorem textL_ne (a : Int) (h : 0 ≤ a) : textL a ≠ [] := by
  obtain ⟨n, rfl⟩ := Int.eq_ofNat_of_zero_le h
  rw [textL_nat]
  exact TL.numL_ne n
theorem amt_sign {a b : Int} (ha : 0 ≤ a) (hb : 0 < b) : ∀ c ∈ TL.tl (textD (.tup [.int a, .int b])), c = 47 ∨ (48 ≤ c ∧ c ≤ 57) := fun c hc => by
  rw [tl_amt] at hc
  split at hc
  · exact .inr (textL_nn ha c hc)
  · rcases List.mem_append.mp hc with hc | hc
    · exact .inr (textL_nn ha c hc)
    · rcases List.mem_cons.mp hc with hc | hc
      · exact .inl hc
      · exact .inr (textL_nn (Int.le_of_lt hb) c hc)
theorem amt_head {a b : Int} (ha : 0 ≤ a) : ∃ c r, TL.tl (textD (.tup [.int a, .int b])) = c :: r ∧ 48 ≤ c ∧ c ≤ 57 := by
  rw [tl_amt]
  cases e : textL a with
  | nil => exact absurd e (textL_ne a ha)
  | cons c r =>
    have := textL_nn ha c (by rw [e]; exact .head _)
    split
    · exact ⟨c, r, rfl, this⟩
    · exact ⟨c, r ++ 47 :: textL b, rfl, this⟩
theorem amt_back {a b : Int} (ha : a.natAbs < 10 ^ 30) (hb : 0 < b) (hb2 : b.natAbs < 10 ^ 30) (hg : Int.gcd a b = 1) : amtIn (TL.tl (textD (.tup [.int a, .int b]))) = some (a, b) := by
  rw [tl_amt]
  split
  · rename_i e
    rw [e]
    exact amt_one ha
  · exact amt_two ha hb2 (by omega) hg
def starS : Str := ("*" : Str)
def partIn (z : Str) : D := if nmS z = true then .tup [.str z, oneD] else match amtIn (TL.tl (Txt.partition z starS).1) with
  | none => .non
  | some (a, b) => if (Txt.partition z starS).2.1 ≠ ("" : Str) ∧ nmS (Txt.partition z starS).2.2 = false then .non else .tup [.str (Txt.partition z starS).2.2, .tup [.int a, .int b]]
theorem one_eqv {a b : Int} : eqv (.tup [.int a, .int b]) oneD = true ↔ a = 1 ∧ b = 1 := by
  unfold oneD
  rw [eqv_amt, Bool.and_eq_true, decide_eq_true_iff, decide_eq_true_iff]
theorem not_nm {z : Str} {c : Nat} (h : c ∈ TL.tl z) (hc : c < 97 ∨ 122 < c) : nmS z = false := by
  cases e : nmS z with
  | false => rfl
  | true => have := nm_sign e c h; omega
theorem part_back {s : Str} {a b : Int} (hs : s = ("" : Str) ∨ nmS s = true) (h0 : 0 ≤ a) (ha : a.natAbs < 10 ^ 30) (hb : 0 < b) (hb2 : b.natAbs < 10 ^ 30) (hg : Int.gcd a b = 1) : partIn (partS s (.tup [.int a, .int b])) = .tup [.str s, .tup [.int a, .int b]] := by
  have back := amt_back ha hb hb2 hg
  have sg := amt_sign h0 hb
  have no42 : (42 : Nat) ∉ TL.tl (textD (.tup [.int a, .int b])) := fun h => by have := sg _ h; omega
  obtain ⟨c, r, e, c1, c2⟩ := amt_head (b := b) h0
  have hd : c ∈ TL.tl (textD (.tup [.int a, .int b])) := by rw [e]; exact .head _
  unfold partS
  split
  · rename_i es
    subst es
    have ep : Txt.partition (textD (.tup [.int a, .int b])) starS = (textD (.tup [.int a, .int b]), Str.empty, Str.empty) := TL.partition_none (S := []) rfl no42
    unfold partIn
    rw [if_neg (by rw [not_nm hd (by omega)]; simp), ep]
    dsimp only
    rw [back]
    dsimp only
    rw [if_neg (fun z => z.1 (by decide))]
    rfl
  · rename_i es
    have hn : nmS s = true := hs.resolve_left es
    split
    · rename_i e1
      obtain ⟨rfl, rfl⟩ := one_eqv.mp e1
      unfold partIn
      rw [if_pos hn]
      rfl
    · have ep : Txt.partition (textD (.tup [.int a, .int b]) ++ starS ++ s) starS = (textD (.tup [.int a, .int b]), starS, s) := TL.partition_app (S := []) rfl no42
      unfold partIn
      have hm : c ∈ TL.tl (textD (.tup [.int a, .int b]) ++ ("*" : Str) ++ s) := by
        rw [TL.tl_append, TL.tl_append]
        exact List.mem_append_left _ (List.mem_append_left _ hd)
      rw [if_neg (by rw [not_nm hm (by omega)]; simp), show (textD (.tup [.int a, .int b]) ++ ("*" : Str) ++ s : Str) = textD (.tup [.int a, .int b]) ++ starS ++ s from rfl, ep]
      dsimp only
      rw [back]
      dsimp only
      rw [if_neg (fun z => by rw [hn] at z; cases z.2)]
theorem word_sign {s : Str} {a b : Int} (hs : s = ("" : Str) ∨ nmS s = true) (h0 : 0 ≤ a) (hb : 0 < b) : (∀ c ∈ TL.tl (partS s (.tup [.int a, .int b])), c ≠ 32) ∧ ∃ c r, TL.tl (partS s (.tup [.int a, .int b])) = c :: r ∧ c ≠ 45 := by
  have sg := amt_sign h0 hb
  obtain ⟨c, r, e, c1, c2⟩ := amt_head (b := b) h0
  unfold partS
  split
  · exact ⟨fun x hx => by have := sg x hx; omega, c, r, e, by omega⟩
  · rename_i es
    have hn : nmS s = true := hs.resolve_left es
    have ns := nm_sign hn
    split
    · refine ⟨fun x hx => by have := ns x hx; omega, ?_⟩
      cases en : TL.tl s with
      | nil => exact absurd en (nm_ne hn)
      | cons x l => exact ⟨x, l, rfl, by have := ns x (by rw [en]; exact .head _); omega⟩
    · rw [TL.tl_append, TL.tl_append]
      refine ⟨fun x hx => ?_, c, _, by rw [e]; rfl, by omega⟩
      rcases List.mem_append.mp hx with hx | hx
      · rcases List.mem_append.mp hx with hx | hx
        · have := sg x hx; omega
        · have hx : x ∈ [42] := hx
          rw [List.mem_singleton.mp hx]; decide
      · have := ns x hx; omega
theorem sw_minus (z : Str) : Txt.startswith z ("-" : Str) = decide ((TL.tl z).head? = some 45) := by
  unfold Txt.startswith
  rw [PySem.StrLaws.subAt_eq]
  have e1 : ("-" : Str).length = 1 := rfl
  have e2 : ("-" : Str).cps.toList = [45] := rfl
  rw [e1, e2, tl_len z]
  show (decide (0 + 1 ≤ (TL.tl z).length) && (((TL.tl z).drop 0).take 1 == [45])) = _
  cases TL.tl z with
  | nil => rfl
  | cons c r =>
    by_cases hc : c = 45
    · subst hc; rfl
    · have : ((c :: r).drop 0).take 1 = [c] := rfl
      rw [this, decide_eq_true (show 0 + 1 ≤ (c :: r).length by simp), Bool.true_and]
      simp [hc]
def inStep : Option (List D × D) → D → Option (List D × D)
  | some (ts, c), .tup [.str m, .str w] => match partIn w with
    | .tup [.str s, f] => if s = ("" : Str) then some (ts, if m = ("+" : Str) then plusD c f else minusD c f) else some (ts ++ [.tup [.str s, if m = ("+" : Str) then f else negA f]], c)
    | _ => none
  | _, _ => none
def mrksOf (z : Str) : List Str := match Txt.split z spS with
  | [] => []
  | w :: r => (if Txt.startswith w ("-" : Str) = true then ("-" : Str) else ("+" : Str)) :: evens r
def wrdsOf (z : Str) : List Str := match Txt.split z spS with
  | [] => []
  | w :: r => Txt.removeprefix w ("-" : Str) :: evens (r.drop 1)
def markQ (m : Str) : Bool := decide (m = ("+" : Str)) || decide (m = ("-" : Str))
def itemsOf (z : Str) : List D := zipsD ((mrksOf z).map D.str) ((wrdsOf z).map D.str)
def formOut (z : Str) : Option (List D × D) → D
  | none => .non
  | some (ts, c) => if formS (partsD (formTs (totals ts)) c) = z then formD ts c else .non
def formIn (z : Str) : D := if (mrksOf z).length = (wrdsOf z).length ∧ (mrksOf z).all markQ = true then formOut z ((itemsOf z).foldl inStep (some ([], zeroD))) else .non
theorem evens_cons {α : Type} (b : α) (l : List α) : evens (b :: l) = b :: evens (l.drop 1) := by cases l <;> rfl
theorem evens_marks : ∀ r : List D, evens (r.flatMap moreW) = r.map fun p => sgnT (facW p)
  | [] => rfl
  | p :: r => by
    show evens (sgnT (facW p) :: wordW p :: r.flatMap moreW) = _
    show sgnT (facW p) :: evens (r.flatMap moreW) = _
    rw [evens_marks r]
    rfl
theorem evens_words : ∀ r : List D, evens ((r.flatMap moreW).drop 1) = r.map wordW
  | [] => rfl
  | p :: r => by
    show evens (wordW p :: r.flatMap moreW) = _
    rw [evens_cons, evens_words r]
    rfl
theorem fac_bar {a b : Int} : barD (.tup [.int a, .int b]) = .tup [.int (a.natAbs : Int), .int b] := by
  show D.tup [.int (if a < 0 then -a else a), .int b] = _
  congr 3
  split <;> omega
theorem PartOk.word {p : D} (h : PartOk p) : (∀ c ∈ TL.tl (wordW p), c ≠ 32) ∧ (∃ c r, TL.tl (wordW p) = c :: r ∧ c ≠ 45) ∧ ∃ s, p = .tup [.str s, facW p] ∧ partIn (wordW p) = .tup [.str s, barD (facW p)] := by
  obtain ⟨s, a, b, rfl, hs, hb, hg, ha, hb2⟩ := h.ex
  have h1 := word_sign (a := (a.natAbs : Int)) hs (by omega) hb
  have h2 := part_back (a := (a.natAbs : Int)) hs (by omega) (by omega) hb hb2 (by show Nat.gcd (Int.natAbs (a.natAbs : Int)) b.natAbs = 1; rw [Int.natAbs_natCast]; exact hg)
  have e : wordW (.tup [.str s, .tup [.int a, .int b]]) = partS s (.tup [.int (a.natAbs : Int), .int b]) := by
    show partS s (barD _) = _
    rw [fac_bar]
  rw [e]
  refine ⟨h1.1, h1.2, s, rfl, ?_⟩
  rw [h2]
  show _ = D.tup [.str s, barD (.tup [.int a, .int b])]
  rw [fac_bar]
theorem split_form {ps : List D} (h : ∀ p ∈ ps, PartOk p) (hn : ps ≠ []) : Txt.split (formS ps) spS = wordsS ps := by
  rw [formS_join h hn]
  refine TL.split_join (s := 32) (S := []) rfl (by decide +kernel) ?_ ?_
  · cases ps with
    | nil => exact absurd rfl hn
    | cons p r => simp [wordsS]
  · cases ps with
    | nil => exact absurd rfl hn
    | cons p r =>
      intro w hw hc
      rcases List.mem_cons.mp hw with rfl | hw
      · unfold headW at hc
        rw [TL.tl_append] at hc
        rcases List.mem_append.mp hc with hc | hc
        · revert hc
          split <;> decide
        · exact (h p (.head _)).word.1 _ hc rfl
      · obtain ⟨q, hq, hw⟩ := List.mem_flatMap.mp hw
        have hw : w ∈ [sgnT (facW q), wordW q] := hw
        simp only [List.mem_cons, List.not_mem_nil, or_false] at hw
        rcases hw with rfl | rfl
        · revert hc
          unfold sgnT
          split <;> decide
        · exact (h q (.tail _ hq)).word.1 _ hc rfl
theorem marks_form {ps : List D} (h : ∀ p ∈ ps, PartOk p) (hn : ps ≠ []) : mrksOf (formS ps) = ps.map (fun p => sgnT (facW p)) ∧ wrdsOf (formS ps) = ps.map wordW := by
  unfold mrksOf wrdsOf
  rw [split_form h hn]
  cases ps with
  | nil => exact absurd rfl hn
  | cons p r =>
    obtain ⟨h1, ⟨c, l, e, hc⟩, _⟩ := (h p (.head _)).word
    have key : (if Txt.startswith (headW p) ("-" : Str) = true then ("-" : Str) else ("+" : Str)) = sgnT (facW p) ∧ Txt.removeprefix (headW p) ("-" : Str) = wordW p := by
      rw [sw_minus]
      unfold sgnT headW
      cases negF (facW p) with
      | true =>
        have e2 : TL.tl ((if true = true then ("-" : Str) else ("" : Str)) ++ wordW p) = 45 :: TL.tl (wordW p) := by rw [TL.tl_append]; rfl
        refine ⟨by rw [e2]; rfl, TL.ext_tl ?_⟩
        rw [rmp_bare, e2]
        rfl
      | false =>
        have e2 : TL.tl ((if false = true then ("-" : Str) else ("" : Str)) ++ wordW p) = c :: l := by rw [TL.tl_append]; exact e
        refine ⟨?_, TL.ext_tl ?_⟩
        · rw [e2]
          show (if decide (some c = some 45) = true then _ else _) = _
          rw [decide_eq_false (fun z => hc (Option.some.inj z))]
        · rw [rmp_bare, e2, e]
          show (if c = 45 then l else c :: l) = _
          rw [if_neg hc]
    show ((if Txt.startswith (headW p) _ = true then _ else _) :: evens (r.flatMap moreW) = _) ∧ (Txt.removeprefix (headW p) _ :: evens ((r.flatMap moreW).drop 1) = _)
    rw [key.1, key.2, evens_marks, evens_words]
    exact ⟨rfl, rfl⟩
structure FormN (ts : List D) (c : D) : Prop where
  pr : ∀ t ∈ ts, ∃ (s : Str) (a b : Int), t = .tup [.str s, .tup [.int a, .int b]] ∧ nmS s = true ∧ 0 < b ∧ Int.gcd a b = 1 ∧ a.natAbs < 10 ^ 30 ∧ b.natAbs < 10 ^ 30 ∧ a ≠ 0
  nd : (ts.filterMap keyOf).Nodup
  so : (ts.filterMap keyOf).Pairwise fun a b => leS a b = true
  c : ∃ a b : Int, c = .tup [.int a, .int b] ∧ 0 < b ∧ Int.gcd a b = 1 ∧ a.natAbs < 10 ^ 30 ∧ b.natAbs < 10 ^ 30
theorem nm_not_nil {s : Str} (h : nmS s = true) : s ≠ ("" : Str) := fun e => nm_ne h (by rw [e]; rfl)
theorem FormN.parts {ts : List D} {c : D} (h : FormN ts c) : ∀ p ∈ partsD ts c, PartOk p := fun p hp => by
  rcases List.mem_append.mp hp with hp | hp
  · obtain ⟨s, a, b, rfl, h1, h2, h3, h4, h5, _⟩ := h.pr p hp
    exact ⟨s, a, b, rfl, .inr h1, h2, h3, h4, h5⟩
  · unfold constP at hp
    split at hp
    · cases hp
    · obtain ⟨a, b, e, h2, h3, h4, h5⟩ := h.c
      rw [List.mem_singleton.mp hp, e]
      exact ⟨_, a, b, rfl, .inl rfl, h2, h3, h4, h5⟩
theorem parts_ne (ts : List D) (c : D) : partsD ts c ≠ [] := fun e => by
  obtain ⟨e1, e2⟩ := List.append_eq_nil_iff.mp e
  unfold constP at e2
  split at e2
  · rename_i z; exact z.2 e1
  · cases e2
theorem amt100 {a b : Int} (h2 : 0 < b) (h3 : Int.gcd a b = 1) (h4 : a.natAbs < 10 ^ 30) (h5 : b.natAbs < 10 ^ 30) : AmtD 100 (.tup [.int a, .int b]) := ⟨a, b, rfl, h2, h3, Nat.lt_of_lt_of_le h4 (Nat.le_of_ble_eq_true rfl), Nat.lt_of_lt_of_le h5 (Nat.le_of_ble_eq_true rfl)⟩
theorem minus_back {a b : Int} (h : negF (.tup [.int a, .int b]) = true) : negA (barD (.tup [.int a, .int b])) = .tup [.int a, .int b] := by
  have h : a < 0 := of_decide_eq_true h
  rw [fac_bar]
  show D.tup [.int (0 - (a.natAbs : Int)), .int b] = _
  congr 3
  omega
theorem plus_back {a b : Int} (h : negF (.tup [.int a, .int b]) = false) : barD (.tup [.int a, .int b]) = .tup [.int a, .int b] := by
  have h : ¬ a < 0 := of_decide_eq_false h
  rw [fac_bar]
  congr 3
  omega
def itemW (p : D) : D := .tup [.str (sgnT (facW p)), .str (wordW p)]
theorem step_term {s : Str} {a b : Int} {acc : List D} {c : D} (hn : nmS s = true) (ok : PartOk (.tup [.str s, .tup [.int a, .int b]])) : inStep (some (acc, c)) (itemW (.tup [.str s, .tup [.int a, .int b]])) = some (acc ++ [.tup [.str s, .tup [.int a, .int b]]], c) := by
  obtain ⟨_, _, s', e, hp⟩ := ok.word
  cases e
  show (match partIn (wordW (D.tup [.str s, .tup [.int a, .int b]])) with
    | D.tup [.str s, f] => if s = ("" : Str) then some (acc, if sgnT (D.tup [.int a, .int b]) = ("+" : Str) then plusD c f else minusD c f) else some (acc ++ [D.tup [.str s, if sgnT (D.tup [.int a, .int b]) = ("+" : Str) then f else negA f]], c)
    | _ => none) = _
  rw [hp]
  dsimp only
  rw [if_neg (nm_not_nil hn)]
  show some (acc ++ [D.tup [.str s, if sgnT (D.tup [.int a, .int b]) = ("+" : Str) then barD (.tup [.int a, .int b]) else negA (barD (.tup [.int a, .int b]))]], c) = _
  unfold sgnT
  cases en : negF (.tup [.int a, .int b]) with
  | true => rw [minus_back en]; rfl
  | false => rw [plus_back en]; rfl
theorem step_const {a b : Int} {acc : List D} (h2 : 0 < b) (h3 : Int.gcd a b = 1) (h4 : a.natAbs < 10 ^ 30) (h5 : b.natAbs < 10 ^ 30) (ok : PartOk (.tup [.str ("" : Str), .tup [.int a, .int b]])) : inStep (some (acc, zeroD)) (itemW (.tup [.str ("" : Str), .tup [.int a, .int b]])) = some (acc, .tup [.int a, .int b]) := by
  obtain ⟨_, _, s', e, hp⟩ := ok.word
  cases e
  show (match partIn (wordW (D.tup [.str ("" : Str), .tup [.int a, .int b]])) with
    | D.tup [.str s, f] => if s = ("" : Str) then some (acc, if sgnT (D.tup [.int a, .int b]) = ("+" : Str) then plusD zeroD f else minusD zeroD f) else some (acc ++ [D.tup [.str s, if sgnT (D.tup [.int a, .int b]) = ("+" : Str) then f else negA f]], zeroD)
    | _ => none) = _
  rw [hp]
  dsimp only
  rw [if_pos rfl]
  show some (acc, if sgnT (D.tup [.int a, .int b]) = ("+" : Str) then plusD zeroD (barD (.tup [.int a, .int b])) else minusD zeroD (barD (.tup [.int a, .int b]))) = _
  have A := amt100 h2 h3 h4 h5
  unfold sgnT
  cases en : negF (.tup [.int a, .int b]) with
  | true =>
    show some (acc, plusD zeroD (negA (barD (.tup [.int a, .int b])))) = _
    rw [minus_back en, plus_zero A]
  | false =>
    show some (acc, plusD zeroD (barD (.tup [.int a, .int b]))) = _
    rw [plus_back en, plus_zero A]
theorem fold_terms : ∀ (ts acc : List D) (c : D), (∀ t ∈ ts, ∃ s a b, t = D.tup [.str s, .tup [.int a, .int b]] ∧ nmS s = true ∧ PartOk t) → (ts.map itemW).foldl inStep (some (acc, c)) = some (acc ++ ts, c)
  | [], acc, c, _ => by rw [List.append_nil]; rfl
  | t :: ts, acc, c, h => by
    obtain ⟨s, a, b, rfl, hn, ok⟩ := h t (.head _)
    rw [List.map_cons, List.foldl_cons, step_term hn ok, fold_terms ts _ c fun t ht => h t (.tail _ ht), List.append_assoc]
    rfl
theorem items_form {ps : List D} (h : ∀ p ∈ ps, PartOk p) (hn : ps ≠ []) : itemsOf (formS ps) = ps.map itemW := by
  unfold itemsOf zipsD
  rw [(marks_form h hn).1, (marks_form h hn).2, List.map_map, List.map_map, List.zip_map', List.map_map]
  rfl
theorem mark_all (ps : List D) : (ps.map fun p => sgnT (facW p)).all markQ = true := by
  rw [List.all_map, List.all_eq_true]
  intro p _
  show markQ (sgnT (facW p)) = true
  unfold sgnT
  cases negF (facW p) <;> decide
theorem form_self {ts : List D} {c : D} (h : FormN ts c) : formTs (totals ts) = ts := formTs_self (n := 100) (fun p hp => by
  obtain ⟨s, a, b, rfl, h1, h2, h3, h4, h5, h6⟩ := h.pr p hp
  exact ⟨s, _, rfl, amt100 h2 h3 h4 h5, by show (decide (a = 0) && decide (b = 1)) = false; rw [decide_eq_false h6]; rfl⟩) h.nd h.so
theorem form_back {ts : List D} {c : D} (h : FormN ts c) : formIn (formS (partsD ts c)) = .tup [.tup ts, c] := by
  have ok := h.parts
  have ne := parts_ne ts c
  unfold formIn
  rw [items_form ok ne, (marks_form ok ne).1, (marks_form ok ne).2, if_pos ⟨by rw [List.length_map, List.length_map], mark_all _⟩]
  have ht : ∀ t ∈ ts, ∃ s a b, t = D.tup [.str s, .tup [.int a, .int b]] ∧ nmS s = true ∧ PartOk t := fun t ht => by
    obtain ⟨s, a, b, e, h1, _⟩ := h.pr t ht
    exact ⟨s, a, b, e, h1, ok t (List.mem_append_left _ ht)⟩
  have hc : ((partsD ts c).map itemW).foldl inStep (some ([], zeroD)) = some (ts, c) := by
    unfold partsD
    rw [List.map_append, List.foldl_append, fold_terms ts [] zeroD ht, List.nil_append]
    obtain ⟨a, b, rfl, h2, h3, h4, h5⟩ := h.c
    unfold constP
    split
    · rename_i z
      have : D.tup [.int a, .int b] = zeroD := isZ_zero (amt100 h2 h3 h4 h5) z.1
      rw [this]
      rfl
    · rename_i z
      refine step_const h2 h3 h4 h5 (ok _ ?_)
      unfold partsD constP
      rw [if_neg z]
      exact List.mem_append_right _ (.head _)
  rw [hc]
  show (if formS (partsD (formTs (totals ts)) c) = _ then formD ts c else .non) = _
  rw [form_self h, if_pos rfl]
  unfold formD
  rw [form_self h]
end VL
set_option Elab.async false
set_option linter.all false
set_option maxRecDepth 100000
set_option maxHeartbeats 4000000
namespace VL
open PySem PySem.Spec PyProof.Rows L2
section
variable {K : PySem.W.Frag} {M M' : Addr → Prop} {H : Hp}
def isMut : HO → Prop
  | .lst _ => True
  | .dK _ => True
  | .ins _ _ _ => True
  | _ => False
mutual
theorem Own.mut : ∀ {t : O} {o : AS} {v : V}, Own K M H t o v → ∀ b, o b → ∃ ob, H b = some ob ∧ isMut ob
  | .d _, _, _, h, b, hb => by
    unfold Own at h
    rw [h.1] at hb
    exact hb.elim
  | .l _, _, _, h, b, hb => by
    unfold Own at h
    obtain ⟨a, xs, o', _, h1, _, e, r⟩ := h
    rw [e] at hb
    rcases hb with rfl | hb
    · exact ⟨_, h1, trivial⟩
    · exact Owns.mut r b hb
  | .t _ _, _, _, h, b, hb => by
    unfold Own at h
    obtain ⟨a, us, o', _, _, h1, _, e, r⟩ := h
    rw [e] at hb
    rcases hb with rfl | hb
    · exact ⟨_, h1, trivial⟩
    · exact Owns.mut r b hb
  | .i a _ _ _, _, _, h, b, hb => by
    unfold Own at h
    obtain ⟨dx, us, o', _, _, h1, _, e, r⟩ := h
    rw [e] at hb
    rcases hb with rfl | hb
    · exact ⟨_, h1, trivial⟩
    · exact Owns.mut r b hb
theorem Owns.mut : ∀ {ts : List O} {o : AS} {vs : List V}, Owns K M H ts o vs → ∀ b, o b → ∃ ob, H b = some ob ∧ isMut ob
  | [], _, _, h, b, hb => by
    unfold Owns at h
    rw [h.1] at hb
    exact hb.elim
  | _ :: _, _, _, h, b, hb => by
    unfold Owns at h
    obtain ⟨v, r, o1, o2, _, _, e, h1, h2⟩ := h
    rw [e] at hb
    rcases hb with hb | hb
    · exact Own.mut h1 b hb
    · exact Owns.mut h2 b hb
end
end
section
variable {X : Cx} {W : Wd} {K : PySem.W.Frag} {e : Expr} {es : List Expr} {M0 : Addr → Prop} {H0 H H' : Hp} {oa : Nat → AS} {σ : L2.St} {ds : List Sl}
end
section
variable {X : Cx} {W : Wd} {e : Expr} {es : List Expr} {pos p apos cpos : Pos} {x : Str}
end
section
variable {X : Cx} {W : Wd} {K : PySem.W.Frag} {M M0 : Addr → Prop} {H0 H H' : Hp} {oa : Nat → AS} {σ : L2.St} {ds : List Sl}
theorem Owns.len : ∀ {ts : List O} {o : AS} {vs : List V}, Owns K M H ts o vs → vs.length = ts.length
  | [], _, _, h => by unfold Owns at h; rw [h.2]; rfl
  | _ :: _, _, _, h => by
    unfold Owns at h
    obtain ⟨v, r, o1, o2, rfl, _, _, _, h2⟩ := h
    simp [Owns.len h2]
theorem getD_some {ds : List Sl} {i : Nat} {s : Sl} (h : ds.getD i .un = s) (hs : s ≠ .un) : ds[i]? = some s := by
  rw [List.getD_eq_getElem?_getD] at h
  cases e : ds[i]? with
  | none => rw [e] at h; exact absurd h.symm hs
  | some s' => rw [e] at h; exact congrArg some h
end
section
variable {X : Cx} {W : Wd} {e o k v value : Expr} {es : List Expr} {pos pos' p apos cpos sp kp : Pos} {x f : Str}
end
section
variable {P : Program} {w : World} {K : PySem.W.Frag} {mg : Str → Option Value} {base : Heap} {W : Wd} {x qual : Str} {st : Stmt} {f C : Addr} {fd : FuncData} {N ps : List Str} {k : Nat} {g : List D → (O → Prop) → (D → Prop) → Prop}
end
section
variable {X : Cx} {W : Wd} {e o : Expr} {es : List Expr} {pos pos' p apos cpos : Pos} {x y m : Str} {C f : Addr} {fd : FuncData} {ps : List Str} {k : Nat} {PX : D → Prop} {l : WL} {dvs : List V} {dds : List D}
end
section
variable {X : Cx} {W : Wd} {K : PySem.W.Frag} {pos : Pos} {vs : List Nat} {σ : L2.St} {H : Hp}
end
end VL
set_option Elab.async false
set_option linter.all false
set_option maxRecDepth 100000
set_option maxHeartbeats 4000000
namespace VL
open PySem PySem.Spec PyProof.Rows L2
section
variable {X : Cx} {W : Wd} {K : PySem.W.Frag} {e a b c o : Expr} {es : List Expr} {pos p apos cpos : Pos} {x : Str}
end
end VL
set_option Elab.async false
set_option linter.all false
set_option maxRecDepth 100000
set_option maxHeartbeats 4000000
namespace VL
open PySem PySem.Spec PyProof.Rows L2
section
variable {X : Cx} {W : Wd} {K : PySem.W.Frag} {e : Expr} {es : List Expr} {pos : Pos}
end
end VL
set_option Elab.async false
set_option linter.all false
set_option maxRecDepth 100000
set_option maxHeartbeats 4000000
set_option exponentiation.threshold 20000
namespace VL
open PySem PySem.Spec PyProof.Rows L2
theorem str_lt {a b : Str} (h : leS a b = true) (n : a ≠ b) : a.cps.toList < b.cps.toList := by
  have h1 : a.cps.toList ≤ b.cps.toList := by
    unfold leS at h
    simpa using h
  refine Decidable.byContradiction fun z => ?_
  exact n (str_ext (List.le_antisymm h1 (by simpa using z)))
theorem asc_of : ∀ l : List D, (∀ p ∈ l, ∃ s f, p = .tup [.str s, f]) → (l.filterMap keyOf).Nodup → (l.filterMap keyOf).Pairwise (fun a b => leS a b = true) → asc (l.map nameOf) = true
  | [], _, _, _ => rfl
  | [x], _, _, _ => rfl
  | x :: y :: r, h, hn, hs => by
    obtain ⟨a, f, rfl⟩ := h x (.head _)
    obtain ⟨b, g, rfl⟩ := h y (.tail _ (.head _))
    have e1 : (D.tup [.str a, f] :: .tup [.str b, g] :: r).filterMap keyOf = a :: b :: r.filterMap keyOf := rfl
    have e2 : (D.tup [.str b, g] :: r).filterMap keyOf = b :: r.filterMap keyOf := rfl
    rw [e1] at hn hs
    have ih := asc_of (.tup [.str b, g] :: r) (fun p hp => h p (.tail _ hp)) (by rw [e2]; exact (List.nodup_cons.mp hn).2) (by rw [e2]; exact (List.pairwise_cons.mp hs).2)
    show (ltB (.str a) (.str b) && asc ((D.tup [.str b, g] :: r).map nameOf)) = true
    rw [ih, Bool.and_true]
    refine decide_eq_true (str_lt ((List.pairwise_cons.mp hs).1 b (.head _)) fun z => ?_)
    exact (List.nodup_cons.mp hn).1 (by rw [z]; exact .head _)
theorem amt_isA {n : Nat} {d : D} (h : AmtD n d) : isAmt d = true := by
  obtain ⟨a, b, rfl, A⟩ := h
  exact amt_is A
theorem form_isF {n : Nat} {ps : List D} {c : D} {S : Str → Prop} (h : ∀ p ∈ ps, ∃ s f, p = .tup [.str s, f] ∧ AmtD n f ∧ S s) (hS : ∀ s, S s → nmS s = true) {m : Nat} (hc : AmtD m c) : isForm (formD ps c) = true := by
  have tk := tot_ok h
  have mem : ∀ t ∈ formTs (totals ps), ∃ s f, t = .tup [.str s, f] ∧ AmtD (ncnt s ps * (n + 1) + 1) f ∧ S s ∧ isZ f = false := fun t ht => formTs_mem tk ht
  show formP (formTs (totals ps)) c = true
  unfold formP
  rw [amt_isA hc, Bool.true_and, asc_of _ (fun p hp => let ⟨s, f, e, _⟩ := mem p hp; ⟨s, f, e⟩) (form_nodup tk.nd) (form_sorted _), Bool.and_true, List.all_eq_true]
  intro t ht
  obtain ⟨s, f, rfl, hf, hs, hz⟩ := mem t ht
  show ((isName (.str s) && isAmt f) && !isZ f) = true
  rw [show isName (.str s) = nmS s from rfl, hS s hs, amt_isA hf, hz]
  rfl
theorem form_tame {n M N : Nat} {S : Str → Prop} {d c : D} {ts : List D} (h : FormOk N S d ts c) (hS : ∀ s, S s → nmS s = true) : tame d = true := by
  rw [h.e]
  refine tame_tup.mpr ⟨Nat.le_of_ble_eq_true rfl, fun x hx => ?_⟩
  simp only [List.mem_cons, List.not_mem_nil, or_false] at hx
  rcases hx with rfl | rfl
  · refine tame_tup.mpr ⟨h.few, fun t ht => ?_⟩
    obtain ⟨s, f, e, hf, hs, _⟩ := h.pr t ht
    exact pair_tame ⟨s, f, e, hf, hS s hs⟩
  · exact amt_tame h.c
end VL
set_option Elab.async false
set_option linter.all false
set_option maxRecDepth 100000
set_option maxHeartbeats 2000000
set_option exponentiation.threshold 20000
namespace VL
open PySem L2
end VL
set_option Elab.async false
set_option linter.all false
set_option maxRecDepth 100000
set_option maxHeartbeats 4000000
namespace VL
open PySem PySem.Spec PyProof.Rows L2 PySem.Calls
section
variable {X : Cx} {W : Wd} {C : Addr} {x : Str} {p pos : Pos}
end
section
variable {X : Cx} {W : Wd} {o : Expr} {pos apos : Pos}
end
theorem Reps.set {K : PySem.W.Frag} {M : Addr → Prop} {H : Hp} {d : D} {v : V} (h : Rep K M H d v) : ∀ {l : List D} {xs : List V} (n : Nat), Reps K M H l xs → Reps K M H (l.set n d) (xs.set n v)
  | [], _, _, r => by rw [r.inv0]; exact reps_nil
  | _ :: _, _, 0, r => by
    obtain ⟨u, us, rfl, r1, r2⟩ := r.inv
    exact reps_cons h r2
  | _ :: _, _, n + 1, r => by
    obtain ⟨u, us, rfl, r1, r2⟩ := r.inv
    exact reps_cons r1 (Reps.set h n r2)
section
variable {X : Cx} {W : Wd} {k v : Expr} {x y : Str} {p sp pos px py pt : Pos}
end
end VL
set_option Elab.async false
set_option linter.all false
set_option maxRecDepth 100000
set_option maxHeartbeats 2000000
set_option exponentiation.threshold 20000
namespace VL
open PySem PySem.Spec PyProof.Rows L2
section
variable {X : Cx} {W : Wd} {pos : Pos}
end
section
open PySem.AutoSeq1
end
section
variable {X : Cx} {W : Wd} {pos : Pos}
end
end VL
set_option Elab.async false
set_option linter.all false
set_option maxRecDepth 100000
set_option maxHeartbeats 2000000
set_option exponentiation.threshold 20000
namespace VL
open PySem PySem.Spec PyProof.Rows L2
section
variable {X : Cx} {W : Wd} {o e : Expr} {es : List Expr} {pos apos : Pos}
end
end VL
set_option Elab.async false
set_option linter.all false
set_option maxRecDepth 100000
set_option maxHeartbeats 2000000
set_option exponentiation.threshold 20000
namespace VL
open PySem PySem.Spec PyProof.Rows L2
section
variable {X : Cx} {W : Wd} {e : Expr} {es : List Expr} {pos p : Pos} {x : Str} {k : Nat} {f : Addr} {PX : D → Prop}
end
end VL
set_option Elab.async false
set_option linter.all false
set_option maxRecDepth 100000
set_option maxHeartbeats 2000000
set_option exponentiation.threshold 20000
namespace VL
open PySem PySem.Spec PyProof.Rows L2
section
variable {CX : CXT} {P : Program} {w : World} {K : PySem.W.Frag} {mg : Str → Option Value} {base : Heap} {ps : List Str} {qual : Str} {scope : Scope} {f cc D : Addr} {cd : Value} {A : Around} {outer : List Env} {s : Shared} {H : Hp} {E : XK} {vs : List V} {us : List Value} {h1 : Heap} {tk : Nat} {cl : Value} {cld : Option Addr} {csl : Array (Option Value)}
end
section
variable {X : Cx} {st0 : List Stmt} {e : Expr} {es : List Expr} {te : TE} {t : TA} {pos p : Pos} {k : Nat} {f : Addr} {fd : FuncData} {ps : List Str} {ds : List Value} {dvs : List V} {sp : Sp} {E : XK} {x : Str} {CX : CXT}
end
end VL
set_option Elab.async false
set_option linter.all false
set_option maxRecDepth 100000
set_option maxHeartbeats 4000000
namespace VL
open PySem PySem.Spec PyProof.Rows L2
open PySem.W (excTail excOver excTail_contains excTail_pass osa_openX)
structure Fam where
  B : String
  nw : String
  ini : String
  tail : List Value
  eb : ExcBaseFacts B nw ini tail
  sf : StoreFacts B tail "object.__setattr__" "object"
  hi : PySem.W.handedIn (.builtin ini) = true
structure OxT (m : Fam) (K : PySem.W.Frag) (C : Addr) : Prop where
  made : ∃ nm q N bs bm sn sub ab col dd k0 k1 k2 k3 k5, K.lookup C = some (excClassObj nm q C N bs bm true sn sub ab col dd k0 k1 k2 k3 k5 m.nw) ∧ excTail m.tail bm = true
  sets : PySem.W.findIn K (Value.ref C) "__setattr__" = some (some (Value.builtin "object.__setattr__"))
  isEx : PySem.W.subIn K (Value.ref C) (Value.type "BaseException") = some true
  isTy : PySem.W.typeIn K (Value.ref C) = some (Value.type "type")
  kept : PySem.W.keepIn K (Value.ref C) = true
theorem OxT.cl {m : Fam} {K : PySem.W.Frag} {C : Addr} (T : OxT m K C) : ∃ cd, PySem.W.clsIn K C = some cd ∧ cd.hasDict = true ∧ excOver K C m.tail = true := by
  obtain ⟨nm, q, N, bs, bm, sn, sub, ab, col, dd, k0, k1, k2, k3, k5, hC, ht⟩ := T.made
  have e : PySem.W.clsIn K C = some { name := nm, bases := bs, mro := Value.ref C :: bm, ns := N, qualname := q, hasDict := true, slotNames := sn, subclasses := sub, abstract := ab, collection := col, hasDel := false } := by
    unfold PySem.W.clsIn
    rw [hC] <;> rfl
  refine ⟨_, e, rfl, ?_⟩
  unfold excOver
  rw [e]
  show (C == C && excTail m.tail bm) = true
  rw [ht]
  simp
section
variable {prog : Program} {w : World} {A : Around} {R : Result → Shared → Prop} {hp : Heap} {g : Array GenState} {d : Drawn} {t : Nat} {os : OsState}
end
section
variable {m : Fam} {X : Cx} {pins : List (Addr × Obj)} {σ : L2.St} {H : Hp} {s : Shared} {a C dx : Addr} {f : Str} {y : V} {u : Value} {fs : List (Str × V)} {Q : Unit → Shared → Prop} {E : Value → Shared → Prop} {A : Around}
end
section
variable {m : Fam} {X : Cx} {W : Wd} {o e : Expr} {es : List Expr} {to te : TE} {ta : TA} {l : WL} {f x : Str} {C fI : Addr} {k n : Nat} {F : XF} {fd : FuncData} {ps : List Str} {PX : D → Prop} {p p' p1 p2 pos pos2 : Pos}
end
end VL
set_option Elab.async false
set_option linter.all false
set_option maxRecDepth 100000
set_option maxHeartbeats 4000000
namespace VL
open PySem PySem.Spec PyProof.Rows L2
def gvK (K : PySem.W.Frag) (x : Str) : Value := match PySem.W.nsIn K mainGlobals x with
  | some (some v) => v
  | _ => .none
def rfV : Value → Addr
  | .ref a => a
  | _ => 0
def fdK (K : PySem.W.Frag) (a : Addr) : Option FuncData := match K.lookup a with
  | some ⟨_, _, .func fd, _⟩ => some fd
  | _ => none
def itK (K : PySem.W.Frag) (T i : Nat) : Value := match K.lookup T with
  | some ⟨_, _, .seq its _, _⟩ => its.toList.getD i .none
  | _ => .none
def dfK (K : PySem.W.Frag) (a : Addr) (i : Nat) : Value := match fdK K a with
  | some fd => itK K (rfV fd.defaults) i
  | none => .none
theorem hd_d {p : Prop} [Decidable p] {r : Bool} (h : (decide p && r) = true) : p ∧ r = true := by
  obtain ⟨a, b⟩ := Bool.and_eq_true_iff.mp h
  exact ⟨of_decide_eq_true a, b⟩
theorem hd_r {v : V} {u : Value} {r : Bool} (h : (He.relB v u && r) = true) : RelV v u ∧ r = true := by
  obtain ⟨a, b⟩ := Bool.and_eq_true_iff.mp h
  exact ⟨He.relB_ok a, b⟩
theorem hd_b {q r : Bool} (h : (q && r) = true) : q = true ∧ r = true := Bool.and_eq_true_iff.mp h
def tupC (K : PySem.W.Frag) (a : Addr) (vs : List V) : Bool := match K.lookup a with
  | some ⟨.type c, _, .seq its _, _⟩ => decide (c = "tuple") && He.relAll vs its.toList
  | _ => false
theorem tupC_ok {K : PySem.W.Frag} {a : Addr} {vs : List V} (h : tupC K a vs = true) : ∃ (q : Option Addr) (n : Nat) (s : Array (Option Value)) (us : List Value), K.lookup a = some ⟨.type "tuple", q, .seq us.toArray n, s⟩ ∧ Vals vs us := by
  unfold tupC at h
  cases e : K.lookup a with
  | none => rw [e] at h; cases h
  | some o =>
    obtain ⟨oc, od, dt, osl⟩ := o
    rw [e] at h
    cases oc with
    | type c =>
      cases dt with
      | seq its n =>
        obtain ⟨h1, h2⟩ := Bool.and_eq_true_iff.mp (show (decide (c = "tuple") && He.relAll vs its.toList) = true from h)
        exact ⟨od, n, osl, its.toList, by rw [of_decide_eq_true h1, Array.toArray_toList], He.relAll_ok h2⟩
      | _ => cases h
    | _ => cases dt <;> cases h
def excC (K : PySem.W.Frag) (C : Addr) (nw : String) (tl : List Value → Bool) : Bool := match K.lookup C with
  | some ⟨.type c, _, .cls cd, sl⟩ => (match cd.mro, sl.toList with
    | .ref C' :: bm, [_, _, _, _, some (.builtin n), _] => decide (c = "type") && (C' == C && (n == nw && (!cd.hasDel && (cd.hasDict && tl bm))))
    | _, _ => false)
  | _ => false
theorem excC_ok {K : PySem.W.Frag} {C : Addr} {nw : String} {tl : List Value → Bool} (h : excC K C nw tl = true) : ∃ (nm q : Str) (N : Addr) (bs bm : List Value) (sn : List Str) (sub : List Value) (ab : Bool) (col : Option Bool) (dd : Option Addr) (k0 k1 k2 k3 k5 : Option Value),
    K.lookup C = some (excClassObj nm q C N bs bm true sn sub ab col dd k0 k1 k2 k3 k5 nw) ∧ tl bm = true := by
  unfold excC at h
  split at h
  · rename_i c dd cd sl ho
    split at h
    · rename_i C' bm k0 k1 k2 k3 n k5 hm hs
      simp only [Bool.and_eq_true, beq_iff_eq, Bool.not_eq_true', decide_eq_true_eq] at h
      obtain ⟨rfl, rfl, rfl, hdel, hdict, ht⟩ := h
      obtain ⟨nm, bs, mro, ns, qn, hd, sn, sub, ab, col, del⟩ := cd
      dsimp only at hm hdel hdict
      subst hm hdel hdict
      have hsl : sl = #[k0, k1, k2, k3, some (.builtin n), k5] := by
        obtain ⟨l⟩ := sl
        simp only at hs
        rw [hs]
      subst hsl
      exact ⟨nm, qn, ns, bs, bm, sn, sub, ab, col, dd, k0, k1, k2, k3, k5, ho, ht⟩
    · cases h
  · cases h
def fclB (o : Option PySem.W.CFound) (v : Value) : Bool := match o with
  | some (.val u) => decide (u = v)
  | _ => false
theorem fclB_ok {o : Option PySem.W.CFound} {v : Value} (h : fclB o v = true) : o = some (.val v) := by
  unfold fclB at h
  split at h
  · rw [of_decide_eq_true h]
  · cases h
theorem fun_of_D {K : PySem.W.Frag} {x q : Str} {st : Stmt} {f : Addr} {fd : FuncData} (h : FunD K x q (defArgs st) (defBody st) (defScope st) [] [] f fd) : Fun K x q st f fd := by
  obtain ⟨⟨oc, od, dV, kV, doc, pm, an, cdv, ct, osl, rfl, lk, hc, hd, _⟩, kp⟩ := h
  rcases hd with ⟨_, rfl⟩ | ⟨z, _⟩
  · exact fun_mk (st := st) lk hc kp
  · exact absurd rfl z
theorem flat_tupC {K : PySem.W.Frag} {a : Addr} {ds : List D} {vs : List V} (h : tupC K a vs = true) (hl : vs.length ≤ 1000) (f : ∀ M H, Reps K M H ds vs) : Flat K (.tup ds) (.ref a) := fun M H => by
  obtain ⟨q, n, s, us, lk, hv⟩ := tupC_ok h
  refine rep_tup (.inr ⟨_, us.toArray, n, lk, rfl, rfl, ?_, by simpa using hv⟩) (f M H)
  have e := hv.length
  rw [List.size_toArray, sizeLine_eq]
  omega
def refsQ (o : Obj) : List Addr := match o.data with
  | .dict es _ => es.toList.flatMap fun e => He.refV e.val
  | .func fd => He.refV fd.code ++ (He.refV fd.defaults ++ (He.refV fd.kwdefaults ++ fd.closure.map (·.2)))
  | .cls cd => [cd.ns]
  | .seq its _ => its.toList.flatMap He.refV
  | .fields vs => (match o.cls with
    | .type c => (match c == "code" with
      | true => []
      | false => vs.toList.flatMap He.refV)
    | _ => [])
  | _ => []
def asQ (g : Addr → Option Obj) : Nat → List Addr → List Addr
  | 0, l => l
  | n + 1, l => l ++ asQ g n (l.flatMap fun a => match g a with
    | some o => refsQ o
    | none => [])
def frQ (g : Addr → Option Obj) : PySem.W.Frag := He.frG g (cStatics :: asQ g 5 [mainGlobals])
def prF (K : PySem.W.Frag) (p : Addr) : Addr := match PySem.W.recIn K p "property" with
  | some (.ref f :: _) => f
  | _ => 0
structure SupD where
  at_ : Str × Option Str
  name : Str
  qual : Str
  params : Arguments
  body : List Stmt
  scope : Scope
  prop : Bool := false
def SupD.ad (K : PySem.W.Frag) (d : SupD) : Addr := match d.prop with
  | false => He.fAd K d.at_
  | true => prF K (He.fAd K d.at_)
def SupD.clo (d : SupD) : List Str := match d.prop with
  | false => [("__class__" : Str)]
  | true => []
abbrev FnS : Type := Option (Str × Str × Arguments × FuncBody × Scope × Addr × List Str × Addr)
def fnS (K : PySem.W.Frag) (d : SupD) : FnS := match K.lookup (d.ad K) with
  | some ⟨_, _, .func fd, _⟩ => some (fd.name, fd.qualname, fd.params, fd.body, fd.scope, fd.globals, fd.closure.map (·.1), fd.builtins)
  | _ => none
def SupD.val (d : SupD) : FnS := some (d.name, d.qual, d.params, .stmts d.body, d.scope, mainGlobals, d.clo, builtinsNs)
def obsS (su : List SupD) (K : PySem.W.Frag) : List FnS := su.map fun d => fnS K d
def valS (su : List SupD) : List FnS := su.map SupD.val
def SaysY (fn : List He.DefD) (ex : PySem.W.Frag → Bool) (K : PySem.W.Frag) : Prop := He.SaysD [] fn K ∧ ex K = true
theorem SaysY.d {fn : List He.DefD} {ex : PySem.W.Frag → Bool} {K : PySem.W.Frag} (c : SaysY fn ex K) : He.SaysD [] fn K := c.1
theorem SaysY.more {fn : List He.DefD} {ex : PySem.W.Frag → Bool} {K : PySem.W.Frag} (c : SaysY fn ex K) : ex K = true := c.2
def tabZ (g : Addr → Option Obj) (K : PySem.W.Frag) : Bool := match PySem.W.tabIn K "law" with
  | some (c, P) => PySem.W.codeHdIn K c P && ((K.lookup P).isNone && (match g P with
    | some o => He.emptyTab o
    | none => false))
  | none => false
def obZ (fn : List He.DefD) (su : List SupD) (ex : PySem.W.Frag → Bool) (g : Addr → Option Obj) : (He.AlD × List FnS) × Bool := ((He.obsD [] fn (frQ g), obsS su (frQ g)), ex (frQ g) && tabZ g (frQ g))
structure SaysZ (fn : List He.DefD) (su : List SupD) (ex : PySem.W.Frag → Bool) (h : Heap) (K : PySem.W.Frag) (c P : Addr) : Prop where
  y : SaysY fn ex K
  s : obsS su K = valS su
  t1 : PySem.W.tabIn K "law" = some (c, P)
  t2 : PySem.W.codeHdIn K c P = true
  t3 : K.lookup P = none
  t4 : h.get? P = some (PySem.W.tabObj #[])
theorem saysZ_of {fn : List He.DefD} {su : List SupD} {ex : PySem.W.Frag → Bool} {h : Heap} (e : obZ fn su ex h.get? = ((He.valD fn, valS su), true)) : ∃ c P, SaysZ fn su ex h (frQ h.get?) c P := by
  have e1 : He.obsD [] fn (frQ h.get?) = He.valD fn := congrArg (fun z : (He.AlD × List FnS) × Bool => z.1.1) e
  have e0 : obsS su (frQ h.get?) = valS su := congrArg (fun z : (He.AlD × List FnS) × Bool => z.1.2) e
  have e2 : (ex (frQ h.get?) && tabZ h.get? (frQ h.get?)) = true := congrArg (fun z : (He.AlD × List FnS) × Bool => z.2) e
  obtain ⟨h1, h2⟩ := hd_b e2
  unfold tabZ at h2
  split at h2
  · rename_i c P ht
    obtain ⟨h3, h4⟩ := hd_b h2
    obtain ⟨h5, h6⟩ := hd_b h4
    cases q : h.get? P with
    | none => rw [q] at h6; cases h6
    | some o =>
      rw [q] at h6
      exact ⟨c, P, ⟨e1, h1⟩, e0, ht, h3, Option.isNone_iff_eq_none.mp h5, by rw [q, He.emptyTab_eq h6]⟩
  · cases h2
def hookZ (fn : List He.DefD) (su : List SupD) (ex : PySem.W.Frag → Bool) : PySem.W.Hook where
  α := (He.AlD × List FnS) × Bool
  obs := fun s => obZ fn su ex s.heap.get?
  val := fun _ => ((He.valD fn, valS su), true)
  says := fun _ h => ∃ K : PySem.W.Frag, K.In h ∧ ∃ c P, SaysZ fn su ex h K c P
  of := fun _ s e => ⟨frQ s.heap.get?, He.frG_in, saysZ_of e⟩
  keeps := fun _ _ _ ⟨K, hK, c, P, z⟩ k => ⟨K, PySem.W.Frag.In.keeps hK k, c, P, z.y, z.s, z.t1, z.t2, z.t3, k _ _ z.t4⟩
theorem obZ_eq {fn : List He.DefD} {su : List SupD} {ex : PySem.W.Frag → Bool} {g : Addr → Option Obj} {s : Shared} (h : ∀ a, g a = s.heap.get? a) : obZ fn su ex g = (hookZ fn su ex).obs s := by
  have e : g = s.heap.get? := funext h
  rw [e] <;> rfl
end VL
set_option Elab.async false
set_option linter.all false
set_option maxRecDepth 100000
set_option maxHeartbeats 2000000
set_option exponentiation.threshold 20000
namespace VL
open PySem PySem.Spec PyProof.Rows L2
def codeFileB (K : PySem.W.Frag) (a : Addr) (file : Str) : Bool := match K.lookup a with
  | some ⟨_, _, .fields vs, _⟩ => (match vs[2]? with
    | some (Value.str f _) => f == file
    | _ => false)
  | _ => false
def cellB (K : PySem.W.Frag) (a D : Addr) : Bool := match K.lookup a with
  | some ⟨_, _, .cell (some (.ref d)), _⟩ => d == D
  | _ => false
structure SupX (K : PySem.W.Frag) (file : Str) (name qual : Str) (st : Stmt) (m : Str) (f C D g : Addr) (fd : FuncData) (cda cc : Addr) : Prop where
  ex : ∃ (oc : Value) (od : Option Addr) (kV doc pm : Value) (an : Option Addr) (ct : Value) (osl : Array (Option Value)),
    fd = PySem.W.ksFn name qual (defArgs st) (defBody st) (defScope st) .none kV doc pm an (.ref cda) ct cc ∧ K.lookup f = some ⟨oc, od, .func fd, osl⟩
  hq : PySem.W.codeIn K (.ref cda) qual = true
  hf : codeFileB K cda file = true
  hc : cellB K cc D = true
  cD : (PySem.W.clsIn K D).isSome = true
  up : ((PySem.W.clsIn K C).bind fun cd => PySem.W.alongIn K m ((cd.mro.dropWhile (· != .ref D)).drop 1)) = some (some (.ref g))
  sub : PySem.W.mroIn K C (.ref D) = some true
  ty : PySem.W.typeIn K (.ref g) = some (.type "function")
  fn : PySem.W.fnIn K g = true
  ho : PySem.W.nsIn K cStatics "thirdparty.any" = some none
structure SupF (K : PySem.W.Frag) (file : Str) (name qual : Str) (st : Stmt) (m : Str) (f C D g : Addr) (fd : FuncData) : Prop where
  ex : ∃ cda cc : Addr, SupX K file name qual st m f C D g fd cda cc
class SupP (P : Program) (file : outParam Str) : Prop where
  file : ((P.main.file : Str) == file) = true
  top : (P.main.scope.names.lookup ("super" : Str)).isSome = false
instance {P : Program} {w : World} {K : PySem.W.Frag} {mg : Str → Option Value} {base : Heap} {CX : CXT} {N : List Str} {q : Str} {sc : Scope} {f : Addr} {cdv : Value} {A : Around} {outer : List Env} {s : Shared} {H : Hp} {E : XK} {file : Str} [h : SupP P file] : SupP (cxOf CX P w K mg base N q sc f cdv A outer s H E).prog file := h
instance {X : Cx} {file : Str} [h : SupP X.prog file] : SupP X.nox.prog file := h
theorem SupF.binds {K : PySem.W.Frag} {file name qual : Str} {st : Stmt} {m : Str} {f C D g : Addr} {fd : FuncData} {ps : List Str} (F : SupF K file name qual st m f C D g fd)
    (h : ∀ (kV doc pm : Value) (an : Option Addr) (cdv ct : Value) (cc : Addr) (us : List Value), us.length = ps.length → bindArgs (PySem.W.ksFn name qual (defArgs st) (defBody st) (defScope st) .none kV doc pm an cdv ct cc) ⟨us, []⟩ = pure (ps.zip us)) : Binds K fd ps [] := by
  obtain ⟨cda, cc, ⟨oc, od, kV, doc, pm, an, ct, osl, rfl, lk⟩, _⟩ := F.ex
  exact .all (h kV doc pm an _ ct cc)
section
variable {P : Program} {w : World} {K : PySem.W.Frag} {mg : Str → Option Value} {base : Heap} {W : Wd} {file name qual : Str} {st : Stmt} {m : Str} {f C Dc g : Addr} {fd : FuncData} {ps : List Str}
end
end VL
set_option Elab.async false
set_option linter.all false
set_option maxRecDepth 100000
set_option maxHeartbeats 2000000
namespace PySem.W
open PySem PySem.Calls PyProof.Rows Builtin
section
variable {prog : Program} {w : World} {A : Around} {E : Value → Shared → Prop} {s : Shared} {K : Frag} {x C C' L f f' : Addr} {h₀ : Heap} {m : Str → Option Value} {ox : Obj} {od : Option Obj} {b tb : Value}
end
end PySem.W
namespace VL
open PySem PySem.Spec PyProof.Rows L2
section
variable {X : Cx} {W : Wd} {a b e : Expr} {es : List Expr} {pos : Pos} {k : Nat} {PX : D → Prop}
end
end VL
namespace VL
open PySem PySem.Spec PyProof.Rows L2
section
variable {X : Cx} {W : Wd} {K : PySem.W.Frag} {pos : Pos}
end
end VL
set_option Elab.async false
set_option linter.all false
set_option maxRecDepth 100000
set_option maxHeartbeats 2000000
namespace VL
open PySem PySem.Spec PyProof.Rows L2
section
variable {X : Cx} {W : Wd} {K : PySem.W.Frag} {e o k v : Expr} {es : List Expr} {pos pos' p apos cpos sp kp : Pos} {x y f : Str} {M M0 : Addr → Prop} {H H0 H' : Hp} {oa : Nat → AS}
end
end VL
set_option Elab.async false
set_option linter.all false
set_option maxRecDepth 100000
set_option maxHeartbeats 4000000
namespace VL
open PySem PySem.Spec PyProof.Rows L2 PySem.W HandSHeadRun
def insAll : BT → List (Nat × Obj) → BT
  | t, [] => t
  | t, (a, o) :: r => insAll (t.ins a o) r
structure Ms where
  objs : Params → List (Nat × Obj)
  n : Nat
  life : Life
  drawn : Drawn
  toks : Nat
  steps : Nat
  pos : Pos
  many : Nat
def Ms.at (m : Ms) (T : World → BT) (w : World) (os : OsState) : SharedT := ⟨insAll (T w) (m.objs w.params), m.n, m.life, #[], m.drawn, m.toks, os⟩
noncomputable def bootTree (w : World) : BT := match putAll (boot_heap w.params).objs.toList .nil 0 with
  | some (t, _) => t
  | none => .nil
noncomputable def bootS (n : Nat) (w : World) (os : OsState) : SharedT := ⟨bootTree w, n, (boot_heap w.params).life, #[], boot_drawn, boot_toks, os⟩
def getA : BT → Nat → Option Obj
  | .nil, _ => none
  | .node v l r, i => match Nat.beq i 0 with
    | true => some v
    | false => match Nat.beq (i % 2) 1 with
      | true => getA l (i / 2)
      | false => getA r (i / 2 - 1)
theorem getA_eq : ∀ (t : BT) (i : Nat), getA t i = t.get i
  | .nil, _ => rfl
  | .node v l r, i => by
    unfold getA BT.get
    rw [getA_eq l, getA_eq r]
    rfl
def lsG (g : BT → Nat → Option Obj) (t : BT) : Nat → List Obj → List Obj
  | 0, acc => acc
  | n + 1, acc => lsG g t n ((g t n).getD default :: acc)
theorem lsG_eq (g : BT → Nat → Option Obj) (t : BT) : ∀ (n : Nat) (acc : List Obj), lsG g t n acc = ((List.range n).map fun i => (g t i).getD default) ++ acc
  | 0, acc => rfl
  | n + 1, acc => by
    unfold lsG
    rw [lsG_eq g t n, List.range_succ, List.map_append, List.append_assoc]
    rfl
abbrev SeenT := List Obj × (Nat × Life × Array GenState × Drawn × Nat × OsState)
def seeA (s : SharedT) : SeenT := (lsG getA s.tree s.n [], s.n, s.life, s.gens, s.drawn, s.toks, s.os)
def seeB (s : SharedT) : SeenT := (lsG BT.get s.tree s.n [], s.n, s.life, s.gens, s.drawn, s.toks, s.os)
theorem see_abs {s t : SharedT} (h : seeA s = seeB t) : s.abs = t.abs := by
  obtain ⟨T, n, life, gens, drawn, toks, os⟩ := s
  obtain ⟨T', n', life', gens', drawn', toks', os'⟩ := t
  have e : (lsG getA T n [], n, life, gens, drawn, toks, os) = (lsG BT.get T' n' [], n', life', gens', drawn', toks', os') := h
  simp only [Prod.mk.injEq] at e
  obtain ⟨e1, rfl, rfl, rfl, rfl, rfl, rfl⟩ := e
  rw [lsG_eq, lsG_eq, List.append_nil, List.append_nil] at e1
  have e2 : T.list n = T'.list n := by
    have : (fun i => (getA T i).getD default) = fun i => (T.get i).getD default := funext fun i => by rw [getA_eq]
    rw [this] at e1
    exact e1
  show (⟨⟨(T.list n).toArray, life⟩, gens, drawn, toks, os⟩ : Shared) = ⟨⟨(T'.list n).toArray, life⟩, gens, drawn, toks, os⟩
  rw [e2]
section
variable (st : SharedT → Thread → Option (SharedT × Thread)) (n0 : Nat) (ann : Option Value)
def sgF (b : Nat) : Nat → SharedT → Thread → Option (Flow × SharedT × Code × Pos)
  | 0, _, _ => none
  | n + 1, s, t => match endAt b t with
    | some f => some (f, s, t.code, t.pos)
    | none => match stepOk n0 ann t with
      | false => none
      | true => match st s t with
        | some (s', t') => frS s' fun s' => sgF b n s' t'
        | none => none
def tgF : Nat → SharedT → Thread → Option (SharedT × Thread)
  | 0, s, t => some (s, t)
  | n + 1, s, t => match through t with
    | true => none
    | false => match stepOk n0 ann t with
      | false => none
      | true => match st s t with
        | some (s', t') => frS s' fun s' => tgF n s' t'
        | none => none
end
section
variable {tb : String → Option Builtin} {p : Program} {w : World} {n0 : Nat} {ann : Option Value}
theorem sgF_eq {b : Nat} : ∀ (n : Nat) (s : SharedT) (t : Thread), sgF (PySem.W.stepT (denote tb) p w) n0 ann b n s t = segRunT tb p w n0 ann b n s t
  | 0, _, _ => rfl
  | n + 1, s, t => by
    unfold sgF segRunT
    cases endAt b t with
    | some f => rfl
    | none =>
      cases stepOk n0 ann t with
      | false => rfl
      | true =>
        cases PySem.W.stepT (denote tb) p w s t with
        | none => rfl
        | some r =>
          obtain ⟨s', t'⟩ := r
          dsimp only
          rw [frS_eq]
          exact sgF_eq n s' t'
theorem tgF_ok : ∀ {n : Nat} {s s' : SharedT} {t t' : Thread}, tgF (PySem.W.stepT (denote tb) p w) n0 ann n s t = some (s', t') → topGo tb p w n0 ann n s.abs t = some (s'.abs, t')
  | 0, s, s', t, t', h => by
    unfold tgF at h
    cases h
    rfl
  | n + 1, s, s', t, t', h => by
    unfold tgF at h
    unfold topGo
    cases ht : through t with
    | true => rw [ht] at h; cases h
    | false =>
      rw [ht] at h
      cases hk : stepOk n0 ann t with
      | false => rw [hk] at h; cases h
      | true =>
        rw [hk] at h
        cases hs : PySem.W.stepT (denote tb) p w s t with
        | none => rw [hs] at h; cases h
        | some r =>
          obtain ⟨s2, t2⟩ := r
          rw [hs] at h
          dsimp only at h
          rw [frS_eq] at h
          rw [PySem.W.stepT_spec hs]
          exact tgF_ok h
end
def PieceEq (p : Program) (w : World) (n0 : Nat) (ann : Option Value) (n : Nat) (s s' : SharedT) (t : Thread) (c : Code) (q : Pos) : Prop :=
  (sgF (stepQ (denQ tabQ) p w) n0 ann 1 n s t).map (fun r => (r.1, seeA r.2.1, r.2.2)) = some (.next, seeB s', c, q)
theorem piece_of {p : Program} {w : World} {n0 : Nat} {ann : Option Value} {n : Nat} {s s' : SharedT} {t : Thread} {c : Code} {q : Pos} (h : PieceEq p w n0 ann n s s' t c q) : segRun treeTable p w n0 ann 1 n s.abs t = some (.next, s'.abs, c, q) := by
  unfold PieceEq at h
  obtain ⟨r, hr, e⟩ := Option.map_eq_some_iff.mp h
  obtain ⟨f, s2, c2, q2⟩ := r
  simp only [Prod.mk.injEq] at e
  obtain ⟨rfl, e1, rfl, rfl⟩ := e
  rw [← stepQ_eq, ← denQ_eq, ← tabQ_eq, sgF_eq] at hr
  rw [segRun_of hr, see_abs e1]
def PreEq (p : Program) (w : World) (n0 : Nat) (ann : Option Value) (n : Nat) (s s' : SharedT) (t t' : Thread) : Prop :=
  (tgF (stepQ (denQ tabQ) p w) n0 ann n s t).map (fun r => (seeA r.1, r.2)) = some (seeB s', t')
theorem pre_of {p : Program} {w : World} {n0 : Nat} {ann : Option Value} {n : Nat} {s s' : SharedT} {t t' : Thread} (h : PreEq p w n0 ann n s s' t t') : topGo treeTable p w n0 ann n s.abs t = some (s'.abs, t') := by
  unfold PreEq at h
  obtain ⟨r, hr, e⟩ := Option.map_eq_some_iff.mp h
  obtain ⟨s2, t2⟩ := r
  simp only [Prod.mk.injEq] at e
  obtain ⟨e1, rfl⟩ := e
  rw [← stepQ_eq, ← denQ_eq, ← tabQ_eq] at hr
  rw [tgF_ok hr, see_abs e1]
theorem pre_of' {p : Program} {w : World} {n0 : Nat} {ann : Option Value} {n : Nat} {s s' : SharedT} {t : Thread} {c : Code} {q : Pos} {B : List Frame} (h : PreEq p w n0 ann n s s' t ⟨denQ tabQ c, c, q, B⟩) : topGo treeTable p w n0 ann n s.abs t = some (s'.abs, ⟨denote treeTable c, c, q, B⟩) := by
  have e := pre_of h
  rw [← denQ_eq, ← tabQ_eq] at e
  exact e
def FinEq (p : Program) (w : World) (n0 : Nat) (ann : Option Value) (n : Nat) (s s' : SharedT) (t : Thread) : Prop :=
  (goF (stepQ (denQ tabQ) p w) n0 ann n s t).map seeA = some (seeB s')
theorem fin_of {p : Program} {w : World} {n0 : Nat} {ann : Option Value} {n : Nat} {s s' : SharedT} {t : Thread} (h : FinEq p w n0 ann n s s' t) : topRun treeTable p w n0 ann n s.abs t = some s'.abs := by
  unfold FinEq at h
  obtain ⟨s2, hr, e⟩ := Option.map_eq_some_iff.mp h
  rw [← stepQ_eq, ← denQ_eq, ← tabQ_eq] at hr
  rw [goF_ok hr, see_abs e]
theorem piece_drop {tb : String → Option Builtin} {p : Program} {w : World} {n0 : Nat} {ann : Option Value} {env : Env} {q : Pos} {n N m : Nat} {s s' r : Shared} {l : List Stmt} {c : Code} {pos p' : Pos} (h : segRun tb p w n0 ann 1 n s (piecesOf (l.take m) env c pos [topFrame q]) = some (.next, s', c, p'))
    (k : topRun tb p w n0 ann N s' (restOf (l.drop m) env c p' [topFrame q]) = some r) : topRun tb p w n0 ann (n + N) s (restOf l env c pos [topFrame q]) = some r := by
  have e := piece_app h k
  rw [List.take_append_drop] at e
  exact e
theorem pieces_end {tb : String → Option Builtin} {p : Program} {w : World} {n0 : Nat} {ann : Option Value} {env : Env} {q : Pos} {N : Nat} {s r : Shared} {l : List Stmt} {c : Code} {pos : Pos} (h : l = []) (k : topRun tb p w n0 ann N s ⟨doneF .next, c, pos, [topFrame q]⟩ = some r) : topRun tb p w n0 ann N s (restOf l env c pos [topFrame q]) = some r := by
  rw [h]
  exact k
theorem left_two {p q : Program} {loose : List Str} {Xt : Shared → Bool} {α : Type} {Yf : Shared → α} {Ya : World → α} {N M n0 : Nat} {ann : Option Value} {Sf : World → OsState → SharedT}
    (e : opening p = plainProg p.main.scope.names) (hN : Nat.ble 600 N = true) (f : ∀ s, fenceModules? p s = some s) (le : Nat.ble M N = true)
    (hn : ∀ w : World, (putAll (boot_heap w.params).objs.toList .nil 0).map (fun r => r.2) = some n0) (ha : ∀ w : World, bootAnn w = ann)
    (run : ∀ (w : World) (os : OsState), topRun treeTable p w n0 ann M (bootS n0 w os).abs (topStub p) = some (Sf w os).abs)
    (k1 : ∀ (w : World) (os : OsState), looksF p (boot_heap w.params) (Sf w os).abs = true) (k2 : ∀ (w : World) (os : OsState), openSeen q loose (importedModules p.main.body) Xt true (Sf w os).abs = openGood q loose)
    (k3 : ∀ (w : World) (os : OsState), Yf (Sf w os).abs = Ya w) : LeftO p q loose Xt Yf Ya N true := fun w => by
  obtain ⟨⟨h, gs, d, k, os⟩, a, a'⟩ := Option.map_eq_some_iff.mp (boot_open e hN f w)
  obtain ⟨rfl, rfl, rfl, rfl⟩ : h = boot_heap w.params ∧ gs = Array.mk [] ∧ d = boot_drawn ∧ k = boot_toks := by simpa using a'
  have r0 := run w os
  obtain ⟨⟨t, n⟩, et, en⟩ := Option.map_eq_some_iff.mp (hn w)
  have en : n = n0 := en
  subst en
  have eh := putAll_heap et
  have es : (boot_heap w.params).objs.size = n := by
    rw [← eh]
    exact absHeap_size t n _
  have ebt : bootTree w = t := by unfold bootTree; rw [et]
  have eb : (bootS n w os).abs = ⟨boot_heap w.params, #[], boot_drawn, boot_toks, os⟩ := by
    show (⟨absHeap (bootTree w) n (boot_heap w.params).life, #[], boot_drawn, boot_toks, os⟩ : Shared) = _
    rw [ebt, eh]
  rw [eb] at r0
  have r := topRun_mono (N - M) _ _ _ _ r0
  rw [show M + (N - M) = N by have := Nat.le_of_ble_eq_true le; omega, ← es, ← ha w] at r
  have l1' : (staticsOk (importedModules p.main.body) (boot_heap w.params) (Sf w os).abs.heap && namesBound p (Sf w os).abs.heap && gensDone (Sf w os).abs && laidKept (boot_heap w.params) (Sf w os).abs.heap) = true := k1 w os
  have t : topFrom treeTable p w N ⟨boot_heap w.params, Array.mk [], boot_drawn, boot_toks, os⟩ = some (Sf w os).abs := by
    unfold topFrom
    dsimp only
    rw [boot_ns]
    show (topRun treeTable p w (boot_heap w.params).objs.size (bootAnn w) N ⟨boot_heap w.params, #[], boot_drawn, boot_toks, os⟩ (topStub p)).bind _ = _
    rw [r]
    show (match staticsOk (importedModules p.main.body) (boot_heap w.params) (Sf w os).abs.heap && namesBound p (Sf w os).abs.heap && gensDone (Sf w os).abs && laidKept (boot_heap w.params) (Sf w os).abs.heap with | true => some (Sf w os).abs | false => none) = _
    rw [l1']
  unfold openEnds
  rw [a]
  show (topFrom treeTable p w N _).map _ = _
  rw [t]
  exact congrArg some (Prod.ext (k2 w os) (k3 w os))
theorem seen_two {q : Program} {loose mods : List Str} {Xt : Shared → Bool} {s : Shared} {r} (h : seenQ q loose mods Xt s = r) : openSeen q loose mods Xt true s = r := (seenQ_eq q loose mods Xt s).trans h
theorem head_two {r : OpenRow} {q : Program} {H : Hook} {N : Nat} {loose : List PySem.Str} {d : DefRec} {kwd : List (PySem.Str × PySem.Expr)}
    (left : LeftO r.prog q loose (fun s => xlAt q [] s && recOk r.toRowW.records s) H.obs H.val N true)
    (hdef : defOf q r.name = some (d, kwd)) (hp : r.prog.theDef r.name = some (d.params, d.body, d.scope)) (hk : kwWritten? d.params.kwonlyargs d.params.kw_defaults = some kwd)
    (hwr : (!r.writes || r.records.isEmpty) = true) (k1 : r.wellSaid = true) (ok : (chainsOk q && opensWell r.prog && (frees r.toRowW && r.within.isEmpty)) = true) (hb : r.prog.bare) (hw : r.toRowW.promised)
    (call : WalkO q loose (XL q []) H.says r.toRowW d kwd fun f vs => PySem.call f vs) : r.Holds :=
  holds_open (r := r) (q := q) (loose := loose) (XP := XL q []) (YP := H.says) (d := d) (kwd := kwd) left H.of H.keeps (fun s z => xl_of s (Bool.and_eq_true_iff.mp z).1) XL.keeps hdef hp hk (fun s z => recFacts_of (Bool.and_eq_true_iff.mp z).2) hwr k1 ok hb hw call
theorem and_t {a b : Bool} (x : a = true) (y : b = true) : (a && b) = true := by rw [x, y]; rfl
theorem pair_t {α β : Type} {a a' : α} {b b' : β} (x : a = a') (y : b = b') : (a, b) = (a', b') := by rw [x, y]
theorem obs_app {F1 F2 : List He.DefD} {K : PySem.W.Frag} (h1 : He.obsD [] F1 K = He.valD F1) (h2 : He.obsD [] F2 K = He.valD F2) : He.obsD [] (F1 ++ F2) K = He.valD (F1 ++ F2) := by
  have a1 : (F1.all fun d => d.ok K) = true := congrArg (fun z : He.AlD => z.1) h1
  have a2 : (F2.all fun d => d.ok K) = true := congrArg (fun z : He.AlD => z.1) h2
  have b1 : (F1.map fun d => He.fnW K d.at_) = F1.map He.DefD.val := congrArg (fun z : He.AlD => z.2) h1
  have b2 : (F2.map fun d => He.fnW K d.at_) = F2.map He.DefD.val := congrArg (fun z : He.AlD => z.2) h2
  show (true && (F1 ++ F2).all fun d => d.ok K, (F1 ++ F2).map fun d => He.fnW K d.at_) = (true, (F1 ++ F2).map He.DefD.val)
  rw [List.all_append, List.map_append, List.map_append, a1, a2, b1, b2]
  rfl
end VL
namespace VL.Hm
open Lean PySem PySem.W PySem.Calls
structure Cut where
  steps : Nat
  s : Shared
  pos : Pos
  many : Nat
structure Tr where
  s0 : Shared
  code : Value
  frame : Addr
  q : Pos
  ann : Option Value
  cuts : List Cut
def pieces (p : Program) (w : World) (n0 : Nat) (ann : Option Value) (env : Env) (c : Code) (q : Pos) (cap : Nat) : List Stmt → Cut → List Cut → Except String (List Cut)
  | [], cur, out => .ok (if cur.many = 0 then out else out ++ [cur])
  | st :: rest, cur, out => do
    let (k, s, ps) ← segCount p w n0 ann 400000 0 cur.s (pieceOf st env c cur.pos [topFrame q])
    let cur := ⟨cur.steps + k, s, ps, cur.many + 1⟩
    if cap ≤ cur.steps then pieces p w n0 ann env c q cap rest ⟨0, s, ps, 0⟩ (out ++ [cur]) else pieces p w n0 ann env c q cap rest cur out
def padTo (n : Nat) (c : Cut) (l : List Cut) : List Cut := l ++ List.replicate (n - l.length) ⟨0, c.s, c.pos, 0⟩
def trace (p : Program) (many : Nat) : Except String Tr := do
  let w := aWorld 1
  let some s0 := fencedOpening table p w 400000 | throw "opening"
  let n0 := s0.heap.objs.size
  let ann := s0.heap.nsMap mainGlobals "__annotations__"
  let (k0, sa, ta) ← preCount p w n0 ann 400000 0 s0 (topStub p)
  let .body b env := ta.code | throw "body"
  let [.ret _ _ _ _ _ q _] := ta.stack | throw "frame"
  let some fr := env.frame | throw "frame"
  let (kb, sb, pb) ← segCount p w n0 ann 400000 0 sa (blockOf b env ta.code ta.pos [topFrame q])
  let whole ← pieces p w n0 ann env ta.code q 100000000 b ⟨0, sb, pb, 0⟩ []
  let cap := (whole.map (·.steps)).foldl (· + ·) 0 / many + 1
  let cs ← pieces p w n0 ann env ta.code q cap b ⟨0, sb, pb, 0⟩ []
  let last := (cs.getLast?.map fun c => (c.s, c.pos)).getD (sb, pb)
  let (kf, sf) ← finCount p w n0 ann 4000 0 last.1 ⟨doneF .next, ta.code, last.2, [topFrame q]⟩
  return ⟨s0, env.code, fr, q, ann, [⟨k0, sa, ta.pos, 0⟩, ⟨kb, sb, pb, 0⟩] ++ padTo many ⟨0, last.1, last.2, 0⟩ cs ++ [⟨kf, sf, last.2, 0⟩]⟩
def sameE (a b : DictEntry) : Bool := a.hash == b.hash && a.key == b.key && a.val == b.val
def sameD : Data → Data → Bool
  | .plain, .plain => true
  | .prim a, .prim b => a == b
  | .seq a n, .seq b m => a == b && n == m
  | .dict a n, .dict b m => n == m && a.size == b.size && (a.toList.zip b.toList).all fun x => sameE x.1 x.2
  | .set _ n _, .set _ m _ => n == m
  | .bytearray a n, .bytearray b m => a == b && n == m
  | .cell a, .cell b => a == b
  | .func f, .func g => f.name == g.name && f.qualname == g.qualname && f.globals == g.globals && f.closure == g.closure && f.defaults == g.defaults && f.kwdefaults == g.kwdefaults && f.doc == g.doc && f.pyModule == g.pyModule && f.annotations == g.annotations && f.code == g.code && f.closureTuple == g.closureTuple && f.builtins == g.builtins
  | .cls c, .cls d => c.name == d.name && c.bases == d.bases && c.mro == d.mro && c.ns == d.ns && c.qualname == d.qualname && c.hasDict == d.hasDict && c.slotNames == d.slotNames && c.subclasses == d.subclasses && c.abstract == d.abstract && c.collection == d.collection && c.hasDel == d.hasDel
  | .fields a, .fields b => a == b
  | .freed, .freed => true
  | _, _ => false
def sameO (a b : Obj) : Bool := a.cls == b.cls && a.dict == b.dict && a.slots == b.slots && sameD a.data b.data
def news (s s' : Shared) : List (Nat × Obj) := ((List.range s'.heap.objs.size).zip s'.heap.objs.toList).filter fun x => match s.heap.objs[x.1]? with
  | some o => !sameO o x.2
  | none => true
def qn (n : Nat) : MacroM Term := `(nat_lit $(quote n))
def qi : Int → MacroM Term
  | .ofNat n => do `(Int.ofNat $(← qn n))
  | .negSucc n => do `(Int.negSucc $(← qn n))
def qs (s : PySem.Str) : MacroM Term := `(PySem.Str.ofString $(quote s.toString))
def qb (b : Bool) : MacroM Term := if b then `(Bool.true) else `(Bool.false)
def ql {α : Type} (f : α → MacroM Term) (xs : List α) : MacroM Term := do
  let ts ← xs.mapM f
  `([$(ts.toArray),*])
def qa {α : Type} (f : α → MacroM Term) (xs : Array α) : MacroM Term := do `(Array.mk $(← ql f xs.toList))
def qo {α : Type} (f : α → MacroM Term) : Option α → MacroM Term
  | none => `(Option.none)
  | some x => do `(Option.some $(← f x))
def qp {α β : Type} (f : α → MacroM Term) (g : β → MacroM Term) (x : α × β) : MacroM Term := do `(($(← f x.1), $(← g x.2)))
def qv : Value → MacroM Term
  | .none => `(Value.none)
  | .ellipsis => `(Value.ellipsis)
  | .notImplemented => `(Value.notImplemented)
  | .bool b => do `(Value.bool $(← qb b))
  | .int i t => do `(Value.int $(← qi i) $(← qn t))
  | .str s t => do `(Value.str $(← qs s) $(← qn t))
  | .type n => `(Value.type $(quote n))
  | .builtin n => `(Value.builtin $(quote n))
  | .ref a => do `(Value.ref $(← qn a))
  | _ => Macro.throwError "a value"
def qe (P : Term) (e : DictEntry) : MacroM Term := do
  let h ← match e.key with
    | .str x _ => do `(PyData.keyHash $P $(← qs x))
    | _ => qi e.hash
  `(DictEntry.mk $h $(← qv e.key) $(← qv e.val))
def placeIn (q : PySem.Str) : List Stmt → Nat → Option Nat
  | [], _ => none
  | .FunctionDef n .. :: r, i => match placeIn q r (i + 1) with
    | some j => some j
    | none => if n == q then some i else none
  | _ :: r, i => placeIn q r (i + 1)
def place (f : FuncData) : List Stmt → Nat → Option (Nat × Option Nat)
  | [], _ => none
  | st :: r, i => match place f r (i + 1) with
    | some x => some x
    | none => match st with
      | .FunctionDef n .. => if f.qualname == n then some (i, none) else none
      | .ClassDef n _ _ b .. => if f.qualname == n ++ "." ++ f.name then (placeIn f.name b 0).map fun j => (i, some j) else none
      | _ => none
def qf (top : Term) (p : Program) (f : FuncData) : MacroM Term := do
  let some (i, oj) := place f p.main.body 0 | Macro.throwError s!"no def {f.qualname.toString}"
  let st ← match oj with
    | none => do `($top $(← qn i))
    | some j => do `(L2.inClass ($top $(← qn i)) $(← qn j))
  `(FuncData.mk $(← qs f.name) $(← qs f.qualname) (L2.defArgs $st) (FuncBody.stmts (L2.defBody $st)) (L2.defScope $st) $(← qn f.globals) $(← ql (qp qs qn) f.closure) $(← qv f.defaults) $(← qv f.kwdefaults) $(← qv f.doc) $(← qv f.pyModule) $(← qo qn f.annotations) $(← qv f.code) $(← qv f.closureTuple) $(← qn f.builtins))
def qc (c : ClassData) : MacroM Term := do
  `(ClassData.mk $(← qs c.name) $(← ql qv c.bases) $(← ql qv c.mro) $(← qn c.ns) $(← qs c.qualname) $(← qb c.hasDict) $(← ql qs c.slotNames) $(← ql qv c.subclasses) $(← qb c.abstract) $(← qo qb c.collection) $(← qb c.hasDel))
def qd (top : Term) (p : Program) (P : Term) : Data → MacroM Term
  | .plain => `(Data.plain)
  | .prim v => do `(Data.prim $(← qv v))
  | .seq xs n => do `(Data.seq $(← qa qv xs) $(← qn n))
  | .dict es n => do `(Data.dict $(← qa (qe P) es) $(← qn n))
  | .cell v => do `(Data.cell $(← qo qv v))
  | .func f => do `(Data.func $(← qf top p f))
  | .cls c => do `(Data.cls $(← qc c))
  | .fields xs => do `(Data.fields $(← qa qv xs))
  | .freed => `(Data.freed)
  | _ => Macro.throwError "an object"
def qob (top : Term) (p : Program) (P : Term) (x : Nat × Obj) : MacroM Term := do
  `(($(← qn x.1), Obj.mk $(← qv x.2.cls) $(← qo qn x.2.dict) $(← qd top p P x.2.data) $(← qa (qo qv) x.2.slots)))
def qpos (q : Pos) : MacroM Term := do `(Pos.mk $(← qn q.line) $(← qn q.col) $(← qn q.endLine) $(← qn q.endCol))
def qlife (l : Life) : MacroM Term := do
  `(Life.mk $(← ql qn l.registered) $(← ql qn l.finalised) $(← ql qn l.alive) $(← qn l.known) $(← ql (qp qn qn) l.ids) $(← ql qn l.orphanDicts) $(← qb l.counting) $(← qa qn l.cnt) $(← ql qn l.zero) $(← qn l.soft) $(← qb l.below) $(← qb l.collecting) $(← qb l.loading) $(← qi l.debug) $(← ql qi l.thresholds) $(← qb l.woke) $(← qn l.asked) $(← qb l.gcEnabled) $(← ql qn l.old) $(← ql qn l.middle) $(← qn l.young) $(← qb l.intoMiddle))
def qms (top : Term) (p : Program) (s : Shared) (c : Cut) : MacroM Term := do
  unless c.s.gens.isEmpty do Macro.throwError "a generator"
  let P : Term := mkIdent `P
  `((⟨fun $(mkIdent `P) => $(← ql (qob top p P) (news s c.s)), $(← qn c.s.heap.objs.size), $(← qlife c.s.heap.life), Drawn.mk $(← qn c.s.drawn.order) $(← qn c.s.drawn.schedule) $(← qn c.s.drawn.lifetime) $(← qn c.s.drawn.other), $(← qn c.s.toks), $(← qn (c.steps + 1)), $(← qpos c.pos), $(← qn c.many)⟩ : VL.Ms))
def expand (top : Term) (p : Program) (cap : Nat) (word : String) (j : Nat) : MacroM (TSyntax `tactic) := do
  match trace p cap with
  | .error e => Macro.throwError e
  | .ok t =>
    let x : Term ← match word with
      | "code" => qv t.code
      | "frame" => qn t.frame
      | "q" => qpos t.q
      | "ann" => qo qv t.ann
      | "n0" => qn t.s0.heap.objs.size
      | "count" => qn t.cuts.length
      | _ => match t.cuts[j]? with
        | some c => qms top p (if j = 0 then t.s0 else (t.cuts[j - 1]?.map (·.s)).getD t.s0) c
        | none => Macro.throwError "no such piece"
    `(tactic| exact $x)
end VL.Hm
set_option Elab.async false
set_option linter.all false
set_option maxRecDepth 100000
set_option maxHeartbeats 4000000
namespace VL
open PySem PySem.Spec PyProof.Rows L2
section
variable {X : Cx} {W : Wd} {e : Expr} {es : List Expr} {ta : TA} {p1 p2 pos : Pos}
end
end VL
set_option Elab.async false
set_option linter.all false
set_option maxRecDepth 100000
set_option maxHeartbeats 4000000
set_option exponentiation.threshold 20000
namespace Law
open PySem PySem.Spec PyProof.Rows L2 VL
def topS (i : Nat) : Stmt := PySem.Challenge.pw_unseenzero_k08_texts_that_are_no_forms.main.body.getD i (.Pass ⟨0, 0, 0, 0⟩)
abbrev s_InvalidAmount___init__ : Stmt := inClass (topS 3) 0
abbrev s_InvalidText___init__ : Stmt := inClass (topS 4) 0
abbrev s_NothingLeft___init__ : Stmt := inClass (topS 5) 0
abbrev s_is_integer : Stmt := topS 9
abbrev s_is_name : Stmt := topS 10
abbrev s_common_divisor : Stmt := topS 17
abbrev s_amount : Stmt := topS 18
abbrev s_is_amount : Stmt := topS 19
abbrev s_plus : Stmt := topS 20
abbrev s_minus : Stmt := topS 21
abbrev s_opposite : Stmt := topS 22
abbrev s_sign : Stmt := topS 23
abbrev s_amount_text : Stmt := topS 24
abbrev s_integer_in : Stmt := topS 25
abbrev s_amount_in : Stmt := topS 26
abbrev s_is_term : Stmt := topS 28
abbrev s_is_form : Stmt := topS 29
abbrev s_form_of : Stmt := topS 30
abbrev s_part_text : Stmt := topS 31
abbrev s_form_text : Stmt := topS 32
abbrev s_part_in : Stmt := topS 33
abbrev s_form_in : Stmt := topS 34
abbrev s_read_form : Stmt := topS 35
abbrev s_l_source : Stmt := topS 37
abbrev s_l_draw : Stmt := topS 38
abbrev s_l_choice : Stmt := topS 39
abbrev s_l_same : Stmt := topS 40
abbrev s_l_field : Stmt := topS 41
abbrev s_l_try : Stmt := topS 42
abbrev s_l_divisor : Stmt := topS 43
abbrev s_l_ratio : Stmt := topS 44
abbrev s_l_plus : Stmt := topS 45
abbrev s_l_amount : Stmt := topS 46
abbrev s_l_factor : Stmt := topS 47
abbrev s_l_names : Stmt := topS 48
abbrev s_l_form_of : Stmt := topS 49
abbrev s_l_amount_text : Stmt := topS 50
abbrev s_l_form_text : Stmt := topS 51
abbrev s_law : Stmt := topS 52
theorem sc_InvalidAmount___init__ : FnScope ["self", "given"] ["self", "given"] (defScope s_InvalidAmount___init__) := ⟨rfl, rfl, rfl, by decide +kernel, rfl, by decide +kernel, by decide +kernel⟩
theorem sc_InvalidText___init__ : FnScope ["self", "row"] ["self", "row"] (defScope s_InvalidText___init__) := ⟨rfl, rfl, rfl, by decide +kernel, rfl, by decide +kernel, by decide +kernel⟩
theorem sc_NothingLeft___init__ : FnScope ["self"] ["self"] (defScope s_NothingLeft___init__) := ⟨rfl, rfl, rfl, by decide +kernel, rfl, by decide +kernel, by decide +kernel⟩
theorem sc_is_integer : FnScope ["value"] ["value"] (defScope s_is_integer) := ⟨rfl, rfl, rfl, by decide +kernel, rfl, by decide +kernel, by decide +kernel⟩
theorem sc_is_name : FnScope ["value", "letter"] ["value"] (defScope s_is_name) := ⟨rfl, rfl, rfl, by decide +kernel, rfl, by decide +kernel, by decide +kernel⟩
theorem sc_common_divisor : FnScope ["one", "other"] ["one", "other"] (defScope s_common_divisor) := ⟨rfl, rfl, rfl, by decide +kernel, rfl, by decide +kernel, by decide +kernel⟩
theorem sc_amount : FnScope ["top", "bottom", "by"] ["top", "bottom"] (defScope s_amount) := ⟨rfl, rfl, rfl, by decide +kernel, rfl, by decide +kernel, by decide +kernel⟩
theorem sc_is_amount : FnScope ["value", "part"] ["value"] (defScope s_is_amount) := ⟨rfl, rfl, rfl, by decide +kernel, rfl, by decide +kernel, by decide +kernel⟩
theorem sc_plus : FnScope ["one", "other"] ["one", "other"] (defScope s_plus) := ⟨rfl, rfl, rfl, by decide +kernel, rfl, by decide +kernel, by decide +kernel⟩
theorem sc_minus : FnScope ["one", "other"] ["one", "other"] (defScope s_minus) := ⟨rfl, rfl, rfl, by decide +kernel, rfl, by decide +kernel, by decide +kernel⟩
theorem sc_opposite : FnScope ["one"] ["one"] (defScope s_opposite) := ⟨rfl, rfl, rfl, by decide +kernel, rfl, by decide +kernel, by decide +kernel⟩
theorem sc_sign : FnScope ["one"] ["one"] (defScope s_sign) := ⟨rfl, rfl, rfl, by decide +kernel, rfl, by decide +kernel, by decide +kernel⟩
theorem sc_amount_text : FnScope ["one"] ["one"] (defScope s_amount_text) := ⟨rfl, rfl, rfl, by decide +kernel, rfl, by decide +kernel, by decide +kernel⟩
theorem sc_integer_in : FnScope ["text", "digits", "found", "digit"] ["text"] (defScope s_integer_in) := ⟨rfl, rfl, rfl, by decide +kernel, rfl, by decide +kernel, by decide +kernel⟩
theorem sc_amount_in : FnScope ["text", "top", "bottom", "first", "bar", "second"] ["text"] (defScope s_amount_in) := ⟨rfl, rfl, rfl, by decide +kernel, rfl, by decide +kernel, by decide +kernel⟩
theorem sc_is_term : FnScope ["value"] ["value"] (defScope s_is_term) := ⟨rfl, rfl, rfl, by decide +kernel, rfl, by decide +kernel, by decide +kernel⟩
theorem sc_is_form : FnScope ["value", "names", "name", "factor", "term", "one", "other"] ["value"] (defScope s_is_form) := ⟨rfl, rfl, rfl, by decide +kernel, rfl, by decide +kernel, by decide +kernel⟩
theorem sc_form_of : FnScope ["terms", "constant", "totals", "name", "factor"] ["terms", "constant"] (defScope s_form_of) := ⟨rfl, rfl, rfl, by decide +kernel, rfl, by decide +kernel, by decide +kernel⟩
theorem sc_part_text : FnScope ["name", "factor"] ["name", "factor"] (defScope s_part_text) := ⟨rfl, rfl, rfl, by decide +kernel, rfl, by decide +kernel, by decide +kernel⟩
theorem sc_form_text : FnScope ["form", "parts", "found", "at", "below", "name", "factor"] ["form"] (defScope s_form_text) := ⟨rfl, rfl, rfl, by decide +kernel, rfl, by decide +kernel, by decide +kernel⟩
theorem sc_part_in : FnScope ["text", "factor", "first", "star", "name"] ["text"] (defScope s_part_in) := ⟨rfl, rfl, rfl, by decide +kernel, rfl, by decide +kernel, by decide +kernel⟩
theorem sc_form_in : FnScope ["text", "found", "first", "signs", "words", "terms", "constant", "mark", "word", "part", "rest"] ["text"] (defScope s_form_in) := ⟨rfl, rfl, rfl, by decide +kernel, rfl, by decide +kernel, by decide +kernel⟩
theorem sc_read_form : FnScope ["text", "found"] ["text"] (defScope s_read_form) := ⟨rfl, rfl, rfl, by decide +kernel, rfl, by decide +kernel, by decide +kernel⟩
theorem sc_l_source : FnScope ["_law_script", "_law_seed", "_law_cell"] ["_law_script"] (defScope s_l_source) := ⟨rfl, rfl, rfl, by decide +kernel, rfl, by decide +kernel, by decide +kernel⟩
theorem sc_l_draw : FnScope ["_law_rng", "_law_many", "_law_seed", "_law_cell", "_law_got"] ["_law_rng", "_law_many"] (defScope s_l_draw) := ⟨rfl, rfl, rfl, by decide +kernel, rfl, by decide +kernel, by decide +kernel⟩
theorem sc_l_choice : FnScope ["_law_rng", "_law_some"] ["_law_rng", "_law_some"] (defScope s_l_choice) := ⟨rfl, rfl, rfl, by decide +kernel, rfl, by decide +kernel, by decide +kernel⟩
theorem sc_l_same : FnScope ["_law_result", "_law_expected", "_law_kind_so", "_law_a", "_law_b"] ["_law_result", "_law_expected"] (defScope s_l_same) := ⟨rfl, rfl, rfl, by decide +kernel, rfl, by decide +kernel, by decide +kernel⟩
theorem sc_l_field : FnScope ["_law_e"] ["_law_e"] (defScope s_l_field) := ⟨rfl, rfl, rfl, by decide +kernel, rfl, by decide +kernel, by decide +kernel⟩
theorem sc_l_try : FnScope ["_law_ask", "_law_said", "_law_e"] ["_law_ask"] (defScope s_l_try) := ⟨rfl, rfl, rfl, by decide +kernel, rfl, by decide +kernel, by decide +kernel⟩
theorem sc_l_divisor : FnScope ["_law_one", "_law_other"] ["_law_one", "_law_other"] (defScope s_l_divisor) := ⟨rfl, rfl, rfl, by decide +kernel, rfl, by decide +kernel, by decide +kernel⟩
theorem sc_l_ratio : FnScope ["_law_top", "_law_bottom", "_law_by"] ["_law_top", "_law_bottom"] (defScope s_l_ratio) := ⟨rfl, rfl, rfl, by decide +kernel, rfl, by decide +kernel, by decide +kernel⟩
theorem sc_l_plus : FnScope ["_law_one", "_law_other"] ["_law_one", "_law_other"] (defScope s_l_plus) := ⟨rfl, rfl, rfl, by decide +kernel, rfl, by decide +kernel, by decide +kernel⟩
theorem sc_l_amount : FnScope ["_law_rng"] ["_law_rng"] (defScope s_l_amount) := ⟨rfl, rfl, rfl, by decide +kernel, rfl, by decide +kernel, by decide +kernel⟩
theorem sc_l_factor : FnScope ["_law_rng"] ["_law_rng"] (defScope s_l_factor) := ⟨rfl, rfl, rfl, by decide +kernel, rfl, by decide +kernel, by decide +kernel⟩
theorem sc_l_names : FnScope ["_law_rng", "_law_many", "_law_abc", "_law_stem", "_law_at", "_law_first", "_law_k"] ["_law_rng", "_law_many"] (defScope s_l_names) := ⟨rfl, rfl, rfl, by decide +kernel, rfl, by decide +kernel, by decide +kernel⟩
theorem sc_l_form_of : FnScope ["_law_pairs", "_law_rest_z", "_law_totals", "_law_name", "_law_fac"] ["_law_pairs", "_law_rest_z"] (defScope s_l_form_of) := ⟨rfl, rfl, rfl, by decide +kernel, rfl, by decide +kernel, by decide +kernel⟩
theorem sc_l_amount_text : FnScope ["_law_one"] ["_law_one"] (defScope s_l_amount_text) := ⟨rfl, rfl, rfl, by decide +kernel, rfl, by decide +kernel, by decide +kernel⟩
theorem sc_l_form_text : FnScope ["_law_form", "_law_parts", "_law_text", "_law_name", "_law_fac", "_law_below", "_law_bare", "_law_told", "_law_mark"] ["_law_form"] (defScope s_l_form_text) := ⟨rfl, rfl, rfl, by decide +kernel, rfl, by decide +kernel, by decide +kernel⟩
theorem sc_law : FnScope ["_law_script", "_law_rng", "_law_wrong", "_law_great", "_law_long_z", "_law_turn", "_law_names_here", "_law_one", "_law_text", "_law_at", "_law_fresh", "_law_bent", "_law_odd", "_law_code", "_law_found", "_law_k"] ["_law_script"] (defScope s_law) := ⟨rfl, rfl, rfl, by decide +kernel, rfl, by decide +kernel, by decide +kernel⟩
section
variable {P : Program} {w : World} {K : PySem.W.Frag} {mg : Str → Option Value} {base : Heap} {W : Wd}
def hdd_is_integer : He.DefD := ⟨("is_integer", none), "is_integer", "is_integer", defArgs s_is_integer, defBody s_is_integer, defScope s_is_integer, [], []⟩
def hdd_is_name : He.DefD := ⟨("is_name", none), "is_name", "is_name", defArgs s_is_name, defBody s_is_name, defScope s_is_name, [], []⟩
def hdd_common_divisor : He.DefD := ⟨("common_divisor", none), "common_divisor", "common_divisor", defArgs s_common_divisor, defBody s_common_divisor, defScope s_common_divisor, [], []⟩
def hdd_amount : He.DefD := ⟨("amount", none), "amount", "amount", defArgs s_amount, defBody s_amount, defScope s_amount, [.int 1], []⟩
def hdd_is_amount : He.DefD := ⟨("is_amount", none), "is_amount", "is_amount", defArgs s_is_amount, defBody s_is_amount, defScope s_is_amount, [], []⟩
def hdd_plus : He.DefD := ⟨("plus", none), "plus", "plus", defArgs s_plus, defBody s_plus, defScope s_plus, [], []⟩
def hdd_minus : He.DefD := ⟨("minus", none), "minus", "minus", defArgs s_minus, defBody s_minus, defScope s_minus, [], []⟩
def hdd_opposite : He.DefD := ⟨("opposite", none), "opposite", "opposite", defArgs s_opposite, defBody s_opposite, defScope s_opposite, [], []⟩
def hdd_sign : He.DefD := ⟨("sign", none), "sign", "sign", defArgs s_sign, defBody s_sign, defScope s_sign, [], []⟩
def hdd_amount_text : He.DefD := ⟨("amount_text", none), "amount_text", "amount_text", defArgs s_amount_text, defBody s_amount_text, defScope s_amount_text, [], []⟩
def hdd_integer_in : He.DefD := ⟨("integer_in", none), "integer_in", "integer_in", defArgs s_integer_in, defBody s_integer_in, defScope s_integer_in, [], []⟩
def hdd_amount_in : He.DefD := ⟨("amount_in", none), "amount_in", "amount_in", defArgs s_amount_in, defBody s_amount_in, defScope s_amount_in, [], []⟩
def hdd_is_term : He.DefD := ⟨("is_term", none), "is_term", "is_term", defArgs s_is_term, defBody s_is_term, defScope s_is_term, [], []⟩
def hdd_is_form : He.DefD := ⟨("is_form", none), "is_form", "is_form", defArgs s_is_form, defBody s_is_form, defScope s_is_form, [], []⟩
def hdd_form_of : He.DefD := ⟨("form_of", none), "form_of", "form_of", defArgs s_form_of, defBody s_form_of, defScope s_form_of, [.adr (fun K => rfV (dfK K (He.ga K "form_of") 0))], []⟩
def hdd_part_text : He.DefD := ⟨("part_text", none), "part_text", "part_text", defArgs s_part_text, defBody s_part_text, defScope s_part_text, [], []⟩
def hdd_form_text : He.DefD := ⟨("form_text", none), "form_text", "form_text", defArgs s_form_text, defBody s_form_text, defScope s_form_text, [], []⟩
def hdd_part_in : He.DefD := ⟨("part_in", none), "part_in", "part_in", defArgs s_part_in, defBody s_part_in, defScope s_part_in, [], []⟩
def hdd_form_in : He.DefD := ⟨("form_in", none), "form_in", "form_in", defArgs s_form_in, defBody s_form_in, defScope s_form_in, [], []⟩
def hdd_read_form : He.DefD := ⟨("read_form", none), "read_form", "read_form", defArgs s_read_form, defBody s_read_form, defScope s_read_form, [], []⟩
def hdd_l_source : He.DefD := ⟨("_law_source", none), "_law_source", "_law_source", defArgs s_l_source, defBody s_l_source, defScope s_l_source, [], []⟩
def hdd_l_draw : He.DefD := ⟨("_law_draw", none), "_law_draw", "_law_draw", defArgs s_l_draw, defBody s_l_draw, defScope s_l_draw, [], []⟩
def hdd_l_choice : He.DefD := ⟨("_law_choice", none), "_law_choice", "_law_choice", defArgs s_l_choice, defBody s_l_choice, defScope s_l_choice, [], []⟩
def hdd_l_same : He.DefD := ⟨("_law_same", none), "_law_same", "_law_same", defArgs s_l_same, defBody s_l_same, defScope s_l_same, [], []⟩
def hdd_l_field : He.DefD := ⟨("_law_field", none), "_law_field", "_law_field", defArgs s_l_field, defBody s_l_field, defScope s_l_field, [], []⟩
def hdd_l_try : He.DefD := ⟨("_law_try", none), "_law_try", "_law_try", defArgs s_l_try, defBody s_l_try, defScope s_l_try, [], []⟩
def hdd_l_divisor : He.DefD := ⟨("_law_divisor", none), "_law_divisor", "_law_divisor", defArgs s_l_divisor, defBody s_l_divisor, defScope s_l_divisor, [], []⟩
def hdd_l_ratio : He.DefD := ⟨("_law_ratio", none), "_law_ratio", "_law_ratio", defArgs s_l_ratio, defBody s_l_ratio, defScope s_l_ratio, [], []⟩
def hdd_l_plus : He.DefD := ⟨("_law_plus", none), "_law_plus", "_law_plus", defArgs s_l_plus, defBody s_l_plus, defScope s_l_plus, [], []⟩
def hdd_l_amount : He.DefD := ⟨("_law_amount", none), "_law_amount", "_law_amount", defArgs s_l_amount, defBody s_l_amount, defScope s_l_amount, [], []⟩
def hdd_l_factor : He.DefD := ⟨("_law_factor", none), "_law_factor", "_law_factor", defArgs s_l_factor, defBody s_l_factor, defScope s_l_factor, [], []⟩
def hdd_l_names : He.DefD := ⟨("_law_names", none), "_law_names", "_law_names", defArgs s_l_names, defBody s_l_names, defScope s_l_names, [], []⟩
def hdd_l_form_of : He.DefD := ⟨("_law_form_of", none), "_law_form_of", "_law_form_of", defArgs s_l_form_of, defBody s_l_form_of, defScope s_l_form_of, [], []⟩
def hdd_l_amount_text : He.DefD := ⟨("_law_amount_text", none), "_law_amount_text", "_law_amount_text", defArgs s_l_amount_text, defBody s_l_amount_text, defScope s_l_amount_text, [], []⟩
def hdd_l_form_text : He.DefD := ⟨("_law_form_text", none), "_law_form_text", "_law_form_text", defArgs s_l_form_text, defBody s_l_form_text, defScope s_l_form_text, [], []⟩
def hdd_law : He.DefD := ⟨("law", none), "law", "law", defArgs s_law, defBody s_law, defScope s_law, [], []⟩
def hdd_InvalidText___init__ : He.DefD := ⟨("InvalidText", some "__init__"), "__init__", "InvalidText.__init__", defArgs s_InvalidText___init__, defBody s_InvalidText___init__, defScope s_InvalidText___init__, [], []⟩
def hdF0 : List He.DefD := [hdd_is_integer, hdd_is_name, hdd_common_divisor, hdd_amount, hdd_is_amount, hdd_plus, hdd_minus, hdd_opposite, hdd_sign, hdd_amount_text, hdd_integer_in, hdd_amount_in, hdd_is_term, hdd_is_form, hdd_form_of, hdd_part_text, hdd_form_text, hdd_part_in, hdd_form_in, hdd_read_form, hdd_l_source, hdd_l_draw, hdd_l_choice, hdd_l_same, hdd_l_field]
def hdF1 : List He.DefD := [hdd_l_try, hdd_l_divisor, hdd_l_ratio, hdd_l_plus, hdd_l_amount, hdd_l_factor, hdd_l_names, hdd_l_form_of, hdd_l_amount_text, hdd_l_form_text, hdd_law, hdd_InvalidText___init__]
def hdS : List SupD := []
def hdF : List He.DefD := hdF0 ++ (hdF1)
def hdE0 (K : PySem.W.Frag) : Bool := decide (PySem.W.nsIn K mainGlobals "LETTERS" = some (some (gvK K "LETTERS"))) && (He.relB (.str "abcdefghijklmnopqrstuvwxyz") (gvK K "LETTERS") && (decide (PySem.W.nsIn K mainGlobals "MOST_LETTERS" = some (some (gvK K "MOST_LETTERS"))) && (He.relB (.int 8) (gvK K "MOST_LETTERS") && (decide (PySem.W.nsIn K mainGlobals "ZERO" = some (some (gvK K "ZERO"))) && (decide ((gvK K "ZERO") = Value.ref (rfV (gvK K "ZERO"))) && (tupC K (rfV (gvK K "ZERO")) [(.int 0), (.int 1)] && (decide (PySem.W.nsIn K mainGlobals "ONE" = some (some (gvK K "ONE"))) && (decide ((gvK K "ONE") = Value.ref (rfV (gvK K "ONE"))) && (tupC K (rfV (gvK K "ONE")) [(.int 1), (.int 1)] && (decide (PySem.W.nsIn K mainGlobals "DIGITS" = some (some (gvK K "DIGITS"))) && (He.relB (.str "0123456789") (gvK K "DIGITS") && (decide (PySem.W.nsIn K mainGlobals "MOST_DIGITS" = some (some (gvK K "MOST_DIGITS"))) && (He.relB (.int 30) (gvK K "MOST_DIGITS") && (decide (PySem.W.nsIn K mainGlobals "NO_TEXT" = some (some (gvK K "NO_TEXT"))) && (He.relB (.int 10000000000000000000000000000000000000000000000000000000000000000000000000000000000000000000000000000000000000000000000000000000000000000000000000000000000000000000000000000000000000000000000000000000000000000000000000000000000000000000000000000000000000000000000000000000000000000000000000000000000000000000000000000000000000000000000000000000000000000000000000000000000000000000000000000000000000000000000000000000000000000000000000000000000000000000000000000000000000000000000000000000000000000000000000000000000000000000000000000000000000000000000000000000000000000000000000000000000000000000000000000000000000000000000000000000000000000000000000000000000000000000000000000000000000000000000000000000000000000000000000000000000000000000000000000000000000000000000000000000000000000000000000000000000000000000000000000000000000000000000000000000000000000000000000000000000000000000000000000000000000000000000000000000000000000000000000000000000000000000000000000000000000000000000000000000000000000) (gvK K "NO_TEXT") && (decide (PySem.W.nsIn K mainGlobals "is_integer" = some (some (.ref (He.ga K "is_integer")))) && (decide (PySem.W.nsIn K mainGlobals "is_name" = some (some (.ref (He.ga K "is_name")))) && (decide (PySem.W.nsIn K mainGlobals "common_divisor" = some (some (.ref (He.ga K "common_divisor")))) && (decide (PySem.W.nsIn K mainGlobals "amount" = some (some (.ref (He.ga K "amount")))) && (decide (PySem.W.nsIn K mainGlobals "is_amount" = some (some (.ref (He.ga K "is_amount")))) && (decide (PySem.W.nsIn K mainGlobals "plus" = some (some (.ref (He.ga K "plus")))) && (decide (PySem.W.nsIn K mainGlobals "minus" = some (some (.ref (He.ga K "minus")))) && (decide (PySem.W.nsIn K mainGlobals "opposite" = some (some (.ref (He.ga K "opposite")))) && (decide (PySem.W.nsIn K mainGlobals "sign" = some (some (.ref (He.ga K "sign")))) && (decide (PySem.W.nsIn K mainGlobals "amount_text" = some (some (.ref (He.ga K "amount_text")))) && (decide (PySem.W.nsIn K mainGlobals "integer_in" = some (some (.ref (He.ga K "integer_in")))) && (decide (PySem.W.nsIn K mainGlobals "amount_in" = some (some (.ref (He.ga K "amount_in")))) && (decide (PySem.W.nsIn K mainGlobals "is_term" = some (some (.ref (He.ga K "is_term")))) && (decide (PySem.W.nsIn K mainGlobals "is_form" = some (some (.ref (He.ga K "is_form")))) && (true))))))))))))))))))))))))))))))
def hdE1 (K : PySem.W.Frag) : Bool := decide (PySem.W.nsIn K mainGlobals "form_of" = some (some (.ref (He.ga K "form_of")))) && (tupC K (rfV (dfK K (He.ga K "form_of") 0)) [(.int 0), (.int 1)] && (decide (PySem.W.nsIn K mainGlobals "part_text" = some (some (.ref (He.ga K "part_text")))) && (decide (PySem.W.nsIn K mainGlobals "form_text" = some (some (.ref (He.ga K "form_text")))) && (decide (PySem.W.nsIn K mainGlobals "part_in" = some (some (.ref (He.ga K "part_in")))) && (decide (PySem.W.nsIn K mainGlobals "form_in" = some (some (.ref (He.ga K "form_in")))) && (decide (PySem.W.nsIn K mainGlobals "read_form" = some (some (.ref (He.ga K "read_form")))) && (decide (PySem.W.nsIn K mainGlobals "_law_source" = some (some (.ref (He.ga K "_law_source")))) && (decide (PySem.W.nsIn K mainGlobals "_law_draw" = some (some (.ref (He.ga K "_law_draw")))) && (decide (PySem.W.nsIn K mainGlobals "_law_choice" = some (some (.ref (He.ga K "_law_choice")))) && (decide (PySem.W.nsIn K mainGlobals "_law_same" = some (some (.ref (He.ga K "_law_same")))) && (decide (PySem.W.nsIn K mainGlobals "_law_field" = some (some (.ref (He.ga K "_law_field")))) && (decide (PySem.W.nsIn K mainGlobals "_law_try" = some (some (.ref (He.ga K "_law_try")))) && (decide (PySem.W.nsIn K mainGlobals "_law_divisor" = some (some (.ref (He.ga K "_law_divisor")))) && (decide (PySem.W.nsIn K mainGlobals "_law_ratio" = some (some (.ref (He.ga K "_law_ratio")))) && (decide (PySem.W.nsIn K mainGlobals "_law_plus" = some (some (.ref (He.ga K "_law_plus")))) && (decide (PySem.W.nsIn K mainGlobals "_law_amount" = some (some (.ref (He.ga K "_law_amount")))) && (decide (PySem.W.nsIn K mainGlobals "_law_factor" = some (some (.ref (He.ga K "_law_factor")))) && (decide (PySem.W.nsIn K mainGlobals "_law_names" = some (some (.ref (He.ga K "_law_names")))) && (decide (PySem.W.nsIn K mainGlobals "_law_form_of" = some (some (.ref (He.ga K "_law_form_of")))) && (decide (PySem.W.nsIn K mainGlobals "_law_amount_text" = some (some (.ref (He.ga K "_law_amount_text")))) && (decide (PySem.W.nsIn K mainGlobals "_law_form_text" = some (some (.ref (He.ga K "_law_form_text")))) && (decide (PySem.W.nsIn K mainGlobals "law" = some (some (.ref (He.ga K "law")))) && (decide (PySem.W.nsIn K mainGlobals "abs" = some none) && (decide (PySem.W.nsIn K mainGlobals "all" = some none) && (decide (PySem.W.nsIn K mainGlobals "bool" = some none) && (decide (PySem.W.nsIn K mainGlobals "enumerate" = some none) && (decide (PySem.W.nsIn K mainGlobals "int" = some none) && (decide (PySem.W.nsIn K mainGlobals "isinstance" = some none) && (decide (PySem.W.nsIn K mainGlobals "len" = some none) && (true))))))))))))))))))))))))))))))
def hdE2 (K : PySem.W.Frag) : Bool := decide (PySem.W.nsIn K mainGlobals "list" = some none) && (decide (PySem.W.nsIn K mainGlobals "range" = some none) && (decide (PySem.W.nsIn K mainGlobals "sorted" = some none) && (decide (PySem.W.nsIn K mainGlobals "str" = some none) && (decide (PySem.W.nsIn K mainGlobals "tuple" = some none) && (decide (PySem.W.nsIn K mainGlobals "zip" = some none) && (decide (PySem.W.nsIn K mainGlobals "InvalidText" = some (some (.ref (He.ga K "InvalidText")))) && (decide (PySem.W.findIn K (.ref (He.ga K "InvalidText")) "__init__" = some (some (.ref (He.ma K (He.ga K "InvalidText") "__init__")))) && (decide (PySem.W.isFn K (.ref (He.ma K (He.ga K "InvalidText") "__init__")) = true) && (excC K (He.ga K "InvalidText") "ValueError.__new__" (PySem.HandSPX.refsVE) && (decide (PySem.W.findIn K (.ref (He.ga K "InvalidText")) "__setattr__" = some (some (.builtin "object.__setattr__"))) && (decide (PySem.W.subIn K (.ref (He.ga K "InvalidText")) (.type "BaseException") = some true) && (decide (PySem.W.typeIn K (.ref (He.ga K "InvalidText")) = some (.type "type")) && (decide (PySem.W.keepIn K (.ref (He.ga K "InvalidText")) = true) && (decide (PySem.W.typeIn K (.ref (He.ma K (He.ga K "InvalidText") "__init__")) = some (.type "function")) && (decide (excB K (He.ga K "InvalidText") = true) && (decide (PySem.W.nsIn K mainGlobals "ScaleError" = some (some (.ref (He.ga K "ScaleError")))) && (decide (PySem.W.nsIn K mainGlobals "Missing" = some (some (.ref (He.ga K "Missing")))) && (decide (PySem.W.nsIn K mainGlobals "NothingLeft" = some (some (.ref (He.ga K "NothingLeft")))) && (decide (PySem.W.exmAny K (.ref (He.ga K "InvalidText")) [.ref (He.ga K "ScaleError"), .ref (He.ga K "Missing"), .ref (He.ga K "NothingLeft")] = some true) && (decide (PySem.W.readsIn K (He.ga K "ScaleError") (.type "type") = true) && (decide (PySem.W.specialIn K (.ref (He.ga K "ScaleError")) "__getattribute__" = some (some (.builtin "type.__getattribute__"))) && (fclB (PySem.W.findCls K (.ref (He.ga K "ScaleError")) (.type "type") "__init__") ((.builtin "ValueError.__init__")) && (true)))))))))))))))))))))))
def hdE (K : PySem.W.Frag) : Bool := hdE0 K && (hdE1 K && (hdE2 K && (true)))
def hdN : List Str := ([PySem.Str.ofString "ScaleError", PySem.Str.ofString "Missing", PySem.Str.ofString "InvalidAmount", PySem.Str.ofString "InvalidText", PySem.Str.ofString "NothingLeft", PySem.Str.ofString "LETTERS", PySem.Str.ofString "MOST_LETTERS", PySem.Str.ofString "is_integer", PySem.Str.ofString "is_name", PySem.Str.ofString "ZERO", PySem.Str.ofString "ONE", PySem.Str.ofString "DIGITS", PySem.Str.ofString "MOST_DIGITS", PySem.Str.ofString "NO_TEXT", PySem.Str.ofString "common_divisor", PySem.Str.ofString "amount", PySem.Str.ofString "is_amount", PySem.Str.ofString "plus", PySem.Str.ofString "minus", PySem.Str.ofString "opposite"] : List PySem.Str) ++ ([PySem.Str.ofString "sign", PySem.Str.ofString "amount_text", PySem.Str.ofString "integer_in", PySem.Str.ofString "amount_in", PySem.Str.ofString "is_term", PySem.Str.ofString "is_form", PySem.Str.ofString "form_of", PySem.Str.ofString "part_text", PySem.Str.ofString "form_text", PySem.Str.ofString "part_in", PySem.Str.ofString "form_in", PySem.Str.ofString "read_form", PySem.Str.ofString "_law_source", PySem.Str.ofString "_law_draw", PySem.Str.ofString "_law_choice", PySem.Str.ofString "_law_same", PySem.Str.ofString "_law_field", PySem.Str.ofString "_law_try", PySem.Str.ofString "_law_divisor", PySem.Str.ofString "_law_ratio"] : List PySem.Str) ++ ([PySem.Str.ofString "_law_plus", PySem.Str.ofString "_law_amount", PySem.Str.ofString "_law_factor", PySem.Str.ofString "_law_names", PySem.Str.ofString "_law_form_of", PySem.Str.ofString "_law_amount_text", PySem.Str.ofString "_law_form_text"] : List PySem.Str)
abbrev hk : PySem.W.Hook := hookZ hdF hdS hdE
def ob (s : PySem.W.SharedT) : (He.AlD × List FnS) × Bool := obZ hdF hdS hdE (HandSHeadRun.getT s)
theorem ob_eq (s : PySem.W.SharedT) : ob s = hk.obs s.abs := obZ_eq (HandSHeadRun.getT_eq s)
abbrev hdR : PySem.W.OpenRow := PySem.W.OpenLaw.row PySem.Challenge.rw_unseenzero_k08_texts_that_are_no_forms
end
def d_LETTERS : D := (.str "abcdefghijklmnopqrstuvwxyz")
def d_MOST_LETTERS : D := (.int 8)
def d_ZERO : D := (.tup [(.int 0), (.int 1)])
def d_ONE : D := (.tup [(.int 1), (.int 1)])
def d_DIGITS : D := (.str "0123456789")
def d_MOST_DIGITS : D := (.int 30)
def d_NO_TEXT : D := (.int 10000000000000000000000000000000000000000000000000000000000000000000000000000000000000000000000000000000000000000000000000000000000000000000000000000000000000000000000000000000000000000000000000000000000000000000000000000000000000000000000000000000000000000000000000000000000000000000000000000000000000000000000000000000000000000000000000000000000000000000000000000000000000000000000000000000000000000000000000000000000000000000000000000000000000000000000000000000000000000000000000000000000000000000000000000000000000000000000000000000000000000000000000000000000000000000000000000000000000000000000000000000000000000000000000000000000000000000000000000000000000000000000000000000000000000000000000000000000000000000000000000000000000000000000000000000000000000000000000000000000000000000000000000000000000000000000000000000000000000000000000000000000000000000000000000000000000000000000000000000000000000000000000000000000000000000000000000000000000000000000000000000000000000000000000000000000000000)
section
variable {K : PySem.W.Frag} {mg : Str → Option Value}
structure Tx (K : PySem.W.Frag) (mg : Str → Option Value) where
  h : Heap
  X : K.In h
  G : h.Ns mainGlobals mg
  c : SaysY hdF hdE K
  s : obsS hdS K = valS hdS
theorem hdc0 (c : SaysY hdF hdE K) : (PySem.W.nsIn K mainGlobals "LETTERS" = some (some (gvK K "LETTERS"))) ∧ (RelV (.str "abcdefghijklmnopqrstuvwxyz") (gvK K "LETTERS") ∧ ((PySem.W.nsIn K mainGlobals "MOST_LETTERS" = some (some (gvK K "MOST_LETTERS"))) ∧ (RelV (.int 8) (gvK K "MOST_LETTERS") ∧ ((PySem.W.nsIn K mainGlobals "ZERO" = some (some (gvK K "ZERO"))) ∧ (((gvK K "ZERO") = Value.ref (rfV (gvK K "ZERO"))) ∧ ((tupC K (rfV (gvK K "ZERO")) [(.int 0), (.int 1)] = true) ∧ ((PySem.W.nsIn K mainGlobals "ONE" = some (some (gvK K "ONE"))) ∧ (((gvK K "ONE") = Value.ref (rfV (gvK K "ONE"))) ∧ ((tupC K (rfV (gvK K "ONE")) [(.int 1), (.int 1)] = true) ∧ ((PySem.W.nsIn K mainGlobals "DIGITS" = some (some (gvK K "DIGITS"))) ∧ (RelV (.str "0123456789") (gvK K "DIGITS") ∧ ((PySem.W.nsIn K mainGlobals "MOST_DIGITS" = some (some (gvK K "MOST_DIGITS"))) ∧ (RelV (.int 30) (gvK K "MOST_DIGITS") ∧ ((PySem.W.nsIn K mainGlobals "NO_TEXT" = some (some (gvK K "NO_TEXT"))) ∧ (RelV (.int 10000000000000000000000000000000000000000000000000000000000000000000000000000000000000000000000000000000000000000000000000000000000000000000000000000000000000000000000000000000000000000000000000000000000000000000000000000000000000000000000000000000000000000000000000000000000000000000000000000000000000000000000000000000000000000000000000000000000000000000000000000000000000000000000000000000000000000000000000000000000000000000000000000000000000000000000000000000000000000000000000000000000000000000000000000000000000000000000000000000000000000000000000000000000000000000000000000000000000000000000000000000000000000000000000000000000000000000000000000000000000000000000000000000000000000000000000000000000000000000000000000000000000000000000000000000000000000000000000000000000000000000000000000000000000000000000000000000000000000000000000000000000000000000000000000000000000000000000000000000000000000000000000000000000000000000000000000000000000000000000000000000000000000000000000000000000000000) (gvK K "NO_TEXT") ∧ ((PySem.W.nsIn K mainGlobals "is_integer" = some (some (.ref (He.ga K "is_integer")))) ∧ ((PySem.W.nsIn K mainGlobals "is_name" = some (some (.ref (He.ga K "is_name")))) ∧ ((PySem.W.nsIn K mainGlobals "common_divisor" = some (some (.ref (He.ga K "common_divisor")))) ∧ ((PySem.W.nsIn K mainGlobals "amount" = some (some (.ref (He.ga K "amount")))) ∧ ((PySem.W.nsIn K mainGlobals "is_amount" = some (some (.ref (He.ga K "is_amount")))) ∧ ((PySem.W.nsIn K mainGlobals "plus" = some (some (.ref (He.ga K "plus")))) ∧ ((PySem.W.nsIn K mainGlobals "minus" = some (some (.ref (He.ga K "minus")))) ∧ ((PySem.W.nsIn K mainGlobals "opposite" = some (some (.ref (He.ga K "opposite")))) ∧ ((PySem.W.nsIn K mainGlobals "sign" = some (some (.ref (He.ga K "sign")))) ∧ ((PySem.W.nsIn K mainGlobals "amount_text" = some (some (.ref (He.ga K "amount_text")))) ∧ ((PySem.W.nsIn K mainGlobals "integer_in" = some (some (.ref (He.ga K "integer_in")))) ∧ ((PySem.W.nsIn K mainGlobals "amount_in" = some (some (.ref (He.ga K "amount_in")))) ∧ ((PySem.W.nsIn K mainGlobals "is_term" = some (some (.ref (He.ga K "is_term")))) ∧ ((PySem.W.nsIn K mainGlobals "is_form" = some (some (.ref (He.ga K "is_form")))) ∧ (True)))))))))))))))))))))))))))))) := by
  have y := c.more
  unfold hdE at y
  replace y := (hd_b y).1
  unfold hdE0 at y
  obtain ⟨w0, y⟩ := hd_d y
  obtain ⟨w1, y⟩ := hd_r y
  obtain ⟨w2, y⟩ := hd_d y
  obtain ⟨w3, y⟩ := hd_r y
  obtain ⟨w4, y⟩ := hd_d y
  obtain ⟨w5, y⟩ := hd_d y
  obtain ⟨w6, y⟩ := hd_b y
  obtain ⟨w7, y⟩ := hd_d y
  obtain ⟨w8, y⟩ := hd_d y
  obtain ⟨w9, y⟩ := hd_b y
  obtain ⟨w10, y⟩ := hd_d y
  obtain ⟨w11, y⟩ := hd_r y
  obtain ⟨w12, y⟩ := hd_d y
  obtain ⟨w13, y⟩ := hd_r y
  obtain ⟨w14, y⟩ := hd_d y
  obtain ⟨w15, y⟩ := hd_r y
  obtain ⟨w16, y⟩ := hd_d y
  obtain ⟨w17, y⟩ := hd_d y
  obtain ⟨w18, y⟩ := hd_d y
  obtain ⟨w19, y⟩ := hd_d y
  obtain ⟨w20, y⟩ := hd_d y
  obtain ⟨w21, y⟩ := hd_d y
  obtain ⟨w22, y⟩ := hd_d y
  obtain ⟨w23, y⟩ := hd_d y
  obtain ⟨w24, y⟩ := hd_d y
  obtain ⟨w25, y⟩ := hd_d y
  obtain ⟨w26, y⟩ := hd_d y
  obtain ⟨w27, y⟩ := hd_d y
  obtain ⟨w28, y⟩ := hd_d y
  obtain ⟨w29, y⟩ := hd_d y
  exact ⟨w0, w1, w2, w3, w4, w5, w6, w7, w8, w9, w10, w11, w12, w13, w14, w15, w16, w17, w18, w19, w20, w21, w22, w23, w24, w25, w26, w27, w28, w29, trivial⟩
theorem hdc1 (c : SaysY hdF hdE K) : (PySem.W.nsIn K mainGlobals "form_of" = some (some (.ref (He.ga K "form_of")))) ∧ ((tupC K (rfV (dfK K (He.ga K "form_of") 0)) [(.int 0), (.int 1)] = true) ∧ ((PySem.W.nsIn K mainGlobals "part_text" = some (some (.ref (He.ga K "part_text")))) ∧ ((PySem.W.nsIn K mainGlobals "form_text" = some (some (.ref (He.ga K "form_text")))) ∧ ((PySem.W.nsIn K mainGlobals "part_in" = some (some (.ref (He.ga K "part_in")))) ∧ ((PySem.W.nsIn K mainGlobals "form_in" = some (some (.ref (He.ga K "form_in")))) ∧ ((PySem.W.nsIn K mainGlobals "read_form" = some (some (.ref (He.ga K "read_form")))) ∧ ((PySem.W.nsIn K mainGlobals "_law_source" = some (some (.ref (He.ga K "_law_source")))) ∧ ((PySem.W.nsIn K mainGlobals "_law_draw" = some (some (.ref (He.ga K "_law_draw")))) ∧ ((PySem.W.nsIn K mainGlobals "_law_choice" = some (some (.ref (He.ga K "_law_choice")))) ∧ ((PySem.W.nsIn K mainGlobals "_law_same" = some (some (.ref (He.ga K "_law_same")))) ∧ ((PySem.W.nsIn K mainGlobals "_law_field" = some (some (.ref (He.ga K "_law_field")))) ∧ ((PySem.W.nsIn K mainGlobals "_law_try" = some (some (.ref (He.ga K "_law_try")))) ∧ ((PySem.W.nsIn K mainGlobals "_law_divisor" = some (some (.ref (He.ga K "_law_divisor")))) ∧ ((PySem.W.nsIn K mainGlobals "_law_ratio" = some (some (.ref (He.ga K "_law_ratio")))) ∧ ((PySem.W.nsIn K mainGlobals "_law_plus" = some (some (.ref (He.ga K "_law_plus")))) ∧ ((PySem.W.nsIn K mainGlobals "_law_amount" = some (some (.ref (He.ga K "_law_amount")))) ∧ ((PySem.W.nsIn K mainGlobals "_law_factor" = some (some (.ref (He.ga K "_law_factor")))) ∧ ((PySem.W.nsIn K mainGlobals "_law_names" = some (some (.ref (He.ga K "_law_names")))) ∧ ((PySem.W.nsIn K mainGlobals "_law_form_of" = some (some (.ref (He.ga K "_law_form_of")))) ∧ ((PySem.W.nsIn K mainGlobals "_law_amount_text" = some (some (.ref (He.ga K "_law_amount_text")))) ∧ ((PySem.W.nsIn K mainGlobals "_law_form_text" = some (some (.ref (He.ga K "_law_form_text")))) ∧ ((PySem.W.nsIn K mainGlobals "law" = some (some (.ref (He.ga K "law")))) ∧ ((PySem.W.nsIn K mainGlobals "abs" = some none) ∧ ((PySem.W.nsIn K mainGlobals "all" = some none) ∧ ((PySem.W.nsIn K mainGlobals "bool" = some none) ∧ ((PySem.W.nsIn K mainGlobals "enumerate" = some none) ∧ ((PySem.W.nsIn K mainGlobals "int" = some none) ∧ ((PySem.W.nsIn K mainGlobals "isinstance" = some none) ∧ ((PySem.W.nsIn K mainGlobals "len" = some none) ∧ (True)))))))))))))))))))))))))))))) := by
  have y := c.more
  unfold hdE at y
  replace y := (hd_b y).2
  replace y := (hd_b y).1
  unfold hdE1 at y
  obtain ⟨w0, y⟩ := hd_d y
  obtain ⟨w1, y⟩ := hd_b y
  obtain ⟨w2, y⟩ := hd_d y
  obtain ⟨w3, y⟩ := hd_d y
  obtain ⟨w4, y⟩ := hd_d y
  obtain ⟨w5, y⟩ := hd_d y
  obtain ⟨w6, y⟩ := hd_d y
  obtain ⟨w7, y⟩ := hd_d y
  obtain ⟨w8, y⟩ := hd_d y
  obtain ⟨w9, y⟩ := hd_d y
  obtain ⟨w10, y⟩ := hd_d y
  obtain ⟨w11, y⟩ := hd_d y
  obtain ⟨w12, y⟩ := hd_d y
  obtain ⟨w13, y⟩ := hd_d y
  obtain ⟨w14, y⟩ := hd_d y
  obtain ⟨w15, y⟩ := hd_d y
  obtain ⟨w16, y⟩ := hd_d y
  obtain ⟨w17, y⟩ := hd_d y
  obtain ⟨w18, y⟩ := hd_d y
  obtain ⟨w19, y⟩ := hd_d y
  obtain ⟨w20, y⟩ := hd_d y
  obtain ⟨w21, y⟩ := hd_d y
  obtain ⟨w22, y⟩ := hd_d y
  obtain ⟨w23, y⟩ := hd_d y
  obtain ⟨w24, y⟩ := hd_d y
  obtain ⟨w25, y⟩ := hd_d y
  obtain ⟨w26, y⟩ := hd_d y
  obtain ⟨w27, y⟩ := hd_d y
  obtain ⟨w28, y⟩ := hd_d y
  obtain ⟨w29, y⟩ := hd_d y
  exact ⟨w0, w1, w2, w3, w4, w5, w6, w7, w8, w9, w10, w11, w12, w13, w14, w15, w16, w17, w18, w19, w20, w21, w22, w23, w24, w25, w26, w27, w28, w29, trivial⟩
theorem hdc2 (c : SaysY hdF hdE K) : (PySem.W.nsIn K mainGlobals "list" = some none) ∧ ((PySem.W.nsIn K mainGlobals "range" = some none) ∧ ((PySem.W.nsIn K mainGlobals "sorted" = some none) ∧ ((PySem.W.nsIn K mainGlobals "str" = some none) ∧ ((PySem.W.nsIn K mainGlobals "tuple" = some none) ∧ ((PySem.W.nsIn K mainGlobals "zip" = some none) ∧ ((PySem.W.nsIn K mainGlobals "InvalidText" = some (some (.ref (He.ga K "InvalidText")))) ∧ ((PySem.W.findIn K (.ref (He.ga K "InvalidText")) "__init__" = some (some (.ref (He.ma K (He.ga K "InvalidText") "__init__")))) ∧ ((PySem.W.isFn K (.ref (He.ma K (He.ga K "InvalidText") "__init__")) = true) ∧ ((excC K (He.ga K "InvalidText") "ValueError.__new__" (PySem.HandSPX.refsVE) = true) ∧ ((PySem.W.findIn K (.ref (He.ga K "InvalidText")) "__setattr__" = some (some (.builtin "object.__setattr__"))) ∧ ((PySem.W.subIn K (.ref (He.ga K "InvalidText")) (.type "BaseException") = some true) ∧ ((PySem.W.typeIn K (.ref (He.ga K "InvalidText")) = some (.type "type")) ∧ ((PySem.W.keepIn K (.ref (He.ga K "InvalidText")) = true) ∧ ((PySem.W.typeIn K (.ref (He.ma K (He.ga K "InvalidText") "__init__")) = some (.type "function")) ∧ ((excB K (He.ga K "InvalidText") = true) ∧ ((PySem.W.nsIn K mainGlobals "ScaleError" = some (some (.ref (He.ga K "ScaleError")))) ∧ ((PySem.W.nsIn K mainGlobals "Missing" = some (some (.ref (He.ga K "Missing")))) ∧ ((PySem.W.nsIn K mainGlobals "NothingLeft" = some (some (.ref (He.ga K "NothingLeft")))) ∧ ((PySem.W.exmAny K (.ref (He.ga K "InvalidText")) [.ref (He.ga K "ScaleError"), .ref (He.ga K "Missing"), .ref (He.ga K "NothingLeft")] = some true) ∧ ((PySem.W.readsIn K (He.ga K "ScaleError") (.type "type") = true) ∧ ((PySem.W.specialIn K (.ref (He.ga K "ScaleError")) "__getattribute__" = some (some (.builtin "type.__getattribute__"))) ∧ ((PySem.W.findCls K (.ref (He.ga K "ScaleError")) (.type "type") "__init__" = some (.val (.builtin "ValueError.__init__"))) ∧ (True))))))))))))))))))))))) := by
  have y := c.more
  unfold hdE at y
  replace y := (hd_b y).2
  replace y := (hd_b y).2
  replace y := (hd_b y).1
  unfold hdE2 at y
  obtain ⟨w0, y⟩ := hd_d y
  obtain ⟨w1, y⟩ := hd_d y
  obtain ⟨w2, y⟩ := hd_d y
  obtain ⟨w3, y⟩ := hd_d y
  obtain ⟨w4, y⟩ := hd_d y
  obtain ⟨w5, y⟩ := hd_d y
  obtain ⟨w6, y⟩ := hd_d y
  obtain ⟨w7, y⟩ := hd_d y
  obtain ⟨w8, y⟩ := hd_d y
  obtain ⟨w9, y⟩ := hd_b y
  obtain ⟨w10, y⟩ := hd_d y
  obtain ⟨w11, y⟩ := hd_d y
  obtain ⟨w12, y⟩ := hd_d y
  obtain ⟨w13, y⟩ := hd_d y
  obtain ⟨w14, y⟩ := hd_d y
  obtain ⟨w15, y⟩ := hd_d y
  obtain ⟨w16, y⟩ := hd_d y
  obtain ⟨w17, y⟩ := hd_d y
  obtain ⟨w18, y⟩ := hd_d y
  obtain ⟨w19, y⟩ := hd_d y
  obtain ⟨w20, y⟩ := hd_d y
  obtain ⟨w21, y⟩ := hd_d y
  obtain ⟨w22, y⟩ := hd_b y
  exact ⟨w0, w1, w2, w3, w4, w5, w6, w7, w8, w9, w10, w11, w12, w13, w14, w15, w16, w17, w18, w19, w20, w21, (fclB_ok w22), trivial⟩
theorem Tx.C0a (T : Tx K mg) : (PySem.W.nsIn K mainGlobals "LETTERS" = some (some (gvK K "LETTERS"))) := (hdc0 T.c).1
theorem Tx.C0r (T : Tx K mg) : RelV (.str "abcdefghijklmnopqrstuvwxyz") (gvK K "LETTERS") := (hdc0 T.c).2.1
noncomputable def Tx.v_LETTERS (T : Tx K mg) : V := (.str "abcdefghijklmnopqrstuvwxyz")
noncomputable def Tx.u_LETTERS (T : Tx K mg) : Value := (gvK K "LETTERS")
theorem Tx.c_LETTERS (T : Tx K mg) : mg "LETTERS" = some T.u_LETTERS := PySem.W.mg_of T.X T.G T.C0a
theorem Tx.r_LETTERS (T : Tx K mg) : RelV T.v_LETTERS T.u_LETTERS := T.C0r
theorem Tx.w_LETTERS (T : Tx K mg) : Flat K (.str "abcdefghijklmnopqrstuvwxyz") T.v_LETTERS := (fun _ _ => rep_str)
theorem Tx.C1a (T : Tx K mg) : (PySem.W.nsIn K mainGlobals "MOST_LETTERS" = some (some (gvK K "MOST_LETTERS"))) := (hdc0 T.c).2.2.1
theorem Tx.C1r (T : Tx K mg) : RelV (.int 8) (gvK K "MOST_LETTERS") := (hdc0 T.c).2.2.2.1
noncomputable def Tx.v_MOST_LETTERS (T : Tx K mg) : V := (.int 8)
noncomputable def Tx.u_MOST_LETTERS (T : Tx K mg) : Value := (gvK K "MOST_LETTERS")
theorem Tx.c_MOST_LETTERS (T : Tx K mg) : mg "MOST_LETTERS" = some T.u_MOST_LETTERS := PySem.W.mg_of T.X T.G T.C1a
theorem Tx.r_MOST_LETTERS (T : Tx K mg) : RelV T.v_MOST_LETTERS T.u_MOST_LETTERS := T.C1r
theorem Tx.w_MOST_LETTERS (T : Tx K mg) : Flat K (.int 8) T.v_MOST_LETTERS := (fun _ _ => rep_int)
theorem Tx.C2a (T : Tx K mg) : (PySem.W.nsIn K mainGlobals "ZERO" = some (some (gvK K "ZERO"))) := (hdc0 T.c).2.2.2.2.1
theorem Tx.C2e (T : Tx K mg) : ((gvK K "ZERO") = Value.ref (rfV (gvK K "ZERO"))) := (hdc0 T.c).2.2.2.2.2.1
theorem Tx.zt_C2 (T : Tx K mg) : (tupC K (rfV (gvK K "ZERO")) [(.int 0), (.int 1)] = true) := (hdc0 T.c).2.2.2.2.2.2.1
noncomputable def Tx.v_ZERO (T : Tx K mg) : V := (.ref (rfV (gvK K "ZERO")))
noncomputable def Tx.u_ZERO (T : Tx K mg) : Value := (gvK K "ZERO")
theorem Tx.c_ZERO (T : Tx K mg) : mg "ZERO" = some T.u_ZERO := PySem.W.mg_of T.X T.G T.C2a
theorem Tx.r_ZERO (T : Tx K mg) : RelV T.v_ZERO T.u_ZERO := T.C2e
theorem Tx.w_ZERO (T : Tx K mg) : Flat K (.tup [(.int 0), (.int 1)]) T.v_ZERO := (flat_tupC T.zt_C2 (by decide) (fun _ _ => (reps_cons rep_int (reps_cons rep_int reps_nil))))
theorem Tx.C3a (T : Tx K mg) : (PySem.W.nsIn K mainGlobals "ONE" = some (some (gvK K "ONE"))) := (hdc0 T.c).2.2.2.2.2.2.2.1
theorem Tx.C3e (T : Tx K mg) : ((gvK K "ONE") = Value.ref (rfV (gvK K "ONE"))) := (hdc0 T.c).2.2.2.2.2.2.2.2.1
theorem Tx.zt_C3 (T : Tx K mg) : (tupC K (rfV (gvK K "ONE")) [(.int 1), (.int 1)] = true) := (hdc0 T.c).2.2.2.2.2.2.2.2.2.1
noncomputable def Tx.v_ONE (T : Tx K mg) : V := (.ref (rfV (gvK K "ONE")))
noncomputable def Tx.u_ONE (T : Tx K mg) : Value := (gvK K "ONE")
theorem Tx.c_ONE (T : Tx K mg) : mg "ONE" = some T.u_ONE := PySem.W.mg_of T.X T.G T.C3a
theorem Tx.r_ONE (T : Tx K mg) : RelV T.v_ONE T.u_ONE := T.C3e
theorem Tx.w_ONE (T : Tx K mg) : Flat K (.tup [(.int 1), (.int 1)]) T.v_ONE := (flat_tupC T.zt_C3 (by decide) (fun _ _ => (reps_cons rep_int (reps_cons rep_int reps_nil))))
theorem Tx.C4a (T : Tx K mg) : (PySem.W.nsIn K mainGlobals "DIGITS" = some (some (gvK K "DIGITS"))) := (hdc0 T.c).2.2.2.2.2.2.2.2.2.2.1
theorem Tx.C4r (T : Tx K mg) : RelV (.str "0123456789") (gvK K "DIGITS") := (hdc0 T.c).2.2.2.2.2.2.2.2.2.2.2.1
noncomputable def Tx.v_DIGITS (T : Tx K mg) : V := (.str "0123456789")
noncomputable def Tx.u_DIGITS (T : Tx K mg) : Value := (gvK K "DIGITS")
theorem Tx.c_DIGITS (T : Tx K mg) : mg "DIGITS" = some T.u_DIGITS := PySem.W.mg_of T.X T.G T.C4a
theorem Tx.r_DIGITS (T : Tx K mg) : RelV T.v_DIGITS T.u_DIGITS := T.C4r
theorem Tx.w_DIGITS (T : Tx K mg) : Flat K (.str "0123456789") T.v_DIGITS := (fun _ _ => rep_str)
theorem Tx.C5a (T : Tx K mg) : (PySem.W.nsIn K mainGlobals "MOST_DIGITS" = some (some (gvK K "MOST_DIGITS"))) := (hdc0 T.c).2.2.2.2.2.2.2.2.2.2.2.2.1
theorem Tx.C5r (T : Tx K mg) : RelV (.int 30) (gvK K "MOST_DIGITS") := (hdc0 T.c).2.2.2.2.2.2.2.2.2.2.2.2.2.1
noncomputable def Tx.v_MOST_DIGITS (T : Tx K mg) : V := (.int 30)
noncomputable def Tx.u_MOST_DIGITS (T : Tx K mg) : Value := (gvK K "MOST_DIGITS")
theorem Tx.c_MOST_DIGITS (T : Tx K mg) : mg "MOST_DIGITS" = some T.u_MOST_DIGITS := PySem.W.mg_of T.X T.G T.C5a
theorem Tx.r_MOST_DIGITS (T : Tx K mg) : RelV T.v_MOST_DIGITS T.u_MOST_DIGITS := T.C5r
theorem Tx.w_MOST_DIGITS (T : Tx K mg) : Flat K (.int 30) T.v_MOST_DIGITS := (fun _ _ => rep_int)
theorem Tx.C6a (T : Tx K mg) : (PySem.W.nsIn K mainGlobals "NO_TEXT" = some (some (gvK K "NO_TEXT"))) := (hdc0 T.c).2.2.2.2.2.2.2.2.2.2.2.2.2.2.1
theorem Tx.C6r (T : Tx K mg) : RelV (.int 10000000000000000000000000000000000000000000000000000000000000000000000000000000000000000000000000000000000000000000000000000000000000000000000000000000000000000000000000000000000000000000000000000000000000000000000000000000000000000000000000000000000000000000000000000000000000000000000000000000000000000000000000000000000000000000000000000000000000000000000000000000000000000000000000000000000000000000000000000000000000000000000000000000000000000000000000000000000000000000000000000000000000000000000000000000000000000000000000000000000000000000000000000000000000000000000000000000000000000000000000000000000000000000000000000000000000000000000000000000000000000000000000000000000000000000000000000000000000000000000000000000000000000000000000000000000000000000000000000000000000000000000000000000000000000000000000000000000000000000000000000000000000000000000000000000000000000000000000000000000000000000000000000000000000000000000000000000000000000000000000000000000000000000000000000000000000000) (gvK K "NO_TEXT") := (hdc0 T.c).2.2.2.2.2.2.2.2.2.2.2.2.2.2.2.1
noncomputable def Tx.v_NO_TEXT (T : Tx K mg) : V := (.int 10000000000000000000000000000000000000000000000000000000000000000000000000000000000000000000000000000000000000000000000000000000000000000000000000000000000000000000000000000000000000000000000000000000000000000000000000000000000000000000000000000000000000000000000000000000000000000000000000000000000000000000000000000000000000000000000000000000000000000000000000000000000000000000000000000000000000000000000000000000000000000000000000000000000000000000000000000000000000000000000000000000000000000000000000000000000000000000000000000000000000000000000000000000000000000000000000000000000000000000000000000000000000000000000000000000000000000000000000000000000000000000000000000000000000000000000000000000000000000000000000000000000000000000000000000000000000000000000000000000000000000000000000000000000000000000000000000000000000000000000000000000000000000000000000000000000000000000000000000000000000000000000000000000000000000000000000000000000000000000000000000000000000000000000000000000000000000)
noncomputable def Tx.u_NO_TEXT (T : Tx K mg) : Value := (gvK K "NO_TEXT")
theorem Tx.c_NO_TEXT (T : Tx K mg) : mg "NO_TEXT" = some T.u_NO_TEXT := PySem.W.mg_of T.X T.G T.C6a
theorem Tx.r_NO_TEXT (T : Tx K mg) : RelV T.v_NO_TEXT T.u_NO_TEXT := T.C6r
theorem Tx.w_NO_TEXT (T : Tx K mg) : Flat K (.int 10000000000000000000000000000000000000000000000000000000000000000000000000000000000000000000000000000000000000000000000000000000000000000000000000000000000000000000000000000000000000000000000000000000000000000000000000000000000000000000000000000000000000000000000000000000000000000000000000000000000000000000000000000000000000000000000000000000000000000000000000000000000000000000000000000000000000000000000000000000000000000000000000000000000000000000000000000000000000000000000000000000000000000000000000000000000000000000000000000000000000000000000000000000000000000000000000000000000000000000000000000000000000000000000000000000000000000000000000000000000000000000000000000000000000000000000000000000000000000000000000000000000000000000000000000000000000000000000000000000000000000000000000000000000000000000000000000000000000000000000000000000000000000000000000000000000000000000000000000000000000000000000000000000000000000000000000000000000000000000000000000000000000000000000000000000000000000) T.v_NO_TEXT := (fun _ _ => rep_int)
theorem Tx.a0 (T : Tx K mg) : (PySem.W.nsIn K mainGlobals "is_integer" = some (some (.ref (He.ga K "is_integer")))) := (hdc0 T.c).2.2.2.2.2.2.2.2.2.2.2.2.2.2.2.2.1
noncomputable def Tx.f_is_integer (T : Tx K mg) : Addr := (He.ga K "is_integer")
noncomputable def Tx.fd_is_integer (T : Tx K mg) : FuncData := (T.c.d.def_ 0 (d := hdd_is_integer) rfl).choose
theorem Tx.F_is_integer (T : Tx K mg) : Fun K "is_integer" "is_integer" s_is_integer T.f_is_integer T.fd_is_integer := fun_of_D (T.c.d.def_ 0 (d := hdd_is_integer) rfl).choose_spec
theorem Tx.B_is_integer (T : Tx K mg) : Binds K T.fd_is_integer ["value"] [] := T.F_is_integer.binds (ps := ["value"]) fun _ _ _ _ _ _ us hl => match us, hl with | [_], _ => rfl
theorem Tx.g_is_integer (T : Tx K mg) : mg "is_integer" = some (.ref T.f_is_integer) := PySem.W.mg_of T.X T.G T.a0
theorem Tx.a1 (T : Tx K mg) : (PySem.W.nsIn K mainGlobals "is_name" = some (some (.ref (He.ga K "is_name")))) := (hdc0 T.c).2.2.2.2.2.2.2.2.2.2.2.2.2.2.2.2.2.1
noncomputable def Tx.f_is_name (T : Tx K mg) : Addr := (He.ga K "is_name")
noncomputable def Tx.fd_is_name (T : Tx K mg) : FuncData := (T.c.d.def_ 1 (d := hdd_is_name) rfl).choose
theorem Tx.F_is_name (T : Tx K mg) : Fun K "is_name" "is_name" s_is_name T.f_is_name T.fd_is_name := fun_of_D (T.c.d.def_ 1 (d := hdd_is_name) rfl).choose_spec
theorem Tx.B_is_name (T : Tx K mg) : Binds K T.fd_is_name ["value"] [] := T.F_is_name.binds (ps := ["value"]) fun _ _ _ _ _ _ us hl => match us, hl with | [_], _ => rfl
theorem Tx.g_is_name (T : Tx K mg) : mg "is_name" = some (.ref T.f_is_name) := PySem.W.mg_of T.X T.G T.a1
theorem Tx.a2 (T : Tx K mg) : (PySem.W.nsIn K mainGlobals "common_divisor" = some (some (.ref (He.ga K "common_divisor")))) := (hdc0 T.c).2.2.2.2.2.2.2.2.2.2.2.2.2.2.2.2.2.2.1
noncomputable def Tx.f_common_divisor (T : Tx K mg) : Addr := (He.ga K "common_divisor")
noncomputable def Tx.fd_common_divisor (T : Tx K mg) : FuncData := (T.c.d.def_ 2 (d := hdd_common_divisor) rfl).choose
theorem Tx.F_common_divisor (T : Tx K mg) : Fun K "common_divisor" "common_divisor" s_common_divisor T.f_common_divisor T.fd_common_divisor := fun_of_D (T.c.d.def_ 2 (d := hdd_common_divisor) rfl).choose_spec
theorem Tx.B_common_divisor (T : Tx K mg) : Binds K T.fd_common_divisor ["one", "other"] [] := T.F_common_divisor.binds (ps := ["one", "other"]) fun _ _ _ _ _ _ us hl => match us, hl with | [_, _], _ => rfl
theorem Tx.g_common_divisor (T : Tx K mg) : mg "common_divisor" = some (.ref T.f_common_divisor) := PySem.W.mg_of T.X T.G T.a2
theorem Tx.a3 (T : Tx K mg) : (PySem.W.nsIn K mainGlobals "amount" = some (some (.ref (He.ga K "amount")))) := (hdc0 T.c).2.2.2.2.2.2.2.2.2.2.2.2.2.2.2.2.2.2.2.1
noncomputable def Tx.f_amount (T : Tx K mg) : Addr := (He.ga K "amount")
noncomputable def Tx.fd_amount (T : Tx K mg) : FuncData := (T.c.d.def_ 3 (d := hdd_amount) rfl).choose
noncomputable def Tx.dv0_amount (T : Tx K mg) : V := (.int 1)
theorem Tx.dw0_amount (T : Tx K mg) : Flat K (.int 1) T.dv0_amount := (fun _ _ => rep_int)
theorem Tx.F_amount (T : Tx K mg) : FunD K "amount" "amount" (defArgs s_amount) (defBody s_amount) (defScope s_amount) [T.dv0_amount] [] T.f_amount T.fd_amount := (T.c.d.def_ 3 (d := hdd_amount) rfl).choose_spec
theorem Tx.g_amount (T : Tx K mg) : mg "amount" = some (.ref T.f_amount) := PySem.W.mg_of T.X T.G T.a3
theorem Tx.a4 (T : Tx K mg) : (PySem.W.nsIn K mainGlobals "is_amount" = some (some (.ref (He.ga K "is_amount")))) := (hdc0 T.c).2.2.2.2.2.2.2.2.2.2.2.2.2.2.2.2.2.2.2.2.1
noncomputable def Tx.f_is_amount (T : Tx K mg) : Addr := (He.ga K "is_amount")
noncomputable def Tx.fd_is_amount (T : Tx K mg) : FuncData := (T.c.d.def_ 4 (d := hdd_is_amount) rfl).choose
theorem Tx.F_is_amount (T : Tx K mg) : Fun K "is_amount" "is_amount" s_is_amount T.f_is_amount T.fd_is_amount := fun_of_D (T.c.d.def_ 4 (d := hdd_is_amount) rfl).choose_spec
theorem Tx.B_is_amount (T : Tx K mg) : Binds K T.fd_is_amount ["value"] [] := T.F_is_amount.binds (ps := ["value"]) fun _ _ _ _ _ _ us hl => match us, hl with | [_], _ => rfl
theorem Tx.g_is_amount (T : Tx K mg) : mg "is_amount" = some (.ref T.f_is_amount) := PySem.W.mg_of T.X T.G T.a4
theorem Tx.a5 (T : Tx K mg) : (PySem.W.nsIn K mainGlobals "plus" = some (some (.ref (He.ga K "plus")))) := (hdc0 T.c).2.2.2.2.2.2.2.2.2.2.2.2.2.2.2.2.2.2.2.2.2.1
noncomputable def Tx.f_plus (T : Tx K mg) : Addr := (He.ga K "plus")
noncomputable def Tx.fd_plus (T : Tx K mg) : FuncData := (T.c.d.def_ 5 (d := hdd_plus) rfl).choose
theorem Tx.F_plus (T : Tx K mg) : Fun K "plus" "plus" s_plus T.f_plus T.fd_plus := fun_of_D (T.c.d.def_ 5 (d := hdd_plus) rfl).choose_spec
theorem Tx.B_plus (T : Tx K mg) : Binds K T.fd_plus ["one", "other"] [] := T.F_plus.binds (ps := ["one", "other"]) fun _ _ _ _ _ _ us hl => match us, hl with | [_, _], _ => rfl
theorem Tx.g_plus (T : Tx K mg) : mg "plus" = some (.ref T.f_plus) := PySem.W.mg_of T.X T.G T.a5
theorem Tx.a6 (T : Tx K mg) : (PySem.W.nsIn K mainGlobals "minus" = some (some (.ref (He.ga K "minus")))) := (hdc0 T.c).2.2.2.2.2.2.2.2.2.2.2.2.2.2.2.2.2.2.2.2.2.2.1
noncomputable def Tx.f_minus (T : Tx K mg) : Addr := (He.ga K "minus")
noncomputable def Tx.fd_minus (T : Tx K mg) : FuncData := (T.c.d.def_ 6 (d := hdd_minus) rfl).choose
theorem Tx.F_minus (T : Tx K mg) : Fun K "minus" "minus" s_minus T.f_minus T.fd_minus := fun_of_D (T.c.d.def_ 6 (d := hdd_minus) rfl).choose_spec
theorem Tx.B_minus (T : Tx K mg) : Binds K T.fd_minus ["one", "other"] [] := T.F_minus.binds (ps := ["one", "other"]) fun _ _ _ _ _ _ us hl => match us, hl with | [_, _], _ => rfl
theorem Tx.g_minus (T : Tx K mg) : mg "minus" = some (.ref T.f_minus) := PySem.W.mg_of T.X T.G T.a6
theorem Tx.a7 (T : Tx K mg) : (PySem.W.nsIn K mainGlobals "opposite" = some (some (.ref (He.ga K "opposite")))) := (hdc0 T.c).2.2.2.2.2.2.2.2.2.2.2.2.2.2.2.2.2.2.2.2.2.2.2.1
noncomputable def Tx.f_opposite (T : Tx K mg) : Addr := (He.ga K "opposite")
noncomputable def Tx.fd_opposite (T : Tx K mg) : FuncData := (T.c.d.def_ 7 (d := hdd_opposite) rfl).choose
theorem Tx.F_opposite (T : Tx K mg) : Fun K "opposite" "opposite" s_opposite T.f_opposite T.fd_opposite := fun_of_D (T.c.d.def_ 7 (d := hdd_opposite) rfl).choose_spec
theorem Tx.B_opposite (T : Tx K mg) : Binds K T.fd_opposite ["one"] [] := T.F_opposite.binds (ps := ["one"]) fun _ _ _ _ _ _ us hl => match us, hl with | [_], _ => rfl
theorem Tx.g_opposite (T : Tx K mg) : mg "opposite" = some (.ref T.f_opposite) := PySem.W.mg_of T.X T.G T.a7
theorem Tx.a8 (T : Tx K mg) : (PySem.W.nsIn K mainGlobals "sign" = some (some (.ref (He.ga K "sign")))) := (hdc0 T.c).2.2.2.2.2.2.2.2.2.2.2.2.2.2.2.2.2.2.2.2.2.2.2.2.1
noncomputable def Tx.f_sign (T : Tx K mg) : Addr := (He.ga K "sign")
noncomputable def Tx.fd_sign (T : Tx K mg) : FuncData := (T.c.d.def_ 8 (d := hdd_sign) rfl).choose
theorem Tx.F_sign (T : Tx K mg) : Fun K "sign" "sign" s_sign T.f_sign T.fd_sign := fun_of_D (T.c.d.def_ 8 (d := hdd_sign) rfl).choose_spec
theorem Tx.B_sign (T : Tx K mg) : Binds K T.fd_sign ["one"] [] := T.F_sign.binds (ps := ["one"]) fun _ _ _ _ _ _ us hl => match us, hl with | [_], _ => rfl
theorem Tx.g_sign (T : Tx K mg) : mg "sign" = some (.ref T.f_sign) := PySem.W.mg_of T.X T.G T.a8
theorem Tx.a9 (T : Tx K mg) : (PySem.W.nsIn K mainGlobals "amount_text" = some (some (.ref (He.ga K "amount_text")))) := (hdc0 T.c).2.2.2.2.2.2.2.2.2.2.2.2.2.2.2.2.2.2.2.2.2.2.2.2.2.1
noncomputable def Tx.f_amount_text (T : Tx K mg) : Addr := (He.ga K "amount_text")
noncomputable def Tx.fd_amount_text (T : Tx K mg) : FuncData := (T.c.d.def_ 9 (d := hdd_amount_text) rfl).choose
theorem Tx.F_amount_text (T : Tx K mg) : Fun K "amount_text" "amount_text" s_amount_text T.f_amount_text T.fd_amount_text := fun_of_D (T.c.d.def_ 9 (d := hdd_amount_text) rfl).choose_spec
theorem Tx.B_amount_text (T : Tx K mg) : Binds K T.fd_amount_text ["one"] [] := T.F_amount_text.binds (ps := ["one"]) fun _ _ _ _ _ _ us hl => match us, hl with | [_], _ => rfl
theorem Tx.g_amount_text (T : Tx K mg) : mg "amount_text" = some (.ref T.f_amount_text) := PySem.W.mg_of T.X T.G T.a9
theorem Tx.a10 (T : Tx K mg) : (PySem.W.nsIn K mainGlobals "integer_in" = some (some (.ref (He.ga K "integer_in")))) := (hdc0 T.c).2.2.2.2.2.2.2.2.2.2.2.2.2.2.2.2.2.2.2.2.2.2.2.2.2.2.1
noncomputable def Tx.f_integer_in (T : Tx K mg) : Addr := (He.ga K "integer_in")
noncomputable def Tx.fd_integer_in (T : Tx K mg) : FuncData := (T.c.d.def_ 10 (d := hdd_integer_in) rfl).choose
theorem Tx.F_integer_in (T : Tx K mg) : Fun K "integer_in" "integer_in" s_integer_in T.f_integer_in T.fd_integer_in := fun_of_D (T.c.d.def_ 10 (d := hdd_integer_in) rfl).choose_spec
theorem Tx.B_integer_in (T : Tx K mg) : Binds K T.fd_integer_in ["text"] [] := T.F_integer_in.binds (ps := ["text"]) fun _ _ _ _ _ _ us hl => match us, hl with | [_], _ => rfl
theorem Tx.g_integer_in (T : Tx K mg) : mg "integer_in" = some (.ref T.f_integer_in) := PySem.W.mg_of T.X T.G T.a10
theorem Tx.a11 (T : Tx K mg) : (PySem.W.nsIn K mainGlobals "amount_in" = some (some (.ref (He.ga K "amount_in")))) := (hdc0 T.c).2.2.2.2.2.2.2.2.2.2.2.2.2.2.2.2.2.2.2.2.2.2.2.2.2.2.2.1
noncomputable def Tx.f_amount_in (T : Tx K mg) : Addr := (He.ga K "amount_in")
noncomputable def Tx.fd_amount_in (T : Tx K mg) : FuncData := (T.c.d.def_ 11 (d := hdd_amount_in) rfl).choose
theorem Tx.F_amount_in (T : Tx K mg) : Fun K "amount_in" "amount_in" s_amount_in T.f_amount_in T.fd_amount_in := fun_of_D (T.c.d.def_ 11 (d := hdd_amount_in) rfl).choose_spec
theorem Tx.B_amount_in (T : Tx K mg) : Binds K T.fd_amount_in ["text"] [] := T.F_amount_in.binds (ps := ["text"]) fun _ _ _ _ _ _ us hl => match us, hl with | [_], _ => rfl
theorem Tx.g_amount_in (T : Tx K mg) : mg "amount_in" = some (.ref T.f_amount_in) := PySem.W.mg_of T.X T.G T.a11
theorem Tx.a12 (T : Tx K mg) : (PySem.W.nsIn K mainGlobals "is_term" = some (some (.ref (He.ga K "is_term")))) := (hdc0 T.c).2.2.2.2.2.2.2.2.2.2.2.2.2.2.2.2.2.2.2.2.2.2.2.2.2.2.2.2.1
noncomputable def Tx.f_is_term (T : Tx K mg) : Addr := (He.ga K "is_term")
noncomputable def Tx.fd_is_term (T : Tx K mg) : FuncData := (T.c.d.def_ 12 (d := hdd_is_term) rfl).choose
theorem Tx.F_is_term (T : Tx K mg) : Fun K "is_term" "is_term" s_is_term T.f_is_term T.fd_is_term := fun_of_D (T.c.d.def_ 12 (d := hdd_is_term) rfl).choose_spec
theorem Tx.B_is_term (T : Tx K mg) : Binds K T.fd_is_term ["value"] [] := T.F_is_term.binds (ps := ["value"]) fun _ _ _ _ _ _ us hl => match us, hl with | [_], _ => rfl
theorem Tx.g_is_term (T : Tx K mg) : mg "is_term" = some (.ref T.f_is_term) := PySem.W.mg_of T.X T.G T.a12
theorem Tx.a13 (T : Tx K mg) : (PySem.W.nsIn K mainGlobals "is_form" = some (some (.ref (He.ga K "is_form")))) := (hdc0 T.c).2.2.2.2.2.2.2.2.2.2.2.2.2.2.2.2.2.2.2.2.2.2.2.2.2.2.2.2.2.1
noncomputable def Tx.f_is_form (T : Tx K mg) : Addr := (He.ga K "is_form")
noncomputable def Tx.fd_is_form (T : Tx K mg) : FuncData := (T.c.d.def_ 13 (d := hdd_is_form) rfl).choose
theorem Tx.F_is_form (T : Tx K mg) : Fun K "is_form" "is_form" s_is_form T.f_is_form T.fd_is_form := fun_of_D (T.c.d.def_ 13 (d := hdd_is_form) rfl).choose_spec
theorem Tx.B_is_form (T : Tx K mg) : Binds K T.fd_is_form ["value"] [] := T.F_is_form.binds (ps := ["value"]) fun _ _ _ _ _ _ us hl => match us, hl with | [_], _ => rfl
theorem Tx.g_is_form (T : Tx K mg) : mg "is_form" = some (.ref T.f_is_form) := PySem.W.mg_of T.X T.G T.a13
theorem Tx.a14 (T : Tx K mg) : (PySem.W.nsIn K mainGlobals "form_of" = some (some (.ref (He.ga K "form_of")))) := (hdc1 T.c).1
noncomputable def Tx.f_form_of (T : Tx K mg) : Addr := (He.ga K "form_of")
noncomputable def Tx.fd_form_of (T : Tx K mg) : FuncData := (T.c.d.def_ 14 (d := hdd_form_of) rfl).choose
theorem Tx.zt_d_form_of_0 (T : Tx K mg) : (tupC K (rfV (dfK K (He.ga K "form_of") 0)) [(.int 0), (.int 1)] = true) := (hdc1 T.c).2.1
noncomputable def Tx.dv0_form_of (T : Tx K mg) : V := (.ref (rfV (dfK K (He.ga K "form_of") 0)))
theorem Tx.dw0_form_of (T : Tx K mg) : Flat K (.tup [(.int 0), (.int 1)]) T.dv0_form_of := (flat_tupC T.zt_d_form_of_0 (by decide) (fun _ _ => (reps_cons rep_int (reps_cons rep_int reps_nil))))
theorem Tx.F_form_of (T : Tx K mg) : FunD K "form_of" "form_of" (defArgs s_form_of) (defBody s_form_of) (defScope s_form_of) [T.dv0_form_of] [] T.f_form_of T.fd_form_of := (T.c.d.def_ 14 (d := hdd_form_of) rfl).choose_spec
theorem Tx.g_form_of (T : Tx K mg) : mg "form_of" = some (.ref T.f_form_of) := PySem.W.mg_of T.X T.G T.a14
theorem Tx.a15 (T : Tx K mg) : (PySem.W.nsIn K mainGlobals "part_text" = some (some (.ref (He.ga K "part_text")))) := (hdc1 T.c).2.2.1
noncomputable def Tx.f_part_text (T : Tx K mg) : Addr := (He.ga K "part_text")
noncomputable def Tx.fd_part_text (T : Tx K mg) : FuncData := (T.c.d.def_ 15 (d := hdd_part_text) rfl).choose
theorem Tx.F_part_text (T : Tx K mg) : Fun K "part_text" "part_text" s_part_text T.f_part_text T.fd_part_text := fun_of_D (T.c.d.def_ 15 (d := hdd_part_text) rfl).choose_spec
theorem Tx.B_part_text (T : Tx K mg) : Binds K T.fd_part_text ["name", "factor"] [] := T.F_part_text.binds (ps := ["name", "factor"]) fun _ _ _ _ _ _ us hl => match us, hl with | [_, _], _ => rfl
theorem Tx.g_part_text (T : Tx K mg) : mg "part_text" = some (.ref T.f_part_text) := PySem.W.mg_of T.X T.G T.a15
theorem Tx.a16 (T : Tx K mg) : (PySem.W.nsIn K mainGlobals "form_text" = some (some (.ref (He.ga K "form_text")))) := (hdc1 T.c).2.2.2.1
noncomputable def Tx.f_form_text (T : Tx K mg) : Addr := (He.ga K "form_text")
noncomputable def Tx.fd_form_text (T : Tx K mg) : FuncData := (T.c.d.def_ 16 (d := hdd_form_text) rfl).choose
theorem Tx.F_form_text (T : Tx K mg) : Fun K "form_text" "form_text" s_form_text T.f_form_text T.fd_form_text := fun_of_D (T.c.d.def_ 16 (d := hdd_form_text) rfl).choose_spec
theorem Tx.B_form_text (T : Tx K mg) : Binds K T.fd_form_text ["form"] [] := T.F_form_text.binds (ps := ["form"]) fun _ _ _ _ _ _ us hl => match us, hl with | [_], _ => rfl
theorem Tx.g_form_text (T : Tx K mg) : mg "form_text" = some (.ref T.f_form_text) := PySem.W.mg_of T.X T.G T.a16
theorem Tx.a17 (T : Tx K mg) : (PySem.W.nsIn K mainGlobals "part_in" = some (some (.ref (He.ga K "part_in")))) := (hdc1 T.c).2.2.2.2.1
noncomputable def Tx.f_part_in (T : Tx K mg) : Addr := (He.ga K "part_in")
noncomputable def Tx.fd_part_in (T : Tx K mg) : FuncData := (T.c.d.def_ 17 (d := hdd_part_in) rfl).choose
theorem Tx.F_part_in (T : Tx K mg) : Fun K "part_in" "part_in" s_part_in T.f_part_in T.fd_part_in := fun_of_D (T.c.d.def_ 17 (d := hdd_part_in) rfl).choose_spec
theorem Tx.B_part_in (T : Tx K mg) : Binds K T.fd_part_in ["text"] [] := T.F_part_in.binds (ps := ["text"]) fun _ _ _ _ _ _ us hl => match us, hl with | [_], _ => rfl
theorem Tx.g_part_in (T : Tx K mg) : mg "part_in" = some (.ref T.f_part_in) := PySem.W.mg_of T.X T.G T.a17
theorem Tx.a18 (T : Tx K mg) : (PySem.W.nsIn K mainGlobals "form_in" = some (some (.ref (He.ga K "form_in")))) := (hdc1 T.c).2.2.2.2.2.1
noncomputable def Tx.f_form_in (T : Tx K mg) : Addr := (He.ga K "form_in")
noncomputable def Tx.fd_form_in (T : Tx K mg) : FuncData := (T.c.d.def_ 18 (d := hdd_form_in) rfl).choose
theorem Tx.F_form_in (T : Tx K mg) : Fun K "form_in" "form_in" s_form_in T.f_form_in T.fd_form_in := fun_of_D (T.c.d.def_ 18 (d := hdd_form_in) rfl).choose_spec
theorem Tx.B_form_in (T : Tx K mg) : Binds K T.fd_form_in ["text"] [] := T.F_form_in.binds (ps := ["text"]) fun _ _ _ _ _ _ us hl => match us, hl with | [_], _ => rfl
theorem Tx.g_form_in (T : Tx K mg) : mg "form_in" = some (.ref T.f_form_in) := PySem.W.mg_of T.X T.G T.a18
theorem Tx.a19 (T : Tx K mg) : (PySem.W.nsIn K mainGlobals "read_form" = some (some (.ref (He.ga K "read_form")))) := (hdc1 T.c).2.2.2.2.2.2.1
noncomputable def Tx.f_read_form (T : Tx K mg) : Addr := (He.ga K "read_form")
noncomputable def Tx.fd_read_form (T : Tx K mg) : FuncData := (T.c.d.def_ 19 (d := hdd_read_form) rfl).choose
theorem Tx.F_read_form (T : Tx K mg) : Fun K "read_form" "read_form" s_read_form T.f_read_form T.fd_read_form := fun_of_D (T.c.d.def_ 19 (d := hdd_read_form) rfl).choose_spec
theorem Tx.B_read_form (T : Tx K mg) : Binds K T.fd_read_form ["text"] [] := T.F_read_form.binds (ps := ["text"]) fun _ _ _ _ _ _ us hl => match us, hl with | [_], _ => rfl
theorem Tx.g_read_form (T : Tx K mg) : mg "read_form" = some (.ref T.f_read_form) := PySem.W.mg_of T.X T.G T.a19
theorem Tx.a20 (T : Tx K mg) : (PySem.W.nsIn K mainGlobals "_law_source" = some (some (.ref (He.ga K "_law_source")))) := (hdc1 T.c).2.2.2.2.2.2.2.1
noncomputable def Tx.f_l_source (T : Tx K mg) : Addr := (He.ga K "_law_source")
noncomputable def Tx.fd_l_source (T : Tx K mg) : FuncData := (T.c.d.def_ 20 (d := hdd_l_source) rfl).choose
theorem Tx.F_l_source (T : Tx K mg) : Fun K "_law_source" "_law_source" s_l_source T.f_l_source T.fd_l_source := fun_of_D (T.c.d.def_ 20 (d := hdd_l_source) rfl).choose_spec
theorem Tx.B_l_source (T : Tx K mg) : Binds K T.fd_l_source ["_law_script"] [] := T.F_l_source.binds (ps := ["_law_script"]) fun _ _ _ _ _ _ us hl => match us, hl with | [_], _ => rfl
theorem Tx.g_l_source (T : Tx K mg) : mg "_law_source" = some (.ref T.f_l_source) := PySem.W.mg_of T.X T.G T.a20
theorem Tx.a21 (T : Tx K mg) : (PySem.W.nsIn K mainGlobals "_law_draw" = some (some (.ref (He.ga K "_law_draw")))) := (hdc1 T.c).2.2.2.2.2.2.2.2.1
noncomputable def Tx.f_l_draw (T : Tx K mg) : Addr := (He.ga K "_law_draw")
noncomputable def Tx.fd_l_draw (T : Tx K mg) : FuncData := (T.c.d.def_ 21 (d := hdd_l_draw) rfl).choose
theorem Tx.F_l_draw (T : Tx K mg) : Fun K "_law_draw" "_law_draw" s_l_draw T.f_l_draw T.fd_l_draw := fun_of_D (T.c.d.def_ 21 (d := hdd_l_draw) rfl).choose_spec
theorem Tx.B_l_draw (T : Tx K mg) : Binds K T.fd_l_draw ["_law_rng", "_law_many"] [] := T.F_l_draw.binds (ps := ["_law_rng", "_law_many"]) fun _ _ _ _ _ _ us hl => match us, hl with | [_, _], _ => rfl
theorem Tx.g_l_draw (T : Tx K mg) : mg "_law_draw" = some (.ref T.f_l_draw) := PySem.W.mg_of T.X T.G T.a21
theorem Tx.a22 (T : Tx K mg) : (PySem.W.nsIn K mainGlobals "_law_choice" = some (some (.ref (He.ga K "_law_choice")))) := (hdc1 T.c).2.2.2.2.2.2.2.2.2.1
noncomputable def Tx.f_l_choice (T : Tx K mg) : Addr := (He.ga K "_law_choice")
noncomputable def Tx.fd_l_choice (T : Tx K mg) : FuncData := (T.c.d.def_ 22 (d := hdd_l_choice) rfl).choose
theorem Tx.F_l_choice (T : Tx K mg) : Fun K "_law_choice" "_law_choice" s_l_choice T.f_l_choice T.fd_l_choice := fun_of_D (T.c.d.def_ 22 (d := hdd_l_choice) rfl).choose_spec
theorem Tx.B_l_choice (T : Tx K mg) : Binds K T.fd_l_choice ["_law_rng", "_law_some"] [] := T.F_l_choice.binds (ps := ["_law_rng", "_law_some"]) fun _ _ _ _ _ _ us hl => match us, hl with | [_, _], _ => rfl
theorem Tx.g_l_choice (T : Tx K mg) : mg "_law_choice" = some (.ref T.f_l_choice) := PySem.W.mg_of T.X T.G T.a22
theorem Tx.a23 (T : Tx K mg) : (PySem.W.nsIn K mainGlobals "_law_same" = some (some (.ref (He.ga K "_law_same")))) := (hdc1 T.c).2.2.2.2.2.2.2.2.2.2.1
noncomputable def Tx.f_l_same (T : Tx K mg) : Addr := (He.ga K "_law_same")
noncomputable def Tx.fd_l_same (T : Tx K mg) : FuncData := (T.c.d.def_ 23 (d := hdd_l_same) rfl).choose
theorem Tx.F_l_same (T : Tx K mg) : Fun K "_law_same" "_law_same" s_l_same T.f_l_same T.fd_l_same := fun_of_D (T.c.d.def_ 23 (d := hdd_l_same) rfl).choose_spec
theorem Tx.B_l_same (T : Tx K mg) : Binds K T.fd_l_same ["_law_result", "_law_expected"] [] := T.F_l_same.binds (ps := ["_law_result", "_law_expected"]) fun _ _ _ _ _ _ us hl => match us, hl with | [_, _], _ => rfl
theorem Tx.g_l_same (T : Tx K mg) : mg "_law_same" = some (.ref T.f_l_same) := PySem.W.mg_of T.X T.G T.a23
theorem Tx.a24 (T : Tx K mg) : (PySem.W.nsIn K mainGlobals "_law_field" = some (some (.ref (He.ga K "_law_field")))) := (hdc1 T.c).2.2.2.2.2.2.2.2.2.2.2.1
noncomputable def Tx.f_l_field (T : Tx K mg) : Addr := (He.ga K "_law_field")
noncomputable def Tx.fd_l_field (T : Tx K mg) : FuncData := (T.c.d.def_ 24 (d := hdd_l_field) rfl).choose
theorem Tx.F_l_field (T : Tx K mg) : Fun K "_law_field" "_law_field" s_l_field T.f_l_field T.fd_l_field := fun_of_D (T.c.d.def_ 24 (d := hdd_l_field) rfl).choose_spec
theorem Tx.B_l_field (T : Tx K mg) : Binds K T.fd_l_field ["_law_e"] [] := T.F_l_field.binds (ps := ["_law_e"]) fun _ _ _ _ _ _ us hl => match us, hl with | [_], _ => rfl
theorem Tx.g_l_field (T : Tx K mg) : mg "_law_field" = some (.ref T.f_l_field) := PySem.W.mg_of T.X T.G T.a24
theorem Tx.a25 (T : Tx K mg) : (PySem.W.nsIn K mainGlobals "_law_try" = some (some (.ref (He.ga K "_law_try")))) := (hdc1 T.c).2.2.2.2.2.2.2.2.2.2.2.2.1
noncomputable def Tx.f_l_try (T : Tx K mg) : Addr := (He.ga K "_law_try")
noncomputable def Tx.fd_l_try (T : Tx K mg) : FuncData := (T.c.d.def_ 25 (d := hdd_l_try) rfl).choose
theorem Tx.F_l_try (T : Tx K mg) : Fun K "_law_try" "_law_try" s_l_try T.f_l_try T.fd_l_try := fun_of_D (T.c.d.def_ 25 (d := hdd_l_try) rfl).choose_spec
theorem Tx.B_l_try (T : Tx K mg) : Binds K T.fd_l_try ["_law_ask"] [] := T.F_l_try.binds (ps := ["_law_ask"]) fun _ _ _ _ _ _ us hl => match us, hl with | [_], _ => rfl
theorem Tx.g_l_try (T : Tx K mg) : mg "_law_try" = some (.ref T.f_l_try) := PySem.W.mg_of T.X T.G T.a25
theorem Tx.a26 (T : Tx K mg) : (PySem.W.nsIn K mainGlobals "_law_divisor" = some (some (.ref (He.ga K "_law_divisor")))) := (hdc1 T.c).2.2.2.2.2.2.2.2.2.2.2.2.2.1
noncomputable def Tx.f_l_divisor (T : Tx K mg) : Addr := (He.ga K "_law_divisor")
noncomputable def Tx.fd_l_divisor (T : Tx K mg) : FuncData := (T.c.d.def_ 26 (d := hdd_l_divisor) rfl).choose
theorem Tx.F_l_divisor (T : Tx K mg) : Fun K "_law_divisor" "_law_divisor" s_l_divisor T.f_l_divisor T.fd_l_divisor := fun_of_D (T.c.d.def_ 26 (d := hdd_l_divisor) rfl).choose_spec
theorem Tx.B_l_divisor (T : Tx K mg) : Binds K T.fd_l_divisor ["_law_one", "_law_other"] [] := T.F_l_divisor.binds (ps := ["_law_one", "_law_other"]) fun _ _ _ _ _ _ us hl => match us, hl with | [_, _], _ => rfl
theorem Tx.g_l_divisor (T : Tx K mg) : mg "_law_divisor" = some (.ref T.f_l_divisor) := PySem.W.mg_of T.X T.G T.a26
theorem Tx.a27 (T : Tx K mg) : (PySem.W.nsIn K mainGlobals "_law_ratio" = some (some (.ref (He.ga K "_law_ratio")))) := (hdc1 T.c).2.2.2.2.2.2.2.2.2.2.2.2.2.2.1
noncomputable def Tx.f_l_ratio (T : Tx K mg) : Addr := (He.ga K "_law_ratio")
noncomputable def Tx.fd_l_ratio (T : Tx K mg) : FuncData := (T.c.d.def_ 27 (d := hdd_l_ratio) rfl).choose
theorem Tx.F_l_ratio (T : Tx K mg) : Fun K "_law_ratio" "_law_ratio" s_l_ratio T.f_l_ratio T.fd_l_ratio := fun_of_D (T.c.d.def_ 27 (d := hdd_l_ratio) rfl).choose_spec
theorem Tx.B_l_ratio (T : Tx K mg) : Binds K T.fd_l_ratio ["_law_top", "_law_bottom"] [] := T.F_l_ratio.binds (ps := ["_law_top", "_law_bottom"]) fun _ _ _ _ _ _ us hl => match us, hl with | [_, _], _ => rfl
theorem Tx.g_l_ratio (T : Tx K mg) : mg "_law_ratio" = some (.ref T.f_l_ratio) := PySem.W.mg_of T.X T.G T.a27
theorem Tx.a28 (T : Tx K mg) : (PySem.W.nsIn K mainGlobals "_law_plus" = some (some (.ref (He.ga K "_law_plus")))) := (hdc1 T.c).2.2.2.2.2.2.2.2.2.2.2.2.2.2.2.1
noncomputable def Tx.f_l_plus (T : Tx K mg) : Addr := (He.ga K "_law_plus")
noncomputable def Tx.fd_l_plus (T : Tx K mg) : FuncData := (T.c.d.def_ 28 (d := hdd_l_plus) rfl).choose
theorem Tx.F_l_plus (T : Tx K mg) : Fun K "_law_plus" "_law_plus" s_l_plus T.f_l_plus T.fd_l_plus := fun_of_D (T.c.d.def_ 28 (d := hdd_l_plus) rfl).choose_spec
theorem Tx.B_l_plus (T : Tx K mg) : Binds K T.fd_l_plus ["_law_one", "_law_other"] [] := T.F_l_plus.binds (ps := ["_law_one", "_law_other"]) fun _ _ _ _ _ _ us hl => match us, hl with | [_, _], _ => rfl
theorem Tx.g_l_plus (T : Tx K mg) : mg "_law_plus" = some (.ref T.f_l_plus) := PySem.W.mg_of T.X T.G T.a28
theorem Tx.a29 (T : Tx K mg) : (PySem.W.nsIn K mainGlobals "_law_amount" = some (some (.ref (He.ga K "_law_amount")))) := (hdc1 T.c).2.2.2.2.2.2.2.2.2.2.2.2.2.2.2.2.1
noncomputable def Tx.f_l_amount (T : Tx K mg) : Addr := (He.ga K "_law_amount")
noncomputable def Tx.fd_l_amount (T : Tx K mg) : FuncData := (T.c.d.def_ 29 (d := hdd_l_amount) rfl).choose
theorem Tx.F_l_amount (T : Tx K mg) : Fun K "_law_amount" "_law_amount" s_l_amount T.f_l_amount T.fd_l_amount := fun_of_D (T.c.d.def_ 29 (d := hdd_l_amount) rfl).choose_spec
theorem Tx.B_l_amount (T : Tx K mg) : Binds K T.fd_l_amount ["_law_rng"] [] := T.F_l_amount.binds (ps := ["_law_rng"]) fun _ _ _ _ _ _ us hl => match us, hl with | [_], _ => rfl
theorem Tx.g_l_amount (T : Tx K mg) : mg "_law_amount" = some (.ref T.f_l_amount) := PySem.W.mg_of T.X T.G T.a29
theorem Tx.a30 (T : Tx K mg) : (PySem.W.nsIn K mainGlobals "_law_factor" = some (some (.ref (He.ga K "_law_factor")))) := (hdc1 T.c).2.2.2.2.2.2.2.2.2.2.2.2.2.2.2.2.2.1
noncomputable def Tx.f_l_factor (T : Tx K mg) : Addr := (He.ga K "_law_factor")
noncomputable def Tx.fd_l_factor (T : Tx K mg) : FuncData := (T.c.d.def_ 30 (d := hdd_l_factor) rfl).choose
theorem Tx.F_l_factor (T : Tx K mg) : Fun K "_law_factor" "_law_factor" s_l_factor T.f_l_factor T.fd_l_factor := fun_of_D (T.c.d.def_ 30 (d := hdd_l_factor) rfl).choose_spec
theorem Tx.B_l_factor (T : Tx K mg) : Binds K T.fd_l_factor ["_law_rng"] [] := T.F_l_factor.binds (ps := ["_law_rng"]) fun _ _ _ _ _ _ us hl => match us, hl with | [_], _ => rfl
theorem Tx.g_l_factor (T : Tx K mg) : mg "_law_factor" = some (.ref T.f_l_factor) := PySem.W.mg_of T.X T.G T.a30
theorem Tx.a31 (T : Tx K mg) : (PySem.W.nsIn K mainGlobals "_law_names" = some (some (.ref (He.ga K "_law_names")))) := (hdc1 T.c).2.2.2.2.2.2.2.2.2.2.2.2.2.2.2.2.2.2.1
noncomputable def Tx.f_l_names (T : Tx K mg) : Addr := (He.ga K "_law_names")
noncomputable def Tx.fd_l_names (T : Tx K mg) : FuncData := (T.c.d.def_ 31 (d := hdd_l_names) rfl).choose
theorem Tx.F_l_names (T : Tx K mg) : Fun K "_law_names" "_law_names" s_l_names T.f_l_names T.fd_l_names := fun_of_D (T.c.d.def_ 31 (d := hdd_l_names) rfl).choose_spec
theorem Tx.B_l_names (T : Tx K mg) : Binds K T.fd_l_names ["_law_rng", "_law_many"] [] := T.F_l_names.binds (ps := ["_law_rng", "_law_many"]) fun _ _ _ _ _ _ us hl => match us, hl with | [_, _], _ => rfl
theorem Tx.g_l_names (T : Tx K mg) : mg "_law_names" = some (.ref T.f_l_names) := PySem.W.mg_of T.X T.G T.a31
theorem Tx.a32 (T : Tx K mg) : (PySem.W.nsIn K mainGlobals "_law_form_of" = some (some (.ref (He.ga K "_law_form_of")))) := (hdc1 T.c).2.2.2.2.2.2.2.2.2.2.2.2.2.2.2.2.2.2.2.1
noncomputable def Tx.f_l_form_of (T : Tx K mg) : Addr := (He.ga K "_law_form_of")
noncomputable def Tx.fd_l_form_of (T : Tx K mg) : FuncData := (T.c.d.def_ 32 (d := hdd_l_form_of) rfl).choose
theorem Tx.F_l_form_of (T : Tx K mg) : Fun K "_law_form_of" "_law_form_of" s_l_form_of T.f_l_form_of T.fd_l_form_of := fun_of_D (T.c.d.def_ 32 (d := hdd_l_form_of) rfl).choose_spec
theorem Tx.B_l_form_of (T : Tx K mg) : Binds K T.fd_l_form_of ["_law_pairs", "_law_rest_z"] [] := T.F_l_form_of.binds (ps := ["_law_pairs", "_law_rest_z"]) fun _ _ _ _ _ _ us hl => match us, hl with | [_, _], _ => rfl
theorem Tx.g_l_form_of (T : Tx K mg) : mg "_law_form_of" = some (.ref T.f_l_form_of) := PySem.W.mg_of T.X T.G T.a32
theorem Tx.a33 (T : Tx K mg) : (PySem.W.nsIn K mainGlobals "_law_amount_text" = some (some (.ref (He.ga K "_law_amount_text")))) := (hdc1 T.c).2.2.2.2.2.2.2.2.2.2.2.2.2.2.2.2.2.2.2.2.1
noncomputable def Tx.f_l_amount_text (T : Tx K mg) : Addr := (He.ga K "_law_amount_text")
noncomputable def Tx.fd_l_amount_text (T : Tx K mg) : FuncData := (T.c.d.def_ 33 (d := hdd_l_amount_text) rfl).choose
theorem Tx.F_l_amount_text (T : Tx K mg) : Fun K "_law_amount_text" "_law_amount_text" s_l_amount_text T.f_l_amount_text T.fd_l_amount_text := fun_of_D (T.c.d.def_ 33 (d := hdd_l_amount_text) rfl).choose_spec
theorem Tx.B_l_amount_text (T : Tx K mg) : Binds K T.fd_l_amount_text ["_law_one"] [] := T.F_l_amount_text.binds (ps := ["_law_one"]) fun _ _ _ _ _ _ us hl => match us, hl with | [_], _ => rfl
theorem Tx.g_l_amount_text (T : Tx K mg) : mg "_law_amount_text" = some (.ref T.f_l_amount_text) := PySem.W.mg_of T.X T.G T.a33
theorem Tx.a34 (T : Tx K mg) : (PySem.W.nsIn K mainGlobals "_law_form_text" = some (some (.ref (He.ga K "_law_form_text")))) := (hdc1 T.c).2.2.2.2.2.2.2.2.2.2.2.2.2.2.2.2.2.2.2.2.2.1
noncomputable def Tx.f_l_form_text (T : Tx K mg) : Addr := (He.ga K "_law_form_text")
noncomputable def Tx.fd_l_form_text (T : Tx K mg) : FuncData := (T.c.d.def_ 34 (d := hdd_l_form_text) rfl).choose
theorem Tx.F_l_form_text (T : Tx K mg) : Fun K "_law_form_text" "_law_form_text" s_l_form_text T.f_l_form_text T.fd_l_form_text := fun_of_D (T.c.d.def_ 34 (d := hdd_l_form_text) rfl).choose_spec
theorem Tx.B_l_form_text (T : Tx K mg) : Binds K T.fd_l_form_text ["_law_form"] [] := T.F_l_form_text.binds (ps := ["_law_form"]) fun _ _ _ _ _ _ us hl => match us, hl with | [_], _ => rfl
theorem Tx.g_l_form_text (T : Tx K mg) : mg "_law_form_text" = some (.ref T.f_l_form_text) := PySem.W.mg_of T.X T.G T.a34
theorem Tx.a35 (T : Tx K mg) : (PySem.W.nsIn K mainGlobals "law" = some (some (.ref (He.ga K "law")))) := (hdc1 T.c).2.2.2.2.2.2.2.2.2.2.2.2.2.2.2.2.2.2.2.2.2.2.1
noncomputable def Tx.f_law (T : Tx K mg) : Addr := (He.ga K "law")
noncomputable def Tx.fd_law (T : Tx K mg) : FuncData := (T.c.d.def_ 35 (d := hdd_law) rfl).choose
theorem Tx.F_law (T : Tx K mg) : Fun K "law" "law" s_law T.f_law T.fd_law := fun_of_D (T.c.d.def_ 35 (d := hdd_law) rfl).choose_spec
theorem Tx.B_law (T : Tx K mg) : Binds K T.fd_law ["_law_script"] [] := T.F_law.binds (ps := ["_law_script"]) fun _ _ _ _ _ _ us hl => match us, hl with | [_], _ => rfl
theorem Tx.g_law (T : Tx K mg) : mg "law" = some (.ref T.f_law) := PySem.W.mg_of T.X T.G T.a35
theorem Tx.n0_abs (T : Tx K mg) : (PySem.W.nsIn K mainGlobals "abs" = some none) := (hdc1 T.c).2.2.2.2.2.2.2.2.2.2.2.2.2.2.2.2.2.2.2.2.2.2.2.1
theorem Tx.n_abs (T : Tx K mg) : mg "abs" = none := PySem.W.mg_none_of T.X T.G T.n0_abs
theorem Tx.n0_all (T : Tx K mg) : (PySem.W.nsIn K mainGlobals "all" = some none) := (hdc1 T.c).2.2.2.2.2.2.2.2.2.2.2.2.2.2.2.2.2.2.2.2.2.2.2.2.1
theorem Tx.n_all (T : Tx K mg) : mg "all" = none := PySem.W.mg_none_of T.X T.G T.n0_all
theorem Tx.n0_bool (T : Tx K mg) : (PySem.W.nsIn K mainGlobals "bool" = some none) := (hdc1 T.c).2.2.2.2.2.2.2.2.2.2.2.2.2.2.2.2.2.2.2.2.2.2.2.2.2.1
theorem Tx.n_bool (T : Tx K mg) : mg "bool" = none := PySem.W.mg_none_of T.X T.G T.n0_bool
theorem Tx.n0_enumerate (T : Tx K mg) : (PySem.W.nsIn K mainGlobals "enumerate" = some none) := (hdc1 T.c).2.2.2.2.2.2.2.2.2.2.2.2.2.2.2.2.2.2.2.2.2.2.2.2.2.2.1
theorem Tx.n_enumerate (T : Tx K mg) : mg "enumerate" = none := PySem.W.mg_none_of T.X T.G T.n0_enumerate
theorem Tx.n0_int (T : Tx K mg) : (PySem.W.nsIn K mainGlobals "int" = some none) := (hdc1 T.c).2.2.2.2.2.2.2.2.2.2.2.2.2.2.2.2.2.2.2.2.2.2.2.2.2.2.2.1
theorem Tx.n_int (T : Tx K mg) : mg "int" = none := PySem.W.mg_none_of T.X T.G T.n0_int
theorem Tx.n0_isinstance (T : Tx K mg) : (PySem.W.nsIn K mainGlobals "isinstance" = some none) := (hdc1 T.c).2.2.2.2.2.2.2.2.2.2.2.2.2.2.2.2.2.2.2.2.2.2.2.2.2.2.2.2.1
theorem Tx.n_isinstance (T : Tx K mg) : mg "isinstance" = none := PySem.W.mg_none_of T.X T.G T.n0_isinstance
theorem Tx.n0_len (T : Tx K mg) : (PySem.W.nsIn K mainGlobals "len" = some none) := (hdc1 T.c).2.2.2.2.2.2.2.2.2.2.2.2.2.2.2.2.2.2.2.2.2.2.2.2.2.2.2.2.2.1
theorem Tx.n_len (T : Tx K mg) : mg "len" = none := PySem.W.mg_none_of T.X T.G T.n0_len
theorem Tx.n0_list (T : Tx K mg) : (PySem.W.nsIn K mainGlobals "list" = some none) := (hdc2 T.c).1
theorem Tx.n_list (T : Tx K mg) : mg "list" = none := PySem.W.mg_none_of T.X T.G T.n0_list
theorem Tx.n0_range (T : Tx K mg) : (PySem.W.nsIn K mainGlobals "range" = some none) := (hdc2 T.c).2.1
theorem Tx.n_range (T : Tx K mg) : mg "range" = none := PySem.W.mg_none_of T.X T.G T.n0_range
theorem Tx.n0_sorted (T : Tx K mg) : (PySem.W.nsIn K mainGlobals "sorted" = some none) := (hdc2 T.c).2.2.1
theorem Tx.n_sorted (T : Tx K mg) : mg "sorted" = none := PySem.W.mg_none_of T.X T.G T.n0_sorted
theorem Tx.n0_str (T : Tx K mg) : (PySem.W.nsIn K mainGlobals "str" = some none) := (hdc2 T.c).2.2.2.1
theorem Tx.n_str (T : Tx K mg) : mg "str" = none := PySem.W.mg_none_of T.X T.G T.n0_str
theorem Tx.n0_tuple (T : Tx K mg) : (PySem.W.nsIn K mainGlobals "tuple" = some none) := (hdc2 T.c).2.2.2.2.1
theorem Tx.n_tuple (T : Tx K mg) : mg "tuple" = none := PySem.W.mg_none_of T.X T.G T.n0_tuple
theorem Tx.n0_zip (T : Tx K mg) : (PySem.W.nsIn K mainGlobals "zip" = some none) := (hdc2 T.c).2.2.2.2.2.1
theorem Tx.n_zip (T : Tx K mg) : mg "zip" = none := PySem.W.mg_none_of T.X T.G T.n0_zip
theorem Tx.hgC_InvalidText (T : Tx K mg) : (PySem.W.nsIn K mainGlobals "InvalidText" = some (some (.ref (He.ga K "InvalidText")))) := (hdc2 T.c).2.2.2.2.2.2.1
noncomputable def Tx.C_InvalidText (T : Tx K mg) : Addr := (He.ga K "InvalidText")
theorem Tx.gC_InvalidText (T : Tx K mg) : mg "InvalidText" = some (.ref T.C_InvalidText) := PySem.W.mg_of T.X T.G T.hgC_InvalidText
theorem Tx.hat_InvalidText___init__ (T : Tx K mg) : (PySem.W.findIn K (.ref (He.ga K "InvalidText")) "__init__" = some (some (.ref (He.ma K (He.ga K "InvalidText") "__init__")))) := (hdc2 T.c).2.2.2.2.2.2.2.1
theorem Tx.hfn_InvalidText___init__ (T : Tx K mg) : (PySem.W.isFn K (.ref (He.ma K (He.ga K "InvalidText") "__init__")) = true) := (hdc2 T.c).2.2.2.2.2.2.2.2.1
noncomputable def Tx.f_InvalidText___init__ (T : Tx K mg) : Addr := (He.ma K (He.ga K "InvalidText") "__init__")
noncomputable def Tx.fd_InvalidText___init__ (T : Tx K mg) : FuncData := (T.c.d.def_ 36 (d := hdd_InvalidText___init__) rfl).choose
theorem Tx.F_InvalidText___init__ (T : Tx K mg) : Fun K "__init__" "InvalidText.__init__" s_InvalidText___init__ T.f_InvalidText___init__ T.fd_InvalidText___init__ := fun_of_D (T.c.d.def_ 36 (d := hdd_InvalidText___init__) rfl).choose_spec
theorem Tx.B_InvalidText___init__ (T : Tx K mg) : Binds K T.fd_InvalidText___init__ ["self", "row"] [] := T.F_InvalidText___init__.binds (ps := ["self", "row"]) fun _ _ _ _ _ _ us hl => match us, hl with | [_, _], _ => rfl
theorem Tx.hkp_InvalidText___init__ (T : Tx K mg) : PySem.W.keepIn K (.ref (He.ma K (He.ga K "InvalidText") "__init__")) = true := T.F_InvalidText___init__.kp
theorem Tx.zx_InvalidText (T : Tx K mg) : (excC K (He.ga K "InvalidText") "ValueError.__new__" (PySem.HandSPX.refsVE) = true) := (hdc2 T.c).2.2.2.2.2.2.2.2.2.1
theorem Tx.hx_InvalidTextv (T : Tx K mg) : (PySem.W.findIn K (.ref (He.ga K "InvalidText")) "__setattr__" = some (some (.builtin "object.__setattr__"))) := (hdc2 T.c).2.2.2.2.2.2.2.2.2.2.1
theorem Tx.hx_InvalidTexte (T : Tx K mg) : (PySem.W.subIn K (.ref (He.ga K "InvalidText")) (.type "BaseException") = some true) := (hdc2 T.c).2.2.2.2.2.2.2.2.2.2.2.1
theorem Tx.hx_InvalidTextt (T : Tx K mg) : (PySem.W.typeIn K (.ref (He.ga K "InvalidText")) = some (.type "type")) := (hdc2 T.c).2.2.2.2.2.2.2.2.2.2.2.2.1
theorem Tx.hx_InvalidTextk (T : Tx K mg) : (PySem.W.keepIn K (.ref (He.ga K "InvalidText")) = true) := (hdc2 T.c).2.2.2.2.2.2.2.2.2.2.2.2.2.1
theorem Tx.hx_InvalidTextf (T : Tx K mg) : (PySem.W.typeIn K (.ref (He.ma K (He.ga K "InvalidText") "__init__")) = some (.type "function")) := (hdc2 T.c).2.2.2.2.2.2.2.2.2.2.2.2.2.2.1
theorem Tx.hx_InvalidTextx (T : Tx K mg) : (excB K (He.ga K "InvalidText") = true) := (hdc2 T.c).2.2.2.2.2.2.2.2.2.2.2.2.2.2.2.1
theorem Tx.ox_InvalidText (T : Tx K mg) : OexC K T.C_InvalidText := (by obtain ⟨hx_InvalidTextn, hx_InvalidTextq, hx_InvalidTextN, hx_InvalidTextb, hx_InvalidTextm, hx_InvalidTexts, hx_InvalidTextu, hx_InvalidTexta, hx_InvalidTextc, hx_InvalidTextd, hx_InvalidText0, hx_InvalidText1, hx_InvalidText2, hx_InvalidText3, hx_InvalidText5, hx_InvalidTextl, hx_InvalidTextr⟩ := excC_ok T.zx_InvalidText; exact ⟨⟨_, _, _, _, _, _, _, _, _, _, _, _, _, _, _, hx_InvalidTextl, hx_InvalidTextr⟩, T.hx_InvalidTextv, T.hx_InvalidTexte, T.hx_InvalidTextt, T.hx_InvalidTextk⟩)
theorem Tx.oi_InvalidText (T : Tx K mg) : PySem.W.findIn K (.ref T.C_InvalidText) "__init__" = some (some (.ref T.f_InvalidText___init__)) := T.hat_InvalidText___init__
theorem Tx.ot_InvalidText (T : Tx K mg) : PySem.W.typeIn K (.ref T.f_InvalidText___init__) = some (.type "function") := T.hx_InvalidTextf
theorem Tx.ex_InvalidText (T : Tx K mg) : ExcK K T.C_InvalidText := excK_of T.hx_InvalidTextx
theorem Tx.hgC_ScaleError (T : Tx K mg) : (PySem.W.nsIn K mainGlobals "ScaleError" = some (some (.ref (He.ga K "ScaleError")))) := (hdc2 T.c).2.2.2.2.2.2.2.2.2.2.2.2.2.2.2.2.1
noncomputable def Tx.C_ScaleError (T : Tx K mg) : Addr := (He.ga K "ScaleError")
theorem Tx.gC_ScaleError (T : Tx K mg) : mg "ScaleError" = some (.ref T.C_ScaleError) := PySem.W.mg_of T.X T.G T.hgC_ScaleError
theorem Tx.hgC_Missing (T : Tx K mg) : (PySem.W.nsIn K mainGlobals "Missing" = some (some (.ref (He.ga K "Missing")))) := (hdc2 T.c).2.2.2.2.2.2.2.2.2.2.2.2.2.2.2.2.2.1
noncomputable def Tx.C_Missing (T : Tx K mg) : Addr := (He.ga K "Missing")
theorem Tx.gC_Missing (T : Tx K mg) : mg "Missing" = some (.ref T.C_Missing) := PySem.W.mg_of T.X T.G T.hgC_Missing
theorem Tx.hgC_NothingLeft (T : Tx K mg) : (PySem.W.nsIn K mainGlobals "NothingLeft" = some (some (.ref (He.ga K "NothingLeft")))) := (hdc2 T.c).2.2.2.2.2.2.2.2.2.2.2.2.2.2.2.2.2.2.1
noncomputable def Tx.C_NothingLeft (T : Tx K mg) : Addr := (He.ga K "NothingLeft")
theorem Tx.gC_NothingLeft (T : Tx K mg) : mg "NothingLeft" = some (.ref T.C_NothingLeft) := PySem.W.mg_of T.X T.G T.hgC_NothingLeft
theorem Tx.hx_InvalidTexty (T : Tx K mg) : (PySem.W.exmAny K (.ref (He.ga K "InvalidText")) [.ref (He.ga K "ScaleError"), .ref (He.ga K "Missing"), .ref (He.ga K "NothingLeft")] = some true) := (hdc2 T.c).2.2.2.2.2.2.2.2.2.2.2.2.2.2.2.2.2.2.2.1
theorem Tx.em_InvalidText (T : Tx K mg) : PySem.W.exmAny K (.ref T.C_InvalidText) [.ref T.C_ScaleError, .ref T.C_Missing, .ref T.C_NothingLeft] = some true := T.hx_InvalidTexty
theorem Tx.hsi_ScaleErrorr (T : Tx K mg) : (PySem.W.readsIn K (He.ga K "ScaleError") (.type "type") = true) := (hdc2 T.c).2.2.2.2.2.2.2.2.2.2.2.2.2.2.2.2.2.2.2.2.1
theorem Tx.hsi_ScaleErrorg (T : Tx K mg) : (PySem.W.specialIn K (.ref (He.ga K "ScaleError")) "__getattribute__" = some (some (.builtin "type.__getattribute__"))) := (hdc2 T.c).2.2.2.2.2.2.2.2.2.2.2.2.2.2.2.2.2.2.2.2.2.1
theorem Tx.hsi_ScaleErrorf (T : Tx K mg) : (PySem.W.findCls K (.ref (He.ga K "ScaleError")) (.type "type") "__init__" = some (.val (.builtin "ValueError.__init__"))) := (hdc2 T.c).2.2.2.2.2.2.2.2.2.2.2.2.2.2.2.2.2.2.2.2.2.2.1
theorem Tx.si_ScaleError (T : Tx K mg) : ScI K T.C_ScaleError := ⟨⟨_, ⟨T.hsi_ScaleErrorr, T.hsi_ScaleErrorg⟩, T.hsi_ScaleErrorf⟩⟩
theorem hd_tx {h : Heap} (X : K.In h) (G : h.Ns mainGlobals mg) (c : SaysY hdF hdE K) (z : obsS hdS K = valS hdS) : Nonempty (Tx K mg) := ⟨⟨h, X, G, c, z⟩⟩
end
noncomputable section
variable {P : Program} {w : World} {K : PySem.W.Frag} {mg : Str → Option Value} {base : Heap} {W : Wd}
structure RngAt (r c : Addr) (H : Hp) (ns : List Int) (i g sd : Int) : Prop where
  hr : H r = some (.lst [.ref c, .int i, .int g, .int sd])
  hc : H c = some (.lst (ns.map V.int))
  ne : r ≠ c
  i0 : 0 ≤ i
  g0 : 0 ≤ g
  s0 : 0 ≤ sd
  s1 : sd < 2147483563
def rngW (r c : Addr) : Wd where
  A a := a = r ∨ a = c
  I H := ∃ ns i g sd, RngAt r c H ns i g sd
  live H a h ha := by
    obtain ⟨ns, i, g, sd, R⟩ := h
    rcases ha with rfl | rfl
    · rw [R.hr]; intro z; cases z
    · rw [R.hc]; intro z; cases z
  nx H b φ h ha z := by
    obtain ⟨ns, i, g, sd, R⟩ := h
    rcases ha with rfl | rfl
    · rw [R.hr] at z; cases z
    · rw [R.hc] at z; cases z
  stay H H' h k _ _ := by
    obtain ⟨ns, i, g, sd, R⟩ := h
    exact ⟨ns, i, g, sd, ⟨by rw [k _ (.inl rfl)]; exact R.hr, by rw [k _ (.inr rfl)]; exact R.hc, R.ne, R.i0, R.g0, R.s0, R.s1⟩⟩
def g_draw (r : Addr) (xs : List D) (Q : D → Prop) : Prop := ∃ n : Int, xs = [.hnd (.ref r), .int n] ∧ 0 < n ∧ n ≤ 1000000000 ∧ ∀ k : Int, 0 ≤ k → k < n → Q (.int k)
theorem RngAt.set {r c : Addr} {H : Hp} {ns : List Int} {i g sd : Int} (R : RngAt r c H ns i g sd) {i' g' sd' : Int} (h1 : 0 ≤ i') (h2 : 0 ≤ g') (h3 : 0 ≤ sd') (h4 : sd' < 2147483563) :
    RngAt r c (upd H r (.lst [.ref c, .int i', .int g', .int sd'])) ns i' g' sd' := ⟨upd_same, by rw [upd_ne (Ne.symm R.ne)]; exact R.hc, R.ne, h1, h2, h3, h4⟩
theorem ext_upd {r c : Addr} {H H' : Hp} {o : HO} (e : Ext (rngW r c) H H') : Ext (rngW r c) H (upd H' r o) := fun b o n h => by
  rw [upd_ne (fun z => n (.inl z))]
  exact e b o n h
theorem fm0 (a : Int) {b : Int} (hb : 0 < b) : 0 ≤ a.fmod b := by rw [Int.fmod_eq_emod_of_nonneg a (by omega)]; exact Int.emod_nonneg a (by omega)
theorem fm1 (a : Int) {b : Int} (hb : 0 < b) : a.fmod b < b := by rw [Int.fmod_eq_emod_of_nonneg a (by omega)]; exact Int.emod_lt_of_pos a hb
theorem fd0 {a b : Int} (ha : 0 ≤ a) (hb : 0 < b) : 0 ≤ a.fdiv b := by rw [Int.fdiv_eq_ediv_of_nonneg a (by omega)]; exact Int.ediv_nonneg ha (by omega)
theorem mulW_small {i j : Int} (hi : i.natAbs < 2 ^ 64) (hj : j.natAbs < 2 ^ 64) : CMulW i j := wide_mul hi hj (by decide) (by decide) (by decide)
theorem cutSeq {t u : TS} {D : Ends} {σ : L2.St} {H : Hp} (N : L2.St → Hp → Prop) (h1 : ∀ σ' H', N σ' H' → u D σ' H') (h2 : (∀ σ' H', N σ' H' → u D σ' H') → t { D with nx := u D } σ H) : tSeq t u D σ H := h2 h1
theorem ok_l_draw (T : Tx K mg) (r c : Addr) : FnOk P w K mg base CX0 1 T.f_l_draw T.fd_l_draw ["_law_rng", "_law_many"] (spD K (rngW r c) (g_draw r)) := by
  refine T.F_l_draw.ok sc_l_draw (fun vs H Q E h => ?_) (fun cdv A outer s H vs Q E hr h => ⟨_, (pss_cons (ps_if (PW.pt (pw_and (pt_cmpR op_eq (pe_ix ix_list (pv 0) pe_int (fun _ _ => rfl)) pe_int (nomark _)) (pw_and1 (pt_cmpR op_lt (pe_ix ix_list (pv 0) pe_int (fun _ _ => rfl)) (pe_callB call_len_seq (by rfl) T.n_len bt_len (pa_cons (pe_ix ix_list (pv 0) pe_int (fun _ _ => rfl)) pa_nil)) (nomark _))))) (pss_cons (ps_set (i := 3) sc_l_draw.nd rfl (by first | exact Or.inl rfl | exact Or.inr rfl) (pe_ix ix_list (pe_ix ix_list (pv 0) pe_int (fun _ _ => rfl)) (pe_ix ix_list (pv 0) pe_int (fun _ _ => rfl)) (fun _ _ => rfl))) (pss_cons (ps_asg (pe_op op_add (pe_ix ix_list (pv 0) pe_int (fun _ _ => rfl)) pe_int) (pg_sub (pv 0) pe_int set_list)) (pss_one (ps_if (PW.pt (pw_or (pt_cmpR op_ge (pv 3) (pe_op op_pow pe_int pe_int) (nomark _)) (pw_or1 (pt_cmpR op_le (pv 3) (pe_op op_sub pe_int (pe_op op_pow pe_int pe_int)) (nomark _))))) (pss_one (ps_asg (pe_callB call_abs (by rfl) T.n_abs bt_abs (pa_cons (pv 3) pa_nil)) (pg_sub (pv 0) pe_int set_list))) (pss_one (ps_asg (pe_op op_modN (pe_callTy call_int1 (by rfl) T.n_int bt_int (pa_cons (pe_op op_add (pe_op op_add (pe_op op_mulW (pe_ix ix_list (pv 0) pe_int (fun _ _ => rfl)) pe_int) (pe_op op_mulW (pe_op op_modN (pe_callTy call_int1 (by rfl) T.n_int bt_int (pa_cons (pv 3) pa_nil)) pe_int) pe_int)) (pe_ix ix_list (pv 0) pe_int (fun _ _ => rfl))) pa_nil)) pe_int) (pg_sub (pv 0) pe_int set_list))))))) pss_nil) (pss_cons (ps_if (pt_cmpR op_gt (pe_ix ix_list (pv 0) pe_int (fun _ _ => rfl)) pe_int (nomark _)) (pss_cons (ps_set (i := 4) sc_l_draw.nd rfl (by first | exact Or.inl rfl | exact Or.inr rfl) (pe_op op_modN (pe_callTy call_int1 (by rfl) T.n_int bt_int (pa_cons (pe_ix ix_list (pv 0) pe_int (fun _ _ => rfl)) pa_nil)) (pv 1))) (pss_cons (ps_asg (pe_op op_fdivN (pe_ix ix_list (pv 0) pe_int (fun _ _ => rfl)) (pv 1)) (pg_sub (pv 0) pe_int set_list)) (pss_one (ps_ret (pv 4))))) pss_nil) (pss_cons (ps_set (i := 2) sc_l_draw.nd rfl (by first | exact Or.inl rfl | exact Or.inr rfl) (pe_ix ix_list (pv 0) pe_int (fun _ _ => rfl))) (pss_cons (ps_asg (pe_op op_modN (pe_callTy call_int1 (by rfl) T.n_int bt_int (pa_cons (pe_op op_add (pe_op op_add (pe_op op_mulW (pv 2) (pv 2)) (pe_op op_mulW (pv 2) pe_int)) pe_int) pa_nil)) pe_int) (pg_sub (pv 0) pe_int set_list)) (pss_one (ps_ret (pe_op op_modN (pe_callTy call_int1 (by rfl) T.n_int bt_int (pa_cons (pe_op op_add (pe_op op_fdivN (pe_ix ix_list (pv 0) pe_int (fun _ _ => rfl)) pe_int) (pe_op op_mulW (pe_op op_modN (pe_callTy call_int1 (by rfl) T.n_int bt_int (pa_cons (pe_ix ix_list (pv 0) pe_int (fun _ _ => rfl)) pa_nil)) pe_int) pe_int)) pa_nil)) (pv 1)))))))), ?_⟩)
  · obtain ⟨M, ds, P, m, rs, ⟨n, rfl, _⟩, _⟩ := h
    rw [rs.len]
    rfl
  · obtain ⟨M, ds, P, m, rs, ⟨n, rfl, hn0, hn1, hP⟩, k⟩ := h
    obtain ⟨v1, v2, rfl, r1, r2⟩ := rs.two
    rw [r1.hnd, r2.int]
    have fin : ∀ (H' : Hp) (x : Int), Ext (rngW r c) H H' → (rngW r c).I H' → 0 ≤ x → x < n → Q (.int x) H' := fun H' x e i h0 h1 => k _ _ H' (hP x h0 h1) e i rep_int
    obtain ⟨ns, i, g, sd, R⟩ : ∃ ns i g sd, RngAt r c H ns i g sd := m.wi
    refine cutSeq (fun σ' H' => (∃ o, σ' = [some (.ref r), some (.int n), none, o, none]) ∧ Ext (rngW r c) H H' ∧ (rngW r c).I H') ?_ (fun rest => ?_)
    · rintro σ' H' ⟨⟨o, rfl⟩, e, ns, i, g, sd, R⟩
      have hsd : sd.natAbs < 2 ^ 64 := by have h0 := R.s0; have h1 := R.s1; omega
      refine ⟨_, rfl, r, _, _, _, rfl, rfl, SqL.of R.hr, rfl, _, _, rfl, rfl, _, rfl, vifd (fun hg => ?_) (fun hg => ?_)⟩
      · -- a digit of a great cell
        refine ⟨_, rfl, r, _, _, _, rfl, rfl, SqL.of R.hr, rfl, .inl ⟨_, rfl, _, rfl, _, _, rfl, rfl, by omega, ?_⟩⟩
        refine ⟨_, rfl, r, _, _, _, rfl, rfl, SqL.of R.hr, rfl, _, rfl, _, _, rfl, rfl, ⟨by omega, by omega⟩, _, rfl, r, _, _, _, rfl, rfl, R.hr, rfl, ?_⟩
        refine ⟨_, rfl, fin _ _ (ext_upd e) ⟨ns, i, _, sd, R.set R.i0 (fd0 R.g0 hn0) R.s0 R.s1⟩ (fm0 _ hn0) (fm1 _ hn0)⟩
      · refine ⟨_, rfl, r, _, _, _, rfl, rfl, SqL.of R.hr, rfl, ?_⟩
        refine ⟨_, rfl, _, rfl, _, _, rfl, rfl, mulW_small hsd hsd, _, rfl, _, _, rfl, rfl, mulW_small hsd (by decide), _, _, rfl, rfl, _, _, rfl, rfl, .inl ⟨_, rfl, _, _, rfl, rfl, (show (2147483563 : Int) ≠ 0 by decide), _, rfl, r, _, _, _, rfl, rfl, R.hr, rfl, ?_⟩⟩
        have R2 := R.set (i' := i) (g' := g) (sd' := (sd * sd + sd * 40123 + 70001).fmod 2147483563) R.i0 R.g0 (fm0 _ (by decide)) (fm1 _ (by decide))
        have h0 := R2.s0
        have h1 := R2.s1
        refine ⟨_, rfl, r, _, _, _, rfl, rfl, SqL.of R2.hr, rfl, _, _, rfl, rfl, ⟨show (59 : Int) ≠ 0 by decide, by decide⟩, _, rfl, r, _, _, _, rfl, rfl, SqL.of R2.hr, rfl, .inl ⟨_, rfl, _, _, rfl, rfl, (show (8111 : Int) ≠ 0 by decide), _, _, rfl, rfl, ?_, _, _, rfl, rfl, .inl ⟨_, rfl, _, rfl, _, _, rfl, rfl, by omega, ?_⟩⟩⟩
        · have z0 := fm0 ((sd * sd + sd * 40123 + 70001).fmod 2147483563) (b := 8111) (by decide)
          have z1 := fm1 ((sd * sd + sd * 40123 + 70001).fmod 2147483563) (b := 8111) (by decide)
          exact mulW_small (by omega) (by decide)
        · exact fin _ _ (ext_upd e) ⟨ns, i, g, _, R2⟩ (fm0 _ hn0) (fm1 _ hn0)
    · refine ⟨_, rfl, r, _, _, _, rfl, rfl, SqL.of R.hr, rfl, rfl, _, rfl, vif (fun hg => ?_) (fun hg => ?_)⟩
      · refine ⟨_, rfl, r, _, _, _, rfl, rfl, SqL.of R.hr, rfl, _, rfl, r, _, _, _, rfl, rfl, SqL.of R.hr, rfl, c, _, rfl, .inl (SqL.of R.hc), _, _, rfl, rfl, _, rfl, vifd (fun hi => ?_) (fun hi => ?_)⟩
        · rw [List.length_map] at hi
          obtain ⟨x, hx⟩ := get_lt (xs := ns) (i := i.toNat) (by have := R.i0; omega)
          have hat : atI (ns.map V.int) i = some (.int x) := by
            have e := atI_nat (xs := ns.map V.int) (j := i.toNat) (v := .int x) (by rw [List.getElem?_map, hx]; rfl)
            rw [show ((i.toNat : Nat) : Int) = i by have := R.i0; omega] at e
            exact e
          refine ⟨_, rfl, r, _, _, _, rfl, rfl, SqL.of R.hr, rfl, _, rfl, r, _, _, _, rfl, rfl, SqL.of R.hr, rfl, c, _, _, _, rfl, rfl, SqL.of R.hc, hat, ?_⟩
          refine ⟨_, rfl, r, _, _, _, rfl, rfl, SqL.of R.hr, rfl, _, _, rfl, rfl, _, rfl, r, _, _, _, rfl, rfl, R.hr, rfl, ?_⟩
          have R2 := R.set (i' := i + 1) (g' := g) (sd' := sd) (by have := R.i0; omega) R.g0 R.s0 R.s1
          have e1 : Ext (rngW r c) H (upd H r (.lst [.ref c, .int (i + 1), .int g, .int sd])) := ext_upd (Ext.refl H)
          have p10 : CPow 10 18 := ⟨by decide, by decide, by decide⟩
          refine ⟨_, rfl, _, _, rfl, rfl, p10, _, _, rfl, rfl, _, rfl, vifd (fun h1 => ?_) (fun h1 => ?_)⟩
          · refine ⟨_, rfl, _, rfl, _, rfl, r, _, _, _, rfl, rfl, R2.hr, rfl, ?_⟩
            exact rest _ _ ⟨⟨_, rfl⟩, ext_upd e1, ns, _, _, _, R2.set R2.i0 (by show 0 ≤ (if x < 0 then -x else x); split <;> omega) R2.s0 R2.s1⟩
          · refine ⟨_, rfl, _, _, rfl, rfl, p10, _, _, rfl, rfl, _, _, rfl, rfl, _, rfl, vifd (fun h2 => ?_) (fun h2 => ?_)⟩
            · refine ⟨_, rfl, _, rfl, _, rfl, r, _, _, _, rfl, rfl, R2.hr, rfl, ?_⟩
              exact rest _ _ ⟨⟨_, rfl⟩, ext_upd e1, ns, _, _, _, R2.set R2.i0 (by show 0 ≤ (if x < 0 then -x else x); split <;> omega) R2.s0 R2.s1⟩
            · have hsd : sd.natAbs < 2 ^ 64 := by have h0 := R.s0; have h1 := R.s1; omega
              have z0 := fm0 x (b := 2147483563) (by decide)
              have z1 := fm1 x (b := 2147483563) (by decide)
              refine ⟨_, rfl, r, _, _, _, rfl, rfl, SqL.of R2.hr, rfl, _, _, rfl, rfl, mulW_small hsd (by decide), _, rfl, .inl ⟨_, rfl, _, _, rfl, rfl, (show (2147483563 : Int) ≠ 0 by decide), _, _, rfl, rfl, mulW_small (by omega) (by decide), _, _, rfl, rfl, ?_⟩⟩
              refine ⟨_, rfl, r, _, _, _, rfl, rfl, SqL.of R2.hr, rfl, _, _, rfl, rfl, .inl ⟨_, rfl, _, _, rfl, rfl, (show (2147483563 : Int) ≠ 0 by decide), _, rfl, r, _, _, _, rfl, rfl, R2.hr, rfl, ?_⟩⟩
              exact rest _ _ ⟨⟨_, rfl⟩, ext_upd e1, ns, _, _, _, R2.set R2.i0 R2.g0 (fm0 _ (by decide)) (fm1 _ (by decide))⟩
        · exact rest _ _ ⟨⟨none, rfl⟩, Ext.refl H, ns, i, g, sd, R⟩
      · exact rest _ _ ⟨⟨none, rfl⟩, Ext.refl H, ns, i, g, sd, R⟩
def spSource (K : PySem.W.Frag) : Sp := fun vs H Q _ => ∃ (a : Addr) (ns : List Int), vs = [.ref a] ∧ SqL K H a (ns.map V.int) ∧ ns.length ≤ 63 ∧
  ∀ (H' : Hp) (r c : Addr), H r = none → H c = none → Same H H' → (rngW r c).I H' → Q (.ref r) H'
theorem cut_ints (ns : List Int) (lo hi : Option Int) : cutV (ns.map V.int) lo hi = (((ns.drop (HT.sIx ns.length 0 lo)).take (HT.sIx ns.length ns.length hi - HT.sIx ns.length 0 lo)).map V.int) := by
  unfold cutV
  rw [List.length_map, List.map_take, List.map_drop]
theorem same_put {H H' : Hp} {p : Addr} {o : HO} (e : Same H H') (h : H' p = none) : Same H (upd H' p o) := fun b u q => by
  have z := e b u q
  rw [upd_ne (ne_of_none z h)]
  exact z
theorem ok_l_source (T : Tx K mg) : FnOk P w K mg base CX0 1 T.f_l_source T.fd_l_source ["_law_script"] (spSource K) := by
  refine T.F_l_source.ok sc_l_source (fun vs H Q E h => ?_) (fun cdv A outer s H vs Q E hr h => ⟨_, (pss_cons (ps_set (i := 1) sc_l_source.nd rfl (by first | exact Or.inl rfl | exact Or.inr rfl) (pe_op op_add pe_int (pe_op op_mulW pe_int (pe_callB call_len_seq (by rfl) T.n_len bt_len (pa_cons (pe_slice sl_list (pv 0) po_none (po_some pe_int)) pa_nil))))) (pss_cons (ps_for PassesOwn.never rfl (pi_list (pe_slice sl_list (pv 0) po_none (po_some pe_int))) (pg_name (i := 2) sc_l_source.nd rfl (by first | exact Or.inl rfl | exact Or.inr rfl)) (pss_one (ps_set (i := 1) sc_l_source.nd rfl (by first | exact Or.inl rfl | exact Or.inr rfl) (pe_op op_modN (pe_callTy call_int1 (by rfl) T.n_int bt_int (pa_cons (pe_op op_add (pe_op op_add (pe_op op_mulW (pv 1) pe_int) (pe_op op_modN (pe_callTy call_int1 (by rfl) T.n_int bt_int (pa_cons (pv 2) pa_nil)) pe_int)) pe_int) pa_nil)) pe_int)))) (pss_one (ps_ret (pe_lst (pa_cons (pe_callTy call_list_of (by rfl) T.n_list bt_list (pa_cons (pe_slice sl_list (pv 0) po_none (po_some pe_int)) pa_nil)) (pa_cons pe_int (pa_cons pe_int (pa_cons (pv 1) pa_nil))))))))), ?_⟩)
  · obtain ⟨a, ns, rfl, _⟩ := h
    rfl
  · obtain ⟨a, ns, rfl, hS, hl, k⟩ := h
    have hcut : ∀ ns : List Int, ns.length ≤ 63 → ∀ lo hi, ∃ ms : List Int, cutV (ns.map V.int) lo hi = ms.map V.int ∧ ms.length ≤ 63 := fun ns hl lo hi => by
      refine ⟨_, cut_ints ns lo hi, ?_⟩
      rw [List.length_take, List.length_drop]
      omega
    obtain ⟨ms, hms, hml⟩ := hcut ns hl none (some 63)
    refine ⟨_, rfl, 63, rfl, a, _, rfl, hS, fun p1 hp1 => ?_⟩
    rw [hms]
    refine ⟨p1, _, rfl, .inl (SqL.of upd_same), _, _, rfl, rfl, ?_, _, _, rfl, rfl, ?_⟩
    · rw [List.length_map]
      exact mulW_small (by decide) (by omega)
    have S1 : Same H (upd H p1 (.lst (ms.map V.int))) := same_put (Same.refl H) hp1
    refine ⟨_, rfl, 63, rfl, a, _, rfl, S1.seq hS, fun p2 hp2 => ?_⟩
    rw [hms]
    have S2 := same_put (o := .lst (ms.map V.int)) S1 hp2
    refine ⟨p2, rfl, ⟨_, SqL.of upd_same⟩, for_list (K := K) (a := p2) (xs := ms.map V.int) (fun i σ H' => H' = upd (upd H p1 (.lst (ms.map V.int))) p2 (.lst (ms.map V.int)) ∧ ∃ (sd : Int) (o : Option V), σ = [some (.ref a), some (.int sd), o] ∧ 0 ≤ sd ∧ sd < 2147483563) ?_ ?_ ?_ ?_⟩
    · refine ⟨rfl, _, none, rfl, ?_, ?_⟩
      · rw [List.length_map]; omega
      · rw [List.length_map]; omega
    · rintro i σ H' _ ⟨rfl, _⟩
      exact SqL.of upd_same
    · rintro i x σ H' hx ⟨rfl, sd, o, rfl, h0, h1⟩
      rw [List.getElem?_map] at hx
      cases e : ms[i]? with
      | none => rw [e] at hx; cases hx
      | some z =>
        rw [e] at hx
        cases hx
        have z0 := fm0 z (b := 2147483563) (by decide)
        have z1 := fm1 z (b := 2147483563) (by decide)
        refine ⟨_, rfl, _, _, rfl, rfl, mulW_small (by omega) (by decide), _, rfl, .inl ⟨_, rfl, _, _, rfl, rfl, (show (2147483563 : Int) ≠ 0 by decide), _, _, rfl, rfl, _, _, rfl, rfl, .inl ⟨_, rfl, _, _, rfl, rfl, (show (2147483563 : Int) ≠ 0 by decide), ?_⟩⟩⟩
        exact ⟨rfl, _, _, rfl, fm0 _ (by decide), fm1 _ (by decide)⟩
    · rintro σ H' ⟨rfl, sd, o, rfl, h0, h1⟩
      refine ⟨_, rfl, 63, rfl, a, _, rfl, S2.seq hS, fun p3 hp3 => ?_⟩
      rw [hms]
      have S3 := same_put (o := .lst (ms.map V.int)) S2 hp3
      refine ⟨p3, _, rfl, .inl (SqL.of upd_same), fun c hc => ⟨_, rfl, (by show 4 ≤ sizeLine; decide), fun r hr => ?_⟩⟩
      have S4 := same_put (o := .lst (ms.map V.int)) S3 hc
      have hcr : c ≠ r := ne_of_none upd_same hr
      refine k _ r c (S4.free hr) (S3.free hc) (same_put S4 hr) ⟨ms, 0, 0, sd, upd_same, ?_, Ne.symm hcr, Int.le_refl _, Int.le_refl _, h0, h1⟩
      rw [upd_ne hcr]
      exact upd_same
theorem pss_ex2 {X : Cx} {st : List Stmt} {t : Addr → Addr → TS} (h : ∀ r c, PSs X st (t r c)) : PSs X st (fun D σ H => ∃ r c, t r c D σ H) := ⟨fun pins s σ H D I ⟨r, c, hw⟩ => (h r c).run pins s σ H D I hw⟩
theorem sat_one {K : PySem.W.Frag} {W : Wd} {M : Addr → Prop} {H : Hp} {σ : L2.St} {i : Nat} {v : V} (m : MOk W M H) (hm : ∀ a, W.Mf a → M a) (hh : Ext W W.Hf H) (h : σ[i]? = some (some v)) : Sat K W M H (fun _ => no1) H σ ((List.replicate σ.length Sl.un).set i (.d (.hnd v))) := by
  refine ⟨m.wm, m.live, Ext.refl H, m.wi, fun i a h => h.elim, fun i j a h => h.elim, by simp, fun i _ => rfl, fun j s hj => ?_, hm, hh, fun a h => W.liveB _ _ m.wi h, m.nb, m.nx⟩
  by_cases e : j = i
  · subst e
    have hl : j < σ.length := (List.getElem?_eq_some_iff.mp h).1
    rw [List.getElem?_set_self (by simpa using hl)] at hj
    cases hj
    exact ⟨rfl, v, h, rep_hnd⟩
  · rw [List.getElem?_set_ne (Ne.symm e), List.getElem?_replicate] at hj
    split at hj
    · cases hj; rfl
    · cases hj
theorem law_go {K : PySem.W.Frag} {r c : Addr} {H : Hp} {Q : VK} {σ : L2.St} {i : Nat} {w : WS} (I : (rngW r c).I H) (h : σ[i]? = some (some (.ref r))) (hQ : ∀ H', Q (.bl true) H')
    (hw : w (endsD fun d => d = .bl true) ((List.replicate σ.length Sl.un).set i (.d (.hnd (.ref r))))) : LS K (rngW r c) w { nx := fun _ H' => Q .non H', rt := Q } σ H := by
  refine ⟨fun a => a = r ∨ a = c, H, fun _ => no1, _, _, sat_one ⟨fun a h => h, fun a ha => (rngW r c).live H a I ha, I, fun _ _ z => z, fun a φ ha => (rngW r c).nx H a φ I ha⟩ (fun _ z => z.elim) (fun _ _ _ z => by cases z) h, hw, fun ds' oa' σ' H' hn _ => ?_, fun d v H' hd _ _ rr => ?_, fun _ _ _ _ z => z.elim, fun _ _ _ _ z => z.elim, fun _ _ _ _ _ _ z => z.elim⟩
  · cases hn
  · cases hd
    rw [rr.bl]
    exact hQ H'
def spLaw (K : PySem.W.Frag) : Sp := fun vs H Q _ => ∃ (a : Addr) (ns : List Int), vs = [.ref a] ∧ SqL K H a (ns.map V.int) ∧ ns.length ≤ 63 ∧ ∀ H', Q (.bl true) H'
def g_same (n : Nat) (xs : List D) (Q : D → Prop) : Prop := ∃ d, xs = [d, d] ∧ okD n d = true ∧ Q (.bl true)
theorem same_step (T : Tx K mg) (n : Nat) (ih : ∀ (W : Wd) m, n = m + 1 → FnOk P w K mg base CX0 (m + 1) T.f_l_same T.fd_l_same ["_law_result", "_law_expected"] (spD K W (g_same m))) :
    FnOk P w K mg base CX0 (n + 1) T.f_l_same T.fd_l_same ["_law_result", "_law_expected"] (spD K W (g_same n)) := by
  cases n with
  | zero =>
    refine vfn T.F_l_same sc_l_same (fun ds Q h => ?_) ⟨_, fun cdv A outer s H E hr => (vss_cons (vs_if (vt_cmp op_isN lift_isN (ve_var 1) ve_non (nomark _)) (vss_one (vs_ret (ve_cmp op_isN lift_isN (ve_var 0) ve_non (nomark _)))) vss_nil) (vss_cons (vs_if (vt_w (vw_or (vt_val (ve_isi .list (by rfl) T.n_isinstance bt_isinstance (ve_var 1) (by rfl) T.n_list bt_list)) (vw_or1 (vt_val (ve_isi .tuple (by rfl) T.n_isinstance bt_isinstance (ve_var 1) (by rfl) T.n_tuple bt_tuple))))) (vss_cons (vs_set 2 sc_l_same.nd (ve_if (vt_val (ve_isi .list (by rfl) T.n_isinstance bt_isinstance (ve_var 1) (by rfl) T.n_list bt_list)) (ve_isi .list (by rfl) T.n_isinstance bt_isinstance (ve_var 0) (by rfl) T.n_list bt_list) (ve_isi .tuple (by rfl) T.n_isinstance bt_isinstance (ve_var 0) (by rfl) T.n_tuple bt_tuple))) (vss_one (vs_ret (ve_and (ve_var 2) (ve_and (ve_cmp (op_eqA hr.units) lift_eq (ve_callB call_len lift_len (by rfl) T.n_len bt_len (va_cons (ve_var 0) va_nil)) (ve_callB call_len lift_len (by rfl) T.n_len bt_len (va_cons (ve_var 1) va_nil)) (nomark _)) (ve_one (ve_callB (cr_all (by rfl)) lift_all (by rfl) T.n_all bt_all (va_cons (ve_lc (own := [("_law_a", 3), ("_law_b", 4)]) rfl sc_l_same.nd (vi_zipK (by rfl) T.n_zip (ve_var 0) (ve_var 1)) (blkOk_by (N := ["_law_result", "_law_expected", "_law_kind_so", "_law_a", "_law_b"]) (sc := defScope s_l_same) (by decide +kernel)) (fun _ _ _ _ _ => (vg_tup (n := 2) rfl (vgs_cons (vg_name 3 sc_l_same.nd (by decide)) (vgs_cons (vg_name 4 sc_l_same.nd (by decide)) vgs_nil)))) (fun _ _ _ _ _ => vts_nil) (fun sB HB CB clB fpB => ve_never)) va_nil)))))))) vss_nil) (vss_cons (vs_if (vt_val (ve_isi .bool (by rfl) T.n_isinstance bt_isinstance (ve_var 1) (by rfl) T.n_bool bt_bool)) (vss_one (vs_ret (ve_and (ve_isi .bool (by rfl) T.n_isinstance bt_isinstance (ve_var 0) (by rfl) T.n_bool bt_bool) (ve_one (ve_cmp (op_eqA hr.units) lift_eq (ve_var 0) (ve_var 1) (nomark _)))))) vss_nil) (vss_cons (vs_if (vt_val (ve_isi .int (by rfl) T.n_isinstance bt_isinstance (ve_var 1) (by rfl) T.n_int bt_int)) (vss_one (vs_ret (ve_and (ve_isi .int (by rfl) T.n_isinstance bt_isinstance (ve_var 0) (by rfl) T.n_int bt_int) (ve_and (ve_not (ve_isi .bool (by rfl) T.n_isinstance bt_isinstance (ve_var 0) (by rfl) T.n_bool bt_bool)) (ve_one (ve_cmp (op_eqA hr.units) lift_eq (ve_var 0) (ve_var 1) (nomark _))))))) vss_nil) (vss_one (vs_ret (ve_and (ve_isi .str (by rfl) T.n_isinstance bt_isinstance (ve_var 0) (by rfl) T.n_str bt_str) (ve_one (ve_cmp (op_eqA hr.units) lift_eq (ve_var 0) (ve_var 1) (nomark _)))))))))), fun ds Q h => ?_⟩
    · obtain ⟨d, rfl, _⟩ := h
      rfl
    · obtain ⟨d, rfl, h1, h⟩ := h
      cases d with
      | non => exact h
      | bl b => exact ⟨rfl, rfl, rfl, rfl, by show Q (.bl (decide (b = b))); rw [decide_eq_true rfl]; exact h⟩
      | int b => exact ⟨rfl, rfl, rfl, rfl, rfl, rfl, by show Q (.bl (decide (b = b))); rw [decide_eq_true rfl]; exact h⟩
      | str b => exact ⟨rfl, rfl, rfl, rfl, rfl, by show Q (.bl (decide (b = b))); rw [decide_eq_true rfl]; exact h⟩
      | hnd v => cases h1
      | dic _ _ => cases h1
      | ins _ _ _ => cases h1
      | lam _ _ => cases h1
      | tup ds => cases h1
      | lst ds => cases h1
  | succ n =>
    have ih := ih W.pl n rfl
    refine vfn T.F_l_same sc_l_same (fun ds Q h => ?_) ⟨_, fun cdv A outer s H E hr => (vss_cons (vs_if (vt_cmp op_isN lift_isN (ve_var 1) ve_non (nomark _)) (vss_one (vs_ret (ve_cmp op_isN lift_isN (ve_var 0) ve_non (nomark _)))) vss_nil) (vss_cons (vs_if (vt_w (vw_or (vt_val (ve_isi .list (by rfl) T.n_isinstance bt_isinstance (ve_var 1) (by rfl) T.n_list bt_list)) (vw_or1 (vt_val (ve_isi .tuple (by rfl) T.n_isinstance bt_isinstance (ve_var 1) (by rfl) T.n_tuple bt_tuple))))) (vss_cons (vs_set 2 sc_l_same.nd (ve_if (vt_val (ve_isi .list (by rfl) T.n_isinstance bt_isinstance (ve_var 1) (by rfl) T.n_list bt_list)) (ve_isi .list (by rfl) T.n_isinstance bt_isinstance (ve_var 0) (by rfl) T.n_list bt_list) (ve_isi .tuple (by rfl) T.n_isinstance bt_isinstance (ve_var 0) (by rfl) T.n_tuple bt_tuple))) (vss_one (vs_ret (ve_and (ve_var 2) (ve_and (ve_cmp (op_eqA hr.units) lift_eq (ve_callB call_len lift_len (by rfl) T.n_len bt_len (va_cons (ve_var 0) va_nil)) (ve_callB call_len lift_len (by rfl) T.n_len bt_len (va_cons (ve_var 1) va_nil)) (nomark _)) (ve_one (ve_callB (cr_all (by rfl)) lift_all (by rfl) T.n_all bt_all (va_cons (ve_lc (own := [("_law_a", 3), ("_law_b", 4)]) rfl sc_l_same.nd (vi_zipK (by rfl) T.n_zip (ve_var 0) (ve_var 1)) (blkOk_by (N := ["_law_result", "_law_expected", "_law_kind_so", "_law_a", "_law_b"]) (sc := defScope s_l_same) (by decide +kernel)) (fun _ _ _ _ _ => (vg_tup (n := 2) rfl (vgs_cons (vg_name 3 sc_l_same.nd (by decide)) (vgs_cons (vg_name 4 sc_l_same.nd (by decide)) vgs_nil)))) (fun _ _ _ _ _ => vts_nil) (fun sB HB CB clB fpB => (ve_call ih hr (by rfl) T.g_l_same T.F_l_same.kp T.B_l_same .nil pass0 (fun _ _ => reps_nil) (va_cons (ve_var 3) (va_cons (ve_var 4) va_nil))))) va_nil)))))))) vss_nil) (vss_cons (vs_if (vt_val (ve_isi .bool (by rfl) T.n_isinstance bt_isinstance (ve_var 1) (by rfl) T.n_bool bt_bool)) (vss_one (vs_ret (ve_and (ve_isi .bool (by rfl) T.n_isinstance bt_isinstance (ve_var 0) (by rfl) T.n_bool bt_bool) (ve_one (ve_cmp (op_eqA hr.units) lift_eq (ve_var 0) (ve_var 1) (nomark _)))))) vss_nil) (vss_cons (vs_if (vt_val (ve_isi .int (by rfl) T.n_isinstance bt_isinstance (ve_var 1) (by rfl) T.n_int bt_int)) (vss_one (vs_ret (ve_and (ve_isi .int (by rfl) T.n_isinstance bt_isinstance (ve_var 0) (by rfl) T.n_int bt_int) (ve_and (ve_not (ve_isi .bool (by rfl) T.n_isinstance bt_isinstance (ve_var 0) (by rfl) T.n_bool bt_bool)) (ve_one (ve_cmp (op_eqA hr.units) lift_eq (ve_var 0) (ve_var 1) (nomark _))))))) vss_nil) (vss_one (vs_ret (ve_and (ve_isi .str (by rfl) T.n_isinstance bt_isinstance (ve_var 0) (by rfl) T.n_str bt_str) (ve_one (ve_cmp (op_eqA hr.units) lift_eq (ve_var 0) (ve_var 1) (nomark _)))))))))), fun ds Q h => ?_⟩
    · obtain ⟨d, rfl, _⟩ := h
      rfl
    · obtain ⟨d, rfl, h1, h⟩ := h
      cases d with
      | non => exact h
      | bl b => exact ⟨rfl, rfl, rfl, rfl, by show Q (.bl (decide (b = b))); rw [decide_eq_true rfl]; exact h⟩
      | int b => exact ⟨rfl, rfl, rfl, rfl, rfl, rfl, by show Q (.bl (decide (b = b))); rw [decide_eq_true rfl]; exact h⟩
      | str b => exact ⟨rfl, rfl, rfl, rfl, rfl, by show Q (.bl (decide (b = b))); rw [decide_eq_true rfl]; exact h⟩
      | hnd v => cases h1
      | dic _ _ => cases h1
      | ins _ _ _ => cases h1
      | lam _ _ => cases h1
      | tup ds =>
        obtain ⟨hl, ha⟩ := Bool.and_eq_true_iff.mp h1
        have hl := of_decide_eq_true hl
        have ha := List.all_eq_true.mp ha
        refine ⟨rfl, rfl, rfl, rfl, ?_⟩
        refine vifd (fun _ => ?_) (fun e => absurd rfl e)
        refine ⟨rfl, hl, ?_⟩
        refine lcF (fun _ => .bl true) (fun d hd R hR => ?_) ?_
        · obtain ⟨x, hx, rfl⟩ := zips_same hd
          exact ⟨rfl, x, rfl, ha x hx, hR⟩
        · refine ⟨(zipsD ds ds).map fun _ => true, by rw [List.map_map]; rfl, ?_⟩
          rw [all_const]
          exact h
      | lst ds =>
        obtain ⟨hl, ha⟩ := Bool.and_eq_true_iff.mp h1
        have hl := of_decide_eq_true hl
        have ha := List.all_eq_true.mp ha
        refine ⟨rfl, rfl, rfl, ?_⟩
        refine vifd (fun _ => ?_) (fun e => absurd rfl e)
        refine ⟨rfl, hl, ?_⟩
        refine lcF (fun _ => .bl true) (fun d hd R hR => ?_) ?_
        · obtain ⟨x, hx, rfl⟩ := zips_same hd
          exact ⟨rfl, x, rfl, ha x hx, hR⟩
        · refine ⟨(zipsD ds ds).map fun _ => true, by rw [List.map_map]; rfl, ?_⟩
          rw [all_const]
          exact h
theorem ok_l_same' (T : Tx K mg) : ∀ (n : Nat) (W : Wd), FnOk P w K mg base CX0 (n + 1) T.f_l_same T.fd_l_same ["_law_result", "_law_expected"] (spD K W (g_same n))
  | 0, _ => same_step T 0 fun _ m h => absurd h (by omega)
  | n + 1, _ => same_step T (n + 1) fun W m h => by
    have e : m = n := by omega
    subst e
    exact ok_l_same' T m W
theorem ok_l_same (T : Tx K mg) (n : Nat) : FnOk P w K mg base CX0 (n + 1) T.f_l_same T.fd_l_same ["_law_result", "_law_expected"] (spD K W (g_same n)) := ok_l_same' T n W
def chD : D → (D → Prop) → Prop
  | .lst ds, Q => 0 < ds.length ∧ ds.length ≤ 1000000 ∧ ∀ d ∈ ds, Q d
  | .str z, Q => 0 < z.length ∧ z.length ≤ 1000000 ∧ ∀ c ∈ z.cps.toList, Q (.str ⟨#[c]⟩)
  | _, _ => False
def g_choice (r : Addr) (xs : List D) (Q : D → Prop) : Prop := ∃ x, xs = [.hnd (.ref r), x] ∧ chD x Q
theorem ok_l_choice (T : Tx K mg) (r c : Addr) : FnOk P w K mg base CX0 2 T.f_l_choice T.fd_l_choice ["_law_rng", "_law_some"] (spD K (rngW r c) (g_choice r)) := by
  refine vfn T.F_l_choice sc_l_choice (fun ds Q h => ?_) ⟨_, fun cdv A outer s H E hr => (vss_one (vs_ret (ve_ixA hr.units (ve_var 1) (ve_call (ok_l_draw T r c) (hr.mono (by decide)) (by rfl) T.g_l_draw T.F_l_draw.kp T.B_l_draw .nil pass0 (fun _ _ => reps_nil) (va_cons (ve_var 0) (va_cons (ve_callB call_len lift_len (by rfl) T.n_len bt_len (va_cons (ve_var 1) va_nil)) va_nil)))))), fun ds Q h => ?_⟩
  · obtain ⟨d, rfl, _⟩ := h
    rfl
  · obtain ⟨x, rfl, h⟩ := h
    cases x <;> first | exact h.elim | skip
    · rename_i z
      obtain ⟨h0, h1, h⟩ := h
      refine ⟨(by rw [sizeLine_eq]; omega), (z.length : Int), rfl, by omega, by omega, fun k k0 k1 => ⟨(by rw [sizeLine_eq]; omega), ?_⟩⟩
      have hl : z.cps.toList.length = z.length := by simp [Str.length]
      obtain ⟨x, hx⟩ := get_lt (xs := z.cps.toList) (i := k.toNat) (by omega)
      have e := atI_nat hx
      rw [show ((k.toNat : Nat) : Int) = k by omega] at e
      exact ⟨x, e, h x (List.mem_of_getElem? hx)⟩
    · rename_i xs
      obtain ⟨h0, h1, h⟩ := h
      refine ⟨(xs.length : Int), rfl, by omega, by omega, fun k k0 k1 => ?_⟩
      obtain ⟨x, hx⟩ := get_lt (xs := xs) (i := k.toNat) (by omega)
      have e := atI_nat hx
      rw [show ((k.toNat : Nat) : Int) = k by omega] at e
      exact ⟨x, e, h x (List.mem_of_getElem? hx)⟩
def g_divisor (xs : List D) (Q : D → Prop) : Prop := ∃ a b : Int, xs = [.int a, .int b] ∧ Q (.int (Int.gcd a b))
theorem ok_l_divisor (T : Tx K mg) : FnOk P w K mg base CX0 1 T.f_l_divisor T.fd_l_divisor ["_law_one", "_law_other"] (spD K W g_divisor) := by
  refine vfn T.F_l_divisor sc_l_divisor (fun ds Q h => ?_) ⟨_, fun cdv A outer s H E hr => (vss_cons (vs_par 0 1 rfl sc_l_divisor.nd (by decide) (ve_callB call_abs lift_abs (by rfl) T.n_abs bt_abs (va_cons (ve_var 0) va_nil)) (ve_callB call_abs lift_abs (by rfl) T.n_abs bt_abs (va_cons (ve_var 1) va_nil))) (vss_cons (vs_while PassesOwn.never (vt_cmp (op_neA hr.units) lift_ne (ve_var 1) ve_int (nomark _)) (vss_one (vs_par 0 1 rfl sc_l_divisor.nd (by decide) (ve_var 1) (ve_mod (ve_callTy call_int1 lift_int (by rfl) T.n_int bt_int (va_cons (ve_var 0) va_nil)) (ve_var 1))))) (vss_one (vs_ret (ve_var 0))))), fun ds Q h => ?_⟩
  · obtain ⟨a, b, rfl, _⟩ := h
    rfl
  · obtain ⟨a, b, rfl, h⟩ := h
    refine ⟨fun m ds => ∃ x y : Int, ds = [.d (.int x), .d (.int y)] ∧ 0 ≤ x ∧ 0 ≤ y ∧ m = y.toNat ∧ Int.gcd x y = Int.gcd a b, ⟨_, iabs a, iabs b, rfl, iabs_nonneg a, iabs_nonneg b, rfl, gcd_abs a b⟩, ?_⟩
    rintro m ds ⟨x, y, rfl, hx, hy, rfl, e⟩
    refine vifn (fun h0 => ⟨h0, ?_⟩) (fun h0 => ?_)
    · have hm := fm0 x (show 0 < y by omega)
      have hl := fm1 x (show 0 < y by omega)
      exact ⟨_, by omega, _, _, rfl, hy, hm, rfl, (gcd_step hx hy).trans e⟩
    · subst h0
      rw [← e, gcd_zero hx] at h
      exact h
def g_ratio (xs : List D) (Q : D → Prop) : Prop := ∃ t b : Int, xs = [.int t, .int b] ∧ b ≠ 0 ∧ b.natAbs < 2 ^ 9000 ∧ Q (ratD t b)
theorem ok_l_ratio (T : Tx K mg) : FnOk P w K mg base CX0 2 T.f_l_ratio T.fd_l_ratio ["_law_top", "_law_bottom"] (spD K W g_ratio) := by
  refine vfn T.F_l_ratio sc_l_ratio (fun ds Q h => ?_) ⟨_, fun cdv A outer s H E hr => (vss_cons (vs_set 2 sc_l_ratio.nd (ve_call (ok_l_divisor T) (hr.mono (by decide)) (by rfl) T.g_l_divisor T.F_l_divisor.kp T.B_l_divisor .nil pass0 (fun _ _ => reps_nil) (va_cons (ve_var 0) (va_cons (ve_var 1) va_nil)))) (vss_cons (vs_set 2 sc_l_ratio.nd (ve_if (vt_cmp op_gt lift_iib (ve_var 1) ve_int (nomark _)) (ve_var 2) (ve_sub ve_int (ve_var 2)))) (vss_one (vs_ret (ve_tup (va_cons (ve_fdiv (ve_var 0) (ve_var 2)) (va_cons (ve_fdiv (ve_var 1) (ve_var 2)) va_nil))))))), fun ds Q h => ?_⟩
  · obtain ⟨a, b, rfl, _⟩ := h
    rfl
  · obtain ⟨t, b, rfl, hb, hl, h⟩ := h
    refine ⟨t, b, rfl, ?_⟩
    have d1 := ratK_div (t := t) hb hl t
    have d2 := ratK_div (t := t) hb hl b
    have fin : Q (.tup [.int (t.fdiv (ratK t b)), .int (b.fdiv (ratK t b))]) := h
    refine vifd (fun h0 => ?_) (fun h0 => ?_)
    · have ek : ratK t b = ((Int.gcd t b : Nat) : Int) := by unfold ratK; rw [if_pos h0]
      rw [ek] at d1 d2 fin
      exact ⟨d1, d2, Nat.le_of_ble_eq_true rfl, fin⟩
    · have ek : ratK t b = 0 - ((Int.gcd t b : Nat) : Int) := by unfold ratK; rw [if_neg h0]
      rw [ek] at d1 d2 fin
      exact ⟨d1, d2, Nat.le_of_ble_eq_true rfl, fin⟩
def g_some (r : Addr) (n : Nat) (xs : List D) (Q : D → Prop) : Prop := xs = [.hnd (.ref r)] ∧ ∀ a b : Int, Amt n a b → Q (.tup [.int a, .int b])
theorem ok_l_amount (T : Tx K mg) (r c : Addr) : FnOk P w K mg base CX0 3 T.f_l_amount T.fd_l_amount ["_law_rng"] (spD K (rngW r c) (g_some r 4)) := by
  refine vfn T.F_l_amount sc_l_amount (fun ds Q h => ?_) ⟨_, fun cdv A outer s H E hr => (vss_one (vs_ret (ve_call (ok_l_ratio T) (hr.mono (by decide)) (by rfl) T.g_l_ratio T.F_l_ratio.kp T.B_l_ratio .nil pass0 (fun _ _ => reps_nil) (va_cons (ve_sub (ve_call (ok_l_draw T r c) (hr.mono (by decide)) (by rfl) T.g_l_draw T.F_l_draw.kp T.B_l_draw .nil pass0 (fun _ _ => reps_nil) (va_cons (ve_var 0) (va_cons ve_int va_nil))) ve_int) (va_cons (ve_call (ok_l_choice T r c) (hr.mono (by decide)) (by rfl) T.g_l_choice T.F_l_choice.kp T.B_l_choice .nil pass0 (fun _ _ => reps_nil) (va_cons (ve_var 0) (va_cons (ve_lst (va_cons ve_int (va_cons ve_int (va_cons ve_int (va_cons ve_int (va_cons ve_int va_nil)))))) va_nil))) va_nil))))), fun ds Q h => ?_⟩
  · rw [h.1]
    rfl
  · obtain ⟨rfl, h⟩ := h
    refine ⟨13, rfl, by decide, by decide, fun k k0 k1 => ?_⟩
    refine ⟨by decide, _, rfl, by decide, by decide, fun d hd => ?_⟩
    have hd : d = .int 1 ∨ d = .int 2 ∨ d = .int 3 := by
      simp only [List.mem_cons, List.not_mem_nil, or_false] at hd
      rcases hd with h | h | h | h | h <;> simp [h]
    have key : ∀ b : Int, b ≠ 0 → b.natAbs < 2 ^ 4 → Q (ratD (k - 6) b) := fun b h0 h1 => h _ _ (rat_amt h0 (by omega) h1)
    rcases hd with rfl | rfl | rfl
    · exact ⟨_, _, rfl, by decide, by decide +kernel, key 1 (by decide) (by decide)⟩
    · exact ⟨_, _, rfl, by decide, by decide +kernel, key 2 (by decide) (by decide)⟩
    · exact ⟨_, _, rfl, by decide, by decide +kernel, key 3 (by decide) (by decide)⟩
def g_plus (xs : List D) (Q : D → Prop) : Prop := ∃ n m x y, xs = [x, y] ∧ AmtD n x ∧ AmtD m y ∧ n + m ≤ 9000 ∧ Q (plusD x y)
def g_times (xs : List D) (Q : D → Prop) : Prop := ∃ n m x y, xs = [x, y] ∧ AmtD n x ∧ AmtD m y ∧ n + m ≤ 9000 ∧ Q (timesD x y)
theorem amt_pos {n : Nat} {a b : Int} (A : Amt n a b) : 0 < n := by
  rcases Nat.eq_zero_or_pos n with e | e
  · have h1 := A.hb
    have h2 := A.pos
    rw [e] at h1
    omega
  · exact e
theorem plus_facts {n m : Nat} {a b c d : Int} (A : Amt n a b) (B : Amt m c d) (hn : n + m ≤ 9000) : CMulW a d ∧ CMulW c b ∧ CMulW b d ∧ b * d ≠ 0 ∧ (b * d).natAbs < 2 ^ 9000 := by
  have h0 := amt_pos A
  have h1 := amt_pos B
  have h := Int.mul_pos A.pos B.pos
  exact ⟨wide_mul A.ha B.hb h0 h1 (by omega), wide_mul B.ha A.hb h1 h0 (by omega), wide_mul A.hb B.hb h0 h1 (by omega), by omega, pow_up (mul_lt A.hb B.hb) (by omega)⟩
theorem times_facts {n m : Nat} {a b c d : Int} (A : Amt n a b) (B : Amt m c d) (hn : n + m ≤ 9000) : CMulW a c ∧ CMulW b d ∧ b * d ≠ 0 ∧ (b * d).natAbs < 2 ^ 9000 := by
  have h0 := amt_pos A
  have h1 := amt_pos B
  have h := Int.mul_pos A.pos B.pos
  exact ⟨wide_mul A.ha B.ha h0 h1 (by omega), wide_mul A.hb B.hb h0 h1 (by omega), by omega, pow_up (mul_lt A.hb B.hb) (by omega)⟩
theorem ok_l_plus (T : Tx K mg) : FnOk P w K mg base CX0 3 T.f_l_plus T.fd_l_plus ["_law_one", "_law_other"] (spD K W g_plus) := by
  refine vfn T.F_l_plus sc_l_plus (fun ds Q h => ?_) ⟨_, fun cdv A outer s H E hr => (vss_one (vs_ret (ve_call (ok_l_ratio T) (hr.mono (by decide)) (by rfl) T.g_l_ratio T.F_l_ratio.kp T.B_l_ratio .nil pass0 (fun _ _ => reps_nil) (va_cons (ve_addA (ve_mul (ve_ixA hr.units (ve_var 0) ve_int) (ve_ixA hr.units (ve_var 1) ve_int)) (ve_mul (ve_ixA hr.units (ve_var 1) ve_int) (ve_ixA hr.units (ve_var 0) ve_int))) (va_cons (ve_mul (ve_ixA hr.units (ve_var 0) ve_int) (ve_ixA hr.units (ve_var 1) ve_int)) va_nil))))), fun ds Q h => ?_⟩
  · obtain ⟨_, _, _, _, rfl, _⟩ := h
    rfl
  · obtain ⟨n, m, x, y, rfl, ⟨a, b, rfl, A⟩, ⟨c, d, rfl, B⟩, hn, h⟩ := h
    obtain ⟨f1, f2, f3, f4, f5⟩ := plus_facts A B hn
    exact ⟨_, rfl, _, rfl, f1, _, rfl, _, rfl, f2, _, rfl, _, rfl, f3, _, _, rfl, f4, f5, h⟩
theorem ok_l_factor (T : Tx K mg) (r c : Addr) : FnOk P w K mg base CX0 3 T.f_l_factor T.fd_l_factor ["_law_rng"] (spD K (rngW r c) (g_some r 2)) := by
  refine vfn T.F_l_factor sc_l_factor (fun ds Q h => ?_) ⟨_, fun cdv A outer s H E hr => (vss_one (vs_ret (ve_call (ok_l_choice T r c) (hr.mono (by decide)) (by rfl) T.g_l_choice T.F_l_choice.kp T.B_l_choice .nil pass0 (fun _ _ => reps_nil) (va_cons (ve_var 0) (va_cons (ve_lst (va_cons (ve_tup (va_cons ve_int (va_cons ve_int va_nil))) (va_cons (ve_tup (va_cons ve_int (va_cons ve_int va_nil))) (va_cons (ve_tup (va_cons (ve_neg ve_int) (va_cons ve_int va_nil))) (va_cons (ve_tup (va_cons ve_int (va_cons ve_int va_nil))) (va_cons (ve_tup (va_cons (ve_neg ve_int) (va_cons ve_int va_nil))) va_nil)))))) va_nil))))), fun ds Q h => ?_⟩
  · rw [h.1]
    rfl
  · obtain ⟨rfl, h⟩ := h
    refine ⟨Nat.le_of_ble_eq_true rfl, Nat.le_of_ble_eq_true rfl, Nat.le_of_ble_eq_true rfl, Nat.le_of_ble_eq_true rfl, Nat.le_of_ble_eq_true rfl, Nat.le_of_ble_eq_true rfl, _, rfl, Nat.le_of_ble_eq_true rfl, Nat.le_of_ble_eq_true rfl, fun d hd => ?_⟩
    simp only [List.mem_cons, List.not_mem_nil, or_false] at hd
    rcases hd with rfl | rfl | rfl | rfl | rfl <;> exact h _ _ ⟨by decide, by decide, by decide, by decide⟩
theorem str_app (a b : Str) : (a ++ b).cps.toList = a.cps.toList ++ b.cps.toList := TL.tl_append a b
theorem str_len (a : Str) : a.length = a.cps.toList.length := by simp [Str.length]
theorem sgn_join : ∀ cs : List Nat, (Txt.join ⟨#[]⟩ (cs.map fun c => (⟨#[c]⟩ : Str))).cps.toList = cs := fun cs => by
  rw [TL.join_eq]
  show TL.tl (Str.join _ _) = _
  rw [TL.tl_join]
  have : ∀ cs : List Nat, TL.joinL [] (cs.map fun c => [c]) = cs := fun cs => by
    induction cs with
    | nil => rfl
    | cons a r ih =>
      cases r with
      | nil => rfl
      | cons b r =>
        show [a] ++ ([] ++ TL.joinL [] ((b :: r).map fun c => [c])) = _
        rw [ih]
        rfl
  rw [List.map_map]
  exact this cs
theorem all2_sgn {S : Nat → Prop} {items ys : List D} (h : All2 (fun _ y => ∃ c, S c ∧ y = D.str ⟨#[c]⟩) items ys) : ∃ cs : List Nat, ys = (cs.map fun c => (⟨#[c]⟩ : Str)).map D.str ∧ cs.length = items.length ∧ ∀ c ∈ cs, S c := by
  induction h with
  | nil => exact ⟨[], rfl, rfl, fun c h => by cases h⟩
  | cons h _ ih =>
    obtain ⟨c, hc, rfl⟩ := h
    obtain ⟨cs, rfl, h2, h3⟩ := ih
    refine ⟨c :: cs, rfl, by simp [h2], fun x hx => ?_⟩
    rcases List.mem_cons.mp hx with e | hx
    · rw [e]; exact hc
    · exact h3 x hx
theorem sum_sgn (cs : List Nat) : ((cs.map fun c => (⟨#[c]⟩ : Str)).map (·.length)).sum = cs.length := by
  induction cs with
  | nil => rfl
  | cons a r ih =>
    show 1 + ((r.map fun c => (⟨#[c]⟩ : Str)).map (·.length)).sum = _
    rw [ih, List.length_cons, Nat.add_comm]
theorem cut_list (z : Str) (lo hi : Option Int) : (cutS z lo hi).cps.toList = (z.cps.toList.drop (HT.sIx z.length 0 lo)).take (HT.sIx z.length z.length hi - HT.sIx z.length 0 lo) := rfl
theorem nm_of {z : Str} {a c : Nat} (hz : z.length ≤ 7) (hs : ∀ x ∈ z.cps.toList, x ∈ abcL) (hc : c ∈ abcL) (ha : a ≤ z.length) : nmS (cutS z none (some (a : Int)) ++ ⟨#[c]⟩ ++ cutS z (some (a : Int)) none) = true := by
  have e1 : HT.sIx z.length z.length (some (a : Int)) = a := by
    unfold HT.sIx
    simp only
    rw [if_neg (by omega)]
    omega
  have e2 : HT.sIx z.length 0 (some (a : Int)) = a := by
    unfold HT.sIx
    simp only
    rw [if_neg (by omega)]
    omega
  have l0 := str_len z
  have L : (cutS z none (some (a : Int)) ++ ⟨#[c]⟩ ++ cutS z (some (a : Int)) none).cps.toList = z.cps.toList.take a ++ [c] ++ z.cps.toList.drop a := by
    rw [str_app, str_app, cut_list, cut_list, e1, e2]
    show ((z.cps.toList.drop 0).take (a - 0) ++ [c]) ++ (z.cps.toList.drop a).take (z.length - a) = _
    rw [List.drop_zero, Nat.sub_zero, List.take_of_length_le (l := z.cps.toList.drop a) (by rw [List.length_drop]; omega)]
  unfold nmS
  rw [str_len, L]
  have hl : (z.cps.toList.take a ++ [c] ++ z.cps.toList.drop a).length = z.length + 1 := by
    rw [List.length_append, List.length_append, List.length_take, List.length_drop, List.length_singleton]
    omega
  rw [hl, decide_eq_true (show 1 ≤ z.length + 1 by omega), decide_eq_true (show z.length + 1 ≤ 8 by omega), Bool.true_and, Bool.true_and, List.all_eq_true]
  intro x hx
  refine decide_eq_true ?_
  rcases List.mem_append.mp hx with hx | hx
  · rcases List.mem_append.mp hx with hx | hx
    · exact hs x (List.mem_of_mem_take hx)
    · rw [List.mem_singleton.mp hx]; exact hc
  · exact hs x (List.mem_of_mem_drop hx)
def g_names (r : Addr) (xs : List D) (Q : D → Prop) : Prop := ∃ m : Int, xs = [.hnd (.ref r), .int m] ∧ 0 ≤ m ∧ m ≤ 26 ∧ ∀ ss : List Str, ss.length = m.toNat → (∀ s ∈ ss, nmS s = true) → Q (.lst (ss.map .str))
theorem all2_nm {S : Str → Prop} {items ys : List D} (h : All2 (fun _ y => ∃ c, S c ∧ y = D.str c) items ys) : ∃ cs : List Str, ys = cs.map D.str ∧ cs.length = items.length ∧ ∀ c ∈ cs, S c := by
  induction h with
  | nil => exact ⟨[], rfl, rfl, fun c h => by cases h⟩
  | cons h _ ih =>
    obtain ⟨c, hc, rfl⟩ := h
    obtain ⟨cs, rfl, h2, h3⟩ := ih
    refine ⟨c :: cs, rfl, by simp [h2], fun x hx => ?_⟩
    rcases List.mem_cons.mp hx with e | hx
    · rw [e]; exact hc
    · exact h3 x hx
theorem rng_len (lo : Int) (n : Nat) : (rngD lo n).length = n := by simp [rngD]
theorem rng_mem {lo : Int} {n : Nat} {d : D} (h : d ∈ rngD lo n) : ∃ k : Int, d = .int k ∧ lo ≤ k ∧ k < lo + n := by
  unfold rngD at h
  obtain ⟨i, hi, rfl⟩ := List.mem_map.mp h
  have := List.mem_range.mp hi
  exact ⟨_, rfl, by omega, by omega⟩
theorem abc_len : abcS.cps.toList.length = 26 := by decide +kernel
theorem abc_at {i : Int} (h0 : -26 ≤ i) (h1 : i < 26) : ∃ c, atI abcS.cps.toList i = some c ∧ c ∈ abcL := by
  have key : ∀ j : Nat, j < 52 → ∃ c ∈ abcL, atI abcS.cps.toList ((j : Int) - 26) = some c := by decide +kernel
  obtain ⟨c, h2, h3⟩ := key (i + 26).toNat (by omega)
  rw [show (((i + 26).toNat : Nat) : Int) - 26 = i by omega] at h3
  exact ⟨c, h3, h2⟩
theorem ok_l_names (T : Tx K mg) (r c : Addr) : FnOk P w K mg base CX0 3 T.f_l_names T.fd_l_names ["_law_rng", "_law_many"] (spD K (rngW r c) (g_names r)) := by
  refine vfn T.F_l_names sc_l_names (fun ds Q h => ?_) ⟨_, fun cdv A outer s H E hr => (vss_cons (vs_set 2 sc_l_names.nd ve_str) (vss_cons (vs_set 3 sc_l_names.nd (ve_join ve_str (ve_lc (own := [("_law_k", 6)]) rfl sc_l_names.nd (vi_range1 (by rfl) T.n_range (ve_call (ok_l_draw T r c) (hr.mono (by decide)) (by rfl) T.g_l_draw T.F_l_draw.kp T.B_l_draw .nil pass0 (fun _ _ => reps_nil) (va_cons (ve_var 0) (va_cons ve_int va_nil)))) (blkOk_by (N := ["_law_rng", "_law_many", "_law_abc", "_law_stem", "_law_at", "_law_first", "_law_k"]) (sc := defScope s_l_names) (by decide +kernel)) (fun _ _ _ _ _ => (vg_name 6 sc_l_names.nd (by decide))) (fun _ _ _ _ _ => vts_nil) (fun sB HB CB clB fpB => (ve_call (ok_l_choice T r c) (hr.mono (by decide)) (by rfl) T.g_l_choice T.F_l_choice.kp T.B_l_choice .nil pass0 (fun _ _ => reps_nil) (va_cons (ve_var 0) (va_cons (ve_var 2) va_nil))))))) (vss_cons (vs_asg (vs := [4, 5]) (ve_tup (va_cons (ve_call (ok_l_draw T r c) (hr.mono (by decide)) (by rfl) T.g_l_draw T.F_l_draw.kp T.B_l_draw .nil pass0 (fun _ _ => reps_nil) (va_cons (ve_var 0) (va_cons (ve_addA (ve_callB call_len lift_len (by rfl) T.n_len bt_len (va_cons (ve_var 3) va_nil)) ve_int) va_nil))) (va_cons (ve_call (ok_l_draw T r c) (hr.mono (by decide)) (by rfl) T.g_l_draw T.F_l_draw.kp T.B_l_draw .nil pass0 (fun _ _ => reps_nil) (va_cons (ve_var 0) (va_cons ve_int va_nil))) va_nil))) (vg_tup (n := 2) rfl (vgs_cons (vg_name 4 sc_l_names.nd (by decide)) (vgs_cons (vg_name 5 sc_l_names.nd (by decide)) vgs_nil)))) (vss_one (vs_ret (ve_lc (own := [("_law_k", 6)]) rfl sc_l_names.nd (vi_range1 (by rfl) T.n_range (ve_var 1)) (blkOk_by (N := ["_law_rng", "_law_many", "_law_abc", "_law_stem", "_law_at", "_law_first", "_law_k"]) (sc := defScope s_l_names) (by decide +kernel)) (fun _ _ _ _ _ => (vg_name 6 sc_l_names.nd (by decide))) (fun _ _ _ _ _ => vts_nil) (fun sB HB CB clB fpB => (ve_addA (ve_addA (ve_slice (ve_var 3) vo_none (vo_some (ve_var 4))) (ve_ixA hr.units (ve_var 2) (ve_sub (ve_addA (ve_var 5) (ve_var 6)) ve_int))) (ve_slice (ve_var 3) (vo_some (ve_var 4)) vo_none))))))))), fun ds Q h => ?_⟩
  · obtain ⟨m, rfl, _⟩ := h
    rfl
  · obtain ⟨m, rfl, hm0, hm1, h⟩ := h
    refine ⟨rfl, rfl, 8, rfl, by decide, by decide, fun k k0 k1 => ⟨by omega, by omega, ?_⟩⟩
    refine lcR (fun _ y => ∃ c, c ∈ abcL ∧ y = D.str ⟨#[c]⟩) (fun d hd R hR => ?_) (fun ys hys => ?_)
    · exact ⟨_, rfl, by decide, by decide, fun c hc => hR _ ⟨c, hc, rfl⟩⟩
    obtain ⟨cs, rfl, hl, hc⟩ := all2_sgn hys
    rw [rng_len] at hl
    have e0 : (Str.ofString "").length = 0 := by decide
    refine ⟨_, rfl, by rw [sum_sgn, e0]; omega, ?_⟩
    have hj := sgn_join cs
    generalize hz : (Txt.join ⟨#[]⟩ (cs.map fun c => (⟨#[c]⟩ : Str))) = z at hj
    have hz2 : Txt.join (Str.ofString "") (cs.map fun c => (⟨#[c]⟩ : Str)) = z := hz
    have zl : z.length ≤ 7 := by rw [str_len, hj, hl]; omega
    have zs : ∀ x ∈ z.cps.toList, x ∈ abcL := by rw [hj]; exact hc
    rw [hz2]
    refine ⟨(by rw [sizeLine_eq]; omega), (z.length : Int) + 1, rfl, by omega, by omega, fun a a0 a1 => ⟨26, rfl, by decide, by decide, fun f f0 f1 => ?_⟩⟩
    refine ⟨Nat.le_of_ble_eq_true rfl, rfl, rfl, by omega, by omega, ?_⟩
    refine lcR (fun _ y => ∃ s, nmS s = true ∧ y = D.str s) (fun d hd R hR => ?_) (fun ys hys => ?_)
    · obtain ⟨k, rfl, k0, k1⟩ := rng_mem hd
      have e26 : (abcS.length) ≤ sizeLine := by rw [sizeLine_eq]; decide +kernel
      obtain ⟨ch, h3, h4⟩ := abc_at (i := f + k - 26) (by omega) (by omega)
      obtain ⟨j, rfl⟩ := Int.eq_ofNat_of_zero_le a0
      have key := nm_of zl zs h4 (show j ≤ z.length by omega)
      have c1 := cutS_length z none (some (j : Int))
      have c2 := cutS_length z (some (j : Int)) none
      have zz : z.length ≤ sizeLine := by rw [sizeLine_eq]; omega
      refine ⟨zz, e26, ch, h3, ?_, zz, ?_, hR _ ⟨_, key, rfl⟩⟩
      · show (cutS z none (some (j : Int))).length + 1 ≤ sizeLine
        rw [sizeLine_eq]; omega
      · rw [str_len, str_app, List.length_append, ← str_len, ← str_len, sizeLine_eq]
        show (cutS z none (some (j : Int))).length + 1 + _ ≤ _
        omega
    · obtain ⟨ss, rfl, hl, hs⟩ := all2_nm hys
      rw [rng_len] at hl
      exact h ss hl hs
def g_is_integer (xs : List D) (Q : D → Prop) : Prop := ∃ x, xs = [x] ∧ noHnd x = true ∧ Q (.bl (isTy .int x && !isTy .bool x))
theorem ok_is_integer (T : Tx K mg) : FnOk P w K mg base CX0 1 T.f_is_integer T.fd_is_integer ["value"] (spD K W g_is_integer) := by
  refine vfn T.F_is_integer sc_is_integer (fun ds Q h => ?_) ⟨_, fun cdv A outer s H E hr => (vss_one (vs_ret (ve_and (ve_isi .int (by rfl) T.n_isinstance bt_isinstance (ve_var 0) (by rfl) T.n_int bt_int) (ve_one (ve_not (ve_isi .bool (by rfl) T.n_isinstance bt_isinstance (ve_var 0) (by rfl) T.n_bool bt_bool)))))), fun ds Q h => ?_⟩
  · obtain ⟨x, rfl, _⟩ := h
    rfl
  · obtain ⟨x, rfl, h1, h⟩ := h
    refine ⟨h1, ?_⟩
    cases e : isTy .int x with
    | true => rw [e] at h; exact ⟨h1, h⟩
    | false => rw [e] at h; exact h
def g_common_divisor (xs : List D) (Q : D → Prop) : Prop := ∃ a b : Int, xs = [.int a, .int b] ∧ 0 ≤ a ∧ 0 ≤ b ∧ Q (.int (Int.gcd a b))
theorem ok_common_divisor (T : Tx K mg) : FnOk P w K mg base CX0 1 T.f_common_divisor T.fd_common_divisor ["one", "other"] (spD K W g_common_divisor) := by
  refine vfn T.F_common_divisor sc_common_divisor (fun ds Q h => ?_) ⟨_, fun cdv A outer s H E hr => (vss_cons (vs_while PassesOwn.never (vt_cmp (op_neA hr.units) lift_ne (ve_var 1) ve_int (nomark _)) (vss_one (vs_par 0 1 rfl sc_common_divisor.nd (by decide) (ve_var 1) (ve_mod (ve_var 0) (ve_var 1))))) (vss_one (vs_ret (ve_var 0)))), fun ds Q h => ?_⟩
  · obtain ⟨a, b, rfl, _⟩ := h
    rfl
  · obtain ⟨a, b, rfl, ha, hb, h⟩ := h
    refine ⟨fun m ds => ∃ x y : Int, ds = [.d (.int x), .d (.int y)] ∧ 0 ≤ x ∧ 0 ≤ y ∧ m = y.toNat ∧ Int.gcd x y = Int.gcd a b, ⟨_, a, b, rfl, ha, hb, rfl, rfl⟩, ?_⟩
    rintro m ds ⟨x, y, rfl, hx, hy, rfl, e⟩
    refine vifn (fun h0 => ⟨h0, ?_⟩) (fun h0 => ?_)
    · have hm := fm0 x (show 0 < y by omega)
      have hl := fm1 x (show 0 < y by omega)
      exact ⟨_, by omega, _, _, rfl, hy, hm, rfl, (gcd_step hx hy).trans e⟩
    · subst h0
      rw [← e, gcd_zero hx] at h
      exact h
def g_is_amount (xs : List D) (Q : D → Prop) : Prop := ∃ x, xs = [x] ∧ plain x = true ∧ Q (.bl (isAmt x))
theorem ok_is_amount (T : Tx K mg) : FnOk P w K mg base CX0 2 T.f_is_amount T.fd_is_amount ["value"] (spD K W g_is_amount) := by
  refine vfn T.F_is_amount sc_is_amount (fun ds Q h => ?_) ⟨_, fun cdv A outer s H E hr => (vss_cons (vs_if (vt_w (vw_or (vt_not (vt_val (ve_isi .tuple (by rfl) T.n_isinstance bt_isinstance (ve_var 0) (by rfl) T.n_tuple bt_tuple))) (vw_or (vt_cmp (op_neA hr.units) lift_ne (ve_callB call_len lift_len (by rfl) T.n_len bt_len (va_cons (ve_var 0) va_nil)) ve_int (nomark _)) (vw_or1 (vt_not (vt_val (ve_callB (cr_all (by rfl)) lift_all (by rfl) T.n_all bt_all (va_cons (ve_lc (own := [("part", 1)]) rfl sc_is_amount.nd (vi_its (ve_var 0)) (blkOk_by (N := ["value", "part"]) (sc := defScope s_is_amount) (by decide +kernel)) (fun _ _ _ _ _ => (vg_name 1 sc_is_amount.nd (by decide))) (fun _ _ _ _ _ => vts_nil) (fun sB HB CB clB fpB => (ve_call (ok_is_integer T) (hr.mono (by decide)) (by rfl) T.g_is_integer T.F_is_integer.kp T.B_is_integer .nil pass0 (fun _ _ => reps_nil) (va_cons (ve_var 1) va_nil)))) va_nil)))))))) (vss_one (vs_ret ve_bl)) vss_nil) (vss_one (vs_ret (ve_and (ve_cmp op_gt lift_iib (ve_ixA hr.units (ve_var 0) ve_int) ve_int (nomark _)) (ve_one (ve_cmp (op_eqA hr.units) lift_eq (ve_call (ok_common_divisor T) (hr.mono (by decide)) (by rfl) T.g_common_divisor T.F_common_divisor.kp T.B_common_divisor .nil pass0 (fun _ _ => reps_nil) (va_cons (ve_callB call_abs lift_abs (by rfl) T.n_abs bt_abs (va_cons (ve_ixA hr.units (ve_var 0) ve_int) va_nil)) (va_cons (ve_ixA hr.units (ve_var 0) ve_int) va_nil))) ve_int (nomark _))))))), fun ds Q h => ?_⟩
  · obtain ⟨a, rfl, _⟩ := h
    rfl
  · obtain ⟨x, rfl, h1, h⟩ := h
    cases x with
    | tup ds =>
      have hp := plains_all (plain_tup h1)
      match ds, h, hp with
      | [], h, _ => exact ⟨rfl, h⟩
      | [a], h, _ => exact ⟨rfl, h⟩
      | a :: b :: c :: r, h, _ => exact ⟨rfl, h⟩
      | [a, b], h, hp =>
        refine ⟨rfl, rfl, ?_⟩
        conv => whnf
        refine lcF (fun d => .bl (isI d)) (fun d hd R hR => ?_) ?_
        · exact ⟨d, rfl, plain_nh (hp d hd), hR⟩
        refine ⟨[isI a, isI b], rfl, ?_⟩
        rcases isI_cases a with ⟨i, rfl⟩ | ha
        · rcases isI_cases b with ⟨j, rfl⟩ | hb
          · refine ⟨_, rfl, ?_⟩
            refine vifd (fun hj => ?_) (fun hj => ?_)
            · refine ⟨_, rfl, _, rfl, iabs i, j, rfl, iabs_nonneg i, by omega, ?_⟩
              rw [gcd_absl]
              rw [amt2_int hj] at h
              exact h
            · rw [amt2_not hj] at h
              exact h
          · rw [amt2_r hb] at h
            rw [show [isI (D.int i), isI b].all id = false by rw [hb]; rfl]
            exact h
        · rw [amt2_l ha] at h
          rw [show [isI a, isI b].all id = false by rw [ha]; rfl]
          exact h
    | hnd v => cases h1
    | dic _ _ => cases h1
    | ins _ _ _ => cases h1
    | lam _ _ => cases h1
    | _ => exact ⟨rfl, h⟩
def g_is_name (xs : List D) (Q : D → Prop) : Prop := ∃ x, xs = [x] ∧ tame x = true ∧ Q (.bl (isName x))
theorem tame_str {s : Str} (h : tame (.str s) = true) : s.length ≤ 1000 := by
  unfold tame at h
  exact of_decide_eq_true h
def sgnIn : D → Bool
  | .str z => decide (z.cps.toList.headD 0 ∈ abcL)
  | _ => false
theorem sgns_mem {s : Str} {d : D} (h : d ∈ sgns s) : ∃ c ∈ s.cps.toList, d = .str ⟨#[c]⟩ := by
  unfold sgns at h
  obtain ⟨c, hc, rfl⟩ := List.mem_map.mp h
  exact ⟨c, hc, rfl⟩
theorem sgns_in (s : Str) : (sgns s).map (fun d => D.bl (sgnIn d)) = (s.cps.toList.map fun c => decide (c ∈ abcL)).map D.bl := by
  unfold sgns
  rw [List.map_map, List.map_map]
  rfl
theorem all_map {α : Type} (l : List α) (f : α → Bool) : (l.map f).all id = l.all f := by
  rw [List.all_map]
  rfl
theorem nmS_len {s : Str} (h : ¬ ((1 : Int) ≤ s.length ∧ (s.length : Int) ≤ 8)) : nmS s = false := by
  unfold nmS
  by_cases h1 : 1 ≤ s.length
  · rw [decide_eq_false (show ¬ s.length ≤ 8 by omega), Bool.and_false, Bool.false_and]
  · rw [decide_eq_false h1, Bool.false_and, Bool.false_and]
theorem nmS_all {s : Str} (h1 : (1 : Int) ≤ s.length) (h2 : (s.length : Int) ≤ 8) : nmS s = s.cps.toList.all fun c => decide (c ∈ abcL) := by
  unfold nmS
  rw [decide_eq_true (show 1 ≤ s.length by omega), decide_eq_true (show s.length ≤ 8 by omega)]
  rfl
theorem ok_is_name (T : Tx K mg) : FnOk P w K mg base CX0 1 T.f_is_name T.fd_is_name ["value"] (spD K W g_is_name) := by
  refine vfn T.F_is_name sc_is_name (fun ds Q h => ?_) ⟨_, fun cdv A outer s H E hr => (vss_cons (vs_if (vt_w (vw_or (vt_not (vt_val (ve_isi .str (by rfl) T.n_isinstance bt_isinstance (ve_var 0) (by rfl) T.n_str bt_str))) (vw_or1 (vt_not (vt_chain op_le op_le lift_iib lift_iib ve_int (ve_callB call_len lift_len (by rfl) T.n_len bt_len (va_cons (ve_var 0) va_nil)) (ve_glob (by rfl) T.c_MOST_LETTERS T.r_MOST_LETTERS T.w_MOST_LETTERS)))))) (vss_one (vs_ret ve_bl)) vss_nil) (vss_one (vs_ret (ve_callB (cr_all (by rfl)) lift_all (by rfl) T.n_all bt_all (va_cons (ve_lc (own := [("letter", 1)]) rfl sc_is_name.nd (vi_its (ve_var 0)) (blkOk_by (N := ["value", "letter"]) (sc := defScope s_is_name) (by decide +kernel)) (fun _ _ _ _ _ => (vg_name 1 sc_is_name.nd (by decide))) (fun _ _ _ _ _ => vts_nil) (fun sB HB CB clB fpB => (ve_cmp op_in_sign lift_inS (ve_var 1) (ve_glob (by rfl) T.c_LETTERS T.r_LETTERS T.w_LETTERS) (by rfl)))) va_nil))))), fun ds Q h => ?_⟩
  · obtain ⟨a, rfl, _⟩ := h
    rfl
  · obtain ⟨x, rfl, h1, h⟩ := h
    cases x with
    | str s =>
      have hl := tame_str h1
      have hs : s.length ≤ sizeLine := by rw [sizeLine_eq]; omega
      refine ⟨rfl, ?_⟩
      refine ⟨hs, ?_⟩
      have fls : ¬ ((1 : Int) ≤ s.length ∧ (s.length : Int) ≤ 8) → Q (.bl false) := fun n => by
        have h : Q (.bl (nmS s)) := h
        rw [nmS_len n] at h
        exact h
      refine vifd (fun a1 => ?_) (fun a0 => fls fun z => a0 z.1)
      refine vifn (fun a0 => fls fun z => a0 z.2) (fun a2 => ?_)
      refine ⟨rfl, hs, ?_⟩
      refine lcF (fun d => .bl (sgnIn d)) (fun d hd R hR => ?_) ?_
      · obtain ⟨c, hc, rfl⟩ := sgns_mem hd
        exact ⟨c, rfl, hR⟩
      refine ⟨_, sgns_in s, ?_⟩
      rw [all_map, ← nmS_all a1 a2]
      exact h
    | hnd v => cases h1
    | dic _ _ => cases h1
    | ins _ _ _ => cases h1
    | lam _ _ => cases h1
    | _ => exact ⟨rfl, h⟩
def g_is_term (xs : List D) (Q : D → Prop) : Prop := ∃ x, xs = [x] ∧ tame x = true ∧ Q (.bl (isTerm x))
theorem ok_is_term (T : Tx K mg) : FnOk P w K mg base CX0 3 T.f_is_term T.fd_is_term ["value"] (spD K W g_is_term) := by
  refine vfn T.F_is_term sc_is_term (fun ds Q h => ?_) ⟨_, fun cdv A outer s H E hr => (vss_one (vs_ret (ve_and (ve_isi .tuple (by rfl) T.n_isinstance bt_isinstance (ve_var 0) (by rfl) T.n_tuple bt_tuple) (ve_and (ve_cmp (op_eqA hr.units) lift_eq (ve_callB call_len lift_len (by rfl) T.n_len bt_len (va_cons (ve_var 0) va_nil)) ve_int (nomark _)) (ve_and (ve_call (ok_is_name T) (hr.mono (by decide)) (by rfl) T.g_is_name T.F_is_name.kp T.B_is_name .nil pass0 (fun _ _ => reps_nil) (va_cons (ve_ixA hr.units (ve_var 0) ve_int) va_nil)) (ve_one (ve_call (ok_is_amount T) (hr.mono (by decide)) (by rfl) T.g_is_amount T.F_is_amount.kp T.B_is_amount .nil pass0 (fun _ _ => reps_nil) (va_cons (ve_ixA hr.units (ve_var 0) ve_int) va_nil)))))))), fun ds Q h => ?_⟩
  · obtain ⟨a, rfl, _⟩ := h
    rfl
  · obtain ⟨x, rfl, h1, h⟩ := h
    cases x with
    | tup ds =>
      have hp := (tame_tup.mp h1).2
      match ds, h, hp with
      | [], h, _ => exact ⟨rfl, h⟩
      | [a], h, _ => exact ⟨rfl, h⟩
      | a :: b :: c :: r, h, _ => exact ⟨rfl, h⟩
      | [a, b], h, hp =>
        have ta := hp a (by simp)
        have tb := hp b (by simp)
        refine ⟨rfl, a, rfl, a, rfl, ta, ?_⟩
        have h : Q (.bl (isName a && isAmt b)) := h
        cases e : isName a with
        | false => rw [e] at h; exact h
        | true => rw [e] at h; exact ⟨b, rfl, b, rfl, tame_plain tb, h⟩
    | hnd v => cases h1
    | dic _ _ => cases h1
    | ins _ _ _ => cases h1
    | lam _ _ => cases h1
    | _ => exact ⟨rfl, h⟩
def g_is_form (xs : List D) (Q : D → Prop) : Prop := ∃ x, xs = [x] ∧ tame x = true ∧ Q (.bl (isForm x))
theorem goodT_false {t : D} (h : isTerm t = false) : goodT t = false := by
  unfold goodT
  rw [h]
  rfl
theorem isTerm_cases {t : D} (h : isTerm t = true) : ∃ s a b, t = .tup [.str s, .tup [.int a, .int b]] ∧ nmS s = true ∧ isAmt (.tup [.int a, .int b]) = true := by
  unfold isTerm at h
  split at h
  · rename_i x y
    obtain ⟨h3, h4⟩ := Bool.and_eq_true_iff.mp h
    obtain ⟨a, b, rfl⟩ := amt_cases h4
    cases x with
    | str s => exact ⟨s, a, b, rfl, h3, h4⟩
    | _ => cases h3
  · cases h
theorem ok_is_form (T : Tx K mg) : FnOk P w K mg base CX0 4 T.f_is_form T.fd_is_form ["value"] (spD K W g_is_form) := by
  refine vfn T.F_is_form sc_is_form (fun ds Q h => ?_) ⟨_, fun cdv A outer s H E hr => (vss_cons (vs_if (vt_w (vw_or (vt_not (vt_val (ve_isi .tuple (by rfl) T.n_isinstance bt_isinstance (ve_var 0) (by rfl) T.n_tuple bt_tuple))) (vw_or (vt_cmp (op_neA hr.units) lift_ne (ve_callB call_len lift_len (by rfl) T.n_len bt_len (va_cons (ve_var 0) va_nil)) ve_int (nomark _)) (vw_or (vt_not (vt_val (ve_isi .tuple (by rfl) T.n_isinstance bt_isinstance (ve_ixA hr.units (ve_var 0) ve_int) (by rfl) T.n_tuple bt_tuple))) (vw_or1 (vt_not (vt_val (ve_call (ok_is_amount T) (hr.mono (by decide)) (by rfl) T.g_is_amount T.F_is_amount.kp T.B_is_amount .nil pass0 (fun _ _ => reps_nil) (va_cons (ve_ixA hr.units (ve_var 0) ve_int) va_nil))))))))) (vss_one (vs_ret ve_bl)) vss_nil) (vss_cons (vs_if (vt_not (vt_val (ve_callB (cr_all (by rfl)) lift_all (by rfl) T.n_all bt_all (va_cons (ve_lc (own := [("term", 4)]) rfl sc_is_form.nd (vi_its (ve_ixA hr.units (ve_var 0) ve_int)) (blkOk_by (N := ["value", "names", "name", "factor", "term", "one", "other"]) (sc := defScope s_is_form) (by decide +kernel)) (fun _ _ _ _ _ => (vg_name 4 sc_is_form.nd (by decide))) (fun _ _ _ _ _ => vts_nil) (fun sB HB CB clB fpB => (ve_and (ve_call (ok_is_term T) (hr.mono (by decide)) (by rfl) T.g_is_term T.F_is_term.kp T.B_is_term .nil pass0 (fun _ _ => reps_nil) (va_cons (ve_var 4) va_nil)) (ve_one (ve_cmp (op_neA hr.units) lift_ne (ve_ixA hr.units (ve_var 4) ve_int) (ve_glob (by rfl) T.c_ZERO T.r_ZERO T.w_ZERO) (nomark _)))))) va_nil)))) (vss_one (vs_ret ve_bl)) vss_nil) (vss_cons (vs_setLc 1 (own := [("name", 2), ("factor", 3)]) rfl sc_is_form.nd rfl rfl (sw_true rfl rfl rfl (by decide +kernel)) (vi_its (ve_ixA hr.units (ve_var 0) ve_int)) (blkOk_by (N := ["value", "names", "name", "factor", "term", "one", "other"]) (sc := defScope s_is_form) (by decide +kernel)) (fun _ _ _ _ _ => (vg_tup (n := 2) rfl (vgs_cons (vg_name 2 sc_is_form.nd (by decide)) (vgs_cons (vg_name 3 sc_is_form.nd (by decide)) vgs_nil)))) (fun _ _ _ _ _ => vts_nil) (fun sB HB CB clB fpB => (ve_var 2))) (vss_one (vs_ret (ve_callB (cr_all (by rfl)) lift_all (by rfl) T.n_all bt_all (va_cons (ve_lc (own := [("one", 5), ("other", 6)]) rfl sc_is_form.nd (vi_zipK (by rfl) T.n_zip (ve_var 1) (ve_slice (ve_var 1) (vo_some ve_int) vo_none)) (blkOk_by (N := ["value", "names", "name", "factor", "term", "one", "other"]) (sc := defScope s_is_form) (by decide +kernel)) (fun _ _ _ _ _ => (vg_tup (n := 2) rfl (vgs_cons (vg_name 5 sc_is_form.nd (by decide)) (vgs_cons (vg_name 6 sc_is_form.nd (by decide)) vgs_nil)))) (fun _ _ _ _ _ => vts_nil) (fun sB HB CB clB fpB => (ve_cmp op_ltA lift_lt (ve_var 5) (ve_var 6) (nomark _)))) va_nil))))))), fun ds Q h => ?_⟩
  · obtain ⟨a, rfl, _⟩ := h
    rfl
  · obtain ⟨x, rfl, h1, h⟩ := h
    cases x with
    | tup ds =>
      have hp := (tame_tup.mp h1).2
      match ds, h, hp with
      | [], h, _ => exact ⟨rfl, h⟩
      | [a], h, _ => exact ⟨rfl, h⟩
      | a :: b :: c :: r, h, _ => exact ⟨rfl, h⟩
      | [a, c], h, hp =>
        have ta := hp a (by simp)
        have tc := hp c (by simp)
        refine ⟨rfl, a, rfl, plain_nh (tame_plain ta), ?_⟩
        cases a with
        | hnd v => cases ta
        | dic _ _ => cases ta
        | ins _ _ _ => cases ta
        | lam _ _ => cases ta
        | tup ts =>
          have ht := tame_tup.mp ta
          have h : Q (.bl (isAmt c && (ts.all goodT && asc (ts.map nameOf)))) := h
          refine ⟨c, rfl, c, rfl, tame_plain tc, ?_⟩
          cases e : isAmt c with
          | false => rw [e] at h; exact h
          | true =>
            rw [e] at h
            refine ⟨rfl, _, rfl, ?_⟩
            refine lcF (fun d => .bl (goodT d)) (fun d hd R hR => ?_) ?_
            · refine ⟨d, rfl, ht.2 d hd, ?_⟩
              cases e1 : isTerm d with
              | false => rw [goodT_false e1] at hR; exact hR
              | true =>
                obtain ⟨s, x, y, rfl, _, _⟩ := isTerm_cases e1
                refine ⟨_, rfl, rfl, rfl, ?_⟩
                rw [eqv_amt]
                unfold goodT at hR
                rw [e1] at hR
                exact hR
            refine ⟨ts.map goodT, by rw [List.map_map]; rfl, ?_⟩
            rw [List.all_map]
            have h : Q (.bl (ts.all goodT && asc (ts.map nameOf))) := h
            cases e2 : ts.all (id ∘ goodT) with
            | false =>
              have e2 : ts.all goodT = false := e2
              rw [e2] at h
              exact h
            | true =>
              have e2 : ts.all goodT = true := e2
              rw [e2] at h
              have hg := List.all_eq_true.mp e2
              refine ⟨rfl, _, rfl, ?_⟩
              refine lcF nameOf (fun d hd R hR => ?_) ?_
              · obtain ⟨s, f, rfl, _⟩ := goodT_of (hg d hd)
                exact ⟨rfl, hR⟩
              refine ⟨rfl, by rw [List.length_map]; omega, ?_⟩
              have hn : ∀ x ∈ ts.map nameOf, ∃ s, x = .str s := fun x hx => by
                obtain ⟨d, hd, rfl⟩ := List.mem_map.mp hx
                obtain ⟨s, f, rfl, _⟩ := goodT_of (hg d hd)
                exact ⟨s, rfl⟩
              refine lcF (fun d => .bl (pairLt d)) (fun d hd R hR => ?_) ?_
              · have hd := hd
                rw [cut_tail] at hd
                obtain ⟨x, hx, y, hy, rfl⟩ := zips_mem hd
                obtain ⟨s, rfl⟩ := hn x hx
                obtain ⟨s2, rfl⟩ := hn y (List.mem_of_mem_drop hy)
                exact ⟨rfl, hR⟩
              rw [cut_tail, zips_lt]
              refine ⟨_, rfl, ?_⟩
              rw [zip_asc]
              exact h
        | _ => exact h
    | hnd v => cases h1
    | dic _ _ => cases h1
    | ins _ _ _ => cases h1
    | lam _ _ => cases h1
    | _ => exact ⟨rfl, h⟩
theorem ok_amount (T : Tx K mg) : FnOk P w K mg base CX0 2 T.f_amount T.fd_amount ["top", "bottom"] (spD K W g_ratio) := by
  refine vfnD T.F_amount sc_amount (fun ds Q h => ?_) ⟨_, fun cdv A outer s H E hr => (vss_cons (vs_if (vt_cmp (op_eqA hr.units) lift_eq (ve_var 1) ve_int (nomark _)) (vss_one vs_never) vss_nil) (vss_cons (vs_set 2 sc_amount.nd (ve_call (ok_common_divisor T) (hr.mono (by decide)) (by rfl) T.g_common_divisor T.F_common_divisor.kp T.B_common_divisor .nil pass0 (fun _ _ => reps_nil) (va_cons (ve_callB call_abs lift_abs (by rfl) T.n_abs bt_abs (va_cons (ve_var 0) va_nil)) (va_cons (ve_callB call_abs lift_abs (by rfl) T.n_abs bt_abs (va_cons (ve_var 1) va_nil)) va_nil)))) (vss_cons (vs_if (vt_cmp op_ltA lift_lt (ve_var 1) ve_int (nomark _)) (vss_one (vs_set 2 sc_amount.nd (ve_neg (ve_var 2)))) vss_nil) (vss_one (vs_ret (ve_tup (va_cons (ve_fdiv (ve_var 0) (ve_var 2)) (va_cons (ve_fdiv (ve_var 1) (ve_var 2)) va_nil)))))))), fun ds Q h => ?_⟩
  · obtain ⟨a, b, rfl, _⟩ := h
    rfl
  · obtain ⟨t, b, rfl, hb, hl, h⟩ := h
    have d1 := ratK_div (t := t) hb hl t
    have d2 := ratK_div (t := t) hb hl b
    have eg : Int.gcd (iabs t) (iabs b) = Int.gcd t b := gcd_abs t b
    have fin : Q (.tup [.int (t.fdiv (ratK t b)), .int (b.fdiv (ratK t b))]) := h
    refine vifd (fun h0 => absurd h0 hb) (fun _ => ?_)
    refine ⟨iabs t, iabs b, rfl, iabs_nonneg t, iabs_nonneg b, ?_⟩
    rw [eg]
    refine vifd (fun h0 => ?_) (fun h0 => ?_)
    · have ek : ratK t b = -((Int.gcd t b : Nat) : Int) := by unfold ratK; rw [if_neg (by omega)]; omega
      rw [ek] at d1 d2 fin
      exact ⟨d1, d2, Nat.le_of_ble_eq_true rfl, fin⟩
    · have ek : ratK t b = ((Int.gcd t b : Nat) : Int) := by unfold ratK; rw [if_pos (by omega)]
      rw [ek] at d1 d2 fin
      exact ⟨d1, d2, Nat.le_of_ble_eq_true rfl, fin⟩
theorem ok_plus (T : Tx K mg) : FnOk P w K mg base CX0 3 T.f_plus T.fd_plus ["one", "other"] (spD K W g_plus) := by
  refine vfn T.F_plus sc_plus (fun ds Q h => ?_) ⟨_, fun cdv A outer s H E hr => (vss_one (vs_ret (ve_callD (ok_amount T) (hr.mono (by decide)) (by rfl) T.g_amount T.F_amount.kp (T.F_amount.binds1 2 1 (List.cons_ne_nil _ _) rfl (fun _ _ _ _ _ _ _ us its hu hi => match us, its, hu, hi with | [_, _], [_], _, _ => ⟨_, rfl, rfl⟩)) pass0 (fun M H => reps_nil) (va_cons (ve_addA (ve_mul (ve_ixA hr.units (ve_var 0) ve_int) (ve_ixA hr.units (ve_var 1) ve_int)) (ve_mul (ve_ixA hr.units (ve_var 1) ve_int) (ve_ixA hr.units (ve_var 0) ve_int))) (va_cons (ve_mul (ve_ixA hr.units (ve_var 0) ve_int) (ve_ixA hr.units (ve_var 1) ve_int)) va_nil))))), fun ds Q h => ?_⟩
  · obtain ⟨_, _, _, _, rfl, _⟩ := h
    rfl
  · obtain ⟨n, m, x, y, rfl, ⟨a, b, rfl, A⟩, ⟨c, d, rfl, B⟩, hn, h⟩ := h
    obtain ⟨f1, f2, f3, f4, f5⟩ := plus_facts A B hn
    exact ⟨_, rfl, _, rfl, f1, _, rfl, _, rfl, f2, _, rfl, _, rfl, f3, _, _, rfl, f4, f5, h⟩
def g_minus (xs : List D) (Q : D → Prop) : Prop := ∃ n m x y, xs = [x, y] ∧ AmtD n x ∧ AmtD m y ∧ n + m ≤ 9000 ∧ Q (minusD x y)
theorem ok_minus (T : Tx K mg) : FnOk P w K mg base CX0 3 T.f_minus T.fd_minus ["one", "other"] (spD K W g_minus) := by
  refine vfn T.F_minus sc_minus (fun ds Q h => ?_) ⟨_, fun cdv A outer s H E hr => (vss_one (vs_ret (ve_callD (ok_amount T) (hr.mono (by decide)) (by rfl) T.g_amount T.F_amount.kp (T.F_amount.binds1 2 1 (List.cons_ne_nil _ _) rfl (fun _ _ _ _ _ _ _ us its hu hi => match us, its, hu, hi with | [_, _], [_], _, _ => ⟨_, rfl, rfl⟩)) pass0 (fun M H => reps_nil) (va_cons (ve_sub (ve_mul (ve_ixA hr.units (ve_var 0) ve_int) (ve_ixA hr.units (ve_var 1) ve_int)) (ve_mul (ve_ixA hr.units (ve_var 1) ve_int) (ve_ixA hr.units (ve_var 0) ve_int))) (va_cons (ve_mul (ve_ixA hr.units (ve_var 0) ve_int) (ve_ixA hr.units (ve_var 1) ve_int)) va_nil))))), fun ds Q h => ?_⟩
  · obtain ⟨_, _, _, _, rfl, _⟩ := h
    rfl
  · obtain ⟨n, m, x, y, rfl, ⟨a, b, rfl, A⟩, ⟨c, d, rfl, B⟩, hn, h⟩ := h
    obtain ⟨f1, f2, f3, f4, f5⟩ := plus_facts A B hn
    have e : a * d - c * b = a * d + (0 - c) * b := by rw [Int.zero_sub, Int.neg_mul, Int.sub_eq_add_neg]
    refine ⟨_, rfl, _, rfl, f1, _, rfl, _, rfl, f2, _, rfl, _, rfl, f3, _, _, rfl, f4, f5, ?_⟩
    rw [e]
    exact h
def g_sign (xs : List D) (Q : D → Prop) : Prop := ∃ (a : Int) (b : D), xs = [.tup [.int a, b]] ∧ Q (.int (sgnI a))
theorem ok_sign (T : Tx K mg) : FnOk P w K mg base CX0 1 T.f_sign T.fd_sign ["one"] (spD K W g_sign) := by
  refine vfn T.F_sign sc_sign (fun ds Q h => ?_) ⟨_, fun cdv A outer s H E hr => (vss_one (vs_ret (ve_sub (ve_callTy call_int1 lift_int (by rfl) T.n_int bt_int (va_cons (ve_cmp op_gt lift_iib (ve_ixA hr.units (ve_var 0) ve_int) ve_int (nomark _)) va_nil)) (ve_callTy call_int1 lift_int (by rfl) T.n_int bt_int (va_cons (ve_cmp op_ltA lift_lt (ve_ixA hr.units (ve_var 0) ve_int) ve_int (nomark _)) va_nil))))), fun ds Q h => ?_⟩
  · obtain ⟨_, _, rfl, _⟩ := h
    rfl
  · obtain ⟨a, b, rfl, h⟩ := h
    exact ⟨_, rfl, _, rfl, h⟩
def g_atext (xs : List D) (Q : D → Prop) : Prop := ∃ n d, xs = [d] ∧ AmtD n d ∧ n ≤ 1900 ∧ Q (.str (textD d))
theorem log_lt {i : Int} {n : Nat} (h : i.natAbs < 2 ^ n) (hn : n ≤ 1900) : i.natAbs.log2 < 1920 := by
  have := PySem.Flt.log2_lt_of (k := 1920) (by decide) (Nat.lt_of_lt_of_le h (Nat.pow_le_pow_right (by decide) (by omega : n ≤ 1920)))
  exact this
theorem text_len {n : Nat} {d : D} (h : AmtD n d) (hn : n ≤ 190) : (textD d).length ≤ 1000 := by
  obtain ⟨a, b, rfl, A⟩ := h
  have e1 : (Str.ofString (toString a)).length ≤ 191 := by
    have e := int_text_length_le (k := 190) (a := a) (by decide) (PySem.Flt.log2_lt_of (by decide) (Nat.lt_of_lt_of_le A.ha (Nat.pow_le_pow_right (by decide) hn)))
    rw [PySem.ofString_length]; omega
  have e2 : (Str.ofString (toString b)).length ≤ 191 := by
    have e := int_text_length_le (k := 190) (a := b) (by decide) (PySem.Flt.log2_lt_of (by decide) (Nat.lt_of_lt_of_le A.hb (Nat.pow_le_pow_right (by decide) hn)))
    rw [PySem.ofString_length]; omega
  show Str.length (if b = 1 then _ else _) ≤ 1000
  have e3 : ("/" : Str).length = 1 := rfl
  split
  · omega
  · rw [Str.length_append, Str.length_append]; omega
theorem text_one {a : Int} {b : Int} (h : b = 1) : textD (.tup [.int a, .int b]) = Str.ofString (toString a) := if_pos h
theorem text_two {a : Int} {b : Int} (h : ¬ b = 1) : textD (.tup [.int a, .int b]) = Str.ofString (toString a) ++ ("/" : Str) ++ Str.ofString (toString b) := if_neg h
theorem lt_big {i : Int} {n : Nat} (h : i.natAbs < 2 ^ n) (hn : n ≤ 1900) : i.natAbs < 10 ^ 1000 := Nat.lt_of_lt_of_le h (Nat.le_trans (Nat.pow_le_pow_right (by decide) hn) (Nat.le_of_ble_eq_true rfl))
theorem ok_amount_text (T : Tx K mg) : FnOk P w K mg base CX0 1 T.f_amount_text T.fd_amount_text ["one"] (spD K W g_atext) := by
  refine vfn T.F_amount_text sc_amount_text (fun ds Q h => ?_) ⟨_, fun cdv A outer s H E hr => (vss_cons (vs_if (vt_w (vw_or (vt_cmp op_ge lift_iib (ve_callB call_abs lift_abs (by rfl) T.n_abs bt_abs (va_cons (ve_ixA hr.units (ve_var 0) ve_int) va_nil)) (ve_glob (by rfl) T.c_NO_TEXT T.r_NO_TEXT T.w_NO_TEXT) (nomark _)) (vw_or1 (vt_cmp op_ge lift_iib (ve_ixA hr.units (ve_var 0) ve_int) (ve_glob (by rfl) T.c_NO_TEXT T.r_NO_TEXT T.w_NO_TEXT) (nomark _))))) (vss_one (vs_ret ve_str)) vss_nil) (vss_one (vs_ret (ve_if (vt_cmp (op_eqA hr.units) lift_eq (ve_ixA hr.units (ve_var 0) ve_int) ve_int (nomark _)) (ve_callTy call_str_int lift_str (by rfl) T.n_str bt_str (va_cons (ve_ixA hr.units (ve_var 0) ve_int) va_nil)) (ve_fstr (VJ.fmt (ve_ixA hr.units (ve_var 0) ve_int) (VJ.lit ve_str (VJ.fmt (ve_ixA hr.units (ve_var 0) ve_int) VJ.nil)))))))), fun ds Q h => ?_⟩
  · obtain ⟨_, _, rfl, _⟩ := h
    rfl
  · obtain ⟨n, d, rfl, ⟨a, b, rfl, A⟩, hn, h⟩ := h
    have hA := lt_big A.ha hn
    have hB := lt_big A.hb hn
    refine ⟨_, rfl, vifd (fun z => ?_) (fun _ => ⟨_, rfl, vifd (fun z => ?_) fun _ => ⟨_, rfl, vifd (fun h1 => ⟨_, rfl, log_lt A.ha hn, ?_⟩) fun h1 => ⟨_, rfl, log_lt A.ha hn, Nat.le_of_ble_eq_true rfl, _, rfl, log_lt A.hb hn, ?_⟩⟩⟩)⟩
    · exfalso
      split at z <;> omega
    · exfalso
      omega
    · rw [text_one h1] at h
      exact h
    · rw [text_two h1] at h
      rw [Str.empty_append]
      exact h
theorem ok_l_amount_text (T : Tx K mg) : FnOk P w K mg base CX0 1 T.f_l_amount_text T.fd_l_amount_text ["_law_one"] (spD K W g_atext) := by
  refine vfn T.F_l_amount_text sc_l_amount_text (fun ds Q h => ?_) ⟨_, fun cdv A outer s H E hr => (vss_one (vs_ret (ve_if (vt_cmp (op_eqA hr.units) lift_eq (ve_ixA hr.units (ve_var 0) ve_int) ve_int (nomark _)) (ve_callTy call_str_int lift_str (by rfl) T.n_str bt_str (va_cons (ve_ixA hr.units (ve_var 0) ve_int) va_nil)) (ve_addA (ve_addA (ve_callTy call_str_int lift_str (by rfl) T.n_str bt_str (va_cons (ve_ixA hr.units (ve_var 0) ve_int) va_nil)) ve_str) (ve_callTy call_str_int lift_str (by rfl) T.n_str bt_str (va_cons (ve_ixA hr.units (ve_var 0) ve_int) va_nil)))))), fun ds Q h => ?_⟩
  · obtain ⟨_, _, rfl, _⟩ := h
    rfl
  · obtain ⟨n, d, rfl, ⟨a, b, rfl, A⟩, hn, h⟩ := h
    have la := int_len (log_lt A.ha hn)
    have lb := int_len (log_lt A.hb hn)
    refine ⟨_, rfl, vifd (fun h1 => ⟨_, rfl, log_lt A.ha hn, ?_⟩) fun h1 => ⟨_, rfl, log_lt A.ha hn, ?_, _, rfl, log_lt A.hb hn, ?_, ?_⟩⟩
    · rw [text_one h1] at h
      exact h
    · rw [sizeLine_eq]
      have e3 : ("/" : Str).length = 1 := rfl
      omega
    · rw [sizeLine_eq, Str.length_append]
      have e3 : ("/" : Str).length = 1 := rfl
      omega
    · rw [text_two h1] at h
      exact h
def intD (o : Bool) (v : Int) : D := if o = true then .int v else .non
theorem intD_t (v : Int) : intD true v = .int v := rfl
def g_integer_in (xs : List D) (Q : D → Prop) : Prop := ∃ z : Str, xs = [.str z] ∧ z.length ≤ 1000 ∧ Q (intD (numB (TL.tl z)) (valL (TL.tl z)))
theorem ok_integer_in (T : Tx K mg) : FnOk P w K mg base CX0 1 T.f_integer_in T.fd_integer_in ["text"] (spD K W g_integer_in) := by
  refine vfn T.F_integer_in sc_integer_in (fun ds Q h => ?_) ⟨_, fun cdv A outer s H E hr => (vss_cons (vs_set 1 sc_integer_in.nd (ve_removeprefix (ve_var 0) ve_str)) (vss_cons (vs_if (vt_w (vw_or (vt_not (vt_chain op_le op_le lift_iib lift_iib ve_int (ve_callB call_len lift_len (by rfl) T.n_len bt_len (va_cons (ve_var 1) va_nil)) (ve_glob (by rfl) T.c_MOST_DIGITS T.r_MOST_DIGITS T.w_MOST_DIGITS))) (vw_or1 (vt_not (vt_val (ve_callB (cr_all (by rfl)) lift_all (by rfl) T.n_all bt_all (va_cons (ve_lc (own := [("digit", 3)]) rfl sc_integer_in.nd (vi_its (ve_var 1)) (blkOk_by (N := ["text", "digits", "found", "digit"]) (sc := defScope s_integer_in) (by decide +kernel)) (fun _ _ _ _ _ => (vg_name 3 sc_integer_in.nd (by decide))) (fun _ _ _ _ _ => vts_nil) (fun sB HB CB clB fpB => (ve_cmp op_in_sign lift_inS (ve_var 3) (ve_glob (by rfl) T.c_DIGITS T.r_DIGITS T.w_DIGITS) (by rfl)))) va_nil))))))) (vss_one (vs_ret ve_non)) vss_nil) (vss_cons (vs_set 2 sc_integer_in.nd (ve_callTy call_int_str lift_intS (by rfl) T.n_int bt_int (va_cons (ve_var 0) va_nil))) (vss_one (vs_ret (ve_if (vt_cmp (op_eqA hr.units) lift_eq (ve_callTy call_str_int lift_str (by rfl) T.n_str bt_str (va_cons (ve_var 2) va_nil)) (ve_var 0) (nomark _)) (ve_var 2) ve_non)))))), fun ds Q h => ?_⟩
  · obtain ⟨_, rfl, _⟩ := h
    rfl
  · obtain ⟨z, rfl, hz, h⟩ := h
    have hs : z.length ≤ sizeLine := by rw [sizeLine_eq]; omega
    refine ⟨rfl, hs, ?_⟩
    have hb := rmp_bare z
    generalize Txt.removeprefix z "-" = b at hb ⊢
    have hbl : b.length = (bareL (TL.tl z)).length := by rw [tl_len b, hb]
    have hbz : (bareL (TL.tl z)).length ≤ z.length := by
      rw [tl_len z]
      cases TL.tl z with
      | nil => exact Nat.le_refl _
      | cons c r =>
        show (if c = 45 then r else c :: r).length ≤ _
        split <;> simp
    have hbs : b.length ≤ sizeLine := by rw [sizeLine_eq]; omega
    have fls : digsB (bareL (TL.tl z)) = false → Q .non := fun n => by
      have e : numB (TL.tl z) = false := by unfold numB; rw [n]; rfl
      rw [e] at h
      exact h
    refine ⟨hbs, ?_⟩
    refine vifd (fun a1 => ?_) (fun a0 => fls (digsB_no fun z => a0 (by omega)))
    refine vifn (fun a0 => fls (digsB_no fun z => a0 (by omega))) (fun a2 => ?_)
    refine ⟨rfl, hbs, ?_⟩
    refine lcF (fun d => .bl (digC d)) (fun d hd R hR => ?_) ?_
    · obtain ⟨c, hc, rfl⟩ := sgn_of hd
      refine ⟨c, rfl, ?_⟩
      rw [dig_mem]
      exact hR
    refine ⟨_, digs_map b, ?_⟩
    rw [all_id, hb]
    have ed := digsB_of (l := bareL (TL.tl z)) (by omega) (by omega)
    cases ha : (bareL (TL.tl z)).all dig with
    | false => exact fls (by rw [ed, ha])
    | true =>
      rw [ha] at ed
      obtain ⟨n1, n2⟩ := num_val ed
      refine ⟨_, n1, by omega, ?_⟩
      refine ⟨val_log ed, ?_⟩
      have ht := num_iff ed
      have en : numB (TL.tl z) = canL (TL.tl z) := by unfold numB; rw [ed, Bool.true_and]
      rw [en] at h
      refine vifd (fun he => ?_) (fun he => ?_)
      · have he : Str.ofString (toString (valL (TL.tl z))) = z := he
        have e1 : textL (valL (TL.tl z)) = TL.tl z := congrArg TL.tl he
        rw [ht.mp e1] at h
        exact h
      · have e1 : canL (TL.tl z) = false := by
          cases hc : canL (TL.tl z) with
          | false => rfl
          | true => exact absurd (TL.ext_tl (ht.mpr hc)) he
        rw [e1] at h
        exact h
def g_amount_in (xs : List D) (Q : D → Prop) : Prop := ∃ z : Str, xs = [.str z] ∧ z.length ≤ 1000 ∧ Q (amtD (amtIn (TL.tl z)))
theorem ok_amount_in (T : Tx K mg) : FnOk P w K mg base CX0 4 T.f_amount_in T.fd_amount_in ["text"] (spD K W g_amount_in) := by
  refine vfn T.F_amount_in sc_amount_in (fun ds Q h => ?_) ⟨_, fun cdv A outer s H E hr => (vss_cons (vs_asg (vs := [3, 4, 5]) (ve_partition (ve_var 0) ve_str) (vg_tup (n := 3) rfl (vgs_cons (vg_name 3 sc_amount_in.nd (by decide)) (vgs_cons (vg_name 4 sc_amount_in.nd (by decide)) (vgs_cons (vg_name 5 sc_amount_in.nd (by decide)) vgs_nil))))) (vss_cons (vs_set 1 sc_amount_in.nd (ve_call (ok_integer_in T) (hr.mono (by decide)) (by rfl) T.g_integer_in T.F_integer_in.kp T.B_integer_in .nil pass0 (fun _ _ => reps_nil) (va_cons (ve_var 3) va_nil))) (vss_cons (vs_set 2 sc_amount_in.nd (ve_if (vt_cmp (op_neA hr.units) lift_ne (ve_var 4) ve_str (nomark _)) (ve_call (ok_integer_in T) (hr.mono (by decide)) (by rfl) T.g_integer_in T.F_integer_in.kp T.B_integer_in .nil pass0 (fun _ _ => reps_nil) (va_cons (ve_var 5) va_nil)) ve_int)) (vss_cons (vs_if (vt_w (vw_or (vt_cmp op_isN lift_isN (ve_var 1) ve_non (nomark _)) (vw_or (vt_cmp op_isN lift_isN (ve_var 2) ve_non (nomark _)) (vw_or1 (vt_not (vt_val (ve_call (ok_is_amount T) (hr.mono (by decide)) (by rfl) T.g_is_amount T.F_is_amount.kp T.B_is_amount .nil pass0 (fun _ _ => reps_nil) (va_cons (ve_tup (va_cons (ve_var 1) (va_cons (ve_var 2) va_nil))) va_nil)))))))) (vss_one (vs_ret ve_non)) vss_nil) (vss_one (vs_ret (ve_if (vt_cmp (op_eqA hr.units) lift_eq (ve_call (ok_amount_text T) (hr.mono (by decide)) (by rfl) T.g_amount_text T.F_amount_text.kp T.B_amount_text .nil pass0 (fun _ _ => reps_nil) (va_cons (ve_tup (va_cons (ve_var 1) (va_cons (ve_var 2) va_nil))) va_nil)) (ve_var 0) (nomark _)) (ve_tup (va_cons (ve_var 1) (va_cons (ve_var 2) va_nil))) ve_non))))))), fun ds Q h => ?_⟩
  · obtain ⟨_, rfl, _⟩ := h
    rfl
  · obtain ⟨z, rfl, hz, h⟩ := h
    have hs : z.length ≤ sizeLine := by rw [sizeLine_eq]; omega
    have hz2 : SX.S (TL.tl z) = z := SX.S_tl z
    have hzl := tl_len z
    rcases cut_bar (TL.tl z) with hn | ⟨p, q, e, hp⟩
    · have ep : Txt.partition z "/" = (z, SX.S [], SX.S []) := by
        have := SX.partition_none (a := TL.tl z) (b := [47]) (by simp) (par_none' hn)
        rw [hz2] at this
        exact this
      rw [amt_none hn] at h
      refine ⟨rfl, rfl, hs, ?_⟩
      rw [ep]
      refine ⟨rfl, z, rfl, hz, ?_⟩
      cases hnum : numB (TL.tl z) with
      | false =>
        rw [hnum] at h
        exact h
      | true =>
        rw [hnum] at h
        have ed : digsB (bareL (TL.tl z)) = true := by unfold numB at hnum; exact (Bool.and_eq_true_iff.mp hnum).1
        have ec : canL (TL.tl z) = true := by unfold numB at hnum; exact (Bool.and_eq_true_iff.mp hnum).2
        have et : Str.ofString (toString (valL (TL.tl z))) = z := TL.ext_tl ((num_iff ed).mpr ec)
        have AA : AmtD 100 (.tup [.int (valL (TL.tl z)), .int 1]) := ⟨_, _, rfl, by decide, by rw [Int.gcd_one_right], Nat.lt_of_lt_of_le (val_lt ed) (Nat.le_of_ble_eq_true rfl), by decide⟩
        generalize valL (TL.tl z) = v at h et AA ⊢
        refine ⟨Nat.le_of_ble_eq_true rfl, _, rfl, rfl, ?_⟩
        simp only [intD_t]
        have ea : isAmt (.tup [.int v, .int 1]) = true := by
          show (decide (0 < (1 : Int)) && decide (Int.gcd v 1 = 1)) = true
          rw [Int.gcd_one_right]
          rfl
        rw [ea]
        refine ⟨Nat.le_of_ble_eq_true rfl, 100, _, rfl, AA, by decide, ?_⟩
        rw [text_one rfl, et]
        refine vifd (fun _ => ⟨Nat.le_of_ble_eq_true rfl, h⟩) (fun he => absurd rfl he)
    · have ep : Txt.partition z "/" = (SX.S p, SX.S [47], SX.S q) := by
        have := SX.partition_some (a := TL.tl z) (b := [47]) (p := p) (q := q) (by simp) (by rw [e]; exact par_some hp)
        rw [hz2] at this
        exact this
      rw [e, amt_some hp] at h
      refine ⟨rfl, rfl, hs, ?_⟩
      rw [ep]
      have lp : (SX.S p).length ≤ 1000 := by
        rw [SX.S_len]
        rw [hzl, e] at hz
        simp at hz
        omega
      have lq : (SX.S q).length ≤ 1000 := by
        rw [SX.S_len]
        rw [hzl, e] at hz
        simp at hz
        omega
      have tp : TL.tl (SX.S p) = p := by simp [TL.tl, SX.S]
      have tq : TL.tl (SX.S q) = q := by simp [TL.tl, SX.S]
      refine ⟨rfl, _, rfl, lp, ?_⟩
      rw [tp]
      have no : (¬ (numB p = true ∧ numB q = true ∧ 1 < valL q ∧ Int.gcd (valL p) (valL q) = 1)) → Q .non := fun n => by rw [if_neg n] at h; exact h
      refine ⟨_, rfl, lq, ?_⟩
      rw [tq]
      cases np : numB p with
      | false => exact no fun z => by rw [np] at z; cases z.1
      | true =>
        cases nq : numB q with
        | false => exact no fun z => by rw [nq] at z; cases z.2.1
        | true =>
          have pd : digsB (bareL p) = true := by unfold numB at np; exact (Bool.and_eq_true_iff.mp np).1
          have pc : canL p = true := by unfold numB at np; exact (Bool.and_eq_true_iff.mp np).2
          have qd : digsB (bareL q) = true := by unfold numB at nq; exact (Bool.and_eq_true_iff.mp nq).1
          have qc : canL q = true := by unfold numB at nq; exact (Bool.and_eq_true_iff.mp nq).2
          have tp2 := (num_iff pd).mpr pc
          have tq2 := (num_iff qd).mpr qc
          refine ⟨Nat.le_of_ble_eq_true rfl, _, rfl, rfl, ?_⟩
          simp only [intD_t]
          rw [show isAmt (.tup [.int (valL p), .int (valL q)]) = (decide (0 < valL q) && decide (Int.gcd (valL p) (valL q) = 1)) from rfl]
          by_cases h0 : 0 < valL q
          · by_cases h1 : Int.gcd (valL p) (valL q) = 1
            · have AA : AmtD 100 (.tup [.int (valL p), .int (valL q)]) := ⟨_, _, rfl, h0, h1, Nat.lt_of_lt_of_le (val_lt pd) (Nat.le_of_ble_eq_true rfl), Nat.lt_of_lt_of_le (val_lt qd) (Nat.le_of_ble_eq_true rfl)⟩
              rw [decide_eq_true h0, decide_eq_true h1]
              refine ⟨Nat.le_of_ble_eq_true rfl, 100, _, rfl, AA, by decide, ?_⟩
              by_cases h2 : valL q = 1
              · rw [text_one h2]
                refine vifd (fun he => ?_) (fun _ => no fun z => by rw [h2] at z; exact absurd z.2.2.1 (by decide))
                exfalso
                have he : Str.ofString (toString (valL p)) = z := he
                have e1 : textL (valL p) = TL.tl z := congrArg TL.tl he
                rw [tp2, e] at e1
                have := congrArg List.length e1
                simp at this
              · rw [text_two h2]
                have et : Str.ofString (toString (valL p)) ++ ("/" : Str) ++ Str.ofString (toString (valL q)) = z := by
                  refine TL.ext_tl ?_
                  rw [TL.tl_append, TL.tl_append, e]
                  show textL (valL p) ++ [47] ++ textL (valL q) = _
                  rw [tp2, tq2]
                  simp
                rw [et]
                rw [if_pos ⟨np, nq, by omega, h1⟩] at h
                exact vifd (fun _ => ⟨Nat.le_of_ble_eq_true rfl, h⟩) (fun he => absurd rfl he)
            · rw [decide_eq_true h0, decide_eq_false h1]
              exact no fun z => h1 z.2.2.2
          · rw [decide_eq_false h0]
            exact no fun z => h0 (by omega)
theorem textL_lenW {a : Int} (h : a.natAbs < 10 ^ 452) : (Str.ofString (toString a)).length ≤ 453 := by
  have e : (Str.ofString (toString a)).length = (textL a).length := tl_len _
  rw [e]
  rcases Int.lt_or_le a 0 with h0 | h0
  · obtain ⟨n, rfl⟩ : ∃ n : Nat, a = -(n : Int) := ⟨a.natAbs, by omega⟩
    rw [textL_neg (by omega)]
    have := TL.numL_len (n := n) (k := 452) (by decide) (by omega)
    rw [List.length_cons]
    omega
  · obtain ⟨n, rfl⟩ := Int.eq_ofNat_of_zero_le h0
    rw [textL_nat]
    have := TL.numL_len (n := n) (k := 452) (by decide) (by omega)
    omega
theorem text_lenW {n : Nat} {d : D} (h : AmtD n d) (hn : n ≤ 1500) : (textD d).length ≤ 1000 := by
  obtain ⟨a, b, rfl, A⟩ := h
  have big : ∀ {x : Nat}, x < 2 ^ n → x < 10 ^ 452 := fun h => Nat.lt_of_lt_of_le h (Nat.le_trans (Nat.pow_le_pow_right (by decide) hn) (Nat.le_of_ble_eq_true rfl))
  have e1 := textL_lenW (big A.ha)
  have e2 := textL_lenW (big A.hb)
  show Str.length (if b = 1 then _ else _) ≤ 1000
  have e3 : ("/" : Str).length = 1 := rfl
  split
  · omega
  · rw [Str.length_append, Str.length_append]; omega
def g_part_text (xs : List D) (Q : D → Prop) : Prop := ∃ n s f, xs = [.str s, f] ∧ s.length ≤ 100 ∧ AmtD n f ∧ n ≤ 1500 ∧ Q (.str (partS s f))
theorem ok_part_text (T : Tx K mg) : FnOk P w K mg base CX0 2 T.f_part_text T.fd_part_text ["name", "factor"] (spD K W g_part_text) := by
  refine vfn T.F_part_text sc_part_text (fun ds Q h => ?_) ⟨_, fun cdv A outer s H E hr => (vss_cons (vs_if (vt_cmp (op_eqA hr.units) lift_eq (ve_var 0) ve_str (nomark _)) (vss_one (vs_ret (ve_call (ok_amount_text T) (hr.mono (by decide)) (by rfl) T.g_amount_text T.F_amount_text.kp T.B_amount_text .nil pass0 (fun _ _ => reps_nil) (va_cons (ve_var 1) va_nil)))) vss_nil) (vss_one (vs_ret (ve_if (vt_cmp (op_eqA hr.units) lift_eq (ve_var 1) (ve_glob (by rfl) T.c_ONE T.r_ONE T.w_ONE) (nomark _)) (ve_var 0) (ve_fstr (VJ.fmt (ve_call (ok_amount_text T) (hr.mono (by decide)) (by rfl) T.g_amount_text T.F_amount_text.kp T.B_amount_text .nil pass0 (fun _ _ => reps_nil) (va_cons (ve_var 1) va_nil)) (VJ.lit ve_str (VJ.fmt (ve_var 0) VJ.nil)))))))), fun ds Q h => ?_⟩
  · obtain ⟨_, _, _, rfl, _⟩ := h
    rfl
  · obtain ⟨n, s, f, rfl, hs, hf, hn, h⟩ := h
    unfold partS at h
    refine vifd (fun z => ?_) (fun z => ?_)
    · rw [if_pos z] at h
      exact ⟨n, f, rfl, hf, by omega, h⟩
    · rw [if_neg z] at h
      have hf0 := hf
      obtain ⟨a, b, rfl, A⟩ := hf
      refine ⟨rfl, rfl, ?_⟩
      refine vif (fun e => ?_) (fun e => ?_)
      · rw [if_pos (show eqv _ oneD = true from e)] at h
        exact h
      · have e : eqv (.tup [.int a, .int b]) oneD = false := e
        rw [if_neg (by rw [e]; simp)] at h
        refine ⟨n, _, rfl, hf0, by omega, text_lenW hf0 hn, Nat.le_of_ble_eq_true rfl, by show s.length ≤ 1000; omega, ?_⟩
        rw [Str.empty_append]
        exact h
theorem part_len {n : Nat} {s : Str} {f : D} (hs : s.length ≤ 100) (hf : AmtD n f) (hn : n ≤ 1500) : (partS s f).length ≤ 1200 := by
  have := text_lenW hf hn
  unfold partS
  split
  · omega
  · split
    · omega
    · rw [Str.length_append, Str.length_append]
      have : ("*" : Str).length = 1 := rfl
      omega
theorem neg_sgn {a : Int} {b : D} : decide (sgnD (.tup [.int a, b]) < 0) = negF (.tup [.int a, b]) := by
  show decide (sgnI a < 0) = decide (a < 0)
  unfold sgnI
  by_cases h : a < 0
  · rw [decide_eq_true h, decide_eq_false (show ¬ 0 < a by omega)]
    rfl
  · rw [decide_eq_false h]
    by_cases h2 : 0 < a
    · rw [decide_eq_true h2]; rfl
    · rw [decide_eq_false h2]; rfl
theorem ok_opposite (T : Tx K mg) : FnOk P w K mg base CX0 1 T.f_opposite T.fd_opposite ["one"] (spD K W (fun xs Q => ∃ a b, xs = [.tup [.int a, b]] ∧ Q (.tup [.int (-a), b]))) := by
  refine vfn T.F_opposite sc_opposite (fun ds Q h => ?_) ⟨_, fun cdv A outer s H E hr => (vss_one (vs_ret (ve_tup (va_cons (ve_neg (ve_ixA hr.units (ve_var 0) ve_int)) (va_cons (ve_ixA hr.units (ve_var 0) ve_int) va_nil))))), fun ds Q h => ?_⟩
  · obtain ⟨_, _, rfl, _⟩ := h
    rfl
  · obtain ⟨a, b, rfl, h⟩ := h
    exact ⟨_, rfl, _, rfl, Nat.le_of_ble_eq_true rfl, h⟩
def PartsD (n : Nat) (ps : List D) : Prop := ∀ p ∈ ps, ∃ s f, p = .tup [.str s, f] ∧ s.length ≤ 100 ∧ AmtD n f
theorem mark_len (b : Bool) (f : D) : (markF b f).length ≤ 3 := by
  unfold markF
  cases negF f <;> cases b <;> decide
theorem pstep_len {n : Nat} {acc : Str} {p : D} {b : Bool} (hp : ∃ s f, p = .tup [.str s, f] ∧ s.length ≤ 100 ∧ AmtD n f) (hn : n ≤ 1500) : (pStep b acc p).length ≤ acc.length + 1203 := by
  obtain ⟨s, f, rfl, hs, hf⟩ := hp
  show (acc ++ markF b f ++ partS s (barD f)).length ≤ _
  have hb : AmtD n (barD f) := by
    obtain ⟨a, b', rfl, A⟩ := hf
    rw [fac_bar]
    exact ⟨_, _, rfl, A.pos, by show Nat.gcd (Int.natAbs (a.natAbs : Int)) b'.natAbs = 1; rw [Int.natAbs_natCast]; exact A.cop, by rw [Int.natAbs_natCast]; exact A.ha, A.hb⟩
  have h1 := part_len hs hb hn
  have h2 := mark_len b f
  rw [Str.length_append, Str.length_append]
  omega
theorem formS_len {n : Nat} {ps : List D} (h : PartsD n ps) (hn : n ≤ 1500) : ∀ i, i ≤ ps.length → (formS (ps.take i)).length ≤ 1203 * i := by
  intro i hi
  induction i with
  | zero => exact Nat.le_refl _
  | succ i ih =>
    obtain ⟨p, hp⟩ := get_lt (xs := ps) (i := i) (by omega)
    rw [formS_take hp]
    have := pstep_len (acc := formS (ps.take i)) (b := decide (i = 0)) (h p (List.mem_of_getElem? hp)) hn
    have := ih (by omega)
    omega
theorem parts_D {n : Nat} {ts : List D} {c : D} (ht : ∀ t ∈ ts, ∃ s f, t = .tup [.str s, f] ∧ s.length ≤ 100 ∧ AmtD n f) (hc : AmtD n c) : PartsD n (partsD ts c) := fun p hp => by
  rcases List.mem_append.mp hp with hp | hp
  · exact ht p hp
  · unfold constP at hp
    split at hp
    · cases hp
    · rw [List.mem_singleton.mp hp]
      exact ⟨_, _, rfl, by decide, hc⟩
theorem parts_len (ts : List D) (c : D) : (partsD ts c).length ≤ ts.length + 1 := by
  unfold partsD constP
  rw [List.length_append]
  split <;> simp
def g_form_text (xs : List D) (Q : D → Prop) : Prop := ∃ n ts c, xs = [.tup [.tup ts, c]] ∧ (∀ t ∈ ts, ∃ s f, t = .tup [.str s, f] ∧ nmS s = true ∧ AmtD n f) ∧ AmtD n c ∧ n ≤ 1500 ∧ ts.length ≤ 200 ∧ Q (.str (formS (partsD ts c)))
theorem nm_100 {s : Str} (h : nmS s = true) : s.length ≤ 100 := by
  by_cases c : (1 : Int) ≤ s.length ∧ (s.length : Int) ≤ 8
  · omega
  · rw [nmS_len c] at h
    cases h
theorem shp_terms {n : Nat} {ts : List D} (ht : ∀ t ∈ ts, ∃ s f, t = .tup [.str s, f] ∧ nmS s = true ∧ AmtD n f) : shp (.tup ts) = true := shp_tup fun t h => by
  obtain ⟨s, f, rfl, hs, hf⟩ := ht t h
  exact pair_lay (n := n) ⟨s, f, rfl, hf, hs⟩
theorem eqv_nilT (l : List D) : eqv (.tup l) (.tup []) = l.isEmpty := by cases l <;> rfl
theorem ok_form_text (T : Tx K mg) : FnOk P w K mg base CX0 4 T.f_form_text T.fd_form_text ["form"] (spD K W g_form_text) := by
  refine vfn T.F_form_text sc_form_text (fun ds Q h => ?_) ⟨_, fun cdv A outer s H E hr => (vss_cons (vs_set 1 sc_form_text.nd (ve_if (vt_w (vw_or (vt_cmp (op_neA hr.units) lift_ne (ve_ixA hr.units (ve_var 0) ve_int) (ve_glob (by rfl) T.c_ZERO T.r_ZERO T.w_ZERO) (nomark _)) (vw_or1 (vt_cmp (op_eqA hr.units) lift_eq (ve_ixA hr.units (ve_var 0) ve_int) (ve_tup va_nil) (nomark _))))) (ve_lst (va_star (ve_ixA hr.units (ve_var 0) ve_int) (va_cons (ve_tup (va_cons ve_str (va_cons (ve_ixA hr.units (ve_var 0) ve_int) va_nil))) va_nil))) (ve_callTy (cr_listA (by rfl)) lift_listA (by rfl) T.n_list bt_list (va_cons (ve_ixA hr.units (ve_var 0) ve_int) va_nil)))) (vss_cons (vs_set 2 sc_form_text.nd ve_str) (vss_cons (vs_for (vs := [3, 5, 6]) PassesOwn.never rfl (vi_enum (by rfl) T.n_enumerate (ve_var 1)) (vg_tup (n := 2) rfl (vgs_cons (vg_name 3 sc_form_text.nd (by decide)) (vgs_cons (vg_tup (n := 2) rfl (vgs_cons (vg_name 5 sc_form_text.nd (by decide)) (vgs_cons (vg_name 6 sc_form_text.nd (by decide)) vgs_nil))) vgs_nil))) (vss_cons (vs_set 4 sc_form_text.nd (ve_cmp op_ltA lift_lt (ve_call (ok_sign T) (hr.mono (by decide)) (by rfl) T.g_sign T.F_sign.kp T.B_sign .nil pass0 (fun _ _ => reps_nil) (va_cons (ve_var 6) va_nil)) ve_int (nomark _))) (vss_cons (vs_if (vt_cmp (op_eqA hr.units) lift_eq (ve_var 3) ve_int (nomark _)) (vss_one (vs_set 2 sc_form_text.nd (ve_if (vt_val (ve_var 4)) ve_str ve_str))) (vss_one (vs_augT 2 sc_form_text.nd (ve_if (vt_val (ve_var 4)) ve_str ve_str)))) (vss_one (vs_augT 2 sc_form_text.nd (ve_call (ok_part_text T) (hr.mono (by decide)) (by rfl) T.g_part_text T.F_part_text.kp T.B_part_text .nil pass0 (fun _ _ => reps_nil) (va_cons (ve_var 5) (va_cons (ve_if (vt_val (ve_var 4)) (ve_call (ok_opposite T) (hr.mono (by decide)) (by rfl) T.g_opposite T.F_opposite.kp T.B_opposite .nil pass0 (fun _ _ => reps_nil) (va_cons (ve_var 6) va_nil)) (ve_var 6)) va_nil)))))))) (vss_one (vs_ret (ve_var 2)))))), fun ds Q h => ?_⟩
  · obtain ⟨_, _, _, rfl, _⟩ := h
    rfl
  · obtain ⟨n, ts, c, rfl, ht, hc, hn, hl, h⟩ := h
    have PD := parts_D (fun t h => let ⟨s, f, e, hs, hf⟩ := ht t h; ⟨s, f, e, nm_100 hs, hf⟩) hc
    have PL := parts_len ts c
    have st := shp_terms ht
    have hc0 := hc
    obtain ⟨ca, cb, rfl, CA⟩ := hc
    have ez : eqv (.tup [.int ca, .int cb]) (.tup [.int 0, .int 1]) = isZ (.tup [.int ca, .int cb]) := eqv_amt _ _ _ _
    refine meet1 [.d (.tup [.tup ts, .tup [.int ca, .int cb]]), .d (.lst (partsD ts (.tup [.int ca, .int cb]))), .un, .un, .un, .un, .un] (fun rest => ?_) ?_
    · refine ⟨_, rfl, rfl, rfl, ?_⟩
      rw [show eqv _ _ = _ from ez]
      cases hz : isZ (.tup [.int ca, .int cb]) with
      | false =>
        have e : constP ts (.tup [.int ca, .int cb]) = [.tup [.str ("" : Str), .tup [.int ca, .int cb]]] := by unfold constP; rw [if_neg (by rw [hz]; simp)]
        unfold partsD at rest
        rw [e] at rest
        refine ⟨_, rfl, _, rfl, Nat.le_of_ble_eq_true rfl, ?_, rest⟩
        rw [List.length_append]
        exact Nat.le_trans (Nat.add_le_add_right hl 1) (by decide)
      | true =>
        refine ⟨_, rfl, Nat.le_of_ble_eq_true rfl, st, rfl, ?_⟩
        rw [show eqv _ _ = _ from eqv_nilT ts]
        cases ts with
        | nil =>
          have e : constP [] (.tup [.int ca, .int cb]) = [.tup [.str ("" : Str), .tup [.int ca, .int cb]]] := by unfold constP; rw [if_neg (by simp)]
          unfold partsD at rest
          rw [e] at rest
          exact ⟨_, rfl, _, rfl, Nat.le_of_ble_eq_true rfl, Nat.le_of_ble_eq_true rfl, rest⟩
        | cons t ts =>
          have e : constP (t :: ts) (.tup [.int ca, .int cb]) = [] := by unfold constP; rw [if_pos ⟨hz, by simp⟩]
          unfold partsD at rest
          rw [e, List.append_nil] at rest
          exact ⟨_, rfl, rest⟩
    · generalize partsD ts (.tup [.int ca, .int cb]) = ps at PD PL h ⊢
      have FL := formS_len PD hn
      refine ⟨by omega, ?_⟩
      refine ⟨fun i sl => ∃ a3 a4 a5 a6 : Sl, sl = [.d (.tup [.tup ts, .tup [.int ca, .int cb]]), .d (.lst ps), .d (.str (formS (ps.take i))), a3, a4, a5, a6], ⟨_, _, _, _, rfl⟩, ?_, ?_⟩
      · rintro i d sl hd ⟨a3, a4, a5, a6, rfl⟩
        obtain ⟨p, hp, rfl⟩ := enumD_get hd
        have hi := (List.getElem?_eq_some_iff.mp hp).1
        obtain ⟨s', f, rfl, hs', hf⟩ := PD p (List.mem_of_getElem? hp)
        have L1 := FL i (by omega)
        have et := formS_take hp
        have hf0 := hf
        obtain ⟨fa, fb, rfl, FA⟩ := hf
        have bar : AmtD n (.tup [.int (if fa < 0 then -fa else fa), .int fb]) := ⟨_, _, rfl, FA.pos, by split <;> simp [FA.cop], by split <;> simp [FA.ha], FA.hb⟩
        have es : decide (sgnI fa < 0) = negF (.tup [.int fa, .int fb]) := neg_sgn (b := .int fb)
        refine ⟨rfl, rfl, fa, .int fb, rfl, ?_⟩
        have PB : ∀ g, AmtD n g → (partS s' g).length ≤ 1200 := fun g hg => part_len hs' hg hn
        have e0 : decide ((i : Int) = 0) = decide (i = 0) := by
          by_cases z : i = 0
          · rw [z]; rfl
          · rw [decide_eq_false z, decide_eq_false (show ¬ (i : Int) = 0 by omega)]
        have et : formS (ps.take (i + 1)) = formS (ps.take i) ++ markF (decide (i = 0)) (.tup [.int fa, .int fb]) ++ partS s' (.tup [.int (if fa < 0 then -fa else fa), .int fb]) := et
        cases hneg : negF (.tup [.int fa, .int fb]) with
        | true =>
          have n0 : fa < 0 := of_decide_eq_true hneg
          have s0 : sgnI fa < 0 := of_decide_eq_true (es.trans hneg)
          rw [if_pos n0] at bar et
          have PB1 := PB _ bar
          unfold markF at et
          rw [if_pos hneg] at et
          refine vifd (fun z => ?_) (fun z => ?_)
          · have z : (i : Int) = 0 := z
            have zi : i = 0 := by omega
            subst zi
            refine vifd (fun _ => ?_) (fun z2 => absurd s0 z2)
            refine vifd (fun _ => ?_) (fun z2 => absurd s0 z2)
            refine ⟨_, _, rfl, n, s', _, rfl, hs', bar, hn, ?_, ?_⟩
            · show ("-" : Str).length + _ ≤ sizeLine
              have : ("-" : Str).length = 1 := rfl
              rw [sizeLine_eq]; omega
            · exact ⟨_, _, _, _, by rw [et]; rfl⟩
          · have z : ¬ (i : Int) = 0 := z
            have zi : ¬ i = 0 := by omega
            rw [decide_eq_false zi] at et
            have l3 : (" - " : Str).length = 3 := rfl
            refine vifd (fun _ => ?_) (fun z2 => absurd s0 z2)
            refine ⟨by rw [sizeLine_eq]; omega, ?_⟩
            refine vifd (fun _ => ?_) (fun z2 => absurd s0 z2)
            refine ⟨_, _, rfl, n, s', _, rfl, hs', bar, hn, ?_, ?_⟩
            · rw [Str.length_append, sizeLine_eq]; omega
            · exact ⟨_, _, _, _, by rw [et]; rfl⟩
        | false =>
          have n0 : ¬ fa < 0 := of_decide_eq_false hneg
          have s0 : ¬ sgnI fa < 0 := of_decide_eq_false (es.trans hneg)
          rw [if_neg n0] at bar et
          have PB1 := PB _ bar
          unfold markF at et
          rw [if_neg (by rw [hneg]; simp)] at et
          refine vifd (fun z => ?_) (fun z => ?_)
          · have z : (i : Int) = 0 := z
            have zi : i = 0 := by omega
            subst zi
            refine vifd (fun z2 => absurd z2 s0) (fun _ => ?_)
            refine vifd (fun z2 => absurd z2 s0) (fun _ => ?_)
            refine ⟨n, s', _, rfl, hs', bar, hn, ?_, ?_⟩
            · show ("" : Str).length + _ ≤ sizeLine
              have : ("" : Str).length = 0 := rfl
              rw [sizeLine_eq]; omega
            · exact ⟨_, _, _, _, by rw [et]; rfl⟩
          · have z : ¬ (i : Int) = 0 := z
            have zi : ¬ i = 0 := by omega
            rw [decide_eq_false zi] at et
            have l3 : (" + " : Str).length = 3 := rfl
            refine vifd (fun z2 => absurd z2 s0) (fun _ => ?_)
            refine ⟨by rw [sizeLine_eq]; omega, ?_⟩
            refine vifd (fun z2 => absurd z2 s0) (fun _ => ?_)
            refine ⟨n, s', _, rfl, hs', bar, hn, ?_, ?_⟩
            · rw [Str.length_append, sizeLine_eq]; omega
            · exact ⟨_, _, _, _, by rw [et]; rfl⟩
      · rintro sl ⟨a3, a4, a5, a6, rfl⟩
        rw [enumD_len, List.take_length]
        exact h
def g_pform (xs : List D) (Q : D → Prop) : Prop := ∃ n M x ps c, xs = [x, c] ∧ (x = .lst ps ∨ x = .tup ps) ∧ (∀ p ∈ ps, PairD n p) ∧ ps.length < 64 ∧ (∀ k, ncnt k ps ≤ M) ∧ M * (n + 1) + n + 1 ≤ 9000 ∧ Q (formD ps c)
theorem ok_form_of (T : Tx K mg) : FnOk P w K mg base CX0 4 T.f_form_of T.fd_form_of ["terms", "constant"] (spD K W g_pform) := by
  refine vfnD T.F_form_of sc_form_of (fun ds Q h => ?_) ⟨_, fun cdv A outer s H E hr => (vss_cons (vs_setDic 2 sc_form_of.nd) (vss_cons (vs_for (vs := [3, 4]) PassesOwn.never rfl (vi_its (ve_var 0)) (vg_tup (n := 2) rfl (vgs_cons (vg_name 3 sc_form_of.nd (by decide)) (vgs_cons (vg_name 4 sc_form_of.nd (by decide)) vgs_nil))) (vss_one (vs_dput 2 hr.units (ve_var 3) (ve_call (ok_plus T) (hr.mono (by decide)) (by rfl) T.g_plus T.F_plus.kp T.B_plus .nil pass0 (fun _ _ => reps_nil) (va_cons (ve_dget2 2 hr.units (ve_var 3) (ve_glob (by rfl) T.c_ZERO T.r_ZERO T.w_ZERO)) (va_cons (ve_var 4) va_nil)))))) (vss_fz 2 (vss_one (vs_ret (ve_tup (va_cons (ve_callTy call_tuple_of lift_tuple (by rfl) T.n_tuple bt_tuple (va_cons (ve_lc (own := [("name", 3)]) rfl sc_form_of.nd (vi_its (ve_callB (cr_sortedA (by rfl)) lift_sorted (by rfl) T.n_sorted bt_sorted (va_cons (ve_var 2) va_nil))) (blkOk_by (N := ["terms", "constant", "totals", "name", "factor"]) (sc := defScope s_form_of) (by decide +kernel)) (fun _ _ _ _ _ => (vg_name 3 sc_form_of.nd (by decide))) (fun _ _ _ _ _ => (vts_one (vt_cmp (op_neA hr.units) lift_ne (ve_dget 2 hr.units (ve_var 3)) (ve_glob (by rfl) T.c_ZERO T.r_ZERO T.w_ZERO) (nomark _)))) (fun sB HB CB clB fpB => (ve_tup (va_cons (ve_var 3) (va_cons (ve_dget 2 hr.units (ve_var 3)) va_nil))))) va_nil)) (va_cons (ve_var 1) va_nil)))))))), fun ds Q h => ?_⟩
  · obtain ⟨_, _, _, _, _, rfl, _⟩ := h
    rfl
  · obtain ⟨n, M, x, ps, c, rfl, hx, hp, hl, hM, hb, h⟩ := h
    have key : ∀ x : D, (x = .lst ps ∨ x = .tup ps) → ∃ b : Bool, x = if b then .lst ps else .tup ps := fun x hx => by
      rcases hx with e | e
      · exact ⟨true, e⟩
      · exact ⟨false, e⟩
    have len0 : (0 : Nat) < 5 := by decide
    refine ⟨Nat.le_of_ble_eq_true rfl, ?_⟩
    have main : ∀ x : D, (x = .lst ps ∨ x = .tup ps) → (∃ Iv : Nat → List Sl → Prop, True) := fun _ _ => ⟨fun _ _ => True, trivial⟩
    rcases hx with rfl | rfl
    all_goals
      refine ⟨fun i sl => ∃ x o3 o4, sl = [.d x, .d c, .md (totals (ps.take i)).1 (totals (ps.take i)).2, o3, o4] ∧ (o3 = .un ∨ ∃ x, o3 = .d x), ⟨_, _, _, rfl, .inl rfl⟩, ?_, ?_⟩
      · rintro i d sl hd ⟨x, o3, o4, rfl, _⟩
        obtain ⟨s, f, rfl, hf⟩ := hp d (List.mem_of_getElem? hd)
        have hlen := tot_few (i := i) hp
        refine ⟨rfl, M * (n + 1) + 1, n, _, _, rfl, tot_get hp hM (Nat.le_refl _) s, hf, by omega, by omega, ?_⟩
        exact ⟨_, .d (.str s), .d f, by rw [tot_take hd]; rfl, .inr ⟨_, rfl⟩⟩
      · rintro sl ⟨x, o3, o4, rfl, ho3⟩
        rw [List.take_length]
        have hlen := tot_few (i := ps.length) hp
        rw [List.take_length] at hlen
        have hv : ∀ (s : Str) (v : D), lkp (totals ps).1 (totals ps).2 s = some v → AmtD (M * (n + 1) + 1) v := fun s v hv => by
          refine tot_amt (i := ps.length) hp hM (Nat.le_refl _) (s := s) ?_
          rw [List.take_length]
          exact hv
        have ht := tot_at hp ps.length
        rw [List.take_length] at ht
        refine ⟨by rcases ho3 with rfl | ⟨x, rfl⟩ <;> rfl, fun _ => ⟨by omega, ?_⟩⟩
        refine lcM (keepD (totals ps)) (fun d hd Y N hY hN => ?_) ?_
        · obtain ⟨s, hs, rfl⟩ := List.mem_map.mp hd
          obtain ⟨v, h1, _⟩ := lkp_mem ht.len (mem_srt.mp hs)
          obtain ⟨a, b, rfl, A⟩ := hv s v h1
          refine ⟨_, h1, rfl, rfl, ?_⟩
          rw [eqv_amt]
          have hk := keepT_some h1
          cases e : (decide (a = 0) && decide (b = 1)) with
          | true => exact hN (by rw [e] at hk; exact hk)
          | false => exact ⟨_, h1, Nat.le_of_ble_eq_true rfl, hY _ (by rw [e] at hk; exact hk)⟩
        rw [keep_map]
        exact ⟨Nat.le_of_ble_eq_true rfl, h⟩
theorem tame_of {z : Str} (h : z.length ≤ 1000) : tame (.str z) = true := by
  unfold tame
  exact decide_eq_true h
def g_part_in (xs : List D) (Q : D → Prop) : Prop := ∃ z : Str, xs = [.str z] ∧ z.length ≤ 1000 ∧ Q (partIn z)
theorem cut_star : ∀ l : List Nat, (42 : Nat) ∈ l → ∃ p q, l = p ++ 42 :: q ∧ (42 : Nat) ∉ p
  | [], h => by cases h
  | c :: r, h => by
    by_cases hc : c = 42
    · exact ⟨[], r, by rw [hc]; rfl, by simp⟩
    · have h' : (42 : Nat) ∈ r := by
        rcases List.mem_cons.mp h with e | h'
        · exact absurd e.symm hc
        · exact h'
      obtain ⟨p, q, e, hp⟩ := cut_star r h'
      exact ⟨c :: p, q, by rw [e]; rfl, fun z => by
        rcases List.mem_cons.mp z with z | z
        · exact hc z.symm
        · exact hp z⟩
theorem par_len (z : Str) : (Txt.partition z starS).1.length ≤ z.length ∧ (Txt.partition z starS).2.2.length ≤ z.length := by
  by_cases h : (42 : Nat) ∈ TL.tl z
  · obtain ⟨p, q, e, hp⟩ := cut_star _ h
    have ez : z = SX.S p ++ starS ++ SX.S q := TL.ext_tl (by rw [TL.tl_append, TL.tl_append, e]; simp [TL.tl, SX.S, starS]; rfl)
    have := TL.partition_app (y := starS) (s := 42) (S := []) rfl (a := SX.S p) (b := SX.S q) (by simpa [TL.tl, SX.S] using hp)
    have l1 : z.length = p.length + 1 + q.length := by rw [tl_len z, e]; simp; omega
    rw [l1, ez, this]
    have l2 : (SX.S p).length = p.length := SX.S_len p
    have l3 : (SX.S q).length = q.length := SX.S_len q
    dsimp only
    omega
  · have := TL.partition_none (y := starS) (s := 42) (S := []) rfl h
    rw [this]
    exact ⟨Nat.le_refl _, Nat.zero_le _⟩
theorem ok_part_in (T : Tx K mg) : FnOk P w K mg base CX0 5 T.f_part_in T.fd_part_in ["text"] (spD K W g_part_in) := by
  refine vfn T.F_part_in sc_part_in (fun ds Q h => ?_) ⟨_, fun cdv A outer s H E hr => (vss_cons (vs_if (vt_val (ve_call (ok_is_name T) (hr.mono (by decide)) (by rfl) T.g_is_name T.F_is_name.kp T.B_is_name .nil pass0 (fun _ _ => reps_nil) (va_cons (ve_var 0) va_nil))) (vss_one (vs_ret (ve_tup (va_cons (ve_var 0) (va_cons (ve_glob (by rfl) T.c_ONE T.r_ONE T.w_ONE) va_nil))))) vss_nil) (vss_cons (vs_asg (vs := [2, 3, 4]) (ve_partition (ve_var 0) ve_str) (vg_tup (n := 3) rfl (vgs_cons (vg_name 2 sc_part_in.nd (by decide)) (vgs_cons (vg_name 3 sc_part_in.nd (by decide)) (vgs_cons (vg_name 4 sc_part_in.nd (by decide)) vgs_nil))))) (vss_cons (vs_set 1 sc_part_in.nd (ve_call (ok_amount_in T) (hr.mono (by decide)) (by rfl) T.g_amount_in T.F_amount_in.kp T.B_amount_in .nil pass0 (fun _ _ => reps_nil) (va_cons (ve_var 2) va_nil))) (vss_cons (vs_if (vt_w (vw_or (vt_cmp op_isN lift_isN (ve_var 1) ve_non (nomark _)) (vw_or1 (vt_w (vw_and (vt_cmp (op_neA hr.units) lift_ne (ve_var 3) ve_str (nomark _)) (vw_and1 (vt_not (vt_val (ve_call (ok_is_name T) (hr.mono (by decide)) (by rfl) T.g_is_name T.F_is_name.kp T.B_is_name .nil pass0 (fun _ _ => reps_nil) (va_cons (ve_var 4) va_nil)))))))))) (vss_one (vs_ret ve_non)) vss_nil) (vss_one (vs_ret (ve_tup (va_cons (ve_var 4) (va_cons (ve_var 1) va_nil))))))))), fun ds Q h => ?_⟩
  · obtain ⟨_, rfl, _⟩ := h
    rfl
  · obtain ⟨z, rfl, hz, h⟩ := h
    unfold partIn at h
    refine ⟨_, rfl, tame_of hz, ?_⟩
    rw [show isName (.str z) = nmS z from rfl]
    cases hn : nmS z with
    | true =>
      rw [if_pos hn] at h
      exact ⟨Nat.le_of_ble_eq_true rfl, h⟩
    | false =>
      rw [if_neg (by rw [hn]; simp)] at h
      have hs : z.length ≤ sizeLine := by rw [sizeLine_eq]; omega
      obtain ⟨l1, l2⟩ := par_len z
      refine ⟨rfl, rfl, hs, ?_⟩
      generalize hp : Txt.partition z starS = q at h l1 l2
      rw [show Txt.partition z "*" = q from hp]
      refine ⟨rfl, _, rfl, by omega, ?_⟩
      cases ha : amtIn (TL.tl q.1) with
      | none =>
        rw [ha] at h
        exact h
      | some ab =>
        obtain ⟨a, b⟩ := ab
        rw [ha] at h
        dsimp only at h
        refine vifn (fun y => ?_) (fun y => ?_)
        · refine ⟨_, rfl, tame_of (by omega), ?_⟩
          rw [show isName (.str q.2.2) = nmS q.2.2 from rfl]
          cases hm : nmS q.2.2 with
          | true =>
            rw [if_neg (fun z => by rw [hm] at z; cases z.2)] at h
            exact ⟨Nat.le_of_ble_eq_true rfl, h⟩
          | false =>
            rw [if_pos ⟨y, hm⟩] at h
            exact h
        · rw [if_neg (fun z => z.1 y)] at h
          exact ⟨Nat.le_of_ble_eq_true rfl, h⟩
theorem split_ne (z : Str) : ∃ w r, Txt.split z spS = w :: r := by
  have h := TL.split_spl z spS (by rw [tl_sp]; simp) (TL.kind_ok (by decide +kernel))
  cases e : Txt.split z spS with
  | cons w r => exact ⟨w, r, rfl⟩
  | nil =>
    rw [e] at h
    exfalso
    have key : ∀ (l acc : List Nat), TL.spl [32] 0 acc l ≠ [] := fun l => by
      induction l with
      | nil => intro acc e; rw [TL.spl_nil] at e; cases e
      | cons c r ih =>
        intro acc e
        cases hp : TL.pre [32] (c :: r) with
        | true => rw [TL.spl_hit hp] at e; cases e
        | false => rw [TL.spl_miss hp] at e; exact ih _ e
    exact key _ _ h.symm
theorem split_bound (z : Str) : (Txt.split z spS).length ≤ z.length + 1 ∧ ∀ w ∈ Txt.split z spS, w.length ≤ z.length := by
  have h := TL.split_spl z spS (by rw [tl_sp]; simp) (TL.kind_ok (by decide +kernel))
  have key : ∀ (l acc : List Nat), (TL.spl [32] 0 acc l).length ≤ l.length + 1 ∧ ∀ p ∈ TL.spl [32] 0 acc l, p.length ≤ acc.length + l.length := fun l => by
    induction l with
    | nil => intro acc; rw [TL.spl_nil]; exact ⟨Nat.le_refl _, fun p hp => by rw [List.mem_singleton.mp hp]; exact Nat.le_refl _⟩
    | cons c r ih =>
      intro acc
      cases hp : TL.pre [32] (c :: r) with
      | true =>
        rw [TL.spl_hit hp]
        obtain ⟨h1, h2⟩ := ih []
        refine ⟨by simp at h1 ⊢; omega, fun p hp => ?_⟩
        rcases List.mem_cons.mp hp with rfl | hp
        · omega
        · have := h2 p hp; simp at this ⊢; omega
      | false =>
        rw [TL.spl_miss hp]
        obtain ⟨h1, h2⟩ := ih (acc ++ [c])
        refine ⟨by simp at h1 ⊢; omega, fun p hp => ?_⟩
        have := h2 p hp; simp at this ⊢; omega
  obtain ⟨h1, h2⟩ := key (TL.tl z) []
  rw [tl_sp] at h
  rw [← h] at h1 h2
  rw [tl_len z]
  refine ⟨by simpa using h1, fun w hw => ?_⟩
  have := h2 _ (List.mem_map.mpr ⟨w, hw, rfl⟩)
  rw [tl_len w]
  simpa using this
theorem evens_map {α β : Type} (f : α → β) : ∀ l : List α, evens (l.map f) = (evens l).map f
  | [] => rfl
  | [_] => rfl
  | a :: _ :: r => by
    show f a :: evens (r.map f) = f a :: (evens r).map f
    rw [evens_map f r]
theorem evens_mem {α : Type} {x : α} : ∀ {l : List α}, x ∈ evens l → x ∈ l
  | [], h => h
  | [_], h => h
  | a :: b :: r, h => by
    rcases List.mem_cons.mp h with rfl | h
    · exact .head _
    · exact .tail _ (.tail _ (evens_mem h))
theorem mark_in (m : Str) : inV (.str m) [.str ("+" : Str), .str ("-" : Str)] = markQ m := by
  unfold inV markQ
  simp only [List.any_cons, List.any_nil, Bool.or_false]
  congr 1
  · show decide (("+" : Str) = m) = decide (m = ("+" : Str))
    by_cases h : m = ("+" : Str)
    · rw [decide_eq_true h, decide_eq_true h.symm]
    · rw [decide_eq_false h, decide_eq_false (fun z => h z.symm)]
  · show decide (("-" : Str) = m) = decide (m = ("-" : Str))
    by_cases h : m = ("-" : Str)
    · rw [decide_eq_true h, decide_eq_true h.symm]
    · rw [decide_eq_false h, decide_eq_false (fun z => h z.symm)]
theorem amtP_ok {ls : List (List Nat)} {a b : Int} (h : amtP ls = some (a, b)) : 0 < b ∧ Int.gcd a b = 1 ∧ a.natAbs < 10 ^ 30 ∧ b.natAbs < 10 ^ 30 := by
  have dg : ∀ {p : List Nat}, numB p = true → digsB (bareL p) = true := fun h => by unfold numB at h; exact (Bool.and_eq_true_iff.mp h).1
  match ls, h with
  | [p], h =>
    have h : (if numB p = true then some (valL p, (1 : Int)) else none) = some (a, b) := h
    split at h
    · rename_i hp
      cases h
      exact ⟨by decide, Int.gcd_one_right _, val_lt (dg hp), by decide⟩
    · cases h
  | [p, q], h =>
    have h : (if numB p = true ∧ numB q = true ∧ 1 < valL q ∧ Int.gcd (valL p) (valL q) = 1 then some (valL p, valL q) else none) = some (a, b) := h
    split at h
    · rename_i hp
      cases h
      exact ⟨by omega, hp.2.2.2, val_lt (dg hp.1), val_lt (dg hp.2.1)⟩
    · cases h
  | [], h => cases h
  | _ :: _ :: _ :: _, h => cases h
theorem partIn_ok (z : Str) : partIn z = .non ∨ ∃ s a b, partIn z = .tup [.str s, .tup [.int a, .int b]] ∧ (s = ("" : Str) ∨ nmS s = true) ∧ AmtD 100 (.tup [.int a, .int b]) := by
  unfold partIn
  split
  · rename_i h
    exact .inr ⟨z, 1, 1, rfl, .inr h, one_amt.mono (by decide)⟩
  · split
    · exact .inl rfl
    · rename_i a b ha
      obtain ⟨h1, h2, h3, h4⟩ := amtP_ok ha
      split
      · exact .inl rfl
      · rename_i hn
        refine .inr ⟨_, a, b, rfl, ?_, amt100 h1 h2 h3 h4⟩
        by_cases h : (42 : Nat) ∈ TL.tl z
        · obtain ⟨p, q, e, hp⟩ := cut_star _ h
          have ez : z = SX.S p ++ starS ++ SX.S q := TL.ext_tl (by rw [TL.tl_append, TL.tl_append, e]; simp [TL.tl, SX.S, starS]; rfl)
          have := TL.partition_app (y := starS) (s := 42) (S := []) rfl (a := SX.S p) (b := SX.S q) (by simpa [TL.tl, SX.S] using hp)
          rw [ez, this] at hn ⊢
          right
          cases e : nmS (SX.S q) with
          | true => rfl
          | false => exact absurd ⟨show starS ≠ ("" : Str) by decide, e⟩ hn
        · have := TL.partition_none (y := starS) (s := 42) (S := []) rfl h
          rw [this]
          exact .inl rfl
theorem fold_none : ∀ l : List D, l.foldl inStep none = none
  | [] => rfl
  | a :: l => by
    rw [List.foldl_cons]
    show l.foldl inStep none = none
    exact fold_none l
theorem fold_stop {l : List D} {i : Nat} {d : D} {st s0 : Option (List D × D)} (hd : l[i]? = some d) (h : (l.take i).foldl inStep s0 = st) (hn : inStep st d = none) : l.foldl inStep s0 = none := by
  have hi := (List.getElem?_eq_some_iff.mp hd).1
  have e : l = l.take i ++ d :: l.drop (i + 1) := by
    rw [← (List.getElem?_eq_some_iff.mp hd).2]
    rw [← List.drop_eq_getElem_cons hi, List.take_append_drop]
  rw [e, List.foldl_append, h, List.foldl_cons, hn, fold_none]
theorem fold_next {l : List D} {i : Nat} {d : D} {st s0 : Option (List D × D)} (hd : l[i]? = some d) (h : (l.take i).foldl inStep s0 = st) : (l.take (i + 1)).foldl inStep s0 = inStep st d := by
  rw [take_one hd, List.foldl_append, h]
  rfl
theorem wg2 {i j : Nat} {x y : D} {ds : List Sl} {P : List Sl → Prop} (h : P ((ds.set i (.d x)).set j (.d y))) : wgCons (wgName i) (wgCons (wgName j) wgNil) [x, y] ds P := h
def g_form_in (xs : List D) (Q : D → Prop) : Prop := ∃ z : Str, xs = [.str z] ∧ z.length ≤ 1000 ∧ (wrdsOf z).length ≤ 14 ∧ Q (formIn z)
theorem ok_form_in (T : Tx K mg) : FnOk P w K mg base CX0 7 T.f_form_in T.fd_form_in ["text"] (spD K W g_form_in) := by
  refine vfn T.F_form_in sc_form_in (fun ds Q h => ?_) ⟨_, fun cdv A outer s H E hr => (vss_cons (vs_asgStar (vs := [2, 10]) (n := 2) (i := 1) rfl (ve_split (ve_var 0) ve_str) (vgs_cons (vg_name 2 sc_form_in.nd (by decide)) (vgs_star (vg_name 10 sc_form_in.nd (by decide)) vgs_nil))) (vss_cons (vs_par 3 4 rfl sc_form_in.nd (by decide) (ve_lst (va_cons (ve_if (vt_val (ve_startswith (ve_var 2) ve_str)) ve_str ve_str) (va_star (ve_evens (ve_var 10)) va_nil))) (ve_lst (va_cons (ve_removeprefix (ve_var 2) ve_str) (va_star (ve_odds (ve_var 10)) va_nil)))) (vss_cons (vs_if (vt_w (vw_or (vt_cmp (op_neA hr.units) lift_ne (ve_callB call_len lift_len (by rfl) T.n_len bt_len (va_cons (ve_var 3) va_nil)) (ve_callB call_len lift_len (by rfl) T.n_len bt_len (va_cons (ve_var 4) va_nil)) (nomark _)) (vw_or1 (vt_not (vt_val (ve_callB (cr_all (by rfl)) lift_all (by rfl) T.n_all bt_all (va_cons (ve_lc (own := [("mark", 7)]) rfl sc_form_in.nd (vi_its (ve_var 3)) (blkOk_by (N := ["text", "found", "first", "signs", "words", "terms", "constant", "mark", "word", "part", "rest"]) (sc := defScope s_form_in) (by decide +kernel)) (fun _ _ _ _ _ => (vg_name 7 sc_form_in.nd (by decide))) (fun _ _ _ _ _ => vts_nil) (fun sB HB CB clB fpB => (ve_cmp op_in_seq lift_in (ve_var 7) (ve_tup (va_cons ve_str (va_cons ve_str va_nil))) (by rfl)))) va_nil))))))) (vss_one (vs_ret ve_non)) vss_nil) (vss_cons (vs_parNil 5 6 rfl sc_form_in.nd (by decide) (ve_glob (by rfl) T.c_ZERO T.r_ZERO T.w_ZERO)) (vss_cons (vs_for (vs := [7, 8]) PassesOwn.never rfl (vi_zipK (by rfl) T.n_zip (ve_var 3) (ve_var 4)) (vg_tup (n := 2) rfl (vgs_cons (vg_name 7 sc_form_in.nd (by decide)) (vgs_cons (vg_name 8 sc_form_in.nd (by decide)) vgs_nil))) (vss_cons (vs_set 9 sc_form_in.nd (ve_call (ok_part_in T) (hr.mono (by decide)) (by rfl) T.g_part_in T.F_part_in.kp T.B_part_in .nil pass0 (fun _ _ => reps_nil) (va_cons (ve_var 8) va_nil))) (vss_cons (vs_if (vt_cmp op_isN lift_isN (ve_var 9) ve_non (nomark _)) (vss_one (vs_ret ve_non)) vss_nil) (vss_one (vs_if (vt_cmp (op_eqA hr.units) lift_eq (ve_ixA hr.units (ve_var 9) ve_int) ve_str (nomark _)) (vss_one (vs_set 6 sc_form_in.nd (ve_if (vt_cmp (op_eqA hr.units) lift_eq (ve_var 7) ve_str (nomark _)) (ve_call (ok_plus T) (hr.mono (by decide)) (by rfl) T.g_plus T.F_plus.kp T.B_plus .nil pass0 (fun _ _ => reps_nil) (va_cons (ve_var 6) (va_cons (ve_ixA hr.units (ve_var 9) ve_int) va_nil))) (ve_call (ok_minus T) (hr.mono (by decide)) (by rfl) T.g_minus T.F_minus.kp T.B_minus .nil pass0 (fun _ _ => reps_nil) (va_cons (ve_var 6) (va_cons (ve_ixA hr.units (ve_var 9) ve_int) va_nil)))))) (vss_one (vs_app 5 (ve_tup (va_cons (ve_ixA hr.units (ve_var 9) ve_int) (va_cons (ve_if (vt_cmp (op_eqA hr.units) lift_eq (ve_var 7) ve_str (nomark _)) (ve_ixA hr.units (ve_var 9) ve_int) (ve_call (ok_opposite T) (hr.mono (by decide)) (by rfl) T.g_opposite T.F_opposite.kp T.B_opposite .nil pass0 (fun _ _ => reps_nil) (va_cons (ve_ixA hr.units (ve_var 9) ve_int) va_nil))) va_nil)))))))))) (vss_fz 5 (vss_cons (vs_set 1 sc_form_in.nd (ve_callD (ok_form_of T) (hr.mono (by decide)) (by rfl) T.g_form_of T.F_form_of.kp (T.F_form_of.binds1 2 1 (List.cons_ne_nil _ _) rfl (fun _ _ _ _ _ _ _ us its hu hi => match us, its, hu, hi with | [_, _], [_], _, _ => ⟨_, rfl, rfl⟩)) pass0 (fun M H => reps_nil) (va_cons (ve_var 5) (va_cons (ve_var 6) va_nil)))) (vss_one (vs_ret (ve_if (vt_cmp (op_eqA hr.units) lift_eq (ve_call (ok_form_text T) (hr.mono (by decide)) (by rfl) T.g_form_text T.F_form_text.kp T.B_form_text .nil pass0 (fun _ _ => reps_nil) (va_cons (ve_var 1) va_nil)) (ve_var 0) (nomark _)) (ve_var 1) ve_non)))))))))), fun ds Q h => ?_⟩
  · obtain ⟨_, rfl, _⟩ := h
    rfl
  · obtain ⟨z, rfl, hz, hw, h⟩ := h
    have hs : z.length + 2 ≤ sizeLine := by rw [sizeLine_eq]; omega
    obtain ⟨sb1, sb2⟩ := split_bound z
    obtain ⟨f, r, es⟩ := split_ne z
    have e1 : mrksOf z = (if Txt.startswith f ("-" : Str) = true then ("-" : Str) else ("+" : Str)) :: evens r := by unfold mrksOf; rw [es]
    have e2 : wrdsOf z = Txt.removeprefix f ("-" : Str) :: evens (r.drop 1) := by unfold wrdsOf; rw [es]
    rw [es] at sb1 sb2
    have lf := sb2 f (.head _)
    have lr : r.length ≤ 1001 := by simp at sb1; omega
    have le1 := evens_len r
    have le2 := evens_len (r.drop 1)
    have ld : (r.drop 1).length ≤ r.length := by rw [List.length_drop]; omega
    have wl : ∀ w ∈ wrdsOf z, w.length ≤ 1000 := fun w hw => by
      rw [e2] at hw
      rcases List.mem_cons.mp hw with rfl | hw
      · have := rmp_bare f
        have e : (Txt.removeprefix f "-").length = (bareL (TL.tl f)).length := by rw [tl_len, this]
        have hb : (bareL (TL.tl f)).length ≤ (TL.tl f).length := by
          cases TL.tl f with
          | nil => exact Nat.le_refl _
          | cons c l =>
            show (if c = 45 then l else c :: l).length ≤ _
            split <;> simp
        rw [← tl_len] at hb
        omega
      · have := sb2 w (.tail _ (List.mem_of_mem_drop (evens_mem hw)))
        omega
    refine ⟨rfl, rfl, hs, ?_⟩
    rw [show Txt.split z " " = f :: r from es]
    have hst : ∀ P : List D → Prop, P [.str f, .lst (r.map D.str)] → starD 2 1 (.lst ((f :: r).map D.str)) P := fun P hP => by
      refine ⟨by simp, by simp; omega, ?_⟩
      have q1 : (((f :: r).map D.str).drop 1).take (((f :: r).map D.str).length + 1 - 2) = r.map D.str := by
        rw [List.map_cons, List.drop_succ_cons, List.drop_zero]
        exact List.take_of_length_le (by simp)
      have q2 : (((f :: r).map D.str).drop 1).drop (((f :: r).map D.str).length + 1 - 2) = [] := by
        rw [List.map_cons, List.drop_succ_cons, List.drop_zero]
        exact List.drop_eq_nil_of_le (by simp)
      rw [q1, q2]
      exact hP
    refine hst _ (wg2 ?_)
    clear hst
    with_reducible show wSeq _ _ _ _
    show wSeq _ _ _ [.d (.str z), .un, .d (.str f), .un, .un, .un, .un, .un, .un, .un, .d (.lst (r.map D.str))]
    generalize hm : mrksOf z = ms at e1
    generalize hws : wrdsOf z = ws at e2 wl hw
    unfold formIn itemsOf at h
    rw [hm, hws] at h
    refine meet1 [.d (.str z), .un, .d (.str f), .d (.lst (ms.map D.str)), .d (.lst (ws.map D.str)), .un, .un, .un, .un, .un, .d (.lst (r.map D.str))] (fun rest => ?_) ?_
    · have e1' : ms.map D.str = .str (if Txt.startswith f ("-" : Str) = true then ("-" : Str) else ("+" : Str)) :: evens (r.map D.str) := by rw [e1, List.map_cons, evens_map]
      have e2' : ws.map D.str = .str (Txt.removeprefix f ("-" : Str)) :: evens ((r.map D.str).drop 1) := by rw [e2, List.map_cons, ← List.map_drop, evens_map]
      rw [e1', e2'] at rest
      refine ⟨rfl, ?_⟩
      have el1 : (evens (r.map D.str)).length + 1 ≤ 1000000 := by rw [evens_map, List.length_map]; omega
      have el2 : (evens ((r.map D.str).drop 1)).length + 1 ≤ 1000000 := by rw [← List.map_drop, evens_map, List.length_map]; omega
      have lf2 : f.length ≤ sizeLine := by rw [sizeLine_eq]; omega
      refine vif (fun y => ?_) (fun y => ?_)
      · rw [if_pos y] at rest
        refine ⟨by simpa using el1, rfl, lf2, by simpa using el2, ?_⟩
        simpa using rest
      · rw [if_neg (by rw [y]; simp)] at rest
        refine ⟨by simpa using el1, rfl, lf2, by simpa using el2, ?_⟩
        simpa using rest
    · clear e1 e2 sb1 sb2
      refine vifn (fun y => ?_) (fun y => ?_)
      · rw [if_neg (fun q => y (by simp at *; omega))] at h
        exact h
      · have el : ms.length = ws.length := by
          have y : ((ms.map D.str).length : Int) = (ws.map D.str).length := y
          simp at y
          omega
        refine ⟨rfl, ?_⟩
        refine lcF (fun d => match d with
          | .str m => .bl (markQ m)
          | _ => .non) (fun d hd R hR => ?_) ?_
        · obtain ⟨m, hm, rfl⟩ := List.mem_map.mp hd
          refine ⟨Nat.le_of_ble_eq_true rfl, rfl, rfl, ?_⟩
          show R (.bl (inV (.str m) [.str ("+" : Str), .str ("-" : Str)]))
          rw [mark_in m]
          exact hR
        refine ⟨ms.map markQ, by rw [List.map_map, List.map_map]; rfl, ?_⟩
        have eb : (ms.map markQ).all id = ms.all markQ := by rw [List.all_map]; rfl
        rw [eb]
        cases hb : ms.all markQ with
        | false =>
          rw [if_neg (fun q => by rw [hb] at q; cases q.2)] at h
          exact h
        | true =>
          rw [if_pos ⟨el, hb⟩] at h
          refine ⟨Nat.le_of_ble_eq_true rfl, ?_⟩
          have lm : (ms.map D.str).length ≤ 1000000 := by rw [List.length_map]; omega
          refine ⟨lm, ?_⟩
          generalize hit : zipsD (ms.map D.str) (ws.map D.str) = items at h
          have ilen : items.length ≤ 14 := by
            rw [← hit, zips_len, List.length_map, List.length_map]
            omega
          have iok : ∀ d ∈ items, ∃ m w, d = .tup [.str m, .str w] ∧ w.length ≤ 1000 := fun d hd => by
            rw [← hit] at hd
            obtain ⟨x, hx, y, hy, rfl⟩ := zips_mem hd
            obtain ⟨m, _, rfl⟩ := List.mem_map.mp hx
            obtain ⟨w, hw2, rfl⟩ := List.mem_map.mp hy
            exact ⟨m, w, rfl, wl w hw2⟩
          clear hit lm eb hb el y wl hw hm hws
          refine ⟨fun i sl => ∃ ts c a7 a8 a9, (items.take i).foldl inStep (some ([], zeroD)) = some (ts, c) ∧ ts.length ≤ i ∧ (∀ t ∈ ts, ∃ s f, t = .tup [.str s, f] ∧ AmtD 100 f ∧ nmS s = true) ∧ AmtD (1 + 101 * i) c ∧ sl = [.d (.str z), .un, .d (.str f), .d (.lst (ms.map D.str)), .d (.lst (ws.map D.str)), .ml ts, .d c, a7, a8, a9, .d (.lst (r.map D.str))], ⟨[], zeroD, _, _, _, rfl, Nat.le_refl _, fun t ht => by (cases ht), zero_amt, rfl⟩, ?_, ?_⟩
          · rintro i d sl hd ⟨ts, c, a7, a8, a9, hf, htl, hts, hc, rfl⟩
            obtain ⟨m, w, rfl, hwl⟩ := iok d (List.mem_of_getElem? hd)
            have hi := (List.getElem?_eq_some_iff.mp hd).1
            refine ⟨rfl, w, rfl, hwl, ?_⟩
            rcases partIn_ok w with e | ⟨s, a, b, e, hs2, ha⟩
            · rw [e]
              have : items.foldl inStep (some ([], zeroD)) = none := fold_stop hd hf (by show (match partIn w with | .tup [.str s, f] => _ | _ => none) = none; rw [e])
              rw [this] at h
              exact h
            · rw [e]
              have hn := fold_next hd hf
              have es2 : inStep (some (ts, c)) (.tup [.str m, .str w]) = if s = ("" : Str) then some (ts, if m = ("+" : Str) then plusD c (.tup [.int a, .int b]) else minusD c (.tup [.int a, .int b])) else some (ts ++ [D.tup [.str s, if m = ("+" : Str) then (.tup [.int a, .int b]) else negA (.tup [.int a, .int b])]], c) := by
                show (match partIn w with | .tup [.str s, f] => _ | _ => none) = _
                rw [e]
              rw [es2] at hn
              refine ⟨_, rfl, vifd (fun y => ?_) (fun y => ?_)⟩
              · rw [if_pos y] at hn
                refine vifd (fun x => ?_) (fun x => ?_)
                · rw [if_pos x] at hn
                  refine ⟨_, rfl, 1 + 101 * i, 100, _, _, rfl, hc, ha, by omega, ?_⟩
                  exact ⟨ts, _, _, _, _, hn, by omega, hts, (plus_amt hc ha).mono (by omega), rfl⟩
                · rw [if_neg x] at hn
                  refine ⟨_, rfl, 1 + 101 * i, 100, _, _, rfl, hc, ha, by omega, ?_⟩
                  exact ⟨ts, _, _, _, _, hn, by omega, hts, (minus_amt hc ha).mono (by omega), rfl⟩
              · rw [if_neg y] at hn
                have hnm : nmS s = true := hs2.resolve_left y
                refine ⟨_, rfl, ?_⟩
                have addt : ∀ g, AmtD 100 g → ∀ t ∈ ts ++ [D.tup [.str s, g]], ∃ s f, t = .tup [.str s, f] ∧ AmtD 100 f ∧ nmS s = true := fun g hg t ht => by
                  rcases List.mem_append.mp ht with ht | ht
                  · exact hts t ht
                  · rw [List.mem_singleton.mp ht]
                    exact ⟨s, g, rfl, hg, hnm⟩
                refine vifd (fun x => ?_) (fun x => ?_)
                · rw [if_pos x] at hn
                  refine ⟨_, rfl, Nat.le_of_ble_eq_true rfl, by omega, ?_⟩
                  exact ⟨_, c, _, _, _, hn, by rw [List.length_append]; simp; omega, addt _ ha, hc.mono (by omega), rfl⟩
                · rw [if_neg x, show negA (.tup [.int a, .int b]) = .tup [.int (-a), .int b] by show D.tup [.int (0 - a), .int b] = _; rw [Int.zero_sub]] at hn
                  have na : AmtD 100 (.tup [.int (-a), .int b]) := by
                    have := neg_amt ha
                    rw [show negA (.tup [.int a, .int b]) = .tup [.int (-a), .int b] by show D.tup [.int (0 - a), .int b] = _; rw [Int.zero_sub]] at this
                    exact this
                  refine ⟨_, rfl, _, _, rfl, Nat.le_of_ble_eq_true rfl, by omega, ?_⟩
                  exact ⟨_, c, _, _, _, hn, by rw [List.length_append]; simp; omega, addt _ na, hc.mono (by omega), rfl⟩
          · rintro sl ⟨ts, c, a7, a8, a9, hf, htl, hts, hc, rfl⟩
            rw [List.take_length] at hf
            rw [hf] at h
            have hcN : AmtD 1500 c := hc.mono (by omega)
            have FO := form_ok (M := 14) (N := 1500) (S := fun s => nmS s = true) hts (by omega) (fun k => Nat.le_trans (ncnt_le k ts) (by omega)) (by omega) hcN
            refine ⟨100, 14, _, ts, c, rfl, .inl rfl, fun t ht => ?_, by omega, fun k => Nat.le_trans (ncnt_le k ts) (by omega), by omega, ?_⟩
            · obtain ⟨s, f, e, hf, _⟩ := hts t ht
              exact ⟨s, f, e, hf⟩
            have fl : (formTs (totals ts)).length ≤ 200 := by
              have := tot_few (i := ts.length) (n := 100) (ps := ts) (fun t ht => by obtain ⟨s, f, e, hf, _⟩ := hts t ht; exact ⟨s, f, e, hf⟩)
              rw [List.take_length] at this
              have := formTs_len (totals ts)
              omega
            refine ⟨1500, _, c, rfl, fun t ht => ?_, hcN, by decide, fl, ?_⟩
            · obtain ⟨s, f, e, h1, h2, _⟩ := FO.pr t ht
              exact ⟨s, f, e, h2, h1⟩
            have h : Q (if formS (partsD (formTs (totals ts)) c) = z then formD ts c else .non) := h
            refine vifd (fun y => ?_) (fun y => ?_)
            · rw [if_pos y] at h
              exact h
            · rw [if_neg y] at h
              exact h
theorem ok_read_form (T : Tx K mg) : FnOk P w K mg base CX0 8 T.f_read_form T.fd_read_form ["text"] (spD K W (fun xs Q => ∃ z : Str, xs = [.str z] ∧ z.length ≤ 1000 ∧ (wrdsOf z).length ≤ 14 ∧ (∃ ts c, formIn z = .tup [ts, c]) ∧ Q (formIn z))) := by
  refine vfn T.F_read_form sc_read_form (fun ds Q h => ?_) ⟨_, fun cdv A outer s H E hr => (vss_cons (vs_set 1 sc_read_form.nd (ve_call (ok_form_in T) (hr.mono (by decide)) (by rfl) T.g_form_in T.F_form_in.kp T.B_form_in .nil pass0 (fun _ _ => reps_nil) (va_cons (ve_var 0) va_nil))) (vss_cons (vs_if (vt_cmp op_isN lift_isN (ve_var 1) ve_non (nomark _)) (vss_one vs_never) vss_nil) (vss_one (vs_ret (ve_var 1))))), fun ds Q h => ?_⟩
  · obtain ⟨_, rfl, _⟩ := h
    rfl
  · obtain ⟨z, rfl, hz, hw, ⟨ts, c, e⟩, h⟩ := h
    refine ⟨z, rfl, hz, hw, ?_⟩
    rw [e] at h ⊢
    exact h
def GoodTm (t : D) : Prop := ∃ s f, t = .tup [.str s, f] ∧ AmtD 100 f ∧ nmS s = true
theorem in_fold : ∀ (l : List D) (ts : List D) (c : D) (N : Nat) {ts' : List D} {c' : D}, (∀ d ∈ l, ∃ m w, d = D.tup [.str m, .str w]) → (∀ t ∈ ts, GoodTm t) → AmtD N c → l.foldl inStep (some (ts, c)) = some (ts', c') → (∀ t ∈ ts', GoodTm t) ∧ ts'.length ≤ ts.length + l.length ∧ AmtD (N + 101 * l.length) c'
  | [], ts, c, N, ts', c', _, hg, hc, e => by
    cases e
    exact ⟨hg, Nat.le_refl _, hc⟩
  | d :: l, ts, c, N, ts', c', hl, hg, hc, e => by
    obtain ⟨m, w, rfl⟩ := hl d (.head _)
    rw [List.foldl_cons] at e
    have hl2 := fun d hd => hl d (.tail _ hd)
    have ln : (D.tup [.str m, .str w] :: l).length = l.length + 1 := rfl
    rcases partIn_ok w with e1 | ⟨s, a, b, e1, hs, ha⟩
    · have e2 : inStep (some (ts, c)) (.tup [.str m, .str w]) = none := by show (match partIn w with | .tup [.str s, f] => _ | _ => none) = none; rw [e1]
      rw [e2, fold_none] at e
      cases e
    · have e2 : inStep (some (ts, c)) (.tup [.str m, .str w]) = if s = ("" : Str) then some (ts, if m = ("+" : Str) then plusD c (.tup [.int a, .int b]) else minusD c (.tup [.int a, .int b])) else some (ts ++ [D.tup [.str s, if m = ("+" : Str) then (.tup [.int a, .int b]) else negA (.tup [.int a, .int b])]], c) := by
        show (match partIn w with | .tup [.str s, f] => _ | _ => none) = _
        rw [e1]
      rw [e2] at e
      by_cases y : s = ("" : Str)
      · rw [if_pos y] at e
        have hc2 : AmtD (N + 101) (if m = ("+" : Str) then plusD c (.tup [.int a, .int b]) else minusD c (.tup [.int a, .int b])) := by
          split
          · exact (plus_amt hc ha).mono (by omega)
          · exact (minus_amt hc ha).mono (by omega)
        obtain ⟨h1, h2, h3⟩ := in_fold l _ _ _ hl2 hg hc2 e
        exact ⟨h1, by omega, h3.mono (by omega)⟩
      · rw [if_neg y] at e
        have ha2 : AmtD 100 (if m = ("+" : Str) then (.tup [.int a, .int b]) else negA (.tup [.int a, .int b])) := by
          split
          · exact ha
          · exact neg_amt ha
        obtain ⟨h1, h2, h3⟩ := in_fold l _ _ _ hl2 (fun t ht => by
          rcases List.mem_append.mp ht with ht | ht
          · exact hg t ht
          · rw [List.mem_singleton.mp ht]
            exact ⟨s, _, rfl, ha2, hs.resolve_left y⟩) hc e
        rw [List.length_append] at h2
        have : ([D.tup [.str s, if m = ("+" : Str) then (.tup [.int a, .int b]) else negA (.tup [.int a, .int b])]] : List D).length = 1 := rfl
        exact ⟨h1, by omega, h3.mono (by omega)⟩
theorem formIn_ok (z : Str) (hz : (wrdsOf z).length ≤ 14) : formIn z = .non ∨ ∃ ts c, formIn z = .tup [.tup ts, c] ∧ isForm (.tup [.tup ts, c]) = true ∧ FormOk 1500 (fun s => nmS s = true) (.tup [.tup ts, c]) ts c ∧ ts.length ≤ 200 ∧ formS (partsD ts c) = z := by
  unfold formIn
  split
  · rename_i hq
    cases e : (itemsOf z).foldl inStep (some ([], zeroD)) with
    | none => exact .inl rfl
    | some q =>
      obtain ⟨ts, c⟩ := q
      have il : (itemsOf z).length ≤ 14 := by
        unfold itemsOf
        rw [zips_len, List.length_map, List.length_map]
        omega
      obtain ⟨h1, h2, h3⟩ := in_fold _ _ _ 1 (fun d hd => by
        unfold itemsOf at hd
        obtain ⟨x, hx, y, hy, rfl⟩ := zips_mem hd
        obtain ⟨m, _, rfl⟩ := List.mem_map.mp hx
        obtain ⟨w, _, rfl⟩ := List.mem_map.mp hy
        exact ⟨m, w, rfl⟩) (fun t ht => by cases ht) zero_amt e
      have tl : ts.length ≤ 14 := by
        have : ([] : List D).length = 0 := rfl
        omega
      have cN : AmtD 1500 c := h3.mono (by omega)
      have h1' : ∀ t ∈ ts, ∃ s f, t = .tup [.str s, f] ∧ AmtD 100 f ∧ nmS s = true := h1
      unfold formOut
      dsimp only
      by_cases hf : formS (partsD (formTs (totals ts)) c) = z
      · rw [if_pos hf]
        refine .inr ⟨formTs (totals ts), c, rfl, form_isF h1' (fun _ h => h) cN, form_ok (M := 14) (N := 1500) h1' (by omega) (fun k => Nat.le_trans (ncnt_le k ts) (by omega)) (by omega) cN, ?_, hf⟩
        have := tot_few (i := ts.length) (n := 100) (ps := ts) (fun t ht => by obtain ⟨s, f, e, hf, _⟩ := h1' t ht; exact ⟨s, f, e, hf⟩)
        rw [List.take_length] at this
        have := formTs_len (totals ts)
        omega
      · rw [if_neg hf]
        exact .inl rfl
  · exact .inl rfl
theorem spl_many : ∀ (l acc : List Nat), (TL.spl [32] 0 acc l).length = l.count 32 + 1
  | [], acc => by rw [TL.spl_nil]; rfl
  | c :: r, acc => by
    cases hp : TL.pre [32] (c :: r) with
    | true =>
      rw [TL.spl_hit hp]
      have hc : c = 32 := by
        have h : (c == 32 && true) = true ∨ (32 == c && true) = true := by first | exact .inl hp | exact .inr hp
        rcases h with h | h <;> simp at h <;> omega
      rw [hc, List.count_cons_self, List.length_cons]
      have := spl_many r []
      show (TL.spl [32] 0 [] r).length + 1 = _
      omega
    | false =>
      rw [TL.spl_miss hp, spl_many r (acc ++ [c])]
      have hc : c ≠ 32 := fun z => by
        rw [z] at hp
        have h : TL.pre [32] (32 :: r) = true := rfl
        rw [h] at hp
        cases hp
      rw [List.count_cons_of_ne hc]
theorem wrds_few (z : Str) : 2 * (wrdsOf z).length ≤ (TL.tl z).count 32 + 2 := by
  have h := TL.split_spl z spS (by rw [tl_sp]; simp) (TL.kind_ok (by decide +kernel))
  rw [tl_sp] at h
  have hl := spl_many (TL.tl z) []
  rw [← h, List.length_map] at hl
  unfold wrdsOf
  cases e : Txt.split z spS with
  | nil => exact Nat.zero_le _
  | cons f r =>
    rw [e, List.length_cons] at hl
    show 2 * (evens (r.drop 1)).length + 2 ≤ _
    have ev : ∀ {α : Type} (l : List α), 2 * (evens l).length ≤ l.length + 1 := fun {α} l => by
      have key : ∀ (n : Nat) (l : List α), l.length ≤ n → 2 * (evens l).length ≤ l.length + 1 := fun n => by
        induction n with
        | zero => intro l hl; cases l with
          | nil => exact Nat.zero_le _
          | cons a b => simp at hl
        | succ n ih => intro l hl; match l, hl with
          | [], _ => exact Nat.zero_le _
          | [a], _ => exact Nat.le_refl _
          | a :: b :: r, hl =>
            have := ih r (by simp at hl; omega)
            show 2 * ((evens r).length + 1) ≤ r.length + 2 + 1
            omega
      exact key _ l (Nat.le_refl _)
    have e2 := ev (r.drop 1)
    rw [List.length_drop] at e2
    cases r with
    | nil => simp [evens] at *
    | cons g r =>
      simp only [List.length_cons] at *
      omega
theorem cut_blanks (z : Str) (a b : Option Int) : (TL.tl (cutS z a b)).count 32 ≤ (TL.tl z).count 32 := by
  refine List.Sublist.count_le 32 ?_
  have e : TL.tl (cutS z a b) = (z.cps.toList.drop (HT.sIx z.length 0 a)).take (HT.sIx z.length z.length b - HT.sIx z.length 0 a) := by
    show (((z.cps.toList.drop (HT.sIx z.length 0 a)).take (HT.sIx z.length z.length b - HT.sIx z.length 0 a)).toArray).toList = _
    simp
  rw [e]
  exact (List.take_sublist _ _).trans (List.drop_sublist _ _)
theorem form_blanks {ps : List D} (h : ∀ p ∈ ps, PartOk p) (hn : ps ≠ []) (hl : ps.length ≤ 5) : (TL.tl (formS ps)).count 32 ≤ 8 := by
  have e := TL.split_spl (formS ps) spS (by rw [tl_sp]; simp) (TL.kind_ok (by decide +kernel))
  rw [tl_sp] at e
  have hc := spl_many (TL.tl (formS ps)) []
  rw [← e, List.length_map, split_form h hn] at hc
  match ps, hn, hl with
  | p :: r, _, hl =>
    have hw : (wordsS (p :: r)).length = 2 * r.length + 1 := by
      show (r.flatMap moreW).length + 1 = _
      have key : ∀ l : List D, (l.flatMap moreW).length = 2 * l.length := fun l => by
        induction l with
        | nil => rfl
        | cons a l ih =>
          rw [List.flatMap_cons, List.length_append, ih]
          show 2 + _ = 2 * (l.length + 1)
          omega
      rw [key]
    rw [hw] at hc
    have : (p :: r).length = r.length + 1 := rfl
    omega
def g_form_of (xs : List D) (Q : D → Prop) : Prop := ∃ n M ps c, xs = [.lst ps, c] ∧ (∀ p ∈ ps, PairD n p) ∧ ps.length < 64 ∧ (∀ k, ncnt k ps ≤ M) ∧ M * (n + 1) + n + 1 ≤ 9000 ∧ Q (formD ps c)
theorem ok_l_form_of (T : Tx K mg) : FnOk P w K mg base CX0 4 T.f_l_form_of T.fd_l_form_of ["_law_pairs", "_law_rest_z"] (spD K W g_form_of) := by
  refine vfn T.F_l_form_of sc_l_form_of (fun ds Q h => ?_) ⟨_, fun cdv A outer s H E hr => (vss_cons (vs_setDic 2 sc_l_form_of.nd) (vss_cons (vs_for (vs := [3, 4]) PassesOwn.never rfl (vi_its (ve_var 0)) (vg_tup (n := 2) rfl (vgs_cons (vg_name 3 sc_l_form_of.nd (by decide)) (vgs_cons (vg_name 4 sc_l_form_of.nd (by decide)) vgs_nil))) (vss_one (vs_dput 2 hr.units (ve_var 3) (ve_call (ok_l_plus T) (hr.mono (by decide)) (by rfl) T.g_l_plus T.F_l_plus.kp T.B_l_plus .nil pass0 (fun _ _ => reps_nil) (va_cons (ve_dget2 2 hr.units (ve_var 3) (ve_tup (va_cons ve_int (va_cons ve_int va_nil)))) (va_cons (ve_var 4) va_nil)))))) (vss_fz 2 (vss_one (vs_ret (ve_tup (va_cons (ve_callTy call_tuple_of lift_tuple (by rfl) T.n_tuple bt_tuple (va_cons (ve_lc (own := [("_law_name", 3)]) rfl sc_l_form_of.nd (vi_its (ve_callB (cr_sortedA (by rfl)) lift_sorted (by rfl) T.n_sorted bt_sorted (va_cons (ve_callTy (cr_listA (by rfl)) lift_listA (by rfl) T.n_list bt_list (va_cons (ve_var 2) va_nil)) va_nil))) (blkOk_by (N := ["_law_pairs", "_law_rest_z", "_law_totals", "_law_name", "_law_fac"]) (sc := defScope s_l_form_of) (by decide +kernel)) (fun _ _ _ _ _ => (vg_name 3 sc_l_form_of.nd (by decide))) (fun _ _ _ _ _ => (vts_one (vt_cmp (op_neA hr.units) lift_ne (ve_dget 2 hr.units (ve_var 3)) (ve_tup (va_cons ve_int (va_cons ve_int va_nil))) (nomark _)))) (fun sB HB CB clB fpB => (ve_tup (va_cons (ve_var 3) (va_cons (ve_dget 2 hr.units (ve_var 3)) va_nil))))) va_nil)) (va_cons (ve_var 1) va_nil)))))))), fun ds Q h => ?_⟩
  · obtain ⟨_, _, _, _, rfl, _⟩ := h
    rfl
  · obtain ⟨n, M, ps, c, rfl, hp, hl, hM, hb, h⟩ := h
    refine ⟨Nat.le_of_ble_eq_true rfl, ?_⟩
    refine ⟨fun i sl => ∃ o3 o4, sl = [.d (.lst ps), .d c, .md (totals (ps.take i)).1 (totals (ps.take i)).2, o3, o4] ∧ (o3 = .un ∨ ∃ x, o3 = .d x), ⟨_, _, rfl, .inl rfl⟩, ?_, ?_⟩
    · rintro i d sl hd ⟨o3, o4, rfl, _⟩
      obtain ⟨s, f, rfl, hf⟩ := hp d (List.mem_of_getElem? hd)
      have hlen := tot_few (i := i) hp
      refine ⟨rfl, Nat.le_of_ble_eq_true rfl, M * (n + 1) + 1, n, _, _, rfl, tot_get hp hM (Nat.le_refl _) s, hf, by omega, by omega, ?_⟩
      exact ⟨.d (.str s), .d f, by rw [tot_take hd]; rfl, .inr ⟨_, rfl⟩⟩
    · rintro sl ⟨o3, o4, rfl, ho3⟩
      rw [List.take_length]
      have hlen := tot_few (i := ps.length) hp
      rw [List.take_length] at hlen
      have hv : ∀ (s : Str) (v : D), lkp (totals ps).1 (totals ps).2 s = some v → AmtD (M * (n + 1) + 1) v := fun s v hv => by
        refine tot_amt (i := ps.length) hp hM (Nat.le_refl _) (s := s) ?_
        rw [List.take_length]
        exact hv
      have ht := tot_at hp ps.length
      rw [List.take_length] at ht
      refine ⟨by rcases ho3 with rfl | ⟨x, rfl⟩ <;> rfl, _, rfl, by omega, ?_⟩
      refine lcM (keepD (totals ps)) (fun d hd Y N hY hN => ?_) ?_
      · obtain ⟨s, hs, rfl⟩ := List.mem_map.mp hd
        obtain ⟨v, h1, _⟩ := lkp_mem ht.len (mem_srt.mp hs)
        obtain ⟨a, b, rfl, A⟩ := hv s v h1
        refine ⟨_, h1, Nat.le_of_ble_eq_true rfl, rfl, rfl, ?_⟩
        rw [eqv_amt]
        have hk := keepT_some h1
        cases e : (decide (a = 0) && decide (b = 1)) with
        | true => exact hN (by rw [e] at hk; exact hk)
        | false => exact ⟨_, h1, Nat.le_of_ble_eq_true rfl, hY _ (by rw [e] at hk; exact hk)⟩
      rw [keep_map]
      exact ⟨Nat.le_of_ble_eq_true rfl, h⟩
theorem part_pos {n : Nat} {s : Str} {f : D} (hf : AmtD n f) : TL.tl (partS s (barD f)) ≠ [] := fun e => by
  obtain ⟨a, b, rfl, A⟩ := hf
  rw [fac_bar] at e
  obtain ⟨c, r, ec, _⟩ := amt_head (a := (a.natAbs : Int)) (b := b) (by omega)
  unfold partS at e
  split at e
  · rw [ec] at e; cases e
  · rename_i hs
    split at e
    · exact hs (TL.ext_tl (by rw [e]; rfl))
    · rw [TL.tl_append, TL.tl_append, ec] at e
      cases e
theorem form_nil {n : Nat} {ps : List D} (h : PartsD n ps) {i : Nat} (hi : i ≤ ps.length) : formS (ps.take i) = ("" : Str) ↔ i = 0 := by
  refine ⟨fun e => ?_, fun e => by rw [e]; rfl⟩
  cases i with
  | zero => rfl
  | succ i =>
    exfalso
    obtain ⟨p, hp⟩ := get_lt (xs := ps) (i := i) (by omega)
    rw [formS_take hp] at e
    obtain ⟨s, f, rfl, _, hf⟩ := h p (List.mem_of_getElem? hp)
    have e : TL.tl (formS (ps.take i) ++ markF (decide (i = 0)) f ++ partS s (barD f)) = [] := congrArg TL.tl e
    rw [TL.tl_append] at e
    exact part_pos (s := s) hf (List.append_eq_nil_iff.mp e).2
def g_l_form_text (xs : List D) (Q : D → Prop) : Prop := ∃ n ts c, xs = [.tup [.tup ts, c]] ∧ (∀ t ∈ ts, ∃ s f, t = .tup [.str s, f] ∧ nmS s = true ∧ AmtD n f) ∧ AmtD n c ∧ n ≤ 1500 ∧ ts.length ≤ 200 ∧ Q (.str (formS (partsD ts c)))
theorem ok_l_form_text (T : Tx K mg) : FnOk P w K mg base CX0 4 T.f_l_form_text T.fd_l_form_text ["_law_form"] (spD K W g_l_form_text) := by
  refine vfn T.F_l_form_text sc_l_form_text (fun ds Q h => ?_) ⟨_, fun cdv A outer s H E hr => (vss_cons (vs_setLcO 1 (own := [("_law_name", 3), ("_law_fac", 4)]) rfl sc_l_form_text.nd rfl rfl (sw_true rfl rfl rfl (by decide +kernel)) (vi_its (ve_ixA hr.units (ve_var 0) ve_int)) (blkOk_by (N := ["_law_form", "_law_parts", "_law_text", "_law_name", "_law_fac", "_law_below", "_law_bare", "_law_told", "_law_mark"]) (sc := defScope s_l_form_text) (by decide +kernel)) (fun _ _ _ _ _ => (vg_tup (n := 2) rfl (vgs_cons (vg_name 3 sc_l_form_text.nd (by decide)) (vgs_cons (vg_name 4 sc_l_form_text.nd (by decide)) vgs_nil)))) (fun _ _ _ _ _ => vts_nil) (fun sB HB CB clB fpB => (ve_tup (va_cons (ve_var 3) (va_cons (ve_var 4) va_nil))))) (vss_cons (vs_if (vt_fz 1 (vt_w (vw_or (vt_cmp (op_eqA hr.units) lift_eq (ve_var 1) (ve_lst va_nil) (nomark _)) (vw_or1 (vt_cmp (op_neA hr.units) lift_ne (ve_ixA hr.units (ve_var 0) ve_int) (ve_tup (va_cons ve_int (va_cons ve_int va_nil))) (nomark _)))))) (vss_one (vs_app 1 (ve_tup (va_cons ve_str (va_cons (ve_ixA hr.units (ve_var 0) ve_int) va_nil))))) vss_nil) (vss_cons (vs_set 2 sc_l_form_text.nd ve_str) (vss_fz 1 (vss_cons (vs_for (vs := [3, 4]) PassesOwn.never rfl (vi_its (ve_var 1)) (vg_tup (n := 2) rfl (vgs_cons (vg_name 3 sc_l_form_text.nd (by decide)) (vgs_cons (vg_name 4 sc_l_form_text.nd (by decide)) vgs_nil))) (vss_cons (vs_set 5 sc_l_form_text.nd (ve_cmp op_ltA lift_lt (ve_ixA hr.units (ve_var 4) ve_int) ve_int (nomark _))) (vss_cons (vs_set 6 sc_l_form_text.nd (ve_tup (va_cons (ve_callB call_abs lift_abs (by rfl) T.n_abs bt_abs (va_cons (ve_ixA hr.units (ve_var 4) ve_int) va_nil)) (va_cons (ve_ixA hr.units (ve_var 4) ve_int) va_nil)))) (vss_cons (vs_set 7 sc_l_form_text.nd (ve_if (vt_cmp (op_eqA hr.units) lift_eq (ve_var 3) ve_str (nomark _)) (ve_call (ok_l_amount_text T) (hr.mono (by decide)) (by rfl) T.g_l_amount_text T.F_l_amount_text.kp T.B_l_amount_text .nil pass0 (fun _ _ => reps_nil) (va_cons (ve_var 6) va_nil)) (ve_if (vt_cmp (op_eqA hr.units) lift_eq (ve_var 6) (ve_tup (va_cons ve_int (va_cons ve_int va_nil))) (nomark _)) (ve_var 3) (ve_addA (ve_addA (ve_call (ok_l_amount_text T) (hr.mono (by decide)) (by rfl) T.g_l_amount_text T.F_l_amount_text.kp T.B_l_amount_text .nil pass0 (fun _ _ => reps_nil) (va_cons (ve_var 6) va_nil)) ve_str) (ve_var 3))))) (vss_cons (vs_set 8 sc_l_form_text.nd (ve_if (vt_cmp (op_eqA hr.units) lift_eq (ve_var 2) ve_str (nomark _)) (ve_if (vt_val (ve_var 5)) ve_str ve_str) (ve_if (vt_val (ve_var 5)) ve_str ve_str))) (vss_one (vs_set 2 sc_l_form_text.nd (ve_addA (ve_addA (ve_var 2) (ve_var 8)) (ve_var 7))))))))) (vss_one (vs_ret (ve_var 2)))))))), fun ds Q h => ?_⟩
  · obtain ⟨_, _, _, rfl, _⟩ := h
    rfl
  · obtain ⟨n, ts, c, rfl, ht, hc, hn, hl, h⟩ := h
    have PD := parts_D (fun t h => let ⟨s, f, e, hs, hf⟩ := ht t h; ⟨s, f, e, nm_100 hs, hf⟩) hc
    have PL := parts_len ts c
    have hc0 := hc
    obtain ⟨ca, cb, rfl, CA⟩ := hc
    have ez : eqv (.tup [.int ca, .int cb]) (.tup [.int 0, .int 1]) = isZ (.tup [.int ca, .int cb]) := eqv_amt _ _ _ _
    refine ⟨Nat.le_of_ble_eq_true rfl, rfl, _, rfl, ?_⟩
    refine lcF (fun d => d) (fun d hd R hR => ?_) ?_
    · obtain ⟨s, f, rfl, _⟩ := ht d hd
      exact ⟨rfl, Nat.le_of_ble_eq_true rfl, hR⟩
    rw [List.map_id' ts]
    with_reducible refine meet1 [.d (.tup [.tup ts, .tup [.int ca, .int cb]]), .ml (partsD ts (.tup [.int ca, .int cb])), .un, .un, .un, .un, .un, .un, .un] (fun rest => ?_) ?_
    · have sl : shp (.lst ts) = true := shp_lst fun t h => by
        obtain ⟨s, f, rfl, hs, hf⟩ := ht t h
        exact pair_lay (n := n) ⟨s, f, rfl, hf, hs⟩
      refine ⟨Nat.le_of_ble_eq_true rfl, sl, rfl, ?_⟩
      rw [show eqv _ _ = _ from eqv_nil ts]
      cases ts with
      | nil =>
        have e : constP [] (.tup [.int ca, .int cb]) = [.tup [.str ("" : Str), .tup [.int ca, .int cb]]] := by unfold constP; rw [if_neg (by simp)]
        unfold partsD at rest
        rw [e] at rest
        exact ⟨_, rfl, Nat.le_of_ble_eq_true rfl, Nat.le_of_ble_eq_true rfl, rest⟩
      | cons t ts =>
        refine ⟨_, rfl, Nat.le_of_ble_eq_true rfl, rfl, rfl, ?_⟩
        rw [show eqv _ _ = _ from ez]
        cases hz : isZ (.tup [.int ca, .int cb]) with
        | false =>
          have e : constP (t :: ts) (.tup [.int ca, .int cb]) = [.tup [.str ("" : Str), .tup [.int ca, .int cb]]] := by unfold constP; rw [if_neg (by rw [hz]; simp)]
          unfold partsD at rest
          rw [e] at rest
          exact ⟨_, rfl, Nat.le_of_ble_eq_true rfl, by omega, rest⟩
        | true =>
          have e : constP (t :: ts) (.tup [.int ca, .int cb]) = [] := by unfold constP; rw [if_pos ⟨hz, by simp⟩]
          unfold partsD at rest
          rw [e, List.append_nil] at rest
          exact rest
    · generalize partsD ts (.tup [.int ca, .int cb]) = ps at PD PL h ⊢
      have FL := formS_len PD hn
      refine ⟨fun i sl => ∃ a3 a4 a5 a6 a7 a8 : Sl, sl = [.d (.tup [.tup ts, .tup [.int ca, .int cb]]), .d (.lst ps), .d (.str (formS (ps.take i))), a3, a4, a5, a6, a7, a8], ⟨_, _, _, _, _, _, rfl⟩, ?_, ?_⟩
      · rintro i d sl hp ⟨a3, a4, a5, a6, a7, a8, rfl⟩
        have hi := (List.getElem?_eq_some_iff.mp hp).1
        obtain ⟨s', f, rfl, hs', hf⟩ := PD d (List.mem_of_getElem? hp)
        have L1 := FL i (by omega)
        have et := formS_take hp
        obtain ⟨fa, fb, rfl, FA⟩ := hf
        have bar : AmtD n (.tup [.int (if fa < 0 then -fa else fa), .int fb]) := ⟨_, _, rfl, FA.pos, by split <;> simp [FA.cop], by split <;> simp [FA.ha], FA.hb⟩
        have PB1 := part_len hs' bar hn
        have ee : formS (ps.take i) = ("" : Str) ↔ i = 0 := form_nil PD (by omega)
        have et : formS (ps.take (i + 1)) = formS (ps.take i) ++ markF (decide (i = 0)) (.tup [.int fa, .int fb]) ++ partS s' (.tup [.int (if fa < 0 then -fa else fa), .int fb]) := et
        have ml := mark_len (decide (i = 0)) (.tup [.int fa, .int fb])
        refine ⟨rfl, _, rfl, ?_⟩
        refine ⟨_, rfl, _, rfl, Nat.le_of_ble_eq_true rfl, ?_⟩
        have em : markF (decide (i = 0)) (.tup [.int fa, .int fb]) = if decide (fa < 0) = true then (if decide (i = 0) = true then ("-" : Str) else (" - " : Str)) else (if decide (i = 0) = true then ("" : Str) else (" + " : Str)) := rfl
        generalize markF (decide (i = 0)) (.tup [.int fa, .int fb]) = mk at et ml em
        generalize hcur : formS (ps.take i) = cur at et ee L1
        generalize hpt : partS s' (.tup [.int (if fa < 0 then -fa else fa), .int fb]) = pt at et PB1
        with_reducible refine meet1 [.d (.tup [.tup ts, .tup [.int ca, .int cb]]), .d (.lst ps), .d (.str cur), .d (.str s'), .d (.tup [.int fa, .int fb]), .d (.bl (decide (fa < 0))), .d (.tup [.int (if fa < 0 then -fa else fa), .int fb]), .d (.str pt), a8] (fun rest => ?_) ?_
        · unfold partS at hpt
          refine vifd (fun z => ?_) (fun z => ?_)
          · rw [if_pos z] at hpt
            rw [← hpt] at rest
            exact ⟨n, _, rfl, bar, by omega, rest⟩
          · rw [if_neg z] at hpt
            refine ⟨Nat.le_of_ble_eq_true rfl, rfl, rfl, ?_⟩
            refine vif (fun e => ?_) (fun e => ?_)
            · rw [if_pos (show eqv _ oneD = true from e)] at hpt
              rw [← hpt] at rest
              exact rest
            · have e : eqv (.tup [.int (if fa < 0 then -fa else fa), .int fb]) oneD = false := e
              rw [if_neg (show ¬ eqv (.tup [.int (if fa < 0 then -fa else fa), .int fb]) oneD = true by rw [e]; simp)] at hpt
              rw [← hpt] at rest
              have tl := text_lenW bar hn
              have l1 : ("*" : Str).length = 1 := rfl
              exact ⟨n, _, rfl, bar, by omega, by rw [sizeLine_eq]; omega, by rw [Str.length_append, sizeLine_eq]; omega, rest⟩
        · with_reducible refine meet1 [.d (.tup [.tup ts, .tup [.int ca, .int cb]]), .d (.lst ps), .d (.str cur), .d (.str s'), .d (.tup [.int fa, .int fb]), .d (.bl (decide (fa < 0))), .d (.tup [.int (if fa < 0 then -fa else fa), .int fb]), .d (.str pt), .d (.str mk)] (fun rest => ?_) ?_
          · refine vifd (fun z => ?_) (fun z => ?_)
            · rw [decide_eq_true (ee.mp z), if_pos rfl, if_pos rfl] at em
              refine vifd (fun y => ?_) (fun y => ?_)
              · rw [if_pos (decide_eq_true y)] at em
                rw [em] at rest
                exact rest
              · rw [if_neg (show ¬ decide (fa < 0) = true by simpa using y)] at em
                rw [em] at rest
                exact rest
            · rw [decide_eq_false (fun y => z (ee.mpr y)), if_neg (show ¬ (false = true) by simp), if_neg (show ¬ (false = true) by simp)] at em
              refine vifd (fun y => ?_) (fun y => ?_)
              · rw [if_pos (decide_eq_true y)] at em
                rw [em] at rest
                exact rest
              · rw [if_neg (show ¬ decide (fa < 0) = true by simpa using y)] at em
                rw [em] at rest
                exact rest
          · refine ⟨by rw [sizeLine_eq]; omega, by rw [Str.length_append, sizeLine_eq]; omega, ?_⟩
            exact ⟨_, _, _, _, _, _, by rw [et]; rfl⟩
      · rintro sl ⟨a3, a4, a5, a6, a7, a8, rfl⟩
        rw [List.take_length]
        exact h
def xf_InvalidText : XF := [("row", .inr 0), ("code", .inl "InvalidText")]
theorem ok_mk_InvalidText (T : Tx K mg) : FnOk P w K mg base CX0 1 T.f_InvalidText___init__ T.fd_InvalidText___init__ ["self", "row"] (spE T.C_InvalidText xf_InvalidText 1) := by
  refine T.F_InvalidText___init__.ok sc_InvalidText___init__ (fun vs H Q E h => ?_) (fun cdv A outer s H vs Q E hr h => ⟨_, (pss_cons (ps_expr (pe_scinit (by rfl) T.gC_ScaleError T.si_ScaleError (pa_cons (pv 0) (pa_cons pe_str pa_nil)))) (pss_cons (ps_ost (pv 0) pe_str) (pss_cons (ps_ost (pv 0) (pv 1)) pss_nil))), ?_⟩)
  · obtain ⟨a, ys, H1, rfl, hl, _⟩ := h
    rw [List.length_cons, hl]
    rfl
  · obtain ⟨a, ys, H1, rfl, hl, rfl, na, k⟩ := h
    match ys, hl with
    | [y0], _ =>
    refine ⟨_, rfl, a, T.C_InvalidText, [V.str "a row of a text is wrong"], rfl, by decide, T.ox_InvalidText, upd_same, ?_⟩
    refine ⟨_, rfl, a, T.C_InvalidText, rfl, T.ox_InvalidText, T.ex_InvalidText.no _ (by decide), .inl ⟨upd_same, fun d nd ne => ?_⟩⟩
    obtain ⟨nd1, m0⟩ := MidE.first (p := (Str.ofString "code", V.str (Str.ofString "InvalidText"))) nd ne
    refine ⟨_, rfl, _, rfl, a, T.C_InvalidText, rfl, T.ox_InvalidText, T.ex_InvalidText.no _ (by decide), .inr ⟨d, _, m0.ea, m0.ed, Nat.le_of_ble_eq_true rfl, ?_⟩⟩
    have m1 := m0.next (p := (Str.ofString "row", y0)) ne
    exact k d _ nd1 ne m1.ea m1.ed m1.rest
theorem rng_ne {r c : Addr} : ∀ H b φ, (rngW r c).I H → (rngW r c).A b → H b ≠ some (.ext φ) := fun H b φ h ha z => by
  obtain ⟨ns, i, g, sd, R⟩ := h
  rcases ha with rfl | rfl
  · rw [R.hr] at z; cases z
  · rw [R.hc] at z; cases z
theorem tb {CX : CXT} {k : Nat} {f : Addr} {fd : FuncData} {ps : List Str} {r c Pt : Addr} {q : Str} {g : List D → (D → Prop) → Prop} (F : FnOk P w K mg base CX k f fd ps (spD K (rngW r c) g)) : FnOk P w K mg base CX k f fd ps (spD K ((rngW r c).tab Pt q) g) := fn_tab rng_ne Pt q F
def spLawT (K : PySem.W.Frag) (Pt : Addr) : Sp := fun vs H Q _ => ∃ (a : Addr) (ns : List Int), vs = [.ref a] ∧ SqL K H a (ns.map V.int) ∧ ns.length ≤ 63 ∧ H Pt = some (.tbl #[]) ∧ ∀ H', Q (.bl true) H'
theorem law_goT {r c Pt : Addr} {q : Str} {H : Hp} {Q : L2.VK} {σ : L2.St} {i : Nat} {w : WS} (I : (rngW r c).I H) (hP : H Pt = some (.tbl #[])) (h : σ[i]? = some (some (.ref r))) (hQ : ∀ H', Q (.bl true) H')
    (hw : w (endsD fun d => d = .bl true) ((List.replicate σ.length Sl.un).set i (.d (.hnd (.ref r))))) : LS K ((rngW r c).tab Pt q) w { nx := fun _ H' => Q .non H', rt := Q } σ H := by
  have nP : ¬ (rngW r c).A Pt := fun z => by
    obtain ⟨ns, i, g, sd, R⟩ := I
    rcases z with rfl | rfl
    · rw [R.hr] at hP; cases hP
    · rw [R.hc] at hP; cases hP
  have I2 : ((rngW r c).tab Pt q).I H := ⟨I, LamX.TabS.nil hP, nP, fun z => z⟩
  refine ⟨((rngW r c).tab Pt q).A, H, fun _ => no1, _, _, sat_one ⟨fun a h => h, fun a ha => ((rngW r c).tab Pt q).live H a I2 ha, I2, fun _ _ z => z, fun a φ ha => ((rngW r c).tab Pt q).nx H a φ I2 ha⟩ (fun _ z => z.elim) (fun _ _ _ z => by cases z) h, hw, fun ds' oa' σ' H' hn _ => ?_, fun d v H' hd _ _ rr => ?_, fun _ _ _ _ z => z.elim, fun _ _ _ _ z => z.elim, fun _ _ _ _ _ _ z => z.elim⟩
  · cases hn
  · subst hd
    rw [rr.bl]
    exact hQ H'
def spField (K : PySem.W.Frag) (p : Addr × Obj) (vs : List V) (H : Hp) (Q : L2.VK) : Prop := ∃ (dd : Addr) (fs : List (Str × V)) (z : Str) (ks : List Str) (ws : List V) (Mo : Addr → Prop), vs = [.ref p.1] ∧ ExcAt K dd p.2 ∧ H dd = some (.xd fs) ∧ fs.lookup ("code" : Str) = some (V.str z) ∧ (z, ks) ∈ errTab ∧ ks.map (fun k => fs.lookup k) = ws.map some ∧ (∀ b, Mo b → H b ≠ none ∧ ∀ φ, H b ≠ some (.ext φ)) ∧
  ∀ H2 v2, Full H H2 → Rep K Mo H2 (.tup (ws.map dOf)) v2 → Q v2 H2
theorem ok_l_field (T : Tx K mg) : FnQ P w K mg base 1 T.f_l_field T.fd_l_field ["_law_e"] (spField K) := by
  refine fnq_of T.F_l_field sc_l_field (fun p vs H Q h => ?_) (fun cdv A outer s H vs Q p hr h => ?_)
  · obtain ⟨_, _, _, _, _, _, rfl, _⟩ := h
    rfl
  · obtain ⟨dd, fs, z, ks, ws, Mo, rfl, hq, hx, hcode, hmem, hks, hMo, k⟩ := h
    obtain ⟨pa, po⟩ := p
    refine ⟨LS K (excW dd fs) _, (vss_cons (vs_if (vt_cmp op_in_seq lift_in (ve_xq hq (.head _) (by decide) (ve_var 0)) (ve_tup (va_cons ve_str (va_cons ve_str va_nil))) (by rfl)) (vss_one (vs_ret (ve_tup (va_cons (ve_xq hq (.head _) (by decide) (ve_var 0)) va_nil)))) vss_nil) (vss_cons (vs_if (vt_cmp (op_eqA hr.units) lift_eq (ve_xq hq (.head _) (by decide) (ve_var 0)) ve_str (nomark _)) (vss_one (vs_ret (ve_tup (va_cons (ve_xq hq (.head _) (by decide) (ve_var 0)) (va_cons (ve_xq hq (.head _) (by decide) (ve_var 0)) va_nil))))) vss_nil) (vss_cons (vs_if (vt_cmp (op_eqA hr.units) lift_eq (ve_xq hq (.head _) (by decide) (ve_var 0)) ve_str (nomark _)) (vss_one (vs_ret (ve_tup (va_cons (ve_xq hq (.head _) (by decide) (ve_var 0)) (va_cons (ve_xq hq (.head _) (by decide) (ve_var 0)) va_nil))))) vss_nil) (vss_cons (vs_if (vt_cmp (op_eqA hr.units) lift_eq (ve_xq hq (.head _) (by decide) (ve_var 0)) ve_str (nomark _)) (vss_one (vs_ret (ve_tup (va_cons (ve_xq hq (.head _) (by decide) (ve_var 0)) (va_cons (ve_xq hq (.head _) (by decide) (ve_var 0)) va_nil))))) vss_nil) (vss_cons (vs_if (vt_cmp op_in_seq lift_in (ve_xq hq (.head _) (by decide) (ve_var 0)) (ve_tup (va_cons ve_str (va_cons ve_str va_nil))) (by rfl)) (vss_one (vs_ret (ve_tup (va_cons (ve_xq hq (.head _) (by decide) (ve_var 0)) va_nil)))) vss_nil) (vss_cons (vs_if (vt_cmp (op_eqA hr.units) lift_eq (ve_xq hq (.head _) (by decide) (ve_var 0)) ve_str (nomark _)) (vss_one (vs_ret (ve_tup (va_cons (ve_xq hq (.head _) (by decide) (ve_var 0)) va_nil)))) vss_nil) (vss_cons (vs_if (vt_cmp (op_eqA hr.units) lift_eq (ve_xq hq (.head _) (by decide) (ve_var 0)) ve_str (nomark _)) (vss_one (vs_ret (ve_tup (va_cons (ve_xq hq (.head _) (by decide) (ve_var 0)) va_nil)))) vss_nil) (vss_cons (vs_if (vt_cmp (op_eqA hr.units) lift_eq (ve_xq hq (.head _) (by decide) (ve_var 0)) ve_str (nomark _)) (vss_one (vs_ret (ve_tup (va_cons (ve_xq hq (.head _) (by decide) (ve_var 0)) va_nil)))) vss_nil) (vss_one (vs_ret (ve_if (vt_cmp (op_eqA hr.units) lift_eq (ve_xq hq (.head _) (by decide) (ve_var 0)) ve_str (nomark _)) (ve_tup (va_cons (ve_xq hq (.head _) (by decide) (ve_var 0)) va_nil)) (ve_tup va_nil)))))))))))), ?_⟩
    have m : MOk (excW dd fs) (fun b => Mo b ∨ b = dd) H := ⟨fun b hb => .inr hb, fun b hb => by
      rcases hb with hb | rfl
      · exact (hMo b hb).1
      · rw [hx]; simp, hx, fun _ _ z => z, fun b φ hb => by
      rcases hb with hb | rfl
      · exact (hMo b hb).2 φ
      · rw [hx]; intro z; cases z⟩
    refine ⟨fun b => Mo b ∨ b = dd, H, fun _ => no1, startD _ [.hnd (.ref pa)], endsD (fun d => d = .tup (ws.map dOf)), sat_start (W := excW dd fs) m (reps_cons (by unfold Rep; rfl) reps_nil) (Nat.le_of_ble_eq_true rfl) (fun _ z => False.elim z) (fun _ _ _ z => by cases z), ?_, fun ds' oa' σ' H' hn S' => (by cases hn), fun d v H' hd e i r' => ?_, fun _ _ _ _ z => False.elim z, fun _ _ _ _ z => False.elim z, fun _ _ _ _ _ _ z => False.elim z⟩
    · have one : ∀ {a : Str} {ks' : List Str} {ws' : List V}, (a :: ks').map (fun k => fs.lookup k) = ws'.map some → ∃ v vs', ws' = v :: vs' ∧ fs.lookup a = some v ∧ ks'.map (fun k => fs.lookup k) = vs'.map some := fun {a ks' ws'} h => by
        cases ws' with
        | nil => cases h
        | cons v vs' =>
          obtain ⟨h1, h2⟩ := List.cons.inj h
          exact ⟨v, vs', rfl, h1, h2⟩
      have non : ∀ {ws' : List V}, ([] : List Str).map (fun k => fs.lookup k) = ws'.map some → ws' = [] := fun {ws'} h => by
        cases ws' with
        | nil => rfl
        | cons v vs' => cases h
      simp only [errTab, List.mem_cons, List.not_mem_nil, or_false, Prod.mk.injEq] at hmem
      rcases hmem with ⟨rfl, rfl⟩ | ⟨rfl, rfl⟩ | ⟨rfl, rfl⟩ | ⟨rfl, rfl⟩ | ⟨rfl, rfl⟩ | ⟨rfl, rfl⟩ | ⟨rfl, rfl⟩ | ⟨rfl, rfl⟩ | ⟨rfl, rfl⟩ | ⟨rfl, rfl⟩ | ⟨rfl, rfl⟩ | ⟨rfl, rfl⟩ | ⟨rfl, rfl⟩
      · obtain ⟨v0, _, rfl, h0, hks⟩ := one hks
        cases non hks
        refine ⟨rfl, _, hcode, Nat.le_of_ble_eq_true rfl, rfl, rfl, ?_⟩
        exact ⟨rfl, _, h0, Nat.le_of_ble_eq_true rfl, rfl⟩
      · obtain ⟨v0, _, rfl, h0, hks⟩ := one hks
        cases non hks
        refine ⟨rfl, _, hcode, Nat.le_of_ble_eq_true rfl, rfl, rfl, ?_⟩
        exact ⟨rfl, _, h0, Nat.le_of_ble_eq_true rfl, rfl⟩
      · obtain ⟨v0, _, rfl, h0, hks⟩ := one hks
        obtain ⟨v1, _, rfl, h1, hks⟩ := one hks
        cases non hks
        refine ⟨rfl, _, hcode, Nat.le_of_ble_eq_true rfl, rfl, rfl, ?_⟩
        refine ⟨rfl, _, hcode, ?_⟩
        exact ⟨rfl, _, h0, rfl, _, h1, Nat.le_of_ble_eq_true rfl, rfl⟩
      · obtain ⟨v0, _, rfl, h0, hks⟩ := one hks
        obtain ⟨v1, _, rfl, h1, hks⟩ := one hks
        cases non hks
        refine ⟨rfl, _, hcode, Nat.le_of_ble_eq_true rfl, rfl, rfl, ?_⟩
        refine ⟨rfl, _, hcode, ?_⟩
        refine ⟨rfl, _, hcode, ?_⟩
        exact ⟨rfl, _, h0, rfl, _, h1, Nat.le_of_ble_eq_true rfl, rfl⟩
      · obtain ⟨v0, _, rfl, h0, hks⟩ := one hks
        obtain ⟨v1, _, rfl, h1, hks⟩ := one hks
        cases non hks
        refine ⟨rfl, _, hcode, Nat.le_of_ble_eq_true rfl, rfl, rfl, ?_⟩
        refine ⟨rfl, _, hcode, ?_⟩
        refine ⟨rfl, _, hcode, ?_⟩
        refine ⟨rfl, _, hcode, ?_⟩
        exact ⟨rfl, _, h0, rfl, _, h1, Nat.le_of_ble_eq_true rfl, rfl⟩
      · obtain ⟨v0, _, rfl, h0, hks⟩ := one hks
        cases non hks
        refine ⟨rfl, _, hcode, Nat.le_of_ble_eq_true rfl, rfl, rfl, ?_⟩
        refine ⟨rfl, _, hcode, ?_⟩
        refine ⟨rfl, _, hcode, ?_⟩
        refine ⟨rfl, _, hcode, ?_⟩
        refine ⟨rfl, _, hcode, Nat.le_of_ble_eq_true rfl, rfl, rfl, ?_⟩
        exact ⟨rfl, _, h0, Nat.le_of_ble_eq_true rfl, rfl⟩
      · obtain ⟨v0, _, rfl, h0, hks⟩ := one hks
        cases non hks
        refine ⟨rfl, _, hcode, Nat.le_of_ble_eq_true rfl, rfl, rfl, ?_⟩
        refine ⟨rfl, _, hcode, ?_⟩
        refine ⟨rfl, _, hcode, ?_⟩
        refine ⟨rfl, _, hcode, ?_⟩
        refine ⟨rfl, _, hcode, Nat.le_of_ble_eq_true rfl, rfl, rfl, ?_⟩
        exact ⟨rfl, _, h0, Nat.le_of_ble_eq_true rfl, rfl⟩
      · obtain ⟨v0, _, rfl, h0, hks⟩ := one hks
        cases non hks
        refine ⟨rfl, _, hcode, Nat.le_of_ble_eq_true rfl, rfl, rfl, ?_⟩
        refine ⟨rfl, _, hcode, ?_⟩
        refine ⟨rfl, _, hcode, ?_⟩
        refine ⟨rfl, _, hcode, ?_⟩
        refine ⟨rfl, _, hcode, Nat.le_of_ble_eq_true rfl, rfl, rfl, ?_⟩
        refine ⟨rfl, _, hcode, ?_⟩
        exact ⟨rfl, _, h0, Nat.le_of_ble_eq_true rfl, rfl⟩
      · obtain ⟨v0, _, rfl, h0, hks⟩ := one hks
        cases non hks
        refine ⟨rfl, _, hcode, Nat.le_of_ble_eq_true rfl, rfl, rfl, ?_⟩
        refine ⟨rfl, _, hcode, ?_⟩
        refine ⟨rfl, _, hcode, ?_⟩
        refine ⟨rfl, _, hcode, ?_⟩
        refine ⟨rfl, _, hcode, Nat.le_of_ble_eq_true rfl, rfl, rfl, ?_⟩
        refine ⟨rfl, _, hcode, ?_⟩
        refine ⟨rfl, _, hcode, ?_⟩
        exact ⟨rfl, _, h0, Nat.le_of_ble_eq_true rfl, rfl⟩
      · obtain ⟨v0, _, rfl, h0, hks⟩ := one hks
        cases non hks
        refine ⟨rfl, _, hcode, Nat.le_of_ble_eq_true rfl, rfl, rfl, ?_⟩
        refine ⟨rfl, _, hcode, ?_⟩
        refine ⟨rfl, _, hcode, ?_⟩
        refine ⟨rfl, _, hcode, ?_⟩
        refine ⟨rfl, _, hcode, Nat.le_of_ble_eq_true rfl, rfl, rfl, ?_⟩
        refine ⟨rfl, _, hcode, ?_⟩
        refine ⟨rfl, _, hcode, ?_⟩
        refine ⟨rfl, _, hcode, ?_⟩
        exact ⟨rfl, _, h0, Nat.le_of_ble_eq_true rfl, rfl⟩
      · obtain ⟨v0, _, rfl, h0, hks⟩ := one hks
        cases non hks
        refine ⟨rfl, _, hcode, Nat.le_of_ble_eq_true rfl, rfl, rfl, ?_⟩
        refine ⟨rfl, _, hcode, ?_⟩
        refine ⟨rfl, _, hcode, ?_⟩
        refine ⟨rfl, _, hcode, ?_⟩
        refine ⟨rfl, _, hcode, Nat.le_of_ble_eq_true rfl, rfl, rfl, ?_⟩
        refine ⟨rfl, _, hcode, ?_⟩
        refine ⟨rfl, _, hcode, ?_⟩
        refine ⟨rfl, _, hcode, ?_⟩
        refine ⟨rfl, _, hcode, ?_⟩
        exact ⟨rfl, _, h0, Nat.le_of_ble_eq_true rfl, rfl⟩
      · cases non hks
        refine ⟨rfl, _, hcode, Nat.le_of_ble_eq_true rfl, rfl, rfl, ?_⟩
        refine ⟨rfl, _, hcode, ?_⟩
        refine ⟨rfl, _, hcode, ?_⟩
        refine ⟨rfl, _, hcode, ?_⟩
        refine ⟨rfl, _, hcode, Nat.le_of_ble_eq_true rfl, rfl, rfl, ?_⟩
        refine ⟨rfl, _, hcode, ?_⟩
        refine ⟨rfl, _, hcode, ?_⟩
        refine ⟨rfl, _, hcode, ?_⟩
        refine ⟨rfl, _, hcode, ?_⟩
        exact ⟨Nat.le_of_ble_eq_true rfl, rfl⟩
      · cases non hks
        refine ⟨rfl, _, hcode, Nat.le_of_ble_eq_true rfl, rfl, rfl, ?_⟩
        refine ⟨rfl, _, hcode, ?_⟩
        refine ⟨rfl, _, hcode, ?_⟩
        refine ⟨rfl, _, hcode, ?_⟩
        refine ⟨rfl, _, hcode, Nat.le_of_ble_eq_true rfl, rfl, rfl, ?_⟩
        refine ⟨rfl, _, hcode, ?_⟩
        refine ⟨rfl, _, hcode, ?_⟩
        refine ⟨rfl, _, hcode, ?_⟩
        refine ⟨rfl, _, hcode, ?_⟩
        exact ⟨Nat.le_of_ble_eq_true rfl, rfl⟩
    · subst hd
      have fH : Full H H' := fun b o z => by
        by_cases hb : b = dd
        · rw [hb] at z ⊢
          rw [hx] at z
          cases z
          exact i
        · exact e b o hb z
      exact k H' v fH (r'.car fun b o n z => ⟨fun y => n (.inl y), z⟩)
def tryCs (T : Tx K mg) : List Value := [.ref T.C_ScaleError, .ref T.C_Missing, .ref T.C_NothingLeft]
theorem takes_len {X : Cx} {W : WX} (tk : Takes X W) : Takes X (fun cls d σ H => σ.length = X.N.length → W cls d σ H) := fun u s' ⟨a, B, sI, pins, σ, H, cls, d, e, I, nb, up, sky, na, os, ag, w⟩ =>
  tk u s' ⟨a, B, sI, pins, σ, H, cls, d, e, I, nb, up, sky, na, os, ag, w I.len⟩
def tsTry (K : PySem.W.Frag) (a : Addr) (cls : Value) (d : Option Addr) : TS := fun D σ H => σ[2]? = some (some (.ref a)) ∧ ∃ (C dd : Addr) (fs : List (Str × V)) (z : Str) (ks : List Str) (ws : List V) (Mo : Addr → Prop), cls = .ref C ∧ d = some dd ∧ ExcK K C ∧ H dd = some (.xd fs) ∧ fs.lookup ("code" : Str) = some (V.str z) ∧
  (z, ks) ∈ errTab ∧ ks.map (fun k => fs.lookup k) = ws.map some ∧ (∀ b, Mo b → H b ≠ none ∧ ∀ φ, H b ≠ some (.ext φ)) ∧ ∀ H2 v2, Full H H2 → Rep K Mo H2 (.tup (ws.map dOf)) v2 → ∀ p, H2 p = none → D.nx (σ.set 1 (some (.ref p))) (upd H2 p (.tup [.str z, v2]))
theorem try_gives {X : Cx} (T : Tx X.K X.mg) (cdv : Value) (q : Str) (k : Nat) : GivesT X ["_law_ask", "_law_said", "_law_e"] "_law_try" (defScope s_l_try) T.f_l_try cdv (defBody s_l_try) "_law_ask" q (k + 1) (TTry X.K (tryCs T)) := by
  intro f c' s H Q tl hr act hc h
  refine ⟨_, pss_cons (ps_set (i := 1) sc_l_try.nd rfl (.inl rfl) (pe_tup (pa_cons pe_str (pa_cons pe_non pa_nil))))
    (pss_cons (ps_try_tup3 (i := 2) (ts := tsTry X.K)
        (tb := fun W D σ H => ∃ Ech : XK, (∀ cls d σ' H', σ'.length = 3 → Ech cls d H' → W cls d σ' H') ∧ σ[0]? = some (some (.ref f)) ∧ H c' = some (LamX.CodeO c' q) ∧ tl Ech H fun v H' => 2 ≤ sizeLine ∧ ∀ p, H' p = none → D.nx (σ.set 1 (some (.ref p))) (upd H' p (.tup [.str "", v])))
        rfl rfl sc_l_try.nd rfl rfl (by rfl) T.gC_ScaleError (by rfl) T.gC_Missing (by rfl) T.gC_NothingLeft (fun W pn xe tk _ => ?_) (fun a oe cls d pn hz hf => ?_))
      (pss_one (ps_ret (pv 1)))), ?_⟩
  · refine ⟨fun pins s' σ H' D I h' => ?_⟩
    obtain ⟨Ech, hW, h1, h2, h3⟩ := h'
    have hp := fun p1 p2 => act _ pn xe Ech p1 p2 (takes_len tk) (fun cls d σ' H' h hl => hW cls d σ' H' hl h)
    refine (pss_one (ps_set (i := 1) sc_l_try.nd rfl (.inl rfl) (pe_tup (pa_cons pe_str (pa_cons (hp _ _) pa_nil))))).run pins s' σ H' D I ?_
    exact ⟨h1, h2, h3⟩
  · refine ⟨fun pins s' σ H' D I h' => ?_⟩
    obtain ⟨h1, C, dd, fs, z, ks, ws, Mo, rfl, rfl, hC, hx, hcode, hmem, hks, hMo, kk⟩ := h'
    obtain ⟨vs, hd⟩ := hf
    refine (pss_one (ps_set (i := 1) sc_l_try.nd rfl (.inl rfl) (pe_tup (pa_cons (pe_xfN (X := (cxOf CX0 X.prog X.w X.K X.mg X.base ["_law_ask", "_law_said", "_law_e"] "_law_try" (defScope s_l_try) T.f_l_try cdv X.A X.stack s H C8.E0).nox) (i := 2) hz ⟨vs, hd⟩ (by decide) rfl (.inl rfl)) (pa_cons (pe_exarg (X := (cxOf CX0 X.prog X.w X.K X.mg X.base ["_law_ask", "_law_said", "_law_e"] "_law_try" (defScope s_l_try) T.f_l_try cdv X.A X.stack s H C8.E0).nox) (i := 2) (ok_l_field T) ⟨(hr.mono (Nat.le_add_left 1 k)).dp, (hr.mono (Nat.le_add_left 1 k)).un⟩ (by rfl) T.g_l_field T.F_l_field.kp T.B_l_field rfl (.inl rfl)) pa_nil))))).run pins s' σ H' D I ?_
    refine ⟨h1, C, dd, fs, _, hC, rfl, rfl, hx, hcode, ?_⟩
    refine ⟨h1, dd, fs, z, ks, ws, Mo, rfl, ⟨C, vs, hC, hz.1, hz.2, hd⟩, hx, hcode, hmem, hks, hMo, fun H2 v2 fH r2 => ?_⟩
    exact ⟨by show 2 ≤ sizeLine; decide, fun p hp => kk H2 v2 fH r2 p hp⟩
  · refine ⟨by show 2 ≤ sizeLine; decide, fun p0 hp0 => ?_⟩
    have hcc : upd H p0 (.tup [.str "", .non]) c' = some (LamX.CodeO c' q) := by rw [upd_ne (ne_of_none hc hp0)]; exact hc
    refine ⟨fun cls d H' => excAsk X.K (tryCs T) H' cls d (fun Mo z vs => ∀ H2 v2, Full H' H2 → Rep X.K Mo H2 (.tup (vs.map dOf)) v2 → ∀ p, H2 p = none → Q (.ref p) (upd H2 p (.tup [.str z, v2]))), fun cls d σ' H' hl hx => ?_, rfl, hcc, h p0 hp0 _ _ (fun _ _ _ z => z) fun v H' hv => ⟨by decide, fun p hp => ⟨.ref p, rfl, hv p hp⟩⟩⟩
    obtain ⟨C, dd, fs, z, ks, vs, Mo, rfl, rfl, hC, hex, hdd, hcode, hmem, hks, hMo, R⟩ := hx
    match σ', hl with
    | [s0, s1, s2], _ =>
      exact ⟨hex, fun a na => ⟨rfl, C, dd, fs, z, ks, vs, Mo, rfl, rfl, hC, hdd, hcode, hmem, hks, hMo, fun H2 v2 fH r2 p hp => ⟨.ref p, rfl, R H2 v2 fH r2 p hp⟩⟩⟩
theorem ve_tryT {X : Cx} {W : Wd} {c Pt : Addr} {k : Nat} {params : Arguments} {body : Expr} {scope : Scope} {wB : (D → Prop) → WE} {p lpos pos : Pos} (T : Tx X.K X.mg) (hg : Gl X "_law_try")
    (TB : LamX.TabB X.base X.mg c Pt) (hcode : X.env.code = .ref c) (hr : Room (k + 2) X.A) (L : LamX.LamS X.env.scope scope) (hdef : defaultsOf params X.env = ([], []))
    (hbind : ∀ (q : Str) (cl : List (Str × Addr)) (pm cv ctv : Value), bindArgs (PySem.W.kla_fn "<lambda>" q params body scope cl pm cv ctv) ⟨[], []⟩ = pure [])
    (hbody : ∀ (A : Around) (outer : List Env) (s : Shared) (H : Hp) (E : XK) (f c' : Addr) (Mf : Addr → Prop) (Hf : Hp) (PX : D → Prop), Room k (A.deeper (LamX.lamEnv X scope s.heap.objs.size f c')) → Takes (LamX.lamCx X A outer s H E scope f c') (XW X.K ((W.tab Pt (lamQ X)).fx Mf Hf) PX) →
      VE (LamX.lamCx X A outer s H E scope f c') ((W.tab Pt (lamQ X)).fx Mf Hf) body (wB PX)) :
    VE X (W.tab Pt (lamQ X)) (.Call (.Name "_law_try" p) [.Lambda params body scope lpos] [] pos) (wTry X.K (tryCs T) wB) := by
  obtain ⟨⟨oc, od, kV, doc, pm, an, cdv, ct, osl, e, lk, hcd⟩, hkp⟩ := T.F_l_try
  have hb := T.B_l_try
  rw [e] at lk hb
  exact ve_try hg T.g_l_try hkp lk hcd hb sc_l_try rfl (.inl rfl) (try_gives T cdv (lamQ X) k) TB hcode hr L hdef hbind hbody
def errT (T : Tx K mg) (i : Int) : D := .ins T.C_InvalidText ["row", "code"] [.int i, .str "InvalidText"]
theorem errT_ok (T : Tx K mg) {i : Int} {R : D → Prop} (h : R (.tup [.str "InvalidText", .tup [.int i]])) : errD K (tryCs T) R (errT T i) := by
  exact ⟨T.ex_InvalidText, T.em_InvalidText, ("InvalidText" : Str), [("row" : Str)], [.int i], rfl, by decide +kernel, rfl, h⟩
def g_readX (T : Tx K mg) : GX := fun xs P PX => ∃ z : Str, xs = [.str z] ∧ z.length ≤ 1000 ∧ (wrdsOf z).length ≤ 14 ∧ ((formIn z = .non ∧ PX (errT T 0)) ∨ ((∃ ts c, formIn z = .tup [ts, c]) ∧ P (formIn z)))
theorem okx_read_form (T : Tx K mg) : FnOk P w K mg base (L2.CX P w) 8 T.f_read_form T.fd_read_form ["text"] (spX K W (g_readX T)) := by
  refine vfnX T.F_read_form sc_read_form (fun ds Q PX h => ?_) ⟨_, fun PX Mf Hf cdv A outer s H E hr tk => (vss_cons (vs_set 1 sc_read_form.nd (ve_call (ok_form_in T) (hr.mono (by decide)) (by rfl) T.g_form_in T.F_form_in.kp T.B_form_in .nil pass0 (fun _ _ => reps_nil) (va_cons (ve_var 0) va_nil))) (vss_cons (vs_if (vt_cmp op_isN lift_isN (ve_var 1) ve_non (nomark _)) (vss_one (vs_raise T.ox_InvalidText T.oi_InvalidText T.ot_InvalidText (ok_mk_InvalidText T) (hr.mono (by decide)) T.B_InvalidText___init__ (by rfl) T.gC_InvalidText rfl tk (va_cons ve_int va_nil))) vss_nil) (vss_one (vs_ret (ve_var 1))))), fun ds Q PX h => ?_⟩
  · obtain ⟨_, rfl, _⟩ := h
    rfl
  · obtain ⟨z, rfl, hz, hw, h⟩ := h
    refine ⟨z, rfl, hz, hw, ?_⟩
    rcases h with ⟨e, h⟩ | ⟨⟨ts, c, e⟩, h⟩
    · rw [e]
      exact ⟨rfl, by decide, h⟩
    · rw [e] at h ⊢
      exact h
theorem part30 {s : Str} {f : D} (hs : s.length ≤ 100) {a b : Int} (e : f = .tup [.int a, .int b]) (ha : a.natAbs < 10 ^ 30) (hb : b.natAbs < 10 ^ 30) : (partS s f).length ≤ 64 + s.length := by
  subst e
  have l1 := (text_num ha).2.2
  have l2 := (text_num hb).2.2
  have lt : (textD (.tup [.int a, .int b])).length ≤ 63 := by
    rw [tl_len, tl_amt]
    split
    · omega
    · rw [List.length_append, List.length_cons]; omega
  unfold partS
  split
  · omega
  · split
    · omega
    · rw [Str.length_append, Str.length_append]
      have : ("*" : Str).length = 1 := rfl
      omega
theorem form_shortK {ts : List D} {c : D} (h : FormN ts c) : (formS (partsD ts c)).length ≤ 75 * (ts.length + 1) := by
  have hn : ∀ s, nmS s = true → s.length ≤ 8 := fun s h => by
    by_cases c : (1 : Int) ≤ s.length ∧ (s.length : Int) ≤ 8
    · omega
    · rw [nmS_len c] at h
      cases h
  have key : ∀ i, i ≤ (partsD ts c).length → (formS ((partsD ts c).take i)).length ≤ 75 * i := fun i => by
    induction i with
    | zero => intro _; exact Nat.le_refl _
    | succ i ih =>
      intro hi
      obtain ⟨p, hp⟩ := get_lt (xs := partsD ts c) (i := i) (by omega)
      obtain ⟨s, a, b, rfl, hs, h1, h2, h3, h4⟩ := (h.parts p (List.mem_of_getElem? hp)).ex
      have sl : s.length ≤ 8 := by
        rcases hs with rfl | hs
        · decide
        · exact hn s hs
      rw [formS_take hp]
      have l1 := part30 (s := s) (f := barD (.tup [.int a, .int b])) (by omega) fac_bar (by rw [Int.natAbs_natCast]; exact h3) h4
      have l2 := mark_len (decide (i = 0)) (.tup [.int a, .int b])
      have := ih (by omega)
      show (_ ++ _ ++ _ : Str).length ≤ _
      rw [Str.length_append, Str.length_append]
      omega
  have := key _ (Nat.le_refl _)
  rw [List.take_length] at this
  have := parts_len ts c
  omega
theorem form_short {ts : List D} {c : D} (h : FormN ts c) (hl : ts.length ≤ 5) : (formS (partsD ts c)).length ≤ 1000 := by
  have := form_shortK h
  omega
def lawQ : Str := (envOfC "law" (defScope s_law) 0 0 .none).qual ++ "<lambda>"
def isNonB : D → Bool
  | .non => true
  | _ => false
theorem isNon {d : D} (h : isNonB d = true) : d = .non := by
  cases d <;> first | rfl | cases h
def wrongTs : List Str := [Str.ofString "", Str.ofString " ", Str.ofString "+x", Str.ofString "x+y", Str.ofString "x +y", Str.ofString "x  + y", Str.ofString "x + -y", Str.ofString "y + x", Str.ofString "x + x", Str.ofString "1*x", Str.ofString "-1*x", Str.ofString "0*x", Str.ofString "x + 0", Str.ofString "2x", Str.ofString "2*", Str.ofString "*x", Str.ofString "2*x*y", Str.ofString "x - - y", Str.ofString "x +", Str.ofString "+", Str.ofString "-", Str.ofString "- x", Str.ofString "4 + x", Str.ofString "X", Str.ofString "x + 1 + 2", Str.ofString "2/4*x", Str.ofString "x + 2/4", Str.ofString "abcdefghi", Str.ofString "x*2", Str.ofString "--x", Str.ofString "x + 1/0", Str.ofString "x ", Str.ofString " x"]
theorem srt_yx : srt [Str.ofString "y", Str.ofString "x"] = [Str.ofString "x", Str.ofString "y"] := by
  have h : leS (Str.ofString "y") (Str.ofString "x") = false := by decide +kernel
  unfold srt
  rw [List.mergeSort]
  simp [List.MergeSort.Internal.splitInTwo, h]
theorem yx : formIn (Str.ofString "y + x") = .non := by
  have e : formIn (Str.ofString "y + x") = formOut (Str.ofString "y + x") (some ([.tup [.str (Str.ofString "y"), .tup [.int 1, .int 1]], .tup [.str (Str.ofString "x"), .tup [.int 1, .int 1]]], .tup [.int 0, .int 1])) := by kernel_rfl
  rw [e]
  unfold formOut
  dsimp only
  have e2 : formTs (totals [.tup [.str (Str.ofString "y"), .tup [.int 1, .int 1]], .tup [.str (Str.ofString "x"), .tup [.int 1, .int 1]]]) = [.tup [.str (Str.ofString "x"), .tup [.int 1, .int 1]], .tup [.str (Str.ofString "y"), .tup [.int 1, .int 1]]] := by
    have e3 : (totals [.tup [.str (Str.ofString "y"), .tup [.int 1, .int 1]], .tup [.str (Str.ofString "x"), .tup [.int 1, .int 1]]]).1 = [Str.ofString "y", Str.ofString "x"] := by kernel_rfl
    unfold formTs
    rw [e3, srt_yx]
    kernel_rfl
  rw [e2]
  exact if_neg (by decide +kernel)
theorem wrong_all : (wrongTs.all fun z => decide (z.length ≤ 1000) && decide ((wrdsOf z).length ≤ 14) && (decide (z = Str.ofString "y + x") || isNonB (formIn z))) = true := by decide +kernel
theorem wrong_of {d : D} (h : d ∈ wrongTs.map D.str) : ∃ z : Str, d = .str z ∧ z.length ≤ 1000 ∧ (wrdsOf z).length ≤ 14 ∧ formIn z = .non := by
  obtain ⟨z, hz, rfl⟩ := List.mem_map.mp h
  have h := List.all_eq_true.mp wrong_all z hz
  obtain ⟨h1, h2⟩ := Bool.and_eq_true_iff.mp h
  obtain ⟨h3, h4⟩ := Bool.and_eq_true_iff.mp h1
  refine ⟨z, rfl, of_decide_eq_true h3, of_decide_eq_true h4, ?_⟩
  rcases Bool.or_eq_true_iff.mp h2 with h2 | h2
  · rw [of_decide_eq_true h2]
    exact yx
  · exact isNon h2
def compSc : Scope := match ((defBody s_law : List Stmt)[4]? : Option Stmt) with
  | some (.If (.UnaryOp _ (.Call _ (.ListComp _ _ sc _ :: _) _ _) _) _ _ _) => sc
  | _ => defScope s_law
theorem ok_law (T : Tx K mg) {cc Pt : Addr} (hc : T.fd_law.code = .ref cc) (TB : LamX.TabB base mg cc Pt) : FnOk P w K mg base CX0 13 T.f_law T.fd_law ["_law_script"] (spLawT K Pt) := by
  refine okC T.F_law hc sc_law (fun vs H Q E h => ?_) (fun A outer s H vs Q E hr h => ⟨_, (pss_cons (ps_set (i := 1) sc_law.nd rfl (by first | exact Or.inl rfl | exact Or.inr rfl) (pe_call (ok_l_source T) (hr.mono (by decide)) (by rfl) T.g_l_source T.F_l_source.kp T.B_l_source .nil pass0 (pa_cons (pv 0) pa_nil))) (pss_ex2 fun r c => (vss_cons (vs_set 2 sc_law.nd (ve_lst (va_cons ve_str (va_cons ve_str (va_cons ve_str (va_cons ve_str (va_cons ve_str (va_cons ve_str (va_cons ve_str (va_cons ve_str (va_cons ve_str (va_cons ve_str (va_cons ve_str (va_cons ve_str (va_cons ve_str (va_cons ve_str (va_cons ve_str (va_cons ve_str (va_cons ve_str (va_cons ve_str (va_cons ve_str (va_cons ve_str (va_cons ve_str (va_cons ve_str (va_cons ve_str (va_cons ve_str (va_cons ve_str (va_cons ve_str (va_cons ve_str (va_cons ve_str (va_cons ve_str (va_cons ve_str (va_cons ve_str (va_cons ve_str (va_cons ve_str va_nil))))))))))))))))))))))))))))))))))) (vss_cons (vs_set 3 sc_law.nd (ve_mulS ve_str ve_int)) (vss_cons (vs_set 4 sc_law.nd (ve_lst (va_cons (ve_var 3) (va_cons (ve_addA (ve_var 3) ve_str) (va_cons (ve_addA ve_str (ve_var 3)) (va_cons (ve_addA ve_str (ve_var 3)) (va_cons (ve_addA ve_str (ve_var 3)) (va_cons (ve_addA (ve_addA ve_str (ve_var 3)) ve_str) va_nil)))))))) (vss_cons (vs_if (vt_not (vt_val (ve_call (ok_l_same T 5) (hr.mono (by decide)) (by rfl) T.g_l_same T.F_l_same.kp T.B_l_same .nil pass0 (fun _ _ => reps_nil) (va_cons (ve_lc (own := [("_law_one", 7)]) rfl sc_law.nd (vi_its (ve_var 4)) (blkOk_by (N := ["_law_script", "_law_rng", "_law_wrong", "_law_great", "_law_long_z", "_law_turn", "_law_names_here", "_law_one", "_law_text", "_law_at", "_law_fresh", "_law_bent", "_law_odd", "_law_code", "_law_found", "_law_k"]) (sc := defScope s_law) (by decide +kernel)) (fun _ _ _ _ _ => (vg_name 7 sc_law.nd (by decide))) (fun _ _ _ _ _ => vts_nil) (fun sB HB CB clB fpB => (show VE ((cxOf CX0 P w K mg base ["_law_script", "_law_rng", "_law_wrong", "_law_great", "_law_long_z", "_law_turn", "_law_names_here", "_law_one", "_law_text", "_law_at", "_law_fresh", "_law_bent", "_law_odd", "_law_code", "_law_found", "_law_k"] "law" (defScope s_law) T.f_law (.ref cc) A outer s H E).nox.blk sB HB compSc (compEnvC compSc clB CB (cxOf CX0 P w K mg base ["_law_script", "_law_rng", "_law_wrong", "_law_great", "_law_long_z", "_law_turn", "_law_names_here", "_law_one", "_law_text", "_law_at", "_law_fresh", "_law_bent", "_law_odd", "_law_code", "_law_found", "_law_k"] "law" (defScope s_law) T.f_law (.ref cc) A outer s H E).nox.env) fpB) ((rngW r c).tab Pt (lamQ (cxOf CX0 P w K mg base ["_law_script", "_law_rng", "_law_wrong", "_law_great", "_law_long_z", "_law_turn", "_law_names_here", "_law_one", "_law_text", "_law_at", "_law_fresh", "_law_bent", "_law_odd", "_law_code", "_law_found", "_law_k"] "law" (defScope s_law) T.f_law (.ref cc) A outer s H E).nox)) _ (wTry K (tryCs T) _) from ve_tryT (X := (cxOf CX0 P w K mg base ["_law_script", "_law_rng", "_law_wrong", "_law_great", "_law_long_z", "_law_turn", "_law_names_here", "_law_one", "_law_text", "_law_at", "_law_fresh", "_law_bent", "_law_odd", "_law_code", "_law_found", "_law_k"] "law" (defScope s_law) T.f_law (.ref cc) A outer s H E).nox.blk sB HB compSc (compEnvC compSc clB CB (cxOf CX0 P w K mg base ["_law_script", "_law_rng", "_law_wrong", "_law_great", "_law_long_z", "_law_turn", "_law_names_here", "_law_one", "_law_text", "_law_at", "_law_fresh", "_law_bent", "_law_odd", "_law_code", "_law_found", "_law_k"] "law" (defScope s_law) T.f_law (.ref cc) A outer s H E).nox.env) fpB) (W := rngW r c) (k := 9) T (by rfl) TB rfl (hr.mono (by decide)) (LamX.lamS_by (sc := compSc) (by decide +kernel)) (by rfl) (fun _ _ _ _ _ => rfl) (fun A outer s H E f c' Mf Hf PX hr tk => (ve_callX (okx_read_form T) (hr.mono (by decide)) (by rfl) T.g_read_form T.F_read_form.kp ⟨[], .nil, T.B_read_form⟩ tk (fun _ _ => reps_nil) (va_cons (ve_var 7) va_nil)))))) (va_cons (ve_rep (va_cons (ve_tup (va_cons ve_str (va_cons (ve_tup (va_cons ve_int va_nil)) va_nil))) va_nil) ve_int) va_nil))))) (vss_one (vs_ret ve_bl)) vss_nil) (vss_cons (vs_if (vt_not (vt_val (ve_call (ok_l_same T 5) (hr.mono (by decide)) (by rfl) T.g_l_same T.F_l_same.kp T.B_l_same .nil pass0 (fun _ _ => reps_nil) (va_cons (ve_call (ok_read_form T) (hr.mono (by decide)) (by rfl) T.g_read_form T.F_read_form.kp T.B_read_form .nil pass0 (fun _ _ => reps_nil) (va_cons (ve_addA (ve_mulS ve_str ve_int) ve_str) va_nil)) (va_cons (ve_tup (va_cons (ve_tup (va_cons (ve_tup (va_cons ve_str (va_cons (ve_tup (va_cons (ve_callTy call_int_str lift_intS (by rfl) T.n_int bt_int (va_cons (ve_mulS ve_str ve_int) va_nil)) (va_cons ve_int va_nil))) va_nil))) va_nil)) (va_cons (ve_tup (va_cons ve_int (va_cons ve_int va_nil))) va_nil))) va_nil))))) (vss_one (vs_ret ve_bl)) vss_nil) (vss_cons (vs_for (vs := [5]) PassesOwn.never rfl (vi_range1 (by rfl) T.n_range ve_int) (vg_name 5 sc_law.nd (by decide)) (vss_cons (vs_set 6 sc_law.nd (ve_call (tb (ok_l_names T r c)) (hr.mono (by decide)) (by rfl) T.g_l_names T.F_l_names.kp T.B_l_names .nil pass0 (fun _ _ => reps_nil) (va_cons (ve_var 1) (va_cons ve_int va_nil)))) (vss_cons (vs_set 7 sc_law.nd (ve_call (ok_l_form_of T) (hr.mono (by decide)) (by rfl) T.g_l_form_of T.F_l_form_of.kp T.B_l_form_of .nil pass0 (fun _ _ => reps_nil) (va_cons (ve_lc (own := [("_law_k", 15)]) rfl sc_law.nd (vi_range1 (by rfl) T.n_range (ve_addA ve_int (ve_call (tb (ok_l_draw T r c)) (hr.mono (by decide)) (by rfl) T.g_l_draw T.F_l_draw.kp T.B_l_draw .nil pass0 (fun _ _ => reps_nil) (va_cons (ve_var 1) (va_cons ve_int va_nil))))) (blkOk_by (N := ["_law_script", "_law_rng", "_law_wrong", "_law_great", "_law_long_z", "_law_turn", "_law_names_here", "_law_one", "_law_text", "_law_at", "_law_fresh", "_law_bent", "_law_odd", "_law_code", "_law_found", "_law_k"]) (sc := defScope s_law) (by decide +kernel)) (fun _ _ _ _ _ => (vg_name 15 sc_law.nd (by decide))) (fun _ _ _ _ _ => vts_nil) (fun sB HB CB clB fpB => (ve_tup (va_cons (ve_call (tb (ok_l_choice T r c)) (hr.mono (by decide)) (by rfl) T.g_l_choice T.F_l_choice.kp T.B_l_choice .nil pass0 (fun _ _ => reps_nil) (va_cons (ve_var 1) (va_cons (ve_var 6) va_nil))) (va_cons (ve_call (tb (ok_l_factor T r c)) (hr.mono (by decide)) (by rfl) T.g_l_factor T.F_l_factor.kp T.B_l_factor .nil pass0 (fun _ _ => reps_nil) (va_cons (ve_var 1) va_nil)) va_nil))))) (va_cons (ve_call (tb (ok_l_amount T r c)) (hr.mono (by decide)) (by rfl) T.g_l_amount T.F_l_amount.kp T.B_l_amount .nil pass0 (fun _ _ => reps_nil) (va_cons (ve_var 1) va_nil)) va_nil)))) (vss_cons (vs_set 8 sc_law.nd (ve_call (ok_l_form_text T) (hr.mono (by decide)) (by rfl) T.g_l_form_text T.F_l_form_text.kp T.B_l_form_text .nil pass0 (fun _ _ => reps_nil) (va_cons (ve_var 7) va_nil))) (vss_cons (vs_set 9 sc_law.nd (ve_call (tb (ok_l_draw T r c)) (hr.mono (by decide)) (by rfl) T.g_l_draw T.F_l_draw.kp T.B_l_draw .nil pass0 (fun _ _ => reps_nil) (va_cons (ve_var 1) (va_cons (ve_addA (ve_callB call_len lift_len (by rfl) T.n_len bt_len (va_cons (ve_var 8) va_nil)) ve_int) va_nil)))) (vss_cons (vs_set 10 sc_law.nd (ve_call (tb (ok_l_choice T r c)) (hr.mono (by decide)) (by rfl) T.g_l_choice T.F_l_choice.kp T.B_l_choice .nil pass0 (fun _ _ => reps_nil) (va_cons (ve_var 1) (va_cons (ve_lst (va_cons ve_str (va_cons ve_str (va_cons ve_str (va_cons ve_str (va_cons ve_str (va_cons ve_str (va_cons ve_str (va_cons ve_str (va_cons ve_str (va_cons ve_str (va_cons ve_str (va_cons (ve_ixA hr.units (ve_var 6) ve_int) (va_cons ve_str va_nil)))))))))))))) va_nil)))) (vss_cons (vs_set 11 sc_law.nd (ve_addA (ve_addA (ve_slice (ve_var 8) vo_none (vo_some (ve_var 9))) (ve_var 10)) (ve_slice (ve_var 8) (vo_some (ve_addA (ve_var 9) (ve_call (tb (ok_l_draw T r c)) (hr.mono (by decide)) (by rfl) T.g_l_draw T.F_l_draw.kp T.B_l_draw .nil pass0 (fun _ _ => reps_nil) (va_cons (ve_var 1) (va_cons ve_int va_nil))))) vo_none))) (vss_cons (vs_asg (vs := [13, 14]) (ve_tryT (X := (cxOf CX0 P w K mg base ["_law_script", "_law_rng", "_law_wrong", "_law_great", "_law_long_z", "_law_turn", "_law_names_here", "_law_one", "_law_text", "_law_at", "_law_fresh", "_law_bent", "_law_odd", "_law_code", "_law_found", "_law_k"] "law" (defScope s_law) T.f_law (.ref cc) A outer s H E).nox) (W := rngW r c) (k := 9) T (by rfl) TB rfl (hr.mono (by decide)) (LamX.lamS_by (sc := defScope s_law) (by decide +kernel)) (by rfl) (fun _ _ _ _ _ => rfl) (fun A outer s H E f c' Mf Hf PX hr tk => (ve_callX (okx_read_form T) (hr.mono (by decide)) (by rfl) T.g_read_form T.F_read_form.kp ⟨[], .nil, T.B_read_form⟩ tk (fun _ _ => reps_nil) (va_cons (ve_var 11) va_nil)))) (vg_tup (n := 2) rfl (vgs_cons (vg_name 13 sc_law.nd (by decide)) (vgs_cons (vg_name 14 sc_law.nd (by decide)) vgs_nil)))) (vss_cons (vs_if (vt_cmp (op_eqA hr.units) lift_eq (ve_var 13) ve_str (nomark _)) (vss_one (vs_if (vt_w (vw_or (vt_not (vt_val (ve_call (ok_is_form T) (hr.mono (by decide)) (by rfl) T.g_is_form T.F_is_form.kp T.B_is_form .nil pass0 (fun _ _ => reps_nil) (va_cons (ve_var 14) va_nil)))) (vw_or1 (vt_cmp (op_neA hr.units) lift_ne (ve_call (ok_l_form_text T) (hr.mono (by decide)) (by rfl) T.g_l_form_text T.F_l_form_text.kp T.B_l_form_text .nil pass0 (fun _ _ => reps_nil) (va_cons (ve_var 14) va_nil)) (ve_var 11) (nomark _))))) (vss_one (vs_ret ve_bl)) vss_nil)) (vss_one (vs_if (vt_not (vt_val (ve_call (ok_l_same T 5) (hr.mono (by decide)) (by rfl) T.g_l_same T.F_l_same.kp T.B_l_same .nil pass0 (fun _ _ => reps_nil) (va_cons (ve_tup (va_cons (ve_var 13) (va_cons (ve_var 14) va_nil))) (va_cons (ve_tup (va_cons ve_str (va_cons (ve_tup (va_cons ve_int va_nil)) va_nil))) va_nil))))) (vss_one (vs_ret ve_bl)) vss_nil))) (vss_cons (vs_if (vt_not (vt_val (ve_call (ok_l_same T 5) (hr.mono (by decide)) (by rfl) T.g_l_same T.F_l_same.kp T.B_l_same .nil pass0 (fun _ _ => reps_nil) (va_cons (ve_call (ok_read_form T) (hr.mono (by decide)) (by rfl) T.g_read_form T.F_read_form.kp T.B_read_form .nil pass0 (fun _ _ => reps_nil) (va_cons (ve_var 8) va_nil)) (va_cons (ve_var 7) va_nil))))) (vss_one (vs_ret ve_bl)) vss_nil) (vss_cons (vs_set 12 sc_law.nd (ve_call (tb (ok_l_choice T r c)) (hr.mono (by decide)) (by rfl) T.g_l_choice T.F_l_choice.kp T.B_l_choice .nil pass0 (fun _ _ => reps_nil) (va_cons (ve_var 1) (va_cons (ve_var 2) va_nil)))) (vss_one (vs_if (vt_not (vt_val (ve_call (ok_l_same T 5) (hr.mono (by decide)) (by rfl) T.g_l_same T.F_l_same.kp T.B_l_same .nil pass0 (fun _ _ => reps_nil) (va_cons (ve_tryT (X := (cxOf CX0 P w K mg base ["_law_script", "_law_rng", "_law_wrong", "_law_great", "_law_long_z", "_law_turn", "_law_names_here", "_law_one", "_law_text", "_law_at", "_law_fresh", "_law_bent", "_law_odd", "_law_code", "_law_found", "_law_k"] "law" (defScope s_law) T.f_law (.ref cc) A outer s H E).nox) (W := rngW r c) (k := 9) T (by rfl) TB rfl (hr.mono (by decide)) (LamX.lamS_by (sc := defScope s_law) (by decide +kernel)) (by rfl) (fun _ _ _ _ _ => rfl) (fun A outer s H E f c' Mf Hf PX hr tk => (ve_callX (okx_read_form T) (hr.mono (by decide)) (by rfl) T.g_read_form T.F_read_form.kp ⟨[], .nil, T.B_read_form⟩ tk (fun _ _ => reps_nil) (va_cons (ve_var 12) va_nil)))) (va_cons (ve_tup (va_cons ve_str (va_cons (ve_tup (va_cons ve_int va_nil)) va_nil))) va_nil))))) (vss_one (vs_ret ve_bl)) vss_nil))))))))))))) (vss_one (vs_ret ve_bl)))))))))), ?_⟩)
  · obtain ⟨a, ns, rfl, _⟩ := h
    rfl
  · obtain ⟨a, ns, rfl, hS, hl, hP, k⟩ := h
    refine ⟨_, rfl, a, ns, rfl, hS, hl, fun H' r c hr0 hc0 hs hI => ⟨r, c, law_goT (q := lawQ) (i := 1) hI (hs _ _ hP) rfl k ?_⟩⟩
    refine ⟨Nat.le_of_ble_eq_true rfl, ?_⟩
    dsimp only [List.set]
    refine ⟨rfl, by decide, by decide, ?_⟩
    dsimp only [List.set]
    have S : ∀ n, n ≤ 1000 → n ≤ sizeLine := fun n h => by rw [sizeLine_eq]; omega
    refine ⟨S _ (by decide +kernel), S _ (by decide +kernel), S _ (by decide +kernel), S _ (by decide +kernel), S _ (by decide +kernel), S _ (by decide +kernel), Nat.le_of_ble_eq_true rfl, ?_⟩
    dsimp only [List.set]
    refine ⟨rfl, ?_⟩
    refine lcF (fun _ => D.tup [.str "InvalidText", .tup [.int 0]]) (fun d hd R hR => ?_) ?_
    · obtain ⟨z, rfl, hz, hw, hn⟩ : ∃ z : Str, d = .str z ∧ z.length ≤ 1000 ∧ (wrdsOf z).length ≤ 14 ∧ formIn z = .non := by
        simp only [List.mem_cons, List.not_mem_nil, or_false] at hd
        rcases hd with rfl | rfl | rfl | rfl | rfl | rfl <;> exact ⟨_, rfl, by decide +kernel, by decide +kernel, isNon (by decide +kernel)⟩
      exact ⟨z, rfl, hz, hw, .inl ⟨hn, errT_ok T hR⟩⟩
    refine ⟨Nat.le_of_ble_eq_true rfl, Nat.le_of_ble_eq_true rfl, Nat.le_of_ble_eq_true rfl, by decide, by decide, by decide, ?_⟩
    refine ⟨_, rfl, by decide +kernel, ?_⟩
    have e30 : formIn (repT ("1" : Str) 30 ++ ("*x" : Str)) = .tup [.tup [.tup [.str "x", .tup [.int 111111111111111111111111111111, .int 1]]], .tup [.int 0, .int 1]] := by kernel_rfl
    refine ⟨rfl, by decide, by decide, S _ (by decide +kernel), _, rfl, by decide +kernel, by decide +kernel, ⟨_, _, e30⟩, ?_⟩
    rw [e30]
    refine ⟨rfl, by decide, by decide, 111111111111111111111111111111, by decide +kernel, by decide +kernel, Nat.le_of_ble_eq_true rfl, Nat.le_of_ble_eq_true rfl, Nat.le_of_ble_eq_true rfl, Nat.le_of_ble_eq_true rfl, Nat.le_of_ble_eq_true rfl, ?_⟩
    refine ⟨_, rfl, by decide +kernel, ?_⟩
    refine ⟨by decide, by decide, ?_⟩
    refine ⟨fun i ds => ∃ a0 a3 a4 a5 a6 a7 a8 a9 a10 a11 a12 a13 a14 a15 : Sl, ds = [a0, .d (.hnd (.ref r)), .d (.lst (wrongTs.map D.str)), a3, a4, a5, a6, a7, a8, a9, a10, a11, a12, a13, a14, a15] ∧ a15.pl, ⟨_, _, _, _, _, _, _, _, _, _, _, _, _, _, rfl, trivial⟩, ?_, ?_⟩
    · rintro i d ds _ ⟨a0, a3, a4, a5, a6, a7, a8, a9, a10, a11, a12, a13, a14, a15, rfl, p15⟩
      refine ⟨4, rfl, by decide, by decide, fun ss hss hnm => ?_⟩
      match ss, hss, hnm with
      | [s0, s1, s2, s3], _, hnm =>
      refine ⟨by rcases sl_pl p15 with rfl | ⟨x, rfl⟩ <;> rfl, 4, rfl, by decide, by decide, fun k k0 k1 => ⟨by omega, by omega, ?_⟩⟩
      have k1 : k < 4 := k1
      refine lcR (fun _ y => ∃ s f, y = .tup [.str s, f] ∧ AmtD 2 f ∧ nmS s = true) (fun d hd R hR => ?_) (fun ps hps => ?_)
      · refine ⟨_, rfl, Nat.le_of_ble_eq_true rfl, Nat.le_of_ble_eq_true rfl, fun o1 ho1 => ⟨rfl, fun fa fb FA => ⟨Nat.le_of_ble_eq_true rfl, ?_⟩⟩⟩
        obtain ⟨s, hs, rfl⟩ := List.mem_map.mp (show o1 ∈ [s0, s1, s2, s3].map D.str from ho1)
        exact hR _ ⟨s, _, rfl, ⟨_, _, rfl, FA⟩, hnm s hs⟩
      have hl4 : ps.length ≤ 4 := by
        have := hps.len
        rw [rng_len] at this
        omega
      have hp := hps.mem
      clear hps
      refine ⟨rfl, fun ca cb CA => ?_⟩
      have c13 : AmtD 13 (.tup [.int ca, .int cb]) := ⟨_, _, rfl, CA.mono (by decide)⟩
      generalize hcc : D.tup [.int ca, .int cb] = cc at c13
      have hpd : ∀ p ∈ ps, PairD 2 p := fun p h => by
        obtain ⟨s, f, e, hf, _⟩ := hp p h
        exact ⟨s, f, e, hf⟩
      have cnt : ∀ k, ncnt k ps ≤ 4 := fun k => Nat.le_trans (ncnt_le k ps) hl4
      have FO : FormOk 13 (fun s => nmS s = true) (formD ps cc) (formTs (totals ps)) cc := form_ok hp (by omega) cnt (by decide) c13
      have hfew : (formTs (totals ps)).length ≤ 4 := by
        have := tot_few (i := ps.length) (n := 2) (ps := ps) hpd
        rw [List.take_length] at this
        have := formTs_len (totals ps)
        omega
      have p13 : (2 : Nat) ^ 13 ≤ 10 ^ 30 := Nat.le_of_ble_eq_true rfl
      have FN : FormN (formTs (totals ps)) cc := by
        refine ⟨fun t ht => ?_, form_nodup (tot_ok (S := fun _ => True) (fun p h => by obtain ⟨s, f, e, hf, _⟩ := hp p h; exact ⟨s, f, e, hf, trivial⟩)).nd, form_sorted _, ?_⟩
        · obtain ⟨s, f, rfl, ⟨a, b, rfl, A⟩, hs, hz⟩ := FO.pr t ht
          refine ⟨s, a, b, rfl, hs, A.pos, A.cop, Nat.lt_of_lt_of_le A.ha p13, Nat.lt_of_lt_of_le A.hb p13, fun z => ?_⟩
          subst z
          have hb : b = 1 := by
            have := A.cop
            have hp := A.pos
            rw [Int.gcd_zero_left] at this
            omega
          subst hb
          exact absurd hz (by decide)
        · obtain ⟨a, b, e, A⟩ := c13
          exact ⟨a, b, e, A.pos, A.cop, Nat.lt_of_lt_of_le A.ha p13, Nat.lt_of_lt_of_le A.hb p13⟩
      refine ⟨2, 4, ps, cc, rfl, hpd, by omega, cnt, by decide, ?_⟩
      have FE : formD ps cc = .tup [.tup (formTs (totals ps)), cc] := rfl
      rw [FE] at FO ⊢
      generalize formTs (totals ps) = ts at FN hfew FO ⊢
      dsimp only [List.set]
      have hts : ∀ t ∈ ts, ∃ s f, t = .tup [.str s, f] ∧ nmS s = true ∧ AmtD 13 f := fun t ht => by
        obtain ⟨s, f, e, hf, hs, _⟩ := FO.pr t ht
        exact ⟨s, f, e, hs, hf⟩
      have zl := form_shortK FN
      have zb := form_blanks FN.parts (parts_ne ts cc) (by have := parts_len ts cc; omega)
      have back := form_back FN
      refine ⟨13, ts, cc, rfl, hts, c13, by decide, by omega, ?_⟩
      dsimp only [List.set]
      generalize hz : formS (partsD ts cc) = z at zl zb back ⊢
      have zl : z.length ≤ 375 := by omega
      refine ⟨S _ (by omega), _, rfl, by omega, by omega, fun at_ at0 at1 => ?_⟩
      refine ⟨_, rfl, Nat.le_of_ble_eq_true rfl, _, rfl, Nat.le_of_ble_eq_true rfl, Nat.le_of_ble_eq_true rfl, fun f hf => ?_⟩
      obtain ⟨fs, rfl, hfl, hfb⟩ : ∃ s : Str, f = .str s ∧ s.length ≤ 8 ∧ (TL.tl s).count 32 ≤ 2 := by
        simp only [List.mem_cons, List.not_mem_nil, or_false] at hf
        rcases hf with rfl | rfl | rfl | rfl | rfl | rfl | rfl | rfl | rfl | rfl | rfl | rfl | rfl
        case _ => exact ⟨_, rfl, by decide +kernel, by decide +kernel⟩
        case _ => exact ⟨_, rfl, by decide +kernel, by decide +kernel⟩
        case _ => exact ⟨_, rfl, by decide +kernel, by decide +kernel⟩
        case _ => exact ⟨_, rfl, by decide +kernel, by decide +kernel⟩
        case _ => exact ⟨_, rfl, by decide +kernel, by decide +kernel⟩
        case _ => exact ⟨_, rfl, by decide +kernel, by decide +kernel⟩
        case _ => exact ⟨_, rfl, by decide +kernel, by decide +kernel⟩
        case _ => exact ⟨_, rfl, by decide +kernel, by decide +kernel⟩
        case _ => exact ⟨_, rfl, by decide +kernel, by decide +kernel⟩
        case _ => exact ⟨_, rfl, by decide +kernel, by decide +kernel⟩
        case _ => exact ⟨_, rfl, by decide +kernel, by decide +kernel⟩
        · have hs := hnm s0 (.head _)
          refine ⟨s0, rfl, ?_, ?_⟩
          · by_cases c : (1 : Int) ≤ s0.length ∧ (s0.length : Int) ≤ 8
            · omega
            · rw [nmS_len c] at hs
              cases hs
          · rw [List.count_eq_zero.mpr (fun h => by have := nm_sign hs _ h; omega)]
            decide
        case _ => exact ⟨_, rfl, by decide +kernel, by decide +kernel⟩
      clear hf
      dsimp only [List.set]
      have cl : ∀ a b, (cutS z a b).length ≤ 375 := fun a b => Nat.le_trans (cutS_length z a b) zl
      have l1 := cl none (some at_)
      refine ⟨S _ (by omega), S _ (by omega), 2, rfl, by decide, by decide, fun q q0 q1 => ⟨S _ (by omega), S _ (by rw [Str.length_append]; have := cl (some (at_ + q)) none; omega), ?_⟩⟩
      have l2 := cl (some (at_ + q)) none
      have b1 := cut_blanks z none (some at_)
      have b2 := cut_blanks z (some (at_ + q)) none
      have bl : (cutS z none (some at_) ++ fs ++ cutS z (some (at_ + q)) none).length ≤ 1000 := by
        rw [Str.length_append, Str.length_append]
        omega
      have bw : (wrdsOf (cutS z none (some at_) ++ fs ++ cutS z (some (at_ + q)) none)).length ≤ 14 := by
        have h := wrds_few (cutS z none (some at_) ++ fs ++ cutS z (some (at_ + q)) none)
        rw [TL.tl_append, TL.tl_append, List.count_append, List.count_append] at h
        omega
      generalize cutS z none (some at_) ++ fs ++ cutS z (some (at_ + q)) none = b at bl bw ⊢
      have zw : (wrdsOf z).length ≤ 14 := by
        have h := wrds_few z
        omega
      dsimp only [List.set]
      with_reducible refine meet (α := D × D) (fun o => (o.1 = .str "InvalidText" ∧ o.2 = .tup [.int 0]) ∨ (o.1 = .str "" ∧ ∃ ts2 c2, o.2 = .tup [.tup ts2, c2] ∧ isForm (.tup [.tup ts2, c2]) = true ∧ FormOk 1500 (fun s => nmS s = true) (.tup [.tup ts2, c2]) ts2 c2 ∧ ts2.length ≤ 200 ∧ formS (partsD ts2 c2) = b)) (fun o => [a0, .d (.hnd (.ref r)), .d (.lst (wrongTs.map D.str)), a3, a4, .d d, .d (.lst ([s0, s1, s2, s3].map D.str)), .d (.tup [.tup ts, cc]), .d (.str z), .d (.int at_), .d (.str fs), .d (.str b), a12, .d o.1, .d o.2, a15]) (fun rest => ?_) (fun o ho => ?_)
      · refine ⟨b, rfl, bl, bw, ?_⟩
        rcases formIn_ok b bw with hn | ⟨ts2, c2, e2, q⟩
        · refine .inl ⟨hn, errT_ok T ?_⟩
          refine ⟨rfl, ?_⟩
          exact rest (.str "InvalidText", .tup [.int 0]) (.inl ⟨rfl, rfl⟩)
        · refine .inr ⟨⟨_, _, e2⟩, ?_⟩
          rw [e2]
          refine ⟨rfl, ?_⟩
          exact rest (.str "", .tup [.tup ts2, c2]) (.inr ⟨rfl, ts2, c2, rfl, q⟩)
      with_reducible refine meet1 [a0, .d (.hnd (.ref r)), .d (.lst (wrongTs.map D.str)), a3, a4, .d d, .d (.lst ([s0, s1, s2, s3].map D.str)), .d (.tup [.tup ts, cc]), .d (.str z), .d (.int at_), .d (.str fs), .d (.str b), a12, .d o.1, .d o.2, a15] (fun rest => ?_) ?_
      · obtain ⟨o1, o2⟩ := o
        rcases ho with ⟨rfl, rfl⟩ | ⟨rfl, ts2, c2, rfl, isF, FO2, few2, hS⟩
        · refine ⟨Nat.le_of_ble_eq_true rfl, Nat.le_of_ble_eq_true rfl, Nat.le_of_ble_eq_true rfl, _, rfl, rfl, ?_⟩
          exact rest
        · refine ⟨_, rfl, form_tame (M := 14) (n := 1500) FO2 (fun _ h => h), ?_⟩
          rw [isF]
          refine ⟨1500, ts2, c2, rfl, fun t ht => ?_, FO2.c, by decide, few2, ?_⟩
          · obtain ⟨s, f, e, hf, hs, _⟩ := FO2.pr t ht
            exact ⟨s, f, e, hs, hf⟩
          rw [hS]
          refine vifn (fun z => absurd rfl z) (fun _ => ?_)
          exact rest
      · refine ⟨z, rfl, by omega, zw, ⟨_, _, back⟩, ?_⟩
        rw [back]
        refine ⟨_, rfl, FO.ok 1, ?_⟩
        refine ⟨_, rfl, Nat.le_of_ble_eq_true rfl, Nat.le_of_ble_eq_true rfl, fun od hod => ?_⟩
        obtain ⟨zo, rfl, lo, wo, no⟩ := wrong_of hod
        dsimp only [List.set]
        refine ⟨zo, rfl, lo, wo, .inl ⟨no, errT_ok T ?_⟩⟩
        refine ⟨Nat.le_of_ble_eq_true rfl, Nat.le_of_ble_eq_true rfl, _, rfl, rfl, ?_⟩
        exact ⟨_, _, _, _, _, _, _, _, _, _, _, _, _, _, rfl, p15⟩
    · rintro ds ⟨a0, a3, a4, a5, a6, a7, a8, a9, a10, a11, a12, a13, a14, a15, rfl, _⟩
      rfl
section
open PySem.W PySem.Calls HandSHeadRun
section
local macro_rules
  | `(tactic| walk_at $s:str) => match s.getString.splitOn " " with
    | ["top", w, j] => VL.Hm.expand ⟨Lean.mkIdent `Law.topS⟩ hdR.prog 3 w j.toNat!
    | _ => Lean.Macro.throwUnsupported
def hCode : Value := by walk_at "top code 0"
def hFr : Addr := by walk_at "top frame 0"
def hQ : Pos := by walk_at "top q 0"
def hAnn : Option Value := by walk_at "top ann 0"
def hN0 : Nat := by walk_at "top n0 0"
def hM0 : Ms := by walk_at "top ms 0"
def hM1 : Ms := by walk_at "top ms 1"
def hM2 : Ms := by walk_at "top ms 2"
def hM3 : Ms := by walk_at "top ms 3"
def hM4 : Ms := by walk_at "top ms 4"
def hM5 : Ms := by walk_at "top ms 5"
end
def hEnv : Env := { scope := hdR.prog.main.scope, locals := mainNs, globals := mainNs, cells := [], code := hCode, frame := some hFr }
def hB0 : List Stmt := behindTheImports hdR.prog
def hcd : Code := .body hB0 hEnv
noncomputable def hT0 (w : World) : BT := insAll (bootTree w) (hM0.objs w.params)
noncomputable def hT1 (w : World) : BT := insAll (hT0 w) (hM1.objs w.params)
noncomputable def hT2 (w : World) : BT := insAll (hT1 w) (hM2.objs w.params)
noncomputable def hT3 (w : World) : BT := insAll (hT2 w) (hM3.objs w.params)
noncomputable def hT4 (w : World) : BT := insAll (hT3 w) (hM4.objs w.params)
noncomputable def hT5 (w : World) : BT := insAll (hT4 w) (hM5.objs w.params)
def hB1 : List Stmt := hB0.drop hM2.many
def hB2 : List Stmt := hB1.drop hM3.many
def hB3 : List Stmt := hB2.drop hM4.many
noncomputable def hS (m : Ms) (T : BT) (os : OsState) : SharedT := ⟨T, m.n, m.life, #[], m.drawn, m.toks, os⟩
theorem hp0 (w : World) (os : OsState) : PreEq hdR.prog w hN0 hAnn (hM0.steps - 1) (bootS hN0 w os) (hS hM0 (hT0 w) os) (topStub hdR.prog) ⟨denQ tabQ hcd, hcd, hM0.pos, [topFrame hQ]⟩ := by unfold PreEq; kernel_rfl
theorem hp1 (w : World) (os : OsState) : PieceEq hdR.prog w hN0 hAnn hM1.steps (hS hM0 (hT0 w) os) (hS hM1 (hT1 w) os) (blockOf hB0 hEnv hcd hM0.pos [topFrame hQ]) hcd hM1.pos := by unfold PieceEq; kernel_rfl
theorem hp2 (w : World) (os : OsState) : PieceEq hdR.prog w hN0 hAnn hM2.steps (hS hM1 (hT1 w) os) (hS hM2 (hT2 w) os) (piecesOf (hB0.take hM2.many) hEnv hcd hM1.pos [topFrame hQ]) hcd hM2.pos := by unfold PieceEq; kernel_rfl
theorem hp3 (w : World) (os : OsState) : PieceEq hdR.prog w hN0 hAnn hM3.steps (hS hM2 (hT2 w) os) (hS hM3 (hT3 w) os) (piecesOf (hB1.take hM3.many) hEnv hcd hM2.pos [topFrame hQ]) hcd hM3.pos := by unfold PieceEq; kernel_rfl
theorem hp4 (w : World) (os : OsState) : PieceEq hdR.prog w hN0 hAnn hM4.steps (hS hM3 (hT3 w) os) (hS hM4 (hT4 w) os) (piecesOf (hB2.take hM4.many) hEnv hcd hM3.pos [topFrame hQ]) hcd hM4.pos := by unfold PieceEq; kernel_rfl
theorem hp5 (w : World) (os : OsState) : FinEq hdR.prog w hN0 hAnn hM5.steps (hS hM4 (hT4 w) os) (hS hM5 (hT5 w) os) ⟨doneF .next, hcd, hM4.pos, [topFrame hQ]⟩ := by unfold FinEq; kernel_rfl
def hSteps : Nat := (hM0.steps - 1) + (hM1.steps + (hM2.steps + (hM3.steps + (hM4.steps + hM5.steps))))
noncomputable def hSf (w : World) (os : OsState) : SharedT := hS hM5 (hT5 w) os
theorem hRun (w : World) (os : OsState) : topRun treeTable hdR.prog w hN0 hAnn hSteps (bootS hN0 w os).abs (topStub hdR.prog) = some (hSf w os).abs :=
  go_top (pre_of' (hp0 w os)) (piece_block (piece_of (hp1 w os)) (piece_drop (piece_of (hp2 w os)) (piece_drop (piece_of (hp3 w os)) (piece_drop (piece_of (hp4 w os)) (pieces_end (by kernel_rfl) (fin_of (hp5 w os)))))))
abbrev hV : Program := view hdR.prog [52]
theorem hk1 (w : World) (os : OsState) : looksF hdR.prog (boot_heap w.params) (hSf w os).abs = true := by kernel_rfl
theorem hk2 (w : World) (os : OsState) : seenQ hV hdN (importedModules hdR.prog.main.body) (fun s => xlAt hV [] s && recOk hdR.toRowW.records s) (hSf w os).abs = openGood hV hdN := by kernel_rfl
noncomputable def hKf (w : World) (os : OsState) : PySem.W.Frag := frQ (getT (hSf w os))
theorem hf0 (w : World) (os : OsState) : He.obsD [] hdF0 (hKf w os) = He.valD hdF0 := by kernel_rfl
theorem hf1 (w : World) (os : OsState) : He.obsD [] hdF1 (hKf w os) = He.valD hdF1 := by kernel_rfl
theorem he0 (w : World) (os : OsState) : hdE0 (hKf w os) = true := by kernel_rfl
theorem he1 (w : World) (os : OsState) : hdE1 (hKf w os) = true := by kernel_rfl
theorem he2 (w : World) (os : OsState) : hdE2 (hKf w os) = true := by kernel_rfl
theorem hk4 (w : World) (os : OsState) : tabZ (getT (hSf w os)) (hKf w os) = true := by kernel_rfl
theorem hs0 (w : World) (os : OsState) : obsS hdS (hKf w os) = valS hdS := by kernel_rfl
theorem hk3 (w : World) (os : OsState) : ob (hSf w os) = hk.val w := pair_t (pair_t (obs_app (hf0 w os) (hf1 w os)) (hs0 w os)) (and_t (show hdE (hKf w os) = true from and_t (he0 w os) (and_t (he1 w os) (and_t (he2 w os) (rfl)))) (hk4 w os))
end
end
theorem fin {l : PySem.W.OpenLaw} {w : World} {K : PySem.W.Frag} {mg : Str → Option Value} {fa c Pt : Addr} {h : Heap}  (T : Tx K mg) (KX : K.In h) (G : h.Ns mainGlobals mg) (hfa : mg "law" = some (.ref fa)) (Z : SaysZ hdF hdS hdE h K c Pt) : LamX.LawAtS l w K CX0 13 63 "_law_script" mg fa h := by
  have e := hfa.symm.trans T.g_law
  cases e
  have hcode : T.fd_law.code = .ref c := by
    obtain ⟨oc, od, kV, doc, pm, an, cdv, ct, osl, e, lk, _⟩ := T.F_law.ex
    exact PySem.W.law_code KX G Z.t1 hfa (KX _ _ lk) rfl
  have one : ∀ {Z : Addr × Addr → Prop}, Z (c, Pt) → ∀ p ∈ [(c, Pt)], Z p := fun h p hp => by rw [List.mem_singleton.mp hp]; exact h
  refine ⟨T.fd_law, [(c, Pt)], spLawT K Pt, one Z.t4, one Z.t3, one (PySem.W.codeHd_of_K KX Z.t2), fun s v => ?_, fun H a ns hl _ hP hS => ⟨a, ns, rfl, hS, hl, hP _ (.head _), fun _ => rfl⟩, fun base _ _ TB => ok_law T hcode (TB _ (.head _))⟩
  obtain ⟨oc, od, kV, doc, pm, an, cdv, ct, osl, e, _⟩ := T.F_law.ex
  rw [e]
  exact .of_eq rfl
end Law
open PySem PySem.W PySem.Calls PyProof.Rows
set_option maxRecDepth 100000 in
set_option maxHeartbeats 0 in
theorem PySem.Challenge.cw_unseenzero_k08_texts_that_are_no_forms_holds : PySem.Challenge.rw_unseenzero_k08_texts_that_are_no_forms.Holds := by
  w_on; o_law
  refine VL.head_two (r := OpenLaw.row PySem.Challenge.rw_unseenzero_k08_texts_that_are_no_forms) (q := Law.hV) (H := Law.hk) (N := 60000) (loose := Law.hdN) (d := HandSHeadRun.topDef (OpenLaw.row PySem.Challenge.rw_unseenzero_k08_texts_that_are_no_forms).prog 52) (kwd := [])
    (VL.left_two (n0 := Law.hN0) (ann := Law.hAnn) (M := Law.hSteps) (Sf := Law.hSf) (by kernel_rfl) (by rfl) (fun s => by kernel_rfl) (by kernel_rfl) (fun w => by kernel_rfl) (fun w => by kernel_rfl) Law.hRun Law.hk1 (fun w os => VL.seen_two (Law.hk2 w os)) (fun w os => (Law.ob_eq _).symm.trans (Law.hk3 w os)))
    (by kernel_rfl) (by kernel_rfl) (by kernel_rfl) (by rfl) (by first | assumption | decide +kernel) (by decide +kernel) ⟨rfl, rfl, rfl, rfl, rfl, by decide +kernel⟩ ?hw ?hc
  case hw => w_witness2
  case hc =>
    refine LamX.walk_ofTsE (l := PySem.Challenge.rw_unseenzero_k08_texts_that_are_no_forms) (n := 63) (k := 13) (x := "_law_script") (CX := fun _ => L2.CX0) rfl (by decide) (by kernel_rfl) ⟨rfl, by decide, by decide⟩ ?F (fun _ _ _ _ _ z => z)
    intro w mg fa h Y G hmg0
    obtain ⟨K, KX, c, Pt, Z⟩ := Y
    have hmg : mg ("law" : PySem.Str) = some (.ref fa) := by
      have e : (HandSHeadRun.topDef (OpenLaw.row PySem.Challenge.rw_unseenzero_k08_texts_that_are_no_forms).prog 52).name = ("law" : PySem.Str) := by kernel_rfl
      rw [← e]
      exact hmg0
    obtain ⟨T⟩ := Law.hd_tx KX G Z.y Z.s
    skip
    exact ⟨K, KX, Law.fin T KX G hmg Z⟩
#print axioms PySem.Challenge.cw_unseenzero_k08_texts_that_are_no_forms_holds
