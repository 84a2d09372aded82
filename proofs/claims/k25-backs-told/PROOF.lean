import PyProof.Rows.All
import Wide.All
import OpenK.AllK
import Wide.FinOn
import HandS.ForMost
import HandS.ForExc
import HandS.TupAny
import HandS.TupMul
import HandS.IsInst
import HandS.NoneIn
import HandS.Style
import HandS.Walk
import HandS.Zip
import HandS.Rev
import HandS.Flow
import HandS.Wide
import HandS.ExcIs
import HandS.ExcField
import HandS.ExcCtx
import HandS.HotCalls
import KE.GoesEnum
import KE.GoesZip
import KE.GoesMore
import KE.DataEq
import PyProof.ReprRoads
import HandS.RaiseMore
import HandS.Ends
import HandS.Conv
import PySem.Challenge.RW_slanttables_k25_backs_told
set_option Elab.async false
set_option linter.all false
set_option maxRecDepth 100000
set_option maxHeartbeats 4000000
namespace Dz
open PySem PySem.Spec PyProof.Rows L2

/-! ## data -/
inductive D where
  | non | bl (b : Bool) | int (i : Int) | str (x : Str)
  | tup (xs : List D) | lst (xs : List D) | scr (xs : List D) | ref (i : Nat) | gl (n : Str)
  | dct | ty (t : String) | ex (a : Addr)
inductive Ob where
  | lst (xs : List D)
  | ins (C : Str) (fs : List (Str × D))
abbrev Hd := List Ob
structure Exn where
  cls : Str
  fs : Option (List (Str × D))
inductive Out (α : Type) where
  | ok (a : α) (h : Hd) | exc (x : Exn) (h : Hd) | stuck
def Out.bind {α β : Type} (o : Out α) (k : α → Hd → Out β) : Out β := match o with
  | .ok a h => k a h
  | .exc x h => .exc x h
  | .stuck => .stuck
abbrev Sd := List (Option D)
inductive SOut where
  | next (σ : Sd) (h : Hd) | brk (σ : Sd) (h : Hd) | cont (σ : Sd) (h : Hd) | ret (d : D) (h : Hd) | exc (x : Exn) (σ : Sd) (h : Hd) | stuck
abbrev Den := Sd → Hd → Out D
abbrev DenA := Sd → Hd → Out (List D)
abbrev DenB := Sd → Hd → Out Bool
abbrev DenS := Sd → Hd → SOut

/-! ## how data is laid -/
/-- our own lists: by their places; and those that a comprehension fills just now -/
structure Rh where
  ix : List Addr
  hid : List Addr
def KL (K : PySem.W.Frag) (a : Addr) (xs : List V) : Prop :=
  ∃ (o : Obj) (its : Array Value) (n : Nat), K.lookup a = some o ∧ o.cls = .type "list" ∧ o.dict = none ∧ o.data = .seq its n ∧ its.size ≤ sizeLine ∧ Vals xs its.toList
mutual
def Rep (K : PySem.W.Frag) (mg : Str → Option Value) (H : Hp) (ρ : Rh) : D → V → Prop
  | .non, v => v = .non
  | .bl b, v => v = .bl b
  | .int i, v => v = .int i
  | .str x, v => v = .str x ∧ x.length ≤ sizeLine
  | .tup ds, v => ∃ a xs, v = .ref a ∧ SqT K H a xs ∧ xs.length ≤ sizeLine ∧ RepL K mg H ρ ds xs
  | .lst ds, v => ∃ a xs, v = .ref a ∧ (Rd H a (.lst xs) ∧ a ∉ ρ.ix ∧ a ∉ ρ.hid) ∧ xs.length ≤ sizeLine ∧ RepL K mg H ρ ds xs
  | .scr ds, v => ∃ a xs, v = .ref a ∧ ((Rd H a (.lst xs) ∧ a ∉ ρ.ix ∧ a ∉ ρ.hid) ∨ KL K a xs) ∧ xs.length ≤ sizeLine ∧ RepL K mg H ρ ds xs
  | .ref i, v => ∃ a, v = .ref a ∧ ρ.ix[i]? = some a
  | .gl n, v => ∃ u, mg n = some u ∧ RelV v u
  | .dct, v => ∃ a, v = .ref a ∧ H a = some (.dK [])
  | .ty t, v => v = .ty t
  | .ex a, v => v = .ref a
def RepL (K : PySem.W.Frag) (mg : Str → Option Value) (H : Hp) (ρ : Rh) : List D → List V → Prop
  | [], vs => vs = []
  | d :: ds, vs => ∃ v r, vs = v :: r ∧ Rep K mg H ρ d v ∧ RepL K mg H ρ ds r
end
section
variable {K : PySem.W.Frag} {mg : Str → Option Value} {H H' : Hp} {ρ ρ' : Rh}
theorem RepL.length : ∀ {ds : List D} {vs : List V}, RepL K mg H ρ ds vs → ds.length = vs.length
  | [], vs, h => by have h : vs = [] := h; subst h; rfl
  | d :: ds, vs, h => by
    obtain ⟨v, r, rfl, _, h⟩ := h
    simp [RepL.length h]
structure Mono (K : PySem.W.Frag) (H : Hp) (ρ : Rh) (H' : Hp) (ρ' : Rh) : Prop where
  dk : ∀ a kvs, H a = some (.dK kvs) → H' a = some (.dK kvs)
  pre : ρ.ix <+: ρ'.ix
  tup : ∀ a xs, SqT K H a xs → SqT K H' a xs
  lst : ∀ a xs, Rd H a (.lst xs) → a ∉ ρ.ix → a ∉ ρ.hid → Rd H' a (.lst xs) ∧ a ∉ ρ'.ix ∧ a ∉ ρ'.hid
mutual
theorem Rep.mono (m : Mono K H ρ H' ρ') : ∀ (d : D) (v : V), Rep K mg H ρ d v → Rep K mg H' ρ' d v
  | .non, v, h => h
  | .bl b, v, h => h
  | .int i, v, h => h
  | .str x, v, h => h
  | .tup ds, v, h => by
    obtain ⟨a, xs, e, h1, h2, h3⟩ := h
    exact ⟨a, xs, e, m.tup _ _ h1, h2, RepL.mono m ds xs h3⟩
  | .lst ds, v, h => by
    obtain ⟨a, xs, e, h1, h2, h3⟩ := h
    exact ⟨a, xs, e, m.lst _ _ h1.1 h1.2.1 h1.2.2, h2, RepL.mono m ds xs h3⟩
  | .scr ds, v, h => by
    obtain ⟨a, xs, e, h1, h2, h3⟩ := h
    exact ⟨a, xs, e, h1.elim (fun z => .inl (m.lst _ _ z.1 z.2.1 z.2.2)) .inr, h2, RepL.mono m ds xs h3⟩
  | .ref i, v, h => by
    obtain ⟨a, e, h⟩ := h
    refine ⟨a, e, ?_⟩
    obtain ⟨t, e⟩ := m.pre
    rw [← e, List.getElem?_append_left (List.getElem?_eq_some_iff.mp h).1]
    exact h
  | .gl n, v, h => h
  | .dct, v, h => by
    obtain ⟨a, e, h⟩ := h
    exact ⟨a, e, m.dk _ _ h⟩
  | .ty t, v, h => h
  | .ex a, v, h => h
theorem RepL.mono (m : Mono K H ρ H' ρ') : ∀ (ds : List D) (vs : List V), RepL K mg H ρ ds vs → RepL K mg H' ρ' ds vs
  | [], vs, h => h
  | d :: ds, vs, h => by
    obtain ⟨v, r, e, h1, h2⟩ := h
    exact ⟨v, r, e, Rep.mono m d v h1, RepL.mono m ds r h2⟩
end
def FRep (K : PySem.W.Frag) (mg : Str → Option Value) (H : Hp) (ρ : Rh) (fs : List (Str × D)) (vs : List (Str × V)) : Prop :=
  fs.map (·.1) = vs.map (·.1) ∧ RepL K mg H ρ (fs.map (·.2)) (vs.map (·.2))
def ORep (K : PySem.W.Frag) (mg : Str → Option Value) (H : Hp) (ρ : Rh) : Ob → Addr → Prop
  | .lst ds, a => ∃ xs, H a = some (.lst xs) ∧ xs.length ≤ sizeLine ∧ RepL K mg H ρ ds xs
  | .ins C fs, a => ∃ c dx vs, mg C = some (.ref c) ∧ H a = some (.ins c dx vs) ∧ FRep K mg H ρ fs vs
structure HRel (K : PySem.W.Frag) (mg : Str → Option Value) (H : Hp) (ρ : Rh) (h : Hd) : Prop where
  nd : ρ.ix.Nodup
  len : h.length = ρ.ix.length
  obj : ∀ (i : Nat) (o : Ob) (a : Addr), h[i]? = some o → ρ.ix[i]? = some a → ORep K mg H ρ o a
  hid : ∀ a ∈ ρ.hid, ∃ u, H a = some u
  dis : ∀ a ∈ ρ.hid, a ∉ ρ.ix
structure Grow (K : PySem.W.Frag) (mg : Str → Option Value) (H : Hp) (ρ : Rh) (H' : Hp) (ρ' : Rh) : Prop where
  pre : ρ.ix <+: ρ'.ix
  rep : ∀ d v, Rep K mg H ρ d v → Rep K mg H' ρ' d v
  xd : ∀ a fs, H a = some (.xd fs) → H' a = some (.xd fs)
  hid : ρ'.hid = ρ.hid
  keep : ∀ a ∈ ρ.hid, ∀ u, H a = some u → H' a = some u
theorem Grow.refl : Grow K mg H ρ H ρ := ⟨List.prefix_refl _, fun _ _ h => h, fun _ _ h => h, rfl, fun _ _ _ h => h⟩
theorem Grow.trans {H1 H2 : Hp} {ρ1 ρ2 : Rh} (a : Grow K mg H ρ H1 ρ1) (b : Grow K mg H1 ρ1 H2 ρ2) : Grow K mg H ρ H2 ρ2 :=
  ⟨a.pre.trans b.pre, fun d v h => b.rep d v (a.rep d v h), fun _ _ h => b.xd _ _ (a.xd _ _ h), b.hid.trans a.hid, fun c hc u e => b.keep c (a.hid ▸ hc) u (a.keep c hc u e)⟩
theorem RepL.of (g : ∀ d v, Rep K mg H ρ d v → Rep K mg H' ρ' d v) : ∀ (ds : List D) (vs : List V), RepL K mg H ρ ds vs → RepL K mg H' ρ' ds vs
  | [], vs, h => h
  | d :: ds, vs, h => by
    obtain ⟨v, r, e, h1, h2⟩ := h
    exact ⟨v, r, e, g d v h1, RepL.of g ds r h2⟩
theorem Grow.repL (g : Grow K mg H ρ H' ρ') (ds : List D) (vs : List V) : RepL K mg H ρ ds vs → RepL K mg H' ρ' ds vs := RepL.of g.rep ds vs
theorem HRel.at {hd : Hd} (h : HRel K mg H ρ hd) {a : Addr} (ha : a ∈ ρ.ix) : ∃ o, H a = some o := by
  obtain ⟨i, hi, e⟩ := List.getElem_of_mem ha
  have hi' : i < hd.length := by rw [h.len]; exact hi
  have q := h.obj i hd[i] a (List.getElem?_eq_getElem hi') (by rw [List.getElem?_eq_getElem hi, e])
  cases ho : hd[i] with
  | lst ds => rw [ho] at q; obtain ⟨xs, e, _⟩ := q; exact ⟨_, e⟩
  | ins C fs => rw [ho] at q; obtain ⟨c, dx, vs, _, e, _⟩ := q; exact ⟨_, e⟩
theorem HRel.fresh {hd : Hd} (h : HRel K mg H ρ hd) {p : Addr} (hp : H p = none) : p ∉ ρ.ix ∧ p ∉ ρ.hid := by
  refine ⟨fun z => ?_, fun z => ?_⟩
  · obtain ⟨o, e⟩ := h.at z
    rw [hp] at e; cases e
  · obtain ⟨o, e⟩ := h.hid p z
    rw [hp] at e; cases e
theorem Rd.up {H : Hp} {p a : Addr} {o u : HO} (hp : H p = none) (h : Rd H a u) : Rd (upd H p o) a u ∧ a ≠ p := by
  rcases h with h | ⟨q, h⟩
  · exact ⟨.inl (by rw [upd_ne (ne_of_none h hp)]; exact h), ne_of_none h hp⟩
  · exact ⟨.inr ⟨q, by rw [upd_ne (ne_of_none h hp)]; exact h⟩, ne_of_none h hp⟩
theorem SqT.up {H : Hp} {p a : Addr} {o : HO} {xs : List V} (hp : H p = none) (h : SqT K H a xs) : SqT K (upd H p o) a xs :=
  h.elim (fun z => .inl (Rd.up hp z).1) .inr
/-- a new object, not tracked by us -/
theorem xd_new {p : Addr} {o u : HO} (hp : H p = none) {a : Addr} (h : H a = some u) : (upd H p o) a = some u := by
  rw [upd_ne (ne_of_none h hp)]; exact h
theorem grow_new {p : Addr} {o : HO} (hp : H p = none) : Grow K mg H ρ (upd H p o) ρ :=
  ⟨List.prefix_refl _, fun d v h => Rep.mono ⟨fun _ _ h => xd_new hp h, List.prefix_refl _, fun _ _ h => SqT.up hp h, fun _ _ h n n' => ⟨(Rd.up hp h).1, n, n'⟩⟩ d v h, fun _ _ h => xd_new hp h, rfl, fun _ _ _ h => xd_new hp h⟩
theorem FRep.of {fs : List (Str × D)} {vs : List (Str × V)} (g : ∀ d v, Rep K mg H ρ d v → Rep K mg H' ρ' d v) (h : FRep K mg H ρ fs vs) : FRep K mg H' ρ' fs vs := ⟨h.1, RepL.of g _ _ h.2⟩
theorem FRep.grow {fs : List (Str × D)} {vs : List (Str × V)} (g : Grow K mg H ρ H' ρ') (h : FRep K mg H ρ fs vs) : FRep K mg H' ρ' fs vs := h.of g.rep
theorem ORep.of {o : Ob} {a : Addr} (g : ∀ d v, Rep K mg H ρ d v → Rep K mg H' ρ' d v) (k : ∀ u, H a = some u → H' a = some u) (h : ORep K mg H ρ o a) : ORep K mg H' ρ' o a := by
  cases o with
  | lst ds => obtain ⟨xs, e, z, r⟩ := h; exact ⟨xs, k _ e, z, RepL.of g _ _ r⟩
  | ins C fs => obtain ⟨c, dx, vs, m, e, r⟩ := h; exact ⟨c, dx, vs, m, k _ e, r.of g⟩
theorem HRel.new {hd : Hd} {p : Addr} {o : HO} (h : HRel K mg H ρ hd) (hp : H p = none) : HRel K mg (upd H p o) ρ hd :=
  ⟨h.nd, h.len, fun i ob a e1 e2 => (h.obj i ob a e1 e2).of (grow_new hp).rep fun u e => xd_new hp e, fun a ha => let ⟨u, e⟩ := h.hid a ha; ⟨u, xd_new hp e⟩, h.dis⟩
/-- a new list of ours -/
theorem HRel.own {hd : Hd} {p : Addr} {ds : List D} {xs : List V} (h : HRel K mg H ρ hd) (hp : H p = none) (hz : xs.length ≤ sizeLine) (r : RepL K mg H ρ ds xs) :
    HRel K mg (upd H p (.lst xs)) { ρ with ix := ρ.ix ++ [p] } (hd ++ [.lst ds]) ∧ Grow K mg H ρ (upd H p (.lst xs)) { ρ with ix := ρ.ix ++ [p] } := by
  have mo : Mono K H ρ (upd H p (.lst xs)) { ρ with ix := ρ.ix ++ [p] } := ⟨fun _ _ h => xd_new hp h, List.prefix_append _ _, fun _ _ h => SqT.up hp h, fun a ys h n n' => ⟨(Rd.up hp h).1, fun z => by
      have z : a ∈ ρ.ix ++ [p] := z
      rcases List.mem_append.mp z with z | z
      · exact n z
      · have : a = p := by simpa using z
        exact (Rd.up (o := .lst xs) hp h).2 this, n'⟩⟩
  have g : Grow K mg H ρ (upd H p (.lst xs)) { ρ with ix := ρ.ix ++ [p] } :=
    ⟨List.prefix_append _ _, fun d v h => Rep.mono mo d v h, fun _ _ h => xd_new hp h, rfl, fun _ _ _ h => xd_new hp h⟩
  refine ⟨⟨?_, by simp [h.len], fun i o a e1 e2 => ?_, fun a ha => let ⟨u, e⟩ := h.hid a ha; ⟨u, xd_new hp e⟩, fun a ha z => ?_⟩, g⟩
  · show (ρ.ix ++ [p]).Nodup
    rw [List.nodup_append]
    refine ⟨h.nd, by simp, fun x hx y hy => ?_⟩
    have : y = p := by simpa using hy
    subst this
    exact fun z => (h.fresh hp).1 (z ▸ hx)
  · have e2 : (ρ.ix ++ [p])[i]? = some a := e2
    by_cases hi : i < hd.length
    · rw [List.getElem?_append_left hi] at e1
      rw [List.getElem?_append_left (by rw [← h.len]; exact hi)] at e2
      exact (h.obj i o a e1 e2).of g.rep fun u e => xd_new hp e
    · rw [List.getElem?_append_right (by omega)] at e1
      rw [List.getElem?_append_right (by rw [← h.len]; omega), ← h.len] at e2
      have : i - hd.length = 0 := by
        by_cases z : i - hd.length = 0
        · exact z
        · rw [List.getElem?_eq_none (by simp; omega)] at e1; cases e1
      rw [this] at e1 e2
      simp at e1 e2
      subst e1 e2
      exact ⟨xs, upd_same, hz, g.repL _ _ r⟩
  · have z : a ∈ ρ.ix ++ [p] := z
    rcases List.mem_append.mp z with z | z
    · exact h.dis a ha z
    · have : a = p := by simpa using z
      exact (h.fresh hp).2 (this ▸ ha)
/-- a list that nobody sees as data is written -/
theorem rep_write {a : Addr} {xs xs' : List V} (ea : H a = some (.lst xs)) (ha : a ∈ ρ.ix ∨ a ∈ ρ.hid) (d : D) (v : V) (h : Rep K mg H ρ d v) : Rep K mg (upd H a (.lst xs')) ρ d v := by
  have nt : ∀ {b : Addr} {u : HO}, H b = some u → (∀ ys, u ≠ .lst ys) → b ≠ a := fun {b u} e n z => by
    subst z; rw [ea] at e; exact n xs (Option.some.inj e).symm
  refine Rep.mono ⟨fun b kvs s => by rw [upd_ne (nt s (fun _ z => by cases z))]; exact s, List.prefix_refl _, fun b ys s => ?_, fun b ys s n n' => ⟨?_, n, n'⟩⟩ d v h
  · rcases s with (s | ⟨o, s⟩) | s
    · exact .inl (.inl (by rw [upd_ne (nt s (fun _ z => by cases z))]; exact s))
    · exact .inl (.inr ⟨o, by rw [upd_ne (nt s (fun _ z => by cases z))]; exact s⟩)
    · exact .inr s
  · have nb : b ≠ a := fun z => by
      subst z
      exact ha.elim n n'
    rcases s with s | ⟨o, s⟩
    · exact .inl (by rw [upd_ne nb]; exact s)
    · exact .inr ⟨o, by rw [upd_ne nb]; exact s⟩
theorem xd_write {a : Addr} {xs xs' : List V} (ea : H a = some (.lst xs)) (b : Addr) (fs : List (Str × V)) (e : H b = some (.xd fs)) : (upd H a (.lst xs')) b = some (.xd fs) := by
  rw [upd_ne (fun z => by subst z; rw [ea] at e; cases e)]; exact e
/-- a list of ours is written -/
theorem HRel.write {hd : Hd} {i : Nat} {a : Addr} {ds' : List D} {ds : List D} {xs' : List V} (h : HRel K mg H ρ hd) (hi : hd[i]? = some (.lst ds)) (ha : ρ.ix[i]? = some a)
    (hz : xs'.length ≤ sizeLine) (r : RepL K mg H ρ ds' xs') :
    HRel K mg (upd H a (.lst xs')) ρ (hd.set i (.lst ds')) ∧ Grow K mg H ρ (upd H a (.lst xs')) ρ := by
  obtain ⟨xs, ea, _, _⟩ := h.obj i _ a hi ha
  have hm : a ∈ ρ.ix := List.mem_of_getElem? ha
  have g : Grow K mg H ρ (upd H a (.lst xs')) ρ := ⟨List.prefix_refl _, rep_write ea (.inl hm), xd_write ea, rfl, fun b hb u e => by
    have nb : b ≠ a := fun z => by
      subst z
      exact h.dis b hb hm
    rw [upd_ne nb]; exact e⟩
  have hlt : i < hd.length := (List.getElem?_eq_some_iff.mp hi).1
  refine ⟨⟨h.nd, by rw [List.length_set]; exact h.len, fun j o b e1 e2 => ?_, fun b hb => let ⟨u, e⟩ := h.hid b hb; ⟨u, g.keep b hb u e⟩, h.dis⟩, g⟩
  by_cases hj : j = i
  · subst hj
    rw [ha] at e2; cases e2
    rw [List.getElem?_set_self hlt] at e1; cases e1
    exact ⟨xs', upd_same, hz, g.repL _ _ r⟩
  · rw [List.getElem?_set_ne (Ne.symm hj)] at e1
    have nb : b ≠ a := fun z => by
      subst z
      exact hj (nd_ix h.nd e2 ha)
    exact (h.obj j o b e1 e2).of g.rep fun u e => by rw [upd_ne nb]; exact e
/-- the slots -/
structure SRel (K : PySem.W.Frag) (mg : Str → Option Value) (H : Hp) (ρ : Rh) (σ : L2.St) (σd : Sd) : Prop where
  len : σ.length = σd.length
  get : ∀ (i : Nat) (d : D), σd[i]? = some (some d) → ∃ v, σ[i]? = some (some v) ∧ Rep K mg H ρ d v
theorem SRel.grow {σ : L2.St} {σd : Sd} (g : Grow K mg H ρ H' ρ') (s : SRel K mg H ρ σ σd) : SRel K mg H' ρ' σ σd :=
  ⟨s.len, fun i d e => let ⟨v, e1, r⟩ := s.get i d e; ⟨v, e1, g.rep d v r⟩⟩
theorem SRel.set {σ : L2.St} {σd : Sd} {i : Nat} {v : V} {d : D} (s : SRel K mg H ρ σ σd) (r : Rep K mg H ρ d v) : SRel K mg H ρ (σ.set i (some v)) (σd.set i (some d)) := by
  refine ⟨by rw [List.length_set, List.length_set]; exact s.len, fun j e hj => ?_⟩
  by_cases hi : i = j
  · subst hi
    by_cases hl : i < σd.length
    · rw [List.getElem?_set_self hl] at hj
      cases hj
      exact ⟨v, by rw [List.getElem?_set_self (by rw [s.len]; exact hl)], r⟩
    · rw [List.getElem?_eq_none (by simpa using hl)] at hj; cases hj
  · rw [List.getElem?_set_ne hi] at hj
    obtain ⟨w, e1, r1⟩ := s.get j e hj
    exact ⟨w, by rw [List.getElem?_set_ne hi]; exact e1, r1⟩
theorem SRel.unset {σ : L2.St} {σd : Sd} {i : Nat} (s : SRel K mg H ρ σ σd) : SRel K mg H ρ (σ.set i none) (σd.set i none) := by
  refine ⟨by rw [List.length_set, List.length_set]; exact s.len, fun j e hj => ?_⟩
  by_cases hi : i = j
  · subst hi
    by_cases hl : i < σd.length
    · rw [List.getElem?_set_self hl] at hj
      cases hj
    · rw [List.getElem?_eq_none (by simpa using hl)] at hj; cases hj
  · rw [List.getElem?_set_ne hi] at hj
    obtain ⟨w, e1, r1⟩ := s.get j e hj
    exact ⟨w, by rw [List.getElem?_set_ne hi]; exact e1, r1⟩
def wipeD (σ : Sd) : List Nat → Sd
  | [] => σ
  | v :: vs => (wipeD σ vs).set v none
theorem SRel.wipe {σ : L2.St} {σd : Sd} (s : SRel K mg H ρ σ σd) : ∀ vs : List Nat, SRel K mg H ρ (L2.wipe σ vs) (wipeD σd vs)
  | [] => s
  | v :: vs => (SRel.wipe s vs).unset
/-- exceptions -/
def XRep (K : PySem.W.Frag) (mg : Str → Option Value) (H : Hp) (ρ : Rh) (x : Exn) (cls : Value) (dd : Option Addr) : Prop :=
  ∃ c, mg x.cls = some (.ref c) ∧ cls = .ref c ∧ match x.fs with
    | none => dd = none
    | some fs => ∃ d vs, dd = some d ∧ H d = some (.xd vs) ∧ FRep K mg H ρ fs vs
theorem XRep.grow {x : Exn} {cls : Value} {dd : Option Addr} (g : Grow K mg H ρ H' ρ') (h : XRep K mg H ρ x cls dd) : XRep K mg H' ρ' x cls dd := by
  obtain ⟨c, e1, e2, h⟩ := h
  refine ⟨c, e1, e2, ?_⟩
  cases hx : x.fs with
  | none => rw [hx] at h; exact h
  | some fs =>
    rw [hx] at h
    obtain ⟨d, vs, e, h1, h2⟩ := h
    exact ⟨d, vs, e, g.xd _ _ h1, h2.grow g⟩
end
end Dz

namespace Dz
open PySem PySem.Spec PyProof.Rows L2
/-! ## what is wanted of an outcome -/
section
variable {K : PySem.W.Frag} {mg : Str → Option Value} {H H' : Hp} {ρ ρ' : Rh} {α β γ δ : Type}
abbrev RR (α β : Type) := Hp → Rh → α → β → Prop
def PostG (K : PySem.W.Frag) (mg : Str → Option Value) (R : RR α β) (E : XK) (ρ : Rh) (H : Hp) (Q : β → Hp → Prop) : Out α → Prop
  | .ok a h' => ∀ b H' ρ', Grow K mg H ρ H' ρ' → HRel K mg H' ρ' h' → R H' ρ' a b → Q b H'
  | .exc x h' => ∀ cls dd H' ρ', Grow K mg H ρ H' ρ' → HRel K mg H' ρ' h' → XRep K mg H' ρ' x cls dd → E cls dd H'
  | .stuck => False
theorem PostG.grow {R : RR α β} {E : XK} {Q : β → Hp → Prop} {o : Out α} (g : Grow K mg H ρ H' ρ') (h : PostG K mg R E ρ H Q o) : PostG K mg R E ρ' H' Q o := by
  cases o with
  | ok a h' => exact fun b H2 ρ2 G HR r => h b H2 ρ2 (g.trans G) HR r
  | exc x h' => exact fun c d H2 ρ2 G HR r => h c d H2 ρ2 (g.trans G) HR r
  | stuck => exact h
theorem PostG.mono {R : RR α β} {E : XK} {Q Q' : β → Hp → Prop} {o : Out α} (h : PostG K mg R E ρ H Q o) (q : ∀ b H', Q b H' → Q' b H') : PostG K mg R E ρ H Q' o := by
  cases o with
  | ok a h' => exact fun b H2 ρ2 G HR r => q _ _ (h b H2 ρ2 G HR r)
  | exc x h' => exact h
  | stuck => exact h
theorem PostG.bind {R : RR γ δ} (R' : RR α β) {E : XK} {Q : δ → Hp → Prop} {o : Out α} {k : α → Hd → Out γ} (h : PostG K mg R E ρ H Q (o.bind k)) :
    PostG K mg R' E ρ H (fun b H' => ∃ a h' ρ', Grow K mg H ρ H' ρ' ∧ HRel K mg H' ρ' h' ∧ R' H' ρ' a b ∧ PostG K mg R E ρ' H' Q (k a h')) o := by
  cases o with
  | ok a h' => exact fun b H2 ρ2 G HR r => ⟨a, h', ρ2, G, HR, r, PostG.grow G h⟩
  | exc x h' => exact h
  | stuck => exact h
def rD (K : PySem.W.Frag) (mg : Str → Option Value) : RR D V := fun H ρ d v => Rep K mg H ρ d v
def rL (K : PySem.W.Frag) (mg : Str → Option Value) : RR (List D) (List V) := fun H ρ d v => RepL K mg H ρ d v
def rE (α : Type) : RR α α := fun _ _ a b => a = b
/-- a primitive's outcome -/
def PostO (K : PySem.W.Frag) (mg : Str → Option Value) (R : RR α β) (ρ : Rh) (H : Hp) (Q : β → Hp → Prop) : Option (α × Hd) → Prop
  | some (a, h') => ∀ b H' ρ', Grow K mg H ρ H' ρ' → HRel K mg H' ρ' h' → R H' ρ' a b → Q b H'
  | none => False
def lift (o : Option (α × Hd)) : Out α := match o with
  | some (a, h) => .ok a h
  | none => .stuck
theorem PostG.lift {R : RR α β} {E : XK} {Q : β → Hp → Prop} {o : Option (α × Hd)} (h : PostG K mg R E ρ H Q (lift o)) : PostO K mg R ρ H Q o := by
  cases o with
  | some p => exact h
  | none => exact h
theorem PostO.pure {R : RR α β} {Q : β → Hp → Prop} {a : α} {hd : Hd} {b : β} (h : PostO K mg R ρ H Q (some (a, hd))) (HR : HRel K mg H ρ hd) (r : R H ρ a b) : Q b H :=
  h b H ρ Grow.refl HR r
/-- a fresh object, not ours -/
theorem PostO.new {R : RR α β} {Q : β → Hp → Prop} {a : α} {hd : Hd} {b : β} {p : Addr} {o : HO} (h : PostO K mg R ρ H Q (some (a, hd))) (HR : HRel K mg H ρ hd) (hp : H p = none) (r : R (upd H p o) ρ a b) : Q b (upd H p o) :=
  h b _ ρ (grow_new hp) (HR.new hp) r
end
theorem PE.weak {X : Cx} {e : Expr} {t t' : TE} (p : PE X e t) (h : ∀ σ H Q, t' σ H Q → t σ H Q) : PE X e t' := ⟨fun pins s σ H Q I q => p.run pins s σ H Q I (h _ _ _ q)⟩
theorem PT.weak {X : Cx} {e : Expr} {t t' : TT} (p : PT X e t) (h : ∀ σ H Q, t' σ H Q → t σ H Q) : PT X e t' := ⟨fun pins s σ H Q I q => p.run pins s σ H Q I (h _ _ _ q)⟩
theorem PW.weak {X : Cx} {e : Expr} {t t' : TT} (p : PW X e t) (h : ∀ σ H Q, t' σ H Q → t σ H Q) : PW X e t' := ⟨fun wh pins s σ H Q I q => p.run wh pins s σ H Q I (h _ _ _ q)⟩
theorem PA.weak {X : Cx} {e : List Expr} {t t' : TA} (p : PA X e t) (h : ∀ σ H Q, t' σ H Q → t σ H Q) : PA X e t' := ⟨fun po pins s σ H Q I q => p.run po pins s σ H Q I (h _ _ _ q)⟩
theorem PS.weak {X : Cx} {e : Stmt} {t t' : TS} (p : PS X e t) (h : ∀ D σ H, t' D σ H → t D σ H) : PS X e t' := ⟨fun pins s σ H D I q => p.run pins s σ H D I (h _ _ _ q)⟩
theorem PSs.weak {X : Cx} {e : List Stmt} {t t' : TS} (p : PSs X e t) (h : ∀ D σ H, t' D σ H → t D σ H) : PSs X e t' := ⟨fun pins s σ H D I q => p.run pins s σ H D I (h _ _ _ q)⟩
theorem PG.weak {X : Cx} {e : Expr} {t t' : TG} (p : PG X e t) (h : ∀ v σ H Q, t' v σ H Q → t v σ H Q) : PG X e t' := ⟨fun pins s σ H v u Q I r q => p.run pins s σ H v u Q I r (h _ _ _ _ q)⟩
theorem PGs.weak {X : Cx} {e : List Expr} {t t' : TGs} (p : PGs X e t) (h : ∀ v σ H Q, t' v σ H Q → t v σ H Q) : PGs X e t' := ⟨fun pins s σ H v u Q I r q => p.run pins s σ H v u Q I r (h _ _ _ _ q)⟩
theorem PI.weak {X : Cx} {tg e : Expr} {t t' : TI} (p : PI X tg e t) (h : ∀ σ H Q, t' σ H Q → t σ H Q) : PI X tg e t' := ⟨fun pins s σ H Q I q => p.run pins s σ H Q I (h _ _ _ q)⟩
/-! ## judgements -/
section
variable {α β : Type}
def tG (K : PySem.W.Frag) (mg : Str → Option Value) (R : RR α β) (W : WX) (f : Sd → Hd → Out α) : L2.St → Hp → (β → Hp → Prop) → Prop := fun σ H Q =>
  ∃ ρ σd h, HRel K mg H ρ h ∧ SRel K mg H ρ σ σd ∧ PostG K mg R (fun c d H' => W c d σ H') ρ H Q (f σd h)
theorem tG.mono {K : PySem.W.Frag} {mg : Str → Option Value} {R : RR α β} {W : WX} {f : Sd → Hd → Out α} {σ : L2.St} {H : Hp} {Q Q' : β → Hp → Prop} (h : tG K mg R W f σ H Q) (q : ∀ b H', Q b H' → Q' b H') : tG K mg R W f σ H Q' := by
  obtain ⟨ρ, σd, hd, h1, h2, h3⟩ := h
  exact ⟨ρ, σd, hd, h1, h2, h3.mono q⟩
end
abbrev DE (X : Cx) (W : WX) (e : Expr) (f : Den) : Prop := PE X e (tG X.K X.mg (rD X.K X.mg) W f)
abbrev DT (X : Cx) (W : WX) (e : Expr) (f : DenB) : Prop := PT X e (tG X.K X.mg (rE Bool) W f)
abbrev DW (X : Cx) (W : WX) (e : Expr) (f : DenB) : Prop := PW X e (tG X.K X.mg (rE Bool) W f)
abbrev DA (X : Cx) (W : WX) (es : List Expr) (f : DenA) : Prop := PA X es (tG X.K X.mg (rL X.K X.mg) W f)
/-! ## statements -/
def PostS (K : PySem.W.Frag) (mg : Str → Option Value) (W : WX) (ρ : Rh) (H : Hp) (E : Ends) : SOut → Prop
  | .next σd h' => ∀ σ' H' ρ', Grow K mg H ρ H' ρ' → HRel K mg H' ρ' h' → SRel K mg H' ρ' σ' σd → E.nx σ' H'
  | .brk σd h' => ∀ σ' H' ρ', Grow K mg H ρ H' ρ' → HRel K mg H' ρ' h' → SRel K mg H' ρ' σ' σd → E.bk σ' H'
  | .cont σd h' => ∀ σ' H' ρ', Grow K mg H ρ H' ρ' → HRel K mg H' ρ' h' → SRel K mg H' ρ' σ' σd → E.ct σ' H'
  | .ret d h' => ∀ v H' ρ', Grow K mg H ρ H' ρ' → HRel K mg H' ρ' h' → Rep K mg H' ρ' d v → E.rt v H'
  | .exc x σd h' => ∀ cls dd σ' H' ρ', Grow K mg H ρ H' ρ' → HRel K mg H' ρ' h' → SRel K mg H' ρ' σ' σd → XRep K mg H' ρ' x cls dd → W cls dd σ' H'
  | .stuck => False
theorem PostS.grow {K : PySem.W.Frag} {mg : Str → Option Value} {H H' : Hp} {ρ ρ' : Rh} {W : WX} {E : Ends} {o : SOut} (g : Grow K mg H ρ H' ρ') (h : PostS K mg W ρ H E o) : PostS K mg W ρ' H' E o := by
  cases o with
  | next σd hd => exact fun σ' H2 ρ2 G HR r => h σ' H2 ρ2 (g.trans G) HR r
  | brk σd hd => exact fun σ' H2 ρ2 G HR r => h σ' H2 ρ2 (g.trans G) HR r
  | cont σd hd => exact fun σ' H2 ρ2 G HR r => h σ' H2 ρ2 (g.trans G) HR r
  | ret d hd => exact fun v H2 ρ2 G HR r => h v H2 ρ2 (g.trans G) HR r
  | exc x σd hd => exact fun c d σ' H2 ρ2 G HR r q => h c d σ' H2 ρ2 (g.trans G) HR r q
  | stuck => exact h
def tS (K : PySem.W.Frag) (mg : Str → Option Value) (W : WX) (f : DenS) : TS := fun E σ H => ∃ ρ σd h, HRel K mg H ρ h ∧ SRel K mg H ρ σ σd ∧ PostS K mg W ρ H E (f σd h)
abbrev DS (X : Cx) (W : WX) (s : Stmt) (f : DenS) : Prop := PS X s (tS X.K X.mg W f)
abbrev DSs (X : Cx) (W : WX) (s : List Stmt) (f : DenS) : Prop := PSs X s (tS X.K X.mg W f)
/-- an expression's outcome goes on as a statement's -/
def Out.sbind {α : Type} (o : Out α) (σ : Sd) (k : α → Hd → SOut) : SOut := match o with
  | .ok a h => k a h
  | .exc x h => .exc x σ h
  | .stuck => .stuck
def SOut.sbind (o : SOut) (k : Sd → Hd → SOut) : SOut := match o with
  | .next σ h => k σ h
  | o => o
section
variable {K : PySem.W.Frag} {mg : Str → Option Value} {H H' : Hp} {ρ ρ' : Rh} {α β : Type}
theorem PostS.ebind (R : RR α β) {W : WX} {E : Ends} {o : Out α} {σ : L2.St} {σd : Sd} {k : α → Hd → SOut} (S : SRel K mg H ρ σ σd) (h : PostS K mg W ρ H E (o.sbind σd k)) :
    PostG K mg R (fun c d H' => W c d σ H') ρ H (fun b H' => ∃ a h' ρ', Grow K mg H ρ H' ρ' ∧ HRel K mg H' ρ' h' ∧ R H' ρ' a b ∧ PostS K mg W ρ' H' E (k a h')) o := by
  cases o with
  | ok a h' => exact fun b H2 ρ2 G HR r => ⟨a, h', ρ2, G, HR, r, PostS.grow G h⟩
  | exc x h' => exact fun c d H2 ρ2 G HR r => h c d σ H2 ρ2 G HR (S.grow G) r
  | stuck => exact h
theorem PostS.sbind {W : WX} {E : Ends} {o : SOut} {k : Sd → Hd → SOut} (h : PostS K mg W ρ H E (o.sbind k)) : PostS K mg W ρ H { E with nx := tS K mg W k E } o := by
  cases o with
  | next σd hd => exact fun σ' H2 ρ2 G HR r => ⟨ρ2, σd, hd, HR, r, PostS.grow G h⟩
  | brk σd hd => exact h
  | cont σd hd => exact h
  | ret d hd => exact h
  | exc x σd hd => exact h
  | stuck => exact h
end
/-! ## names and constants -/
def vr (i : Nat) : Den := fun σ h => match σ[i]? with
  | some (some d) => .ok d h
  | _ => .stuck
def cst (d : D) : Den := fun _ h => .ok d h
section
variable {X : Cx} {W : WX}
theorem d_var (i : Nat) {x : Str} {pos : Pos} (hN : X.N[i]? = some x := by rfl) (hv : Vis X.env.scope x := by first | exact Or.inl rfl | exact Or.inr (Or.inl rfl) | exact Or.inr (Or.inr rfl)) (hd : (x == ("__debug__" : Str)) = false := by decide)
    (hcd : (x == ("__classdict__" : Str)) = false := by decide) : DE X W (.Name x pos) (vr i) := PE.weak (pe_var hN hv hd hcd) fun σ H Q h => by
  obtain ⟨ρ, σd, hd, HR, S, h⟩ := h
  unfold vr at h
  cases e : σd[i]? with
  | none => rw [e] at h; exact h.elim
  | some o =>
    cases o with
    | none => rw [e] at h; exact h.elim
    | some d =>
      rw [e] at h
      obtain ⟨v, e1, r⟩ := S.get i d e
      exact ⟨v, e1, h v H ρ Grow.refl HR r⟩
theorem d_const {e : Expr} {v : V} {d : D} (p : PE X e (tC v)) (r : ∀ H ρ, Rep X.K X.mg H ρ d v) : DE X W e (cst d) := PE.weak p fun σ H Q h => by
  obtain ⟨ρ, σd, hd, HR, S, h⟩ := h
  exact h v H ρ Grow.refl HR (r H ρ)
theorem d_int {i j pos} : DE X W (.Constant (.int i) j pos) (cst (.int i)) := d_const pe_int fun _ _ => rfl
theorem d_bl {b j pos} : DE X W (.Constant (.bool b) j pos) (cst (.bl b)) := d_const pe_bl fun _ _ => rfl
theorem d_non {j pos} : DE X W (.Constant .none j pos) (cst .non) := d_const pe_non fun _ _ => rfl
theorem d_str {x j pos} (hl : x.length ≤ sizeLine := by decide) : DE X W (.Constant (.str x) j pos) (cst (.str x)) := d_const pe_str fun _ _ => ⟨rfl, hl⟩
/-- a module's constant -/
def Con (K : PySem.W.Frag) (mg : Str → Option Value) (x : Str) (d : D) : Prop := ∃ v u, mg x = some u ∧ RelV v u ∧ ∀ H ρ, Rep K mg H ρ d v
theorem d_glob {x : Str} {d : D} {pos : Pos} (c : Con X.K X.mg x d) (hg : Gl X x := by rfl) (hd : (x == ("__debug__" : Str)) = false := by decide) : DE X W (.Name x pos) (cst d) := by
  obtain ⟨v, u, e, r, rep⟩ := c
  exact d_const (pe_glob hg e r hd) rep
/-! ## operators -/
abbrev P1 := D → Hd → Option (D × Hd)
abbrev P2 := D → D → Hd → Option (D × Hd)
abbrev PL := List D → Hd → Option (D × Hd)
def rP2 (K : PySem.W.Frag) (mg : Str → Option Value) (p : P2) : R2 := fun x y H Q => ∃ ρ h dx dy, HRel K mg H ρ h ∧ Rep K mg H ρ dx x ∧ Rep K mg H ρ dy y ∧ PostO K mg (rD K mg) ρ H Q (p dx dy h)
def rP1 (K : PySem.W.Frag) (mg : Str → Option Value) (p : P1) : V → Hp → VK → Prop := fun x H Q => ∃ ρ h dx, HRel K mg H ρ h ∧ Rep K mg H ρ dx x ∧ PostO K mg (rD K mg) ρ H Q (p dx h)
def rPL (K : PySem.W.Frag) (mg : Str → Option Value) (p : PL) : List V → Hp → VK → Prop := fun xs H Q => ∃ ρ h ds, HRel K mg H ρ h ∧ RepL K mg H ρ ds xs ∧ PostO K mg (rD K mg) ρ H Q (p ds h)
def bin2 (p : P2) (fa fb : Den) : Den := fun σ h => (fa σ h).bind fun x h1 => (fb σ h1).bind fun y h2 => lift (p x y h2)
def un1 (p : P1) (fa : Den) : Den := fun σ h => (fa σ h).bind fun x h1 => lift (p x h1)
theorem bin2_ok {K : PySem.W.Frag} {mg : Str → Option Value} {p : P2} {fa fb : Den} {σ : L2.St} {H : Hp} {Q : VK} (h : tG K mg (rD K mg) W (bin2 p fa fb) σ H Q) :
    tOp (rP2 K mg p) (tG K mg (rD K mg) W fa) (tG K mg (rD K mg) W fb) σ H Q := by
  obtain ⟨ρ, σd, hd, HR, S, h⟩ := h
  refine ⟨ρ, σd, hd, HR, S, (PostG.bind (rD K mg) h).mono fun x H1 ⟨dx, h1, ρ1, G1, HR1, r1, q1⟩ => ?_⟩
  refine ⟨ρ1, σd, h1, HR1, S.grow G1, (PostG.bind (rD K mg) q1).mono fun y H2 ⟨dy, h2, ρ2, G2, HR2, r2, q2⟩ => ?_⟩
  exact ⟨ρ2, h2, dx, dy, HR2, G2.rep _ _ r1, r2, q2.lift⟩
theorem d_bin {op : Operator} {p : P2} {a b : Expr} {fa fb : Den} {pos : Pos} (ho : OpR X (binaryOp op) (rP2 X.K X.mg p)) (ha : DE X W a fa) (hb : DE X W b fb) : DE X W (.BinOp a op b pos) (bin2 p fa fb) :=
  PE.weak (pe_op ho ha hb) fun σ H Q h => bin2_ok h
theorem d_un {op : UnaryOp} {p : P1} {a : Expr} {fa : Den} {pos : Pos} (ho : UnR X (unaryOp op) (rP1 X.K X.mg p)) (ha : DE X W a fa) : DE X W (.UnaryOp op a pos) (un1 p fa) :=
  PE.weak (pe_un ho ha) fun σ H Q h => by
    obtain ⟨ρ, σd, hd, HR, S, h⟩ := h
    refine ⟨ρ, σd, hd, HR, S, (PostG.bind (rD X.K X.mg) h).mono fun x H1 ⟨dx, h1, ρ1, G1, HR1, r1, q1⟩ => ?_⟩
    exact ⟨ρ1, h1, dx, HR1, r1, q1.lift⟩
theorem d_cmp {op : CmpOp} {p : P2} {a b : Expr} {fa fb : Den} {pos : Pos} (ho : OpR X (compareOp op) (rP2 X.K X.mg p)) (ha : DE X W a fa) (hb : DE X W b fb) (hm : behindInMarks op b = false := by first | exact nomark _ | rfl) : DE X W (.Compare a [op] [b] pos) (bin2 p fa fb) :=
  PE.weak (pe_cmpR ho ha hb hm) fun σ H Q h => bin2_ok h
def asB (f : Den) : DenB := fun σ h => (f σ h).bind fun d h1 => match d with
  | .bl b => .ok b h1
  | _ => .stuck
theorem asB_ok {K : PySem.W.Frag} {mg : Str → Option Value} {f : Den} {σ : L2.St} {H : Hp} {Q : Bool → Hp → Prop} (h : tG K mg (rE Bool) W (asB f) σ H Q) : tG K mg (rD K mg) W f σ H fun x H1 => ∃ c, x = .bl c ∧ Q c H1 := by
  obtain ⟨ρ, σd, hd, HR, S, h⟩ := h
  refine ⟨ρ, σd, hd, HR, S, (PostG.bind (rD K mg) h).mono fun x H1 ⟨dx, h1, ρ1, G1, HR1, r1, q1⟩ => ?_⟩
  cases dx with
  | bl b =>
    have r1 : x = .bl b := r1
    exact ⟨b, r1, q1 b H1 ρ1 Grow.refl HR1 rfl⟩
  | _ => exact q1.elim
theorem t_val {e : Expr} {f : Den} (h : DE X W e f) (he : ∀ whole, isTrue e X.env whole = (do let v ← whole; standAt e.pos; holding [v] (truthy v)) := by intro _; rfl) : DT X W e (asB f) :=
  PT.weak (pt_val h he) fun σ H Q h => asB_ok h
theorem t_cmp {op : CmpOp} {p : P2} {a b : Expr} {fa fb : Den} {pos : Pos} (ho : OpR X (compareOp op) (rP2 X.K X.mg p)) (ha : DE X W a fa) (hb : DE X W b fb) (hm : behindInMarks op b = false := by first | exact nomark _ | rfl) : DT X W (.Compare a [op] [b] pos) (asB (bin2 p fa fb)) :=
  PT.weak (pt_cmpR ho ha hb hm) fun σ H Q h => by
    obtain ⟨ρ, σd, hd, HR, S, h⟩ := asB_ok h
    exact bin2_ok ⟨ρ, σd, hd, HR, S, h⟩
/-- a < b < c -/
def chain3 (p p' : P2) (fa fb fc : Den) : Den := fun σ h => (fa σ h).bind fun x h1 => (fb σ h1).bind fun y h2 => (lift (p x y h2)).bind fun z h3 => match z with
  | .bl true => (fc σ h3).bind fun w h4 => lift (p' y w h4)
  | .bl false => .ok (.bl false) h3
  | _ => .stuck
/-! and, or, not -/
def notB (f : DenB) : DenB := fun σ h => (f σ h).bind fun b h1 => .ok (!b) h1
def andB (f g : DenB) : DenB := fun σ h => (f σ h).bind fun b h1 => if b = true then g σ h1 else .ok false h1
def orB (f g : DenB) : DenB := fun σ h => (f σ h).bind fun b h1 => if b = true then .ok true h1 else g σ h1
theorem DW.pt {e : Expr} {f : DenB} (h : DW X W e f) : DT X W e f := PW.pt h
theorem t_not {a : Expr} {f : DenB} {pos : Pos} (h : DT X W a f) : DT X W (.UnaryOp .Not a pos) (notB f) := PT.weak (pt_not h) fun σ H Q h => by
  obtain ⟨ρ, σd, hd, HR, S, h⟩ := h
  refine ⟨ρ, σd, hd, HR, S, (PostG.bind (rE Bool) h).mono fun x H1 ⟨dx, h1, ρ1, G1, HR1, r1, q1⟩ => ?_⟩
  have r1 : dx = x := r1
  subst r1
  exact q1 _ H1 ρ1 Grow.refl HR1 rfl
theorem w_and1 {a : Expr} {f : DenB} {pos : Pos} (h : DT X W a f) : DW X W (.BoolOp .And [a] pos) f := pw_and1 h
theorem w_or1 {a : Expr} {f : DenB} {pos : Pos} (h : DT X W a f) : DW X W (.BoolOp .Or [a] pos) f := pw_or1 h
theorem w_and {a b : Expr} {rest : List Expr} {f g : DenB} {pos : Pos} (h : DT X W a f) (h' : DW X W (.BoolOp .And (b :: rest) pos) g) : DW X W (.BoolOp .And (a :: b :: rest) pos) (andB f g) := PW.weak (pw_and h h') fun σ H Q h => by
  obtain ⟨ρ, σd, hd, HR, S, h⟩ := h
  refine ⟨ρ, σd, hd, HR, S, (PostG.bind (rE Bool) h).mono fun x H1 ⟨dx, h1, ρ1, G1, HR1, r1, q1⟩ => ?_⟩
  have r1 : dx = x := r1
  subst r1
  cases dx with
  | true => exact ⟨ρ1, σd, h1, HR1, S.grow G1, q1⟩
  | false => exact q1 _ H1 ρ1 Grow.refl HR1 rfl
theorem w_or {a b : Expr} {rest : List Expr} {f g : DenB} {pos : Pos} (h : DT X W a f) (h' : DW X W (.BoolOp .Or (b :: rest) pos) g) : DW X W (.BoolOp .Or (a :: b :: rest) pos) (orB f g) := PW.weak (pw_or h h') fun σ H Q h => by
  obtain ⟨ρ, σd, hd, HR, S, h⟩ := h
  refine ⟨ρ, σd, hd, HR, S, (PostG.bind (rE Bool) h).mono fun x H1 ⟨dx, h1, ρ1, G1, HR1, r1, q1⟩ => ?_⟩
  have r1 : dx = x := r1
  subst r1
  cases dx with
  | true => exact q1 _ H1 ρ1 Grow.refl HR1 rfl
  | false => exact ⟨ρ1, σd, h1, HR1, S.grow G1, q1⟩
/-- .. as values -/
def andV (f g : Den) : Den := fun σ h => (f σ h).bind fun d h1 => match d with
  | .bl true => g σ h1
  | .bl false => .ok (.bl false) h1
  | _ => .stuck
def orV (f g : Den) : Den := fun σ h => (f σ h).bind fun d h1 => match d with
  | .bl true => .ok (.bl true) h1
  | .bl false => g σ h1
  | _ => .stuck
def notV (f : Den) : Den := fun σ h => (f σ h).bind fun d h1 => match d with
  | .bl b => .ok (.bl !b) h1
  | _ => .stuck
theorem d_one {op} {a : Expr} {f : Den} {pos : Pos} (h : DE X W a f) : DE X W (.BoolOp op [a] pos) f := pe_one h
theorem d_and {a b : Expr} {rest : List Expr} {f g : Den} {pos : Pos} (h : DE X W a f) (h' : DE X W (.BoolOp .And (b :: rest) pos) g) : DE X W (.BoolOp .And (a :: b :: rest) pos) (andV f g) := PE.weak (pe_and h h') fun σ H Q h => by
  obtain ⟨ρ, σd, hd, HR, S, h⟩ := h
  refine ⟨ρ, σd, hd, HR, S, (PostG.bind (rD X.K X.mg) h).mono fun x H1 ⟨dx, h1, ρ1, G1, HR1, r1, q1⟩ => ?_⟩
  cases dx with
  | bl b =>
    have r1 : x = .bl b := r1
    refine ⟨b, r1, ?_⟩
    cases b with
    | true => exact ⟨ρ1, σd, h1, HR1, S.grow G1, q1⟩
    | false => exact q1 _ H1 ρ1 Grow.refl HR1 rfl
  | _ => exact q1.elim
theorem d_or {a b : Expr} {rest : List Expr} {f g : Den} {pos : Pos} (h : DE X W a f) (h' : DE X W (.BoolOp .Or (b :: rest) pos) g) : DE X W (.BoolOp .Or (a :: b :: rest) pos) (orV f g) := PE.weak (pe_or h h') fun σ H Q h => by
  obtain ⟨ρ, σd, hd, HR, S, h⟩ := h
  refine ⟨ρ, σd, hd, HR, S, (PostG.bind (rD X.K X.mg) h).mono fun x H1 ⟨dx, h1, ρ1, G1, HR1, r1, q1⟩ => ?_⟩
  cases dx with
  | bl b =>
    have r1 : x = .bl b := r1
    refine ⟨b, r1, ?_⟩
    cases b with
    | true => exact q1 _ H1 ρ1 Grow.refl HR1 rfl
    | false => exact ⟨ρ1, σd, h1, HR1, S.grow G1, q1⟩
  | _ => exact q1.elim
theorem d_not {a : Expr} {f : Den} {pos : Pos} (h : DE X W a f) : DE X W (.UnaryOp .Not a pos) (notV f) := PE.weak (pe_not h) fun σ H Q h => by
  obtain ⟨ρ, σd, hd, HR, S, h⟩ := h
  refine ⟨ρ, σd, hd, HR, S, (PostG.bind (rD X.K X.mg) h).mono fun x H1 ⟨dx, h1, ρ1, G1, HR1, r1, q1⟩ => ?_⟩
  cases dx with
  | bl b =>
    have r1 : x = .bl b := r1
    exact ⟨b, r1, q1 _ H1 ρ1 Grow.refl HR1 rfl⟩
  | _ => exact q1.elim
def ifD (c : DenB) (f g : Den) : Den := fun σ h => (c σ h).bind fun b h1 => if b = true then f σ h1 else g σ h1
theorem d_if {c a b : Expr} {fc : DenB} {f g : Den} {pos : Pos} (hc : DT X W c fc) (h : DE X W a f) (h' : DE X W b g) : DE X W (.IfExp c a b pos) (ifD fc f g) := PE.weak (pe_ifExp hc h h') fun σ H Q h => by
  obtain ⟨ρ, σd, hd, HR, S, h⟩ := h
  refine ⟨ρ, σd, hd, HR, S, (PostG.bind (rE Bool) h).mono fun x H1 ⟨dx, h1, ρ1, G1, HR1, r1, q1⟩ => ?_⟩
  have r1 : dx = x := r1
  subst r1
  cases dx with
  | true => exact ⟨ρ1, σd, h1, HR1, S.grow G1, q1⟩
  | false => exact ⟨ρ1, σd, h1, HR1, S.grow G1, q1⟩
/-! ## arguments, calls, displays -/
def aNil : DenA := fun _ h => .ok [] h
def aCons (f : Den) (g : DenA) : DenA := fun σ h => (f σ h).bind fun d h1 => (g σ h1).bind fun ds h2 => .ok (d :: ds) h2
theorem a_nil : DA X W [] aNil := PA.weak pa_nil fun σ H Q h => by
  obtain ⟨ρ, σd, hd, HR, S, h⟩ := h
  exact h [] H ρ Grow.refl HR rfl
theorem a_cons {e : Expr} {es : List Expr} {f : Den} {g : DenA} (h : DE X W e f) (h' : DA X W es g) (hs : starEach (e :: es) X.env = (false, eval e X.env) :: starEach es X.env := by rfl) : DA X W (e :: es) (aCons f g) := PA.weak (pa_cons h h' hs) fun σ H Q h => by
  obtain ⟨ρ, σd, hd, HR, S, h⟩ := h
  refine ⟨ρ, σd, hd, HR, S, (PostG.bind (rD X.K X.mg) h).mono fun x H1 ⟨dx, h1, ρ1, G1, HR1, r1, q1⟩ => ?_⟩
  refine ⟨ρ1, σd, h1, HR1, S.grow G1, (PostG.bind (rL X.K X.mg) q1).mono fun ys H2 ⟨dy, h2, ρ2, G2, HR2, r2, q2⟩ => ?_⟩
  exact q2 _ H2 ρ2 Grow.refl HR2 ⟨x, ys, rfl, G2.rep _ _ r1, r2⟩
/-- a tuple's, a list's display; a list that will be changed -/
def tupD (f : DenA) : Den := fun σ h => (f σ h).bind fun ds h1 => if ds.length ≤ sizeLine then .ok (.tup ds) h1 else .stuck
def lstD (f : DenA) : Den := fun σ h => (f σ h).bind fun ds h1 => if ds.length ≤ sizeLine then .ok (.lst ds) h1 else .stuck
def lstM (f : DenA) : Den := fun σ h => (f σ h).bind fun ds h1 => if ds.length ≤ sizeLine then .ok (.ref h1.length) (h1 ++ [.lst ds]) else .stuck
theorem rep_tup {K : PySem.W.Frag} {mg : Str → Option Value} {H : Hp} {ρ : Rh} {p : Addr} {ds : List D} {xs : List V} (hp : H p = none) (hz : xs.length ≤ sizeLine) (r : RepL K mg H ρ ds xs) : Rep K mg (upd H p (.tup xs)) ρ (.tup ds) (.ref p) :=
  ⟨p, xs, rfl, SqT.of upd_same, hz, (grow_new hp).repL _ _ r⟩
theorem rep_lst {K : PySem.W.Frag} {mg : Str → Option Value} {H : Hp} {ρ : Rh} {hd : Hd} {p : Addr} {ds : List D} {xs : List V} (HR : HRel K mg H ρ hd) (hp : H p = none) (hz : xs.length ≤ sizeLine) (r : RepL K mg H ρ ds xs) : Rep K mg (upd H p (.lst xs)) ρ (.lst ds) (.ref p) :=
  ⟨p, xs, rfl, ⟨.inl upd_same, HR.fresh hp⟩, hz, (grow_new hp).repL _ _ r⟩
theorem rep_own {K : PySem.W.Frag} {mg : Str → Option Value} {H : Hp} {ρ : Rh} {hd : Hd} {p : Addr} (HR : HRel K mg H ρ hd) : Rep K mg (upd H p o) { ρ with ix := ρ.ix ++ [p] } (.ref hd.length) (.ref p) :=
  ⟨p, rfl, by rw [HR.len]; simp⟩
theorem d_tup {es : List Expr} {f : DenA} {k : Nat} {pos : Pos} (h : DA X W es f) : DE X W (.Tuple es k pos) (tupD f) := PE.weak (pe_tup h) fun σ H Q h => by
  obtain ⟨ρ, σd, hd, HR, S, h⟩ := h
  refine ⟨ρ, σd, hd, HR, S, (PostG.bind (rL X.K X.mg) h).mono fun xs H1 ⟨ds, h1, ρ1, G1, HR1, r1, q1⟩ => ?_⟩
  by_cases hz : ds.length ≤ sizeLine
  · rw [if_pos hz] at q1
    have hz' : xs.length ≤ sizeLine := by rw [← RepL.length r1]; exact hz
    exact ⟨hz', fun p hp => q1 _ _ ρ1 (grow_new hp) (HR1.new hp) (rep_tup hp hz' r1)⟩
  · rw [if_neg hz] at q1; exact q1.elim
theorem d_lst {es : List Expr} {f : DenA} {pos : Pos} (h : DA X W es f) : DE X W (.List es pos) (lstD f) := PE.weak (pe_lst h) fun σ H Q h => by
  obtain ⟨ρ, σd, hd, HR, S, h⟩ := h
  refine ⟨ρ, σd, hd, HR, S, (PostG.bind (rL X.K X.mg) h).mono fun xs H1 ⟨ds, h1, ρ1, G1, HR1, r1, q1⟩ => ?_⟩
  by_cases hz : ds.length ≤ sizeLine
  · rw [if_pos hz] at q1
    have hz' : xs.length ≤ sizeLine := by rw [← RepL.length r1]; exact hz
    exact ⟨hz', fun p hp => q1 _ _ ρ1 (grow_new hp) (HR1.new hp) (rep_lst HR1 hp hz' r1)⟩
  · rw [if_neg hz] at q1; exact q1.elim
theorem d_lstM {es : List Expr} {f : DenA} {pos : Pos} (h : DA X W es f) : DE X W (.List es pos) (lstM f) := PE.weak (pe_lst h) fun σ H Q h => by
  obtain ⟨ρ, σd, hd, HR, S, h⟩ := h
  refine ⟨ρ, σd, hd, HR, S, (PostG.bind (rL X.K X.mg) h).mono fun xs H1 ⟨ds, h1, ρ1, G1, HR1, r1, q1⟩ => ?_⟩
  by_cases hz : ds.length ≤ sizeLine
  · rw [if_pos hz] at q1
    have hz' : xs.length ≤ sizeLine := by rw [← RepL.length r1]; exact hz
    exact ⟨hz', fun p hp => let ⟨a, b⟩ := HR1.own hp hz' r1; q1 _ _ _ b a (rep_own HR1)⟩
  · rw [if_neg hz] at q1; exact q1.elim
/-- a def's promise by its denotation -/
abbrev FDen := List D → Hd → Out D
def spD (K : PySem.W.Frag) (mg : Str → Option Value) (n : Nat) (den : FDen) : Sp := fun vs H Q E => ∃ ρ h ds, HRel K mg H ρ h ∧ RepL K mg H ρ ds vs ∧ ds.length = n ∧ PostG K mg (rD K mg) E ρ H Q (den ds h)
def callD (den : FDen) (n : Nat) (f : DenA) : Den := fun σ h => (f σ h).bind fun ds h1 => if ds.length = n then den ds h1 else .stuck
/-- built-ins by their names -/
def callP (p : PL) (f : DenA) : Den := fun σ h => (f σ h).bind fun ds h1 => lift (p ds h1)
theorem callP_ok {K : PySem.W.Frag} {mg : Str → Option Value} {p : PL} {fa : DenA} {σ : L2.St} {H : Hp} {Q : VK} (h : tG K mg (rD K mg) W (callP p fa) σ H Q) : tCB (rPL K mg p) (tG K mg (rL K mg) W fa) σ H Q := by
  obtain ⟨ρ, σd, hd, HR, S, h⟩ := h
  refine ⟨ρ, σd, hd, HR, S, (PostG.bind (rL K mg) h).mono fun xs H1 ⟨ds, h1, ρ1, G1, HR1, r1, q1⟩ => ?_⟩
  exact ⟨ρ1, h1, ds, HR1, r1, q1.lift⟩
theorem d_callB {id : String} {p : PL} {x : Str} {q pos : Pos} {e : Expr} {es : List Expr} {fa : DenA} (hc : CallR X (.builtin id) (rPL X.K X.mg p)) (hm : X.mg x = none) (hv : bootBuiltins x = some (.builtin id)) (ha : DA X W (e :: es) fa)
    (hg : Gl X x := by rfl) (hn : x ≠ "__name__" := by decide) (hdb : (x == ("__debug__" : Str)) = false := by decide)
    (he : starEach (e :: es) X.env = (false, eval e X.env) :: starEach es X.env := by rfl) (hpl : (backTo pos (starEach es X.env)).any (·.1) = false := by rfl) : DE X W (.Call (.Name x q) (e :: es) [] pos) (callP p fa) :=
  PE.weak (pe_callB hc hg hm hv ha hn hdb he hpl) fun σ H Q h => callP_ok h
theorem d_callTy {id : String} {p : PL} {x : Str} {q pos : Pos} {e : Expr} {es : List Expr} {fa : DenA} (hc : CallR X (.type id) (rPL X.K X.mg p)) (hm : X.mg x = none) (hv : bootBuiltins x = some (.type id)) (ha : DA X W (e :: es) fa)
    (hg : Gl X x := by rfl) (hn : x ≠ "__name__" := by decide) (hdb : (x == ("__debug__" : Str)) = false := by decide)
    (he : starEach (e :: es) X.env = (false, eval e X.env) :: starEach es X.env := by rfl) (hpl : (backTo pos (starEach es X.env)).any (·.1) = false := by rfl) : DE X W (.Call (.Name x q) (e :: es) [] pos) (callP p fa) :=
  PE.weak (pe_callTy hc hg hm hv ha hn hdb he hpl) fun σ H Q h => callP_ok h
end
end Dz

namespace Dz
open PySem PySem.Spec PyProof.Rows L2
/-! ## targets -/
def rS (K : PySem.W.Frag) (mg : Str → Option Value) : RR Sd L2.St := fun H ρ σd σ => SRel K mg H ρ σ σd
abbrev DenT := D → Sd → Hd → Out Sd
abbrev DenTs := List D → Sd → Hd → Out Sd
def tGt (K : PySem.W.Frag) (mg : Str → Option Value) (W : WX) (g : DenT) : TG := fun v σ H Q =>
  ∃ ρ σd h d, HRel K mg H ρ h ∧ SRel K mg H ρ σ σd ∧ Rep K mg H ρ d v ∧ PostG K mg (rS K mg) (fun c dd H' => W c dd σ H') ρ H Q (g d σd h)
/-- several targets: what one raises is wished for at the slots as they are then; so nothing is raised there -/
def PostT (K : PySem.W.Frag) (mg : Str → Option Value) (ρ : Rh) (H : Hp) (Q : L2.St → Hp → Prop) : Out Sd → Prop := PostG K mg (rS K mg) (fun _ _ _ => False) ρ H Q
def tGn (K : PySem.W.Frag) (mg : Str → Option Value) (g : DenT) : TG := fun v σ H Q =>
  ∃ ρ σd h d, HRel K mg H ρ h ∧ SRel K mg H ρ σ σd ∧ Rep K mg H ρ d v ∧ PostT K mg ρ H Q (g d σd h)
def tGs (K : PySem.W.Frag) (mg : Str → Option Value) (g : DenTs) : TGs := fun vs σ H Q =>
  ∃ ρ σd h ds, HRel K mg H ρ h ∧ SRel K mg H ρ σ σd ∧ RepL K mg H ρ ds vs ∧ PostT K mg ρ H Q (g ds σd h)
abbrev DG (X : Cx) (tg : Expr) (g : DenT) : Prop := PG X tg (tGn X.K X.mg g)
abbrev DGs (X : Cx) (tgs : List Expr) (g : DenTs) : Prop := PGs X tgs (tGs X.K X.mg g)
def nox {α : Type} (o : Out α) : Out α := match o with
  | .exc _ _ => .stuck
  | o => o
theorem PostG.nox {K : PySem.W.Frag} {mg : Str → Option Value} {H : Hp} {ρ : Rh} {α β : Type} {R : RR α β} {E E' : XK} {Q : β → Hp → Prop} {o : Out α} (h : PostG K mg R E ρ H Q (Dz.nox o)) : PostG K mg R E' ρ H Q o := by
  cases o with
  | ok a h' => exact h
  | exc x h' => exact h.elim
  | stuck => exact h
def setT (i : Nat) : DenT := fun d σ h => .ok (σ.set i (some d)) h
section
variable {X : Cx} {W : WX}
theorem g_name (i : Nat) {x : Str} {pos : Pos} (hN : X.N.Nodup) (hi : X.N[i]? = some x := by rfl) (hx : Loc X.env.scope x := by first | exact Or.inl rfl | exact Or.inr rfl) (hf : X.fn x = true ∨ X.env.scope.names.lookup x = some .local := by first | exact .inl rfl | exact .inr rfl) : DG X (.Name x pos) (setT i) :=
  PG.weak (pg_name hN hi hx hf) fun v σ H Q h => by
    obtain ⟨ρ, σd, hd, d, HR, S, r, h⟩ := h
    exact h _ H ρ Grow.refl HR (S.set r)
def tsNil : DenTs := fun ds σ h => match ds with
  | [] => .ok σ h
  | _ => .stuck
def tsCons (g : DenT) (gs : DenTs) : DenTs := fun ds σ h => match ds with
  | d :: ds => (g d σ h).bind fun σ1 h1 => gs ds σ1 h1
  | [] => .stuck
theorem gs_nil : DGs X [] tsNil := PGs.weak pgs_nil fun vs σ H Q h => by
  obtain ⟨ρ, σd, hd, ds, HR, S, r, h⟩ := h
  cases ds with
  | nil => exact ⟨r, h σ H ρ Grow.refl HR S⟩
  | cons d ds => exact h.elim
theorem gs_cons {e : Expr} {es : List Expr} {g : DenT} {gs : DenTs} (h1 : DG X e g) (h2 : DGs X es gs) (hs : (assignEach (e :: es) X.env).map (·.2) = assign e X.env :: (assignEach es X.env).map (·.2) := by rfl) : DGs X (e :: es) (tsCons g gs) :=
  PGs.weak (pgs_cons h1 h2 hs) fun vs σ H Q h => by
    obtain ⟨ρ, σd, hd, ds, HR, S, r, h⟩ := h
    cases ds with
    | nil => exact h.elim
    | cons d ds =>
      obtain ⟨v, vr, e1, r1, r2⟩ := r
      refine ⟨v, vr, e1, ρ, σd, hd, d, HR, S, r1, (PostG.bind (rS X.K X.mg) h).mono fun σ1 H1 ⟨σd1, h1, ρ1, G1, HR1, S1, q1⟩ => ?_⟩
      exact ⟨ρ1, σd1, h1, ds, HR1, S1, G1.repL _ _ r2, q1⟩
theorem PG.or {tg : Expr} {t t' : TG} (h : PG X tg t) (h' : PG X tg t') : PG X tg (fun v σ H Q => t v σ H Q ∨ t' v σ H Q) :=
  ⟨fun pins s σ H v u Q I r q => q.elim (h.run pins s σ H v u Q I r) (h'.run pins s σ H v u Q I r)⟩
/-- what a sequence holds -/
def seqOf (d : D) (h : Hd) : Option (List D) := match d with
  | .tup ds => some ds
  | .lst ds => some ds
  | .scr ds => some ds
  | .ref i => match h[i]? with
    | some (.lst ds) => some ds
    | _ => none
  | _ => none
theorem seqOf_ok {K : PySem.W.Frag} {mg : Str → Option Value} {H : Hp} {ρ : Rh} {hd : Hd} {d : D} {ds : List D} {v : V} (HR : HRel K mg H ρ hd) (r : Rep K mg H ρ d v) (e : seqOf d hd = some ds) :
    ∃ a xs, v = .ref a ∧ xs.length ≤ sizeLine ∧ RepL K mg H ρ ds xs ∧ ((SqT K H a xs ∧ d = .tup ds) ∨ (SqL K H a xs ∧ ∀ ts, d ≠ .tup ts)) := by
  cases d with
  | tup ts =>
    obtain ⟨a, xs, e1, h1, h2, h3⟩ := r
    cases e
    exact ⟨a, xs, e1, h2, h3, .inl ⟨h1, rfl⟩⟩
  | lst ts =>
    obtain ⟨a, xs, e1, h1, h2, h3⟩ := r
    cases e
    exact ⟨a, xs, e1, h2, h3, .inr ⟨.inl h1.1, fun _ z => by cases z⟩⟩
  | scr ts =>
    obtain ⟨a, xs, e1, h1, h2, h3⟩ := r
    cases e
    exact ⟨a, xs, e1, h2, h3, .inr ⟨h1.elim (fun z => .inl z.1) .inr, fun _ z => by cases z⟩⟩
  | ref i =>
    obtain ⟨a, e1, h1⟩ := r
    unfold seqOf at e
    dsimp only at e
    cases eo : hd[i]? with
    | none => rw [eo] at e; cases e
    | some o =>
      rw [eo] at e
      cases o with
      | ins C fs => cases e
      | lst ts =>
        cases e
        obtain ⟨xs, e2, z, r2⟩ := HR.obj i _ a eo h1
        exact ⟨a, xs, e1, z, r2, .inr ⟨SqL.of e2, fun _ z => by cases z⟩⟩
  | _ => cases e
def tupT (n : Nat) (gs : DenTs) : DenT := fun d σ h => match seqOf d h with
  | some ds => if ds.length = n then gs ds σ h else .stuck
  | none => .stuck
theorem g_tup {es : List Expr} {k : Nat} {gs : DenTs} {n : Nat} {pos : Pos} (hc : X.calm = true) (h : DGs X es gs) (hn : (assignEach es X.env).length = n := by rfl) (hst : (assignEach es X.env).findIdx? (·.1) = none := by rfl) : DG X (.Tuple es k pos) (tupT n gs) :=
  PG.weak (PG.or (pg_tup hc h hn hst) (pg_unl hc h hn hst)) fun v σ H Q q => by
    obtain ⟨ρ, σd, hd, d, HR, S, r, q⟩ := q
    unfold tupT at q
    cases e : seqOf d hd with
    | none => rw [e] at q; exact q.elim
    | some ds =>
      rw [e] at q
      obtain ⟨a, xs, e1, z, r2, sq⟩ := seqOf_ok HR r e
      by_cases hl : ds.length = n
      · dsimp only at q
        rw [if_pos hl] at q
        have hl' : xs.length = n := (RepL.length r2).symm.trans hl
        rcases sq with ⟨sq, _⟩ | ⟨sq, _⟩
        · exact .inl ⟨a, xs, e1, sq, hl', ρ, σd, hd, ds, HR, S, r2, q⟩
        · exact .inr ⟨a, xs, e1, sq, hl', ρ, σd, hd, ds, HR, S, r2, q⟩
      · dsimp only at q; rw [if_neg hl] at q; exact q.elim
/-- o[i] = v -/
abbrev P3 := D → D → D → Hd → Option Hd
def rP3 (K : PySem.W.Frag) (mg : Str → Option Value) (p : P3) : TSet := fun o i v H Q => ∃ ρ h d0 d1 d2, HRel K mg H ρ h ∧ Rep K mg H ρ d0 o ∧ Rep K mg H ρ d1 i ∧ Rep K mg H ρ d2 v ∧ PostO K mg (fun _ _ (_ : Unit) (_ : Unit) => True) ρ H (fun _ H' => Q H') ((p d0 d1 d2 h).map fun h' => ((), h'))
def subT (p : P3) (fo fi : Den) : DenT := fun v σ h => (nox (fo σ h)).bind fun o h1 => (nox (fi σ h1)).bind fun i h2 => match p o i v h2 with
  | some h3 => .ok σ h3
  | none => .stuck
theorem g_sub {o i : Expr} {fo fi : Den} {p : P3} {pos : Pos} (hs : PSet X (rP3 X.K X.mg p)) (ho : DE X W o fo) (hi : DE X W i fi)
    (ha : ∀ v, assign (.Subscript o i pos) X.env v = (do
      let ov ← holding [v] (eval o X.env)
      let iv ← holding [v, ov] (eval i X.env)
      standAt pos
      holding [v, ov, iv] (setItem ov iv v)
      release [v, ov, iv] []) := by intro _; rfl) : DG X (.Subscript o i pos) (subT p fo fi) :=
  PG.weak (pg_sub ho hi hs ha) fun v σ H Q q => by
    obtain ⟨ρ, σd, hd, d, HR, S, r, q⟩ := q
    refine ⟨ρ, σd, hd, HR, S, ((PostG.bind (rD X.K X.mg) q).mono fun x H1 ⟨dx, h1, ρ1, G1, HR1, r1, q1⟩ => ?_).nox⟩
    refine ⟨ρ1, σd, h1, HR1, S.grow G1, ((PostG.bind (rD X.K X.mg) q1).mono fun y H2 ⟨dy, h2, ρ2, G2, HR2, r2, q2⟩ => ?_).nox⟩
    refine ⟨ρ2, h2, dx, dy, d, HR2, G2.rep _ _ r1, r2, G2.rep _ _ (G1.rep _ _ r), ?_⟩
    cases e : p dx dy d h2 with
    | none => rw [e] at q2; exact q2.elim
    | some h3 =>
      rw [e] at q2
      exact fun _ H3 ρ3 G3 HR3 _ => q2 σ H3 ρ3 G3 HR3 ((S.grow G1).grow (G2.trans G3))
/-! ## blocks and small statements -/
def nxS : DenS := fun σ h => .next σ h
def seqS (f g : DenS) : DenS := fun σ h => (f σ h).sbind g
theorem ss_nil : DSs X W [] nxS := PSs.weak pss_nil fun E σ H h => by
  obtain ⟨ρ, σd, hd, HR, S, h⟩ := h
  exact h σ H ρ Grow.refl HR S
theorem ss_cons {st : Stmt} {rest : List Stmt} {f g : DenS} (h1 : DS X W st f) (h2 : DSs X W rest g) : DSs X W (st :: rest) (seqS f g) := PSs.weak (pss_cons h1 h2) fun E σ H h => by
  obtain ⟨ρ, σd, hd, HR, S, h⟩ := h
  exact ⟨ρ, σd, hd, HR, S, h.sbind⟩
theorem ss_one {st : Stmt} {f : DenS} (h1 : DS X W st f) : DSs X W [st] f := pss_one h1
def brkS : DenS := fun σ h => .brk σ h
def cntS : DenS := fun σ h => .cont σ h
theorem s_pass {pos : Pos} : DS X W (.Pass pos) nxS := PS.weak ps_pass fun E σ H h => by
  obtain ⟨ρ, σd, hd, HR, S, h⟩ := h
  exact h σ H ρ Grow.refl HR S
theorem s_brk {pos : Pos} : DS X W (.Break pos) brkS := PS.weak ps_break fun E σ H h => by
  obtain ⟨ρ, σd, hd, HR, S, h⟩ := h
  exact h σ H ρ Grow.refl HR S
theorem s_cnt {pos : Pos} : DS X W (.Continue pos) cntS := PS.weak ps_continue fun E σ H h => by
  obtain ⟨ρ, σd, hd, HR, S, h⟩ := h
  exact h σ H ρ Grow.refl HR S
def exS (f : Den) : DenS := fun σ h => (f σ h).sbind σ fun _ h1 => .next σ h1
theorem s_expr {e : Expr} {f : Den} {pos : Pos} (he : DE X W e f) (hs : swapsWith e none pos.line X.env = pure false := by rfl) : DS X W (.Expr e pos) (exS f) := PS.weak (ps_expr he hs) fun E σ H h => by
  obtain ⟨ρ, σd, hd, HR, S, h⟩ := h
  exact ⟨ρ, σd, hd, HR, S, (PostS.ebind (rD X.K X.mg) S h).mono fun x H1 ⟨dx, h1, ρ1, G1, HR1, r1, q1⟩ => q1 σ H1 ρ1 Grow.refl HR1 (S.grow G1)⟩
def retS (f : Den) : DenS := fun σ h => (f σ h).sbind σ fun d h1 => .ret d h1
theorem s_ret {e : Expr} {f : Den} {pos : Pos} (he : DE X W e f) : DS X W (.Return (some e) pos) (retS f) := PS.weak (ps_ret he) fun E σ H h => by
  obtain ⟨ρ, σd, hd, HR, S, h⟩ := h
  exact ⟨ρ, σd, hd, HR, S, (PostS.ebind (rD X.K X.mg) S h).mono fun x H1 ⟨dx, h1, ρ1, G1, HR1, r1, q1⟩ => q1 x H1 ρ1 Grow.refl HR1 r1⟩
def ifS (c : DenB) (f g : DenS) : DenS := fun σ h => (c σ h).sbind σ fun b h1 => if b = true then f σ h1 else g σ h1
theorem s_if {c : Expr} {a b : List Stmt} {fc : DenB} {f g : DenS} {pos : Pos} (hc : DT X W c fc) (ha : DSs X W a f) (hb : DSs X W b g) : DS X W (.If c a b pos) (ifS fc f g) := PS.weak (ps_if hc ha hb) fun E σ H h => by
  obtain ⟨ρ, σd, hd, HR, S, h⟩ := h
  refine ⟨ρ, σd, hd, HR, S, (PostS.ebind (rE Bool) S h).mono fun x H1 ⟨dx, h1, ρ1, G1, HR1, r1, q1⟩ => ?_⟩
  have r1 : dx = x := r1
  subst r1
  cases dx with
  | true => exact ⟨ρ1, σd, h1, HR1, S.grow G1, q1⟩
  | false => exact ⟨ρ1, σd, h1, HR1, S.grow G1, q1⟩
def setS (i : Nat) (f : Den) : DenS := fun σ h => (f σ h).sbind σ fun d h1 => .next (σ.set i (some d)) h1
theorem s_set (i : Nat) {x : Str} {e : Expr} {f : Den} {pos pos' : Pos} (hN : X.N.Nodup) (he : DE X W e f) (hi : X.N[i]? = some x := by rfl) (hx : Loc X.env.scope x := by first | exact Or.inl rfl | exact Or.inr rfl)
    (hs : swapsWith e (some (.Name x pos')) pos.line X.env = pure false := by rfl) (hf : X.fn x = true ∨ X.env.scope.names.lookup x = some .local := by first | exact .inl rfl | exact .inr rfl) : DS X W (.Assign [.Name x pos'] e pos) (setS i f) :=
  PS.weak (ps_set hN hi hx he hs hf) fun E σ H h => by
    obtain ⟨ρ, σd, hd, HR, S, h⟩ := h
    exact ⟨ρ, σd, hd, HR, S, (PostS.ebind (rD X.K X.mg) S h).mono fun x H1 ⟨dx, h1, ρ1, G1, HR1, r1, q1⟩ => q1 _ H1 ρ1 Grow.refl HR1 ((S.grow G1).set r1)⟩
/-- any one target -/
def asgS (f : Den) (g : DenT) : DenS := fun σ h => (f σ h).sbind σ fun d h1 => (nox (g d σ h1)).sbind σ fun σ1 h2 => .next σ1 h2
theorem s_asg {tg e : Expr} {f : Den} {g : DenT} {pos : Pos} (he : DE X W e f) (hg : DG X tg g) (hs : swapsWithSole [tg] e pos.line X.env = pure false := by rfl) (hw : swappedStores [tg] e X.env = pure none := by rfl)
    (h1 : (assignEach [tg] X.env).map (·.2) = [assign tg X.env] := by rfl) : DS X W (.Assign [tg] e pos) (asgS f g) := PS.weak (ps_asg he hg hs hw h1) fun E σ H h => by
  obtain ⟨ρ, σd, hd, HR, S, h⟩ := h
  refine ⟨ρ, σd, hd, HR, S, (PostS.ebind (rD X.K X.mg) S h).mono fun x H1 ⟨dx, h1, ρ1, G1, HR1, r1, q1⟩ => ?_⟩
  refine ⟨ρ1, σd, h1, dx, HR1, S.grow G1, r1, ((PostS.ebind (rS X.K X.mg) (S.grow G1) q1).mono fun σ2 H2 ⟨σd2, h2, ρ2, G2, HR2, S2, q2⟩ => ?_).nox⟩
  exact q2 σ2 H2 ρ2 Grow.refl HR2 S2
/-- a, b = e1, e2 -/
def parS (i j : Nat) (f : DenA) : DenS := fun σ h => (f σ h).sbind σ fun ds h1 => match ds with
  | [a, b] => .next ((σ.set i (some a)).set j (some b)) h1
  | _ => .stuck
theorem s_par (i j : Nat) {x y : Str} {a b : Expr} {f : DenA} {px py pt pos : Pos} {kt k2 pt2} (hc : X.calm = true) (hN : X.N.Nodup) (ha : DA X W [a, b] f) (hi : X.N[i]? = some x := by rfl) (hj : X.N[j]? = some y := by rfl) (hij : i ≠ j := by decide)
    (hx : X.env.scope.names.lookup x = some .local := by rfl) (hy : X.env.scope.names.lookup y = some .local := by rfl)
    (hw : swappedStores [.Tuple [.Name x px, .Name y py] kt pt] (.Tuple [a, b] k2 pt2) X.env = pure (some [x, y]) := by rfl)
    (hs : swapsWithSole [.Tuple [.Name x px, .Name y py] kt pt] (.Tuple [a, b] k2 pt2) pos.line X.env = pure false := by rfl) :
    DS X W (.Assign [.Tuple [.Name x px, .Name y py] kt pt] (.Tuple [a, b] k2 pt2) pos) (parS i j f) := PS.weak (ps_par hc hN hi hj hij hx hy ha hw hs) fun E σ H h => by
  obtain ⟨ρ, σd, hd, HR, S, h⟩ := h
  refine ⟨ρ, σd, hd, HR, S, (PostS.ebind (rL X.K X.mg) S h).mono fun xs H1 ⟨ds, h1, ρ1, G1, HR1, r1, q1⟩ => ?_⟩
  match ds, r1, q1 with
  | [d0, d1], r1, q1 =>
    obtain ⟨v0, r, rfl, q0, v1, r', rfl, q01, e⟩ := r1
    have e : r' = [] := e
    subst e
    exact ⟨v0, v1, rfl, q1 _ H1 ρ1 Grow.refl HR1 (((S.grow G1).set q0).set q01)⟩
  | [], r1, q1 => exact q1.elim
  | [_], r1, q1 => exact q1.elim
  | _ :: _ :: _ :: _, r1, q1 => exact q1.elim
/-- name op= e -/
def augS (i : Nat) (p : P2) (f : Den) : DenS := fun σ h => (vr i σ h).sbind σ fun x h0 => (f σ h0).sbind σ fun y h1 => (lift (p x y h1)).sbind σ fun z h2 => .next (σ.set i (some z)) h2
def rIp (K : PySem.W.Frag) (mg : Str → Option Value) (p : P2) : TIp := rP2 K mg p
theorem s_aug (i : Nat) {x : Str} {e : Expr} {f : Den} {op : Operator} {p : P2} {pos pos' : Pos} (hN : X.N.Nodup) (ho : PIp X op (rIp X.K X.mg p)) (he : DE X W e f) (hi : X.N[i]? = some x := by rfl) (hx : Loc X.env.scope x := by first | exact Or.inl rfl | exact Or.inr rfl)
    (hf : X.fn x = true ∨ X.env.scope.names.lookup x = some .local := by first | exact .inl rfl | exact .inr rfl) : DS X W (.AugAssign (.Name x pos') op e pos) (augS i p f) := PS.weak (ps_aug hN hi hx he ho hf) fun E σ H h => by
  obtain ⟨ρ, σd, hd, HR, S, h⟩ := h
  have h' := PostS.ebind (rD X.K X.mg) S h
  unfold vr at h'
  cases e : σd[i]? with
  | none => rw [e] at h'; exact h'.elim
  | some o =>
    cases o with
    | none => rw [e] at h'; exact h'.elim
    | some d =>
      rw [e] at h'
      obtain ⟨v, e1, r⟩ := S.get i d e
      obtain ⟨d', h0, ρ0, G0, HR0, r0, q0⟩ := h' v H ρ Grow.refl HR r
      refine ⟨v, e1, ρ0, σd, h0, HR0, S.grow G0, (PostS.ebind (rD X.K X.mg) (S.grow G0) q0).mono fun y H1 ⟨dy, h1, ρ1, G1, HR1, r1, q1⟩ => ?_⟩
      refine ⟨ρ1, h1, d', dy, HR1, G1.rep _ _ r0, r1, ((PostS.ebind (rD X.K X.mg) ((S.grow G0).grow G1) q1).lift : PostO X.K X.mg (rD X.K X.mg) ρ1 H1 _ _) |> fun z => ?_⟩
      revert z
      cases p d' dy h1 with
      | none => exact fun z => z
      | some pr =>
        intro z b H2 ρ2 G2 HR2 r2
        obtain ⟨a3, h3, ρ3, G3, HR3, r3, q3⟩ := z b H2 ρ2 G2 HR2 r2
        exact q3 _ H2 ρ3 Grow.refl HR3 ((((S.grow G0).grow G1).grow G3).set r3)
/-! ## loops -/
structure Src where
  items : List D
  guard : List (Nat × List D)
def guardOk (g : List (Nat × List D)) (h : Hd) : Prop := ∀ p ∈ g, h[p.1]? = some (.lst p.2)
structure WalkD (K : PySem.W.Frag) (mg : Str → Option Value) (J : It) (src : Src) (H' : Hp) (ρ' : Rh) : Prop where
  size : src.items.length ≤ sizeLine
  goes : ∀ (i : Nat) (H2 : Hp) (ρ2 : Rh) (h2 : Hd), ρ'.ix <+: ρ2.ix → (∀ d v, Rep K mg H' ρ' d v → Rep K mg H2 ρ2 d v) → HRel K mg H2 ρ2 h2 → guardOk src.guard h2 → i < src.items.length → J.go i H2
  stops : ∀ (H2 : Hp) (ρ2 : Rh) (h2 : Hd), ρ'.ix <+: ρ2.ix → (∀ d v, Rep K mg H' ρ' d v → Rep K mg H2 ρ2 d v) → HRel K mg H2 ρ2 h2 → guardOk src.guard h2 → J.stop src.items.length H2
  yields : ∀ (i : Nat) (H2 : Hp) (ρ2 : Rh) (h2 : Hd) (x : V) (H3 : Hp), ρ'.ix <+: ρ2.ix → (∀ d v, Rep K mg H' ρ' d v → Rep K mg H2 ρ2 d v) → HRel K mg H2 ρ2 h2 → guardOk src.guard h2 → i < src.items.length → J.yld i H2 x H3 →
    ∃ d, src.items[i]? = some d ∧ Grow K mg H2 ρ2 H3 ρ2 ∧ HRel K mg H3 ρ2 h2 ∧ Rep K mg H3 ρ2 d x
theorem WalkD.grow {K : PySem.W.Frag} {mg : Str → Option Value} {J : It} {src : Src} {H H' : Hp} {ρ ρ' : Rh} (g : Grow K mg H ρ H' ρ') (w : WalkD K mg J src H ρ) : WalkD K mg J src H' ρ' :=
  ⟨w.size, fun i H2 ρ2 h2 p k => w.goes i H2 ρ2 h2 (g.pre.trans p) fun d v r => k d v (g.rep d v r), fun H2 ρ2 h2 p k => w.stops H2 ρ2 h2 (g.pre.trans p) fun d v r => k d v (g.rep d v r),
    fun i H2 ρ2 h2 x H3 p k => w.yields i H2 ρ2 h2 x H3 (g.pre.trans p) fun d v r => k d v (g.rep d v r)⟩
def rW (K : PySem.W.Frag) (mg : Str → Option Value) : RR Src It := fun H ρ src J => WalkD K mg J src H ρ
abbrev DenI := Sd → Hd → Out Src
abbrev DI (X : Cx) (W : WX) (tg e : Expr) (f : DenI) : Prop := PI X tg e (tG X.K X.mg (rW X.K X.mg) W f)
open Classical in
noncomputable def forLoop (gt : DenT) (fb : DenS) (g : List (Nat × List D)) : List D → Sd → Hd → SOut
  | [], σ, h => if guardOk g h then .next σ h else .stuck
  | d :: ds, σ, h => if guardOk g h then (nox (gt d σ h)).sbind σ fun σ1 h1 => match fb σ1 h1 with
      | .next σ2 h2 => forLoop gt fb g ds σ2 h2
      | .cont σ2 h2 => forLoop gt fb g ds σ2 h2
      | .brk σ2 h2 => .next σ2 h2
      | o => o
    else .stuck
noncomputable def forS (fi : DenI) (gt : DenT) (fb : DenS) : DenS := fun σ h => (fi σ h).sbind σ fun src h1 => forLoop gt fb src.guard src.items σ h1
theorem s_for {tg iter : Expr} {body : List Stmt} {fi : DenI} {gt : DenT} {fb : DenS} {pos : Pos} (hp : PassesOwn (model X.prog X.w) X.A X.env X.xe) (hc : X.calm = true) (hi : DI X W tg iter fi) (hg : DG X tg gt) (hb : DSs X W body fb)
    (hs : ∀ x, foldedSetIterable iter X.env x = pure x := by intro _; rfl) : DS X W (.For tg iter body [] pos) (forS fi gt fb) := PS.weak (ps_for hp hc hi hg hb hs) fun E σ H h => by
  obtain ⟨ρ, σd, hd, HR, S, h⟩ := h
  refine ⟨ρ, σd, hd, HR, S, (PostS.ebind (rW X.K X.mg) S h).mono fun J H1 ⟨src, h1, ρ1, G1, HR1, w, q1⟩ => ?_⟩
  have S1 := S.grow G1
  refine ⟨fun i m σ H => m = src.items.length - i ∧ i ≤ src.items.length ∧ ∃ ρ2 σd2 h2, Grow X.K X.mg H1 ρ1 H ρ2 ∧ HRel X.K X.mg H ρ2 h2 ∧ SRel X.K X.mg H ρ2 σ σd2 ∧ PostS X.K X.mg W ρ2 H E (forLoop gt fb src.guard (src.items.drop i) σd2 h2),
    ⟨src.items.length, by simp, Nat.zero_le _, ρ1, σd, h1, Grow.refl, HR1, S1, by simpa using q1⟩, ?_⟩
  rintro i m σ2 H2 ⟨rfl, hi, ρ2, σd2, h2, G2, HR2, S2, q2⟩
  by_cases hlt : i < src.items.length
  · have ed : src.items.drop i = src.items[i] :: src.items.drop (i + 1) := List.drop_eq_getElem_cons hlt
    rw [ed] at q2
    unfold forLoop at q2
    by_cases hgd : guardOk src.guard h2
    · rw [if_pos hgd] at q2
      refine .inr ⟨w.goes i H2 ρ2 h2 G2.pre G2.rep HR2 hgd hlt, fun σ' H' => ∃ ρ3 σd3 h3, Grow X.K X.mg H1 ρ1 H' ρ3 ∧ HRel X.K X.mg H' ρ3 h3 ∧ SRel X.K X.mg H' ρ3 σ' σd3 ∧ PostS X.K X.mg W ρ3 H' E (forLoop gt fb src.guard (src.items.drop (i + 1)) σd3 h3),
        fun σ' H' p => ⟨_, by omega, rfl, hlt, p⟩, fun x H3 y => ?_⟩
      obtain ⟨d, ei, G3, HR3, r3⟩ := w.yields i H2 ρ2 h2 x H3 G2.pre G2.rep HR2 hgd hlt y
      have : src.items[i] = d := by rw [List.getElem?_eq_getElem hlt] at ei; exact Option.some.inj ei
      rw [this] at q2
      have S3 := S2.grow G3
      have q3 := PostS.grow G3 q2
      refine ⟨ρ2, σd2, h2, d, HR3, S3, r3, ((PostS.ebind (rS X.K X.mg) S3 q3).mono fun σ4 H4 ⟨σd4, h4, ρ4, G4, HR4, S4, q4⟩ => ?_).nox⟩
      refine ⟨ρ4, σd4, h4, HR4, S4, ?_⟩
      have G14 := G2.trans (G3.trans G4)
      cases eb : fb σd4 h4 with
      | next σd5 h5 => rw [eb] at q4; exact fun σ5 H5 ρ5 G5 HR5 S5 => ⟨ρ5, σd5, h5, G14.trans G5, HR5, S5, PostS.grow G5 q4⟩
      | cont σd5 h5 => rw [eb] at q4; exact fun σ5 H5 ρ5 G5 HR5 S5 => ⟨ρ5, σd5, h5, G14.trans G5, HR5, S5, PostS.grow G5 q4⟩
      | brk σd5 h5 => rw [eb] at q4; exact q4
      | ret d5 h5 => rw [eb] at q4; exact q4
      | exc x σd5 h5 => rw [eb] at q4; exact q4
      | stuck => rw [eb] at q4; exact q4
    · rw [if_neg hgd] at q2; exact q2.elim
  · have e : i = src.items.length := by omega
    subst e
    rw [List.drop_length] at q2
    unfold forLoop at q2
    by_cases hgd : guardOk src.guard h2
    · rw [if_pos hgd] at q2
      exact .inl ⟨w.stops H2 ρ2 h2 G2.pre G2.rep HR2 hgd, q2 _ _ ρ2 Grow.refl HR2 S2⟩
    · rw [if_neg hgd] at q2; exact q2.elim
/-! while -/
def whileN (c : DenB) (b : DenS) : Nat → Sd → Hd → Option SOut
  | 0, _, _ => none
  | n + 1, σ, h => match c σ h with
    | .ok true h1 => match b σ h1 with
      | .next σ2 h2 => whileN c b n σ2 h2
      | .cont σ2 h2 => whileN c b n σ2 h2
      | .brk σ2 h2 => some (.next σ2 h2)
      | o => some o
    | .ok false h1 => some (.next σ h1)
    | .exc x h1 => some (.exc x σ h1)
    | .stuck => some .stuck
open Classical in
noncomputable def whileS (c : DenB) (b : DenS) : DenS := fun σ h => if q : ∃ o : SOut, ∃ n, whileN c b n σ h = some o then choose q else .stuck
theorem whileN_succ {c : DenB} {b : DenS} : ∀ {n : Nat} {σ : Sd} {h : Hd} {o : SOut}, whileN c b n σ h = some o → whileN c b (n + 1) σ h = some o
  | 0, _, _, _, e => by cases e
  | n + 1, σ, h, o, e => by
    unfold whileN at e ⊢
    cases ec : c σ h with
    | exc x h1 => rw [ec] at e; exact e
    | stuck => rw [ec] at e; exact e
    | ok t h1 =>
      rw [ec] at e
      cases t with
      | false => exact e
      | true =>
        dsimp only at e ⊢
        cases eb : b σ h1 with
        | next σ2 h2 => rw [eb] at e; exact whileN_succ (n := n) e
        | cont σ2 h2 => rw [eb] at e; exact whileN_succ (n := n) e
        | brk σ2 h2 => rw [eb] at e; exact e
        | ret d h2 => rw [eb] at e; exact e
        | exc x σ2 h2 => rw [eb] at e; exact e
        | stuck => rw [eb] at e; exact e
theorem whileN_le {c : DenB} {b : DenS} {n m : Nat} {σ : Sd} {h : Hd} {o : SOut} (hnm : n ≤ m) (e : whileN c b n σ h = some o) : whileN c b m σ h = some o := by
  induction hnm with
  | refl => exact e
  | step _ ih => exact whileN_succ ih
theorem whileS_of {c : DenB} {b : DenS} {n : Nat} {σ : Sd} {h : Hd} {o : SOut} (e : whileN c b n σ h = some o) : whileS c b σ h = o := by
  have q : ∃ o : SOut, ∃ n, whileN c b n σ h = some o := ⟨o, n, e⟩
  unfold whileS
  rw [dif_pos q]
  obtain ⟨m, em⟩ := Classical.choose_spec q
  have e1 := whileN_le (Nat.le_max_left n m) e
  have e2 := whileN_le (Nat.le_max_right n m) em
  rw [e1] at e2
  exact (Option.some.inj e2).symm
theorem s_while {c : Expr} {body : List Stmt} {fc : DenB} {fb : DenS} {pos : Pos} (hp : PassesOwn (model X.prog X.w) X.A X.env X.xe) (hc : DT X W c fc) (hb : DSs X W body fb) : DS X W (.While c body [] pos) (whileS fc fb) := PS.weak (ps_while hp hc hb) fun E σ H h => by
  obtain ⟨ρ, σd, hd, HR, S, h⟩ := h
  by_cases q : ∃ o : SOut, ∃ n, whileN fc fb n σd hd = some o
  · obtain ⟨o, n, e⟩ := q
    rw [whileS_of e] at h
    refine ⟨fun m σ H => ∃ ρ σd h o, HRel X.K X.mg H ρ h ∧ SRel X.K X.mg H ρ σ σd ∧ whileN fc fb m σd h = some o ∧ PostS X.K X.mg W ρ H E o, ⟨n, ρ, σd, hd, o, HR, S, e, h⟩, ?_⟩
    rintro m σ2 H2 ⟨ρ2, σd2, h2, o2, HR2, S2, e2, q2⟩
    cases m with
    | zero => cases e2
    | succ m =>
      unfold whileN at e2
      refine ⟨ρ2, σd2, h2, HR2, S2, ?_⟩
      cases ec : fc σd2 h2 with
      | stuck => rw [ec] at e2; cases e2; exact q2.elim
      | exc x h3 => rw [ec] at e2; cases e2; exact fun c d H3 ρ3 G3 HR3 r3 => q2 c d σ2 H3 ρ3 G3 HR3 (S2.grow G3) r3
      | ok t h3 =>
        rw [ec] at e2
        intro b H3 ρ3 G3 HR3 r3
        have r3 : t = b := r3
        subst r3
        cases t with
        | false => cases e2; exact q2 σ2 H3 ρ3 G3 HR3 (S2.grow G3)
        | true =>
          dsimp only at e2
          refine ⟨fun σ' H' => ∃ ρ σd h o, HRel X.K X.mg H' ρ h ∧ SRel X.K X.mg H' ρ σ' σd ∧ whileN fc fb m σd h = some o ∧ PostS X.K X.mg W ρ H' E o, fun σ' H' p => ⟨m, Nat.lt_succ_self _, p⟩, ρ3, σd2, h3, HR3, S2.grow G3, ?_⟩
          cases eb : fb σd2 h3 with
          | next σd5 h5 => rw [eb] at e2; exact fun σ5 H5 ρ5 G5 HR5 S5 => ⟨ρ5, σd5, h5, o2, HR5, S5, e2, PostS.grow (G3.trans G5) q2⟩
          | cont σd5 h5 => rw [eb] at e2; exact fun σ5 H5 ρ5 G5 HR5 S5 => ⟨ρ5, σd5, h5, o2, HR5, S5, e2, PostS.grow (G3.trans G5) q2⟩
          | brk σd5 h5 => rw [eb] at e2; cases e2; exact PostS.grow G3 q2
          | ret d5 h5 => rw [eb] at e2; cases e2; exact PostS.grow G3 q2
          | exc x σd5 h5 => rw [eb] at e2; cases e2; exact PostS.grow G3 q2
          | stuck => rw [eb] at e2; cases e2; exact q2.elim
  · unfold whileS at h
    rw [dif_neg q] at h
    exact h.elim
end
end Dz

namespace Dz
open PySem PySem.Spec PyProof.Rows L2
/-! ## comprehensions -/
theorem wipe_get (σ : L2.St) : ∀ (vs : List Nat) (j : Nat), (L2.wipe σ vs)[j]? = if j ∈ vs then σ[j]?.map (fun _ => none) else σ[j]?
  | [], j => by simp [L2.wipe]
  | v :: vs, j => by
    unfold L2.wipe
    have ih := wipe_get σ vs j
    by_cases e : v = j
    · subst e
      rw [if_pos List.mem_cons_self]
      by_cases hl : v < σ.length
      · rw [List.getElem?_set_self (by rw [L2.wipe_length]; exact hl), List.getElem?_eq_getElem hl]; rfl
      · rw [List.getElem?_eq_none (by rw [List.length_set, L2.wipe_length]; omega), List.getElem?_eq_none (by omega)]; rfl
    · rw [List.getElem?_set_ne e, ih]
      have : (j ∈ v :: vs) ↔ j ∈ vs := by simp [Ne.symm e]
      by_cases hm : j ∈ vs
      · rw [if_pos hm, if_pos (this.mpr hm)]
      · rw [if_neg hm, if_neg (fun z => hm (this.mp z))]
theorem wipe_set {σ : L2.St} {vs : List Nat} {i : Nat} {o : Option V} (h : i ∈ vs) : L2.wipe (σ.set i o) vs = L2.wipe σ vs := by
  refine List.ext_getElem? fun j => ?_
  rw [wipe_get, wipe_get]
  by_cases hm : j ∈ vs
  · rw [if_pos hm, if_pos hm]
    by_cases e : i = j
    · subst e
      by_cases hl : i < σ.length
      · rw [List.getElem?_set_self hl, List.getElem?_eq_getElem hl]; rfl
      · rw [List.getElem?_eq_none (by rw [List.length_set]; omega), List.getElem?_eq_none (by omega)]
    · rw [List.getElem?_set_ne e]
  · rw [if_neg hm, if_neg hm, List.getElem?_set_ne (fun z => by subst z; exact hm h)]
theorem wipe_idem {σ : L2.St} {vs : List Nat} : L2.wipe (L2.wipe σ vs) vs = L2.wipe σ vs := by
  refine List.ext_getElem? fun j => ?_
  rw [wipe_get, wipe_get]
  by_cases hm : j ∈ vs
  · rw [if_pos hm, if_pos hm, Option.map_map]; rfl
  · rw [if_neg hm, if_neg hm]
/-- targets of comprehensions: names among the block's own -/
def PostC (K : PySem.W.Frag) (mg : Str → Option Value) (vs : List Nat) (σ : L2.St) (ρ : Rh) (H : Hp) (Q : L2.St → Hp → Prop) : Out Sd → Prop :=
  PostG K mg (fun H ρ σd σ2 => SRel K mg H ρ σ2 σd ∧ L2.wipe σ2 vs = L2.wipe σ vs) (fun _ _ _ => False) ρ H Q
def tGc (K : PySem.W.Frag) (mg : Str → Option Value) (vs : List Nat) (g : DenT) : TG := fun v σ H Q =>
  ∃ ρ σd h d, HRel K mg H ρ h ∧ SRel K mg H ρ σ σd ∧ Rep K mg H ρ d v ∧ PostC K mg vs σ ρ H Q (g d σd h)
def tGcs (K : PySem.W.Frag) (mg : Str → Option Value) (vs : List Nat) (g : DenTs) : TGs := fun v σ H Q =>
  ∃ ρ σd h d, HRel K mg H ρ h ∧ SRel K mg H ρ σ σd ∧ RepL K mg H ρ d v ∧ PostC K mg vs σ ρ H Q (g d σd h)
abbrev DC (X : Cx) (vs : List Nat) (tg : Expr) (g : DenT) : Prop := PG X tg (tGc X.K X.mg vs g)
abbrev DCs (X : Cx) (vs : List Nat) (tg : List Expr) (g : DenTs) : Prop := PGs X tg (tGcs X.K X.mg vs g)
section
variable {X : Cx} {W : WX}
theorem c_name (i : Nat) {vs : List Nat} {x : Str} {pos : Pos} (hN : X.N.Nodup) (hi : X.N[i]? = some x := by rfl) (hv : i ∈ vs := by decide) (hx : Loc X.env.scope x := by first | exact Or.inl rfl | exact Or.inr rfl) (hf : X.fn x = true ∨ X.env.scope.names.lookup x = some .local := by first | exact .inl rfl | exact .inr rfl) : DC X vs (.Name x pos) (setT i) :=
  PG.weak (pg_name hN hi hx hf) fun v σ H Q h => by
    obtain ⟨ρ, σd, hd, d, HR, S, r, h⟩ := h
    exact h _ H ρ Grow.refl HR ⟨S.set r, wipe_set hv⟩
theorem cs_nil {vs : List Nat} : DCs X vs [] tsNil := PGs.weak pgs_nil fun vs σ H Q h => by
  obtain ⟨ρ, σd, hd, ds, HR, S, r, h⟩ := h
  cases ds with
  | nil => exact ⟨r, h σ H ρ Grow.refl HR ⟨S, rfl⟩⟩
  | cons d ds => exact h.elim
theorem cs_cons {ws : List Nat} {e : Expr} {es : List Expr} {g : DenT} {gs : DenTs} (h1 : DC X ws e g) (h2 : DCs X ws es gs) (hs : (assignEach (e :: es) X.env).map (·.2) = assign e X.env :: (assignEach es X.env).map (·.2) := by rfl) : DCs X ws (e :: es) (tsCons g gs) :=
  PGs.weak (pgs_cons h1 h2 hs) fun vs σ H Q h => by
    obtain ⟨ρ, σd, hd, ds, HR, S, r, h⟩ := h
    cases ds with
    | nil => exact h.elim
    | cons d ds =>
      obtain ⟨v, vr, e1, r1, r2⟩ := r
      refine ⟨v, vr, e1, ρ, σd, hd, d, HR, S, r1, (PostG.bind (fun H ρ σd σ2 => SRel X.K X.mg H ρ σ2 σd ∧ L2.wipe σ2 ws = L2.wipe σ ws) h).mono fun σ1 H1 ⟨σd1, h1, ρ1, G1, HR1, S1, q1⟩ => ?_⟩
      refine ⟨ρ1, σd1, h1, ds, HR1, S1.1, G1.repL _ _ r2, ?_⟩
      revert q1
      cases gs ds σd1 h1 with
      | ok a h' => exact fun q b H2 ρ2 G2 HR2 r => q b H2 ρ2 G2 HR2 ⟨r.1, r.2.trans S1.2⟩
      | exc x h' => exact fun q => q
      | stuck => exact fun q => q
theorem c_tup {vs : List Nat} {es : List Expr} {k : Nat} {gs : DenTs} {n : Nat} {pos : Pos} (hc : X.calm = true) (h : DCs X vs es gs) (hn : (assignEach es X.env).length = n := by rfl) (hst : (assignEach es X.env).findIdx? (·.1) = none := by rfl) : DC X vs (.Tuple es k pos) (tupT n gs) :=
  PG.weak (PG.or (pg_tup hc h hn hst) (pg_unl hc h hn hst)) fun v σ H Q q => by
    obtain ⟨ρ, σd, hd, d, HR, S, r, q⟩ := q
    unfold tupT at q
    cases e : seqOf d hd with
    | none => rw [e] at q; exact q.elim
    | some ds =>
      rw [e] at q
      obtain ⟨a, xs, e1, z, r2, sq⟩ := seqOf_ok HR r e
      by_cases hl : ds.length = n
      · dsimp only at q
        rw [if_pos hl] at q
        have hl' : xs.length = n := (RepL.length r2).symm.trans hl
        rcases sq with ⟨sq, _⟩ | ⟨sq, _⟩
        · exact .inl ⟨a, xs, e1, sq, hl', ρ, σd, hd, ds, HR, S, r2, q⟩
        · exact .inr ⟨a, xs, e1, sq, hl', ρ, σd, hd, ds, HR, S, r2, q⟩
      · dsimp only at q; rw [if_neg hl] at q; exact q.elim
abbrev W0 : WX := fun _ _ _ _ => False
abbrev DTs (X : Cx) (es : List Expr) (f : DenB) : Prop := PTs X es (tG X.K X.mg (rE Bool) W0 f)
def yesB : DenB := fun _ h => .ok true h
theorem ts_nil : DTs X [] yesB := ⟨fun pins s σ H Q I h => (pts_nil (X := X)).run pins s σ H Q I (by
  obtain ⟨ρ, σd, hd, HR, S, h⟩ := h
  exact h true H ρ Grow.refl HR rfl)⟩
theorem ts_one {c : Expr} {f : DenB} (h : DT X W0 c f) : DTs X [c] f := pts_one h
end
open Classical in
noncomputable def lcLoop (gt : DenT) (ft : DenB) (fe : Den) (g : List (Nat × List D)) (σ0 : Sd) : List D → List D → Hd → Out (List D)
  | [], acc, h => if guardOk g h then .ok acc h else .stuck
  | d :: ds, acc, h => if guardOk g h then (nox (gt d σ0 h)).bind fun σ1 h1 => (nox (ft σ1 h1)).bind fun b h2 => if b = true then (nox (fe σ1 h2)).bind fun y h3 => lcLoop gt ft fe g σ0 ds (acc ++ [y]) h3 else lcLoop gt ft fe g σ0 ds acc h2
    else .stuck
noncomputable def lcA (fi : DenI) (gt : DenT) (ft : DenB) (fe : Den) (vs : List Nat) : DenA := fun σ h => (fi σ h).bind fun src h1 => lcLoop gt ft fe src.guard (wipeD σ vs) src.items [] h1
noncomputable def lcD (fi : DenI) (gt : DenT) (ft : DenB) (fe : Den) (vs : List Nat) : Den := fun σ h => (fi σ h).bind fun src h1 => (lcLoop gt ft fe src.guard (wipeD σ vs) src.items [] h1).bind fun ys h2 => .ok (.lst ys) h2
noncomputable def lcM (fi : DenI) (gt : DenT) (ft : DenB) (fe : Den) (vs : List Nat) : Den := fun σ h => (fi σ h).bind fun src h1 => (lcLoop gt ft fe src.guard (wipeD σ vs) src.items [] h1).bind fun ys h2 => .ok (.ref h2.length) (h2 ++ [.lst ys])
/-- from the entry of a comprehension's loop, its new list at D hidden -/
structure Tr (K : PySem.W.Frag) (mg : Str → Option Value) (H1 : Hp) (ρ1 : Rh) (Dd : Addr) (H : Hp) (ρ : Rh) : Prop where
  pre : ρ1.ix <+: ρ.ix
  hid : ρ.hid = Dd :: ρ1.hid
  rep : ∀ d v, Rep K mg H1 ρ1 d v → Rep K mg H ρ d v
  xd : ∀ a fs, H1 a = some (.xd fs) → H a = some (.xd fs)
  keep : ∀ a ∈ ρ1.hid, ∀ u, H1 a = some u → H a = some u
section
variable {K : PySem.W.Frag} {mg : Str → Option Value} {H1 H H' : Hp} {ρ1 ρ ρ' : Rh} {Dd : Addr} {hd : Hd}
theorem Tr.start (HR : HRel K mg H1 ρ1 hd) (hD : H1 Dd = none) : Tr K mg H1 ρ1 Dd (upd H1 Dd (.lst [])) { ρ1 with hid := Dd :: ρ1.hid } ∧ HRel K mg (upd H1 Dd (.lst [])) { ρ1 with hid := Dd :: ρ1.hid } hd := by
  have mo : Mono K H1 ρ1 (upd H1 Dd (.lst [])) { ρ1 with hid := Dd :: ρ1.hid } := ⟨fun _ _ h => xd_new hD h, List.prefix_refl _, fun _ _ h => SqT.up hD h, fun a xs h n n' => ⟨(Rd.up hD h).1, n, fun z => by
      rcases List.mem_cons.mp z with z | z
      · exact (Rd.up (o := .lst []) hD h).2 z
      · exact n' z⟩⟩
  have rep : ∀ d v, Rep K mg H1 ρ1 d v → Rep K mg (upd H1 Dd (.lst [])) { ρ1 with hid := Dd :: ρ1.hid } d v := fun d v h => Rep.mono mo d v h
  refine ⟨⟨List.prefix_refl _, rfl, rep, fun _ _ h => xd_new hD h, fun _ _ _ h => xd_new hD h⟩, ⟨HR.nd, HR.len, fun i o a e1 e2 => (HR.obj i o a e1 e2).of rep fun u e => xd_new hD e, fun a ha => ?_, fun a ha => ?_⟩⟩
  · rcases List.mem_cons.mp ha with z | z
    · subst z; exact ⟨_, upd_same⟩
    · obtain ⟨u, e⟩ := HR.hid a z; exact ⟨u, xd_new hD e⟩
  · rcases List.mem_cons.mp ha with z | z
    · subst z; exact (HR.fresh hD).1
    · exact HR.dis a z
theorem Tr.step (t : Tr K mg H1 ρ1 Dd H ρ) (g : Grow K mg H ρ H' ρ') : Tr K mg H1 ρ1 Dd H' ρ' :=
  ⟨t.pre.trans g.pre, g.hid.trans t.hid, fun d v h => g.rep d v (t.rep d v h), fun a fs h => g.xd a fs (t.xd a fs h), fun a ha u h => g.keep a (by rw [t.hid]; exact List.mem_cons_of_mem _ ha) u (t.keep a ha u h)⟩
theorem Tr.app {acc acc' : List V} (t : Tr K mg H1 ρ1 Dd H ρ) (HR : HRel K mg H ρ hd) (hD1 : H1 Dd = none) (HR1 : HRel K mg H1 ρ1 hd1) (hD : H Dd = some (.lst acc)) :
    Tr K mg H1 ρ1 Dd (upd H Dd (.lst acc')) ρ ∧ HRel K mg (upd H Dd (.lst acc')) ρ hd ∧ (∀ d v, Rep K mg H ρ d v → Rep K mg (upd H Dd (.lst acc')) ρ d v) := by
  have hm : Dd ∈ ρ.hid := by rw [t.hid]; exact List.mem_cons_self
  have rep := fun d v h => rep_write (K := K) (mg := mg) (xs' := acc') hD (.inr hm) d v h
  refine ⟨⟨t.pre, t.hid, fun d v h => rep d v (t.rep d v h), fun a fs h => xd_write hD a fs (t.xd a fs h), fun a ha u h => ?_⟩, ⟨HR.nd, HR.len, fun i o a e1 e2 => (HR.obj i o a e1 e2).of rep fun u e => ?_, fun a ha => ?_, HR.dis⟩, rep⟩
  · have na : a ≠ Dd := fun z => by
      subst z
      exact (HR1.fresh hD1).2 ha
    rw [upd_ne na]; exact t.keep a ha u h
  · have na : a ≠ Dd := fun z => by
      subst z
      exact HR.dis a hm (List.mem_of_getElem? e2)
    rw [upd_ne na]; exact e
  · by_cases z : a = Dd
    · subst z; exact ⟨_, upd_same⟩
    · obtain ⟨u, e⟩ := HR.hid a ha
      exact ⟨u, by rw [upd_ne z]; exact e⟩
theorem Tr.fin {acc : List V} {ds : List D} (t : Tr K mg H1 ρ1 Dd H ρ) (HR : HRel K mg H ρ hd) (hD1 : H1 Dd = none) (HR1 : HRel K mg H1 ρ1 hd1) (hD : H Dd = some (.lst acc)) (hz : acc.length ≤ sizeLine) (r : RepL K mg H ρ ds acc) :
    Grow K mg H1 ρ1 H { ρ with hid := ρ1.hid } ∧ HRel K mg H { ρ with hid := ρ1.hid } hd ∧ Rep K mg H { ρ with hid := ρ1.hid } (.lst ds) (.ref Dd) ∧ RepL K mg H { ρ with hid := ρ1.hid } ds acc := by
  have hm : Dd ∈ ρ.hid := by rw [t.hid]; exact List.mem_cons_self
  have mo : Mono K H ρ H { ρ with hid := ρ1.hid } := ⟨fun _ _ h => h, List.prefix_refl _, fun _ _ h => h, fun a xs h n n' => ⟨h, n, fun z => n' (by rw [t.hid]; exact List.mem_cons_of_mem _ z)⟩⟩
  have rep : ∀ d v, Rep K mg H ρ d v → Rep K mg H { ρ with hid := ρ1.hid } d v := fun d v h => Rep.mono mo d v h
  refine ⟨⟨t.pre, fun d v h => rep d v (t.rep d v h), t.xd, rfl, t.keep⟩, ⟨HR.nd, HR.len, fun i o a e1 e2 => (HR.obj i o a e1 e2).of rep fun u e => e, fun a ha => HR.hid a (by rw [t.hid]; exact List.mem_cons_of_mem _ ha), fun a ha => HR.dis a (by rw [t.hid]; exact List.mem_cons_of_mem _ ha)⟩,
    ⟨Dd, acc, rfl, ⟨.inl hD, HR.dis Dd hm, (HR1.fresh hD1).2⟩, hz, RepL.of rep _ _ r⟩, RepL.of rep _ _ r⟩
/-- .. as one of ours -/
theorem Tr.finOwn {acc : List V} {ds : List D} (t : Tr K mg H1 ρ1 Dd H ρ) (HR : HRel K mg H ρ hd) (hD1 : H1 Dd = none) (HR1 : HRel K mg H1 ρ1 hd1) (hD : H Dd = some (.lst acc)) (hz : acc.length ≤ sizeLine) (r : RepL K mg H ρ ds acc) :
    Grow K mg H1 ρ1 H { ix := ρ.ix ++ [Dd], hid := ρ1.hid } ∧ HRel K mg H { ix := ρ.ix ++ [Dd], hid := ρ1.hid } (hd ++ [.lst ds]) ∧ Rep K mg H { ix := ρ.ix ++ [Dd], hid := ρ1.hid } (.ref hd.length) (.ref Dd) := by
  have hm : Dd ∈ ρ.hid := by rw [t.hid]; exact List.mem_cons_self
  have mo : Mono K H ρ H { ix := ρ.ix ++ [Dd], hid := ρ1.hid } := ⟨fun _ _ h => h, List.prefix_append _ _, fun _ _ h => h, fun a xs h n n' => ⟨h, fun z => by
      have z : a ∈ ρ.ix ++ [Dd] := z
      rcases List.mem_append.mp z with z | z
      · exact n z
      · have : a = Dd := by simpa using z
        subst this; exact n' hm, fun z => n' (by rw [t.hid]; exact List.mem_cons_of_mem _ z)⟩⟩
  have rep : ∀ d v, Rep K mg H ρ d v → Rep K mg H { ix := ρ.ix ++ [Dd], hid := ρ1.hid } d v := fun d v h => Rep.mono mo d v h
  refine ⟨⟨t.pre.trans (List.prefix_append _ _), fun d v h => rep d v (t.rep d v h), t.xd, rfl, t.keep⟩, ⟨?_, by simp [HR.len], fun i o a e1 e2 => ?_, fun a ha => HR.hid a (by rw [t.hid]; exact List.mem_cons_of_mem _ ha), fun a ha z => ?_⟩, ⟨Dd, rfl, by rw [HR.len]; simp⟩⟩
  · show (ρ.ix ++ [Dd]).Nodup
    rw [List.nodup_append]
    refine ⟨HR.nd, by simp, fun x hx y hy => ?_⟩
    have : y = Dd := by simpa using hy
    subst this
    exact fun z => HR.dis y hm (z ▸ hx)
  · have e2 : (ρ.ix ++ [Dd])[i]? = some a := e2
    by_cases hi : i < hd.length
    · rw [List.getElem?_append_left hi] at e1
      rw [List.getElem?_append_left (by rw [← HR.len]; exact hi)] at e2
      exact (HR.obj i o a e1 e2).of rep fun u e => e
    · rw [List.getElem?_append_right (by omega)] at e1
      rw [List.getElem?_append_right (by rw [← HR.len]; omega), ← HR.len] at e2
      have : i - hd.length = 0 := by
        by_cases z : i - hd.length = 0
        · exact z
        · rw [List.getElem?_eq_none (by simp; omega)] at e1; cases e1
      rw [this] at e1 e2
      simp at e1 e2
      subst e1 e2
      exact ⟨acc, hD, hz, RepL.of rep _ _ r⟩
  · have z : a ∈ ρ.ix ++ [Dd] := z
    rcases List.mem_append.mp z with z | z
    · exact HR.dis a (by rw [t.hid]; exact List.mem_cons_of_mem _ ha) z
    · have : a = Dd := by simpa using z
      subst this; exact (HR1.fresh hD1).2 ha
end
theorem RepL.snoc {K : PySem.W.Frag} {mg : Str → Option Value} {H : Hp} {ρ : Rh} {d : D} {v : V} (r : Rep K mg H ρ d v) : ∀ {ds : List D} {vs : List V}, RepL K mg H ρ ds vs → RepL K mg H ρ (ds ++ [d]) (vs ++ [v])
  | [], vs, h => by have h : vs = [] := h; subst h; exact ⟨v, [], rfl, r, rfl⟩
  | e :: ds, vs, h => by
    obtain ⟨w, rest, rfl, h1, h2⟩ := h
    exact ⟨w, rest ++ [v], rfl, h1, RepL.snoc r h2⟩
section
variable {X : Cx} {W : WX}
/-- the loop, whatever is done with the list behind it -/
theorem lc_gen {fi : DenI} {gt : DenT} {ft : DenB} {fe : Den} {vs : List Nat} {σ : L2.St} {H : Hp} {Q : VK} {fin : List D → Hd → Out D}
    (hfin : ∀ (ρ1 ρ : Rh) (H1 H : Hp) (Dd : Addr) (hd1 hd : Hd) (acc : List V) (ys : List D), Tr X.K X.mg H1 ρ1 Dd H ρ → HRel X.K X.mg H ρ hd → H1 Dd = none → HRel X.K X.mg H1 ρ1 hd1 → H Dd = some (.lst acc) → acc.length ≤ sizeLine → RepL X.K X.mg H ρ ys acc →
      PostG X.K X.mg (rD X.K X.mg) (fun c d H' => W c d σ H') ρ1 H1 Q (fin ys hd) → Q (.ref Dd) H)
    (h : tG X.K X.mg (rD X.K X.mg) W (fun σ h => (fi σ h).bind fun src h1 => (lcLoop gt ft fe src.guard (wipeD σ vs) src.items [] h1).bind fin) σ H Q) :
    tLc (tG X.K X.mg (rW X.K X.mg) W fi) (tGc X.K X.mg vs gt) (tG X.K X.mg (rE Bool) W0 ft) (tG X.K X.mg (rD X.K X.mg) W0 fe) vs σ H Q := by
  obtain ⟨ρ, σd, hd, HR, S, h⟩ := h
  refine ⟨ρ, σd, hd, HR, S, (PostG.bind (rW X.K X.mg) h).mono fun J H1 ⟨src, h1, ρ1, G1, HR1, w, q1⟩ Dd hD => ?_⟩
  have S1 := S.grow G1
  obtain ⟨t0, HR0⟩ := Tr.start HR1 hD
  refine ⟨fun i m H => m = src.items.length - i ∧ i ≤ src.items.length ∧ ∃ ρ2 h2 ys acc, Tr X.K X.mg H1 ρ1 Dd H ρ2 ∧ HRel X.K X.mg H ρ2 h2 ∧ H Dd = some (.lst acc) ∧ acc.length ≤ i ∧ RepL X.K X.mg H ρ2 ys acc ∧
      PostG X.K X.mg (rD X.K X.mg) (fun c d H' => W c d σ H') ρ1 H1 Q ((lcLoop gt ft fe src.guard (wipeD σd vs) (src.items.drop i) ys h2).bind fin),
    ⟨src.items.length, by simp, Nat.zero_le _, _, h1, [], [], t0, HR0, upd_same, Nat.le_refl _, rfl, by simpa using q1⟩, ?_⟩
  rintro i m H2 ⟨rfl, hi, ρ2, h2, ys, acc, t2, HR2, hD2, hl2, r2, q2⟩
  have pre2 : ρ1.ix <+: ρ2.ix := t2.pre
  by_cases hlt : i < src.items.length
  · have ed : src.items.drop i = src.items[i] :: src.items.drop (i + 1) := List.drop_eq_getElem_cons hlt
    rw [ed] at q2
    unfold lcLoop at q2
    by_cases hgd : guardOk src.guard h2
    · rw [if_pos hgd] at q2
      refine .inr ⟨w.goes i H2 ρ2 h2 pre2 t2.rep HR2 hgd hlt, fun H => ∃ ρ2 h2 ys acc, Tr X.K X.mg H1 ρ1 Dd H ρ2 ∧ HRel X.K X.mg H ρ2 h2 ∧ H Dd = some (.lst acc) ∧ acc.length ≤ i + 1 ∧ RepL X.K X.mg H ρ2 ys acc ∧
        PostG X.K X.mg (rD X.K X.mg) (fun c d H' => W c d σ H') ρ1 H1 Q ((lcLoop gt ft fe src.guard (wipeD σd vs) (src.items.drop (i + 1)) ys h2).bind fin), fun H' p => ⟨_, by omega, rfl, hlt, p⟩, fun x H3 y => ?_⟩
      obtain ⟨d, ei, G3, HR3, r3⟩ := w.yields i H2 ρ2 h2 x H3 pre2 t2.rep HR2 hgd hlt y
      have : src.items[i] = d := by rw [List.getElem?_eq_getElem hlt] at ei; exact Option.some.inj ei
      rw [this] at q2
      have t3 := t2.step G3
      have S3 : SRel X.K X.mg H3 ρ2 (L2.wipe σ vs) (wipeD σd vs) := SRel.wipe ⟨S1.len, fun j e hj => let ⟨v, e1, r⟩ := S1.get j e hj; ⟨v, e1, t3.rep _ _ r⟩⟩ vs
      refine ⟨ρ2, wipeD σd vs, h2, d, HR3, S3, r3, ?_⟩
      cases eg : gt d (wipeD σd vs) h2 with
      | exc x h' => rw [eg] at q2; exact q2.elim
      | stuck => rw [eg] at q2; exact q2.elim
      | ok σd4 h4 =>
        rw [eg] at q2
        intro σ4 H4 ρ4 G4 HR4 S4
        refine ⟨S4.2.trans wipe_idem, ρ4, σd4, h4, HR4, S4.1, ?_⟩
        have t4 := t3.step G4
        have q2 : PostG X.K X.mg (rD X.K X.mg) (fun c d H' => W c d σ H') ρ1 H1 Q (((nox (ft σd4 h4)).bind fun b h2 => if b = true then (nox (fe σd4 h2)).bind fun y h3 => lcLoop gt ft fe src.guard (wipeD σd vs) (src.items.drop (i + 1)) (ys ++ [y]) h3 else lcLoop gt ft fe src.guard (wipeD σd vs) (src.items.drop (i + 1)) ys h2).bind fin) := q2
        cases et : ft σd4 h4 with
        | exc x h' => rw [et] at q2; exact q2.elim
        | stuck => rw [et] at q2; exact q2.elim
        | ok b h5 =>
          rw [et] at q2
          intro b' H5 ρ5 G5 HR5 eb
          have eb : b = b' := eb
          subst eb
          have t5 := t4.step G5
          have hm5 : Dd ∈ ρ2.hid := by rw [t2.hid]; exact List.mem_cons_self
          have G35 := G3.trans (G4.trans G5)
          have hD5 := G35.keep Dd hm5 _ hD2
          have r5 := G35.repL _ _ r2
          cases b with
          | false =>
            have q2 : PostG X.K X.mg (rD X.K X.mg) (fun c d H' => W c d σ H') ρ1 H1 Q ((lcLoop gt ft fe src.guard (wipeD σd vs) (src.items.drop (i + 1)) ys h5).bind fin) := q2
            rw [if_neg Bool.false_ne_true]
            exact ⟨ρ5, h5, ys, acc, t5, HR5, hD5, by omega, r5, q2⟩
          | true =>
            rw [if_pos rfl]
            have q2 : PostG X.K X.mg (rD X.K X.mg) (fun c d H' => W c d σ H') ρ1 H1 Q (((nox (fe σd4 h5)).bind fun y h3 => lcLoop gt ft fe src.guard (wipeD σd vs) (src.items.drop (i + 1)) (ys ++ [y]) h3).bind fin) := q2
            refine ⟨ρ5, σd4, h5, HR5, S4.1.grow G5, ?_⟩
            cases ee : fe σd4 h5 with
            | exc x h' => rw [ee] at q2; exact q2.elim
            | stuck => rw [ee] at q2; exact q2.elim
            | ok y h6 =>
              rw [ee] at q2
              intro v6 H6 ρ6 G6 HR6 r6
              have r6 : Rep X.K X.mg H6 ρ6 y v6 := r6
              have t6 := t5.step G6
              have hD6 := G6.keep Dd (by rw [t5.hid]; exact List.mem_cons_self) _ hD5
              have hsz := w.size
              refine ⟨acc, hD6, by omega, ?_⟩
              obtain ⟨t7, HR7, rep7⟩ := t6.app (acc' := acc ++ [v6]) HR6 hD HR1 hD6
              exact ⟨ρ6, h6, ys ++ [y], acc ++ [v6], t7, HR7, upd_same, by simp; omega, RepL.snoc (rep7 _ _ r6) (RepL.of rep7 _ _ (G6.repL _ _ r5)), q2⟩
    · rw [if_neg hgd] at q2; exact q2.elim
  · have e : i = src.items.length := by omega
    subst e
    rw [List.drop_length] at q2
    unfold lcLoop at q2
    by_cases hgd : guardOk src.guard h2
    · rw [if_pos hgd] at q2
      exact .inl ⟨w.stops H2 ρ2 h2 pre2 t2.rep HR2 hgd, hfin ρ1 ρ2 H1 H2 Dd h1 h2 acc ys t2 HR2 hD HR1 hD2 (Nat.le_trans hl2 w.size) r2 q2⟩
    · rw [if_neg hgd] at q2; exact q2.elim
section
variable {elt tg iter : Expr} {ifs : List Expr} {scope : Scope} {own : List (Str × Nat)} {pos : Pos} {fi : DenI} {gt : DenT} {ft : DenB} {fe : Den}
theorem lcD_ok {vs : List Nat} {σ : L2.St} {H : Hp} {Q : VK} (h : tG X.K X.mg (rD X.K X.mg) W (lcD fi gt ft fe vs) σ H Q) :
    tLc (tG X.K X.mg (rW X.K X.mg) W fi) (tGc X.K X.mg vs gt) (tG X.K X.mg (rE Bool) W0 ft) (tG X.K X.mg (rD X.K X.mg) W0 fe) vs σ H Q :=
  lc_gen (fin := fun ys h2 => .ok (.lst ys) h2) (fun ρ1 ρ H1 H Dd hd1 hd acc ys t HR hD HR1 hD2 hz r q => let ⟨g, hr, rp, _⟩ := t.fin HR hD HR1 hD2 hz r; q _ _ _ g hr rp) h
theorem lcM_ok {vs : List Nat} {σ : L2.St} {H : Hp} {Q : VK} (h : tG X.K X.mg (rD X.K X.mg) W (lcM fi gt ft fe vs) σ H Q) :
    tLc (tG X.K X.mg (rW X.K X.mg) W fi) (tGc X.K X.mg vs gt) (tG X.K X.mg (rE Bool) W0 ft) (tG X.K X.mg (rD X.K X.mg) W0 fe) vs σ H Q :=
  lc_gen (fin := fun ys h2 => .ok (.ref h2.length) (h2 ++ [.lst ys])) (fun ρ1 ρ H1 H Dd hd1 hd acc ys t HR hD HR1 hD2 hz r q => let ⟨g, hr, rp⟩ := t.finOwn HR hD HR1 hD2 hz r; q _ _ _ g hr rp) h
theorem d_lc (hc : X.calm = true) (hN : X.N.Nodup) (hi : DI X W tg iter fi) (ok : BlkOk X.N X.env.scope scope own)
    (hg : ∀ (s : Shared) (H : Hp) (C : Addr) (cl : List (Str × Addr)) (fp : List Addr), DC (X.blk s H scope (compEnvC scope cl C X.env) fp) (own.map (·.2)) tg gt) (ht : ∀ (s : Shared) (H : Hp) (C : Addr) (cl : List (Str × Addr)) (fp : List Addr), DTs (X.blk s H scope (compEnvC scope cl C X.env) fp) ifs ft)
    (he : ∀ (s : Shared) (H : Hp) (C : Addr) (cl : List (Str × Addr)) (fp : List Addr), DE (X.blk s H scope (compEnvC scope cl C X.env) fp) W0 elt fe) (hs : ∀ x, foldedSetIterable iter X.env x = pure x := by intro _; rfl) :
    DE X W (.ListComp elt [⟨tg, iter, ifs, 0⟩] scope pos) (lcD fi gt ft fe (own.map (·.2))) := PE.weak (pe_lc hc hN hi ok hg ht he hs) fun σ H Q h => lcD_ok h
theorem d_lcM (hc : X.calm = true) (hN : X.N.Nodup) (hi : DI X W tg iter fi) (ok : BlkOk X.N X.env.scope scope own)
    (hg : ∀ (s : Shared) (H : Hp) (C : Addr) (cl : List (Str × Addr)) (fp : List Addr), DC (X.blk s H scope (compEnvC scope cl C X.env) fp) (own.map (·.2)) tg gt) (ht : ∀ (s : Shared) (H : Hp) (C : Addr) (cl : List (Str × Addr)) (fp : List Addr), DTs (X.blk s H scope (compEnvC scope cl C X.env) fp) ifs ft)
    (he : ∀ (s : Shared) (H : Hp) (C : Addr) (cl : List (Str × Addr)) (fp : List Addr), DE (X.blk s H scope (compEnvC scope cl C X.env) fp) W0 elt fe) (hs : ∀ x, foldedSetIterable iter X.env x = pure x := by intro _; rfl) :
    DE X W (.ListComp elt [⟨tg, iter, ifs, 0⟩] scope pos) (lcM fi gt ft fe (own.map (·.2))) := PE.weak (pe_lc hc hN hi ok hg ht he hs) fun σ H Q h => lcM_ok h
variable {y : Str} {py spos : Pos}
theorem s_setLc (i : Nat) (hc : X.calm = true) (hN : X.N.Nodup) (hi : DI X W tg iter fi) (ok : BlkOk X.N X.env.scope scope own)
    (hg : ∀ (s : Shared) (H : Hp) (C : Addr) (cl : List (Str × Addr)) (fp : List Addr), DC (X.blk s H scope (compEnvC scope cl C X.env) fp) (own.map (·.2)) tg gt) (ht : ∀ (s : Shared) (H : Hp) (C : Addr) (cl : List (Str × Addr)) (fp : List Addr), DTs (X.blk s H scope (compEnvC scope cl C X.env) fp) ifs ft)
    (he : ∀ (s : Shared) (H : Hp) (C : Addr) (cl : List (Str × Addr)) (fp : List Addr), DE (X.blk s H scope (compEnvC scope cl C X.env) fp) W0 elt fe)
    (hsw : swapsWith (.ListComp elt [⟨tg, iter, ifs, 0⟩] scope pos) (some (.Name y py)) spos.line X.env = pure true) (hy : X.N[i]? = some y := by rfl) (hyl : X.env.scope.names.lookup y = some .local := by rfl) (hs : ∀ x, foldedSetIterable iter X.env x = pure x := by intro _; rfl) :
    DS X W (.Assign [.Name y py] (.ListComp elt [⟨tg, iter, ifs, 0⟩] scope pos) spos) (setS i (lcD fi gt ft fe (own.map (·.2)))) := PS.weak (ps_setLc hc hN hy hyl hsw hi ok hg ht he hs) fun E σ H h => by
  obtain ⟨ρ, σd, hd, HR, S, h⟩ := h
  refine lcD_ok (W := W) (Q := fun x H1 => gName i x σ H1 E.nx) ⟨ρ, σd, hd, HR, S, (PostS.ebind (rD X.K X.mg) S h).mono fun x H1 ⟨dx, h1, ρ1, G1, HR1, r1, q1⟩ => q1 _ H1 ρ1 Grow.refl HR1 ((S.grow G1).set r1)⟩
theorem s_setLcM (i : Nat) (hc : X.calm = true) (hN : X.N.Nodup) (hi : DI X W tg iter fi) (ok : BlkOk X.N X.env.scope scope own)
    (hg : ∀ (s : Shared) (H : Hp) (C : Addr) (cl : List (Str × Addr)) (fp : List Addr), DC (X.blk s H scope (compEnvC scope cl C X.env) fp) (own.map (·.2)) tg gt) (ht : ∀ (s : Shared) (H : Hp) (C : Addr) (cl : List (Str × Addr)) (fp : List Addr), DTs (X.blk s H scope (compEnvC scope cl C X.env) fp) ifs ft)
    (he : ∀ (s : Shared) (H : Hp) (C : Addr) (cl : List (Str × Addr)) (fp : List Addr), DE (X.blk s H scope (compEnvC scope cl C X.env) fp) W0 elt fe)
    (hsw : swapsWith (.ListComp elt [⟨tg, iter, ifs, 0⟩] scope pos) (some (.Name y py)) spos.line X.env = pure true) (hy : X.N[i]? = some y := by rfl) (hyl : X.env.scope.names.lookup y = some .local := by rfl) (hs : ∀ x, foldedSetIterable iter X.env x = pure x := by intro _; rfl) :
    DS X W (.Assign [.Name y py] (.ListComp elt [⟨tg, iter, ifs, 0⟩] scope pos) spos) (setS i (lcM fi gt ft fe (own.map (·.2)))) := PS.weak (ps_setLc hc hN hy hyl hsw hi ok hg ht he hs) fun E σ H h => by
  obtain ⟨ρ, σd, hd, HR, S, h⟩ := h
  refine lcM_ok (W := W) (Q := fun x H1 => gName i x σ H1 E.nx) ⟨ρ, σd, hd, HR, S, (PostS.ebind (rD X.K X.mg) S h).mono fun x H1 ⟨dx, h1, ρ1, G1, HR1, r1, q1⟩ => q1 _ H1 ρ1 Grow.refl HR1 ((S.grow G1).set r1)⟩
end
end
end Dz

namespace Dz
open PySem PySem.Spec PyProof.Rows L2
section
variable {K : PySem.W.Frag} {mg : Str → Option Value} {H : Hp} {ρ : Rh}
theorem RepL.get : ∀ {ds : List D} {vs : List V} {i : Nat} {x : V}, RepL K mg H ρ ds vs → vs[i]? = some x → ∃ d, ds[i]? = some d ∧ Rep K mg H ρ d x
  | [], vs, i, x, h, e => by have h : vs = [] := h; subst h; simp at e
  | d :: ds, vs, 0, x, h, e => by
    obtain ⟨v, r, rfl, h1, _⟩ := h
    have : v = x := by simpa using e
    subst this
    exact ⟨d, rfl, h1⟩
  | d :: ds, vs, i + 1, x, h, e => by
    obtain ⟨v, r, rfl, _, h2⟩ := h
    obtain ⟨d', e1, r1⟩ := RepL.get h2 (i := i) (x := x) (by simpa using e)
    exact ⟨d', by simpa using e1, r1⟩
theorem RepL.get' : ∀ {ds : List D} {vs : List V} {i : Nat} {d : D}, RepL K mg H ρ ds vs → ds[i]? = some d → ∃ x, vs[i]? = some x ∧ Rep K mg H ρ d x
  | [], vs, i, d, h, e => by simp at e
  | d :: ds, vs, 0, d', h, e => by
    obtain ⟨v, r, rfl, h1, _⟩ := h
    have : d = d' := by simpa using e
    subst this
    exact ⟨v, rfl, h1⟩
  | d :: ds, vs, i + 1, d', h, e => by
    obtain ⟨v, r, rfl, _, h2⟩ := h
    obtain ⟨x, e1, r1⟩ := RepL.get' h2 (i := i) (d := d') (by simpa using e)
    exact ⟨x, by simpa using e1, r1⟩
theorem walk_tupD {ds : List D} {a : Addr} (r : Rep K mg H ρ (.tup ds) (.ref a)) : WalkD K mg (Itt K a) ⟨ds, []⟩ H ρ := by
  have key : ∀ {H2 : Hp} {ρ2 : Rh}, (∀ d v, Rep K mg H ρ d v → Rep K mg H2 ρ2 d v) → ∃ xs, SqT K H2 a xs ∧ RepL K mg H2 ρ2 ds xs := fun k => by
    obtain ⟨b, xs, e, s, _, rl⟩ := k _ _ r
    cases e
    exact ⟨xs, s, rl⟩
  refine ⟨?_, fun i H2 ρ2 h2 p k HR g hi => ?_, fun H2 ρ2 h2 p k HR g => ?_, fun i H2 ρ2 h2 x H3 p k HR g hi y => ?_⟩
  · obtain ⟨b, xs, e, s, z, rl⟩ := r
    rw [RepL.length rl]; exact z
  · obtain ⟨xs, s, rl⟩ := key k
    obtain ⟨x, ex, _⟩ := rl.get' (List.getElem?_eq_getElem hi)
    exact ⟨xs, x, s, ex⟩
  · obtain ⟨xs, s, rl⟩ := key k
    exact ⟨xs, s, Nat.le_of_eq (RepL.length rl).symm⟩
  · obtain ⟨xs, s, rl⟩ := key k
    obtain ⟨e, y⟩ := y
    subst e
    obtain ⟨d, ed, rd⟩ := rl.get (y xs s)
    exact ⟨d, ed, Grow.refl, HR, rd⟩
theorem walk_lstD {ds : List D} {a : Addr} (r : Rep K mg H ρ (.lst ds) (.ref a)) : WalkD K mg (Itl K a) ⟨ds, []⟩ H ρ := by
  have key : ∀ {H2 : Hp} {ρ2 : Rh}, (∀ d v, Rep K mg H ρ d v → Rep K mg H2 ρ2 d v) → ∃ xs, SqL K H2 a xs ∧ RepL K mg H2 ρ2 ds xs := fun k => by
    obtain ⟨b, xs, e, s, _, rl⟩ := k _ _ r
    cases e
    exact ⟨xs, .inl s.1, rl⟩
  refine ⟨?_, fun i H2 ρ2 h2 p k HR g hi => ?_, fun H2 ρ2 h2 p k HR g => ?_, fun i H2 ρ2 h2 x H3 p k HR g hi y => ?_⟩
  · obtain ⟨b, xs, e, s, z, rl⟩ := r
    rw [RepL.length rl]; exact z
  · obtain ⟨xs, s, rl⟩ := key k
    obtain ⟨x, ex, _⟩ := rl.get' (List.getElem?_eq_getElem hi)
    exact ⟨xs, x, s, ex⟩
  · obtain ⟨xs, s, rl⟩ := key k
    exact ⟨xs, s, Nat.le_of_eq (RepL.length rl).symm⟩
  · obtain ⟨xs, s, rl⟩ := key k
    obtain ⟨e, y⟩ := y
    subst e
    obtain ⟨d, ed, rd⟩ := rl.get (y xs s)
    exact ⟨d, ed, Grow.refl, HR, rd⟩
theorem walk_scrD {ds : List D} {a : Addr} (r : Rep K mg H ρ (.scr ds) (.ref a)) : WalkD K mg (Itl K a) ⟨ds, []⟩ H ρ := by
  have key : ∀ {H2 : Hp} {ρ2 : Rh}, (∀ d v, Rep K mg H ρ d v → Rep K mg H2 ρ2 d v) → ∃ xs, SqL K H2 a xs ∧ RepL K mg H2 ρ2 ds xs := fun k => by
    obtain ⟨b, xs, e, s, _, rl⟩ := k _ _ r
    cases e
    exact ⟨xs, s.elim (fun z => .inl z.1) .inr, rl⟩
  refine ⟨?_, fun i H2 ρ2 h2 p k HR g hi => ?_, fun H2 ρ2 h2 p k HR g => ?_, fun i H2 ρ2 h2 x H3 p k HR g hi y => ?_⟩
  · obtain ⟨b, xs, e, s, z, rl⟩ := r
    rw [RepL.length rl]; exact z
  · obtain ⟨xs, s, rl⟩ := key k
    obtain ⟨x, ex, _⟩ := rl.get' (List.getElem?_eq_getElem hi)
    exact ⟨xs, x, s, ex⟩
  · obtain ⟨xs, s, rl⟩ := key k
    exact ⟨xs, s, Nat.le_of_eq (RepL.length rl).symm⟩
  · obtain ⟨xs, s, rl⟩ := key k
    obtain ⟨e, y⟩ := y
    subst e
    obtain ⟨d, ed, rd⟩ := rl.get (y xs s)
    exact ⟨d, ed, Grow.refl, HR, rd⟩
theorem ref_at {H2 : Hp} {ρ2 : Rh} {h2 : Hd} {i : Nat} {a : Addr} {ds : List D} (ha : ρ.ix[i]? = some a) (p : ρ.ix <+: ρ2.ix) (HR : HRel K mg H2 ρ2 h2) (g : h2[i]? = some (.lst ds)) : ∃ xs, SqL K H2 a xs ∧ RepL K mg H2 ρ2 ds xs ∧ xs.length ≤ sizeLine := by
  have ha2 : ρ2.ix[i]? = some a := by
    obtain ⟨t, e⟩ := p
    rw [← e, List.getElem?_append_left (List.getElem?_eq_some_iff.mp ha).1]; exact ha
  obtain ⟨xs, e, z, r⟩ := HR.obj i _ a g ha2
  exact ⟨xs, SqL.of e, r, z⟩
theorem walk_refD {i : Nat} {ds : List D} {a : Addr} {h : Hd} (ha : ρ.ix[i]? = some a) (HR0 : HRel K mg H ρ h) (g0 : h[i]? = some (.lst ds)) : WalkD K mg (Itl K a) ⟨ds, [(i, ds)]⟩ H ρ := by
  have key : ∀ {H2 : Hp} {ρ2 : Rh} {h2 : Hd}, ρ.ix <+: ρ2.ix → HRel K mg H2 ρ2 h2 → guardOk [(i, ds)] h2 → ∃ xs, SqL K H2 a xs ∧ RepL K mg H2 ρ2 ds xs ∧ xs.length ≤ sizeLine := fun p HR g => ref_at ha p HR (g (i, ds) List.mem_cons_self)
  refine ⟨?_, fun j H2 ρ2 h2 p k HR g hi => ?_, fun H2 ρ2 h2 p k HR g => ?_, fun j H2 ρ2 h2 x H3 p k HR g hi y => ?_⟩
  · obtain ⟨xs, s, rl, z⟩ := ref_at ha (List.prefix_refl _) HR0 g0
    rw [RepL.length rl]; exact z
  · obtain ⟨xs, s, rl, _⟩ := key p HR g
    obtain ⟨x, ex, _⟩ := rl.get' (List.getElem?_eq_getElem hi)
    exact ⟨xs, x, s, ex⟩
  · obtain ⟨xs, s, rl, _⟩ := key p HR g
    exact ⟨xs, s, Nat.le_of_eq (RepL.length rl).symm⟩
  · obtain ⟨xs, s, rl, _⟩ := key p HR g
    obtain ⟨e, y⟩ := y
    subst e
    obtain ⟨d, ed, rd⟩ := rl.get (y xs s)
    exact ⟨d, ed, Grow.refl, HR, rd⟩
def signs (x : Str) : List D := x.cps.toList.map fun c => .str ⟨#[c]⟩
theorem walk_strD {x : Str} (hz : x.length ≤ sizeLine) : WalkD K mg (Its x) ⟨signs x, []⟩ H ρ := by
  have hl : (signs x).length = x.cps.size := by unfold signs; rw [List.length_map, Array.length_toList]
  refine ⟨by rw [hl]; exact hz, fun j H2 ρ2 h2 p k HR g hi => show j < x.cps.size by rw [← hl]; exact hi, fun H2 ρ2 h2 p k HR g => Nat.le_of_eq hl.symm, fun j H2 ρ2 h2 v H3 p k HR g hi y => ?_⟩
  obtain ⟨e, c, ec, ev⟩ := y
  subst e ev
  refine ⟨.str ⟨#[c]⟩, ?_, Grow.refl, HR, rfl, by show 1 ≤ sizeLine; decide⟩
  unfold signs
  rw [List.getElem?_map, Array.getElem?_toList, ec]; rfl
def rangeItems (lo : Int) (n : Nat) : List D := (List.range n).map fun i => .int (lo + (i : Nat))
theorem walk_rangeD {lo : Int} {n : Nat} (hz : n ≤ sizeLine) : WalkD K mg (Itr lo n) ⟨rangeItems lo n, []⟩ H ρ := by
  have hl : (rangeItems lo n).length = n := by unfold rangeItems; rw [List.length_map, List.length_range]
  refine ⟨by rw [hl]; exact hz, fun j H2 ρ2 h2 p k HR g hi => show j < n by rw [← hl]; exact hi, fun H2 ρ2 h2 p k HR g => Nat.le_of_eq hl.symm, fun j H2 ρ2 h2 v H3 p k HR g hi y => ?_⟩
  obtain ⟨e, ev⟩ := y
  subst e ev
  have hj : j < n := by rw [← hl]; exact hi
  exact ⟨.int (lo + (j : Nat)), by unfold rangeItems; rw [List.getElem?_map, List.getElem?_range hj]; rfl, Grow.refl, HR, rfl⟩
def downItems (hi : Int) (n : Nat) : List D := (List.range n).map fun i => .int (hi - (i : Nat))
theorem walk_downD {hi : Int} {n : Nat} (hz : n ≤ sizeLine) : WalkD K mg (Itc hi (-1) n) ⟨downItems hi n, []⟩ H ρ := by
  have hl : (downItems hi n).length = n := by unfold downItems; rw [List.length_map, List.length_range]
  refine ⟨by rw [hl]; exact hz, fun j H2 ρ2 h2 p k HR g hi => show j < n by rw [← hl]; exact hi, fun H2 ρ2 h2 p k HR g => Nat.le_of_eq hl.symm, fun j H2 ρ2 h2 v H3 p k HR g hj y => ?_⟩
  obtain ⟨e, ev⟩ := y
  subst e ev
  have hj : j < n := by rw [← hl]; exact hj
  refine ⟨.int (hi - (j : Nat)), by unfold downItems; rw [List.getElem?_map, List.getElem?_range hj]; rfl, Grow.refl, HR, ?_⟩
  show V.int _ = V.int _
  congr 1
  omega
end
/-! ## iterators by values -/
def PIV (X : Cx) (tg : Expr) (A : V → Hp → (It → Hp → Prop) → Prop) : Prop := ∀ (pins : List (Addr × Obj)) (s : Shared) (σ : L2.St) (H : Hp) (v : V) (u : Value) (R : It → Hp → Prop), Inv X pins σ H s → RelV v u → A v H R →
  wpAny (model X.prog X.w) X.A (pyIter u) (PIE X pins σ tg R) X.xe s
section
variable {X : Cx} {W : WX} {tg : Expr}
theorem pi_of {e : Expr} {te : TE} {A : V → Hp → (It → Hp → Prop) → Prop} (he : PE X e te) (ha : PIV X tg A) : PI X tg e (fun σ H R => te σ H fun v H1 => A v H1 R) := by
  refine ⟨fun pins s σ H R I h => ?_⟩
  refine thn (he.run pins s σ H _ I h) fun v s1 ⟨x, H1, I1, r1, q1⟩ => ?_
  exact ha pins s1 σ H1 x v R I1 r1 q1
theorem piv_list : PIV X tg (fun v H R => ∃ a xs, v = .ref a ∧ SqL X.K H a xs ∧ R (Itl X.K a) H) := by
  intro pins s1 σ H1 x v R I1 r1 q1
  obtain ⟨a, xs, e, hq, q⟩ := q1
  subst e
  cases r1
  obtain ⟨its, rv, p, hz⟩ := I1.list hq
  refine wpAny_pyIter_list p.isList ?_
  refine ⟨s1.heap.objs.size, [s1.heap.objs.size], _, _, H1, rfl, I1.kept (t' := s1.toks) fun b o e => Heap.get?_push_of_some _ e, turn_list a _, ⟨_, Heap.get?_push_size _ rfl, rfl, rfl⟩, fun b hb => ?_, q⟩
  have e : b = s1.heap.objs.size := by simpa using hb
  subst e
  exact I1.fpOk (Nat.le_refl _) (I1.hok.fresh (Nat.le_refl _))
theorem piv_tup : PIV X tg (fun v H R => ∃ a xs, v = .ref a ∧ SqT X.K H a xs ∧ R (Itt X.K a) H) := by
  intro pins s1 σ H1 x v R I1 r1 q1
  obtain ⟨a, xs, e, hq, q⟩ := q1
  subst e
  cases r1
  obtain ⟨its, rv, p, hz⟩ := I1.tuple hq
  refine wpAny_pyIter_tuple (show s1.heap.IsTuple a its.toArray from p) ?_
  refine ⟨s1.heap.objs.size, [s1.heap.objs.size], _, _, H1, rfl, I1.kept (t' := s1.toks) fun b o e => Heap.get?_push_of_some _ e, turn_tuple a _, ⟨_, Heap.get?_push_size _ rfl, rfl, rfl⟩, fun b hb => ?_, q⟩
  have e : b = s1.heap.objs.size := by simpa using hb
  subst e
  exact I1.fpOk (Nat.le_refl _) (I1.hok.fresh (Nat.le_refl _))
theorem piv_str : PIV X tg (fun v H R => ∃ x, v = .str x ∧ R (Its x) H) := by
  intro pins s1 σ H1 x v R I1 r1 q1
  obtain ⟨z, e, q⟩ := q1
  subst e
  obtain ⟨t, rfl⟩ := r1
  have hp := pi_str (X := X) (tg := tg) (e := .Constant (.str z) 0 ⟨0, 0, 0, 0⟩) (pe_str)
  refine wpAny_pyIter_strU ?_
  refine pi_one (tk := s1.toks) I1 _ (turn_str _ z t _ ?_) ⟨_, Heap.get?_push_size _ rfl, rfl, rfl⟩ q
  unfold strIterType
  split
  · exact .inl rfl
  · exact .inr rfl
theorem PIV.or {A B : V → Hp → (It → Hp → Prop) → Prop} (a : PIV X tg A) (b : PIV X tg B) : PIV X tg (fun v H R => A v H R ∨ B v H R) :=
  fun pins s σ H v u R I r q => q.elim (a pins s σ H v u R I r) (b pins s σ H v u R I r)
def srcOf (d : D) (h : Hd) : Option Src := match d with
  | .tup ds => some ⟨ds, []⟩
  | .lst ds => some ⟨ds, []⟩
  | .scr ds => some ⟨ds, []⟩
  | .ref i => match h[i]? with
    | some (.lst ds) => some ⟨ds, [(i, ds)]⟩
    | _ => none
  | .str x => some ⟨signs x, []⟩
  | _ => none
def seqI (f : Den) : DenI := fun σ h => (f σ h).bind fun d h1 => match srcOf d h1 with
  | some src => .ok src h1
  | none => .stuck
theorem i_seq {e : Expr} {f : Den} (he : DE X W e f) : DI X W tg e (seqI f) := PI.weak (pi_of he (piv_list.or (piv_tup.or piv_str))) fun σ H R h => by
  obtain ⟨ρ, σd, hd, HR, S, h⟩ := h
  refine ⟨ρ, σd, hd, HR, S, (PostG.bind (rD X.K X.mg) h).mono fun x H1 ⟨dx, h1, ρ1, G1, HR1, r1, q1⟩ => ?_⟩
  have go : ∀ {src : Src} {J : It}, PostG X.K X.mg (rW X.K X.mg) (fun c d H' => W c d σ H') ρ1 H1 R (Out.ok src h1) → WalkD X.K X.mg J src H1 ρ1 → R J H1 := fun q w => q _ H1 ρ1 Grow.refl HR1 w
  cases dx with
  | tup ds =>
    have r1' := r1
    obtain ⟨a, xs, e, s, z, rl⟩ := r1
    subst e
    exact .inr (.inl ⟨a, xs, rfl, s, go q1 (walk_tupD r1')⟩)
  | lst ds =>
    have r1' := r1
    obtain ⟨a, xs, e, s, z, rl⟩ := r1
    subst e
    exact .inl ⟨a, xs, rfl, .inl s.1, go q1 (walk_lstD r1')⟩
  | scr ds =>
    have r1' := r1
    obtain ⟨a, xs, e, s, z, rl⟩ := r1
    subst e
    exact .inl ⟨a, xs, rfl, s.elim (fun z => .inl z.1) .inr, go q1 (walk_scrD r1')⟩
  | ref i =>
    obtain ⟨a, e, ha⟩ := r1
    subst e
    unfold srcOf at q1
    dsimp only at q1
    cases eo : h1[i]? with
    | none => rw [eo] at q1; exact q1.elim
    | some o =>
      rw [eo] at q1
      cases o with
      | ins C fs => exact q1.elim
      | lst ds =>
        obtain ⟨xs, s, _⟩ := ref_at ha (List.prefix_refl _) HR1 eo
        exact .inl ⟨a, xs, rfl, s, go q1 (walk_refD ha HR1 eo)⟩
  | str x =>
    obtain ⟨e, hz⟩ := r1
    exact .inr (.inr ⟨x, e, go q1 (walk_strD hz)⟩)
  | _ => exact q1.elim
theorem small_range : 2000000 ≤ sizeLine := by decide
def asI : D → Option Int
  | .int j => some j
  | _ => none
theorem asI_of : ∀ {d : D} {j : Int}, asI d = some j → d = .int j
  | .int j, _, h => by cases h; rfl
def ints1 : List D → Option Int
  | [a] => asI a
  | _ => none
def ints2 : List D → Option (Int × Int)
  | [a, b] => match asI a, asI b with
    | some i, some j => some (i, j)
    | _, _ => none
  | _ => none
def ints3 : List D → Option (Int × Int × Int)
  | [a, b, c] => match asI a, asI b, asI c with
    | some i, some j, some k => some (i, j, k)
    | _, _, _ => none
  | _ => none
theorem ints1_of : ∀ {ds : List D} {j : Int}, ints1 ds = some j → ds = [.int j]
  | [], _, h => by cases h
  | [a], j, h => by rw [asI_of (show asI a = some j from h)]
  | _ :: _ :: _, _, h => by cases h
theorem ints2_of : ∀ {ds : List D} {p : Int × Int}, ints2 ds = some p → ds = [.int p.1, .int p.2]
  | [], _, h => by cases h
  | [a], _, h => by cases h
  | [a, b], p, h => by
    unfold ints2 at h
    dsimp only at h
    cases ea : asI a with
    | none => rw [ea] at h; cases h
    | some i =>
      cases eb : asI b with
      | none => rw [ea, eb] at h; cases h
      | some j =>
        rw [ea, eb] at h
        cases h
        rw [asI_of ea, asI_of eb]
  | _ :: _ :: _ :: _, _, h => by cases h
theorem ints3_of : ∀ {ds : List D} {p : Int × Int × Int}, ints3 ds = some p → ds = [.int p.1, .int p.2.1, .int p.2.2]
  | [], _, h => by cases h
  | [a], _, h => by cases h
  | [a, b], _, h => by cases h
  | [a, b, c], p, h => by
    unfold ints3 at h
    dsimp only at h
    cases ea : asI a with
    | none => rw [ea] at h; cases h
    | some i =>
      cases eb : asI b with
      | none => rw [ea, eb] at h; cases h
      | some j =>
        cases ec : asI c with
        | none => rw [ea, eb, ec] at h; cases h
        | some k =>
          rw [ea, eb, ec] at h
          cases h
          rw [asI_of ea, asI_of eb, asI_of ec]
  | _ :: _ :: _ :: _ :: _, _, h => by cases h
def rng1 (f : DenA) : DenI := fun σ h => (f σ h).bind fun ds h1 => match ints1 ds with
  | some j => if -1000000 ≤ j ∧ j ≤ 1000000 then .ok ⟨rangeItems 0 j.toNat, []⟩ h1 else .stuck
  | none => .stuck
def rng2 (f : DenA) : DenI := fun σ h => (f σ h).bind fun ds h1 => match ints2 ds with
  | some (i, j) => if (-1000000 ≤ i ∧ i ≤ 1000000) ∧ (-1000000 ≤ j ∧ j ≤ 1000000) then .ok ⟨rangeItems i (j - i).toNat, []⟩ h1 else .stuck
  | none => .stuck
def rng3 (f : DenA) : DenI := fun σ h => (f σ h).bind fun ds h1 => match ints3 ds with
  | some (i, j, k) => if k = -1 ∧ (-1000000 ≤ i ∧ i ≤ 1000000) ∧ (-1000000 ≤ j ∧ j ≤ 1000000) then .ok ⟨downItems i (i - j).toNat, []⟩ h1 else .stuck
  | none => .stuck
theorem i_range1 {a : Expr} {f : DenA} {p pos : Pos} (hm : X.mg "range" = none) (ha : DA X W [a] f) (hg : Gl X "range" := by rfl) (hs : starEach [a] X.env = [(false, eval a X.env)] := by rfl) : DI X W tg (.Call (.Name "range" p) [a] [] pos) (rng1 f) := PI.weak (pi_range1 hg hm ha hs) fun σ H R h => by
  obtain ⟨ρ, σd, hd, HR, S, h⟩ := h
  refine ⟨ρ, σd, hd, HR, S, (PostG.bind (rL X.K X.mg) h).mono fun xs H1 ⟨ds, h1, ρ1, G1, HR1, r1, q1⟩ => ?_⟩
  cases e : ints1 ds with
  | none => rw [e] at q1; exact q1.elim
  | some j =>
    rw [e] at q1
    have e' := ints1_of e
    subst e'
    obtain ⟨v, r, e, ev, er⟩ := r1
    have ev : v = .int j := ev
    have er : r = [] := er
    subst ev er
    have hsz := small_range
    dsimp only at q1
    by_cases hb : -1000000 ≤ j ∧ j ≤ 1000000
    · rw [if_pos hb] at q1
      exact ⟨j, e, by omega, by omega, q1 _ H1 ρ1 Grow.refl HR1 (walk_rangeD (by omega))⟩
    · rw [if_neg hb] at q1; exact q1.elim
theorem i_range2 {a b : Expr} {f : DenA} {p pos : Pos} (hm : X.mg "range" = none) (ha : DA X W [a, b] f) (hg : Gl X "range" := by rfl) (hs : starEach [a, b] X.env = [(false, eval a X.env), (false, eval b X.env)] := by rfl) (hs2 : starEach [b] X.env = [(false, eval b X.env)] := by rfl) :
    DI X W tg (.Call (.Name "range" p) [a, b] [] pos) (rng2 f) := PI.weak (pi_range2 hg hm ha hs hs2) fun σ H R h => by
  obtain ⟨ρ, σd, hd, HR, S, h⟩ := h
  refine ⟨ρ, σd, hd, HR, S, (PostG.bind (rL X.K X.mg) h).mono fun xs H1 ⟨ds, h1, ρ1, G1, HR1, r1, q1⟩ => ?_⟩
  cases e : ints2 ds with
  | none => rw [e] at q1; exact q1.elim
  | some p =>
    obtain ⟨i, j⟩ := p
    rw [e] at q1
    have e' := ints2_of e
    subst e'
    obtain ⟨v, r, e, ev, v', r', e', ev', er⟩ := r1
    have ev : v = .int i := ev
    have ev' : v' = .int j := ev'
    have er : r' = [] := er
    subst ev ev' er e'
    have hsz := small_range
    dsimp only at q1
    by_cases hb : (-1000000 ≤ i ∧ i ≤ 1000000) ∧ (-1000000 ≤ j ∧ j ≤ 1000000)
    · rw [if_pos hb] at q1
      exact ⟨i, j, e, ⟨by omega, by omega, by omega, by omega⟩, q1 _ H1 ρ1 Grow.refl HR1 (walk_rangeD (by omega))⟩
    · rw [if_neg hb] at q1; exact q1.elim
/-- range(a, b, -1) -/
theorem i_range3 {a b c : Expr} {f : DenA} {p pos : Pos} (hm : X.mg "range" = none) (ha : DA X W [a, b, c] f) (hg : Gl X "range" := by rfl) (hs : starEach [a, b, c] X.env = (false, eval a X.env) :: starEach [b, c] X.env := by rfl) (hpl : (backTo pos (starEach [b, c] X.env)).any (·.1) = false := by rfl) :
    DI X W tg (.Call (.Name "range" p) [a, b, c] [] pos) (rng3 f) := PI.weak (pi_range3 hg hm ha hs hpl) fun σ H R h => by
  obtain ⟨ρ, σd, hd, HR, S, h⟩ := h
  refine ⟨ρ, σd, hd, HR, S, (PostG.bind (rL X.K X.mg) h).mono fun xs H1 ⟨ds, h1, ρ1, G1, HR1, r1, q1⟩ => ?_⟩
  cases e : ints3 ds with
  | none => rw [e] at q1; exact q1.elim
  | some p =>
    obtain ⟨i, j, k⟩ := p
    rw [e] at q1
    have e' := ints3_of e
    subst e'
    obtain ⟨v, r, e, ev, v', r', e', ev', v'', r'', e'', ev'', er⟩ := r1
    have ev : v = .int i := ev
    have ev' : v' = .int j := ev'
    have ev'' : v'' = .int k := ev''
    have er : r'' = [] := er
    subst ev ev' ev'' er e'' e'
    have hsz := small_range
    dsimp only at q1
    by_cases hb : k = -1 ∧ (-1000000 ≤ i ∧ i ≤ 1000000) ∧ (-1000000 ≤ j ∧ j ≤ 1000000)
    · rw [if_pos hb] at q1
      obtain ⟨rfl, _⟩ := hb
      exact ⟨i, j, -1, (i - j).toNat, e, RgC.neg (by omega) (by omega) (by omega) (by omega), q1 _ H1 ρ1 Grow.refl HR1 (walk_downD (by omega))⟩
    · rw [if_neg hb] at q1; exact q1.elim
end
end Dz

namespace Dz
open PySem PySem.Spec PyProof.Rows L2
/-! ## zip, enumerate, reversed over lists and tuples in any mix -/
def Sq (K : PySem.W.Frag) (H : Hp) (t : Bool) (a : Addr) (xs : List V) : Prop := if t = true then SqT K H a xs else SqL K H a xs
def seqObj (t : Bool) (h : Heap) (a : Addr) (items : Array Value) : Prop := if t = true then h.IsTuple a items else h.IsList a items
def seqIter (t : Bool) (h : Heap) (it a : Addr) (i : Nat) : Prop := if t = true then h.IsTupleIter it a i else h.IsListIter it a i
theorem seqObj.lt {t : Bool} {h : Heap} {a : Addr} {items : Array Value} (x : seqObj t h a items) : a < h.objs.size := by
  cases t with
  | true => obtain ⟨o, e, _⟩ := (show h.IsTuple a items from x); exact Heap.lt_size e
  | false => obtain ⟨o, e, _⟩ := (show h.IsList a items from x); exact Heap.lt_size e
theorem seqIter.obj {t : Bool} {h : Heap} {it a : Addr} {i : Nat} (x : seqIter t h it a i) : ∃ o, h.get? it = some o ∧ ∀ v, o.data ≠ .cell v := by
  cases t with
  | true => obtain ⟨o, e, _, d⟩ := (show h.IsTupleIter it a i from x); exact ⟨o, e, fun v q => by rw [d] at q; cases q⟩
  | false => obtain ⟨o, e, _, d⟩ := (show h.IsListIter it a i from x); exact ⟨o, e, fun v q => by rw [d] at q; cases q⟩
theorem seqIter.at {t : Bool} {h h' : Heap} {it a : Addr} {i : Nat} (x : seqIter t h it a i) (k : ∀ o, h.get? it = some o → h'.get? it = some o) : seqIter t h' it a i := by
  cases t with
  | true => exact (show h.IsTupleIter it a i from x).at k
  | false => exact (show h.IsListIter it a i from x).at k
theorem drawsG {prog : Program} {w : World} {A : Around} (t : Bool) (hh : A.handled = none) (it a : Addr) (hne : a ≠ it) (items : Array Value) :
    Draws prog w A it [it, a] items.size (fun i v => items[i]? = some v) (fun i h => seqIter t h it a i ∧ seqObj t h a items) := by
  cases t with
  | true => exact Draws.tuple hh it a hne items
  | false => exact Draws.list hh it a hne items
section
variable {X : Cx} {pins : List (Addr × Obj)} {σ : L2.St} {H : Hp} {s : Shared}
theorem inv_sq (I : Inv X pins σ H s) {t : Bool} {a : Addr} {xs : List V} (h : Sq X.K H t a xs) : ∃ its : List Value, Vals xs its ∧ seqObj t s.heap a its.toArray ∧ xs.length ≤ sizeLine := by
  cases t with
  | true =>
    obtain ⟨its, r, p, z⟩ := I.tuple (show SqT X.K H a xs from h)
    exact ⟨its, r, (show s.heap.IsTuple a its.toArray from p), z⟩
  | false =>
    obtain ⟨its, r, p, z⟩ := I.list (show SqL X.K H a xs from h)
    exact ⟨its, r, p.isList, z⟩
theorem inv_sq_inj (I : Inv X pins σ H s) {t : Bool} {a : Addr} {xs ys : List V} (h : Sq X.K H t a xs) (h' : Sq X.K H t a ys) : xs = ys := by
  cases t with
  | true => exact I.tuple_inj h h'
  | false => exact I.list_inj h h'
end
def ItzG (K : PySem.W.Frag) (t1 t2 : Bool) (a b : Addr) : It :=
  ⟨fun i H => ∃ (xs ys : List V) (x y : V), Sq K H t1 a xs ∧ Sq K H t2 b ys ∧ xs[i]? = some x ∧ ys[i]? = some y,
    fun i H v H' => ∃ T x y, v = .ref T ∧ H T = none ∧ H' = upd H T (.tup [x, y]) ∧ (∀ xs, Sq K H t1 a xs → xs[i]? = some x) ∧ ∀ ys, Sq K H t2 b ys → ys[i]? = some y,
    fun i H => ∃ xs ys : List V, Sq K H t1 a xs ∧ Sq K H t2 b ys ∧ i ≤ xs.length ∧ i ≤ ys.length ∧ (i = xs.length ∨ i = ys.length)⟩
theorem turn_zipG {P : Program} {w : World} {K : PySem.W.Frag} {elts : List Expr} {kk : Nat} {tpos : Pos} {t1 t2 : Bool} {a b z TI TO i1 i2 : Addr} (D : ZipSep2 z TI TO i1 i2 [i1, a] [i2, b]) (n1 : a ≠ i1) (n2 : b ≠ i2) :
    Turn P w K (.Tuple elts kk tpos) (ItzG K t1 t2 a b) [z, TI, TO, i1, i2] z (fun i h => IsZip h z TI TO .none ∧ IsTupOf2 h TI (.ref i1) (.ref i2) ∧ (∃ x y, IsTupOf2 h TO x y) ∧ seqIter t1 h i1 a i ∧ seqIter t2 h i2 b i) where
  mem := by simp
  obj := fun i h st c hc => by
    obtain ⟨hz, hTI, ⟨x, y, hTO⟩, s1, s2⟩ := st
    have e' : c = z ∨ c = TI ∨ c = TO ∨ c = i1 ∨ c = i2 := by simpa using hc
    rcases e' with q | q | q | q | q
    · rw [q]; exact ⟨_, hz, fun v q => nomatch q⟩
    · rw [q]; exact ⟨_, hTI, fun v q => nomatch q⟩
    · rw [q]; exact ⟨_, hTO, fun v q => nomatch q⟩
    · rw [q]; exact s1.obj
    · rw [q]; exact s2.obj
  keep := fun i h h' st k => by
    obtain ⟨hz, hTI, ⟨x, y, hTO⟩, h1, h2⟩ := st
    exact ⟨k z (by simp) _ hz, k TI (by simp) _ hTI, ⟨x, y, k TO (by simp) _ hTO⟩, h1.at fun o q => k i1 (by simp) o q, h2.at fun o q => k i2 (by simp) o q⟩
  item := by
    intro X hP hw hK hc i pins s σ H E I hf st hg
    subst hP hw hK
    obtain ⟨hz, hTI, ⟨x0, y0, hTO⟩, h1, h2⟩ := st
    obtain ⟨xs, ys, x, y, hqx, hqy, hx, hy⟩ := hg
    obtain ⟨its, rv, p, _⟩ := inv_sq I hqx
    obtain ⟨its2, rv2, p2, _⟩ := inv_sq I hqy
    obtain ⟨u, hu, ru⟩ := rv.get hx
    obtain ⟨u2, hu2, ru2⟩ := rv2.get hy
    have hzl : z < s.heap.objs.size := Heap.lt_size hz
    have hh := I.ok.hd hc
    have lt1 : i < its.toArray.size := by simpa using (List.getElem?_eq_some_iff.mp hu).1
    have lt2 : i < its2.toArray.size := by simpa using (List.getElem?_eq_some_iff.mp hu2).1
    refine wpAny_pyNext_zipD2_item D (drawsG t1 (show X.A.in1.handled = none from hh) i1 a n1 its.toArray) (drawsG t2 (show X.A.in1.handled = none from hh) i2 b n2 its2.toArray) hz hTI hTO ⟨h1, p⟩ ⟨h2, p2⟩ lt1 lt2 fun v1 v2 h' tk e1 e2 z' TO' st1' st2' hT hsz hk => ?_
    have ev1 : v1 = u := by
      have : its[i]? = some v1 := by simpa using e1
      rw [hu] at this; exact (Option.some.inj this).symm
    have ev2 : v2 = u2 := by
      have : its2[i]? = some v2 := by simpa using e2
      rw [hu2] at this; exact (Option.some.inj this).symm
    subst ev1 ev2
    refine ⟨_, rfl, wpAny_letOwnedTupleGo_zip (s := { s with heap := h', toks := tk }) z' fun h'' z'' sb => ?_⟩
    have hT2 : h''.get? s.heap.objs.size = some { cls := .type "tuple", data := .seq #[v1, v2] } := (sb.2 _ (Nat.ne_of_gt hzl)).trans hT
    have new : ObjOk X.prog X.w (upd H s.heap.objs.size (.tup [x, y])) h'' s.heap.objs.size (.tup [x, y]) :=
      ⟨by show 2 ≤ sizeLine; decide, [v1, v2], .cons ru (.cons ru2 .nil), ⟨_, hT2, rfl, _, rfl⟩⟩
    have I1 : Inv X pins σ (upd H s.heap.objs.size (.tup [x, y])) { s with heap := h'', toks := tk } :=
      I.turnedNew (t' := tk) (ch := [z, TI, TO, i1, i2]) (fun c o hb q => (sb.2 c (fun q' => hb (by simp [q']))).trans (hk c o (fun q' => hb (by simp [q'])) (fun q' => hb (by simp [q'])) (fun q' => hb (by simp [q'])) (fun q' => hb (by simp [q'])) q)) hf (Nat.le_refl _) new
    refine ⟨.ref s.heap.objs.size, _, I1, rfl, ⟨_, x, y, rfl, I.hok.fresh (Nat.le_refl _), rfl, fun l hl => by rw [inv_sq_inj I hl hqx]; exact hx, fun l hl => by rw [inv_sq_inj I hl hqy]; exact hy⟩, ⟨z'', ?_, ⟨v1, v2, ?_⟩, ?_, ?_⟩, fun c hcm => ?_⟩
    · exact (sb.2 _ D.TIz).trans (hk _ _ D.TIz D.TITO D.TIi1 D.TIi2 hTI)
    · exact (sb.2 _ D.TOz).trans TO'
    · exact st1'.1.at fun o q => (sb.2 _ D.zi1.symm).trans q
    · exact st2'.1.at fun o q => (sb.2 _ D.zi2.symm).trans q
    · have hlt : c < s.heap.objs.size := by
        have e' : c = z ∨ c = TI ∨ c = TO ∨ c = i1 ∨ c = i2 := by simpa using hcm
        rcases e' with q | q | q | q | q
        · rw [q]; exact hzl
        · rw [q]; exact Heap.lt_size hTI
        · rw [q]; exact Heap.lt_size hTO
        · rw [q]; obtain ⟨_, e1, _⟩ := h1.obj; exact Heap.lt_size e1
        · rw [q]; obtain ⟨_, e2, _⟩ := h2.obj; exact Heap.lt_size e2
      rw [upd_ne (Nat.ne_of_lt hlt)]
      exact (hf c hcm).1
  done := by
    intro X hP hw hK hc i pins s σ H E I hf st hg
    subst hP hw hK
    obtain ⟨hz, hTI, ⟨x0, y0, hTO⟩, h1, h2⟩ := st
    obtain ⟨xs, ys, hqx, hqy, l1, l2, hend⟩ := hg
    obtain ⟨its, rv, p, _⟩ := inv_sq I hqx
    obtain ⟨its2, rv2, p2, _⟩ := inv_sq I hqy
    have e1 := rv.length
    have e2 := rv2.length
    have hh := I.ok.hd hc
    refine wpAny_pyNext_zipD2_end D (drawsG t1 (show X.A.in1.handled = none from hh) i1 a n1 its.toArray) (drawsG t2 (show X.A.in1.handled = none from hh) i2 b n2 its2.toArray) hz hTI hTO ⟨h1, p⟩ ⟨h2, p2⟩ (by simp; omega) (by simp; omega) (by simp; omega) fun h' tk hk => ⟨rfl, I.turnedL (t' := tk) (ch := [z, TI, TO, i1, i2]) (fun c o hb q =>
      hk c o (fun q' => hb (by simp [q'])) (fun q' => hb (by simp [q'])) (fun q' => hb (by simp [q'])) (fun q' => hb (by simp [q'])) q) hf⟩
  self := fun A i s Q E st h => wpAny_pyIter_zip st.1 h
def ItoG (t : Bool) (a : Addr) : Obj := if t = true then { cls := .type "tuple_iterator", data := .fields #[.ref a, .int 0 0] } else { cls := .type "list_iterator", data := .fields #[.ref a, .int 0 0] }
theorem beginsG (t : Bool) (a : Addr) (items : Array Value) : Begins (.ref a) (ItoG t a) (fun h => seqObj t h a items) := by
  cases t with
  | true => exact begins_tuple a items
  | false => exact begins_list a items
theorem seqIter.begin {t : Bool} {h : Heap} {it a : Addr} (e : h.get? it = some (ItoG t a)) : seqIter t h it a 0 := by
  cases t with
  | true => exact ⟨_, e, rfl, rfl⟩
  | false => exact ⟨_, e, rfl, rfl⟩
def iZipG (K : PySem.W.Frag) (ta : TA) : TI := fun σ H R => ta σ H fun vs H1 => ∃ t1 t2 a b xs ys, vs = [.ref a, .ref b] ∧ Sq K H1 t1 a xs ∧ Sq K H1 t2 b ys ∧ R (ItzG K t1 t2 a b) H1
theorem pi_zipG {X : Cx} {e e2 : Expr} {ta : TA} {p pos tpos : Pos} {elts : List Expr} {kk : Nat} (hg : Gl X "zip") (hm : X.mg "zip" = none) (ha : PA X [e, e2] ta)
    (hs : starEach [e, e2] X.env = (false, eval e X.env) :: starEach [e2] X.env := by rfl) (hpl : (backTo pos (starEach [e2] X.env)).any (·.1) = false := by rfl) :
    PI X (.Tuple elts kk tpos) (.Call (.Name "zip" p) [e, e2] [] pos) (iZipG X.K ta) := by
  refine ⟨fun pins s σ H R I h => ?_⟩
  refine Call_ (ld_blt I hg hm PyProof.Rows.boot_zip (PyProof.Rows.callWith_type1 (thn (ha.run pos pins s σ H _ I h) fun us s1 ⟨vs, H1, I1, r1, q1⟩ => ?_) hs hpl))
  obtain ⟨t1, t2, a, b, xs, ys, ex, hqx, hqy, q⟩ := q1
  subst ex
  cases r1 with
  | cons r rr =>
    cases rr with
    | cons r' rr =>
      cases rr
      cases r
      cases r'
      have fresh5 : ∀ c, c ∈ [s1.heap.objs.size + 4, s1.heap.objs.size + 2, s1.heap.objs.size + 3, s1.heap.objs.size, s1.heap.objs.size + 1] → FpOk X pins H1 c := fun c hcm => by
        have e' : c = s1.heap.objs.size + 4 ∨ c = s1.heap.objs.size + 2 ∨ c = s1.heap.objs.size + 3 ∨ c = s1.heap.objs.size ∨ c = s1.heap.objs.size + 1 := by simpa using hcm
        have hle : s1.heap.objs.size ≤ c := by
          rcases e' with z | z | z | z | z
          · rw [z]; exact Nat.le_add_right _ _
          · rw [z]; exact Nat.le_add_right _ _
          · rw [z]; exact Nat.le_add_right _ _
          · rw [z]; exact Nat.le_refl _
          · rw [z]; exact Nat.le_add_right _ _
        exact I1.fpOk hle (I1.hok.fresh hle)
      obtain ⟨its, rv, p1, _⟩ := inv_sq I1 hqx
      obtain ⟨its2, rv2, p2, _⟩ := inv_sq I1 hqy
      have la := p1.lt
      have lb := p2.lt
      refine zip_begins2 (beginsG t1 a its.toArray) (beginsG t2 b its2.toArray) p1 p2 fun h' hz hTI hTO h1 h2 hsz hk => wpAny_pyIter_zip hz ?_
      have I2 : Inv X pins σ H1 { s1 with heap := h' } := I1.kept (t' := s1.toks) hk
      exact ⟨s1.heap.objs.size + 4, [s1.heap.objs.size + 4, s1.heap.objs.size + 2, s1.heap.objs.size + 3, s1.heap.objs.size, s1.heap.objs.size + 1], _, _, H1, rfl, I2,
        turn_zipG (t1 := t1) (t2 := t2) (zip_sep2 (fp1 := [a]) (fp2 := [b]) (fun c hc => by simp at hc; rw [hc]; exact la) (fun c hc => by simp at hc; rw [hc]; exact lb)) (Nat.ne_of_lt la) (Nat.ne_of_lt (Nat.lt_succ_of_lt lb)), ⟨hz, hTI, ⟨_, _, hTO⟩, .begin h1, .begin h2⟩, fresh5, q⟩
/-! enumerate -/
def IteG (K : PySem.W.Frag) (t : Bool) (a : Addr) : It :=
  ⟨fun i H => ∃ (xs : List V) (x : V), Sq K H t a xs ∧ xs[i]? = some x, fun i H v H' => ∃ T x, v = .ref T ∧ H T = none ∧ H' = upd H T (.tup [.int (i : Nat), x]) ∧ ∀ xs, Sq K H t a xs → xs[i]? = some x, fun i H => ∃ xs : List V, Sq K H t a xs ∧ xs.length = i⟩
theorem turn_enumG {P : Program} {w : World} {K : PySem.W.Frag} {elts : List Expr} {kk : Nat} {tpos : Pos} {t : Bool} (a e it : Addr) (na : a ≠ it) (ne : e ≠ a) :
    Turn P w K (.Tuple elts kk tpos) (IteG K t a) [e, it] e (fun i h => (∃ old, IsEnum h e it ((i : Nat) : Int) old) ∧ seqIter t h it a i ∧ e ≠ it) where
  mem := by simp
  obj := fun i h st b hb => by
    obtain ⟨⟨old, he⟩, hi, _⟩ := st
    have e' : b = e ∨ b = it := by simpa using hb
    rcases e' with z | z
    · rw [z]; exact ⟨_, he, fun v q => nomatch q⟩
    · rw [z]; exact hi.obj
  keep := fun i h h' st k => let ⟨⟨old, he⟩, hi, hne⟩ := st; ⟨⟨old, k e (by simp) _ he⟩, hi.at fun o q => k it (by simp) o q, hne⟩
  item := by
    intro X hP hw hK hc i pins s σ H E I hf st hg
    subst hP hw hK
    obtain ⟨⟨old, he⟩, hit, hne⟩ := st
    obtain ⟨xs, x, hq, hx⟩ := hg
    obtain ⟨its, rv, p, hz⟩ := inv_sq I hq
    obtain ⟨u, hu, ru⟩ := rv.get hx
    have hel : e < s.heap.objs.size := Heap.lt_size he
    have hil : it < s.heap.objs.size := by obtain ⟨_, q, _⟩ := hit.obj; exact Heap.lt_size q
    have hh := I.ok.hd hc
    have lt1 : i < its.toArray.size := by simpa using (List.getElem?_eq_some_iff.mp hu).1
    refine wpAny_pyNext_enum_itemD (drawsG t (show X.A.in1.handled = none from hh) it a na its.toArray) he ⟨hit, p⟩ lt1 hne (by simp; exact ⟨hne, ne⟩) fun v h' tk ev ho st' hT hsz hk => ?_
    have ev1 : v = u := by
      have : its[i]? = some v := by simpa using ev
      rw [hu] at this; exact (Option.some.inj this).symm
    subst ev1
    refine ⟨_, rfl, wpAny_letOwnedTupleGo_enum (s := { s with heap := h', toks := tk + 1 }) ho fun h'' he' sb => ?_⟩
    have hT2 : h''.get? s.heap.objs.size = some { cls := .type "tuple", data := .seq #[.int i tk, v] } := (sb.2 _ (Nat.ne_of_gt hel)).trans hT
    have new : ObjOk X.prog X.w (upd H s.heap.objs.size (.tup [.int (i : Nat), x])) h'' s.heap.objs.size (.tup [.int (i : Nat), x]) :=
      ⟨by show 2 ≤ sizeLine; decide, [.int i tk, v], .cons ⟨_, rfl⟩ (.cons ru .nil), ⟨_, hT2, rfl, _, rfl⟩⟩
    have I1 : Inv X pins σ (upd H s.heap.objs.size (.tup [.int (i : Nat), x])) { s with heap := h'', toks := tk + 1 } :=
      I.turnedNew (ch := [e, it]) (fun b ob hb q => (sb.2 b (fun z => hb (by simp [z]))).trans (hk b ob (fun z => hb (by simp [z])) (fun z => hb (by simp [z])) q)) hf (Nat.le_refl _) new
    refine ⟨.ref s.heap.objs.size, _, I1, rfl, ⟨_, x, rfl, I.hok.fresh (Nat.le_refl _), rfl, fun ys hy => by rw [inv_sq_inj I hy hq]; exact hx⟩, ⟨⟨v, ?_⟩, st'.1.at fun o q => (sb.2 it (Ne.symm hne)).trans q, hne⟩, fun b hb => ?_⟩
    · have e1 : ((i + 1 : Nat) : Int) = (i : Int) + 1 := by omega
      rw [e1]; exact he'
    · have hb' : b < s.heap.objs.size := by
        have e' : b = e ∨ b = it := by simpa using hb
        rcases e' with z | z
        · rw [z]; exact hel
        · rw [z]; exact hil
      rw [upd_ne (Nat.ne_of_lt hb')]
      exact (hf b hb).1
  done := by
    intro X hP hw hK hc i pins s σ H E I hf st hg
    subst hP hw hK
    obtain ⟨⟨old, he⟩, hit, hne⟩ := st
    obtain ⟨xs, hq, hx⟩ := hg
    obtain ⟨its, rv, p, hz⟩ := inv_sq I hq
    obtain ⟨f0, f1, f2, f3, f4, f5⟩ := hf it (by simp)
    have hl := rv.length
    have hh := I.ok.hd hc
    have ei : i = its.toArray.size := by simp; omega
    exact wpAny_pyNext_enum_endD (drawsG t (show X.A.in1.handled = none from hh) it a na its.toArray) he (by rw [← ei]; exact ⟨hit, p⟩) fun h' eb => ⟨rfl, I.turned (t' := s.toks) (fun b o hb q => eb b o hb q) f0 f1 f3 f4 f5⟩
  self := fun A i s Q E st h => let ⟨⟨_, he⟩, _⟩ := st; wpAny_pyIter_enum he h
theorem meets_enumerate_new1 {v : Value} {o : Obj} {H : Heap → Prop} (B : Begins v o H) :
    Meets (Builtin.«enumerate.__new__» ⟨[.type "enumerate", v], []⟩) (fun _ R s => H s.heap ∧
      R (.ok (.ret (.ref (s.heap.push o).objs.size))) { s with heap := (s.heap.push o).push { cls := .type "enumerate", data := .fields #[.none, .bool false, .ref s.heap.objs.size, rawInt 0, .none, .none] } }) :=
  .of_wp fun prog w A R s h => by
    obtain ⟨hp, g, d, tk, os⟩ := s; obtain ⟨h1, h⟩ := h
    have hsub := sub_enumerate
    have q1 : ∀ {A' : Around} {E : Value → Shared → Prop} {Q : Value → Shared → Prop}, Q (.ref hp.objs.size) ⟨hp.push o, g, d, tk, os⟩ → wpAny (model prog w) A' (pyIter v) Q E ⟨hp, g, d, tk, os⟩ :=
      fun q => B.iter prog w _ _ ⟨hp, g, d, tk, os⟩ _ h1 q
    wp_walk using q1
    first
      | exact ⟨_, rfl, h⟩
      | (refine wpAny_stack_any fun st => wpAny_pure ?_
         split
         · rename_i c _ _ _ _ _
           cases (c == Value.type "enumerate")
           · wp_walk using q1
             exact ⟨_, rfl, h⟩
           · wp_walk using q1
             exact ⟨_, rfl, h⟩
         · wp_walk using q1
           exact ⟨_, rfl, h⟩)
theorem enum_begins1 {prog : Program} {w : World} {A : Around} {E : Value → Shared → Prop} {s : Shared} {v : Value} {o : Obj} {H : Heap → Prop} {Q : Value → Shared → Prop} (B : Begins v o H) (h1 : H s.heap)
    (h : ∀ h', IsEnum h' (s.heap.objs.size + 1) s.heap.objs.size 0 .none → h'.get? s.heap.objs.size = some o → h'.objs.size = s.heap.objs.size + 2 →
      (∀ b o, s.heap.get? b = some o → h'.get? b = some o) → Q (.ref (s.heap.objs.size + 1)) { s with heap := h' }) :
    wpAny (model prog w) A (call (.type "enumerate") [v]) Q E s := by
  refine callType_new F.called_enumerate (by decide) (F.typeCall_enumerate_1 _) (F.newCall_enumerate_1 _) (fun obj => F.args_object_init_2 obj _) F.entry_enumerate_new
    (meets_enumerate_new1 B) ⟨h1, ?_⟩
  have hz : (s.heap.push o).objs.size = s.heap.objs.size + 1 := Heap.size_push ..
  show _ ∧ _
  rw [hz]
  have he : IsEnum ((s.heap.push o).push { cls := .type "enumerate", data := .fields #[.none, .bool false, .ref s.heap.objs.size, rawInt 0, .none, .none] }) (s.heap.objs.size + 1) s.heap.objs.size 0 .none := by
    have := Heap.get?_push_size (s.heap.push o) (o := { cls := .type "enumerate", data := .fields #[.none, .bool false, .ref s.heap.objs.size, rawInt 0, .none, .none] }) rfl
    rw [hz] at this; exact this
  refine ⟨⟨_, he, rfl⟩, h _ he (Heap.get?_push_of_some _ (Heap.get?_push_size _ B.free)) (by rw [Heap.size_push, hz]) fun b o x => Heap.get?_push_of_some _ (Heap.get?_push_of_some _ x)⟩
def iEnumG (K : PySem.W.Frag) (ta : TA) : TI := fun σ H R => ta σ H fun vs H1 => ∃ t a xs, vs = [.ref a] ∧ Sq K H1 t a xs ∧ R (IteG K t a) H1
theorem pi_enumG {X : Cx} {e : Expr} {ta : TA} {p pos tpos : Pos} {elts : List Expr} {kk : Nat} (hg : Gl X "enumerate") (hm : X.mg "enumerate" = none) (ha : PA X [e] ta) (hs : starEach [e] X.env = [(false, eval e X.env)] := by rfl) :
    PI X (.Tuple elts kk tpos) (.Call (.Name "enumerate" p) [e] [] pos) (iEnumG X.K ta) := by
  refine ⟨fun pins s σ H R I h => ?_⟩
  refine Call_ (ld_blt I hg hm boot_enumerate (PyProof.Rows.callWith_type1 (thn (ha.run pos pins s σ H _ I h) fun us s1 ⟨vs, H1, I1, r1, q1⟩ => ?_) hs rfl))
  obtain ⟨t, a, xs, ex, hq, q⟩ := q1
  subst ex
  cases r1 with
  | cons r rr =>
    cases rr
    cases r
    obtain ⟨its, rv, p', hz⟩ := inv_sq I1 hq
    have la := p'.lt
    refine enum_begins1 (beginsG t a its.toArray) p' fun h' he hit hsz hk => wpAny_pyIter_enum he ?_
    have I2 : Inv X pins σ H1 { s1 with heap := h' } := I1.kept (t' := s1.toks) hk
    refine ⟨s1.heap.objs.size + 1, [s1.heap.objs.size + 1, s1.heap.objs.size], _, _, H1, rfl, I2, turn_enumG (t := t) a (s1.heap.objs.size + 1) s1.heap.objs.size (Nat.ne_of_lt la) (Nat.ne_of_gt (Nat.lt_succ_of_lt la)), ⟨⟨.none, he⟩, .begin hit, Nat.succ_ne_self _⟩, fun b hb => ?_, q⟩
    have e' : b = s1.heap.objs.size + 1 ∨ b = s1.heap.objs.size := by simpa using hb
    have hle : s1.heap.objs.size ≤ b := by
      rcases e' with z | z
      · rw [z]; exact Nat.le_add_right _ _
      · rw [z]; exact Nat.le_refl _
    exact I1.fpOk hle (I1.hok.fresh hle)
/-! ## the same by data -/
section
variable {K : PySem.W.Frag} {mg : Str → Option Value} {H : Hp} {ρ : Rh}
/-- a source that can be read again and again -/
structure Again (K : PySem.W.Frag) (mg : Str → Option Value) (H : Hp) (ρ : Rh) (t : Bool) (a : Addr) (src : Src) : Prop where
  size : src.items.length ≤ sizeLine
  there : ∃ xs, Sq K H t a xs
  read : ∀ (H2 : Hp) (ρ2 : Rh) (h2 : Hd), ρ.ix <+: ρ2.ix → (∀ d v, Rep K mg H ρ d v → Rep K mg H2 ρ2 d v) → HRel K mg H2 ρ2 h2 → guardOk src.guard h2 → ∃ xs, Sq K H2 t a xs ∧ RepL K mg H2 ρ2 src.items xs
theorem again_of {h : Hd} {d : D} {v : V} {src : Src} (HR : HRel K mg H ρ h) (r : Rep K mg H ρ d v) (e : srcOf d h = some src) (ns : ∀ x, d ≠ .str x) : ∃ t a, v = .ref a ∧ Again K mg H ρ t a src := by
  cases d with
  | tup ds =>
    have r' := r
    obtain ⟨a, xs, e1, s, z, rl⟩ := r
    cases e
    subst e1
    refine ⟨true, a, rfl, by rw [RepL.length rl]; exact z, ⟨xs, s⟩, fun H2 ρ2 h2 p k HR2 g => ?_⟩
    obtain ⟨b, ys, e2, s2, _, rl2⟩ := k _ _ r'
    cases e2
    exact ⟨ys, s2, rl2⟩
  | lst ds =>
    have r' := r
    obtain ⟨a, xs, e1, s, z, rl⟩ := r
    cases e
    subst e1
    refine ⟨false, a, rfl, by rw [RepL.length rl]; exact z, ⟨xs, .inl s.1⟩, fun H2 ρ2 h2 p k HR2 g => ?_⟩
    obtain ⟨b, ys, e2, s2, _, rl2⟩ := k _ _ r'
    cases e2
    exact ⟨ys, .inl s2.1, rl2⟩
  | scr ds =>
    have r' := r
    obtain ⟨a, xs, e1, s, z, rl⟩ := r
    cases e
    subst e1
    refine ⟨false, a, rfl, by rw [RepL.length rl]; exact z, ⟨xs, s.elim (fun z => .inl z.1) .inr⟩, fun H2 ρ2 h2 p k HR2 g => ?_⟩
    obtain ⟨b, ys, e2, s2, _, rl2⟩ := k _ _ r'
    cases e2
    exact ⟨ys, s2.elim (fun z => .inl z.1) .inr, rl2⟩
  | ref i =>
    obtain ⟨a, e1, ha⟩ := r
    subst e1
    unfold srcOf at e
    dsimp only at e
    cases eo : h[i]? with
    | none => rw [eo] at e; cases e
    | some o =>
      rw [eo] at e
      cases o with
      | ins C fs => cases e
      | lst ds =>
        cases e
        obtain ⟨xs, s, rl, z⟩ := ref_at ha (List.prefix_refl _) HR eo
        refine ⟨false, a, rfl, by rw [RepL.length rl]; exact z, ⟨xs, s⟩, fun H2 ρ2 h2 p k HR2 g => ?_⟩
        obtain ⟨ys, s2, rl2, _⟩ := ref_at ha p HR2 (g (i, ds) List.mem_cons_self)
        exact ⟨ys, s2, rl2⟩
  | str x => exact absurd rfl (ns x)
  | _ => cases e
theorem Again.grow {H' : Hp} {ρ' : Rh} {t : Bool} {a : Addr} {src : Src} {h' : Hd} (g : Grow K mg H ρ H' ρ') (x : Again K mg H ρ t a src) (HR : HRel K mg H' ρ' h') (gd : guardOk src.guard h') : Again K mg H' ρ' t a src :=
  ⟨x.size, let ⟨xs, s, _⟩ := x.read H' ρ' h' g.pre g.rep HR gd; ⟨xs, s⟩, fun H2 ρ2 h2 p k => x.read H2 ρ2 h2 (g.pre.trans p) fun d v r => k d v (g.rep d v r)⟩
def pairUp : List D → List D → List D
  | x :: xs, y :: ys => .tup [x, y] :: pairUp xs ys
  | _, _ => []
theorem pairUp_length : ∀ xs ys : List D, (pairUp xs ys).length = min xs.length ys.length
  | [], ys => by simp [pairUp]
  | x :: xs, [] => by simp [pairUp]
  | x :: xs, y :: ys => by
    simp only [pairUp, List.length_cons, pairUp_length xs ys]; omega
theorem pairUp_get : ∀ {xs ys : List D} {i : Nat} {x y : D}, xs[i]? = some x → ys[i]? = some y → (pairUp xs ys)[i]? = some (.tup [x, y])
  | [], _, _, _, _, e, _ => by simp at e
  | _ :: _, [], _, _, _, _, e => by simp at e
  | a :: xs, b :: ys, 0, x, y, e1, e2 => by simp at e1 e2; subst e1 e2; rfl
  | a :: xs, b :: ys, i + 1, x, y, e1, e2 => by simpa [pairUp] using pairUp_get (by simpa using e1) (by simpa using e2)
def enumUp (ds : List D) : List D := pairUp (rangeItems 0 ds.length) ds
theorem walk_zipD {t1 t2 : Bool} {a b : Addr} {s1 s2 : Src} (x : Again K mg H ρ t1 a s1) (y : Again K mg H ρ t2 b s2) : WalkD K mg (ItzG K t1 t2 a b) ⟨pairUp s1.items s2.items, s1.guard ++ s2.guard⟩ H ρ := by
  have g12 : ∀ {h2 : Hd}, guardOk (s1.guard ++ s2.guard) h2 → guardOk s1.guard h2 ∧ guardOk s2.guard h2 := fun g => ⟨fun p hp => g p (List.mem_append_left _ hp), fun p hp => g p (List.mem_append_right _ hp)⟩
  have hl := pairUp_length s1.items s2.items
  have hx := x.size
  refine ⟨by show (pairUp s1.items s2.items).length ≤ _; omega, fun i H2 ρ2 h2 p k HR g hi => ?_, fun H2 ρ2 h2 p k HR g => ?_, fun i H2 ρ2 h2 v H3 p k HR g hi q => ?_⟩
  · obtain ⟨xs, sx, rx⟩ := x.read H2 ρ2 h2 p k HR (g12 g).1
    obtain ⟨ys, sy, ry⟩ := y.read H2 ρ2 h2 p k HR (g12 g).2
    have hi : i < (pairUp s1.items s2.items).length := hi
    obtain ⟨v1, e1, _⟩ := rx.get' (List.getElem?_eq_getElem (show i < s1.items.length by omega))
    obtain ⟨v2, e2, _⟩ := ry.get' (List.getElem?_eq_getElem (show i < s2.items.length by omega))
    exact ⟨xs, ys, v1, v2, sx, sy, e1, e2⟩
  · obtain ⟨xs, sx, rx⟩ := x.read H2 ρ2 h2 p k HR (g12 g).1
    obtain ⟨ys, sy, ry⟩ := y.read H2 ρ2 h2 p k HR (g12 g).2
    have l1 := RepL.length rx
    have l2 := RepL.length ry
    refine ⟨xs, ys, sx, sy, ?_, ?_, ?_⟩ <;> show _ <;> (dsimp only; omega)
  · obtain ⟨xs, sx, rx⟩ := x.read H2 ρ2 h2 p k HR (g12 g).1
    obtain ⟨ys, sy, ry⟩ := y.read H2 ρ2 h2 p k HR (g12 g).2
    obtain ⟨T, v1, v2, ev, nT, eH, f1, f2⟩ := q
    subst ev eH
    obtain ⟨d1, e1, r1⟩ := rx.get (f1 _ sx)
    obtain ⟨d2, e2, r2⟩ := ry.get (f2 _ sy)
    exact ⟨.tup [d1, d2], pairUp_get e1 e2, grow_new nT, HR.new nT, rep_tup nT (by show 2 ≤ sizeLine; decide) ⟨v1, _, rfl, r1, v2, _, rfl, r2, rfl⟩⟩
theorem walk_enumD {t : Bool} {a : Addr} {s : Src} (x : Again K mg H ρ t a s) : WalkD K mg (IteG K t a) ⟨enumUp s.items, s.guard⟩ H ρ := by
  have hl : (enumUp s.items).length = s.items.length := by
    unfold enumUp
    rw [pairUp_length]
    unfold rangeItems
    rw [List.length_map, List.length_range]; omega
  have hx := x.size
  refine ⟨by show (enumUp s.items).length ≤ _; omega, fun i H2 ρ2 h2 p k HR g hi => ?_, fun H2 ρ2 h2 p k HR g => ?_, fun i H2 ρ2 h2 v H3 p k HR g hi q => ?_⟩
  · obtain ⟨xs, sx, rx⟩ := x.read H2 ρ2 h2 p k HR g
    have hi : i < (enumUp s.items).length := hi
    obtain ⟨v1, e1, _⟩ := rx.get' (List.getElem?_eq_getElem (show i < s.items.length by omega))
    exact ⟨xs, v1, sx, e1⟩
  · obtain ⟨xs, sx, rx⟩ := x.read H2 ρ2 h2 p k HR g
    have l1 := RepL.length rx
    refine ⟨xs, sx, ?_⟩
    show xs.length = (enumUp s.items).length
    omega
  · obtain ⟨xs, sx, rx⟩ := x.read H2 ρ2 h2 p k HR g
    obtain ⟨T, v1, ev, nT, eH, f1⟩ := q
    subst ev eH
    obtain ⟨d1, e1, r1⟩ := rx.get (f1 _ sx)
    have hi : i < (enumUp s.items).length := hi
    have er : (rangeItems 0 s.items.length)[i]? = some (.int ((i : Nat) : Int)) := by
      unfold rangeItems
      rw [List.getElem?_map, List.getElem?_range (by omega)]
      simp
    exact ⟨.tup [.int (i : Nat), d1], pairUp_get er e1, grow_new nT, HR.new nT, rep_tup nT (by show 2 ≤ sizeLine; decide) ⟨_, _, rfl, rfl, v1, _, rfl, r1, rfl⟩⟩
end
def notStr (d : D) : Bool := match d with
  | .str _ => false
  | _ => true
theorem notStr_ne {d : D} (h : notStr d = true) : ∀ x, d ≠ .str x := fun x e => by subst e; cases h
open Classical in
noncomputable def zipI (f : DenA) : DenI := fun σ h => (f σ h).bind fun ds h1 => match ds with
  | [a, b] => match srcOf a h1, srcOf b h1 with
    | some s1, some s2 => if notStr a = true ∧ notStr b = true then .ok ⟨pairUp s1.items s2.items, s1.guard ++ s2.guard⟩ h1 else .stuck
    | _, _ => .stuck
  | _ => .stuck
def enumI (f : DenA) : DenI := fun σ h => (f σ h).bind fun ds h1 => match ds with
  | [a] => match srcOf a h1 with
    | some s => if notStr a = true then .ok ⟨enumUp s.items, s.guard⟩ h1 else .stuck
    | none => .stuck
  | _ => .stuck
section
variable {X : Cx} {W : WX}
theorem i_zip {e e2 : Expr} {f : DenA} {p pos tpos : Pos} {elts : List Expr} {kk : Nat} (hm : X.mg "zip" = none) (ha : DA X W [e, e2] f) (hg : Gl X "zip" := by rfl)
    (hs : starEach [e, e2] X.env = (false, eval e X.env) :: starEach [e2] X.env := by rfl) (hpl : (backTo pos (starEach [e2] X.env)).any (·.1) = false := by rfl) :
    DI X W (.Tuple elts kk tpos) (.Call (.Name "zip" p) [e, e2] [] pos) (zipI f) := PI.weak (pi_zipG hg hm ha hs hpl) fun σ H R h => by
  obtain ⟨ρ, σd, hd, HR, S, h⟩ := h
  refine ⟨ρ, σd, hd, HR, S, (PostG.bind (rL X.K X.mg) h).mono fun xs H1 ⟨ds, h1, ρ1, G1, HR1, r1, q1⟩ => ?_⟩
  match ds, r1, q1 with
  | [], r1, q1 => exact q1.elim
  | [_], r1, q1 => exact q1.elim
  | _ :: _ :: _ :: _, r1, q1 => exact q1.elim
  | [a, b], r1, q1 =>
    obtain ⟨v, r, e, ra, v', r', e', rb, er⟩ := r1
    have er : r' = [] := er
    subst er e' e
    dsimp only at q1
    cases ea : srcOf a h1 with
    | none => rw [ea] at q1; exact q1.elim
    | some s1 =>
      cases eb : srcOf b h1 with
      | none => rw [ea, eb] at q1; exact q1.elim
      | some s2 =>
        rw [ea, eb] at q1
        dsimp only at q1
        by_cases ns : notStr a = true ∧ notStr b = true
        · rw [if_pos ns] at q1
          obtain ⟨t1, a1, rfl, A1⟩ := again_of HR1 ra ea (notStr_ne ns.1)
          obtain ⟨t2, a2, rfl, A2⟩ := again_of HR1 rb eb (notStr_ne ns.2)
          obtain ⟨xs1, q5⟩ := A1.there
          obtain ⟨xs2, q6⟩ := A2.there
          exact ⟨t1, t2, a1, a2, xs1, xs2, rfl, q5, q6, q1 _ H1 ρ1 Grow.refl HR1 (walk_zipD A1 A2)⟩
        · rw [if_neg ns] at q1; exact q1.elim
theorem i_enum {e : Expr} {f : DenA} {p pos tpos : Pos} {elts : List Expr} {kk : Nat} (hm : X.mg "enumerate" = none) (ha : DA X W [e] f) (hg : Gl X "enumerate" := by rfl) (hs : starEach [e] X.env = [(false, eval e X.env)] := by rfl) :
    DI X W (.Tuple elts kk tpos) (.Call (.Name "enumerate" p) [e] [] pos) (enumI f) := PI.weak (pi_enumG hg hm ha hs) fun σ H R h => by
  obtain ⟨ρ, σd, hd, HR, S, h⟩ := h
  refine ⟨ρ, σd, hd, HR, S, (PostG.bind (rL X.K X.mg) h).mono fun xs H1 ⟨ds, h1, ρ1, G1, HR1, r1, q1⟩ => ?_⟩
  match ds, r1, q1 with
  | [], r1, q1 => exact q1.elim
  | _ :: _ :: _, r1, q1 => exact q1.elim
  | [a], r1, q1 =>
    obtain ⟨v, r, e, ra, er⟩ := r1
    have er : r = [] := er
    subst er e
    dsimp only at q1
    cases ea : srcOf a h1 with
    | none => rw [ea] at q1; exact q1.elim
    | some s1 =>
      rw [ea] at q1
      dsimp only at q1
      by_cases ns : notStr a = true
      · rw [if_pos ns] at q1
        obtain ⟨t1, a1, rfl, A1⟩ := again_of HR1 ra ea (notStr_ne ns)
        obtain ⟨xs1, q5⟩ := A1.there
        exact ⟨t1, a1, xs1, rfl, q5, q1 _ H1 ρ1 Grow.refl HR1 (walk_enumD A1)⟩
      · rw [if_neg ns] at q1; exact q1.elim
end
end Dz

namespace Dz
open PySem PySem.Spec PyProof.Rows L2
/-! ## what is laid of data without places of ours -/
mutual
def NR : D → Prop
  | .tup ds => NRL ds
  | .lst ds => NRL ds
  | .scr ds => NRL ds
  | .ref _ => False
  | _ => True
def NRL : List D → Prop
  | [] => True
  | d :: ds => NR d ∧ NRL ds
end
theorem NRL_iff : ∀ {ds : List D}, NRL ds ↔ ∀ d ∈ ds, NR d
  | [] => by simp [NRL]
  | d :: ds => by simp [NRL, NRL_iff (ds := ds)]
mutual
def low (n : Nat) : D → Prop
  | .tup ds => lowL n ds
  | .lst ds => lowL n ds
  | .scr ds => lowL n ds
  | .ref i => i < n
  | _ => True
def lowL (n : Nat) : List D → Prop
  | [] => True
  | d :: ds => low n d ∧ lowL n ds
end
mutual
theorem low_of_nr (n : Nat) : ∀ d : D, NR d → low n d
  | .tup ds, h => lowL_of_nr n ds h
  | .lst ds, h => lowL_of_nr n ds h
  | .scr ds, h => lowL_of_nr n ds h
  | .ref i, h => h.elim
  | .non, _ => trivial
  | .bl _, _ => trivial
  | .int _, _ => trivial
  | .str _, _ => trivial
  | .gl _, _ => trivial
  | .dct, _ => trivial
  | .ty _, _ => trivial
  | .ex _, _ => trivial
theorem lowL_of_nr (n : Nat) : ∀ ds : List D, NRL ds → lowL n ds
  | [], _ => trivial
  | d :: ds, h => ⟨low_of_nr n d h.1, lowL_of_nr n ds h.2⟩
end
abbrev cutR (ρ' : Rh) (n : Nat) : Rh := ⟨ρ'.ix.take n, ρ'.hid⟩
section
variable {K : PySem.W.Frag} {mg : Str → Option Value} {H H' : Hp} {ρ ρ' : Rh}
theorem cut_sub {n : Nat} : ∀ a, a ∈ (cutR ρ' n).ix → a ∈ ρ'.ix := fun a h => List.mem_of_mem_take h
mutual
theorem Rep.low : ∀ (d : D) (v : V), Rep K mg H ρ d v → Dz.low ρ.ix.length d
  | .tup ds, v, h => by obtain ⟨a, xs, e, h1, h2, h3⟩ := h; exact RepL.low ds xs h3
  | .lst ds, v, h => by obtain ⟨a, xs, e, h1, h2, h3⟩ := h; exact RepL.low ds xs h3
  | .scr ds, v, h => by obtain ⟨a, xs, e, h1, h2, h3⟩ := h; exact RepL.low ds xs h3
  | .ref i, v, h => by obtain ⟨a, e, h⟩ := h; exact (List.getElem?_eq_some_iff.mp h).1
  | .non, _, _ => trivial
  | .bl _, _, _ => trivial
  | .int _, _, _ => trivial
  | .str _, _, _ => trivial
  | .gl _, _, _ => trivial
  | .dct, _, _ => trivial
  | .ty _, _, _ => trivial
  | .ex _, _, _ => trivial
theorem RepL.low : ∀ (ds : List D) (vs : List V), RepL K mg H ρ ds vs → lowL ρ.ix.length ds
  | [], _, _ => trivial
  | d :: ds, vs, h => by obtain ⟨v, r, e, h1, h2⟩ := h; exact ⟨Rep.low d v h1, RepL.low ds r h2⟩
end
mutual
theorem Rep.cut {n : Nat} : ∀ (d : D) (v : V), Dz.low n d → Rep K mg H ρ d v → Rep K mg H (cutR ρ n) d v
  | .non, v, _, h => h
  | .bl b, v, _, h => h
  | .int i, v, _, h => h
  | .str x, v, _, h => h
  | .tup ds, v, l, h => by
    obtain ⟨a, xs, e, h1, h2, h3⟩ := h
    exact ⟨a, xs, e, h1, h2, RepL.cut ds xs l h3⟩
  | .lst ds, v, l, h => by
    obtain ⟨a, xs, e, h1, h2, h3⟩ := h
    exact ⟨a, xs, e, ⟨h1.1, fun z => h1.2.1 (cut_sub _ z), h1.2.2⟩, h2, RepL.cut ds xs l h3⟩
  | .scr ds, v, l, h => by
    obtain ⟨a, xs, e, h1, h2, h3⟩ := h
    exact ⟨a, xs, e, h1.elim (fun h1 => .inl ⟨h1.1, fun z => h1.2.1 (cut_sub _ z), h1.2.2⟩) .inr, h2, RepL.cut ds xs l h3⟩
  | .ref i, v, l, h => by
    obtain ⟨a, e, h⟩ := h
    exact ⟨a, e, by show (ρ.ix.take n)[i]? = some a; rw [List.getElem?_take_of_lt l]; exact h⟩
  | .gl n, v, _, h => h
  | .dct, v, _, h => h
  | .ty t, v, _, h => h
  | .ex t, v, _, h => h
theorem RepL.cut {n : Nat} : ∀ (ds : List D) (vs : List V), lowL n ds → RepL K mg H ρ ds vs → RepL K mg H (cutR ρ n) ds vs
  | [], vs, _, h => h
  | d :: ds, vs, l, h => by
    obtain ⟨v, r, e, h1, h2⟩ := h
    exact ⟨v, r, e, Rep.cut d v l.1 h1, RepL.cut ds r l.2 h2⟩
end
end
/-! our own lists, frozen: those at n and above are nobody.s any more -/
open Classical in
noncomputable def frz (n : Nat) (h : Hd) : Nat → D → Option D
  | 0, d => if NR d then some d else none
  | k + 1, d => if NR d then some d else match d with
    | .ref i => if i < n then some (.ref i) else match h[i]? with
      | some (.lst ds) => (ds.mapM (frz n h k)).map .lst
      | _ => none
    | .tup ds => (ds.mapM (frz n h k)).map .tup
    | .lst ds => (ds.mapM (frz n h k)).map .lst
    | _ => none
def NRO : Ob → Prop
  | .lst ds => NRL ds
  | .ins _ fs => NRL (fs.map (·.2))
open Classical in
noncomputable def settle (h0 : Hd) (o : Out D) : Out D := match o with
  | .ok d h => if h.take h0.length = h0 ∨ ∀ ob ∈ h.take h0.length, NRO ob then (match frz h0.length h 4 d with
    | some d' => .ok d' (h.take h0.length)
    | none => .stuck) else .stuck
  | .exc x h => if (h.take h0.length = h0 ∨ ∀ ob ∈ h.take h0.length, NRO ob) ∧ (∀ fs, x.fs = some fs → NRL (fs.map (·.2))) then .exc x (h.take h0.length) else .stuck
  | .stuck => .stuck
section
variable {K : PySem.W.Frag} {mg : Str → Option Value} {H H' : Hp} {ρ ρ' : Rh}
theorem frzL_ok {n : Nat} {h : Hd} {k : Nat} (ih : ∀ (d d' : D) (v : V), frz n h k d = some d' → Rep K mg H ρ' d v → Rep K mg H (cutR ρ' n) d' v) :
    ∀ {ds ds' : List D} {vs : List V}, ds.mapM (frz n h k) = some ds' → RepL K mg H ρ' ds vs → RepL K mg H (cutR ρ' n) ds' vs
  | [], ds', vs, e, r => by
    have : ds' = [] := by simpa using e.symm
    subst this; exact r
  | d :: ds, ds', vs, e, r => by
    obtain ⟨v, rr, rfl, h1, h2⟩ := r
    rw [List.mapM_cons] at e
    cases e1 : frz n h k d with
    | none => rw [e1] at e; cases e
    | some d' =>
      rw [e1] at e
      cases e2 : ds.mapM (frz n h k) with
      | none => simp [e2] at e
      | some ds2 =>
        simp [e2] at e
        subst e
        exact ⟨v, rr, rfl, ih d d' v e1 h1, frzL_ok ih e2 h2⟩
theorem frz_ok {n : Nat} {h : Hd} (HR : HRel K mg H ρ' h) : ∀ (k : Nat) (d d' : D) (v : V), frz n h k d = some d' → Rep K mg H ρ' d v → Rep K mg H (cutR ρ' n) d' v := by
  intro k
  induction k with
  | zero =>
    intro d d' v e r
    unfold frz at e
    by_cases hn : NR d
    · rw [if_pos hn] at e; cases e; exact Rep.cut d v (low_of_nr n d hn) r
    · rw [if_neg hn] at e; cases e
  | succ k ih =>
    intro d d' v e r
    unfold frz at e
    by_cases hn : NR d
    · rw [if_pos hn] at e; cases e; exact Rep.cut d v (low_of_nr n d hn) r
    · rw [if_neg hn] at e
      cases d with
      | ref i =>
        dsimp only at e
        obtain ⟨a, ev, ea⟩ := r
        by_cases hi : i < n
        · rw [if_pos hi] at e; cases e
          exact ⟨a, ev, by show (ρ'.ix.take n)[i]? = some a; rw [List.getElem?_take_of_lt hi]; exact ea⟩
        · rw [if_neg hi] at e
          cases eo : h[i]? with
          | none => rw [eo] at e; cases e
          | some o =>
            rw [eo] at e
            cases o with
            | ins C fs => cases e
            | lst ds =>
              dsimp only at e
              cases em : ds.mapM (frz n h k) with
              | none => rw [em] at e; cases e
              | some ds' =>
                rw [em] at e; cases e
                obtain ⟨xs, eH, z, rl⟩ := HR.obj i _ a eo ea
                refine ⟨a, xs, ev, ⟨.inl eH, fun z => ?_, fun z => HR.dis a z (List.mem_of_getElem? ea)⟩, z, frzL_ok ih em rl⟩
                obtain ⟨j, hj, ej⟩ := List.getElem_of_mem z
                have hj' : j < n := by
                  have := hj
                  simp at this
                  omega
                have : ρ'.ix[j]? = some a := by
                  rw [List.getElem_take] at ej
                  rw [← ej]; exact List.getElem?_eq_getElem _
                have : j = i := nd_ix HR.nd this ea
                omega
      | tup ds =>
        dsimp only at e
        obtain ⟨a, xs, ev, s, z, rl⟩ := r
        cases em : ds.mapM (frz n h k) with
        | none => rw [em] at e; cases e
        | some ds' => rw [em] at e; cases e; exact ⟨a, xs, ev, s, z, frzL_ok ih em rl⟩
      | lst ds =>
        dsimp only at e
        obtain ⟨a, xs, ev, s, z, rl⟩ := r
        cases em : ds.mapM (frz n h k) with
        | none => rw [em] at e; cases e
        | some ds' => rw [em] at e; cases e; exact ⟨a, xs, ev, ⟨s.1, fun z => s.2.1 (cut_sub _ z), s.2.2⟩, z, frzL_ok ih em rl⟩
      | _ => cases e
theorem hrel_cut {h0 h : Hd} (HR0 : HRel K mg H ρ h0) (g : Grow K mg H ρ H' ρ') (HR : HRel K mg H' ρ' h) (q : h.take h0.length = h0 ∨ ∀ ob ∈ h.take h0.length, NRO ob) : HRel K mg H' (cutR ρ' h0.length) (h.take h0.length) ∧ Grow K mg H ρ H' (cutR ρ' h0.length) ∧ (cutR ρ' h0.length).ix = ρ.ix := by
  have hpre : ρ'.ix.take h0.length = ρ.ix := by
    obtain ⟨t, e⟩ := g.pre
    rw [← e, HR0.len, List.take_left]
  have hle : h0.length ≤ h.length := by
    have := congrArg List.length hpre
    rw [List.length_take] at this
    have h1 := HR0.len
    have h2 := HR.len
    omega
  have rep : ∀ d v, Rep K mg H ρ d v → Rep K mg H' (cutR ρ' h0.length) d v := fun d v r => Rep.cut d v (by rw [HR0.len]; exact Rep.low d v r) (g.rep d v r)
  refine ⟨⟨by show (ρ'.ix.take _).Nodup; exact HR.nd.sublist (List.take_sublist _ _), by show _ = (ρ'.ix.take _).length; rw [List.length_take, List.length_take, HR.len], fun i o a e1 e2 => ?_, HR.hid, fun a ha z => HR.dis a ha (cut_sub a z)⟩, ⟨by show ρ.ix <+: ρ'.ix.take _; rw [hpre]; exact List.prefix_refl _, rep, g.xd, g.hid, g.keep⟩, hpre⟩
  have hi : i < h0.length := by
    have := (List.getElem?_eq_some_iff.mp e1).1
    simp at this
    omega
  have e2 : (ρ'.ix.take h0.length)[i]? = some a := e2
  rw [List.getElem?_take_of_lt hi] at e2
  have e1' := e1
  rw [List.getElem?_take_of_lt hi] at e1
  have ob := HR.obj i o a e1 e2
  rcases q with q | q
  · rw [q] at e1'
    have e3 : ρ.ix[i]? = some a := by
      rw [← hpre, List.getElem?_take_of_lt hi]; exact e2
    have ob0 := HR0.obj i o a e1' e3
    cases o with
    | lst ds =>
      obtain ⟨xs, ex, z, r⟩ := ob
      obtain ⟨xs0, ex0, z0, r0⟩ := ob0
      exact ⟨xs, ex, z, RepL.cut ds xs (by rw [HR0.len]; exact RepL.low _ _ r0) r⟩
    | ins C fs =>
      obtain ⟨c, dx, vs, m, ex, r⟩ := ob
      obtain ⟨c0, dx0, vs0, m0, ex0, r0⟩ := ob0
      exact ⟨c, dx, vs, m, ex, r.1, RepL.cut _ _ (by rw [HR0.len]; exact RepL.low _ _ r0.2) r.2⟩
  · have nr := q o (List.mem_of_getElem? e1')
    cases o with
    | lst ds => obtain ⟨xs, ex, z, r⟩ := ob; exact ⟨xs, ex, z, RepL.cut ds xs (lowL_of_nr _ ds nr) r⟩
    | ins C fs => obtain ⟨c, dx, vs, m, ex, r⟩ := ob; exact ⟨c, dx, vs, m, ex, r.1, RepL.cut _ _ (lowL_of_nr _ _ nr) r.2⟩
end
end Dz

namespace Dz
open PySem PySem.Spec PyProof.Rows L2
/-! ## defs -/
/-- what is known around a body: room, no repr runs, nobody looks on -/
structure Ctx (P : Program) (w : World) (base : Heap) (A : Around) (k : Nat) : Prop where
  room : Room k A
  gd : A.guards = some []
theorem Ctx.mono {P : Program} {w : World} {base : Heap} {A : Around} {j k : Nat} (c : Ctx P w base A k) (h : j ≤ k) : Ctx P w base A j := ⟨c.room.mono h, c.gd⟩
structure FnG (P : Program) (w : World) (K : PySem.W.Frag) (mg : Str → Option Value) (base : Heap) (k : Nat) (f : Addr) (fd : FuncData) (ps : List Str) (den : FDen) : Prop where
  run : ∀ (A : Around) (outer : List Env) (s : Shared) (H : Hp) (args : Args) (us : List Value) (vs : List V) (Q : VK) (E : XK), Room k A → A.guards = some [] → Env0 P w K mg base A outer s H → BindsTo s fd args (ps.zip us) → Vals vs us → spD K mg ps.length den vs H Q E →
    codeAny (model P w) A (.call (.ref f) args) (CR (L2N.CX P w) outer P w H s Q E) s
section
variable {X : Cx} {W : WX} {k : Nat} {f : Addr} {fd : FuncData} {ps : List Str} {den : FDen}
theorem run_fnG {E : L2.St → XK} {pins : List (Addr × Obj)} {σ : L2.St} {H : Hp} {s : Shared} {Q : VK} {us : List Value} {vs : List V} (F : FnG X.prog X.w X.K X.mg X.base k f fd ps den) (cx : Ctx X.prog X.w X.base X.A k) (hb : Binds X.K fd ps []) (hx : PassesAt (L2N.CX X.prog X.w) X σ (E σ))
    (I : Inv X pins σ H s) (r : Vals vs us) (h : spD X.K X.mg ps.length den vs H Q (E σ)) : wpAny (model X.prog X.w) X.A (call (.ref f) us) (EP X pins σ Q) X.xe s := by
  have hl : us.length = ps.length := by
    obtain ⟨ρ, hd, ds, _, rl, en, _⟩ := h
    rw [← r.length, ← RepL.length rl]; exact en
  have b := hb s us I.kIn (by rw [List.append_nil]; exact hl)
  rw [List.append_nil] at b
  refine wpAny_call (codeAny_mono (F.run X.A X.stack s H ⟨us, []⟩ us vs Q (E σ) cx.room cx.gd I.env0 b r h) fun r s' hq => ?_)
  cases r with
  | error e => exact hx pins H s e s' I hq
  | ok fl =>
    cases fl with
    | ret u => exact I.after hq
    | next => exact False.elim hq
    | brk => exact False.elim hq
    | cont => exact False.elim hq
theorem pe_callG {sp : Sp} {E : L2.St → XK} {x : Str} {q pos : Pos} {e : Expr} {es : List Expr} {t : TA} (F : FnG X.prog X.w X.K X.mg X.base k f fd ps den) (cx : Ctx X.prog X.w X.base X.A k) (hg : Gl X x) (hm : X.mg x = some (.ref f)) (hk : PySem.W.keepIn X.K (.ref f) = true) (hb : Binds X.K fd ps []) (hx : ∀ σ, PassesAt (L2N.CX X.prog X.w) X σ (E σ))
    (ha : PA X (e :: es) t) (hdb : (x == ("__debug__" : Str)) = false := by decide) (he : starEach (e :: es) X.env = (false, eval e X.env) :: starEach es X.env := by rfl) (hpl : (backTo pos (starEach es X.env)).any (·.1) = false := by rfl) :
    PE X (.Call (.Name x q) (e :: es) [] pos) (tCallS (spD X.K X.mg ps.length den) E t) := by
  refine ⟨fun pins s σ H Q I h => ?_⟩
  refine wpAny_Call_Name_kw (ld_glob I hg hm ?_ hdb)
  refine PySem.W.callWith_K (h₀ := X.base) I.ok.mod.kin hk (thn (ha.run pos pins s σ H _ I h) fun us s1 ⟨vs, H1, I1, r, q⟩ => ⟨I1.kIn, ?_⟩) he hpl
  exact run_fnG F cx hb (hx σ) I1 r q
/-- a def that the text may call: all that a call asks -/
structure Fn (P : Program) (w : World) (K : PySem.W.Frag) (mg : Str → Option Value) (base : Heap) (k : Nat) (x : Str) (n : Nat) (den : FDen) : Prop where
  ex : ∃ f fd ps, FnG P w K mg base k f fd ps den ∧ mg x = some (.ref f) ∧ PySem.W.keepIn K (.ref f) = true ∧ Binds K fd ps [] ∧ ps.length = n
theorem f_call {x : Str} {n : Nat} {q pos : Pos} {e : Expr} {es : List Expr} {fa : DenA} (F : Fn X.prog X.w X.K X.mg X.base k x n den) (cx : Ctx X.prog X.w X.base X.A k) (tk : L2N.Takes X W)
    (ha : DA X W (e :: es) fa) (hg : Gl X x := by rfl) (hdb : (x == ("__debug__" : Str)) = false := by decide) (he : starEach (e :: es) X.env = (false, eval e X.env) :: starEach es X.env := by rfl) (hpl : (backTo pos (starEach es X.env)).any (·.1) = false := by rfl) :
    DE X W (.Call (.Name x q) (e :: es) [] pos) (callD den n fa) := by
  obtain ⟨f, fd, ps, G, hm, hk, hb, hn⟩ := F.ex
  exact PE.weak (pe_callG (sp := spD X.K X.mg n den) G cx hg hm hk hb (fun σ => L2N.passAt tk σ) ha hdb he hpl) fun σ H Q h => by
    obtain ⟨ρ, σd, hd, HR, S, h⟩ := h
    refine ⟨ρ, σd, hd, HR, S, (PostG.bind (rL X.K X.mg) h).mono fun xs H1 ⟨ds, h1, ρ1, G1, HR1, r1, q1⟩ => ?_⟩
    by_cases hz : ds.length = n
    · rw [if_pos hz] at q1
      exact ⟨ρ1, h1, ds, HR1, r1, hz.trans hn.symm, q1⟩
    · rw [if_neg hz] at q1; exact q1.elim
/-- a def's body as a def's denotation -/
def startD (n : Nat) (ds : List D) : Sd := ds.map some ++ List.replicate (n - ds.length) none
def bodyD (n : Nat) (fb : DenS) : FDen := fun ds h => match fb (startD n ds) h with
  | .next _ h' => .ok .non h'
  | .ret d h' => .ok d h'
  | .exc x _ h' => .exc x h'
  | _ => .stuck
noncomputable def bodyS (n : Nat) (fb : DenS) : FDen := fun ds h => settle h (bodyD n fb ds h)
theorem srel_start {K : PySem.W.Frag} {mg : Str → Option Value} {H : Hp} {ρ : Rh} {ds : List D} {vs : List V} {N : List Str} (r : RepL K mg H ρ ds vs) : SRel K mg H ρ (L2.start N vs) (startD N.length ds) := by
  have hl := RepL.length r
  refine ⟨?_, fun i d e => ?_⟩
  · unfold L2.start startD
    rw [List.length_append, List.length_append, List.length_map, List.length_map, List.length_replicate, List.length_replicate, hl]
  · unfold startD at e
    by_cases hi : i < ds.length
    · rw [List.getElem?_append_left (by simpa using hi), List.getElem?_map] at e
      cases ed : ds[i]? with
      | none => rw [ed] at e; cases e
      | some d' =>
        rw [ed] at e
        cases e
        obtain ⟨x, ex, rx⟩ := r.get' ed
        refine ⟨x, ?_, rx⟩
        unfold L2.start
        rw [List.getElem?_append_left (by simp; omega), List.getElem?_map, ex]; rfl
    · rw [List.getElem?_append_right (by simpa using hi), List.getElem?_replicate] at e
      split at e <;> cases e
theorem post_body {K : PySem.W.Frag} {mg : Str → Option Value} {H : Hp} {ρ : Rh} {n : Nat} {fb : DenS} {ds : List D} {h : Hd} {Q : VK} {E : XK} (q : PostG K mg (rD K mg) E ρ H Q (bodyD n fb ds h)) :
    PostS K mg (fun c d _ H' => E c d H') ρ H { nx := fun _ H' => Q .non H', rt := Q } (fb (startD n ds) h) := by
  unfold bodyD at q
  cases e : fb (startD n ds) h with
  | next σ h' => rw [e] at q; exact fun σ' H' ρ' G HR S => q .non H' ρ' G HR rfl
  | ret d h' => rw [e] at q; exact q
  | exc x σ h' => rw [e] at q; exact fun c d σ' H' ρ' G HR S r => q c d H' ρ' G HR r
  | brk σ h' => rw [e] at q; exact q.elim
  | cont σ h' => rw [e] at q; exact q.elim
  | stuck => rw [e] at q; exact q.elim
theorem xrep_cut {K : PySem.W.Frag} {mg : Str → Option Value} {H : Hp} {ρ : Rh} {n : Nat} {x : Exn} {c : Value} {d : Option Addr} (hf : ∀ fs, x.fs = some fs → NRL (fs.map (·.2))) (r : XRep K mg H ρ x c d) : XRep K mg H (cutR ρ n) x c d := by
  obtain ⟨C, e1, e2, r⟩ := r
  refine ⟨C, e1, e2, ?_⟩
  cases hx : x.fs with
  | none => rw [hx] at r; exact r
  | some fs =>
    rw [hx] at r
    obtain ⟨dd, vs, e, h1, h2⟩ := r
    exact ⟨dd, vs, e, h1, h2.1, RepL.cut _ _ (lowL_of_nr _ _ (hf fs hx)) h2.2⟩
/-- what is wanted of the settled outcome is wanted of the outcome -/
theorem post_settle {K : PySem.W.Frag} {mg : Str → Option Value} {H : Hp} {ρ : Rh} {h0 : Hd} {o : Out D} {Q : VK} {E : XK} (HR0 : HRel K mg H ρ h0) (q : PostG K mg (rD K mg) E ρ H Q (settle h0 o)) : PostG K mg (rD K mg) E ρ H Q o := by
  unfold settle at q
  cases o with
  | ok d h =>
    dsimp only at q
    by_cases c : h.take h0.length = h0 ∨ ∀ ob ∈ h.take h0.length, NRO ob
    · rw [if_pos c] at q
      cases ef : frz h0.length h 4 d with
      | none => rw [ef] at q; exact q.elim
      | some d' =>
        rw [ef] at q
        intro v H' ρ' G HR r
        obtain ⟨HR', G', _⟩ := hrel_cut HR0 G HR c
        exact q v H' _ G' HR' (frz_ok HR 4 d d' v ef r)
    · rw [if_neg c] at q; exact q.elim
  | exc x h =>
    dsimp only at q
    by_cases c : (h.take h0.length = h0 ∨ ∀ ob ∈ h.take h0.length, NRO ob) ∧ (∀ fs, x.fs = some fs → NRL (fs.map (·.2)))
    · rw [if_pos c] at q
      intro cl d H' ρ' G HR r
      obtain ⟨HR', G', _⟩ := hrel_cut HR0 G HR c.1
      exact q cl d H' _ G' HR' (xrep_cut c.2 r)
    · rw [if_neg c] at q; exact q.elim
  | stuck => exact q
section
variable {P : Program} {w : World} {K : PySem.W.Frag} {mg : Str → Option Value} {base : Heap}
/-- THE RULE for a def -/
theorem fnG_gen {name qual : Str} {st : Stmt} {f : Addr} {fd : FuncData} {N ps : List Str} {den : FDen} (F : L2.Fun K name qual st f fd) (S : FnScope N ps (defScope st))
    (hbody : ∀ (cdv : Value) (A : Around) (outer : List Env) (s : Shared) (H : Hp) (E : XK), Ctx P w base (A.deeper (envOfC qual (defScope st) s.heap.objs.size f cdv)) k →
      ∃ fb : DenS, DSs (cxOf (L2N.CX P w) P w K mg base N qual (defScope st) f cdv A outer s H E) (fun c d _ H' => E c d H') (defBody st) fb ∧
        ∀ (ρ : Rh) (h : Hd) (ds : List D) (H : Hp) (Q : VK), HRel K mg H ρ h → PostG K mg (rD K mg) E ρ H Q (den ds h) → PostG K mg (rD K mg) E ρ H Q (bodyD N.length fb ds h)) : FnG P w K mg base (k + 1) f fd ps den := by
  obtain ⟨oc, od, kV, doc, pm, an, cdv, ct, osl, rfl, lk, hcd⟩ := F.ex
  refine ⟨fun A outer s H args us vs Q E hr hg e0 hb r hsp => ?_⟩
  obtain ⟨ρ, hd, ds, HR, rl, en, hq⟩ := hsp
  have hl : vs.length = ps.length := by rw [← RepL.length rl]; exact en
  have KX : K.In s.heap := e0.mod.kin.keeps fun b o e => (e0.bs b o e).1
  have lim : s.heap.NoLimit := e0.mod.nolimit.keeps fun b o e => (e0.bs b o e).1
  have hkind : ∀ y ∈ ps.zip us, (defScope st).names.lookup y.1 = some .local ∨ ((defScope st).names.lookup y.1 = some .cell ∧ ((cellsFrom (s.heap.objs.size + 1) (defScope st).names []).lookup y.1).isSome = true) := fun ⟨n, v⟩ hy => by
    rcases S.par n (List.of_mem_zip hy).1 with q | q
    · exact .inl q
    · exact .inr ⟨q, PySem.W.cellsFrom_some _ _ _ (.inl q)⟩
  refine codeAny_call_function hr.depth (KX _ _ lk) rfl S.co S.gen rfl (PySem.W.codeRec_of KX hcd) (hb _ _ _ _ ?_)
  refine wpAny_newFunctionEnv_cells S.kind hkind fun env he s1 x => ?_
  subst he
  refine ⟨lim.keeps x.toInCall.keep, codeAny_func ?_⟩
  have cx : Ctx P w base (A.deeper (envOfC qual (defScope st) s.heap.objs.size f cdv)) k := ⟨hr.deeper _, hg⟩
  obtain ⟨fb, ht, hden⟩ := hbody cdv A outer s H E cx
  have I : Inv (cxOf (L2N.CX P w) P w K mg base N qual (defScope st) f cdv A outer s H E) [] (L2.start N vs) H s1 := inv_start S hr.hd e0 hl r x
  have hq' : tS K mg (fun c d _ H' => E c d H') fb { nx := fun _ H' => Q .non H', rt := Q } (L2.start N vs) H := ⟨ρ, startD N.length ds, hd, HR, srel_start rl, post_body (hden ρ hd ds H Q HR hq)⟩
  refine wpAny_mono (ht.run [] s1 (L2.start N vs) H _ I hq') (fun fl s' hs => ?_) fun e s' hs => hs
  have fin : ∀ {σ' : L2.St} {H' : Hp} {v : V} {u : Value}, Inv (cxOf (L2N.CX P w) P w K mg base N qual (defScope st) f cdv A outer s H E) [] σ' H' s' → RelV v u → Q v H' → CE outer P w H s Q u s' :=
    fun {σ' H' v u} J rv q => ⟨v, H', J.os, J.bare, J.base, J.hok, rv, q⟩
  cases fl with
  | ret u =>
    obtain ⟨v, σ', H', J, rv, q⟩ := hs
    exact fin J rv q
  | next =>
    obtain ⟨σ', H', J, q⟩ := hs
    exact fin (v := V.non) (u := Value.none) J rfl q
  | brk =>
    obtain ⟨_, _, _, q⟩ := hs
    exact False.elim q
  | cont =>
    obtain ⟨_, _, _, q⟩ := hs
    exact False.elim q
abbrev XOf (P : Program) (w : World) (K : PySem.W.Frag) (mg : Str → Option Value) (base : Heap) (N : List Str) (qual : Str) (st : Stmt) (f : Addr) (cdv : Value) (A : Around) (outer : List Env) (s : Shared) (H : Hp) (E : XK) : Cx :=
  cxOf (L2N.CX P w) P w K mg base N qual (defScope st) f cdv A outer s H E
abbrev WOf (E : XK) : WX := fun c d _ H' => E c d H'
theorem fn_raw {name qual : Str} {st : Stmt} {f : Addr} {fd : FuncData} {N ps : List Str} {fb : DenS} (F : L2.Fun K name qual st f fd) (S : FnScope N ps (defScope st)) (hm : mg name = some (.ref f)) (hb : Binds K fd ps [])
    (hbody : ∀ (cdv : Value) (A : Around) (outer : List Env) (s : Shared) (H : Hp) (E : XK), Ctx P w base (XOf P w K mg base N qual st f cdv A outer s H E).A k → L2N.Takes (XOf P w K mg base N qual st f cdv A outer s H E) (WOf E) →
      DSs (XOf P w K mg base N qual st f cdv A outer s H E) (WOf E) (defBody st) fb) : Fn P w K mg base (k + 1) name ps.length (bodyD N.length fb) :=
  ⟨f, fd, ps, fnG_gen F S fun cdv A outer s H E cx => ⟨fb, hbody cdv A outer s H E cx (L2N.takes_of rfl rfl rfl rfl), fun _ _ _ _ _ _ q => q⟩, hm, F.kp, hb, rfl⟩
theorem fn_set {name qual : Str} {st : Stmt} {f : Addr} {fd : FuncData} {N ps : List Str} {fb : DenS} (F : L2.Fun K name qual st f fd) (S : FnScope N ps (defScope st)) (hm : mg name = some (.ref f)) (hb : Binds K fd ps [])
    (hbody : ∀ (cdv : Value) (A : Around) (outer : List Env) (s : Shared) (H : Hp) (E : XK), Ctx P w base (XOf P w K mg base N qual st f cdv A outer s H E).A k → L2N.Takes (XOf P w K mg base N qual st f cdv A outer s H E) (WOf E) →
      DSs (XOf P w K mg base N qual st f cdv A outer s H E) (WOf E) (defBody st) fb) : Fn P w K mg base (k + 1) name ps.length (bodyS N.length fb) :=
  ⟨f, fd, ps, fnG_gen F S fun cdv A outer s H E cx => ⟨fb, hbody cdv A outer s H E cx (L2N.takes_of rfl rfl rfl rfl), fun _ _ _ _ _ HR q => post_settle HR q⟩, hm, F.kp, hb, rfl⟩
theorem Fn.mono {j k : Nat} {x : Str} {n : Nat} {den : FDen} (F : Fn P w K mg base j x n den) (h : j ≤ k) : Fn P w K mg base k x n den := by
  obtain ⟨f, fd, ps, G, r⟩ := F.ex
  exact ⟨f, fd, ps, ⟨fun A outer s H args us vs Q E hr => G.run A outer s H args us vs Q E (hr.mono h)⟩, r⟩
end
end
end Dz

namespace Dz
open PySem PySem.Spec PyProof.Rows L2
/-! ## lists of data under what is done with lists -/
section
variable {K : PySem.W.Frag} {mg : Str → Option Value} {H : Hp} {ρ : Rh}
theorem RepL.append : ∀ {ds es : List D} {vs ws : List V}, RepL K mg H ρ ds vs → RepL K mg H ρ es ws → RepL K mg H ρ (ds ++ es) (vs ++ ws)
  | [], es, vs, ws, h, g => by have h : vs = [] := h; subst h; exact g
  | d :: ds, es, vs, ws, h, g => by
    obtain ⟨v, r, rfl, h1, h2⟩ := h
    exact ⟨v, r ++ ws, rfl, h1, RepL.append h2 g⟩
theorem RepL.rep {ds : List D} {vs : List V} (h : RepL K mg H ρ ds vs) : ∀ n : Nat, RepL K mg H ρ (List.replicate n ds).flatten (List.replicate n vs).flatten
  | 0 => rfl
  | n + 1 => by
    rw [List.replicate_succ, List.replicate_succ, List.flatten_cons, List.flatten_cons]
    exact RepL.append h (RepL.rep h n)
theorem RepL.drop : ∀ {ds : List D} {vs : List V} (n : Nat), RepL K mg H ρ ds vs → RepL K mg H ρ (ds.drop n) (vs.drop n)
  | ds, vs, 0, h => h
  | [], vs, n + 1, h => by have h : vs = [] := h; subst h; rfl
  | d :: ds, vs, n + 1, h => by
    obtain ⟨v, r, rfl, h1, h2⟩ := h
    exact RepL.drop n h2
theorem RepL.take : ∀ {ds : List D} {vs : List V} (n : Nat), RepL K mg H ρ ds vs → RepL K mg H ρ (ds.take n) (vs.take n)
  | ds, vs, 0, h => by rw [List.take_zero, List.take_zero]; rfl
  | [], vs, n + 1, h => by have h : vs = [] := h; subst h; rfl
  | d :: ds, vs, n + 1, h => by
    obtain ⟨v, r, rfl, h1, h2⟩ := h
    exact ⟨v, r.take n, rfl, h1, RepL.take n h2⟩
theorem RepL.reverse : ∀ {ds : List D} {vs : List V}, RepL K mg H ρ ds vs → RepL K mg H ρ ds.reverse vs.reverse
  | [], vs, h => by have h : vs = [] := h; subst h; rfl
  | d :: ds, vs, h => by
    obtain ⟨v, r, rfl, h1, h2⟩ := h
    rw [List.reverse_cons, List.reverse_cons]
    exact RepL.append (RepL.reverse h2) ⟨v, [], rfl, h1, rfl⟩
theorem RepL.set {d : D} {v : V} (q : Rep K mg H ρ d v) : ∀ {ds : List D} {vs : List V} (n : Nat), RepL K mg H ρ ds vs → RepL K mg H ρ (ds.set n d) (vs.set n v)
  | [], vs, n, h => by have h : vs = [] := h; subst h; rfl
  | d :: ds, vs, 0, h => by
    obtain ⟨v', r, rfl, h1, h2⟩ := h
    exact ⟨v, r, rfl, q, h2⟩
  | d :: ds, vs, n + 1, h => by
    obtain ⟨v', r, rfl, h1, h2⟩ := h
    exact ⟨v', r.set n v, rfl, h1, RepL.set q n h2⟩
theorem RepL.eraseIdx : ∀ {ds : List D} {vs : List V} (n : Nat), RepL K mg H ρ ds vs → RepL K mg H ρ (ds.eraseIdx n) (vs.eraseIdx n)
  | [], vs, n, h => by have h : vs = [] := h; subst h; rfl
  | d :: ds, vs, 0, h => by
    obtain ⟨v', r, rfl, h1, h2⟩ := h
    exact h2
  | d :: ds, vs, n + 1, h => by
    obtain ⟨v', r, rfl, h1, h2⟩ := h
    exact ⟨v', r.eraseIdx n, rfl, h1, RepL.eraseIdx n h2⟩
end
def cutD (xs : List D) (lo hi : Option Int) : List D := (xs.drop (HT.sIx xs.length 0 lo)).take (HT.sIx xs.length xs.length hi - HT.sIx xs.length 0 lo)
theorem RepL.cutv {K : PySem.W.Frag} {mg : Str → Option Value} {H : Hp} {ρ : Rh} {ds : List D} {vs : List V} (lo hi : Option Int) (h : RepL K mg H ρ ds vs) : RepL K mg H ρ (cutD ds lo hi) (cutV vs lo hi) := by
  unfold cutD cutV
  rw [← RepL.length h]
  exact RepL.take _ (RepL.drop _ h)
/-! ## list + list, list * int of lists that are read -/
section
variable {X : Cx}
def rCatR : R2 := fun x y H Q => ∃ l b xs zs, x = .ref l ∧ y = .ref b ∧ Rd H l (.lst xs) ∧ Rd H b (.lst zs) ∧ xs.length + zs.length ≤ sizeLine ∧ ∀ p, H p = none → Q (.ref p) (upd H p (.lst (xs ++ zs)))
theorem op_catR : OpR X (binaryOp .Add) rCatR := by
  intro pins s σ H x y v u Q I rx ry h
  obtain ⟨l, b, xs, zs, rfl, rfl, hH, hB, hz, q⟩ := h
  cases rx
  cases ry
  obtain ⟨z, its, n, r, e⟩ := hH.ok I.hok
  obtain ⟨z2, its2, n2, r2, e2⟩ := hB.ok I.hok
  have hl := r.length
  have hl2 := r2.length
  refine PySem.P.add_list e e2 ?_ (by rw [List.size_toArray, List.size_toArray]; omega)
  have ea : its.toArray ++ its2.toArray = (its ++ its2).toArray := by simp
  rw [ea]
  exact ⟨.ref _, _, I.lnew (t' := s.toks) (r.append r2) (by rw [List.length_append]; omega), rfl, q _ I.fresh⟩
def rRepR : R2 := fun x y H Q => ∃ l k xs, x = .ref l ∧ y = .int k ∧ Rd H l (.lst xs) ∧ -(2 ^ 63) ≤ k ∧ k < 2 ^ 63 ∧ xs.length * k.toNat ≤ sizeLine ∧
  ∀ p, H p = none → Q (.ref p) (upd H p (.lst (List.replicate k.toNat xs).flatten))
theorem op_repR : OpR X (binaryOp .Mult) rRepR := by
  intro pins s σ H x y v u Q I rx ry h
  obtain ⟨l, k, xs, rfl, rfl, hH, h1, h2, hz, q⟩ := h
  cases rx
  obtain ⟨t, rfl⟩ := ry
  obtain ⟨z, its, n, r, e⟩ := hH.ok I.hok
  have hl := r.length
  have hlen : its.toArray.size * k.toNat ≤ sizeLine := by rw [List.size_toArray, ← hl]; exact hz
  have hcap : ¬ its.toArray.size * k.toNat > (2 ^ 63 - 1) / 8 := by
    have : (sizeLine : Nat) ≤ (2 ^ 63 - 1) / 8 := by decide
    omega
  have hfit : ¬ (!Builtin.List.listFitsIndex k) = true := by
    rw [fitsIndex_both h1 h2]
    exact Bool.false_ne_true
  have hlong : ¬ Builtin.List.listTooLong (its.toArray.size * k.toNat) = true := by
    rw [notLongL hlen]
    exact Bool.false_ne_true
  have hnew : List.foldl (fun x1 x2 => x1 ++ x2) #[] (List.replicate (if its.toArray.isEmpty = true then 0 else k.toNat) its.toArray) = (List.replicate k.toNat its).flatten.toArray := by
    have f0 : ∀ m : Nat, List.foldl (fun x1 x2 => x1 ++ x2) #[] (List.replicate m its.toArray) = (List.replicate m its).flatten.toArray := fun m => by
      have := foldl_rep its m []
      rw [List.nil_append] at this
      exact this
    rw [f0]
    cases its with
    | nil => simp
    | cons a r' => rw [if_neg (by simp)]
  refine wpAny_binaryOp_repeat_ref (T := "list") (U := "int") (by decide) ⟨_, e, rfl⟩ (fun s' => typeIs_int s' k t) noFill_list_mul F.fills_int_mul F.slot_int_rmul repeat_list F.slot_int_index.lookup
    (call_meets F.slot_int_rmul (typeIs_int s k t) F.entry_int_rmul (F.args_int_rmul_2 _ _) (int___rmul___int_list k t l its.toArray n)
      ⟨e, rfl, ⟨_, e, rfl⟩, call_meets F.slot_list_mul ⟨_, e, rfl⟩ F.entry_list_mul (F.args_list_mul_2 _ _) (AutoListH.list___mul___list_int_3 l its.toArray n k t hfit hcap hlong) ⟨e, ?_⟩⟩)
  rw [hnew]
  exact ⟨.ref _, _, I.lnew (t' := s.toks) (r.rep k.toNat) (by rw [PyProof.Rows.lm_len_rep_flat, Nat.mul_comm]; exact hz), rfl, q _ I.fresh⟩
end
/-! ## tuple * int, what HandS leaves out -/
theorem tuple_mulE (l : Addr) (items : Array Value) (n : Nat) (dd : Option Addr) (sl : Array (Option Value)) (x : Int) (u : Tok) (c0 : (decide (x < -(2 ^ 63)) || decide (x ≥ 2 ^ 63)) = false) (c1 : (items.isEmpty || x == 1) = true) :
    Meets (Builtin.«tuple.__mul__» ⟨[.ref l, .int x u], []⟩) (fun _ R s => s.heap.get? l = some { cls := .type "tuple", dict := dd, data := .seq items n, slots := sl } ∧ R (.ok (.ret (Value.ref l))) s) :=
  .of_wp fun prog w A R s h => by
    obtain ⟨hp, g, d, tk, os⟩ := s
    obtain ⟨hl, h⟩ := h
    have f1 := AutoSeq1.idx_int
    wp_walk using wpAny_loadPart' hl
    repeat (first
      | (refine wpAny_ite_false (decide_eq_false (by rw [c0]; exact Bool.false_ne_true)) ?_; wp_walk using wpAny_loadPart' hl)
      | (refine wpAny_ite_true (decide_eq_true c1) ?_; wp_walk using wpAny_loadPart' hl))
    exact ⟨_, rfl, h⟩
theorem tuple_mul0 (l : Addr) (items : Array Value) (n : Nat) (dd : Option Addr) (sl : Array (Option Value)) (x : Int) (u : Tok) (c0 : (decide (x < -(2 ^ 63)) || decide (x ≥ 2 ^ 63)) = false) (c1 : (items.isEmpty || x == 1) = false) (c2 : (decide (x ≤ 0) || items.isEmpty) = true) :
    Meets (Builtin.«tuple.__mul__» ⟨[.ref l, .int x u], []⟩) (fun _ R s => s.heap.get? l = some { cls := .type "tuple", dict := dd, data := .seq items n, slots := sl } ∧
      R (.ok (.ret (Value.ref s.heap.objs.size))) { s with heap := s.heap.push { cls := Value.type "tuple", data := Data.seq #[] }, toks := s.toks }) :=
  .of_wp fun prog w A R s h => by
    obtain ⟨hp, g, d, tk, os⟩ := s
    obtain ⟨hl, h⟩ := h
    have f1 := AutoSeq1.idx_int
    wp_walk using wpAny_loadPart' hl
    repeat (first
      | (refine wpAny_ite_false (decide_eq_false (by rw [c0]; exact Bool.false_ne_true)) ?_; wp_walk using wpAny_loadPart' hl)
      | (refine wpAny_ite_false (decide_eq_false (by rw [c1]; exact Bool.false_ne_true)) ?_; wp_walk using wpAny_loadPart' hl)
      | (refine wpAny_ite_true (decide_eq_true c2) ?_; wp_walk using wpAny_loadPart' hl))
    exact ⟨_, rfl, h⟩
def rRepTA (K : PySem.W.Frag) : R2 := fun x y H Q => ∃ l k xs, x = .ref l ∧ y = .int k ∧ SqT K H l xs ∧ -1000 ≤ k ∧ k ≤ 1000 ∧ xs.length ≤ 1000 ∧
  ((xs = [] ∨ k = 1) → Q (.ref l) H) ∧ (xs ≠ [] → k ≠ 1 → ∀ p, H p = none → Q (.ref p) (upd H p (.tup (List.replicate k.toNat xs).flatten)))
theorem op_repTA {X : Cx} : OpR X (binaryOp .Mult) (rRepTA X.K) := by
  intro pins s σ H x y v u Q I rx ry h
  obtain ⟨l, k, xs, rfl, rfl, hT, h1, h2, hz, q1, q2⟩ := h
  by_cases hb : xs ≠ [] ∧ 2 ≤ k
  · exact op_repT pins s σ H _ _ v u Q I rx ry ⟨l, k, xs, rfl, rfl, hT, hb.1, hb.2, h2, hz, q2 hb.1 (by omega)⟩
  · cases rx
    obtain ⟨t, rfl⟩ := ry
    obtain ⟨its, r, ⟨⟨cls, dd, data, sl⟩, ho, hc, n, hd⟩, hs⟩ := I.tuple hT
    simp only at hc hd
    subst hc hd
    have hle : its.length = xs.length := r.length.symm
    have c0 : (decide (k < -(2 ^ 63)) || decide (k ≥ 2 ^ 63)) = false := by
      rw [decide_eq_false (by omega), decide_eq_false (by omega)] <;> rfl
    by_cases c1 : (its.toArray.isEmpty || k == 1) = true
    · refine wpAny_binaryOp_repeat_ref (T := "tuple") (U := "int") (by decide) ⟨_, ho, rfl⟩ (fun s' => typeIs_int s' k t) noFill_tuple_mul F.fills_int_mul F.slot_int_rmul repeat_tuple F.slot_int_index.lookup
        (call_meets F.slot_int_rmul (typeIs_int s k t) F.entry_int_rmul (F.args_int_rmul_2 _ _) (int_rmul_tuple k t l its.toArray n dd sl)
          ⟨ho, rfl, ⟨_, ho, rfl⟩, call_meets F.slot_tuple_mul ⟨_, ho, rfl⟩ F.entry_tuple_mul (F.args_tuple_mul_2 _ _) (tuple_mulE l its.toArray n dd sl k t c0 c1) ⟨ho, ?_⟩⟩)
      refine ⟨.ref l, H, I, rfl, q1 ?_⟩
      rw [Bool.or_eq_true] at c1
      rcases c1 with c1 | c1
      · left
        have : its = [] := by
          cases its with
          | nil => rfl
          | cons a b => simp at c1
        subst this
        exact List.eq_nil_of_length_eq_zero hle.symm
      · right; exact eq_of_beq c1
    · have c1 : (its.toArray.isEmpty || k == 1) = false := by simpa using c1
      have e1 : its.toArray.isEmpty = false ∧ (k == 1) = false := by simpa using c1
      have hx : xs ≠ [] := fun z => by
        subst z
        have : its = [] := List.eq_nil_of_length_eq_zero hle
        subst this
        simp at e1
      have hk : k ≤ 0 := by
        have : k ≠ 1 := fun z => by subst z; simp at e1
        by_cases z : 2 ≤ k
        · exact absurd ⟨hx, z⟩ hb
        · omega
      have c2 : (decide (k ≤ 0) || its.toArray.isEmpty) = true := by simp [hk]
      refine wpAny_binaryOp_repeat_ref (T := "tuple") (U := "int") (by decide) ⟨_, ho, rfl⟩ (fun s' => typeIs_int s' k t) noFill_tuple_mul F.fills_int_mul F.slot_int_rmul repeat_tuple F.slot_int_index.lookup
        (call_meets F.slot_int_rmul (typeIs_int s k t) F.entry_int_rmul (F.args_int_rmul_2 _ _) (int_rmul_tuple k t l its.toArray n dd sl)
          ⟨ho, rfl, ⟨_, ho, rfl⟩, call_meets F.slot_tuple_mul ⟨_, ho, rfl⟩ F.entry_tuple_mul (F.args_tuple_mul_2 _ _) (tuple_mul0 l its.toArray n dd sl k t c0 c1 c2) ⟨ho, ?_⟩⟩)
      have e0 : k.toNat = 0 := by omega
      have q3 := q2 hx (by omega)
      rw [e0] at q3
      refine ⟨.ref s.heap.objs.size, _, I.laid (t' := s.toks) (o := .tup []) (fun b ob q => Heap.get?_push_of_some _ q) (Nat.le_refl _) ?_, rfl, q3 _ (I.hok.fresh (Nat.le_refl _))⟩
      exact ⟨Nat.zero_le _, [], .nil, IsTup.new _ _⟩
end Dz

namespace Dz
open PySem PySem.Spec PyProof.Rows L2 HT
/-! ## x[::-1] of a tuple -/
theorem adjust_rev (n : Nat) : Builtin.Slice.sliceAdjust none none (-1) (n : Int) = ((n : Int) - 1, -1) := by simp [Builtin.Slice.sliceAdjust]
theorem places_rev (n : Nat) : Builtin.Slice.slicePlaces ((n : Int) - 1) (-1) (-1) = n := by
  simp [Builtin.Slice.slicePlaces]
  split <;> omega
theorem fm_congr {α β : Type} {f g : α → Option β} : ∀ {l : List α}, (∀ x ∈ l, f x = g x) → l.filterMap f = l.filterMap g
  | [], _ => rfl
  | a :: l, h => by
    rw [List.filterMap_cons, List.filterMap_cons, h a List.mem_cons_self, fm_congr fun x hx => h x (List.mem_cons_of_mem _ hx)]
theorem rev_run {α : Type} (xs : List α) : ∀ n, n ≤ xs.length → (List.range n).filterMap (fun m => xs[n - 1 - m]?) = (xs.take n).reverse
  | 0, _ => by simp
  | n + 1, h => by
    have hn : n < xs.length := h
    rw [List.range_succ_eq_map, List.filterMap_cons, List.filterMap_map]
    have e0 : xs[n + 1 - 1 - 0]? = some xs[n] := by
      rw [show n + 1 - 1 - 0 = n by omega]; exact List.getElem?_eq_getElem hn
    rw [e0]
    have e1 : (List.range n).filterMap ((fun m => xs[n + 1 - 1 - m]?) ∘ Nat.succ) = (List.range n).filterMap (fun m => xs[n - 1 - m]?) := fm_congr fun m hm => by
      show xs[n + 1 - 1 - (m + 1)]? = xs[n - 1 - m]?
      congr 1
      have := List.mem_range.mp hm
      omega
    rw [e1, rev_run xs n (by omega), List.take_succ_eq_append_getElem hn, List.reverse_append]
    rfl
theorem pick_rev (xs : Array Value) : ((List.range xs.size).filterMap fun (m : Nat) => xs[(((xs.size : Int) - 1) + (m : Int) * (-1)).toNat]?).toArray = xs.toList.reverse.toArray := by
  congr 1
  have h := rev_run xs.toList xs.size (by simp)
  rw [show xs.toList.take xs.size = xs.toList by exact List.take_of_length_le (by simp)] at h
  rw [← h]
  refine fm_congr fun m hm => ?_
  have := List.mem_range.mp hm
  rw [← Array.getElem?_toList]
  congr 1
  omega
section
variable {prog : Program} {w : World} {A : Around} {E : Value → Shared → Prop} {s : Shared}
theorem sliceApplied_rev {sl : Addr} {vl vu vs : Value} {n : Nat} {Q : Int × Int × Nat → Shared → Prop} (hs : s.heap.IsSliceOf sl vl vu vs) (pl : IsPart vl none) (pu : IsPart vu none) (ps : IsPart vs (some (-1)))
    (h : Q (((n : Int) - 1), -1, n) s) : wpAny (model prog w) A (Builtin.Slice.sliceApplied (.ref sl) (pure (n : Int))) Q E s := by
  obtain ⟨os, hos, hcs, hds⟩ := id hs
  unfold Builtin.Slice.sliceApplied Builtin.Slice.sliceFields
  refine wpAny_bind (wpAny_bind (wpAny_field hos hds (x := vl) rfl (wpAny_bind (wpAny_field hos hds (x := vu) rfl (wpAny_bind (wpAny_field hos hds (x := vs) rfl (wpAny_pure ?_)))))))
  refine wpAny_bind (slicePart_ ps ?_)
  show wpAny _ _ (if ((-1 : Int) == 0) = true then _ else _) _ _ s
  rw [if_neg (by decide)]
  refine wpAny_bind (slicePart_ pl (wpAny_bind (slicePart_ pu (wpAny_bind (wpAny_pure ?_)))))
  show wpAny _ _ (match Builtin.Slice.sliceAdjust none none (-1) (n : Int) with | (lo, hi) => pure (lo, (-1 : Int), Builtin.Slice.slicePlaces lo hi (-1))) _ _ s
  rw [adjust_rev n]
  show wpAny _ _ (pure (((n : Int) - 1), (-1 : Int), Builtin.Slice.slicePlaces ((n : Int) - 1) (-1) (-1))) _ _ s
  rw [places_rev]
  exact wpAny_pure h
theorem getItem_tuple_rev {t sl : Addr} {items : Array Value} {vl vu vs : Value} {Q : Value → Shared → Prop} (ht : IsTup s.heap t items) (hs : s.heap.IsSliceOf sl vl vu vs) (pl : IsPart vl none) (pu : IsPart vu none) (ps : IsPart vs (some (-1)))
    (h : Q (.ref s.heap.objs.size) { s with heap := s.heap.push { cls := .type "tuple", data := .seq items.toList.reverse.toArray } })
    (hsz : items.size ≤ sizeLine) : wpAny (model prog w) A (getItem (.ref t) (.ref sl)) Q E s := by
  have htake : sizeOk (.seq items.toList.reverse.toArray) := by
    show items.toList.reverse.toArray.size ≤ sizeLine
    rw [List.size_toArray, List.length_reverse, Array.length_toList]; exact hsz
  obtain ⟨os, hos, hcs, hds⟩ := id hs
  have hTs : s.TypeIs (.ref sl) "slice" := ⟨os, hos, hcs⟩
  unfold getItem
  try with_reducible refine wpAny_holding ?_
  first | refine wpAny_bind (wpAny_pure ?_) | skip
  refine wpAny_bind (wpAny_sequenceKey ht.typeIs (by decide) ?_)
  refine wpAny_bind (wpAny_callSpecial?_slot (name := Str.ofString "__getitem__") ht.typeIs PyProof.Rows.slot_tuple_getitem
    (wpAny_call_entry PyProof.Rows.slot_tuple_getitem ht.typeIs entry_tuple_getitem ?_ (args_tuple_getitem _ _)))
  show wpAny _ _ (Builtin.Tuple.tupleItemsOf (.ref t) >>= _) _ _ s
  refine wpAny_bind (tupleItemsOf_ ht ?_)
  refine wpAny_bind (wpAny_typeOf hTs ?_)
  rw [if_pos (by decide)]
  refine wpAny_bind (sliceApplied_rev hs pl pu ps ?_)
  have hno : ¬ ((((items.size : Int) - 1) == 0 && (-1 : Int) == 1 && items.size == items.size) = true) := by
    intro q
    rw [Bool.and_eq_true, Bool.and_eq_true] at q
    exact absurd q.1.2 (by decide)
  show wpAny _ _ (if (((items.size : Int) - 1) == 0 && (-1 : Int) == 1 && items.size == items.size) = true then _ else _) _ _ s
  rw [if_neg hno, pick_rev]
  first
    | exact wpAny_bind (m := Builtin.Tuple.tupleExact _) (wpAny_newObj_type (wpAny_pure ⟨_, rfl, wpAny_pure h⟩) htake)
    | exact wpAny_bind (m := Builtin.Tuple.tupleExact _) (wpAny_newObj_type (wpAny_bind (wpAny_pure (wpAny_pure ⟨_, rfl, wpAny_pure h⟩))) htake)
    | exact wpAny_bind (wpAny_bind (m := Builtin.Tuple.tupleExact _) (wpAny_newObj_type (wpAny_pure (wpAny_pure ⟨_, rfl, wpAny_pure h⟩)) htake))
    | exact wpAny_bind (wpAny_bind (m := Builtin.Tuple.tupleExact _) (wpAny_newObj_type (wpAny_pure ⟨_, rfl, wpAny_pure h⟩) htake))
end
/-- x[::-1], list or tuple -/
def tRevA (K : PySem.W.Frag) (te : TE) : TE := fun σ H Q => te σ H fun x H1 => ∃ a xs, x = .ref a ∧ ((SqL K H1 a xs ∧ ∀ p, H1 p = none → Q (.ref p) (upd H1 p (.lst xs.reverse))) ∨ (SqT K H1 a xs ∧ ∀ p, H1 p = none → Q (.ref p) (upd H1 p (.tup xs.reverse))))
theorem pe_revA' {X : Cx} {e : Expr} {te : TE} {k : Nat} {p1 p2 p3 pos : Pos} (he : PE X e te) : PE X (.Subscript e (.Slice none none (some (.UnaryOp .USub (.Constant (.int 1) k p1) p2)) p3) pos) (tRevA X.K te) := by
  refine ⟨fun pins s σ H Q I h => ?_⟩
  refine Subscript_ (thn (he.run pins s σ H _ I h) fun v s1 ⟨x, H1, I1, r1, q1⟩ => ?_)
  obtain ⟨a, xs, ex, q⟩ := q1
  subst ex
  cases r1
  have hst : PO X (some (.UnaryOp .USub (.Constant (.int 1) k p1) p2)) (tPart (tUn (rU fun i => .int (-i)) (tC (.int 1)))) := po_some (pe_un un_neg pe_int)
  refine wpAny_Slice (thn (po_none.run pins s1 σ H1 (fun o H2 => o = none ∧ H2 = H1) I1 ⟨rfl, rfl⟩) fun vl s2 ⟨l, H2, I2, pl, el, e2⟩ => ?_)
  subst el e2
  refine thn (po_none.run pins s2 σ H2 (fun o H3 => o = none ∧ H3 = H2) I2 ⟨rfl, rfl⟩) fun vu s3 ⟨u, H3, I3, pu, eu, e3⟩ => ?_
  subst eu e3
  refine thn (hst.run pins s3 σ H3 (fun o H4 => o = some (-1) ∧ H4 = H3) I3 ⟨1, rfl, -1, rfl, rfl, rfl⟩) fun vs s4 ⟨o, H4, I4, ps, eo, e4⟩ => ?_
  subst eo e4
  have I5 : Inv X pins σ H4 { s4 with heap := s4.heap.push { cls := .type "slice", data := .fields #[vl, vu, vs] } } := I4.kept (t' := s4.toks) fun b ob q => Heap.get?_push_of_some _ q
  show wpAny (model X.prog X.w) X.A (subscriptTail e (.Slice none none (some (.UnaryOp .USub (.Constant (.int 1) k p1) p2)) p3) (.ref a) (.ref s4.heap.objs.size)) (EP X pins σ Q) X.xe { s4 with heap := s4.heap.push { cls := .type "slice", data := .fields #[vl, vu, vs] } }
  rcases q with ⟨hx, q⟩ | ⟨hx, q⟩
  · obtain ⟨its, r, ht, hz⟩ := I5.list hx
    have hlen := r.length
    refine tail_any (ops := [.ref a, .ref s4.heap.objs.size]) ht.isList.typeIs (PySem.slot_list_getitem.lookup) ?_ (by with_unfolding_all rfl)
    refine wpAny_getItem_list_slice ht.isList (Heap.IsSliceOf.new _ vl vu vs) pl pu ps (by decide) ?_ (by rw [List.size_toArray]; omega)
    rw [PySem.W.krv_pick]
    refine ⟨.ref _, _, I5.laid (t' := s4.toks) (o := .lst xs.reverse) (fun b ob q => Heap.get?_push_of_some _ q) (Nat.le_refl _) ?_, rfl, q _ (I5.hok.fresh (Nat.le_refl _))⟩
    exact ⟨by rw [List.length_reverse]; exact hz, _, 0, r.reverse, Heap.get?_push_size _ rfl⟩
  · obtain ⟨its, r, ht, hz⟩ := I5.tuple hx
    have hlen := r.length
    refine tail_any (ops := [.ref a, .ref s4.heap.objs.size]) ht.typeIs (PyProof.Rows.slot_tuple_getitem.lookup) ?_ (by with_unfolding_all rfl)
    refine getItem_tuple_rev ht (Heap.IsSliceOf.new _ vl vu vs) pl pu ps ?_ (by rw [List.size_toArray]; omega)
    refine ⟨.ref _, _, I5.laid (t' := s4.toks) (o := .tup xs.reverse) (fun b ob q => Heap.get?_push_of_some _ q) (Nat.le_refl _) ?_, rfl, q _ (I5.hok.fresh (Nat.le_refl _))⟩
    exact ⟨by rw [List.length_reverse]; exact hz, _, r.reverse, IsTup.new _ _⟩
end Dz

namespace Dz
open PySem PySem.Spec PyProof.Rows L2
/-! ## arithmetic -/
def mulOk (i j : Int) : Prop := i.natAbs.log2 + j.natAbs.log2 < 100000000
instance (i j : Int) : Decidable (mulOk i j) := by unfold mulOk; infer_instance
theorem mulOk.ok {i j : Int} (h : mulOk i j) : IntMulOk i j := by
  unfold mulOk at h
  unfold IntMulOk
  have hb : ¬ Builtin.Int.intTooBig (Builtin.Int.intBits i + Builtin.Int.intBits j) = true := by
    unfold Builtin.Int.intTooBig Builtin.Int.intBits
    have : (bitsLine : Int) ≥ 100000010 := by decide
    intro q
    have q := of_decide_eq_true q
    have e1 : (if (i == 0) = true then 0 else i.natAbs.log2 + 1) ≤ i.natAbs.log2 + 1 := by split <;> omega
    have e2 : (if (j == 0) = true then 0 else j.natAbs.log2 + 1) ≤ j.natAbs.log2 + 1 := by split <;> omega
    omega
  intro q
  rw [Bool.and_eq_true] at q
  exact hb q.2
theorem log2_le64 {i : Int} (h : i.natAbs < 2 ^ 64) : i.natAbs.log2 < 64 := by
  by_cases h0 : i.natAbs = 0
  · rw [h0]; decide
  · exact (Nat.log2_lt h0).mpr h
theorem mulOk_of {i j : Int} (h : i.natAbs < 2 ^ 64) (g : j.natAbs < 2 ^ 64) : mulOk i j := by
  have a := log2_le64 h
  have b := log2_le64 g
  unfold mulOk
  omega
def divOk (j : Int) : Prop := j ≠ 0 ∧ j.natAbs.log2 < 9000
instance (j : Int) : Decidable (divOk j) := by unfold divOk; infer_instance
def powOk (i j : Int) : Prop := 0 ≤ j ∧ j ≤ 1000000 ∧ i.natAbs < 2 ^ 64
instance (i j : Int) : Decidable (powOk i j) := by unfold powOk; infer_instance
def lstOf (d : D) (h : Hd) : Option (List D) := match d with
  | .lst ds => some ds
  | .ref i => match h[i]? with
    | some (.lst ds) => some ds
    | _ => none
  | _ => none
theorem lstOf_ok {K : PySem.W.Frag} {mg : Str → Option Value} {H : Hp} {ρ : Rh} {hd : Hd} {d : D} {ds : List D} {v : V} (HR : HRel K mg H ρ hd) (r : Rep K mg H ρ d v) (e : lstOf d hd = some ds) :
    ∃ a xs, v = .ref a ∧ Rd H a (.lst xs) ∧ xs.length ≤ sizeLine ∧ RepL K mg H ρ ds xs := by
  cases d with
  | lst ts =>
    obtain ⟨a, xs, e1, h1, h2, h3⟩ := r
    cases e
    exact ⟨a, xs, e1, h1.1, h2, h3⟩
  | ref i =>
    obtain ⟨a, e1, h1⟩ := r
    unfold lstOf at e
    dsimp only at e
    cases eo : hd[i]? with
    | none => rw [eo] at e; cases e
    | some o =>
      rw [eo] at e
      cases o with
      | ins C fs => cases e
      | lst ts =>
        cases e
        obtain ⟨xs, e2, z, r2⟩ := HR.obj i _ a eo h1
        exact ⟨a, xs, e1, .inl e2, z, r2⟩
  | _ => cases e
/-- result: a list of nobody's, or one of ours -/
def mkL (ds : List D) (h : Hd) : Option (D × Hd) := some (.lst ds, h)
def mkM (ds : List D) (h : Hd) : Option (D × Hd) := some (.ref h.length, h ++ [.lst ds])
/-- both ways of laying a list -/
structure Mk (mk : List D → Hd → Option (D × Hd)) : Prop where
  ok : ∀ {K : PySem.W.Frag} {mg : Str → Option Value} {H : Hp} {ρ : Rh} {hd : Hd} {Q : VK} {p : Addr} {ds : List D} {xs : List V}, HRel K mg H ρ hd → H p = none → xs.length ≤ sizeLine → RepL K mg H ρ ds xs →
    PostO K mg (rD K mg) ρ H Q (mk ds hd) → Q (.ref p) (upd H p (.lst xs))
theorem mk_L : Mk mkL := ⟨fun HR hp hz r q => PostO.new q HR hp (rep_lst HR hp hz r)⟩
theorem mk_M : Mk mkM := ⟨fun HR hp hz r q => by
  obtain ⟨a, b⟩ := HR.own hp hz r
  exact q _ _ _ b a (rep_own HR)⟩
def dAddW (mk : List D → Hd → Option (D × Hd)) : P2 := fun a b h => match a, b with
  | .int i, .int j => some (.int (i + j), h)
  | .str x, .str y => if x.length + y.length ≤ sizeLine then some (.str (x ++ y), h) else none
  | .tup xs, .tup ys => if xs.length + ys.length ≤ sizeLine then some (.tup (xs ++ ys), h) else none
  | a, b => match lstOf a h, lstOf b h with
    | some xs, some ys => if xs.length + ys.length ≤ sizeLine then mk (xs ++ ys) h else none
    | _, _ => none
abbrev dAdd : P2 := dAddW mkL
abbrev dAddM : P2 := dAddW mkM
section
variable {X : Cx}
theorem op_addW {mk : List D → Hd → Option (D × Hd)} (hk : Mk mk) : OpR X (binaryOp .Add) (rP2 X.K X.mg (dAddW mk)) := by
  intro pins s σ H x y v u Q I rx ry h
  obtain ⟨ρ, hd, dx, dy, HR, r1, r2, q⟩ := h
  have lists : ∀ {o : Option (D × Hd)}, PostO X.K X.mg (rD X.K X.mg) ρ H Q o → o = (match lstOf dx hd, lstOf dy hd with
      | some xs, some ys => if xs.length + ys.length ≤ sizeLine then mk (xs ++ ys) hd else none
      | _, _ => none) → wpAny (model X.prog X.w) X.A (binaryOp .Add v u) (EP X pins σ Q) X.xe s := fun {o} q e => by
    subst e
    cases e1 : lstOf dx hd with
    | none => rw [e1] at q; exact q.elim
    | some xs =>
      cases e2 : lstOf dy hd with
      | none => rw [e1, e2] at q; exact q.elim
      | some ys =>
        rw [e1, e2] at q
        obtain ⟨a, vs, ea, ha, za, ra⟩ := lstOf_ok HR r1 e1
        obtain ⟨b, ws, eb, hb, zb, rb⟩ := lstOf_ok HR r2 e2
        by_cases hz : xs.length + ys.length ≤ sizeLine
        · dsimp only at q
          rw [if_pos hz] at q
          have hz' : vs.length + ws.length ≤ sizeLine := by rw [← RepL.length ra, ← RepL.length rb]; exact hz
          exact op_catR pins s σ H x y v u Q I rx ry ⟨a, b, vs, ws, ea, eb, ha, hb, hz', fun p hp => hk.ok HR hp (by rw [List.length_append]; exact hz') (RepL.append ra rb) q⟩
        · dsimp only at q; rw [if_neg hz] at q; exact q.elim
  cases dx <;> try exact lists q rfl
  case int i =>
    cases dy <;> try exact lists q rfl
    case int j => exact op_add pins s σ H x y v u Q I rx ry ⟨i, j, r1, r2, PostO.pure q HR rfl⟩
  case str a =>
    cases dy <;> try exact lists q rfl
    case str b =>
      by_cases hz : a.length + b.length ≤ sizeLine
      · have q : PostO X.K X.mg (rD X.K X.mg) ρ H Q (if a.length + b.length ≤ sizeLine then some (.str (a ++ b), hd) else none) := q
        rw [if_pos hz] at q
        exact op_add_str pins s σ H x y v u Q I rx ry ⟨a, b, r1.1, r2.1, hz, PostO.pure q HR ⟨rfl, by rw [strLen_append]; exact hz⟩⟩
      · have q : PostO X.K X.mg (rD X.K X.mg) ρ H Q (if a.length + b.length ≤ sizeLine then some (.str (a ++ b), hd) else none) := q
        rw [if_neg hz] at q; exact q.elim
  case tup xs =>
    cases dy <;> try exact lists q rfl
    case tup ys =>
      have q : PostO X.K X.mg (rD X.K X.mg) ρ H Q (if xs.length + ys.length ≤ sizeLine then some (.tup (xs ++ ys), hd) else none) := q
      by_cases hz : xs.length + ys.length ≤ sizeLine
      · rw [if_pos hz] at q
        obtain ⟨a, vs, ea, ha, za, ra⟩ := r1
        obtain ⟨b, ws, eb, hb, zb, rb⟩ := r2
        have la := RepL.length ra
        have lb := RepL.length rb
        have hz' : vs.length + ws.length ≤ sizeLine := by rw [← la, ← lb]; exact hz
        refine op_catA pins s σ H x y v u Q I rx ry ⟨a, b, vs, ws, ea, eb, ha, hb, hz', fun e => ?_, fun _ e => ?_, fun _ _ p hp => ?_⟩
        · subst e
          have : xs = [] := List.eq_nil_of_length_eq_zero la
          subst this
          exact PostO.pure q HR ⟨b, ws, rfl, hb, zb, rb⟩
        · subst e
          have : ys = [] := List.eq_nil_of_length_eq_zero lb
          subst this
          rw [List.append_nil] at q
          exact PostO.pure q HR ⟨a, vs, rfl, ha, za, ra⟩
        · exact PostO.new q HR hp (rep_tup hp (by rw [List.length_append]; exact hz') (RepL.append ra rb))
      · rw [if_neg hz] at q; exact q.elim
theorem op_add' : OpR X (binaryOp .Add) (rP2 X.K X.mg dAdd) := op_addW mk_L
theorem op_addM' : OpR X (binaryOp .Add) (rP2 X.K X.mg dAddM) := op_addW mk_M
end
/-- ints alone -/
def ipo (ok : Int → Int → Prop) [∀ i j, Decidable (ok i j)] (f : Int → Int → D) : P2 := fun a b h => match a, b with
  | .int i, .int j => if ok i j then some (f i j, h) else none
  | _, _ => none
def tt2 (_ _ : Int) : Prop := True
instance (i j : Int) : Decidable (tt2 i j) := .isTrue trivial
theorem opIpo {X : Cx} {op : Value → Value → Sem Value} {ok : Int → Int → Prop} [∀ i j, Decidable (ok i j)] {f : Int → Int → D} {g : Int → Int → V} (ho : OpR X op (rI ok g)) (hg : ∀ i j H ρ, Rep X.K X.mg H ρ (f i j) (g i j)) : OpR X op (rP2 X.K X.mg (ipo ok f)) := by
  intro pins s σ H x y v u Q I rx ry h
  obtain ⟨ρ, hd, dx, dy, HR, r1, r2, q⟩ := h
  cases dx <;> try exact q.elim
  case int i =>
    cases dy <;> try exact q.elim
    case int j =>
      have q : PostO X.K X.mg (rD X.K X.mg) ρ H Q (if ok i j then some (f i j, hd) else none) := q
      by_cases hz : ok i j
      · rw [if_pos hz] at q
        exact ho pins s σ H x y v u Q I rx ry ⟨i, j, r1, r2, hz, PostO.pure q HR (hg i j H ρ)⟩
      · rw [if_neg hz] at q; exact q.elim
def dSub : P2 := ipo tt2 fun i j => .int (i - j)
def dDiv : P2 := ipo (fun _ j => divOk j) fun i j => .int (i.fdiv j)
def dMod : P2 := ipo (fun _ j => j ≠ 0) fun i j => .int (i.fmod j)
def dPow : P2 := ipo powOk fun i j => .int (i ^ j.toNat)
def dLt : P2 := ipo tt2 fun i j => .bl (decide (i < j))
def dLe : P2 := ipo tt2 fun i j => .bl (decide (i ≤ j))
def dGt : P2 := ipo tt2 fun i j => .bl (decide (j < i))
def dGe : P2 := ipo tt2 fun i j => .bl (decide (j ≤ i))
section
variable {X : Cx}
theorem op_sub' : OpR X (binaryOp .Sub) (rP2 X.K X.mg dSub) := opIpo (opI fun _ _ _ _ _ _ _ _ q => sub_int q) fun _ _ _ _ => rfl
theorem op_div' : OpR X (binaryOp .FloorDiv) (rP2 X.K X.mg dDiv) := opIpo (opI fun _ _ _ _ _ _ _ hc q => floordiv_int hc.1 q (.inl (PyProof.noPylong_of_log2 hc.2))) fun _ _ _ _ => rfl
theorem op_mod' : OpR X (binaryOp .Mod) (rP2 X.K X.mg dMod) := opIpo op_modN fun _ _ _ _ => rfl
theorem op_pow' : OpR X (binaryOp .Pow) (rP2 X.K X.mg dPow) := opIpo (opI fun _ _ _ _ _ _ _ hc q => pow_int_small hc.1 hc.2.1 hc.2.2 q) fun _ _ _ _ => rfl
theorem opB0' {f : Value → Value → Sem Value} {g : Int → Int → Bool} (h : OpR X f (rI0 fun i j => .bl (g i j))) : OpR X f (rI tt2 fun i j => .bl (g i j)) :=
  fun pins s σ H x y v u Q I rx ry ⟨i, j, e1, e2, _, q⟩ => h pins s σ H x y v u Q I rx ry ⟨i, j, e1, e2, q⟩
theorem op_lt' : OpR X (compareOp .Lt) (rP2 X.K X.mg dLt) := opIpo (opB0' op_lt) fun _ _ _ _ => rfl
theorem op_le' : OpR X (compareOp .LtE) (rP2 X.K X.mg dLe) := opIpo (opB0' op_le) fun _ _ _ _ => rfl
theorem op_gt' : OpR X (compareOp .Gt) (rP2 X.K X.mg dGt) := opIpo (opB0' op_gt) fun _ _ _ _ => rfl
theorem op_ge' : OpR X (compareOp .GtE) (rP2 X.K X.mg dGe) := opIpo (opB0' op_ge) fun _ _ _ _ => rfl
def dNeg : P1 := fun a h => match a with
  | .int i => some (.int (-i), h)
  | _ => none
theorem un_neg' : UnR X (unaryOp .USub) (rP1 X.K X.mg dNeg) := by
  intro pins s σ H x v Q I rx h
  obtain ⟨ρ, hd, dx, HR, r1, q⟩ := h
  cases dx <;> try exact q.elim
  case int i => exact un_neg pins s σ H x v Q I rx ⟨i, r1, PostO.pure q HR rfl⟩
def dMulW (mk : List D → Hd → Option (D × Hd)) : P2 := fun a b h => match a, b with
  | .int i, .int j => if mulOk i j then some (.int (i * j), h) else none
  | .tup xs, .int k => if -1000 ≤ k ∧ k ≤ 1000 ∧ xs.length ≤ 1000 then some (.tup (List.replicate k.toNat xs).flatten, h) else none
  | a, .int k => match lstOf a h with
    | some xs => if -1000 ≤ k ∧ k ≤ 1000 ∧ xs.length ≤ 1000 then mk (List.replicate k.toNat xs).flatten h else none
    | _ => none
  | _, _ => none
abbrev dMul : P2 := dMulW mkL
abbrev dMulM : P2 := dMulW mkM
theorem rep_len {α : Type} (xs : List α) {k : Int} (h1 : k ≤ 1000) (h2 : xs.length ≤ 1000) : xs.length * k.toNat ≤ sizeLine := by
  have : xs.length * k.toNat ≤ 1000 * 1000 := Nat.mul_le_mul h2 (by omega)
  have e : (1000000 : Nat) ≤ sizeLine := by decide
  omega
theorem flat_len {α : Type} (xs : List α) : ∀ n : Nat, (List.replicate n xs).flatten.length = xs.length * n
  | 0 => by simp
  | n + 1 => by rw [List.replicate_succ, List.flatten_cons, List.length_append, flat_len xs n, Nat.mul_succ, Nat.add_comm]
theorem op_mulW {mk : List D → Hd → Option (D × Hd)} (hk : Mk mk) : OpR X (binaryOp .Mult) (rP2 X.K X.mg (dMulW mk)) := by
  intro pins s σ H x y v u Q I rx ry h
  obtain ⟨ρ, hd, dx, dy, HR, r1, r2, q⟩ := h
  have lists : ∀ {k : Int} {o : Option (D × Hd)}, y = .int k → PostO X.K X.mg (rD X.K X.mg) ρ H Q o → o = (match lstOf dx hd with
      | some xs => if -1000 ≤ k ∧ k ≤ 1000 ∧ xs.length ≤ 1000 then mk (List.replicate k.toNat xs).flatten hd else none
      | _ => none) → wpAny (model X.prog X.w) X.A (binaryOp .Mult v u) (EP X pins σ Q) X.xe s := fun {k o} hy q e => by
    subst e
    cases e1 : lstOf dx hd with
    | none => rw [e1] at q; exact q.elim
    | some xs =>
      rw [e1] at q
      obtain ⟨a, vs, ea, ha, za, ra⟩ := lstOf_ok HR r1 e1
      have la := RepL.length ra
      by_cases hz : -1000 ≤ k ∧ k ≤ 1000 ∧ xs.length ≤ 1000
      · dsimp only at q
        rw [if_pos hz] at q
        obtain ⟨z1, z2, z3⟩ := hz
        have hl : vs.length * k.toNat ≤ sizeLine := rep_len vs z2 (by omega)
        exact op_repR pins s σ H x y v u Q I rx ry ⟨a, k, vs, ea, hy, ha, by omega, by omega, hl, fun p hp => hk.ok HR hp (by rw [flat_len]; exact hl) (RepL.rep ra _) q⟩
      · dsimp only at q; rw [if_neg hz] at q; exact q.elim
  cases dy with
  | int k =>
    cases dx <;> try exact lists r2 q rfl
    case int i =>
      have q : PostO X.K X.mg (rD X.K X.mg) ρ H Q (if mulOk i k then some (.int (i * k), hd) else none) := q
      by_cases hz : mulOk i k
      · rw [if_pos hz] at q
        exact (opI fun _ _ _ _ _ _ _ hc q => mul_int q (mulOk.ok hc) : OpR X (binaryOp .Mult) (rI mulOk fun i j => .int (i * j))) pins s σ H x y v u Q I rx ry ⟨i, k, r1, r2, hz, PostO.pure q HR rfl⟩
      · rw [if_neg hz] at q; exact q.elim
    case tup xs =>
      have q : PostO X.K X.mg (rD X.K X.mg) ρ H Q (if -1000 ≤ k ∧ k ≤ 1000 ∧ xs.length ≤ 1000 then some (.tup (List.replicate k.toNat xs).flatten, hd) else none) := q
      by_cases hz : -1000 ≤ k ∧ k ≤ 1000 ∧ xs.length ≤ 1000
      · rw [if_pos hz] at q
        obtain ⟨a, vs, ea, ha, za, ra⟩ := r1
        have la := RepL.length ra
        obtain ⟨z1, z2, z3⟩ := hz
        refine op_repTA pins s σ H x y v u Q I rx ry ⟨a, k, vs, ea, r2, ha, z1, z2, by omega, fun e => ?_, fun _ _ p hp => ?_⟩
        · have ef : (List.replicate k.toNat xs).flatten = xs := by
            rcases e with e | e
            · subst e
              have : xs = [] := List.eq_nil_of_length_eq_zero la
              subst this
              rw [List.flatten_replicate_nil]
            · subst e
              show (List.replicate 1 xs).flatten = xs
              simp
          rw [ef] at q
          exact PostO.pure q HR ⟨a, vs, rfl, ha, za, ra⟩
        · exact PostO.new q HR hp (rep_tup hp (by rw [flat_len]; exact rep_len vs z2 (by omega)) (RepL.rep ra _))
      · rw [if_neg hz] at q; exact q.elim
  | _ => cases dx <;> exact q.elim
theorem op_mul' : OpR X (binaryOp .Mult) (rP2 X.K X.mg dMul) := op_mulW mk_L
theorem op_mulM' : OpR X (binaryOp .Mult) (rP2 X.K X.mg dMulM) := op_mulW mk_M
end
/-! ## data to look at: ==, !=, repr -/
def mapO {α β : Type} (f : α → Option β) : List α → Option (List β)
  | [] => some []
  | a :: as => match f a, mapO f as with
    | some b, some bs => some (b :: bs)
    | _, _ => none
theorem mapO_map {α β γ : Type} {f : α → Option β} {g : γ → α} {k : γ → β} : ∀ {l : List γ}, (∀ c ∈ l, f (g c) = some (k c)) → mapO f (l.map g) = some (l.map k)
  | [], _ => rfl
  | c :: l, h => by
    rw [List.map_cons, List.map_cons]
    unfold mapO
    rw [h c List.mem_cons_self, mapO_map fun x hx => h x (List.mem_cons_of_mem _ hx)]
def pyOf (h : Hd) : Nat → D → Option PyData
  | 0, _ => none
  | n + 1, d => match d with
    | .non => some .none
    | .bl b => some (.bool b)
    | .int i => some (.int i)
    | .str x => some (.str x)
    | .tup ds => match mapO (pyOf h n) ds with
      | some ps => some (.tuple ps)
      | none => none
    | .lst ds => match mapO (pyOf h n) ds with
      | some ps => some (.list ps)
      | none => none
    | .ref i => match h[i]? with
      | some (.lst ds) => match mapO (pyOf h n) ds with
        | some ps => some (.list ps)
        | none => none
      | _ => none
    | _ => none
theorem mapO_all {f : D → Option PyData} {P : PyData → Prop} (hf : ∀ d p, f d = some p → P p) : ∀ {ds : List D} {ps : List PyData}, mapO f ds = some ps → ∀ p ∈ ps, P p
  | [], ps, e => by cases e; intro p hp; cases hp
  | d :: ds, ps, e => by
    unfold mapO at e
    cases e1 : f d with
    | none => rw [e1] at e; cases e
    | some b =>
      cases e2 : mapO f ds with
      | none => rw [e1, e2] at e; cases e
      | some bs =>
        rw [e1, e2] at e
        cases e
        intro p hp
        rcases List.mem_cons.mp hp with rfl | hp
        · exact hf d _ e1
        · exact mapO_all hf e2 p hp
theorem plainAll_of : ∀ {ps : List PyData}, (∀ p ∈ ps, p.plain = true) → PyData.plainAll ps = true
  | [], _ => rfl
  | p :: ps, h => by
    unfold PyData.plainAll
    rw [h p List.mem_cons_self, plainAll_of fun x hx => h x (List.mem_cons_of_mem _ hx)]
    rfl
theorem depthAll_of {n : Nat} : ∀ {ps : List PyData}, (∀ p ∈ ps, p.depth ≤ n) → PyData.depthAll ps ≤ n
  | [], _ => by simp [PyData.depthAll]
  | p :: ps, h => by
    have h1 := h p List.mem_cons_self
    have h2 := depthAll_of (n := n) (ps := ps) fun x hx => h x (List.mem_cons_of_mem _ hx)
    simp only [PyData.depthAll]
    omega
theorem pyOf_ok {h : Hd} : ∀ (n : Nat) (d : D) (p : PyData), pyOf h n d = some p → p.plain = true ∧ p.depth ≤ n
  | 0, d, p, e => by cases e
  | n + 1, d, p, e => by
    have ih := pyOf_ok (h := h) n
    have list : ∀ {ds : List D} {ps : List PyData}, mapO (pyOf h n) ds = some ps → PyData.plainAll ps = true ∧ PyData.depthAll ps ≤ n := fun e =>
      ⟨plainAll_of (mapO_all (P := fun p => p.plain = true) (fun d p e => (ih d p e).1) e), depthAll_of (mapO_all (P := fun p => p.depth ≤ n) (fun d p e => (ih d p e).2) e)⟩
    unfold pyOf at e
    cases d <;> dsimp only at e <;> try (cases e; exact ⟨rfl, by simp [PyData.depth]⟩)
    all_goals try (cases e)
    case tup ds =>
      cases e1 : mapO (pyOf h n) ds with
      | none => rw [e1] at e; cases e
      | some ps =>
        rw [e1] at e
        cases e
        have := list e1
        exact ⟨by simpa [PyData.plain] using this.1, by simp only [PyData.depth]; omega⟩
    case lst ds =>
      cases e1 : mapO (pyOf h n) ds with
      | none => rw [e1] at e; cases e
      | some ps =>
        rw [e1] at e
        cases e
        have := list e1
        exact ⟨by simpa [PyData.plain] using this.1, by simp only [PyData.depth]; omega⟩
    case ref i =>
      cases eo : h[i]? with
      | none => rw [eo] at e; cases e
      | some o =>
        rw [eo] at e
        cases o with
        | ins C fs => cases e
        | lst ds =>
          dsimp only at e
          cases e1 : mapO (pyOf h n) ds with
          | none => rw [e1] at e; cases e
          | some ps =>
            rw [e1] at e
            cases e
            have := list e1
            exact ⟨by simpa [PyData.plain] using this.1, by simp only [PyData.depth]; omega⟩
section
variable {K : PySem.W.Frag} {mg : Str → Option Value} {H : Hp} {ρ : Rh} {hd : Hd}
theorem dpAll_of {f : D → Option PyData} (hf : ∀ d p v, f d = some p → Rep K mg H ρ d v → Dp K H v p) : ∀ {ds : List D} {ps : List PyData} {vs : List V}, mapO f ds = some ps → RepL K mg H ρ ds vs → DpAll K H vs ps
  | [], ps, vs, e, r => by cases e; have r : vs = [] := r; subst r; exact .nil
  | d :: ds, ps, vs, e, r => by
    obtain ⟨v, rr, rfl, r1, r2⟩ := r
    unfold mapO at e
    cases e1 : f d with
    | none => rw [e1] at e; cases e
    | some b =>
      cases e2 : mapO f ds with
      | none => rw [e1, e2] at e; cases e
      | some bs =>
        rw [e1, e2] at e
        cases e
        exact .cons (hf d b v e1 r1) (dpAll_of hf e2 r2)
theorem dp_of (HR : HRel K mg H ρ hd) : ∀ (n : Nat) (d : D) (p : PyData) (v : V), pyOf hd n d = some p → Rep K mg H ρ d v → Dp K H v p
  | 0, d, p, v, e, r => by cases e
  | n + 1, d, p, v, e, r => by
    have ih := dp_of HR n
    unfold pyOf at e
    cases d <;> dsimp only at e <;> try (cases e)
    case non => have r : v = .non := r; subst r; exact .non
    case bl b => have r : v = .bl b := r; subst r; exact .bl b
    case int i => have r : v = .int i := r; subst r; exact .int i
    case str x => have r : v = .str x := r.1; subst r; exact .str x
    case tup ds =>
      obtain ⟨a, xs, rfl, h1, _, h3⟩ := r
      cases e1 : mapO (pyOf hd n) ds with
      | none => rw [e1] at e; cases e
      | some ps =>
        rw [e1] at e
        cases e
        exact .tup h1 (dpAll_of ih e1 h3)
    case lst ds =>
      obtain ⟨a, xs, rfl, h1, _, h3⟩ := r
      cases e1 : mapO (pyOf hd n) ds with
      | none => rw [e1] at e; cases e
      | some ps =>
        rw [e1] at e
        cases e
        exact .lst (.inl h1.1) (dpAll_of ih e1 h3)
    case ref i =>
      obtain ⟨a, rfl, ha⟩ := r
      cases eo : hd[i]? with
      | none => rw [eo] at e; cases e
      | some o =>
        rw [eo] at e
        cases o with
        | ins C fs => cases e
        | lst ds =>
          obtain ⟨xs, e2, z, r2⟩ := HR.obj i _ a eo ha
          dsimp only at e
          cases e1 : mapO (pyOf hd n) ds with
          | none => rw [e1] at e; cases e
          | some ps =>
            rw [e1] at e
            cases e
            exact .lst (SqL.of e2) (dpAll_of ih e1 r2)
end
def eqD (neg : Bool) : P2 := fun a b h => match pyOf h 8 a, pyOf h 8 b with
  | some x, some y => some (.bl (if neg then !PyData.eqv x y else PyData.eqv x y), h)
  | _, _ => none
abbrev dEq : P2 := eqD false
abbrev dNe : P2 := eqD true
section
variable {X : Cx}
theorem op_eq' (hu : X.A.units + 64 < cLine) : OpR X (compareOp .Eq) (rP2 X.K X.mg dEq) := by
  intro pins s σ H x y v u Q I rx ry h
  obtain ⟨ρ, hd, dx, dy, HR, r1, r2, q⟩ := h
  unfold dEq eqD at q
  cases e1 : pyOf hd 8 dx with
  | none => rw [e1] at q; exact q.elim
  | some a =>
    cases e2 : pyOf hd 8 dy with
    | none => rw [e1, e2] at q; exact q.elim
    | some b =>
      rw [e1, e2] at q
      obtain ⟨as, k1⟩ := Dp.reads I a x v (dp_of HR 8 _ _ _ e1 r1) rx
      obtain ⟨bs, k2⟩ := Dp.reads I b y u (dp_of HR 8 _ _ _ e2 r2) ry
      obtain ⟨p1, l1⟩ := pyOf_ok 8 _ _ e1
      obtain ⟨p2, l2⟩ := pyOf_ok 8 _ _ e2
      exact SeqAt.eq_plain k1 k2 p1 p2 (by have := Nat.min_le_left a.depth b.depth; omega) ⟨.bl _, H, I, rfl, PostO.pure q HR rfl⟩
theorem op_ne' (hu : X.A.units + 64 < cLine) : OpR X (compareOp .NotEq) (rP2 X.K X.mg dNe) := by
  intro pins s σ H x y v u Q I rx ry h
  obtain ⟨ρ, hd, dx, dy, HR, r1, r2, q⟩ := h
  unfold dNe eqD at q
  cases e1 : pyOf hd 8 dx with
  | none => rw [e1] at q; exact q.elim
  | some a =>
    cases e2 : pyOf hd 8 dy with
    | none => rw [e1, e2] at q; exact q.elim
    | some b =>
      rw [e1, e2] at q
      obtain ⟨as, k1⟩ := Dp.reads I a x v (dp_of HR 8 _ _ _ e1 r1) rx
      obtain ⟨bs, k2⟩ := Dp.reads I b y u (dp_of HR 8 _ _ _ e2 r2) ry
      obtain ⟨p1, l1⟩ := pyOf_ok 8 _ _ e1
      obtain ⟨p2, l2⟩ := pyOf_ok 8 _ _ e2
      exact SeqAt.ne_plain k1 k2 p1 p2 (by have := Nat.min_le_left a.depth b.depth; omega) ⟨.bl _, H, I, rfl, PostO.pure q HR rfl⟩
/-! is, is not -/
def isNon : D → Option Bool
  | .non => some true
  | .gl _ => none
  | _ => some false
theorem isNon_ok {K : PySem.W.Frag} {mg : Str → Option Value} {H : Hp} {ρ : Rh} {d : D} {v : V} {b : Bool} (r : Rep K mg H ρ d v) (e : isNon d = some b) : decide (v = .non) = b := by
  cases d with
  | non => cases e; have r : v = .non := r; subst r; rfl
  | gl n => cases e
  | bl x => cases e; have r : v = .bl x := r; subst r; rfl
  | int x => cases e; have r : v = .int x := r; subst r; rfl
  | str x => cases e; have r : v = .str x := r.1; subst r; rfl
  | tup ds => cases e; obtain ⟨a, xs, e, _⟩ := r; subst e; rfl
  | lst ds => cases e; obtain ⟨a, xs, e, _⟩ := r; subst e; rfl
  | scr ds => cases e; obtain ⟨a, xs, e, _⟩ := r; subst e; rfl
  | ref i => cases e; obtain ⟨a, e, _⟩ := r; subst e; rfl
  | dct => cases e; obtain ⟨a, e, _⟩ := r; subst e; rfl
  | ty t => cases e; have r : v = .ty t := r; subst r; rfl
  | ex a => cases e; have r : v = .ref a := r; subst r; rfl
def isD (neg : Bool) : P2 := fun a b h => match b with
  | .non => match isNon a with
    | some k => some (.bl (if neg then !k else k), h)
    | none => none
  | .bl y => match a with
    | .bl x => some (.bl (if neg then !decide (x = y) else decide (x = y)), h)
    | _ => none
  | _ => none
theorem op_is' : OpR X (compareOp .Is) (rP2 X.K X.mg (isD false)) := by
  intro pins s σ H x y v u Q I rx ry h
  obtain ⟨ρ, hd, dx, dy, HR, r1, r2, q⟩ := h
  unfold isD at q
  cases dy <;> try exact q.elim
  case non =>
    dsimp only at q
    cases e1 : isNon dx with
    | none => rw [e1] at q; exact q.elim
    | some b =>
      rw [e1] at q
      refine op_isN pins s σ H x y v u Q I rx ry ⟨r2, ?_⟩
      rw [isNon_ok r1 e1]
      exact PostO.pure q HR rfl
  case bl b =>
    dsimp only at q
    cases dx <;> try exact q.elim
    case bl a => exact op_isBl pins s σ H x y v u Q I rx ry ⟨a, b, r1, r2, PostO.pure q HR rfl⟩
theorem op_isnot' : OpR X (compareOp .IsNot) (rP2 X.K X.mg (isD true)) := by
  intro pins s σ H x y v u Q I rx ry h
  obtain ⟨ρ, hd, dx, dy, HR, r1, r2, q⟩ := h
  unfold isD at q
  cases dy <;> try exact q.elim
  case non =>
    dsimp only at q
    cases e1 : isNon dx with
    | none => rw [e1] at q; exact q.elim
    | some b =>
      rw [e1] at q
      refine op_notN pins s σ H x y v u Q I rx ry ⟨r2, ?_⟩
      rw [isNon_ok r1 e1]
      exact PostO.pure q HR rfl
  case bl b =>
    dsimp only at q
    cases dx <;> try exact q.elim
    case bl a => exact op_notBl pins s σ H x y v u Q I rx ry ⟨a, b, r1, r2, PostO.pure q HR rfl⟩
end
end Dz

namespace Dz
open PySem PySem.Spec PyProof.Rows L2
section
variable {K : PySem.W.Frag} {mg : Str → Option Value} {H : Hp} {ρ : Rh}
theorem RepL.at {ds : List D} {vs : List V} {i : Int} {d : D} (r : RepL K mg H ρ ds vs) (e : atI ds i = some d) : ∃ v, atI vs i = some v ∧ Rep K mg H ρ d v := by
  unfold atI at e ⊢
  rw [← RepL.length r]
  cases ei : ixN ds.length i with
  | none => rw [ei] at e; cases e
  | some j =>
    rw [ei] at e
    exact r.get' (show ds[j]? = some d from e)
end
/-! ## a[i] -/
def dIx : P2 := fun a b h => match b with
  | .int i => match seqOf a h with
    | some ds => match atI ds i with
      | some d => some (d, h)
      | none => none
    | none => match a with
      | .str z => match atI z.cps.toList i with
        | some c => some (.str ⟨#[c]⟩, h)
        | none => none
      | _ => none
  | _ => none
section
variable {X : Cx} {W : WX}
theorem ix_D : IxR X (rP2 X.K X.mg dIx) := by
  intro value slice pins s σ H x y v u Q I rx ry h hs
  obtain ⟨ρ, hd, dx, dy, HR, r1, r2, q⟩ := h
  unfold dIx at q
  cases dy <;> try exact q.elim
  case int i =>
    dsimp only at q
    cases e : seqOf dx hd with
    | some ds =>
      rw [e] at q
      dsimp only at q
      obtain ⟨a, xs, e1, z, rl, sq⟩ := seqOf_ok HR r1 e
      cases e2 : atI ds i with
      | none => rw [e2] at q; exact q.elim
      | some d =>
        rw [e2] at q
        obtain ⟨w, ew, rw'⟩ := rl.at e2
        rcases sq with ⟨sq, _⟩ | ⟨sq, _⟩
        · exact ix_tup value slice pins s σ H x y v u Q I rx ry ⟨a, xs, i, w, e1, r2, sq, ew, PostO.pure q HR rw'⟩ hs
        · exact ix_list value slice pins s σ H x y v u Q I rx ry ⟨a, xs, i, w, e1, r2, sq, ew, PostO.pure q HR rw'⟩ hs
    | none =>
      rw [e] at q
      dsimp only at q
      cases dx <;> try exact q.elim
      case str z =>
        dsimp only at q
        cases e2 : atI z.cps.toList i with
        | none => rw [e2] at q; exact q.elim
        | some c =>
          rw [e2] at q
          exact ix_str value slice pins s σ H x y v u Q I rx ry ⟨z, i, c, r1.1, r2, r1.2, e2, PostO.pure q HR ⟨rfl, by show 1 ≤ sizeLine; decide⟩⟩ hs
theorem d_ix {a b : Expr} {fa fb : Den} {pos : Pos} (ha : DE X W a fa) (hb : DE X W b fb) (hs : PlainIx b := by intro _ _; rfl) : DE X W (.Subscript a b pos) (bin2 dIx fa fb) :=
  PE.weak (pe_ix ix_D ha hb hs) fun σ H Q h => bin2_ok h
/-! ## a[lo:hi], a[::-1] -/
def slP (mk : List D → Hd → Option (D × Hd)) (lo hi : Option Int) : P1 := fun a h => match a with
  | .tup xs => some (.tup (cutD xs lo hi), h)
  | a => match seqOf a h with
    | some xs => mk (cutD xs lo hi) h
    | none => none
theorem cutD_length (xs : List D) (lo hi : Option Int) : (cutD xs lo hi).length ≤ xs.length := by
  unfold cutD
  rw [List.length_take, List.length_drop]
  omega
theorem cutD_whole {xs : List D} {lo hi : Option Int} (h : HT.sIx xs.length 0 lo = 0 ∧ HT.sIx xs.length xs.length hi = xs.length) : cutD xs lo hi = xs := by
  unfold cutD
  rw [h.1, h.2, List.drop_zero, Nat.sub_zero, List.take_length]
def rSlD (K : PySem.W.Frag) (mg : Str → Option Value) (mk : List D → Hd → Option (D × Hd)) : V → Option Int → Option Int → Hp → VK → Prop := fun x lo hi H Q => ∃ ρ h dx, HRel K mg H ρ h ∧ Rep K mg H ρ dx x ∧ PostO K mg (rD K mg) ρ H Q (slP mk lo hi dx h)
theorem sl_D {mk : List D → Hd → Option (D × Hd)} (hk : Mk mk) : SlR X (rSlD X.K X.mg mk) := by
  intro pins s σ H x v vl vu lo hi sl Q I rx hs pl pu h
  obtain ⟨ρ, hd, dx, HR, r1, q⟩ := h
  have lists : (∀ ts, dx ≠ .tup ts) → PostO X.K X.mg (rD X.K X.mg) ρ H Q (match seqOf dx hd with
      | some xs => mk (cutD xs lo hi) hd
      | none => none) → ∃ T id, typeLookup (.type T) "__getitem__" = pure (some (.builtin id)) ∧ s.TypeIs v T ∧ wpAny (model X.prog X.w) X.A (getItem v (.ref sl)) (EP X pins σ Q) X.xe s := fun hn q => by
    cases e : seqOf dx hd with
    | none => rw [e] at q; exact q.elim
    | some xs =>
      rw [e] at q
      obtain ⟨a, vs, e1, z, rl, sq⟩ := seqOf_ok HR r1 e
      rcases sq with ⟨_, sq⟩ | ⟨sq, _⟩
      · exact absurd sq (hn _)
      · exact sl_list pins s σ H x v vl vu lo hi sl Q I rx hs pl pu ⟨a, vs, e1, sq, fun p hp => hk.ok HR hp (Nat.le_trans (cutV_length vs lo hi) z) (RepL.cutv lo hi rl) q⟩
  cases dx <;> try exact lists (fun _ z => by cases z) q
  case tup xs =>
    obtain ⟨a, vs, ea, ha, za, ra⟩ := r1
    have la := RepL.length ra
    refine sl_tupA pins s σ H x v vl vu lo hi sl Q I rx hs pl pu ⟨a, vs, ea, ha, fun hw => ?_, fun _ p hp => ?_⟩
    · have q : PostO X.K X.mg (rD X.K X.mg) ρ H Q (some (.tup (cutD xs lo hi), hd)) := q
      rw [cutD_whole (by rw [la]; exact hw)] at q
      exact PostO.pure q HR ⟨a, vs, rfl, ha, za, ra⟩
    · exact PostO.new q HR hp (rep_tup hp (Nat.le_trans (cutV_length vs lo hi) za) (RepL.cutv lo hi ra))
abbrev DenO := Sd → Hd → Out (Option Int)
abbrev DO (X : Cx) (W : WX) (e : Option Expr) (f : DenO) : Prop := PO X e (tG X.K X.mg (rE (Option Int)) W f)
def oNone : DenO := fun _ h => .ok none h
def oSome (f : Den) : DenO := fun σ h => (f σ h).bind fun d h1 => match d with
  | .int i => .ok (some i) h1
  | _ => .stuck
theorem PO.weak {X : Cx} {e : Option Expr} {t t' : TO} (p : PO X e t) (h : ∀ σ H Q, t' σ H Q → t σ H Q) : PO X e t' := ⟨fun pins s σ H Q I q => p.run pins s σ H Q I (h _ _ _ q)⟩
theorem o_none : DO X W none oNone := PO.weak po_none fun σ H Q h => by
  obtain ⟨ρ, σd, hd, HR, S, h⟩ := h
  exact h none H ρ Grow.refl HR rfl
theorem o_some {e : Expr} {f : Den} (h : DE X W e f) : DO X W (some e) (oSome f) := PO.weak (po_some h) fun σ H Q h => by
  obtain ⟨ρ, σd, hd, HR, S, h⟩ := h
  refine ⟨ρ, σd, hd, HR, S, (PostG.bind (rD X.K X.mg) h).mono fun x H1 ⟨dx, h1, ρ1, G1, HR1, r1, q1⟩ => ?_⟩
  cases dx with
  | int i => exact ⟨i, r1, q1 _ H1 ρ1 Grow.refl HR1 rfl⟩
  | _ => exact q1.elim
def slD (mk : List D → Hd → Option (D × Hd)) (fa : Den) (fl fh : DenO) : Den := fun σ h => (fa σ h).bind fun x h1 => (fl σ h1).bind fun lo h2 => (fh σ h2).bind fun hi h3 => lift (slP mk lo hi x h3)
theorem d_slW {mk : List D → Hd → Option (D × Hd)} (hk : Mk mk) {a : Expr} {lo hi : Option Expr} {fa : Den} {fl fh : DenO} {p2 pos : Pos} (ha : DE X W a fa) (hl : DO X W lo fl) (hh : DO X W hi fh) : DE X W (.Subscript a (.Slice lo hi none p2) pos) (slD mk fa fl fh) :=
  PE.weak (pe_slice (sl_D hk) ha hl hh) fun σ H Q h => by
    obtain ⟨ρ, σd, hd, HR, S, h⟩ := h
    refine ⟨ρ, σd, hd, HR, S, (PostG.bind (rD X.K X.mg) h).mono fun x H1 ⟨dx, h1, ρ1, G1, HR1, r1, q1⟩ => ?_⟩
    refine ⟨ρ1, σd, h1, HR1, S.grow G1, (PostG.bind (rE (Option Int)) q1).mono fun lo H2 ⟨dl, h2, ρ2, G2, HR2, r2, q2⟩ => ?_⟩
    refine ⟨ρ2, σd, h2, HR2, (S.grow G1).grow G2, (PostG.bind (rE (Option Int)) q2).mono fun hi H3 ⟨dh, h3, ρ3, G3, HR3, r3, q3⟩ => ?_⟩
    have r2 : dl = lo := r2
    have r3 : dh = hi := r3
    subst r2 r3
    exact ⟨ρ3, h3, dx, HR3, G3.rep _ _ (G2.rep _ _ r1), q3.lift⟩
theorem d_sl {a : Expr} {lo hi : Option Expr} {fa : Den} {fl fh : DenO} {p2 pos : Pos} (ha : DE X W a fa) (hl : DO X W lo fl) (hh : DO X W hi fh) : DE X W (.Subscript a (.Slice lo hi none p2) pos) (slD mkL fa fl fh) := d_slW mk_L ha hl hh
theorem d_slM {a : Expr} {lo hi : Option Expr} {fa : Den} {fl fh : DenO} {p2 pos : Pos} (ha : DE X W a fa) (hl : DO X W lo fl) (hh : DO X W hi fh) : DE X W (.Subscript a (.Slice lo hi none p2) pos) (slD mkM fa fl fh) := d_slW mk_M ha hl hh
def revP : P1 := fun a h => match a with
  | .tup xs => some (.tup xs.reverse, h)
  | a => match seqOf a h with
    | some xs => some (.lst xs.reverse, h)
    | none => none
theorem d_rev {a : Expr} {fa : Den} {k : Nat} {p1 p2 p3 pos : Pos} (ha : DE X W a fa) : DE X W (.Subscript a (.Slice none none (some (.UnaryOp .USub (.Constant (.int 1) k p1) p2)) p3) pos) (un1 revP fa) :=
  PE.weak (pe_revA' ha) fun σ H Q h => by
    obtain ⟨ρ, σd, hd, HR, S, h⟩ := h
    refine ⟨ρ, σd, hd, HR, S, (PostG.bind (rD X.K X.mg) h).mono fun x H1 ⟨dx, h1, ρ1, G1, HR1, r1, q1⟩ => ?_⟩
    have q1 := q1.lift
    have lists : (∀ ts, dx ≠ .tup ts) → PostO X.K X.mg (rD X.K X.mg) ρ1 H1 Q (match seqOf dx h1 with
      | some xs => some (.lst xs.reverse, h1)
      | none => none) → ∃ a xs, x = .ref a ∧ ((SqL X.K H1 a xs ∧ ∀ p, H1 p = none → Q (.ref p) (upd H1 p (.lst xs.reverse))) ∨ (SqT X.K H1 a xs ∧ ∀ p, H1 p = none → Q (.ref p) (upd H1 p (.tup xs.reverse)))) := fun hn q => by
      cases e : seqOf dx h1 with
      | none => rw [e] at q; exact q.elim
      | some xs =>
        rw [e] at q
        obtain ⟨a, vs, e1, z, rl, sq⟩ := seqOf_ok HR1 r1 e
        rcases sq with ⟨_, sq⟩ | ⟨sq, _⟩
        · exact absurd sq (hn _)
        · exact ⟨a, vs, e1, .inl ⟨sq, fun p hp => mk_L.ok HR1 hp (by rw [List.length_reverse]; exact z) (RepL.reverse rl) q⟩⟩
    cases dx <;> try exact lists (fun _ z => by cases z) q1
    case tup xs =>
      obtain ⟨a, vs, ea, ha, za, ra⟩ := r1
      exact ⟨a, vs, ea, .inr ⟨ha, fun p hp => PostO.new q1 HR1 hp (rep_tup hp (by rw [List.length_reverse]; exact za) (RepL.reverse ra))⟩⟩
/-! ## a < b < c -/
theorem chain_ok {p p' : P2} {fa fb fc : Den} {σ : L2.St} {H : Hp} {Q : VK} (h : tG X.K X.mg (rD X.K X.mg) W (chain3 p p' fa fb fc) σ H Q) :
    tChain (rP2 X.K X.mg p) (rP2 X.K X.mg p') (tG X.K X.mg (rD X.K X.mg) W fa) (tG X.K X.mg (rD X.K X.mg) W fb) (tG X.K X.mg (rD X.K X.mg) W fc) σ H Q := by
  obtain ⟨ρ, σd, hd, HR, S, h⟩ := h
  refine ⟨ρ, σd, hd, HR, S, (PostG.bind (rD X.K X.mg) h).mono fun x H1 ⟨dx, h1, ρ1, G1, HR1, r1, q1⟩ => ?_⟩
  refine ⟨ρ1, σd, h1, HR1, S.grow G1, (PostG.bind (rD X.K X.mg) q1).mono fun y H2 ⟨dy, h2, ρ2, G2, HR2, r2, q2⟩ => ?_⟩
  have S2 := (S.grow G1).grow G2
  refine ⟨ρ2, h2, dx, dy, HR2, G2.rep _ _ r1, r2, ?_⟩
  have q3 := PostG.lift (PostG.bind (rD X.K X.mg) q2)
  cases e : p dx dy h2 with
  | none => rw [e] at q3; exact q3.elim
  | some pr =>
    obtain ⟨z, h3⟩ := pr
    rw [e] at q3 q2
    intro b H3 ρ3 G3 HR3 r3
    have q4 := PostG.grow G3 q2
    clear q3 q2
    cases z <;> try exact q4.elim
    case bl k =>
      have r3 : b = .bl k := r3
      subst r3
      refine ⟨k, rfl, ?_⟩
      cases k with
      | false =>
        rw [if_neg Bool.false_ne_true]
        exact q4 _ H3 ρ3 Grow.refl HR3 rfl
      | true =>
        rw [if_pos rfl]
        have q4 : PostG X.K X.mg (rD X.K X.mg) (fun c d H' => W c d σ H') ρ3 H3 Q ((fc σd h3).bind fun w h4 => lift (p' dy w h4)) := q4
        refine ⟨ρ3, σd, h3, HR3, S2.grow G3, (PostG.bind (rD X.K X.mg) q4).mono fun w H4 ⟨dw, h4, ρ4, G4, HR4, r4, q5⟩ => ?_⟩
        exact ⟨ρ4, h4, dy, dw, HR4, G4.rep _ _ (G3.rep _ _ r2), r4, q5.lift⟩
theorem d_chain {op op' : CmpOp} {p p' : P2} {a b c : Expr} {fa fb fc : Den} {pos : Pos} (ho : OpR X (compareOp op) (rP2 X.K X.mg p)) (ho' : OpR X (compareOp op') (rP2 X.K X.mg p')) (ha : DE X W a fa) (hb : DE X W b fb) (hc : DE X W c fc)
    (hm : lastMarks [op, op'] [b, c] = false := by with_unfolding_all rfl) : DE X W (.Compare a [op, op'] [b, c] pos) (chain3 p p' fa fb fc) := PE.weak (pe_chain ho ho' ha hb hc hm) fun σ H Q h => chain_ok h
theorem t_chain {op op' : CmpOp} {p p' : P2} {a b c : Expr} {fa fb fc : Den} {pos : Pos} (ho : OpR X (compareOp op) (rP2 X.K X.mg p)) (ho' : OpR X (compareOp op') (rP2 X.K X.mg p')) (ha : DE X W a fa) (hb : DE X W b fb) (hc : DE X W c fc)
    (hm : lastMarks [op, op'] [b, c] = false := by with_unfolding_all rfl) : DT X W (.Compare a [op, op'] [b, c] pos) (asB (chain3 p p' fa fb fc)) := PT.weak (pt_chain ho ho' ha hb hc hm) fun σ H Q h => chain_ok (asB_ok h)
/-! ## in, not in: flat items -/
def flt : D → Option V
  | .non => some .non
  | .bl b => some (.bl b)
  | .int i => some (.int i)
  | .str x => some (.str x)
  | _ => none
theorem flt_ok {K : PySem.W.Frag} {mg : Str → Option Value} {H : Hp} {ρ : Rh} {d : D} {v w : V} (e : flt d = some w) (r : Rep K mg H ρ d v) : v = w ∧ flatV w = true := by
  cases d <;> try (cases e)
  case non => exact ⟨r, rfl⟩
  case bl b => exact ⟨r, rfl⟩
  case int i => exact ⟨r, rfl⟩
  case str x => exact ⟨r.1, rfl⟩
theorem fltL_ok {K : PySem.W.Frag} {mg : Str → Option Value} {H : Hp} {ρ : Rh} : ∀ {ds : List D} {vs ws : List V}, mapO flt ds = some ws → RepL K mg H ρ ds vs → vs = ws ∧ ws.all flatV = true
  | [], vs, ws, e, r => by cases e; have r : vs = [] := r; subst r; exact ⟨rfl, rfl⟩
  | d :: ds, vs, ws, e, r => by
    obtain ⟨v, rr, rfl, r1, r2⟩ := r
    unfold mapO at e
    cases e1 : flt d with
    | none => rw [e1] at e; cases e
    | some b =>
      cases e2 : mapO flt ds with
      | none => rw [e1, e2] at e; cases e
      | some bs =>
        rw [e1, e2] at e
        cases e
        obtain ⟨a1, a2⟩ := flt_ok e1 r1
        obtain ⟨b1, b2⟩ := fltL_ok e2 r2
        subst a1 b1
        exact ⟨rfl, by rw [List.all_cons, a2, b2]; rfl⟩
def inD (neg : Bool) : P2 := fun a b h => match flt a, seqOf b h with
  | some x, some ds => match mapO flt ds with
    | some ys => some (.bl (if neg then !inV x ys else inV x ys), h)
    | none => none
  | _, _ => none
theorem in_gen {neg : Bool} {op : CmpOp} (ho : OpR X (compareOp op) (rIn X.K neg)) : OpR X (compareOp op) (rP2 X.K X.mg (inD neg)) := by
  intro pins s σ H x y v u Q I rx ry h
  obtain ⟨ρ, hd, dx, dy, HR, r1, r2, q⟩ := h
  unfold inD at q
  cases e1 : flt dx with
  | none => rw [e1] at q; exact q.elim
  | some a =>
    cases e2 : seqOf dy hd with
    | none => rw [e1, e2] at q; exact q.elim
    | some ds =>
      rw [e1, e2] at q
      dsimp only at q
      cases e3 : mapO flt ds with
      | none => rw [e3] at q; exact q.elim
      | some ys =>
        rw [e3] at q
        obtain ⟨p, xs, e4, z, rl, sq⟩ := seqOf_ok HR r2 e2
        obtain ⟨f1, f2⟩ := flt_ok e1 r1
        obtain ⟨g1, g2⟩ := fltL_ok e3 rl
        subst f1 g1
        exact ho pins s σ H x y v u Q I rx ry ⟨p, xs, e4, sq.elim (fun z => .inr z.1) (fun z => .inl z.1), f2, g2, PostO.pure q HR rfl⟩
theorem op_in' : OpR X (compareOp .In) (rP2 X.K X.mg (inD false)) := in_gen op_in_seq
theorem op_notin' : OpR X (compareOp .NotIn) (rP2 X.K X.mg (inD true)) := in_gen op_notIn_seq
/-! ## built-ins -/
theorem d_ty {x : Str} {t : String} {pos : Pos} (hm : X.mg x = none) (hv : bootBuiltins x = some (.type t)) (hg : Gl X x := by rfl) (hn : x ≠ "__name__" := by decide) (hd : (x == ("__debug__" : Str)) = false := by decide) : DE X W (.Name x pos) (cst (.ty t)) :=
  d_const (pe_bltn hg hm hv (v := .ty t) rfl hn hd) fun _ _ => rfl
/-- a tuple or list, not of ours or of ours -/
def seqTag (d : D) : Bool := match d with
  | .tup _ => true
  | _ => false
def lenD : PL := fun ds h => match ds with
  | [d] => match seqOf d h with
    | some xs => some (.int xs.length, h)
    | none => match d with
      | .str x => some (.int x.length, h)
      | _ => none
  | _ => none
theorem c_len : CallR X (.builtin "len") (rPL X.K X.mg lenD) := by
  intro pins s σ H xs us Q I r h
  obtain ⟨ρ, hd, ds, HR, rl, q⟩ := h
  match ds, rl, q with
  | [d], rl, q =>
    obtain ⟨v, rr, rfl, r1, e⟩ := rl
    have e : rr = [] := e
    subst e
    refine call_len pins s σ H _ us Q I r ?_
    unfold lenD at q
    dsimp only at q
    cases e : seqOf d hd with
    | some ys =>
      rw [e] at q
      obtain ⟨a, vs, e1, z, rl2, sq⟩ := seqOf_ok HR r1 e
      refine ⟨v, ys.length, rfl, ?_, PostO.pure q HR rfl⟩
      subst e1
      rw [RepL.length rl2]
      exact sq.elim (fun z => .inr ⟨vs, z.1, rfl⟩) (fun z => .inl ⟨vs, z.1, rfl⟩)
    | none =>
      rw [e] at q
      cases d <;> try exact q.elim
      case str x =>
        obtain ⟨e1, z⟩ := r1
        subst e1
        exact ⟨.str x, x.length, rfl, ⟨z, rfl⟩, PostO.pure q HR rfl⟩
  | [], rl, q => exact q.elim
  | _ :: _ :: _, rl, q => exact q.elim
/-- one argument, a list -/
def listArg (ds : List D) (h : Hd) : Option (List D) := match ds with
  | [d] => match d with
    | .tup _ => none
    | d => seqOf d h
  | _ => none
theorem listArg_ok {K : PySem.W.Frag} {mg : Str → Option Value} {H : Hp} {ρ : Rh} {hd : Hd} {ds ys : List D} {vs : List V} (HR : HRel K mg H ρ hd) (r : RepL K mg H ρ ds vs) (e : listArg ds hd = some ys) :
    ∃ a xs, vs = [.ref a] ∧ SqL K H a xs ∧ xs.length ≤ sizeLine ∧ RepL K mg H ρ ys xs := by
  match ds, r, e with
  | [d], r, e =>
    obtain ⟨v, rr, rfl, r1, e2⟩ := r
    have e2 : rr = [] := e2
    subst e2
    have e : seqOf d hd = some ys ∧ ∀ ts, d ≠ .tup ts := by
      unfold listArg at e
      cases d <;> first | exact ⟨e, fun _ z => by cases z⟩ | cases e
    obtain ⟨a, xs, e1, z, rl, sq⟩ := seqOf_ok HR r1 e.1
    subst e1
    rcases sq with ⟨_, sq⟩ | ⟨sq, _⟩
    · exact absurd sq (e.2 _)
    · exact ⟨a, xs, rfl, sq, z, rl⟩
  | [], r, e => cases e
  | _ :: _ :: _, r, e => cases e
def asBl : D → Option Bool
  | .bl b => some b
  | _ => none
theorem bls_ok {K : PySem.W.Frag} {mg : Str → Option Value} {H : Hp} {ρ : Rh} : ∀ {ds : List D} {vs : List V} {bs : List Bool}, mapO asBl ds = some bs → RepL K mg H ρ ds vs → vs = bs.map V.bl
  | [], vs, bs, e, r => by cases e; exact r
  | d :: ds, vs, bs, e, r => by
    obtain ⟨v, rr, rfl, r1, r2⟩ := r
    unfold mapO at e
    cases e1 : asBl d with
    | none => rw [e1] at e; cases e
    | some b =>
      cases e2 : mapO asBl ds with
      | none => rw [e1, e2] at e; cases e
      | some bs' =>
        rw [e1, e2] at e
        cases e
        cases d with
        | bl b =>
          cases e1
          have r1 : v = .bl _ := r1
          rw [r1, bls_ok e2 r2]; rfl
        | _ => cases e1
theorem ints_ok {K : PySem.W.Frag} {mg : Str → Option Value} {H : Hp} {ρ : Rh} : ∀ {ds : List D} {vs : List V} {bs : List Int}, mapO asI ds = some bs → RepL K mg H ρ ds vs → vs = bs.map V.int
  | [], vs, bs, e, r => by cases e; exact r
  | d :: ds, vs, bs, e, r => by
    obtain ⟨v, rr, rfl, r1, r2⟩ := r
    unfold mapO at e
    cases e1 : asI d with
    | none => rw [e1] at e; cases e
    | some b =>
      cases e2 : mapO asI ds with
      | none => rw [e1, e2] at e; cases e
      | some bs' =>
        rw [e1, e2] at e
        cases e
        cases d with
        | int b =>
          cases e1
          have r1 : v = .int _ := r1
          rw [r1, ints_ok e2 r2]; rfl
        | _ => cases e1
def blsD (f : List Bool → D) : PL := fun ds h => match listArg ds h with
  | some ys => match mapO asBl ys with
    | some bs => some (f bs, h)
    | none => none
  | none => none
def allD : PL := blsD fun bs => .bl (bs.all id)
def anyD : PL := blsD fun bs => .bl (bs.any id)
theorem c_all (hc : X.calm = true) : CallR X (.builtin "all") (rPL X.K X.mg allD) := by
  intro pins s σ H xs us Q I r h
  obtain ⟨ρ, hd, ds, HR, rl, q⟩ := h
  unfold allD blsD at q
  cases e : listArg ds hd with
  | none => rw [e] at q; exact q.elim
  | some ys =>
    rw [e] at q
    dsimp only at q
    cases e2 : mapO asBl ys with
    | none => rw [e2] at q; exact q.elim
    | some bs =>
      rw [e2] at q
      obtain ⟨a, vs, e1, sq, z, r2⟩ := listArg_ok HR rl e
      rw [bls_ok e2 r2] at sq
      exact cr_all hc pins s σ H xs us Q I r ⟨a, bs, e1, sq, PostO.pure q HR rfl⟩
theorem c_any (hc : X.calm = true) : CallR X (.builtin "any") (rPL X.K X.mg anyD) := by
  intro pins s σ H xs us Q I r h
  obtain ⟨ρ, hd, ds, HR, rl, q⟩ := h
  unfold anyD blsD at q
  cases e : listArg ds hd with
  | none => rw [e] at q; exact q.elim
  | some ys =>
    rw [e] at q
    dsimp only at q
    cases e2 : mapO asBl ys with
    | none => rw [e2] at q; exact q.elim
    | some bs =>
      rw [e2] at q
      obtain ⟨a, vs, e1, sq, z, r2⟩ := listArg_ok HR rl e
      rw [bls_ok e2 r2] at sq
      exact cr_any hc pins s σ H xs us Q I r ⟨a, bs, e1, sq, PostO.pure q HR rfl⟩
def sumD : PL := fun ds h => match listArg ds h with
  | some ys => match mapO asI ys with
    | some ns => some (.int ns.sum, h)
    | none => none
  | none => none
theorem c_sum (hc : X.calm = true) : CallR X (.builtin "sum") (rPL X.K X.mg sumD) := by
  intro pins s σ H xs us Q I r h
  obtain ⟨ρ, hd, ds, HR, rl, q⟩ := h
  unfold sumD at q
  cases e : listArg ds hd with
  | none => rw [e] at q; exact q.elim
  | some ys =>
    rw [e] at q
    dsimp only at q
    cases e2 : mapO asI ys with
    | none => rw [e2] at q; exact q.elim
    | some bs =>
      rw [e2] at q
      obtain ⟨a, vs, e1, sq, z, r2⟩ := listArg_ok HR rl e
      rw [ints_ok e2 r2] at sq
      exact cr_sum hc pins s σ H xs us Q I r ⟨a, bs, e1, sq, PostO.pure q HR rfl⟩
def int2D (f : Int → Int → Int) : PL := fun ds h => match ints2 ds with
  | some (i, j) => some (.int (f i j), h)
  | none => none
def maxD : PL := int2D fun i j => if j > i then j else i
def minD : PL := int2D fun i j => if j < i then j else i
theorem repL_ints2 {K : PySem.W.Frag} {mg : Str → Option Value} {H : Hp} {ρ : Rh} {ds : List D} {vs : List V} {p : Int × Int} (e : ints2 ds = some p) (r : RepL K mg H ρ ds vs) : vs = [.int p.1, .int p.2] := by
  rw [ints2_of e] at r
  obtain ⟨v, rr, rfl, r1, w, rr', rfl, r2, e⟩ := r
  have e : rr' = [] := e
  have r1 : v = .int p.1 := r1
  have r2 : w = .int p.2 := r2
  subst e r1 r2
  rfl
theorem c_max (hc : X.calm = true) : CallR X (.builtin "max") (rPL X.K X.mg maxD) := by
  intro pins s σ H xs us Q I r h
  obtain ⟨ρ, hd, ds, HR, rl, q⟩ := h
  unfold maxD int2D at q
  cases e : ints2 ds with
  | none => rw [e] at q; exact q.elim
  | some p => rw [e] at q; exact call_max2 hc pins s σ H xs us Q I r ⟨p.1, p.2, repL_ints2 e rl, PostO.pure q HR rfl⟩
theorem c_min (hc : X.calm = true) : CallR X (.builtin "min") (rPL X.K X.mg minD) := by
  intro pins s σ H xs us Q I r h
  obtain ⟨ρ, hd, ds, HR, rl, q⟩ := h
  unfold minD int2D at q
  cases e : ints2 ds with
  | none => rw [e] at q; exact q.elim
  | some p => rw [e] at q; exact call_min2 hc pins s σ H xs us Q I r ⟨p.1, p.2, repL_ints2 e rl, PostO.pure q HR rfl⟩
theorem repL_one {K : PySem.W.Frag} {mg : Str → Option Value} {H : Hp} {ρ : Rh} {d : D} {vs : List V} (r : RepL K mg H ρ [d] vs) : ∃ v, vs = [v] ∧ Rep K mg H ρ d v := by
  obtain ⟨v, rr, rfl, r1, e⟩ := r
  have e : rr = [] := e
  subst e
  exact ⟨v, rfl, r1⟩
def intD : PL := fun ds h => match ds with
  | [d] => match d with
    | .int i => some (.int i, h)
    | .bl b => some (.int (if b then 1 else 0), h)
    | _ => none
  | _ => none
theorem c_int : CallR X (.type "int") (rPL X.K X.mg intD) := by
  intro pins s σ H xs us Q I r h
  obtain ⟨ρ, hd, ds, HR, rl, q⟩ := h
  match ds, rl, q with
  | [d], rl, q =>
    obtain ⟨v, rfl, r1⟩ := repL_one rl
    unfold intD at q
    refine call_int1 pins s σ H _ us Q I r ?_
    cases d <;> try exact q.elim
    case int i => have r1 : v = .int i := r1; subst r1; exact .inl ⟨i, rfl, PostO.pure q HR rfl⟩
    case bl b => have r1 : v = .bl b := r1; subst r1; exact .inr ⟨b, rfl, PostO.pure q HR rfl⟩
  | [], rl, q => exact q.elim
  | _ :: _ :: _, rl, q => exact q.elim
def absD : PL := fun ds h => match ints1 ds with
  | some i => some (.int (if i < 0 then -i else i), h)
  | none => none
theorem c_abs : CallR X (.builtin "abs") (rPL X.K X.mg absD) := by
  intro pins s σ H xs us Q I r h
  obtain ⟨ρ, hd, ds, HR, rl, q⟩ := h
  unfold absD at q
  cases e : ints1 ds with
  | none => rw [e] at q; exact q.elim
  | some i =>
    rw [e] at q
    rw [ints1_of e] at rl
    obtain ⟨v, rfl, r1⟩ := repL_one rl
    have r1 : v = .int i := r1
    subst r1
    exact call_abs pins s σ H _ us Q I r ⟨i, rfl, PostO.pure q HR rfl⟩
def tupleD : PL := fun ds h => match ds with
  | [d] => match seqOf d h with
    | some xs => some (.tup xs, h)
    | none => none
  | _ => none
theorem c_tuple : CallR X (.type "tuple") (rPL X.K X.mg tupleD) := by
  intro pins s σ H xs us Q I r h
  obtain ⟨ρ, hd, ds, HR, rl, q⟩ := h
  match ds, rl, q with
  | [d], rl, q =>
    obtain ⟨v, rfl, r1⟩ := repL_one rl
    unfold tupleD at q
    dsimp only at q
    cases e : seqOf d hd with
    | none => rw [e] at q; exact q.elim
    | some ys =>
      rw [e] at q
      obtain ⟨a, vs, e1, z, rl2, sq⟩ := seqOf_ok HR r1 e
      subst e1
      rcases sq with ⟨sq, _⟩ | ⟨sq, _⟩
      · exact call_tuple_of pins s σ H _ us Q I r ⟨a, vs, rfl, .inr ⟨sq, PostO.pure q HR ⟨a, vs, rfl, sq, z, rl2⟩⟩⟩
      · exact call_tuple_of pins s σ H _ us Q I r ⟨a, vs, rfl, .inl ⟨sq, fun p hp => PostO.new q HR hp (rep_tup hp z rl2)⟩⟩
  | [], rl, q => exact q.elim
  | _ :: _ :: _, rl, q => exact q.elim
def listD (mk : List D → Hd → Option (D × Hd)) : PL := fun ds h => match ds with
  | [d] => match seqOf d h with
    | some xs => mk xs h
    | none => none
  | _ => none
theorem c_listW {mk : List D → Hd → Option (D × Hd)} (hk : Mk mk) : CallR X (.type "list") (rPL X.K X.mg (listD mk)) := by
  intro pins s σ H xs us Q I r h
  obtain ⟨ρ, hd, ds, HR, rl, q⟩ := h
  match ds, rl, q with
  | [d], rl, q =>
    obtain ⟨v, rfl, r1⟩ := repL_one rl
    unfold listD at q
    dsimp only at q
    cases e : seqOf d hd with
    | none => rw [e] at q; exact q.elim
    | some ys =>
      rw [e] at q
      obtain ⟨a, vs, e1, z, rl2, sq⟩ := seqOf_ok HR r1 e
      subst e1
      exact call_list_of pins s σ H _ us Q I r ⟨a, vs, rfl, sq.elim (fun z => .inr z.1) (fun z => .inl z.1), fun p hp => hk.ok HR hp z rl2 q⟩
  | [], rl, q => exact q.elim
  | _ :: _ :: _, rl, q => exact q.elim
theorem c_list : CallR X (.type "list") (rPL X.K X.mg (listD mkL)) := c_listW mk_L
theorem c_listM : CallR X (.type "list") (rPL X.K X.mg (listD mkM)) := c_listW mk_M
/-! isinstance -/
def tyN (d : D) (h : Hd) : Option String := match d with
  | .non => some "NoneType"
  | .bl _ => some "bool"
  | .int _ => some "int"
  | .str _ => some "str"
  | .tup _ => some "tuple"
  | .lst _ => some "list"
  | .ref i => match h[i]? with
    | some (.lst _) => some "list"
    | _ => none
  | .dct => some "dict"
  | _ => none
def tyOk : List String := ["int", "bool", "str", "tuple", "list"]
def isB (a t : String) : Bool := a == t || (a == "bool" && t == "int")
theorem isB_ok : ∀ a ∈ ["NoneType", "bool", "int", "str", "tuple", "list", "dict"], ∀ t ∈ tyOk, kitB a t = some (isB a t) := by decide +kernel
def isiD : PL := fun ds h => match ds with
  | [d, .ty t] => match tyN d h with
    | some a => if t ∈ tyOk then some (.bl (isB a t), h) else none
    | none => none
  | _ => none
theorem rd_tyL {K : PySem.W.Frag} {H : Hp} {a : Addr} {xs : List V} (h : Rd H a (.lst xs)) : TyX K H (.ref a) (.type "list") := by
  rcases h with h | ⟨o, h⟩
  · exact .base (.lst h)
  · exact .base (.frz h)
theorem rd_tyT {K : PySem.W.Frag} {H : Hp} {a : Addr} {xs : List V} (h : SqT K H a xs) : TyX K H (.ref a) (.type "tuple") := by
  rcases h with (h | ⟨o, h⟩) | ⟨o, its, n, h1, h2, _⟩
  · exact .base (.tup h)
  · exact .fTuple h
  · exact .kTuple h1 h2
theorem tyN_ok {K : PySem.W.Frag} {mg : Str → Option Value} {H : Hp} {ρ : Rh} {hd : Hd} {d : D} {v : V} {a : String} (HR : HRel K mg H ρ hd) (r : Rep K mg H ρ d v) (e : tyN d hd = some a) :
    TyX K H v (.type a) ∧ a ∈ ["NoneType", "bool", "int", "str", "tuple", "list", "dict"] := by
  cases d <;> try (cases e)
  case non => have r : v = .non := r; subst r; exact ⟨.base .non, by decide⟩
  case bl b => have r : v = .bl b := r; subst r; exact ⟨.base (.bl b), by decide⟩
  case int b => have r : v = .int b := r; subst r; exact ⟨.base (.int b), by decide⟩
  case str b => have r : v = .str b := r.1; subst r; exact ⟨.base (.str b), by decide⟩
  case tup ds => obtain ⟨a, xs, rfl, h1, _⟩ := r; exact ⟨rd_tyT h1, by decide⟩
  case lst ds => obtain ⟨a, xs, rfl, h1, _⟩ := r; exact ⟨rd_tyL h1.1, by decide⟩
  case dct => obtain ⟨a, rfl, h1⟩ := r; exact ⟨.base (.dK h1), by decide⟩
  case ref i =>
    obtain ⟨p, rfl, ha⟩ := r
    unfold tyN at e
    dsimp only at e
    cases eo : hd[i]? with
    | none => rw [eo] at e; cases e
    | some o =>
      rw [eo] at e
      cases o with
      | ins C fs => cases e
      | lst ds =>
        cases e
        obtain ⟨xs, e2, z, r2⟩ := HR.obj i _ p eo ha
        exact ⟨.base (.lst e2), by decide⟩
theorem c_isi : CallR X (.builtin "isinstance") (rPL X.K X.mg isiD) := by
  intro pins s σ H xs us Q I r h
  obtain ⟨ρ, hd, ds, HR, rl, q⟩ := h
  unfold isiD at q
  split at q
  · rename_i d t
    obtain ⟨v, rr, rfl, r1, w, rr', rfl, r2, e⟩ := rl
    have e : rr' = [] := e
    have r2 : w = .ty t := r2
    subst e r2
    cases e1 : tyN d hd with
    | none => rw [e1] at q; exact q.elim
    | some a =>
      rw [e1] at q
      dsimp only at q
      by_cases ht : t ∈ tyOk
      · rw [if_pos ht] at q
        obtain ⟨ty, ha⟩ := tyN_ok HR r1 e1
        exact call_isi pins s σ H _ us Q I r ⟨v, .ty t, .type a, .type t, isB a t, rfl, .ty t, ty, kit_ty (isB_ok a ha t ht), PostO.pure q HR rfl⟩
      · rw [if_neg ht] at q; exact q.elim
  · exact q.elim
/-! str(int), repr -/
def strD : PL := fun ds h => match ints1 ds with
  | some i => if i.natAbs.log2 < 1920 ∧ (toString i : Str).length ≤ sizeLine then some (.str (toString i), h) else none
  | none => none
theorem c_str : CallR X (.type "str") (rPL X.K X.mg strD) := by
  intro pins s σ H xs us Q I r h
  obtain ⟨ρ, hd, ds, HR, rl, q⟩ := h
  unfold strD at q
  cases e : ints1 ds with
  | none => rw [e] at q; exact q.elim
  | some i =>
    rw [e] at q
    dsimp only at q
    rw [ints1_of e] at rl
    obtain ⟨v, rfl, r1⟩ := repL_one rl
    have r1 : v = .int i := r1
    subst r1
    by_cases hz : i.natAbs.log2 < 1920 ∧ (toString i : Str).length ≤ sizeLine
    · rw [if_pos hz] at q
      exact call_str_int pins s σ H _ us Q I r ⟨i, rfl, hz.1, PostO.pure q HR ⟨rfl, hz.2⟩⟩
    · rw [if_neg hz] at q; exact q.elim
def isSeqPy : PyData → Bool
  | .list _ => true
  | .tuple _ => true
  | .str _ => true
  | .int _ => true
  | _ => false
def reprD : PL := fun ds h => match ds with
  | [d] => match pyOf h 8 d with
    | some p => if isSeqPy p = true ∧ p.showable = true ∧ p.shown.length ≤ sizeLine then some (.str p.shown, h) else none
    | none => none
  | _ => none
mutual
theorem noDict_of_plain : ∀ p : PyData, p.plain = true → p.hasDict = false
  | .none, _ => rfl
  | .bool _, _ => rfl
  | .int _, _ => rfl
  | .str _, _ => rfl
  | .list xs, h => by simp only [PyData.hasDict]; exact noDictAll_of_plain xs (by simpa [PyData.plain] using h)
  | .tuple xs, h => by simp only [PyData.hasDict]; exact noDictAll_of_plain xs (by simpa [PyData.plain] using h)
  | .dict _, h => nomatch h
theorem noDictAll_of_plain : ∀ ps : List PyData, PyData.plainAll ps = true → PyData.hasDictAll ps = false
  | [], _ => rfl
  | p :: ps, h => by
    have h' : p.plain = true ∧ PyData.plainAll ps = true := by simpa [PyData.plainAll] using h
    simp only [PyData.hasDictAll, noDict_of_plain p h'.1, noDictAll_of_plain ps h'.2]; rfl
end
theorem c_repr (hg : X.A.guards = some []) (hu : X.A.units + 64 < cLine) : CallR X (.builtin "repr") (rPL X.K X.mg reprD) := by
  intro pins s σ H xs us Q I r h
  obtain ⟨ρ, hd, ds, HR, rl, q⟩ := h
  match ds, rl, q with
  | [d], rl, q =>
    obtain ⟨v, rfl, r1⟩ := repL_one rl
    unfold reprD at q
    dsimp only at q
    cases e : pyOf hd 8 d with
    | none => rw [e] at q; exact q.elim
    | some p =>
      rw [e] at q
      dsimp only at q
      by_cases hz : isSeqPy p = true ∧ p.showable = true ∧ p.shown.length ≤ sizeLine
      · rw [if_pos hz] at q
        obtain ⟨h1, h2, h3⟩ := hz
        obtain ⟨pl, dp⟩ := pyOf_ok 8 _ _ e
        have hD := dp_of HR 8 _ _ _ e r1
        obtain ⟨u, rfl, ru⟩ := vals1 r
        obtain ⟨as, k⟩ := Dp.reads I p v u hD ru
        have big : ∀ a, u = .ref a → wpAny (model X.prog X.w) X.A (call (.builtin "repr") [u]) (EP X pins σ Q) X.xe s := fun a ea => by
          subst ea
          refine repr_of_reads' k h2 (fun z => ?_) hg (by omega) (fun b o z => z) (fun h' u tk hk => ?_) h3
          · rw [noDict_of_plain p pl] at z; cases z
          · exact ⟨.str p.shown, H, I.kept (t' := tk) hk, ⟨_, rfl⟩, PostO.pure q HR ⟨rfl, h3⟩⟩
        cases hD with
        | lst _ _ => exact big _ ru
        | tup _ _ => exact big _ ru
        | non => exact absurd h1 (by decide)
        | bl b => exact absurd (show false = true from h1) (by decide)
        | int i =>
          obtain ⟨t, rfl⟩ := ru
          exact PySem.P.repr_of_int (of_decide_eq_true (show decide (i.natAbs.log2 < 1920) = true from h2)) ⟨.str _, H, I.tok _, ⟨_, rfl⟩, PostO.pure q HR ⟨rfl, h3⟩⟩
        | str x =>
          obtain ⟨t, rfl⟩ := ru
          exact PySem.P.repr_of_str ⟨.str _, H, I.tok _, ⟨_, rfl⟩, PostO.pure q HR ⟨rfl, h3⟩⟩ h3
      · rw [if_neg hz] at q; exact q.elim
  | [], rl, q => exact q.elim
  | _ :: _ :: _, rl, q => exact q.elim
/-- {} -/
def dctD : Den := fun _ h => .ok .dct h
theorem d_dct {pos : Pos} : DE X W (.Dict [] [] pos) dctD := PE.weak pe_dnewK fun σ H Q h => by
  obtain ⟨ρ, σd, hd, HR, S, h⟩ := h
  exact fun p hp => h _ _ ρ (grow_new hp) (HR.new hp) ⟨p, rfl, upd_same⟩
end
end Dz

namespace Dz
open PySem PySem.Spec PyProof.Rows L2
/-! ## methods of lists -/
abbrev PM := D → List D → Hd → Option (D × Hd)
def isLD (d : D) (h : Hd) : Bool := match d with
  | .tup _ => false
  | d => (seqOf d h).isSome
def metL (p : PM) (fo : Den) (fa : DenA) : Den := fun σ h => (fo σ h).bind fun x h1 => if isLD x h1 = true then (fa σ h1).bind fun ds h2 => lift (p x ds h2) else .stuck
def rPM (K : PySem.W.Frag) (mg : Str → Option Value) (p : PM) : V → List V → Hp → VK → Prop := fun x vs H Q => ∃ ρ h dx ds, HRel K mg H ρ h ∧ Rep K mg H ρ dx x ∧ RepL K mg H ρ ds vs ∧ PostO K mg (rD K mg) ρ H Q (p dx ds h)
theorem isLD_ok {K : PySem.W.Frag} {mg : Str → Option Value} {H : Hp} {ρ : Rh} {hd : Hd} {d : D} {v : V} (HR : HRel K mg H ρ hd) (r : Rep K mg H ρ d v) (e : isLD d hd = true) : tyV K "list" v H := by
  have e : (∃ ds, seqOf d hd = some ds) ∧ ∀ ts, d ≠ .tup ts := by
    unfold isLD at e
    cases d <;> first | exact ⟨Option.isSome_iff_exists.mp e, fun _ z => by cases z⟩ | cases e
  obtain ⟨⟨ds, e⟩, hn⟩ := e
  obtain ⟨a, xs, rfl, z, rl, sq⟩ := seqOf_ok HR r e
  rcases sq with ⟨_, sq⟩ | ⟨sq, _⟩
  · exact absurd sq (hn _)
  · exact .inl ⟨rfl, xs, sq⟩
section
variable {X : Cx} {W : WX}
theorem d_metL {name : Str} {id : String} {p : PM} {o e : Expr} {es : List Expr} {fo : Den} {fa : DenA} {apos cpos : Pos} (slot : Slot "list" name id) (hty : typeOf (.builtin id) = pure (.type "method_descriptor")) (hm : MtR X id (rPM X.K X.mg p)) (ho : DE X W o fo) (ha : DA X W (e :: es) fa)
    (hbase : attributeBase o name X.env (eval o X.env) = eval o X.env := by rfl)
    (hfew : ((backTo cpos (starEach (e :: es) X.env)).all (fun x => !x.1) && (backToKw cpos (keywordEach [] X.env)).all (fun x => x.1.isSome)
      && decide ((e :: es).length + ([] : List Keyword).length + (if ([] : List Keyword).isEmpty then 0 else 1) < 30)) = true := by rfl)
    (hline : (apos.endLine == cpos.line) = true := by rfl) (hs : starEach (e :: es) X.env = (false, eval e X.env) :: starEach es X.env := by rfl) (hplain : (backTo cpos (starEach es X.env)).any (·.1) = false := by rfl) :
    DE X W (.Call (.Attribute o name apos) (e :: es) [] cpos) (metL p fo fa) :=
  PE.weak (pe_bm PySem.F.plainAttrs_list slot hty hm ho ha hbase hfew hline hs hplain) fun σ H Q h => by
    obtain ⟨ρ, σd, hd, HR, S, h⟩ := h
    refine ⟨ρ, σd, hd, HR, S, (PostG.bind (rD X.K X.mg) h).mono fun x H1 ⟨dx, h1, ρ1, G1, HR1, r1, q1⟩ => ?_⟩
    by_cases c : isLD dx h1 = true
    · rw [if_pos c] at q1
      refine ⟨isLD_ok HR1 r1 c, ρ1, σd, h1, HR1, S.grow G1, (PostG.bind (rL X.K X.mg) q1).mono fun vs H2 ⟨ds, h2, ρ2, G2, HR2, r2, q2⟩ => ?_⟩
      exact ⟨ρ2, h2, dx, ds, HR2, G2.rep _ _ r1, r2, q2.lift⟩
    · rw [if_neg c] at q1; exact q1.elim
theorem own_at {K : PySem.W.Frag} {mg : Str → Option Value} {H : Hp} {ρ : Rh} {hd : Hd} {i : Nat} {v : V} {ds : List D} (HR : HRel K mg H ρ hd) (r : Rep K mg H ρ (.ref i) v) (e : hd[i]? = some (.lst ds)) :
    ∃ a xs, v = .ref a ∧ ρ.ix[i]? = some a ∧ H a = some (.lst xs) ∧ xs.length ≤ sizeLine ∧ RepL K mg H ρ ds xs := by
  obtain ⟨a, rfl, ha⟩ := r
  obtain ⟨xs, e2, z, r2⟩ := HR.obj i _ a e ha
  exact ⟨a, xs, rfl, ha, e2, z, r2⟩
def ownOf (d : D) (h : Hd) : Option (Nat × List D) := match d with
  | .ref i => match h[i]? with
    | some (.lst xs) => some (i, xs)
    | _ => none
  | _ => none
theorem ownOf_ok {d : D} {h : Hd} {p : Nat × List D} (e : ownOf d h = some p) : d = .ref p.1 ∧ h[p.1]? = some (.lst p.2) := by
  unfold ownOf at e
  split at e
  · split at e
    · rename_i h1
      cases e
      exact ⟨rfl, h1⟩
    · cases e
  · cases e
def appP : PM := fun x ds h => match ownOf x h, ds with
  | some (i, xs), [d] => if xs.length < sizeLine then some (.non, h.set i (.lst (xs ++ [d]))) else none
  | _, _ => none
theorem m_append : MtR X "list.append" (rPM X.K X.mg appP) := by
  intro pins s σ H x vs v us Q I rx rv h
  obtain ⟨ρ, hd, dx, ds, HR, r1, rl, q⟩ := h
  unfold appP at q
  split at q
  · rename_i i xs d e1
    obtain ⟨e2, e3⟩ := ownOf_ok e1
    dsimp only at e2 e3
    subst e2
    obtain ⟨w, rfl, rw'⟩ := repL_one rl
    obtain ⟨a, ys, rfl, ha, hH, z, r2⟩ := own_at HR r1 e3
    have lz := RepL.length r2
    by_cases hz : xs.length < sizeLine
    · rw [if_pos hz] at q
      obtain ⟨HR', G'⟩ := HR.write (ds' := xs ++ [d]) (xs' := ys ++ [w]) e3 ha (by rw [List.length_append, List.length_singleton]; omega) (RepL.append r2 ⟨w, [], rfl, rw', rfl⟩)
      exact mt_append pins s σ H _ _ v us Q I rx rv ⟨a, ys, w, rfl, rfl, hH, by omega, q _ _ _ G' HR' rfl⟩
    · rw [if_neg hz] at q; exact q.elim
  · exact q.elim
theorem d_append {o e : Expr} {fo : Den} {fa : DenA} {apos cpos : Pos} (ho : DE X W o fo) (ha : DA X W [e] fa)
    (hbase : attributeBase o "append" X.env (eval o X.env) = eval o X.env := by rfl)
    (hfew : ((backTo cpos (starEach [e] X.env)).all (fun x => !x.1) && (backToKw cpos (keywordEach [] X.env)).all (fun x => x.1.isSome)
      && decide (([e] : List Expr).length + ([] : List Keyword).length + (if ([] : List Keyword).isEmpty then 0 else 1) < 30)) = true := by rfl)
    (hline : (apos.endLine == cpos.line) = true := by rfl) (hs : starEach [e] X.env = (false, eval e X.env) :: starEach [] X.env := by rfl) (hplain : (backTo cpos (starEach [] X.env)).any (·.1) = false := by rfl) :
    DE X W (.Call (.Attribute o "append" apos) [e] [] cpos) (metL appP fo fa) := d_metL PySem.F.slot_list_append PySem.F.type_list_append m_append ho ha hbase hfew hline hs hplain
/-! count, index of flat items -/
def cntP : PM := fun x ds h => match seqOf x h, ds with
  | some xs, [d] => match mapO flt xs, flt d with
    | some ys, some y => some (.int (ys.countP fun z => eqV z y : Nat), h)
    | _, _ => none
  | _, _ => none
def cntL : PM := fun x ds h => if isLD x h = true then cntP x ds h else none
theorem count_eqU {x : V} : ∀ {xs : List V} {us : List Value}, Vals xs us → xs.all flatV = true → us.countP (eqU x) = xs.countP fun y => eqV y x
  | _, _, .nil, _ => rfl
  | y :: xs, u :: us, .cons r t, f => by
    rw [List.all_cons, Bool.and_eq_true] at f
    rw [List.countP_cons, List.countP_cons, eqU_of r f.1, count_eqU t f.2]
theorem m_count : MtR X "list.count" (rPM X.K X.mg cntL) := by
  intro pins s σ H x vs v us Q I rx rv h
  obtain ⟨ρ, hd, dx, ds, HR, r1, rl, q⟩ := h
  unfold cntL at q
  by_cases hl : isLD dx hd = true
  · rw [if_pos hl] at q
    unfold cntP at q
    split at q
    · rename_i xs d e1
      obtain ⟨w, rfl, rw'⟩ := repL_one rl
      split at q
      · rename_i ys y e2 e3
        obtain ⟨a, ws, rfl, z, rl2, sq⟩ := seqOf_ok HR r1 e1
        obtain ⟨f1, f2⟩ := flt_ok e3 rw'
        obtain ⟨g1, g2⟩ := fltL_ok e2 rl2
        subst f1 g1
        rcases sq with ⟨_, sq⟩ | ⟨sq, _⟩
        · subst sq; cases hl
        · obtain ⟨u, rfl, ru⟩ := rv.one
          cases rx
          obtain ⟨its, r, ⟨⟨cls, dd, data, sl⟩, n, ho, hc, hdn, hd'⟩, hlen⟩ := I.list sq
          simp only at hc hd'
          subst hc hd'
          refine call_meets PySem.F.slot_list_count ⟨_, ho, rfl⟩ PySem.F.entry_list_count (PySem.F.args_list_count_2 _ _) (SeqAt.list_countAt a its.toArray n dd sl u (eqU w)) ⟨ho, fun u' hu' => mem_eqAt ru f2 r g2 u' (by simpa using hu'), ?_⟩
          refine ⟨.int (ws.countP fun z => eqV z w : Nat), H, I.tok _, ⟨s.toks, ?_⟩, PostO.pure q HR rfl⟩
          rw [← count_eqU r g2]
      · exact q.elim
    · exact q.elim
  · rw [if_neg hl] at q; exact q.elim
def idxP : PM := fun x ds h => match seqOf x h, ds with
  | some xs, [d] => match mapO flt xs, flt d with
    | some ys, some y => match ys.findIdx? fun z => eqV z y with
      | some j => some (.int (j : Nat), h)
      | none => none
    | _, _ => none
  | _, _ => none
def idxL : PM := fun x ds h => if isLD x h = true then idxP x ds h else none
theorem m_index : MtR X "list.index" (rPM X.K X.mg idxL) := by
  intro pins s σ H x vs v us Q I rx rv h
  obtain ⟨ρ, hd, dx, ds, HR, r1, rl, q⟩ := h
  unfold idxL at q
  by_cases hl : isLD dx hd = true
  · rw [if_pos hl] at q
    unfold idxP at q
    split at q
    · rename_i xs d e1
      obtain ⟨w, rfl, rw'⟩ := repL_one rl
      split at q
      · rename_i ys y e2 e3
        obtain ⟨a, ws, rfl, z, rl2, sq⟩ := seqOf_ok HR r1 e1
        obtain ⟨f1, f2⟩ := flt_ok e3 rw'
        obtain ⟨g1, g2⟩ := fltL_ok e2 rl2
        subst f1 g1
        cases ej : ws.findIdx? (fun z => eqV z w) with
        | none => rw [ej] at q; exact q.elim
        | some j =>
          rw [ej] at q
          obtain ⟨hj, h1, h2⟩ := List.findIdx?_eq_some_iff_getElem.mp ej
          rcases sq with ⟨_, sq⟩ | ⟨sq, _⟩
          · subst sq; cases hl
          · refine mt_index pins s σ H _ _ v us Q I rx rv ⟨a, ws, w, j, ws[j], rfl, rfl, sq, f2, g2, List.getElem?_eq_getElem hj, h1, fun m z' hm e => ?_, PostO.pure q HR rfl⟩
            have hm' : m < ws.length := by omega
            rw [List.getElem?_eq_getElem hm'] at e
            cases e
            have := h2 m hm
            simpa using this
      · exact q.elim
    · exact q.elim
  · rw [if_neg hl] at q; exact q.elim
/-! ## x[i] = v, x[i] op= v -/
def dSet : P3 := fun o i v h => match ownOf o h, i with
  | some (k, xs), .int j => match ixN xs.length j with
    | some m => some (h.set k (.lst (xs.set m v)))
    | none => none
  | _, _ => none
theorem set_D : PSet X (rP3 X.K X.mg dSet) := by
  intro pins s σ H o i v ov iv u Q I ro ri rv h
  obtain ⟨ρ, hd, d0, d1, d2, HR, r0, r1, r2, q⟩ := h
  unfold dSet at q
  split at q
  · rename_i k xs j e1
    obtain ⟨e2, e3⟩ := ownOf_ok e1
    dsimp only at e2 e3
    subst e2
    obtain ⟨a, ys, rfl, ha, hH, z, rl⟩ := own_at HR r0 e3
    have lz := RepL.length rl
    cases em : ixN xs.length j with
    | none => rw [em] at q; exact q.elim
    | some m =>
      rw [em] at q
      obtain ⟨HR', G'⟩ := HR.write (ds' := xs.set m d2) (xs' := ys.set m v) e3 ha (by rw [List.length_set]; exact z) (RepL.set r2 m rl)
      exact set_list pins s σ H _ i v ov iv u Q I ro ri rv ⟨a, ys, j, m, rfl, r1, hH, by rw [← lz]; exact em, q () _ _ G' HR' trivial⟩
  · exact q.elim
def dIxL : P2 := fun o i h => if isLD o h = true then dIx o i h else none
theorem get_D : PGet X (rP2 X.K X.mg dIxL) := by
  intro pins s σ H o i ov iv Q I ro ri h
  obtain ⟨ρ, hd, dx, dy, HR, r1, r2, q⟩ := h
  unfold dIxL at q
  by_cases hl : isLD dx hd = true
  · rw [if_pos hl] at q
    have e : (∃ ds, seqOf dx hd = some ds) ∧ ∀ ts, dx ≠ .tup ts := by
      unfold isLD at hl
      cases dx <;> first | exact ⟨Option.isSome_iff_exists.mp hl, fun _ z => by cases z⟩ | cases hl
    obtain ⟨⟨ds, e⟩, hn⟩ := e
    unfold dIx at q
    cases dy <;> try exact q.elim
    case int k =>
      dsimp only at q
      rw [e] at q
      dsimp only at q
      obtain ⟨a, xs, rfl, z, rl, sq⟩ := seqOf_ok HR r1 e
      rcases sq with ⟨_, sq⟩ | ⟨sq, _⟩
      · exact absurd sq (hn _)
      · cases e2 : atI ds k with
        | none => rw [e2] at q; exact q.elim
        | some d =>
          rw [e2] at q
          obtain ⟨w, ew, rw'⟩ := rl.at e2
          have r2 : i = .int k := r2
          subst r2
          cases ro
          obtain ⟨t, rfl⟩ := ri
          obtain ⟨its, r, pl, hz⟩ := I.list sq
          obtain ⟨j, h1, h2, h3, h4, h5⟩ := atI_get ew
          obtain ⟨u, eu, ru⟩ := r.get h2
          have hlen := r.length
          have hn := line63
          have fin : EP X pins σ Q u s := ⟨w, H, I, ru, PostO.pure q HR rw'⟩
          by_cases h0 : 0 ≤ k
          · have hj : k.toNat = j := by
              rw [seqIndex_of h0 h5] at h1
              exact Option.some.inj h1
            exact wpAny_getItem_list pl.isList h0 (by omega) (by rw [hj]; simpa using eu) fin
          · have hj : (k + (its.toArray.size : Int)).toNat = j := by
              rw [seqIndex_neg (by omega) h4] at h1
              rw [List.size_toArray, ← hlen]
              exact Option.some.inj h1
            exact wpAny_getItem_list_neg pl.isList (by omega) (by rw [List.size_toArray] <;> omega) (by omega) (by rw [hj]; simpa using eu) fin
  · rw [if_neg hl] at q; exact q.elim
def augSubS (p : P2) (fo fi fe : Den) : DenS := fun σ h => (fo σ h).sbind σ fun o h1 => (fi σ h1).sbind σ fun i h2 => (lift (dIxL o i h2)).sbind σ fun x h3 => (fe σ h3).sbind σ fun y h4 => (lift (p x y h4)).sbind σ fun z h5 => match dSet o i z h5 with
  | some h6 => .next σ h6
  | none => .stuck
theorem s_augSub {o i e : Expr} {op : Operator} {p : P2} {fo fi fe : Den} {tpos pos : Pos} (ho : DE X W o fo) (hi : DE X W i fi) (he : DE X W e fe) (hp : PIp X op (rIp X.K X.mg p))
    (ha : ∀ ov iv new, augStore i ov iv new = (do holding [new, ov, iv] (setItem ov iv new); release [new, ov, iv] []; pure .next) := by intros; rfl) : DS X W (.AugAssign (.Subscript o i tpos) op e pos) (augSubS p fo fi fe) :=
  PS.weak (ps_augS ho hi get_D he hp set_D ha) fun E σ H h => by
    obtain ⟨ρ, σd, hd, HR, S, h⟩ := h
    refine ⟨ρ, σd, hd, HR, S, (PostS.ebind (rD X.K X.mg) S h).mono fun x H1 ⟨dx, h1, ρ1, G1, HR1, r1, q1⟩ => ?_⟩
    have S1 := S.grow G1
    refine ⟨ρ1, σd, h1, HR1, S1, (PostS.ebind (rD X.K X.mg) S1 q1).mono fun y H2 ⟨dy, h2, ρ2, G2, HR2, r2, q2⟩ => ?_⟩
    have S2 := S1.grow G2
    refine ⟨ρ2, h2, dx, dy, HR2, G2.rep _ _ r1, r2, ?_⟩
    have q3 := PostG.lift (PostS.ebind (rD X.K X.mg) S2 q2)
    refine (fun {o} (z : PostO X.K X.mg (rD X.K X.mg) ρ2 H2 _ o) => ?_ : ∀ {o : Option (D × Hd)}, PostO X.K X.mg (rD X.K X.mg) ρ2 H2 (fun b H' => ∃ a h' ρ', Grow X.K X.mg H2 ρ2 H' ρ' ∧ HRel X.K X.mg H' ρ' h' ∧ rD X.K X.mg H' ρ' a b ∧ PostS X.K X.mg W ρ' H' E ((fe σd h').sbind σd fun y h4 => (lift (p a y h4)).sbind σd fun z h5 => match dSet dx dy z h5 with
      | some h6 => .next σd h6
      | none => .stuck)) o → PostO X.K X.mg (rD X.K X.mg) ρ2 H2 _ o) q3
    cases o with
    | none => exact z.elim
    | some pr =>
      obtain ⟨a0, h3⟩ := pr
      intro b H3 ρ3 G3 HR3 r3
      obtain ⟨a, h3', ρ3', G3', HR3', r3', q4⟩ := z b H3 ρ3 G3 HR3 r3
      have S3 := S2.grow G3'
      refine ⟨ρ3', σd, h3', HR3', S3, (PostS.ebind (rD X.K X.mg) S3 q4).mono fun w H4 ⟨dw, h4, ρ4, G4, HR4, r4, q5⟩ => ?_⟩
      have S4 := S3.grow G4
      refine ⟨ρ4, h4, a, dw, HR4, G4.rep _ _ r3', r4, ?_⟩
      have q6 := PostG.lift (PostS.ebind (rD X.K X.mg) S4 q5)
      cases eo : p a dw h4 with
      | none => rw [eo] at q6; exact q6.elim
      | some pr2 =>
        obtain ⟨z0, h5⟩ := pr2
        rw [eo] at q6
        intro c H5 ρ5 G5 HR5 r5
        obtain ⟨z1, h5', ρ5', G5', HR5', r5', q7⟩ := q6 c H5 ρ5 G5 HR5 r5
        have up : ∀ d v, Rep X.K X.mg H2 ρ2 d v → Rep X.K X.mg H5 ρ5' d v := fun d v r => G5'.rep _ _ (G4.rep _ _ (G3'.rep _ _ r))
        refine ⟨ρ5', h5', dx, dy, z1, HR5', up _ _ (G2.rep _ _ r1), up _ _ r2, r5', ?_⟩
        cases e6 : dSet dx dy z1 h5' with
        | none => rw [e6] at q7; exact q7.elim
        | some h6 =>
          rw [e6] at q7
          exact fun _ H6 ρ6 G6 HR6 _ => q7 σ H6 ρ6 G6 HR6 ((S4.grow G5').grow G6)
end
end Dz

namespace Dz
open PySem PySem.Spec PyProof.Rows L2
/-! ## own error classes without __init__ -/
abbrev bmVE : List Value := [.type "ValueError", .type "Exception", .type "BaseException", .type "object"]
structure XCls (K : PySem.W.Frag) (mg : Str → Option Value) (C : Str) (c : Addr) : Prop where
  g : mg C = some (.ref c)
  q : PySem.W.excIn K c bmVE "ValueError.__new__" = true
  k : PySem.W.keepIn K (.ref c) = true
  s : PySem.W.subIn K (.ref c) (.type "BaseException") = some true
  t : PySem.W.typeIn K (.ref c) = some (.type "type")
section
variable {X : Cx} {W : WX}
theorem pmk_own0 {C : Str} {c : Addr} {p pos : Pos} (x : XCls X.K X.mg C c) (hg : Gl X C) (hdb : (C == ("__debug__" : Str)) = false := by decide) : L2N.PMk X (.Call (.Name C p) [] [] pos) (fun _ H Q => Q (.ref c) none H) := by
  intro pins s σ H Q I h
  refine wpAny_Call_Name_kw (ld_glob I hg x.g ?_ hdb)
  refine PySem.W.callWith_K0 I.kIn x.k ?_
  show wpAny _ _ (call (.ref c) []) _ _ _
  obtain ⟨bm, N, nm, qn, bs, hdct, sn, sub, ab, col, dd, k0, k1, k2, k3, k5, mN, hC, hN, hni, T⟩ := exc_obj I.kIn x.q
  refine wpAny_call_exc_subT PySem.F.excBase_ValueError T hC hN hni (fun h' e hm => ?_) (Nat.zero_le _)
  exact L2N.mk_of I hm (raises_own x.s x.t) h (I.hok.gone hm.new)
def raiseS (C : Str) : DenS := fun σ h => .exc ⟨C, none⟩ σ h
theorem s_raise0 {C : Str} {c : Addr} {p pos pos' : Pos} (hc : X.calm = true) (tk : L2N.Takes X W) (x : XCls X.K X.mg C c) (hg : Gl X C := by rfl) (hdb : (C == ("__debug__" : Str)) = false := by decide) : DS X W (.Raise (some (.Call (.Name C p) [] [] pos)) none pos') (raiseS C) :=
  PS.weak (L2N.ps_raise hc tk (pmk_own0 x hg hdb)) fun E σ H h => by
    obtain ⟨ρ, σd, hd, HR, S, h⟩ := h
    exact h (.ref c) none σ H ρ Grow.refl HR S ⟨c, x.g, rfl, rfl⟩
/-! ## try, except .. as -/
/-- in the except suite: what is known of the exception -/
structure XAt (K : PySem.W.Frag) (mg : Str → Option Value) (C : Str) (cls : Value) (d : Option Addr) (oe : Obj) : Prop where
  z : L2N.Zn cls d oe
  f : ∃ vs, oe.data = .fields vs
  c : ∃ c, mg C = some (.ref c) ∧ cls = .ref c
/-- the suite's outcome, told without the exception's address -/
def tryO (i : Nat) (names : List Str) (fs : Str → DenS) (o : SOut) : SOut := match o with
  | .exc x σ' h' => if x.cls ∈ names ∧ x.fs = none then (match fs x.cls σ' h' with
    | .next σ2 h2 => .next (σ2.set i none) h2
    | .ret d h2 => .ret d h2
    | _ => .stuck) else .stuck
  | o => o
def tryS (i : Nat) (names : List Str) (fb : DenS) (fs : Str → DenS) : DenS := fun σ h => tryO i names fs (fb σ h)
theorem wAs_of {K : PySem.W.Frag} {mg : Str → Option Value} {cV : Value} {i : Nat} {names : List Str} {fs : Addr → Str → DenS} {fs' : Str → DenS} {Wout : WX} {E : Ends} {ρ : Rh} {H : Hp} {o : SOut}
    (hx : ∀ C ∈ names, ∀ c, mg C = some (.ref c) → PySem.W.exmOne K (.ref c) cV = some true)
    (hfs : ∀ a C σ h, C ∈ names → fs a C (σ.set i (some (.ex a))) h = fs' C σ h)
    {ts : Addr → Value → Option Addr → TS} (hts : ∀ a cls d E σ H C, C ∈ names → (∃ c, mg C = some (.ref c) ∧ cls = .ref c) → d = none → tS K mg W0 (fs a C) E σ H → ts a cls d E σ H)
    (h : PostS K mg Wout ρ H E (tryO i names fs' o)) : PostS K mg (wAs K cV i ts Wout E) ρ H E o := by
  cases o with
  | next σ h' => exact h
  | brk σ h' => exact h
  | cont σ h' => exact h
  | ret d h' => exact h
  | stuck => exact h
  | exc x σ' h' =>
    unfold tryO at h
    dsimp only at h
    by_cases hn : x.cls ∈ names ∧ x.fs = none
    · rw [if_pos hn] at h
      intro cls dd σ1 H1 ρ1 G1 HR1 S1 r1
      obtain ⟨c, e1, e2, r2⟩ := r1
      rw [hn.2] at r2
      have r2 : dd = none := r2
      subst e2 r2
      refine ⟨true, hx _ hn.1 c e1, fun _ a _ => ?_, fun z => Bool.noConfusion z⟩
      refine hts a _ _ _ _ _ x.cls hn.1 ⟨c, e1, rfl⟩ rfl ⟨ρ1, σ'.set i (some (.ex a)), h', HR1, S1.set rfl, ?_⟩
      rw [hfs a x.cls σ' h' hn.1]
      have h := PostS.grow G1 h
      cases e : fs' x.cls σ' h' with
      | next σ2 h2 =>
        rw [e] at h
        exact fun σ3 H3 ρ3 G3 HR3 S3 => h _ H3 ρ3 G3 HR3 S3.unset
      | ret d h2 =>
        rw [e] at h
        exact h
      | brk σ2 h2 => rw [e] at h; exact h.elim
      | cont σ2 h2 => rw [e] at h; exact h.elim
      | exc x σ2 h2 => rw [e] at h; exact h.elim
      | stuck => rw [e] at h; exact h.elim
    · rw [if_neg hn] at h; exact h.elim
theorem s_try (i : Nat) {x n : Str} {cV : Value} {body suite : List Stmt} {b₀ : Stmt} {np pos pos' : Pos} {names : List Str} {fb : DenS} {fs : Addr → Str → DenS} {fs' : Str → DenS}
    (hs : X.stack = X.env :: X.outer) (hf : X.env.frame = some X.env.locals) (hN : X.N.Nodup) (hc : Names X x cV) (tk : L2N.Takes X W)
    (hx : ∀ C ∈ names, ∀ c, X.mg C = some (.ref c) → PySem.W.exmOne X.K (.ref c) cV = some true)
    (hfs : ∀ a C σ h, C ∈ names → fs a C (σ.set i (some (.ex a))) h = fs' C σ h)
    (hb : ∀ (W : WX) (pn : List (Addr × Obj)) (xe : Value → Shared → Prop), L2N.Takes (X.tr pn xe) W → PassesOwn (model X.prog X.w) X.A X.env xe → DSs (X.tr pn xe) W body fb)
    (hsu : ∀ (a : Addr) (oe : Obj) (cls : Value) (pn : List (Addr × Obj)) (C : Str), C ∈ names → XAt X.K X.mg C cls none oe → DSs (X.suite a ((a, oe) :: pn)) W0 (b₀ :: suite) (fs a C))
    (hi : X.N[i]? = some n := by rfl) (hln : X.env.kindOf n = some .local := by rfl) : DS X W (.Try body [.ExceptHandler (some (.Name x np)) (some n) (b₀ :: suite) pos'] [] [] pos) (tryS i names fb fs') := by
  refine PS.weak (L2N.ps_try_as hs hf hN hi hln hc tk (tb := fun W => tS X.K X.mg W fb) (ts := fun a cls d => fun E σ H => ∃ C, C ∈ names ∧ (∃ c, X.mg C = some (.ref c) ∧ cls = .ref c) ∧ d = none ∧ tS X.K X.mg W0 (fs a C) E σ H) hb fun a oe cls d pn hz hfd => ?_) fun E σ H h => ?_
  · refine ⟨fun pins s σ H D I hh => ?_⟩
    obtain ⟨C, hC, hcl, hd, ht⟩ := hh
    subst hd
    exact (hsu a oe cls pn C hC ⟨hz, hfd, hcl⟩).run pins s σ H D I ht
  · obtain ⟨ρ, σd, hd, HR, S, h⟩ := h
    exact ⟨ρ, σd, hd, HR, S, wAs_of hx hfs (fun a cls d E σ H C h1 h2 h3 h4 => ⟨C, h1, h2, h3, h4⟩) h⟩
end
/-! ## defs called with the exception that the suite holds -/
structure FnE (P : Program) (w : World) (K : PySem.W.Frag) (mg : Str → Option Value) (base : Heap) (k : Nat) (f : Addr) (fd : FuncData) (ps : List Str) (names : List Str) (den : Addr → Str → FDen) : Prop where
  run : ∀ (A : Around) (outer : List Env) (s : Shared) (H : Hp) (args : Args) (us : List Value) (vs : List V) (Q : VK) (E : XK) (p : Addr × Obj) (C : Str) (cls : Value), C ∈ names → XAt K mg C cls none p.2 → L2H.RoomH k A → L2H.Hot1 A p → L2H.PinOk outer H s p → Env0 P w K mg base A outer s H → BindsTo s fd args (ps.zip us) → Vals vs us → spD K mg ps.length (den p.1 C) vs H Q E →
    codeAny (model P w) A (.call (.ref f) args) (CR (L2N.CX P w) outer P w H s Q E) s
structure FnEx (P : Program) (w : World) (K : PySem.W.Frag) (mg : Str → Option Value) (base : Heap) (k : Nat) (x : Str) (n : Nat) (names : List Str) (den : Addr → Str → FDen) : Prop where
  ex : ∃ f fd ps, FnE P w K mg base k f fd ps names den ∧ mg x = some (.ref f) ∧ PySem.W.keepIn K (.ref f) = true ∧ Binds K fd ps [] ∧ ps.length = n
/-- the context of such a def's body -/
abbrev XOfH (P : Program) (w : World) (K : PySem.W.Frag) (mg : Str → Option Value) (base : Heap) (N : List Str) (qual : Str) (st : Stmt) (f : Addr) (cdv : Value) (A : Around) (outer : List Env) (s : Shared) (H : Hp) (E : XK) (p : Addr × Obj) : Cx :=
  L2H.cxH (L2N.CX P w) P w K mg base N qual (defScope st) f cdv A outer s H E p
section
variable {P : Program} {w : World} {K : PySem.W.Frag} {mg : Str → Option Value} {base : Heap} {k : Nat}
theorem fnE_gen {name qual : Str} {st : Stmt} {f : Addr} {fd : FuncData} {N ps : List Str} {names : List Str} {fb : Addr → Str → DenS} (F : L2.Fun K name qual st f fd) (S : FnScope N ps (defScope st))
    (hbody : ∀ (cdv : Value) (A : Around) (outer : List Env) (s : Shared) (H : Hp) (E : XK) (p : Addr × Obj) (C : Str) (cls : Value), C ∈ names → XAt K mg C cls none p.2 → L2H.Hot1 A p → L2H.RoomH k (A.deeper (envOfC qual (defScope st) s.heap.objs.size f cdv)) →
      DSs (XOfH P w K mg base N qual st f cdv A outer s H E p) (fun c d _ H' => E c d H') (defBody st) (fb p.1 C)) : FnE P w K mg base (k + 1) f fd ps names (fun a C => bodyD N.length (fb a C)) := by
  obtain ⟨oc, od, kV, doc, pm, an, cdv, ct, osl, rfl, lk, hcd⟩ := F.ex
  refine ⟨fun A outer s H args us vs Q E p C cls hC hX hr hot hpin e0 hb r hsp => ?_⟩
  obtain ⟨ρ, hd, ds, HR, rl, en, hq⟩ := hsp
  have hl : vs.length = ps.length := by rw [← RepL.length rl]; exact en
  have KX : K.In s.heap := e0.mod.kin.keeps fun b o e => (e0.bs b o e).1
  have lim : s.heap.NoLimit := e0.mod.nolimit.keeps fun b o e => (e0.bs b o e).1
  have hkind : ∀ y ∈ ps.zip us, (defScope st).names.lookup y.1 = some .local ∨ ((defScope st).names.lookup y.1 = some .cell ∧ ((cellsFrom (s.heap.objs.size + 1) (defScope st).names []).lookup y.1).isSome = true) := fun ⟨n, v⟩ hy => by
    rcases S.par n (List.of_mem_zip hy).1 with q | q
    · exact .inl q
    · exact .inr ⟨q, PySem.W.cellsFrom_some _ _ _ (.inl q)⟩
  refine codeAny_call_function hr.depth (KX _ _ lk) rfl S.co S.gen rfl (PySem.W.codeRec_of KX hcd) (hb _ _ _ _ ?_)
  refine wpAny_newFunctionEnv_cells S.kind hkind fun env he s1 x => ?_
  subst he
  refine ⟨lim.keeps x.toInCall.keep, codeAny_func ?_⟩
  have ht := hbody cdv A outer s H E p C cls hC hX hot (hr.deeper _)
  have I : Inv (XOfH P w K mg base N qual st f cdv A outer s H E p) [] (L2.start N vs) H s1 := L2H.inv_startH S hpin e0 hl r x
  have hq' : tS K mg (fun c d _ H' => E c d H') (fb p.1 C) { nx := fun _ H' => Q .non H', rt := Q } (L2.start N vs) H := ⟨ρ, startD N.length ds, hd, HR, srel_start rl, post_body hq⟩
  refine wpAny_mono (ht.run [] s1 (L2.start N vs) H _ I hq') (fun fl s' hs => ?_) fun e s' hs => hs
  have fin : ∀ {σ' : L2.St} {H' : Hp} {v : V} {u : Value}, Inv (XOfH P w K mg base N qual st f cdv A outer s H E p) [] σ' H' s' → RelV v u → Q v H' → CE outer P w H s Q u s' :=
    fun {σ' H' v u} J rv q => ⟨v, H', J.os, J.bare, J.base, J.hok, rv, q⟩
  cases fl with
  | ret u =>
    obtain ⟨v, σ', H', J, rv, q⟩ := hs
    exact fin J rv q
  | next =>
    obtain ⟨σ', H', J, q⟩ := hs
    exact fin (v := V.non) (u := Value.none) J rfl q
  | brk =>
    obtain ⟨_, _, _, q⟩ := hs
    exact False.elim q
  | cont =>
    obtain ⟨_, _, _, q⟩ := hs
    exact False.elim q
theorem fnE_mk {name qual : Str} {st : Stmt} {f : Addr} {fd : FuncData} {N ps : List Str} {names : List Str} {fb : Addr → Str → DenS} (F : L2.Fun K name qual st f fd) (S : FnScope N ps (defScope st)) (hm : mg name = some (.ref f)) (hb : Binds K fd ps [])
    (hbody : ∀ (cdv : Value) (A : Around) (outer : List Env) (s : Shared) (H : Hp) (E : XK) (p : Addr × Obj) (C : Str) (cls : Value), C ∈ names → XAt K mg C cls none p.2 → L2H.Hot1 A p → L2H.RoomH k (A.deeper (envOfC qual (defScope st) s.heap.objs.size f cdv)) →
      DSs (XOfH P w K mg base N qual st f cdv A outer s H E p) (fun c d _ H' => E c d H') (defBody st) (fb p.1 C)) : FnEx P w K mg base (k + 1) name ps.length names (fun a C => bodyD N.length (fb a C)) :=
  ⟨f, fd, ps, fnE_gen F S hbody, hm, F.kp, hb, rfl⟩
end
section
variable {X : Cx} {W : WX} {k : Nat}
/-- f(e), e the exception that is handled: the place p of it is pinned first -/
theorem e_call {x C : Str} {n : Nat} {q pos : Pos} {e : Expr} {es : List Expr} {fa : DenA} {names : List Str} {den : Addr → Str → FDen} {p : Addr × Obj} {cls : Value} (F : FnEx X.prog X.w X.K X.mg X.base k x n names den) (hr : L2H.RoomH k X.A) (hot : L2H.Hot1 X.A p) (hp : p ∈ X.pn) (hC : C ∈ names) (hX : XAt X.K X.mg C cls none p.2)
    (hx : ∀ σ, PassesAt (L2N.CX X.prog X.w) X σ fun c d H' => W c d σ H')
    (ha : DA X W (e :: es) fa) (hg : Gl X x := by rfl) (hdb : (x == ("__debug__" : Str)) = false := by decide) (he : starEach (e :: es) X.env = (false, eval e X.env) :: starEach es X.env := by rfl) (hpl : (backTo pos (starEach es X.env)).any (·.1) = false := by rfl) :
    DE X W (.Call (.Name x q) (e :: es) [] pos) (callD (den p.1 C) n fa) := by
  obtain ⟨f, fd, ps, G, hm, hk, hb, hn⟩ := F.ex
  refine ⟨fun pins s σ H Q I h => ?_⟩
  obtain ⟨ρ, σd, hd, HR, S, h⟩ := h
  refine wpAny_Call_Name_kw (ld_glob I hg hm ?_ hdb)
  have h' := PostG.bind (rL X.K X.mg) h
  refine PySem.W.callWith_K (h₀ := X.base) I.ok.mod.kin hk (thn (ha.run pos pins s σ H _ I ⟨ρ, σd, hd, HR, S, h'⟩) fun us s1 ⟨vs, H1, I1, r, ds, h1, ρ1, G1, HR1, r1, q1⟩ => ⟨I1.kIn, ?_⟩) he hpl
  by_cases hz : ds.length = n
  · rw [if_pos hz] at q1
    have hl : us.length = ps.length := by rw [← r.length, ← RepL.length r1]; exact hz.trans hn.symm
    have b := hb s1 us I1.kIn (by rw [List.append_nil]; exact hl)
    rw [List.append_nil] at b
    have P1 := I1.pin p (List.mem_append_left _ hp)
    have hpin : L2H.PinOk X.stack H1 s1 p := ⟨P1.1, P1.2.1, fun hm => (List.mem_cons.mp (I1.stkSub p.1 hm)).elim P1.2.2.1 P1.2.2.2.1, P1.2.2.2.2⟩
    refine wpAny_call (codeAny_mono (G.run X.A X.stack s1 H1 ⟨us, []⟩ us vs Q (fun c d H' => W c d σ H') p C cls hC hX hr hot hpin I1.env0 b r ⟨ρ1, h1, ds, HR1, r1, hz.trans hn.symm, q1⟩) fun r s' hq => ?_)
    cases r with
    | error e => exact hx σ pins H1 s1 e s' I1 hq
    | ok fl =>
      cases fl with
      | ret u => exact I1.after hq
      | next => exact False.elim hq
      | brk => exact False.elim hq
      | cont => exact False.elim hq
  · rw [if_neg hz] at q1; exact q1.elim
theorem takes0N {X : Cx} : L2N.Takes X W0 := fun _ _ x => by
  obtain ⟨_, _, _, _, _, _, _, _, _, _, _, _, _, _, _, _, z⟩ := x
  exact z.elim
theorem passes_suite {X : Cx} {a : Addr} {pn : List (Addr × Obj)} : ∀ σ, PassesAt (L2N.CX X.prog X.w) (X.suite a pn) σ fun c d H' => W0 c d σ H' := fun σ pins H s e s' I c => by
  obtain ⟨_, _, _, _, _, _, _, _, _, _, _, _, z⟩ := c
  exact z.elim
theorem room_suite {X : Cx} {a : Addr} {pn : List (Addr × Obj)} {k : Nat} (h : Room k X.A) : L2H.RoomH k (X.suite a pn).A := ⟨h.dp, h.un⟩
theorem hot_suite {X : Cx} {a : Addr} {oe : Obj} {pn : List (Addr × Obj)} {C : Str} {cls : Value} (h : XAt X.K X.mg C cls none oe) : L2H.Hot1 (X.suite a ((a, oe) :: pn)).A (a, oe) := by
  obtain ⟨vs, hv⟩ := h.f
  exact ⟨rfl, vs, hv, h.z.2.2 vs hv⟩
/-! isinstance(e, C) there -/
def isE (a : Addr) (tab : Str → Bool) (names : List Str) (bt : Bool) : PL := fun ds h => match ds with
  | [.ex b, .gl n] => if b = a ∧ n ∈ names then some (.bl (tab n), h) else none
  | [.ex b, .ty t] => if b = a ∧ t = "ValueError" then some (.bl bt, h) else none
  | _ => none
theorem kE {X : Cx} {p : Addr × Obj} {D : Addr} {cv : Value} {b : Bool} (Cx' : ExcC X.K D) (hz : Zc (.ref D) none p.2) (hf : ∃ vs, p.2.data = .fields vs) (hp : p ∈ X.pn) {pins : List (Addr × Obj)} {s : Shared} {σ : L2.St} {H : Hp} {u t : Value} {Q : VK} (I : Inv X pins σ H s) (eu : u = .ref p.1) (et : t = cv) (e : PySem.W.kitOne X.K (.ref D) cv = some b) (q : Q (.bl b) H) :
    wpAny (model X.prog X.w) X.A (call (.builtin "isinstance") [u, t]) (EP X pins σ Q) X.xe s := by
  subst eu et
  obtain ⟨hget, _⟩ := I.pin p (List.mem_append.mpr (.inl hp))
  obtain ⟨vs, hv⟩ := hf
  have J : PySem.W.InstAt s.heap p.1 p.2 D none := by
    obtain ⟨a, oc, od, oda, osl⟩ := p
    obtain ⟨h1, h2⟩ := hz
    dsimp only at h1 h2 hv
    subst h1 h2 hv
    exact ⟨hget, rfl, rfl, trivial⟩
  exact PySem.W.kia_one (PySem.W.handS_kitx_exc Cx'.hg Cx'.hk Cx'.hs Cx'.hd Cx'.ha Cx'.hn Cx'.ht Cx'.hm) I.kIn J e (fun z => nomatch z) fun tk => ⟨.bl b, H, I.kept (t' := tk) fun _ _ z => z, rfl, q⟩
theorem c_isE {C : Str} {cls : Value} {c : Addr} {p : Addr × Obj} {tab : Str → Bool} {names : List Str} {bt : Bool} (hX : XAt X.K X.mg C cls none p.2) (hp : p ∈ X.pn) (hc : X.mg C = some (.ref c)) (E : ExcC X.K c) (ht : ∀ n ∈ names, ∃ d, X.mg n = some (.ref d) ∧ PySem.W.kitOne X.K (.ref c) (.ref d) = some (tab n)) (hb : PySem.W.kitOne X.K (.ref c) (.type "ValueError") = some bt) :
    CallR X (.builtin "isinstance") (rPL X.K X.mg (isE p.1 tab names bt)) := by
  intro pins s σ H xs us Q I r h
  obtain ⟨ρ, hd, ds, HR, rl, q⟩ := h
  obtain ⟨c', e1, e2⟩ := hX.c
  rw [hc] at e1
  cases e1
  have hz : Zc (.ref c) none p.2 := by rw [← e2]; exact hX.z.zc
  unfold isE at q
  split at q
  · rename_i b n
    obtain ⟨v, rr, rfl, r1, w, rr', rfl, r2, e⟩ := rl
    have e : rr' = [] := e
    have r1 : v = .ref b := r1
    subst e r1
    by_cases hn : b = p.1 ∧ n ∈ names
    · rw [if_pos hn] at q
      obtain ⟨d, g1, g2⟩ := ht n hn.2
      obtain ⟨u, g3, g4⟩ := r2
      rw [g1] at g3
      cases g3
      obtain ⟨u1, u2, rfl, q1, q2⟩ := vals2 r
      have q1 : u1 = .ref b := q1
      have q2 : u2 = .ref d := by
        cases w with
        | ref z =>
          have g4 : Value.ref d = .ref z := g4
          cases g4
          exact q2
        | int i => obtain ⟨t, z⟩ := g4; cases z
        | str i => obtain ⟨t, z⟩ := g4; cases z
        | flt i => obtain ⟨t, z⟩ := g4; cases z
        | byt i => obtain ⟨t, z⟩ := g4; cases z
        | _ => cases g4
      exact kE E hz hX.f hp I (by rw [q1, hn.1]) q2 g2 (PostO.pure q HR rfl)
    · rw [if_neg hn] at q; exact q.elim
  · rename_i b t
    obtain ⟨v, rr, rfl, r1, w, rr', rfl, r2, e⟩ := rl
    have e : rr' = [] := e
    have r1 : v = .ref b := r1
    have r2 : w = .ty t := r2
    subst e r1 r2
    by_cases hn : b = p.1 ∧ t = "ValueError"
    · rw [if_pos hn] at q
      obtain ⟨u1, u2, rfl, q1, q2⟩ := vals2 r
      have q1 : u1 = .ref b := q1
      have q2 : u2 = .type t := q2
      exact kE E hz hX.f hp I (by rw [q1, hn.1]) (by rw [q2, hn.2]) hb (PostO.pure q HR rfl)
    · rw [if_neg hn] at q; exact q.elim
  · exact q.elim
end
/-- a name of the module that stands for an object: its value is known by its name -/
theorem con_gl {K : PySem.W.Frag} {mg : Str → Option Value} {x : Str} {c : Addr} (h : mg x = some (.ref c)) : Con K mg x (.gl x) := ⟨.ref c, .ref c, h, rfl, fun H ρ => ⟨.ref c, h, rfl⟩⟩
theorem con_int {K : PySem.W.Frag} {mg : Str → Option Value} {x : Str} {i : Int} {t : Tok} (h : mg x = some (.int i t)) : Con K mg x (.int i) := ⟨.int i, .int i t, h, ⟨t, rfl⟩, fun H ρ => rfl⟩
end Dz

namespace Dz
open PySem PySem.Spec PyProof.Rows L2
/-! ## the end: a law's def, called with the script -/
theorem repL_ints {K : PySem.W.Frag} {mg : Str → Option Value} {H : Hp} {ρ : Rh} : ∀ ns : List Int, RepL K mg H ρ (ns.map D.int) (ns.map V.int)
  | [] => rfl
  | n :: ns => ⟨.int n, ns.map V.int, rfl, rfl, repL_ints ns⟩
theorem law_callG {P : Program} {w : World} {K : PySem.W.Frag} {mg mb : Str → Option Value} {k : Nat} {fa a : Addr} {fd : FuncData} {x : Str} {den : FDen} {s₁ : Shared} {vs : List Value} {ns : List Int}
    (KX : K.In s₁.heap) (hns : s₁.heap.Ns mainGlobals mg) (hb : s₁.heap.Ns builtinsNs mb) (hbb : ∀ x : Str, x ≠ "__name__" → mb x = bootBuiltins x) (hlim : s₁.heap.NoLimit) (hg : s₁.gens = #[])
    (ha : s₁.heap.get? a = some { cls := .type "list", data := .seq vs.toArray }) (hi : IntsAre vs ns) (hl : ns.length ≤ sizeLine) (hr : Room k callerA)
    (F : ∀ base : Heap, K.In base → base.Ns mainGlobals mg → (∀ b o, base.get? b = some o → s₁.heap.get? b = some o) → FnG P w K mg base k fa fd [x] den) (hbind : ∀ (s : Shared) (u : Value), BindsTo s fd ⟨[u], []⟩ [(x, u)])
    (hden : ∃ h, den [.scr (ns.map D.int)] [] = .ok (.bl true) h) :
    codeAny (model P w) callerA (.call (.ref fa) ⟨[.ref a], []⟩) (fun r s' => r = .ok (.ret (.bool true)) ∧ OldK s₁.heap s'.heap ∧ s'.os = s₁.os ∧ AllBare s'.gens) s₁ := by
  have rv := vals_ints hi
  have lenV := hi.length
  have len2 : (ns.map V.int).length ≤ sizeLine := by rw [List.length_map]; exact hl
  have core : ∀ H : Hp, Only H → (Rd H a (.lst (ns.map V.int)) ∨ KL K a (ns.map V.int)) → HOk P w H s₁.heap → (∀ b, H b ≠ none → b = a) → (H a ≠ none → K.lookup a = none) →
      codeAny (model P w) callerA (.call (.ref fa) ⟨[.ref a], []⟩) (fun r s' => r = .ok (.ret (.bool true)) ∧ OldK s₁.heap s'.heap ∧ s'.os = s₁.os ∧ AllBare s'.gens) s₁ := by
    intro H hO hS hok hA hK
    have isA : ∀ {b : Addr} {u : HO}, H b = some u → b = a := fun {b u} q => hA b (by rw [q]; simp)
    have none_of : ∀ {b : Addr} {o : Obj}, s₁.heap.get? b = some o → o ≠ { cls := .type "list", data := .seq vs.toArray } → H b = none := fun {b o} e d => by
      cases q : H b with
      | none => rfl
      | some u =>
        have e' := isA q
        subst e'
        rw [ha] at e
        exact absurd (Option.some.inj e).symm d
    have up : ∀ {b : Addr} {o : Obj}, s₁.heap.get? b = some o → H b = none → (hidT s₁.heap H).get? b = some o := fun e n => hidT_get e n
    have nsK : ∀ {b : Addr} {m : Str → Option Value}, s₁.heap.Ns b m → (hidT s₁.heap H).Ns b m := fun {b m} ⟨o, es, ep, e, d, r⟩ =>
      ⟨o, es, ep, up e (none_of e fun z => by subst z; cases (show Data.seq vs.toArray _ = Data.dict es ep from d)), d, r⟩
    have hKb : K.In (hidT s₁.heap H) := fun b o e => up (KX b o e) (by
      cases q : H b with
      | none => rfl
      | some u =>
        have e' := isA q
        subst e'
        rw [hK (by rw [q]; simp)] at e; cases e)
    have hM : Mod K mg (hidT s₁.heap H) := ⟨hKb, nsK hns, ⟨mb, nsK hb, hbb⟩, let ⟨mc, h1, h2⟩ := hlim; ⟨mc, nsK h1, h2⟩⟩
    have e0 : Env0 P w K mg (hidT s₁.heap H) callerA [] s₁ H := ⟨rfl, hM, fun b o e => of_hidT e, Nat.le_of_eq (hidT_size _ _), trivial, fun b hb => absurd (show b ∈ ([] : List Addr) from hb) (by simp), hok, .of_eq hg⟩
    have HR : HRel K mg H ⟨[], []⟩ [] := ⟨List.nodup_nil, rfl, fun i o a e _ => by simp at e, fun a h => absurd h (by simp), fun a h => absurd h (by simp)⟩
    have rep : Rep K mg H ⟨[], []⟩ (.scr (ns.map D.int)) (.ref a) := ⟨a, ns.map V.int, rfl, hS.elim (fun z => .inl ⟨z, by simp, by simp⟩) .inr, len2, repL_ints ns⟩
    obtain ⟨h1, ed⟩ := hden
    refine codeAny_mono ((F _ hKb (nsK hns) fun b o e => (of_hidT e).1).run callerA [] s₁ H ⟨[.ref a], []⟩ [.ref a] [.ref a] (fun v _ => v = .bl true) (fun _ _ _ => False) hr rfl e0 (hbind s₁ (.ref a)) (.cons rfl .nil)
      ⟨⟨[], []⟩, [], [.scr (ns.map D.int)], HR, ⟨.ref a, [], rfl, rep, rfl⟩, rfl, by rw [ed]; exact fun b H' ρ' G HR' r => r⟩) fun r s' h => ?_
    cases r with
    | error e =>
      obtain ⟨_, _, _, _, _, _, _, _, _, _, _, _, z⟩ := (show L2N.CX P w [] H s₁ (fun _ _ _ => False) e s' from h)
      exact z.elim
    | ok fl =>
      cases fl with
      | next => exact False.elim h
      | brk => exact False.elim h
      | cont => exact False.elim h
      | ret u =>
        obtain ⟨v, H', os, bare, un, hok', r', q⟩ := h
        have q' : v = .bl true := q
        subst q'
        obtain rfl : u = Value.bool true := r'
        refine ⟨rfl, OldK.of_keep fun b o e => ?_, os, bare⟩
        cases q : H b with
        | none => exact un.keep b o e q (by intro z; exact absurd (show b ∈ ([] : List Addr) from z) (by simp)) (by simp)
        | some u =>
          rcases hO b with z | ⟨ob, xs, z⟩
          · rw [q] at z; cases z
          · have z2 := un.frzs b ob _ z
            obtain ⟨e1, _⟩ := hok b _ z
            obtain ⟨e2, _⟩ := hok' b _ z2
            rw [e] at e1; cases e1
            exact e2
  cases hk : K.lookup a with
  | some o =>
    have e := KX a o hk
    rw [ha] at e
    cases e
    exact core (fun _ => none) (fun _ => .inl rfl) (.inr ⟨_, vs.toArray, _, hk, rfl, rfl, rfl, by rw [List.size_toArray, lenV]; exact hl, by simpa using rv⟩) (fun b u z => by have z' : (none : Option HO) = some u := z; cases z') (fun b z => absurd rfl z) fun z => absurd rfl z
  | none =>
    refine core (fun b => if b = a then some (.frz { cls := .type "list", data := .seq vs.toArray } (.lst (ns.map V.int))) else none) (fun b => ?_) (.inl (.inr ⟨{ cls := .type "list", data := .seq vs.toArray }, if_pos rfl⟩)) (fun b u z => ?_) (fun b z => ?_) fun _ => hk
    · by_cases hb : b = a
      · exact .inr ⟨_, _, if_pos hb⟩
      · exact .inl (if_neg hb)
    · by_cases hb : b = a
      · have z' := (if_pos hb).symm.trans z
        cases z'
        subst hb
        exact ⟨ha, by rw [List.length_map]; exact hl, vs, _, rv, ha⟩
      · have z' := (if_neg hb).symm.trans z
        cases z'
    · by_cases hb : b = a
      · exact hb
      · exact absurd (if_neg hb) z
theorem walk_ofG {l : PySem.W.OpenLaw} {n k : Nat} {q : Program} {loose : List Str} {XP : (Str → Option Value) → Heap → Prop} {YP : World → Heap → Prop} {d : DefRec} {K : Params → PySem.W.Frag} {x : Str} {den : FDen}
    (hn : l.most = some n) (hn2 : n ≤ sizeLine) (hdf : d.params.defaults = []) (hr : Room k callerA)
    (hY : ∀ (w : World) (h : Heap), YP w h → (K w.params).In h)
    (F : ∀ (w : World) (mg : Str → Option Value) (fa : Addr) (h : Heap), (K w.params).In h → h.Ns mainGlobals mg → mg d.name = some (.ref fa) →
      ∃ fd : FuncData, (∀ (s : Shared) (u : Value), BindsTo s fd ⟨[u], []⟩ [(x, u)]) ∧
        ∀ base : Heap, (K w.params).In base → base.Ns mainGlobals mg → FnG l.prog w (K w.params) mg base k fa fd [x] den)
    (hden : ∀ ns : List Int, ns.length ≤ n → ∃ h, den [.scr (ns.map D.int)] [] = .ok (.bl true) h) :
    PySem.W.WalkO q loose XP YP l.row.toRowW d [] (fun f vs => PySem.call f vs) := by
  refine Att.attach_call hn hdf fun w s₀ s₁ mg mb fa o pm cd doc a vs ns G Y ho hd hcd hmg hobj hints hlen hg => ?_
  have KX := hY w _ Y
  obtain ⟨fd, hb, hF⟩ := F w mg fa _ KX G.T.g hmg
  exact law_callG KX G.T.g G.T.b G.T.builtins G.T.nolimit hg hobj hints (Nat.le_trans hlen hn2) hr (fun base hk hn _ => hF base hk hn) hb (hden ns hlen)
end Dz

namespace Dz
open PySem PySem.Spec PyProof.Rows L2
structure FF (K : PySem.W.Frag) (mg : Str → Option Value) (name : Str) (st : Stmt) (ps : List Str) : Prop where
  ex : ∃ f fd, L2.Fun K name name st f fd ∧ mg name = some (.ref f) ∧ Binds K fd ps []
section
variable {P : Program} {w : World} {K : PySem.W.Frag} {mg : Str → Option Value} {base : Heap} {k : Nat} {name : Str} {st : Stmt} {N ps : List Str}
theorem FF.raw {fb : DenS} (F : FF K mg name st ps) (S : FnScope N ps (defScope st))
    (hbody : ∀ (f : Addr) (cdv : Value) (A : Around) (outer : List Env) (s : Shared) (H : Hp) (E : XK), Ctx P w base (XOf P w K mg base N name st f cdv A outer s H E).A k → L2N.Takes (XOf P w K mg base N name st f cdv A outer s H E) (WOf E) →
      DSs (XOf P w K mg base N name st f cdv A outer s H E) (WOf E) (defBody st) fb) : Fn P w K mg base (k + 1) name ps.length (bodyD N.length fb) := by
  obtain ⟨f, fd, F, hm, hb⟩ := F.ex
  exact fn_raw F S hm hb (hbody f)
theorem FF.set {fb : DenS} (F : FF K mg name st ps) (S : FnScope N ps (defScope st))
    (hbody : ∀ (f : Addr) (cdv : Value) (A : Around) (outer : List Env) (s : Shared) (H : Hp) (E : XK), Ctx P w base (XOf P w K mg base N name st f cdv A outer s H E).A k → L2N.Takes (XOf P w K mg base N name st f cdv A outer s H E) (WOf E) →
      DSs (XOf P w K mg base N name st f cdv A outer s H E) (WOf E) (defBody st) fb) : Fn P w K mg base (k + 1) name ps.length (bodyS N.length fb) := by
  obtain ⟨f, fd, F, hm, hb⟩ := F.ex
  exact fn_set F S hm hb (hbody f)
theorem FF.hot {names : List Str} {fb : Addr → Str → DenS} (F : FF K mg name st ps) (S : FnScope N ps (defScope st))
    (hbody : ∀ (f : Addr) (cdv : Value) (A : Around) (outer : List Env) (s : Shared) (H : Hp) (E : XK) (p : Addr × Obj) (C : Str) (cls : Value), C ∈ names → XAt K mg C cls none p.2 → L2H.Hot1 A p → L2H.RoomH k (A.deeper (envOfC name (defScope st) s.heap.objs.size f cdv)) →
      DSs (XOfH P w K mg base N name st f cdv A outer s H E p) (fun c d _ H' => E c d H') (defBody st) (fb p.1 C)) : FnEx P w K mg base (k + 1) name ps.length names (fun a C => bodyD N.length (fb a C)) := by
  obtain ⟨f, fd, F, hm, hb⟩ := F.ex
  exact fnE_mk F S hm hb (hbody f)
end
theorem units64 {k : Nat} {A : Around} (r : L2H.RoomH k A) : A.units + 64 < cLine := by have := r.un; omega
def iAdd : P2 := ipo tt2 fun i j => .int (i + j)
section
variable {X : Cx}
theorem iop_add' : PIp X .Add (rIp X.K X.mg iAdd) := opIpo (X := X) (op := inplaceOp .Add) (opI fun _ _ _ _ _ _ _ _ q => iadd_int q) fun _ _ _ _ => rfl
theorem iop_sub' : PIp X .Sub (rIp X.K X.mg dSub) := opIpo (X := X) (op := inplaceOp .Sub) (opI fun _ _ _ _ _ _ _ _ q => isub_int q) fun _ _ _ _ => rfl
end
theorem law_raw {P : Program} {w : World} {K : PySem.W.Frag} {mg : Str → Option Value} {base : Heap} {k : Nat} {name : Str} {st : Stmt} {N ps : List Str} {f : Addr} {fd : FuncData} {fb : DenS} (F : L2.Fun K name name st f fd) (S : FnScope N ps (defScope st))
    (hbody : ∀ (cdv : Value) (A : Around) (outer : List Env) (s : Shared) (H : Hp) (E : XK), Ctx P w base (XOf P w K mg base N name st f cdv A outer s H E).A k → L2N.Takes (XOf P w K mg base N name st f cdv A outer s H E) (WOf E) →
      DSs (XOf P w K mg base N name st f cdv A outer s H E) (WOf E) (defBody st) fb) : FnG P w K mg base (k + 1) f fd ps (bodyD N.length fb) :=
  fnG_gen F S fun cdv A outer s H E cx => ⟨fb, hbody cdv A outer s H E cx (L2N.takes_of rfl rfl rfl rfl), fun _ _ _ _ _ _ q => q⟩
/-! what isinstance and except ask of classes, out of what k_is tells -/
theorem kit_self {K : PySem.W.Frag} {D : Addr} : PySem.W.kitOne K (.ref D) (.ref D) = some true := by
  unfold PySem.W.kitOne
  rw [if_pos (by simp)]
theorem kit_ref {K : PySem.W.Frag} {D C : Addr} {b : Bool} (hi : PySem.W.isClsIn K C = true) (ht : PySem.W.typeIn K (.ref C) = some (.type "type")) (h : PySem.W.subIn K (.ref D) (.ref C) = some b) (hs : PySem.W.subIn K (.ref D) (.ref D) = some true) : PySem.W.kitOne K (.ref D) (.ref C) = some b := by
  unfold PySem.W.kitOne
  by_cases e : (Value.ref D == Value.ref C) = true
  · have e' : D = C := Value.ref.inj (eq_of_beq e)
    subst e'
    rw [if_pos e]
    rw [hs] at h
    exact h
  · rw [if_neg e]
    have hi' : (PySem.W.clsIn K C).isSome = true := hi
    show (if ((PySem.W.clsIn K C).isSome && PySem.W.typeIn K (.ref C) == some (.type "type")) = true then PySem.W.subIn K (.ref D) (.ref C) else none) = some b
    simpa [hi', ht] using h
theorem kit_ve {K : PySem.W.Frag} {D : Addr} (h : PySem.W.subIn K (.ref D) (.type "ValueError") = some true) : PySem.W.kitOne K (.ref D) (.type "ValueError") = some true := by
  unfold PySem.W.kitOne
  rw [if_neg (by simp)]
  show (if PySem.W.kitMeta "ValueError" = true then PySem.W.subIn K (.ref D) (.type "ValueError") else none) = some true
  rw [if_pos (by decide +kernel)]
  exact h
theorem exm_of {K : PySem.W.Frag} {D C : Addr} (hi : PySem.W.isClsIn K C = true) (ht : PySem.W.typeIn K (.ref C) = some (.type "type")) (hb : PySem.W.subIn K (.ref C) (.type "BaseException") = some true) (h : PySem.W.subIn K (.ref D) (.ref C) = some true) : PySem.W.exmOne K (.ref D) (.ref C) = some true := by
  have hi' : (PySem.W.clsIn K C).isSome = true := hi
  show (if (PySem.W.subIn K (.ref C) (.type "BaseException") == some true) = true then (if ((PySem.W.clsIn K C).isSome && PySem.W.typeIn K (.ref C) == some (.type "type")) = true then PySem.W.subIn K (.ref D) (.ref C) else none) else none) = some true
  simpa [hb, hi', ht] using h
theorem con_tup2 {K : PySem.W.Frag} {mg : Str → Option Value} {x : Str} {a : Addr} {dd : Option Addr} {i j : Int} {t u : Tok} {n : Nat} {sl : Array (Option Value)} (h : mg x = some (.ref a)) (hk : K.lookup a = some ⟨.type "tuple", dd, .seq #[.int i t, .int j u] n, sl⟩) : Con K mg x (.tup [.int i, .int j]) :=
  ⟨.ref a, .ref a, h, rfl, fun H ρ => ⟨a, [.int i, .int j], rfl, .inr ⟨_, #[.int i t, .int j u], n, hk, rfl, rfl, by show 2 ≤ sizeLine; decide, .cons ⟨t, rfl⟩ (.cons ⟨u, rfl⟩ .nil)⟩, by show 2 ≤ sizeLine; decide, .int i, _, rfl, rfl, .int j, _, rfl, rfl, rfl⟩⟩
theorem con_str {K : PySem.W.Frag} {mg : Str → Option Value} {x y : Str} {t : Tok} (h : mg x = some (.str y t)) (hl : y.length ≤ sizeLine := by decide) : Con K mg x (.str y) := ⟨.str y, .str y t, h, ⟨t, rfl⟩, fun H ρ => ⟨rfl, hl⟩⟩
end Dz

namespace Dz
open PySem PySem.Spec PyProof.Rows L2
/-! ## reckoning with denotations -/
section
variable {α β : Type}
@[simp] theorem bind_ok (a : α) (h : Hd) (k : α → Hd → Out β) : (Out.ok a h).bind k = k a h := rfl
@[simp] theorem bind_exc (x : Exn) (h : Hd) (k : α → Hd → Out β) : (Out.exc x h).bind k = .exc x h := rfl
@[simp] theorem bind_stuck (k : α → Hd → Out β) : (Out.stuck).bind k = .stuck := rfl
@[simp] theorem sbind_ok (a : α) (h : Hd) (σ : Sd) (k : α → Hd → SOut) : (Out.ok a h).sbind σ k = k a h := rfl
@[simp] theorem sbind_exc (x : Exn) (h : Hd) (σ : Sd) (k : α → Hd → SOut) : (Out.exc x h).sbind σ k = .exc x σ h := rfl
@[simp] theorem nsbind (σ : Sd) (h : Hd) (k : Sd → Hd → SOut) : (SOut.next σ h).sbind k = k σ h := rfl
@[simp] theorem rsbind (d : D) (h : Hd) (k : Sd → Hd → SOut) : (SOut.ret d h).sbind k = .ret d h := rfl
@[simp] theorem xsbind (x : Exn) (σ : Sd) (h : Hd) (k : Sd → Hd → SOut) : (SOut.exc x σ h).sbind k = .exc x σ h := rfl
@[simp] theorem lift_some (a : α) (h : Hd) : lift (some (a, h)) = .ok a h := rfl
@[simp] theorem lift_none : lift (none : Option (α × Hd)) = .stuck := rfl
@[simp] theorem nox_ok (a : α) (h : Hd) : nox (Out.ok a h) = .ok a h := rfl
end
@[simp] theorem e_cst (d : D) (σ : Sd) (h : Hd) : cst d σ h = .ok d h := rfl
def kBin2 (p : P2) (x : D) (y : D) (h2 : Hd) : Out D := lift (p x y h2)
def kBin (p : P2) (g : Den) (σ : Sd) (x : D) (h1 : Hd) : Out D := (g σ h1).bind (kBin2 p x)
@[simp] theorem kBin2_e (p : P2) (x y : D) (h : Hd) : kBin2 p x y h = lift (p x y h) := rfl
@[simp] theorem kBin_e (p : P2) (g : Den) (σ : Sd) (x : D) (h : Hd) : kBin p g σ x h = (g σ h).bind (kBin2 p x) := rfl
@[simp] theorem e_bin2 (p : P2) (f g : Den) (σ : Sd) (h : Hd) : bin2 p f g σ h = (f σ h).bind (kBin p g σ) := rfl
def kUn (p : P1) (x : D) (h : Hd) : Out D := lift (p x h)
@[simp] theorem kUn_e (p : P1) (x : D) (h : Hd) : kUn p x h = lift (p x h) := rfl
@[simp] theorem e_un1 (p : P1) (f : Den) (σ : Sd) (h : Hd) : un1 p f σ h = (f σ h).bind (kUn p) := rfl
@[simp] theorem e_aNil (σ : Sd) (h : Hd) : aNil σ h = .ok [] h := rfl
def kA2 (d : D) (ds : List D) (h : Hd) : Out (List D) := .ok (d :: ds) h
def kA1 (g : DenA) (σ : Sd) (d : D) (h : Hd) : Out (List D) := (g σ h).bind (kA2 d)
@[simp] theorem kA2_e (d : D) (ds : List D) (h : Hd) : kA2 d ds h = .ok (d :: ds) h := rfl
@[simp] theorem kA1_e (g : DenA) (σ : Sd) (d : D) (h : Hd) : kA1 g σ d h = (g σ h).bind (kA2 d) := rfl
@[simp] theorem e_aCons (f : Den) (g : DenA) (σ : Sd) (h : Hd) : aCons f g σ h = (f σ h).bind (kA1 g σ) := rfl
def kP (p : PL) (ds : List D) (h : Hd) : Out D := lift (p ds h)
@[simp] theorem kP_e (p : PL) (ds : List D) (h : Hd) : kP p ds h = lift (p ds h) := rfl
@[simp] theorem e_callP (p : PL) (f : DenA) (σ : Sd) (h : Hd) : callP p f σ h = (f σ h).bind (kP p) := rfl
def kD (den : FDen) (n : Nat) (ds : List D) (h : Hd) : Out D := if ds.length = n then den ds h else .stuck
@[simp] theorem kD_e (den : FDen) (n : Nat) (ds : List D) (h : Hd) : kD den n ds h = if ds.length = n then den ds h else .stuck := rfl
@[simp] theorem e_callD (den : FDen) (n : Nat) (f : DenA) (σ : Sd) (h : Hd) : callD den n f σ h = (f σ h).bind (kD den n) := rfl
@[simp] theorem e_seqS (f g : DenS) (σ : Sd) (h : Hd) : seqS f g σ h = (f σ h).sbind g := rfl
@[simp] theorem e_nxS (σ : Sd) (h : Hd) : nxS σ h = .next σ h := rfl
def kSet (i : Nat) (σ : Sd) (d : D) (h : Hd) : SOut := .next (σ.set i (some d)) h
@[simp] theorem kSet_e (i : Nat) (σ : Sd) (d : D) (h : Hd) : kSet i σ d h = .next (σ.set i (some d)) h := rfl
@[simp] theorem e_setS (i : Nat) (f : Den) (σ : Sd) (h : Hd) : setS i f σ h = (f σ h).sbind σ (kSet i σ) := rfl
def kRet (d : D) (h : Hd) : SOut := .ret d h
@[simp] theorem kRet_e (d : D) (h : Hd) : kRet d h = .ret d h := rfl
@[simp] theorem e_retS (f : Den) (σ : Sd) (h : Hd) : retS f σ h = (f σ h).sbind σ kRet := rfl
def kEx (σ : Sd) (_ : D) (h : Hd) : SOut := .next σ h
@[simp] theorem kEx_e (σ : Sd) (d : D) (h : Hd) : kEx σ d h = .next σ h := rfl
@[simp] theorem e_exS (f : Den) (σ : Sd) (h : Hd) : exS f σ h = (f σ h).sbind σ (kEx σ) := rfl
def kIf (f g : DenS) (σ : Sd) (b : Bool) (h : Hd) : SOut := if b = true then f σ h else g σ h
@[simp] theorem kIf_e (f g : DenS) (σ : Sd) (b : Bool) (h : Hd) : kIf f g σ b h = if b = true then f σ h else g σ h := rfl
@[simp] theorem e_ifS (c : DenB) (f g : DenS) (σ : Sd) (h : Hd) : ifS c f g σ h = (c σ h).sbind σ (kIf f g σ) := rfl
def kIfD (f g : Den) (σ : Sd) (b : Bool) (h : Hd) : Out D := if b = true then f σ h else g σ h
@[simp] theorem kIfD_e (f g : Den) (σ : Sd) (b : Bool) (h : Hd) : kIfD f g σ b h = if b = true then f σ h else g σ h := rfl
@[simp] theorem e_ifD (c : DenB) (f g : Den) (σ : Sd) (h : Hd) : ifD c f g σ h = (c σ h).bind (kIfD f g σ) := rfl
@[simp] theorem e_raiseS (C : Str) (σ : Sd) (h : Hd) : raiseS C σ h = .exc ⟨C, none⟩ σ h := rfl
def kNotB (b : Bool) (h : Hd) : Out Bool := .ok (!b) h
@[simp] theorem kNotB_e (b : Bool) (h : Hd) : kNotB b h = .ok (!b) h := rfl
@[simp] theorem e_notB (f : DenB) (σ : Sd) (h : Hd) : notB f σ h = (f σ h).bind kNotB := rfl
def kAndB (g : DenB) (σ : Sd) (b : Bool) (h : Hd) : Out Bool := if b = true then g σ h else .ok false h
@[simp] theorem kAndB_e (g : DenB) (σ : Sd) (b : Bool) (h : Hd) : kAndB g σ b h = if b = true then g σ h else .ok false h := rfl
@[simp] theorem e_andB (f g : DenB) (σ : Sd) (h : Hd) : andB f g σ h = (f σ h).bind (kAndB g σ) := rfl
def kOrB (g : DenB) (σ : Sd) (b : Bool) (h : Hd) : Out Bool := if b = true then .ok true h else g σ h
@[simp] theorem kOrB_e (g : DenB) (σ : Sd) (b : Bool) (h : Hd) : kOrB g σ b h = if b = true then .ok true h else g σ h := rfl
@[simp] theorem e_orB (f g : DenB) (σ : Sd) (h : Hd) : orB f g σ h = (f σ h).bind (kOrB g σ) := rfl
def kB (d : D) (h1 : Hd) : Out Bool := match d with
  | .bl b => .ok b h1
  | _ => .stuck
@[simp] theorem kB_bl (b : Bool) (h : Hd) : kB (.bl b) h = .ok b h := rfl
@[simp] theorem e_asB (f : Den) (σ : Sd) (h : Hd) : asB f σ h = (f σ h).bind kB := rfl
def kAnd (g : Den) (σ : Sd) (d : D) (h1 : Hd) : Out D := match d with
  | .bl true => g σ h1
  | .bl false => .ok (.bl false) h1
  | _ => .stuck
@[simp] theorem kAnd_bl (g : Den) (σ : Sd) (b : Bool) (h : Hd) : kAnd g σ (.bl b) h = if b = true then g σ h else .ok (.bl false) h := by cases b <;> rfl
@[simp] theorem e_andV (f g : Den) (σ : Sd) (h : Hd) : andV f g σ h = (f σ h).bind (kAnd g σ) := rfl
def kOr (g : Den) (σ : Sd) (d : D) (h1 : Hd) : Out D := match d with
  | .bl true => .ok (.bl true) h1
  | .bl false => g σ h1
  | _ => .stuck
@[simp] theorem kOr_bl (g : Den) (σ : Sd) (b : Bool) (h : Hd) : kOr g σ (.bl b) h = if b = true then .ok (.bl true) h else g σ h := by cases b <;> rfl
@[simp] theorem e_orV (f g : Den) (σ : Sd) (h : Hd) : orV f g σ h = (f σ h).bind (kOr g σ) := rfl
def kNot (d : D) (h1 : Hd) : Out D := match d with
  | .bl b => .ok (.bl !b) h1
  | _ => .stuck
@[simp] theorem kNot_bl (b : Bool) (h : Hd) : kNot (.bl b) h = .ok (.bl !b) h := rfl
@[simp] theorem e_notV (f : Den) (σ : Sd) (h : Hd) : notV f σ h = (f σ h).bind kNot := rfl
def kCh (p' : P2) (fc : Den) (σ : Sd) (y : D) (z : D) (h3 : Hd) : Out D := match z with
  | .bl true => (fc σ h3).bind fun w h4 => lift (p' y w h4)
  | .bl false => .ok (.bl false) h3
  | _ => .stuck
@[simp] theorem kCh_bl (p' : P2) (fc : Den) (σ : Sd) (y : D) (b : Bool) (h : Hd) : kCh p' fc σ y (.bl b) h = if b = true then (fc σ h).bind (kBin2 p' y) else .ok (.bl false) h := by cases b <;> rfl
def kCh2 (p p' : P2) (fc : Den) (σ : Sd) (x y : D) (h2 : Hd) : Out D := (lift (p x y h2)).bind (kCh p' fc σ y)
def kCh1 (p p' : P2) (fb fc : Den) (σ : Sd) (x : D) (h1 : Hd) : Out D := (fb σ h1).bind (kCh2 p p' fc σ x)
@[simp] theorem kCh2_e (p p' : P2) (fc : Den) (σ : Sd) (x y : D) (h2 : Hd) : kCh2 p p' fc σ x y h2 = (lift (p x y h2)).bind (kCh p' fc σ y) := rfl
@[simp] theorem kCh1_e (p p' : P2) (fb fc : Den) (σ : Sd) (x : D) (h1 : Hd) : kCh1 p p' fb fc σ x h1 = (fb σ h1).bind (kCh2 p p' fc σ x) := rfl
@[simp] theorem e_chain3 (p p' : P2) (fa fb fc : Den) (σ : Sd) (h : Hd) : chain3 p p' fa fb fc σ h = (fa σ h).bind (kCh1 p p' fb fc σ) := rfl
def k_tupD (ds : List D) (h1 : Hd) : Out D := if ds.length ≤ sizeLine then .ok (.tup ds) h1 else .stuck
@[simp] theorem k_tupD_e (ds : List D) (h1 : Hd) : k_tupD ds h1 = if ds.length ≤ sizeLine then .ok (.tup ds) h1 else .stuck := rfl
@[simp] theorem e_tupD (f : DenA) (σ : Sd) (h : Hd) : tupD f σ h = (f σ h).bind k_tupD := rfl
def k_lstD (ds : List D) (h1 : Hd) : Out D := if ds.length ≤ sizeLine then .ok (.lst ds) h1 else .stuck
@[simp] theorem k_lstD_e (ds : List D) (h1 : Hd) : k_lstD ds h1 = if ds.length ≤ sizeLine then .ok (.lst ds) h1 else .stuck := rfl
@[simp] theorem e_lstD (f : DenA) (σ : Sd) (h : Hd) : lstD f σ h = (f σ h).bind k_lstD := rfl
def k_lstM (ds : List D) (h1 : Hd) : Out D := if ds.length ≤ sizeLine then .ok (.ref h1.length) (h1 ++ [.lst ds]) else .stuck
@[simp] theorem k_lstM_e (ds : List D) (h1 : Hd) : k_lstM ds h1 = if ds.length ≤ sizeLine then .ok (.ref h1.length) (h1 ++ [.lst ds]) else .stuck := rfl
@[simp] theorem e_lstM (f : DenA) (σ : Sd) (h : Hd) : lstM f σ h = (f σ h).bind k_lstM := rfl
@[simp] theorem e_dctD (σ : Sd) (h : Hd) : dctD σ h = .ok .dct h := rfl
theorem e_vr {i : Nat} {σ : Sd} {h : Hd} {d : D} (e : σ[i]? = some (some d)) : vr i σ h = .ok d h := by unfold vr; rw [e]
@[simp] theorem e_vr0 (d : D) (σ : Sd) (h : Hd) : vr 0 (some d :: σ) h = .ok d h := rfl
@[simp] theorem e_vrS (i : Nat) (x : Option D) (σ : Sd) (h : Hd) : vr (i + 1) (x :: σ) h = vr i σ h := rfl
/-! prims -/
section
variable (h : Hd) (i j : Int)
@[simp] theorem p_addi (mk) : dAddW mk (.int i) (.int j) h = some (.int (i + j), h) := rfl
@[simp] theorem p_subi : dSub (.int i) (.int j) h = some (.int (i - j), h) := rfl
theorem p_muli (mk) (e : mulOk i j) : dMulW mk (.int i) (.int j) h = some (.int (i * j), h) := if_pos e
theorem p_divi (e : divOk j) : dDiv (.int i) (.int j) h = some (.int (i.fdiv j), h) := if_pos e
theorem p_modi (e : j ≠ 0) : dMod (.int i) (.int j) h = some (.int (i.fmod j), h) := if_pos e
theorem p_powi (e : powOk i j) : dPow (.int i) (.int j) h = some (.int (i ^ j.toNat), h) := if_pos e
@[simp] theorem p_lti : dLt (.int i) (.int j) h = some (.bl (decide (i < j)), h) := rfl
@[simp] theorem p_lei : dLe (.int i) (.int j) h = some (.bl (decide (i ≤ j)), h) := rfl
@[simp] theorem p_gti : dGt (.int i) (.int j) h = some (.bl (decide (j < i)), h) := rfl
@[simp] theorem p_gei : dGe (.int i) (.int j) h = some (.bl (decide (j ≤ i)), h) := rfl
@[simp] theorem p_iadd : iAdd (.int i) (.int j) h = some (.int (i + j), h) := rfl
@[simp] theorem p_neg : dNeg (.int i) h = some (.int (-i), h) := rfl
@[simp] theorem p_int : intD [.int i] h = some (.int i, h) := rfl
@[simp] theorem p_intb (b : Bool) : intD [.bl b] h = some (.int (if b then 1 else 0), h) := rfl
@[simp] theorem p_max : maxD [.int i, .int j] h = some (.int (if j > i then j else i), h) := rfl
@[simp] theorem p_abs : absD [.int i] h = some (.int (if i < 0 then -i else i), h) := rfl
theorem p_addt (mk) (xs ys : List D) (e : xs.length + ys.length ≤ sizeLine) : dAddW mk (.tup xs) (.tup ys) h = some (.tup (xs ++ ys), h) := if_pos e
theorem p_addl (mk) (xs ys : List D) (e : xs.length + ys.length ≤ sizeLine) : dAddW mk (.lst xs) (.lst ys) h = mk (xs ++ ys) h := if_pos e
theorem p_mult (mk) (xs : List D) (k : Int) (e : -1000 ≤ k ∧ k ≤ 1000 ∧ xs.length ≤ 1000) : dMulW mk (.tup xs) (.int k) h = some (.tup (List.replicate k.toNat xs).flatten, h) := if_pos e
theorem p_mull (mk) (xs : List D) (k : Int) (e : -1000 ≤ k ∧ k ≤ 1000 ∧ xs.length ≤ 1000) : dMulW mk (.lst xs) (.int k) h = mk (List.replicate k.toNat xs).flatten h := if_pos e
@[simp] theorem p_lent (xs : List D) : lenD [.tup xs] h = some (.int xs.length, h) := rfl
@[simp] theorem p_lenl (xs : List D) : lenD [.lst xs] h = some (.int xs.length, h) := rfl
@[simp] theorem p_lens (xs : List D) : lenD [.scr xs] h = some (.int xs.length, h) := rfl
@[simp] theorem p_tupt (xs : List D) : tupleD [.tup xs] h = some (.tup xs, h) := rfl
@[simp] theorem p_tupl (xs : List D) : tupleD [.lst xs] h = some (.tup xs, h) := rfl
@[simp] theorem p_listt (mk) (xs : List D) : listD mk [.tup xs] h = mk xs h := rfl
@[simp] theorem p_listl (mk) (xs : List D) : listD mk [.lst xs] h = mk xs h := rfl
@[simp] theorem p_mkL (xs : List D) : mkL xs h = some (.lst xs, h) := rfl
@[simp] theorem p_mkM (xs : List D) : mkM xs h = some (.ref h.length, h ++ [.lst xs]) := rfl
theorem p_ixt (xs : List D) {d : D} (e : atI xs i = some d) : dIx (.tup xs) (.int i) h = some (d, h) := by
  show (match atI xs i with | some d => some (d, h) | none => none) = _
  rw [e]
theorem p_ixl (xs : List D) {d : D} (e : atI xs i = some d) : dIx (.lst xs) (.int i) h = some (d, h) := by
  show (match atI xs i with | some d => some (d, h) | none => none) = _
  rw [e]
theorem p_ixs (xs : List D) {d : D} (e : atI xs i = some d) : dIx (.scr xs) (.int i) h = some (d, h) := by
  show (match atI xs i with | some d => some (d, h) | none => none) = _
  rw [e]
@[simp] theorem p_revt (xs : List D) : revP (.tup xs) h = some (.tup xs.reverse, h) := rfl
@[simp] theorem p_revl (xs : List D) : revP (.lst xs) h = some (.lst xs.reverse, h) := rfl
@[simp] theorem p_slt (mk) (xs : List D) (lo hi : Option Int) : slP mk lo hi (.tup xs) h = some (.tup (cutD xs lo hi), h) := rfl
@[simp] theorem p_sll (mk) (xs : List D) (lo hi : Option Int) : slP mk lo hi (.lst xs) h = mk (cutD xs lo hi) h := rfl
@[simp] theorem p_sls (mk) (xs : List D) (lo hi : Option Int) : slP mk lo hi (.scr xs) h = mk (cutD xs lo hi) h := rfl
def kSl3 (mk : List D → Hd → Option (D × Hd)) (x : D) (lo hi : Option Int) (h3 : Hd) : Out D := lift (slP mk lo hi x h3)
def kSl2 (mk : List D → Hd → Option (D × Hd)) (fh : DenO) (σ : Sd) (x : D) (lo : Option Int) (h2 : Hd) : Out D := (fh σ h2).bind (kSl3 mk x lo)
def kSl1 (mk : List D → Hd → Option (D × Hd)) (fl fh : DenO) (σ : Sd) (x : D) (h1 : Hd) : Out D := (fl σ h1).bind (kSl2 mk fh σ x)
@[simp] theorem kSl3_e (mk) (x : D) (lo hi : Option Int) : kSl3 mk x lo hi h = lift (slP mk lo hi x h) := rfl
@[simp] theorem kSl2_e (mk) (fh : DenO) (σ : Sd) (x : D) (lo : Option Int) : kSl2 mk fh σ x lo h = (fh σ h).bind (kSl3 mk x lo) := rfl
@[simp] theorem kSl1_e (mk) (fl fh : DenO) (σ : Sd) (x : D) : kSl1 mk fl fh σ x h = (fl σ h).bind (kSl2 mk fh σ x) := rfl
@[simp] theorem e_slD (mk) (fa : Den) (fl fh : DenO) (σ : Sd) : slD mk fa fl fh σ h = (fa σ h).bind (kSl1 mk fl fh σ) := rfl
@[simp] theorem e_oNone (σ : Sd) : oNone σ h = .ok none h := rfl
def kO (d : D) (h1 : Hd) : Out (Option Int) := match d with
  | .int i => .ok (some i) h1
  | _ => .stuck
@[simp] theorem kO_int : kO (.int i) h = .ok (some i) h := rfl
@[simp] theorem e_oSome (f : Den) (σ : Sd) : oSome f σ h = (f σ h).bind kO := rfl
end
/-! places: at index -/
theorem at_nat {α : Type} {xs : List α} {n : Nat} {d : α} (e : xs[n]? = some d) : atI xs (n : Int) = some d := by
  have hn : n < xs.length := (List.getElem?_eq_some_iff.mp e).1
  have : ixN xs.length (n : Int) = some n := by
    unfold ixN
    rw [if_pos (by omega), if_pos (by omega)]
    simp
  unfold atI
  rw [this]
  exact e
theorem at_int {α : Type} {xs : List α} {i : Int} {d : α} (h0 : 0 ≤ i) (e : xs[i.toNat]? = some d) : atI xs i = some d := by
  have := at_nat e
  rwa [Int.toNat_of_nonneg h0] at this
/-! whole lists -/
theorem g0 (h : Hd) : guardOk [] h := fun p hp => absurd hp (by simp)
theorem lc_map {gt : DenT} {ft : DenB} {fe : Den} {σ0 : Sd} {h : Hd} {f : D → D} : ∀ {items acc : List D}, (∀ d ∈ items, ∃ σ1, gt d σ0 h = .ok σ1 h ∧ ft σ1 h = .ok true h ∧ fe σ1 h = .ok (f d) h) → lcLoop gt ft fe [] σ0 items acc h = .ok (acc ++ items.map f) h
  | [], acc, _ => by
    unfold lcLoop
    rw [if_pos (g0 _)]
    simp
  | d :: ds, acc, hf => by
    obtain ⟨σ1, e1, e2, e3⟩ := hf d List.mem_cons_self
    unfold lcLoop
    rw [if_pos (g0 _), e1]
    simp only [nox_ok, bind_ok, e2, e3, if_true]
    rw [lc_map fun x hx => hf x (List.mem_cons_of_mem _ hx), List.map_cons, List.append_assoc]
    rfl
theorem lc_inv {gt : DenT} {ft : DenB} {fe : Den} {σ0 : Sd} {I : Hd → Prop} {Q : D → Prop} : ∀ {items acc : List D} {h : Hd}, I h → (∀ d ∈ items, ∀ h, I h → ∃ σ1 y h', gt d σ0 h = .ok σ1 h ∧ ft σ1 h = .ok true h ∧ fe σ1 h = .ok y h' ∧ I h' ∧ Q y) →
    ∃ ys h', lcLoop gt ft fe [] σ0 items acc h = .ok (acc ++ ys) h' ∧ ys.length = items.length ∧ (∀ y ∈ ys, Q y) ∧ I h'
  | [], acc, h, hI, _ => ⟨[], h, by
    unfold lcLoop
    rw [if_pos (g0 _)]
    simp, rfl, fun y hy => absurd hy (by simp), hI⟩
  | d :: ds, acc, h, hI, hf => by
    obtain ⟨σ1, y, h1, e1, e2, e3, hI1, hQ⟩ := hf d List.mem_cons_self h hI
    obtain ⟨ys, h2, e4, l4, q4, hI2⟩ := lc_inv (acc := acc ++ [y]) hI1 fun x hx => hf x (List.mem_cons_of_mem _ hx)
    refine ⟨y :: ys, h2, ?_, by simp [l4], fun z hz => ?_, hI2⟩
    · unfold lcLoop
      rw [if_pos (g0 _), e1]
      simp only [nox_ok, bind_ok, e2, e3, if_true]
      rw [e4, List.append_assoc]
      rfl
    · rcases List.mem_cons.mp hz with rfl | hz
      · exact hQ
      · exact q4 z hz
theorem for_inv {gt : DenT} {fb : DenS} {I : Sd → Hd → Prop} : ∀ {items : List D} {σ : Sd} {h : Hd}, I σ h → (∀ d ∈ items, ∀ σ h, I σ h → ∃ σ1 h1 σ2 h2, gt d σ h = .ok σ1 h1 ∧ fb σ1 h1 = .next σ2 h2 ∧ I σ2 h2) →
    ∃ σ' h', forLoop gt fb [] items σ h = .next σ' h' ∧ I σ' h'
  | [], σ, h, hI, _ => ⟨σ, h, by unfold forLoop; rw [if_pos (g0 _)], hI⟩
  | d :: ds, σ, h, hI, hf => by
    obtain ⟨σ1, h1, σ2, h2, e1, e2, hI2⟩ := hf d List.mem_cons_self σ h hI
    obtain ⟨σ', h', e3, hI3⟩ := for_inv hI2 fun x hx => hf x (List.mem_cons_of_mem _ hx)
    refine ⟨σ', h', ?_, hI3⟩
    unfold forLoop
    rw [if_pos (g0 _), e1]
    show (match fb σ1 h1 with | .next σ2 h2 => forLoop gt fb [] ds σ2 h2 | .cont σ2 h2 => forLoop gt fb [] ds σ2 h2 | .brk σ2 h2 => SOut.next σ2 h2 | o => o) = _
    rw [e2]
    exact e3
/-- steps told one by one -/
theorem for_step {gt : DenT} {fb : DenS} {I : Nat → Sd → Hd → Prop} : ∀ {items : List D} {k : Nat} {σ : Sd} {h : Hd}, I k σ h → (∀ j d, items[j]? = some d → ∀ σ h, I (k + j) σ h → ∃ σ1 h1 σ2 h2, gt d σ h = .ok σ1 h1 ∧ fb σ1 h1 = .next σ2 h2 ∧ I (k + j + 1) σ2 h2) →
    ∃ σ' h', forLoop gt fb [] items σ h = .next σ' h' ∧ I (k + items.length) σ' h'
  | [], k, σ, h, hI, _ => ⟨σ, h, by unfold forLoop; rw [if_pos (g0 _)], hI⟩
  | d :: ds, k, σ, h, hI, hf => by
    obtain ⟨σ1, h1, σ2, h2, e1, e2, hI2⟩ := hf 0 d rfl σ h hI
    obtain ⟨σ', h', e3, hI3⟩ := for_step (k := k + 1) hI2 fun j x hx σ h hj => by
      have := hf (j + 1) x (by simpa using hx) σ h (by rw [show k + (j + 1) = k + 1 + j by omega]; exact hj)
      rwa [show k + (j + 1) + 1 = k + 1 + j + 1 by omega] at this
    refine ⟨σ', h', ?_, by rw [List.length_cons, show k + (ds.length + 1) = k + 1 + ds.length by omega]; exact hI3⟩
    unfold forLoop
    rw [if_pos (g0 _), e1]
    show (match fb σ1 h1 with | .next σ2 h2 => forLoop gt fb [] ds σ2 h2 | .cont σ2 h2 => forLoop gt fb [] ds σ2 h2 | .brk σ2 h2 => SOut.next σ2 h2 | o => o) = _
    rw [e2]
    exact e3
@[simp] theorem p_eqi (i j : Int) (h : Hd) : eqD false (.int i) (.int j) h = some (.bl (i == j), h) := rfl
@[simp] theorem p_nei (i j : Int) (h : Hd) : eqD true (.int i) (.int j) h = some (.bl (!(i == j)), h) := rfl
@[simp] theorem p_eqb (i j : Bool) (h : Hd) : eqD false (.bl i) (.bl j) h = some (.bl (i == j), h) := rfl
@[simp] theorem p_neb (i j : Bool) (h : Hd) : eqD true (.bl i) (.bl j) h = some (.bl (!(i == j)), h) := rfl
@[simp] theorem p_eqs (i j : Str) (h : Hd) : eqD false (.str i) (.str j) h = some (.bl (i == j), h) := rfl
@[simp] theorem p_nes (i j : Str) (h : Hd) : eqD true (.str i) (.str j) h = some (.bl (!(i == j)), h) := rfl
@[simp] theorem p_isb (i j : Bool) (h : Hd) : isD false (.bl i) (.bl j) h = some (.bl (decide (i = j)), h) := rfl
@[simp] theorem p_isnb (i j : Bool) (h : Hd) : isD true (.bl i) (.bl j) h = some (.bl (!decide (i = j)), h) := rfl
theorem p_ixr {h : Hd} {i : Nat} {xs : List D} {j : Int} {d : D} (e0 : h[i]? = some (.lst xs)) (e : atI xs j = some d) : dIx (.ref i) (.int j) h = some (d, h) := by
  have e1 : seqOf (.ref i) h = some xs := by unfold seqOf; dsimp only; rw [e0]
  unfold dIx
  dsimp only
  rw [e1]
  dsimp only
  rw [e]
theorem p_setr {h : Hd} {i : Nat} {xs : List D} {j : Int} {m : Nat} {v : D} (e0 : h[i]? = some (.lst xs)) (e : ixN xs.length j = some m) : dSet (.ref i) (.int j) v h = some (h.set i (.lst (xs.set m v))) := by
  have e1 : ownOf (.ref i) h = some (i, xs) := by unfold ownOf; dsimp only; rw [e0]
  unfold dSet
  rw [e1]
  dsimp only
  rw [e]
/-! the law's pen, a list of three numbers that is changed in place -/
def FlatH (h : Hd) : Prop := ∀ ob ∈ h, NRO ob
def PenV (xs : List D) : Prop := ∃ a b c : Int, xs = [.int a, .int b, .int c] ∧ 0 ≤ a ∧ 0 ≤ c ∧ c < 2147483648
def PenAt (i : Nat) (h : Hd) : Prop := ∃ xs, h[i]? = some (.lst xs) ∧ PenV xs
def PenStep (i : Nat) (h h' : Hd) : Prop := ∃ xs, PenV xs ∧ h' = h.set i (.lst xs)
theorem PenV.flat {xs : List D} (p : PenV xs) : NRO (.lst xs) := by
  obtain ⟨a, b, c, rfl, _⟩ := p
  exact ⟨trivial, trivial, trivial, trivial⟩
theorem PenStep.len {i : Nat} {h h' : Hd} (s : PenStep i h h') : h'.length = h.length := by
  obtain ⟨xs, _, rfl⟩ := s
  rw [List.length_set]
theorem PenStep.at {i : Nat} {h h' : Hd} (s : PenStep i h h') (p : PenAt i h) : PenAt i h' := by
  obtain ⟨xs, q, rfl⟩ := s
  obtain ⟨ys, e, _⟩ := p
  exact ⟨xs, List.getElem?_set_self (List.getElem?_eq_some_iff.mp e).1, q⟩
theorem PenStep.flat {i : Nat} {h h' : Hd} (s : PenStep i h h') (p : FlatH h) : FlatH h' := by
  obtain ⟨xs, q, rfl⟩ := s
  intro ob hb
  rcases List.mem_or_eq_of_mem_set hb with hb | rfl
  · exact p ob hb
  · exact q.flat
theorem PenStep.trans {i : Nat} {h h1 h2 : Hd} (a : PenStep i h h1) (b : PenStep i h1 h2) : PenStep i h h2 := by
  obtain ⟨xs, q, rfl⟩ := a
  obtain ⟨ys, r, rfl⟩ := b
  exact ⟨ys, r, by rw [List.set_set]⟩
theorem PenStep.refl {i : Nat} {h : Hd} (p : PenAt i h) : PenStep i h h := by
  obtain ⟨xs, e, q⟩ := p
  refine ⟨xs, q, ?_⟩
  obtain ⟨hl, e⟩ := List.getElem?_eq_some_iff.mp e
  rw [← e, List.set_getElem_self]
theorem PenStep.take {i n : Nat} {h h' : Hd} (s : PenStep i h h') (hi : i < n) : PenStep i (h.take n) (h'.take n) := by
  obtain ⟨xs, q, rfl⟩ := s
  exact ⟨xs, q, by rw [List.take_set]⟩
theorem NR_int (i : Int) : NR (.int i) := trivial
theorem NRL_map {α : Type} {f : α → D} (hf : ∀ a, NR (f a)) : ∀ l : List α, NRL (l.map f)
  | [] => trivial
  | a :: l => ⟨hf a, NRL_map hf l⟩
theorem settle_ok {h0 h : Hd} {d : D} (hn : NR d) (hf : FlatH (h.take h0.length)) : settle h0 (.ok d h) = .ok d (h.take h0.length) := by
  unfold settle
  dsimp only
  rw [if_pos (.inr hf)]
  have : frz h0.length h 4 d = some d := by unfold frz; rw [if_pos hn]
  rw [this]
theorem settle_exc {h0 : Hd} {C : Str} (hf : FlatH h0) : settle h0 (.exc ⟨C, none⟩ h0) = .exc ⟨C, none⟩ h0 := by
  unfold settle
  dsimp only
  rw [List.take_length, if_pos ⟨.inl rfl, fun fs e => by cases e⟩]
@[simp] theorem szl : sizeLine = 16777216 := sizeLine_eq
theorem isE_gl {a : Addr} {tab : Str → Bool} {names : List Str} {bt : Bool} {n : Str} {h : Hd} (hn : n ∈ names) : isE a tab names bt [.ex a, .gl n] h = some (.bl (tab n), h) := by
  simp [isE, hn]
theorem isE_ty {a : Addr} {tab : Str → Bool} {names : List Str} {bt : Bool} {h : Hd} : isE a tab names bt [.ex a, .ty "ValueError"] h = some (.bl bt, h) := by
  simp [isE]
def kMet2 (p : PM) (x : D) (ds : List D) (h : Hd) : Out D := lift (p x ds h)
def kMet (p : PM) (fa : DenA) (σ : Sd) (x : D) (h1 : Hd) : Out D := if isLD x h1 = true then (fa σ h1).bind (kMet2 p x) else .stuck
@[simp] theorem kMet2_e (p : PM) (x : D) (ds : List D) (h : Hd) : kMet2 p x ds h = lift (p x ds h) := rfl
@[simp] theorem kMet_e (p : PM) (fa : DenA) (σ : Sd) (x : D) (h1 : Hd) : kMet p fa σ x h1 = if isLD x h1 = true then (fa σ h1).bind (kMet2 p x) else .stuck := rfl
@[simp] theorem e_metL (p : PM) (fo : Den) (fa : DenA) (σ : Sd) (h : Hd) : metL p fo fa σ h = (fo σ h).bind (kMet p fa σ) := rfl
@[simp] theorem isLD_lst (xs : List D) (h : Hd) : isLD (.lst xs) h = true := rfl
theorem cut_to (xs : List D) (n : Nat) : cutD xs none (some (n : Int)) = xs.take n := by
  unfold cutD
  simp only [HT.sIx_none, HT.sIx_nat, List.drop_zero, Nat.sub_zero]
  rcases Nat.le_total n xs.length with h | h
  · rw [Nat.min_eq_left h]
  · rw [Nat.min_eq_right h, List.take_length, List.take_of_length_le h]
theorem cut_from (xs : List D) (n : Nat) : cutD xs (some (n : Int)) none = xs.drop n := by
  unfold cutD
  simp only [HT.sIx_none, HT.sIx_nat]
  rcases Nat.le_total n xs.length with h | h
  · rw [Nat.min_eq_left h, List.take_of_length_le (by rw [List.length_drop] <;> omega)]
  · rw [Nat.min_eq_right h, List.drop_length, List.drop_of_length_le h, List.take_nil]
theorem cut_mid (xs : List D) (m n : Nat) : cutD xs (some (m : Int)) (some (n : Int)) = (xs.take n).drop m := by
  unfold cutD
  simp only [HT.sIx_nat]
  rw [List.drop_take]
  rcases Nat.le_total m xs.length with h | h
  · rw [Nat.min_eq_left h]
    rcases Nat.le_total n xs.length with g | g
    · rw [Nat.min_eq_left g]
    · rw [Nat.min_eq_right g, List.take_of_length_le (by rw [List.length_drop] <;> omega), List.take_of_length_le (by rw [List.length_drop] <;> omega)]
  · rw [Nat.min_eq_right h, List.drop_length, List.take_nil, List.drop_of_length_le h, List.take_nil]
theorem p_slr {mk} {h : Hd} {k : Nat} {xs : List D} (e : h[k]? = some (.lst xs)) (lo hi : Option Int) : slP mk lo hi (.ref k) h = mk (cutD xs lo hi) h := by
  have e1 : seqOf (.ref k) h = some xs := by unfold seqOf; dsimp only; rw [e]
  unfold slP
  dsimp only
  rw [e1]
theorem p_tupr {h : Hd} {k : Nat} {xs : List D} (e : h[k]? = some (.lst xs)) : tupleD [.ref k] h = some (.tup xs, h) := by
  have e1 : seqOf (.ref k) h = some xs := by unfold seqOf; dsimp only; rw [e]
  unfold tupleD
  dsimp only
  rw [e1]
theorem p_lenr {h : Hd} {k : Nat} {xs : List D} (e : h[k]? = some (.lst xs)) : lenD [.ref k] h = some (.int xs.length, h) := by
  have e1 : seqOf (.ref k) h = some xs := by unfold seqOf; dsimp only; rw [e]
  unfold lenD
  dsimp only
  rw [e1]
theorem ints_of {R : Int → Prop} : ∀ {ys : List D}, (∀ y ∈ ys, ∃ z : Int, y = .int z ∧ R z) → ∃ zs : List Int, ys = zs.map D.int ∧ ∀ z ∈ zs, R z
  | [], _ => ⟨[], rfl, fun z hz => absurd hz (by simp)⟩
  | y :: ys, h => by
    obtain ⟨z, rfl, hz⟩ := h y List.mem_cons_self
    obtain ⟨zs, rfl, hs⟩ := ints_of fun x hx => h x (List.mem_cons_of_mem _ hx)
    refine ⟨z :: zs, rfl, fun w hw => ?_⟩
    rcases List.mem_cons.mp hw with rfl | hw
    · exact hz
    · exact hs w hw
theorem rng_len (lo : Int) (n : Nat) : (rangeItems lo n).length = n := by unfold rangeItems; rw [List.length_map, List.length_range]
theorem e_rng1 {f : DenA} {σ : Sd} {h h1 : Hd} {j : Int} (e : f σ h = .ok [.int j] h1) (h0 : -1000000 ≤ j) (h2 : j ≤ 1000000) : rng1 f σ h = .ok ⟨rangeItems 0 j.toNat, []⟩ h1 := by
  unfold rng1
  rw [e]
  show (if -1000000 ≤ j ∧ j ≤ 1000000 then Out.ok (⟨rangeItems 0 j.toNat, []⟩ : Src) h1 else .stuck) = _
  rw [if_pos ⟨h0, h2⟩]
theorem e_lcD {fi : DenI} {gt : DenT} {ft : DenB} {fe : Den} {vs : List Nat} {σ : Sd} {h h1 h2 : Hd} {src : Src} {ys : List D} (e : fi σ h = .ok src h1) (e2 : lcLoop gt ft fe src.guard (wipeD σ vs) src.items [] h1 = .ok ys h2) : lcD fi gt ft fe vs σ h = .ok (.lst ys) h2 := by
  unfold lcD
  rw [e, bind_ok, e2, bind_ok]
theorem e_lcM {fi : DenI} {gt : DenT} {ft : DenB} {fe : Den} {vs : List Nat} {σ : Sd} {h h1 h2 : Hd} {src : Src} {ys : List D} (e : fi σ h = .ok src h1) (e2 : lcLoop gt ft fe src.guard (wipeD σ vs) src.items [] h1 = .ok ys h2) : lcM fi gt ft fe vs σ h = .ok (.ref h2.length) (h2 ++ [.lst ys]) := by
  unfold lcM
  rw [e, bind_ok, e2, bind_ok]
@[simp] theorem e_setT (i : Nat) (d : D) (σ : Sd) (h : Hd) : setT i d σ h = .ok (σ.set i (some d)) h := rfl
@[simp] theorem e_yesB (σ : Sd) (h : Hd) : yesB σ h = .ok true h := rfl
@[simp] theorem e_seqI_t (f : Den) (σ : Sd) (h h1 : Hd) (xs : List D) (e : f σ h = .ok (.tup xs) h1) : seqI f σ h = .ok ⟨xs, []⟩ h1 := by unfold seqI; rw [e]; rfl
@[simp] theorem e_seqI_l (f : Den) (σ : Sd) (h h1 : Hd) (xs : List D) (e : f σ h = .ok (.lst xs) h1) : seqI f σ h = .ok ⟨xs, []⟩ h1 := by unfold seqI; rw [e]; rfl
/-! things without lists of ours -/
def PlD : D → Prop
  | .non => True
  | .bl _ => True
  | .int _ => True
  | .str _ => True
  | .tup _ => True
  | .lst _ => True
  | .dct => True
  | _ => False
def isI : D → Bool
  | .int _ => true
  | _ => false
def isT : D → Bool
  | .tup _ => true
  | _ => false
def upI (lo hi : Int) : D → Bool
  | .int i => decide (lo ≤ i) && decide (i ≤ hi)
  | _ => false
theorem isi_at {d : D} {h : Hd} {a t : String} (e : tyN d h = some a) (ht : t ∈ tyOk) : isiD [d, .ty t] h = some (.bl (isB a t), h) := by
  unfold isiD
  dsimp only
  rw [e]
  dsimp only
  rw [if_pos ht]
theorem isi_tuple {d : D} {h : Hd} (p : PlD d) : isiD [d, .ty "tuple"] h = some (.bl (isT d), h) := by
  cases d <;> first | exact p.elim | rfl
theorem isi_int {d : D} {h : Hd} (p : PlD d) : isiD [d, .ty "int"] h = some (.bl (isI d || (match d with | .bl _ => true | _ => false)), h) := by
  cases d <;> first | exact p.elim | rfl
theorem isi_bool {d : D} {h : Hd} (p : PlD d) : isiD [d, .ty "bool"] h = some (.bl (match d with | .bl _ => true | _ => false), h) := by
  cases d <;> first | exact p.elim | rfl
theorem all_bls (f : D → Bool) (xs : List D) (h : Hd) : allD [.lst (xs.map fun d => .bl (f d))] h = some (.bl (xs.all f), h) := by
  have : mapO asBl (xs.map fun d => D.bl (f d)) = some (xs.map f) := by
    induction xs with
    | nil => rfl
    | cons x xs ih => rw [List.map_cons, List.map_cons]; unfold mapO; rw [ih]; rfl
  show (match mapO asBl (xs.map fun d => D.bl (f d)) with | some bs => some (D.bl (bs.all id), h) | none => none) = _
  rw [this]
  dsimp only
  rw [List.all_map]
  rfl
theorem bodyD_ret {n : Nat} {fb : DenS} {ds : List D} {h h' : Hd} {d : D} (e : fb (startD n ds) h = .ret d h') : bodyD n fb ds h = .ok d h' := by unfold bodyD; rw [e]
theorem bodyD_next {n : Nat} {fb : DenS} {ds : List D} {h h' : Hd} {σ : Sd} (e : fb (startD n ds) h = .next σ h') : bodyD n fb ds h = .ok .non h' := by unfold bodyD; rw [e]
theorem bodyD_exc {n : Nat} {fb : DenS} {ds : List D} {h h' : Hd} {σ : Sd} {x : Exn} (e : fb (startD n ds) h = .exc x σ h') : bodyD n fb ds h = .exc x h' := by unfold bodyD; rw [e]
theorem atmap {i : Int} {xs : List Int} (h0 : 0 ≤ i) (h1 : i < xs.length) : atI (xs.map D.int) i = some (.int (xs.getD i.toNat 0)) := by
  refine at_int h0 ?_
  have hn : i.toNat < xs.length := by omega
  rw [List.getElem?_map, List.getElem?_eq_getElem hn, List.getD, List.getElem?_eq_getElem hn]
  rfl
theorem for_nil {gt : DenT} {fb : DenS} {σ : Sd} {h : Hd} : forLoop gt fb [] [] σ h = .next σ h := by unfold forLoop; rw [if_pos (g0 _)]
theorem for_cons {gt : DenT} {fb : DenS} {d : D} {ds : List D} {σ σ1 σ2 : Sd} {h h1 h2 : Hd} (e1 : gt d σ h = .ok σ1 h1) (e2 : fb σ1 h1 = .next σ2 h2) : forLoop gt fb [] (d :: ds) σ h = forLoop gt fb [] ds σ2 h2 := by
  rw [forLoop, if_pos (g0 _), e1]
  show (match fb σ1 h1 with | .next σ2 h2 => forLoop gt fb [] ds σ2 h2 | .cont σ2 h2 => forLoop gt fb [] ds σ2 h2 | .brk σ2 h2 => SOut.next σ2 h2 | o => o) = _
  rw [e2]
def enumFrom : Int → List Int → List D
  | _, [] => []
  | j, x :: xs => .tup [.int j, .int x] :: enumFrom (j + 1) xs
theorem range_cons (lo : Int) (n : Nat) : rangeItems lo (n + 1) = .int lo :: rangeItems (lo + 1) n := by
  unfold rangeItems
  rw [List.range_succ_eq_map, List.map_cons, List.map_map]
  congr 1
  · simp
  · apply List.map_congr_left
    intro a _
    show D.int (lo + ((a + 1 : Nat) : Int)) = D.int (lo + 1 + (a : Int))
    congr 1
    omega
theorem enum_from : ∀ (xs : List Int) (lo : Int), pairUp (rangeItems lo xs.length) (xs.map D.int) = enumFrom lo xs
  | [], lo => rfl
  | x :: xs, lo => by
    rw [List.length_cons, range_cons, List.map_cons]
    show D.tup [.int lo, .int x] :: pairUp (rangeItems (lo + 1) xs.length) (xs.map D.int) = _
    rw [enum_from xs (lo + 1)]
    rfl
theorem e_enumI {f : DenA} {σ : Sd} {h h1 : Hd} {xs : List Int} (e : f σ h = .ok [.tup (xs.map D.int)] h1) : enumI f σ h = .ok ⟨enumFrom 0 xs, []⟩ h1 := by
  unfold enumI
  rw [e]
  have : enumUp (xs.map D.int) = enumFrom 0 xs := by
    unfold enumUp
    rw [List.length_map, enum_from]
  simp [srcOf, notStr, this]
theorem e_forS {fi : DenI} {gt : DenT} {fb : DenS} {σ : Sd} {h h1 : Hd} {src : Src} (e : fi σ h = .ok src h1) : forS fi gt fb σ h = forLoop gt fb src.guard src.items σ h1 := by
  unfold forS
  rw [e]
  rfl
theorem snoc_at (h : Hd) (o : Ob) : (h ++ [o])[h.length]? = some o := by simp
theorem snoc_set (h : Hd) (o o' : Ob) : (h ++ [o]).set h.length o' = h ++ [o'] := by simp
theorem ixN_nat {n m : Nat} (h : m < n) : ixN n (m : Int) = some m := by
  unfold ixN
  rw [if_pos (by omega), if_pos (by omega)]
  simp
theorem mem_range {lo : Int} {n : Nat} {d : D} (h : d ∈ rangeItems lo n) : ∃ i : Nat, i < n ∧ d = .int (lo + (i : Int)) := by
  unfold rangeItems at h
  obtain ⟨i, hi, rfl⟩ := List.mem_map.mp h
  exact ⟨i, List.mem_range.mp hi, rfl⟩
/-- a list over range(n), each item alone -/
theorem lc_range {gt : DenT} {ft : DenB} {fe : Den} {σ0 : Sd} {h : Hd} {n : Nat} {f : Nat → D} (hf : ∀ i < n, ∃ σ1, gt (.int (i : Int)) σ0 h = .ok σ1 h ∧ ft σ1 h = .ok true h ∧ fe σ1 h = .ok (f i) h) :
    lcLoop gt ft fe [] σ0 (rangeItems 0 n) [] h = .ok ((List.range n).map f) h := by
  have e : lcLoop gt ft fe [] σ0 (rangeItems 0 n) [] h = .ok ([] ++ (rangeItems 0 n).map fun d => match d with | .int i => f i.toNat | d => d) h := lc_map fun d hd => by
    obtain ⟨i, hi, rfl⟩ := mem_range hd
    obtain ⟨σ1, a, b, c⟩ := hf i hi
    rw [show (0 : Int) + (i : Int) = (i : Int) by omega]
    exact ⟨σ1, a, b, by rw [c]; rfl⟩
  rw [e, List.nil_append]
  congr 1
  unfold rangeItems
  rw [List.map_map]
  apply List.map_congr_left
  intro i _
  show f ((0 : Int) + (i : Int)).toNat = f i
  congr 1
  omega
/-! repr of ints in a tuple -/
theorem shownAll_ints : ∀ ws : List Int, PyData.shownAll (ws.map PyData.int) = ws.map fun i => (Str.ofString (toString i))
  | [] => rfl
  | w :: ws => by
    rw [List.map_cons, List.map_cons]
    show PyData.shown (.int w) :: PyData.shownAll (ws.map PyData.int) = _
    rw [shownAll_ints ws]
    rfl
theorem piled_le {B : Nat} : ∀ {ts : List Str}, (∀ t ∈ ts, t.length ≤ B) → piled ts ≤ ts.length * (B + 2)
  | [], _ => by simp [piled]
  | t :: ts, h => by
    have h1 := h t List.mem_cons_self
    have h2 := piled_le (B := B) (ts := ts) fun x hx => h x (List.mem_cons_of_mem _ hx)
    rw [piled_cons, List.length_cons, Nat.succ_mul]
    omega
theorem showable_ints : ∀ {ws : List Int}, (∀ w ∈ ws, w.natAbs.log2 < 1920) → PyData.showableAll (ws.map PyData.int) = true
  | [], _ => rfl
  | w :: ws, h => by
    rw [List.map_cons]
    unfold PyData.showableAll
    rw [showable_ints fun x hx => h x (List.mem_cons_of_mem _ hx)]
    simp [PyData.showable, h w List.mem_cons_self]
theorem shown_tup_le {ws : List Int} (hl : ws.length ≤ 1000) (hb : ∀ w ∈ ws, w.natAbs.log2 < 1920) : (PyData.shown (.tuple (ws.map PyData.int))).length ≤ sizeLine := by
  show (tupleText (PyData.shownAll (ws.map PyData.int))).length ≤ sizeLine
  rw [shownAll_ints]
  have hp : piled (ws.map fun i => (Str.ofString (toString i))) ≤ (ws.map fun i => (Str.ofString (toString i))).length * (1921 + 2) := piled_le fun t ht => by
    obtain ⟨i, hi, rfl⟩ := List.mem_map.mp ht
    exact int_text_len_1921 (hb i hi)
  rw [List.length_map] at hp
  generalize ws.map (fun i => (Str.ofString (toString i))) = ts at hp
  have hj : (Str.join ", " ts).length ≤ piled ts := by
    by_cases e : ts = []
    · subst e; decide
    · have := join_length_add ts e; omega
  have h2 : ((if ts.length == 1 then ",)" else ")" : String) : Str).length ≤ 2 := by split <;> decide
  unfold tupleText
  rw [strLen_append, strLen_append]
  have h1 : ("(" : Str).length = 1 := rfl
  rw [h1, szl]
  have : ws.length * 1923 ≤ 1000 * 1923 := Nat.mul_le_mul_right _ hl
  omega
theorem py_tupI (xs : List Int) (h : Hd) : pyOf h 8 (.tup (xs.map D.int)) = some (.tuple (xs.map PyData.int)) := by
  have : mapO (pyOf h 7) (xs.map D.int) = some (xs.map PyData.int) := mapO_map fun c _ => rfl
  show (match mapO (pyOf h 7) (xs.map D.int) with | some ps => some (PyData.tuple ps) | none => none) = _
  rw [this]
theorem repr_tup {ws : List Int} (hl : ws.length ≤ 1000) (hb : ∀ w ∈ ws, w.natAbs.log2 < 1920) (h : Hd) : reprD [.tup (ws.map D.int)] h = some (.str (PyData.shown (.tuple (ws.map PyData.int))), h) := by
  unfold reprD
  dsimp only
  rw [py_tupI]
  dsimp only
  exact if_pos ⟨rfl, by unfold PyData.showable; exact showable_ints hb, shown_tup_le hl hb⟩
theorem log2_small {w : Int} (h : w.natAbs < 2 ^ 64) : w.natAbs.log2 < 1920 := Nat.lt_trans (log2_le64 h) (by decide)
end Dz

namespace Dz
open PySem PySem.Spec PyProof.Rows L2
/-! ## shares: tuples of two ints in lowest terms, the bottom above nought -/
def encQ (q : Rat) : D := .tup [.int q.num, .int (q.den : Int)]
/-- below 2^B, top and bottom -/
def Qs (B : Nat) (q : Rat) : Prop := q.num.natAbs < 2 ^ B ∧ q.den < 2 ^ B
theorem Qs.mono {B C : Nat} {q : Rat} (h : Qs B q) (hc : B ≤ C) : Qs C q :=
  ⟨Nat.lt_of_lt_of_le h.1 (Nat.pow_le_pow_right (by decide) hc), Nat.lt_of_lt_of_le h.2 (Nat.pow_le_pow_right (by decide) hc)⟩
theorem den_pos (q : Rat) : 0 < q.den := Nat.pos_of_ne_zero q.den_nz
theorem gcd_while {c : DenB} {b : DenS} {mk : Nat → Nat → Sd} {h : Hd} (hc : ∀ x y : Nat, c (mk x y) h = .ok (!((y : Int) == 0)) h) (hb : ∀ x y : Nat, y ≠ 0 → b (mk x y) h = .next (mk y (x % y)) h) :
    ∀ (n y : Nat), y < n → ∀ x : Nat, ∃ m, whileN c b m (mk x y) h = some (.next (mk (Nat.gcd x y) 0) h)
  | 0, y, hy, x => absurd hy (Nat.not_lt_zero _)
  | n + 1, y, hy, x => by
    by_cases h0 : y = 0
    · subst h0
      refine ⟨1, ?_⟩
      unfold whileN
      rw [hc, Nat.gcd_zero_right]
      rfl
    · obtain ⟨m, e⟩ := gcd_while hc hb n (x % y) (by have := Nat.mod_lt x (Nat.pos_of_ne_zero h0); omega) y
      refine ⟨m + 1, ?_⟩
      unfold whileN
      rw [hc, show (!((y : Int) == 0)) = true by simp; exact h0]
      dsimp only
      rw [hb x y h0]
      dsimp only
      rw [e, Nat.gcd_comm y (x % y), ← Nat.gcd_rec y x, Nat.gcd_comm y x]
theorem gcd_whileS {c : DenB} {b : DenS} {mk : Nat → Nat → Sd} {h : Hd} (hc : ∀ x y : Nat, c (mk x y) h = .ok (!((y : Int) == 0)) h) (hb : ∀ x y : Nat, y ≠ 0 → b (mk x y) h = .next (mk y (x % y)) h) (x y : Nat) :
    whileS c b (mk x y) h = .next (mk (Nat.gcd x y) 0) h := by
  obtain ⟨m, e⟩ := gcd_while hc hb (y + 1) y (Nat.lt_succ_self _) x
  exact whileS_of e
def bothOf (t b : Int) : Int := if b < 0 then 0 - (Nat.gcd t.natAbs b.natAbs : Int) else (Nat.gcd t.natAbs b.natAbs : Int)
theorem share_num (t b : Int) (hb : b ≠ 0) : t.fdiv (bothOf t b) = (Rat.divInt t b).num := by
  have g0 : 0 < Nat.gcd t.natAbs b.natAbs := Nat.gcd_pos_of_pos_right _ (by omega)
  rw [Rat.num_divInt]
  have eg : b.gcd t = Nat.gcd t.natAbs b.natAbs := by rw [Int.gcd_comm]; rfl
  rw [eg]
  unfold bothOf
  by_cases c : b < 0
  · rw [if_pos c, Int.sign_eq_neg_one_of_neg c, show (0 : Int) - (Nat.gcd t.natAbs b.natAbs : Int) = -(Nat.gcd t.natAbs b.natAbs : Int) by omega]
    have := Int.neg_fdiv_neg (-t) (Nat.gcd t.natAbs b.natAbs : Int)
    rw [Int.neg_neg] at this
    rw [this, Int.fdiv_eq_ediv_of_nonneg _ (by omega)]
    congr 1
    omega
  · rw [if_neg c, Int.sign_eq_one_of_pos (by omega), Int.one_mul, Int.fdiv_eq_ediv_of_nonneg _ (by omega)]
theorem share_den (t b : Int) (hb : b ≠ 0) : b.fdiv (bothOf t b) = ((Rat.divInt t b).den : Int) := by
  have g0 : 0 < Nat.gcd t.natAbs b.natAbs := Nat.gcd_pos_of_pos_right _ (by omega)
  rw [Rat.den_divInt, if_neg hb]
  have eg : b.gcd t = Nat.gcd t.natAbs b.natAbs := by rw [Int.gcd_comm]; rfl
  rw [eg]
  unfold bothOf
  by_cases c : b < 0
  · rw [if_pos c, show (0 : Int) - (Nat.gcd t.natAbs b.natAbs : Int) = -(Nat.gcd t.natAbs b.natAbs : Int) by omega]
    have := Int.neg_fdiv_neg (-b) (Nat.gcd t.natAbs b.natAbs : Int)
    rw [Int.neg_neg] at this
    rw [this, Int.fdiv_eq_ediv_of_nonneg _ (by omega), show -b = ((b.natAbs : Nat) : Int) by omega]
    simp
  · rw [if_neg c, Int.fdiv_eq_ediv_of_nonneg _ (by omega)]
    have e : b = ((b.natAbs : Nat) : Int) := by omega
    generalize b.natAbs = m at e
    subst e
    simp
theorem fdiv_natAbs_le (t : Int) {b : Int} (hb : b ≠ 0) : (t.fdiv (bothOf t b)).natAbs ≤ t.natAbs ∧ (b.fdiv (bothOf t b)).natAbs ≤ b.natAbs := by
  have g0 : 0 < Nat.gcd t.natAbs b.natAbs := Nat.gcd_pos_of_pos_right _ (by omega)
  have key : ∀ x : Int, (Nat.gcd t.natAbs b.natAbs : Nat) ∣ x.natAbs → (x.fdiv (bothOf t b)).natAbs ≤ x.natAbs := fun x hx => by
    have dv : (bothOf t b) ∣ x := by
      unfold bothOf
      split
      · rw [show (0 : Int) - (Nat.gcd t.natAbs b.natAbs : Int) = -(Nat.gcd t.natAbs b.natAbs : Int) by omega]
        exact Int.neg_dvd.mpr (Int.ofNat_dvd_left.mpr hx)
      · exact Int.ofNat_dvd_left.mpr hx
    obtain ⟨k, rfl⟩ := dv
    have bn : bothOf t b ≠ 0 := by unfold bothOf; split <;> omega
    rw [Int.mul_comm, Int.mul_fdiv_cancel _ bn, Int.natAbs_mul]
    exact Nat.le_mul_of_pos_right _ (by omega)
  exact ⟨key t (Nat.gcd_dvd_left _ _), key b (Nat.gcd_dvd_right _ _)⟩
theorem Qs.of_divInt {t b : Int} {B : Nat} (hb : b ≠ 0) (h1 : t.natAbs < 2 ^ B) (h2 : b.natAbs < 2 ^ B) : Qs B (Rat.divInt t b) := by
  obtain ⟨a, c⟩ := fdiv_natAbs_le t hb
  rw [share_num t b hb] at a
  rw [share_den t b hb] at c
  refine ⟨by omega, ?_⟩
  have : (((Rat.divInt t b).den : Int)).natAbs = (Rat.divInt t b).den := Int.natAbs_natCast _
  omega
theorem divOk_both {t b : Int} (hb : b ≠ 0) (h2 : b.natAbs < 2 ^ 8000) : divOk (bothOf t b) := by
  have g0 : 0 < Nat.gcd t.natAbs b.natAbs := Nat.gcd_pos_of_pos_right _ (by omega)
  have gl : Nat.gcd t.natAbs b.natAbs ≤ b.natAbs := Nat.gcd_le_right _ (by omega)
  have e : (bothOf t b).natAbs = Nat.gcd t.natAbs b.natAbs := by unfold bothOf; split <;> omega
  refine ⟨by intro z; rw [z] at e; simp at e; omega, ?_⟩
  rw [e]
  exact Nat.lt_trans ((Nat.log2_lt (by omega)).mpr (Nat.lt_of_le_of_lt gl h2)) (by decide)
/-! sums and products, and how great they get -/
theorem add_top (q r : Rat) : Rat.divInt (q.num * (r.den : Int) + r.num * (q.den : Int)) ((q.den : Int) * (r.den : Int)) = q + r := by
  have := Rat.divInt_add_divInt q.num r.num (d₁ := (q.den : Int)) (d₂ := (r.den : Int)) (by have := den_pos q; omega) (by have := den_pos r; omega)
  rw [← this, Rat.num_divInt_den, Rat.num_divInt_den]
theorem sub_top (q r : Rat) : Rat.divInt (q.num * (r.den : Int) - r.num * (q.den : Int)) ((q.den : Int) * (r.den : Int)) = q - r := by
  have := Rat.divInt_sub_divInt q.num r.num (d₁ := (q.den : Int)) (d₂ := (r.den : Int)) (by have := den_pos q; omega) (by have := den_pos r; omega)
  rw [← this, Rat.num_divInt_den, Rat.num_divInt_den]
theorem mul_top (q r : Rat) : Rat.divInt (q.num * r.num) ((q.den : Int) * (r.den : Int)) = q * r := by
  rw [← Rat.divInt_mul_divInt, Rat.num_divInt_den, Rat.num_divInt_den]
theorem div_top (q r : Rat) : Rat.divInt (q.num * (r.den : Int)) ((q.den : Int) * r.num) = q / r := by
  rw [Rat.div_def, ← Rat.divInt_mul_divInt, Rat.num_divInt_den]
  congr 1
  rw [← Rat.inv_divInt, Rat.num_divInt_den]
theorem pow_add2 {x y a b : Nat} (hx : x < 2 ^ a) (hy : y < 2 ^ b) : x * y < 2 ^ (a + b) := by
  rw [Nat.pow_add]
  rcases Nat.eq_zero_or_pos y with h | h
  · subst h
    rw [Nat.mul_zero]
    exact Nat.mul_pos (Nat.pow_pos (by decide)) (Nat.pow_pos (by decide))
  · exact Nat.lt_of_lt_of_le (Nat.mul_lt_mul_of_pos_right hx h) (Nat.mul_le_mul_left _ (Nat.le_of_lt hy))
theorem ppos (a : Nat) : 0 < 2 ^ a := Nat.pow_pos (by decide)
theorem top_add {q r : Rat} {a b : Nat} (hq : Qs a q) (hr : Qs b r) (s : Int) (hs : s = 1 ∨ s = -1) : (q.num * (r.den : Int) + s * (r.num * (q.den : Int))).natAbs < 2 ^ (a + b + 1) := by
  have h1 : (q.num * (r.den : Int)).natAbs < 2 ^ (a + b) := by rw [Int.natAbs_mul, Int.natAbs_natCast]; exact pow_add2 hq.1 hr.2
  have h2 : (r.num * (q.den : Int)).natAbs < 2 ^ (a + b) := by rw [Int.natAbs_mul, Int.natAbs_natCast, Nat.add_comm]; exact pow_add2 hr.1 hq.2
  rw [Nat.pow_succ]
  rcases hs with rfl | rfl <;> omega
theorem bot_mul {q r : Rat} {a b : Nat} (hq : Qs a q) (hr : Qs b r) : ((q.den : Int) * (r.den : Int)).natAbs < 2 ^ (a + b) := by
  rw [Int.natAbs_mul, Int.natAbs_natCast, Int.natAbs_natCast]
  exact pow_add2 hq.2 hr.2
theorem dd_ne (q r : Rat) : (q.den : Int) * (r.den : Int) ≠ 0 := by
  have h1 := den_pos q
  have h2 := den_pos r
  exact Int.mul_ne_zero (by omega) (by omega)
theorem lt_up {x a b : Nat} (h : x < 2 ^ a) (hab : a ≤ b) : x < 2 ^ b := Nat.lt_of_lt_of_le h (Nat.pow_le_pow_right (by decide) hab)
theorem Qs.add {q r : Rat} {a b : Nat} (hq : Qs a q) (hr : Qs b r) : Qs (a + b + 1) (q + r) := by
  rw [← add_top]
  have := top_add hq hr 1 (.inl rfl)
  rw [Int.one_mul] at this
  exact Qs.of_divInt (dd_ne q r) this (lt_up (bot_mul hq hr) (by omega))
theorem Qs.sub {q r : Rat} {a b : Nat} (hq : Qs a q) (hr : Qs b r) : Qs (a + b + 1) (q - r) := by
  rw [← sub_top]
  have := top_add hq hr (-1) (.inr rfl)
  rw [show q.num * (r.den : Int) + -1 * (r.num * (q.den : Int)) = q.num * (r.den : Int) - r.num * (q.den : Int) by omega] at this
  exact Qs.of_divInt (dd_ne q r) this (lt_up (bot_mul hq hr) (by omega))
theorem Qs.mul {q r : Rat} {a b : Nat} (hq : Qs a q) (hr : Qs b r) : Qs (a + b) (q * r) := by
  rw [← mul_top]
  exact Qs.of_divInt (dd_ne q r) (by rw [Int.natAbs_mul]; exact pow_add2 hq.1 hr.1) (bot_mul hq hr)
theorem num_ne {r : Rat} (h : r ≠ 0) : r.num ≠ 0 := fun z => h (Rat.num_eq_zero.mp z)
theorem Qs.div {q r : Rat} {a b : Nat} (hq : Qs a q) (hr : Qs b r) (h0 : r ≠ 0) : Qs (a + b) (q / r) := by
  rw [← div_top]
  refine Qs.of_divInt (Int.mul_ne_zero (by have := den_pos q; omega) (num_ne h0)) ?_ ?_
  · rw [Int.natAbs_mul, Int.natAbs_natCast]; exact pow_add2 hq.1 hr.2
  · rw [Int.natAbs_mul, Int.natAbs_natCast]; exact pow_add2 hq.2 hr.1
theorem Qs.int {i : Int} {B : Nat} (h : i.natAbs < 2 ^ B) (hB : 1 ≤ B) : Qs B (i : Rat) := by
  refine ⟨by simpa using h, ?_⟩
  have : ((i : Rat)).den = 1 := rfl
  rw [this]
  exact Nat.lt_of_lt_of_le (by decide : 1 < 2 ^ 1) (Nat.pow_le_pow_right (by decide) hB)
theorem enc_int (i : Int) : encQ (i : Rat) = .tup [.int i, .int 1] := by
  unfold encQ
  simp
theorem mulOk_pow {i j : Int} {a b : Nat} (h : i.natAbs < 2 ^ a) (g : j.natAbs < 2 ^ b) (hab : a + b < 50000000) : mulOk i j := by
  unfold mulOk
  have l : ∀ {x c : Nat}, x < 2 ^ c → x.log2 ≤ c := fun {x c} hx => by
    by_cases h0 : x = 0
    · subst h0; simp
    · exact Nat.le_of_lt ((Nat.log2_lt h0).mpr hx)
  have := l h
  have := l g
  omega
theorem i_top (q : Rat) (h : Hd) : dIx (encQ q) (.int 0) h = some (.int q.num, h) := p_ixt h 0 _ (at_nat (n := 0) rfl)
theorem i_bot (q : Rat) (h : Hd) : dIx (encQ q) (.int 1) h = some (.int (q.den : Int), h) := p_ixt h 1 _ (at_nat (n := 1) rfl)
theorem seq_n {f g : DenS} {σ σ1 : Sd} {h h1 : Hd} (e : f σ h = .next σ1 h1) : seqS f g σ h = g σ1 h1 := by rw [e_seqS, e, nsbind]
theorem lc_mapL {γ : Type} {gt : DenT} {ft : DenB} {fe : Den} {σ0 : Sd} {h : Hd} {g k : γ → D} : ∀ {l : List γ} {acc : List D}, (∀ c ∈ l, ∃ σ1, gt (g c) σ0 h = .ok σ1 h ∧ ft σ1 h = .ok true h ∧ fe σ1 h = .ok (k c) h) → lcLoop gt ft fe [] σ0 (l.map g) acc h = .ok (acc ++ l.map k) h
  | [], acc, _ => by
    rw [List.map_nil, lcLoop, if_pos (g0 _), List.map_nil, List.append_nil]
  | c :: l, acc, hf => by
    obtain ⟨σ1, e1, e2, e3⟩ := hf c List.mem_cons_self
    rw [List.map_cons, lcLoop, if_pos (g0 _), e1]
    simp only [nox_ok, bind_ok, e2, e3, if_true]
    rw [lc_mapL fun x hx => hf x (List.mem_cons_of_mem _ hx), List.map_cons, List.append_assoc]
    rfl
theorem pair_map {α β : Type} {f : α → D} {g : β → D} : ∀ (xs : List α) (ys : List β), pairUp (xs.map f) (ys.map g) = (xs.zip ys).map fun p => D.tup [f p.1, g p.2]
  | [], ys => by simp [pairUp]
  | x :: xs, [] => by simp [pairUp]
  | x :: xs, y :: ys => by
    rw [List.map_cons, List.map_cons, List.zip_cons_cons, List.map_cons, ← pair_map xs ys]
    rfl
theorem e_zipI {f : DenA} {σ : Sd} {h h1 : Hd} {xs ys : List D} (e : f σ h = .ok [.tup xs, .lst ys] h1) : zipI f σ h = .ok ⟨pairUp xs ys, []⟩ h1 := by
  unfold zipI
  rw [e]
  simp [srcOf, notStr]
theorem p_revr {h : Hd} {k : Nat} {xs : List D} (e : h[k]? = some (.lst xs)) : revP (.ref k) h = some (.lst xs.reverse, h) := by
  have e1 : seqOf (.ref k) h = some xs := by unfold seqOf; dsimp only; rw [e]
  unfold revP
  dsimp only
  rw [e1]
theorem app_ok {h : Hd} {xs : List D} {d : D} (hl : xs.length < 16777216) : appP (.ref h.length) [d] (h ++ [.lst xs]) = some (.non, h ++ [.lst (xs ++ [d])]) := by
  have o : Dz.ownOf (.ref h.length) (h ++ [.lst xs]) = some (h.length, xs) := by unfold Dz.ownOf; simp
  unfold appP
  rw [o]
  dsimp only
  rw [szl, if_pos hl, snoc_set]
theorem isLD_snoc (h : Hd) (xs : List D) : isLD (.ref h.length) (h ++ [.lst xs]) = true := by unfold isLD seqOf; simp
theorem enc_zero : encQ 0 = .tup [.int 0, .int 1] := rfl
theorem enc_one : encQ 1 = .tup [.int 1, .int 1] := rfl
theorem NR_enc (q : Rat) : NR (encQ q) := ⟨trivial, trivial, trivial⟩
theorem e_rng2 {f : DenA} {σ : Sd} {h h1 : Hd} {i j : Int} (e : f σ h = .ok [.int i, .int j] h1) (h0 : (-1000000 ≤ i ∧ i ≤ 1000000) ∧ (-1000000 ≤ j ∧ j ≤ 1000000)) : rng2 f σ h = .ok ⟨rangeItems i (j - i).toNat, []⟩ h1 := by
  unfold rng2
  rw [e]
  show (if (-1000000 ≤ i ∧ i ≤ 1000000) ∧ (-1000000 ≤ j ∧ j ≤ 1000000) then Out.ok (⟨rangeItems i (j - i).toNat, []⟩ : Src) h1 else .stuck) = _
  rw [if_pos h0]
theorem all_blsL {γ : Type} (f : γ → Bool) (xs : List γ) (h : Hd) : allD [.lst (xs.map fun d => .bl (f d))] h = some (.bl (xs.all f), h) := by
  have : mapO asBl (xs.map fun d => D.bl (f d)) = some (xs.map f) := by
    induction xs with
    | nil => rfl
    | cons x xs ih => rw [List.map_cons, List.map_cons]; unfold mapO; rw [ih]; rfl
  show (match mapO asBl (xs.map fun d => D.bl (f d)) with | some bs => some (D.bl (bs.all id), h) | none => none) = _
  rw [this]
  dsimp only
  rw [List.all_map]
  rfl
theorem tupleText_le {B : Nat} {ts : List Str} (hb : ∀ t ∈ ts, t.length ≤ B) : (tupleText ts).length ≤ 3 + ts.length * (B + 2) := by
  have hp := piled_le hb
  have hj : (Str.join ", " ts).length ≤ piled ts := by
    by_cases e : ts = []
    · subst e; decide
    · have := join_length_add ts e; omega
  have h2 : ((if ts.length == 1 then ",)" else ")" : String) : Str).length ≤ 2 := by split <;> decide
  unfold tupleText
  rw [strLen_append, strLen_append]
  have h1 : ("(" : Str).length = 1 := rfl
  rw [h1]
  omega
def pyQ (q : Rat) : PyData := .tuple [.int q.num, .int (q.den : Int)]
theorem shownAll_q : ∀ qs : List Rat, PyData.shownAll (qs.map pyQ) = qs.map fun q => PyData.shown (pyQ q)
  | [] => rfl
  | q :: qs => by
    rw [List.map_cons, List.map_cons]
    show PyData.shown (pyQ q) :: PyData.shownAll (qs.map pyQ) = _
    rw [shownAll_q qs]
theorem lg_lt {x B : Nat} (h : x < 2 ^ B) (hB : B ≤ 1919) : x.log2 < 1920 := by
  by_cases h0 : x = 0
  · subst h0; decide
  · have := (Nat.log2_lt h0).mpr h
    omega
theorem showable_q : ∀ {qs : List Rat}, (∀ q ∈ qs, Qs 1900 q) → PyData.showableAll (qs.map pyQ) = true
  | [], _ => rfl
  | q :: qs, h => by
    have hq := h q List.mem_cons_self
    rw [List.map_cons]
    unfold PyData.showableAll
    rw [showable_q fun x hx => h x (List.mem_cons_of_mem _ hx)]
    have a : (q.num.natAbs).log2 < 1920 := lg_lt hq.1 (by decide)
    have b : (((q.den : Int)).natAbs).log2 < 1920 := by rw [Int.natAbs_natCast]; exact lg_lt hq.2 (by decide)
    simp [pyQ, PyData.showable, PyData.showableAll, a, b]
    rw [Int.natAbs_natCast] at b
    exact b
theorem repr_q {qs : List Rat} (hl : qs.length ≤ 1000) (hb : ∀ q ∈ qs, Qs 1900 q) (h : Hd) : reprD [.tup (qs.map encQ)] h = some (.str (PyData.shown (.tuple (qs.map pyQ))), h) := by
  have hp : pyOf h 8 (.tup (qs.map encQ)) = some (.tuple (qs.map pyQ)) := by
    have : mapO (pyOf h 7) (qs.map encQ) = some (qs.map pyQ) := mapO_map fun c _ => rfl
    show (match mapO (pyOf h 7) (qs.map encQ) with | some ps => some (PyData.tuple ps) | none => none) = _
    rw [this]
  unfold reprD
  dsimp only
  rw [hp]
  dsimp only
  refine if_pos ⟨rfl, by unfold PyData.showable; exact showable_q hb, ?_⟩
  show (tupleText (PyData.shownAll (qs.map pyQ))).length ≤ sizeLine
  rw [shownAll_q, szl]
  refine Nat.le_trans (tupleText_le (B := 3849) fun t ht => ?_) ?_
  · obtain ⟨q, hq, rfl⟩ := List.mem_map.mp ht
    have hq' := hb q hq
    show (tupleText [Str.ofString (toString q.num), Str.ofString (toString (q.den : Int))]).length ≤ 3849
    refine Nat.le_trans (tupleText_le (B := 1921) fun t ht => ?_) (by show 3 + 2 * 1923 ≤ 3849; decide)
    simp only [List.mem_cons, List.mem_nil_iff, or_false] at ht
    rcases ht with rfl | rfl
    · exact int_text_len_1921 (lg_lt hq'.1 (by decide))
    · exact int_text_len_1921 (by rw [Int.natAbs_natCast]; exact lg_lt hq'.2 (by decide))
  · rw [List.length_map]
    have := Nat.mul_le_mul_right 3851 hl
    omega
theorem repr_str {x : Str} (hl : (PyData.shown (.str x)).length ≤ sizeLine) (h : Hd) : reprD [.str x] h = some (.str (PyData.shown (.str x)), h) := by
  unfold reprD
  exact if_pos ⟨rfl, rfl, hl⟩
theorem app_step {α : Type} (f : Nat → α) (k : Nat) : (List.range (k + 1)).map f = (List.range k).map f ++ [f k] := by rw [List.range_succ, List.map_append]; rfl
end Dz

namespace Dz
open PySem PySem.Spec PyProof.Rows L2
/-! ## equality of things with shares and tables -/
theorem eqv_map {α : Type} [DecidableEq α] {f : α → PyData} (hf : ∀ x y, PyData.eqv (f x) (f y) = decide (x = y)) : ∀ xs ys : List α, PyData.eqvAll (xs.map f) (ys.map f) = decide (xs = ys)
  | [], [] => rfl
  | [], y :: ys => rfl
  | x :: xs, [] => rfl
  | x :: xs, y :: ys => by
    rw [List.map_cons, List.map_cons]
    unfold PyData.eqvAll
    rw [eqv_map hf xs ys, hf]
    by_cases h : x = y <;> by_cases g : xs = ys <;> simp [h, g]
theorem eqv_int (x y : Int) : PyData.eqv (.int x) (.int y) = decide (x = y) := by
  unfold PyData.eqv
  by_cases h : x = y <;> simp [h]
theorem eqv_tupL (xs ys : List PyData) : PyData.eqv (.tuple xs) (.tuple ys) = PyData.eqvAll xs ys := by
  simp [PyData.eqv]
theorem eqv_lstL (xs ys : List PyData) : PyData.eqv (.list xs) (.list ys) = PyData.eqvAll xs ys := by
  simp [PyData.eqv]
theorem eqv_q (q r : Rat) : PyData.eqv (pyQ q) (pyQ r) = decide (q = r) := by
  unfold pyQ
  rw [eqv_tupL]
  have := eqv_map (f := PyData.int) eqv_int [q.num, (q.den : Int)] [r.num, (r.den : Int)]
  refine this.trans ?_
  rw [decide_eq_decide]
  constructor
  · intro h
    simp at h
    exact Rat.ext h.1 (by omega)
  · rintro rfl; rfl
theorem eqv_row (xs ys : List Int) : PyData.eqv (.list (xs.map PyData.int)) (.list (ys.map PyData.int)) = decide (xs = ys) := by rw [eqv_lstL, eqv_map eqv_int]
theorem py_enc (q : Rat) (h : Hd) (n : Nat) : pyOf h (n + 2) (encQ q) = some (pyQ q) := rfl
theorem py_tupQ (qs : List Rat) (h : Hd) : pyOf h 8 (.tup (qs.map encQ)) = some (.tuple (qs.map pyQ)) := by
  have : mapO (pyOf h 7) (qs.map encQ) = some (qs.map pyQ) := mapO_map fun c _ => rfl
  show (match mapO (pyOf h 7) (qs.map encQ) with | some ps => some (PyData.tuple ps) | none => none) = _
  rw [this]
theorem py_lstI (xs : List Int) (h : Hd) (n : Nat) : pyOf h (n + 2) (.lst (xs.map D.int)) = some (.list (xs.map PyData.int)) := by
  have : mapO (pyOf h (n + 1)) (xs.map D.int) = some (xs.map PyData.int) := mapO_map fun c _ => rfl
  show (match mapO (pyOf h (n + 1)) (xs.map D.int) with | some ps => some (PyData.list ps) | none => none) = _
  rw [this]
theorem py_tab (t : List (List Int)) (h : Hd) : pyOf h 8 (.lst (t.map fun r => .lst (r.map D.int))) = some (.list (t.map fun r => .list (r.map PyData.int))) := by
  have : mapO (pyOf h 7) (t.map fun r => .lst (r.map D.int)) = some (t.map fun r => .list (r.map PyData.int)) := mapO_map fun c _ => py_lstI c h 5
  show (match mapO (pyOf h 7) (t.map fun r => .lst (r.map D.int)) with | some ps => some (PyData.list ps) | none => none) = _
  rw [this]
def xB (neg b : Bool) : Bool := if neg then !b else b
theorem p_eqQ (neg : Bool) (qs rs : List Rat) (h : Hd) : eqD neg (.tup (qs.map encQ)) (.tup (rs.map encQ)) h = some (.bl (xB neg (decide (qs = rs))), h) := by
  unfold eqD
  rw [py_tupQ, py_tupQ]
  dsimp only
  rw [eqv_tupL, eqv_map eqv_q]
  cases neg <;> rfl
theorem p_eqq (neg : Bool) (q r : Rat) (h : Hd) : eqD neg (encQ q) (encQ r) h = some (.bl (xB neg (decide (q = r))), h) := by
  unfold eqD
  rw [py_enc, py_enc]
  dsimp only
  rw [eqv_q]
  cases neg <;> rfl
theorem p_eqT (neg : Bool) (t u : List (List Int)) (h : Hd) : eqD neg (.lst (t.map fun r => .lst (r.map D.int))) (.lst (u.map fun r => .lst (r.map D.int))) h = some (.bl (xB neg (decide (t = u))), h) := by
  unfold eqD
  rw [py_tab, py_tab]
  dsimp only
  rw [eqv_lstL, eqv_map (f := fun r : List Int => PyData.list (r.map PyData.int)) eqv_row]
  cases neg <;> rfl
@[simp] theorem xB_t (b : Bool) : xB true b = !b := rfl
@[simp] theorem xB_f (b : Bool) : xB false b = b := rfl
theorem e_zipT {f : DenA} {σ : Sd} {h h1 : Hd} {xs ys : List D} (e : f σ h = .ok [.tup xs, .tup ys] h1) : zipI f σ h = .ok ⟨pairUp xs ys, []⟩ h1 := by
  unfold zipI
  rw [e]
  rfl
end Dz

namespace Dz
open PySem PySem.Spec PyProof.Rows L2
/-! ## an expression that is not reached -/
def stkD : Den := fun _ _ => .stuck
theorem d_stk {X : Cx} {W : WX} {e : Expr} : DE X W e stkD := ⟨fun pins s σ H Q I h => by
  obtain ⟨ρ, σd, hd, HR, S, h⟩ := h
  exact h.elim⟩
@[simp] theorem e_stk (σ : Sd) (h : Hd) : stkD σ h = .stuck := rfl
/-! ## a def called with the handled exception calls another one with it -/
theorem e_call2 {P : Program} {w : World} {K : PySem.W.Frag} {mg : Str → Option Value} {base : Heap} {N : List Str} {qual : Str} {st : Stmt} {f : Addr} {cdv : Value} {A : Around} {outer : List Env} {s : Shared} {H : Hp} {E : XK} {p : Addr × Obj} {k : Nat}
    {x C : Str} {n : Nat} {q pos : Pos} {e : Expr} {es : List Expr} {fa : DenA} {names : List Str} {den : Addr → Str → FDen} {cls : Value} (F : FnEx P w K mg base k x n names den) (hr : L2H.RoomH k (XOfH P w K mg base N qual st f cdv A outer s H E p).A) (hot : L2H.Hot1 A p) (hC : C ∈ names) (hX : XAt K mg C cls none p.2)
    (ha : DA (XOfH P w K mg base N qual st f cdv A outer s H E p) (fun c d _ H' => E c d H') (e :: es) fa) (hg : Gl (XOfH P w K mg base N qual st f cdv A outer s H E p) x := by rfl) (hdb : (x == ("__debug__" : Str)) = false := by decide)
    (he : starEach (e :: es) (XOfH P w K mg base N qual st f cdv A outer s H E p).env = (false, eval e (XOfH P w K mg base N qual st f cdv A outer s H E p).env) :: starEach es (XOfH P w K mg base N qual st f cdv A outer s H E p).env := by rfl)
    (hpl : (backTo pos (starEach es (XOfH P w K mg base N qual st f cdv A outer s H E p).env)).any (·.1) = false := by rfl) :
    DE (XOfH P w K mg base N qual st f cdv A outer s H E p) (fun c d _ H' => E c d H') (.Call (.Name x q) (e :: es) [] pos) (callD (den p.1 C) n fa) :=
  e_call (X := XOfH P w K mg base N qual st f cdv A outer s H E p) (W := fun c d _ H' => E c d H') F hr hot List.mem_cons_self hC hX
    (fun σ pins H' s' e' s'' I c => L2N.passes_call (L2N.takes_of rfl rfl rfl rfl) (fun _ _ _ _ z => z) pins σ H' s' e' s'' I c) ha hg hdb he hpl
/-! ## repr of things with {} in them -/
mutual
def pyK (k : Bool) : D → Option PyData
  | .non => some .none
  | .bl b => some (.bool b)
  | .int i => some (.int i)
  | .str x => some (.str x)
  | .tup ds => match pyKL k ds with
    | some ps => some (.tuple ps)
    | none => none
  | .lst ds => if k then none else match pyKL k ds with
    | some ps => some (.list ps)
    | none => none
  | .dct => if k then some (.dict []) else none
  | _ => none
def pyKL (k : Bool) : List D → Option (List PyData)
  | [] => some []
  | d :: ds => match pyK k d, pyKL k ds with
    | some p, some ps => some (p :: ps)
    | _, _ => none
end
theorem pyKL_cons {k : Bool} {d : D} {ds : List D} {ps : List PyData} (e : pyKL k (d :: ds) = some ps) : ∃ p qs, ps = p :: qs ∧ pyK k d = some p ∧ pyKL k ds = some qs := by
  unfold pyKL at e
  cases e1 : pyK k d with
  | none => rw [e1] at e; cases e
  | some p =>
    cases e2 : pyKL k ds with
    | none => rw [e1, e2] at e; cases e
    | some qs =>
      rw [e1, e2] at e
      cases e
      exact ⟨p, qs, rfl, rfl, rfl⟩
theorem pyK_tup {k : Bool} {ds : List D} {p : PyData} (e : pyK k (.tup ds) = some p) : ∃ ps, p = .tuple ps ∧ pyKL k ds = some ps := by
  unfold pyK at e
  cases e1 : pyKL k ds with
  | none => rw [e1] at e; cases e
  | some ps => rw [e1] at e; cases e; exact ⟨ps, rfl, rfl⟩
theorem pyK_lst {k : Bool} {ds : List D} {p : PyData} (e : pyK k (.lst ds) = some p) : ∃ ps, k = false ∧ p = .list ps ∧ pyKL k ds = some ps := by
  unfold pyK at e
  cases k with
  | true => cases e
  | false =>
    cases e1 : pyKL false ds with
    | none => rw [if_neg (by decide), e1] at e; cases e
    | some ps => rw [if_neg (by decide), e1] at e; cases e; exact ⟨ps, rfl, rfl, rfl⟩
theorem pyK_dct {k : Bool} {p : PyData} (e : pyK k .dct = some p) : k = true ∧ p = .dict [] := by
  unfold pyK at e
  cases k with
  | true => cases e; exact ⟨rfl, rfl⟩
  | false => cases e
mutual
theorem pyK_nd : ∀ (d : D) (p : PyData), pyK false d = some p → p.hasDict = false
  | .non, p, e => by unfold pyK at e; cases e; rfl
  | .bl b, p, e => by unfold pyK at e; cases e; rfl
  | .int i, p, e => by unfold pyK at e; cases e; rfl
  | .str x, p, e => by unfold pyK at e; cases e; rfl
  | .tup ds, p, e => by
    obtain ⟨ps, rfl, e1⟩ := pyK_tup e
    simp only [PyData.hasDict]
    exact pyKL_nd ds ps e1
  | .lst ds, p, e => by
    obtain ⟨ps, _, rfl, e1⟩ := pyK_lst e
    simp only [PyData.hasDict]
    exact pyKL_nd ds ps e1
  | .dct, p, e => by cases (pyK_dct e).1
  | .scr ds, p, e => by unfold pyK at e; cases e
  | .ref i, p, e => by unfold pyK at e; cases e
  | .gl n, p, e => by unfold pyK at e; cases e
  | .ty t, p, e => by unfold pyK at e; cases e
  | .ex a, p, e => by unfold pyK at e; cases e
theorem pyKL_nd : ∀ (ds : List D) (ps : List PyData), pyKL false ds = some ps → PyData.hasDictAll ps = false
  | [], ps, e => by unfold pyKL at e; cases e; rfl
  | d :: ds, ps, e => by
    obtain ⟨p, qs, rfl, e1, e2⟩ := pyKL_cons e
    simp only [PyData.hasDictAll, pyK_nd d p e1, pyKL_nd ds qs e2]; rfl
end
section
variable {K : PySem.W.Frag} {mg : Str → Option Value} {H : Hp} {ρ : Rh}
mutual
theorem dpK : ∀ (d : D) (p : PyData) (v : V), pyK false d = some p → Rep K mg H ρ d v → Dp K H v p
  | .non, p, v, e, r => by unfold pyK at e; cases e; have r : v = .non := r; subst r; exact .non
  | .bl b, p, v, e, r => by unfold pyK at e; cases e; have r : v = .bl b := r; subst r; exact .bl b
  | .int i, p, v, e, r => by unfold pyK at e; cases e; have r : v = .int i := r; subst r; exact .int i
  | .str x, p, v, e, r => by unfold pyK at e; cases e; have r : v = .str x := r.1; subst r; exact .str x
  | .tup ds, p, v, e, r => by
    obtain ⟨ps, rfl, e1⟩ := pyK_tup e
    obtain ⟨a, xs, rfl, h1, _, h3⟩ := r
    exact .tup h1 (dpKL ds ps xs e1 h3)
  | .lst ds, p, v, e, r => by
    obtain ⟨ps, _, rfl, e1⟩ := pyK_lst e
    obtain ⟨a, xs, rfl, h1, _, h3⟩ := r
    exact .lst (.inl h1.1) (dpKL ds ps xs e1 h3)
  | .dct, p, v, e, r => by cases (pyK_dct e).1
  | .scr ds, p, v, e, r => by unfold pyK at e; cases e
  | .ref i, p, v, e, r => by unfold pyK at e; cases e
  | .gl n, p, v, e, r => by unfold pyK at e; cases e
  | .ty t, p, v, e, r => by unfold pyK at e; cases e
  | .ex a, p, v, e, r => by unfold pyK at e; cases e
theorem dpKL : ∀ (ds : List D) (ps : List PyData) (vs : List V), pyKL false ds = some ps → RepL K mg H ρ ds vs → DpAll K H vs ps
  | [], ps, vs, e, r => by unfold pyKL at e; cases e; have r : vs = [] := r; subst r; exact .nil
  | d :: ds, ps, vs, e, r => by
    obtain ⟨p, qs, rfl, e1, e2⟩ := pyKL_cons e
    obtain ⟨v, rr, rfl, r1, r2⟩ := r
    exact .cons (dpK d p v e1 r1) (dpKL ds qs rr e2 r2)
end
end
section
variable {X : Cx} {pins : List (Addr × Obj)} {σ : L2.St} {H : Hp} {s : Shared} {ρ : Rh}
mutual
theorem rdK (I : Inv X pins σ H s) : ∀ (d : D) (p : PyData) (v : V) (u : Value), pyK true d = some p → Rep X.K X.mg H ρ d v → RelV v u → ∃ as, Reads s.heap u p as ∧ sysModules ∉ as
  | .non, p, v, u, e, r, ru => by unfold pyK at e; cases e; have r : v = .non := r; subst r; cases ru; exact ⟨_, .none, by simp⟩
  | .bl b, p, v, u, e, r, ru => by unfold pyK at e; cases e; have r : v = .bl b := r; subst r; cases ru; exact ⟨_, .bool b, by simp⟩
  | .int i, p, v, u, e, r, ru => by unfold pyK at e; cases e; have r : v = .int i := r; subst r; obtain ⟨t, rfl⟩ := ru; exact ⟨_, .int i t, by simp⟩
  | .str x, p, v, u, e, r, ru => by unfold pyK at e; cases e; have r : v = .str x := r.1; subst r; obtain ⟨t, rfl⟩ := ru; exact ⟨_, .str x t, by simp⟩
  | .tup ds, p, v, u, e, r, ru => by
    obtain ⟨ps, rfl, e1⟩ := pyK_tup e
    obtain ⟨a, xs, rfl, h1, _, h3⟩ := r
    cases ru
    obtain ⟨its, rv, ⟨o, ho, hc, n, hd⟩, _⟩ := I.tuple h1
    obtain ⟨as, hr, hn⟩ := rdKL I ds ps xs its e1 h3 rv
    exact ⟨as, Reads.tuple ho hc hd hr, hn⟩
  | .lst ds, p, v, u, e, r, ru => by
    obtain ⟨ps, z, _⟩ := pyK_lst e
    cases z
  | .dct, p, v, u, e, r, ru => by
    obtain ⟨_, rfl⟩ := pyK_dct e
    obtain ⟨a, rfl, h1⟩ := r
    cases ru
    obtain ⟨_, hs, vs, kv, o, es, ep, ho, hx, hd, _, hp, _⟩ := dk_of I.hok h1
    have hv : vs = [] := by cases kv; rfl
    subst hv
    have he : es.toList = [] := by
      generalize es.toList = l at hp
      cases hp
      rfl
    refine ⟨_, Reads.dict (kvs := []) ho hx.1 hd (as := []) (bs := []) ?_ ?_, ?_⟩
    · rw [he]; exact .nil
    · rw [he]; exact .nil
    · have : ¬ a = sysModules := by simpa using hs
      simp
      exact fun z => this z.symm
  | .scr ds, p, v, u, e, r, ru => by unfold pyK at e; cases e
  | .ref i, p, v, u, e, r, ru => by unfold pyK at e; cases e
  | .gl n, p, v, u, e, r, ru => by unfold pyK at e; cases e
  | .ty t, p, v, u, e, r, ru => by unfold pyK at e; cases e
  | .ex a, p, v, u, e, r, ru => by unfold pyK at e; cases e
theorem rdKL (I : Inv X pins σ H s) : ∀ (ds : List D) (ps : List PyData) (vs : List V) (us : List Value), pyKL true ds = some ps → RepL X.K X.mg H ρ ds vs → Vals vs us → ∃ as, ReadsAll s.heap us ps as ∧ sysModules ∉ as
  | [], ps, vs, us, e, r, ru => by unfold pyKL at e; cases e; have r : vs = [] := r; subst r; cases ru; exact ⟨_, .nil, by simp⟩
  | d :: ds, ps, vs, us, e, r, ru => by
    obtain ⟨p, qs, rfl, e1, e2⟩ := pyKL_cons e
    obtain ⟨v, rr, rfl, r1, r2⟩ := r
    cases ru with
    | cons u1 u2 =>
      obtain ⟨as, q1, n1⟩ := rdK I d p v _ e1 r1 u1
      obtain ⟨bs, q2, n2⟩ := rdKL I ds qs rr _ e2 r2 u2
      exact ⟨as ++ bs, .cons q1 q2, fun z => (List.mem_append.mp z).elim n1 n2⟩
end
end
def isRefD : D → Bool
  | .tup _ => true
  | .lst _ => true
  | .dct => true
  | _ => false
def rpK (d : D) (h : Hd) (k : Bool) : Option (D × Hd) := match pyK k d with
  | some p => if p.showable = true ∧ p.depth ≤ 60 ∧ p.shown.length ≤ sizeLine then some (.str p.shown, h) else none
  | none => none
def reprD2 : PL := fun ds h => match reprD ds h with
  | some r => some r
  | none => match ds with
    | [d] => if isRefD d = true then (match rpK d h true with
        | some r => some r
        | none => rpK d h false) else none
    | _ => none
theorem reprD2_of {ds : List D} {h : Hd} {r : D × Hd} (e : reprD ds h = some r) : reprD2 ds h = some r := by unfold reprD2; rw [e]
section
variable {X : Cx}
theorem c_repr2 (hg : X.A.guards = some []) (hu : X.A.units + 64 < cLine) : CallR X (.builtin "repr") (rPL X.K X.mg reprD2) := by
  intro pins s σ H xs us Q I r h
  obtain ⟨ρ, hd, ds, HR, rl, q⟩ := h
  unfold reprD2 at q
  cases e0 : reprD ds hd with
  | some w =>
    rw [e0] at q
    refine c_repr hg hu pins s σ H xs us Q I r ⟨ρ, hd, ds, HR, rl, ?_⟩
    rw [e0]
    exact q
  | none =>
    rw [e0] at q
    dsimp only at q
    match ds, rl, q with
    | [d], rl, q =>
      obtain ⟨v, rfl, r1⟩ := repL_one rl
      obtain ⟨u, rfl, ru⟩ := vals1 r
      dsimp only at q
      by_cases hd' : isRefD d = true
      · rw [if_pos hd'] at q
        have hv : ∃ a, v = .ref a := by
          cases d <;> first | (cases hd'; done) | (obtain ⟨a, xs, e, _⟩ := r1; exact ⟨a, e⟩) | (obtain ⟨a, e, _⟩ := r1; exact ⟨a, e⟩)
        obtain ⟨a, rfl⟩ := hv
        cases ru
        have main : ∀ (p : PyData), (∃ as, Reads s.heap (.ref a) p as ∧ (p.hasDict = true → sysModules ∉ as)) → (p.showable = true ∧ p.depth ≤ 60 ∧ p.shown.length ≤ sizeLine) → PostO X.K X.mg (rD X.K X.mg) ρ H Q (some (.str p.shown, hd)) →
            wpAny (model X.prog X.w) X.A (call (.builtin "repr") [.ref a]) (EP X pins σ Q) X.xe s := fun p ⟨as, k, ns⟩ ⟨h2, hdp, h3⟩ q => by
          refine repr_of_reads' k h2 ns hg (by omega) (fun b o z => z) (fun h' u tk hk => ?_) h3
          exact ⟨.str p.shown, H, I.kept (t' := tk) hk, ⟨_, rfl⟩, PostO.pure q HR ⟨rfl, h3⟩⟩
        cases ek : rpK d hd true with
        | some w =>
          rw [ek] at q
          unfold rpK at ek
          cases ep : pyK true d with
          | none => rw [ep] at ek; cases ek
          | some p =>
            rw [ep] at ek
            dsimp only at ek
            by_cases hz : p.showable = true ∧ p.depth ≤ 60 ∧ p.shown.length ≤ sizeLine
            · rw [if_pos hz] at ek
              cases ek
              obtain ⟨as, k1, k2⟩ := rdK I d p _ _ ep r1 rfl
              exact main p ⟨as, k1, fun _ => k2⟩ hz q
            · rw [if_neg hz] at ek; cases ek
        | none =>
          rw [ek] at q
          dsimp only at q
          unfold rpK at q
          cases ep : pyK false d with
          | none => rw [ep] at q; exact q.elim
          | some p =>
            rw [ep] at q
            dsimp only at q
            by_cases hz : p.showable = true ∧ p.depth ≤ 60 ∧ p.shown.length ≤ sizeLine
            · rw [if_pos hz] at q
              obtain ⟨as, k1⟩ := Dp.reads I p _ _ (dpK d p _ ep r1) (show RelV (.ref a) (.ref a) from rfl)
              exact main p ⟨as, k1, fun z => by rw [pyK_nd d p ep] at z; cases z⟩ hz q
            · rw [if_neg hz] at q; exact q.elim
      · rw [if_neg hd'] at q; exact q.elim
    | [], rl, q => exact q.elim
    | _ :: _ :: _, rl, q => exact q.elim
end
/-! ### what can be shown -/
def Prn (k : Bool) (n B : Nat) (d : D) : Prop := ∃ p, pyK k d = some p ∧ p.showable = true ∧ p.depth ≤ n ∧ p.shown.length ≤ B
theorem Prn.mono {k : Bool} {n m B C : Nat} {d : D} (h : Prn k n B d) (hn : n ≤ m) (hB : B ≤ C) : Prn k m C d := by
  obtain ⟨p, a, b, c, e⟩ := h
  exact ⟨p, a, b, by omega, by omega⟩
theorem prn_int {k : Bool} {n : Nat} {i : Int} (h : i.natAbs.log2 < 1920) : Prn k n 1921 (.int i) :=
  ⟨.int i, rfl, by simp [PyData.showable, h], by simp [PyData.depth], int_text_len_1921 h⟩
theorem prn_leaf {k : Bool} {n : Nat} {d : D} {p : PyData} (e : pyK k d = some p) (h : p.showable = true ∧ p.depth = 0 ∧ p.shown.length ≤ 100) : Prn k n 1921 d := ⟨p, e, h.1, by omega, by omega⟩
theorem prnL {k : Bool} {n B : Nat} : ∀ {xs : List D}, (∀ x ∈ xs, Prn k n B x) → ∃ ps, pyKL k xs = some ps ∧ PyData.showableAll ps = true ∧ PyData.depthAll ps ≤ n ∧ ps.length = xs.length ∧ ∀ t ∈ PyData.shownAll ps, t.length ≤ B
  | [], _ => ⟨[], rfl, rfl, by simp [PyData.depthAll], rfl, fun t ht => by simp [PyData.shownAll] at ht⟩
  | x :: xs, h => by
    obtain ⟨p, a, b, c, e⟩ := h x List.mem_cons_self
    obtain ⟨ps, a2, b2, c2, l2, e2⟩ := prnL (xs := xs) fun y hy => h y (List.mem_cons_of_mem _ hy)
    refine ⟨p :: ps, by unfold pyKL; rw [a, a2], by simp [PyData.showableAll, b, b2], by simp only [PyData.depthAll]; omega, by simp [l2], fun t ht => ?_⟩
    simp only [PyData.shownAll, List.mem_cons] at ht
    rcases ht with rfl | ht
    · exact e
    · exact e2 t ht
theorem shownAll_len : ∀ ps : List PyData, (PyData.shownAll ps).length = ps.length
  | [] => rfl
  | p :: ps => by simp [PyData.shownAll, shownAll_len ps]
theorem prn_tup {k : Bool} {n B : Nat} {xs : List D} (h : ∀ x ∈ xs, Prn k n B x) : Prn k (n + 1) (3 + xs.length * (B + 2)) (.tup xs) := by
  obtain ⟨ps, a, b, c, l, e⟩ := prnL h
  refine ⟨.tuple ps, by unfold pyK; rw [a], by simp [PyData.showable, b], by simp only [PyData.depth]; omega, ?_⟩
  show (tupleText (PyData.shownAll ps)).length ≤ _
  have := tupleText_le e
  rw [shownAll_len, l] at this
  exact this
theorem sumLen_le {B : Nat} : ∀ {ts : List Str}, (∀ t ∈ ts, t.length ≤ B) → (ts.map (·.length)).sum ≤ ts.length * B
  | [], _ => by simp
  | t :: ts, h => by
    have h1 := h t List.mem_cons_self
    have h2 := sumLen_le (B := B) (ts := ts) fun x hx => h x (List.mem_cons_of_mem _ hx)
    rw [List.map_cons, List.sum_cons, List.length_cons, Nat.succ_mul]
    omega
theorem listText_le {B : Nat} {ts : List Str} (hb : ∀ t ∈ ts, t.length ≤ B) : (listText ts).length ≤ 3 + ts.length * (B + 2) := by
  have h1 := listText_len_le ts
  have h2 := sumLen_le hb
  rw [Nat.mul_add]
  omega
theorem prn_lst {n B : Nat} {xs : List D} (h : ∀ x ∈ xs, Prn false n B x) : Prn false (n + 1) (3 + xs.length * (B + 2)) (.lst xs) := by
  obtain ⟨ps, a, b, c, l, e⟩ := prnL h
  refine ⟨.list ps, by unfold pyK; rw [a]; rfl, by simp [PyData.showable, b], by simp only [PyData.depth]; omega, ?_⟩
  show (listText (PyData.shownAll ps)).length ≤ _
  have := listText_le e
  rw [shownAll_len, l] at this
  exact this
theorem mapO_congr {f g : D → Option PyData} : ∀ {ds : List D}, (∀ d ∈ ds, f d = g d) → mapO f ds = mapO g ds
  | [], _ => rfl
  | d :: ds, h => by
    unfold mapO
    rw [h d List.mem_cons_self, mapO_congr fun x hx => h x (List.mem_cons_of_mem _ hx)]
theorem pyKL_mem {k : Bool} : ∀ {ds : List D} {ps : List PyData}, pyKL k ds = some ps → ∀ d ∈ ds, ∃ p, pyK k d = some p
  | [], ps, _, d, hd => by cases hd
  | x :: ds, ps, e, d, hd => by
    obtain ⟨p, qs, rfl, e1, e2⟩ := pyKL_cons e
    rcases List.mem_cons.mp hd with rfl | hd
    · exact ⟨p, e1⟩
    · exact pyKL_mem e2 d hd
theorem pyOf_indep {k : Bool} (hh : Hd) : ∀ (n : Nat) (d : D) (p : PyData), pyK k d = some p → pyOf hh n d = pyOf [] n d
  | 0, d, p, e => rfl
  | n + 1, d, p, e => by
    cases d with
    | tup ds =>
      obtain ⟨ps, rfl, e1⟩ := pyK_tup e
      unfold pyOf
      dsimp only
      rw [mapO_congr fun x hx => by obtain ⟨q, hq⟩ := pyKL_mem e1 x hx; exact pyOf_indep hh n x q hq]
    | lst ds =>
      obtain ⟨ps, _, rfl, e1⟩ := pyK_lst e
      unfold pyOf
      dsimp only
      rw [mapO_congr fun x hx => by obtain ⟨q, hq⟩ := pyKL_mem e1 x hx; exact pyOf_indep hh n x q hq]
    | ref i => unfold pyK at e; cases e
    | _ => rfl
theorem repr_prn {k : Bool} {n B : Nat} {d : D} (h : Prn k n B d) (hn : n ≤ 60) (hB : B ≤ 16777216) (hr : isRefD d = true) : ∃ x : Str, ∀ hh, reprD2 [d] hh = some (.str x, hh) := by
  obtain ⟨p, a, b, c, e⟩ := h
  have hz : p.showable = true ∧ p.depth ≤ 60 ∧ p.shown.length ≤ sizeLine := ⟨b, by omega, by rw [szl]; omega⟩
  have one : ∀ hh, rpK d hh k = some (.str p.shown, hh) := fun hh => by
    unfold rpK
    rw [a]
    exact if_pos hz
  have R : (∃ x, ∀ hh, reprD [d] hh = some (.str x, hh)) ∨ ∀ hh, reprD [d] hh = none := by
    cases e0 : pyOf [] 8 d with
    | none => exact .inr fun hh => by unfold reprD; dsimp only; rw [pyOf_indep hh 8 d p a, e0]
    | some p0 =>
      by_cases z : isSeqPy p0 = true ∧ p0.showable = true ∧ p0.shown.length ≤ sizeLine
      · exact .inl ⟨p0.shown, fun hh => by unfold reprD; dsimp only; rw [pyOf_indep hh 8 d p a, e0]; exact if_pos z⟩
      · exact .inr fun hh => by unfold reprD; dsimp only; rw [pyOf_indep hh 8 d p a, e0]; exact if_neg z
  have T : (∃ x, ∀ hh, rpK d hh true = some (.str x, hh)) ∨ ∀ hh, rpK d hh true = none := by
    unfold rpK
    cases pyK true d with
    | none => exact .inr fun hh => rfl
    | some p0 =>
      dsimp only
      by_cases z : p0.showable = true ∧ p0.depth ≤ 60 ∧ p0.shown.length ≤ sizeLine
      · exact .inl ⟨p0.shown, fun hh => if_pos z⟩
      · exact .inr fun hh => if_neg z
  rcases R with ⟨x, R⟩ | R
  · exact ⟨x, fun hh => reprD2_of (R hh)⟩
  · rcases T with ⟨x, T⟩ | T
    · exact ⟨x, fun hh => by
        unfold reprD2
        rw [R hh]
        dsimp only
        rw [if_pos hr, T hh]⟩
    · refine ⟨p.shown, fun hh => ?_⟩
      unfold reprD2
      rw [R hh]
      dsimp only
      rw [if_pos hr, T hh]
      dsimp only
      cases k with
      | false => exact one hh
      | true => exact absurd (one hh) (by rw [T hh]; simp)
end Dz

namespace Dz
open PySem PySem.Spec PyProof.Rows L2
/-! ## reckoning step by step: what follows is not looked at before its start is known -/
theorem for_consR {gt : DenT} {fb : DenS} {d r : D} {ds : List D} {σ σ1 : Sd} {h h1 h2 : Hd} (e1 : gt d σ h = .ok σ1 h1) (e2 : fb σ1 h1 = .ret r h2) : forLoop gt fb [] (d :: ds) σ h = .ret r h2 := by
  rw [forLoop, if_pos (g0 _), e1]
  show (match fb σ1 h1 with | .next σ2 h2 => forLoop gt fb [] ds σ2 h2 | .cont σ2 h2 => forLoop gt fb [] ds σ2 h2 | .brk σ2 h2 => SOut.next σ2 h2 | o => o) = _
  rw [e2]
theorem ixm {xs : List D} {r : Int} (h0 : 0 ≤ r) (h1 : r < (xs.length : Int)) (hh : Hd) : dIx (.lst xs) (.int r) hh = some (xs.getD r.toNat .non, hh) := by
  refine p_ixl hh r _ (at_int h0 ?_)
  have : r.toNat < xs.length := by omega
  rw [List.getD, List.getElem?_eq_getElem this]
  rfl
theorem getD_in {α : Type} {xs : List α} {r : Nat} {d : α} (h : r < xs.length) : xs.getD r d ∈ xs := by
  rw [List.getD, List.getElem?_eq_getElem h]
  exact List.getElem_mem h
theorem getD_all {α : Type} {P : α → Prop} {xs : List α} {r : Nat} {d : α} (h : r < xs.length) (hp : ∀ x ∈ xs, P x) : P (xs.getD r d) := hp _ (getD_in h)
/-! sources of loops -/
def kR1 (ds : List D) (h1 : Hd) : Out Src := match ints1 ds with
  | some j => if -1000000 ≤ j ∧ j ≤ 1000000 then .ok ⟨rangeItems 0 j.toNat, []⟩ h1 else .stuck
  | none => .stuck
def kR2 (ds : List D) (h1 : Hd) : Out Src := match ints2 ds with
  | some (i, j) => if (-1000000 ≤ i ∧ i ≤ 1000000) ∧ (-1000000 ≤ j ∧ j ≤ 1000000) then .ok ⟨rangeItems i (j - i).toNat, []⟩ h1 else .stuck
  | none => .stuck
def kSeq (d : D) (h1 : Hd) : Out Src := match srcOf d h1 with
  | some src => .ok src h1
  | none => .stuck
theorem x_rng1 (f : DenA) (σ : Sd) (h : Hd) : rng1 f σ h = (f σ h).bind kR1 := rfl
theorem x_rng2 (f : DenA) (σ : Sd) (h : Hd) : rng2 f σ h = (f σ h).bind kR2 := rfl
theorem x_seqI (f : Den) (σ : Sd) (h : Hd) : seqI f σ h = (f σ h).bind kSeq := rfl
theorem kR1_nat (n : Nat) (h : Hd) (hn : n ≤ 1000000) : kR1 [.int (n : Int)] h = .ok ⟨rangeItems 0 n, []⟩ h := by
  show (if -1000000 ≤ (n : Int) ∧ (n : Int) ≤ 1000000 then Out.ok (⟨rangeItems 0 ((n : Int)).toNat, []⟩ : Src) h else .stuck) = _
  rw [if_pos (by omega), Int.toNat_natCast]
theorem kR1_int (j : Int) (h : Hd) (h1 : -1000000 ≤ j) (h2 : j ≤ 1000000) : kR1 [.int j] h = .ok ⟨rangeItems 0 j.toNat, []⟩ h := by
  show (if -1000000 ≤ j ∧ j ≤ 1000000 then Out.ok (⟨rangeItems 0 j.toNat, []⟩ : Src) h else .stuck) = _
  rw [if_pos ⟨h1, h2⟩]
theorem kSeq_tup (xs : List D) (h : Hd) : kSeq (.tup xs) h = .ok ⟨xs, []⟩ h := rfl
theorem kSeq_lst (xs : List D) (h : Hd) : kSeq (.lst xs) h = .ok ⟨xs, []⟩ h := rfl
theorem kSeq_scr (xs : List D) (h : Hd) : kSeq (.scr xs) h = .ok ⟨xs, []⟩ h := rfl
/-! whole comprehensions -/
theorem lcD_rng {fi : DenI} {fe : Den} {v : Nat} {vs : List Nat} {σ : Sd} {h : Hd} {n : Nat} {f : Nat → D} (e : fi σ h = .ok ⟨rangeItems 0 n, []⟩ h) (hf : ∀ i < n, fe ((wipeD σ vs).set v (some (.int (i : Int)))) h = .ok (f i) h) :
    lcD fi (setT v) yesB fe vs σ h = .ok (.lst ((List.range n).map f)) h :=
  e_lcD e (lc_range fun i hi => ⟨_, rfl, rfl, hf i hi⟩)
theorem lcD_seq {α : Type} {fi : DenI} {fe : Den} {v : Nat} {vs : List Nat} {σ : Sd} {h : Hd} {l : List α} {g k : α → D} (e : fi σ h = .ok ⟨l.map g, []⟩ h) (hf : ∀ a ∈ l, fe ((wipeD σ vs).set v (some (g a))) h = .ok (k a) h) :
    lcD fi (setT v) yesB fe vs σ h = .ok (.lst (l.map k)) h :=
  e_lcD e (by
    have := lc_mapL (gt := setT v) (ft := yesB) (fe := fe) (σ0 := wipeD σ vs) (h := h) (g := g) (k := k) (l := l) (acc := []) fun a ha => ⟨_, rfl, rfl, hf a ha⟩
    simpa using this)
theorem lcD_seqD {fi : DenI} {fe : Den} {v : Nat} {vs : List Nat} {σ : Sd} {h : Hd} {l : List D} {k : D → D} (e : fi σ h = .ok ⟨l, []⟩ h) (hf : ∀ a ∈ l, fe ((wipeD σ vs).set v (some a)) h = .ok (k a) h) :
    lcD fi (setT v) yesB fe vs σ h = .ok (.lst (l.map k)) h :=
  e_lcD e (by
    have := lc_map (gt := setT v) (ft := yesB) (fe := fe) (σ0 := wipeD σ vs) (h := h) (f := k) (items := l) (acc := []) fun a ha => ⟨_, rfl, rfl, hf a ha⟩
    simpa using this)
/-- with draws inside: what is kept -/
theorem lcD_inv {fi : DenI} {fe : Den} {v : Nat} {vs : List Nat} {σ : Sd} {h : Hd} {items : List D} {I : Hd → Prop} {Q : D → Prop} (e : fi σ h = .ok ⟨items, []⟩ h) (hI : I h) (hf : ∀ d ∈ items, ∀ h, I h → ∃ y h', fe ((wipeD σ vs).set v (some d)) h = .ok y h' ∧ I h' ∧ Q y) :
    ∃ ys h', lcD fi (setT v) yesB fe vs σ h = .ok (.lst ys) h' ∧ ys.length = items.length ∧ (∀ y ∈ ys, Q y) ∧ I h' := by
  obtain ⟨ys, h', e2, l, q, i2⟩ := lc_inv (gt := setT v) (ft := yesB) (fe := fe) (σ0 := wipeD σ vs) (acc := []) hI fun d hd h hI => by
    obtain ⟨y, h', a, b, c⟩ := hf d hd h hI
    exact ⟨_, y, h', rfl, rfl, a, b, c⟩
  exact ⟨ys, h', e_lcD e (by simpa using e2), l, q, i2⟩
/-! try, loops by reckoning -/
theorem e_tryS (i : Nat) (names : List Str) (fb : DenS) (fs : Str → DenS) (σ : Sd) (h : Hd) : tryS i names fb fs σ h = tryO i names fs (fb σ h) := rfl
@[simp] theorem tryO_ret (i : Nat) (names : List Str) (fs : Str → DenS) (d : D) (h : Hd) : tryO i names fs (.ret d h) = .ret d h := rfl
@[simp] theorem tryO_next (i : Nat) (names : List Str) (fs : Str → DenS) (σ : Sd) (h : Hd) : tryO i names fs (.next σ h) = .next σ h := rfl
def kTry (i : Nat) : SOut → SOut
  | .next σ2 h2 => .next (σ2.set i none) h2
  | .ret d h2 => .ret d h2
  | _ => .stuck
@[simp] theorem kTry_ret (i : Nat) (d : D) (h : Hd) : kTry i (.ret d h) = .ret d h := rfl
@[simp] theorem kTry_next (i : Nat) (σ : Sd) (h : Hd) : kTry i (.next σ h) = .next (σ.set i none) h := rfl
theorem tryO_exc {i : Nat} {names : List Str} {fs : Str → DenS} {C : Str} {σ : Sd} {h : Hd} (hC : C ∈ names) : tryO i names fs (.exc ⟨C, none⟩ σ h) = kTry i (fs C σ h) := by
  unfold tryO
  dsimp only
  rw [if_pos ⟨hC, rfl⟩]
  cases fs C σ h <;> rfl
noncomputable def kLoop (gt : DenT) (fb : DenS) (ds : List D) (o : SOut) : SOut := match o with
  | .next σ2 h2 => forLoop gt fb [] ds σ2 h2
  | .cont σ2 h2 => forLoop gt fb [] ds σ2 h2
  | .brk σ2 h2 => SOut.next σ2 h2
  | o => o
@[simp] theorem kLoop_next (gt : DenT) (fb : DenS) (ds : List D) (σ : Sd) (h : Hd) : kLoop gt fb ds (.next σ h) = forLoop gt fb [] ds σ h := rfl
@[simp] theorem kLoop_cont (gt : DenT) (fb : DenS) (ds : List D) (σ : Sd) (h : Hd) : kLoop gt fb ds (.cont σ h) = forLoop gt fb [] ds σ h := rfl
@[simp] theorem kLoop_brk (gt : DenT) (fb : DenS) (ds : List D) (σ : Sd) (h : Hd) : kLoop gt fb ds (.brk σ h) = .next σ h := rfl
@[simp] theorem kLoop_ret (gt : DenT) (fb : DenS) (ds : List D) (d : D) (h : Hd) : kLoop gt fb ds (.ret d h) = .ret d h := rfl
@[simp] theorem kLoop_exc (gt : DenT) (fb : DenS) (ds : List D) (x : Exn) (σ : Sd) (h : Hd) : kLoop gt fb ds (.exc x σ h) = .exc x σ h := rfl
theorem for_nilE (gt : DenT) (fb : DenS) (σ : Sd) (h : Hd) : forLoop gt fb [] [] σ h = .next σ h := for_nil
noncomputable def kFor (gt : DenT) (fb : DenS) (ds : List D) (σ1 : Sd) (h1 : Hd) : SOut := kLoop gt fb ds (fb σ1 h1)
@[simp] theorem kFor_e (gt : DenT) (fb : DenS) (ds : List D) (σ1 : Sd) (h1 : Hd) : kFor gt fb ds σ1 h1 = kLoop gt fb ds (fb σ1 h1) := rfl
theorem for_consE (gt : DenT) (fb : DenS) (d : D) (ds : List D) (σ : Sd) (h : Hd) : forLoop gt fb [] (d :: ds) σ h = (nox (gt d σ h)).sbind σ (kFor gt fb ds) := by
  rw [forLoop, if_pos (g0 _)]
  rfl
noncomputable def kForS (gt : DenT) (fb : DenS) (σ : Sd) (src : Src) (h1 : Hd) : SOut := forLoop gt fb src.guard src.items σ h1
@[simp] theorem kForS_e (gt : DenT) (fb : DenS) (σ : Sd) (src : Src) (h1 : Hd) : kForS gt fb σ src h1 = forLoop gt fb src.guard src.items σ h1 := rfl
theorem x_forS (fi : DenI) (gt : DenT) (fb : DenS) (σ : Sd) (h : Hd) : forS fi gt fb σ h = (fi σ h).sbind σ (kForS gt fb σ) := rfl
theorem ixt0 (x : D) (xs : List D) (h : Hd) : dIx (.tup (x :: xs)) (.int 0) h = some (x, h) := p_ixt h 0 _ (at_nat (n := 0) rfl)
theorem ixt1 (x y : D) (xs : List D) (h : Hd) : dIx (.tup (x :: y :: xs)) (.int 1) h = some (y, h) := p_ixt h 1 _ (at_nat (n := 1) rfl)
theorem ixt2 (x y z : D) (xs : List D) (h : Hd) : dIx (.tup (x :: y :: z :: xs)) (.int 2) h = some (z, h) := p_ixt h 2 _ (at_nat (n := 2) rfl)
theorem ixl0 (x : D) (xs : List D) (h : Hd) : dIx (.lst (x :: xs)) (.int 0) h = some (x, h) := p_ixl h 0 _ (at_nat (n := 0) rfl)
theorem ixl1 (x y : D) (xs : List D) (h : Hd) : dIx (.lst (x :: y :: xs)) (.int 1) h = some (y, h) := p_ixl h 1 _ (at_nat (n := 1) rfl)
theorem ixl2 (x y z : D) (xs : List D) (h : Hd) : dIx (.lst (x :: y :: z :: xs)) (.int 2) h = some (z, h) := p_ixl h 2 _ (at_nat (n := 2) rfl)
end Dz

namespace Dz.PL
open PySem PySem.Spec PyProof.Rows L2 Dz
def allNames : List Str := ["NoSlants", "NoRow", "NoNumber", "NoLine", "NotEven", "NotFull", "NotStrong", "NoText", "TooGreat"]
def tabOf (C n : Str) : Bool := C == n
noncomputable def body_is_whole : DenS := retS (andV (callP isiD (aCons (vr 0) (aCons (cst (.ty "int")) (aNil)))) (notV (callP isiD (aCons (vr 0) (aCons (cst (.ty "bool")) (aNil))))))
noncomputable def den_is_whole : FDen := bodyD 1 body_is_whole
noncomputable def body_common : DenS := seqS (parS 0 1 (aCons (callP absD (aCons (vr 0) (aNil))) (aCons (callP absD (aCons (vr 1) (aNil))) (aNil)))) (seqS (whileS (asB (bin2 dNe (vr 1) (cst (.int 0)))) (parS 0 1 (aCons (vr 1) (aCons (bin2 dMod (vr 0) (vr 1)) (aNil))))) (retS (vr 0)))
noncomputable def den_common : FDen := bodyD 2 body_common
noncomputable def body__law_cell_at : DenS := seqS (ifS (asB (bin2 dLt (vr 1) (callP lenD (aCons (vr 0) (aNil))))) (retS (bin2 dIx (vr 0) (vr 1))) (nxS)) (retS (cst (.int 0)))
noncomputable def den__law_cell_at : FDen := bodyD 2 body__law_cell_at
noncomputable def body__law_next : DenS := seqS (setS 0 (bin2 dMod (bin2 dAdd (vr 0) (cst (.int 7919))) (cst (.int 2147483647)))) (retS (bin2 dMod (bin2 dAdd (bin2 dAdd (bin2 dMul (vr 0) (vr 0)) (bin2 dMul (cst (.int 48271)) (vr 0))) (cst (.int 12345))) (cst (.int 2147483629))))
noncomputable def den__law_next : FDen := bodyD 1 body__law_next
noncomputable def body__law_pen_of : DenS := seqS (setS 1 (callP maxD (aCons (vr 0) (aCons (bin2 dSub (cst (.int 0)) (vr 0)) (aNil))))) (retS (lstM (aCons (vr 1) (aCons (callP (intD) (aCons (bin2 dGe (vr 1) (bin2 dPow (cst (.int 10)) (cst (.int 18)))) (aNil))) (aCons (bin2 dMod (vr 1) (cst (.int 1000003))) (aNil))))))
noncomputable def den__law_pen_of : FDen := bodyD 2 body__law_pen_of
noncomputable def body__law_whole : DenS := retS (andV (callP isiD (aCons (vr 0) (aCons (cst (.ty "int")) (aNil)))) (notV (callP isiD (aCons (vr 0) (aCons (cst (.ty "bool")) (aNil))))))
noncomputable def den__law_whole : FDen := bodyD 1 body__law_whole
def body__law_kind_of (a : Addr) (C : Str) : DenS := seqS (setS 1 (lstD (aCons (callP (isE a (tabOf C) allNames true) (aCons (vr 0) (aCons (cst (.gl "NoSlants")) (aNil)))) (aCons (callP (isE a (tabOf C) allNames true) (aCons (vr 0) (aCons (cst (.gl "NoRow")) (aNil)))) (aCons (callP (isE a (tabOf C) allNames true) (aCons (vr 0) (aCons (cst (.gl "NoNumber")) (aNil)))) (aCons (callP (isE a (tabOf C) allNames true) (aCons (vr 0) (aCons (cst (.gl "NoLine")) (aNil)))) (aNil))))))) (seqS (setS 1 (bin2 dAdd (vr 1) (lstD (aCons (callP (isE a (tabOf C) allNames true) (aCons (vr 0) (aCons (cst (.gl "NotEven")) (aNil)))) (aCons (callP (isE a (tabOf C) allNames true) (aCons (vr 0) (aCons (cst (.gl "NotFull")) (aNil)))) (aCons (callP (isE a (tabOf C) allNames true) (aCons (vr 0) (aCons (cst (.gl "NotStrong")) (aNil)))) (aNil))))))) (seqS (setS 1 (bin2 dAdd (vr 1) (lstD (aCons (callP (isE a (tabOf C) allNames true) (aCons (vr 0) (aCons (cst (.gl "NoText")) (aNil)))) (aCons (callP (isE a (tabOf C) allNames true) (aCons (vr 0) (aCons (cst (.gl "TooGreat")) (aNil)))) (aNil)))))) (seqS (ifS (orB (notB (asB (callP (isE a (tabOf C) allNames true) (aCons (vr 0) (aCons (cst (.ty "ValueError")) (aNil)))))) (asB (bin2 dNe (metL cntL (vr 1) (aCons (cst (.bl true)) (aNil))) (cst (.int 1))))) (retS (cst (.str "other"))) (nxS)) (retS (bin2 dIx (lstD (aCons (cst (.str "slants")) (aCons (cst (.str "row")) (aCons (cst (.str "number")) (aCons (cst (.str "line")) (aCons (cst (.str "even")) (aCons (cst (.str "full")) (aCons (cst (.str "strong")) (aCons (cst (.str "text")) (aCons (cst (.str "great")) (aNil))))))))))) (metL idxL (vr 1) (aCons (cst (.bl true)) (aNil))))))))
def den__law_kind_of (a : Addr) (C : Str) : FDen := bodyD 2 (body__law_kind_of a C)
noncomputable def body_share : DenS := seqS (setS 2 (callD Dz.PL.den_common 2 (aCons (vr 0) (aCons (vr 1) (aNil))))) (seqS (ifS (asB (bin2 dLt (vr 1) (cst (.int 0)))) (setS 2 (bin2 dSub (cst (.int 0)) (vr 2))) (nxS)) (retS (tupD (aCons (bin2 dDiv (vr 0) (vr 2)) (aCons (bin2 dDiv (vr 1) (vr 2)) (aNil))))))
noncomputable def den_share : FDen := bodyD 3 body_share
noncomputable def body_share_good : DenS := seqS (ifS (orB (notB (asB (callP isiD (aCons (vr 0) (aCons (cst (.ty "tuple")) (aNil)))))) (orB (asB (bin2 dNe (callP lenD (aCons (vr 0) (aNil))) (cst (.int 2)))) (orB (notB (asB (callD Dz.PL.den_is_whole 1 (aCons (bin2 dIx (vr 0) (cst (.int 0))) (aNil))))) (notB (asB (callD Dz.PL.den_is_whole 1 (aCons (bin2 dIx (vr 0) (cst (.int 1))) (aNil)))))))) (retS (cst (.bl false))) (nxS)) (retS (andV (bin2 dGt (bin2 dIx (vr 0) (cst (.int 1))) (cst (.int 0))) (bin2 dEq (callD Dz.PL.den_common 2 (aCons (bin2 dIx (vr 0) (cst (.int 0))) (aCons (bin2 dIx (vr 0) (cst (.int 1))) (aNil)))) (cst (.int 1)))))
noncomputable def den_share_good : FDen := bodyD 1 body_share_good
noncomputable def body__law_draw : DenS := seqS (ifS (asB (bin2 dEq (bin2 dIx (vr 0) (cst (.int 1))) (cst (.int 1)))) (seqS (setS 2 (bin2 dMod (bin2 dIx (vr 0) (cst (.int 0))) (vr 1))) (seqS (asgS (bin2 dDiv (bin2 dIx (vr 0) (cst (.int 0))) (vr 1)) (subT dSet (vr 0) (cst (.int 0)))) (retS (vr 2)))) (nxS)) (seqS (asgS (callD Dz.PL.den__law_next 1 (aCons (bin2 dAdd (callD Dz.PL.den__law_next 1 (aCons (bin2 dIx (vr 0) (cst (.int 2))) (aNil))) (cst (.int 7))) (aNil))) (subT dSet (vr 0) (cst (.int 2)))) (retS (bin2 dMod (bin2 dDiv (bin2 dIx (vr 0) (cst (.int 2))) (cst (.int 64))) (vr 1))))
noncomputable def den__law_draw : FDen := bodyD 3 body__law_draw
def body__law_refused (a : Addr) (C : Str) : DenS := seqS (setS 1 (callD (Dz.PL.den__law_kind_of a C) 1 (aCons (vr 0) (aNil)))) (seqS (ifS (asB (bin2 dEq (vr 1) (cst (.str "strong")))) (retS (tupD (aCons (vr 1) (aCons (stkD) (aNil))))) (nxS)) (retS (tupD (aCons (vr 1) (aNil)))))
def den__law_refused (a : Addr) (C : Str) : FDen := bodyD 2 (body__law_refused a C)
noncomputable def body_add : DenS := retS (callD Dz.PL.den_share 2 (aCons (bin2 dAdd (bin2 dMul (bin2 dIx (vr 0) (cst (.int 0))) (bin2 dIx (vr 1) (cst (.int 1)))) (bin2 dMul (bin2 dIx (vr 1) (cst (.int 0))) (bin2 dIx (vr 0) (cst (.int 1))))) (aCons (bin2 dMul (bin2 dIx (vr 0) (cst (.int 1))) (bin2 dIx (vr 1) (cst (.int 1)))) (aNil))))
noncomputable def den_add : FDen := bodyD 2 body_add
noncomputable def body_times : DenS := retS (callD Dz.PL.den_share 2 (aCons (bin2 dMul (bin2 dIx (vr 0) (cst (.int 0))) (bin2 dIx (vr 1) (cst (.int 0)))) (aCons (bin2 dMul (bin2 dIx (vr 0) (cst (.int 1))) (bin2 dIx (vr 1) (cst (.int 1)))) (aNil))))
noncomputable def den_times : FDen := bodyD 2 body_times
noncomputable def body_row_like : DenS := retS (andV (callP isiD (aCons (vr 0) (aCons (cst (.ty "tuple")) (aNil)))) (andV (chain3 dLe dLe (cst (.int 1)) (callP lenD (aCons (vr 0) (aNil))) (cst (.int 5))) (callP allD (aCons (lcD (seqI (vr 0)) (setT 1) (yesB) (callD Dz.PL.den_share_good 1 (aCons (vr 1) (aNil))) [1]) (aNil)))))
noncomputable def den_row_like : FDen := bodyD 2 body_row_like
noncomputable def body_total : DenS := seqS (setS 1 (cst (.tup [.int 0, .int 1]))) (seqS (forS (seqI (vr 0)) (setT 2) (setS 1 (callD Dz.PL.den_add 2 (aCons (vr 1) (aCons (vr 2) (aNil)))))) (retS (vr 1)))
noncomputable def den_total : FDen := bodyD 3 body_total
noncomputable def body_table_good : DenS := seqS (ifS (orB (notB (asB (callP isiD (aCons (vr 0) (aCons (cst (.ty "tuple")) (aNil)))))) (notB (asB (chain3 dLe dLe (cst (.int 1)) (callP lenD (aCons (vr 0) (aNil))) (cst (.int 5)))))) (retS (cst (.bl false))) (nxS)) (retS (callP allD (aCons (lcD (seqI (vr 0)) (setT 1) (yesB) (andV (callD Dz.PL.den_row_like 1 (aCons (vr 1) (aNil))) (bin2 dEq (callP lenD (aCons (vr 1) (aNil))) (callP lenD (aCons (vr 0) (aNil))))) [1]) (aNil))))
noncomputable def den_table_good : FDen := bodyD 2 body_table_good
noncomputable def body_product_sum : DenS := retS (callD Dz.PL.den_total 1 (aCons (lcD (zipI (aCons (vr 0) (aCons (vr 1) (aNil)))) (tupT 2 (tsCons (setT 2) (tsCons (setT 3) (tsNil)))) (yesB) (callD Dz.PL.den_times 2 (aCons (vr 2) (aCons (vr 3) (aNil)))) [2, 3]) (aNil)))
noncomputable def den_product_sum : FDen := bodyD 4 body_product_sum
noncomputable def body_times_by : DenS := seqS (setS 2 (lcD (rng1 (aCons (callP lenD (aCons (vr 1) (aNil))) (aNil))) (setT 3) (yesB) (lcD (seqI (vr 1)) (setT 4) (yesB) (bin2 dIx (vr 4) (vr 3)) [4]) [3])) (retS (callP (tupleD) (aCons (lcD (seqI (vr 0)) (setT 4) (yesB) (callP (tupleD) (aCons (lcD (seqI (vr 2)) (setT 5) (yesB) (callD Dz.PL.den_product_sum 2 (aCons (vr 4) (aCons (vr 5) (aNil)))) [5]) (aNil))) [4]) (aNil))))
noncomputable def den_times_by : FDen := bodyD 6 body_times_by
noncomputable def body_times_table : DenS := seqS (ifS (orB (notB (asB (callD Dz.PL.den_table_good 1 (aCons (vr 0) (aNil))))) (orB (notB (asB (callD Dz.PL.den_table_good 1 (aCons (vr 1) (aNil))))) (asB (bin2 dNe (callP lenD (aCons (vr 0) (aNil))) (callP lenD (aCons (vr 1) (aNil))))))) (raiseS "NoRow") (nxS)) (retS (callD Dz.PL.den_times_by 2 (aCons (vr 0) (aCons (vr 1) (aNil)))))
noncomputable def den_times_table : FDen := bodyD 2 body_times_table
def kn (C : Str) : Str := if C = "NoSlants" then "slants" else if C = "NoRow" then "row" else if C = "NoNumber" then "number" else if C = "NoLine" then "line" else if C = "NotEven" then "even" else if C = "NotFull" then "full" else if C = "NotStrong" then "strong" else if C = "NoText" then "text" else if C = "TooGreat" then "great" else "other"
theorem kn_NoSlants : kn "NoSlants" = "slants" := by decide +kernel
theorem rn_NoSlants : ("NoSlants" : Str) ∈ allNames := by decide +kernel
theorem kn_NoRow : kn "NoRow" = "row" := by decide +kernel
theorem rn_NoRow : ("NoRow" : Str) ∈ allNames := by decide +kernel
theorem kn_NoNumber : kn "NoNumber" = "number" := by decide +kernel
theorem rn_NoNumber : ("NoNumber" : Str) ∈ allNames := by decide +kernel
theorem kn_NoLine : kn "NoLine" = "line" := by decide +kernel
theorem rn_NoLine : ("NoLine" : Str) ∈ allNames := by decide +kernel
theorem kn_NotEven : kn "NotEven" = "even" := by decide +kernel
theorem rn_NotEven : ("NotEven" : Str) ∈ allNames := by decide +kernel
theorem kn_NotFull : kn "NotFull" = "full" := by decide +kernel
theorem rn_NotFull : ("NotFull" : Str) ∈ allNames := by decide +kernel
theorem kn_NotStrong : kn "NotStrong" = "strong" := by decide +kernel
theorem rn_NotStrong : ("NotStrong" : Str) ∈ allNames := by decide +kernel
theorem kn_NoText : kn "NoText" = "text" := by decide +kernel
theorem rn_NoText : ("NoText" : Str) ∈ allNames := by decide +kernel
theorem kn_TooGreat : kn "TooGreat" = "great" := by decide +kernel
theorem rn_TooGreat : ("TooGreat" : Str) ∈ allNames := by decide +kernel
theorem v_kind (a : Addr) (C : Str) (hC : C ∈ allNames) (h : Hd) : den__law_kind_of a C [.ex a] h = .ok (.str (kn C)) h := by
  have g : ∀ n : Str, n ∈ allNames → ∀ hh, isE a (tabOf C) allNames true [.ex a, .gl n] hh = some (.bl (tabOf C n), hh) := fun n hn hh => isE_gl hn
  have g1 := g "NoSlants" (by decide +kernel)
  have g2 := g "NoRow" (by decide +kernel)
  have g3 := g "NoNumber" (by decide +kernel)
  have g4 := g "NoLine" (by decide +kernel)
  have g5 := g "NotEven" (by decide +kernel)
  have g6 := g "NotFull" (by decide +kernel)
  have g7 := g "NotStrong" (by decide +kernel)
  have g8 := g "NoText" (by decide +kernel)
  have g9 := g "TooGreat" (by decide +kernel)
  have gv : ∀ hh, isE a (tabOf C) allNames true [.ex a, .ty "ValueError"] hh = some (.bl true, hh) := fun hh => isE_ty
  have ad : ∀ (xs ys : List D) hh, xs.length + ys.length ≤ sizeLine → dAdd (.lst xs) (.lst ys) hh = some (.lst (xs ++ ys), hh) := fun xs ys hh e => p_addl hh mkL xs ys e
  refine bodyD_ret ?_
  simp only [body__law_kind_of, startD]
  simp only [allNames, List.mem_cons, List.mem_nil_iff, or_false] at hC
  rcases hC with hC | hC | hC | hC | hC | hC | hC | hC | hC <;> subst hC
  · have t1 : tabOf "NoSlants" "NoSlants" = true := by decide +kernel
    have t2 : tabOf "NoSlants" "NoRow" = false := by decide +kernel
    have t3 : tabOf "NoSlants" "NoNumber" = false := by decide +kernel
    have t4 : tabOf "NoSlants" "NoLine" = false := by decide +kernel
    have t5 : tabOf "NoSlants" "NotEven" = false := by decide +kernel
    have t6 : tabOf "NoSlants" "NotFull" = false := by decide +kernel
    have t7 : tabOf "NoSlants" "NotStrong" = false := by decide +kernel
    have t8 : tabOf "NoSlants" "NoText" = false := by decide +kernel
    have t9 : tabOf "NoSlants" "TooGreat" = false := by decide +kernel
    have c : ∀ hh, cntL (.lst [.bl true, .bl false, .bl false, .bl false, .bl false, .bl false, .bl false, .bl false, .bl false]) [.bl true] hh = some (.int 1, hh) := fun hh => rfl
    have ix : ∀ hh, idxL (.lst [.bl true, .bl false, .bl false, .bl false, .bl false, .bl false, .bl false, .bl false, .bl false]) [.bl true] hh = some (.int 0, hh) := fun hh => rfl
    have fi : ∀ hh, dIx (.lst [.str "slants", .str "row", .str "number", .str "line", .str "even", .str "full", .str "strong", .str "text", .str "great"]) (.int 0) hh = some (.str "slants", hh) := fun hh => p_ixl hh 0 _ (at_nat (n := 0) rfl)
    simp [g1, g2, g3, g4, g5, g6, g7, g8, g9, gv, t1, t2, t3, t4, t5, t6, t7, t8, t9, ad, c, ix, fi, kn_NoSlants]
  · have t1 : tabOf "NoRow" "NoSlants" = false := by decide +kernel
    have t2 : tabOf "NoRow" "NoRow" = true := by decide +kernel
    have t3 : tabOf "NoRow" "NoNumber" = false := by decide +kernel
    have t4 : tabOf "NoRow" "NoLine" = false := by decide +kernel
    have t5 : tabOf "NoRow" "NotEven" = false := by decide +kernel
    have t6 : tabOf "NoRow" "NotFull" = false := by decide +kernel
    have t7 : tabOf "NoRow" "NotStrong" = false := by decide +kernel
    have t8 : tabOf "NoRow" "NoText" = false := by decide +kernel
    have t9 : tabOf "NoRow" "TooGreat" = false := by decide +kernel
    have c : ∀ hh, cntL (.lst [.bl false, .bl true, .bl false, .bl false, .bl false, .bl false, .bl false, .bl false, .bl false]) [.bl true] hh = some (.int 1, hh) := fun hh => rfl
    have ix : ∀ hh, idxL (.lst [.bl false, .bl true, .bl false, .bl false, .bl false, .bl false, .bl false, .bl false, .bl false]) [.bl true] hh = some (.int 1, hh) := fun hh => rfl
    have fi : ∀ hh, dIx (.lst [.str "slants", .str "row", .str "number", .str "line", .str "even", .str "full", .str "strong", .str "text", .str "great"]) (.int 1) hh = some (.str "row", hh) := fun hh => p_ixl hh 1 _ (at_nat (n := 1) rfl)
    simp [g1, g2, g3, g4, g5, g6, g7, g8, g9, gv, t1, t2, t3, t4, t5, t6, t7, t8, t9, ad, c, ix, fi, kn_NoRow]
  · have t1 : tabOf "NoNumber" "NoSlants" = false := by decide +kernel
    have t2 : tabOf "NoNumber" "NoRow" = false := by decide +kernel
    have t3 : tabOf "NoNumber" "NoNumber" = true := by decide +kernel
    have t4 : tabOf "NoNumber" "NoLine" = false := by decide +kernel
    have t5 : tabOf "NoNumber" "NotEven" = false := by decide +kernel
    have t6 : tabOf "NoNumber" "NotFull" = false := by decide +kernel
    have t7 : tabOf "NoNumber" "NotStrong" = false := by decide +kernel
    have t8 : tabOf "NoNumber" "NoText" = false := by decide +kernel
    have t9 : tabOf "NoNumber" "TooGreat" = false := by decide +kernel
    have c : ∀ hh, cntL (.lst [.bl false, .bl false, .bl true, .bl false, .bl false, .bl false, .bl false, .bl false, .bl false]) [.bl true] hh = some (.int 1, hh) := fun hh => rfl
    have ix : ∀ hh, idxL (.lst [.bl false, .bl false, .bl true, .bl false, .bl false, .bl false, .bl false, .bl false, .bl false]) [.bl true] hh = some (.int 2, hh) := fun hh => rfl
    have fi : ∀ hh, dIx (.lst [.str "slants", .str "row", .str "number", .str "line", .str "even", .str "full", .str "strong", .str "text", .str "great"]) (.int 2) hh = some (.str "number", hh) := fun hh => p_ixl hh 2 _ (at_nat (n := 2) rfl)
    simp [g1, g2, g3, g4, g5, g6, g7, g8, g9, gv, t1, t2, t3, t4, t5, t6, t7, t8, t9, ad, c, ix, fi, kn_NoNumber]
  · have t1 : tabOf "NoLine" "NoSlants" = false := by decide +kernel
    have t2 : tabOf "NoLine" "NoRow" = false := by decide +kernel
    have t3 : tabOf "NoLine" "NoNumber" = false := by decide +kernel
    have t4 : tabOf "NoLine" "NoLine" = true := by decide +kernel
    have t5 : tabOf "NoLine" "NotEven" = false := by decide +kernel
    have t6 : tabOf "NoLine" "NotFull" = false := by decide +kernel
    have t7 : tabOf "NoLine" "NotStrong" = false := by decide +kernel
    have t8 : tabOf "NoLine" "NoText" = false := by decide +kernel
    have t9 : tabOf "NoLine" "TooGreat" = false := by decide +kernel
    have c : ∀ hh, cntL (.lst [.bl false, .bl false, .bl false, .bl true, .bl false, .bl false, .bl false, .bl false, .bl false]) [.bl true] hh = some (.int 1, hh) := fun hh => rfl
    have ix : ∀ hh, idxL (.lst [.bl false, .bl false, .bl false, .bl true, .bl false, .bl false, .bl false, .bl false, .bl false]) [.bl true] hh = some (.int 3, hh) := fun hh => rfl
    have fi : ∀ hh, dIx (.lst [.str "slants", .str "row", .str "number", .str "line", .str "even", .str "full", .str "strong", .str "text", .str "great"]) (.int 3) hh = some (.str "line", hh) := fun hh => p_ixl hh 3 _ (at_nat (n := 3) rfl)
    simp [g1, g2, g3, g4, g5, g6, g7, g8, g9, gv, t1, t2, t3, t4, t5, t6, t7, t8, t9, ad, c, ix, fi, kn_NoLine]
  · have t1 : tabOf "NotEven" "NoSlants" = false := by decide +kernel
    have t2 : tabOf "NotEven" "NoRow" = false := by decide +kernel
    have t3 : tabOf "NotEven" "NoNumber" = false := by decide +kernel
    have t4 : tabOf "NotEven" "NoLine" = false := by decide +kernel
    have t5 : tabOf "NotEven" "NotEven" = true := by decide +kernel
    have t6 : tabOf "NotEven" "NotFull" = false := by decide +kernel
    have t7 : tabOf "NotEven" "NotStrong" = false := by decide +kernel
    have t8 : tabOf "NotEven" "NoText" = false := by decide +kernel
    have t9 : tabOf "NotEven" "TooGreat" = false := by decide +kernel
    have c : ∀ hh, cntL (.lst [.bl false, .bl false, .bl false, .bl false, .bl true, .bl false, .bl false, .bl false, .bl false]) [.bl true] hh = some (.int 1, hh) := fun hh => rfl
    have ix : ∀ hh, idxL (.lst [.bl false, .bl false, .bl false, .bl false, .bl true, .bl false, .bl false, .bl false, .bl false]) [.bl true] hh = some (.int 4, hh) := fun hh => rfl
    have fi : ∀ hh, dIx (.lst [.str "slants", .str "row", .str "number", .str "line", .str "even", .str "full", .str "strong", .str "text", .str "great"]) (.int 4) hh = some (.str "even", hh) := fun hh => p_ixl hh 4 _ (at_nat (n := 4) rfl)
    simp [g1, g2, g3, g4, g5, g6, g7, g8, g9, gv, t1, t2, t3, t4, t5, t6, t7, t8, t9, ad, c, ix, fi, kn_NotEven]
  · have t1 : tabOf "NotFull" "NoSlants" = false := by decide +kernel
    have t2 : tabOf "NotFull" "NoRow" = false := by decide +kernel
    have t3 : tabOf "NotFull" "NoNumber" = false := by decide +kernel
    have t4 : tabOf "NotFull" "NoLine" = false := by decide +kernel
    have t5 : tabOf "NotFull" "NotEven" = false := by decide +kernel
    have t6 : tabOf "NotFull" "NotFull" = true := by decide +kernel
    have t7 : tabOf "NotFull" "NotStrong" = false := by decide +kernel
    have t8 : tabOf "NotFull" "NoText" = false := by decide +kernel
    have t9 : tabOf "NotFull" "TooGreat" = false := by decide +kernel
    have c : ∀ hh, cntL (.lst [.bl false, .bl false, .bl false, .bl false, .bl false, .bl true, .bl false, .bl false, .bl false]) [.bl true] hh = some (.int 1, hh) := fun hh => rfl
    have ix : ∀ hh, idxL (.lst [.bl false, .bl false, .bl false, .bl false, .bl false, .bl true, .bl false, .bl false, .bl false]) [.bl true] hh = some (.int 5, hh) := fun hh => rfl
    have fi : ∀ hh, dIx (.lst [.str "slants", .str "row", .str "number", .str "line", .str "even", .str "full", .str "strong", .str "text", .str "great"]) (.int 5) hh = some (.str "full", hh) := fun hh => p_ixl hh 5 _ (at_nat (n := 5) rfl)
    simp [g1, g2, g3, g4, g5, g6, g7, g8, g9, gv, t1, t2, t3, t4, t5, t6, t7, t8, t9, ad, c, ix, fi, kn_NotFull]
  · have t1 : tabOf "NotStrong" "NoSlants" = false := by decide +kernel
    have t2 : tabOf "NotStrong" "NoRow" = false := by decide +kernel
    have t3 : tabOf "NotStrong" "NoNumber" = false := by decide +kernel
    have t4 : tabOf "NotStrong" "NoLine" = false := by decide +kernel
    have t5 : tabOf "NotStrong" "NotEven" = false := by decide +kernel
    have t6 : tabOf "NotStrong" "NotFull" = false := by decide +kernel
    have t7 : tabOf "NotStrong" "NotStrong" = true := by decide +kernel
    have t8 : tabOf "NotStrong" "NoText" = false := by decide +kernel
    have t9 : tabOf "NotStrong" "TooGreat" = false := by decide +kernel
    have c : ∀ hh, cntL (.lst [.bl false, .bl false, .bl false, .bl false, .bl false, .bl false, .bl true, .bl false, .bl false]) [.bl true] hh = some (.int 1, hh) := fun hh => rfl
    have ix : ∀ hh, idxL (.lst [.bl false, .bl false, .bl false, .bl false, .bl false, .bl false, .bl true, .bl false, .bl false]) [.bl true] hh = some (.int 6, hh) := fun hh => rfl
    have fi : ∀ hh, dIx (.lst [.str "slants", .str "row", .str "number", .str "line", .str "even", .str "full", .str "strong", .str "text", .str "great"]) (.int 6) hh = some (.str "strong", hh) := fun hh => p_ixl hh 6 _ (at_nat (n := 6) rfl)
    simp [g1, g2, g3, g4, g5, g6, g7, g8, g9, gv, t1, t2, t3, t4, t5, t6, t7, t8, t9, ad, c, ix, fi, kn_NotStrong]
  · have t1 : tabOf "NoText" "NoSlants" = false := by decide +kernel
    have t2 : tabOf "NoText" "NoRow" = false := by decide +kernel
    have t3 : tabOf "NoText" "NoNumber" = false := by decide +kernel
    have t4 : tabOf "NoText" "NoLine" = false := by decide +kernel
    have t5 : tabOf "NoText" "NotEven" = false := by decide +kernel
    have t6 : tabOf "NoText" "NotFull" = false := by decide +kernel
    have t7 : tabOf "NoText" "NotStrong" = false := by decide +kernel
    have t8 : tabOf "NoText" "NoText" = true := by decide +kernel
    have t9 : tabOf "NoText" "TooGreat" = false := by decide +kernel
    have c : ∀ hh, cntL (.lst [.bl false, .bl false, .bl false, .bl false, .bl false, .bl false, .bl false, .bl true, .bl false]) [.bl true] hh = some (.int 1, hh) := fun hh => rfl
    have ix : ∀ hh, idxL (.lst [.bl false, .bl false, .bl false, .bl false, .bl false, .bl false, .bl false, .bl true, .bl false]) [.bl true] hh = some (.int 7, hh) := fun hh => rfl
    have fi : ∀ hh, dIx (.lst [.str "slants", .str "row", .str "number", .str "line", .str "even", .str "full", .str "strong", .str "text", .str "great"]) (.int 7) hh = some (.str "text", hh) := fun hh => p_ixl hh 7 _ (at_nat (n := 7) rfl)
    simp [g1, g2, g3, g4, g5, g6, g7, g8, g9, gv, t1, t2, t3, t4, t5, t6, t7, t8, t9, ad, c, ix, fi, kn_NoText]
  · have t1 : tabOf "TooGreat" "NoSlants" = false := by decide +kernel
    have t2 : tabOf "TooGreat" "NoRow" = false := by decide +kernel
    have t3 : tabOf "TooGreat" "NoNumber" = false := by decide +kernel
    have t4 : tabOf "TooGreat" "NoLine" = false := by decide +kernel
    have t5 : tabOf "TooGreat" "NotEven" = false := by decide +kernel
    have t6 : tabOf "TooGreat" "NotFull" = false := by decide +kernel
    have t7 : tabOf "TooGreat" "NotStrong" = false := by decide +kernel
    have t8 : tabOf "TooGreat" "NoText" = false := by decide +kernel
    have t9 : tabOf "TooGreat" "TooGreat" = true := by decide +kernel
    have c : ∀ hh, cntL (.lst [.bl false, .bl false, .bl false, .bl false, .bl false, .bl false, .bl false, .bl false, .bl true]) [.bl true] hh = some (.int 1, hh) := fun hh => rfl
    have ix : ∀ hh, idxL (.lst [.bl false, .bl false, .bl false, .bl false, .bl false, .bl false, .bl false, .bl false, .bl true]) [.bl true] hh = some (.int 8, hh) := fun hh => rfl
    have fi : ∀ hh, dIx (.lst [.str "slants", .str "row", .str "number", .str "line", .str "even", .str "full", .str "strong", .str "text", .str "great"]) (.int 8) hh = some (.str "great", hh) := fun hh => p_ixl hh 8 _ (at_nat (n := 8) rfl)
    simp [g1, g2, g3, g4, g5, g6, g7, g8, g9, gv, t1, t2, t3, t4, t5, t6, t7, t8, t9, ad, c, ix, fi, kn_TooGreat]
theorem v_refused (a : Addr) (C : Str) (hC : C ∈ allNames) (hs : C ≠ "NotStrong") (h : Hd) : den__law_refused a C [.ex a] h = .ok (.tup [.str (kn C)]) h := by
  have e := v_kind a C hC h
  have ns2 : ¬ kn C = ("strong" : Str) := by
    simp only [allNames, List.mem_cons, List.mem_nil_iff, or_false] at hC
    rcases hC with hC | hC | hC | hC | hC | hC | hC | hC | hC <;> subst hC <;> first | exact absurd rfl hs | decide +kernel
  refine bodyD_ret ?_
  simp only [body__law_refused, startD]
  simp [e, ns2]
section
variable {q r : Rat} {a b : Nat}
theorem v_next {c : Int} (h0 : 0 ≤ c) (h1 : c < 4294967296) (h : Hd) : ∃ r, den__law_next [.int c] h = .ok (.int r) h ∧ 0 ≤ r ∧ r < 2147483648 := by
  have e1 : 0 ≤ (c + 7919).fmod 2147483647 := Int.fmod_nonneg_of_pos _ (by decide)
  have e2 : (c + 7919).fmod 2147483647 < 2147483647 := Int.fmod_lt_of_pos _ (by decide)
  generalize hs : (c + 7919).fmod 2147483647 = s at e1 e2
  have m1 : mulOk s s := mulOk_of (by omega) (by omega)
  have m2 : mulOk 48271 s := mulOk_of (by decide) (by omega)
  refine ⟨(s * s + 48271 * s + 12345).fmod 2147483629, ?_, Int.fmod_nonneg_of_pos _ (by decide), Int.lt_trans (Int.fmod_lt_of_pos _ (by decide)) (by decide)⟩
  simp [den__law_next, bodyD, body__law_next, startD, p_modi, hs, p_muli, m1, m2]
theorem v_draw {i : Nat} {h : Hd} {m : Int} (p : PenAt i h) (h0 : 0 < m) (h1 : m < 1073741824) : ∃ r h', den__law_draw [.ref i, .int m] h = .ok (.int r) h' ∧ 0 ≤ r ∧ r < m ∧ PenStep i h h' := by
  obtain ⟨xs, e, a, b, c, rfl, ha, hc, hc2⟩ := p
  have i0 := p_ixr (j := 0) e (at_nat (n := 0) rfl)
  have i1 := p_ixr (j := 1) e (at_nat (n := 1) rfl)
  have i2 := p_ixr (j := 2) e (at_nat (n := 2) rfl)
  have hd : divOk m := ⟨by omega, Nat.lt_trans ((Nat.log2_lt (by omega)).mpr (show m.natAbs < 2 ^ 30 by omega)) (by decide)⟩
  have hm : m ≠ 0 := by omega
  by_cases hb : b = 1
  · refine ⟨a.fmod m, h.set i (.lst [.int (a.fdiv m), .int b, .int c]), ?_, Int.fmod_nonneg_of_pos _ h0, Int.fmod_lt_of_pos _ h0, _, ⟨_, _, _, rfl, Int.fdiv_nonneg ha (by omega), hc, hc2⟩, rfl⟩
    have st := p_setr (j := 0) (m := 0) (v := .int (a.fdiv m)) e rfl
    simp [den__law_draw, bodyD, body__law_draw, startD, i1, i0, hb, p_modi, hm, p_divi, hd, asgS, subT, st]
  · obtain ⟨r1, er1, q1, q2⟩ := v_next hc (by omega) h
    obtain ⟨r2, er2, q3, q4⟩ := v_next (c := r1 + 7) (by omega) (by omega) h
    have st := p_setr (j := 2) (m := 2) (v := .int r2) e rfl
    have hl : i < h.length := (List.getElem?_eq_some_iff.mp e).1
    have e' : (h.set i (.lst [.int a, .int b, .int r2]))[i]? = some (.lst [.int a, .int b, .int r2]) := List.getElem?_set_self hl
    have i2' := p_ixr (j := 2) e' (at_nat (n := 2) rfl)
    have h64 : divOk 64 := by decide
    refine ⟨(r2.fdiv 64).fmod m, h.set i (.lst [.int a, .int b, .int r2]), ?_, Int.fmod_nonneg_of_pos _ h0, Int.fmod_lt_of_pos _ h0, _, ⟨_, _, _, rfl, ha, q3, q4⟩, rfl⟩
    simp [den__law_draw, bodyD, body__law_draw, startD, i1, i2, hb, p_modi, hm, p_divi, h64, asgS, subT, er1, er2, st, i2']
theorem v_pen (c : Int) (h : Hd) : ∃ xs, PenV xs ∧ den__law_pen_of [.int c] h = .ok (.ref h.length) (h ++ [.lst xs]) := by
  have hp : powOk 10 18 := by decide
  generalize hm : (if 0 - c > c then 0 - c else c) = m
  have m0 : 0 ≤ m := by rw [← hm]; split <;> omega
  refine ⟨[.int m, .int (if decide ((10 : Int) ^ (18 : Int).toNat ≤ m) = true then 1 else 0), .int (m.fmod 1000003)], ⟨_, _, _, rfl, m0, Int.fmod_nonneg_of_pos _ (by decide), Int.lt_trans (Int.fmod_lt_of_pos _ (by decide)) (by decide)⟩, ?_⟩
  have hm' : (if 0 - c > c then 0 - c else c) = m := hm
  simp only [den__law_pen_of, bodyD, body__law_pen_of, startD]
  simp [p_powi, hp, p_modi]
  simp at hm'
  rw [hm']
  simp
theorem v_cell (ns : List Int) (h : Hd) : ∃ c : Int, den__law_cell_at [.scr (ns.map D.int), .int 0] h = .ok (.int c) h := by
  cases ns with
  | nil => exact ⟨0, by simp [den__law_cell_at, bodyD, body__law_cell_at, startD]⟩
  | cons n ns =>
    refine ⟨n, ?_⟩
    have e : dIx (.scr (D.int n :: ns.map D.int)) (.int 0) h = some (.int n, h) := p_ixs h 0 _ (at_nat (n := 0) rfl)
    have c : (0 : Int) < (ns.length : Int) + 1 := by omega
    simp [den__law_cell_at, bodyD, body__law_cell_at, startD, e, c]
theorem v_whole {d : D} (p : PlD d) (h : Hd) : den__law_whole [d] h = .ok (.bl (isI d)) h := by
  simp only [den__law_whole, bodyD, body__law_whole, startD]
  simp [isi_int p, isi_bool p]
  cases d <;> first | exact p.elim | rfl | simp [isI]
theorem v_iswhole {d : D} (p : PlD d) (h : Hd) : den_is_whole [d] h = .ok (.bl (isI d)) h := by
  simp only [den_is_whole, bodyD, body_is_whole, startD]
  simp [isi_int p, isi_bool p]
  cases d <;> first | exact p.elim | rfl | simp [isI]
def PlX (d : D) : Prop := PlD d ∧ ∀ xs, d = .tup xs → ∀ x ∈ xs, PlD x
theorem isT_ok : ∀ {d : D}, isT d = true → ∃ xs, d = .tup xs
  | .tup xs, _ => ⟨xs, rfl⟩
  | .non, h => by cases h
  | .bl _, h => by cases h
  | .int _, h => by cases h
  | .str _, h => by cases h
  | .lst _, h => by cases h
  | .scr _, h => by cases h
  | .ref _, h => by cases h
  | .gl _, h => by cases h
  | .dct, h => by cases h
  | .ty _, h => by cases h
  | .ex _, h => by cases h
theorem isi_tuple' {xs : List D} (h : Hd) : isiD [.tup xs, .ty "tuple"] h = some (.bl true, h) := rfl
theorem eqv_ints : ∀ xs ys : List Int, PyData.eqvAll (xs.map PyData.int) (ys.map PyData.int) = decide (xs = ys)
  | [], [] => by simp [PyData.eqvAll]
  | x :: xs, [] => by simp [PyData.eqvAll]
  | [], y :: ys => by simp [PyData.eqvAll]
  | x :: xs, y :: ys => by
    rw [List.map_cons, List.map_cons]
    unfold PyData.eqvAll
    rw [eqv_ints xs ys]
    simp [PyData.eqv, Bool.decide_and]
    rw [Bool.eq_iff_iff]; simp
theorem py_tup (xs : List Int) (h : Hd) : pyOf h 8 (.tup (xs.map D.int)) = some (.tuple (xs.map PyData.int)) := by
  have : mapO (pyOf h 7) (xs.map D.int) = some (xs.map PyData.int) := mapO_map fun c _ => rfl
  show (match mapO (pyOf h 7) (xs.map D.int) with | some ps => some (PyData.tuple ps) | none => none) = _
  rw [this]
theorem p_eqt (neg : Bool) (xs ys : List Int) (h : Hd) : eqD neg (.tup (xs.map D.int)) (.tup (ys.map D.int)) h = some (.bl (if neg then !decide (xs = ys) else decide (xs = ys)), h) := by
  unfold eqD
  rw [py_tup, py_tup]
  dsimp only
  have : PyData.eqv (.tuple (xs.map PyData.int)) (.tuple (ys.map PyData.int)) = decide (xs = ys) := by
    unfold PyData.eqv
    exact eqv_ints xs ys
  rw [this]
/-- slants, rings -/
def Sl (xs : List Int) : Prop := (∃ n, 1 ≤ n ∧ n ≤ 5 ∧ xs.length = 2 * n - 1) ∧ ∀ x ∈ xs, -50 ≤ x ∧ x ≤ 50
theorem plx_ints (xs : List Int) : PlX (.tup (xs.map D.int)) := ⟨trivial, fun ys e x hx => by
  cases e
  obtain ⟨z, _, rfl⟩ := List.mem_map.mp hx
  trivial⟩
theorem flat_one {α : Type} (x : α) : ∀ n : Nat, (List.replicate n [x]).flatten = List.replicate n x
  | 0 => rfl
  | n + 1 => by rw [List.replicate_succ, List.flatten_cons, flat_one x n, List.replicate_succ]; rfl
theorem take_mem {xs : List Int} {k : Nat} (h : ∀ x ∈ xs, -50 ≤ x ∧ x ≤ 50) : ∀ x ∈ xs.take k, -50 ≤ x ∧ x ≤ 50 := fun x hx => h x (List.mem_of_mem_take hx)
theorem drop_mem {xs : List Int} {k : Nat} (h : ∀ x ∈ xs, -50 ≤ x ∧ x ≤ 50) : ∀ x ∈ xs.drop k, -50 ≤ x ∧ x ≤ 50 := fun x hx => h x (List.mem_of_mem_drop hx)
theorem app_mem {xs ys : List Int} (h : ∀ x ∈ xs, -50 ≤ x ∧ x ≤ 50) (g : ∀ x ∈ ys, -50 ≤ x ∧ x ≤ 50) : ∀ x ∈ xs ++ ys, -50 ≤ x ∧ x ≤ 50 := fun x hx => (List.mem_append.mp hx).elim (h x) (g x)
theorem ix_mem {L : List D} {r : Int} (h0 : 0 ≤ r) (h1 : r < L.length) : ∃ d, d ∈ L ∧ ∀ hh, dIx (.lst L) (.int r) hh = some (d, hh) := by
  have hn : r.toNat < L.length := by omega
  exact ⟨L[r.toNat], List.getElem_mem hn, fun hh => p_ixl hh r _ (at_int h0 (List.getElem?_eq_getElem hn))⟩
theorem pl_map (xs : List Int) : ∀ x ∈ xs.map D.int, PlD x := fun x hx => by
  obtain ⟨z, _, rfl⟩ := List.mem_map.mp hx
  trivial
theorem plx_tup {xs : List D} (h : ∀ x ∈ xs, PlD x) : PlX (.tup xs) := ⟨trivial, fun ys e => by cases e; exact h⟩
theorem plx_of {d : D} (h : PlD d) (hn : isT d = false) : PlX d := ⟨h, fun ys e => by subst e; cases hn⟩
theorem flat_app {h : Hd} {o : Ob} (hf : FlatH h) (ho : NRO o) : FlatH (h ++ [o]) := fun ob hb => by
  rcases List.mem_append.mp hb with hb | hb
  · exact hf ob hb
  · simp at hb; subst hb; exact ho
theorem penAt_app {i : Nat} {h : Hd} {o : Ob} (p : PenAt i h) : PenAt i (h ++ [o]) := by
  obtain ⟨xs, e, q⟩ := p
  exact ⟨xs, by rw [List.getElem?_append_left (List.getElem?_eq_some_iff.mp e).1]; exact e, q⟩
theorem abs_nat (i : Int) : (if i < 0 then -i else i) = ((i.natAbs : Nat) : Int) := by split <;> omega
theorem fmod_nat (x y : Nat) : ((x : Int)).fmod (y : Int) = ((x % y : Nat) : Int) := by rw [Int.fmod_eq_emod_of_nonneg _ (by omega)]; simp
theorem v_common (t b : Int) (h : Hd) : den_common [.int t, .int b] h = .ok (.int ((Nat.gcd t.natAbs b.natAbs : Nat) : Int)) h := by
  have w := gcd_whileS (c := asB (bin2 dNe (vr 1) (cst (.int 0)))) (b := parS 0 1 (aCons (vr 1) (aCons (bin2 dMod (vr 0) (vr 1)) aNil))) (mk := fun x y => [some (.int (x : Int)), some (.int (y : Int))]) (h := h) (fun x y => by simp) (fun x y hy => by
    have hy' : ((y : Nat) : Int) ≠ 0 := by omega
    have md : dMod (.int (x : Int)) (.int (y : Int)) h = some (.int ((x % y : Nat) : Int), h) := by rw [p_modi _ _ _ hy', fmod_nat]
    simp at md
    simp [parS, md]) t.natAbs b.natAbs
  refine bodyD_ret ?_
  unfold body_common
  rw [seq_n (σ1 := [some (.int ((t.natAbs : Nat) : Int)), some (.int ((b.natAbs : Nat) : Int))]) (h1 := h) (by simp only [startD]; simp [parS, p_abs, abs_nat])]
  rw [seq_n w]
  rfl
theorem v_share {t b : Int} (hb : b ≠ 0) (hz : b.natAbs < 2 ^ 8000) (h : Hd) : den_share [.int t, .int b] h = .ok (encQ (Rat.divInt t b)) h := by
  have hd := divOk_both (t := t) hb hz
  have e := v_common t b h
  have d1 : ∀ hh, dDiv (.int t) (.int (bothOf t b)) hh = some (.int (Rat.divInt t b).num, hh) := fun hh => by rw [p_divi _ _ _ hd, share_num t b hb]
  have d2 : ∀ hh, dDiv (.int b) (.int (bothOf t b)) hh = some (.int ((Rat.divInt t b).den : Int), hh) := fun hh => by rw [p_divi _ _ _ hd, share_den t b hb]
  refine bodyD_ret ?_
  unfold body_share
  rw [seq_n (σ1 := [some (.int t), some (.int b), some (.int ((Nat.gcd t.natAbs b.natAbs : Nat) : Int))]) (h1 := h) (by simp only [startD]; simp [e])]
  rw [seq_n (σ1 := [some (.int t), some (.int b), some (.int (bothOf t b))]) (h1 := h) (by
    unfold bothOf
    by_cases c : b < 0 <;> simp [c])]
  simp [d1, d2, encQ]
theorem p4000 {x n : Nat} (h : x < 2 ^ n) (hn : n ≤ 8000) : x < 2 ^ 8000 := lt_up h hn
theorem v_add (hq : Qs a q) (hr : Qs b r) (hab : a + b ≤ 8000) (h : Hd) : den_add [encQ q, encQ r] h = .ok (encQ (q + r)) h := by
  have e := v_share (t := q.num * (r.den : Int) + r.num * (q.den : Int)) (dd_ne q r) (p4000 (bot_mul hq hr) (by omega)) h
  rw [add_top] at e
  have m1 : mulOk q.num (r.den : Int) := mulOk_pow hq.1 (by simpa using hr.2) (by omega)
  have m2 : mulOk r.num (q.den : Int) := mulOk_pow hr.1 (by simpa using hq.2) (by omega)
  have m3 : mulOk (q.den : Int) (r.den : Int) := mulOk_pow (by simpa using hq.2) (by simpa using hr.2) (by omega)
  refine bodyD_ret ?_
  simp only [body_add, startD]
  simp [i_top, i_bot, p_muli, m1, m2, m3, e]
theorem v_times (hq : Qs a q) (hr : Qs b r) (hab : a + b ≤ 8000) (h : Hd) : den_times [encQ q, encQ r] h = .ok (encQ (q * r)) h := by
  have e := v_share (t := q.num * r.num) (dd_ne q r) (p4000 (bot_mul hq hr) (by omega)) h
  rw [mul_top] at e
  have m1 : mulOk q.num r.num := mulOk_pow hq.1 hr.1 (by omega)
  have m3 : mulOk (q.den : Int) (r.den : Int) := mulOk_pow (by simpa using hq.2) (by simpa using hr.2) (by omega)
  refine bodyD_ret ?_
  simp only [body_times, startD]
  simp [i_top, i_bot, p_muli, m1, m3, e]
theorem v_total {B : Nat} (h : Hd) : ∀ (qs : List Rat) (acc : Rat) (A : Nat) (x0 x2 : Option D), Qs A acc → (∀ q ∈ qs, Qs B q) → A + (qs.length + 1) * (B + 1) ≤ 8000 →
    ∃ y2, forLoop (setT 2) (setS 1 (callD den_add 2 (aCons (vr 1) (aCons (vr 2) aNil)))) [] (qs.map encQ) [x0, some (encQ acc), x2] h = .next [x0, some (encQ (qs.foldl (· + ·) acc)), y2] h
  | [], acc, A, x0, x2, _, _, _ => ⟨x2, for_nil⟩
  | q :: qs, acc, A, x0, x2, ha, hq, hl => by
    rw [List.length_cons, Nat.succ_mul] at hl
    have e := v_add ha (hq q List.mem_cons_self) (by rw [Nat.succ_mul] at hl; omega) h
    obtain ⟨y2, e2⟩ := v_total h qs (acc + q) (A + B + 1) x0 (some (encQ q)) (ha.add (hq q List.mem_cons_self)) (fun r hr => hq r (List.mem_cons_of_mem _ hr)) (by omega)
    refine ⟨y2, ?_⟩
    rw [List.map_cons, for_cons (σ1 := [x0, some (encQ acc), some (encQ q)]) (h1 := h) rfl (?_ : _ = SOut.next _ _)]
    · exact e2
    · simp [e]
def dotQ (xs ys : List Rat) : Rat := ((xs.zip ys).map fun p => p.1 * p.2).foldl (· + ·) 0
theorem v_psum {xs ys : List Rat} {a b : Nat} (hx : ∀ q ∈ xs, Qs a q) (hy : ∀ q ∈ ys, Qs b q) (hl : 1 + (xs.length + 1) * (a + b + 1) ≤ 8000) (h : Hd) : den_product_sum [.tup (xs.map encQ), .lst (ys.map encQ)] h = .ok (encQ (dotQ xs ys)) h := by
  have hab : a + b + 1 ≤ 8000 := by
    have : a + b + 1 ≤ (xs.length + 1) * (a + b + 1) := Nat.le_mul_of_pos_left _ (by omega)
    omega
  have mem : ∀ p ∈ xs.zip ys, Qs a p.1 ∧ Qs b p.2 := fun p hp => ⟨hx _ (List.of_mem_zip hp).1, hy _ (List.of_mem_zip hp).2⟩
  have hc : lcD (zipI (aCons (vr 0) (aCons (vr 1) aNil))) (tupT 2 (tsCons (setT 2) (tsCons (setT 3) tsNil))) yesB (callD den_times 2 (aCons (vr 2) (aCons (vr 3) aNil))) [2, 3] [some (.tup (xs.map encQ)), some (.lst (ys.map encQ)), none, none] h =
      .ok (.lst (((xs.zip ys).map fun p => p.1 * p.2).map encQ)) h := by
    refine e_lcD (h1 := h) (e_zipI (xs := xs.map encQ) (ys := ys.map encQ) (h1 := h) (by simp)) ?_
    rw [pair_map, List.map_map]
    exact lc_mapL (acc := []) fun p hp => ⟨[some (.tup (xs.map encQ)), some (.lst (ys.map encQ)), some (encQ p.1), some (encQ p.2)], by simp [tupT, seqOf, tsCons, tsNil, wipeD], rfl, by
      have e := v_times (mem p hp).1 (mem p hp).2 (by omega) h
      simp [e]⟩
  obtain ⟨y2, e2⟩ := v_total (B := a + b) h ((xs.zip ys).map fun p => p.1 * p.2) 0 1 (some (.lst (((xs.zip ys).map fun p => p.1 * p.2).map encQ))) none ⟨by decide, by decide⟩ (fun q hq => by
    obtain ⟨p, hp, rfl⟩ := List.mem_map.mp hq
    exact (mem p hp).1.mul (mem p hp).2) (by
    have : ((xs.zip ys).map fun p => p.1 * p.2).length ≤ xs.length := by rw [List.length_map, List.length_zip]; omega
    have := Nat.mul_le_mul_right (a + b + 1) (Nat.succ_le_succ this)
    simp only [Nat.succ_eq_add_one] at this
    omega)
  have et : den_total [.lst (((xs.zip ys).map fun p => p.1 * p.2).map encQ)] h = .ok (encQ (dotQ xs ys)) h := by
    refine bodyD_ret ?_
    unfold body_total
    rw [seq_n (σ1 := [some (.lst (((xs.zip ys).map fun p => p.1 * p.2).map encQ)), some (encQ 0), none]) (h1 := h) (by simp only [startD]; rw [enc_zero]; simp [-List.map_map])]
    rw [seq_n (σ1 := [some (.lst (((xs.zip ys).map fun p => p.1 * p.2).map encQ)), some (encQ (dotQ xs ys)), y2]) (h1 := h) (by rw [e_forS (e_seqI_l _ _ _ _ _ rfl)]; exact e2)]
    rfl
  refine bodyD_ret ?_
  simp only [body_product_sum, startD]
  simp [hc, et, -List.map_map]
theorem fold_qs {B : Nat} : ∀ (qs : List Rat) (acc : Rat) (A : Nat), Qs A acc → (∀ q ∈ qs, Qs B q) → Qs (A + qs.length * (B + 1)) (qs.foldl (· + ·) acc)
  | [], acc, A, ha, _ => by simpa using ha
  | q :: qs, acc, A, ha, hq => by
    have := fold_qs qs (acc + q) (A + B + 1) (ha.add (hq q List.mem_cons_self)) fun r hr => hq r (List.mem_cons_of_mem _ hr)
    rw [List.length_cons, Nat.succ_mul]
    exact this.mono (by omega)
theorem dot_qs {xs ys : List Rat} {a b : Nat} (hx : ∀ q ∈ xs, Qs a q) (hy : ∀ q ∈ ys, Qs b q) : Qs (1 + xs.length * (a + b + 1)) (dotQ xs ys) := by
  have := fold_qs (B := a + b) ((xs.zip ys).map fun p => p.1 * p.2) 0 1 ⟨by decide, by decide⟩ fun q hq => by
    obtain ⟨p, hp, rfl⟩ := List.mem_map.mp hq
    exact (hx _ (List.of_mem_zip hp).1).mul (hy _ (List.of_mem_zip hp).2)
  refine this.mono ?_
  have hl : ((xs.zip ys).map fun p => p.1 * p.2).length ≤ xs.length := by rw [List.length_map, List.length_zip]; omega
  have := Nat.mul_le_mul_right (a + b + 1) hl
  omega
theorem getD_mem {c : List Int} (hb : ∀ x ∈ c, -50 ≤ x ∧ x ≤ 50) (i : Nat) : -50 ≤ c.getD i 0 ∧ c.getD i 0 ≤ 50 := by
  rw [List.getD_eq_getElem?_getD]
  cases e : c[i]? with
  | none => decide
  | some x => exact hb x (List.mem_of_getElem? e)
def encT (t : List (List Int)) : D := .lst (t.map fun r => .lst (r.map D.int))
def shG : D → Bool
  | .tup [.int a, .int b] => decide (0 < b) && decide (Nat.gcd a.natAbs b.natAbs = 1)
  | _ => false
theorem isI_ok : ∀ {d : D}, isI d = true → ∃ i, d = .int i
  | .int i, _ => ⟨i, rfl⟩
  | .tup _, h => by cases h
  | .non, h => by cases h
  | .bl _, h => by cases h
  | .str _, h => by cases h
  | .lst _, h => by cases h
  | .scr _, h => by cases h
  | .ref _, h => by cases h
  | .gl _, h => by cases h
  | .dct, h => by cases h
  | .ty _, h => by cases h
  | .ex _, h => by cases h
theorem shG_x {x y : D} (h : isI x = false) : shG (.tup [x, y]) = false := by cases x <;> first | rfl | cases h
theorem shG_y {x y : D} (h : isI y = false) : shG (.tup [x, y]) = false := by
  cases x <;> first | rfl | (cases y <;> first | rfl | cases h)
theorem shG_len : ∀ {xs : List D}, xs.length ≠ 2 → shG (.tup xs) = false
  | [], _ => rfl
  | [x], _ => by cases x <;> rfl
  | [x, y], h => absurd rfl h
  | x :: y :: z :: l, _ => by cases x <;> first | rfl | (cases y <;> rfl)
theorem v_sgood {d : D} (p : PlX d) (h : Hd) : den_share_good [d] h = .ok (.bl (shG d)) h := by
  cases ht : isT d with
  | false =>
    have e := isi_tuple p.1 (h := h)
    rw [ht] at e
    simp only [den_share_good, bodyD, body_share_good, startD]
    simp [e]
    cases d <;> first | rfl | cases ht
  | true =>
    obtain ⟨xs, rfl⟩ := isT_ok ht
    have hx := p.2 xs rfl
    by_cases hl : xs.length = 2
    · match xs, hl, hx with
      | [x, y], _, hx =>
        have i0 : ∀ hh, dIx (.tup [x, y]) (.int 0) hh = some (x, hh) := fun hh => p_ixt hh 0 _ (at_nat (n := 0) rfl)
        have i1 : ∀ hh, dIx (.tup [x, y]) (.int 1) hh = some (y, hh) := fun hh => p_ixt hh 1 _ (at_nat (n := 1) rfl)
        have wx := v_iswhole (hx x (by simp)) h
        have wy := v_iswhole (hx y (by simp)) h
        refine bodyD_ret ?_
        simp only [body_share_good, startD]
        cases hix : isI x with
        | false =>
          rw [hix] at wx
          simp [isi_tuple', i0, i1, wx, shG_x hix]
        | true =>
          rw [hix] at wx
          cases hiy : isI y with
          | false =>
            rw [hiy] at wy
            simp [isi_tuple', i0, i1, wx, wy, shG_y hiy]
          | true =>
            rw [hiy] at wy
            obtain ⟨a, rfl⟩ := isI_ok hix
            obtain ⟨b, rfl⟩ := isI_ok hiy
            have e := v_common a b h
            obtain ⟨g, hg⟩ : ∃ g, g = Nat.gcd a.natAbs b.natAbs := ⟨_, rfl⟩
            rw [← hg] at e
            by_cases hb : 0 < b
            · have e2 : dEq (.int (g : Int)) (.int 1) h = some (.bl (decide (g = 1)), h) := by
                show eqD false _ _ h = _
                rw [p_eqi]
                congr 2
                by_cases c : g = 1
                · simp [c]
                · simp [c]
                  omega
              have e3 : shG (.tup [.int a, .int b]) = decide (g = 1) := by simp [shG, hb, hg]
              rw [e3]
              simp [isi_tuple', i0, i1, wx, wy, hb, e, e2]
            · simp [isi_tuple', i0, i1, wx, wy, hb, shG]
    · refine bodyD_ret ?_
      simp only [body_share_good, startD]
      have hl' : ¬ (xs.length : Int) = 2 := by omega
      simp [isi_tuple', hl', hl, shG_len hl]
theorem dv_eq {a b : Int} (hb : 0 < b) : (Rat.divInt a b).num = a ∧ ((Rat.divInt a b).den : Int) = b ↔ Nat.gcd a.natAbs b.natAbs = 1 := by
  have hb0 : b ≠ 0 := by omega
  have e1 := share_num a b hb0
  have e2 := share_den a b hb0
  have nb : ¬ b < 0 := by omega
  unfold bothOf at e1 e2
  rw [if_neg nb] at e1 e2
  constructor
  · rintro ⟨h1, h2⟩
    have hc := (Rat.divInt a b).reduced
    have : (Rat.divInt a b).den = b.natAbs := by omega
    rw [this, h1] at hc
    exact hc
  · intro hg
    rw [hg] at e1 e2
    simp at e1 e2
    exact ⟨e1.symm, e2.symm⟩
theorem p_eqt2 (neg : Bool) (a b c d : Int) (h : Hd) : eqD neg (.tup [.int a, .int b]) (.tup [.int c, .int d]) h = some (.bl (if neg then !decide (a = c ∧ b = d) else decide (a = c ∧ b = d)), h) := by
  have := p_eqt neg [a, b] [c, d] h
  have e : decide ([a, b] = [c, d]) = decide (a = c ∧ b = d) := by
    rw [decide_eq_decide]
    simp
  rw [e] at this
  exact this
def rowG (n : Nat) : D → Bool
  | .tup xs => decide (xs.length = n) && xs.all shG
  | _ => false
theorem pen_snoc {i : Nat} {H h' : Hd} {o : Ob} (hi : i < H.length) (s : PenStep i (H ++ [o]) h') : ∃ H', h' = H' ++ [o] ∧ PenStep i H H' := by
  obtain ⟨xs, pv, e⟩ := s
  exact ⟨H.set i (.lst xs), by rw [e, List.set_append_left _ _ hi], xs, pv, rfl⟩
theorem pen_lt {i : Nat} {h : Hd} (p : PenAt i h) : i < h.length := by
  obtain ⟨xs, e, _⟩ := p
  exact (List.getElem?_eq_some_iff.mp e).1
theorem penAt_snoc {i : Nat} {h : Hd} {o : Ob} (p : PenAt i h) : PenAt i (h ++ [o]) := by
  obtain ⟨xs, e, q⟩ := p
  exact ⟨xs, by rw [List.getElem?_append_left (List.getElem?_eq_some_iff.mp e).1]; exact e, q⟩
theorem shG_enc (q : Rat) : shG (encQ q) = true := by
  have h1 := den_pos q
  have h2 := q.reduced
  unfold Nat.Coprime at h2
  have : (0 : Int) < (q.den : Int) := by omega
  simp [encQ, shG, h2, h1]
theorem rowG_enc (qs : List Rat) : rowG qs.length (.tup (qs.map encQ)) = true := by
  have : (qs.map encQ).all shG = true := by
    rw [List.all_eq_true]
    intro x hx
    obtain ⟨q, _, rfl⟩ := List.mem_map.mp hx
    exact shG_enc q
  simp only [rowG, this]
  simp
theorem shG_nest (qs : List Rat) : shG (.tup (qs.map encQ)) = false := by
  cases qs with
  | nil => rfl
  | cons q qs => cases qs <;> rfl
def lineOf (xs : List Int) (n i : Nat) : List Int := (List.range n).map fun j => xs.getD (j + n - 1 - i) 0
theorem line_mem {xs : List Int} {n i : Nat} (hb : ∀ x ∈ xs, -50 ≤ x ∧ x ≤ 50) : ∀ x ∈ lineOf xs n i, -50 ≤ x ∧ x ≤ 50 := fun x hx => by
  obtain ⟨j, _, rfl⟩ := List.mem_map.mp hx
  exact getD_mem hb _
def cqs (c : List Int) : List Rat := c.map fun i : Int => (i : Rat)
theorem cq_qs {c : List Int} (hc : ∀ x ∈ c, -50 ≤ x ∧ x ≤ 50) : ∀ q ∈ cqs c, Qs 6 q := fun q hq => by
  obtain ⟨i, hi, rfl⟩ := List.mem_map.mp hq
  have := hc i hi
  exact Qs.int (by omega) (by decide)
theorem dot_step : ∀ (l m : List Rat) (j : Nat), j < l.length → j < m.length → dotQ (l.take (j + 1)) (m.take (j + 1)) = dotQ (l.take j) (m.take j) + l.getD j 0 * m.getD j 0 := fun l m j h1 h2 => by
  have e1 : l.take (j + 1) = l.take j ++ [l.getD j 0] := by rw [List.take_succ_eq_append_getElem h1, List.getD, List.getElem?_eq_getElem h1]; rfl
  have e2 : m.take (j + 1) = m.take j ++ [m.getD j 0] := by rw [List.take_succ_eq_append_getElem h2, List.getD, List.getElem?_eq_getElem h2]; rfl
  rw [e1, e2]
  unfold dotQ
  rw [List.zip_append (by simp; omega), List.map_append, List.foldl_append]
  rfl
theorem getD_q {qs : List Rat} {B : Nat} (hB : 1 ≤ B) (qq : ∀ q ∈ qs, Qs B q) (j : Nat) : Qs B (qs.getD j 0) := by
  rw [List.getD_eq_getElem?_getD]
  cases e : qs[j]? with
  | none => exact Qs.mono (B := 1) ⟨by decide, by decide⟩ hB
  | some q => exact qq q (List.mem_of_getElem? e)
theorem ixq {qs : List Rat} {j : Nat} (hj : j < qs.length) (hh : Hd) : dIx (.tup (qs.map encQ)) (.int (j : Int)) hh = some (encQ (qs.getD j 0), hh) := by
  refine p_ixt hh _ _ (at_nat ?_)
  rw [List.getElem?_map, List.getD, List.getElem?_eq_getElem hj]
  rfl
end
end Dz.PL

namespace Dz.PL
open PySem PySem.Spec PyProof.Rows L2 Dz
noncomputable def body_size_of : DenS := retS (bin2 dDiv (bin2 dAdd (callP lenD (aCons (vr 0) (aNil))) (cst (.int 1))) (cst (.int 2)))
noncomputable def den_size_of : FDen := bodyD 1 body_size_of
noncomputable def body_is_upto : DenS := retS (andV (callD Dz.PL.den_is_whole 1 (aCons (vr 0) (aNil))) (chain3 dLe dLe (vr 1) (vr 0) (vr 2)))
noncomputable def den_is_upto : FDen := bodyD 3 body_is_upto
noncomputable def body_tabled : DenS := seqS (setS 1 (callD Dz.PL.den_size_of 1 (aCons (vr 0) (aNil)))) (retS (lcD (rng1 (aCons (vr 1) (aNil))) (setT 2) (yesB) (lcD (rng1 (aCons (vr 1) (aNil))) (setT 3) (yesB) (bin2 dIx (vr 0) (bin2 dSub (bin2 dAdd (bin2 dSub (vr 3) (vr 2)) (vr 1)) (cst (.int 1)))) [3]) [2]))
noncomputable def den_tabled : FDen := bodyD 4 body_tabled
noncomputable def body_slants_good : DenS := seqS (ifS (orB (notB (asB (callP isiD (aCons (vr 0) (aCons (cst (.ty "tuple")) (aNil)))))) (orB (asB (bin2 dEq (bin2 dMod (callP lenD (aCons (vr 0) (aNil))) (cst (.int 2))) (cst (.int 0)))) (asB (bin2 dGt (callP lenD (aCons (vr 0) (aNil))) (bin2 dSub (bin2 dMul (cst (.int 2)) (cst (.int 5))) (cst (.int 1))))))) (retS (cst (.bl false))) (nxS)) (retS (callP allD (aCons (lcD (seqI (vr 0)) (setT 1) (yesB) (callD Dz.PL.den_is_upto 3 (aCons (vr 1) (aCons (bin2 dSub (cst (.int 0)) (cst (.int 50))) (aCons (cst (.int 50)) (aNil))))) [1]) (aNil))))
noncomputable def den_slants_good : FDen := bodyD 2 body_slants_good
noncomputable def body_is_row : DenS := retS (andV (callP isiD (aCons (vr 1) (aCons (cst (.ty "tuple")) (aNil)))) (andV (bin2 dEq (callP lenD (aCons (vr 1) (aNil))) (callD Dz.PL.den_size_of 1 (aCons (vr 0) (aNil)))) (callP allD (aCons (lcD (seqI (vr 1)) (setT 2) (yesB) (callD Dz.PL.den_share_good 1 (aCons (vr 2) (aNil))) [2]) (aNil)))))
noncomputable def den_is_row : FDen := bodyD 3 body_is_row
noncomputable def body_check_slants : DenS := ifS (notB (asB (callD Dz.PL.den_slants_good 1 (aCons (vr 0) (aNil))))) (raiseS "NoSlants") (nxS)
noncomputable def den_check_slants : FDen := bodyD 1 body_check_slants
noncomputable def body_check_row : DenS := ifS (notB (asB (callD Dz.PL.den_is_row 2 (aCons (vr 0) (aCons (vr 1) (aNil)))))) (raiseS "NoRow") (nxS)
noncomputable def den_check_row : FDen := bodyD 2 body_check_row
noncomputable def body_row_good : DenS := seqS (exS (callD Dz.PL.den_check_slants 1 (aCons (vr 0) (aNil)))) (retS (callD Dz.PL.den_is_row 2 (aCons (vr 0) (aCons (vr 1) (aNil)))))
noncomputable def den_row_good : FDen := bodyD 2 body_row_good
noncomputable def body_made : DenS := retS (callP (tupleD) (aCons (lcD (seqI (callD Dz.PL.den_tabled 1 (aCons (vr 0) (aNil)))) (setT 2) (yesB) (callD Dz.PL.den_product_sum 2 (aCons (lcD (seqI (vr 2)) (setT 3) (yesB) (tupD (aCons (vr 3) (aCons (cst (.int 1)) (aNil)))) [3]) (aCons (vr 1) (aNil)))) [2]) (aNil)))
noncomputable def den_made : FDen := bodyD 4 body_made
noncomputable def body_times_row : DenS := seqS (exS (callD Dz.PL.den_check_slants 1 (aCons (vr 0) (aNil)))) (seqS (exS (callD Dz.PL.den_check_row 2 (aCons (vr 0) (aCons (vr 1) (aNil))))) (retS (callD Dz.PL.den_made 2 (aCons (vr 0) (aCons (vr 1) (aNil))))))
noncomputable def den_times_row : FDen := bodyD 2 body_times_row
noncomputable def body_cornered : DenS := seqS (setS 2 (bin2 dSub (callD Dz.PL.den_size_of 1 (aCons (vr 0) (aNil))) (vr 1))) (retS (slD mkL (vr 0) (oSome (vr 2)) (oSome (bin2 dSub (callP lenD (aCons (vr 0) (aNil))) (vr 2)))))
noncomputable def den_cornered : FDen := bodyD 3 body_cornered
noncomputable def body_slants_of : DenS := seqS (ifS (orB (notB (asB (callP isiD (aCons (vr 0) (aCons (cst (.ty "list")) (aNil)))))) (notB (asB (chain3 dLe dLe (cst (.int 1)) (callP lenD (aCons (vr 0) (aNil))) (cst (.int 5)))))) (raiseS "NoSlants") (nxS)) (seqS (ifS (notB (asB (callP allD (aCons (lcD (seqI (vr 0)) (setT 2) (yesB) (andV (callP isiD (aCons (vr 2) (aCons (cst (.ty "list")) (aNil)))) (bin2 dEq (callP lenD (aCons (vr 2) (aNil))) (callP lenD (aCons (vr 0) (aNil))))) [2]) (aNil))))) (raiseS "NoSlants") (nxS)) (seqS (setS 1 (callP (tupleD) (aCons (bin2 dAdd (lcD (seqI (un1 revP (vr 0))) (setT 2) (yesB) (bin2 dIx (vr 2) (cst (.int 0))) [2]) (slD mkL (bin2 dIx (vr 0) (cst (.int 0))) (oSome (cst (.int 1))) (oNone))) (aNil)))) (seqS (ifS (orB (notB (asB (callD Dz.PL.den_slants_good 1 (aCons (vr 1) (aNil))))) (notB (asB (callP allD (aCons (lcD (seqI (vr 0)) (setT 2) (yesB) (callP allD (aCons (lcD (seqI (vr 2)) (setT 3) (yesB) (callD Dz.PL.den_is_upto 3 (aCons (vr 3) (aCons (bin2 dSub (cst (.int 0)) (cst (.int 50))) (aCons (cst (.int 50)) (aNil))))) [3]) (aNil))) [2]) (aNil)))))) (raiseS "NoSlants") (nxS)) (seqS (ifS (asB (bin2 dNe (callD Dz.PL.den_tabled 1 (aCons (vr 1) (aNil))) (vr 0))) (raiseS "NoSlants") (nxS)) (retS (vr 1))))))
noncomputable def den_slants_of : FDen := bodyD 4 body_slants_of
noncomputable def body_table_of : DenS := seqS (exS (callD Dz.PL.den_check_slants 1 (aCons (vr 0) (aNil)))) (retS (callD Dz.PL.den_tabled 1 (aCons (vr 0) (aNil))))
noncomputable def den_table_of : FDen := bodyD 1 body_table_of
noncomputable def body_turned_slants : DenS := seqS (exS (callD Dz.PL.den_check_slants 1 (aCons (vr 0) (aNil)))) (retS (un1 revP (vr 0)))
noncomputable def den_turned_slants : FDen := bodyD 1 body_turned_slants
noncomputable def body_mirrored_slants : DenS := seqS (exS (callD Dz.PL.den_check_slants 1 (aCons (vr 0) (aNil)))) (retS (un1 revP (vr 0)))
noncomputable def den_mirrored_slants : FDen := bodyD 1 body_mirrored_slants
noncomputable def body_corner : DenS := seqS (exS (callD Dz.PL.den_check_slants 1 (aCons (vr 0) (aNil)))) (seqS (ifS (notB (asB (callD Dz.PL.den_is_upto 3 (aCons (vr 1) (aCons (cst (.int 1)) (aCons (callD Dz.PL.den_size_of 1 (aCons (vr 0) (aNil))) (aNil))))))) (raiseS "NoNumber") (nxS)) (retS (callD Dz.PL.den_cornered 2 (aCons (vr 0) (aCons (vr 1) (aNil))))))
noncomputable def den_corner : FDen := bodyD 2 body_corner
section
variable {q r : Rat} {a b : Nat}
theorem v_upto {d : D} (p : PlD d) (lo hi : Int) (h : Hd) : den_is_upto [d, .int lo, .int hi] h = .ok (.bl (upI lo hi d)) h := by
  simp only [den_is_upto, bodyD, body_is_upto, startD]
  simp [v_iswhole p]
  cases d <;> first | exact p.elim | rfl | (rename_i i; by_cases c : lo ≤ i <;> simp [isI, upI, c])
def lenG (n : Nat) : Bool := n == 1 || n == 3 || n == 5 || n == 7 || n == 9
def slG : D → Bool
  | .tup xs => lenG xs.length && xs.all (upI (-50) 50)
  | _ => false
theorem v_pgood {d : D} (p : PlX d) (h : Hd) : den_slants_good [d] h = .ok (.bl (slG d)) h := by
  cases ht : isT d with
  | false =>
    have e := isi_tuple p.1 (h := h)
    rw [ht] at e
    simp only [den_slants_good, bodyD, body_slants_good, startD]
    simp [e]
    cases d <;> first | rfl | cases ht
  | true =>
    obtain ⟨xs, rfl⟩ := isT_ok ht
    · skip
      have hx := p.2 xs rfl
      have m1 : mulOk 2 5 := by decide
      have ef : ((xs.length : Nat) : Int).fmod 2 = (xs.length : Int) % 2 := Int.fmod_eq_emod_of_nonneg _ (by decide)
      have hc : lcD (seqI (vr 0)) (setT 1) yesB (callD den_is_upto 3 (aCons (vr 1) (aCons (bin2 dSub (cst (.int 0)) (cst (.int 50))) (aCons (cst (.int 50)) aNil)))) [1] [some (.tup xs), none] h = .ok (.lst (xs.map fun d => .bl (upI (-50) 50 d))) h := by
        refine e_lcD (src := ⟨xs, []⟩) (by simp [seqI, srcOf]) (lc_map fun d hd => ⟨_, rfl, rfl, ?_⟩)
        have pd := hx d hd
        simp [wipeD, v_upto pd]
      have ha := all_bls (upI (-50) 50) xs h
      simp only [den_slants_good, bodyD, body_slants_good, startD]
      simp [isi_tuple', p_modi, p_muli, m1, ef, hc, ha, slG]
      by_cases c1 : (xs.length : Int) % 2 = 0
      · have : lenG xs.length = false := by simp [lenG]; omega
        simp [c1, this]
      · by_cases c2 : (9 : Int) < (xs.length : Int)
        · have : lenG xs.length = false := by simp [lenG]; omega
          simp [c1, c2, this]
        · have : lenG xs.length = true := by simp [lenG]; omega
          simp [c1, c2, this, hc, ha]
theorem v_checkS {d : D} (p : PlX d) (h : Hd) : den_check_slants [d] h = if slG d = true then .ok .non h else .exc ⟨"NoSlants", none⟩ h := by
  simp only [den_check_slants, bodyD, body_check_slants, startD]
  simp [v_pgood p]
  cases slG d <;> rfl
theorem v_sizeof (xs : List D) (h : Hd) : den_size_of [.tup xs] h = .ok (.int (((xs.length + 1) / 2 : Nat) : Int)) h := by
  have hd : divOk 2 := by decide
  have ef : ((xs.length : Int) + 1).fdiv 2 = (((xs.length + 1) / 2 : Nat) : Int) := by rw [Int.fdiv_eq_ediv_of_nonneg _ (by decide)]; omega
  simp only [den_size_of, bodyD, body_size_of, startD]
  simp [p_divi, hd, ef]
theorem all_up {xs : List Int} (h : ∀ x ∈ xs, -50 ≤ x ∧ x ≤ 50) : (xs.map D.int).all (upI (-50) 50) = true := by
  rw [List.all_map, List.all_eq_true]
  intro x hx
  have := h x hx
  simp [upI, this.1, this.2]
theorem slG_ints {xs : List Int} (h : Sl xs) : slG (.tup (xs.map D.int)) = true := by
  obtain ⟨⟨n, h1, h2, h3⟩, h4⟩ := h
  show (lenG (xs.map D.int).length && (xs.map D.int).all (upI (-50) 50)) = true
  rw [all_up h4, List.length_map]
  simp [lenG]
  omega
def PlQ (d : D) : Prop := PlX d ∧ ∀ a b, d = .tup [.int a, .int b] → b.natAbs < 2 ^ 8000
def PlR (d : D) : Prop := PlX d ∧ ∀ xs, d = .tup xs → ∀ x ∈ xs, PlQ x
theorem v_isrow {d : D} (p : PlR d) (ws : List D) (h : Hd) : den_is_row [.tup ws, d] h = .ok (.bl (rowG ((ws.length + 1) / 2) d)) h := by
  obtain ⟨p, q⟩ := p
  refine bodyD_ret ?_
  simp only [body_is_row, startD]
  have e1 := v_sizeof ws h
  cases ht : isT d with
  | false =>
    have e := isi_tuple p.1 (h := h)
    rw [ht] at e
    have : rowG ((ws.length + 1) / 2) d = false := by cases d <;> first | rfl | cases ht
    rw [this]
    simp [e]
  | true =>
    obtain ⟨xs, rfl⟩ := isT_ok ht
    have hc : lcD (seqI (vr 1)) (setT 2) yesB (callD den_share_good 1 (aCons (vr 2) aNil)) [2] [some (.tup ws), some (.tup xs), none] h = .ok (.lst (xs.map fun d => .bl (shG d))) h := by
      refine e_lcD (src := ⟨xs, []⟩) (by simp [seqI, srcOf]) (lc_map fun d hd => ⟨_, rfl, rfl, ?_⟩)
      have e := v_sgood (q xs rfl d hd).1 h
      simp [wipeD, e]
    have ha := all_bls shG xs h
    generalize (ws.length + 1) / 2 = n at e1
    by_cases hl : xs.length = n
    · simp [isi_tuple', e1, hl, hc, ha, rowG]
    · have hl' : ¬ (xs.length : Int) = (n : Int) := by omega
      simp [isi_tuple', e1, hl, hl', rowG]
theorem plq_of {d : D} (p : PlX d) (hb : ∀ a b, d = .tup [.int a, .int b] → b.natAbs < 2 ^ 64) : PlQ d := ⟨p, fun a b e => lt_up (hb a b e) (by decide)⟩
theorem plq_enc {q : Rat} {B : Nat} (h : Qs B q) (hB : B ≤ 8000) : PlQ (encQ q) := ⟨plx_tup fun x hx => by
  simp at hx
  rcases hx with rfl | rfl <;> trivial, fun a b e => by
    unfold encQ at e
    injection e with e
    injection e with e1 e2
    injection e2 with e2 e3
    injection e2 with e2
    subst e2
    have := lt_up h.2 hB
    simpa using this⟩
theorem plr_enc {qs : List Rat} {B : Nat} (h : ∀ q ∈ qs, Qs B q) (hB : B ≤ 8000) : PlR (.tup (qs.map encQ)) := ⟨plx_tup fun x hx => by
  obtain ⟨q, _, rfl⟩ := List.mem_map.mp hx
  trivial, fun xs e x hx => by
    injection e with e
    subst e
    obtain ⟨q, hq, rfl⟩ := List.mem_map.mp hx
    exact plq_enc (h q hq) hB⟩
theorem plr_tup {xs : List D} (h : ∀ x ∈ xs, PlQ x) : PlR (.tup xs) := ⟨plx_tup fun x hx => (h x hx).1.1, fun ys e => by cases e; exact h⟩
theorem plr_of {d : D} (h : PlD d) (hn : isT d = false) : PlR d := ⟨plx_of h hn, fun ys e => by subst e; cases hn⟩
def tabL (xs : List Int) (n : Nat) : List (List Int) := (List.range n).map (lineOf xs n)
theorem v_tabled {xs : List Int} {n : Nat} (n1 : 1 ≤ n) (n5 : n ≤ 5) (hl : xs.length = 2 * n - 1) (h : Hd) : den_tabled [.tup (xs.map D.int)] h = .ok (encT (tabL xs n)) h := by
  have inner : ∀ i : Nat, i < n → ∀ x3 : Option D, lcD (rng1 (aCons (vr 1) (aNil))) (setT 3) (yesB) (bin2 dIx (vr 0) (bin2 dSub (bin2 dAdd (bin2 dSub (vr 3) (vr 2)) (vr 1)) (cst (.int 1)))) [3] [some (.tup (xs.map D.int)), some (.int (n : Int)), some (.int (i : Int)), x3] h =
      .ok (.lst ((lineOf xs n i).map D.int)) h := fun i hi x3 => by
    refine e_lcD (h1 := h) (e_rng1 (h1 := h) (j := (n : Int)) (by simp) (by omega) (by omega)) ?_
    unfold lineOf
    rw [List.map_map, Int.toNat_natCast]
    refine lc_range fun j hj => ⟨_, rfl, rfl, ?_⟩
    show _ = Out.ok (D.int (xs.getD (j + n - 1 - i) 0)) h
    have i1 : dIx (.tup (xs.map D.int)) (.int ((j : Int) - (i : Int) + (n : Int) - 1)) h = some (.int (xs.getD (j + n - 1 - i) 0), h) := by
      have := p_ixt h _ _ (atmap (xs := xs) (i := (j : Int) - (i : Int) + (n : Int) - 1) (by omega) (by omega))
      rw [show ((j : Int) - (i : Int) + (n : Int) - 1).toNat = j + n - 1 - i by omega] at this
      exact this
    generalize xs.getD (j + n - 1 - i) 0 = a at i1
    simp [wipeD, i1]
  have outer : ∀ x2 x3 : Option D, lcD (rng1 (aCons (vr 1) (aNil))) (setT 2) (yesB) (lcD (rng1 (aCons (vr 1) (aNil))) (setT 3) (yesB) (bin2 dIx (vr 0) (bin2 dSub (bin2 dAdd (bin2 dSub (vr 3) (vr 2)) (vr 1)) (cst (.int 1)))) [3]) [2] [some (.tup (xs.map D.int)), some (.int (n : Int)), x2, x3] h = .ok (encT (tabL xs n)) h := fun x2 x3 => by
    unfold encT tabL
    refine e_lcD (h1 := h) (e_rng1 (h1 := h) (j := (n : Int)) (by simp) (by omega) (by omega)) ?_
    rw [List.map_map, Int.toNat_natCast]
    exact lc_range fun i hi => ⟨_, rfl, rfl, inner i hi x3⟩
  have e1 := v_sizeof (xs.map D.int) h
  rw [List.length_map, hl, show (2 * n - 1 + 1) / 2 = n by omega] at e1
  refine bodyD_ret ?_
  unfold body_tabled
  rw [seq_n (σ1 := [some (.tup (xs.map D.int)), some (.int (n : Int)), none, none]) (h1 := h) (by simp only [startD]; simp [e1])]
  rw [e_retS, outer]
  rfl
theorem e_zipL {f : DenA} {σ : Sd} {h h1 : Hd} {xs ys : List D} (e : f σ h = .ok [.lst xs, .tup ys] h1) : zipI f σ h = .ok ⟨pairUp xs ys, []⟩ h1 := by
  unfold zipI
  rw [e]
  rfl
theorem v_psumL {xs ys : List Rat} {a b : Nat} (hx : ∀ q ∈ xs, Qs a q) (hy : ∀ q ∈ ys, Qs b q) (hl : 1 + (xs.length + 1) * (a + b + 1) ≤ 8000) (h : Hd) : den_product_sum [.lst (xs.map encQ), .tup (ys.map encQ)] h = .ok (encQ (dotQ xs ys)) h := by
  have hab : a + b + 1 ≤ 8000 := by
    have : a + b + 1 ≤ (xs.length + 1) * (a + b + 1) := Nat.le_mul_of_pos_left _ (by omega)
    omega
  have mem : ∀ p ∈ xs.zip ys, Qs a p.1 ∧ Qs b p.2 := fun p hp => ⟨hx _ (List.of_mem_zip hp).1, hy _ (List.of_mem_zip hp).2⟩
  have hc : lcD (zipI (aCons (vr 0) (aCons (vr 1) aNil))) (tupT 2 (tsCons (setT 2) (tsCons (setT 3) tsNil))) yesB (callD den_times 2 (aCons (vr 2) (aCons (vr 3) aNil))) [2, 3] [some (.lst (xs.map encQ)), some (.tup (ys.map encQ)), none, none] h =
      .ok (.lst (((xs.zip ys).map fun p => p.1 * p.2).map encQ)) h := by
    refine e_lcD (h1 := h) (e_zipL (xs := xs.map encQ) (ys := ys.map encQ) (h1 := h) (by simp)) ?_
    rw [pair_map, List.map_map]
    exact lc_mapL (acc := []) fun p hp => ⟨[some (.lst (xs.map encQ)), some (.tup (ys.map encQ)), some (encQ p.1), some (encQ p.2)], by simp [tupT, seqOf, tsCons, tsNil, wipeD], rfl, by
      have e := v_times (mem p hp).1 (mem p hp).2 (by omega) h
      simp [e]⟩
  obtain ⟨y2, e2⟩ := v_total (B := a + b) h ((xs.zip ys).map fun p => p.1 * p.2) 0 1 (some (.lst (((xs.zip ys).map fun p => p.1 * p.2).map encQ))) none ⟨by decide, by decide⟩ (fun q hq => by
    obtain ⟨p, hp, rfl⟩ := List.mem_map.mp hq
    exact (mem p hp).1.mul (mem p hp).2) (by
    have : ((xs.zip ys).map fun p => p.1 * p.2).length ≤ xs.length := by rw [List.length_map, List.length_zip]; omega
    have := Nat.mul_le_mul_right (a + b + 1) (Nat.succ_le_succ this)
    simp only [Nat.succ_eq_add_one] at this
    omega)
  have et : den_total [.lst (((xs.zip ys).map fun p => p.1 * p.2).map encQ)] h = .ok (encQ (dotQ xs ys)) h := by
    refine bodyD_ret ?_
    unfold body_total
    rw [seq_n (σ1 := [some (.lst (((xs.zip ys).map fun p => p.1 * p.2).map encQ)), some (encQ 0), none]) (h1 := h) (by simp only [startD]; rw [enc_zero]; simp [-List.map_map])]
    rw [seq_n (σ1 := [some (.lst (((xs.zip ys).map fun p => p.1 * p.2).map encQ)), some (encQ (dotQ xs ys)), y2]) (h1 := h) (by rw [e_forS (e_seqI_l _ _ _ _ _ rfl)]; exact e2)]
    rfl
  refine bodyD_ret ?_
  simp only [body_product_sum, startD]
  simp [hc, et, -List.map_map]
def mkQ (xs : List Int) (n : Nat) (qs : List Rat) : List Rat := (tabL xs n).map fun l => dotQ (cqs l) qs
theorem v_made {xs : List Int} {n : Nat} {qs : List Rat} {B : Nat} (n1 : 1 ≤ n) (n5 : n ≤ 5) (hl : xs.length = 2 * n - 1) (hb : ∀ x ∈ xs, -50 ≤ x ∧ x ≤ 50) (qq : ∀ q ∈ qs, Qs B q) (hB : B ≤ 600) (h : Hd) :
    den_made [.tup (xs.map D.int), .tup (qs.map encQ)] h = .ok (.tup ((mkQ xs n qs).map encQ)) h := by
  have et := v_tabled n1 n5 hl h
  have inner : ∀ (l : List Int) (x3 : Option D), lcD (seqI (vr 2)) (setT 3) (yesB) (tupD (aCons (vr 3) (aCons (cst (.int 1)) (aNil)))) [3] [some (.tup (xs.map D.int)), some (.tup (qs.map encQ)), some (.lst (l.map D.int)), x3] h = .ok (.lst ((cqs l).map encQ)) h := fun l x3 => by
    refine e_lcD (h1 := h) (src := ⟨l.map D.int, []⟩) (by simp [seqI, srcOf]) ?_
    unfold cqs
    rw [List.map_map]
    exact lc_mapL (acc := []) fun i hi => ⟨_, rfl, rfl, by
      show _ = Out.ok (encQ (i : Rat)) h
      rw [enc_int]
      simp [wipeD]⟩
  have outer : lcD (seqI (callD den_tabled 1 (aCons (vr 0) (aNil)))) (setT 2) (yesB) (callD den_product_sum 2 (aCons (lcD (seqI (vr 2)) (setT 3) (yesB) (tupD (aCons (vr 3) (aCons (cst (.int 1)) (aNil)))) [3]) (aCons (vr 1) (aNil)))) [2] [some (.tup (xs.map D.int)), some (.tup (qs.map encQ)), none, none] h = .ok (.lst ((mkQ xs n qs).map encQ)) h := by
    refine e_lcD (h1 := h) (src := ⟨(tabL xs n).map fun r => D.lst (r.map D.int), []⟩) (by
      unfold seqI
      simp [et, encT, srcOf]) ?_
    unfold mkQ
    rw [List.map_map]
    refine lc_mapL (k := fun l : List Int => encQ (dotQ (cqs l) qs)) (acc := []) fun l hl' => ⟨_, rfl, rfl, ?_⟩
    obtain ⟨i, _, rfl⟩ := List.mem_map.mp hl'
    have e1 := inner (lineOf xs n i) none
    have e2 := v_psumL (cq_qs (line_mem (n := n) (i := i) hb)) qq (by
      have : (cqs (lineOf xs n i)).length = n := by simp [cqs, lineOf]
      rw [this]
      have := Nat.mul_le_mul (show n + 1 ≤ 6 by omega) (show 6 + B + 1 ≤ 607 by omega)
      omega) h
    generalize lineOf xs n i = l at e1 e2
    simp [wipeD, e1, e2]
  refine bodyD_ret ?_
  unfold body_made
  simp only [startD]
  rw [e_retS, e_callP, e_aCons]
  rw [show ([D.tup (xs.map D.int), D.tup (qs.map encQ)].map some ++ List.replicate (4 - [D.tup (xs.map D.int), D.tup (qs.map encQ)].length) none : Sd) = [some (.tup (xs.map D.int)), some (.tup (qs.map encQ)), none, none] from rfl, outer]
  simp
theorem cs_ok {xs : List Int} (hs : Sl xs) (h : Hd) : den_check_slants [.tup (xs.map D.int)] h = .ok .non h := by
  have e1 := v_checkS (plx_ints xs) h
  rw [slG_ints hs, if_pos rfl] at e1
  exact e1
theorem v_tableof {xs : List Int} {n : Nat} (hs : Sl xs) (n1 : 1 ≤ n) (n5 : n ≤ 5) (hl : xs.length = 2 * n - 1) (h : Hd) : den_table_of [.tup (xs.map D.int)] h = .ok (encT (tabL xs n)) h := by
  have e1 := cs_ok hs h
  have e2 := v_tabled n1 n5 hl h
  exact bodyD_ret (by simp [body_table_of, startD, e1, e2])
theorem Sl_rev {xs : List Int} (hs : Sl xs) : Sl xs.reverse := by
  obtain ⟨⟨n, a, b, c⟩, d⟩ := hs
  exact ⟨⟨n, a, b, by simpa using c⟩, fun x hx => d x (List.mem_reverse.mp hx)⟩
theorem v_turned {xs : List Int} (hs : Sl xs) (h : Hd) : den_turned_slants [.tup (xs.map D.int)] h = .ok (.tup (xs.reverse.map D.int)) h := by
  have e1 := cs_ok hs h
  exact bodyD_ret (by simp [body_turned_slants, startD, e1])
theorem v_mirrored {xs : List Int} (hs : Sl xs) (h : Hd) : den_mirrored_slants [.tup (xs.map D.int)] h = .ok (.tup (xs.reverse.map D.int)) h := by
  have e1 := cs_ok hs h
  exact bodyD_ret (by simp [body_mirrored_slants, startD, e1])
def slT (t : List (List Int)) : List Int := t.reverse.map (fun r => r.getD 0 0) ++ (t.getD 0 []).tail
theorem Sl_cases {P : List Int → Nat → Prop} (h1 : ∀ a, P [a] 1) (h3 : ∀ a b c, P [a, b, c] 2) (h5 : ∀ a b c d e, P [a, b, c, d, e] 3) (h7 : ∀ a b c d e f g, P [a, b, c, d, e, f, g] 4) (h9 : ∀ a b c d e f g i j, P [a, b, c, d, e, f, g, i, j] 5) :
    ∀ (xs : List Int) (n : Nat), 1 ≤ n → n ≤ 5 → xs.length = 2 * n - 1 → P xs n := fun xs n n1 n5 hl => by
  have hn : n = 1 ∨ n = 2 ∨ n = 3 ∨ n = 4 ∨ n = 5 := by omega
  rcases hn with rfl | rfl | rfl | rfl | rfl
  · match xs, hl with
    | [a], _ => exact h1 a
  · match xs, hl with
    | [a, b, c], _ => exact h3 a b c
  · match xs, hl with
    | [a, b, c, d, e], _ => exact h5 a b c d e
  · match xs, hl with
    | [a, b, c, d, e, f, g], _ => exact h7 a b c d e f g
  · match xs, hl with
    | [a, b, c, d, e, f, g, i, j], _ => exact h9 a b c d e f g i j
theorem slT_tab : ∀ (xs : List Int) (n : Nat), 1 ≤ n → n ≤ 5 → xs.length = 2 * n - 1 → slT (tabL xs n) = xs :=
  Sl_cases (fun _ => rfl) (fun _ _ _ => rfl) (fun _ _ _ _ _ => rfl) (fun _ _ _ _ _ _ _ => rfl) (fun _ _ _ _ _ _ _ _ _ => rfl)
theorem tab_turned : ∀ (xs : List Int) (n : Nat), 1 ≤ n → n ≤ 5 → xs.length = 2 * n - 1 → tabL xs.reverse n = (List.range n).map fun p => (tabL xs n).map fun l => l.getD p 0 :=
  Sl_cases (fun _ => rfl) (fun _ _ _ => rfl) (fun _ _ _ _ _ => rfl) (fun _ _ _ _ _ _ _ => rfl) (fun _ _ _ _ _ _ _ _ _ => rfl)
theorem tab_mirrored : ∀ (xs : List Int) (n : Nat), 1 ≤ n → n ≤ 5 → xs.length = 2 * n - 1 → tabL xs.reverse n = ((tabL xs n).map List.reverse).reverse :=
  Sl_cases (fun _ => rfl) (fun _ _ _ => rfl) (fun _ _ _ _ _ => rfl) (fun _ _ _ _ _ _ _ => rfl) (fun _ _ _ _ _ _ _ _ _ => rfl)
theorem tab_len (xs : List Int) (n : Nat) : (tabL xs n).length = n := by simp [tabL]
theorem tab_rows {xs r : List Int} {n : Nat} (h : r ∈ tabL xs n) : r.length = n := by
  obtain ⟨i, _, rfl⟩ := List.mem_map.mp h
  simp [lineOf]
theorem tab_mem {xs r : List Int} {n : Nat} (hb : ∀ x ∈ xs, -50 ≤ x ∧ x ≤ 50) (h : r ∈ tabL xs n) : ∀ x ∈ r, -50 ≤ x ∧ x ≤ 50 := by
  obtain ⟨i, _, rfl⟩ := List.mem_map.mp h
  exact line_mem hb
theorem lc_fst {t : List (List Int)} {v : Nat} {σ0 : Sd} {fe : Den} {gt : DenT} {h : Hd} (hr : ∀ r ∈ t, 1 ≤ r.length) (hg : ∀ r : List Int, gt (.lst (r.map D.int)) σ0 h = .ok (σ0.set v (some (.lst (r.map D.int)))) h) (he : ∀ r : List Int, fe (σ0.set v (some (.lst (r.map D.int)))) h = lift (dIx (.lst (r.map D.int)) (.int 0) h)) :
    lcLoop gt yesB fe [] σ0 (t.map fun r => D.lst (r.map D.int)) [] h = .ok ((t.map fun r => r.getD 0 0).map D.int) h := by
  rw [List.map_map]
  refine lc_mapL (k := fun r : List Int => D.int (r.getD 0 0)) (acc := []) fun r hrt => ⟨_, hg r, rfl, ?_⟩
  rw [he]
  have lr := hr r hrt
  cases r with
  | nil => simp at lr
  | cons x r =>
    have ix : dIx (.lst ((x :: r).map D.int)) (.int 0) h = some (.int x, h) := p_ixl h 0 _ (at_nat (n := 0) rfl)
    rw [ix]
    rfl
theorem isi_list (xs : List D) (h : Hd) : isiD [.lst xs, .ty "list"] h = some (.bl true, h) := rfl
theorem v_slantsof {xs : List Int} {n : Nat} (hs : Sl xs) (n1 : 1 ≤ n) (n5 : n ≤ 5) (hl : xs.length = 2 * n - 1) (h : Hd) : den_slants_of [encT (tabL xs n)] h = .ok (.tup (xs.map D.int)) h := by
  have tl := tab_len xs n
  obtain ⟨L, hL⟩ : ∃ L, L = (tabL xs n).map fun r => D.lst (r.map D.int) := ⟨_, rfl⟩
  have lL : L.length = n := by rw [hL]; simpa using tl
  have mL : ∀ d ∈ L, ∃ r, d = .lst (r.map D.int) ∧ r ∈ tabL xs n := fun d hd => by
    rw [hL] at hd
    obtain ⟨r, hr, rfl⟩ := List.mem_map.mp hd
    exact ⟨r, rfl, hr⟩
  have eL : encT (tabL xs n) = .lst L := by rw [hL]; rfl
  have a1 : lcD (seqI (vr 0)) (setT 2) (yesB) (andV (callP isiD (aCons (vr 2) (aCons (cst (.ty "list")) (aNil)))) (bin2 dEq (callP lenD (aCons (vr 2) (aNil))) (callP lenD (aCons (vr 0) (aNil))))) [2] [some (.lst L), none, none, none] h = .ok (.lst (L.map fun _ => .bl true)) h := by
    refine e_lcD (h1 := h) (src := ⟨L, []⟩) (by simp [seqI, srcOf]) (lc_map fun d hd => ⟨_, rfl, rfl, ?_⟩)
    obtain ⟨r, rfl, hr⟩ := mL d hd
    have lr := tab_rows hr
    simp [wipeD, isi_list, lr, lL]
  have b1 := all_bls (fun _ => true) L h
  have b1' : L.all (fun _ => true) = true := by simp
  rw [b1'] at b1
  have c1 : lcD (seqI (un1 revP (vr 0))) (setT 2) yesB (bin2 dIx (vr 2) (cst (.int 0))) [2] [some (.lst L), none, none, none] h = .ok (.lst (((tabL xs n).reverse.map fun r => r.getD 0 0).map D.int)) h := by
    refine e_lcD (h1 := h) (src := ⟨L.reverse, []⟩) (by simp [seqI, srcOf]) ?_
    rw [hL, ← List.map_reverse]
    exact lc_fst (v := 2) (fun r hr => by have := tab_rows (List.mem_reverse.mp hr); omega) (fun r => rfl) (fun r => by simp [wipeD])
  obtain ⟨r0, hr0⟩ : ∃ r0, r0 = (tabL xs n).getD 0 [] := ⟨_, rfl⟩
  have i0 : ∀ hh, dIx (.lst L) (.int 0) hh = some (.lst (r0.map D.int), hh) := fun hh => by
    refine p_ixl hh 0 _ (at_nat (n := 0) ?_)
    rw [hL, List.getElem?_map, hr0, List.getD, List.getElem?_eq_getElem (by omega)]
    rfl
  have lr0 : r0.length = n := by
    rw [hr0, List.getD, List.getElem?_eq_getElem (by omega)]
    exact tab_rows (List.getElem_mem _)
  have c2 : cutD (r0.map D.int) (some 1) none = r0.tail.map D.int := by rw [show (1 : Int) = ((1 : Nat) : Int) from rfl, cut_from, ← List.map_drop, List.drop_one]
  have ea : ∀ hh, dAdd (.lst (((tabL xs n).reverse.map fun r => r.getD 0 0).map D.int)) (.lst (r0.tail.map D.int)) hh = some (.lst (xs.map D.int), hh) := fun hh => by
    show dAddW mkL _ _ _ = _
    rw [p_addl hh mkL _ _ (by simp [tl]; omega)]
    have := slT_tab xs n n1 n5 hl
    unfold slT at this
    rw [← hr0] at this
    rw [← List.map_append, this]
    rfl
  have g1 := v_pgood (plx_ints xs) h
  rw [slG_ints hs] at g1
  have inn : ∀ r ∈ tabL xs n, ∀ x3 : Option D, lcD (seqI (vr 2)) (setT 3) (yesB) (callD den_is_upto 3 (aCons (vr 3) (aCons (bin2 dSub (cst (.int 0)) (cst (.int 50))) (aCons (cst (.int 50)) (aNil))))) [3] [some (.lst L), some (.tup (xs.map D.int)), some (.lst (r.map D.int)), x3] h = .ok (.lst ((r.map D.int).map fun d => .bl (upI (-50) 50 d))) h := fun r hr x3 => by
    refine e_lcD (h1 := h) (src := ⟨r.map D.int, []⟩) (by simp [seqI, srcOf]) (lc_map fun d hd => ⟨_, rfl, rfl, ?_⟩)
    have e := v_upto (pl_map r d hd) (-50) 50 h
    simp [wipeD, e]
  have a2 : lcD (seqI (vr 0)) (setT 2) (yesB) (callP allD (aCons (lcD (seqI (vr 2)) (setT 3) (yesB) (callD den_is_upto 3 (aCons (vr 3) (aCons (bin2 dSub (cst (.int 0)) (cst (.int 50))) (aCons (cst (.int 50)) (aNil))))) [3]) (aNil))) [2] [some (.lst L), some (.tup (xs.map D.int)), none, none] h = .ok (.lst (L.map fun _ => .bl true)) h := by
    refine e_lcD (h1 := h) (src := ⟨L, []⟩) (by simp [seqI, srcOf]) (lc_map fun d hd => ⟨_, rfl, rfl, ?_⟩)
    obtain ⟨r, rfl, hr⟩ := mL d hd
    have e1 := inn r hr none
    have e2 := all_bls (upI (-50) 50) (r.map D.int) h
    rw [all_up (tab_mem hs.2 hr)] at e2
    generalize (r.map D.int).map (fun d => D.bl (upI (-50) 50 d)) = M at e1 e2
    simp [wipeD, e1, e2]
  have e3 := v_tabled n1 n5 hl h
  have ne : dNe (encT (tabL xs n)) (.lst L) h = some (.bl false, h) := by
    rw [← eL]
    have := p_eqT true (tabL xs n) (tabL xs n) h
    simp at this
    exact this
  have lL' : (L.length : Int) = (n : Int) := by omega
  rw [eL]
  refine bodyD_ret ?_
  unfold body_slants_of
  rw [seq_n (σ1 := [some (.lst L), none, none, none]) (h1 := h) (by
    have x1 : (1 : Int) ≤ (n : Int) := by omega
    have x2 : (n : Int) ≤ 5 := by omega
    simp only [startD]; simp [isi_list, lL, x1, x2])]
  rw [seq_n (σ1 := [some (.lst L), none, none, none]) (h1 := h) (by
    generalize L.map (fun _ => D.bl true) = M at a1 b1
    simp [a1, b1])]
  simp only [List.getD_eq_getElem?_getD] at c1 ea
  rw [seq_n (σ1 := [some (.lst L), some (.tup (xs.map D.int)), none, none]) (h1 := h) (by
    simp [c1, i0, c2, ea, -List.map_tail, -List.map_reverse, -List.map_append, -List.map_map])]
  rw [seq_n (σ1 := [some (.lst L), some (.tup (xs.map D.int)), none, none]) (h1 := h) (by
    generalize L.map (fun _ => D.bl true) = M at a2 b1
    simp [g1, a2, b1])]
  rw [seq_n (σ1 := [some (.lst L), some (.tup (xs.map D.int)), none, none]) (h1 := h) (by simp [e3, ne])]
  rfl
def cK (xs : List Int) (k : Nat) : List Int := (xs.take (xs.length - ((xs.length + 1) / 2 - k))).drop ((xs.length + 1) / 2 - k)
theorem cK_len {xs : List Int} {n k : Nat} (hl : xs.length = 2 * n - 1) (k1 : 1 ≤ k) (kn : k ≤ n) : (cK xs k).length = 2 * k - 1 := by
  unfold cK
  simp
  omega
theorem cK_all {xs : List Int} {n : Nat} (n1 : 1 ≤ n) (hl : xs.length = 2 * n - 1) : cK xs n = xs := by
  unfold cK
  rw [show (xs.length + 1) / 2 - n = 0 by omega]
  simp
theorem cK_def {ys : List Int} {k j : Nat} (hl : ys.length = 2 * k - 1) (k1 : 1 ≤ k) : cK ys j = (ys.take (2 * k - 1 - (k - j))).drop (k - j) := by
  unfold cK
  rw [hl, show (2 * k - 1 + 1) / 2 = k by omega]
theorem cK_cK {xs : List Int} {n k j : Nat} (hl : xs.length = 2 * n - 1) (k1 : 1 ≤ k) (kn : k ≤ n) (j1 : 1 ≤ j) (jk : j ≤ k) : cK (cK xs k) j = cK xs j := by
  rw [cK_def (cK_len hl k1 kn) k1, cK_def (j := k) hl (by omega), cK_def (j := j) hl (by omega)]
  simp only [List.drop_take, List.take_take, List.drop_drop]
  rw [show n - k + (k - j) = n - j by omega]
  congr 1
  omega
theorem cK_Sl {xs : List Int} {n k : Nat} (hs : Sl xs) (n5 : n ≤ 5) (hl : xs.length = 2 * n - 1) (k1 : 1 ≤ k) (kn : k ≤ n) : Sl (cK xs k) :=
  ⟨⟨k, k1, by omega, cK_len hl k1 kn⟩, fun x hx => hs.2 x (List.mem_of_mem_take (List.mem_of_mem_drop hx))⟩
theorem v_corner {xs : List Int} {n k : Nat} (hs : Sl xs) (n1 : 1 ≤ n) (n5 : n ≤ 5) (hl : xs.length = 2 * n - 1) (k1 : 1 ≤ k) (kn : k ≤ n) (h : Hd) : den_corner [.tup (xs.map D.int), .int (k : Int)] h = .ok (.tup ((cK xs k).map D.int)) h := by
  have e1 := cs_ok hs h
  have e2 := v_sizeof (xs.map D.int) h
  rw [List.length_map, hl, show (2 * n - 1 + 1) / 2 = n by omega] at e2
  have e3 := v_upto (d := .int (k : Int)) trivial 1 (n : Int) h
  have u : upI 1 (n : Int) (.int (k : Int)) = true := by
    have x1 : (1 : Int) ≤ (k : Int) := by omega
    have x2 : (k : Int) ≤ (n : Int) := by omega
    simp [upI, x1, x2]
  rw [u] at e3
  have hk : cutD (xs.map D.int) (some ((n : Int) - (k : Int))) (some ((xs.length : Int) - ((n : Int) - (k : Int)))) = (cK xs k).map D.int := by
    rw [show (n : Int) - (k : Int) = ((n - k : Nat) : Int) by omega, show (xs.length : Int) - ((n - k : Nat) : Int) = ((xs.length - (n - k) : Nat) : Int) by omega, cut_mid]
    unfold cK
    rw [show (xs.length + 1) / 2 = n by omega, List.map_drop, List.map_take]
  have e4 : den_cornered [.tup (xs.map D.int), .int (k : Int)] h = .ok (.tup ((cK xs k).map D.int)) h := by
    refine bodyD_ret ?_
    simp only [body_cornered, startD]
    simp [e2, hk]
  refine bodyD_ret ?_
  simp only [body_corner, startD]
  simp [e1, e2, e3, e4]
theorem v_timesrow {xs : List Int} {n : Nat} {qs : List Rat} {B : Nat} (hs : Sl xs) (n1 : 1 ≤ n) (n5 : n ≤ 5) (hl : xs.length = 2 * n - 1) (lq : qs.length = n) (qq : ∀ q ∈ qs, Qs B q) (hB : B ≤ 600) (h : Hd) : den_times_row [.tup (xs.map D.int), .tup (qs.map encQ)] h = .ok (.tup ((mkQ xs n qs).map encQ)) h := by
  have e1 := cs_ok hs h
  have e2 := v_isrow (plr_enc qq (by omega)) (xs.map D.int) h
  rw [List.length_map, hl, show (2 * n - 1 + 1) / 2 = qs.length by omega, rowG_enc] at e2
  have e3 : den_check_row [.tup (xs.map D.int), .tup (qs.map encQ)] h = .ok .non h := bodyD_next (σ := [some (.tup (xs.map D.int)), some (.tup (qs.map encQ))]) (by simp [body_check_row, startD, e2])
  have e4 := v_made n1 n5 hl hs.2 qq hB h
  exact bodyD_ret (by simp [body_times_row, startD, e1, e3, e4])
theorem v_rowgood {xs : List Int} {n : Nat} {qs : List Rat} {B : Nat} (hs : Sl xs) (n1 : 1 ≤ n) (hl : xs.length = 2 * n - 1) (lq : qs.length = n) (qq : ∀ q ∈ qs, Qs B q) (hB : B ≤ 600) (h : Hd) : den_row_good [.tup (xs.map D.int), .tup (qs.map encQ)] h = .ok (.bl true) h := by
  have e1 := cs_ok hs h
  have e2 := v_isrow (plr_enc qq (by omega)) (xs.map D.int) h
  rw [List.length_map, hl, show (2 * n - 1 + 1) / 2 = qs.length by omega, rowG_enc] at e2
  exact bodyD_ret (by simp [body_row_good, startD, e1, e2])
theorem mk_len (xs : List Int) (n : Nat) (qs : List Rat) : (mkQ xs n qs).length = n := by simp [mkQ, tabL]
theorem mk_qs {xs : List Int} {n B : Nat} {qs : List Rat} (n5 : n ≤ 5) (hb : ∀ x ∈ xs, -50 ≤ x ∧ x ≤ 50) (qq : ∀ q ∈ qs, Qs B q) : ∀ q ∈ mkQ xs n qs, Qs (1 + 5 * (6 + B + 1)) q := fun q hq => by
  obtain ⟨l, hl, rfl⟩ := List.mem_map.mp hq
  obtain ⟨i, _, rfl⟩ := List.mem_map.mp hl
  refine (dot_qs (cq_qs (line_mem (n := n) (i := i) hb)) qq).mono ?_
  have : (cqs (lineOf xs n i)).length ≤ 5 := by simp [cqs, lineOf]; omega
  have := Nat.mul_le_mul_right (6 + B + 1) this
  omega
def zadd (xs ys : List Rat) : List Rat := (xs.zip ys).map fun p => p.1 + p.2
theorem zadd_len {xs ys : List Rat} (h : xs.length = ys.length) : (zadd xs ys).length = xs.length := by simp [zadd]; omega
theorem zadd_qs {xs ys : List Rat} {a b : Nat} (hx : ∀ q ∈ xs, Qs a q) (hy : ∀ q ∈ ys, Qs b q) : ∀ q ∈ zadd xs ys, Qs (a + b + 1) q := fun q hq => by
  obtain ⟨p, hp, rfl⟩ := List.mem_map.mp hq
  exact (hx _ (List.of_mem_zip hp).1).add (hy _ (List.of_mem_zip hp).2)
def unitR (n p : Nat) : List Rat := (List.range n).map fun j => if j = p then 1 else 0
def colR (xs : List Int) (n p : Nat) : List Rat := (tabL xs n).map fun l => ((l.getD p 0 : Int) : Rat)
theorem q_cases {P : List Rat → Nat → Prop} (h1 : ∀ a, P [a] 1) (h2 : ∀ a b, P [a, b] 2) (h3 : ∀ a b c, P [a, b, c] 3) (h4 : ∀ a b c d, P [a, b, c, d] 4) (h5 : ∀ a b c d e, P [a, b, c, d, e] 5) :
    ∀ (xs : List Rat) (n : Nat), 1 ≤ n → n ≤ 5 → xs.length = n → P xs n := fun xs n n1 n5 hl => by
  have hn : n = 1 ∨ n = 2 ∨ n = 3 ∨ n = 4 ∨ n = 5 := by omega
  rcases hn with rfl | rfl | rfl | rfl | rfl
  · match xs, hl with
    | [a], _ => exact h1 a
  · match xs, hl with
    | [a, b], _ => exact h2 a b
  · match xs, hl with
    | [a, b, c], _ => exact h3 a b c
  · match xs, hl with
    | [a, b, c, d], _ => exact h4 a b c d
  · match xs, hl with
    | [a, b, c, d, e], _ => exact h5 a b c d e
theorem dot_unit : ∀ (l : List Rat) (n : Nat), 1 ≤ n → n ≤ 5 → l.length = n → ∀ p, p < n → dotQ l (unitR n p) = l.getD p 0 :=
  q_cases (P := fun l n => ∀ p, p < n → dotQ l (unitR n p) = l.getD p 0)
    (fun a p hp => by
      obtain rfl : p = 0 := by omega
      simp [dotQ, unitR, List.range_succ, Rat.add_zero, Rat.zero_add])
    (fun a b p hp => by
      have : p = 0 ∨ p = 1 := by omega
      rcases this with rfl | rfl <;> simp [dotQ, unitR, List.range_succ, Rat.add_zero, Rat.zero_add])
    (fun a b c p hp => by
      have : p = 0 ∨ p = 1 ∨ p = 2 := by omega
      rcases this with rfl | rfl | rfl <;> simp [dotQ, unitR, List.range_succ, Rat.add_zero, Rat.zero_add])
    (fun a b c d p hp => by
      have : p = 0 ∨ p = 1 ∨ p = 2 ∨ p = 3 := by omega
      rcases this with rfl | rfl | rfl | rfl <;> simp [dotQ, unitR, List.range_succ, Rat.add_zero, Rat.zero_add])
    (fun a b c d e p hp => by
      have : p = 0 ∨ p = 1 ∨ p = 2 ∨ p = 3 ∨ p = 4 := by omega
      rcases this with rfl | rfl | rfl | rfl | rfl <;> simp [dotQ, unitR, List.range_succ, Rat.add_zero, Rat.zero_add])
theorem mk_unit {xs : List Int} {n p : Nat} (n1 : 1 ≤ n) (n5 : n ≤ 5) (hp : p < n) : mkQ xs n (unitR n p) = colR xs n p := by
  unfold mkQ colR
  refine List.map_congr_left fun l hl => ?_
  have ll := tab_rows hl
  have := dot_unit (cqs l) n n1 n5 (by simpa [cqs] using ll) p hp
  rw [this]
  unfold cqs
  rw [List.getD, List.getElem?_map, List.getD]
  rw [List.getElem?_eq_getElem (by omega)]
  rfl
theorem dot_zadd : ∀ (l : List Rat) (n : Nat), 1 ≤ n → n ≤ 5 → l.length = n → ∀ ys zs : List Rat, ys.length = n → zs.length = n → dotQ l (zadd ys zs) = dotQ l ys + dotQ l zs :=
  q_cases (P := fun l n => ∀ ys zs : List Rat, ys.length = n → zs.length = n → dotQ l (zadd ys zs) = dotQ l ys + dotQ l zs)
    (fun a ys zs hy hz => match ys, hy, zs, hz with
      | [y], _, [z], _ => by
        simp [dotQ, zadd]
        grind)
    (fun a b ys zs hy hz => match ys, hy, zs, hz with
      | [y, y1], _, [z, z1], _ => by
        simp [dotQ, zadd]
        grind)
    (fun a b c ys zs hy hz => match ys, hy, zs, hz with
      | [y, y1, y2], _, [z, z1, z2], _ => by
        simp [dotQ, zadd]
        grind)
    (fun a b c d ys zs hy hz => match ys, hy, zs, hz with
      | [y, y1, y2, y3], _, [z, z1, z2, z3], _ => by
        simp [dotQ, zadd]
        grind)
    (fun a b c d e ys zs hy hz => match ys, hy, zs, hz with
      | [y, y1, y2, y3, y4], _, [z, z1, z2, z3, z4], _ => by
        simp [dotQ, zadd]
        grind)
theorem mk_zadd {xs : List Int} {n : Nat} {qs rs : List Rat} (n1 : 1 ≤ n) (n5 : n ≤ 5) (lq : qs.length = n) (lr : rs.length = n) : mkQ xs n (zadd qs rs) = zadd (mkQ xs n qs) (mkQ xs n rs) := by
  unfold mkQ
  have : ∀ t : List (List Int), (∀ l ∈ t, l.length = n) → t.map (fun l => dotQ (cqs l) (zadd qs rs)) = zadd (t.map fun l => dotQ (cqs l) qs) (t.map fun l => dotQ (cqs l) rs) := fun t ht => by
    induction t with
    | nil => rfl
    | cons l t ih =>
      rw [List.map_cons, ih fun x hx => ht x (List.mem_cons_of_mem _ hx), dot_zadd (cqs l) n n1 n5 (by simpa [cqs] using ht l List.mem_cons_self) qs rs lq lr]
      rfl
  exact this _ fun l hl => tab_rows hl
theorem sym_id : ∀ (xs : List Int) (n : Nat), 1 ≤ n → n ≤ 5 → xs.length = 2 * n - 1 → ∀ qs rs : List Rat, qs.length = n → rs.length = n → dotQ rs (mkQ xs n qs) = dotQ qs (mkQ xs.reverse n rs) :=
  Sl_cases (P := fun xs n => ∀ qs rs : List Rat, qs.length = n → rs.length = n → dotQ rs (mkQ xs n qs) = dotQ qs (mkQ xs.reverse n rs))
    (fun a qs rs hq hr => match qs, hq, rs, hr with
      | [y0], _, [z0], _ => by
        simp [dotQ, mkQ, tabL, lineOf, cqs, List.range_succ]
        grind)
    (fun a b c qs rs hq hr => match qs, hq, rs, hr with
      | [y0, y1], _, [z0, z1], _ => by
        simp [dotQ, mkQ, tabL, lineOf, cqs, List.range_succ]
        grind)
    (fun a b c d e qs rs hq hr => match qs, hq, rs, hr with
      | [y0, y1, y2], _, [z0, z1, z2], _ => by
        simp [dotQ, mkQ, tabL, lineOf, cqs, List.range_succ]
        grind)
    (fun a b c d e f g qs rs hq hr => match qs, hq, rs, hr with
      | [y0, y1, y2, y3], _, [z0, z1, z2, z3], _ => by
        simp [dotQ, mkQ, tabL, lineOf, cqs, List.range_succ]
        grind)
    (fun a b c d e f g i j qs rs hq hr => match qs, hq, rs, hr with
      | [y0, y1, y2, y3, y4], _, [z0, z1, z2, z3, z4], _ => by
        simp [dotQ, mkQ, tabL, lineOf, cqs, List.range_succ]
        grind)
end
end Dz.PL

namespace Dz.PL
open PySem PySem.Spec PyProof.Rows L2 Dz
section
variable {q r : Rat} {a b : Nat}
mutual
def PlA (B : Nat) : D → Prop
  | .non => True
  | .bl _ => True
  | .str _ => True
  | .int i => i.natAbs < 2 ^ B
  | .tup ds => PlAL B ds
  | .lst _ => True
  | .dct => True
  | _ => False
def PlAL (B : Nat) : List D → Prop
  | [] => True
  | d :: ds => PlA B d ∧ PlAL B ds
end
theorem plal {B : Nat} : ∀ {ds : List D}, (∀ d ∈ ds, PlA B d) → PlAL B ds
  | [], _ => trivial
  | d :: ds, h => ⟨h d List.mem_cons_self, plal fun x hx => h x (List.mem_cons_of_mem _ hx)⟩
theorem plal_mem {B : Nat} : ∀ {ds : List D}, PlAL B ds → ∀ d ∈ ds, PlA B d
  | [], _, d, hd => by cases hd
  | x :: ds, h, d, hd => by
    rcases List.mem_cons.mp hd with rfl | hd
    · exact h.1
    · exact plal_mem h.2 d hd
theorem pla_tup {B : Nat} {ds : List D} (h : ∀ d ∈ ds, PlA B d) : PlA B (.tup ds) := plal h
theorem pla_mem {B : Nat} {ds : List D} (h : PlA B (.tup ds)) : ∀ d ∈ ds, PlA B d := plal_mem h
theorem pla_pl {B : Nat} {d : D} (h : PlA B d) : PlD d := by cases d <;> first | trivial | exact h.elim
theorem pla_x {B : Nat} {d : D} (h : PlA B d) : PlX d := ⟨pla_pl h, fun xs e x hx => by subst e; exact pla_pl (pla_mem h x hx)⟩
theorem pla_enc {B : Nat} {q : Rat} (h : Qs B q) : PlA B (encQ q) := pla_tup fun d hd => by
  simp at hd
  rcases hd with rfl | rfl
  · exact h.1
  · show ((q.den : Int)).natAbs < 2 ^ B
    rw [Int.natAbs_natCast]; exact h.2
theorem sh_enc {B : Nat} {d : D} (h : PlA B d) (g : shG d = true) : ∃ q, d = encQ q ∧ Qs B q := by
  cases ht : isT d with
  | false => cases d <;> first | cases g | cases ht
  | true =>
    obtain ⟨xs, rfl⟩ := isT_ok ht
    by_cases hl : xs.length = 2
    · match xs, hl, h, g with
      | [x, y], _, h, g =>
        cases hix : isI x with
        | false => rw [shG_x hix] at g; cases g
        | true =>
          cases hiy : isI y with
          | false => rw [shG_y hiy] at g; cases g
          | true =>
            obtain ⟨a, rfl⟩ := isI_ok hix
            obtain ⟨b, rfl⟩ := isI_ok hiy
            have ha : a.natAbs < 2 ^ B := pla_mem h (.int a) (by simp)
            have hb : b.natAbs < 2 ^ B := pla_mem h (.int b) (by simp)
            simp [shG] at g
            obtain ⟨g1, g2⟩ := g
            have e := (dv_eq (a := a) g1).mpr g2
            refine ⟨Rat.divInt a b, ?_, ?_, ?_⟩
            · unfold encQ
              rw [e.1, e.2]
            · rw [e.1]; exact ha
            · have := e.2; omega
    · rw [shG_len hl] at g; cases g
theorem row_enc {B : Nat} : ∀ {ds : List D}, (∀ d ∈ ds, PlA B d) → ds.all shG = true → ∃ qs : List Rat, ds = qs.map encQ ∧ ∀ q ∈ qs, Qs B q
  | [], _, _ => ⟨[], rfl, fun q hq => absurd hq (by simp)⟩
  | d :: ds, h, g => by
    rw [List.all_cons, Bool.and_eq_true] at g
    obtain ⟨q, rfl, hq⟩ := sh_enc (h d List.mem_cons_self) g.1
    obtain ⟨qs, rfl, hqs⟩ := row_enc (fun x hx => h x (List.mem_cons_of_mem _ hx)) g.2
    exact ⟨q :: qs, rfl, fun x hx => (List.mem_cons.mp hx).elim (fun e => e ▸ hq) (hqs x)⟩
def rowL : D → Bool
  | .tup xs => (decide (1 ≤ xs.length) && decide (xs.length ≤ 5)) && xs.all shG
  | _ => false
def tabLk (n : Nat) : D → Bool
  | .tup xs => decide (xs.length = n) && xs.all (rowG n)
  | _ => false
def tabG : D → Bool
  | .tup xs => (decide (1 ≤ xs.length) && decide (xs.length ≤ 5)) && xs.all (rowG xs.length)
  | _ => false
def encR (r : List Rat) : D := .tup (r.map encQ)
def encMt (Q : List (List Rat)) : D := .tup (Q.map encR)
theorem rows_enc {B n : Nat} : ∀ {ds : List D}, (∀ d ∈ ds, PlA B d) → ds.all (rowG n) = true → ∃ Q : List (List Rat), ds = Q.map encR ∧ ∀ r ∈ Q, r.length = n ∧ ∀ q ∈ r, Qs B q
  | [], _, _ => ⟨[], rfl, fun q hq => absurd hq (by simp)⟩
  | d :: ds, h, g => by
    rw [List.all_cons, Bool.and_eq_true] at g
    have hd := h d List.mem_cons_self
    obtain ⟨Q, rfl, hQ⟩ := rows_enc (fun x hx => h x (List.mem_cons_of_mem _ hx)) g.2
    cases ht : isT d with
    | false => have := g.1; cases d <;> first | cases this | cases ht
    | true =>
      obtain ⟨xs, rfl⟩ := isT_ok ht
      have g1 := g.1
      simp only [rowG, Bool.and_eq_true, decide_eq_true_eq] at g1
      obtain ⟨qs, rfl, hqs⟩ := row_enc (pla_mem hd) g1.2
      exact ⟨qs :: Q, rfl, fun x hx => (List.mem_cons.mp hx).elim (fun e => by subst e; exact ⟨by simpa using g1.1, hqs⟩) (hQ x)⟩
theorem tab_enc {B : Nat} {d : D} (h : PlA B d) (g : tabG d = true) : ∃ Q : List (List Rat), d = encMt Q ∧ 1 ≤ Q.length ∧ Q.length ≤ 5 ∧ ∀ r ∈ Q, r.length = Q.length ∧ ∀ q ∈ r, Qs B q := by
  cases ht : isT d with
  | false => cases d <;> first | cases g | cases ht
  | true =>
    obtain ⟨xs, rfl⟩ := isT_ok ht
    simp only [tabG, Bool.and_eq_true, decide_eq_true_eq] at g
    obtain ⟨Q, e, hQ⟩ := rows_enc (pla_mem h) g.2
    have l : xs.length = Q.length := by rw [e]; simp
    rw [l] at hQ
    exact ⟨Q, by rw [e]; rfl, by omega, by omega, hQ⟩
theorem v_rlike {d : D} {B : Nat} (p : PlA B d) (h : Hd) : den_row_like [d] h = .ok (.bl (rowL d)) h := by
  refine bodyD_ret ?_
  simp only [body_row_like, startD]
  cases ht : isT d with
  | false =>
    have e := isi_tuple (pla_pl p) (h := h)
    rw [ht] at e
    have : rowL d = false := by cases d <;> first | rfl | cases ht
    rw [this]
    simp [e]
  | true =>
    obtain ⟨xs, rfl⟩ := isT_ok ht
    have hc : lcD (seqI (vr 0)) (setT 1) yesB (callD den_share_good 1 (aCons (vr 1) aNil)) [1] [some (.tup xs), none] h = .ok (.lst (xs.map fun d => .bl (shG d))) h := by
      refine e_lcD (src := ⟨xs, []⟩) (by simp [seqI, srcOf]) (lc_map fun d hd => ⟨_, rfl, rfl, ?_⟩)
      have e := v_sgood (pla_x (pla_mem p d hd)) h
      simp [wipeD, e]
    have ha := all_bls shG xs h
    by_cases h1 : 1 ≤ xs.length
    · have h1' : (1 : Int) ≤ (xs.length : Int) := by omega
      by_cases h5 : xs.length ≤ 5
      · have h5' : (xs.length : Int) ≤ 5 := by omega
        simp [isi_tuple', h1', h5', h1, h5, hc, ha, rowL]
      · have h5' : ¬ (xs.length : Int) ≤ 5 := by omega
        simp [isi_tuple', h1', h5', h1, h5, rowL]
    · have h1' : ¬ (1 : Int) ≤ (xs.length : Int) := by omega
      simp [isi_tuple', h1', h1, rowL]
theorem v_tgood {d : D} {B : Nat} (p : PlA B d) (h : Hd) : den_table_good [d] h = .ok (.bl (tabG d)) h := by
  refine bodyD_ret ?_
  unfold body_table_good
  cases ht : isT d with
  | false =>
    have e := isi_tuple (pla_pl p) (h := h)
    rw [ht] at e
    have : tabG d = false := by cases d <;> first | rfl | cases ht
    rw [this]
    simp only [startD]
    simp [e]
  | true =>
    obtain ⟨xs, rfl⟩ := isT_ok ht
    simp only [startD]
    by_cases h1 : 1 ≤ xs.length
    · have h1' : (1 : Int) ≤ (xs.length : Int) := by omega
      by_cases h5 : xs.length ≤ 5
      · have h5' : (xs.length : Int) ≤ 5 := by omega
        have hc : lcD (seqI (vr 0)) (setT 1) yesB (andV (callD den_row_like 1 (aCons (vr 1) (aNil))) (bin2 dEq (callP lenD (aCons (vr 1) (aNil))) (callP lenD (aCons (vr 0) (aNil))))) [1] [some (.tup xs), none] h = .ok (.lst (xs.map fun d => .bl (rowG xs.length d))) h := by
          refine e_lcD (src := ⟨xs, []⟩) (by simp [seqI, srcOf]) (lc_map fun d hd => ⟨_, rfl, rfl, ?_⟩)
          have pd := pla_mem p d hd
          have e := v_rlike pd h
          cases hr : rowL d with
          | false =>
            rw [hr] at e
            have : rowG xs.length d = false := by
              cases hg : rowG xs.length d with
              | false => rfl
              | true =>
                cases ht : isT d with
                | false => cases d <;> first | cases hg | cases ht
                | true =>
                  obtain ⟨ys, rfl⟩ := isT_ok ht
                  simp only [rowG, Bool.and_eq_true, decide_eq_true_eq] at hg
                  have : rowL (.tup ys) = true := by
                    simp only [rowL, Bool.and_eq_true, decide_eq_true_eq]
                    exact ⟨by omega, hg.2⟩
                  rw [this] at hr
                  cases hr
            rw [this]
            simp [wipeD, e]
          | true =>
            rw [hr] at e
            cases ht : isT d with
            | false => cases d <;> first | cases hr | cases ht
            | true =>
              obtain ⟨ys, rfl⟩ := isT_ok ht
              simp only [rowL, Bool.and_eq_true, decide_eq_true_eq] at hr
              by_cases hl : ys.length = xs.length
              · have hr2 := hr.2
                simp [wipeD, e, hl, rowG]
                simpa using hr2
              · have hl' : ¬ (ys.length : Int) = (xs.length : Int) := by omega
                simp [wipeD, e, hl, hl', rowG]
        have ha := all_bls (rowG xs.length) xs h
        simp [isi_tuple', h1', h5', h1, h5, hc, ha, tabG]
      · have h5' : ¬ (xs.length : Int) ≤ 5 := by omega
        simp [isi_tuple', h1', h5', h1, h5, tabG]
    · have h1' : ¬ (1 : Int) ≤ (xs.length : Int) := by omega
      simp [isi_tuple', h1', h1, tabG]
theorem v_psumT {xs ys : List Rat} {a b : Nat} (hx : ∀ q ∈ xs, Qs a q) (hy : ∀ q ∈ ys, Qs b q) (hl : 1 + (xs.length + 1) * (a + b + 1) ≤ 8000) (h : Hd) : den_product_sum [encR xs, .lst (ys.map encQ)] h = .ok (encQ (dotQ xs ys)) h := v_psum hx hy hl h
theorem dot_top (t b : Int) (l r : Rat) (hb : b ≠ 0) : Rat.divInt (t * (l.den : Int) * (r.den : Int) + l.num * r.num * b) (b * (l.den : Int) * (r.den : Int)) = Rat.divInt t b + l * r := by
  have hd : (l.den : Int) * (r.den : Int) ≠ 0 := dd_ne l r
  rw [← mul_top l r, Rat.divInt_add_divInt _ _ hb hd]
  congr 1
  · rw [Int.mul_assoc]
  · rw [Int.mul_assoc]
def colQ (M : List (List Rat)) (j : Nat) : List Rat := M.map fun l => l.getD j 0
def mulM (A M : List (List Rat)) : List (List Rat) := A.map fun r => (List.range M.length).map fun j => dotQ r (colQ M j)
theorem ixr {r : List Rat} {j : Nat} (hj : j < r.length) (hh : Hd) : dIx (encR r) (.int (j : Int)) hh = some (encQ (r.getD j 0), hh) := ixq hj hh
theorem colQ_qs {M : List (List Rat)} {B j : Nat} (hB : 1 ≤ B) (hM : ∀ r ∈ M, ∀ q ∈ r, Qs B q) : ∀ q ∈ colQ M j, Qs B q := fun q hq => by
  obtain ⟨r, hr, rfl⟩ := List.mem_map.mp hq
  exact getD_q hB (hM r hr) j
def SqM (B : Nat) (A : List (List Rat)) : Prop := 1 ≤ A.length ∧ A.length ≤ 5 ∧ ∀ r ∈ A, r.length = A.length ∧ ∀ q ∈ r, Qs B q
theorem v_timesby {A M : List (List Rat)} {B : Nat} (hA : SqM B A) (hM : SqM B M) (hl : A.length = M.length) (h1 : 1 ≤ B) (hB : B ≤ 300) (h : Hd) : den_times_by [encMt A, encMt M] h = .ok (encMt (mulM A M)) h := by
  obtain ⟨a1, a5, ha⟩ := hA
  obtain ⟨m1, m5, hm⟩ := hM
  have c1 : lcD (rng1 (aCons (callP lenD (aCons (vr 1) (aNil))) (aNil))) (setT 3) (yesB) (lcD (seqI (vr 1)) (setT 4) (yesB) (bin2 dIx (vr 4) (vr 3)) [4]) [3] [some (encMt A), some (encMt M), none, none, none, none] h = .ok (.lst ((List.range M.length).map fun j => .lst ((colQ M j).map encQ))) h := by
    refine e_lcD (h1 := h) (e_rng1 (h1 := h) (j := (M.length : Int)) (by simp [encMt]) (by omega) (by omega)) ?_
    rw [Int.toNat_natCast]
    refine lc_range fun j hj => ⟨_, rfl, rfl, ?_⟩
    refine e_lcD (h1 := h) (src := ⟨M.map encR, []⟩) (by simp [seqI, srcOf, encMt, wipeD]) ?_
    unfold colQ
    rw [List.map_map]
    refine lc_mapL (k := fun l : List Rat => encQ (l.getD j 0)) (acc := []) fun l hl' => ⟨_, rfl, rfl, ?_⟩
    have ix := ixr (r := l) (j := j) (by rw [(hm l hl').1]; exact hj) h
    generalize l.getD j 0 = z at ix
    simp [wipeD, ix]
  obtain ⟨cols, hcols⟩ : ∃ cols, cols = (List.range M.length).map fun j => D.lst ((colQ M j).map encQ) := ⟨_, rfl⟩
  rw [← hcols] at c1
  have c2 : ∀ r ∈ A, ∀ x3 x5 : Option D, lcD (seqI (vr 2)) (setT 5) (yesB) (callD den_product_sum 2 (aCons (vr 4) (aCons (vr 5) (aNil)))) [5] [some (encMt A), some (encMt M), some (.lst cols), x3, some (encR r), x5] h = .ok (.lst (((List.range M.length).map fun j => dotQ r (colQ M j)).map encQ)) h := fun r hr x3 x5 => by
    refine e_lcD (h1 := h) (src := ⟨cols, []⟩) (by simp [seqI, srcOf]) ?_
    rw [hcols, List.map_map]
    refine lc_mapL (k := fun j : Nat => encQ (dotQ r (colQ M j))) (acc := []) fun j hj => ⟨_, rfl, rfl, ?_⟩
    have e := v_psumT (ha r hr).2 (colQ_qs (j := j) h1 fun r hr => (hm r hr).2) (by
      have := Nat.mul_le_mul (show r.length + 1 ≤ 6 by rw [(ha r hr).1]; omega) (show B + B + 1 ≤ 601 by omega)
      omega) h
    simp [wipeD, e]
  have c3 : lcD (seqI (vr 0)) (setT 4) (yesB) (callP tupleD (aCons (lcD (seqI (vr 2)) (setT 5) (yesB) (callD den_product_sum 2 (aCons (vr 4) (aCons (vr 5) (aNil)))) [5]) (aNil))) [4] [some (encMt A), some (encMt M), some (.lst cols), none, none, none] h = .ok (.lst ((mulM A M).map encR)) h := by
    refine e_lcD (h1 := h) (src := ⟨A.map encR, []⟩) (by simp [seqI, srcOf, encMt]) ?_
    unfold mulM
    rw [List.map_map]
    refine lc_mapL (k := fun r : List Rat => encR ((List.range M.length).map fun j => dotQ r (colQ M j))) (acc := []) fun r hr => ⟨_, rfl, rfl, ?_⟩
    have e := c2 r hr none none
    unfold encR
    generalize ((List.range M.length).map fun j => dotQ r (colQ M j)).map encQ = L at e
    unfold encR at e
    simp [wipeD, e]
  refine bodyD_ret ?_
  unfold body_times_by
  rw [seq_n (σ1 := [some (encMt A), some (encMt M), some (.lst cols), none, none, none]) (h1 := h) (by
    rw [show startD 6 [encMt A, encMt M] = [some (encMt A), some (encMt M), none, none, none, none] from rfl]
    simp [c1])]
  generalize hL : (mulM A M).map encR = L at c3
  simp [c3]
  rw [← hL]
  rfl
theorem mulM_sq {A M : List (List Rat)} {B : Nat} (hA : SqM B A) (hM : SqM B M) (hl : A.length = M.length) (h1 : 1 ≤ B) (hB : B ≤ 300) : SqM (1 + 5 * (B + B + 1)) (mulM A M) := by
  obtain ⟨a1, a5, ha⟩ := hA
  obtain ⟨m1, m5, hm⟩ := hM
  refine ⟨by simpa [mulM] using a1, by simpa [mulM] using a5, fun r hr => ?_⟩
  obtain ⟨r0, hr0, rfl⟩ := List.mem_map.mp hr
  refine ⟨by simp [mulM, hl], fun q hq => ?_⟩
  obtain ⟨j, _, rfl⟩ := List.mem_map.mp hq
  refine (dot_qs (ha r0 hr0).2 (colQ_qs (j := j) h1 fun r hr => (hm r hr).2)).mono ?_
  have := Nat.mul_le_mul_right (B + B + 1) (show r0.length ≤ 5 by rw [(ha r0 hr0).1]; omega)
  omega
def pyR (r : List Rat) : PyData := .tuple (r.map pyQ)
theorem eqv_r (r s : List Rat) : PyData.eqv (pyR r) (pyR s) = decide (r = s) := by
  unfold pyR
  rw [eqv_tupL, eqv_map eqv_q]
theorem py_encR (r : List Rat) (h : Hd) (n : Nat) : pyOf h (n + 3) (encR r) = some (pyR r) := by
  have : mapO (pyOf h (n + 2)) (r.map encQ) = some (r.map pyQ) := mapO_map fun c _ => rfl
  show (match mapO (pyOf h (n + 2)) (r.map encQ) with | some ps => some (PyData.tuple ps) | none => none) = _
  rw [this]
  rfl
theorem py_encMt (A : List (List Rat)) (h : Hd) : pyOf h 8 (encMt A) = some (.tuple (A.map pyR)) := by
  have : mapO (pyOf h 7) (A.map encR) = some (A.map pyR) := mapO_map fun c _ => py_encR c h 4
  show (match mapO (pyOf h 7) (A.map encR) with | some ps => some (PyData.tuple ps) | none => none) = _
  rw [this]
theorem p_eqM (neg : Bool) (A M : List (List Rat)) (h : Hd) : eqD neg (encMt A) (encMt M) h = some (.bl (xB neg (decide (A = M))), h) := by
  unfold eqD
  rw [py_encMt, py_encMt]
  dsimp only
  rw [eqv_tupL, eqv_map eqv_r]
  cases neg <;> rfl
theorem tabG_encMt {A : List (List Rat)} {B : Nat} (hA : SqM B A) : tabG (encMt A) = true := by
  obtain ⟨a1, a5, ha⟩ := hA
  simp only [encMt, tabG, List.length_map, Bool.and_eq_true, decide_eq_true_eq]
  refine ⟨⟨a1, a5⟩, ?_⟩
  rw [List.all_eq_true]
  intro x hx
  obtain ⟨r, hr, rfl⟩ := List.mem_map.mp hx
  rw [← (ha r hr).1]
  exact rowG_enc r
theorem tabLk_encMt {A : List (List Rat)} {B : Nat} (hA : SqM B A) : tabLk A.length (encMt A) = true := by
  obtain ⟨a1, a5, ha⟩ := hA
  simp only [encMt, tabLk, List.length_map, Bool.and_eq_true, decide_eq_true_eq]
  refine ⟨trivial, ?_⟩
  rw [List.all_eq_true]
  intro x hx
  obtain ⟨r, hr, rfl⟩ := List.mem_map.mp hx
  rw [← (ha r hr).1]
  exact rowG_enc r
theorem pla_encMt {A : List (List Rat)} {B : Nat} (hA : SqM B A) : PlA B (encMt A) := pla_tup fun x hx => by
  obtain ⟨r, hr, rfl⟩ := List.mem_map.mp hx
  exact pla_tup fun y hy => by
    obtain ⟨q, hq, rfl⟩ := List.mem_map.mp hy
    exact pla_enc ((hA.2.2 r hr).2 q hq)
/-- both are tables of shares of as many rows -/
def bothG (one other : D) : Bool := tabG one && (tabG other && (match one, other with | .tup xs, .tup ys => decide (xs.length = ys.length) | _, _ => false))
theorem tt_ok {A M : List (List Rat)} {B : Nat} (hA : SqM B A) (hM : SqM B M) (hl : A.length = M.length) (h1 : 1 ≤ B) (hB : B ≤ 300) (h : Hd) : den_times_table [encMt A, encMt M] h = .ok (encMt (mulM A M)) h := by
  have e1 := v_tgood (pla_encMt hA) h
  rw [tabG_encMt hA] at e1
  have e2 := v_tgood (pla_encMt hM) h
  rw [tabG_encMt hM] at e2
  have e3 := v_timesby hA hM hl h1 hB h
  have l1 : lenD [encMt A] h = some (.int (M.length : Int), h) := by rw [← hl]; simp [encMt]
  have l2 : lenD [encMt M] h = some (.int (M.length : Int), h) := by simp [encMt]
  refine bodyD_ret ?_
  simp only [body_times_table, startD]
  simp [e1, e2, e3, l1, l2]
theorem tt_exc {one other : D} {B : Nat} (p1 : PlA B one) (p2 : PlA B other) (hn : bothG one other = false) (h : Hd) : den_times_table [one, other] h = .exc ⟨"NoRow", none⟩ h := by
  have e1 := v_tgood p1 h
  have e2 := v_tgood p2 h
  refine bodyD_exc (σ := [some one, some other]) ?_
  simp only [body_times_table, startD]
  cases g1 : tabG one with
  | false => rw [g1] at e1; simp [e1]
  | true =>
    rw [g1] at e1
    cases g2 : tabG other with
    | false => rw [g2] at e2; simp [e1, e2]
    | true =>
      rw [g2] at e2
      obtain ⟨A, rfl, a1, a5, ha⟩ := tab_enc p1 g1
      obtain ⟨M, rfl, m1, m5, hm⟩ := tab_enc p2 g2
      have hl : A.length ≠ M.length := fun z => by
        have : bothG (encMt A) (encMt M) = true := by
          unfold bothG
          rw [g1, g2]
          simp [encMt, z]
        rw [this] at hn
        cases hn
      have hl' : ¬ (A.length : Int) = (M.length : Int) := by omega
      have l1 : lenD [encMt A] h = some (.int (A.length : Int), h) := by simp [encMt]
      have l2 : lenD [encMt M] h = some (.int (M.length : Int), h) := by simp [encMt]
      simp [e1, e2, l1, l2, hl']
theorem eq_row (h : Hd) : dEq (.tup [.str "row"]) (.tup [.str "row"]) h = some (.bl true, h) := rfl
theorem v_drawS {i : Nat} {H : Hd} {o : Ob} {m : Int} (p : PenAt i H) (h0 : 0 < m) (h1 : m < 1073741824) : ∃ r H', den__law_draw [.ref i, .int m] (H ++ [o]) = .ok (.int r) (H' ++ [o]) ∧ 0 ≤ r ∧ r < m ∧ PenStep i H H' := by
  obtain ⟨r, h', e, a, b, s⟩ := v_draw (penAt_snoc (o := o) p) h0 h1
  obtain ⟨H', rfl, s'⟩ := pen_snoc (pen_lt p) s
  exact ⟨r, H', e, a, b, s'⟩
theorem ix3 {a b c : Int} {r : Int} (h0 : 0 ≤ r) (h3 : r < 3) : ∃ m, (m = a ∨ m = b ∨ m = c) ∧ ∀ hh, dIx (.lst [.int a, .int b, .int c]) (.int r) hh = some (.int m, hh) := by
  have : r = 0 ∨ r = 1 ∨ r = 2 := by omega
  rcases this with rfl | rfl | rfl
  · exact ⟨a, .inl rfl, fun hh => p_ixl hh 0 _ (at_nat (n := 0) rfl)⟩
  · exact ⟨b, .inr (.inl rfl), fun hh => p_ixl hh 1 _ (at_nat (n := 1) rfl)⟩
  · exact ⟨c, .inr (.inr rfl), fun hh => p_ixl hh 2 _ (at_nat (n := 2) rfl)⟩
theorem ix5 {r : Int} (h0 : 0 ≤ r) (h5 : r < 5) : ∃ s : Int, (1 ≤ s ∧ s ≤ 50) ∧ ∀ hh, dIx (.lst [.int 1, .int 2, .int 3, .int 9, .int 50]) (.int r) hh = some (.int s, hh) := by
  have : r = 0 ∨ r = 1 ∨ r = 2 ∨ r = 3 ∨ r = 4 := by omega
  rcases this with rfl | rfl | rfl | rfl | rfl
  · exact ⟨1, by decide, fun hh => p_ixl hh 0 _ (at_nat (n := 0) rfl)⟩
  · exact ⟨2, by decide, fun hh => p_ixl hh 1 _ (at_nat (n := 1) rfl)⟩
  · exact ⟨3, by decide, fun hh => p_ixl hh 2 _ (at_nat (n := 2) rfl)⟩
  · exact ⟨9, by decide, fun hh => p_ixl hh 3 _ (at_nat (n := 3) rfl)⟩
  · exact ⟨50, by decide, fun hh => p_ixl hh 4 _ (at_nat (n := 4) rfl)⟩
theorem lc_invG {g : List (Nat × List D)} {gt : DenT} {ft : DenB} {fe : Den} {σ0 : Sd} {I : Hd → Prop} {Q : D → Prop} (hg : ∀ h, I h → guardOk g h) : ∀ {items acc : List D} {h : Hd}, I h → (∀ d ∈ items, ∀ h, I h → ∃ σ1 y h', gt d σ0 h = .ok σ1 h ∧ ft σ1 h = .ok true h ∧ fe σ1 h = .ok y h' ∧ I h' ∧ Q y) →
    ∃ ys h', lcLoop gt ft fe g σ0 items acc h = .ok (acc ++ ys) h' ∧ ys.length = items.length ∧ (∀ y ∈ ys, Q y) ∧ I h'
  | [], acc, h, hI, _ => ⟨[], h, by
    unfold lcLoop
    rw [if_pos (hg h hI)]
    simp, rfl, fun y hy => absurd hy (by simp), hI⟩
  | d :: ds, acc, h, hI, hf => by
    obtain ⟨σ1, y, h1, e1, e2, e3, hI1, hQ⟩ := hf d List.mem_cons_self h hI
    obtain ⟨ys, h', e4, l4, q4, hI'⟩ := lc_invG hg (acc := acc ++ [y]) hI1 fun x hx => hf x (List.mem_cons_of_mem _ hx)
    refine ⟨y :: ys, h', ?_, by simp [l4], fun x hx => (List.mem_cons.mp hx).elim (fun e => e ▸ hQ) (q4 x), hI'⟩
    unfold lcLoop
    rw [if_pos (hg h hI), e1]
    simp only [nox_ok, bind_ok, e2, e3, if_true]
    rw [e4, List.append_assoc]
    rfl
end
end Dz.PL

namespace Dz.PL
open PySem PySem.Spec PyProof.Rows L2 Dz
/-! ## things: what may be looked at and shown -/
def prnB (k : Bool) (n N : Nat) (d : D) : Bool := match pyK k d with
  | some p => p.showable && (decide (p.depth ≤ n) && decide (p.shown.length ≤ N))
  | none => false
theorem prn_of {k : Bool} {n N : Nat} {d : D} (h : prnB k n N d = true) : Prn k n N d := by
  unfold prnB at h
  cases e : pyK k d with
  | none => rw [e] at h; cases h
  | some p =>
    rw [e] at h
    simp only [Bool.and_eq_true, decide_eq_true_eq] at h
    exact ⟨p, e, h.1, h.2.1, h.2.2⟩
mutual
def plaB (B : Nat) : D → Bool
  | .non => true
  | .bl _ => true
  | .str _ => true
  | .int i => decide (i.natAbs < 2 ^ B)
  | .tup ds => plaBL B ds
  | .lst _ => true
  | .dct => true
  | _ => false
def plaBL (B : Nat) : List D → Bool
  | [] => true
  | d :: ds => plaB B d && plaBL B ds
end
mutual
theorem pla_of {B : Nat} : ∀ (d : D), plaB B d = true → PlA B d
  | .non, _ => trivial
  | .bl _, _ => trivial
  | .str _, _ => trivial
  | .int i, h => by unfold plaB at h; show i.natAbs < 2 ^ B; exact of_decide_eq_true h
  | .tup ds, h => by unfold plaB at h; exact plal_of ds h
  | .lst _, _ => trivial
  | .dct, _ => trivial
  | .scr ds, h => by unfold plaB at h; cases h
  | .ref i, h => by unfold plaB at h; cases h
  | .gl n, h => by unfold plaB at h; cases h
  | .ty t, h => by unfold plaB at h; cases h
  | .ex a, h => by unfold plaB at h; cases h
theorem plal_of {B : Nat} : ∀ (ds : List D), plaBL B ds = true → PlAL B ds
  | [], _ => trivial
  | d :: ds, h => by
    unfold plaBL at h
    rw [Bool.and_eq_true] at h
    exact ⟨pla_of d h.1, plal_of ds h.2⟩
end
def Fine (B n N : Nat) (d : D) : Prop := PlA B d ∧ ∃ k, Prn k n N d
def Clean (B n N : Nat) (d : D) : Prop := PlA B d ∧ ∀ k, Prn k n N d
def fineB (B n N : Nat) (d : D) : Bool := plaB B d && (prnB true n N d || prnB false n N d)
def cleanB (B n N : Nat) (d : D) : Bool := plaB B d && (prnB true n N d && prnB false n N d)
theorem fine_of {B n N : Nat} {d : D} (h : fineB B n N d = true) : Fine B n N d := by
  unfold fineB at h
  rw [Bool.and_eq_true, Bool.or_eq_true] at h
  exact ⟨pla_of d h.1, h.2.elim (fun e => ⟨true, prn_of e⟩) fun e => ⟨false, prn_of e⟩⟩
theorem clean_of {B n N : Nat} {d : D} (h : cleanB B n N d = true) : Clean B n N d := by
  unfold cleanB at h
  rw [Bool.and_eq_true, Bool.and_eq_true] at h
  exact ⟨pla_of d h.1, fun k => by cases k; exact prn_of h.2.2; exact prn_of h.2.1⟩
theorem Clean.fine {B n N : Nat} {d : D} (h : Clean B n N d) : Fine B n N d := ⟨h.1, true, h.2 true⟩
mutual
theorem pla_mono {B C : Nat} (hc : B ≤ C) : ∀ (d : D), PlA B d → PlA C d
  | .non, _ => trivial
  | .bl _, _ => trivial
  | .str _, _ => trivial
  | .int i, h => Nat.lt_of_lt_of_le h (Nat.pow_le_pow_right (by decide) hc)
  | .tup ds, h => plal_mono hc ds h
  | .lst _, _ => trivial
  | .dct, _ => trivial
  | .scr ds, h => h
  | .ref i, h => h
  | .gl n, h => h
  | .ty t, h => h
  | .ex a, h => h
theorem plal_mono {B C : Nat} (hc : B ≤ C) : ∀ (ds : List D), PlAL B ds → PlAL C ds
  | [], _ => trivial
  | d :: ds, h => ⟨pla_mono hc d h.1, plal_mono hc ds h.2⟩
end
theorem Fine.mono {B C n m N M : Nat} {d : D} (h : Fine B n N d) (hb : B ≤ C) (hn : n ≤ m) (hN : N ≤ M) : Fine C m M d := ⟨pla_mono hb d h.1, let ⟨k, p⟩ := h.2; ⟨k, p.mono hn hN⟩⟩
theorem Clean.mono {B C n m N M : Nat} {d : D} (h : Clean B n N d) (hb : B ≤ C) (hn : n ≤ m) (hN : N ≤ M) : Clean C m M d := ⟨pla_mono hb d h.1, fun k => (h.2 k).mono hn hN⟩
theorem up_len {l m N : Nat} (h : l ≤ m) : 3 + l * (N + 2) ≤ 3 + m * (N + 2) := Nat.add_le_add_left (Nat.mul_le_mul_right _ h) 3
theorem clean_tup {B n N m : Nat} {xs : List D} (h : ∀ x ∈ xs, Clean B n N x) (hl : xs.length ≤ m) : Clean B (n + 1) (3 + m * (N + 2)) (.tup xs) :=
  ⟨pla_tup fun x hx => (h x hx).1, fun k => (prn_tup fun x hx => (h x hx).2 k).mono (Nat.le_refl _) (up_len hl)⟩
theorem fine_tup {B n N m : Nat} {k : Bool} {xs : List D} (h : ∀ x ∈ xs, PlA B x ∧ Prn k n N x) (hl : xs.length ≤ m) : Fine B (n + 1) (3 + m * (N + 2)) (.tup xs) :=
  ⟨pla_tup fun x hx => (h x hx).1, k, (prn_tup fun x hx => (h x hx).2).mono (Nat.le_refl _) (up_len hl)⟩
theorem fine_one {B n N m : Nat} {xs ys : List D} {o : D} (ho : Fine B n N o) (hx : ∀ x ∈ xs, Clean B n N x) (hy : ∀ x ∈ ys, Clean B n N x) (hl : xs.length + ys.length + 1 ≤ m) : Fine B (n + 1) (3 + m * (N + 2)) (.tup (xs ++ (o :: ys))) := by
  obtain ⟨k, hk⟩ := ho.2
  refine fine_tup (k := k) (fun x h => ?_) (by simp; omega)
  rcases List.mem_append.mp h with h | h
  · exact ⟨(hx x h).1, (hx x h).2 k⟩
  · rcases List.mem_cons.mp h with rfl | h
    · exact ⟨ho.1, hk⟩
    · exact ⟨(hy x h).1, (hy x h).2 k⟩
theorem fine_lst {B n N m : Nat} {xs : List D} (h : ∀ x ∈ xs, Clean B n N x) (hl : xs.length ≤ m) : Fine B (n + 1) (3 + m * (N + 2)) (.lst xs) :=
  ⟨trivial, false, (prn_lst fun x hx => (h x hx).2 false).mono (Nat.le_refl _) (up_len hl)⟩
theorem clean_int {B n : Nat} {i : Int} (h : i.natAbs < 2 ^ B) (hB : B ≤ 1919) : Clean B n 1921 (.int i) := ⟨h, fun k => prn_int (lg_lt h hB)⟩
theorem clean_enc {B n : Nat} {q : Rat} (h : Qs B q) (hB : B ≤ 1919) : Clean B (n + 1) 3849 (encQ q) := by
  have := clean_tup (n := n) (m := 2) (xs := [.int q.num, .int (q.den : Int)]) (B := B) (fun x hx => by
    simp at hx
    rcases hx with rfl | rfl
    · exact clean_int h.1 hB
    · exact clean_int (by rw [Int.natAbs_natCast]; exact h.2) hB) (by simp)
  exact this
theorem clean_ints {B n : Nat} {xs : List Int} (h : ∀ x ∈ xs, x.natAbs < 2 ^ B) (hB : B ≤ 1919) : ∀ d ∈ xs.map D.int, Clean B n 1921 d := fun d hd => by
  obtain ⟨x, hx, rfl⟩ := List.mem_map.mp hd
  exact clean_int (h x hx) hB
theorem clean_row {B n : Nat} {qs : List Rat} (h : ∀ q ∈ qs, Qs B q) (hB : B ≤ 1919) : ∀ d ∈ qs.map encQ, Clean B (n + 1) 3849 d := fun d hd => by
  obtain ⟨x, hx, rfl⟩ := List.mem_map.mp hd
  exact clean_enc (h x hx) hB
/-! ## lists: at a place, cut -/
def pick (xs : List D) (r : Nat) : D := xs.getD r .non
theorem ixmN {xs : List D} {r : Nat} (h1 : r < xs.length) (hh : Hd) : dIx (.lst xs) (.int (r : Int)) hh = some (pick xs r, hh) := by
  have := ixm (xs := xs) (r := (r : Int)) (by omega) (by omega) hh
  simpa [pick] using this
theorem ixtN {xs : List D} {r : Nat} (h1 : r < xs.length) (hh : Hd) : dIx (.tup xs) (.int (r : Int)) hh = some (pick xs r, hh) := by
  refine p_ixt hh _ _ (at_nat (n := r) ?_)
  rw [List.getElem?_eq_getElem h1]
  simp [pick, List.getD, List.getElem?_eq_getElem h1]
theorem pick_all {P : D → Prop} {xs : List D} {r : Nat} (h : r < xs.length) (hp : ∀ x ∈ xs, P x) : P (pick xs r) := by
  unfold pick
  rw [List.getD, List.getElem?_eq_getElem h]
  exact hp _ (List.getElem_mem h)
theorem pick_map {α : Type} {f : α → D} {xs : List α} {r : Nat} (h : r < xs.length) (d : α) : pick (xs.map f) r = f (xs.getD r d) := by
  unfold pick
  rw [List.getD, List.getElem?_map, List.getElem?_eq_getElem h, List.getD, List.getElem?_eq_getElem h]
  rfl
theorem cut_from1 (xs : List D) (n : Nat) : cutD xs (some ((n : Int) + 1)) none = xs.drop (n + 1) := by
  rw [show (n : Int) + 1 = ((n + 1 : Nat) : Int) by omega, cut_from]
theorem cut_to1 (xs : List D) (n : Nat) : cutD xs none (some ((n : Int) + 1)) = xs.take (n + 1) := by
  rw [show (n : Int) + 1 = ((n + 1 : Nat) : Int) by omega, cut_to]
theorem cut_f1 (xs : List D) : cutD xs (some 1) none = xs.drop 1 := cut_from xs 1
theorem cut_t1 (xs : List D) : cutD xs none (some 1) = xs.take 1 := cut_to xs 1
/-- draws as naturals -/
theorem v_drawN {i : Nat} {h : Hd} {M : Int} (p : PenAt i h) (m : Nat) (h0 : 0 < m) (h1 : m < 1073741824) (hM : M = (m : Int) := by first | rfl | omega) : ∃ (r : Nat) (h' : Hd), den__law_draw [.ref i, .int M] h = .ok (.int (r : Int)) h' ∧ r < m ∧ PenStep i h h' := by
  subst hM
  obtain ⟨r, h', e, a, b, s⟩ := v_draw p (m := (m : Int)) (by omega) (by omega)
  refine ⟨r.toNat, h', ?_, by omega, s⟩
  rw [e, Int.toNat_of_nonneg a]
theorem v_drawSN {i : Nat} {h : Hd} {o : Ob} {M : Int} (p : PenAt i h) (m : Nat) (h0 : 0 < m) (h1 : m < 1073741824) (hM : M = (m : Int) := by first | rfl | omega) : ∃ (r : Nat) (h' : Hd), den__law_draw [.ref i, .int M] (h ++ [o]) = .ok (.int (r : Int)) (h' ++ [o]) ∧ r < m ∧ PenStep i h h' := by
  subst hM
  obtain ⟨r, h', e, a, b, s⟩ := v_drawS (o := o) p (m := (m : Int)) (by omega) (by omega)
  refine ⟨r.toNat, h', ?_, by omega, s⟩
  rw [e, Int.toNat_of_nonneg a]
/-- lengths of what is put together out of a short list -/
theorem zb {l : Nat} (h : l ≤ 100000) : (∀ n, min n l + 1 ≤ 16777216) ∧ (∀ n m, min n l + 1 + (l - m) ≤ 16777216) ∧ (∀ n m, min n l + (l - m + 1) ≤ 16777216) ∧ l + 1 ≤ 16777216 ∧ 1 + l ≤ 16777216 ∧ l ≤ 16777216 ∧ l + 2 ≤ 16777216 ∧ l + l ≤ 16777216 ∧ (∀ n, min n l ≤ 16777216) ∧ (∀ n, l + min n l ≤ 16777216) ∧ (∀ n m, min n l + min m l ≤ 16777216) := by
  refine ⟨?_, ?_, ?_, ?_, ?_, ?_, ?_, ?_, ?_, ?_, ?_⟩ <;> intros <;> omega
theorem dAddL : dAdd = dAddW mkL := rfl
theorem half_len {m n : Nat} (n1 : 1 ≤ n) (h : m = 2 * n - 1) : ((m : Int) + 1).fdiv 2 = (n : Int) := by
  rw [Int.fdiv_eq_ediv_of_nonneg _ (by decide)]
  omega
theorem div2 : divOk (2 : Int) := by decide
/-! ## the loop over the cells -/
theorem pen_at0 (xs : List D) (h : Hd) (hx : PenV xs) : PenAt h.length (h ++ [.lst xs]) := ⟨xs, snoc_at _ _, hx⟩
theorem pen_flat {xs : List D} {h : Hd} (hf : FlatH h) (hx : PenV xs) : FlatH (h ++ [.lst xs]) := flat_app hf hx.flat
/-- a law's loop over the first cell and some more -/
theorem cells_loop {n v k : Nat} {fb lp : DenS} {ns : List Int} {σ : Sd} {h : Hd} (hlen : σ.length = n) (h0 : σ[0]? = some (some (.scr (ns.map D.int)))) (hf : FlatH h) (hk : k ≤ 100)
    (hlp : lp = forS (seqI (bin2 dAdd (lstD (aCons (callD den__law_cell_at 2 (aCons (vr 0) (aCons (cst (.int 0)) aNil))) aNil)) (slD mkL (vr 0) (oSome (cst (.int 1))) (oSome (cst (.int (k : Int))))))) (setT v) fb)
    (hb : ∀ (c : Int) (σ : Sd) (h : Hd), σ.length = n → σ[0]? = some (some (.scr (ns.map D.int))) → FlatH h → ∃ σ' h', fb (σ.set v (some (.int c))) h = .next σ' h' ∧ σ'.length = n ∧ σ'[0]? = some (some (.scr (ns.map D.int))) ∧ FlatH h') :
    ∃ σ' h', lp σ h = .next σ' h' ∧ σ'.length = n ∧ σ'[0]? = some (some (.scr (ns.map D.int))) ∧ FlatH h' := by
  obtain ⟨c, ec⟩ := v_cell ns h
  have k1 : cutD (ns.map D.int) (some 1) (some (k : Int)) = ((ns.take k).drop 1).map D.int := by
    rw [show (1 : Int) = ((1 : Nat) : Int) from rfl, cut_mid, List.map_drop, List.map_take]
  have lm : ((ns.take k).drop 1).length ≤ 100 := by simp; omega
  generalize (ns.take k).drop 1 = ms at k1 lm
  have ad : ∀ hh, dAdd (.lst [.int c]) (.lst (ms.map D.int)) hh = some (.lst ((c :: ms).map D.int), hh) := fun hh => p_addl hh mkL _ _ (by simp; omega)
  have ev := e_vr (σ := σ) (i := 0) (h := h) h0
  obtain ⟨σ', h', e, g⟩ := for_inv (gt := setT v) (fb := fb) (I := fun σ h => σ.length = n ∧ σ[0]? = some (some (.scr (ns.map D.int))) ∧ FlatH h) (items := (c :: ms).map D.int) (σ := σ) (h := h) ⟨hlen, h0, hf⟩ fun d hd σ h ⟨a1, a2, a3⟩ => by
    obtain ⟨z, _, rfl⟩ := List.mem_map.mp hd
    obtain ⟨σ2, h2, e2, g2⟩ := hb z σ h a1 a2 a3
    exact ⟨_, _, σ2, h2, rfl, e2, g2⟩
  refine ⟨σ', h', ?_, g⟩
  rw [hlp, e_forS (src := ⟨(c :: ms).map D.int, []⟩) (h1 := h)]
  · exact e
  · simp [x_seqI, ev, ec, k1, ad, kSeq_lst, -List.map_cons]
theorem clean_sh {B n : Nat} (a b : Int) (ha : a.natAbs < 2 ^ B) (hb : b.natAbs < 2 ^ B) (hB : B ≤ 1919) : Clean B (n + 1) 3849 (.tup [.int a, .int b]) :=
  clean_tup (m := 2) (n := n) (xs := [.int a, .int b]) (fun x hx => by
    simp at hx
    rcases hx with rfl | rfl
    · exact clean_int ha hB
    · exact clean_int hb hB) (by simp)
theorem clean_1 {B n N : Nat} {x : D} (h : Clean B n N x) : Clean B (n + 1) (N + 5) (.tup [x]) := by
  have := clean_tup (m := 1) (xs := [x]) (fun y hy => by simp at hy; subst hy; exact h) (by simp)
  exact this.mono (Nat.le_refl _) (Nat.le_refl _) (by omega)
theorem clean_rep {B n N k : Nat} {x : D} (h : Clean B n N x) : Clean B (n + 1) (3 + k * (N + 2)) (.tup (List.replicate k x)) :=
  clean_tup (fun y hy => by rw [List.eq_of_mem_replicate hy]; exact h) (by simp)
end Dz.PL

namespace Dz.PL
open PySem PySem.Spec PyProof.Rows L2 Dz
noncomputable def body_less : DenS := retS (callD Dz.PL.den_share 2 (aCons (bin2 dSub (bin2 dMul (bin2 dIx (vr 0) (cst (.int 0))) (bin2 dIx (vr 1) (cst (.int 1)))) (bin2 dMul (bin2 dIx (vr 1) (cst (.int 0))) (bin2 dIx (vr 0) (cst (.int 1))))) (aCons (bin2 dMul (bin2 dIx (vr 0) (cst (.int 1))) (bin2 dIx (vr 1) (cst (.int 1)))) (aNil))))
noncomputable def den_less : FDen := bodyD 2 body_less
noncomputable def body_by : DenS := retS (callD Dz.PL.den_share 2 (aCons (bin2 dMul (bin2 dIx (vr 0) (cst (.int 0))) (bin2 dIx (vr 1) (cst (.int 1)))) (aCons (bin2 dMul (bin2 dIx (vr 0) (cst (.int 1))) (bin2 dIx (vr 1) (cst (.int 0)))) (aNil))))
noncomputable def den_by : FDen := bodyD 2 body_by
section
variable {q r : Rat} {a b : Nat}
theorem v_less (hq : Qs a q) (hr : Qs b r) (hab : a + b ≤ 8000) (h : Hd) : den_less [encQ q, encQ r] h = .ok (encQ (q - r)) h := by
  have e := v_share (t := q.num * (r.den : Int) - r.num * (q.den : Int)) (dd_ne q r) (p4000 (bot_mul hq hr) (by omega)) h
  rw [sub_top] at e
  have m1 : mulOk q.num (r.den : Int) := mulOk_pow hq.1 (by simpa using hr.2) (by omega)
  have m2 : mulOk r.num (q.den : Int) := mulOk_pow hr.1 (by simpa using hq.2) (by omega)
  have m3 : mulOk (q.den : Int) (r.den : Int) := mulOk_pow (by simpa using hq.2) (by simpa using hr.2) (by omega)
  refine bodyD_ret ?_
  simp only [body_less, startD]
  simp [i_top, i_bot, p_muli, m1, m2, m3, e]
theorem dn_ne (h0 : r ≠ 0) : (q.den : Int) * r.num ≠ 0 := Int.mul_ne_zero (by have := den_pos q; omega) (num_ne h0)
theorem v_by (hq : Qs a q) (hr : Qs b r) (h0 : r ≠ 0) (hab : a + b ≤ 8000) (h : Hd) : den_by [encQ q, encQ r] h = .ok (encQ (q / r)) h := by
  have hz : ((q.den : Int) * r.num).natAbs < 2 ^ (a + b) := by rw [Int.natAbs_mul, Int.natAbs_natCast]; exact pow_add2 hq.2 hr.1
  have e := v_share (t := q.num * (r.den : Int)) (dn_ne (q := q) h0) (p4000 hz (by omega)) h
  rw [div_top] at e
  have m1 : mulOk q.num (r.den : Int) := mulOk_pow hq.1 (by simpa using hr.2) (by omega)
  have m3 : mulOk (q.den : Int) r.num := mulOk_pow (by simpa using hq.2) hr.1 (by omega)
  refine bodyD_ret ?_
  simp only [body_by, startD]
  simp [i_top, i_bot, p_muli, m1, m3, e]
end
end Dz.PL

namespace Dz
open PySem PySem.Spec PyProof.Rows L2 Dz 
theorem fold_addQ (L : List Rat) (a : Rat) : L.foldl (· + ·) a = a + L.foldl (· + ·) 0 := by
  induction L generalizing a with
  | nil => simp only [List.foldl_nil]; grind
  | cons x L ih => rw [List.foldl_cons, List.foldl_cons, ih, ih (0 + x)]; grind
theorem for_nilG {g : List (Nat × List D)} {gt : DenT} {fb : DenS} {σ : Sd} {h : Hd} (hg : guardOk g h) : forLoop gt fb g [] σ h = .next σ h := by unfold forLoop; rw [if_pos hg]
theorem for_consG {g : List (Nat × List D)} {gt : DenT} {fb : DenS} {d : D} {ds : List D} {σ σ1 σ2 : Sd} {h h1 h2 : Hd} (hg : guardOk g h) (e1 : gt d σ h = .ok σ1 h1) (e2 : fb σ1 h1 = .next σ2 h2) : forLoop gt fb g (d :: ds) σ h = forLoop gt fb g ds σ2 h2 := by
  rw [forLoop, if_pos hg, e1]
  show (match fb σ1 h1 with | .next σ2 h2 => forLoop gt fb g ds σ2 h2 | .cont σ2 h2 => forLoop gt fb g ds σ2 h2 | .brk σ2 h2 => SOut.next σ2 h2 | o => o) = _
  rw [e2]
theorem lc_mapG {α : Type} {gd : List (Nat × List D)} {gt : DenT} {ft : DenB} {fe : Den} {σ0 : Sd} {h : Hd} {g k : α → D} (hg : guardOk gd h) : ∀ {l : List α} {acc : List D}, (∀ c ∈ l, ∃ σ1, gt (g c) σ0 h = .ok σ1 h ∧ ft σ1 h = .ok true h ∧ fe σ1 h = .ok (k c) h) → lcLoop gt ft fe gd σ0 (l.map g) acc h = .ok (acc ++ l.map k) h
  | [], acc, _ => by
    unfold lcLoop
    simp only [List.map_nil]
    rw [if_pos hg]
    simp
  | d :: ds, acc, hd => by
    obtain ⟨σ1, e1, e2, e3⟩ := hd d List.mem_cons_self
    rw [List.map_cons]
    unfold lcLoop
    rw [if_pos hg, e1]
    simp only [nox_ok, bind_ok, e2, if_true, e3]
    rw [lc_mapG hg fun x hx => hd x (List.mem_cons_of_mem _ hx)]
    simp
theorem lcD_seqG {α : Type} {fi : DenI} {fe : Den} {v : Nat} {vs : List Nat} {σ : Sd} {h : Hd} {l : List α} {g k : α → D} {gd : List (Nat × List D)} (e : fi σ h = .ok ⟨l.map g, gd⟩ h) (hg : guardOk gd h) (hf : ∀ a ∈ l, fe ((wipeD σ vs).set v (some (g a))) h = .ok (k a) h) :
    lcD fi (setT v) yesB fe vs σ h = .ok (.lst (l.map k)) h :=
  e_lcD e (by
    have := lc_mapG (gd := gd) (gt := setT v) (ft := yesB) (fe := fe) (σ0 := wipeD σ vs) (h := h) (g := g) (k := k) hg (l := l) (acc := []) fun a ha => ⟨_, rfl, rfl, hf a ha⟩
    simpa using this)
theorem kSeq_ref {i : Nat} {h : Hd} {ds : List D} (e : h[i]? = some (.lst ds)) : kSeq (.ref i) h = .ok ⟨ds, [(i, ds)]⟩ h := by
  unfold kSeq srcOf
  dsimp only
  rw [e]
theorem guard_one {i : Nat} {h : Hd} {ds : List D} (e : h[i]? = some (.lst ds)) : guardOk [(i, ds)] h := fun p hp => by
  simp at hp
  subst hp
  exact e
end Dz

namespace Dz.PL
open PySem PySem.Spec PyProof.Rows L2 Dz 
theorem v_totalG {B : Nat} {gd : List (Nat × List D)} (h : Hd) (hg : guardOk gd h) : ∀ (qs : List Rat) (acc : Rat) (A : Nat) (x0 x2 : Option D), Qs A acc → (∀ q ∈ qs, Qs B q) → A + (qs.length + 1) * (B + 1) ≤ 8000 →
    ∃ y2, forLoop (setT 2) (setS 1 (callD den_add 2 (aCons (vr 1) (aCons (vr 2) aNil)))) gd (qs.map encQ) [x0, some (encQ acc), x2] h = .next [x0, some (encQ (qs.foldl (· + ·) acc)), y2] h
  | [], acc, A, x0, x2, _, _, _ => ⟨x2, for_nilG hg⟩
  | q :: qs, acc, A, x0, x2, ha, hq, hl => by
    rw [List.length_cons, Nat.succ_mul] at hl
    have e := v_add ha (hq q List.mem_cons_self) (by rw [Nat.succ_mul] at hl; omega) h
    obtain ⟨y2, e2⟩ := v_totalG h hg qs (acc + q) (A + B + 1) x0 (some (encQ q)) (ha.add (hq q List.mem_cons_self)) (fun r hr => hq r (List.mem_cons_of_mem _ hr)) (by omega)
    refine ⟨y2, ?_⟩
    rw [List.map_cons, for_consG (σ1 := [x0, some (encQ acc), some (encQ q)]) (h1 := h) hg rfl (?_ : _ = SOut.next _ _)]
    · exact e2
    · simp [e]
theorem v_totalR {B k : Nat} {qs : List Rat} {h : Hd} (e : h[k]? = some (.lst (qs.map encQ))) (hq : ∀ q ∈ qs, Qs B q) (hl : 1 + (qs.length + 1) * (B + 1) ≤ 8000) : den_total [.ref k] h = .ok (encQ (qs.foldl (· + ·) 0)) h := by
  obtain ⟨y2, e2⟩ := v_totalG (B := B) h (guard_one e) qs 0 1 (some (.ref k)) none ⟨by decide, by decide⟩ hq hl
  refine bodyD_ret ?_
  unfold body_total
  have ks := kSeq_ref e
  rw [enc_zero] at e2
  generalize qs.map encQ = L at *
  rw [show startD 3 [D.ref k] = [some (.ref k), none, none] from rfl]
  simp -implicitDefEqProofs [x_forS, x_seqI, ks, e2]
theorem Qs0 (a : Nat) : Qs (a + 1) 0 := ⟨ppos _, by
  show 1 < 2 ^ (a + 1)
  have := Nat.pow_le_pow_right (show 0 < 2 by decide) (show 1 ≤ a + 1 by omega)
  omega⟩
theorem Qs1 (a : Nat) : Qs (a + 1) 1 := ⟨by
  show 1 < 2 ^ (a + 1)
  have := Nat.pow_le_pow_right (show 0 < 2 by decide) (show 1 ≤ a + 1 by omega)
  omega, by
  show 1 < 2 ^ (a + 1)
  have := Nat.pow_le_pow_right (show 0 < 2 by decide) (show 1 ≤ a + 1 by omega)
  omega⟩
theorem Qs.neg {a : Nat} {q : Rat} (h : Qs a q) : Qs a (-q) := ⟨by rw [Rat.neg_num, Int.natAbs_neg]; exact h.1, by rw [Rat.neg_den]; exact h.2⟩
theorem enc_neg (q : Rat) : encQ (-q) = .tup [.int (-q.num), .int (q.den : Int)] := by
  unfold encQ
  rw [Rat.neg_num, Rat.neg_den]
end Dz.PL

namespace Dz.PL
open PySem PySem.Spec PyProof.Rows L2 Dz 
mutual
theorem pk_nr {k : Bool} : ∀ (d : D) (p : PyData), pyK k d = some p → NR d
  | .non, _, _ => trivial
  | .bl _, _, _ => trivial
  | .str _, _, _ => trivial
  | .int i, _, _ => trivial
  | .tup ds, p, h => by
    unfold pyK at h
    cases e : pyKL k ds with
    | none => rw [e] at h; cases h
    | some ps => exact pkL_nr ds ps e
  | .lst ds, p, h => by
    unfold pyK at h
    cases k with
    | true => simp at h
    | false =>
      cases e : pyKL false ds with
      | none => rw [e] at h; simp at h
      | some ps => exact pkL_nr ds ps e
  | .dct, _, _ => trivial
  | .scr ds, p, h => by unfold pyK at h; cases h
  | .ref i, p, h => by unfold pyK at h; cases h
  | .gl n, p, h => by unfold pyK at h; cases h
  | .ty t, p, h => by unfold pyK at h; cases h
  | .ex a, p, h => by unfold pyK at h; cases h
theorem pkL_nr {k : Bool} : ∀ (ds : List D) (ps : List PyData), pyKL k ds = some ps → NRL ds
  | [], _, _ => trivial
  | d :: ds, ps, h => by
    obtain ⟨p, qs, _, e1, e2⟩ := pyKL_cons h
    exact ⟨pk_nr d p e1, pkL_nr ds qs e2⟩
end
theorem Prn.nr {k : Bool} {n N : Nat} {d : D} (h : Prn k n N d) : NR d := by
  obtain ⟨p, e, _⟩ := h
  exact pk_nr d p e
theorem Fine.nr {B n N : Nat} {d : D} (h : Fine B n N d) : NR d := by
  obtain ⟨k, hk⟩ := h.2
  exact Prn.nr hk
theorem Clean.nr {B n N : Nat} {d : D} (h : Clean B n N d) : NR d := Prn.nr (h.2 true)
theorem clean_encR {B C n N : Nat} {qs : List Rat} (h : ∀ q ∈ qs, Qs B q) (hl : qs.length ≤ 11) (hb : B ≤ C := by decide) (hB : C ≤ 1919 := by decide) (hn : 2 ≤ n := by decide) (hN : 3 + 11 * (3849 + 2) ≤ N := by decide) : Clean C n N (encR qs) :=
  (clean_tup (m := 11) (clean_row (n := 0) (fun q hq => (h q hq).mono hb) hB) (by simpa using hl)).mono (Nat.le_refl _) hn hN
theorem atI_last {α : Type} {xs : List α} {d : α} (e : xs[xs.length - 1]? = some d) : atI xs (-1) = some d := by
  have hn := (List.getElem?_eq_some_iff.mp e).1
  have : ixN xs.length (-1) = some (xs.length - 1) := by
    unfold ixN
    rw [if_neg (by decide), if_pos (by omega)]
    congr 1
    omega
  unfold atI
  rw [this]
  exact e
theorem p_neg1 (hh : Hd) : dNeg (.int 1) hh = some (.int (-1), hh) := rfl
theorem ixr_last {r : List Rat} (hr : 1 ≤ r.length) (hh : Hd) : dIx (encR r) (.int (-1)) hh = some (encQ (r.getD (r.length - 1) 0), hh) := by
  refine p_ixt hh _ _ (atI_last ?_)
  rw [List.length_map, List.getElem?_map, List.getD, List.getElem?_eq_getElem (show r.length - 1 < r.length by omega)]
  rfl
theorem slR1 {r : List Rat} (hh : Hd) : slP mkL (some 1) none (encR r) hh = some (encR r.tail, hh) := by
  unfold encR
  rw [p_slt, cut_f1, ← List.map_drop, List.drop_one]
theorem addR {r s : List Rat} (hl : r.length + s.length ≤ 1000) (hh : Hd) : dAdd (encR r) (encR s) hh = some (encR (r ++ s), hh) := by
  unfold encR
  rw [dAddL, p_addt hh mkL _ _ (by rw [szl, List.length_map, List.length_map]; omega), List.map_append]
theorem lenR (r : List Rat) (hh : Hd) : lenD [encR r] hh = some (.int (r.length : Int), hh) := by
  unfold encR
  rw [p_lent, List.length_map]
/-- a share of which nothing is to be cancelled -/
theorem enc_low {a b : Int} (hb : 0 < b) (h : Nat.gcd a.natAbs b.natAbs = 1) : encQ (Rat.divInt a b) = .tup [.int a, .int b] := by
  obtain ⟨h1, h2⟩ := (dv_eq hb).mpr h
  unfold encQ
  rw [h1, h2]
theorem addRef {k : Nat} {xs ys : List D} {h : Hd} (e : h[k]? = some (.lst xs)) (hl : xs.length + ys.length ≤ 1000) : dAddM (.ref k) (.lst ys) h = some (.ref h.length, h ++ [.lst (xs ++ ys)]) := by
  have e1 : lstOf (.ref k) h = some xs := by unfold lstOf; dsimp only; rw [e]
  have e2 : lstOf (.lst ys) h = some ys := rfl
  unfold dAddM dAddW
  dsimp only
  rw [e1, e2]
  dsimp only
  rw [if_pos (by rw [szl]; omega)]
  rfl
theorem pairs_loop {m i j : Nat} {fb : DenS} {gd : List (Nat × List D)} {h : Hd} (hg : guardOk gd h) : ∀ (items : List D) (σ : Sd), σ.length = m → (∀ d ∈ items, ∃ a b, d = .tup [a, b] ∧ ∀ σ : Sd, σ.length = m → fb ((σ.set i (some a)).set j (some b)) h = .next ((σ.set i (some a)).set j (some b)) h) →
    ∃ σ', forLoop (tupT 2 (tsCons (setT i) (tsCons (setT j) (tsNil)))) fb gd items σ h = .next σ' h ∧ σ'.length = m ∧ ∀ k, k ≠ i → k ≠ j → σ'[k]? = σ[k]?
  | [], σ, hs, _ => ⟨σ, for_nilG hg, hs, fun _ _ _ => rfl⟩
  | d :: ds, σ, hs, hd => by
    obtain ⟨a, b, rfl, e⟩ := hd d List.mem_cons_self
    obtain ⟨σ', e', l', k'⟩ := pairs_loop hg ds ((σ.set i (some a)).set j (some b)) (by simpa using hs) fun x hx => hd x (List.mem_cons_of_mem _ hx)
    refine ⟨σ', ?_, l', fun k h1 h2 => ?_⟩
    · rw [for_consG (σ1 := (σ.set i (some a)).set j (some b)) (h1 := h) hg rfl (e σ hs)]
      exact e'
    · rw [k' k h1 h2, List.getElem?_set_ne (by omega), List.getElem?_set_ne (by omega)]
end Dz.PL

namespace Dz.PL
open PySem PySem.Spec PyProof.Rows L2 Dz 
noncomputable def body_whole_row : DenS := retS (callP (tupleD) (aCons (lcD (seqI (vr 0)) (setT 1) (yesB) (tupD (aCons (vr 1) (aCons (cst (.int 1)) (aNil)))) [1]) (aNil)))
noncomputable def den_whole_row : FDen := bodyD 2 body_whole_row
noncomputable def lc_unit_row_1 : Den := lcD (rng1 (aCons (vr 0) (aNil))) (setT 2) (yesB) (tupD (aCons (callP (intD) (aCons (bin2 dEq (vr 2) (vr 1)) (aNil))) (aCons (cst (.int 1)) (aNil)))) [2]
noncomputable def body_unit_row : DenS := retS (callP (tupleD) (aCons (lc_unit_row_1) (aNil)))
noncomputable def den_unit_row : FDen := bodyD 3 body_unit_row
noncomputable def lc_unit_table_1 : Den := lcD (rng1 (aCons (vr 0) (aNil))) (setT 1) (yesB) (callD Dz.PL.den_unit_row 2 (aCons (vr 0) (aCons (vr 1) (aNil)))) [1]
noncomputable def body_unit_table : DenS := retS (callP (tupleD) (aCons (lc_unit_table_1) (aNil)))
noncomputable def den_unit_table : FDen := bodyD 2 body_unit_table
noncomputable def lc_share_by_1 : Den := lcD (seqI (callD Dz.PL.den_tabled 1 (aCons (vr 0) (aNil)))) (setT 1) (yesB) (callD Dz.PL.den_whole_row 1 (aCons (vr 1) (aNil))) [1]
noncomputable def body_share_by : DenS := retS (callP (tupleD) (aCons (lc_share_by_1) (aNil)))
noncomputable def den_share_by : FDen := bodyD 2 body_share_by
theorem v_wholerow (c : List Int) (h : Hd) : den_whole_row [.tup (c.map D.int)] h = .ok (encR (cqs c)) h := by
  have hc : lcD (seqI (vr 0)) (setT 1) yesB (tupD (aCons (vr 1) (aCons (cst (.int 1)) aNil))) [1] [some (.tup (c.map D.int)), none] h = .ok (.lst ((cqs c).map encQ)) h := by
    unfold cqs
    rw [List.map_map]
    exact lcD_seq (l := c) (g := D.int) (by simp -implicitDefEqProofs [x_seqI, kSeq_tup]) fun i _ => by simp -implicitDefEqProofs [wipeD, enc_int]
  refine bodyD_ret ?_
  unfold body_whole_row encR
  generalize (cqs c).map encQ = L at *
  simp -implicitDefEqProofs [startD, hc]
theorem v_wholerowL (c : List Int) (h : Hd) : den_whole_row [.lst (c.map D.int)] h = .ok (encR (cqs c)) h := by
  have hc : lcD (seqI (vr 0)) (setT 1) yesB (tupD (aCons (vr 1) (aCons (cst (.int 1)) aNil))) [1] [some (.lst (c.map D.int)), none] h = .ok (.lst ((cqs c).map encQ)) h := by
    unfold cqs
    rw [List.map_map]
    exact lcD_seq (l := c) (g := D.int) (by simp -implicitDefEqProofs [x_seqI, kSeq_lst]) fun i _ => by simp -implicitDefEqProofs [wipeD, enc_int]
  refine bodyD_ret ?_
  unfold body_whole_row encR
  generalize (cqs c).map encQ = L at *
  simp -implicitDefEqProofs [startD, hc]
theorem unit_den {fe : Den} (n p : Nat) (hn : n ≤ 1000000) (h : Hd) (hfe : fe = tupD (aCons (callP (intD) (aCons (bin2 dEq (vr 2) (vr 1)) (aNil))) (aCons (cst (.int 1)) (aNil)))) : lcD (rng1 (aCons (vr 0) (aNil))) (setT 2) (yesB) fe [2] [some (.int (n : Int)), some (.int (p : Int)), none] h = .ok (.lst ((unitR n p).map encQ)) h := by
  subst hfe
  unfold unitR
  rw [List.map_map]
  refine lcD_rng (by simp -implicitDefEqProofs [x_rng1, kR1_nat n h hn]) fun j hj => ?_
  have eq : dEq (.int (j : Int)) (.int (p : Int)) h = some (.bl (decide (j = p)), h) := by
    show some (D.bl ((j : Int) == (p : Int)), h) = _
    congr 3
    rw [Bool.eq_iff_iff]
    simp only [beq_iff_eq, decide_eq_true_eq]
    omega
  by_cases hp : j = p
  · subst hp
    rw [decide_eq_true rfl] at eq
    simp -implicitDefEqProofs [wipeD, eq, enc_one]
  · rw [decide_eq_false hp] at eq
    simp -implicitDefEqProofs [wipeD, eq, hp, enc_zero]
theorem v_unitrow (n p : Nat) (hn : n ≤ 1000000) (h : Hd) : den_unit_row [.int (n : Int), .int (p : Int)] h = .ok (encR (unitR n p)) h := by
  have e : lc_unit_row_1 [some (.int (n : Int)), some (.int (p : Int)), none] h = .ok (.lst ((unitR n p).map encQ)) h := unit_den n p hn h rfl
  refine bodyD_ret ?_
  unfold body_unit_row encR
  generalize (unitR n p).map encQ = L at *
  simp -implicitDefEqProofs [startD, e]
def unitT (n : Nat) : List (List Rat) := (List.range n).map (unitR n)
theorem v_unittable (n : Nat) (hn : n ≤ 1000000) (h : Hd) : den_unit_table [.int (n : Int)] h = .ok (encMt (unitT n)) h := by
  have e : lc_unit_table_1 [some (.int (n : Int)), none] h = .ok (.lst ((unitT n).map encR)) h := by
    unfold unitT
    rw [List.map_map]
    refine lcD_rng (by simp -implicitDefEqProofs [x_rng1, kR1_nat n h hn]) fun j hj => ?_
    have eu := v_unitrow n j hn h
    simp -implicitDefEqProofs [wipeD, eu]
  refine bodyD_ret ?_
  unfold body_unit_table encMt
  generalize (unitT n).map encR = L at *
  simp -implicitDefEqProofs [startD, e]
def tabS (t : List (List Int)) : List (List Rat) := t.map cqs
theorem v_shareby {xs : List Int} {n : Nat} (n1 : 1 ≤ n) (n5 : n ≤ 5) (hl : xs.length = 2 * n - 1) (h : Hd) : den_share_by [.tup (xs.map D.int)] h = .ok (encMt (tabS (tabL xs n))) h := by
  have et := v_tabled n1 n5 hl h
  have e : lc_share_by_1 [some (.tup (xs.map D.int)), none] h = .ok (.lst ((tabS (tabL xs n)).map encR)) h := by
    unfold tabS
    rw [List.map_map]
    refine lcD_seq (l := tabL xs n) (g := fun r => D.lst (r.map D.int)) (by simp -implicitDefEqProofs [x_seqI, et, encT, kSeq_lst]) fun r _ => ?_
    have ew := v_wholerowL r h
    simp -implicitDefEqProofs [wipeD, ew]
  refine bodyD_ret ?_
  unfold body_share_by encMt
  generalize (tabS (tabL xs n)).map encR = L at *
  simp -implicitDefEqProofs [startD, e]
theorem unitR_len (n p : Nat) : (unitR n p).length = n := by simp [unitR]
theorem unitR_qs (n p : Nat) : ∀ q ∈ unitR n p, Qs 1 q := fun q hq => by
  obtain ⟨j, _, rfl⟩ := List.mem_map.mp hq
  split
  · exact Qs1 0
  · exact Qs0 0
theorem p_eqR (neg : Bool) (qs rs : List Rat) (h : Hd) : eqD neg (encR qs) (encR rs) h = some (.bl (xB neg (decide (qs = rs))), h) := p_eqQ neg qs rs h
theorem encR_inj {r s : List Rat} (e : encR r = encR s) : r = s := by
  have e1 := p_eqQ false r s []
  have e2 := p_eqQ false r r []
  change eqD false (encR r) (encR s) [] = _ at e1
  change eqD false (encR r) (encR r) [] = _ at e2
  rw [← e, e2] at e1
  simpa using e1
/-- lists of rows, compared -/
theorem py_lstR (A : List (List Rat)) (h : Hd) : pyOf h 8 (.lst (A.map encR)) = some (.list (A.map pyR)) := by
  have : mapO (pyOf h 7) (A.map encR) = some (A.map pyR) := mapO_map fun c _ => py_encR c h 4
  show (match mapO (pyOf h 7) (A.map encR) with | some ps => some (PyData.list ps) | none => none) = _
  rw [this]
theorem p_eqLR (neg : Bool) (A M : List (List Rat)) (h : Hd) : eqD neg (.lst (A.map encR)) (.lst (M.map encR)) h = some (.bl (xB neg (decide (A = M))), h) := by
  unfold eqD
  rw [py_lstR, py_lstR]
  dsimp only
  rw [eqv_lstL, eqv_map eqv_r]
  cases neg <;> rfl
theorem for_things {i : Nat} {fb : DenS} {h : Hd} (σf : Option D → Sd) (hset : ∀ x d, (σf x).set i (some d) = σf (some d)) : ∀ (items : List D) (x : Option D), (∀ d ∈ items, fb (σf (some d)) h = .next (σf (some d)) h) → ∃ y, forLoop (setT i) fb [] items (σf x) h = .next (σf y) h
  | [], x, _ => ⟨x, for_nil⟩
  | d :: ds, x, hb => by
    obtain ⟨y, e⟩ := for_things σf hset ds (some d) fun z hz => hb z (List.mem_cons_of_mem _ hz)
    refine ⟨y, ?_⟩
    rw [for_cons (σ1 := σf (some d)) (h1 := h) (by rw [e_setT, hset]) (hb d List.mem_cons_self)]
    exact e
end Dz.PL

namespace Dz.PB
open PySem PySem.Spec PyProof.Rows L2 Dz Dz.PL
noncomputable def body__law_gcd : DenS := seqS (setS 0 (callP absD (aCons (vr 0) (aNil)))) (seqS (setS 1 (callP absD (aCons (vr 1) (aNil)))) (seqS (whileS (asB (bin2 dNe (vr 1) (cst (.int 0)))) (parS 0 1 (aCons (vr 1) (aCons (bin2 dMod (vr 0) (vr 1)) (aNil))))) (retS (vr 0))))
noncomputable def den__law_gcd : FDen := bodyD 2 body__law_gcd
noncomputable def lc__law_table_of_1 : Den := lcD (rng1 (aCons (vr 1) (aNil))) (setT 3) (yesB) (bin2 dIx (vr 0) (bin2 dSub (bin2 dAdd (bin2 dSub (vr 3) (vr 2)) (vr 1)) (cst (.int 1)))) [3]
noncomputable def lc__law_table_of_2 : Den := lcD (rng1 (aCons (vr 1) (aNil))) (setT 2) (yesB) (lc__law_table_of_1) [2]
noncomputable def body__law_table_of : DenS := seqS (setS 1 (bin2 dDiv (bin2 dAdd (callP lenD (aCons (vr 0) (aNil))) (cst (.int 1))) (cst (.int 2)))) (retS (lc__law_table_of_2))
noncomputable def den__law_table_of : FDen := bodyD 4 body__law_table_of
noncomputable def lc__law_shared_1 : Den := lcD (seqI (vr 1)) (setT 2) (yesB) (tupD (aCons (vr 2) (aCons (cst (.int 1)) (aNil)))) [2]
noncomputable def lc__law_shared_2 : Den := lcD (seqI (vr 0)) (setT 1) (yesB) (callP (tupleD) (aCons (lc__law_shared_1) (aNil))) [1]
noncomputable def body__law_shared : DenS := retS (callP (tupleD) (aCons (lc__law_shared_2) (aNil)))
noncomputable def den__law_shared : FDen := bodyD 3 body__law_shared
noncomputable def body__law_share : DenS := seqS (setS 2 (callD Dz.PB.den__law_gcd 2 (aCons (vr 0) (aCons (vr 1) (aNil))))) (seqS (ifS (asB (bin2 dLt (vr 1) (cst (.int 0)))) (setS 2 (un1 dNeg (vr 2))) (nxS)) (retS (tupD (aCons (bin2 dDiv (vr 0) (vr 2)) (aCons (bin2 dDiv (vr 1) (vr 2)) (aNil))))))
noncomputable def den__law_share : FDen := bodyD 3 body__law_share
noncomputable def body__law_share_like : DenS := seqS (ifS (orB (notB (asB (callP isiD (aCons (vr 0) (aCons (cst (.ty "tuple")) (aNil)))))) (orB (asB (bin2 dNe (callP lenD (aCons (vr 0) (aNil))) (cst (.int 2)))) (orB (notB (asB (callD Dz.PL.den__law_whole 1 (aCons (bin2 dIx (vr 0) (cst (.int 0))) (aNil))))) (notB (asB (callD Dz.PL.den__law_whole 1 (aCons (bin2 dIx (vr 0) (cst (.int 1))) (aNil)))))))) (retS (cst (.bl false))) (nxS)) (retS (andV (bin2 dGt (bin2 dIx (vr 0) (cst (.int 1))) (cst (.int 0))) (bin2 dEq (callD Dz.PB.den__law_gcd 2 (aCons (bin2 dIx (vr 0) (cst (.int 0))) (aCons (bin2 dIx (vr 0) (cst (.int 1))) (aNil)))) (cst (.int 1)))))
noncomputable def den__law_share_like : FDen := bodyD 1 body__law_share_like
noncomputable def body__law_dot : DenS := seqS (setS 2 (cst (.int 0))) (seqS (setS 3 (cst (.int 1))) (seqS (forS (zipI (aCons (vr 0) (aCons (vr 1) (aNil)))) (tupT 2 (tsCons (setT 4) (tsCons (setT 5) (tsNil)))) (seqS (setS 2 (bin2 dAdd (bin2 dMul (bin2 dMul (vr 2) (bin2 dIx (vr 4) (cst (.int 1)))) (bin2 dIx (vr 5) (cst (.int 1)))) (bin2 dMul (bin2 dMul (bin2 dIx (vr 4) (cst (.int 0))) (bin2 dIx (vr 5) (cst (.int 0)))) (vr 3)))) (setS 3 (bin2 dMul (bin2 dMul (vr 3) (bin2 dIx (vr 4) (cst (.int 1)))) (bin2 dIx (vr 5) (cst (.int 1))))))) (retS (callD Dz.PB.den__law_share 2 (aCons (vr 2) (aCons (vr 3) (aNil)))))))
noncomputable def den__law_dot : FDen := bodyD 6 body__law_dot
noncomputable def body__law_row_like : DenS := retS (andV (callP isiD (aCons (vr 0) (aCons (cst (.ty "tuple")) (aNil)))) (andV (bin2 dEq (callP lenD (aCons (vr 0) (aNil))) (vr 1)) (callP allD (aCons (lcD (seqI (vr 0)) (setT 2) (yesB) (callD Dz.PB.den__law_share_like 1 (aCons (vr 2) (aNil))) [2]) (aNil)))))
noncomputable def den__law_row_like : FDen := bodyD 3 body__law_row_like
noncomputable def body__law_slants_of : DenS := seqS (setS 1 (bin2 dAdd (cst (.int 1)) (callD Dz.PL.den__law_draw 2 (aCons (vr 0) (aCons (cst (.int 5)) (aNil)))))) (seqS (setS 2 (bin2 dIx (lstD (aCons (cst (.int 1)) (aCons (cst (.int 2)) (aCons (cst (.int 3)) (aCons (cst (.int 9)) (aCons (cst (.int 50)) (aNil))))))) (callD Dz.PL.den__law_draw 2 (aCons (vr 0) (aCons (cst (.int 5)) (aNil)))))) (seqS (setS 3 (lcM (rng1 (aCons (bin2 dSub (bin2 dMul (cst (.int 2)) (vr 1)) (cst (.int 1))) (aNil))) (setT 6) (yesB) (bin2 dSub (callD Dz.PL.den__law_draw 2 (aCons (vr 0) (aCons (bin2 dAdd (bin2 dMul (cst (.int 2)) (vr 2)) (cst (.int 1))) (aNil)))) (vr 2)) [6])) (seqS (setS 4 (callD Dz.PL.den__law_draw 2 (aCons (vr 0) (aCons (cst (.int 10)) (aNil))))) (seqS (setS 5 (bin2 dAdd (cst (.int 1)) (callD Dz.PL.den__law_draw 2 (aCons (vr 0) (aCons (cst (.int 3)) (aNil)))))) (seqS (ifS (asB (bin2 dEq (vr 4) (cst (.int 0)))) (setS 3 (slD mkM (bin2 dMul (slD mkL (vr 3) (oNone) (oSome (vr 5))) (cst (.int 9))) (oNone) (oSome (callP lenD (aCons (vr 3) (aNil)))))) (nxS)) (seqS (ifS (asB (bin2 dEq (vr 4) (cst (.int 1)))) (asgS (bin2 dIx (lstD (aCons (cst (.int 50)) (aCons (un1 dNeg (cst (.int 50))) (aCons (cst (.int 0)) (aNil))))) (callD Dz.PL.den__law_draw 2 (aCons (vr 0) (aCons (cst (.int 3)) (aNil))))) (subT dSet (vr 3) (bin2 dSub (vr 1) (cst (.int 1))))) (nxS)) (seqS (ifS (asB (bin2 dEq (vr 4) (cst (.int 2)))) (setS 3 (lcM (seqI (vr 3)) (setT 7) (yesB) (bin2 dMul (vr 7) (callP (intD) (aCons (bin2 dEq (callD Dz.PL.den__law_draw 2 (aCons (vr 0) (aCons (cst (.int 3)) (aNil)))) (cst (.int 0))) (aNil)))) [7])) (nxS)) (seqS (ifS (asB (bin2 (inD false) (vr 4) (tupD (aCons (cst (.int 3)) (aCons (cst (.int 4)) (aCons (cst (.int 5)) (aNil))))))) (setS 3 (bin2 dAddM (slD mkL (vr 3) (oNone) (oSome (vr 1))) (un1 revP (slD mkL (vr 3) (oNone) (oSome (bin2 dSub (vr 1) (cst (.int 1)))))))) (nxS)) (retS (callP (tupleD) (aCons (vr 3) (aNil))))))))))))
noncomputable def den__law_slants_of : FDen := bodyS 8 body__law_slants_of
noncomputable def body__law_row_of : DenS := seqS (setS 2 (lstM (aNil))) (seqS (forS (rng1 (aCons (vr 1) (aNil))) (setT 3) (seqS (setS 4 (callD Dz.PL.den__law_draw 2 (aCons (vr 0) (aCons (bin2 dIx (lstD (aCons (cst (.int 3)) (aCons (cst (.int 9)) (aCons (cst (.int 41)) (aNil))))) (callD Dz.PL.den__law_draw 2 (aCons (vr 0) (aCons (cst (.int 3)) (aNil))))) (aNil))))) (exS (metL appP (vr 2) (aCons (callD Dz.PB.den__law_share 2 (aCons (bin2 dMul (vr 4) (bin2 dSub (cst (.int 1)) (bin2 dMul (cst (.int 2)) (callD Dz.PL.den__law_draw 2 (aCons (vr 0) (aCons (cst (.int 2)) (aNil))))))) (aCons (bin2 dAdd (cst (.int 1)) (callD Dz.PL.den__law_draw 2 (aCons (vr 0) (aCons (bin2 dIx (lstD (aCons (cst (.int 1)) (aCons (cst (.int 3)) (aCons (cst (.int 9)) (aNil))))) (callD Dz.PL.den__law_draw 2 (aCons (vr 0) (aCons (cst (.int 3)) (aNil))))) (aNil))))) (aNil)))) (aNil)))))) (retS (callP (tupleD) (aCons (vr 2) (aNil)))))
noncomputable def den__law_row_of : FDen := bodyS 5 body__law_row_of
noncomputable def body__law_bent_row : DenS := seqS (setS 2 (callD Dz.PL.den__law_draw 2 (aCons (vr 0) (aCons (bin2 dAdd (callP lenD (aCons (vr 1) (aNil))) (cst (.int 1))) (aNil))))) (seqS (setS 3 (lstD (aCons (tupD (aCons (cst (.int 1)) (aCons (cst (.int 0)) (aNil)))) (aCons (tupD (aCons (cst (.int 2)) (aCons (cst (.int 2)) (aNil)))) (aCons (tupD (aCons (cst (.int 1)) (aCons (un1 dNeg (cst (.int 1))) (aNil)))) (aCons (tupD (aCons (cst (.bl true)) (aCons (cst (.int 1)) (aNil)))) (aCons (tupD (aCons (cst (.int 0)) (aCons (cst (.int 2)) (aNil)))) (aCons (cst (.int 0)) (aCons (cst .non) (aCons (cst (.str "1")) (aCons (lstD (aCons (cst (.int 1)) (aCons (cst (.int 1)) (aNil)))) (aCons (tupD (aCons (cst (.int 1)) (aNil))) (aCons (tupD (aCons (cst (.int 1)) (aCons (cst (.int 1)) (aCons (cst (.int 1)) (aNil))))) (aCons (tupD (aCons (cst (.int 1)) (aCons (cst (.bl true)) (aNil)))) (aCons (tupD (aCons (bin2 dPow (cst (.int 10)) (cst (.int 25))) (aCons (cst (.int 1)) (aNil)))) (aNil)))))))))))))))) (seqS (setS 3 (bin2 dIx (bin2 dAdd (vr 3) (lstD (aCons (tupD (aCons (cst (.int 3)) (aCons (bin2 dPow (cst (.int 10)) (cst (.int 25))) (aNil)))) (aCons (tupD (aCons (cst (.int 0)) (aCons (cst (.int 1)) (aNil)))) (aCons (tupD (aCons (cst (.str "1")) (aCons (cst (.int 1)) (aNil)))) (aCons (dctD) (aNil))))))) (callD Dz.PL.den__law_draw 2 (aCons (vr 0) (aCons (cst (.int 17)) (aNil)))))) (seqS (setS 4 (bin2 dAdd (bin2 dAdd (slD mkL (vr 1) (oNone) (oSome (vr 2))) (tupD (aCons (vr 3) (aNil)))) (slD mkL (vr 1) (oSome (bin2 dAdd (vr 2) (cst (.int 1)))) (oNone)))) (seqS (setS 5 (lstD (aCons (vr 4) (aCons (vr 4) (aCons (vr 4) (aCons (slD mkL (vr 1) (oSome (cst (.int 1))) (oNone)) (aCons (bin2 dAdd (vr 1) (tupD (aCons (tupD (aCons (cst (.int 0)) (aCons (cst (.int 1)) (aNil)))) (aNil)))) (aCons (callP (listD mkL) (aCons (vr 1) (aNil))) (aCons (tupD (aCons (vr 1) (aNil))) (aCons (un1 revP (vr 1)) (aCons (cst .non) (aCons (tupD (aNil)) (aCons (cst (.int 0)) (aCons (dctD) (aNil))))))))))))))) (retS (bin2 dIx (vr 5) (callD Dz.PL.den__law_draw 2 (aCons (vr 0) (aCons (cst (.int 12)) (aNil))))))))))
noncomputable def den__law_bent_row : FDen := bodyD 6 body__law_bent_row
noncomputable def body__law_table_like : DenS := seqS (ifS (orB (notB (asB (callP isiD (aCons (vr 0) (aCons (cst (.ty "tuple")) (aNil)))))) (asB (bin2 dNe (callP lenD (aCons (vr 0) (aNil))) (vr 1)))) (retS (cst (.bl false))) (nxS)) (retS (callP allD (aCons (lcD (seqI (vr 0)) (setT 2) (yesB) (callD Dz.PB.den__law_row_like 2 (aCons (vr 2) (aCons (vr 1) (aNil)))) [2]) (aNil))))
noncomputable def den__law_table_like : FDen := bodyD 3 body__law_table_like
noncomputable def body__law_times : DenS := seqS (setS 2 (callP lenD (aCons (vr 1) (aNil)))) (retS (callP (tupleD) (aCons (lcD (seqI (vr 0)) (setT 3) (yesB) (callP (tupleD) (aCons (lcD (rng1 (aCons (vr 2) (aNil))) (setT 4) (yesB) (callD Dz.PB.den__law_dot 2 (aCons (vr 3) (aCons (lcD (seqI (vr 1)) (setT 5) (yesB) (bin2 dIx (vr 5) (vr 4)) [5]) (aNil)))) [4]) (aNil))) [3]) (aNil))))
noncomputable def den__law_times : FDen := bodyD 6 body__law_times
noncomputable def body__law_bent_table : DenS := seqS (setS 2 (callD Dz.PL.den__law_draw 2 (aCons (vr 0) (aCons (callP lenD (aCons (vr 1) (aNil))) (aNil))))) (seqS (setS 3 (callD Dz.PB.den__law_bent_row 2 (aCons (vr 0) (aCons (bin2 dIx (vr 1) (vr 2)) (aNil))))) (seqS (setS 4 (bin2 dAdd (bin2 dAdd (slD mkL (vr 1) (oNone) (oSome (vr 2))) (tupD (aCons (vr 3) (aNil)))) (slD mkL (vr 1) (oSome (bin2 dAdd (vr 2) (cst (.int 1)))) (oNone)))) (seqS (setS 5 (lstD (aCons (vr 4) (aCons (vr 4) (aCons (vr 4) (aCons (vr 4) (aCons (slD mkL (vr 1) (oSome (cst (.int 1))) (oNone)) (aCons (bin2 dAdd (vr 1) (slD mkL (vr 1) (oNone) (oSome (cst (.int 1))))) (aCons (callP (listD mkL) (aCons (vr 1) (aNil))) (aCons (un1 revP (vr 1)) (aCons (tupD (aCons (vr 1) (aNil))) (aCons (tupD (aNil)) (aCons (cst .non) (aNil)))))))))))))) (retS (bin2 dIx (bin2 dAdd (vr 5) (lstD (aCons (dctD) (aCons (cst (.int 0)) (aNil))))) (callD Dz.PL.den__law_draw 2 (aCons (vr 0) (aCons (cst (.int 13)) (aNil)))))))))
noncomputable def den__law_bent_table : FDen := bodyD 6 body__law_bent_table
section
variable {q r : Rat} {a b : Nat}
theorem v_lgcd (t b : Int) (h : Hd) : den__law_gcd [.int t, .int b] h = .ok (.int ((Nat.gcd t.natAbs b.natAbs : Nat) : Int)) h := by
  have w := gcd_whileS (c := asB (bin2 dNe (vr 1) (cst (.int 0)))) (b := parS 0 1 (aCons (vr 1) (aCons (bin2 dMod (vr 0) (vr 1)) aNil))) (mk := fun x y => [some (.int (x : Int)), some (.int (y : Int))]) (h := h) (fun x y => by simp) (fun x y hy => by
    have hy' : ((y : Nat) : Int) ≠ 0 := by omega
    have md : dMod (.int (x : Int)) (.int (y : Int)) h = some (.int ((x % y : Nat) : Int), h) := by rw [p_modi _ _ _ hy', fmod_nat]
    simp at md
    simp [parS, md]) t.natAbs b.natAbs
  refine bodyD_ret ?_
  unfold body__law_gcd
  rw [seq_n (σ1 := [some (.int ((t.natAbs : Nat) : Int)), some (.int b)]) (h1 := h) (by simp only [startD]; simp [p_abs, abs_nat])]
  rw [seq_n (σ1 := [some (.int ((t.natAbs : Nat) : Int)), some (.int ((b.natAbs : Nat) : Int))]) (h1 := h) (by simp [p_abs, abs_nat])]
  rw [seq_n w]
  rfl
theorem v_lshare {t b : Int} (hb : b ≠ 0) (hz : b.natAbs < 2 ^ 8000) (h : Hd) : den__law_share [.int t, .int b] h = .ok (encQ (Rat.divInt t b)) h := by
  have hd := divOk_both (t := t) hb hz
  have e := v_lgcd t b h
  have d1 : ∀ hh, dDiv (.int t) (.int (bothOf t b)) hh = some (.int (Rat.divInt t b).num, hh) := fun hh => by rw [p_divi _ _ _ hd, share_num t b hb]
  have d2 : ∀ hh, dDiv (.int b) (.int (bothOf t b)) hh = some (.int ((Rat.divInt t b).den : Int), hh) := fun hh => by rw [p_divi _ _ _ hd, share_den t b hb]
  refine bodyD_ret ?_
  unfold body__law_share
  rw [seq_n (σ1 := [some (.int t), some (.int b), some (.int ((Nat.gcd t.natAbs b.natAbs : Nat) : Int))]) (h1 := h) (by simp only [startD]; simp [e])]
  rw [seq_n (σ1 := [some (.int t), some (.int b), some (.int (bothOf t b))]) (h1 := h) (by
    unfold bothOf
    by_cases c : b < 0 <;> simp [c])]
  simp [d1, d2, encQ]
theorem v_slike {d : D} (p : PlX d) (h : Hd) : den__law_share_like [d] h = .ok (.bl (shG d)) h := by
  cases ht : isT d with
  | false =>
    have e := isi_tuple p.1 (h := h)
    rw [ht] at e
    simp only [den__law_share_like, bodyD, body__law_share_like, startD]
    simp [e]
    cases d <;> first | rfl | cases ht
  | true =>
    obtain ⟨xs, rfl⟩ := isT_ok ht
    have hx := p.2 xs rfl
    by_cases hl : xs.length = 2
    · match xs, hl, hx with
      | [x, y], _, hx =>
        have i0 : ∀ hh, dIx (.tup [x, y]) (.int 0) hh = some (x, hh) := fun hh => p_ixt hh 0 _ (at_nat (n := 0) rfl)
        have i1 : ∀ hh, dIx (.tup [x, y]) (.int 1) hh = some (y, hh) := fun hh => p_ixt hh 1 _ (at_nat (n := 1) rfl)
        have wx := v_whole (hx x (by simp)) h
        have wy := v_whole (hx y (by simp)) h
        refine bodyD_ret ?_
        simp only [body__law_share_like, startD]
        cases hix : isI x with
        | false =>
          rw [hix] at wx
          simp [isi_tuple', i0, i1, wx, shG_x hix]
        | true =>
          rw [hix] at wx
          cases hiy : isI y with
          | false =>
            rw [hiy] at wy
            simp [isi_tuple', i0, i1, wx, wy, shG_y hiy]
          | true =>
            rw [hiy] at wy
            obtain ⟨a, rfl⟩ := isI_ok hix
            obtain ⟨b, rfl⟩ := isI_ok hiy
            have e := v_lgcd a b h
            obtain ⟨g, hg⟩ : ∃ g, g = Nat.gcd a.natAbs b.natAbs := ⟨_, rfl⟩
            rw [← hg] at e
            by_cases hb : 0 < b
            · have e2 : dEq (.int (g : Int)) (.int 1) h = some (.bl (decide (g = 1)), h) := by
                show eqD false _ _ h = _
                rw [p_eqi]
                congr 2
                by_cases c : g = 1
                · simp [c]
                · simp [c]
                  omega
              have e3 : shG (.tup [.int a, .int b]) = decide (g = 1) := by simp [shG, hb, hg]
              rw [e3]
              simp [isi_tuple', i0, i1, wx, wy, hb, e, e2]
            · simp [isi_tuple', i0, i1, wx, wy, hb, shG]
    · refine bodyD_ret ?_
      simp only [body__law_share_like, startD]
      have hl' : ¬ (xs.length : Int) = 2 := by omega
      simp [isi_tuple', hl', hl, shG_len hl]
theorem v_lrlike {d : D} {B : Nat} (p : PlA B d) (n : Nat) (h : Hd) : den__law_row_like [d, .int (n : Int)] h = .ok (.bl (rowG n d)) h := by
  refine bodyD_ret ?_
  simp only [body__law_row_like, startD]
  cases ht : isT d with
  | false =>
    have e := isi_tuple (pla_pl p) (h := h)
    rw [ht] at e
    have : rowG n d = false := by cases d <;> first | rfl | cases ht
    rw [this]
    simp [e]
  | true =>
    obtain ⟨xs, rfl⟩ := isT_ok ht
    have hc : lcD (seqI (vr 0)) (setT 2) yesB (callD den__law_share_like 1 (aCons (vr 2) aNil)) [2] [some (.tup xs), some (.int (n : Int)), none] h = .ok (.lst (xs.map fun d => .bl (shG d))) h := by
      refine e_lcD (src := ⟨xs, []⟩) (by simp [seqI, srcOf]) (lc_map fun d hd => ⟨_, rfl, rfl, ?_⟩)
      have e := v_slike (pla_x (pla_mem p d hd)) h
      simp [wipeD, e]
    have ha := all_bls shG xs h
    by_cases hl : xs.length = n
    · simp [isi_tuple', hl, hc, ha, rowG]
    · have hl' : ¬ (xs.length : Int) = (n : Int) := by omega
      simp [isi_tuple', hl, hl', rowG]
theorem v_ltlike {d : D} {B : Nat} (p : PlA B d) (n : Nat) (h : Hd) : den__law_table_like [d, .int (n : Int)] h = .ok (.bl (tabLk n d)) h := by
  refine bodyD_ret ?_
  unfold body__law_table_like
  cases ht : isT d with
  | false =>
    have e := isi_tuple (pla_pl p) (h := h)
    rw [ht] at e
    have : tabLk n d = false := by cases d <;> first | rfl | cases ht
    rw [this]
    simp only [startD]
    simp [e]
  | true =>
    obtain ⟨xs, rfl⟩ := isT_ok ht
    have hc : lcD (seqI (vr 0)) (setT 2) yesB (callD den__law_row_like 2 (aCons (vr 2) (aCons (vr 1) aNil))) [2] [some (.tup xs), some (.int (n : Int)), none] h = .ok (.lst (xs.map fun d => .bl (rowG n d))) h := by
      refine e_lcD (src := ⟨xs, []⟩) (by simp [seqI, srcOf]) (lc_map fun d hd => ⟨_, rfl, rfl, ?_⟩)
      have e := v_lrlike (pla_mem p d hd) n h
      simp [wipeD, e]
    have ha := all_bls (rowG n) xs h
    simp only [startD]
    by_cases hl : xs.length = n
    · simp [isi_tuple', hl, hc, ha, tabLk]
    · have hl' : ¬ (xs.length : Int) = (n : Int) := by omega
      simp [isi_tuple', hl, hl', tabLk]
noncomputable abbrev ldB : DenS := seqS (setS 2 (bin2 dAdd (bin2 dMul (bin2 dMul (vr 2) (bin2 dIx (vr 4) (cst (.int 1)))) (bin2 dIx (vr 5) (cst (.int 1)))) (bin2 dMul (bin2 dMul (bin2 dIx (vr 4) (cst (.int 0))) (bin2 dIx (vr 5) (cst (.int 0)))) (vr 3)))) (setS 3 (bin2 dMul (bin2 dMul (vr 3) (bin2 dIx (vr 4) (cst (.int 1)))) (bin2 dIx (vr 5) (cst (.int 1)))))
theorem ld_loop {a b : Nat} {h : Hd} {x0 x1 : Option D} : ∀ (ps : List (Rat × Rat)) (t m : Int) (A : Nat) (x4 x5 : Option D), m ≠ 0 → t.natAbs < 2 ^ A → m.natAbs < 2 ^ A → (∀ p ∈ ps, Qs a p.1 ∧ Qs b p.2) → A + (ps.length + 1) * (a + b + 1) ≤ 8000 → ∃ (t' m' : Int) (y4 y5 : Option D),
    forLoop (tupT 2 (tsCons (setT 4) (tsCons (setT 5) (tsNil)))) ldB [] (ps.map fun p => D.tup [encQ p.1, encQ p.2]) [x0, x1, some (.int t), some (.int m), x4, x5] h = .next [x0, x1, some (.int t'), some (.int m'), y4, y5] h ∧ m' ≠ 0 ∧ m'.natAbs < 2 ^ 8000 ∧ Rat.divInt t' m' = (ps.map fun p => p.1 * p.2).foldl (· + ·) (Rat.divInt t m)
  | [], t, m, A, x4, x5, hm, ht, hmz, _, hz => ⟨t, m, x4, x5, for_nil, hm, lt_up hmz (by rw [List.length_nil, Nat.zero_add, Nat.one_mul] at hz; omega), rfl⟩
  | p :: ps, t, m, A, x4, x5, hm, ht, hmz, hp, hz => by
    rw [List.length_cons, Nat.succ_mul] at hz
    obtain ⟨p1, p2⟩ := hp p List.mem_cons_self
    have hab : A + a + b ≤ 8000 := by rw [Nat.succ_mul] at hz; omega
    have d1 : ((p.1.den : Int)).natAbs < 2 ^ a := by rw [Int.natAbs_natCast]; exact p1.2
    have d2 : ((p.2.den : Int)).natAbs < 2 ^ b := by rw [Int.natAbs_natCast]; exact p2.2
    have q1 : (t * (p.1.den : Int)).natAbs < 2 ^ (A + a) := by rw [Int.natAbs_mul]; exact pow_add2 ht d1
    have q2 : (t * (p.1.den : Int) * (p.2.den : Int)).natAbs < 2 ^ (A + a + b) := by rw [Int.natAbs_mul]; exact pow_add2 q1 d2
    have q3 : (p.1.num * p.2.num).natAbs < 2 ^ (a + b) := by rw [Int.natAbs_mul]; exact pow_add2 p1.1 p2.1
    have q4 : (p.1.num * p.2.num * m).natAbs < 2 ^ (a + b + A) := by rw [Int.natAbs_mul]; exact pow_add2 q3 hmz
    have q5 : (m * (p.1.den : Int)).natAbs < 2 ^ (A + a) := by rw [Int.natAbs_mul]; exact pow_add2 hmz d1
    have q6 : (m * (p.1.den : Int) * (p.2.den : Int)).natAbs < 2 ^ (A + a + b) := by rw [Int.natAbs_mul]; exact pow_add2 q5 d2
    have m1 : mulOk t (p.1.den : Int) := mulOk_pow ht d1 (by omega)
    have m2 : mulOk (t * (p.1.den : Int)) (p.2.den : Int) := mulOk_pow q1 d2 (by omega)
    have m3 : mulOk p.1.num p.2.num := mulOk_pow p1.1 p2.1 (by omega)
    have m4 : mulOk (p.1.num * p.2.num) m := mulOk_pow q3 hmz (by omega)
    have m5 : mulOk m (p.1.den : Int) := mulOk_pow hmz d1 (by omega)
    have m6 : mulOk (m * (p.1.den : Int)) (p.2.den : Int) := mulOk_pow q5 d2 (by omega)
    have n1 : m * (p.1.den : Int) * (p.2.den : Int) ≠ 0 := by
      rw [Int.mul_assoc]
      exact Int.mul_ne_zero hm (dd_ne p.1 p.2)
    have tz : (t * (p.1.den : Int) * (p.2.den : Int) + p.1.num * p.2.num * m).natAbs < 2 ^ (A + a + b + 1) := by
      rw [show a + b + A = A + a + b by omega] at q4
      have := Int.natAbs_add_le (t * (p.1.den : Int) * (p.2.den : Int)) (p.1.num * p.2.num * m)
      rw [Nat.pow_succ]
      omega
    obtain ⟨t', m', y4, y5, e, r1, r2, r3⟩ := ld_loop (a := a) (b := b) (h := h) (x0 := x0) (x1 := x1) ps (t * (p.1.den : Int) * (p.2.den : Int) + p.1.num * p.2.num * m) (m * (p.1.den : Int) * (p.2.den : Int)) (A + a + b + 1) (some (encQ p.1)) (some (encQ p.2)) n1 tz (lt_up q6 (by omega)) (fun x hx => hp x (List.mem_cons_of_mem _ hx)) (by omega)
    refine ⟨t', m', y4, y5, ?_, r1, r2, ?_⟩
    · rw [List.map_cons, for_cons (σ1 := [x0, x1, some (.int t), some (.int m), some (encQ p.1), some (encQ p.2)]) (h1 := h) (by simp [tupT, seqOf, tsCons, tsNil]) (?_ : _ = SOut.next _ _)]
      · exact e
      · simp [i_top, i_bot, p_muli, m1, m2, m3, m4, m5, m6]
    · rw [r3, dot_top t m p.1 p.2 hm]
      rfl
theorem v_ldot {xs ys : List Rat} {a b : Nat} (hx : ∀ q ∈ xs, Qs a q) (hy : ∀ q ∈ ys, Qs b q) (hl : 1 + (xs.length + 1) * (a + b + 1) ≤ 8000) (h : Hd) : den__law_dot [encR xs, .lst (ys.map encQ)] h = .ok (encQ (dotQ xs ys)) h := by
  have mem : ∀ p ∈ xs.zip ys, Qs a p.1 ∧ Qs b p.2 := fun p hp => ⟨hx _ (List.of_mem_zip hp).1, hy _ (List.of_mem_zip hp).2⟩
  obtain ⟨t', m', y4, y5, e, r1, r2, r3⟩ := ld_loop (h := h) (x0 := some (encR xs)) (x1 := some (.lst (ys.map encQ))) (xs.zip ys) 0 1 1 none none (by decide) (by decide) (by decide) mem (by
    have : (xs.zip ys).length ≤ xs.length := by rw [List.length_zip]; omega
    have := Nat.mul_le_mul_right (a + b + 1) (Nat.succ_le_succ this)
    simp only [Nat.succ_eq_add_one] at this
    omega)
  have z : Rat.divInt 0 1 = 0 := by decide +kernel
  rw [z] at r3
  have sh := v_lshare (t := t') r1 r2 h
  rw [r3] at sh
  refine bodyD_ret ?_
  unfold body__law_dot
  rw [seq_n (σ1 := [some (encR xs), some (.lst (ys.map encQ)), some (.int 0), none, none, none]) (h1 := h) (by simp only [startD]; simp)]
  rw [seq_n (σ1 := [some (encR xs), some (.lst (ys.map encQ)), some (.int 0), some (.int 1), none, none]) (h1 := h) (by simp)]
  rw [seq_n (σ1 := [some (encR xs), some (.lst (ys.map encQ)), some (.int t'), some (.int m'), y4, y5]) (h1 := h) (by
    rw [e_forS (e_zipI (xs := xs.map encQ) (ys := ys.map encQ) (h1 := h) (by simp [encR])), pair_map]
    exact e)]
  simp [sh, dotQ]
theorem v_ltimes {A M : List (List Rat)} {B : Nat} (hA : SqM B A) (hM : SqM B M) (hl : A.length = M.length) (h1 : 1 ≤ B) (hB : B ≤ 300) (h : Hd) : den__law_times [encMt A, encMt M] h = .ok (encMt (mulM A M)) h := by
  obtain ⟨a1, a5, ha⟩ := hA
  obtain ⟨m1, m5, hm⟩ := hM
  have c0 : ∀ (j : Nat), j < M.length → ∀ x2 x3 x5 : Option D, lcD (seqI (vr 1)) (setT 5) (yesB) (bin2 dIx (vr 5) (vr 4)) [5] [some (encMt A), some (encMt M), x2, x3, some (.int (j : Int)), x5] h = .ok (.lst ((colQ M j).map encQ)) h := fun j hj x2 x3 x5 => by
    refine e_lcD (h1 := h) (src := ⟨M.map encR, []⟩) (by simp [seqI, srcOf, encMt, wipeD]) ?_
    unfold colQ
    rw [List.map_map]
    refine lc_mapL (k := fun l : List Rat => encQ (l.getD j 0)) (acc := []) fun l hl' => ⟨_, rfl, rfl, ?_⟩
    have ix := ixr (r := l) (j := j) (by rw [(hm l hl').1]; exact hj) h
    generalize l.getD j 0 = z at ix
    simp [wipeD, ix]
  have c2 : ∀ r ∈ A, ∀ x4 x5 : Option D, lcD (rng1 (aCons (vr 2) (aNil))) (setT 4) (yesB) (callD den__law_dot 2 (aCons (vr 3) (aCons (lcD (seqI (vr 1)) (setT 5) (yesB) (bin2 dIx (vr 5) (vr 4)) [5]) (aNil)))) [4] [some (encMt A), some (encMt M), some (.int (M.length : Int)), some (encR r), x4, x5] h = .ok (.lst (((List.range M.length).map fun j => dotQ r (colQ M j)).map encQ)) h := fun r hr x4 x5 => by
    refine e_lcD (h1 := h) (e_rng1 (h1 := h) (j := (M.length : Int)) (by simp) (by omega) (by omega)) ?_
    rw [Int.toNat_natCast, List.map_map]
    refine lc_range fun j hj => ⟨_, rfl, rfl, ?_⟩
    show _ = Out.ok (encQ (dotQ r (colQ M j))) h
    have e0 := c0 j hj (some (.int (M.length : Int))) (some (encR r)) x5
    have e := v_ldot (ha r hr).2 (colQ_qs (j := j) h1 fun r hr => (hm r hr).2) (by
      have := Nat.mul_le_mul (show r.length + 1 ≤ 6 by rw [(ha r hr).1]; omega) (show B + B + 1 ≤ 601 by omega)
      omega) h
    generalize (colQ M j).map encQ = L at e0 e
    simp [wipeD, e0, e]
  have c3 : lcD (seqI (vr 0)) (setT 3) (yesB) (callP tupleD (aCons (lcD (rng1 (aCons (vr 2) (aNil))) (setT 4) (yesB) (callD den__law_dot 2 (aCons (vr 3) (aCons (lcD (seqI (vr 1)) (setT 5) (yesB) (bin2 dIx (vr 5) (vr 4)) [5]) (aNil)))) [4]) (aNil))) [3] [some (encMt A), some (encMt M), some (.int (M.length : Int)), none, none, none] h = .ok (.lst ((mulM A M).map encR)) h := by
    refine e_lcD (h1 := h) (src := ⟨A.map encR, []⟩) (by simp [seqI, srcOf, encMt]) ?_
    unfold mulM
    rw [List.map_map]
    refine lc_mapL (k := fun r : List Rat => encR ((List.range M.length).map fun j => dotQ r (colQ M j))) (acc := []) fun r hr => ⟨_, rfl, rfl, ?_⟩
    have e := c2 r hr none none
    unfold encR
    generalize ((List.range M.length).map fun j => dotQ r (colQ M j)).map encQ = L at e
    unfold encR at e
    simp [wipeD, e]
  refine bodyD_ret ?_
  unfold body__law_times
  rw [seq_n (σ1 := [some (encMt A), some (encMt M), some (.int (M.length : Int)), none, none, none]) (h1 := h) (by
    rw [show startD 6 [encMt A, encMt M] = [some (encMt A), some (encMt M), none, none, none, none] from rfl]
    simp [encMt])]
  generalize hL : (mulM A M).map encR = L at c3
  simp [c3]
  rw [← hL]
  rfl
noncomputable abbrev rwB : DenS := seqS (setS 4 (callD den__law_draw 2 (aCons (vr 0) (aCons (bin2 dIx (lstD (aCons (cst (.int 3)) (aCons (cst (.int 9)) (aCons (cst (.int 41)) (aNil))))) (callD den__law_draw 2 (aCons (vr 0) (aCons (cst (.int 3)) (aNil))))) (aNil))))) (exS (metL appP (vr 2) (aCons (callD den__law_share 2 (aCons (bin2 dMul (vr 4) (bin2 dSub (cst (.int 1)) (bin2 dMul (cst (.int 2)) (callD den__law_draw 2 (aCons (vr 0) (aCons (cst (.int 2)) (aNil))))))) (aCons (bin2 dAdd (cst (.int 1)) (callD den__law_draw 2 (aCons (vr 0) (aCons (bin2 dIx (lstD (aCons (cst (.int 1)) (aCons (cst (.int 3)) (aCons (cst (.int 9)) (aNil))))) (callD den__law_draw 2 (aCons (vr 0) (aCons (cst (.int 3)) (aNil))))) (aNil))))) (aNil)))) (aNil))))
theorem rw_loop {i n : Nat} {H : Hd} (p : PenAt i H) (hn : n ≤ 10) : ∃ (qs : List Rat) (H' : Hd) (x3 x4 : Option D),
    forLoop (setT 3) rwB [] (rangeItems 0 n) [some (.ref i), some (.int (n : Int)), some (.ref H.length), none, none] (H ++ [.lst []]) =
      .next [some (.ref i), some (.int (n : Int)), some (.ref H.length), x3, x4] (H' ++ [.lst (qs.map encQ)]) ∧ qs.length = n ∧ (∀ q ∈ qs, Qs 8 q) ∧ PenStep i H H' := by
  obtain ⟨σ', h', e, hI⟩ := for_step (gt := setT 3) (fb := rwB) (k := 0) (items := rangeItems 0 n) (σ := [some (.ref i), some (.int (n : Int)), some (.ref H.length), none, none]) (h := H ++ [.lst []])
    (I := fun k σ hh => ∃ (qs : List Rat) (H' : Hd) (x3 x4 : Option D), σ = [some (.ref i), some (.int (n : Int)), some (.ref H.length), x3, x4] ∧ hh = H' ++ [.lst (qs.map encQ)] ∧ qs.length = k ∧ (∀ q ∈ qs, Qs 8 q) ∧ PenStep i H H')
    ⟨[], H, none, none, rfl, rfl, rfl, fun q hq => absurd hq (by simp), PenStep.refl p⟩ fun j d hd σ hh hI => by
      obtain ⟨qs, H', x3, x4, rfl, rfl, lq, qq, s⟩ := hI
      have hj : j < n := by
        have := (List.getElem?_eq_some_iff.mp hd).1
        rwa [rng_len] at this
      have p' := s.at p
      have lH := s.len
      obtain ⟨r1, H1, e1, a1, b1, s1⟩ := v_drawS (o := .lst (qs.map encQ)) p' (m := 3) (by decide) (by decide)
      have p1 := s1.at p'
      obtain ⟨m1, hm1, em1⟩ := ix3 (a := 3) (b := 9) (c := 41) a1 b1
      obtain ⟨r2, H2, e2, a2, b2, s2⟩ := v_drawS (o := .lst (qs.map encQ)) p1 (m := m1) (by omega) (by omega)
      have p2 := s2.at p1
      obtain ⟨r3, H3, e3, a3, b3, s3⟩ := v_drawS (o := .lst (qs.map encQ)) p2 (m := 2) (by decide) (by decide)
      have p3 := s3.at p2
      obtain ⟨r4, H4, e4, a4, b4, s4⟩ := v_drawS (o := .lst (qs.map encQ)) p3 (m := 3) (by decide) (by decide)
      have p4 := s4.at p3
      obtain ⟨m2, hm2, em2⟩ := ix3 (a := 1) (b := 3) (c := 9) a4 b4
      obtain ⟨r5, H5, e5, a5, b5, s5⟩ := v_drawS (o := .lst (qs.map encQ)) p4 (m := m2) (by omega) (by omega)
      have S := s.trans (s1.trans (s2.trans (s3.trans (s4.trans s5))))
      have l5 : H5.length = H.length := S.len
      have l2 : H2.length = H.length := by rw [s2.len, s1.len, lH]
      have r41 : r2 < 41 := by omega
      have bn : (1 + r5 : Int) ≠ 0 := by omega
      have mo : mulOk 2 r3 := mulOk_of (by decide) (by omega)
      have mo2 : mulOk r2 (1 - 2 * r3) := mulOk_of (by omega) (by omega)
      have f3 : r3 = 0 ∨ r3 = 1 := by omega
      have tp : (r2 * (1 - 2 * r3)).natAbs < 2 ^ 8 := by
        rcases f3 with rfl | rfl <;> omega
      have sh := v_lshare (t := r2 * (1 - 2 * r3)) (b := 1 + r5) bn (lt_up (a := 8) (by omega) (by decide)) (H5 ++ [.lst (qs.map encQ)])
      have qn : Qs 8 (Rat.divInt (r2 * (1 - 2 * r3)) (1 + r5)) := Qs.of_divInt bn tp (by omega)
      generalize Rat.divInt (r2 * (1 - 2 * r3)) (1 + r5) = q at sh qn
      have ap : appP (.ref H.length) [encQ q] (H5 ++ [.lst (qs.map encQ)]) = some (.non, H5 ++ [.lst ((qs ++ [q]).map encQ)]) := by
        rw [← l5, Dz.app_ok (by simp; omega), List.map_append]
        rfl
      have ld : isLD (.ref H.length) (H2 ++ [.lst (qs.map encQ)]) = true := by
        rw [← l2]
        exact isLD_snoc _ _
      refine ⟨[some (.ref i), some (.int (n : Int)), some (.ref H.length), some d, x4], _, [some (.ref i), some (.int (n : Int)), some (.ref H.length), some d, some (.int r2)], H5 ++ [.lst ((qs ++ [q]).map encQ)], rfl, ?_, ⟨qs ++ [q], H5, some d, some (.int r2), rfl, rfl, by simp; omega, fun x hx => ?_, S⟩⟩
      · refine (seq_n (σ1 := [some (.ref i), some (.int (n : Int)), some (.ref H.length), some d, some (.int r2)]) (h1 := H2 ++ [.lst (qs.map encQ)]) ?_).trans ?_
        · simp [e1, em1, e2]
        · simp [ld, e3, e4, em2, e5, p_muli, mo, mo2, sh, ap, -List.map_append]
      · rcases List.mem_append.mp hx with hx | hx
        · exact qq x hx
        · simp at hx; subst hx; exact qn
  rw [rng_len] at hI
  obtain ⟨qs, H', x3, x4, rfl, rfl, lq, qq, s⟩ := hI
  exact ⟨qs, H', x3, x4, e, by omega, qq, s⟩
theorem v_rowof {i n : Nat} {h : Hd} (p : PenAt i h) (hf : FlatH h) (hn : n ≤ 10) : ∃ (qs : List Rat) (h' : Hd), den__law_row_of [.ref i, .int (n : Int)] h = .ok (encR qs) h' ∧ qs.length = n ∧ (∀ q ∈ qs, Qs 8 q) ∧ PenStep i h h' := by
  obtain ⟨qs, H', x3, x4, el, lq, qq, s2⟩ := rw_loop (n := n) p hn
  have hloop : forS (rng1 (aCons (vr 1) aNil)) (setT 3) rwB [some (.ref i), some (.int (n : Int)), some (.ref h.length), none, none] (h ++ [.lst []]) = .next [some (.ref i), some (.int (n : Int)), some (.ref h.length), x3, x4] (H' ++ [.lst (qs.map encQ)]) := by
    rw [e_forS (e_rng1 (h1 := h ++ [.lst []]) (j := (n : Int)) (by simp) (by omega) (by omega)), Int.toNat_natCast]
    exact el
  have l2 : H'.length = h.length := s2.len
  have tp : tupleD [.ref h.length] (H' ++ [.lst (qs.map encQ)]) = some (.tup (qs.map encQ), H' ++ [.lst (qs.map encQ)]) := by
    rw [← l2]
    exact p_tupr (snoc_at _ _)
  have key : bodyD 5 body__law_row_of [.ref i, .int (n : Int)] h = .ok (.tup (qs.map encQ)) (H' ++ [.lst (qs.map encQ)]) := by
    refine bodyD_ret ?_
    unfold body__law_row_of
    rw [seq_n (σ1 := [some (.ref i), some (.int (n : Int)), some (.ref h.length), none, none]) (h1 := h ++ [.lst []]) (by simp only [startD]; simp)]
    rw [seq_n hloop]
    simp [tp]
  refine ⟨qs, H', ?_, lq, qq, s2⟩
  have ht : (H' ++ [Ob.lst (qs.map encQ)]).take h.length = H' := by rw [← l2]; simp
  unfold den__law_row_of bodyS
  rw [key, settle_ok (d := .tup (qs.map encQ)) (show NR (.tup _) from NRL_map (f := encQ) NR_enc _) (by rw [ht]; exact s2.flat hf), ht]
  rfl
theorem so_fin {i : Nat} {h h4 tl : Hd} {ws : List Int} (e : bodyD 8 body__law_slants_of [.ref i] h = .ok (.tup (ws.map D.int)) (h4 ++ tl)) (hl : h4.length = h.length) (hf : FlatH h4) : den__law_slants_of [.ref i] h = .ok (.tup (ws.map D.int)) h4 := by
  have ht : (h4 ++ tl).take h.length = h4 := by rw [← hl]; simp
  unfold den__law_slants_of bodyS
  rw [e, settle_ok (d := .tup (ws.map D.int)) (show NR (.tup _) from NRL_map (f := D.int) (fun _ => trivial) _) (by rw [ht]; exact hf), ht]
theorem v_slantsof {i : Nat} {h : Hd} (p : PenAt i h) (hf : FlatH h) : ∃ xs h', den__law_slants_of [.ref i] h = .ok (.tup (xs.map D.int)) h' ∧ Sl xs ∧ PenStep i h h' := by
  obtain ⟨r1, h1, e1, a1, b1, s1⟩ := v_draw p (m := 5) (by decide) (by decide)
  have p1 := s1.at p
  obtain ⟨r3, h3, e3, a3, b3, s3⟩ := v_draw p1 (m := 5) (by decide) (by decide)
  have p3 := s3.at p1
  obtain ⟨s, ⟨c1, c2⟩, es⟩ := ix5 a3 b3
  have mo : mulOk 2 s := mulOk_of (by decide) (by omega)
  obtain ⟨n, hn⟩ : ∃ n : Nat, 1 + r1 = (n : Int) := ⟨(1 + r1).toNat, by omega⟩
  have n1 : 1 ≤ n := by omega
  have n5 : n ≤ 5 := by omega
  have mn : mulOk 2 (n : Int) := mulOk_of (by decide) (by omega)
  obtain ⟨ys, h4, e4, l4, q4, s4⟩ := lc_inv (gt := setT 6) (ft := yesB) (fe := bin2 dSub (callD den__law_draw 2 (aCons (vr 0) (aCons (bin2 dAdd (bin2 dMul (cst (.int 2)) (vr 2)) (cst (.int 1))) aNil))) (vr 2))
    (σ0 := [some (.ref i), some (.int (n : Int)), some (.int s), none, none, none, none, none]) (I := fun hh => PenStep i h3 hh) (Q := fun y => ∃ z : Int, y = .int z ∧ -50 ≤ z ∧ z ≤ 50) (items := rangeItems 0 (2 * (n : Int) - 1).toNat) (acc := []) (PenStep.refl p3) fun d hd hh hI => by
      obtain ⟨r, hr, er, ar, br, sr⟩ := v_draw (hI.at p3) (m := 2 * s + 1) (by omega) (by omega)
      refine ⟨_, .int (r - s), hr, rfl, rfl, ?_, hI.trans sr, r - s, rfl, by omega, by omega⟩
      simp [p_muli, mo, er]
  obtain ⟨zs, rfl, hz⟩ := ints_of q4
  rw [List.length_map, rng_len] at l4
  have lz : zs.length = 2 * n - 1 := by omega
  have p4 := s4.at p3
  have hc : lcM (rng1 (aCons (bin2 dSub (bin2 dMul (cst (.int 2)) (vr 1)) (cst (.int 1))) aNil)) (setT 6) yesB (bin2 dSub (callD den__law_draw 2 (aCons (vr 0) (aCons (bin2 dAdd (bin2 dMul (cst (.int 2)) (vr 2)) (cst (.int 1))) aNil))) (vr 2)) [6] [some (.ref i), some (.int (n : Int)), some (.int s), none, none, none, none, none] h3 = .ok (.ref h4.length) (h4 ++ [.lst (zs.map D.int)]) := by
    refine e_lcM (h1 := h3) (e_rng1 (h1 := h3) (j := 2 * (n : Int) - 1) (by simp [p_muli, mn]) (by omega) (by omega)) ?_
    exact e4
  obtain ⟨way, h5, e5, a5, b5, s5⟩ := v_drawS (o := .lst (zs.map D.int)) p4 (m := 10) (by decide) (by decide)
  have p5 := s5.at p4
  obtain ⟨r6, h6, e6, a6, b6, s6⟩ := v_drawS (o := .lst (zs.map D.int)) p5 (m := 3) (by decide) (by decide)
  have p6 := s6.at p5
  have S := s1.trans (s3.trans (s4.trans (s5.trans s6)))
  have hl : h6.length = h.length := S.len
  have hl4 : h4.length = h6.length := by rw [hl]; exact (s1.trans (s3.trans s4)).len
  have hf6 := S.flat hf
  obtain ⟨t, ht⟩ : ∃ t : Nat, 1 + r6 = (t : Int) := ⟨(1 + r6).toNat, by omega⟩
  generalize hH : h6 ++ [Ob.lst (zs.map D.int)] = H0 at e6
  have at0 : H0[h4.length]? = some (.lst (zs.map D.int)) := by rw [← hH, hl4]; exact snoc_at _ _
  have sl := fun lo hi => p_slr (mk := mkL) at0 lo hi
  have k1 : cutD (zs.map D.int) none (some (n : Int)) = (zs.take n).map D.int := by rw [cut_to, List.map_take]
  have k2 : cutD (zs.map D.int) none (some ((n : Int) - 1)) = (zs.take (n - 1)).map D.int := by rw [show (n : Int) - 1 = ((n - 1 : Nat) : Int) by omega, cut_to, List.map_take]
  have k4 : cutD (zs.map D.int) none (some (t : Int)) = (zs.take t).map D.int := by rw [cut_to, List.map_take]
  have tp : ∀ ws : List Int, tupleD [.ref H0.length] (H0 ++ [.lst (ws.map D.int)]) = some (.tup (ws.map D.int), H0 ++ [.lst (ws.map D.int)]) := fun ws => p_tupr (snoc_at _ _)
  have tp0 : tupleD [.ref h4.length] H0 = some (.tup (zs.map D.int), H0) := p_tupr at0
  have ln0 : lenD [.ref h4.length] H0 = some (.int (zs.length : Int), H0) := by
    have := p_lenr at0
    rwa [List.length_map] at this
  have ad : ∀ A B : List Int, A.length ≤ 100 → B.length ≤ 100 → dAddM (.lst (A.map D.int)) (.lst (B.map D.int)) H0 = some (.ref H0.length, H0 ++ [.lst ((A ++ B).map D.int)]) := fun A B hA hB => by
    show dAddW mkM _ _ _ = _
    rw [p_addl _ mkM _ _ (by simp; omega), List.map_append]
    rfl
  have slen : ∀ ws : List Int, ws.length = 2 * n - 1 → (∀ x ∈ ws, -50 ≤ x ∧ x ≤ 50) → Sl ws := fun ws h1 h2 => ⟨⟨n, n1, n5, h1⟩, h2⟩
  have app : ∀ ws : List Int, H0 ++ [Ob.lst (ws.map D.int)] = h6 ++ ([Ob.lst (zs.map D.int)] ++ [.lst (ws.map D.int)]) := fun ws => by rw [← hH, List.append_assoc]
  have i345 : ∀ w : Int, ∀ hh, inD false (.int w) (.tup [.int 3, .int 4, .int 5]) hh = some (.bl (decide (w = 3 ∨ w = 4 ∨ w = 5)), hh) := fun w hh => by
    show some (D.bl (inV (.int w) [.int 3, .int 4, .int 5]), hh) = _
    have : inV (.int w) [.int 3, .int 4, .int 5] = decide (w = 3 ∨ w = 4 ∨ w = 5) := by
      rw [Bool.eq_iff_iff]
      simp [inV, eqV]
      omega
    rw [this]
  -- the first five steps
  have start : ∀ f : DenS, (∀ x, f [some (.ref i), some (.int (n : Int)), some (.int s), some (.ref h4.length), some (.int way), some (.int (t : Int)), none, none] H0 = x → (seqS (setS 1 (bin2 dAdd (cst (.int 1)) (callD den__law_draw 2 (aCons (vr 0) (aCons (cst (.int 5)) (aNil)))))) (seqS (setS 2 (bin2 dIx (lstD (aCons (cst (.int 1)) (aCons (cst (.int 2)) (aCons (cst (.int 3)) (aCons (cst (.int 9)) (aCons (cst (.int 50)) (aNil))))))) (callD den__law_draw 2 (aCons (vr 0) (aCons (cst (.int 5)) (aNil)))))) (seqS (setS 3 (lcM (rng1 (aCons (bin2 dSub (bin2 dMul (cst (.int 2)) (vr 1)) (cst (.int 1))) (aNil))) (setT 6) (yesB) (bin2 dSub (callD den__law_draw 2 (aCons (vr 0) (aCons (bin2 dAdd (bin2 dMul (cst (.int 2)) (vr 2)) (cst (.int 1))) (aNil)))) (vr 2)) [6])) (seqS (setS 4 (callD den__law_draw 2 (aCons (vr 0) (aCons (cst (.int 10)) (aNil))))) (seqS (setS 5 (bin2 dAdd (cst (.int 1)) (callD den__law_draw 2 (aCons (vr 0) (aCons (cst (.int 3)) (aNil)))))) f))))) (startD 8 [.ref i]) h = x) := fun f x hx => by
    rw [seq_n (σ1 := [some (.ref i), some (.int (n : Int)), none, none, none, none, none, none]) (h1 := h1) (by simp only [startD]; simp [e1, hn])]
    rw [seq_n (σ1 := [some (.ref i), some (.int (n : Int)), some (.int s), none, none, none, none, none]) (h1 := h3) (by simp [e3, es])]
    rw [seq_n (σ1 := [some (.ref i), some (.int (n : Int)), some (.int s), some (.ref h4.length), none, none, none, none]) (h1 := h4 ++ [.lst (zs.map D.int)]) (by simp [hc])]
    rw [seq_n (σ1 := [some (.ref i), some (.int (n : Int)), some (.int s), some (.ref h4.length), some (.int way), none, none, none]) (h1 := h5 ++ [.lst (zs.map D.int)]) (by simp [e5])]
    rw [seq_n (σ1 := [some (.ref i), some (.int (n : Int)), some (.int s), some (.ref h4.length), some (.int way), some (.int (t : Int)), none, none]) (h1 := H0) (by simp [e6, ht])]
    exact hx
  have ways : way = 0 ∨ way = 1 ∨ way = 2 ∨ (way = 3 ∨ way = 4 ∨ way = 5) ∨ (way = 6 ∨ way = 7 ∨ way = 8 ∨ way = 9) := by omega
  rcases ways with rfl | rfl | rfl | hw | hw
  · obtain ⟨W9, hW9⟩ : ∃ W9, W9 = (List.replicate 9 (zs.take t)).flatten := ⟨_, rfl⟩
    obtain ⟨ws, hws⟩ : ∃ ws, ws = W9.take zs.length := ⟨_, rfl⟩
    have tl : (zs.take t).length ≤ 9 := by simp; omega
    have mu : ∀ hh, dMul (.lst ((zs.take t).map D.int)) (.int 9) hh = some (.lst (W9.map D.int), hh) := fun hh => by
      have := p_mull hh mkL ((zs.take t).map D.int) 9 (by simp; omega)
      show dMulW mkL _ _ _ = _
      rw [this, hW9, show (9 : Int).toNat = 9 from rfl, List.map_flatten, List.map_replicate]
      rfl
    have k5 : cutD (W9.map D.int) none (some (zs.length : Int)) = ws.map D.int := by rw [cut_to, hws, List.map_take]
    have lw : ws.length = 2 * n - 1 := by
      rw [hws, List.length_take, hW9, flat_len, List.length_take]
      have : 1 ≤ min t zs.length := by omega
      have := Nat.mul_le_mul_left 9 this
      omega
    refine ⟨ws, h6, so_fin (tl := [.lst (zs.map D.int)] ++ [.lst (ws.map D.int)]) (bodyD_ret ?_) hl hf6, slen ws lw ?_, S⟩
    · rw [← app]
      refine start _ _ ?_
      simp [sl, k4, mu, ln0, k5, tp, i345, -List.map_take, -List.map_flatten]
    · intro x hx
      rw [hws, hW9] at hx
      obtain ⟨l, hl', hx⟩ := List.mem_flatten.mp (List.mem_of_mem_take hx)
      rw [List.eq_of_mem_replicate hl'] at hx
      exact take_mem hz x hx
  · obtain ⟨r7, h7, e7, a7, b7, s7⟩ := v_drawS (o := .lst (zs.map D.int)) p6 (m := 3) (by decide) (by decide)
    obtain ⟨z, hzz, ez⟩ := ix3 (a := 50) (b := -50) (c := 0) a7 b7
    rw [hH] at e7
    have hl7 : h7.length = h.length := (S.trans s7).len
    have hl47 : h4.length = h7.length := by rw [hl4, hl, hl7]
    have at7 : (h7 ++ [Ob.lst (zs.map D.int)])[h4.length]? = some (.lst (zs.map D.int)) := by rw [hl47]; exact snoc_at _ _
    have st : dSet (.ref h4.length) (.int ((n : Int) - 1)) (.int z) (h7 ++ [.lst (zs.map D.int)]) = some (h7 ++ [.lst ((zs.set (n - 1) z).map D.int)]) := by
      rw [p_setr at7 (m := n - 1) (by rw [show (n : Int) - 1 = ((n - 1 : Nat) : Int) by omega]; exact ixN_nat (by rw [List.length_map]; omega)), hl47, snoc_set, List.map_set]
    have tp' : tupleD [.ref h4.length] (h7 ++ [.lst ((zs.set (n - 1) z).map D.int)]) = some (.tup ((zs.set (n - 1) z).map D.int), h7 ++ [.lst ((zs.set (n - 1) z).map D.int)]) := by rw [hl47]; exact p_tupr (snoc_at _ _)
    refine ⟨zs.set (n - 1) z, h7, so_fin (tl := [.lst ((zs.set (n - 1) z).map D.int)]) (bodyD_ret ?_) hl7 ((S.trans s7).flat hf), slen _ (by simp; omega) (fun x hx => (List.mem_or_eq_of_mem_set hx).elim (hz x) fun e => by rw [e]; omega), S.trans s7⟩
    refine start _ _ ?_
    simp [e7, ez, asgS, subT, st, tp', i345, -List.map_set]
  · obtain ⟨ys, h7', e7, l7, q7, ⟨h7, hh7, s7⟩⟩ := lc_invG (g := [(h4.length, zs.map D.int)]) (fun hh ⟨h7, e, s7⟩ p hp => by
        simp at hp
        subst hp
        rw [e, hl4, ← s7.len]
        exact snoc_at _ _) (gt := setT 7) (ft := yesB) (fe := bin2 dMul (vr 7) (callP (intD) (aCons (bin2 dEq (callD den__law_draw 2 (aCons (vr 0) (aCons (cst (.int 3)) (aNil)))) (cst (.int 0))) (aNil))))
      (σ0 := [some (.ref i), some (.int (n : Int)), some (.int s), some (.ref h4.length), some (.int 2), some (.int (t : Int)), none, none]) (I := fun hh => ∃ h7, hh = h7 ++ [Ob.lst (zs.map D.int)] ∧ PenStep i h6 h7) (Q := fun y => ∃ z : Int, y = .int z ∧ -50 ≤ z ∧ z ≤ 50) (items := zs.map D.int) (acc := []) (h := H0) ⟨h6, hH.symm, PenStep.refl p6⟩ fun d hd hh hI => by
        obtain ⟨z, hz', rfl⟩ := List.mem_map.mp hd
        obtain ⟨h7, rfl, s7⟩ := hI
        obtain ⟨r8, h8, e8, a8, b8, s8⟩ := v_drawS (o := .lst (zs.map D.int)) (s7.at p6) (m := 3) (by decide) (by decide)
        have bz := hz z hz'
        by_cases c : r8 = 0
        · subst c
          have m1 : mulOk z 1 := mulOk_of (by omega) (by decide)
          exact ⟨_, .int (z * 1), _, rfl, rfl, by simp [e8, p_muli, m1], ⟨h8, rfl, s7.trans s8⟩, z * 1, rfl, by omega, by omega⟩
        · have m1 : mulOk z 0 := mulOk_of (by omega) (by decide)
          exact ⟨_, .int (z * 0), _, rfl, rfl, by simp [e8, c, p_muli, m1], ⟨h8, rfl, s7.trans s8⟩, z * 0, rfl, by omega, by omega⟩
    subst hh7
    obtain ⟨ws, rfl, hw⟩ := ints_of q7
    have lw : ws.length = 2 * n - 1 := by simpa [lz] using l7
    have hl7 : h7.length = h.length := (S.trans s7).len
    have sq : seqI (vr 3) [some (.ref i), some (.int (n : Int)), some (.int s), some (.ref h4.length), some (.int 2), some (.int (t : Int)), none, none] H0 = .ok ⟨zs.map D.int, [(h4.length, zs.map D.int)]⟩ H0 := by
      unfold seqI
      simp only [e_vrS, e_vr0, bind_ok]
      unfold srcOf
      dsimp only
      rw [at0]
    have hc2 : lcM (seqI (vr 3)) (setT 7) (yesB) (bin2 dMul (vr 7) (callP (intD) (aCons (bin2 dEq (callD den__law_draw 2 (aCons (vr 0) (aCons (cst (.int 3)) (aNil)))) (cst (.int 0))) (aNil)))) [7] [some (.ref i), some (.int (n : Int)), some (.int s), some (.ref h4.length), some (.int 2), some (.int (t : Int)), none, none] H0 = .ok (.ref (h7 ++ [Ob.lst (zs.map D.int)]).length) ((h7 ++ [Ob.lst (zs.map D.int)]) ++ [.lst (ws.map D.int)]) := by
      refine e_lcM (h1 := H0) sq ?_
      exact e7
    have tp' : tupleD [.ref (h7 ++ [Ob.lst (zs.map D.int)]).length] ((h7 ++ [Ob.lst (zs.map D.int)]) ++ [.lst (ws.map D.int)]) = some (.tup (ws.map D.int), (h7 ++ [Ob.lst (zs.map D.int)]) ++ [.lst (ws.map D.int)]) := p_tupr (snoc_at _ _)
    refine ⟨ws, h7, so_fin (tl := [.lst (zs.map D.int)] ++ [.lst (ws.map D.int)]) (bodyD_ret ?_) hl7 ((S.trans s7).flat hf), slen ws lw hw, S.trans s7⟩
    rw [← List.append_assoc]
    generalize h7 ++ [Ob.lst (zs.map D.int)] = H7 at hc2 tp'
    refine start _ _ ?_
    simp [hc2, tp', i345]
  · have a0 := ad (zs.take n) (zs.take (n - 1)).reverse (by simp; omega) (by simp; omega)
    rw [List.map_reverse] at a0
    refine ⟨zs.take n ++ (zs.take (n - 1)).reverse, h6, so_fin (tl := [.lst (zs.map D.int)] ++ [.lst ((zs.take n ++ (zs.take (n - 1)).reverse).map D.int)]) (bodyD_ret ?_) hl hf6, slen _ (by simp; omega) (app_mem (take_mem hz) fun x hx => take_mem hz x (List.mem_reverse.mp hx)), S⟩
    rw [← app]
    refine start _ _ ?_
    have w0 : ¬ way = 0 := by omega
    have w1 : ¬ way = 1 := by omega
    have w2 : ¬ way = 2 := by omega
    simp [w0, w1, w2, hw, i345, sl, k1, k2, a0, tp, -List.map_take, -List.map_append, -List.map_reverse]
  · refine ⟨zs, h6, so_fin (tl := [.lst (zs.map D.int)]) (bodyD_ret ?_) hl hf6, slen _ lz hz, S⟩
    rw [hH]
    refine start _ _ ?_
    have w0 : ¬ way = 0 := by omega
    have w1 : ¬ way = 1 := by omega
    have w2 : ¬ way = 2 := by omega
    have w3 : ¬ (way = 3 ∨ way = 4 ∨ way = 5) := by omega
    simp [w0, w1, w2, w3, i345, tp0]
end
end Dz.PB

namespace Dz.PB
open PySem PySem.Spec PyProof.Rows L2 Dz Dz.PL
theorem v_tableof {xs : List Int} {n : Nat} (n1 : 1 ≤ n) (n5 : n ≤ 5) (hl : xs.length = 2 * n - 1) (h : Hd) : den__law_table_of [.tup (xs.map D.int)] h = .ok (encT (tabL xs n)) h := by
  have inner : ∀ i : Nat, i < n → ∀ x3 : Option D, lc__law_table_of_1 [some (.tup (xs.map D.int)), some (.int (n : Int)), some (.int (i : Int)), x3] h = .ok (.lst ((lineOf xs n i).map D.int)) h := fun i hi x3 => by
    unfold lc__law_table_of_1 lineOf
    rw [List.map_map]
    refine lcD_rng (by simp -implicitDefEqProofs [x_rng1, kR1_nat, show n ≤ 1000000 by omega]) fun j hj => ?_
    have i1 : dIx (.tup (xs.map D.int)) (.int ((j : Int) - (i : Int) + (n : Int) - 1)) h = some (.int (xs.getD (j + n - 1 - i) 0), h) := by
      have := p_ixt h _ _ (atmap (xs := xs) (i := (j : Int) - (i : Int) + (n : Int) - 1) (by omega) (by omega))
      rw [show ((j : Int) - (i : Int) + (n : Int) - 1).toNat = j + n - 1 - i by omega] at this
      exact this
    show _ = Out.ok (D.int (xs.getD (j + n - 1 - i) 0)) h
    generalize xs.getD (j + n - 1 - i) 0 = a at i1
    simp -implicitDefEqProofs [wipeD, i1]
  have outer : ∀ x2 x3 : Option D, lc__law_table_of_2 [some (.tup (xs.map D.int)), some (.int (n : Int)), x2, x3] h = .ok (encT (tabL xs n)) h := fun x2 x3 => by
    unfold lc__law_table_of_2 encT tabL
    rw [List.map_map]
    exact lcD_rng (by simp -implicitDefEqProofs [x_rng1, kR1_nat, show n ≤ 1000000 by omega]) fun i hi => inner i hi x3
  have d : divOk (2 : Int) := by decide
  have e : ((xs.length : Int) + 1).fdiv 2 = (n : Int) := half_len n1 hl
  refine bodyD_ret ?_
  unfold body__law_table_of
  simp -implicitDefEqProofs [startD, p_divi, d, e, outer]
def tabQ (t : List (List Int)) : List (List Rat) := t.map cqs
theorem v_shared {t : List (List Int)} (h : Hd) : den__law_shared [encT t] h = .ok (encMt (tabQ t)) h := by
  have inner : ∀ (l : List Int) (x0 x2 : Option D), lc__law_shared_1 [x0, some (.lst (l.map D.int)), x2] h = .ok (.lst ((cqs l).map encQ)) h := fun l x0 x2 => by
    unfold lc__law_shared_1 cqs
    rw [List.map_map]
    exact lcD_seq (l := l) (g := D.int) (by simp -implicitDefEqProofs [x_seqI, kSeq_lst]) fun a _ => by simp -implicitDefEqProofs [wipeD, enc_int]
  have outer : ∀ x1 x2 : Option D, lc__law_shared_2 [some (encT t), x1, x2] h = .ok (.lst ((tabQ t).map encR)) h := fun x1 x2 => by
    unfold lc__law_shared_2 tabQ
    rw [List.map_map]
    exact lcD_seq (l := t) (g := fun r => D.lst (r.map D.int)) (by simp -implicitDefEqProofs [x_seqI, kSeq_lst, encT]) fun a _ => by simp -implicitDefEqProofs [wipeD, inner, encR]
  refine bodyD_ret ?_
  unfold body__law_shared
  simp -implicitDefEqProofs [startD, outer, encMt]
theorem v_bentrow {i : Nat} {h : Hd} {qs : List Rat} {B : Nat} (p : PenAt i h) (hl : qs.length ≤ 11) (hq : ∀ q ∈ qs, Qs B q) (hB : 85 ≤ B) (hB2 : B ≤ 1919) : ∃ d h', den__law_bent_row [.ref i, encR qs] h = .ok d h' ∧ Fine B 4 (3 + 15 * 50062) d ∧ PenStep i h h' := by
  obtain ⟨r1, h1, e1, b1, s1⟩ := v_drawN p (qs.length + 1) (M := (qs.length : Int) + 1) (by omega) (by omega)
  have p1 := s1.at p
  obtain ⟨r2, h2, e2, b2, s2⟩ := v_drawN p1 17 (by decide) (by decide) (M := 17)
  have p2 := s2.at p1
  obtain ⟨r3, h3, e3, b3, s3⟩ := v_drawN p2 12 (by decide) (by decide) (M := 12)
  have pw : powOk 10 25 := by decide
  have cl := clean_row (n := 1) hq hB2
  have ct : ∀ d ∈ (qs.map encQ).take r1, Clean B 2 3849 d := fun d hd => cl d (List.mem_of_mem_take hd)
  have cd : ∀ d ∈ (qs.map encQ).drop (r1 + 1), Clean B 2 3849 d := fun d hd => cl d (List.mem_of_mem_drop hd)
  have z1 : Clean B 2 3849 (encQ 0) := clean_enc ⟨by simp; exact ppos _, Nat.lt_of_lt_of_le (by decide : 1 < 2 ^ 1) (Nat.pow_le_pow_right (by decide) (by omega))⟩ hB2
  refine ⟨?d, h3, bodyD_ret ?e, ?f, s1.trans (s2.trans s3)⟩
  case e =>
    unfold body__law_bent_row encR
    rw [show startD 6 [.ref i, .tup (qs.map encQ)] = [some (.ref i), some (.tup (qs.map encQ)), none, none, none, none] from rfl]
    simp -implicitDefEqProofs [e1, e2, e3, p_powi, pw, ixmN, b2, b3, p_addl, p_addt, dAddL, zb (Nat.le_trans hl (by decide : 11 ≤ 100000)), cut_to, cut_from1, cut_f1, -List.map_take, -List.map_drop]
    rfl
  case f =>
    have ho : Fine B 3 3849 (pick [.tup [.int 1, .int 0], .tup [.int 2, .int 2], .tup [.int 1, .int (-1)], .tup [.bl true, .int 1], .tup [.int 0, .int 2], .int 0, .non, .str "1", .lst [.int 1, .int 1], .tup [.int 1], .tup [.int 1, .int 1, .int 1], .tup [.int 1, .bl true], .tup [.int 10000000000000000000000000, .int 1], .tup [.int 3, .int 10000000000000000000000000], .tup [.int 0, .int 1], .tup [.str "1", .int 1], .dct] r2) :=
      pick_all (by simpa using b2) fun x hx => (fine_of (B := 85) (n := 3) (N := 3849) (by
        have : ∀ x ∈ [D.tup [.int 1, .int 0], .tup [.int 2, .int 2], .tup [.int 1, .int (-1)], .tup [.bl true, .int 1], .tup [.int 0, .int 2], .int 0, .non, .str "1", .lst [.int 1, .int 1], .tup [.int 1], .tup [.int 1, .int 1, .int 1], .tup [.int 1, .bl true], .tup [.int 10000000000000000000000000, .int 1], .tup [.int 3, .int 10000000000000000000000000], .tup [.int 0, .int 1], .tup [.str "1", .int 1], .dct], fineB 85 3 3849 x = true := by simp only [List.forall_mem_cons]; decide +kernel
        exact this x hx)).mono hB (Nat.le_refl _) (Nat.le_refl _)
    refine pick_all (by simpa using b3) ?_
    simp only [List.forall_mem_cons]
    have up : ∀ {xs : List D}, (∀ x ∈ xs, Clean B 2 3849 x) → xs.length ≤ 15 → Fine B 4 (3 + 15 * 50062) (.tup xs) := fun hx hl => (clean_tup hx hl).fine.mono (Nat.le_refl _) (by decide) (by decide)
    have tu : Fine B 4 (3 + 15 * 50062) (.tup ((qs.map encQ).take r1 ++ (_ :: (qs.map encQ).drop (r1 + 1)))) := (fine_one ho (fun x hx => (ct x hx).mono (Nat.le_refl _) (by decide) (Nat.le_refl _)) (fun x hx => (cd x hx).mono (Nat.le_refl _) (by decide) (Nat.le_refl _)) (m := 15) (by simp; omega)).mono (Nat.le_refl _) (by decide) (by decide)
    have lf : ∀ d, fineB 85 4 100 d = true → Fine B 4 (3 + 15 * 50062) d := fun d h => (fine_of h).mono hB (Nat.le_refl _) (by decide)
    refine ⟨tu, tu, tu, up (fun x hx => cl x (List.mem_of_mem_tail hx)) (by simp; omega), up (fun x hx => ?_) (by simp; omega), (fine_lst cl (m := 15) (by simp; omega)).mono (Nat.le_refl _) (by decide) (by decide), ?_, up (fun x hx => cl x (List.mem_reverse.mp hx)) (by simp; omega), lf _ (by decide +kernel), lf _ (by decide +kernel), lf _ (by decide +kernel), lf _ (by decide +kernel), fun x hx => absurd hx (by simp)⟩
    · rcases List.mem_append.mp hx with hx | hx
      · exact cl x hx
      · simp at hx; subst hx; exact z1
    · have := clean_tup (m := 1) (xs := [.tup (qs.map encQ)]) (fun x hx => by simp at hx; subst hx; exact clean_tup cl (m := 11) (by simpa using hl)) (by simp)
      exact this.fine.mono (Nat.le_refl _) (by decide) (by decide)
def NB : Nat := 3 + 15 * 50062
theorem v_benttable {i : Nat} {h : Hd} {Q : List (List Rat)} {B : Nat} (p : PenAt i h) (hS : SqM B Q) (hB : 85 ≤ B) (hB2 : B ≤ 1919) : ∃ d h', den__law_bent_table [.ref i, encMt Q] h = .ok d h' ∧ Fine B 5 (3 + 6 * (3 + 15 * 50062 + 2)) d ∧ PenStep i h h' := by
  obtain ⟨q1, q5, hq⟩ := hS
  obtain ⟨r1, h1, e1, b1, s1⟩ := v_drawN p Q.length (M := (Q.length : Int)) (by omega) (by omega)
  have p1 := s1.at p
  have hr := hq _ (getD_in (d := []) b1)
  obtain ⟨d2, h2, e2, f2, s2⟩ := v_bentrow (qs := Q.getD r1 []) p1 (by rw [hr.1]; omega) hr.2 hB hB2
  have p2 := s2.at p1
  obtain ⟨r3, h3, e3, b3, s3⟩ := v_drawN p2 13 (by decide) (by decide) (M := 13)
  have cl : ∀ d ∈ Q.map encR, Clean B 3 (3 + 11 * 3851) d := fun d hd => by
    obtain ⟨r, hr, rfl⟩ := List.mem_map.mp hd
    exact clean_tup (clean_row (n := 1) (hq r hr).2 hB2) (by rw [List.length_map, (hq r hr).1]; omega)
  have e4 : ∀ hh, dIx (.tup (Q.map encR)) (.int (r1 : Int)) hh = some (encR (Q.getD r1 []), hh) := fun hh => by
    rw [ixtN (by simpa using b1), pick_map b1 []]
  generalize Q.getD r1 [] = q1 at e2 e4
  refine ⟨?d, h3, bodyD_ret ?e, ?f, s1.trans (s2.trans s3)⟩
  case e =>
    unfold body__law_bent_table encMt
    rw [show startD 6 [.ref i, .tup (Q.map encR)] = [some (.ref i), some (.tup (Q.map encR)), none, none, none, none] from rfl]
    simp -implicitDefEqProofs [e1, e2, e3, e4, ixmN, b3, p_addl, p_addt, dAddL, zb (Nat.le_trans q5 (by decide : 5 ≤ 100000)), cut_to, cut_from1, cut_f1, cut_t1, -List.map_take, -List.map_drop]
    rfl
  case f =>
    have up : ∀ {xs : List D}, (∀ x ∈ xs, Clean B 3 (3 + 11 * 3851) x) → xs.length ≤ 6 → Fine B 5 (3 + 6 * (3 + 15 * 50062 + 2)) (.tup xs) := fun hx hl => (clean_tup hx hl).fine.mono (Nat.le_refl _) (by decide) (by decide)
    have tu : Fine B 5 (3 + 6 * (3 + 15 * 50062 + 2)) (.tup ((Q.map encR).take r1 ++ (d2 :: (Q.map encR).drop (r1 + 1)))) := (fine_one f2 (fun x hx => (cl x (List.mem_of_mem_take hx)).mono (Nat.le_refl _) (by decide) (by decide)) (fun x hx => (cl x (List.mem_of_mem_drop hx)).mono (Nat.le_refl _) (by decide) (by decide)) (m := 6) (by simp; omega))
    have lf : ∀ d, fineB 85 5 100 d = true → Fine B 5 (3 + 6 * (3 + 15 * 50062 + 2)) d := fun d h => (fine_of h).mono hB (Nat.le_refl _) (by decide)
    refine pick_all (by simpa using b3) ?_
    simp only [List.forall_mem_cons]
    refine ⟨tu, tu, tu, tu, up (fun x hx => cl x (List.mem_of_mem_tail hx)) (by simp; omega), up (fun x hx => ?_) (by simp; omega), (fine_lst cl (m := 5) (by simp; omega)).mono (Nat.le_refl _) (by decide) (by decide), up (fun x hx => cl x (List.mem_reverse.mp hx)) (by simp; omega), ?_, lf _ (by decide +kernel), lf _ (by decide +kernel), lf _ (by decide +kernel), lf _ (by decide +kernel), fun x hx => absurd hx (by simp)⟩
    · rcases List.mem_append.mp hx with hx | hx
      · exact cl x hx
      · exact cl x (List.mem_of_mem_take hx)
    · have := clean_tup (m := 1) (xs := [.tup (Q.map encR)]) (fun x hx => by simp at hx; subst hx; exact clean_tup cl (m := 5) (by simpa using q5)) (by simp)
      exact this.fine.mono (Nat.le_refl _) (by decide) (by decide)
theorem rows_of {n B : Nat} : ∀ {ys : List D}, (∀ y ∈ ys, ∃ qs : List Rat, y = encR qs ∧ qs.length = n ∧ ∀ q ∈ qs, Qs B q) → ∃ M : List (List Rat), ys = M.map encR ∧ M.length = ys.length ∧ ∀ r ∈ M, r.length = n ∧ ∀ q ∈ r, Qs B q
  | [], _ => ⟨[], rfl, rfl, fun r hr => absurd hr (by simp)⟩
  | y :: ys, h => by
    obtain ⟨qs, rfl, a, b⟩ := h y List.mem_cons_self
    obtain ⟨M, rfl, l, c⟩ := rows_of fun x hx => h x (List.mem_cons_of_mem _ hx)
    exact ⟨qs :: M, rfl, by simp, fun r hr => (List.mem_cons.mp hr).elim (fun e => by subst e; exact ⟨a, b⟩) (c r)⟩
theorem cleanM {B C n N : Nat} {M : List (List Rat)} (h : SqM B M) (hb : B ≤ C := by decide) (hB : C ≤ 1919 := by decide) (hn : 4 ≤ n := by decide) (hN : 3 + 5 * (3 + 5 * 3851 + 2) ≤ N := by decide) : Clean C n N (encMt M) := by
  have := clean_tup (m := 5) (xs := M.map encR) (B := B) (n := 3) (N := 3 + 5 * 3851) (fun x hx => by
    obtain ⟨r, hr, rfl⟩ := List.mem_map.mp hx
    exact clean_tup (clean_row (n := 1) (h.2.2 r hr).2 (by omega)) (by rw [List.length_map, (h.2.2 r hr).1]; exact h.2.1)) (by simpa using h.2.1)
  exact this.mono hb (by omega) hN
end Dz.PB

namespace Dz.PN
open PySem PySem.Spec PyProof.Rows L2 Dz Dz.PL Dz.PB
noncomputable def lb__law_taken_1 : DenS := seqS (setS 6 (bin2 dSub (bin2 dMul (bin2 dIx (vr 0) (vr 5)) (bin2 dIx (vr 1) (vr 2))) (bin2 dMul (bin2 dIx (vr 0) (vr 2)) (bin2 dIx (vr 1) (vr 5))))) (exS (metL appP (vr 4) (aCons (bin2 dDiv (vr 6) (vr 3)) (aNil))))
noncomputable def lp__law_taken_1 : DenS := forS (rng1 (aCons (callP lenD (aCons (vr 0) (aNil))) (aNil))) (setT 5) (lb__law_taken_1)
noncomputable def body__law_taken : DenS := seqS (setS 4 (lstM (aNil))) (seqS (lp__law_taken_1) (retS (vr 4)))
noncomputable def den__law_taken : FDen := bodyS 7 body__law_taken
noncomputable def lc__law_number_of_1 : Den := lcM (seqI (vr 0)) (setT 7) (yesB) (callP (listD mkL) (aCons (vr 7) (aNil))) [7]
noncomputable def lc__law_number_of_2 : Den := lcD (rng2 (aCons (vr 4) (aCons (callP lenD (aCons (vr 1) (aNil))) (aNil)))) (setT 6) (asB (bin2 dNe (bin2 dIx (bin2 dIx (vr 1) (vr 6)) (vr 4)) (cst (.int 0)))) (vr 6) [6]
noncomputable def lb__law_number_of_1 : DenS := asgS (callD Dz.PN.den__law_taken 4 (aCons (bin2 dIx (vr 1) (vr 6)) (aCons (bin2 dIx (vr 1) (vr 4)) (aCons (vr 4) (aCons (vr 3) (aNil)))))) (subT dSet (vr 1) (vr 6))
noncomputable def lp__law_number_of_1 : DenS := forS (rng2 (aCons (bin2 dAdd (vr 4) (cst (.int 1))) (aCons (callP lenD (aCons (vr 1) (aNil))) (aNil)))) (setT 6) (lb__law_number_of_1)
noncomputable def lb__law_number_of_2 : DenS := seqS (setS 5 (lc__law_number_of_2)) (seqS (ifS (asB (bin2 dEq (vr 5) (lstD (aNil)))) (retS (cst (.int 0))) (nxS)) (seqS (asgS (tupD (aCons (bin2 dIx (vr 1) (bin2 dIx (vr 5) (cst (.int 0)))) (aCons (bin2 dIx (vr 1) (vr 4)) (aNil)))) (tupT 2 (tsCons (subT dSet (vr 1) (vr 4)) (tsCons (subT dSet (vr 1) (bin2 dIx (vr 5) (cst (.int 0)))) (tsNil))))) (seqS (setS 2 (bin2 dMul (vr 2) (bin2 dSub (cst (.int 1)) (bin2 dMul (cst (.int 2)) (callP (intD) (aCons (bin2 dNe (bin2 dIx (vr 5) (cst (.int 0))) (vr 4)) (aNil))))))) (seqS (lp__law_number_of_1) (setS 3 (bin2 dIx (bin2 dIx (vr 1) (vr 4)) (vr 4)))))))
noncomputable def lp__law_number_of_2 : DenS := forS (rng1 (aCons (callP lenD (aCons (vr 1) (aNil))) (aNil))) (setT 4) (lb__law_number_of_2)
noncomputable def body__law_number_of : DenS := seqS (setS 1 (lc__law_number_of_1)) (seqS (setS 2 (cst (.int 1))) (seqS (setS 3 (cst (.int 1))) (seqS (lp__law_number_of_2) (retS (bin2 dMul (vr 2) (vr 3))))))
noncomputable def den__law_number_of : FDen := bodyS 8 body__law_number_of
noncomputable def lc__law_back_of_1 : Den := lcD (seqI (bin2 dAdd (slD mkL (vr 0) (oNone) (oSome (vr 5))) (slD mkL (vr 0) (oSome (bin2 dAdd (vr 5) (cst (.int 1)))) (oNone)))) (setT 7) (yesB) (bin2 dAdd (slD mkL (vr 7) (oNone) (oSome (vr 3))) (slD mkL (vr 7) (oSome (bin2 dAdd (vr 3) (cst (.int 1)))) (oNone))) [7]
noncomputable def lb__law_back_of_1 : DenS := seqS (setS 6 (lc__law_back_of_1)) (exS (metL appP (vr 4) (aCons (callD Dz.PB.den__law_share 2 (aCons (bin2 dMul (callD Dz.PN.den__law_number_of 1 (aCons (vr 6) (aNil))) (bin2 dSub (cst (.int 1)) (bin2 dMul (cst (.int 2)) (bin2 dMod (bin2 dAdd (vr 3) (vr 5)) (cst (.int 2)))))) (aCons (vr 1) (aNil)))) (aNil))))
noncomputable def lp__law_back_of_1 : DenS := forS (rng1 (aCons (callP lenD (aCons (vr 0) (aNil))) (aNil))) (setT 5) (lb__law_back_of_1)
noncomputable def lb__law_back_of_2 : DenS := seqS (setS 4 (lstM (aNil))) (seqS (lp__law_back_of_1) (exS (metL appP (vr 2) (aCons (callP (tupleD) (aCons (vr 4) (aNil))) (aNil)))))
noncomputable def lp__law_back_of_2 : DenS := forS (rng1 (aCons (callP lenD (aCons (vr 0) (aNil))) (aNil))) (setT 3) (lb__law_back_of_2)
noncomputable def body__law_back_of : DenS := seqS (setS 1 (callD Dz.PN.den__law_number_of 1 (aCons (vr 0) (aNil)))) (seqS (setS 2 (lstM (aNil))) (seqS (lp__law_back_of_2) (retS (callP (tupleD) (aCons (vr 2) (aNil))))))
noncomputable def den__law_back_of : FDen := bodyS 8 body__law_back_of
/-! ### some plain facts -/
theorem fdiv_le (t : Int) (b : Int) : (t.fdiv b).natAbs ≤ t.natAbs := by
  rcases Int.lt_or_le b 0 with hb | hb
  · rw [← Int.neg_fdiv_neg, Int.fdiv_eq_ediv_of_nonneg _ (by omega)]
    have := Int.natAbs_ediv_le_natAbs (-t) (-b)
    simpa using this
  · rw [Int.fdiv_eq_ediv_of_nonneg _ hb]
    exact Int.natAbs_ediv_le_natAbs t b
theorem divOk_of {b : Int} {B : Nat} (h0 : b ≠ 0) (h : b.natAbs < 2 ^ B) (hB : B ≤ 8000) : divOk b := by
  refine ⟨h0, ?_⟩
  have := (Nat.log2_lt (n := b.natAbs) (k := 9000) (by omega)).mpr (lt_up h (by omega))
  exact this
theorem frz_nr {n : Nat} {h : Hd} {k : Nat} {d : D} (hn : NR d) : frz n h k d = some d := by
  cases k with
  | zero => unfold frz; rw [if_pos hn]
  | succ k => unfold frz; rw [if_pos hn]
theorem frzL_nr {n : Nat} {h : Hd} {k : Nat} : ∀ {ds : List D}, NRL ds → ds.mapM (frz n h k) = some ds
  | [], _ => rfl
  | d :: ds, hn => by
    rw [List.mapM_cons, frz_nr hn.1, frzL_nr hn.2]
    rfl
theorem settle_lst {h0 : Hd} {ds : List D} (hn : NRL ds) : settle h0 (.ok (.ref h0.length) (h0 ++ [.lst ds])) = .ok (.lst ds) h0 := by
  have ht : (h0 ++ [Ob.lst ds]).take h0.length = h0 := by simp
  have hf : frz h0.length (h0 ++ [.lst ds]) 4 (.ref h0.length) = some (.lst ds) := by
    unfold frz
    rw [if_neg (by exact id)]
    dsimp only
    rw [if_neg (by omega), snoc_at]
    dsimp only
    rw [frzL_nr hn]
    rfl
  unfold settle
  dsimp only
  rw [if_pos (.inl ht), hf, ht]
theorem settle_same {h0 : Hd} {d : D} {tl : Hd} (hn : NR d) : settle h0 (.ok d (h0 ++ tl)) = .ok d h0 := by
  have ht : (h0 ++ tl).take h0.length = h0 := by simp
  unfold settle
  dsimp only
  rw [if_pos (.inl ht), frz_nr hn, ht]
theorem lc_filt {gt : DenT} {ft : DenB} {fe : Den} {σ0 : Sd} {h : Hd} {p : D → Bool} {f : D → D} : ∀ {items acc : List D}, (∀ d ∈ items, ∃ σ1, gt d σ0 h = .ok σ1 h ∧ ft σ1 h = .ok (p d) h ∧ (p d = true → fe σ1 h = .ok (f d) h)) → lcLoop gt ft fe [] σ0 items acc h = .ok (acc ++ (items.filter p).map f) h
  | [], acc, _ => by
    unfold lcLoop
    rw [if_pos (g0 _)]
    simp
  | d :: ds, acc, hd => by
    obtain ⟨σ1, e1, e2, e3⟩ := hd d List.mem_cons_self
    unfold lcLoop
    rw [if_pos (g0 _), e1]
    simp only [nox_ok, bind_ok, e2]
    cases hp : p d with
    | true =>
      rw [if_pos rfl, e3 hp]
      simp only [nox_ok, bind_ok]
      rw [lc_filt fun x hx => hd x (List.mem_cons_of_mem _ hx), List.filter_cons, if_pos hp]
      simp
    | false =>
      rw [if_neg (by simp), lc_filt fun x hx => hd x (List.mem_cons_of_mem _ hx), List.filter_cons, if_neg (by simp [hp])]
def bl (B : Nat) (r : List Int) : Prop := ∀ x ∈ r, x.natAbs < 2 ^ B
theorem bl_getD {B : Nat} {r : List Int} (h : bl B r) (i : Nat) : (r.getD i 0).natAbs < 2 ^ B := by
  rw [List.getD]
  cases e : r[i]? with
  | none => exact ppos B
  | some x => exact h x (List.mem_of_getElem? e)
theorem bl_mono {B C : Nat} {r : List Int} (h : bl B r) (hc : B ≤ C) : bl C r := fun x hx => lt_up (h x hx) hc
/-! ### taken -/
def tkN (row here : List Int) (p : Nat) (last : Int) (j : Nat) : Int := (row.getD j 0 * here.getD p 0 - row.getD p 0 * here.getD j 0).fdiv last
def takenL (row here : List Int) (p : Nat) (last : Int) : List Int := (List.range row.length).map (tkN row here p last)
theorem takenL_len (row here : List Int) (p : Nat) (last : Int) : (takenL row here p last).length = row.length := by simp [takenL]
theorem cross_lt {x y z w : Int} {b : Nat} (hx : x.natAbs < 2 ^ b) (hy : y.natAbs < 2 ^ b) (hz : z.natAbs < 2 ^ b) (hw : w.natAbs < 2 ^ b) : (x * y - z * w).natAbs < 2 ^ (2 * b + 1) := by
  have h1 := pow_add2 hx hy
  have h2 := pow_add2 hz hw
  have h3 := Int.natAbs_sub_le (x * y) (z * w)
  rw [Int.natAbs_mul, Int.natAbs_mul] at h3
  rw [Nat.pow_succ, show 2 * b = b + b by omega]
  omega
theorem takenL_bl {row here : List Int} {p : Nat} {last : Int} {b : Nat} (hr : bl b row) (hh : bl b here) : bl (2 * b + 1) (takenL row here p last) := fun x hx => by
  obtain ⟨j, _, rfl⟩ := List.mem_map.mp hx
  exact Nat.lt_of_le_of_lt (fdiv_le _ _) (cross_lt (bl_getD hr j) (bl_getD hh p) (bl_getD hr p) (bl_getD hh j))
theorem ixli {r : List Int} {j : Nat} (hj : j < r.length) (hh : Hd) : dIx (.lst (r.map D.int)) (.int (j : Int)) hh = some (.int (r.getD j 0), hh) := by
  rw [ixmN (by simpa using hj), pick_map hj 0]
theorem tk_loop {row here : List Int} {p : Nat} {last : Int} {b : Nat} (hp : p < row.length) (hl : here.length = row.length) (h0 : last ≠ 0) (hb : last.natAbs < 2 ^ b) (hr : bl b row) (hh : bl b here) (bB : b ≤ 2000) (hz : row.length ≤ 1000) (h : Hd) : ∀ (m k : Nat), k + m = row.length → ∀ x5 x6 : Option D, ∃ y5 y6,
    forLoop (setT 5) lb__law_taken_1 [] (rangeItems (k : Int) m) [some (.lst (row.map D.int)), some (.lst (here.map D.int)), some (.int (p : Int)), some (.int last), some (.ref h.length), x5, x6] (h ++ [.lst (((List.range k).map (tkN row here p last)).map D.int)])
      = .next [some (.lst (row.map D.int)), some (.lst (here.map D.int)), some (.int (p : Int)), some (.int last), some (.ref h.length), y5, y6] (h ++ [.lst (((List.range row.length).map (tkN row here p last)).map D.int)])
  | 0, k, hk, x5, x6 => ⟨x5, x6, by
    obtain rfl : k = row.length := by omega
    exact for_nil⟩
  | m + 1, k, hk, x5, x6 => by
    have hkr : k < row.length := by omega
    obtain ⟨y5, y6, e⟩ := tk_loop hp hl h0 hb hr hh bB hz h m (k + 1) (by omega) (some (.int (k : Int))) (some (.int (row.getD k 0 * here.getD p 0 - row.getD p 0 * here.getD k 0)))
    refine ⟨y5, y6, ?_⟩
    have i1 := ixli hkr
    have i2 := ixli (r := here) (j := p) (by omega)
    have i3 := ixli hp
    have i4 := ixli (r := here) (j := k) (by omega)
    have m1 : mulOk (row.getD k 0) (here.getD p 0) := mulOk_pow (bl_getD hr k) (bl_getD hh p) (by omega)
    have m2 : mulOk (row.getD p 0) (here.getD k 0) := mulOk_pow (bl_getD hr p) (bl_getD hh k) (by omega)
    have d1 := divOk_of h0 hb (by omega)
    have ap := app_ok (h := h) (xs := ((List.range k).map (tkN row here p last)).map D.int) (d := .int (tkN row here p last k)) (by simp; omega)
    rw [show ((List.range k).map (tkN row here p last)).map D.int ++ [D.int (tkN row here p last k)] = ((List.range (k + 1)).map (tkN row here p last)).map D.int by rw [app_step, List.map_append]; rfl] at ap
    have ld := isLD_snoc h (((List.range k).map (tkN row here p last)).map D.int)
    rw [show ((k + 1 : Nat) : Int) = (k : Int) + 1 by omega] at e
    rw [range_cons]
    refine (for_cons rfl ?_).trans e
    generalize ((List.range (k + 1)).map (tkN row here p last)).map D.int = L1 at ap ⊢
    generalize ((List.range k).map (tkN row here p last)).map D.int = L0 at ap ld ⊢
    unfold tkN at ap
    generalize row.getD k 0 = z1 at *
    generalize row.getD p 0 = z2 at *
    generalize here.getD k 0 = z3 at *
    generalize here.getD p 0 = z4 at *
    simp -implicitDefEqProofs [lb__law_taken_1, i1, i2, i3, i4, p_muli, m1, m2, ld, p_divi, d1, ap]
theorem v_taken {row here : List Int} {p : Nat} {last : Int} {b : Nat} (hp : p < row.length) (hl : here.length = row.length) (h0 : last ≠ 0) (hb : last.natAbs < 2 ^ b) (hr : bl b row) (hh : bl b here) (bB : b ≤ 2000) (hz : row.length ≤ 1000) (h : Hd) :
    den__law_taken [.lst (row.map D.int), .lst (here.map D.int), .int (p : Int), .int last] h = .ok (.lst ((takenL row here p last).map D.int)) h := by
  obtain ⟨y5, y6, e⟩ := tk_loop hp hl h0 hb hr hh bB hz h row.length 0 (by omega) none none
  have key : bodyD 7 body__law_taken [.lst (row.map D.int), .lst (here.map D.int), .int (p : Int), .int last] h = .ok (.ref h.length) (h ++ [.lst ((takenL row here p last).map D.int)]) := by
    refine bodyD_ret ?_
    unfold body__law_taken
    rw [show startD 7 [.lst (row.map D.int), .lst (here.map D.int), .int (p : Int), .int last] = [some (.lst (row.map D.int)), some (.lst (here.map D.int)), some (.int (p : Int)), some (.int last), none, none, none] from rfl]
    have e' : ∀ hh, rng1 (aCons (callP lenD (aCons (vr 0) aNil)) aNil) [some (.lst (row.map D.int)), some (.lst (here.map D.int)), some (.int (p : Int)), some (.int last), some (.ref h.length), none, none] hh = .ok ⟨rangeItems 0 row.length, []⟩ hh := fun hh => by
      simp -implicitDefEqProofs [x_rng1, kR1_nat, show row.length ≤ 1000000 by omega]
    unfold takenL
    rw [show ((0 : Nat) : Int) = 0 from rfl, show ((List.range 0).map (tkN row here p last)).map D.int = [] from rfl] at e
    generalize ((List.range row.length).map (tkN row here p last)).map D.int = L at e ⊢
    simp -implicitDefEqProofs [lp__law_taken_1, x_forS, e', e]
  unfold den__law_taken bodyS
  rw [key, settle_lst (NRL_map (f := D.int) (fun _ => trivial) _)]
/-! ### the number of a table, by taking rows -/
def encL (R : List (List Int)) : List D := R.map fun r => .lst (r.map D.int)
theorem encL_len (R : List (List Int)) : (encL R).length = R.length := by simp [encL]
theorem encL_NR (R : List (List Int)) : NRL (encL R) := NRL_map (f := fun r : List Int => D.lst (r.map D.int)) (fun r => NRL_map (f := D.int) (fun _ => trivial) r) R
theorem ixRow {R : List (List Int)} {k : Nat} (hk : k < R.length) (h : Hd) : dIx (.ref h.length) (.int (k : Int)) (h ++ [.lst (encL R)]) = some (.lst ((R.getD k []).map D.int), h ++ [.lst (encL R)]) := by
  refine p_ixr (snoc_at _ _) (at_nat ?_)
  unfold encL
  rw [List.getElem?_map, List.getD, List.getElem?_eq_getElem hk]
  rfl
theorem setRow {R : List (List Int)} {k : Nat} (hk : k < R.length) (r : List Int) (h : Hd) : dSet (.ref h.length) (.int (k : Int)) (.lst (r.map D.int)) (h ++ [.lst (encL R)]) = some (h ++ [.lst (encL (R.set k r))]) := by
  rw [p_setr (snoc_at _ _) (ixN_nat (by rw [encL_len]; exact hk)), snoc_set]
  unfold encL
  rw [List.map_set]
def updR (p : Nat) (last : Int) : Nat → Nat → List (List Int) → List (List Int)
  | 0, _, R => R
  | n + 1, k, R => updR p last n (k + 1) (R.set k (takenL (R.getD k []) (R.getD p []) p last))
def SqR (m : Nat) (R : List (List Int)) : Prop := R.length = m ∧ ∀ k, k < m → (R.getD k []).length = m
theorem getD_set {α : Type} (R : List α) (k j : Nat) (r d : α) (hk : k < R.length) : (R.set k r).getD j d = if j = k then r else R.getD j d := by
  rw [List.getD, List.getD, List.getElem?_set]
  by_cases e : k = j
  · subst e; simp [hk]
  · rw [if_neg e, if_neg (fun z => e z.symm)]
theorem sq_set {m k : Nat} {R : List (List Int)} {r : List Int} (h : SqR m R) (hk : k < m) (hr : r.length = m) : SqR m (R.set k r) := by
  refine ⟨by rw [List.length_set]; exact h.1, fun j hj => ?_⟩
  rw [getD_set _ _ _ _ _ (by rw [h.1]; exact hk)]
  split
  · exact hr
  · exact h.2 j hj
theorem up_facts {m p b : Nat} {last : Int} (hp : p < m) : ∀ (n k : Nat) (R : List (List Int)), p < k → k + n = m → SqR m R → bl b (R.getD p []) → (∀ j, k ≤ j → bl b (R.getD j [])) → (∀ j, bl (2 * b + 1) (R.getD j [])) →
    SqR m (updR p last n k R) ∧ (updR p last n k R).getD p [] = R.getD p [] ∧ ∀ j, bl (2 * b + 1) ((updR p last n k R).getD j [])
  | 0, k, R, _, _, hs, _, _, ha => ⟨hs, rfl, ha⟩
  | n + 1, k, R, hpk, hk, hs, hbp, hbk, ha => by
    have hkm : k < m := by omega
    have hkR : k < R.length := by rw [hs.1]; exact hkm
    have g : ∀ j, (R.set k (takenL (R.getD k []) (R.getD p []) p last)).getD j [] = if j = k then takenL (R.getD k []) (R.getD p []) p last else R.getD j [] := fun j => getD_set _ _ _ _ _ hkR
    have gp : (R.set k (takenL (R.getD k []) (R.getD p []) p last)).getD p [] = R.getD p [] := by rw [g, if_neg (by omega)]
    have t := takenL_bl (p := p) (last := last) (hbk k (Nat.le_refl _)) hbp
    obtain ⟨a1, a2, a3⟩ := up_facts (last := last) hp n (k + 1) (R.set k (takenL (R.getD k []) (R.getD p []) p last)) (by omega) (by omega) (sq_set hs hkm (by rw [takenL_len]; exact hs.2 k hkm)) (by rw [gp]; exact hbp)
      (fun j hj => by rw [g, if_neg (by omega)]; exact hbk j (by omega)) (fun j => by rw [g]; split; exact t; exact ha j)
    exact ⟨a1, a2.trans gp, a3⟩
theorem up_loop {m p b : Nat} {last : Int} (hp : p < m) (hm : m ≤ 1000) (h0 : last ≠ 0) (hb : last.natAbs < 2 ^ b) (bB : b ≤ 2000) (h : Hd) (x0 x2 x5 x7 : Option D) : ∀ (n k : Nat) (R : List (List Int)), p < k → k + n = m → SqR m R → bl b (R.getD p []) → (∀ j, k ≤ j → bl b (R.getD j [])) → (∀ j, bl (2 * b + 1) (R.getD j [])) → ∀ x6 : Option D, ∃ y6,
    forLoop (setT 6) lb__law_number_of_1 [] (rangeItems (k : Int) n) [x0, some (.ref h.length), x2, some (.int last), some (.int (p : Int)), x5, x6, x7] (h ++ [.lst (encL R)])
      = .next [x0, some (.ref h.length), x2, some (.int last), some (.int (p : Int)), x5, y6, x7] (h ++ [.lst (encL (updR p last n k R))])
  | 0, k, R, _, _, hs, _, _, ha, x6 => ⟨x6, for_nil⟩
  | n + 1, k, R, hpk, hk, hs, hbp, hbk, ha, x6 => by
    have hkm : k < m := by omega
    have hkR : k < R.length := by rw [hs.1]; exact hkm
    have g : ∀ j, (R.set k (takenL (R.getD k []) (R.getD p []) p last)).getD j [] = if j = k then takenL (R.getD k []) (R.getD p []) p last else R.getD j [] := fun j => getD_set _ _ _ _ _ hkR
    have gp : (R.set k (takenL (R.getD k []) (R.getD p []) p last)).getD p [] = R.getD p [] := by rw [g, if_neg (by omega)]
    have t := takenL_bl (p := p) (last := last) (hbk k (Nat.le_refl _)) hbp
    obtain ⟨y6, e⟩ := up_loop hp hm h0 hb bB h x0 x2 x5 x7 n (k + 1) (R.set k (takenL (R.getD k []) (R.getD p []) p last)) (by omega) (by omega) (sq_set hs hkm (by rw [takenL_len]; exact hs.2 k hkm)) (by rw [gp]; exact hbp)
      (fun j hj => by rw [g, if_neg (by omega)]; exact hbk j (by omega)) (fun j => by rw [g]; split; exact t; exact ha j) (some (.int (k : Int)))
    refine ⟨y6, ?_⟩
    have i1 := ixRow hkR h
    have i2 := ixRow (R := R) (k := p) (by rw [hs.1]; exact hp) h
    have tk := v_taken (row := R.getD k []) (here := R.getD p []) (p := p) (last := last) (b := b) (by rw [hs.2 k hkm]; exact hp) (by rw [hs.2 k hkm, hs.2 p hp]) h0 hb (hbk k (Nat.le_refl _)) hbp bB (by rw [hs.2 k hkm]; exact hm) (h ++ [.lst (encL R)])
    have st := setRow hkR (takenL (R.getD k []) (R.getD p []) p last) h
    rw [show ((k + 1 : Nat) : Int) = (k : Int) + 1 by omega] at e
    rw [range_cons]
    refine (for_cons rfl ?_).trans e
    generalize encL (R.set k (takenL (R.getD k []) (R.getD p []) p last)) = Y at st ⊢
    generalize (takenL (R.getD k []) (R.getD p []) p last).map D.int = T at tk st
    generalize (R.getD k []).map D.int = A1 at i1 tk
    generalize (R.getD p []).map D.int = A2 at i2 tk
    simp -implicitDefEqProofs [lb__law_number_of_1, asgS, subT, i1, i2, tk, st]
def goodN (R : List (List Int)) (p m : Nat) : List Int := ((List.range (m - p)).map fun i : Nat => (p : Int) + (i : Int)).filter fun i => decide ((R.getD i.toNat []).getD p 0 ≠ 0)
def swapR (R : List (List Int)) (p q : Nat) : List (List Int) := (R.set p (R.getD q [])).set q (R.getD p [])
def numGo (m : Nat) : Nat → Nat → List (List Int) → Int → Int → Int
  | 0, _, _, sg, la => sg * la
  | n + 1, p, R, sg, la => match goodN R p m with
    | [] => 0
    | g :: _ => numGo m n (p + 1) (updR p la (m - (p + 1)) (p + 1) (swapR R p g.toNat)) (sg * (1 - 2 * (if g = (p : Int) then 0 else 1))) (((R.getD g.toNat []).getD p 0))
def numT (R : List (List Int)) : Int := numGo R.length R.length 0 R 1 1
def gr : Nat → Nat → Nat
  | 0, b => b
  | n + 1, b => gr n (2 * b + 1)
theorem le_gr : ∀ (n b : Nat), b ≤ gr n b
  | 0, b => Nat.le_refl b
  | n + 1, b => Nat.le_trans (by omega) (le_gr n (2 * b + 1))
theorem p_eqL (neg : Bool) (xs ys : List Int) (h : Hd) : eqD neg (.lst (xs.map D.int)) (.lst (ys.map D.int)) h = some (.bl (xB neg (decide (xs = ys))), h) := by
  unfold eqD
  rw [py_lstI, py_lstI]
  dsimp only
  rw [eqv_row]
  rfl
theorem goodN_mem {R : List (List Int)} {p m : Nat} {g : Int} (h : g ∈ goodN R p m) : ∃ q : Nat, g = (q : Int) ∧ p ≤ q ∧ q < m ∧ (R.getD q []).getD p 0 ≠ 0 := by
  obtain ⟨h1, h2⟩ := List.mem_filter.mp h
  obtain ⟨i, hi, rfl⟩ := List.mem_map.mp h1
  have := List.mem_range.mp hi
  refine ⟨p + i, by omega, by omega, by omega, ?_⟩
  have h2 := of_decide_eq_true h2
  rwa [show ((p : Int) + (i : Int)).toNat = p + i by omega] at h2
theorem lc_good {m p : Nat} {R : List (List Int)} (hs : SqR m R) (hp : p < m) (hm : m ≤ 1000) (h : Hd) (x0 x2 x3 x5 x6 x7 : Option D) :
    lc__law_number_of_2 [x0, some (.ref h.length), x2, x3, some (.int (p : Int)), x5, x6, x7] (h ++ [.lst (encL R)]) = .ok (.lst ((goodN R p m).map D.int)) (h ++ [.lst (encL R)]) := by
  have e1 : rng2 (aCons (vr 4) (aCons (callP lenD (aCons (vr 1) (aNil))) (aNil))) [x0, some (.ref h.length), x2, x3, some (.int (p : Int)), x5, x6, x7] (h ++ [.lst (encL R)]) = .ok ⟨rangeItems (p : Int) (m - p), []⟩ (h ++ [.lst (encL R)]) := by
    have l := p_lenr (snoc_at h (.lst (encL R)))
    rw [encL_len, hs.1] at l
    have := e_rng2 (f := aCons (vr 4) (aCons (callP lenD (aCons (vr 1) (aNil))) (aNil))) (σ := [x0, some (.ref h.length), x2, x3, some (.int (p : Int)), x5, x6, x7]) (h := h ++ [.lst (encL R)]) (h1 := h ++ [.lst (encL R)]) (i := (p : Int)) (j := (m : Int)) (by simp -implicitDefEqProofs [l]) (by omega)
    rw [this, show ((m : Int) - (p : Int)).toNat = m - p by omega]
  refine e_lcD (h1 := h ++ [.lst (encL R)]) e1 ?_
  have hd : ∀ d ∈ rangeItems (p : Int) (m - p), ∃ q : Nat, d = .int (q : Int) ∧ p ≤ q ∧ q < m := fun d hd => by
    obtain ⟨i, hi, rfl⟩ := mem_range hd
    exact ⟨p + i, by rw [show ((p + i : Nat) : Int) = (p : Int) + (i : Int) by omega], by omega, by omega⟩
  have e2 := lc_filt (gt := setT 6) (ft := asB (bin2 dNe (bin2 dIx (bin2 dIx (vr 1) (vr 6)) (vr 4)) (cst (.int 0)))) (fe := vr 6) (σ0 := wipeD [x0, some (.ref h.length), x2, x3, some (.int (p : Int)), x5, x6, x7] [6]) (h := h ++ [.lst (encL R)]) (p := fun d => match d with | .int i => decide ((R.getD i.toNat []).getD p 0 ≠ 0) | _ => false) (f := fun d => d) (items := rangeItems (p : Int) (m - p)) (acc := []) fun d hdm => by
      obtain ⟨q, rfl, hq1, hq2⟩ := hd d hdm
      have i1 := ixRow (R := R) (k := q) (by rw [hs.1]; exact hq2) h
      have i2 := ixli (r := R.getD q []) (j := p) (by rw [hs.2 q hq2]; exact hp) (h ++ [.lst (encL R)])
      refine ⟨_, rfl, ?_, fun _ => rfl⟩
      dsimp only
      rw [Int.toNat_natCast]
      generalize (R.getD q []).map D.int = A at i1 i2
      generalize (R.getD q []).getD p 0 = z at i2 ⊢
      by_cases hz : z = 0
      · simp -implicitDefEqProofs [wipeD, i1, i2, hz]
      · simp -implicitDefEqProofs [wipeD, i1, i2, hz]
  rw [e2, List.nil_append]
  congr 1
  unfold goodN rangeItems
  rw [List.filter_map, List.filter_map, List.map_map, List.map_map]
  rfl
theorem swap_facts {m p q b : Nat} {R : List (List Int)} (hs : SqR m R) (hp : p < m) (hq : q < m) (hb : ∀ j, bl b (R.getD j [])) : SqR m (swapR R p q) ∧ (swapR R p q).getD p [] = R.getD q [] ∧ ∀ j, bl b ((swapR R p q).getD j []) := by
  have l1 : (R.set p (R.getD q [])).length = m := by rw [List.length_set]; exact hs.1
  have g : ∀ j, (swapR R p q).getD j [] = if j = q then R.getD p [] else if j = p then R.getD q [] else R.getD j [] := fun j => by
    unfold swapR
    rw [getD_set _ _ _ _ _ (by rw [l1]; exact hq), getD_set _ _ _ _ _ (by rw [hs.1]; exact hp)]
  refine ⟨sq_set (sq_set hs hp (hs.2 q hq)) hq (hs.2 p hp), ?_, fun j => ?_⟩
  · rw [g]
    split
    · rename_i e; rw [e]
    · rw [if_pos rfl]
  · rw [g]
    split
    · exact hb p
    · split
      · exact hb q
      · exact hb j
theorem sg_le {sg : Int} (h : sg.natAbs ≤ 1) (c : Prop) [Decidable c] : (sg * (1 - 2 * (if c then 0 else 1))).natAbs ≤ 1 := by
  rw [Int.natAbs_mul]
  split
  · simpa using h
  · simpa using h
theorem nl_loop {m : Nat} (hm : m ≤ 1000) (h : Hd) (x0 : Option D) : ∀ (n p : Nat) (R : List (List Int)) (sg la : Int) (b : Nat), p + n = m → SqR m R → (∀ j, bl b (R.getD j [])) → sg.natAbs ≤ 1 → la ≠ 0 → la.natAbs < 2 ^ b → gr n b ≤ 2000 → ∀ x4 x5 x6 x7 : Option D, ∃ o R',
    forLoop (setT 4) lb__law_number_of_2 [] (rangeItems (p : Int) n) [x0, some (.ref h.length), some (.int sg), some (.int la), x4, x5, x6, x7] (h ++ [.lst (encL R)]) = o ∧ (numGo m n p R sg la).natAbs < 2 ^ gr n b ∧
    ((∃ sg' la' y4 y5 y6, o = SOut.next [x0, some (.ref h.length), some (.int sg'), some (.int la'), y4, y5, y6, x7] (h ++ [.lst (encL R')]) ∧ sg' * la' = numGo m n p R sg la ∧ sg'.natAbs ≤ 1 ∧ la'.natAbs < 2 ^ gr n b) ∨ (o = SOut.ret (.int 0) (h ++ [.lst (encL R')]) ∧ numGo m n p R sg la = 0))
  | 0, p, R, sg, la, b, hpn, hs, hb, hsg, h0, hla, hg, x4, x5, x6, x7 => ⟨_, R, for_nil, by
      show (sg * la).natAbs < 2 ^ b
      rw [Int.natAbs_mul]
      have : sg.natAbs * la.natAbs ≤ 1 * la.natAbs := Nat.mul_le_mul_right _ hsg
      omega, .inl ⟨sg, la, x4, x5, x6, rfl, rfl, hsg, hla⟩⟩
  | n + 1, p, R, sg, la, b, hpn, hs, hb, hsg, h0, hla, hg, x4, x5, x6, x7 => by
    have hp : p < m := by omega
    have hb2 : b ≤ 2000 := Nat.le_trans (Nat.le_trans (by omega) (le_gr n (2 * b + 1))) hg
    have lg := lc_good hs hp hm h x0 (some (.int sg)) (some (.int la)) x5 x6 x7
    have eq0 := p_eqL false (goodN R p m) [] (h ++ [.lst (encL R)])
    cases hgn : goodN R p m with
    | nil =>
      refine ⟨_, R, rfl, ?_, .inr ⟨?_, ?_⟩⟩
      · unfold numGo; rw [hgn]; exact ppos _
      · rw [hgn] at lg eq0
        have eq0 : eqD false (.lst []) (.lst []) (h ++ [.lst (encL R)]) = some (.bl true, h ++ [.lst (encL R)]) := eq0
        rw [range_cons]
        refine for_consR rfl ?_
        have lg : lc__law_number_of_2 [x0, some (.ref h.length), some (.int sg), some (.int la), some (.int (p : Int)), x5, x6, x7] (h ++ [.lst (encL R)]) = .ok (.lst []) (h ++ [.lst (encL R)]) := lg
        simp -implicitDefEqProofs [lb__law_number_of_2, lg, show dEq = eqD false from rfl, eq0]
      · unfold numGo; rw [hgn]
    | cons g gs =>
      obtain ⟨q, rfl, hq1, hq2, hq3⟩ := goodN_mem (g := g) (by rw [hgn]; exact List.mem_cons_self)
      obtain ⟨s1, s2, s3⟩ := swap_facts hs hp hq2 hb
      have s4 : ∀ j, bl (2 * b + 1) ((swapR R p q).getD j []) := fun j => bl_mono (s3 j) (by omega)
      obtain ⟨u1, u2, u3⟩ := up_facts (last := la) hp (m - (p + 1)) (p + 1) (swapR R p q) (by omega) (by omega) s1 (s3 p) (fun j _ => s3 j) s4
      obtain ⟨y6, eu⟩ := up_loop (last := la) hp hm h0 hla hb2 h x0 (some (.int (sg * (1 - 2 * (if (q : Int) = (p : Int) then 0 else 1))))) (some (.lst ((goodN R p m).map D.int))) x7 (m - (p + 1)) (p + 1) (swapR R p q) (by omega) (by omega) s1 (s3 p) (fun j _ => s3 j) s4 x6
      have un : numGo m (n + 1) p R sg la = numGo m n (p + 1) (updR p la (m - (p + 1)) (p + 1) (swapR R p q)) (sg * (1 - 2 * (if (q : Int) = (p : Int) then 0 else 1))) ((R.getD q []).getD p 0) := by
        rw [numGo, hgn]
        dsimp only
        rw [Int.toNat_natCast]
      obtain ⟨o, R', eo, bo, ho⟩ := nl_loop hm h x0 n (p + 1) (updR p la (m - (p + 1)) (p + 1) (swapR R p q)) (sg * (1 - 2 * (if (q : Int) = (p : Int) then 0 else 1))) ((R.getD q []).getD p 0) (2 * b + 1) (by omega) u1 u3 (sg_le hsg _) hq3 (lt_up (bl_getD (hb q) p) (by omega)) hg (some (.int (p : Int))) (some (.lst ((goodN R p m).map D.int))) y6 x7
      refine ⟨o, R', ?_, by rw [un]; exact bo, by rw [un]; exact ho⟩
      have hqR : q < R.length := by rw [hs.1]; exact hq2
      have hpR : p < R.length := by rw [hs.1]; exact hp
      have i1 := ixRow hqR h
      have i2 := ixRow hpR h
      have i3 : ∀ hh, dIx (.lst ((goodN R p m).map D.int)) (.int 0) hh = some (.int (q : Int), hh) := fun hh => by rw [hgn]; exact ixl0 _ _ _
      have st1 := setRow hpR (R.getD q []) h
      have st2 := setRow (R := R.set p (R.getD q [])) (k := q) (by rw [List.length_set]; exact hqR) (R.getD p []) h
      have ixp := ixRow (R := updR p la (m - (p + 1)) (p + 1) (swapR R p q)) (k := p) (by rw [u1.1]; exact hp) h
      rw [u2, s2] at ixp
      have ixl := ixli (r := R.getD q []) (j := p) (by rw [hs.2 q hq2]; exact hp) (h ++ [.lst (encL (updR p la (m - (p + 1)) (p + 1) (swapR R p q)))])
      have eq1 : eqD false (.lst ((goodN R p m).map D.int)) (.lst []) (h ++ [.lst (encL R)]) = some (.bl false, h ++ [.lst (encL R)]) := by
        have e : decide (goodN R p m = []) = false := by rw [hgn]; rfl
        rw [e] at eq0
        exact eq0
      have ln : lenD [.ref h.length] (h ++ [.lst (encL (swapR R p q))]) = some (.int (m : Int), h ++ [.lst (encL (swapR R p q))]) := by
        rw [p_lenr (snoc_at h _), encL_len, s1.1]
      have m2 : ∀ z : Int, z = 0 ∨ z = 1 → mulOk 2 z := fun z hz => by rcases hz with rfl | rfl <;> exact mulOk_of (by decide) (by decide)
      have m3 : mulOk sg (1 - 2 * (if (q : Int) = (p : Int) then 0 else 1)) := by split <;> exact mulOk_of (by omega) (by omega)
      have kr : ∀ hh, kR2 [.int ((p : Int) + 1), .int (m : Int)] hh = .ok ⟨rangeItems ((p + 1 : Nat) : Int) (m - (p + 1)), []⟩ hh := fun hh => by
        unfold kR2
        have : ints2 [.int ((p : Int) + 1), .int (m : Int)] = some ((p : Int) + 1, (m : Int)) := rfl
        rw [this]
        dsimp only
        rw [if_pos (by omega), show ((m : Int) - ((p : Int) + 1)).toNat = m - (p + 1) by omega, show ((p + 1 : Nat) : Int) = (p : Int) + 1 by omega]
      have ne : ∀ hh, dNe (.int (q : Int)) (.int (p : Int)) hh = some (.bl (!decide ((q : Int) = (p : Int))), hh) := fun hh => by
        show eqD true (.int (q : Int)) (.int (p : Int)) hh = _
        rw [p_nei]
        rfl
      have iz : (if (!decide ((q : Int) = (p : Int))) = true then (1 : Int) else 0) = (if (q : Int) = (p : Int) then 0 else 1) := by
        by_cases e : (q : Int) = (p : Int) <;> simp [e]
      have iz2 : (if (q : Int) = (p : Int) then (0 : Int) else 1) = 0 ∨ (if (q : Int) = (p : Int) then (0 : Int) else 1) = 1 := by split <;> simp
      have m4 := m2 _ iz2
      have ti : ∀ hh, intD [.bl (!decide ((q : Int) = (p : Int)))] hh = some (.int (if (q : Int) = (p : Int) then 0 else 1), hh) := fun hh => by rw [p_intb, iz]
      rw [show ((p + 1 : Nat) : Int) = (p : Int) + 1 by omega] at kr eu eo
      rw [range_cons]
      refine (for_cons rfl ?_).trans eo
      have ad : ∀ hh, dAdd (.int (p : Int)) (.int 1) hh = some (.int ((p : Int) + 1), hh) := fun hh => rfl
      unfold swapR at ln eu ixp ixl ⊢
      generalize (if (q : Int) = (p : Int) then (0 : Int) else 1) = w at *
      generalize (!decide ((q : Int) = (p : Int))) = w2 at ne ti
      generalize (goodN R p m).map D.int = G at *
      generalize encL (updR p la (m - (p + 1)) (p + 1) ((R.set p (R.getD q [])).set q (R.getD p []))) = Z1 at *
      generalize encL ((R.set p (R.getD q [])).set q (R.getD p [])) = Z2 at *
      generalize encL (R.set p (R.getD q [])) = Z3 at *
      generalize (R.getD q []).getD p 0 = v1 at *
      generalize (R.getD q []).map D.int = v2 at *
      generalize (R.getD p []).map D.int = v3 at *
      have ge : gs = gs := rfl
      simp -implicitDefEqProofs [lb__law_number_of_2, lg, show dEq = eqD false from rfl, eq1, asgS, subT, tupT, seqOf, tsCons, tsNil, i1, i2, i3, st1, st2, ne, ti, p_muli, m4, m3, lp__law_number_of_1, x_forS, x_rng2, ad, ln, kr, eu, ixp, ixl]
theorem v_numberof {t : List (List Int)} {b : Nat} (hs : SqR t.length t) (hm : t.length ≤ 1000) (hb : ∀ j, bl b (t.getD j [])) (h1 : 1 ≤ b) (hg : gr t.length b ≤ 2000) (h : Hd) :
    den__law_number_of [encT t] h = .ok (.int (numT t)) h ∧ (numT t).natAbs < 2 ^ gr t.length b := by
  have hc : lc__law_number_of_1 [some (encT t), none, none, none, none, none, none, none] h = .ok (.ref h.length) (h ++ [.lst (encL t)]) := by
    refine e_lcM (h1 := h) (src := ⟨t.map fun r => .lst (r.map D.int), []⟩) (by simp [seqI, srcOf, encT]) ?_
    exact lc_mapL (acc := []) fun r hr => ⟨_, rfl, rfl, by simp [wipeD]⟩
  obtain ⟨o, R', eo, bo, ho⟩ := nl_loop hm h (some (encT t)) t.length 0 t 1 1 b (by omega) hs hb (by decide) (by decide) (by
    have := Nat.pow_le_pow_right (show 0 < 2 by decide) h1
    show 1 < 2 ^ b
    omega) hg none none none none
  refine ⟨?_, bo⟩
  have ln : lenD [.ref h.length] (h ++ [.lst (encL t)]) = some (.int (t.length : Int), h ++ [.lst (encL t)]) := by
    rw [p_lenr (snoc_at h _), encL_len]
  have kr := kR1_nat t.length (h ++ [.lst (encL t)]) (by omega)
  rw [show ((0 : Nat) : Int) = 0 from rfl] at eo
  have key : bodyD 8 body__law_number_of [encT t] h = .ok (.int (numT t)) (h ++ [.lst (encL R')]) := by
    refine bodyD_ret ?_
    unfold body__law_number_of
    rw [show startD 8 [encT t] = [some (encT t), none, none, none, none, none, none, none] from rfl]
    rcases ho with ⟨sg, la, y4, y5, y6, rfl, hn, hsg, hla⟩ | ⟨rfl, hn⟩
    · have mo : mulOk sg la := mulOk_pow (a := 1) (b := gr t.length b) (by omega) hla (by omega)
      show _ = SOut.ret (.int (numGo t.length t.length 0 t 1 1)) _
      rw [← hn]
      simp -implicitDefEqProofs [hc, lp__law_number_of_2, x_forS, x_rng1, ln, kr, eo, p_muli, mo]
    · show _ = SOut.ret (.int (numGo t.length t.length 0 t 1 1)) _
      rw [hn]
      simp -implicitDefEqProofs [hc, lp__law_number_of_2, x_forS, x_rng1, ln, kr, eo]
  unfold den__law_number_of bodyS
  rw [key, settle_same (show NR (.int _) from trivial)]
/-! ### the back of a table, by parts -/
def partT (t : List (List Int)) (i j : Nat) : List (List Int) := (t.take j ++ t.drop (j + 1)).map fun l => l.take i ++ l.drop (i + 1)
def sgnE (i j : Nat) : Int := 1 - 2 * ((i : Int) + (j : Int)).fmod 2
def entQ (t : List (List Int)) (i j : Nat) : Rat := Rat.divInt (numT (partT t i j) * sgnE i j) (numT t)
def backT (t : List (List Int)) : List (List Rat) := (List.range t.length).map fun i => (List.range t.length).map fun j => entQ t i j
theorem app_mid {h tl : Hd} {xs : List D} {d : D} (hl : xs.length < 16777216) : appP (.ref h.length) [d] (h ++ .lst xs :: tl) = some (.non, h ++ .lst (xs ++ [d]) :: tl) := by
  have e : (h ++ Ob.lst xs :: tl)[h.length]? = some (.lst xs) := by simp
  have e1 : ownOf (.ref h.length) (h ++ .lst xs :: tl) = some (h.length, xs) := by unfold ownOf; dsimp only; rw [e]
  unfold appP
  rw [e1]
  dsimp only
  rw [if_pos (by rw [szl]; omega)]
  simp
theorem isLD_mid (h tl : Hd) (xs : List D) : isLD (.ref h.length) (h ++ .lst xs :: tl) = true := by unfold isLD seqOf; simp
theorem tup_mid (h tl : Hd) (xs : List D) : tupleD [.ref h.length] (h ++ .lst xs :: tl) = some (.tup xs, h ++ .lst xs :: tl) := p_tupr (by simp)
theorem part_sq {t : List (List Int)} {m i j : Nat} (hs : SqR m t) (hi : i < m) (hj : j < m) : SqR (m - 1) (partT t i j) := by
  have lr : ∀ r ∈ t, r.length = m := fun r hr => by
    obtain ⟨k, hk, rfl⟩ := List.getElem_of_mem hr
    have := hs.2 k (by rw [← hs.1]; exact hk)
    rwa [List.getD, List.getElem?_eq_getElem hk] at this
  have lp : (partT t i j).length = m - 1 := by
    unfold partT
    rw [List.length_map, List.length_append, List.length_take, List.length_drop, hs.1]
    omega
  refine ⟨lp, fun k hk => ?_⟩
  have hm : (partT t i j).getD k [] ∈ partT t i j := getD_in (by rw [lp]; exact hk)
  obtain ⟨r, hr, e⟩ := List.mem_map.mp hm
  rw [← e, List.length_append, List.length_take, List.length_drop]
  have hr' : r ∈ t := (List.mem_append.mp hr).elim List.mem_of_mem_take List.mem_of_mem_drop
  rw [lr r hr']
  omega
theorem bl_all {t : List (List Int)} {b : Nat} (h : ∀ r ∈ t, bl b r) (j : Nat) : bl b (t.getD j []) := by
  rw [List.getD]
  cases e : t[j]? with
  | none => exact fun x hx => absurd hx (by simp)
  | some x => exact h x (List.mem_of_getElem? e)
theorem part_bl {t : List (List Int)} {b i j : Nat} (h : ∀ r ∈ t, bl b r) : ∀ r ∈ partT t i j, bl b r := fun r hr => by
  obtain ⟨l, hl, rfl⟩ := List.mem_map.mp hr
  have hl' : l ∈ t := (List.mem_append.mp hl).elim List.mem_of_mem_take List.mem_of_mem_drop
  exact fun x hx => h l hl' x ((List.mem_append.mp hx).elim List.mem_of_mem_take List.mem_of_mem_drop)
theorem lc_part {t : List (List Int)} {m i j : Nat} (hs : SqR m t) (hm : m ≤ 1000) (H : Hd) (x1 x2 x4 x6 x7 : Option D) :
    lc__law_back_of_1 [some (encT t), x1, x2, some (.int (i : Int)), x4, some (.int (j : Int)), x6, x7] H = .ok (encT (partT t i j)) H := by
  have lr : ∀ r ∈ t, r.length = m := fun r hr => by
    obtain ⟨k, hk, rfl⟩ := List.getElem_of_mem hr
    have := hs.2 k (by rw [← hs.1]; exact hk)
    rwa [List.getD, List.getElem?_eq_getElem hk] at this
  have a1 : ∀ hh, dAdd (.lst ((encL t).take j)) (.lst ((encL t).drop (j + 1))) hh = some (.lst ((encL t).take j ++ (encL t).drop (j + 1)), hh) := fun hh => by
    rw [dAddL, p_addl hh mkL _ _ (by rw [szl, List.length_take, List.length_drop, encL_len, hs.1]; omega), p_mkL]
  have e1 : seqI (bin2 dAdd (slD mkL (vr 0) (oNone) (oSome (vr 5))) (slD mkL (vr 0) (oSome (bin2 dAdd (vr 5) (cst (.int 1)))) (oNone))) [some (encT t), x1, x2, some (.int (i : Int)), x4, some (.int (j : Int)), x6, x7] H = .ok ⟨(encL t).take j ++ (encL t).drop (j + 1), []⟩ H := by
    rw [x_seqI, show encT t = .lst (encL t) from rfl]
    simp -implicitDefEqProofs [cut_to, cut_from1, a1, kSeq_lst]
  refine e_lcD (h1 := H) e1 ?_
  unfold encL partT
  rw [← List.map_take, ← List.map_drop, ← List.map_append, List.map_map]
  refine lc_mapL (k := fun l : List Int => D.lst ((l.take i ++ l.drop (i + 1)).map D.int)) (acc := []) fun l hl => ⟨_, rfl, rfl, ?_⟩
  have hl' : l ∈ t := (List.mem_append.mp hl).elim List.mem_of_mem_take List.mem_of_mem_drop
  have a2 : ∀ hh, dAdd (.lst ((l.map D.int).take i)) (.lst ((l.map D.int).drop (i + 1))) hh = some (.lst ((l.map D.int).take i ++ (l.map D.int).drop (i + 1)), hh) := fun hh => by
    rw [dAddL, p_addl hh mkL _ _ (by rw [szl, List.length_take, List.length_drop, List.length_map, lr l hl']; omega), p_mkL]
  rw [List.map_append, List.map_take, List.map_drop]
  generalize l.map D.int = L at a2 ⊢
  simp -implicitDefEqProofs [wipeD, cut_to, cut_from1, a2]
theorem sgn_cases (i j : Nat) : sgnE i j = 1 ∨ sgnE i j = -1 := by
  unfold sgnE
  rw [Int.fmod_eq_emod_of_nonneg _ (by decide)]
  omega
theorem bk_in {t : List (List Int)} {m i : Nat} (hs : SqR m t) (hm : m ≤ 5) (hb : ∀ r ∈ t, bl 6 r) (h0 : numT t ≠ 0) (hz : (numT t).natAbs < 2 ^ 224) (hi : i < m) (H : Hd) (x2 : Option D) : ∀ (n j : Nat), j + n = m → ∀ x5 x6 x7 : Option D, ∃ y5 y6 y7,
    forLoop (setT 5) lb__law_back_of_1 [] (rangeItems (j : Int) n) [some (encT t), some (.int (numT t)), x2, some (.int (i : Int)), some (.ref H.length), x5, x6, x7] (H ++ [.lst (((List.range j).map (entQ t i)).map encQ)])
      = .next [some (encT t), some (.int (numT t)), x2, some (.int (i : Int)), some (.ref H.length), y5, y6, y7] (H ++ [.lst (((List.range m).map (entQ t i)).map encQ)])
  | 0, j, hj, x5, x6, x7 => ⟨x5, x6, x7, by
    obtain rfl : j = m := by omega
    exact for_nil⟩
  | n + 1, j, hj, x5, x6, x7 => by
    have hjm : j < m := by omega
    obtain ⟨y5, y6, y7, e⟩ := bk_in hs hm hb h0 hz hi H x2 n (j + 1) (by omega) (some (.int (j : Int))) (some (encT (partT t i j))) x7
    refine ⟨y5, y6, y7, ?_⟩
    have lp := lc_part (i := i) (j := j) hs (by omega) (H ++ [.lst (((List.range j).map (entQ t i)).map encQ)]) (some (.int (numT t))) x2 (some (.ref H.length)) x6 x7
    have ps := part_sq hs hi hjm
    have gb : gr (partT t i j).length 6 ≤ 223 := by
      rw [ps.1]
      obtain rfl | rfl | rfl | rfl | rfl : m = 1 ∨ m = 2 ∨ m = 3 ∨ m = 4 ∨ m = 5 := by omega
      all_goals decide
    obtain ⟨nu, nb⟩ := v_numberof (t := partT t i j) (b := 6) (by rw [ps.1]; exact ps) (by rw [ps.1]; omega) (bl_all (part_bl hb)) (by decide) (by omega) (H ++ [.lst (((List.range j).map (entQ t i)).map encQ)])
    have nb' := lt_up nb gb
    have sc := sgn_cases i j
    have mo : mulOk (numT (partT t i j)) (sgnE i j) := mulOk_pow (b := 1) nb' (by rcases sc with e | e <;> rw [e] <;> decide) (by omega)
    have tz : (numT (partT t i j) * sgnE i j).natAbs < 2 ^ 224 := by
      have : (numT (partT t i j) * sgnE i j).natAbs = (numT (partT t i j)).natAbs := by rcases sc with e | e <;> rw [e] <;> simp
      rw [this]
      exact lt_up nb' (by decide)
    have sh := v_lshare (t := numT (partT t i j) * sgnE i j) h0 (lt_up hz (by decide)) (H ++ [.lst (((List.range j).map (entQ t i)).map encQ)])
    have ap := app_ok (h := H) (xs := ((List.range j).map (entQ t i)).map encQ) (d := encQ (entQ t i j)) (by simp; omega)
    rw [show ((List.range j).map (entQ t i)).map encQ ++ [encQ (entQ t i j)] = ((List.range (j + 1)).map (entQ t i)).map encQ by rw [app_step, List.map_append]; rfl] at ap
    have ld := isLD_snoc H (((List.range j).map (entQ t i)).map encQ)
    have f2 : ((i : Int) + (j : Int)).fmod 2 = 0 ∨ ((i : Int) + (j : Int)).fmod 2 = 1 := by
      rw [Int.fmod_eq_emod_of_nonneg _ (by decide)]
      omega
    have m2 : mulOk 2 (((i : Int) + (j : Int)).fmod 2) := by rcases f2 with e | e <;> rw [e] <;> exact mulOk_of (by decide) (by decide)
    have md : ∀ hh, dMod (.int ((i : Int) + (j : Int))) (.int 2) hh = some (.int (((i : Int) + (j : Int)).fmod 2), hh) := fun hh => p_modi _ _ _ (by decide)
    rw [show ((j + 1 : Nat) : Int) = (j : Int) + 1 by omega] at e
    rw [range_cons]
    refine (for_cons rfl ?_).trans e
    have sh' : den__law_share [.int (numT (partT t i j) * sgnE i j), .int (numT t)] (H ++ [.lst (((List.range j).map (entQ t i)).map encQ)]) = .ok (encQ (entQ t i j)) (H ++ [.lst (((List.range j).map (entQ t i)).map encQ)]) := sh
    unfold sgnE at sh' mo
    generalize ((List.range (j + 1)).map (entQ t i)).map encQ = L1 at ap ⊢
    generalize ((List.range j).map (entQ t i)).map encQ = L0 at *
    generalize entQ t i j = en at *
    generalize numT (partT t i j) = np at *
    generalize numT t = nt at *
    generalize encT (partT t i j) = pt at *
    generalize ((i : Int) + (j : Int)).fmod 2 = w at *
    simp -implicitDefEqProofs [lb__law_back_of_1, lp, ld, nu, md, p_muli, m2, mo, sh', ap]
theorem bk_out {t : List (List Int)} {m : Nat} (hs : SqR m t) (hm : m ≤ 5) (hb : ∀ r ∈ t, bl 6 r) (h0 : numT t ≠ 0) (hz : (numT t).natAbs < 2 ^ 224) (h : Hd) : ∀ (n i : Nat), i + n = m → ∀ (x3 x4 x5 x6 x7 : Option D) (tl : Hd), ∃ y3 y4 y5 y6 y7 tl',
    forLoop (setT 3) lb__law_back_of_2 [] (rangeItems (i : Int) n) [some (encT t), some (.int (numT t)), some (.ref h.length), x3, x4, x5, x6, x7] (h ++ .lst (((List.range i).map fun i => (List.range m).map (entQ t i)).map encR) :: tl)
      = .next [some (encT t), some (.int (numT t)), some (.ref h.length), y3, y4, y5, y6, y7] (h ++ .lst (((List.range m).map fun i => (List.range m).map (entQ t i)).map encR) :: tl')
  | 0, i, hi, x3, x4, x5, x6, x7, tl => ⟨x3, x4, x5, x6, x7, tl, by
    obtain rfl : i = m := by omega
    exact for_nil⟩
  | n + 1, i, hi, x3, x4, x5, x6, x7, tl => by
    have him : i < m := by omega
    generalize hH : h ++ Ob.lst (((List.range i).map fun i => (List.range m).map (entQ t i)).map encR) :: tl = H
    obtain ⟨z5, z6, z7, e1⟩ := bk_in hs hm hb h0 hz him H (some (.ref h.length)) m 0 (by omega) x5 x6 x7
    obtain ⟨y3, y4, y5, y6, y7, tl', e⟩ := bk_out hs hm hb h0 hz h n (i + 1) (by omega) (some (.int (i : Int))) (some (.ref H.length)) z5 z6 z7 (tl ++ [.lst (((List.range m).map (entQ t i)).map encQ)])
    refine ⟨y3, y4, y5, y6, y7, tl', ?_⟩
    have ln : ∀ hh, lenD [encT t] hh = some (.int (m : Int), hh) := fun hh => by
      show lenD [.lst (encL t)] hh = _
      rw [p_lenl, encL_len, hs.1]
    have kr := fun hh => kR1_nat m hh (by omega)
    have tp : tupleD [.ref H.length] (H ++ [.lst (((List.range m).map (entQ t i)).map encQ)]) = some (encR ((List.range m).map (entQ t i)), H ++ [.lst (((List.range m).map (entQ t i)).map encQ)]) := p_tupr (snoc_at _ _)
    have hH2 : H ++ [Ob.lst (((List.range m).map (entQ t i)).map encQ)] = h ++ .lst (((List.range i).map fun i => (List.range m).map (entQ t i)).map encR) :: (tl ++ [.lst (((List.range m).map (entQ t i)).map encQ)]) := by rw [← hH]; simp
    have ap := app_mid (h := h) (tl := tl ++ [.lst (((List.range m).map (entQ t i)).map encQ)]) (xs := ((List.range i).map fun i => (List.range m).map (entQ t i)).map encR) (d := encR ((List.range m).map (entQ t i))) (by simp; omega)
    rw [show ((List.range i).map fun i => (List.range m).map (entQ t i)).map encR ++ [encR ((List.range m).map (entQ t i))] = ((List.range (i + 1)).map fun i => (List.range m).map (entQ t i)).map encR by rw [app_step, List.map_append]; rfl] at ap
    have ld := isLD_mid h (tl ++ [.lst (((List.range m).map (entQ t i)).map encQ)]) (((List.range i).map fun i => (List.range m).map (entQ t i)).map encR)
    rw [← hH2] at ap ld
    rw [show ((i + 1 : Nat) : Int) = (i : Int) + 1 by omega] at e
    rw [show ((0 : Nat) : Int) = 0 from rfl, show ((List.range 0).map (entQ t i)).map encQ = [] from rfl] at e1
    rw [range_cons]
    refine (for_cons rfl ?_).trans e
    generalize (h ++ Ob.lst (((List.range (i + 1)).map fun i => (List.range m).map (entQ t i)).map encR) :: (tl ++ [.lst (((List.range m).map (entQ t i)).map encQ)])) = H3 at *
    generalize encR ((List.range m).map (entQ t i)) = rr at *
    generalize ((List.range m).map (entQ t i)).map encQ = L1 at *
    generalize numT t = nt at *
    generalize hT : encT t = T at *
    simp -implicitDefEqProofs [lb__law_back_of_2, lp__law_back_of_1, x_forS, x_rng1, ln, kr, e1, tp, ld, ap]
theorem v_backof {t : List (List Int)} {m : Nat} (hs : SqR m t) (hm : m ≤ 5) (hb : ∀ r ∈ t, bl 6 r) (h0 : numT t ≠ 0) (h : Hd) : den__law_back_of [encT t] h = .ok (encMt (backT t)) h ∧ (∀ r ∈ backT t, r.length = m ∧ ∀ q ∈ r, Qs 224 q) ∧ (backT t).length = m := by
  have gb : ∀ k, k ≤ 5 → gr k 6 ≤ 223 := fun k hk => by
    obtain rfl | rfl | rfl | rfl | rfl | rfl : k = 0 ∨ k = 1 ∨ k = 2 ∨ k = 3 ∨ k = 4 ∨ k = 5 := by omega
    all_goals decide
  have lt := hs.1
  have g5 := gb t.length (by omega)
  obtain ⟨nu, nb⟩ := v_numberof (t := t) (b := 6) (by rw [hs.1]; exact hs) (by omega) (bl_all hb) (by decide) (by omega) h
  have hz : (numT t).natAbs < 2 ^ 224 := lt_up nb (by omega)
  obtain ⟨y3, y4, y5, y6, y7, tl', e⟩ := bk_out hs hm hb h0 hz h m 0 (by omega) none none none none none []
  refine ⟨?_, fun r hr => ?_, by simp [backT, hs.1]⟩
  · have ln : ∀ hh, lenD [encT t] hh = some (.int (m : Int), hh) := fun hh => by
      show lenD [.lst (encL t)] hh = _
      rw [p_lenl, encL_len, hs.1]
    have kr := fun hh => kR1_nat m hh (by omega)
    have tp := tup_mid h tl' (((List.range m).map fun i => (List.range m).map (entQ t i)).map encR)
    have bT : (List.range m).map (fun i => (List.range m).map (entQ t i)) = backT t := by unfold backT; rw [hs.1]
    have key : bodyD 8 body__law_back_of [encT t] h = .ok (encMt (backT t)) (h ++ .lst (((List.range m).map fun i => (List.range m).map (entQ t i)).map encR) :: tl') := by
      refine bodyD_ret ?_
      unfold body__law_back_of encMt
      rw [show startD 8 [encT t] = [some (encT t), none, none, none, none, none, none, none] from rfl, ← bT]
      rw [show ((0 : Nat) : Int) = 0 from rfl, show ((List.range 0).map fun i => (List.range m).map (entQ t i)).map encR = [] from rfl] at e
      generalize (h ++ Ob.lst (((List.range m).map fun i => (List.range m).map (entQ t i)).map encR) :: tl') = H4 at *
      generalize ((List.range m).map fun i => (List.range m).map (entQ t i)).map encR = L at *
      generalize numT t = nt at *
      generalize hT : encT t = T at *
      simp -implicitDefEqProofs [nu, lp__law_back_of_2, x_forS, x_rng1, ln, kr, e, tp]
    unfold den__law_back_of bodyS
    rw [key, settle_same (d := encMt (backT t)) (show NR (.tup _) from NRL_map (f := encR) (fun r => NRL_map (f := encQ) NR_enc r) _)]
  · obtain ⟨i, hi, rfl⟩ := List.mem_map.mp hr
    have hi := List.mem_range.mp hi
    refine ⟨by simp [hs.1], fun q hq => ?_⟩
    obtain ⟨j, hj, rfl⟩ := List.mem_map.mp hq
    have hj := List.mem_range.mp hj
    rw [hs.1] at hi hj
    have ps := part_sq hs hi hj
    obtain ⟨_, nb2⟩ := v_numberof (t := partT t i j) (b := 6) (by rw [ps.1]; exact ps) (by rw [ps.1]; omega) (bl_all (part_bl hb)) (by decide) (by
      have := gb (partT t i j).length (by rw [ps.1]; omega)
      omega) h
    have nb3 := lt_up nb2 (gb _ (by rw [ps.1]; omega))
    have sc := sgn_cases i j
    refine Qs.of_divInt h0 ?_ hz
    have : (numT (partT t i j) * sgnE i j).natAbs = (numT (partT t i j)).natAbs := by rcases sc with e | e <;> rw [e] <;> simp
    rw [this]
    exact lt_up nb3 (by decide)
end Dz.PN

namespace Dz.PR
open PySem PySem.Spec PyProof.Rows L2 Dz Dz.PL Dz.PN
noncomputable def lc_scaled_1 : Den := lcD (seqI (vr 0)) (setT 2) (yesB) (callD Dz.PL.den_times 2 (aCons (vr 2) (aCons (vr 1) (aNil)))) [2]
noncomputable def body_scaled : DenS := retS (callP (tupleD) (aCons (lc_scaled_1) (aNil)))
noncomputable def den_scaled : FDen := bodyD 3 body_scaled
noncomputable def lc_rows_less_1 : Den := lcD (zipI (aCons (vr 0) (aCons (vr 1) (aNil)))) (tupT 2 (tsCons (setT 2) (tsCons (setT 3) (tsNil)))) (yesB) (callD Dz.PL.den_less 2 (aCons (vr 2) (aCons (vr 3) (aNil)))) [2, 3]
noncomputable def body_rows_less : DenS := retS (callP (tupleD) (aCons (lc_rows_less_1) (aNil)))
noncomputable def den_rows_less : FDen := bodyD 4 body_rows_less
noncomputable def lc_lined_1 : Den := lcD (rng2 (aCons (callP lenD (aCons (vr 2) (aNil))) (aCons (callP lenD (aCons (vr 1) (aNil))) (aNil)))) (setT 6) (asB (bin2 dNe (bin2 dIx (bin2 dIx (vr 1) (vr 6)) (vr 3)) (cst (.tup [.int 0, .int 1])))) (vr 6) [6]
noncomputable def lb_lined_1 : DenS := ifS (asB (bin2 dNe (vr 6) (vr 5))) (asgS (callD Dz.PR.den_rows_less 2 (aCons (bin2 dIx (vr 1) (vr 6)) (aCons (callD Dz.PR.den_scaled 2 (aCons (bin2 dIx (vr 1) (vr 5)) (aCons (bin2 dIx (bin2 dIx (vr 1) (vr 6)) (vr 3)) (aNil)))) (aNil)))) (subT dSet (vr 1) (vr 6))) (nxS)
noncomputable def lp_lined_1 : DenS := forS (rng1 (aCons (callP lenD (aCons (vr 1) (aNil))) (aNil))) (setT 6) (lb_lined_1)
noncomputable def lb_lined_2 : DenS := seqS (setS 4 (lc_lined_1)) (ifS (asB (bin2 dNe (vr 4) (lstD (aNil)))) (seqS (setS 5 (callP lenD (aCons (vr 2) (aNil)))) (seqS (asgS (tupD (aCons (bin2 dIx (vr 1) (bin2 dIx (vr 4) (cst (.int 0)))) (aCons (bin2 dIx (vr 1) (vr 5)) (aNil)))) (tupT 2 (tsCons (subT dSet (vr 1) (vr 5)) (tsCons (subT dSet (vr 1) (bin2 dIx (vr 4) (cst (.int 0)))) (tsNil))))) (seqS (asgS (callD Dz.PR.den_scaled 2 (aCons (bin2 dIx (vr 1) (vr 5)) (aCons (callD Dz.PL.den_by 2 (aCons (cst (.tup [.int 1, .int 1])) (aCons (bin2 dIx (bin2 dIx (vr 1) (vr 5)) (vr 3)) (aNil)))) (aNil)))) (subT dSet (vr 1) (vr 5))) (seqS (lp_lined_1) (exS (metL appP (vr 2) (aCons (vr 3) (aNil)))))))) (nxS))
noncomputable def lp_lined_2 : DenS := forS (rng1 (aCons (callP lenD (aCons (bin2 dIx (vr 0) (cst (.int 0))) (aNil))) (aNil))) (setT 3) (lb_lined_2)
noncomputable def body_lined : DenS := seqS (setS 1 (callP (listD mkM) (aCons (vr 0) (aNil)))) (seqS (setS 2 (lstM (aNil))) (seqS (lp_lined_2) (retS (tupD (aCons (vr 1) (aCons (vr 2) (aNil)))))))
noncomputable def den_lined : FDen := bodyS 7 body_lined
/-! ### rows with one bottom for all -/
def CDD (D : Int) (b : Nat) (r : List Rat) : Prop := D ≠ 0 ∧ D.natAbs < 2 ^ b ∧ ∀ q ∈ r, ∃ z : Int, z.natAbs < 2 ^ b ∧ q * (D : Rat) = (z : Rat)
def CD (b : Nat) (r : List Rat) : Prop := ∃ D, CDD D b r
theorem cast_ne {D : Int} (h : D ≠ 0) : (D : Rat) ≠ 0 := fun z => h (by
  have : (D : Rat) = ((0 : Int) : Rat) := z
  exact Rat.intCast_inj.mp this)
theorem CD.mono {a b : Nat} {r : List Rat} (h : CD a r) (hab : a ≤ b) : CD b r := by
  obtain ⟨D, h0, h1, h2⟩ := h
  exact ⟨D, h0, lt_up h1 hab, fun q hq => let ⟨z, e1, e2⟩ := h2 q hq; ⟨z, lt_up e1 hab, e2⟩⟩
theorem qs_of_mul {D z : Int} {q : Rat} {b : Nat} (h0 : D ≠ 0) (h1 : D.natAbs < 2 ^ b) (h2 : z.natAbs < 2 ^ b) (e : q * (D : Rat) = (z : Rat)) : Qs b q := by
  have hd := cast_ne h0
  have : q = Rat.divInt z D := by
    rw [Rat.divInt_eq_div]
    grind
  rw [this]
  exact Qs.of_divInt h0 h2 h1
theorem CD.qs {b : Nat} {r : List Rat} (h : CD b r) : ∀ q ∈ r, Qs b q := fun q hq => by
  obtain ⟨D, h0, h1, h2⟩ := h
  obtain ⟨z, e1, e2⟩ := h2 q hq
  exact qs_of_mul h0 h1 e1 e2
theorem CDD.getD {D : Int} {b : Nat} {r : List Rat} (h : CDD D b r) (p : Nat) : ∃ z : Int, z.natAbs < 2 ^ b ∧ r.getD p 0 * (D : Rat) = (z : Rat) := by
  rw [List.getD]
  cases e : r[p]? with
  | none => exact ⟨0, ppos b, by simp⟩
  | some x => exact h.2.2 x (List.mem_of_getElem? e)
theorem CD.getD {b : Nat} {r : List Rat} (h : CD b r) (p : Nat) : Qs b (r.getD p 0) := by
  obtain ⟨D, hD⟩ := h
  obtain ⟨z, e1, e2⟩ := hD.getD p
  exact qs_of_mul hD.1 hD.2.1 e1 e2
def scaleQ (r : List Rat) (c : Rat) : List Rat := r.map (· * c)
def lessQ (r s : List Rat) : List Rat := (r.zip s).map fun p => p.1 - p.2
theorem scaleQ_len (r : List Rat) (c : Rat) : (scaleQ r c).length = r.length := by simp [scaleQ]
theorem lessQ_len (r s : List Rat) (h : r.length = s.length) : (lessQ r s).length = r.length := by simp [lessQ]; omega
theorem CD.piv {b p : Nat} {r : List Rat} (h : CD b r) (hx : r.getD p 0 ≠ 0) : CD b (scaleQ r (1 / r.getD p 0)) := by
  obtain ⟨D, hD⟩ := h
  obtain ⟨z, e1, e2⟩ := hD.getD p
  have hd := cast_ne hD.1
  have hz : z ≠ 0 := fun c => by
    subst c
    have : r.getD p 0 * (D : Rat) = 0 := by simpa using e2
    rcases Rat.mul_eq_zero.mp this with c | c
    · exact hx c
    · exact hd c
  refine ⟨z, hz, e1, fun q hq => ?_⟩
  obtain ⟨y, hy, rfl⟩ := List.mem_map.mp hq
  obtain ⟨w, w1, w2⟩ := hD.2.2 y hy
  refine ⟨w, w1, ?_⟩
  rw [← w2, ← e2]
  grind
theorem CD.elim {b p : Nat} {s r : List Rat} (hs : CD b s) (hr : CD b r) : CD (2 * b + 1) (lessQ s (scaleQ r (s.getD p 0))) := by
  obtain ⟨D, hD⟩ := hs
  obtain ⟨C, hC⟩ := hr
  obtain ⟨f, f1, f2⟩ := hD.getD p
  refine ⟨D * C, Int.mul_ne_zero hD.1 hC.1, ?_, fun q hq => ?_⟩
  · rw [Int.natAbs_mul, Nat.pow_succ, show 2 * b = b + b by omega]
    have := pow_add2 hD.2.1 hC.2.1
    omega
  · obtain ⟨⟨u, v⟩, hp, rfl⟩ := List.mem_map.mp hq
    obtain ⟨h1, h2⟩ := List.of_mem_zip hp
    obtain ⟨y, hy, rfl⟩ := List.mem_map.mp h2
    obtain ⟨z, z1, z2⟩ := hD.2.2 u h1
    obtain ⟨w, w1, w2⟩ := hC.2.2 y hy
    refine ⟨z * C - w * f, cross_lt z1 hC.2.1 w1 f1, ?_⟩
    rw [Rat.intCast_sub, Rat.intCast_mul, Rat.intCast_mul, Rat.intCast_mul, ← z2, ← w2, ← f2]
    dsimp only
    grind
theorem CD.nil {b : Nat} (hb : 1 ≤ b) : CD b [] := ⟨1, by decide, by
  have := Nat.pow_le_pow_right (show 0 < 2 by decide) hb
  show 1 < 2 ^ b
  omega, fun q hq => absurd hq (by simp)⟩
theorem CD.ints {b : Nat} {l : List Int} (hb : 1 ≤ b) (h : ∀ x ∈ l, x.natAbs < 2 ^ b) : CD b (cqs l) := ⟨1, by decide, by
  have := Nat.pow_le_pow_right (show 0 < 2 by decide) hb
  show 1 < 2 ^ b
  omega, fun q hq => by
    obtain ⟨i, hi, rfl⟩ := List.mem_map.mp hq
    exact ⟨i, h i hi, by simp⟩⟩
/-! ### rows scaled, one less another -/
theorem v_scaled {r : List Rat} {c : Rat} {a b : Nat} (hr : ∀ q ∈ r, Qs a q) (hc : Qs b c) (hab : a + b ≤ 8000) (h : Hd) : den_scaled [encR r, encQ c] h = .ok (encR (scaleQ r c)) h := by
  have e : lc_scaled_1 [some (encR r), some (encQ c), none] h = .ok (.lst ((scaleQ r c).map encQ)) h := by
    unfold scaleQ
    rw [List.map_map]
    refine lcD_seq (l := r) (g := encQ) (by simp -implicitDefEqProofs [x_seqI, encR, kSeq_tup]) fun q hq => ?_
    have t := v_times (hr q hq) hc hab h
    simp -implicitDefEqProofs [wipeD, t]
  refine bodyD_ret ?_
  unfold body_scaled
  rw [show startD 3 [encR r, encQ c] = [some (encR r), some (encQ c), none] from rfl]
  unfold encR at *
  generalize (scaleQ r c).map encQ = L at *
  simp -implicitDefEqProofs [e]
theorem v_rowsless {r s : List Rat} {a b : Nat} (hr : ∀ q ∈ r, Qs a q) (hs : ∀ q ∈ s, Qs b q) (hab : a + b ≤ 8000) (h : Hd) : den_rows_less [encR r, encR s] h = .ok (encR (lessQ r s)) h := by
  have e : lc_rows_less_1 [some (encR r), some (encR s), none, none] h = .ok (.lst ((lessQ r s).map encQ)) h := by
    refine e_lcD (h1 := h) (e_zipT (xs := r.map encQ) (ys := s.map encQ) (h1 := h) (by simp -implicitDefEqProofs [encR])) ?_
    unfold lessQ
    rw [pair_map, List.map_map]
    exact lc_mapL (acc := []) fun p hp => ⟨[some (encR r), some (encR s), some (encQ p.1), some (encQ p.2)], by simp [tupT, seqOf, tsCons, tsNil, wipeD], rfl, by
      have t := v_less (hr _ (List.of_mem_zip hp).1) (hs _ (List.of_mem_zip hp).2) hab h
      simp -implicitDefEqProofs [t]⟩
  refine bodyD_ret ?_
  unfold body_rows_less
  rw [show startD 4 [encR r, encR s] = [some (encR r), some (encR s), none, none] from rfl]
  unfold encR at *
  generalize (lessQ r s).map encQ = L at *
  simp -implicitDefEqProofs [e]
/-! ### several own lists behind a heap -/
theorem atG (h xs : Hd) (i : Nat) : (h ++ xs)[h.length + i]? = xs[i]? := by
  rw [List.getElem?_append_right (by omega), show h.length + i - h.length = i by omega]
theorem setG (h xs : Hd) (i : Nat) (o : Ob) : (h ++ xs).set (h.length + i) o = h ++ xs.set i o := by
  rw [List.set_append_right _ _ (by omega), show h.length + i - h.length = i by omega]
section
variable {h xs : Hd} {i k : Nat} {A : List D}
theorem ixG (e : xs[i]? = some (.lst A)) (hk : k < A.length) : dIx (.ref (h.length + i)) (.int (k : Int)) (h ++ xs) = some (pick A k, h ++ xs) :=
  p_ixr ((atG h xs i).trans e) (at_nat (by rw [pick, List.getD, List.getElem?_eq_getElem hk]; rfl))
theorem lenG' (e : xs[i]? = some (.lst A)) : lenD [.ref (h.length + i)] (h ++ xs) = some (.int (A.length : Int), h ++ xs) := p_lenr ((atG h xs i).trans e)
theorem storeG (e : xs[i]? = some (.lst A)) (hk : k < A.length) (d : D) : dSet (.ref (h.length + i)) (.int (k : Int)) d (h ++ xs) = some (h ++ xs.set i (.lst (A.set k d))) := by
  rw [p_setr ((atG h xs i).trans e) (ixN_nat hk), setG]
theorem appG {d : D} (e : xs[i]? = some (.lst A)) (hl : A.length < 16777216) : appP (.ref (h.length + i)) [d] (h ++ xs) = some (.non, h ++ xs.set i (.lst (A ++ [d]))) := by
  have o : ownOf (.ref (h.length + i)) (h ++ xs) = some (h.length + i, A) := by unfold ownOf; dsimp only; rw [(atG h xs i).trans e]
  unfold appP
  rw [o]
  dsimp only
  rw [if_pos (by rw [szl]; exact hl), setG]
theorem isLG (e : xs[i]? = some (.lst A)) : isLD (.ref (h.length + i)) (h ++ xs) = true := by
  have o : seqOf (.ref (h.length + i)) (h ++ xs) = some A := by unfold seqOf; dsimp only; rw [(atG h xs i).trans e]
  show (seqOf _ _).isSome = true
  rw [o]
  rfl
end
/-! ### rows cleared from the left -/
def belowN (R : List (List Rat)) (k p m : Nat) : List Int := ((List.range (m - k)).map fun i : Nat => (k : Int) + (i : Int)).filter fun i => decide ((R.getD i.toNat []).getD p 0 ≠ 0)
def swapQ (R : List (List Rat)) (k q : Nat) : List (List Rat) := (R.set k (R.getD q [])).set q (R.getD k [])
def pivR (R : List (List Rat)) (k q p : Nat) : List (List Rat) := (swapQ R k q).set k (scaleQ (R.getD q []) (1 / (R.getD q []).getD p 0))
def elimR (k p : Nat) : Nat → Nat → List (List Rat) → List (List Rat)
  | 0, _, R => R
  | n + 1, a, R => elimR k p n (a + 1) (if a = k then R else R.set a (lessQ (R.getD a []) (scaleQ (R.getD k []) ((R.getD a []).getD p 0))))
def lineGo (m : Nat) : Nat → Nat → List (List Rat) → List Nat → List (List Rat) × List Nat
  | 0, _, R, ps => (R, ps)
  | n + 1, p, R, ps => match belowN R ps.length p m with
    | [] => lineGo m n (p + 1) R ps
    | g :: _ => lineGo m n (p + 1) (elimR ps.length p m 0 (pivR R ps.length g.toNat p)) (ps ++ [p])
def lineQ (R : List (List Rat)) (w : Nat) : List (List Rat) × List Nat := lineGo R.length w 0 R []
def Inv (m w b : Nat) (R : List (List Rat)) : Prop := R.length = m ∧ ∀ j, j < m → (R.getD j []).length = w ∧ CD b (R.getD j [])
theorem Inv.mono {m w a b : Nat} {R : List (List Rat)} (h : Inv m w a R) (hab : a ≤ b) : Inv m w b R := ⟨h.1, fun j hj => ⟨(h.2 j hj).1, (h.2 j hj).2.mono hab⟩⟩
theorem belowN_mem {R : List (List Rat)} {k p m : Nat} {g : Int} (h : g ∈ belowN R k p m) : ∃ q : Nat, g = (q : Int) ∧ k ≤ q ∧ q < m ∧ (R.getD q []).getD p 0 ≠ 0 := by
  obtain ⟨h1, h2⟩ := List.mem_filter.mp h
  obtain ⟨i, hi, rfl⟩ := List.mem_map.mp h1
  have := List.mem_range.mp hi
  refine ⟨k + i, by omega, by omega, by omega, ?_⟩
  have h2 := of_decide_eq_true h2
  rwa [show ((k : Int) + (i : Int)).toNat = k + i by omega] at h2
theorem belowN_nil {R : List (List Rat)} {k p m : Nat} (h : belowN R k p m = []) : ∀ q, k ≤ q → q < m → (R.getD q []).getD p 0 = 0 := fun q h1 h2 => by
  have := List.filter_eq_nil_iff.mp h ((k : Int) + ((q - k : Nat) : Int)) (List.mem_map.mpr ⟨q - k, List.mem_range.mpr (by omega), rfl⟩)
  rw [show ((k : Int) + ((q - k : Nat) : Int)).toNat = q by omega] at this
  simpa using this
theorem getD_setQ (R : List (List Rat)) (k j : Nat) (r : List Rat) (hk : k < R.length) : (R.set k r).getD j [] = if j = k then r else R.getD j [] := getD_set R k j r [] hk
theorem swapQ_getD {R : List (List Rat)} {k q : Nat} (hk : k < R.length) (hq : q < R.length) (j : Nat) : (swapQ R k q).getD j [] = if j = q then R.getD k [] else if j = k then R.getD q [] else R.getD j [] := by
  unfold swapQ
  rw [getD_setQ _ _ _ _ (by rw [List.length_set]; exact hq), getD_setQ _ _ _ _ hk]
theorem pivR_getD {R : List (List Rat)} {k q p : Nat} (hk : k < R.length) (hq : q < R.length) (j : Nat) : (pivR R k q p).getD j [] = if j = k then scaleQ (R.getD q []) (1 / (R.getD q []).getD p 0) else if j = q then R.getD k [] else R.getD j [] := by
  unfold pivR
  have ls : (swapQ R k q).length = R.length := by simp [swapQ]
  rw [getD_setQ _ _ _ _ (by rw [ls]; exact hk), swapQ_getD hk hq]
  split
  · rfl
  · split
    · rfl
    · rfl
theorem pivR_inv {R : List (List Rat)} {m w b k q p : Nat} (h : Inv m w b R) (hk : k < m) (hq : q < m) (hx : (R.getD q []).getD p 0 ≠ 0) : Inv m w b (pivR R k q p) := by
  refine ⟨by simp [pivR, swapQ, h.1], fun j hj => ?_⟩
  rw [pivR_getD (by rw [h.1]; exact hk) (by rw [h.1]; exact hq)]
  split
  · exact ⟨by rw [scaleQ_len]; exact (h.2 q hq).1, (h.2 q hq).2.piv hx⟩
  · split
    · exact h.2 k hk
    · exact h.2 j hj
def EInv (m w b k a : Nat) (R : List (List Rat)) : Prop := R.length = m ∧ (∀ j, j < m → (R.getD j []).length = w ∧ CD (2 * b + 1) (R.getD j [])) ∧ (∀ j, j < m → (a ≤ j ∨ j = k) → CD b (R.getD j []))
theorem einv_step {m w b k p a : Nat} {R : List (List Rat)} (h : EInv m w b k a R) (hk : k < m) (ha : a < m) : EInv m w b k (a + 1) (if a = k then R else R.set a (lessQ (R.getD a []) (scaleQ (R.getD k []) ((R.getD a []).getD p 0)))) := by
  by_cases e : a = k
  · rw [if_pos e]
    exact ⟨h.1, h.2.1, fun j hj hjj => h.2.2 j hj (hjj.elim (fun z => .inl (by omega)) .inr)⟩
  · rw [if_neg e]
    have g : ∀ j, (R.set a (lessQ (R.getD a []) (scaleQ (R.getD k []) ((R.getD a []).getD p 0)))).getD j [] = if j = a then lessQ (R.getD a []) (scaleQ (R.getD k []) ((R.getD a []).getD p 0)) else R.getD j [] := fun j => getD_setQ _ _ _ _ (by rw [h.1]; exact ha)
    refine ⟨by rw [List.length_set]; exact h.1, fun j hj => ?_, fun j hj hjj => ?_⟩
    · rw [g]
      split
      · refine ⟨?_, (h.2.2 a ha (.inl (Nat.le_refl _))).elim (h.2.2 k hk (.inr rfl))⟩
        rw [lessQ_len _ _ (by rw [scaleQ_len, (h.2.1 a ha).1, (h.2.1 k hk).1])]
        exact (h.2.1 a ha).1
      · exact h.2.1 j hj
    · rw [g, if_neg (by omega)]
      exact h.2.2 j hj (by omega)
theorem elim_inv {m w b k p : Nat} (hk : k < m) : ∀ (n a : Nat) (R : List (List Rat)), a + n = m → EInv m w b k a R → Inv m w (2 * b + 1) (elimR k p n a R)
  | 0, a, R, _, h => ⟨h.1, h.2.1⟩
  | n + 1, a, R, ha, h => elim_inv hk n (a + 1) _ (by omega) (einv_step h hk (by omega))
theorem einv_of {m w b k : Nat} {R : List (List Rat)} (h : Inv m w b R) : EInv m w b k 0 R := ⟨h.1, fun j hj => ⟨(h.2 j hj).1, (h.2 j hj).2.mono (by omega)⟩, fun j hj _ => (h.2 j hj).2⟩
theorem step_inv {m w b k q p : Nat} {R : List (List Rat)} (h : Inv m w b R) (hk : k < m) (hq : q < m) (hx : (R.getD q []).getD p 0 ≠ 0) : Inv m w (2 * b + 1) (elimR k p m 0 (pivR R k q p)) :=
  elim_inv hk m 0 _ (by omega) (einv_of (pivR_inv h hk hq hx))
/-! the program's -/
theorem pickR {R : List (List Rat)} {k : Nat} (hk : k < R.length) : pick (R.map encR) k = encR (R.getD k []) := pick_map hk []
theorem mapSet (R : List (List Rat)) (k : Nat) (r : List Rat) : (R.map encR).set k (encR r) = (R.set k r).map encR := by rw [List.map_set]
theorem gr_succ : ∀ n b : Nat, gr (n + 1) b = 2 * gr n b + 1
  | 0, b => rfl
  | n + 1, b => by
    show gr (n + 1) (2 * b + 1) = 2 * gr n (2 * b + 1) + 1
    exact gr_succ n (2 * b + 1)
theorem gr_mono {m n b : Nat} (h : m ≤ n) : gr m b ≤ gr n b := by
  induction n with
  | zero => rw [Nat.le_zero.mp h]; exact Nat.le_refl _
  | succ n ih =>
    rcases Nat.lt_or_ge m (n + 1) with c | c
    · have := ih (by omega)
      rw [gr_succ]
      omega
    · rw [show m = n + 1 by omega]; exact Nat.le_refl _
theorem el_loop {m w b k p : Nat} (hk : k < m) (hp : p < w) (hm : m ≤ 1000) (hb : b ≤ 1500) (h : Hd) (P : List D) (x0 x4 : Option D) : ∀ (n a : Nat) (R : List (List Rat)), a + n = m → EInv m w b k a R → ∀ x6 : Option D, ∃ y6,
    forLoop (setT 6) lb_lined_1 [] (rangeItems (a : Int) n) [x0, some (.ref (h.length + 0)), some (.ref (h.length + 1)), some (.int (p : Int)), x4, some (.int (k : Int)), x6] (h ++ [.lst (R.map encR), .lst P])
      = .next [x0, some (.ref (h.length + 0)), some (.ref (h.length + 1)), some (.int (p : Int)), x4, some (.int (k : Int)), y6] (h ++ [.lst ((elimR k p n a R).map encR), .lst P])
  | 0, a, R, _, _, x6 => ⟨x6, for_nil⟩
  | n + 1, a, R, ha, hi, x6 => by
    have ham : a < m := by omega
    have haR : a < R.length := by rw [hi.1]; exact ham
    have hkR : k < R.length := by rw [hi.1]; exact hk
    obtain ⟨y6, e⟩ := el_loop hk hp hm hb h P x0 x4 n (a + 1) _ (by omega) (einv_step (p := p) hi hk ham) (some (.int (a : Int)))
    refine ⟨y6, ?_⟩
    rw [show ((a + 1 : Nat) : Int) = (a : Int) + 1 by omega] at e
    rw [range_cons]
    refine (for_cons rfl ?_).trans e
    by_cases c : a = k
    · rw [if_pos c]
      subst c
      have c1 : dNe (.int (a : Int)) (.int (a : Int)) (h ++ [.lst (R.map encR), .lst P]) = some (.bl false, h ++ [.lst (R.map encR), .lst P]) := by
        show eqD true _ _ _ = _
        rw [p_nei]
        simp
      simp -implicitDefEqProofs [lb_lined_1, c1]
    · rw [if_neg c]
      have c1 : dNe (.int (a : Int)) (.int (k : Int)) (h ++ [.lst (R.map encR), .lst P]) = some (.bl true, h ++ [.lst (R.map encR), .lst P]) := by
        show eqD true _ _ _ = _
        rw [p_nei]
        have : ((a : Int) == (k : Int)) = false := by rw [beq_eq_false_iff_ne]; omega
        rw [this]
        rfl
      have i1 := ixG (h := h) (xs := [.lst (R.map encR), .lst P]) (i := 0) (k := a) rfl (by simpa using haR)
      have i2 := ixG (h := h) (xs := [.lst (R.map encR), .lst P]) (i := 0) (k := k) rfl (by simpa using hkR)
      rw [pickR haR] at i1
      rw [pickR hkR] at i2
      have i3 := ixr (r := R.getD a []) (j := p) (by rw [(hi.2.1 a ham).1]; exact hp) (h ++ [.lst (R.map encR), .lst P])
      have cs := hi.2.2 a ham (.inl (Nat.le_refl _))
      have ck := hi.2.2 k hk (.inr rfl)
      have s1 := v_scaled ck.qs (cs.getD p) (by omega) (h ++ [.lst (R.map encR), .lst P])
      have qs2 : ∀ q ∈ scaleQ (R.getD k []) ((R.getD a []).getD p 0), Qs (b + b) q := fun q hq => by
        obtain ⟨y, hy, rfl⟩ := List.mem_map.mp hq
        exact (ck.qs y hy).mul (cs.getD p)
      have s2 := v_rowsless cs.qs qs2 (by omega) (h ++ [.lst (R.map encR), .lst P])
      have st := storeG (h := h) (xs := [.lst (R.map encR), .lst P]) (i := 0) (k := a) rfl (by simpa using haR) (encR (lessQ (R.getD a []) (scaleQ (R.getD k []) ((R.getD a []).getD p 0))))
      rw [mapSet] at st
      change dSet _ _ _ _ = some (h ++ [.lst _, .lst P]) at st
      generalize (R.set a (lessQ (R.getD a []) (scaleQ (R.getD k []) ((R.getD a []).getD p 0)))).map encR = Z at *
      generalize lessQ (R.getD a []) (scaleQ (R.getD k []) ((R.getD a []).getD p 0)) = t1 at *
      generalize scaleQ (R.getD k []) ((R.getD a []).getD p 0) = t2 at *
      generalize (R.getD a []).getD p 0 = t3 at *
      generalize R.getD a [] = Ra at *
      generalize R.getD k [] = Rk at *
      generalize R.map encR = RR at *
      generalize h.length + 0 = l0 at *
      generalize h.length + 1 = l1 at *
      simp -implicitDefEqProofs [lb_lined_1, c1, asgS, subT, i1, i2, i3, s1, s2, st]
theorem isLG0 {h xs : Hd} {i : Nat} {A : List D} (e : xs[i]? = some (.lst A)) : isLD (.ref (h.length + i)) (h ++ xs) = true := isLG e
theorem lc_below {m w b k p : Nat} {R : List (List Rat)} (hi : Inv m w b R) (hp : p < w) (hm : m ≤ 1000) (h : Hd) (ps : List Nat) (hk : ps.length = k) (hkm : k ≤ m) (x0 x4 x5 x6 : Option D) :
    lc_lined_1 [x0, some (.ref (h.length + 0)), some (.ref (h.length + 1)), some (.int (p : Int)), x4, x5, x6] (h ++ [.lst (R.map encR), .lst (ps.map fun p : Nat => .int (p : Int))]) = .ok (.lst ((belowN R k p m).map D.int)) (h ++ [.lst (R.map encR), .lst (ps.map fun p : Nat => .int (p : Int))]) := by
  have l0 := lenG' (h := h) (xs := [.lst (R.map encR), .lst (ps.map fun p : Nat => .int (p : Int))]) (i := 0) rfl
  have l1 := lenG' (h := h) (xs := [.lst (R.map encR), .lst (ps.map fun p : Nat => .int (p : Int))]) (i := 1) rfl
  rw [List.length_map, hi.1] at l0
  rw [List.length_map, hk] at l1
  have ixs : ∀ q, q < m → dIx (.ref (h.length + 0)) (.int (q : Int)) (h ++ [.lst (R.map encR), .lst (ps.map fun p : Nat => .int (p : Int))]) = some (encR (R.getD q []), h ++ [.lst (R.map encR), .lst (ps.map fun p : Nat => .int (p : Int))]) := fun q hq => by
    have i1 := ixG (h := h) (xs := [.lst (R.map encR), .lst (ps.map fun p : Nat => .int (p : Int))]) (i := 0) (k := q) rfl (by rw [List.length_map, hi.1]; exact hq)
    rw [pickR (by rw [hi.1]; exact hq)] at i1
    exact i1
  generalize ps.map (fun p : Nat => D.int (p : Int)) = P at *
  generalize hRR : R.map encR = RR at *
  generalize h.length + 0 = a0 at *
  generalize h.length + 1 = a1 at *
  generalize h ++ [Ob.lst RR, Ob.lst P] = HH at *
  have e1 : rng2 (aCons (callP lenD (aCons (vr 2) (aNil))) (aCons (callP lenD (aCons (vr 1) (aNil))) (aNil))) [x0, some (.ref a0), some (.ref a1), some (.int (p : Int)), x4, x5, x6] HH = .ok ⟨rangeItems (k : Int) (m - k), []⟩ HH := by
    have := e_rng2 (f := aCons (callP lenD (aCons (vr 2) (aNil))) (aCons (callP lenD (aCons (vr 1) (aNil))) (aNil))) (σ := [x0, some (.ref a0), some (.ref a1), some (.int (p : Int)), x4, x5, x6]) (h := HH) (h1 := HH) (i := (k : Int)) (j := (m : Int)) (by simp -implicitDefEqProofs [l0, l1]) (by omega)
    rw [this, show ((m : Int) - (k : Int)).toNat = m - k by omega]
  refine e_lcD (h1 := HH) e1 ?_
  have hd : ∀ d ∈ rangeItems (k : Int) (m - k), ∃ q : Nat, d = .int (q : Int) ∧ k ≤ q ∧ q < m := fun d hd => by
    obtain ⟨i, hi, rfl⟩ := mem_range hd
    exact ⟨k + i, by rw [show ((k + i : Nat) : Int) = (k : Int) + (i : Int) by omega], by omega, by omega⟩
  have e2 := lc_filt (gt := setT 6) (ft := asB (bin2 dNe (bin2 dIx (bin2 dIx (vr 1) (vr 6)) (vr 3)) (cst (.tup [.int 0, .int 1])))) (fe := vr 6) (σ0 := wipeD [x0, some (.ref a0), some (.ref a1), some (.int (p : Int)), x4, x5, x6] [6]) (h := HH) (p := fun d => match d with | .int i => decide ((R.getD i.toNat []).getD p 0 ≠ 0) | _ => false) (f := fun d => d) (items := rangeItems (k : Int) (m - k)) (acc := []) fun d hdm => by
      obtain ⟨q, rfl, hq1, hq2⟩ := hd d hdm
      have i1 := ixs q hq2
      have i2 := ixr (r := R.getD q []) (j := p) (by rw [(hi.2 q hq2).1]; exact hp) HH
      refine ⟨_, rfl, ?_, fun _ => rfl⟩
      dsimp only
      rw [Int.toNat_natCast]
      generalize R.getD q [] = A at *
      generalize A.getD p 0 = z at *
      have eq := p_eqq true z 0 HH
      rw [enc_zero] at eq
      by_cases hz : z = 0
      · subst hz
        rw [decide_eq_true rfl] at eq
        simp -implicitDefEqProofs [wipeD, i1, i2, show dNe = eqD true from rfl, eq]
      · rw [decide_eq_false hz] at eq
        simp -implicitDefEqProofs [wipeD, i1, i2, show dNe = eqD true from rfl, eq, hz]
  rw [e2, List.nil_append]
  congr 1
  unfold belowN rangeItems
  rw [List.filter_map, List.filter_map, List.map_map, List.map_map]
  rfl
def pD (ps : List Nat) : List D := ps.map fun p : Nat => .int (p : Int)
theorem pD_snoc (ps : List Nat) (p : Nat) : pD ps ++ [.int (p : Int)] = pD (ps ++ [p]) := by simp [pD]
theorem lined_loop {m w b0 : Nat} (hm : m ≤ 1000) (hg : gr m b0 ≤ 1500) (h1b : 1 ≤ b0) (h : Hd) (x0 : Option D) : ∀ (n p : Nat) (R : List (List Rat)) (ps : List Nat), p + n = w → Inv m w (gr ps.length b0) R → ps.length ≤ m → ∀ x3 x4 x5 x6 : Option D, ∃ y3 y4 y5 y6,
    forLoop (setT 3) lb_lined_2 [] (rangeItems (p : Int) n) [x0, some (.ref (h.length + 0)), some (.ref (h.length + 1)), x3, x4, x5, x6] (h ++ [.lst (R.map encR), .lst (pD ps)])
      = .next [x0, some (.ref (h.length + 0)), some (.ref (h.length + 1)), y3, y4, y5, y6] (h ++ [.lst ((lineGo m n p R ps).1.map encR), .lst (pD (lineGo m n p R ps).2)])
  | 0, p, R, ps, _, _, _, x3, x4, x5, x6 => ⟨x3, x4, x5, x6, for_nil⟩
  | n + 1, p, R, ps, hpn, hi, hps, x3, x4, x5, x6 => by
    have hp : p < w := by omega
    have lb := lc_below hi hp hm h ps rfl hps x0 x4 x5 x6
    change lc_lined_1 [x0, some (.ref (h.length + 0)), some (.ref (h.length + 1)), some (.int (p : Int)), x4, x5, x6] (h ++ [.lst (R.map encR), .lst (pD ps)]) = .ok (.lst ((belowN R ps.length p m).map D.int)) (h ++ [.lst (R.map encR), .lst (pD ps)]) at lb
    have eq0 := p_eqL true (belowN R ps.length p m) [] (h ++ [.lst (R.map encR), .lst (pD ps)])
    cases hgn : belowN R ps.length p m with
    | nil =>
      obtain ⟨y3, y4, y5, y6, e⟩ := lined_loop (w := w) hm hg h1b h x0 n (p + 1) R ps (by omega) hi hps (some (.int (p : Int))) (some (.lst [])) x5 x6
      refine ⟨y3, y4, y5, y6, ?_⟩
      have un : lineGo m (n + 1) p R ps = lineGo m n (p + 1) R ps := by rw [lineGo, hgn]
      rw [un]
      rw [show ((p + 1 : Nat) : Int) = (p : Int) + 1 by omega] at e
      rw [range_cons]
      refine (for_cons rfl ?_).trans e
      rw [hgn] at lb eq0
      have eq0 : eqD true (.lst []) (.lst []) (h ++ [.lst (R.map encR), .lst (pD ps)]) = some (.bl false, h ++ [.lst (R.map encR), .lst (pD ps)]) := eq0
      have lb : lc_lined_1 [x0, some (.ref (h.length + 0)), some (.ref (h.length + 1)), some (.int (p : Int)), x4, x5, x6] (h ++ [.lst (R.map encR), .lst (pD ps)]) = .ok (.lst []) (h ++ [.lst (R.map encR), .lst (pD ps)]) := lb
      generalize R.map encR = RR at *
      generalize pD ps = P at *
      generalize h.length + 0 = a0 at *
      generalize h.length + 1 = a1 at *
      simp -implicitDefEqProofs [lb_lined_2, lb, show dNe = eqD true from rfl, eq0]
    | cons g gs =>
      obtain ⟨q, rfl, hq1, hq2, hq3⟩ := belowN_mem (g := g) (by rw [hgn]; exact List.mem_cons_self)
      have hkm : ps.length < m := by omega
      have hkR : ps.length < R.length := by rw [hi.1]; exact hkm
      have hqR : q < R.length := by rw [hi.1]; exact hq2
      have gk : gr ps.length b0 ≤ 1500 := Nat.le_trans (gr_mono (by omega)) hg
      have pi := pivR_inv (p := p) hi hkm hq2 hq3
      have si := step_inv hi hkm hq2 hq3
      rw [← gr_succ] at si
      have un : lineGo m (n + 1) p R ps = lineGo m n (p + 1) (elimR ps.length p m 0 (pivR R ps.length q p)) (ps ++ [p]) := by rw [lineGo, hgn]; dsimp only; rw [Int.toNat_natCast]
      obtain ⟨y6, eE⟩ := el_loop (m := m) (w := w) (b := gr ps.length b0) (k := ps.length) (p := p) hkm hp hm gk h (pD ps) x0 (some (.lst ((belowN R ps.length p m).map D.int))) m 0 (pivR R ps.length q p) (by omega) (einv_of pi) x6
      obtain ⟨y3, y4, y5, z6, e⟩ := lined_loop (w := w) hm hg h1b h x0 n (p + 1) (elimR ps.length p m 0 (pivR R ps.length q p)) (ps ++ [p]) (by omega) (by rw [List.length_append]; exact si) (by rw [List.length_append]; exact hkm) (some (.int (p : Int))) (some (.lst ((belowN R ps.length p m).map D.int))) (some (.int (ps.length : Int))) y6
      refine ⟨y3, y4, y5, z6, ?_⟩
      rw [un]
      rw [show ((p + 1 : Nat) : Int) = (p : Int) + 1 by omega] at e
      rw [range_cons]
      refine (for_cons rfl ?_).trans e
      have eq1 : eqD true (.lst ((belowN R ps.length p m).map D.int)) (.lst []) (h ++ [.lst (R.map encR), .lst (pD ps)]) = some (.bl true, h ++ [.lst (R.map encR), .lst (pD ps)]) := by
        have z : decide (belowN R ps.length p m = []) = false := by rw [hgn]; rfl
        rw [z] at eq0
        exact eq0
      have i3 : ∀ hh, dIx (.lst ((belowN R ps.length p m).map D.int)) (.int 0) hh = some (.int (q : Int), hh) := fun hh => by rw [hgn]; exact ixl0 _ _ _
      have lP := lenG' (h := h) (xs := [.lst (R.map encR), .lst (pD ps)]) (i := 1) rfl
      rw [show (pD ps).length = ps.length by simp [pD]] at lP
      have iq := ixG (h := h) (xs := [.lst (R.map encR), .lst (pD ps)]) (i := 0) (k := q) rfl (by simpa using hqR)
      have ik := ixG (h := h) (xs := [.lst (R.map encR), .lst (pD ps)]) (i := 0) (k := ps.length) rfl (by simpa using hkR)
      rw [pickR hqR] at iq
      rw [pickR hkR] at ik
      have st1 := storeG (h := h) (xs := [.lst (R.map encR), .lst (pD ps)]) (i := 0) (k := ps.length) rfl (by simpa using hkR) (encR (R.getD q []))
      rw [mapSet] at st1
      change dSet _ _ _ _ = some (h ++ [.lst ((R.set ps.length (R.getD q [])).map encR), .lst (pD ps)]) at st1
      have st2 := storeG (h := h) (xs := [.lst ((R.set ps.length (R.getD q [])).map encR), .lst (pD ps)]) (i := 0) (k := q) rfl (by simpa using hqR) (encR (R.getD ps.length []))
      rw [mapSet] at st2
      change dSet _ _ _ _ = some (h ++ [.lst ((swapQ R ps.length q).map encR), .lst (pD ps)]) at st2
      have ls : (swapQ R ps.length q).length = R.length := by simp [swapQ]
      have sk : (swapQ R ps.length q).getD ps.length [] = R.getD q [] := by
        rw [swapQ_getD hkR hqR]
        split
        · rename_i c; rw [c]
        · rw [if_pos rfl]
      have ik2 := ixG (h := h) (xs := [.lst ((swapQ R ps.length q).map encR), .lst (pD ps)]) (i := 0) (k := ps.length) rfl (by rw [List.length_map, ls]; exact hkR)
      rw [pickR (by rw [ls]; exact hkR), sk] at ik2
      have ix := ixr (r := R.getD q []) (j := p) (by rw [(hi.2 q hq2).1]; exact hp) (h ++ [.lst ((swapQ R ps.length q).map encR), .lst (pD ps)])
      have cq := (hi.2 q hq2).2
      have qp : Qs (gr ps.length b0) ((R.getD q []).getD p 0) := cq.getD p
      have by1 := v_by (Qs1 0) qp hq3 (by omega) (h ++ [.lst ((swapQ R ps.length q).map encR), .lst (pD ps)])
      have qd := (Qs1 0).div qp hq3
      rw [enc_one] at by1
      have sc := v_scaled cq.qs qd (by omega) (h ++ [.lst ((swapQ R ps.length q).map encR), .lst (pD ps)])
      have st3 := storeG (h := h) (xs := [.lst ((swapQ R ps.length q).map encR), .lst (pD ps)]) (i := 0) (k := ps.length) rfl (by rw [List.length_map, ls]; exact hkR) (encR (scaleQ (R.getD q []) (1 / (R.getD q []).getD p 0)))
      rw [mapSet] at st3
      change dSet _ _ _ _ = some (h ++ [.lst ((pivR R ps.length q p).map encR), .lst (pD ps)]) at st3
      have lR := lenG' (h := h) (xs := [.lst ((pivR R ps.length q p).map encR), .lst (pD ps)]) (i := 0) rfl
      rw [List.length_map, pi.1] at lR
      have ap := appG (h := h) (xs := [.lst ((elimR ps.length p m 0 (pivR R ps.length q p)).map encR), .lst (pD ps)]) (i := 1) (A := pD ps) (d := .int (p : Int)) rfl (by simp [pD]; omega)
      rw [pD_snoc] at ap
      change appP _ _ _ = some (.non, h ++ [.lst _, .lst (pD (ps ++ [p]))]) at ap
      have ld := isLG (h := h) (xs := [.lst ((elimR ps.length p m 0 (pivR R ps.length q p)).map encR), .lst (pD ps)]) (i := 1) (A := pD ps) rfl
      have kr := kR1_nat m (h ++ [.lst ((pivR R ps.length q p).map encR), .lst (pD ps)]) (by omega)
      rw [show ((0 : Nat) : Int) = 0 from rfl] at eE
      generalize hBB : (belowN R ps.length p m).map D.int = BB at *
      generalize (elimR ps.length p m 0 (pivR R ps.length q p)).map encR = Z4 at *
      generalize (pivR R ps.length q p).map encR = Z3 at *
      generalize (swapQ R ps.length q).map encR = Z2 at *
      generalize (R.set ps.length (R.getD q [])).map encR = Z1 at *
      generalize R.map encR = Z0 at *
      generalize scaleQ (R.getD q []) (1 / (R.getD q []).getD p 0) = t1 at *
      generalize (R.getD q []).getD p 0 = t0 at *
      generalize R.getD q [] = Rq at *
      generalize R.getD ps.length [] = Rk at *
      generalize pD (ps ++ [p]) = P2 at *
      generalize pD ps = P at *
      generalize h.length + 0 = a0 at *
      generalize h.length + 1 = a1 at *
      simp -implicitDefEqProofs [lb_lined_2, lb, show dNe = eqD true from rfl, eq1, lP, asgS, subT, tupT, seqOf, tsCons, tsNil, i3, iq, ik, st1, st2, ik2, ix, by1, sc, st3, lp_lined_1, x_forS, x_rng1, lR, kr, eE, ld, ap]
theorem frz_two {h : Hd} {A B : List D} (ha : NRL A) (hb : NRL B) : settle h (.ok (.tup [.ref (h.length + 0), .ref (h.length + 1)]) (h ++ [.lst A, .lst B])) = .ok (.tup [.lst A, .lst B]) h := by
  have ht : (h ++ [Ob.lst A, Ob.lst B]).take h.length = h := by simp
  have f0 : frz h.length (h ++ [.lst A, .lst B]) 3 (.ref (h.length + 0)) = some (.lst A) := by
    unfold frz
    rw [if_neg (by exact id)]
    dsimp only
    rw [if_neg (by omega), atG]
    dsimp only [List.getElem?_cons_zero]
    rw [frzL_nr ha]
    rfl
  have f1 : frz h.length (h ++ [.lst A, .lst B]) 3 (.ref (h.length + 1)) = some (.lst B) := by
    unfold frz
    rw [if_neg (by exact id)]
    dsimp only
    rw [if_neg (by omega), atG]
    dsimp only [List.getElem?_cons_succ, List.getElem?_cons_zero]
    rw [frzL_nr hb]
    rfl
  have f : frz h.length (h ++ [.lst A, .lst B]) 4 (.tup [.ref (h.length + 0), .ref (h.length + 1)]) = some (.tup [.lst A, .lst B]) := by
    unfold frz
    rw [if_neg (fun z => z.1)]
    dsimp only
    rw [List.mapM_cons, f0, List.mapM_cons, f1]
    rfl
  unfold settle
  dsimp only
  rw [if_pos (.inl ht), f, ht]
theorem NRL_R (R : List (List Rat)) : NRL (R.map encR) := NRL_map (f := encR) (fun r => NRL_map (f := encQ) NR_enc r) R
theorem NRL_pD (ps : List Nat) : NRL (pD ps) := NRL_map (f := fun p : Nat => D.int (p : Int)) (fun _ => trivial) ps
theorem v_lined {R : List (List Rat)} {m w b0 : Nat} (hi : Inv m w b0 R) (m1 : 1 ≤ m) (hm : m ≤ 1000) (hw : w ≤ 1000) (hg : gr m b0 ≤ 1500) (h1b : 1 ≤ b0) (h : Hd) :
    den_lined [.lst (R.map encR)] h = .ok (.tup [.lst ((lineQ R w).1.map encR), .lst (pD (lineQ R w).2)]) h := by
  obtain ⟨y3, y4, y5, y6, e⟩ := lined_loop hm hg h1b h (some (.lst (R.map encR))) w 0 R [] (by omega) hi (by simp) none none none none
  have R0 : 0 < R.length := by rw [hi.1]; omega
  have i0 : ∀ hh, dIx (.lst (R.map encR)) (.int 0) hh = some (encR (R.getD 0 []), hh) := fun hh => by
    have := ixmN (xs := R.map encR) (r := 0) (by simpa using R0) hh
    rw [pickR R0] at this
    exact this
  have lw : ∀ hh, lenD [encR (R.getD 0 [])] hh = some (.int (w : Int), hh) := fun hh => by rw [lenR, (hi.2 0 (by omega)).1]
  have kr := fun hh => kR1_nat w hh (by omega)
  have eL : lineGo m w 0 R [] = lineQ R w := by unfold lineQ; rw [hi.1]
  rw [eL, show ((0 : Nat) : Int) = 0 from rfl] at e
  have key : bodyD 7 body_lined [.lst (R.map encR)] h = .ok (.tup [.ref (h.length + 0), .ref (h.length + 1)]) (h ++ [.lst ((lineQ R w).1.map encR), .lst (pD (lineQ R w).2)]) := by
    refine bodyD_ret ?_
    unfold body_lined
    rw [show startD 7 [.lst (R.map encR)] = [some (.lst (R.map encR)), none, none, none, none, none, none] from rfl]
    have lh : (h ++ [Ob.lst (R.map encR)]).length = h.length + 1 := by simp
    have l0 : h.length = h.length + 0 := rfl
    have hh : h ++ [Ob.lst (R.map encR)] ++ [Ob.lst []] = h ++ [.lst (R.map encR), .lst (pD [])] := by simp [pD]
    generalize (lineQ R w).1.map encR = Z at *
    generalize pD (lineQ R w).2 = P at *
    generalize hRR : R.map encR = RR at *
    generalize R.getD 0 [] = r0 at *
    rw [seq_n (σ1 := [some (.lst RR), some (.ref (h.length + 0)), none, none, none, none, none]) (h1 := h ++ [.lst RR]) (by simp)]
    rw [seq_n (σ1 := [some (.lst RR), some (.ref (h.length + 0)), some (.ref (h.length + 1)), none, none, none, none]) (h1 := h ++ [.lst RR, .lst (pD [])]) (by
      simp -implicitDefEqProofs [lh, pD])]
    generalize h.length + 0 = a0 at *
    generalize h.length + 1 = a1 at *
    simp -implicitDefEqProofs [lp_lined_2, x_forS, x_rng1, i0, lw, kr, e]
  unfold den_lined bodyS
  rw [key]
  exact frz_two (NRL_R _) (NRL_pD _)
end Dz.PR

namespace Dz.PF
open PySem PySem.Spec PyProof.Rows L2 Dz Dz.PL Dz.PN Dz.PR
noncomputable def lc_free_by_1 : Den := lcD (seqI (callD Dz.PL.den_tabled 1 (aCons (vr 0) (aNil)))) (setT 9) (yesB) (callD Dz.PL.den_whole_row 1 (aCons (vr 9) (aNil))) [9]
noncomputable def lc_free_by_2 : Den := lcD (rng1 (aCons (vr 1) (aNil))) (setT 7) (asB (bin2 (inD true) (vr 7) (vr 5))) (vr 7) [7]
noncomputable def lb_free_by_1 : DenS := asgS (callD Dz.PL.den_less 2 (aCons (cst (.tup [.int 0, .int 1])) (aCons (bin2 dIx (bin2 dIx (vr 4) (vr 8)) (vr 3)) (aNil)))) (subT dSet (vr 6) (vr 7))
noncomputable def lp_free_by_1 : DenS := forS (enumI (aCons (vr 5) (aNil))) (tupT 2 (tsCons (setT 8) (tsCons (setT 7) (tsNil)))) (lb_free_by_1)
noncomputable def lb_free_by_2 : DenS := seqS (setS 6 (callP (listD mkM) (aCons (callD Dz.PL.den_unit_row 2 (aCons (vr 1) (aCons (vr 3) (aNil)))) (aNil)))) (seqS (lp_free_by_1) (exS (metL appP (vr 2) (aCons (callP (tupleD) (aCons (vr 6) (aNil))) (aNil)))))
noncomputable def lp_free_by_2 : DenS := forS (seqI (lc_free_by_2)) (setT 3) (lb_free_by_2)
noncomputable def body_free_by : DenS := seqS (setS 1 (callD Dz.PL.den_size_of 1 (aCons (vr 0) (aNil)))) (seqS (asgS (callD Dz.PR.den_lined 1 (aCons (lc_free_by_1) (aNil))) (tupT 2 (tsCons (setT 4) (tsCons (setT 5) (tsNil))))) (seqS (setS 2 (lstM (aNil))) (seqS (lp_free_by_2) (retS (vr 2)))))
noncomputable def den_free_by : FDen := bodyD 10 body_free_by
noncomputable def body_free_rows : DenS := seqS (exS (callD Dz.PL.den_check_slants 1 (aCons (vr 0) (aNil)))) (retS (callD Dz.PF.den_free_by 1 (aCons (vr 0) (aNil))))
noncomputable def den_free_rows : FDen := bodyD 1 body_free_rows
noncomputable def body_free_many : DenS := seqS (exS (callD Dz.PL.den_check_slants 1 (aCons (vr 0) (aNil)))) (retS (callP lenD (aCons (callD Dz.PF.den_free_by 1 (aCons (vr 0) (aNil))) (aNil))))
noncomputable def den_free_many : FDen := bodyD 1 body_free_many
noncomputable def body_rank_of : DenS := seqS (exS (callD Dz.PL.den_check_slants 1 (aCons (vr 0) (aNil)))) (retS (bin2 dSub (callD Dz.PL.den_size_of 1 (aCons (vr 0) (aNil))) (callP lenD (aCons (callD Dz.PF.den_free_by 1 (aCons (vr 0) (aNil))) (aNil)))))
noncomputable def den_rank_of : FDen := bodyD 1 body_rank_of
noncomputable def body_full_by : DenS := retS (bin2 dEq (callD Dz.PF.den_free_by 1 (aCons (vr 0) (aNil))) (lstD (aNil)))
noncomputable def den_full_by : FDen := bodyD 1 body_full_by
noncomputable def body_is_full : DenS := seqS (exS (callD Dz.PL.den_check_slants 1 (aCons (vr 0) (aNil)))) (retS (callD Dz.PF.den_full_by 1 (aCons (vr 0) (aNil))))
noncomputable def den_is_full : FDen := bodyD 1 body_is_full
/-! ### plain: what stays of a column -/
theorem scaleQ_getD (r : List Rat) (c : Rat) (j : Nat) : (scaleQ r c).getD j 0 = r.getD j 0 * c := by
  unfold scaleQ
  rw [List.getD, List.getD, List.getElem?_map]
  cases r[j]? with
  | none => simp
  | some x => rfl
theorem lessQ_getD {r s : List Rat} (h : r.length = s.length) (j : Nat) : (lessQ r s).getD j 0 = r.getD j 0 - s.getD j 0 := by
  unfold lessQ
  rw [List.getD, List.getD, List.getD, List.getElem?_map]
  by_cases hj : j < r.length
  · have hs : j < s.length := by omega
    have hz : j < (r.zip s).length := by rw [List.length_zip]; omega
    rw [List.getElem?_eq_getElem hz, List.getElem?_eq_getElem hj, List.getElem?_eq_getElem hs]
    simp
  · have hs : ¬ j < s.length := by omega
    have hz : ¬ j < (r.zip s).length := by rw [List.length_zip]; omega
    rw [List.getElem?_eq_none (by omega), List.getElem?_eq_none (by omega), List.getElem?_eq_none (by omega)]
    show (0 : Rat) = 0 - 0
    grind
def WI (m w : Nat) (R : List (List Rat)) : Prop := R.length = m ∧ ∀ j, j < m → (R.getD j []).length = w
theorem _root_.Dz.PR.Inv.wi {m w b : Nat} {R : List (List Rat)} (h : Inv m w b R) : WI m w R := ⟨h.1, fun j hj => (h.2 j hj).1⟩
theorem pivR_wi {m w k q p : Nat} {R : List (List Rat)} (h : WI m w R) (hk : k < m) (hq : q < m) : WI m w (pivR R k q p) := by
  refine ⟨by simp [pivR, swapQ, h.1], fun j hj => ?_⟩
  rw [pivR_getD (by rw [h.1]; exact hk) (by rw [h.1]; exact hq)]
  split
  · rw [scaleQ_len]; exact h.2 q hq
  · split
    · exact h.2 k hk
    · exact h.2 j hj
theorem elim1_getD {m w k p a : Nat} {R : List (List Rat)} (h : WI m w R) (ha : a < m) (j : Nat) : (if a = k then R else R.set a (lessQ (R.getD a []) (scaleQ (R.getD k []) ((R.getD a []).getD p 0)))).getD j [] = if j = a ∧ a ≠ k then lessQ (R.getD a []) (scaleQ (R.getD k []) ((R.getD a []).getD p 0)) else R.getD j [] := by
  by_cases e : a = k
  · rw [if_pos e, if_neg (fun z => z.2 e)]
  · rw [if_neg e, getD_setQ _ _ _ _ (by rw [h.1]; exact ha)]
    by_cases c : j = a
    · rw [if_pos c, if_pos ⟨c, e⟩]
    · rw [if_neg c, if_neg (fun z => c z.1)]
theorem elim1_wi {m w k p a : Nat} {R : List (List Rat)} (h : WI m w R) (hk : k < m) (ha : a < m) : WI m w (if a = k then R else R.set a (lessQ (R.getD a []) (scaleQ (R.getD k []) ((R.getD a []).getD p 0)))) := by
  refine ⟨by split <;> simp [h.1], fun j hj => ?_⟩
  rw [elim1_getD h ha]
  split
  · rw [lessQ_len _ _ (by rw [scaleQ_len, h.2 a ha, h.2 k hk])]
    exact h.2 a ha
  · exact h.2 j hj
theorem elimR_wi {m w k p : Nat} (hk : k < m) : ∀ (n a : Nat) (R : List (List Rat)), a + n = m → WI m w R → WI m w (elimR k p n a R)
  | 0, _, _, _, h => h
  | n + 1, a, R, ha, h => elimR_wi hk n (a + 1) _ (by omega) (elim1_wi h hk (by omega))
/-- row k stays, and the others are as told -/
theorem elimR_getD {m w k p : Nat} (hk : k < m) : ∀ (n a : Nat) (R : List (List Rat)), a + n = m → WI m w R → ∀ j, (elimR k p n a R).getD j [] = if a ≤ j ∧ j < m ∧ j ≠ k then lessQ (R.getD j []) (scaleQ (R.getD k []) ((R.getD j []).getD p 0)) else R.getD j []
  | 0, a, R, ha, _, j => by
    rw [if_neg (by omega)]
    rfl
  | n + 1, a, R, ha, h, j => by
    have ham : a < m := by omega
    show (elimR k p n (a + 1) _).getD j [] = _
    rw [elimR_getD hk n (a + 1) _ (by omega) (elim1_wi h hk ham) j, elim1_getD h ham, elim1_getD h ham]
    have hkk : ¬ (k = a ∧ a ≠ k) := fun z => z.2 z.1.symm
    rw [if_neg hkk]
    by_cases c1 : j = a
    · subst c1
      by_cases c2 : j = k
      · rw [if_neg (by omega), if_neg (by omega), if_neg (by omega)]
      · rw [if_neg (by omega), if_pos ⟨rfl, c2⟩, if_pos ⟨Nat.le_refl _, ham, c2⟩]
    · rw [if_neg (show ¬ (j = a ∧ a ≠ k) from fun z => c1 z.1)]
      by_cases c2 : a ≤ j ∧ j < m ∧ j ≠ k
      · rw [if_pos (by omega), if_pos c2]
      · rw [if_neg (by omega), if_neg c2]
def colQm (R : List (List Rat)) (a c : Nat) : Rat := (R.getD a []).getD c 0
theorem step_col {m w k q p c : Nat} {R : List (List Rat)} (h : WI m w R) (hk : k < m) (hq : q < m) (hkq : k ≤ q) (hz : ∀ a, k ≤ a → a < m → colQm R a c = 0) (a : Nat) (ha : a < m) : colQm (elimR k p m 0 (pivR R k q p)) a c = colQm R a c := by
  have hkR : k < R.length := by rw [h.1]; exact hk
  have hqR : q < R.length := by rw [h.1]; exact hq
  have hp : ∀ j, j < m → colQm (pivR R k q p) j c = colQm R j c := fun j hj => by
    unfold colQm
    rw [pivR_getD hkR hqR]
    by_cases c1 : j = k
    · rw [if_pos c1, scaleQ_getD]
      have := hz q hkq hq
      unfold colQm at this
      rw [this]
      subst c1
      have := hz j (Nat.le_refl _) hj
      unfold colQm at this
      rw [this]
      grind
    · rw [if_neg c1]
      by_cases c2 : j = q
      · rw [if_pos c2]
        have h1 := hz k (Nat.le_refl _) hk
        have h2 := hz j (by omega) hj
        unfold colQm at h1 h2
        rw [h1, h2]
      · rw [if_neg c2]
  have wi := pivR_wi (p := p) h hk hq
  have hk0 : colQm (pivR R k q p) k c = 0 := by rw [hp k hk]; exact hz k (Nat.le_refl _) hk
  rw [← hp a ha]
  show ((elimR k p m 0 (pivR R k q p)).getD a []).getD c 0 = _
  rw [elimR_getD hk m 0 _ (by omega) wi]
  by_cases c1 : 0 ≤ a ∧ a < m ∧ a ≠ k
  · rw [if_pos c1, lessQ_getD (by rw [scaleQ_len, wi.2 a ha, wi.2 k hk]), scaleQ_getD]
    unfold colQm at hk0 ⊢
    rw [hk0]
    grind
  · rw [if_neg c1]
    rfl
theorem lineGo_col {m w c : Nat} : ∀ (n p : Nat) (R : List (List Rat)) (ps : List Nat), WI m w R → ps.length ≤ m → (∀ a, ps.length ≤ a → a < m → colQm R a c = 0) → ∀ a, a < m → colQm (lineGo m n p R ps).1 a c = colQm R a c
  | 0, p, R, ps, _, _, _, a, _ => rfl
  | n + 1, p, R, ps, h, hl, hz, a, ha => by
    rw [lineGo]
    cases hb : belowN R ps.length p m with
    | nil => exact lineGo_col n (p + 1) R ps h hl hz a ha
    | cons g gs =>
      obtain ⟨q, rfl, hq1, hq2, hq3⟩ := belowN_mem (g := g) (by rw [hb]; exact List.mem_cons_self)
      dsimp only
      rw [Int.toNat_natCast]
      have hk : ps.length < m := by omega
      have sc := fun a ha => step_col (p := p) h hk hq2 hq1 hz a ha
      rw [lineGo_col n (p + 1) _ (ps ++ [p]) (elimR_wi hk m 0 _ (by omega) (pivR_wi h hk hq2)) (by rw [List.length_append]; exact hk) (fun b hb1 hb2 => by
        rw [List.length_append] at hb1
        rw [sc b hb2]
        exact hz b (by simp at hb1; omega) hb2) a ha]
      exact sc a ha
/-! ### plain: the places, the free rows -/
def fillGo (R : List (List Rat)) (f : Nat) : List Nat → Nat → List Rat → List Rat
  | [], _, row => row
  | c :: cs, a, row => fillGo R f cs (a + 1) (row.set c (0 - colQm R a f))
theorem fillGo_len (R : List (List Rat)) (f : Nat) : ∀ (cs : List Nat) (a : Nat) (row : List Rat), (fillGo R f cs a row).length = row.length
  | [], _, _ => rfl
  | c :: cs, a, row => by rw [fillGo, fillGo_len, List.length_set]
theorem fillGo_app (R : List (List Rat)) (f : Nat) : ∀ (cs ds : List Nat) (a : Nat) (row : List Rat), fillGo R f (cs ++ ds) a row = fillGo R f ds (a + cs.length) (fillGo R f cs a row)
  | [], ds, a, row => rfl
  | c :: cs, ds, a, row => by
    rw [List.cons_append, fillGo, fillGo, fillGo_app, List.length_cons]
    congr 1
    omega
theorem fillGo_congr {R S : List (List Rat)} {f : Nat} : ∀ (cs : List Nat) (a : Nat) (row : List Rat), (∀ b, a ≤ b → b < a + cs.length → colQm R b f = colQm S b f) → fillGo R f cs a row = fillGo S f cs a row
  | [], _, _, _ => rfl
  | c :: cs, a, row, h => by
    rw [fillGo, fillGo, h a (Nat.le_refl _) (by simp)]
    exact fillGo_congr cs (a + 1) _ fun b h1 h2 => h b (by omega) (by rw [List.length_cons]; omega)
theorem fillGo_keep {R : List (List Rat)} {f j : Nat} : ∀ (cs : List Nat) (a : Nat) (row : List Rat), j ∉ cs → (fillGo R f cs a row).getD j 0 = row.getD j 0
  | [], _, _, _ => rfl
  | c :: cs, a, row, h => by
    rw [fillGo, fillGo_keep cs (a + 1) _ (fun z => h (List.mem_cons_of_mem _ z)), List.getD, List.getD, List.getElem?_set_ne (fun z => h (by rw [z]; exact List.mem_cons_self))]
theorem set_same {row : List Rat} {c : Nat} (h : row.getD c 0 = 0) : row.set c 0 = row := by
  apply List.ext_getElem?
  intro i
  rw [List.getElem?_set]
  by_cases e : c = i
  · subst e
    rw [if_pos rfl]
    by_cases hc : c < row.length
    · rw [if_pos hc]
      rw [List.getD, List.getElem?_eq_getElem hc] at h
      rw [List.getElem?_eq_getElem hc]
      exact congrArg some h.symm
    · rw [if_neg hc, List.getElem?_eq_none (by omega)]
  · rw [if_neg e]
theorem fillGo_zero {R : List (List Rat)} {f : Nat} : ∀ (cs : List Nat) (a : Nat) (row : List Rat), (∀ b, a ≤ b → b < a + cs.length → colQm R b f = 0) → (∀ c ∈ cs, row.getD c 0 = 0) → fillGo R f cs a row = row
  | [], _, _, _, _ => rfl
  | c :: cs, a, row, h, hz => by
    rw [fillGo, h a (Nat.le_refl _) (by simp), show (0 : Rat) - 0 = 0 by grind, set_same (hz c List.mem_cons_self)]
    exact fillGo_zero cs (a + 1) _ (fun b h1 h2 => h b (by omega) (by rw [List.length_cons]; omega)) fun d hd => hz d (List.mem_cons_of_mem _ hd)
/-- the places found are those ahead and later ones -/
theorem lineGo_places {m : Nat} : ∀ (n p : Nat) (R : List (List Rat)) (ps : List Nat), ps.length ≤ m → ∃ ext, (lineGo m n p R ps).2 = ps ++ ext ∧ (∀ c ∈ ext, p ≤ c ∧ c < p + n) ∧ (ps ++ ext).length ≤ m
  | 0, p, R, ps, hl => ⟨[], by simp [lineGo], fun c hc => absurd hc (by simp), by simpa using hl⟩
  | n + 1, p, R, ps, hl => by
    rw [lineGo]
    cases hb : belowN R ps.length p m with
    | nil =>
      obtain ⟨ext, e, h1, h2⟩ := lineGo_places n (p + 1) R ps hl
      exact ⟨ext, e, fun c hc => by have := h1 c hc; omega, h2⟩
    | cons g gs =>
      obtain ⟨q, rfl, hq1, hq2, hq3⟩ := belowN_mem (g := g) (by rw [hb]; exact List.mem_cons_self)
      obtain ⟨ext, e, h1, h2⟩ := lineGo_places n (p + 1) (elimR ps.length p m 0 (pivR R ps.length q p)) (ps ++ [p]) (by rw [List.length_append]; show ps.length + 1 ≤ m; omega)
      refine ⟨p :: ext, by dsimp only; rw [Int.toNat_natCast, e]; simp, fun c hc => ?_, by simpa using h2⟩
      rcases List.mem_cons.mp hc with rfl | hc
      · omega
      · have := h1 c hc; omega
/-- the law's, told while sweeping -/
def lawGo (m : Nat) : Nat → Nat → List (List Rat) → List Nat → List (List Rat) → List (List Rat)
  | 0, _, _, _, F => F
  | n + 1, p, R, ps, F => match belowN R ps.length p m with
    | [] => lawGo m n (p + 1) R ps (F ++ [fillGo R p ps 0 (unitR m p)])
    | g :: _ => lawGo m n (p + 1) (elimR ps.length p m 0 (pivR R ps.length g.toNat p)) (ps ++ [p]) F
def freeOf (m : Nat) (L : List (List Rat) × List Nat) (fs : List Nat) : List (List Rat) := (fs.filter fun f => decide (f ∉ L.2)).map fun f => fillGo L.1 f L.2 0 (unitR m f)
theorem unitR_getD {n p j : Nat} (h : j ≠ p) : (unitR n p).getD j 0 = 0 := by
  unfold unitR
  rw [List.getD, List.getElem?_map]
  by_cases c : j < n
  · rw [List.getElem?_range c]
    simp [h]
  · rw [List.getElem?_eq_none (by simpa using c)]
    rfl
theorem law_free {m : Nat} : ∀ (n p : Nat) (R : List (List Rat)) (ps : List Nat) (F : List (List Rat)), WI m m R → ps.length ≤ m → (∀ c ∈ ps, c < p) → lawGo m n p R ps F = F ++ freeOf m (lineGo m n p R ps) (List.range' p n)
  | 0, p, R, ps, F, _, _, _ => by simp [lawGo, freeOf]
  | n + 1, p, R, ps, F, h, hl, hc => by
    rw [lawGo, lineGo]
    cases hb : belowN R ps.length p m with
    | nil =>
      dsimp only
      rw [law_free n (p + 1) R ps _ h hl (fun c hcc => by have := hc c hcc; omega)]
      obtain ⟨ext, e, h1, h2⟩ := lineGo_places (m := m) n (p + 1) R ps hl
      have hz : ∀ a, ps.length ≤ a → a < m → colQm R a p = 0 := belowN_nil hb
      have col := lineGo_col (w := m) (c := p) n (p + 1) R ps h hl hz
      have np : p ∉ (lineGo m n (p + 1) R ps).2 := fun z => by
        rw [e] at z
        rcases List.mem_append.mp z with z | z
        · have := hc p z; omega
        · have := h1 p z; omega
      have row : fillGo (lineGo m n (p + 1) R ps).1 p (lineGo m n (p + 1) R ps).2 0 (unitR m p) = fillGo R p ps 0 (unitR m p) := by
        rw [e, fillGo_app]
        have hl2 : ps.length + ext.length ≤ m := by simpa using h2
        rw [fillGo_congr (S := R) ps 0 _ fun b _ hb2 => col b (by omega)]
        refine fillGo_zero ext _ _ (fun b hb1 hb2 => ?_) fun c hcc => ?_
        · rw [col b (by omega)]
          exact hz b (by omega) (by omega)
        · have hc1 := h1 c hcc
          rw [fillGo_keep ps 0 _ (fun z => by have := hc c z; omega), unitR_getD (by omega)]
      unfold freeOf
      rw [List.range'_succ, List.filter_cons, if_pos (by simpa using np), List.map_cons, row]
      simp
    | cons g gs =>
      obtain ⟨q, rfl, hq1, hq2, hq3⟩ := belowN_mem (g := g) (by rw [hb]; exact List.mem_cons_self)
      dsimp only
      rw [Int.toNat_natCast]
      have hk : ps.length < m := by omega
      rw [law_free n (p + 1) _ (ps ++ [p]) F (elimR_wi hk m 0 _ (by omega) (pivR_wi h hk hq2)) (by rw [List.length_append]; exact hk) (fun c hcc => by
        rcases List.mem_append.mp hcc with hcc | hcc
        · have := hc c hcc; omega
        · simp at hcc; omega)]
      obtain ⟨ext, e, h1, h2⟩ := lineGo_places (m := m) n (p + 1) (elimR ps.length p m 0 (pivR R ps.length q p)) (ps ++ [p]) (by rw [List.length_append]; exact hk)
      unfold freeOf
      rw [List.range'_succ, List.filter_cons, if_neg (by
        rw [e]
        simp)]
/-! sizes -/
theorem lineGo_inv {m w b0 : Nat} : ∀ (n p : Nat) (R : List (List Rat)) (ps : List Nat), Inv m w (gr ps.length b0) R → ps.length ≤ m → Inv m w (gr (lineGo m n p R ps).2.length b0) (lineGo m n p R ps).1 ∧ (lineGo m n p R ps).2.length ≤ m
  | 0, p, R, ps, hi, hl => ⟨hi, hl⟩
  | n + 1, p, R, ps, hi, hl => by
    rw [lineGo]
    cases hb : belowN R ps.length p m with
    | nil => exact lineGo_inv n (p + 1) R ps hi hl
    | cons g gs =>
      obtain ⟨q, rfl, hq1, hq2, hq3⟩ := belowN_mem (g := g) (by rw [hb]; exact List.mem_cons_self)
      dsimp only
      rw [Int.toNat_natCast]
      have hk : ps.length < m := by omega
      have si := step_inv (p := p) hi hk hq2 hq3
      rw [← gr_succ] at si
      exact lineGo_inv n (p + 1) _ (ps ++ [p]) (by rw [List.length_append]; exact si) (by rw [List.length_append]; exact hk)
theorem lineQ_inv {m w b0 : Nat} {R : List (List Rat)} (hi : Inv m w b0 R) : Inv m w (gr m b0) (lineQ R w).1 ∧ (lineQ R w).2.length ≤ m := by
  obtain ⟨h1, h2⟩ := lineGo_inv (b0 := b0) w 0 R [] hi (by simp)
  unfold lineQ
  rw [hi.1]
  exact ⟨h1.mono (gr_mono h2), h2⟩
theorem fillGo_qs {R : List (List Rat)} {f B : Nat} (hR : ∀ a, Qs B (colQm R a f)) : ∀ (cs : List Nat) (a : Nat) (row : List Rat), (∀ q ∈ row, Qs (B + 2) q) → ∀ q ∈ fillGo R f cs a row, Qs (B + 2) q
  | [], _, _, h => h
  | c :: cs, a, row, h => fillGo_qs hR cs (a + 1) _ fun q hq => by
    rcases List.mem_or_eq_of_mem_set hq with hq | rfl
    · exact h q hq
    · exact ((Qs0 0).sub (hR a)).mono (by omega)
/-! ### the program's free rows -/
theorem p_notin (p : Nat) (ps : List Nat) (h : Hd) : inD true (.int (p : Int)) (.lst (pD ps)) h = some (.bl (decide (p ∉ ps)), h) := by
  have m : mapO flt (pD ps) = some (ps.map fun p : Nat => V.int (p : Int)) := mapO_map fun c _ => rfl
  have iv : inV (V.int (p : Int)) (ps.map fun p : Nat => V.int (p : Int)) = decide (p ∈ ps) := by
    rw [Bool.eq_iff_iff, decide_eq_true_eq]
    induction ps with
    | nil => simp [inV]
    | cons c cs ih =>
      simp only [inV, List.map_cons, List.any_cons, Bool.or_eq_true, List.mem_cons] at ih ⊢
      have ih := ih (mapO_map fun c _ => rfl)
      rw [ih]
      have : eqV (V.int (c : Int)) (V.int (p : Int)) = true ↔ p = c := by
        simp [eqV]
        omega
      rw [this]
  show (match some (V.int (p : Int)), some (pD ps) with | some x, some ds => (match mapO flt ds with | some ys => some (D.bl (if true = true then !inV x ys else inV x ys), h) | none => none) | _, _ => none) = _
  dsimp only
  rw [m]
  dsimp only
  rw [iv]
  simp
theorem e_enumL {f : DenA} {σ : Sd} {h h1 : Hd} {xs : List Int} (e : f σ h = .ok [.lst (xs.map D.int)] h1) : enumI f σ h = .ok ⟨enumFrom 0 xs, []⟩ h1 := by
  unfold enumI
  rw [e]
  have : enumUp (xs.map D.int) = enumFrom 0 xs := by
    unfold enumUp
    rw [List.length_map, enum_from]
  simp [srcOf, notStr, this]
theorem pD_ints (ps : List Nat) : pD ps = (ps.map fun p : Nat => (p : Int)).map D.int := by
  unfold pD
  rw [List.map_map]
  rfl
theorem fb_in {m B : Nat} {R : List (List Rat)} {f : Nat} (hR : WI m m R) (hq : ∀ a, Qs B (colQm R a f)) (hB : B ≤ 3000) (hf : f < m) (H : Hd) (x0 x1 x2 x5 x9 : Option D) : ∀ (cs : List Nat) (a : Nat) (row : List Rat), a + cs.length ≤ m → row.length = m → (∀ c ∈ cs, c < m) → ∀ x7 x8 : Option D, ∃ y7 y8,
    forLoop (tupT 2 (tsCons (setT 8) (tsCons (setT 7) (tsNil)))) lb_free_by_1 [] (enumFrom (a : Int) (cs.map fun p : Nat => (p : Int))) [x0, x1, x2, some (.int (f : Int)), some (.lst (R.map encR)), x5, some (.ref H.length), x7, x8, x9] (H ++ [.lst (row.map encQ)])
      = .next [x0, x1, x2, some (.int (f : Int)), some (.lst (R.map encR)), x5, some (.ref H.length), y7, y8, x9] (H ++ [.lst ((fillGo R f cs a row).map encQ)])
  | [], a, row, _, _, _, x7, x8 => ⟨x7, x8, for_nil⟩
  | c :: cs, a, row, ha, hr, hc, x7, x8 => by
    rw [List.length_cons] at ha
    have haR : a < R.length := by rw [hR.1]; omega
    have hcm := hc c List.mem_cons_self
    obtain ⟨y7, y8, e⟩ := fb_in hR hq hB hf H x0 x1 x2 x5 x9 cs (a + 1) (row.set c (0 - colQm R a f)) (by omega) (by rw [List.length_set]; exact hr) (fun d hd => hc d (List.mem_cons_of_mem _ hd)) (some (.int (c : Int))) (some (.int (a : Int)))
    refine ⟨y7, y8, ?_⟩
    rw [show ((a + 1 : Nat) : Int) = (a : Int) + 1 by omega] at e
    show forLoop _ _ _ (.tup [.int (a : Int), .int (c : Int)] :: enumFrom ((a : Int) + 1) (cs.map fun p : Nat => (p : Int))) _ _ = _
    refine (for_cons (σ1 := [x0, x1, x2, some (.int (f : Int)), some (.lst (R.map encR)), x5, some (.ref H.length), some (.int (c : Int)), some (.int (a : Int)), x9]) (h1 := H ++ [.lst (row.map encQ)]) (by simp [tupT, seqOf, tsCons, tsNil]) ?_).trans e
    have i1 := ixmN (xs := R.map encR) (r := a) (by simpa using haR) (H ++ [.lst (row.map encQ)])
    rw [pickR haR] at i1
    have i2 := ixr (r := R.getD a []) (j := f) (by rw [hR.2 a (by omega)]; exact hf) (H ++ [.lst (row.map encQ)])
    have le := v_less (Qs0 0) (hq a) (by omega) (H ++ [.lst (row.map encQ)])
    rw [enc_zero] at le
    have st : dSet (.ref H.length) (.int (c : Int)) (encQ (0 - colQm R a f)) (H ++ [.lst (row.map encQ)]) = some (H ++ [.lst ((row.set c (0 - colQm R a f)).map encQ)]) := by
      rw [p_setr (snoc_at _ _) (ixN_nat (by rw [List.length_map, hr]; exact hcm)), snoc_set, List.map_set]
    unfold colQm at *
    generalize ((row.set c (0 - (R.getD a []).getD f 0)).map encQ) = Z at *
    generalize (R.getD a []).getD f 0 = t0 at *
    generalize R.getD a [] = Ra at *
    generalize R.map encR = RR at *
    generalize row.map encQ = rr at *
    generalize H.length = hl at *
    simp -implicitDefEqProofs [lb_free_by_1, asgS, subT, i1, i2, le, st]
theorem fb_out {m B : Nat} {R : List (List Rat)} {ps : List Nat} (hR : WI m m R) (hm : m ≤ 1000) (hq : ∀ a f, Qs B (colQm R a f)) (hB : B ≤ 3000) (hl : ps.length ≤ m) (hp : ∀ c ∈ ps, c < m) (h : Hd) (x0 : Option D) : ∀ (fs : List Nat) (F : List (List Rat)) (tl : Hd), (∀ f ∈ fs, f < m) → F.length + fs.length ≤ 1000 → FlatH tl → ∀ x3 x6 x7 x8 x9 : Option D, ∃ y3 y6 y7 y8 tl', FlatH tl' ∧
    forLoop (setT 3) lb_free_by_2 [] (pD fs) [x0, some (.int (m : Int)), some (.ref h.length), x3, some (.lst (R.map encR)), some (.lst (pD ps)), x6, x7, x8, x9] (h ++ .lst (F.map encR) :: tl)
      = .next [x0, some (.int (m : Int)), some (.ref h.length), y3, some (.lst (R.map encR)), some (.lst (pD ps)), y6, y7, y8, x9] (h ++ .lst ((F ++ fs.map fun f => fillGo R f ps 0 (unitR m f)).map encR) :: tl')
  | [], F, tl, _, _, ft, x3, x6, x7, x8, x9 => ⟨x3, x6, x7, x8, tl, ft, by
    rw [show pD [] = [] from rfl, List.map_nil, List.append_nil]
    exact for_nil⟩
  | f :: fs, F, tl, hf, hz, ft, x3, x6, x7, x8, x9 => by
    rw [List.length_cons] at hz
    have hfm := hf f List.mem_cons_self
    generalize hH : h ++ Ob.lst (F.map encR) :: tl = H
    obtain ⟨z7, z8, e1⟩ := fb_in hR (fun a => hq a f) hB hfm H x0 (some (.int (m : Int))) (some (.ref h.length)) (some (.lst (pD ps))) x9 ps 0 (unitR m f) (by omega) (unitR_len m f) hp x7 x8
    obtain ⟨y3, y6, y7, y8, tl', ft', e⟩ := fb_out hR hm hq hB hl hp h x0 fs (F ++ [fillGo R f ps 0 (unitR m f)]) (tl ++ [.lst ((fillGo R f ps 0 (unitR m f)).map encQ)]) (fun d hd => hf d (List.mem_cons_of_mem _ hd)) (by rw [List.length_append]; simp; omega) (flat_app ft (show NRO (.lst _) from NRL_map (f := encQ) NR_enc _)) (some (.int (f : Int))) (some (.ref H.length)) z7 z8 x9
    refine ⟨y3, y6, y7, y8, tl', ft', ?_⟩
    rw [show F ++ (f :: fs).map (fun f => fillGo R f ps 0 (unitR m f)) = (F ++ [fillGo R f ps 0 (unitR m f)]) ++ fs.map (fun f => fillGo R f ps 0 (unitR m f)) by simp]
    show forLoop _ _ _ (.int (f : Int) :: pD fs) _ _ = _
    refine (for_cons rfl ?_).trans e
    have eu := v_unitrow m f (by omega) H
    have en : ∀ hh, enumI (aCons (vr 5) (aNil)) [x0, some (.int (m : Int)), some (.ref h.length), some (.int (f : Int)), some (.lst (R.map encR)), some (.lst (pD ps)), some (.ref H.length), x7, x8, x9] hh = .ok ⟨enumFrom 0 (ps.map fun p : Nat => (p : Int)), []⟩ hh := fun hh => e_enumL (by rw [pD_ints]; simp -implicitDefEqProofs [])
    have tp : tupleD [.ref H.length] (H ++ [.lst ((fillGo R f ps 0 (unitR m f)).map encQ)]) = some (encR (fillGo R f ps 0 (unitR m f)), H ++ [.lst ((fillGo R f ps 0 (unitR m f)).map encQ)]) := p_tupr (snoc_at _ _)
    have hH2 : H ++ [Ob.lst ((fillGo R f ps 0 (unitR m f)).map encQ)] = h ++ .lst (F.map encR) :: (tl ++ [.lst ((fillGo R f ps 0 (unitR m f)).map encQ)]) := by rw [← hH]; simp
    have ap := app_mid (h := h) (tl := tl ++ [.lst ((fillGo R f ps 0 (unitR m f)).map encQ)]) (xs := F.map encR) (d := encR (fillGo R f ps 0 (unitR m f))) (by simp; omega)
    rw [show F.map encR ++ [encR (fillGo R f ps 0 (unitR m f))] = (F ++ [fillGo R f ps 0 (unitR m f)]).map encR by simp] at ap
    have ld := isLD_mid h (tl ++ [.lst ((fillGo R f ps 0 (unitR m f)).map encQ)]) (F.map encR)
    rw [← hH2] at ap ld
    have ls : listD mkM [encR (unitR m f)] H = some (.ref H.length, H ++ [.lst ((unitR m f).map encQ)]) := rfl
    rw [show ((0 : Nat) : Int) = 0 from rfl] at e1
    generalize (h ++ Ob.lst ((F ++ [fillGo R f ps 0 (unitR m f)]).map encR) :: (tl ++ [.lst ((fillGo R f ps 0 (unitR m f)).map encQ)])) = H3 at *
    generalize (fillGo R f ps 0 (unitR m f)).map encQ = r2 at *
    generalize encR (fillGo R f ps 0 (unitR m f)) = r3 at *
    generalize (unitR m f).map encQ = r1 at *
    generalize encR (unitR m f) = r0 at *
    generalize R.map encR = RR at *
    generalize pD ps = P at *
    generalize (ps.map fun p : Nat => (p : Int)) = P2 at *
    generalize H.length = hl2 at *
    simp -implicitDefEqProofs [lb_free_by_2, lp_free_by_1, x_forS, eu, ls, en, e1, tp, ld, ap]
def freeQ (xs : List Int) (n : Nat) : List (List Rat) := freeOf n (lineQ (tabS (tabL xs n)) n) (List.range n)
section
variable {xs : List Int} {n : Nat}
theorem tabS_inv (hs : Sl xs) : Inv n n 6 (tabS (tabL xs n)) := by
  have lT : (tabS (tabL xs n)).length = n := by rw [tabS, List.length_map, tab_len]
  refine ⟨lT, fun j hj => ?_⟩
  have hm : (tabS (tabL xs n)).getD j [] ∈ tabS (tabL xs n) := getD_in (by rw [lT]; exact hj)
  obtain ⟨l, hl, e⟩ := List.mem_map.mp hm
  rw [← e]
  exact ⟨by rw [cqs, List.length_map]; exact tab_rows hl, CD.ints (by decide) fun x hx => by
    have := tab_mem hs.2 hl x hx
    omega⟩
theorem inv_col {m w b : Nat} {R : List (List Rat)} (h : Inv m w b R) (hb : 1 ≤ b) (a c : Nat) : Qs b (colQm R a c) := by
  unfold colQm
  by_cases ha : a < m
  · exact (h.2 a ha).2.getD c
  · rw [show R.getD a [] = [] by rw [List.getD, List.getElem?_eq_none (by rw [h.1]; omega)]; rfl]
    exact (CD.nil hb).getD c
theorem gr5 {k : Nat} (h : k ≤ 5) : gr k 6 ≤ 223 := by
  have := gr_mono (b := 6) h
  have e : gr 5 6 = 223 := by decide
  omega
theorem freeQ_ok (hs : Sl xs) (n5 : n ≤ 5) : (freeQ xs n).length ≤ 5 ∧ ∀ r ∈ freeQ xs n, r.length = n ∧ ∀ q ∈ r, Qs 225 q := by
  have li := lineQ_inv (tabS_inv (n := n) hs)
  refine ⟨?_, fun r hr => ?_⟩
  · unfold freeQ freeOf
    rw [List.length_map]
    have := List.length_filter_le (fun f => decide (f ∉ (lineQ (tabS (tabL xs n)) n).2)) (List.range n)
    rw [List.length_range] at this
    omega
  · obtain ⟨f, _, rfl⟩ := List.mem_map.mp hr
    refine ⟨by rw [fillGo_len, unitR_len], ?_⟩
    refine fillGo_qs (B := 223) (fun a => inv_col (li.1.mono (gr5 n5)) (by decide) a f) _ _ _ fun q hq => (unitR_qs n f q hq).mono (by decide)
theorem v_freebyF (hs : Sl xs) (n1 : 1 ≤ n) (n5 : n ≤ 5) (hl : xs.length = 2 * n - 1) (h : Hd) : ∃ tl, FlatH (.lst ((freeQ xs n).map encR) :: tl) ∧ den_free_by [.tup (xs.map D.int)] h = .ok (.ref h.length) (h ++ .lst ((freeQ xs n).map encR) :: tl) := by
  have e3 := v_sizeof (xs.map D.int) h
  rw [List.length_map, hl, show (2 * n - 1 + 1) / 2 = n by omega] at e3
  have et := v_tabled n1 n5 hl h
  have ti := tabS_inv (n := n) hs
  have li := lineQ_inv ti
  obtain ⟨ext, ep, hp1, hp2⟩ := lineGo_places (m := n) n 0 (tabS (tabL xs n)) [] (by simp)
  have eQ : lineGo n n 0 (tabS (tabL xs n)) [] = lineQ (tabS (tabL xs n)) n := by unfold lineQ; rw [ti.1]
  rw [eQ] at ep
  have e1 : ∀ x1 x2 x3 x4 x5 x6 x7 x8 x9, lc_free_by_1 [some (.tup (xs.map D.int)), x1, x2, x3, x4, x5, x6, x7, x8, x9] h = .ok (.lst ((tabS (tabL xs n)).map encR)) h := fun x1 x2 x3 x4 x5 x6 x7 x8 x9 => by
    unfold tabS
    rw [List.map_map]
    refine lcD_seq (l := tabL xs n) (g := fun r => D.lst (r.map D.int)) (by simp -implicitDefEqProofs [x_seqI, et, encT, kSeq_lst]) fun r _ => ?_
    have ew := v_wholerowL r h
    simp -implicitDefEqProofs [wipeD, ew]
  have e2 := v_lined ti n1 (by omega) (by omega) (Nat.le_trans (gr5 n5) (by decide)) (by decide) h
  have hq : ∀ a f, Qs 223 (colQm (lineQ (tabS (tabL xs n)) n).1 a f) := fun a f => inv_col (li.1.mono (gr5 n5)) (by decide) a f
  obtain ⟨y3, y6, y7, y8, tl', ft', e4⟩ := fb_out (Inv.wi li.1) (by omega) hq (by decide) li.2 (fun c hc => by
    rw [ep] at hc
    have := hp1 c (by simpa using hc)
    omega) h (some (.tup (xs.map D.int))) ((List.range n).filter fun f => decide (f ∉ (lineQ (tabS (tabL xs n)) n).2)) [] [] (fun f hf => List.mem_range.mp (List.mem_filter.mp hf).1) (by
    have := List.length_filter_le (fun f => decide (f ∉ (lineQ (tabS (tabL xs n)) n).2)) (List.range n)
    rw [List.length_range] at this
    simp only [List.length_nil]
    omega) (fun o ho => absurd ho (by simp)) none none none none none
  have e5 : ∀ hh x2 x3 x4 x6 x7 x8 x9, lc_free_by_2 [some (.tup (xs.map D.int)), some (.int (n : Int)), x2, x3, x4, some (.lst (pD (lineQ (tabS (tabL xs n)) n).2)), x6, x7, x8, x9] hh = .ok (.lst (pD ((List.range n).filter fun f => decide (f ∉ (lineQ (tabS (tabL xs n)) n).2)))) hh := fun hh x2 x3 x4 x6 x7 x8 x9 => by
    generalize (lineQ (tabS (tabL xs n)) n).2 = ps at *
    refine e_lcD (h1 := hh) (src := ⟨rangeItems 0 n, []⟩) (by simp -implicitDefEqProofs [x_rng1, kR1_nat n hh (by omega)]) ?_
    have e := lc_filt (gt := setT 7) (ft := asB (bin2 (inD true) (vr 7) (vr 5))) (fe := vr 7) (σ0 := wipeD [some (.tup (xs.map D.int)), some (.int (n : Int)), x2, x3, x4, some (.lst (pD ps)), x6, x7, x8, x9] [7]) (h := hh) (p := fun d => match d with | .int i => decide (i.toNat ∉ ps) | _ => false) (f := fun d => d) (items := rangeItems 0 n) (acc := []) fun d hd => by
      obtain ⟨i, hi, rfl⟩ := mem_range hd
      rw [show (0 : Int) + (i : Int) = (i : Int) by omega]
      refine ⟨_, rfl, ?_, fun _ => rfl⟩
      have pn := p_notin i ps hh
      dsimp only
      rw [Int.toNat_natCast]
      generalize pD ps = P at *
      generalize decide (i ∉ ps) = b at *
      simp -implicitDefEqProofs [wipeD, pn]
    rw [e, List.nil_append]
    congr 1
    unfold rangeItems pD
    rw [List.filter_map, List.map_map]
    have : (fun i : Nat => D.int (0 + (i : Int))) = fun i : Nat => D.int (i : Int) := by funext i; rw [Int.zero_add]
    rw [this]
    rfl
  refine ⟨tl', fun o ho => (List.mem_cons.mp ho).elim (fun e => e ▸ NRL_R _) (ft' o), bodyD_ret ?_⟩
  unfold body_free_by
  rw [show startD 10 [.tup (xs.map D.int)] = [some (.tup (xs.map D.int)), none, none, none, none, none, none, none, none, none] from rfl]
  rw [List.map_nil] at e4
  change _ = SOut.next _ (h ++ .lst ((freeQ xs n).map encR) :: tl') at e4
  generalize (freeQ xs n).map encR = FQ at *
  generalize pD ((List.range n).filter fun f => decide (f ∉ (lineQ (tabS (tabL xs n)) n).2)) = PF at *
  generalize pD (lineQ (tabS (tabL xs n)) n).2 = PS at *
  generalize (lineQ (tabS (tabL xs n)) n).1.map encR = RS at *
  generalize (tabS (tabL xs n)).map encR = TS at *
  generalize xs.map D.int = X at *
  simp -implicitDefEqProofs [e3, e1, e2, asgS, tupT, seqOf, tsCons, tsNil, e5, lp_free_by_2, x_forS, x_seqI, kSeq_lst, e4]
theorem v_freeby (hs : Sl xs) (n1 : 1 ≤ n) (n5 : n ≤ 5) (hl : xs.length = 2 * n - 1) (h : Hd) : ∃ tl, den_free_by [.tup (xs.map D.int)] h = .ok (.ref h.length) (h ++ .lst ((freeQ xs n).map encR) :: tl) := by
  obtain ⟨tl, _, e⟩ := v_freebyF hs n1 n5 hl h
  exact ⟨tl, e⟩
theorem v_freerows (hs : Sl xs) (n1 : 1 ≤ n) (n5 : n ≤ 5) (hl : xs.length = 2 * n - 1) (h : Hd) : ∃ tl, den_free_rows [.tup (xs.map D.int)] h = .ok (.ref h.length) (h ++ .lst ((freeQ xs n).map encR) :: tl) := by
  obtain ⟨tl, e⟩ := v_freeby hs n1 n5 hl h
  have c := cs_ok hs h
  exact ⟨tl, bodyD_ret (by simp -implicitDefEqProofs [body_free_rows, startD, c, e])⟩
theorem v_freemany (hs : Sl xs) (n1 : 1 ≤ n) (n5 : n ≤ 5) (hl : xs.length = 2 * n - 1) (h : Hd) : ∃ h', den_free_many [.tup (xs.map D.int)] h = .ok (.int ((freeQ xs n).length : Int)) (h ++ h') := by
  obtain ⟨tl, e⟩ := v_freeby hs n1 n5 hl h
  have c := cs_ok hs h
  have ln : lenD [.ref h.length] (h ++ .lst ((freeQ xs n).map encR) :: tl) = some (.int ((freeQ xs n).length : Int), h ++ .lst ((freeQ xs n).map encR) :: tl) := by
    rw [p_lenr (xs := (freeQ xs n).map encR) (by simp), List.length_map]
  exact ⟨.lst ((freeQ xs n).map encR) :: tl, bodyD_ret (by simp -implicitDefEqProofs [body_free_many, startD, c, e, ln])⟩
theorem v_rankof (hs : Sl xs) (n1 : 1 ≤ n) (n5 : n ≤ 5) (hl : xs.length = 2 * n - 1) (h : Hd) : ∃ h', den_rank_of [.tup (xs.map D.int)] h = .ok (.int ((n : Int) - ((freeQ xs n).length : Int))) (h ++ h') := by
  obtain ⟨tl, e⟩ := v_freeby hs n1 n5 hl h
  have c := cs_ok hs h
  have e3 := v_sizeof (xs.map D.int) h
  rw [List.length_map, hl, show (2 * n - 1 + 1) / 2 = n by omega] at e3
  have ln : lenD [.ref h.length] (h ++ .lst ((freeQ xs n).map encR) :: tl) = some (.int ((freeQ xs n).length : Int), h ++ .lst ((freeQ xs n).map encR) :: tl) := by
    rw [p_lenr (xs := (freeQ xs n).map encR) (by simp), List.length_map]
  exact ⟨.lst ((freeQ xs n).map encR) :: tl, bodyD_ret (by simp -implicitDefEqProofs [body_rank_of, startD, c, e3, e, ln])⟩
theorem py_refR (A : List (List Rat)) (h : Hd) (k : Nat) (e : h[k]? = some (.lst (A.map encR))) : pyOf h 8 (.ref k) = some (.list (A.map pyR)) := by
  have : mapO (pyOf h 7) (A.map encR) = some (A.map pyR) := mapO_map fun c _ => py_encR c h 4
  unfold pyOf
  dsimp only
  rw [e]
  dsimp only
  rw [this]
theorem v_fullbyF (hs : Sl xs) (n1 : 1 ≤ n) (n5 : n ≤ 5) (hl : xs.length = 2 * n - 1) (h : Hd) : ∃ h', FlatH h' ∧ den_full_by [.tup (xs.map D.int)] h = .ok (.bl (decide (freeQ xs n = []))) (h ++ h') := by
  obtain ⟨tl, ft, e⟩ := v_freebyF hs n1 n5 hl h
  have eq : eqD false (.ref h.length) (.lst []) (h ++ .lst ((freeQ xs n).map encR) :: tl) = some (.bl (decide (freeQ xs n = [])), h ++ .lst ((freeQ xs n).map encR) :: tl) := by
    unfold eqD
    rw [py_refR (freeQ xs n) _ _ (by simp), show pyOf (h ++ .lst ((freeQ xs n).map encR) :: tl) 8 (.lst []) = some (.list (([] : List (List Rat)).map pyR)) from rfl]
    dsimp only
    rw [eqv_lstL, eqv_map eqv_r]
    rfl
  exact ⟨.lst ((freeQ xs n).map encR) :: tl, ft, bodyD_ret (by simp -implicitDefEqProofs [body_full_by, startD, e, show dEq = eqD false from rfl, eq])⟩
theorem v_fullby (hs : Sl xs) (n1 : 1 ≤ n) (n5 : n ≤ 5) (hl : xs.length = 2 * n - 1) (h : Hd) : ∃ h', den_full_by [.tup (xs.map D.int)] h = .ok (.bl (decide (freeQ xs n = []))) (h ++ h') := by
  obtain ⟨g, _, e⟩ := v_fullbyF hs n1 n5 hl h
  exact ⟨g, e⟩
theorem v_isfull (hs : Sl xs) (n1 : 1 ≤ n) (n5 : n ≤ 5) (hl : xs.length = 2 * n - 1) (h : Hd) : ∃ h', den_is_full [.tup (xs.map D.int)] h = .ok (.bl (decide (freeQ xs n = []))) (h ++ h') := by
  obtain ⟨tl, e⟩ := v_fullby hs n1 n5 hl h
  have c := cs_ok hs h
  exact ⟨tl, bodyD_ret (by simp -implicitDefEqProofs [body_is_full, startD, c, e])⟩
end
end Dz.PF

namespace Dz.PD
open PySem PySem.Spec PyProof.Rows L2 Dz Dz.PN
/-! ### numbers of tables, plain -/
abbrev Rw := Nat → Rat
def ex (r : Rw) (f : List Nat → Rat) : List Nat → Rat
  | [] => 0
  | c :: cs => r c * f cs - ex r (fun B => f (c :: B)) cs
def dt : List Rw → List Nat → Rat
  | [], _ => 1
  | r :: rs, cols => ex r (dt rs) cols
theorem ex_congr {r : Rw} : ∀ {cols : List Nat} {f g : List Nat → Rat}, (∀ B, B.length + 1 = cols.length → f B = g B) → ex r f cols = ex r g cols
  | [], _, _, _ => rfl
  | c :: cs, f, g, h => by
    rw [ex, ex, h cs rfl, ex_congr (f := fun B => f (c :: B)) (g := fun B => g (c :: B)) fun B hB => h (c :: B) (by rw [List.length_cons, List.length_cons, hB])]
theorem ex_lin {r : Rw} (a b : Rat) : ∀ {cols : List Nat} {f g : List Nat → Rat}, ex r (fun B => a * f B + b * g B) cols = a * ex r f cols + b * ex r g cols
  | [], f, g => by simp only [ex]; grind
  | c :: cs, f, g => by
    rw [ex, ex, ex, ex_lin a b (f := fun B => f (c :: B)) (g := fun B => g (c :: B))]
    grind
theorem ex_zero {r : Rw} {cols : List Nat} {f : List Nat → Rat} (h : ∀ B, B.length + 1 = cols.length → f B = 0) : ex r f cols = 0 := by
  rw [ex_congr (g := fun B => 0 * f B + 0 * f B) (fun B hB => by rw [h B hB]; grind), ex_lin]
  grind
theorem ex_row {r s : Rw} (a b : Rat) : ∀ {cols : List Nat} {f : List Nat → Rat}, ex (fun j => a * r j + b * s j) f cols = a * ex r f cols + b * ex s f cols
  | [], f => by simp only [ex]; grind
  | c :: cs, f => by
    rw [ex, ex, ex, ex_row a b]
    grind
theorem ex_anti {r s : Rw} : ∀ {cols : List Nat} {f : List Nat → Rat}, ex r (ex s f) cols = - ex s (ex r f) cols
  | [], f => by simp only [ex]; grind
  | c :: cs, f => by
    have e1 : (fun B => ex s f (c :: B)) = fun B => s c * f B + (-1) * ex s (fun B' => f (c :: B')) B := by
      funext B
      rw [ex]
      grind
    have e2 : (fun B => ex r f (c :: B)) = fun B => r c * f B + (-1) * ex r (fun B' => f (c :: B')) B := by
      funext B
      rw [ex]
      grind
    rw [ex, ex, e1, e2, ex_lin, ex_lin, ex_anti (cols := cs) (f := fun B' => f (c :: B'))]
    grind
theorem dt_cons (r : Rw) (rs : List Rw) (cols : List Nat) : dt (r :: rs) cols = ex r (dt rs) cols := rfl
/-- in each row it is linear -/
theorem dt_row (a b : Rat) (x y : Rw) : ∀ (A C : List Rw) (cols : List Nat), dt (A ++ (fun j => a * x j + b * y j) :: C) cols = a * dt (A ++ x :: C) cols + b * dt (A ++ y :: C) cols
  | [], C, cols => ex_row a b
  | r :: A, C, cols => by
    show ex r (dt (A ++ (fun j => a * x j + b * y j) :: C)) cols = a * ex r (dt (A ++ x :: C)) cols + b * ex r (dt (A ++ y :: C)) cols
    rw [← ex_lin]
    exact ex_congr fun B _ => dt_row a b x y A C B
theorem dt_head_swap (x y : Rw) (C : List Rw) (cols : List Nat) : dt (x :: y :: C) cols = - dt (y :: x :: C) cols := ex_anti
theorem dt_same0 (y : Rw) : ∀ (B C : List Rw) (cols : List Nat), dt (y :: (B ++ y :: C)) cols = 0
  | [], C, cols => by
    have := dt_head_swap y y C cols
    show dt (y :: y :: C) cols = 0
    grind
  | b :: B, C, cols => by
    show dt (y :: b :: (B ++ y :: C)) cols = 0
    rw [dt_head_swap]
    have : dt (b :: y :: (B ++ y :: C)) cols = 0 := ex_zero fun D _ => dt_same0 y B C D
    rw [this]
    grind
theorem dt_same (y : Rw) : ∀ (A B C : List Rw) (cols : List Nat), dt (A ++ y :: (B ++ y :: C)) cols = 0
  | [], B, C, cols => dt_same0 y B C cols
  | a :: A, B, C, cols => ex_zero fun D _ => dt_same y A B C D
/-- two rows exchanged -/
theorem dt_swap (x y : Rw) (A B C : List Rw) (cols : List Nat) : dt (A ++ x :: (B ++ y :: C)) cols = - dt (A ++ y :: (B ++ x :: C)) cols := by
  have e0 := dt_same (fun j => 1 * x j + 1 * y j) A B C cols
  rw [dt_row] at e0
  have e1 := dt_row 1 1 x y (A ++ x :: B) C cols
  have e2 := dt_row 1 1 x y (A ++ y :: B) C cols
  simp only [List.append_assoc, List.cons_append] at e1 e2
  rw [e1, e2, dt_same, dt_same] at e0
  grind
/-- a row plus so many times another one -/
theorem dt_add (a : Rat) (x y : Rw) (A B C : List Rw) (cols : List Nat) : dt (A ++ y :: (B ++ (fun j => 1 * x j + a * y j) :: C)) cols = dt (A ++ y :: (B ++ x :: C)) cols := by
  have e1 := dt_row 1 a x y (A ++ y :: B) C cols
  simp only [List.append_assoc, List.cons_append] at e1
  rw [e1, dt_same]
  grind
def el (r : Rw) (c : Nat) (s : Rw) : Rw := fun j => 1 * s j + (- (s c / r c)) * r j
theorem el_zero {r s : Rw} {c : Nat} (h : r c ≠ 0) : el r c s c = 0 := by
  unfold el
  grind
theorem dt_el (r : Rw) (c : Nat) : ∀ (rs A : List Rw) (cols : List Nat), dt (r :: (A ++ rs.map (el r c))) cols = dt (r :: (A ++ rs)) cols
  | [], A, cols => rfl
  | s :: rs, A, cols => by
    rw [List.map_cons]
    have e1 := dt_add (- (s c / r c)) s r [] A (rs.map (el r c)) cols
    rw [List.nil_append, List.nil_append] at e1
    show dt (r :: (A ++ (fun j => 1 * s j + (- (s c / r c)) * r j) :: rs.map (el r c))) cols = _
    rw [e1]
    have e2 := dt_el r c rs (A ++ [s]) cols
    simp only [List.append_assoc, List.cons_append, List.nil_append] at e2
    exact e2
/-- a column of noughts -/
theorem dt_col0 {c : Nat} : ∀ (rs : List Rw) (B : List Nat), rs.length = B.length + 1 → (∀ s ∈ rs, s c = 0) → dt rs (c :: B) = 0
  | [], B, hl, _ => by simp at hl
  | s :: ss, B, hl, h => by
    rw [dt_cons, ex, h s List.mem_cons_self]
    have hl' : ss.length = B.length := by simpa using hl
    have : ex s (fun B' => dt ss (c :: B')) B = 0 := by
      cases ss with
      | nil =>
        have : B = [] := by simpa using hl'.symm
        subst this
        rfl
      | cons t ts => exact ex_zero fun B' hB => dt_col0 (t :: ts) B' (by omega) fun u hu => h u (List.mem_cons_of_mem _ hu)
    rw [this]
    grind
theorem dt_tri {r : Rw} {c : Nat} {rs : List Rw} {cs : List Nat} (hl : rs.length = cs.length) (h : ∀ s ∈ rs, s c = 0) : dt (r :: rs) (c :: cs) = r c * dt rs cs := by
  rw [dt_cons, ex]
  have : ex r (fun B => dt rs (c :: B)) cs = 0 := by
    cases rs with
    | nil =>
      have : cs = [] := by simpa using hl.symm
      subst this
      rfl
    | cons t ts => exact ex_zero fun B hB => dt_col0 (t :: ts) B (by omega) h
  rw [this]
  grind
theorem dt_pivot {r : Rw} {c : Nat} (rs : List Rw) (cs : List Nat) (hl : rs.length = cs.length) (h : r c ≠ 0) : dt (r :: rs) (c :: cs) = r c * dt (rs.map (el r c)) cs := by
  have := dt_el r c rs [] (c :: cs)
  rw [List.nil_append, List.nil_append] at this
  rw [← this]
  refine dt_tri (by simpa using hl) fun s hs => ?_
  obtain ⟨t, _, rfl⟩ := List.mem_map.mp hs
  exact el_zero h
/-- a row brought to the front -/
theorem dt_front (x : Rw) : ∀ (A C : List Rw), ∃ e : Rat, e * e = 1 ∧ ∀ (D : List Rw) (cols : List Nat), dt (A ++ x :: (C ++ D)) cols = e * dt (x :: (A ++ C ++ D)) cols
  | [], C => ⟨1, by grind, fun D cols => by
    show dt (x :: (C ++ D)) cols = 1 * dt (x :: ([] ++ C ++ D)) cols
    rw [List.nil_append]
    grind⟩
  | a :: A, C => by
    obtain ⟨e, h1, h2⟩ := dt_front x A C
    refine ⟨-e, by grind, fun D cols => ?_⟩
    have : dt (a :: (A ++ x :: (C ++ D))) cols = e * dt (a :: x :: (A ++ C ++ D)) cols := by
      rw [dt_cons, dt_cons]
      have : ex a (dt (A ++ x :: (C ++ D))) cols = ex a (fun B => e * dt (x :: (A ++ C ++ D)) B + 0 * dt (x :: (A ++ C ++ D)) B) cols := ex_congr fun B _ => by
        rw [h2 D B]
        grind
      rw [this, ex_lin]
      grind
    show dt (a :: (A ++ x :: (C ++ D))) cols = (-e) * dt (x :: (a :: A ++ C ++ D)) cols
    rw [this, dt_head_swap]
    show e * -dt (x :: a :: (A ++ C ++ D)) cols = -e * dt (x :: a :: (A ++ C ++ D)) cols
    grind
theorem dt_ne_col {P : List Rw} {c : Nat} {cs : List Nat} (hl : P.length = cs.length + 1) (h : dt P (c :: cs) ≠ 0) : ∃ A r C, P = A ++ r :: C ∧ r c ≠ 0 := by
  apply Classical.byContradiction
  intro z
  apply h
  refine dt_col0 P cs hl fun s hs => ?_
  apply Classical.byContradiction
  intro hz
  obtain ⟨A, C, e⟩ := List.append_of_mem hs
  exact z ⟨A, s, C, e, hz⟩
/-- a row of the rest twice: numbers put together -/
theorem dj : ∀ (K : List Nat) (P : List Rw) (x y : Rw) (c j : Nat), P.length = K.length → dt P K ≠ 0 →
    dt P K * dt (P ++ [x, y]) (K ++ [c, j]) = dt (P ++ [x]) (K ++ [c]) * dt (P ++ [y]) (K ++ [j]) - dt (P ++ [x]) (K ++ [j]) * dt (P ++ [y]) (K ++ [c])
  | [], P, x, y, c, j, hl, _ => by
    have : P = [] := by simpa using hl
    subst this
    simp only [List.nil_append, dt, ex]
    grind
  | k :: K, P, x, y, c, j, hl, h => by
    obtain ⟨A, r, C, rfl, hr⟩ := dt_ne_col (by simpa using hl) h
    obtain ⟨e, e1, e2⟩ := dt_front r A C
    have a0 := e2 [] (k :: K)
    have a1 := e2 [x, y] (k :: K ++ [c, j])
    have a2 := e2 [x] (k :: K ++ [c])
    have a3 := e2 [y] (k :: K ++ [j])
    have a4 := e2 [x] (k :: K ++ [j])
    have a5 := e2 [y] (k :: K ++ [c])
    simp only [List.append_nil] at a0
    have hl' : (A ++ C).length = K.length := by
      simp only [List.length_append, List.length_cons] at hl ⊢
      omega
    have p0 := dt_pivot (r := r) (c := k) (A ++ C) K hl' hr
    have p1 := dt_pivot (r := r) (c := k) (A ++ C ++ [x, y]) (K ++ [c, j]) (by simp only [List.length_append, List.length_cons, List.length_nil] at hl' ⊢; omega) hr
    have p2 := dt_pivot (r := r) (c := k) (A ++ C ++ [x]) (K ++ [c]) (by simp only [List.length_append, List.length_cons, List.length_nil] at hl' ⊢; omega) hr
    have p3 := dt_pivot (r := r) (c := k) (A ++ C ++ [y]) (K ++ [j]) (by simp only [List.length_append, List.length_cons, List.length_nil] at hl' ⊢; omega) hr
    have p4 := dt_pivot (r := r) (c := k) (A ++ C ++ [x]) (K ++ [j]) (by simp only [List.length_append, List.length_cons, List.length_nil] at hl' ⊢; omega) hr
    have p5 := dt_pivot (r := r) (c := k) (A ++ C ++ [y]) (K ++ [c]) (by simp only [List.length_append, List.length_cons, List.length_nil] at hl' ⊢; omega) hr
    rw [List.map_append (l₁ := A ++ C)] at p1 p2 p3 p4 p5
    simp only [List.map_cons, List.map_nil] at p1 p2 p3 p4 p5
    have hn : dt ((A ++ C).map (el r k)) K ≠ 0 := fun z => by
      apply h
      rw [a0, p0, z]
      grind
    have ih := dj K ((A ++ C).map (el r k)) (el r k x) (el r k y) c j (by simpa using hl') hn
    simp only [List.cons_append, List.append_assoc] at a0 a1 a2 a3 a4 a5 p0 p1 p2 p3 p4 p5 ih ⊢
    rw [a0, a1, a2, a3, a4, a5, p0, p1, p2, p3, p4, p5]
    grind
/-- no row of the rest has a part left in a column: the number is 0 -/
theorem no_piv : ∀ (K : List Nat) (P Z : List Rw) (c : Nat) (cs : List Nat), P.length = K.length → dt P K ≠ 0 → Z.length = cs.length + 1 → (∀ z ∈ Z, dt (P ++ [z]) (K ++ [c]) = 0) → dt (P ++ Z) (K ++ c :: cs) = 0
  | [], P, Z, c, cs, hl, _, hz, h => by
    have : P = [] := by simpa using hl
    subst this
    refine dt_col0 Z cs hz fun s hs => ?_
    have := h s hs
    simp only [List.nil_append, dt, ex] at this
    grind
  | k :: K, P, Z, c, cs, hl, hn, hz, h => by
    obtain ⟨A, r, C, rfl, hr⟩ := dt_ne_col (by simpa using hl) hn
    obtain ⟨e, e1, e2⟩ := dt_front r A C
    have he : e ≠ 0 := fun z => by
      subst z
      grind
    have hl' : (A ++ C).length = K.length := by
      simp only [List.length_append, List.length_cons] at hl ⊢
      omega
    have a0 := e2 [] (k :: K)
    simp only [List.append_nil] at a0
    have p0 := dt_pivot (r := r) (c := k) (A ++ C) K hl' hr
    have hn' : dt ((A ++ C).map (el r k)) K ≠ 0 := fun z => by
      apply hn
      rw [a0, p0, z]
      grind
    have ih := no_piv K ((A ++ C).map (el r k)) (Z.map (el r k)) c cs (by simpa using hl') hn' (by simpa using hz) fun w hw => by
      obtain ⟨z, hz, rfl⟩ := List.mem_map.mp hw
      have b := h z hz
      have p := dt_pivot (r := r) (c := k) (A ++ C ++ [z]) (K ++ [c]) (by simp only [List.length_append, List.length_cons, List.length_nil] at hl' ⊢; omega) hr
      rw [List.map_append (l₁ := A ++ C)] at p
      have a := e2 [z] (k :: K ++ [c])
      simp only [List.cons_append, List.append_assoc, List.map_cons, List.map_nil] at a p b ⊢
      rw [a, p] at b
      have : e * (r k) ≠ 0 := fun zz => (Rat.mul_eq_zero.mp zz).elim he hr
      have b' : (e * r k) * dt (List.map (el r k) (A ++ C) ++ [el r k z]) (K ++ [c]) = 0 := by grind
      rcases Rat.mul_eq_zero.mp b' with q | q
      · exact absurd q this
      · exact q
    have a := e2 Z (k :: K ++ c :: cs)
    have p := dt_pivot (r := r) (c := k) (A ++ C ++ Z) (K ++ c :: cs) (by simp only [List.length_append, List.length_cons] at hl' ⊢; omega) hr
    rw [List.map_append (l₁ := A ++ C)] at p
    simp only [List.cons_append, List.append_assoc] at a p ih ⊢
    rw [a, p, ih]
    grind
/-! ### tables of whole numbers -/
def rowF (r : List Int) : Rw := fun j => ((r.getD j 0 : Int) : Rat)
def detT (t : List (List Int)) : Rat := dt (t.map rowF) (List.range t.length)
theorem ex_int {r : Rw} (hr : ∀ j, ∃ z : Int, r j = (z : Rat)) : ∀ {cols : List Nat} {f : List Nat → Rat}, (∀ B, ∃ z : Int, f B = (z : Rat)) → ∃ z : Int, ex r f cols = (z : Rat)
  | [], f, _ => ⟨0, rfl⟩
  | c :: cs, f, hf => by
    obtain ⟨a, ha⟩ := hr c
    obtain ⟨b, hb⟩ := hf cs
    obtain ⟨d, hd⟩ := ex_int hr (cols := cs) (f := fun B => f (c :: B)) fun B => hf (c :: B)
    refine ⟨a * b - d, ?_⟩
    rw [ex, ha, hb, hd, Rat.intCast_sub, Rat.intCast_mul]
theorem dt_int : ∀ (rows : List Rw), (∀ r ∈ rows, ∀ j, ∃ z : Int, r j = (z : Rat)) → ∀ cols, ∃ z : Int, dt rows cols = (z : Rat)
  | [], _, _ => ⟨1, rfl⟩
  | r :: rs, h, cols => ex_int (h r List.mem_cons_self) fun B => dt_int rs (fun s hs => h s (List.mem_cons_of_mem _ hs)) B
theorem rowF_int (r : List Int) (j : Nat) : ∃ z : Int, rowF r j = (z : Rat) := ⟨r.getD j 0, rfl⟩
theorem rows_int (t : List (List Int)) : ∀ r ∈ t.map rowF, ∀ j, ∃ z : Int, r j = (z : Rat) := fun r hr j => by
  obtain ⟨l, _, rfl⟩ := List.mem_map.mp hr
  exact rowF_int l j
theorem fdiv_ex {a b z : Int} (hb : b ≠ 0) (e : (a : Rat) = (b : Rat) * (z : Rat)) : a.fdiv b = z := by
  have : a = b * z := by
    rw [← Rat.intCast_mul] at e
    exact Rat.intCast_inj.mp e
  rw [this, Int.mul_comm, Int.mul_fdiv_cancel _ hb]
/-- the rows of a table, as far as the taking has come: they are numbers of its parts -/
structure Ja (m p : Nat) (O R : List (List Int)) (la : Int) : Prop where
  lo : O.length = m
  sq : SqR m R
  ne : la ≠ 0
  hd : (la : Rat) = dt ((O.take p).map rowF) (List.range p)
  el : ∀ i, p ≤ i → i < m → ∀ j, p ≤ j → j < m → rowF (R.getD i []) j = dt ((O.take p).map rowF ++ [rowF (O.getD i [])]) (List.range p ++ [j])
theorem swap_getD {m p q : Nat} {R : List (List Int)} (hl : R.length = m) (hp : p < m) (hq : q < m) (j : Nat) : (swapR R p q).getD j [] = if j = q then R.getD p [] else if j = p then R.getD q [] else R.getD j [] := by
  unfold swapR
  rw [getD_set _ _ _ _ _ (by rw [List.length_set, hl]; exact hq), getD_set _ _ _ _ _ (by rw [hl]; exact hp)]
theorem swap_take {p q : Nat} {O : List (List Int)} (hpq : p ≤ q) : (swapR O p q).take p = O.take p := by
  unfold swapR
  rw [List.take_set_of_le hpq, List.take_set_of_le (Nat.le_refl _)]
theorem upd_getD {p : Nat} {la : Int} {m : Nat} : ∀ (n k : Nat) (R : List (List Int)), p < k → k + n = m → R.length = m → ∀ i, i < m → (updR p la n k R).getD i [] = if k ≤ i then takenL (R.getD i []) (R.getD p []) p la else R.getD i []
  | 0, k, R, _, hk, _, i, hi => by
    rw [if_neg (by omega)]
    rfl
  | n + 1, k, R, hp, hk, hl, i, hi => by
    have g : ∀ j, (R.set k (takenL (R.getD k []) (R.getD p []) p la)).getD j [] = if j = k then takenL (R.getD k []) (R.getD p []) p la else R.getD j [] := fun j => getD_set _ _ _ _ _ (by omega)
    show (updR p la n (k + 1) _).getD i [] = _
    rw [upd_getD n (k + 1) _ (by omega) (by omega) (by rw [List.length_set]; exact hl) i hi, g, g, if_neg (show ¬ p = k by omega)]
    by_cases c : i = k
    · subst c
      rw [if_neg (by omega), if_pos rfl, if_pos (Nat.le_refl _)]
    · rw [if_neg c]
      by_cases c2 : k ≤ i
      · rw [if_pos (by omega), if_pos c2]
      · rw [if_neg (by omega), if_neg c2]
theorem takenL_getD {row here : List Int} {p j : Nat} {la : Int} (hj : j < row.length) : (takenL row here p la).getD j 0 = tkN row here p la j := by
  unfold takenL
  rw [List.getD, List.getElem?_map, List.getElem?_range hj]
  rfl
theorem take_snoc {α : Type} (O : List α) (d : α) {p : Nat} (h : p < O.length) : O.take (p + 1) = O.take p ++ [O.getD p d] := by
  rw [List.take_succ, List.getElem?_eq_getElem h, List.getD, List.getElem?_eq_getElem h]
  rfl
theorem Ja.swap {m p q : Nat} {O R : List (List Int)} {la : Int} (J : Ja m p O R la) (hp : p < m) (hpq : p ≤ q) (hq : q < m) : Ja m p (swapR O p q) (swapR R p q) la := by
  refine ⟨by simp [swapR, J.lo], sq_set (sq_set J.sq hp (J.sq.2 q hq)) hq (J.sq.2 p hp), J.ne, by rw [swap_take hpq]; exact J.hd, fun i hi him j hj hjm => ?_⟩
  rw [swap_take hpq, swap_getD J.sq.1 hp hq, swap_getD J.lo hp hq]
  split
  · exact J.el p (Nat.le_refl _) hp j hj hjm
  · split
    · exact J.el q hpq hq j hj hjm
    · exact J.el i hi him j hj hjm
theorem range_snoc (p : Nat) : List.range (p + 1) = List.range p ++ [p] := List.range_succ
theorem Ja.step {m p : Nat} {O R : List (List Int)} {la : Int} (J : Ja m p O R la) (hp : p < m) (h0 : (R.getD p []).getD p 0 ≠ 0) : Ja m (p + 1) O (updR p la (m - (p + 1)) (p + 1) R) ((R.getD p []).getD p 0) := by
  have wl : ∀ i, i < m → (updR p la (m - (p + 1)) (p + 1) R).getD i [] = if p + 1 ≤ i then takenL (R.getD i []) (R.getD p []) p la else R.getD i [] := fun i hi => upd_getD (m - (p + 1)) (p + 1) R (by omega) (by omega) J.sq.1 i hi
  have tk : (O.take (p + 1)).map rowF = (O.take p).map rowF ++ [rowF (O.getD p [])] := by rw [take_snoc O [] (by rw [J.lo]; exact hp), List.map_append]; rfl
  have dn : dt ((O.take p).map rowF) (List.range p) ≠ 0 := fun z => by
    rw [← J.hd] at z
    exact J.ne (by
      have : (la : Rat) = ((0 : Int) : Rat) := z
      exact Rat.intCast_inj.mp this)
  refine ⟨J.lo, ⟨?_, fun i hi => ?_⟩, h0, ?_, fun i hi him j hj hjm => ?_⟩
  · have : ∀ (n k : Nat) (R : List (List Int)), (updR p la n k R).length = R.length := by
      intro n
      induction n with
      | zero => intro k R; rfl
      | succ n ih => intro k R; show (updR p la n (k + 1) _).length = _; rw [ih, List.length_set]
    rw [this]
    exact J.sq.1
  · rw [wl i hi]
    split
    · rw [takenL_len]; exact J.sq.2 i hi
    · exact J.sq.2 i hi
  · rw [tk, range_snoc]
    exact J.el p (Nat.le_refl _) hp p (Nat.le_refl _) hp
  · rw [wl i him, if_pos hi, tk, range_snoc]
    have ep := fun j hj hjm => J.el p (Nat.le_refl _) hp j hj hjm
    have ei := fun j hj hjm => J.el i (by omega) him j hj hjm
    have D := dj (List.range p) ((O.take p).map rowF) (rowF (O.getD p [])) (rowF (O.getD i [])) p j (by rw [List.length_map, List.length_take, List.length_range, J.lo]; omega) dn
    rw [← J.hd, ← ep p (Nat.le_refl _) hp, ← ep j (by omega) hjm, ← ei p (by omega) hp, ← ei j (by omega) hjm] at D
    obtain ⟨z, hz⟩ := dt_int ((O.take p).map rowF ++ [rowF (O.getD p []), rowF (O.getD i [])]) (fun r hr => by
      rcases List.mem_append.mp hr with hr | hr
      · exact rows_int _ r hr
      · simp at hr
        rcases hr with rfl | rfl <;> exact rowF_int _) (List.range p ++ [p, j])
    rw [List.append_assoc, List.append_assoc]
    show rowF _ j = dt ((O.take p).map rowF ++ [rowF (O.getD p []), rowF (O.getD i [])]) (List.range p ++ [p, j])
    rw [hz] at D ⊢
    show (((takenL (R.getD i []) (R.getD p []) p la).getD j 0 : Int) : Rat) = (z : Rat)
    rw [takenL_getD (by rw [J.sq.2 i him]; exact hjm)]
    congr 1
    refine fdiv_ex J.ne ?_
    rw [D, Rat.intCast_sub, Rat.intCast_mul, Rat.intCast_mul]
    unfold rowF
    grind
theorem swap_det {m p q : Nat} {O : List (List Int)} (hl : O.length = m) (hp : p < m) (hpq : p ≤ q) (hq : q < m) (cols : List Nat) : dt (O.map rowF) cols = (if (q : Int) = (p : Int) then 1 else -1) * dt ((swapR O p q).map rowF) cols := by
  by_cases e : p = q
  · subst e
    rw [if_pos rfl]
    have : swapR O p p = O := by
      unfold swapR
      rw [List.set_set]
      apply List.ext_getElem?
      intro i
      rw [List.getElem?_set]
      split
      · rename_i c
        subst c
        rw [if_pos (by omega), List.getD, List.getElem?_eq_getElem (by omega)]
        rfl
      · rfl
    rw [this]
    grind
  · rw [if_neg (by omega)]
    have e1 : O = O.take p ++ O.getD p [] :: ((O.take q).drop (p + 1) ++ O.getD q [] :: O.drop (q + 1)) := by
      apply List.ext_getElem?
      intro i
      have hO : ∀ k, k < m → O[k]? = some (O.getD k []) := fun k hk => by rw [List.getD, List.getElem?_eq_getElem (by omega)]; rfl
      rcases Nat.lt_or_ge i p with c | c
      · rw [List.getElem?_append_left (by rw [List.length_take]; omega), List.getElem?_take, if_pos c]
      · rw [List.getElem?_append_right (by rw [List.length_take]; omega), List.length_take, show min p O.length = p by omega]
        rcases Nat.eq_or_lt_of_le c with c1 | c1
        · subst c1
          rw [Nat.sub_self]
          exact hO p hp
        · rw [show i - p = (i - p - 1) + 1 by omega, List.getElem?_cons_succ]
          rcases Nat.lt_or_ge i q with c2 | c2
          · rw [List.getElem?_append_left (by rw [List.length_drop, List.length_take]; omega), List.getElem?_drop, List.getElem?_take, if_pos (by omega)]
            congr 1
            omega
          · rw [List.getElem?_append_right (by rw [List.length_drop, List.length_take]; omega), List.length_drop, List.length_take, show min q O.length = q by omega]
            rcases Nat.eq_or_lt_of_le c2 with c3 | c3
            · subst c3
              rw [show q - p - 1 - (q - (p + 1)) = 0 by omega]
              exact hO q hq
            · rw [show i - p - 1 - (q - (p + 1)) = (i - q - 1) + 1 by omega, List.getElem?_cons_succ, List.getElem?_drop]
              congr 1
              omega
    have e2 : swapR O p q = O.take p ++ O.getD q [] :: ((O.take q).drop (p + 1) ++ O.getD p [] :: O.drop (q + 1)) := by
      unfold swapR
      have t : ∀ (A B C : List (List Int)) (x y u v : List Int), A.length = p → B.length = q - (p + 1) → ((A ++ x :: (B ++ y :: C)).set p u).set q v = A ++ u :: (B ++ v :: C) := fun A B C x y u v ha hb => by
        rw [List.set_append_right _ _ (by omega), ha, Nat.sub_self]
        show (A ++ u :: (B ++ y :: C)).set q v = _
        rw [List.set_append_right _ _ (by omega), ha, show q - p = (q - p - 1) + 1 by omega, List.set_cons_succ, List.set_append_right _ _ (by omega), hb, show q - p - 1 - (q - (p + 1)) = 0 by omega]
        rfl
      have hA : (O.take p).length = p := by rw [List.length_take]; omega
      have hB : ((O.take q).drop (p + 1)).length = q - (p + 1) := by rw [List.length_drop, List.length_take]; omega
      generalize O.getD p [] = x at *
      generalize O.getD q [] = y at *
      generalize O.take p = A at *
      generalize (O.take q).drop (p + 1) = B at *
      generalize O.drop (q + 1) = C at *
      rw [e1]
      exact t A B C x y y x hA hB
    rw [e2]
    rw [show O.map rowF = (O.take p ++ O.getD p [] :: ((O.take q).drop (p + 1) ++ O.getD q [] :: O.drop (q + 1))).map rowF from congrArg _ e1]
    simp only [List.map_append, List.map_cons]
    rw [dt_swap]
    grind
theorem num_go {m : Nat} : ∀ (n p : Nat) (O R : List (List Int)) (sg la : Int), p + n = m → Ja m p O R la → ((numGo m n p R sg la : Int) : Rat) = (sg : Rat) * dt (O.map rowF) (List.range m)
  | 0, p, O, R, sg, la, hp, J => by
    obtain rfl : p = m := by omega
    have := J.hd
    rw [List.take_of_length_le (by rw [J.lo]; exact Nat.le_refl _)] at this
    show ((sg * la : Int) : Rat) = _
    rw [Rat.intCast_mul, this]
  | n + 1, p, O, R, sg, la, hpn, J => by
    have hp : p < m := by omega
    rw [numGo]
    cases hg : goodN R p m with
    | nil =>
      have hz : ∀ i, p ≤ i → i < m → (R.getD i []).getD p 0 = 0 := fun i h1 h2 => by
        have := List.filter_eq_nil_iff.mp hg ((p : Int) + ((i - p : Nat) : Int)) (List.mem_map.mpr ⟨i - p, List.mem_range.mpr (by omega), rfl⟩)
        rw [show ((p : Int) + ((i - p : Nat) : Int)).toNat = i by omega] at this
        simpa using this
      have dn : dt ((O.take p).map rowF) (List.range p) ≠ 0 := fun z => by
        rw [← J.hd] at z
        exact J.ne (by
          have : (la : Rat) = ((0 : Int) : Rat) := z
          exact Rat.intCast_inj.mp this)
      have := no_piv (List.range p) ((O.take p).map rowF) ((O.drop p).map rowF) p (List.range' (p + 1) n) (by rw [List.length_map, List.length_take, List.length_range, J.lo]; omega) dn (by rw [List.length_map, List.length_drop, List.length_range', J.lo]; omega) fun z hz' => by
        obtain ⟨l, hl, rfl⟩ := List.mem_map.mp hz'
        obtain ⟨k, hk, rfl⟩ := List.getElem_of_mem hl
        rw [List.length_drop, J.lo] at hk
        have e : (O.drop p)[k] = O.getD (p + k) [] := by
          rw [List.getElem_drop, List.getD, List.getElem?_eq_getElem (by rw [J.lo]; omega)]
          rfl
        rw [e, ← J.el (p + k) (by omega) (by omega) p (Nat.le_refl _) hp]
        unfold rowF
        rw [hz (p + k) (by omega) (by omega)]
        rfl
      have er : List.range p ++ p :: List.range' (p + 1) n = List.range m := by
        rw [← List.range'_succ, List.range_eq_range', List.range_eq_range', ← hpn]
        have := List.range'_append_1 (s := 0) (m := p) (n := n + 1)
        rw [Nat.zero_add] at this
        exact this
      rw [← List.map_append, List.take_append_drop, er] at this
      rw [this]
      show (((0 : Int)) : Rat) = _
      grind
    | cons g gs =>
      obtain ⟨q, rfl, hq1, hq2, hq3⟩ := goodN_mem (g := g) (by rw [hg]; exact List.mem_cons_self)
      dsimp only
      rw [Int.toNat_natCast]
      have J1 := J.swap hp hq1 hq2
      have ep : (swapR R p q).getD p [] = R.getD q [] := by
        rw [swap_getD J.sq.1 hp hq2]
        split
        · rename_i c; rw [c]
        · rw [if_pos rfl]
      have J2 := J1.step hp (by rw [ep]; exact hq3)
      rw [ep] at J2
      rw [num_go n (p + 1) (swapR O p q) _ _ _ (by omega) J2, swap_det J.lo hp hq1 hq2 (List.range m), Rat.intCast_mul]
      have : ((1 - 2 * (if (q : Int) = (p : Int) then 0 else 1) : Int) : Rat) = (if (q : Int) = (p : Int) then 1 else -1) := by
        split <;> rfl
      rw [this]
      grind
/-- the number by taking rows from rows is the number -/
theorem numT_det {t : List (List Int)} (hs : SqR t.length t) : ((numT t : Int) : Rat) = detT t := by
  unfold numT detT
  rw [num_go t.length 0 t t 1 1 (by omega) ⟨rfl, hs, by decide, by simp [dt], fun i _ hi j _ hj => by
    show rowF (t.getD i []) j = dt [rowF (t.getD i [])] [j]
    simp only [dt, ex]
    grind⟩]
  show (1 : Rat) * _ = _
  grind
/-! ### the number along the first row -/
def rm (c : Nat) (l : List Int) : List Int := l.take c ++ l.drop (c + 1)
def sumGo (g : Nat → Int) : List Int → Nat → Int → Int → Int
  | [], _, found, _ => found
  | x :: xs, c, found, sign => sumGo g xs (c + 1) (found + sign * x * g c) (0 - sign)
def detP : Nat → List (List Int) → Int
  | 0, _ => 1
  | n + 1, t => match t with
    | [] => 1
    | r :: rs => sumGo (fun c => detP n (rs.map (rm c))) r 0 0 1
theorem sumGo_ex {g : Nat → Int} {f : List Nat → Rat} (r : List Int → Nat → Int) (l : List Int) : ∀ (cs A : List Nat) (found sign : Int), (∀ k, k < cs.length → ((g (A.length + k) : Int) : Rat) = f (A ++ (cs.take k ++ cs.drop (k + 1)))) →
    ((sumGo g (cs.map fun c => l.getD c 0) A.length found sign : Int) : Rat) = (found : Rat) + (sign : Rat) * ex (rowF l) (fun B => f (A ++ B)) cs
  | [], A, found, sign, _ => by
    simp only [List.map_nil, sumGo, ex]
    grind
  | c :: cs, A, found, sign, h => by
    have h0 := h 0 (by simp)
    rw [Nat.add_zero] at h0
    have ih := sumGo_ex (g := g) (f := f) r l cs (A ++ [c]) (found + sign * l.getD c 0 * g A.length) (0 - sign) fun k hk => by
      have := h (k + 1) (by simpa using hk)
      rw [List.length_append]
      show ((g (A.length + 1 + k) : Int) : Rat) = _
      rw [show A.length + 1 + k = A.length + (k + 1) by omega, this]
      congr 1
      simp
    rw [List.length_append] at ih
    rw [List.map_cons, sumGo]
    show ((sumGo g (cs.map fun c => l.getD c 0) (A.length + [c].length) _ _ : Int) : Rat) = _
    rw [ih, ex, Rat.intCast_add, Rat.intCast_mul, Rat.intCast_mul, Rat.intCast_sub, h0]
    have e1 : (fun B => f (A ++ [c] ++ B)) = fun B => f (A ++ c :: B) := by
      funext B
      rw [List.append_assoc]
      rfl
    rw [e1]
    show (found : Rat) + (sign : Rat) * (rowF l c) * f (A ++ ([] ++ cs)) + (((0 : Int) : Rat) - (sign : Rat)) * ex (rowF l) (fun B => f (A ++ c :: B)) cs = _
    rw [List.nil_append]
    show (found : Rat) + (sign : Rat) * (rowF l c) * f (A ++ cs) + ((0 : Rat) - (sign : Rat)) * ex (rowF l) (fun B => f (A ++ c :: B)) cs = _
    grind
def pickC (cols : List Nat) (l : List Int) : List Int := cols.map fun c => l.getD c 0
theorem rm_pick (cols : List Nat) (l : List Int) (c : Nat) : rm c (pickC cols l) = pickC (cols.take c ++ cols.drop (c + 1)) l := by
  unfold rm pickC
  rw [List.map_append, List.map_take, List.map_drop]
theorem detP_dt : ∀ (rows : List (List Int)) (cols : List Nat) (n : Nat), rows.length ≤ n → ((detP n (rows.map (pickC cols)) : Int) : Rat) = dt (rows.map rowF) cols
  | [], cols, n, _ => by
    cases n <;> rfl
  | l :: rows, cols, 0, h => by simp at h
  | l :: rows, cols, n + 1, h => by
    rw [List.map_cons, List.map_cons, detP, dt_cons]
    have := sumGo_ex (g := fun c => detP n ((rows.map (pickC cols)).map (rm c))) (f := dt (rows.map rowF)) (fun l c => l.getD c 0) l cols [] 0 1 fun k hk => by
      rw [List.length_nil, Nat.zero_add, List.map_map]
      have e : (rm k ∘ pickC cols) = pickC (cols.take k ++ cols.drop (k + 1)) := by
        funext x
        exact rm_pick cols x k
      rw [e]
      exact detP_dt rows _ n (by simpa using h)
    show ((sumGo _ (pickC cols l) 0 0 1 : Int) : Rat) = _
    unfold pickC at this ⊢
    rw [List.length_nil] at this
    rw [this]
    show ((0 : Int) : Rat) + ((1 : Int) : Rat) * ex (rowF l) (fun B => dt (rows.map rowF) ([] ++ B)) cols = _
    have : (fun B => dt (rows.map rowF) ([] ++ B)) = dt (rows.map rowF) := by
      funext B
      rfl
    rw [this]
    show (0 : Rat) + (1 : Rat) * _ = _
    grind
theorem pick_all_cols {l : List Int} {m : Nat} (h : l.length = m) : pickC (List.range m) l = l := by
  apply List.ext_getElem?
  intro i
  unfold pickC
  rw [List.getElem?_map]
  by_cases c : i < m
  · rw [List.getElem?_range c, List.getElem?_eq_getElem (by omega)]
    show some (l.getD i 0) = _
    rw [List.getD, List.getElem?_eq_getElem (by omega)]
    rfl
  · rw [List.getElem?_eq_none (by simpa using c), List.getElem?_eq_none (by omega)]
    rfl
theorem sq_rows {m : Nat} {t : List (List Int)} (h : SqR m t) : ∀ r ∈ t, r.length = m := fun r hr => by
  obtain ⟨k, hk, rfl⟩ := List.getElem_of_mem hr
  have := h.2 k (by rw [← h.1]; exact hk)
  rwa [List.getD, List.getElem?_eq_getElem hk] at this
/-- both ways it is the same number -/
theorem detP_num {t : List (List Int)} {n : Nat} (hs : SqR t.length t) (hn : t.length ≤ n) : detP n t = numT t := by
  have e1 := detP_dt t (List.range t.length) n hn
  have e2 : t.map (pickC (List.range t.length)) = t := by
    exact (List.map_congr_left (g := id) fun l hl => pick_all_cols (sq_rows hs l hl)).trans (List.map_id t)
  rw [e2] at e1
  have e3 := numT_det hs
  unfold detT at e3
  rw [← e1] at e3
  exact (Rat.intCast_inj.mp e3).symm
end Dz.PD

namespace Dz.PG
open PySem PySem.Spec PyProof.Rows L2 Dz Dz.PL Dz.PN Dz.PR Dz.PF Dz.PD
/-! ### rows of shares and their number -/
def rowQ (r : List Rat) : Rw := fun j => r.getD j 0
def sg : Nat → Rat
  | 0 => 1
  | n + 1 => - sg n
theorem sg_sq : ∀ n, sg n * sg n = 1
  | 0 => by simp only [sg]; grind
  | n + 1 => by
    have := sg_sq n
    simp only [sg]
    grind
theorem sg_ne (n : Nat) : sg n ≠ 0 := fun z => by
  have := sg_sq n
  rw [z] at this
  grind
theorem dt_front' (x : Rw) : ∀ (A C : List Rw) (cols : List Nat), dt (A ++ x :: C) cols = sg A.length * dt (x :: (A ++ C)) cols
  | [], C, cols => by
    show dt (x :: C) cols = 1 * dt (x :: C) cols
    grind
  | a :: A, C, cols => by
    show dt (a :: (A ++ x :: C)) cols = - sg A.length * dt (x :: a :: (A ++ C)) cols
    have : dt (a :: (A ++ x :: C)) cols = sg A.length * dt (a :: x :: (A ++ C)) cols := by
      rw [dt_cons, dt_cons]
      have : ex a (dt (A ++ x :: C)) cols = ex a (fun B => sg A.length * dt (x :: (A ++ C)) B + 0 * dt (x :: (A ++ C)) B) cols := ex_congr fun B _ => by
        rw [dt_front' x A C B]
        grind
      rw [this, ex_lin]
      grind
    rw [this, dt_head_swap]
    grind
theorem split1 {α : Type} (O : List α) (d : α) {p : Nat} (hp : p < O.length) : O = O.take p ++ O.getD p d :: O.drop (p + 1) := by
  rw [List.getD, List.getElem?_eq_getElem hp]
  show O = O.take p ++ O[p] :: O.drop (p + 1)
  rw [List.getElem_cons_drop, List.take_append_drop]
theorem split2 {α : Type} (O : List α) (d : α) {p q : Nat} (hpq : p < q) (hq : q < O.length) : O = O.take p ++ O.getD p d :: ((O.take q).drop (p + 1) ++ O.getD q d :: O.drop (q + 1)) := by
  have e1 := split1 O d hq
  have hp' : p < (O.take q).length := by rw [List.length_take]; omega
  have e2 := split1 (O.take q) d hp'
  have e3 : (O.take q).take p = O.take p := by rw [List.take_take, show min p q = p by omega]
  have e4 : (O.take q).getD p d = O.getD p d := by
    rw [List.getD, List.getD, List.getElem?_take, if_pos hpq]
  rw [e3, e4] at e2
  calc O = O.take q ++ O.getD q d :: O.drop (q + 1) := e1
    _ = (O.take p ++ O.getD p d :: (O.take q).drop (p + 1)) ++ O.getD q d :: O.drop (q + 1) := congrArg (· ++ O.getD q d :: O.drop (q + 1)) e2
    _ = _ := by rw [List.append_assoc]; rfl
theorem set_at {α : Type} (A C : List α) (x u : α) : (A ++ x :: C).set A.length u = A ++ u :: C := by
  rw [List.set_append_right _ _ (Nat.le_refl _), Nat.sub_self]
  rfl
theorem set1 {α : Type} (O : List α) (d u : α) {p : Nat} (hp : p < O.length) : O.set p u = O.take p ++ u :: O.drop (p + 1) := by
  have e := split1 O d hp
  have hA : (O.take p).length = p := by rw [List.length_take]; omega
  generalize O.take p = A at *
  generalize O.drop (p + 1) = C at *
  generalize O.getD p d = x at *
  rw [e, ← hA, set_at]
theorem rowQ_scale (r : List Rat) (c : Rat) : rowQ (scaleQ r c) = fun j => c * rowQ r j + 0 * rowQ r j := by
  funext j
  unfold rowQ
  rw [scaleQ_getD]
  grind
theorem rowQ_less {r s : List Rat} (h : r.length = s.length) (x : Rat) : rowQ (lessQ r (scaleQ s x)) = fun j => rowQ r j - x * rowQ s j := by
  funext j
  unfold rowQ
  rw [lessQ_getD (by rw [scaleQ_len, h]), scaleQ_getD]
  grind
/-- rows swapped and one of them scaled: the number is so many times as great, not 0 times -/
theorem dt_pivR {m k q p : Nat} {R : List (List Rat)} (hl : R.length = m) (hkq : k ≤ q) (hq : q < m) (hx : (R.getD q []).getD p 0 ≠ 0) : ∃ e : Rat, e ≠ 0 ∧ ∀ cols, dt ((pivR R k q p).map rowQ) cols = e * dt (R.map rowQ) cols := by
  have hk : k < m := by omega
  -- swapped
  obtain ⟨e1, h1, s1⟩ : ∃ e : Rat, e ≠ 0 ∧ ∀ cols, dt ((swapQ R k q).map rowQ) cols = e * dt (R.map rowQ) cols := by
    rcases Nat.eq_or_lt_of_le hkq with c | c
    · subst c
      have : swapQ R k k = R := by
        unfold swapQ
        rw [List.set_set]
        apply List.ext_getElem?
        intro i
        rw [List.getElem?_set]
        split
        · rename_i c
          subst c
          rw [if_pos (by omega), List.getD, List.getElem?_eq_getElem (by omega)]
          rfl
        · rfl
      rw [this]
      exact ⟨1, by decide, fun cols => by grind⟩
    · refine ⟨-1, by decide, fun cols => ?_⟩
      have e := split2 R [] c (by omega : q < R.length)
      have hA : (R.take k).length = k := by rw [List.length_take]; omega
      have hB : ((R.take q).drop (k + 1)).length = q - (k + 1) := by rw [List.length_drop, List.length_take]; omega
      have e2 : swapQ R k q = R.take k ++ R.getD q [] :: ((R.take q).drop (k + 1) ++ R.getD k [] :: R.drop (q + 1)) := by
        unfold swapQ
        have t : ∀ (A B C : List (List Rat)) (x y u v : List Rat), A.length = k → B.length = q - (k + 1) → ((A ++ x :: (B ++ y :: C)).set k u).set q v = A ++ u :: (B ++ v :: C) := fun A B C x y u v ha hb => by
          rw [List.set_append_right _ _ (by omega), ha, Nat.sub_self]
          show (A ++ u :: (B ++ y :: C)).set q v = _
          rw [List.set_append_right _ _ (by omega), ha, show q - k = (q - k - 1) + 1 by omega, List.set_cons_succ, List.set_append_right _ _ (by omega), hb, show q - k - 1 - (q - (k + 1)) = 0 by omega]
          rfl
        generalize R.getD k [] = x at *
        generalize R.getD q [] = y at *
        generalize R.take k = A at *
        generalize (R.take q).drop (k + 1) = B at *
        generalize R.drop (q + 1) = C at *
        rw [e]
        exact t A B C x y y x hA hB
      rw [e2, show R.map rowQ = (R.take k ++ R.getD k [] :: ((R.take q).drop (k + 1) ++ R.getD q [] :: R.drop (q + 1))).map rowQ from congrArg _ e]
      simp only [List.map_append, List.map_cons]
      rw [dt_swap]
      grind
  refine ⟨(1 / (R.getD q []).getD p 0) * e1, ?_, fun cols => ?_⟩
  · refine fun z => (Rat.mul_eq_zero.mp z).elim (fun z => ?_) h1
    grind
  · unfold pivR
    have ls : (swapQ R k q).length = m := by simp [swapQ, hl]
    have sk : (swapQ R k q).getD k [] = R.getD q [] := by
      rw [swapQ_getD (by omega) (by omega)]
      split
      · rename_i c; rw [c]
      · rw [if_pos rfl]
    rw [set1 (swapQ R k q) [] _ (by omega)]
    have e := split1 (swapQ R k q) [] (by omega : k < (swapQ R k q).length)
    rw [sk] at e
    simp only [List.map_append, List.map_cons]
    rw [rowQ_scale, dt_row]
    have e' : dt ((swapQ R k q).map rowQ) cols = dt (((swapQ R k q).take k).map rowQ ++ rowQ (R.getD q []) :: ((swapQ R k q).drop (k + 1)).map rowQ) cols := by
      rw [← List.map_cons, ← List.map_append]
      exact congrArg (fun l => dt (l.map rowQ) cols) e
    rw [s1] at e'
    rw [← e']
    grind
theorem ext_getD {R S : List (List Rat)} {m : Nat} (hr : R.length = m) (hs : S.length = m) (h : ∀ j, j < m → R.getD j [] = S.getD j []) : R = S := by
  apply List.ext_getElem?
  intro i
  by_cases c : i < m
  · have := h i c
    rw [List.getD, List.getD, List.getElem?_eq_getElem (by omega), List.getElem?_eq_getElem (by omega)] at this
    rw [List.getElem?_eq_getElem (by omega), List.getElem?_eq_getElem (by omega)]
    exact congrArg some this
  · rw [List.getElem?_eq_none (by omega), List.getElem?_eq_none (by omega)]
theorem dt_elimR {m w k p : Nat} {R : List (List Rat)} (h : WI m w R) (hk : k < m) (h1 : colQm R k p = 1) (cols : List Nat) : dt ((elimR k p m 0 R).map rowQ) cols = dt (R.map rowQ) cols := by
  have hkR : k < R.length := by rw [h.1]; exact hk
  have hA : (R.take k).length = k := by rw [List.length_take]; omega
  have e := split1 R [] hkR
  have fl : ∀ s ∈ R, s.length = (R.getD k []).length := fun s hs => by
    obtain ⟨i, hi, rfl⟩ := List.getElem_of_mem hs
    have a := h.2 i (by rw [← h.1]; exact hi)
    rw [List.getD, List.getElem?_eq_getElem hi] at a
    rw [h.2 k hk]
    exact a
  have e3 : elimR k p m 0 R = (R.take k).map (fun s => lessQ s (scaleQ (R.getD k []) (s.getD p 0))) ++ R.getD k [] :: (R.drop (k + 1)).map (fun s => lessQ s (scaleQ (R.getD k []) (s.getD p 0))) := by
    refine ext_getD (m := m) (elimR_wi hk m 0 R (by omega) h).1 (by rw [List.length_append, List.length_cons, List.length_map, List.length_map, List.length_take, List.length_drop, h.1]; omega) fun j hj => ?_
    rw [elimR_getD hk m 0 R (by omega) h]
    have gR : ∀ i, i < m → R[i]? = some (R.getD i []) := fun i hi => by rw [List.getD, List.getElem?_eq_getElem (by rw [h.1]; exact hi)]; rfl
    rcases Nat.lt_trichotomy j k with c | c | c
    · rw [if_pos ⟨Nat.zero_le _, hj, by omega⟩]
      conv => rhs; rw [List.getD]
      rw [List.getElem?_append_left (by rw [List.length_map, hA]; exact c), List.getElem?_map, List.getElem?_take, if_pos c, gR j hj]
      rfl
    · rw [if_neg (fun z => z.2.2 c)]
      subst c
      conv => rhs; rw [List.getD]
      rw [List.getElem?_append_right (by rw [List.length_map, hA]; exact Nat.le_refl _), List.length_map, hA, Nat.sub_self]
      rfl
    · rw [if_pos ⟨Nat.zero_le _, hj, by omega⟩]
      conv => rhs; rw [List.getD]
      rw [List.getElem?_append_right (by rw [List.length_map, hA]; omega), List.length_map, hA, show j - k = (j - k - 1) + 1 by omega, List.getElem?_cons_succ, List.getElem?_map, List.getElem?_drop, show k + 1 + (j - k - 1) = j by omega, gR j hj]
      rfl
  have fe : ∀ s ∈ R, rowQ (lessQ s (scaleQ (R.getD k []) (s.getD p 0))) = el (rowQ (R.getD k [])) p (rowQ s) := fun s hs => by
    rw [rowQ_less (fl s hs)]
    funext j
    unfold el
    have : rowQ (R.getD k []) p = 1 := h1
    rw [this]
    show rowQ s j - s.getD p 0 * _ = 1 * rowQ s j + -(s.getD p 0 / 1) * _
    grind
  have m1 : ∀ L : List (List Rat), (∀ s ∈ L, s ∈ R) → (L.map (fun s => lessQ s (scaleQ (R.getD k []) (s.getD p 0)))).map rowQ = (L.map rowQ).map (el (rowQ (R.getD k [])) p) := fun L hL => by
    rw [List.map_map, List.map_map]
    exact List.map_congr_left fun s hs => fe s (hL s hs)
  rw [e3, List.map_append, List.map_cons, m1 _ (fun s hs => List.mem_of_mem_take hs), m1 _ (fun s hs => List.mem_of_mem_drop hs), dt_front', ← List.map_append]
  have := dt_el (rowQ (R.getD k [])) p ((R.take k).map rowQ ++ (R.drop (k + 1)).map rowQ) [] cols
  rw [List.nil_append, List.nil_append] at this
  rw [this]
  rw [show R.map rowQ = (R.take k).map rowQ ++ rowQ (R.getD k []) :: (R.drop (k + 1)).map rowQ by rw [← List.map_cons, ← List.map_append]; exact congrArg (List.map rowQ) e]
  rw [dt_front']
  simp only [List.length_map]
/-- the first p columns cleared -/
structure St (m w p : Nat) (D : Rat) (R : List (List Rat)) : Prop where
  wi : WI m w R
  id : ∀ a, a < m → ∀ c, c < p → colQm R a c = if a = c then 1 else 0
  nb : ∃ e : Rat, e ≠ 0 ∧ dt (R.map rowQ) (List.range m) = e * D
theorem St.step {m w p q : Nat} {D : Rat} {R : List (List Rat)} (S : St m w p D R) (hp : p < m) (hpq : p ≤ q) (hq : q < m) (hx : (R.getD q []).getD p 0 ≠ 0) : St m w (p + 1) D (elimR p p m 0 (pivR R p q p)) := by
  have hpR : p < R.length := by rw [S.wi.1]; exact hp
  have hqR : q < R.length := by rw [S.wi.1]; exact hq
  have w2 := pivR_wi (p := p) S.wi hp hq
  have c2 : ∀ a, a < m → ∀ c, colQm (pivR R p q p) a c = if a = p then colQm R q c * (1 / (R.getD q []).getD p 0) else if a = q then colQm R p c else colQm R a c := fun a ha c => by
    unfold colQm
    rw [pivR_getD hpR hqR]
    split
    · rw [scaleQ_getD]
    · split <;> rfl
  have one : colQm (pivR R p q p) p p = 1 := by
    rw [c2 p hp, if_pos rfl]
    unfold colQm
    grind
  have c3 : ∀ a, a < m → ∀ c, colQm (elimR p p m 0 (pivR R p q p)) a c = if a = p then colQm (pivR R p q p) p c else colQm (pivR R p q p) a c - colQm (pivR R p q p) p c * colQm (pivR R p q p) a p := fun a ha c => by
    show ((elimR p p m 0 (pivR R p q p)).getD a []).getD c 0 = _
    rw [elimR_getD hp m 0 _ (by omega) w2]
    by_cases e : a = p
    · rw [if_neg (fun z => z.2.2 e), if_pos e, e]
      rfl
    · rw [if_pos ⟨Nat.zero_le _, ha, e⟩, if_neg e, lessQ_getD (by rw [scaleQ_len, w2.2 a ha, w2.2 p hp]), scaleQ_getD]
      rfl
  refine ⟨elimR_wi hp m 0 _ (by omega) w2, fun a ha c hc => ?_, ?_⟩
  · have pz : c < p → colQm (pivR R p q p) p c = 0 := fun hcp => by
      rw [c2 p hp, if_pos rfl, S.id q hq c hcp, if_neg (by omega)]
      grind
    have az : a ≠ p → c < p → colQm (pivR R p q p) a c = if a = c then 1 else 0 := fun hap hcp => by
      rw [c2 a ha, if_neg hap]
      split
      · rename_i e
        rw [S.id p hp c hcp, if_neg (by omega), if_neg (by omega)]
      · exact S.id a ha c hcp
    rw [c3 a ha]
    by_cases e : a = p
    · rw [if_pos e]
      rcases Nat.lt_or_ge c p with h | h
      · rw [pz h, if_neg (by omega)]
      · obtain rfl : c = p := by omega
        rw [one, if_pos e]
    · rw [if_neg e]
      rcases Nat.lt_or_ge c p with h | h
      · rw [pz h, az e h]
        grind
      · obtain rfl : c = p := by omega
        rw [one, if_neg e]
        grind
  · obtain ⟨e, he, h⟩ := S.nb
    obtain ⟨f, hf, h2⟩ := dt_pivR (p := p) S.wi.1 hpq hq hx
    refine ⟨f * e, fun z => (Rat.mul_eq_zero.mp z).elim hf he, ?_⟩
    rw [dt_elimR w2 hp one, h2, h]
    grind
theorem ex_zeroM {r : Rw} : ∀ {cols : List Nat} {f : List Nat → Rat}, (∀ B : List Nat, (∀ x ∈ B, x ∈ cols) → f B = 0) → ex r f cols = 0
  | [], _, _ => rfl
  | c :: cs, f, h => by
    rw [ex, h cs (fun x hx => List.mem_cons_of_mem _ hx), ex_zeroM (f := fun B => f (c :: B)) fun B hB => h (c :: B) fun x hx => (List.mem_cons.mp hx).elim (fun e => e ▸ List.mem_cons_self) (fun hx => List.mem_cons_of_mem _ (hB x hx))]
    grind
theorem ex_row0 {z : Rw} : ∀ {cols : List Nat} {f : List Nat → Rat}, (∀ c ∈ cols, z c = 0) → ex z f cols = 0
  | [], _, _ => rfl
  | c :: cs, f, h => by
    rw [ex, h c List.mem_cons_self, ex_row0 fun d hd => h d (List.mem_cons_of_mem _ hd)]
    grind
theorem dt_row0 {z : Rw} : ∀ (A C : List Rw) (cols : List Nat), (∀ c ∈ cols, z c = 0) → dt (A ++ z :: C) cols = 0
  | [], C, cols, h => ex_row0 h
  | a :: A, C, cols, h => ex_zeroM fun B hB => dt_row0 A C B fun c hc => h c (hB c hc)
theorem dt_id {m w p : Nat} {D : Rat} {R : List (List Rat)} (S : St m w p D R) (hpm : p ≤ m) : ∀ n s, s + n = p → dt (((R.drop s).take n).map rowQ) (List.range' s n) = 1
  | 0, s, _ => by simp [dt]
  | n + 1, s, hs => by
    have hsm : s < R.length := by rw [S.wi.1]; omega
    have e : (R.drop s).take (n + 1) = R.getD s [] :: (R.drop (s + 1)).take n := by
      rw [List.drop_eq_getElem_cons hsm, List.take_succ_cons, List.getD, List.getElem?_eq_getElem hsm]
      rfl
    rw [e, List.map_cons, List.range'_succ, dt_tri (by rw [List.length_map, List.length_take, List.length_drop, List.length_range', S.wi.1]; omega) fun u hu => ?_, dt_id S hpm n (s + 1) (by omega)]
    · have := S.id s (by omega) s (by omega)
      rw [if_pos rfl] at this
      show rowQ (R.getD s []) s * 1 = 1
      unfold colQm at this
      unfold rowQ
      rw [this]
      grind
    · obtain ⟨l, hl, rfl⟩ := List.mem_map.mp hu
      obtain ⟨i, hi, rfl⟩ := List.getElem_of_mem hl
      rw [List.length_take, List.length_drop, S.wi.1] at hi
      have := S.id (s + 1 + i) (by omega) s (by omega)
      rw [if_neg (by omega)] at this
      have e4 : (List.take n (List.drop (s + 1) R))[i] = R.getD (s + 1 + i) [] := by
        rw [List.getElem_take, List.getElem_drop, List.getD, List.getElem?_eq_getElem (show s + 1 + i < R.length by rw [S.wi.1]; omega)]
        rfl
      rw [e4]
      exact this
/-- no pivot: the number is 0 -/
theorem St.stop {m w p : Nat} {D : Rat} {R : List (List Rat)} (S : St m w p D R) (hp : p < m) (hz : ∀ a, p ≤ a → a < m → colQm R a p = 0) : D = 0 := by
  obtain ⟨e, he, h⟩ := S.nb
  have i1 := dt_id S (by omega) p 0 (by omega)
  rw [List.drop_zero, ← List.range_eq_range'] at i1
  have := no_piv (List.range p) ((R.take p).map rowQ) ((R.drop p).map rowQ) p (List.range' (p + 1) (m - p - 1)) (by rw [List.length_map, List.length_take, List.length_range, S.wi.1]; omega) (by rw [i1]; decide) (by rw [List.length_map, List.length_drop, List.length_range', S.wi.1]; omega) fun z hz' => by
    obtain ⟨l, hl, rfl⟩ := List.mem_map.mp hz'
    obtain ⟨k, hk, rfl⟩ := List.getElem_of_mem hl
    rw [List.length_drop, S.wi.1] at hk
    have el : (R.drop p)[k] = R.getD (p + k) [] := by
      rw [List.getElem_drop, List.getD, List.getElem?_eq_getElem (by rw [S.wi.1]; omega)]
      rfl
    rw [el]
    refine dt_row0 _ [] _ fun c hc => ?_
    rcases List.mem_append.mp hc with hc | hc
    · have := S.id (p + k) (by omega) c (List.mem_range.mp hc)
      rw [if_neg (by have := List.mem_range.mp hc; omega)] at this
      exact this
    · simp at hc
      subst hc
      exact hz (c + k) (by omega) (by omega)
  have er : List.range p ++ p :: List.range' (p + 1) (m - p - 1) = List.range m := by
    rw [← List.range'_succ, List.range_eq_range', List.range_eq_range']
    have := List.range'_append_1 (s := 0) (m := p) (n := m - p - 1 + 1)
    rw [Nat.zero_add, show p + (m - p - 1 + 1) = m by omega] at this
    exact this
  rw [← List.map_append, List.take_append_drop, er] at this
  rw [h] at this
  rcases Rat.mul_eq_zero.mp this with z | z
  · exact absurd z he
  · exact z
theorem run_full {m w : Nat} {D : Rat} (hD : D ≠ 0) (hw : m ≤ w) : ∀ (n p : Nat) (R : List (List Rat)), p + n = m → St m w p D R → ∃ R', lineGo m n p R (List.range p) = (R', List.range m) ∧ St m w m D R'
  | 0, p, R, hp, S => by
    obtain rfl : p = m := by omega
    exact ⟨R, rfl, S⟩
  | n + 1, p, R, hp, S => by
    rw [lineGo, List.length_range]
    cases hb : belowN R p p m with
    | nil => exact absurd (S.stop (by omega) (belowN_nil hb)) hD
    | cons g gs =>
      obtain ⟨q, rfl, hq1, hq2, hq3⟩ := belowN_mem (g := g) (by rw [hb]; exact List.mem_cons_self)
      dsimp only
      rw [Int.toNat_natCast, ← range_snoc]
      exact run_full hD hw n (p + 1) _ (by omega) (S.step (by omega) hq1 hq2 hq3)
theorem St.unit {m w : Nat} {D : Rat} {R : List (List Rat)} (S : St m w m D R) : D ≠ 0 := fun z => by
  obtain ⟨e, he, h⟩ := S.nb
  have i1 := dt_id S (Nat.le_refl _) m 0 (by omega)
  rw [List.drop_zero, ← List.range_eq_range', List.take_of_length_le (by rw [S.wi.1]; exact Nat.le_refl _), h, z] at i1
  grind
theorem run_free {m w : Nat} {D : Rat} : ∀ (n p : Nat) (R : List (List Rat)), p + n = m → St m w p D R → (∀ c, p ≤ c → c < m → c ∈ (lineGo m n p R (List.range p)).2) → D ≠ 0
  | 0, p, R, hp, S, _ => by
    obtain rfl : p = m := by omega
    exact S.unit
  | n + 1, p, R, hp, S, hall => by
    rw [lineGo, List.length_range] at hall
    cases hb : belowN R p p m with
    | nil =>
      rw [hb] at hall
      dsimp only at hall
      obtain ⟨ext, e, h1, _⟩ := lineGo_places (m := m) n (p + 1) R (List.range p) (by rw [List.length_range]; omega)
      have := hall p (Nat.le_refl _) (by omega)
      rw [e] at this
      rcases List.mem_append.mp this with z | z
      · have := List.mem_range.mp z; omega
      · have := h1 p z; omega
    | cons g gs =>
      obtain ⟨q, rfl, hq1, hq2, hq3⟩ := belowN_mem (g := g) (by rw [hb]; exact List.mem_cons_self)
      rw [hb] at hall
      dsimp only at hall
      rw [Int.toNat_natCast, ← range_snoc] at hall
      exact run_free n (p + 1) _ (by omega) (S.step (by omega) hq1 hq2 hq3) fun c hc1 hc2 => hall c (by omega) hc2
theorem rowQ_cqs (l : List Int) : rowQ (cqs l) = rowF l := by
  funext j
  unfold rowQ rowF cqs
  rw [List.getD, List.getD, List.getElem?_map]
  cases l[j]? with
  | none => rfl
  | some x => rfl
theorem st_start {m w : Nat} {R : List (List Rat)} (h : WI m w R) : St m w 0 (dt (R.map rowQ) (List.range m)) R := ⟨h, fun a _ c hc => absurd hc (by omega), 1, by decide, by grind⟩
section
variable {xs : List Int} {n : Nat}
theorem tabS_dt : dt ((tabS (tabL xs n)).map rowQ) (List.range n) = ((numT (tabL xs n) : Int) : Rat) := by
  have hs : SqR (tabL xs n).length (tabL xs n) := ⟨rfl, fun k hk => by rw [tab_len] at hk ⊢; exact tab_rows (getD_in (by rw [tab_len]; exact hk))⟩
  rw [numT_det hs]
  unfold detT tabS
  rw [List.map_map, tab_len]
  congr 1
  exact List.map_congr_left fun l _ => rowQ_cqs l
/-- full just where the number is not 0 -/
theorem full_num (hs : Sl xs) : freeQ xs n = [] ↔ numT (tabL xs n) ≠ 0 := by
  have ti := tabS_inv (n := n) hs
  have S := st_start (Inv.wi ti)
  rw [tabS_dt] at S
  have eQ : lineQ (tabS (tabL xs n)) n = lineGo n n 0 (tabS (tabL xs n)) [] := by unfold lineQ; rw [ti.1]
  have cast : ((numT (tabL xs n) : Int) : Rat) ≠ 0 ↔ numT (tabL xs n) ≠ 0 := ⟨fun h z => h (by rw [z]; rfl), cast_ne⟩
  constructor
  · intro h
    rw [← cast]
    refine run_free n 0 (tabS (tabL xs n)) (by omega) S fun c _ hc => ?_
    unfold freeQ PF.freeOf at h
    rw [List.map_eq_nil_iff, List.filter_eq_nil_iff, eQ] at h
    have := h c (List.mem_range.mpr hc)
    simpa using this
  · intro h
    obtain ⟨R', e, _⟩ := run_full (w := n) (cast.mpr h) (Nat.le_refl _) n 0 (tabS (tabL xs n)) (by omega) S
    have e : lineGo n n 0 (tabS (tabL xs n)) [] = (R', List.range n) := e
    unfold freeQ PF.freeOf
    rw [List.map_eq_nil_iff, List.filter_eq_nil_iff, eQ, e]
    intro c hc
    simpa using List.mem_range.mp hc
end
/-! ### sums -/
def sumF (g : Nat → Rat) : Nat → Rat
  | 0 => 0
  | n + 1 => sumF g n + g n
theorem sumF_congr {g k : Nat → Rat} : ∀ n, (∀ i, i < n → g i = k i) → sumF g n = sumF k n
  | 0, _ => rfl
  | n + 1, h => by rw [sumF, sumF, sumF_congr n fun i hi => h i (by omega), h n (by omega)]
theorem sumF_lin (a b : Rat) (g k : Nat → Rat) : ∀ n, sumF (fun i => a * g i + b * k i) n = a * sumF g n + b * sumF k n
  | 0 => by simp only [sumF]; grind
  | n + 1 => by rw [sumF, sumF, sumF, sumF_lin a b g k n]; grind
theorem sumF_left (g : Nat → Rat) : ∀ n, sumF g (n + 1) = g 0 + sumF (fun i => g (i + 1)) n
  | 0 => by simp only [sumF]; grind
  | n + 1 => by
    rw [sumF, sumF_left g n, sumF]
    grind
theorem sumF_zero : ∀ n, sumF (fun _ => 0) n = 0
  | 0 => rfl
  | n + 1 => by rw [sumF, sumF_zero n]; grind
theorem sumF_pick (g : Nat → Rat) {j : Nat} : ∀ n, j < n → sumF (fun i => g i * if i = j then 1 else 0) n = g j
  | 0, h => absurd h (by omega)
  | n + 1, h => by
    rw [sumF]
    by_cases c : n = j
    · subst c
      rw [if_pos rfl, sumF_congr (k := fun _ => 0) n fun i hi => by rw [if_neg (by omega)]; grind, sumF_zero]
      grind
    · rw [sumF_pick g n (by omega), if_neg c]
      grind
theorem sumF_pick' (g : Nat → Rat) {j : Nat} (n : Nat) (h : j < n) : sumF (fun i => (if j = i then 1 else 0) * g i) n = g j := by
  rw [← sumF_pick g n h]
  refine sumF_congr n fun i _ => ?_
  by_cases c : i = j
  · rw [if_pos c, if_pos c.symm]; grind
  · rw [if_neg c, if_neg (fun z => c z.symm)]; grind
theorem sumF_swap (g : Nat → Nat → Rat) (m : Nat) : ∀ n, sumF (fun i => sumF (g i) m) n = sumF (fun j => sumF (fun i => g i j) n) m
  | 0 => by
    simp only [sumF]
    exact (sumF_zero m).symm
  | n + 1 => by
    rw [sumF, sumF_swap g m n]
    have := sumF_lin 1 1 (fun j => sumF (fun i => g i j) n) (g n) m
    have e : sumF (fun j => sumF (fun i => g i j) (n + 1)) m = sumF (fun j => 1 * sumF (fun i => g i j) n + 1 * g n j) m := sumF_congr m fun j _ => by rw [sumF]; grind
    rw [e, this]
    grind
theorem ex_sum (r : Rw) : ∀ (cols : List Nat) (f : List Nat → Rat), ex r f cols = sumF (fun k => sg k * r (cols.getD k 0) * f (cols.take k ++ cols.drop (k + 1))) cols.length
  | [], f => rfl
  | c :: cs, f => by
    rw [ex, ex_sum r cs, List.length_cons, sumF_left]
    have e : sumF (fun i => sg (i + 1) * r ((c :: cs).getD (i + 1) 0) * f ((c :: cs).take (i + 1) ++ (c :: cs).drop (i + 1 + 1))) cs.length = (-1) * sumF (fun k => sg k * r (cs.getD k 0) * f (c :: (cs.take k ++ cs.drop (k + 1)))) cs.length + 0 * 0 := by
      have := sumF_lin (-1) 0 (fun k => sg k * r (cs.getD k 0) * f (c :: (cs.take k ++ cs.drop (k + 1)))) (fun _ => 0) cs.length
      rw [sumF_zero] at this
      rw [← this]
      refine sumF_congr _ fun i _ => ?_
      show (- sg i) * r (cs.getD i 0) * f (c :: (cs.take i ++ cs.drop (i + 1))) = _
      grind
    rw [e]
    show r c * f cs - _ = (1 : Rat) * r c * f ([] ++ cs) + _
    rw [List.nil_append]
    grind
/-! ### the back by parts -/
theorem sg_eq (n : Nat) : sg n = if n % 2 = 0 then 1 else -1 := by
  induction n with
  | zero => rfl
  | succ n ih =>
    rw [sg, ih]
    by_cases c : n % 2 = 0
    · rw [if_pos c, if_neg (by omega)]
    · rw [if_neg c, if_pos (by omega)]
      grind
theorem sgnE_sg (i j : Nat) : ((sgnE i j : Int) : Rat) = sg i * sg j := by
  have e : sgnE i j = if (i + j) % 2 = 0 then 1 else -1 := by
    unfold sgnE
    rw [Int.fmod_eq_emod_of_nonneg _ (by decide)]
    split <;> omega
  rw [e, sg_eq, sg_eq]
  by_cases c1 : i % 2 = 0
  · by_cases c2 : j % 2 = 0
    · rw [if_pos c1, if_pos c2, if_pos (by omega)]; decide +kernel
    · rw [if_pos c1, if_neg c2, if_neg (by omega)]; decide +kernel
  · by_cases c2 : j % 2 = 0
    · rw [if_neg c1, if_pos c2, if_neg (by omega)]; decide +kernel
    · rw [if_neg c1, if_neg c2, if_pos (by omega)]; decide +kernel
theorem part_dt {t : List (List Int)} {m i j : Nat} (hs : SqR m t) (hi : i < m) (hj : j < m) : ((numT (partT t i j) : Int) : Rat) = dt ((t.take j ++ t.drop (j + 1)).map rowF) ((List.range m).take i ++ (List.range m).drop (i + 1)) := by
  have ps := part_sq hs hi hj
  have hl := ps.1
  have e1 : partT t i j = (t.take j ++ t.drop (j + 1)).map (pickC ((List.range m).take i ++ (List.range m).drop (i + 1))) := by
    unfold partT
    refine List.map_congr_left fun l hl' => ?_
    have hl' : l ∈ t := (List.mem_append.mp hl').elim List.mem_of_mem_take List.mem_of_mem_drop
    have := rm_pick (List.range m) l i
    rw [pick_all_cols (sq_rows hs l hl')] at this
    exact this
  have e2 := detP_dt (t.take j ++ t.drop (j + 1)) ((List.range m).take i ++ (List.range m).drop (i + 1)) (partT t i j).length (by rw [hl, List.length_append, List.length_take, List.length_drop, hs.1]; omega)
  rw [← e1, detP_num (by rw [hl]; exact ps) (Nat.le_refl _)] at e2
  exact e2
theorem adj {t : List (List Int)} {m a b : Nat} (hs : SqR m t) (ha : a < m) (hb : b < m) (h0 : numT t ≠ 0) : sumF (fun c => rowF (t.getD a []) c * entQ t c b) m = if a = b then 1 else 0 := by
  have hD : ((numT t : Int) : Rat) ≠ 0 := cast_ne h0
  have det := numT_det (t := t) (by rw [hs.1]; exact hs)
  unfold detT at det
  rw [hs.1] at det
  have key : sumF (fun c => rowF (t.getD a []) c * entQ t c b) m = (sg b / ((numT t : Int) : Rat)) * dt (rowF (t.getD a []) :: (t.take b ++ t.drop (b + 1)).map rowF) (List.range m) + 0 * 0 := by
    rw [dt_cons, ex_sum, List.length_range]
    have := sumF_lin (sg b / ((numT t : Int) : Rat)) 0 (fun k => sg k * rowF (t.getD a []) ((List.range m).getD k 0) * dt ((t.take b ++ t.drop (b + 1)).map rowF) ((List.range m).take k ++ (List.range m).drop (k + 1))) (fun _ => 0) m
    rw [sumF_zero] at this
    rw [← this]
    refine sumF_congr m fun c hc => ?_
    have e1 : (List.range m).getD c 0 = c := by rw [List.getD, List.getElem?_range hc]; rfl
    rw [e1, ← part_dt hs hc hb]
    unfold entQ
    rw [Rat.divInt_eq_div, Rat.intCast_mul, sgnE_sg]
    grind
  rw [key]
  have hbt : b < t.length := by rw [hs.1]; exact hb
  by_cases e : a = b
  · subst e
    rw [if_pos rfl]
    have sp := split1 t [] hbt
    have f := dt_front' (rowF (t.getD a [])) ((t.take a).map rowF) ((t.drop (a + 1)).map rowF) (List.range m)
    rw [← List.map_cons, ← List.map_append, ← sp, ← det, List.length_map, List.length_take, show min a t.length = a by omega] at f
    rw [List.map_append, f]
    have s2 := sg_sq a
    have n2 := sg_ne a
    grind
  · rw [if_neg e]
    have hat : a < t.length := by rw [hs.1]; exact ha
    have mem : t.getD a [] ∈ t.take b ++ t.drop (b + 1) := by
      rw [List.getD, List.getElem?_eq_getElem hat]
      show t[a] ∈ _
      rcases Nat.lt_or_gt_of_ne e with c | c
      · exact List.mem_append_left _ (List.mem_take_iff_getElem.mpr ⟨a, by omega, rfl⟩)
      · refine List.mem_append_right _ (List.mem_drop_iff_getElem.mpr ⟨a - (b + 1), by omega, ?_⟩)
        congr 1
        omega
    obtain ⟨A, C, eq⟩ := List.append_of_mem mem
    rw [eq, List.map_append, List.map_cons, dt_same0]
    grind
/-! ### the table and the unit table side by side -/
def augM (t : List (List Int)) (m : Nat) : List (List Rat) := (List.range m).map fun i => cqs (t.getD i []) ++ unitR m i
structure Lr (t : List (List Int)) (m : Nat) (r : List Rat) : Prop where
  len : r.length = m + m
  eq : ∀ c, c < m → r.getD c 0 = sumF (fun b => r.getD (m + b) 0 * rowF (t.getD b []) c) m
theorem Lr.scale {t : List (List Int)} {m : Nat} {r : List Rat} (h : Lr t m r) (x : Rat) : Lr t m (scaleQ r x) := ⟨by rw [scaleQ_len, h.len], fun c hc => by
  rw [scaleQ_getD, h.eq c hc]
  have := sumF_lin x 0 (fun b => r.getD (m + b) 0 * rowF (t.getD b []) c) (fun _ => 0) m
  rw [sumF_zero] at this
  rw [show sumF (fun b => (scaleQ r x).getD (m + b) 0 * rowF (t.getD b []) c) m = sumF (fun b => x * (r.getD (m + b) 0 * rowF (t.getD b []) c) + 0 * 0) m from sumF_congr m fun b _ => by rw [scaleQ_getD]; grind, this]
  grind⟩
theorem Lr.less {t : List (List Int)} {m : Nat} {r s : List Rat} (h : Lr t m r) (k : Lr t m s) : Lr t m (lessQ r s) := ⟨by rw [lessQ_len _ _ (by rw [h.len, k.len]), h.len], fun c hc => by
  rw [lessQ_getD (by rw [h.len, k.len]), h.eq c hc, k.eq c hc]
  have := sumF_lin 1 (-1) (fun b => r.getD (m + b) 0 * rowF (t.getD b []) c) (fun b => s.getD (m + b) 0 * rowF (t.getD b []) c) m
  rw [show sumF (fun b => (lessQ r s).getD (m + b) 0 * rowF (t.getD b []) c) m = sumF (fun b => 1 * (r.getD (m + b) 0 * rowF (t.getD b []) c) + (-1) * (s.getD (m + b) 0 * rowF (t.getD b []) c)) m from sumF_congr m fun b _ => by rw [lessQ_getD (by rw [h.len, k.len])]; grind, this]
  grind⟩
theorem lineGo_all {m w : Nat} {P : List Rat → Prop} (hs : ∀ r x, P r → P (scaleQ r x)) (hl : ∀ r s, P r → P s → P (lessQ r s)) : ∀ (n p : Nat) (R : List (List Rat)) (ps : List Nat), WI m w R → ps.length ≤ m → (∀ j, j < m → P (R.getD j [])) → ∀ j, j < m → P ((lineGo m n p R ps).1.getD j [])
  | 0, _, _, _, _, _, h => h
  | n + 1, p, R, ps, wi, hk, h => by
    rw [lineGo]
    cases hb : belowN R ps.length p m with
    | nil => exact lineGo_all hs hl n (p + 1) R ps wi hk h
    | cons g gs =>
      obtain ⟨q, rfl, hq1, hq2, hq3⟩ := belowN_mem (g := g) (by rw [hb]; exact List.mem_cons_self)
      dsimp only
      rw [Int.toNat_natCast]
      have hkm : ps.length < m := by omega
      have w2 := pivR_wi (p := p) wi hkm hq2
      have h2 : ∀ j, j < m → P ((pivR R ps.length q p).getD j []) := fun j hj => by
        rw [pivR_getD (by rw [wi.1]; exact hkm) (by rw [wi.1]; exact hq2)]
        split
        · exact hs _ _ (h q hq2)
        · split
          · exact h _ hkm
          · exact h j hj
      refine lineGo_all hs hl n (p + 1) _ (ps ++ [p]) (elimR_wi hkm m 0 _ (by omega) w2) (by rw [List.length_append]; exact hkm) fun j hj => ?_
      rw [elimR_getD hkm m 0 _ (by omega) w2]
      split
      · exact hl _ _ (h2 j hj) (hs _ _ (h2 _ hkm))
      · exact h2 j hj
theorem lineGo_add {m : Nat} : ∀ (a b p : Nat) (R : List (List Rat)) (ps : List Nat), lineGo m (a + b) p R ps = lineGo m b (p + a) (lineGo m a p R ps).1 (lineGo m a p R ps).2
  | 0, b, p, R, ps => by rw [Nat.zero_add]; rfl
  | a + 1, b, p, R, ps => by
    rw [show a + 1 + b = (a + b) + 1 by omega, lineGo, lineGo]
    cases belowN R ps.length p m with
    | nil =>
      dsimp only
      rw [lineGo_add a b (p + 1) R ps, show p + 1 + a = p + (a + 1) by omega]
    | cons g gs =>
      dsimp only
      rw [lineGo_add a b (p + 1), show p + 1 + a = p + (a + 1) by omega]
theorem lineGo_done {m : Nat} : ∀ (n p : Nat) (R : List (List Rat)), lineGo m n p R (List.range m) = (R, List.range m)
  | 0, _, _ => rfl
  | n + 1, p, R => by
    rw [lineGo, List.length_range]
    have : belowN R m p m = [] := by
      unfold belowN
      rw [Nat.sub_self]
      rfl
    rw [this]
    exact lineGo_done n (p + 1) R
theorem aug_getD {t : List (List Int)} {m i : Nat} (hi : i < m) : (augM t m).getD i [] = cqs (t.getD i []) ++ unitR m i := by
  unfold augM
  rw [List.getD, List.getElem?_map, List.getElem?_range hi]
  rfl
theorem cqs_getD (l : List Int) (c : Nat) : (cqs l).getD c 0 = rowF l c := congrFun (rowQ_cqs l) c
theorem app_getD_left {A B : List Rat} {c : Nat} (h : c < A.length) : (A ++ B).getD c 0 = A.getD c 0 := by
  rw [List.getD, List.getD, List.getElem?_append_left h]
theorem app_getD_right {A B : List Rat} {m c : Nat} (h : A.length = m) : (A ++ B).getD (m + c) 0 = B.getD c 0 := by
  rw [List.getD, List.getD, List.getElem?_append_right (by omega), show m + c - A.length = c by omega]
theorem unitR_at {n p j : Nat} (hj : j < n) : (unitR n p).getD j 0 = if j = p then 1 else 0 := by
  unfold unitR
  rw [List.getD, List.getElem?_map, List.getElem?_range hj]
  rfl
theorem aug_lr {t : List (List Int)} {m i : Nat} (hs : SqR m t) (hi : i < m) : Lr t m ((augM t m).getD i []) := by
  have lc : (cqs (t.getD i [])).length = m := by rw [cqs, List.length_map]; exact hs.2 i hi
  rw [aug_getD hi]
  refine ⟨by rw [List.length_append, lc, unitR_len], fun c hc => ?_⟩
  rw [app_getD_left (by omega), cqs_getD]
  have := sumF_pick' (fun b => rowF (t.getD b []) c) m hi
  rw [← this]
  refine sumF_congr m fun b hb => ?_
  rw [app_getD_right lc, unitR_at hb]
  by_cases e : i = b
  · rw [if_pos e, if_pos e.symm]
  · rw [if_neg e, if_neg (fun z => e z.symm)]
theorem aug_inv {t : List (List Int)} {m : Nat} (hs : SqR m t) (hb : ∀ r ∈ t, bl 6 r) : Inv m (m + m) 6 (augM t m) := by
  refine ⟨by simp [augM], fun i hi => ?_⟩
  rw [aug_getD hi]
  have lc : (cqs (t.getD i [])).length = m := by rw [cqs, List.length_map]; exact hs.2 i hi
  refine ⟨by rw [List.length_append, lc, unitR_len], ?_⟩
  refine ⟨1, by decide, by decide, fun q hq => ?_⟩
  rcases List.mem_append.mp hq with hq | hq
  · obtain ⟨z, hz, rfl⟩ := List.mem_map.mp hq
    exact ⟨z, hb _ (getD_in (by rw [hs.1]; exact hi)) z hz, by simp⟩
  · obtain ⟨j, _, rfl⟩ := List.mem_map.mp hq
    split
    · exact ⟨1, by decide, by decide +kernel⟩
    · exact ⟨0, by decide, by decide +kernel⟩
/-- the right half of the cleared rows is the back by parts -/
theorem aug_back {t : List (List Int)} {m : Nat} (hs : SqR m t) (hb : ∀ r ∈ t, bl 6 r) (h0 : numT t ≠ 0) : ∃ R, lineQ (augM t m) (m + m) = (R, List.range m) ∧ R.length = m ∧ ∀ i, i < m → (R.getD i []).length = m + m ∧ ∀ j, j < m → (R.getD i []).getD (m + j) 0 = entQ t i j := by
  have ai := aug_inv hs hb
  have dtA : dt ((augM t m).map rowQ) (List.range m) = ((numT t : Int) : Rat) := by
    rw [numT_det (by rw [hs.1]; exact hs)]
    unfold detT
    rw [hs.1]
    have : ∀ (rows : List Nat) (cols : List Nat), (∀ i ∈ rows, i < m) → (∀ c ∈ cols, c < m) → dt ((rows.map fun i => cqs (t.getD i []) ++ unitR m i).map rowQ) cols = dt ((rows.map fun i => t.getD i []).map rowF) cols := by
      intro rows
      induction rows with
      | nil => intro cols _ _; rfl
      | cons i rows ih =>
        intro cols hr hc
        have lc : (cqs (t.getD i [])).length = m := by rw [cqs, List.length_map]; exact hs.2 i (hr i List.mem_cons_self)
        rw [List.map_cons, List.map_cons, List.map_cons, List.map_cons, dt_cons, dt_cons]
        have gen : ∀ (cols : List Nat) (f g : List Nat → Rat), (∀ c ∈ cols, c < m) → (∀ B : List Nat, (∀ c ∈ B, c < m) → f B = g B) → ex (rowQ (cqs (t.getD i []) ++ unitR m i)) f cols = ex (rowF (t.getD i [])) g cols := by
          intro cols
          induction cols with
          | nil => intro f g _ _; rfl
          | cons c cs ihc =>
            intro f g hcs hfg
            have hcm := hcs c List.mem_cons_self
            rw [ex, ex, hfg cs fun x hx => hcs x (List.mem_cons_of_mem _ hx), ihc (fun B => f (c :: B)) (fun B => g (c :: B)) (fun x hx => hcs x (List.mem_cons_of_mem _ hx)) fun B hB => hfg (c :: B) fun x hx => (List.mem_cons.mp hx).elim (fun e => e ▸ hcm) (hB x)]
            have : rowQ (cqs (t.getD i []) ++ unitR m i) c = rowF (t.getD i []) c := by
              show (cqs (t.getD i []) ++ unitR m i).getD c 0 = _
              rw [app_getD_left (by omega), cqs_getD]
            rw [this]
        exact gen cols _ _ hc fun B hB => ih B (fun j hj => hr j (List.mem_cons_of_mem _ hj)) hB
    have e := this (List.range m) (List.range m) (fun i hi => List.mem_range.mp hi) fun c hc => List.mem_range.mp hc
    show dt ((augM t m).map rowQ) (List.range m) = _
    unfold augM
    rw [e]
    congr 2
    refine (List.ext_getElem? fun i => ?_ : ((List.range m).map fun i => t.getD i []) = t)
    rw [List.getElem?_map]
    by_cases c : i < m
    · rw [List.getElem?_range c]
      show some (t.getD i []) = t[i]?
      rw [List.getD, List.getElem?_eq_getElem (by rw [hs.1]; exact c)]
      rfl
    · rw [List.getElem?_eq_none (by simpa using c), List.getElem?_eq_none (by rw [hs.1]; omega)]
      rfl
  have S := st_start (Inv.wi ai)
  rw [dtA] at S
  obtain ⟨R, e, S2⟩ := run_full (cast_ne h0) (by omega) m 0 (augM t m) (by omega) S
  have e : lineGo m m 0 (augM t m) [] = (R, List.range m) := e
  have full : lineQ (augM t m) (m + m) = (R, List.range m) := by
    unfold lineQ
    rw [ai.1, lineGo_add, e]
    exact lineGo_done m (0 + m) R
  have lr := lineGo_all (m := m) (w := m + m) (P := Lr t m) (fun r x h => h.scale x) (fun r s h k => h.less k) m 0 (augM t m) [] (Inv.wi ai) (by simp) fun j hj => aug_lr hs hj
  rw [e] at lr
  refine ⟨R, full, S2.wi.1, fun i hi => ⟨S2.wi.2 i hi, fun j hj => ?_⟩⟩
  have h := lr i hi
  have ident : ∀ c, c < m → sumF (fun b => (R.getD i []).getD (m + b) 0 * rowF (t.getD b []) c) m = if i = c then 1 else 0 := fun c hc => by
    rw [← h.eq c hc]
    exact S2.id i hi c hc
  have a1 := sumF_pick (fun b => (R.getD i []).getD (m + b) 0) m hj
  rw [← a1]
  have a2 : sumF (fun b => (R.getD i []).getD (m + b) 0 * if b = j then 1 else 0) m = sumF (fun b => sumF (fun c => (R.getD i []).getD (m + b) 0 * rowF (t.getD b []) c * entQ t c j) m) m := sumF_congr m fun b hb' => by
    rw [← adj hs hb' hj h0]
    have := sumF_lin ((R.getD i []).getD (m + b) 0) 0 (fun c => rowF (t.getD b []) c * entQ t c j) (fun _ => 0) m
    rw [sumF_zero] at this
    rw [show sumF (fun c => (R.getD i []).getD (m + b) 0 * rowF (t.getD b []) c * entQ t c j) m = sumF (fun c => (R.getD i []).getD (m + b) 0 * (rowF (t.getD b []) c * entQ t c j) + 0 * 0) m from sumF_congr m fun c _ => by grind, this]
    grind
  rw [a2, sumF_swap]
  have a3 : sumF (fun c => sumF (fun b => (R.getD i []).getD (m + b) 0 * rowF (t.getD b []) c * entQ t c j) m) m = sumF (fun c => (if i = c then 1 else 0) * entQ t c j) m := sumF_congr m fun c hc => by
    rw [← ident c hc]
    have := sumF_lin (entQ t c j) 0 (fun b => (R.getD i []).getD (m + b) 0 * rowF (t.getD b []) c) (fun _ => 0) m
    rw [sumF_zero] at this
    rw [show sumF (fun b => (R.getD i []).getD (m + b) 0 * rowF (t.getD b []) c * entQ t c j) m = sumF (fun b => entQ t c j * ((R.getD i []).getD (m + b) 0 * rowF (t.getD b []) c) + 0 * 0) m from sumF_congr m fun b _ => by grind, this]
    grind
  rw [a3, sumF_pick' (fun c => entQ t c j) m hi]
end Dz.PG

namespace Dz.PE
open PySem PySem.Spec PyProof.Rows L2 Dz Dz.PL Dz.PN Dz.PD
noncomputable def body_determinant (rec : FDen) : DenS := seqS (ifS (asB (bin2 dEq (vr 0) (lstD (aNil)))) (retS (cst (.int 1))) (nxS)) (seqS (setS 1 (cst (.int 0))) (seqS (setS 2 (cst (.int 1))) (seqS (forS (enumI (aCons (bin2 dIx (vr 0) (cst (.int 0))) (aNil))) (tupT 2 (tsCons (setT 3) (tsCons (setT 4) (tsNil)))) (seqS (setS 1 (bin2 dAdd (vr 1) (bin2 dMul (bin2 dMul (vr 2) (vr 4)) (callD rec 1 (aCons (lcD (seqI (slD mkL (vr 0) (oSome (cst (.int 1))) (oNone))) (setT 5) (yesB) (bin2 dAdd (slD mkL (vr 5) (oNone) (oSome (vr 3))) (slD mkL (vr 5) (oSome (bin2 dAdd (vr 3) (cst (.int 1)))) (oNone))) [5]) (aNil)))))) (setS 2 (bin2 dSub (cst (.int 0)) (vr 2))))) (retS (vr 1)))))
noncomputable def den_determinant : Nat → FDen
  | 0 => bodyD 6 fun _ _ => .stuck
  | d + 1 => bodyD 6 (body_determinant (den_determinant d))
noncomputable def body_number_of : DenS := seqS (exS (callD Dz.PL.den_check_slants 1 (aCons (vr 0) (aNil)))) (retS (callD (Dz.PE.den_determinant 7) 1 (aCons (callD Dz.PL.den_tabled 1 (aCons (vr 0) (aNil))) (aNil))))
noncomputable def den_number_of : FDen := bodyD 1 body_number_of
noncomputable def lc_corners_by_1 : Den := lcM (rng2 (aCons (cst (.int 1)) (aCons (bin2 dAdd (callD Dz.PL.den_size_of 1 (aCons (vr 0) (aNil))) (cst (.int 1))) (aNil)))) (setT 1) (yesB) (callD (Dz.PE.den_determinant 7) 1 (aCons (callD Dz.PL.den_tabled 1 (aCons (callD Dz.PL.den_cornered 2 (aCons (vr 0) (aCons (vr 1) (aNil)))) (aNil))) (aNil))) [1]
noncomputable def body_corners_by : DenS := retS (lc_corners_by_1)
noncomputable def den_corners_by : FDen := bodyD 2 body_corners_by
noncomputable def body_corner_numbers : DenS := seqS (exS (callD Dz.PL.den_check_slants 1 (aCons (vr 0) (aNil)))) (retS (callD Dz.PE.den_corners_by 1 (aCons (vr 0) (aNil))))
noncomputable def den_corner_numbers : FDen := bodyD 1 body_corner_numbers
noncomputable def lc_weak_sizes_1 : Den := lcM (enumI (aCons (callD Dz.PE.den_corners_by 1 (aCons (vr 0) (aNil))) (aNil))) (tupT 2 (tsCons (setT 1) (tsCons (setT 2) (tsNil)))) (asB (bin2 dEq (vr 2) (cst (.int 0)))) (bin2 dAdd (vr 1) (cst (.int 1))) [1, 2]
noncomputable def body_weak_sizes : DenS := seqS (exS (callD Dz.PL.den_check_slants 1 (aCons (vr 0) (aNil)))) (retS (lc_weak_sizes_1))
noncomputable def den_weak_sizes : FDen := bodyD 3 body_weak_sizes
theorem gr_succ' : ∀ n b : Nat, gr (n + 1) b = 2 * gr n b + 1
  | 0, b => rfl
  | n + 1, b => by
    show gr (n + 1) (2 * b + 1) = 2 * gr n (2 * b + 1) + 1
    exact gr_succ' n (2 * b + 1)
theorem e_enumLL {f : DenA} {σ : Sd} {h h1 : Hd} {xs : List Int} (e : f σ h = .ok [.lst (xs.map D.int)] h1) : enumI f σ h = .ok ⟨enumFrom 0 xs, []⟩ h1 := by
  unfold enumI
  rw [e]
  have : enumUp (xs.map D.int) = enumFrom 0 xs := by
    unfold enumUp
    rw [List.length_map, enum_from]
  simp [srcOf, notStr, this]
theorem sumGo_congr {g k : Nat → Int} : ∀ (l : List Int) (c : Nat) (found sign : Int), (∀ x, c ≤ x → x < c + l.length → g x = k x) → sumGo g l c found sign = sumGo k l c found sign
  | [], _, _, _, _ => rfl
  | x :: l, c, found, sign, h => by
    rw [sumGo, sumGo, h c (Nat.le_refl _) (by simp)]
    exact sumGo_congr l (c + 1) _ _ fun y h1 h2 => h y (by omega) (by rw [List.length_cons]; omega)
/-! ### the number along the first row, told -/
theorem num_le {t : List (List Int)} {b : Nat} (hs : SqR t.length t) (hm : t.length ≤ 1000) (hb : ∀ r ∈ t, bl b r) (h1 : 1 ≤ b) (hg : gr t.length b ≤ 2000) : (numT t).natAbs < 2 ^ gr t.length b := (v_numberof hs hm (bl_all hb) h1 hg []).2
theorem sq_of {m : Nat} {t : List (List Int)} (hl : t.length = m) (h : ∀ r ∈ t, r.length = m) : SqR m t := ⟨hl, fun k hk => h _ (getD_in (by rw [hl]; exact hk))⟩
theorem rm_len {c m : Nat} {l : List Int} (h : l.length = m) (hc : c < m) : (rm c l).length = m - 1 := by
  unfold rm
  rw [List.length_append, List.length_take, List.length_drop]
  omega
theorem rm_bl {c b : Nat} {l : List Int} (h : bl b l) : bl b (rm c l) := fun x hx => h x ((List.mem_append.mp hx).elim List.mem_of_mem_take List.mem_of_mem_drop)
noncomputable abbrev detB (rec : FDen) : DenS := (seqS (setS 1 (bin2 dAdd (vr 1) (bin2 dMul (bin2 dMul (vr 2) (vr 4)) (callD rec 1 (aCons (lcD (seqI (slD mkL (vr 0) (oSome (cst (.int 1))) (oNone))) (setT 5) (yesB) (bin2 dAdd (slD mkL (vr 5) (oNone) (oSome (vr 3))) (slD mkL (vr 5) (oSome (bin2 dAdd (vr 3) (cst (.int 1)))) (oNone))) [5]) (aNil)))))) (setS 2 (bin2 dSub (cst (.int 0)) (vr 2))))
theorem det_loop {rec : FDen} {r : List Int} {rs : List (List Int)} {g : Nat → Int} {b e : Nat} {h : Hd} (hl : ∀ l ∈ rs, l.length ≤ 1000) (he : e ≤ 2000) (hbb : b ≤ 2000) (hrec : ∀ c, c < r.length → rec [encT (rs.map (rm c))] h = .ok (.int (g c)) h ∧ (g c).natAbs < 2 ^ e) : ∀ (l : List Int) (c : Nat) (found sign : Int), c + l.length = r.length → bl b l → sign.natAbs = 1 → ∀ x3 x4 x5 : Option D, ∃ y2 y3 y4 y5,
    forLoop (tupT 2 (tsCons (setT 3) (tsCons (setT 4) (tsNil)))) (detB rec) [] (enumFrom (c : Int) l) [some (encT (r :: rs)), some (.int found), some (.int sign), x3, x4, x5] h = .next [some (encT (r :: rs)), some (.int (sumGo g l c found sign)), y2, y3, y4, y5] h
  | [], c, found, sign, _, _, _, x3, x4, x5 => ⟨_, x3, x4, x5, for_nil⟩
  | x :: l, c, found, sign, hc, hb, hs, x3, x4, x5 => by
    rw [List.length_cons] at hc
    obtain ⟨y2, y3, y4, y5, e1⟩ := det_loop hl he hbb hrec l (c + 1) (found + sign * x * g c) (0 - sign) (by omega) (fun y hy => hb y (List.mem_cons_of_mem _ hy)) (by omega) (some (.int (c : Int))) (some (.int x)) x5
    refine ⟨y2, y3, y4, y5, ?_⟩
    rw [show ((c + 1 : Nat) : Int) = (c : Int) + 1 by omega] at e1
    show forLoop _ _ _ (.tup [.int (c : Int), .int x] :: enumFrom ((c : Int) + 1) l) _ _ = _
    refine (for_cons (σ1 := [some (encT (r :: rs)), some (.int found), some (.int sign), some (.int (c : Int)), some (.int x), x5]) (h1 := h) (by simp [tupT, seqOf, tsCons, tsNil]) ?_).trans e1
    obtain ⟨rc, gc⟩ := hrec c (by omega)
    have xb := hb x List.mem_cons_self
    have m1 : mulOk sign x := mulOk_pow (a := 1) (b := b) (by omega) xb (by omega)
    have m2 : mulOk (sign * x) (g c) := mulOk_pow (a := 1 + b) (b := e) (by rw [Int.natAbs_mul]; exact pow_add2 (by omega) xb) gc (by omega)
    have lc : ∀ x5, lcD (seqI (slD mkL (vr 0) (oSome (cst (.int 1))) (oNone))) (setT 5) (yesB) (bin2 dAdd (slD mkL (vr 5) (oNone) (oSome (vr 3))) (slD mkL (vr 5) (oSome (bin2 dAdd (vr 3) (cst (.int 1)))) (oNone))) [5] [some (encT (r :: rs)), some (.int found), some (.int sign), some (.int (c : Int)), some (.int x), x5] h = .ok (encT (rs.map (rm c))) h := fun x5 => by
      unfold encT
      rw [List.map_map]
      refine lcD_seq (l := rs) (g := fun r => D.lst (r.map D.int)) (by simp -implicitDefEqProofs [x_seqI, cut_f1, kSeq_lst]) fun s hs => ?_
      have a2 : ∀ hh, dAdd (.lst ((s.map D.int).take c)) (.lst ((s.map D.int).drop (c + 1))) hh = some (.lst ((rm c s).map D.int), hh) := fun hh => by
        rw [dAddL, p_addl hh mkL _ _ (by rw [szl, List.length_take, List.length_drop, List.length_map]; have := hl s hs; omega), p_mkL]
        unfold rm
        rw [List.map_append, List.map_take, List.map_drop]
      show _ = Out.ok (D.lst ((rm c s).map D.int)) h
      generalize (rm c s).map D.int = Z at *
      generalize s.map D.int = S at *
      simp -implicitDefEqProofs [wipeD, cut_to, cut_from1, a2]
    generalize encT (rs.map (rm c)) = Z at *
    generalize encT (r :: rs) = T at *
    simp -implicitDefEqProofs [detB, p_muli, m1, m2, lc, rc]
theorem v_det {b : Nat} (h1 : 1 ≤ b) (hbb : b ≤ 2000) : ∀ (m d : Nat) (t : List (List Int)), t.length = m → m < d → m ≤ 900 → (∀ r ∈ t, r.length = m ∧ bl b r) → gr m b ≤ 2000 → ∀ h : Hd, den_determinant d [encT t] h = .ok (.int (numT t)) h
  | 0, d + 1, t, hl, _, _, _, _, h => by
    have : t = [] := by simpa using hl
    subst this
    have eq : eqD false (encT []) (.lst []) h = some (.bl true, h) := rfl
    refine bodyD_ret ?_
    unfold body_determinant
    rw [show startD 6 [encT []] = [some (encT []), none, none, none, none, none] from rfl]
    show _ = SOut.ret (.int 1) h
    simp -implicitDefEqProofs [show dEq = eqD false from rfl, eq]
  | m + 1, d + 1, t, hl, hd, hm, ht, hg, h => by
    obtain ⟨r, rs, rfl⟩ : ∃ r rs, t = r :: rs := by
      cases t with
      | nil => simp at hl
      | cons r rs => exact ⟨r, rs, rfl⟩
    have lrs : rs.length = m := by simpa using hl
    have hr := ht r List.mem_cons_self
    have minor : ∀ c, c < m + 1 → (rs.map (rm c)).length = m ∧ ∀ s ∈ rs.map (rm c), s.length = m ∧ bl b s := fun c hc => ⟨by rw [List.length_map]; exact lrs, fun s hs => by
      obtain ⟨l, hl', rfl⟩ := List.mem_map.mp hs
      have := ht l (List.mem_cons_of_mem _ hl')
      exact ⟨rm_len this.1 hc, rm_bl this.2⟩⟩
    have gm : gr m b ≤ 2000 := by
      rw [gr_succ'] at hg
      omega
    obtain ⟨y2, y3, y4, y5, e⟩ := det_loop (rec := den_determinant d) (r := r) (rs := rs) (g := fun c => numT (rs.map (rm c))) (b := b) (e := gr m b) (h := h) (fun l hl' => by have := (ht l (List.mem_cons_of_mem _ hl')).1; omega) gm hbb (fun c hc => by
      rw [hr.1] at hc
      obtain ⟨m1, m2⟩ := minor c hc
      refine ⟨v_det h1 hbb m d _ m1 (by omega) (by omega) m2 gm h, ?_⟩
      have := num_le (b := b) (sq_of rfl fun s hs => by rw [m1]; exact (m2 s hs).1) (by omega) (fun s hs => (m2 s hs).2) h1 (by rw [m1]; exact gm)
      rwa [m1] at this) r 0 0 1 (by omega) hr.2 rfl none none none
    have val : sumGo (fun c => numT (rs.map (rm c))) r 0 0 1 = numT (r :: rs) := by
      rw [← detP_num (n := m + 1) (sq_of rfl fun s hs => by rw [hl]; exact (ht s hs).1) (by rw [hl]; exact Nat.le_refl _)]
      show _ = sumGo (fun c => detP m (rs.map (rm c))) r 0 0 1
      refine sumGo_congr r 0 0 1 fun c _ hc => ?_
      rw [Nat.zero_add, hr.1] at hc
      obtain ⟨m1, m2⟩ := minor c hc
      rw [detP_num (n := m) (sq_of rfl fun s hs => by rw [m1]; exact (m2 s hs).1) (by rw [m1]; exact Nat.le_refl _)]
    rw [val, show ((0 : Nat) : Int) = 0 from rfl] at e
    have eq := p_eqT false (r :: rs) [] h
    change eqD false (encT (r :: rs)) (.lst []) h = some (.bl (xB false (decide (r :: rs = []))), h) at eq
    have i0 : ∀ hh, dIx (encT (r :: rs)) (.int 0) hh = some (.lst (r.map D.int), hh) := fun hh => ixl0 _ _ _
    have en : ∀ hh x1 x2, enumI (aCons (bin2 dIx (vr 0) (cst (.int 0))) (aNil)) [some (encT (r :: rs)), x1, x2, none, none, none] hh = .ok ⟨enumFrom 0 r, []⟩ hh := fun hh x1 x2 => e_enumLL (by
      generalize encT (r :: rs) = T at *
      simp -implicitDefEqProofs [i0])
    have eq : eqD false (encT (r :: rs)) (.lst []) h = some (.bl false, h) := eq
    refine bodyD_ret ?_
    unfold body_determinant
    rw [show startD 6 [encT (r :: rs)] = [some (encT (r :: rs)), none, none, none, none, none] from rfl]
    generalize encT (r :: rs) = T at *
    simp -implicitDefEqProofs [show dEq = eqD false from rfl, eq, x_forS, en, e]
/-! ### corners -/
theorem v_cornered {xs : List Int} {n k : Nat} (hl : xs.length = 2 * n - 1) (n1 : 1 ≤ n) (kn : k ≤ n) (h : Hd) : den_cornered [.tup (xs.map D.int), .int (k : Int)] h = .ok (.tup ((cK xs k).map D.int)) h := by
  have e2 := v_sizeof (xs.map D.int) h
  rw [List.length_map, hl, show (2 * n - 1 + 1) / 2 = n by omega] at e2
  have hk : cutD (xs.map D.int) (some ((n : Int) - (k : Int))) (some ((xs.length : Int) - ((n : Int) - (k : Int)))) = (cK xs k).map D.int := by
    rw [show (n : Int) - (k : Int) = ((n - k : Nat) : Int) by omega, show (xs.length : Int) - ((n - k : Nat) : Int) = ((xs.length - (n - k) : Nat) : Int) by omega, cut_mid]
    unfold cK
    rw [show (xs.length + 1) / 2 = n by omega, List.map_drop, List.map_take]
  refine bodyD_ret ?_
  simp only [body_cornered, startD]
  simp [e2, hk]
theorem tab_corner {xs : List Int} {n k : Nat} (hl : xs.length = 2 * n - 1) (k1 : 1 ≤ k) (kn : k ≤ n) : tabL (cK xs k) k = ((tabL xs n).take k).map (List.take k) := by
  unfold tabL
  rw [← List.map_take, List.take_range, show min k n = k by omega, List.map_map]
  refine List.map_congr_left fun i hi => ?_
  have hi := List.mem_range.mp hi
  show lineOf (cK xs k) k i = (lineOf xs n i).take k
  unfold lineOf
  rw [← List.map_take, List.take_range, show min k n = k by omega]
  refine List.map_congr_left fun j hj => ?_
  have hj := List.mem_range.mp hj
  unfold cK
  rw [List.getD, List.getD, List.getElem?_drop, List.getElem?_take, if_pos (by omega)]
  congr 2
  omega
theorem tab_ok {xs : List Int} {n : Nat} (hs : Sl xs) : ∀ r ∈ tabL xs n, r.length = n ∧ bl 6 r := fun r hr => ⟨tab_rows hr, fun x hx => by
  have := tab_mem hs.2 hr x hx
  show x.natAbs < 2 ^ 6
  omega⟩
def cornN (xs : List Int) (k : Nat) : Int := numT (tabL (cK xs k) k)
section
variable {xs : List Int} {n : Nat}
theorem gr5' {k : Nat} (h : k ≤ 5) : gr k 6 ≤ 223 := by
  obtain rfl | rfl | rfl | rfl | rfl | rfl : k = 0 ∨ k = 1 ∨ k = 2 ∨ k = 3 ∨ k = 4 ∨ k = 5 := by omega
  all_goals decide
theorem det_tab (hs : Sl xs) (n5 : n ≤ 5) (h : Hd) : den_determinant 7 [encT (tabL xs n)] h = .ok (.int (numT (tabL xs n))) h :=
  v_det (b := 6) (by decide) (by decide) n 7 _ (tab_len xs n) (by omega) (by omega) (tab_ok hs) (Nat.le_trans (gr5' n5) (by decide)) h
theorem v_numof (hs : Sl xs) (n1 : 1 ≤ n) (n5 : n ≤ 5) (hl : xs.length = 2 * n - 1) (h : Hd) : den_number_of [.tup (xs.map D.int)] h = .ok (.int (numT (tabL xs n))) h := by
  have c := cs_ok hs h
  have e1 := v_tabled n1 n5 hl h
  have e2 := det_tab (n := n) hs n5 h
  refine bodyD_ret ?_
  unfold body_number_of
  rw [show startD 1 [.tup (xs.map D.int)] = [some (.tup (xs.map D.int))] from rfl]
  generalize encT (tabL xs n) = T at *
  generalize xs.map D.int = X at *
  simp -implicitDefEqProofs [c, e1, e2]
def cornL (xs : List Int) (n : Nat) : List Int := (List.range n).map fun i => cornN xs (i + 1)
theorem rng_from1 (n : Nat) : rangeItems 1 n = (List.range n).map fun i : Nat => D.int (((i + 1 : Nat)) : Int) := by
  unfold rangeItems
  refine List.map_congr_left fun i _ => ?_
  congr 1
  omega
theorem v_cornersby (hs : Sl xs) (n1 : 1 ≤ n) (n5 : n ≤ 5) (hl : xs.length = 2 * n - 1) (h : Hd) : den_corners_by [.tup (xs.map D.int)] h = .ok (.ref h.length) (h ++ [.lst ((cornL xs n).map D.int)]) := by
  have e3 := v_sizeof (xs.map D.int) h
  rw [List.length_map, hl, show (2 * n - 1 + 1) / 2 = n by omega] at e3
  have lc : lc_corners_by_1 [some (.tup (xs.map D.int)), none] h = .ok (.ref h.length) (h ++ [.lst ((cornL xs n).map D.int)]) := by
    refine e_lcM (h1 := h) (src := ⟨(List.range n).map fun i : Nat => D.int (((i + 1 : Nat)) : Int), []⟩) ?_ ?_
    · have := e_rng2 (f := aCons (cst (.int 1)) (aCons (bin2 dAdd (callD Dz.PL.den_size_of 1 (aCons (vr 0) (aNil))) (cst (.int 1))) (aNil))) (σ := [some (.tup (xs.map D.int)), none]) (h := h) (h1 := h) (i := 1) (j := (n : Int) + 1) (by
        generalize xs.map D.int = X at *
        simp -implicitDefEqProofs [e3]) (by omega)
      rw [this, show ((n : Int) + 1 - 1).toNat = n by omega, rng_from1]
    · unfold cornL
      rw [List.map_map]
      refine lc_mapL (acc := []) (k := fun i => D.int (cornN xs (i + 1))) fun i hi => ⟨_, rfl, rfl, ?_⟩
      have hi := List.mem_range.mp hi
      have c1 := v_cornered (k := i + 1) hl n1 (by omega) h
      have c2 := v_tabled (xs := cK xs (i + 1)) (n := i + 1) (by omega) (by omega) (cK_len hl (by omega) (by omega)) h
      have c3 := det_tab (xs := cK xs (i + 1)) (n := i + 1) (cK_Sl hs n5 hl (by omega) (by omega)) (by omega) h
      unfold cornN
      generalize encT (tabL (cK xs (i + 1)) (i + 1)) = T at *
      generalize (cK xs (i + 1)).map D.int = X1 at *
      generalize xs.map D.int = X at *
      generalize (((i + 1 : Nat)) : Int) = ii at *
      simp -implicitDefEqProofs [wipeD, c1, c2, c3]
  refine bodyD_ret ?_
  unfold body_corners_by
  rw [show startD 2 [.tup (xs.map D.int)] = [some (.tup (xs.map D.int)), none] from rfl]
  simp -implicitDefEqProofs [lc]
theorem v_cornnums (hs : Sl xs) (n1 : 1 ≤ n) (n5 : n ≤ 5) (hl : xs.length = 2 * n - 1) (h : Hd) : den_corner_numbers [.tup (xs.map D.int)] h = .ok (.ref h.length) (h ++ [.lst ((cornL xs n).map D.int)]) := by
  have c := cs_ok hs h
  have e := v_cornersby hs n1 n5 hl h
  exact bodyD_ret (by simp -implicitDefEqProofs [body_corner_numbers, startD, c, e])
def weakL (xs : List Int) (n : Nat) : List Int := ((List.range n).filter fun i => decide (cornN xs (i + 1) = 0)).map fun i : Nat => (i : Int) + 1
theorem lc_filtL {α : Type} {g : List (Nat × List D)} {gt : DenT} {ft : DenB} {fe : Den} {σ0 : Sd} {h : Hd} {p : α → Bool} {k f : α → D} (hg : guardOk g h) : ∀ {l : List α} {acc : List D}, (∀ a ∈ l, ∃ σ1, gt (k a) σ0 h = .ok σ1 h ∧ ft σ1 h = .ok (p a) h ∧ (p a = true → fe σ1 h = .ok (f a) h)) → lcLoop gt ft fe g σ0 (l.map k) acc h = .ok (acc ++ (l.filter p).map f) h
  | [], acc, _ => by
    rw [List.map_nil, lcLoop, if_pos hg]
    simp
  | a :: l, acc, hd => by
    obtain ⟨σ1, e1, e2, e3⟩ := hd a List.mem_cons_self
    rw [List.map_cons, lcLoop, if_pos hg, e1]
    simp only [nox_ok, bind_ok, e2]
    cases hp : p a with
    | true =>
      simp only [if_true, e3 hp, nox_ok, bind_ok]
      rw [lc_filtL hg fun x hx => hd x (List.mem_cons_of_mem _ hx), List.filter_cons, if_pos hp]
      simp
    | false =>
      rw [if_neg (by simp), lc_filtL hg fun x hx => hd x (List.mem_cons_of_mem _ hx), List.filter_cons, if_neg (by simp [hp])]
theorem enum_map {α : Type} (f : α → D) (l : List α) : enumUp (l.map f) = (List.range l.length).map fun i : Nat => D.tup [.int (i : Int), (l.map f).getD i .non] := by
  unfold enumUp
  rw [List.length_map]
  have : ∀ (l : List D) (lo : Int), pairUp (rangeItems lo l.length) l = (List.range l.length).map fun i : Nat => D.tup [.int (lo + (i : Int)), l.getD i .non] := by
    intro l
    induction l with
    | nil => intro lo; rfl
    | cons x l ih =>
      intro lo
      rw [List.length_cons, range_cons, List.range_succ_eq_map, List.map_cons, List.map_map]
      show D.tup [.int lo, x] :: pairUp (rangeItems (lo + 1) l.length) l = _
      rw [ih]
      congr 1
      · simp
      · refine List.map_congr_left fun i _ => ?_
        show D.tup [.int (lo + 1 + (i : Int)), l.getD i .non] = D.tup [.int (lo + ((i + 1 : Nat) : Int)), l.getD i .non]
        congr 2
        congr 1
        omega
  have := this (l.map f) 0
  rw [List.length_map] at this
  rw [this]
  refine List.map_congr_left fun i _ => ?_
  rw [Int.zero_add]
theorem v_weak (hs : Sl xs) (n1 : 1 ≤ n) (n5 : n ≤ 5) (hl : xs.length = 2 * n - 1) (h : Hd) : den_weak_sizes [.tup (xs.map D.int)] h = .ok (.ref (h.length + 1)) (h ++ [.lst ((cornL xs n).map D.int)] ++ [.lst ((weakL xs n).map D.int)]) := by
  have c := cs_ok hs h
  have e := v_cornersby hs n1 n5 hl h
  have at0 : (h ++ [Ob.lst ((cornL xs n).map D.int)])[h.length]? = some (.lst ((cornL xs n).map D.int)) := snoc_at _ _
  have lcn : (cornL xs n).length = n := by simp [cornL]
  have lc : lc_weak_sizes_1 [some (.tup (xs.map D.int)), none, none] h = .ok (.ref (h ++ [Ob.lst ((cornL xs n).map D.int)]).length) (h ++ [.lst ((cornL xs n).map D.int)] ++ [.lst ((weakL xs n).map D.int)]) := by
    refine e_lcM (h1 := h ++ [.lst ((cornL xs n).map D.int)]) (src := ⟨enumUp ((cornL xs n).map D.int), [(h.length, (cornL xs n).map D.int)]⟩) ?_ ?_
    · unfold enumI
      have sr : srcOf (.ref h.length) (h ++ [Ob.lst ((cornL xs n).map D.int)]) = some ⟨(cornL xs n).map D.int, [(h.length, (cornL xs n).map D.int)]⟩ := by
        unfold srcOf
        dsimp only
        rw [at0]
      have ea : aCons (callD den_corners_by 1 (aCons (vr 0) (aNil))) (aNil) [some (.tup (xs.map D.int)), none, none] h = .ok [.ref h.length] (h ++ [Ob.lst ((cornL xs n).map D.int)]) := by
        generalize (cornL xs n).map D.int = L at *
        generalize xs.map D.int = X at *
        simp -implicitDefEqProofs [e]
      rw [ea]
      show (match srcOf (.ref h.length) (h ++ [Ob.lst ((cornL xs n).map D.int)]) with | some s => if notStr (.ref h.length) = true then Out.ok (⟨enumUp s.items, s.guard⟩ : Src) (h ++ [Ob.lst ((cornL xs n).map D.int)]) else .stuck | none => .stuck) = _
      rw [sr]
      rfl
    · dsimp only
      rw [enum_map, lcn]
      unfold weakL
      rw [List.map_map]
      refine lc_filtL (acc := []) (p := fun i => decide (cornN xs (i + 1) = 0)) (guard_one at0) fun i hi => ?_
      have hi := List.mem_range.mp hi
      have gi : ((cornL xs n).map D.int).getD i .non = .int (cornN xs (i + 1)) := by
        unfold cornL
        rw [List.map_map, List.getD, List.getElem?_map, List.getElem?_range hi]
        rfl
      rw [gi]
      refine ⟨[some (.tup (xs.map D.int)), some (.int (i : Int)), some (.int (cornN xs (i + 1)))], by simp [tupT, seqOf, tsCons, tsNil, wipeD], ?_, fun _ => ?_⟩
      · by_cases hz : cornN xs (i + 1) = 0
        · rw [hz]
          simp -implicitDefEqProofs []
        · simp -implicitDefEqProofs [hz]
      · simp -implicitDefEqProofs []
  rw [List.length_append] at lc
  refine bodyD_ret ?_
  unfold body_weak_sizes
  rw [show startD 3 [.tup (xs.map D.int)] = [some (.tup (xs.map D.int)), none, none] from rfl]
  generalize (weakL xs n).map D.int = L2 at *
  generalize (cornL xs n).map D.int = L at *
  generalize xs.map D.int = X at *
  simp -implicitDefEqProofs [c, lc, -List.append_assoc]
end
end Dz.PE

namespace Dz.PH
open PySem PySem.Spec PyProof.Rows L2 Dz Dz.PL Dz.PN Dz.PR Dz.PF Dz.PD Dz.PG
noncomputable def body_share_table : DenS := seqS (exS (callD Dz.PL.den_check_slants 1 (aCons (vr 0) (aNil)))) (retS (callD Dz.PL.den_share_by 1 (aCons (vr 0) (aNil))))
noncomputable def den_share_table : FDen := bodyD 1 body_share_table
noncomputable def lc_backs_by_1 : Den := lcD (enumI (aCons (callD Dz.PL.den_tabled 1 (aCons (vr 0) (aNil))) (aNil))) (tupT 2 (tsCons (setT 5) (tsCons (setT 6) (tsNil)))) (yesB) (bin2 dAdd (callD Dz.PL.den_whole_row 1 (aCons (vr 6) (aNil))) (callD Dz.PL.den_unit_row 2 (aCons (vr 1) (aCons (vr 5) (aNil))))) [5, 6]
noncomputable def lc_backs_by_2 : Den := lcD (seqI (slD mkL (vr 3) (oNone) (oSome (vr 1)))) (setT 7) (yesB) (bin2 dIx (vr 7) (bin2 dAdd (vr 1) (vr 5))) [7]
noncomputable def lc_backs_by_3 : Den := lcD (rng1 (aCons (vr 1) (aNil))) (setT 5) (yesB) (callP (tupleD) (aCons (lc_backs_by_2) (aNil))) [5]
noncomputable def body_backs_by : DenS := seqS (setS 1 (callD Dz.PL.den_size_of 1 (aCons (vr 0) (aNil)))) (seqS (setS 2 (lc_backs_by_1)) (seqS (asgS (callD Dz.PR.den_lined 1 (aCons (vr 2) (aNil))) (tupT 2 (tsCons (setT 3) (tsCons (setT 4) (tsNil))))) (retS (lc_backs_by_3))))
noncomputable def den_backs_by : FDen := bodyD 8 body_backs_by
noncomputable def body_columns_of : DenS := seqS (exS (callD Dz.PL.den_check_slants 1 (aCons (vr 0) (aNil)))) (seqS (ifS (notB (asB (callD Dz.PF.den_full_by 1 (aCons (vr 0) (aNil))))) (raiseS "NotFull") (nxS)) (retS (callD Dz.PH.den_backs_by 1 (aCons (vr 0) (aNil)))))
noncomputable def den_columns_of : FDen := bodyD 1 body_columns_of
noncomputable def lc_back_of_1 : Den := lcD (seqI (vr 1)) (setT 3) (yesB) (bin2 dIx (vr 3) (vr 2)) [3]
noncomputable def lc_back_of_2 : Den := lcD (rng1 (aCons (callP lenD (aCons (vr 1) (aNil))) (aNil))) (setT 2) (yesB) (callP (tupleD) (aCons (lc_back_of_1) (aNil))) [2]
noncomputable def body_back_of : DenS := seqS (setS 1 (callD Dz.PH.den_columns_of 1 (aCons (vr 0) (aNil)))) (retS (callP (tupleD) (aCons (lc_back_of_2) (aNil))))
noncomputable def den_back_of : FDen := bodyD 4 body_back_of
noncomputable def body_two_rows : DenS := seqS (setS 1 (callD Dz.PH.den_columns_of 1 (aCons (vr 0) (aNil)))) (retS (tupD (aCons (bin2 dIx (vr 1) (cst (.int 0))) (aCons (bin2 dIx (vr 1) (un1 dNeg (cst (.int 1)))) (aNil)))))
noncomputable def den_two_rows : FDen := bodyD 2 body_two_rows
/-! ### backs -/
theorem flat_append {a b : Hd} (ha : FlatH a) (hb : FlatH b) : FlatH (a ++ b) := fun o ho => (List.mem_append.mp ho).elim (ha o) (hb o)
theorem pen_append {i : Nat} {h : Hd} (p : PenAt i h) (g : Hd) : PenAt i (h ++ g) := by
  obtain ⟨xs, e, v⟩ := p
  exact ⟨xs, by rw [List.getElem?_append_left (List.getElem?_eq_some_iff.mp e).1]; exact e, v⟩
def colB (t : List (List Int)) (m c : Nat) : List Rat := (List.range m).map fun i => entQ t i c
def colsB (t : List (List Int)) (m : Nat) : List (List Rat) := (List.range m).map (colB t m)
theorem enum_gen {α : Type} {f : α → D} {l : List α} {fa : DenA} {σ : Sd} {h h1 : Hd} (e : fa σ h = .ok [.lst (l.map f)] h1) : enumI fa σ h = .ok ⟨(List.range l.length).map fun i : Nat => D.tup [.int (i : Int), (l.map f).getD i .non], []⟩ h1 := by
  unfold enumI
  rw [e]
  simp only [bind_ok, srcOf, notStr, if_true]
  rw [PE.enum_map]
section
variable {xs : List Int} {n : Nat}
theorem v_sharetable (hs : Sl xs) (n1 : 1 ≤ n) (n5 : n ≤ 5) (hl : xs.length = 2 * n - 1) (h : Hd) : den_share_table [.tup (xs.map D.int)] h = .ok (encMt (tabS (tabL xs n))) h := by
  have c := cs_ok hs h
  have e := v_shareby n1 n5 hl h
  exact bodyD_ret (by simp -implicitDefEqProofs [body_share_table, startD, c, e])
theorem tab_sq (xs : List Int) (n : Nat) : SqR n (tabL xs n) := ⟨tab_len xs n, fun k hk => tab_rows (getD_in (by rw [tab_len]; exact hk))⟩
theorem tab_bl (hs : Sl xs) : ∀ r ∈ tabL xs n, bl 6 r := fun r hr => (PE.tab_ok hs r hr).2
theorem v_backsby (hs : Sl xs) (n1 : 1 ≤ n) (n5 : n ≤ 5) (hl : xs.length = 2 * n - 1) (h0 : numT (tabL xs n) ≠ 0) (h : Hd) : den_backs_by [.tup (xs.map D.int)] h = .ok (.lst ((colsB (tabL xs n) n).map encR)) h := by
  have e3 := v_sizeof (xs.map D.int) h
  rw [List.length_map, hl, show (2 * n - 1 + 1) / 2 = n by omega] at e3
  have et := v_tabled n1 n5 hl h
  have ai := aug_inv (tab_sq xs n) (tab_bl (n := n) hs)
  obtain ⟨R, eR, lR, hR⟩ := aug_back (tab_sq xs n) (tab_bl (n := n) hs) h0
  have e2 := v_lined ai n1 (by omega) (by omega) (Nat.le_trans (PE.gr5' n5) (by decide)) (by decide) h
  rw [eR] at e2
  have lc1 : ∀ x2 x3 x4 x5 x6 x7, lc_backs_by_1 [some (.tup (xs.map D.int)), some (.int (n : Int)), x2, x3, x4, x5, x6, x7] h = .ok (.lst ((augM (tabL xs n) n).map encR)) h := fun x2 x3 x4 x5 x6 x7 => by
    refine e_lcD (h1 := h) (enum_gen (f := fun r : List Int => D.lst (r.map D.int)) (l := tabL xs n) (h1 := h) (by
      unfold encT at et
      generalize (tabL xs n).map (fun r : List Int => D.lst (r.map D.int)) = L at *
      generalize xs.map D.int = X at *
      simp -implicitDefEqProofs [et])) ?_
    dsimp only
    rw [tab_len]
    unfold augM
    rw [List.map_map]
    refine lc_mapL (acc := []) fun i hi => ?_
    have hi := List.mem_range.mp hi
    have gi : ((tabL xs n).map fun r : List Int => D.lst (r.map D.int)).getD i .non = .lst (((tabL xs n).getD i []).map D.int) := by
      rw [List.getD, List.getElem?_map, List.getD, List.getElem?_eq_getElem (by rw [tab_len]; exact hi)]
      rfl
    rw [gi]
    have ew := v_wholerowL ((tabL xs n).getD i []) h
    have eu := v_unitrow n i (by omega) h
    have ad := addR (r := cqs ((tabL xs n).getD i [])) (s := unitR n i) (by
      rw [unitR_len, cqs, List.length_map, (tab_sq xs n).2 i hi]
      omega) h
    refine ⟨[some (.tup (xs.map D.int)), some (.int (n : Int)), x2, x3, x4, some (.int (i : Int)), some (.lst (((tabL xs n).getD i []).map D.int)), x7], by simp [tupT, seqOf, tsCons, tsNil, wipeD], rfl, ?_⟩
    show _ = Out.ok (encR (cqs ((tabL xs n).getD i []) ++ unitR n i)) h
    generalize encR (cqs ((tabL xs n).getD i []) ++ unitR n i) = Z at *
    generalize encR (cqs ((tabL xs n).getD i [])) = Y at *
    generalize encR (unitR n i) = U at *
    generalize ((tabL xs n).getD i []).map D.int = V at *
    generalize xs.map D.int = X at *
    simp -implicitDefEqProofs [ew, eu, ad]
  have rowAt : ∀ c, c < n → R.map (fun r => r.getD (n + c) 0) = colB (tabL xs n) n c := fun c hc => by
    unfold colB
    apply List.ext_getElem?
    intro i
    rw [List.getElem?_map, List.getElem?_map]
    by_cases ci : i < n
    · rw [List.getElem?_eq_getElem (by omega), List.getElem?_range ci]
      have := (hR i ci).2 c hc
      have gi : R.getD i [] = R[i]'(by omega) := by rw [List.getD, List.getElem?_eq_getElem (by omega)]; rfl
      rw [gi] at this
      exact congrArg some this
    · rw [List.getElem?_eq_none (by omega), List.getElem?_eq_none (by simpa using ci)]
      rfl
  have lc2 : ∀ c, c < n → ∀ x2 x4 x6 x7, lc_backs_by_2 [some (.tup (xs.map D.int)), some (.int (n : Int)), x2, some (.lst (R.map encR)), x4, some (.int (c : Int)), x6, x7] h = .ok (.lst ((colB (tabL xs n) n c).map encQ)) h := fun c hc x2 x4 x6 x7 => by
    rw [← rowAt c hc, List.map_map]
    refine lcD_seq (l := R) (g := encR) (by
      have tk : (R.map encR).take n = R.map encR := List.take_of_length_le (by rw [List.length_map, lR]; exact Nat.le_refl _)
      have cu := cut_to (R.map encR) n
      rw [tk] at cu
      generalize R.map encR = RR at *
      simp -implicitDefEqProofs [x_seqI, cu, kSeq_lst]) fun r hr => ?_
    obtain ⟨i, hi, rfl⟩ := List.getElem_of_mem hr
    have hl2 : (R[i]).length = n + n := by
      have q := (hR i (by omega)).1
      rw [List.getD, List.getElem?_eq_getElem hi] at q
      exact q
    have ix := ixr (r := R[i]) (j := n + c) (by rw [hl2]; omega) h
    rw [show ((n + c : Nat) : Int) = (n : Int) + (c : Int) by omega] at ix
    show _ = Out.ok (encQ ((R[i]).getD (n + c) 0)) h
    generalize (R[i]).getD (n + c) 0 = z at *
    simp -implicitDefEqProofs [wipeD, ix]
  have lc3 : ∀ x2 x4 x5 x6 x7, lc_backs_by_3 [some (.tup (xs.map D.int)), some (.int (n : Int)), x2, some (.lst (R.map encR)), x4, x5, x6, x7] h = .ok (.lst ((colsB (tabL xs n) n).map encR)) h := fun x2 x4 x5 x6 x7 => by
    unfold colsB
    rw [List.map_map]
    refine lcD_rng (by simp -implicitDefEqProofs [x_rng1, kR1_nat n h (by omega)]) fun c hc => ?_
    have e := lc2 c hc x2 x4 x6 x7
    show _ = Out.ok (D.tup ((colB (tabL xs n) n c).map encQ)) h
    generalize (colB (tabL xs n) n c).map encQ = L at *
    simp -implicitDefEqProofs [wipeD, e]
  refine bodyD_ret ?_
  unfold body_backs_by
  rw [show startD 8 [.tup (xs.map D.int)] = [some (.tup (xs.map D.int)), none, none, none, none, none, none, none] from rfl]
  dsimp only at e2
  generalize (colsB (tabL xs n) n).map encR = CC at *
  generalize (augM (tabL xs n) n).map encR = AA at *
  generalize R.map encR = RR at *
  generalize pD (List.range n) = PP at *
  generalize xs.map D.int = X at *
  simp -implicitDefEqProofs [e3, lc1, e2, asgS, tupT, seqOf, tsCons, tsNil, lc3]
theorem v_columns (hs : Sl xs) (n1 : 1 ≤ n) (n5 : n ≤ 5) (hl : xs.length = 2 * n - 1) (h0 : numT (tabL xs n) ≠ 0) (h : Hd) : ∃ g, FlatH g ∧ den_columns_of [.tup (xs.map D.int)] h = .ok (.lst ((colsB (tabL xs n) n).map encR)) (h ++ g) := by
  obtain ⟨g, fg, e⟩ := v_fullbyF hs n1 n5 hl h
  rw [decide_eq_true ((full_num hs).mpr h0)] at e
  have c := cs_ok hs h
  have b := v_backsby hs n1 n5 hl h0 (h ++ g)
  refine ⟨g, fg, bodyD_ret ?_⟩
  unfold body_columns_of
  rw [show startD 1 [.tup (xs.map D.int)] = [some (.tup (xs.map D.int))] from rfl]
  generalize (colsB (tabL xs n) n).map encR = CC at *
  simp -implicitDefEqProofs [c, e, b]
theorem v_columnsN (hs : Sl xs) (n1 : 1 ≤ n) (n5 : n ≤ 5) (hl : xs.length = 2 * n - 1) (h0 : numT (tabL xs n) = 0) (h : Hd) : ∃ g, FlatH g ∧ den_columns_of [.tup (xs.map D.int)] h = .exc ⟨"NotFull", none⟩ (h ++ g) := by
  obtain ⟨g, fg, e⟩ := v_fullbyF hs n1 n5 hl h
  rw [decide_eq_false (fun z => (full_num hs).mp z h0)] at e
  have c := cs_ok hs h
  refine ⟨g, fg, bodyD_exc (σ := [some (.tup (xs.map D.int))]) ?_⟩
  unfold body_columns_of
  rw [show startD 1 [.tup (xs.map D.int)] = [some (.tup (xs.map D.int))] from rfl]
  simp -implicitDefEqProofs [c, e]
theorem colsB_len (t : List (List Int)) (m : Nat) : (colsB t m).length = m := by simp [colsB]
theorem colB_len (t : List (List Int)) (m c : Nat) : (colB t m c).length = m := by simp [colB]
theorem v_backof' (hs : Sl xs) (n1 : 1 ≤ n) (n5 : n ≤ 5) (hl : xs.length = 2 * n - 1) (h0 : numT (tabL xs n) ≠ 0) (h : Hd) : ∃ g, FlatH g ∧ den_back_of [.tup (xs.map D.int)] h = .ok (encMt (backT (tabL xs n))) (h ++ g) := by
  obtain ⟨g, fg, e⟩ := v_columns hs n1 n5 hl h0 h
  refine ⟨g, fg, bodyD_ret ?_⟩
  have bT : backT (tabL xs n) = (List.range n).map fun i => (List.range n).map fun j => entQ (tabL xs n) i j := by unfold backT; rw [tab_len]
  have lc1 : ∀ i, i < n → ∀ x3, lc_back_of_1 [some (.tup (xs.map D.int)), some (.lst ((colsB (tabL xs n) n).map encR)), some (.int (i : Int)), x3] (h ++ g) = .ok (.lst (((List.range n).map fun j => entQ (tabL xs n) i j).map encQ)) (h ++ g) := fun i hi x3 => by
    have : (List.range n).map (fun j => entQ (tabL xs n) i j) = (colsB (tabL xs n) n).map fun c => c.getD i 0 := by
      unfold colsB
      rw [List.map_map]
      refine List.map_congr_left fun j _ => ?_
      show _ = (colB (tabL xs n) n j).getD i 0
      unfold colB
      rw [List.getD, List.getElem?_map, List.getElem?_range hi]
      rfl
    rw [this, List.map_map]
    refine lcD_seq (l := colsB (tabL xs n) n) (g := encR) (by
      generalize (colsB (tabL xs n) n).map encR = CC at *
      simp -implicitDefEqProofs [x_seqI, kSeq_lst]) fun c hc => ?_
    obtain ⟨j, _, rfl⟩ := List.mem_map.mp hc
    have ix := ixr (r := colB (tabL xs n) n j) (j := i) (by rw [colB_len]; exact hi) (h ++ g)
    show _ = Out.ok (encQ ((colB (tabL xs n) n j).getD i 0)) (h ++ g)
    generalize (colB (tabL xs n) n j).getD i 0 = z at *
    simp -implicitDefEqProofs [wipeD, ix]
  have lc2 : ∀ x2 x3, lc_back_of_2 [some (.tup (xs.map D.int)), some (.lst ((colsB (tabL xs n) n).map encR)), x2, x3] (h ++ g) = .ok (.lst ((backT (tabL xs n)).map encR)) (h ++ g) := fun x2 x3 => by
    rw [bT, List.map_map]
    have ln : lenD [.lst ((colsB (tabL xs n) n).map encR)] (h ++ g) = some (.int (n : Int), h ++ g) := by rw [p_lenl, List.length_map, colsB_len]
    refine lcD_rng (n := n) (by
      generalize (colsB (tabL xs n) n).map encR = CC at *
      simp -implicitDefEqProofs [x_rng1, ln, kR1_nat n (h ++ g) (by omega)]) fun i hi => ?_
    have e := lc1 i hi x3
    show _ = Out.ok (D.tup (((List.range n).map fun j => entQ (tabL xs n) i j).map encQ)) (h ++ g)
    generalize ((List.range n).map fun j => entQ (tabL xs n) i j).map encQ = L at *
    simp -implicitDefEqProofs [wipeD, e]
  unfold body_back_of encMt
  rw [show startD 4 [.tup (xs.map D.int)] = [some (.tup (xs.map D.int)), none, none, none] from rfl]
  generalize (backT (tabL xs n)).map encR = BB at *
  generalize (colsB (tabL xs n) n).map encR = CC at *
  generalize xs.map D.int = X at *
  simp -implicitDefEqProofs [e, lc2]
theorem v_tworows (hs : Sl xs) (n1 : 1 ≤ n) (n5 : n ≤ 5) (hl : xs.length = 2 * n - 1) (h0 : numT (tabL xs n) ≠ 0) (h : Hd) : ∃ g, FlatH g ∧ den_two_rows [.tup (xs.map D.int)] h = .ok (.tup [encR (colB (tabL xs n) n 0), encR (colB (tabL xs n) n (n - 1))]) (h ++ g) := by
  obtain ⟨g, fg, e⟩ := v_columns hs n1 n5 hl h0 h
  refine ⟨g, fg, bodyD_ret ?_⟩
  have i0 : dIx (.lst ((colsB (tabL xs n) n).map encR)) (.int 0) (h ++ g) = some (encR (colB (tabL xs n) n 0), h ++ g) := by
    refine p_ixl _ 0 _ (at_nat (n := 0) ?_)
    unfold colsB
    rw [List.getElem?_map, List.getElem?_map, List.getElem?_range (by omega)]
    rfl
  have i9 : dIx (.lst ((colsB (tabL xs n) n).map encR)) (.int (-1)) (h ++ g) = some (encR (colB (tabL xs n) n (n - 1)), h ++ g) := by
    refine p_ixl _ (-1) _ (atI_last ?_)
    rw [List.length_map, colsB_len]
    unfold colsB
    rw [List.getElem?_map, List.getElem?_map, List.getElem?_range (by omega)]
    rfl
  unfold body_two_rows
  rw [show startD 2 [.tup (xs.map D.int)] = [some (.tup (xs.map D.int)), none] from rfl]
  generalize (colsB (tabL xs n) n).map encR = CC at *
  generalize xs.map D.int = X at *
  simp -implicitDefEqProofs [e, i0, p_neg1, i9]
end
end Dz.PH

namespace Dz.PB
open PySem PySem.Spec PyProof.Rows L2 Dz Dz.PL
theorem v_ldot2 {x y w : Rat} {a b c : Nat} (hx : Qs a x) (hy : Qs b y) (hw : Qs c w) (hl : a + b + c + 1 ≤ 8000) (h : Hd) : den__law_dot [.lst [encQ x, encQ y], .lst [encQ 1, encQ w]] h = .ok (encQ (x + y * w)) h := by
  have dx : (x.den : Int).natAbs < 2 ^ a := by rw [Int.natAbs_natCast]; exact hx.2
  have dy : (y.den : Int).natAbs < 2 ^ b := by rw [Int.natAbs_natCast]; exact hy.2
  have dw : (w.den : Int).natAbs < 2 ^ c := by rw [Int.natAbs_natCast]; exact hw.2
  have n1 : (x.den : Int) * (y.den : Int) * (w.den : Int) ≠ 0 := by
    rw [Int.mul_assoc]
    have := den_pos x
    exact Int.mul_ne_zero (by omega) (dd_ne y w)
  have q2 : (x.num * (y.den : Int)).natAbs < 2 ^ (a + b) := by rw [Int.natAbs_mul]; exact pow_add2 hx.1 dy
  have q3 : (y.num * w.num).natAbs < 2 ^ (b + c) := by rw [Int.natAbs_mul]; exact pow_add2 hy.1 hw.1
  have q5 : ((x.den : Int) * (y.den : Int)).natAbs < 2 ^ (a + b) := by rw [Int.natAbs_mul]; exact pow_add2 dx dy
  have q6 : ((x.den : Int) * (y.den : Int) * (w.den : Int)).natAbs < 2 ^ (a + b + c) := by rw [Int.natAbs_mul]; exact pow_add2 q5 dw
  have m1 : mulOk x.num (y.den : Int) := mulOk_pow hx.1 dy (by omega)
  have m2 : mulOk (x.num * (y.den : Int)) (w.den : Int) := mulOk_pow q2 dw (by omega)
  have m3 : mulOk y.num w.num := mulOk_pow hy.1 hw.1 (by omega)
  have m4 : mulOk (y.num * w.num) (x.den : Int) := mulOk_pow q3 dx (by omega)
  have m5 : mulOk (x.den : Int) (y.den : Int) := mulOk_pow dx dy (by omega)
  have m6 : mulOk ((x.den : Int) * (y.den : Int)) (w.den : Int) := mulOk_pow q5 dw (by omega)
  have k1 : mulOk 0 (x.den : Int) := mulOk_pow (a := 0) (by decide) dx (by omega)
  have k2 : mulOk 0 1 := by decide
  have k3 : mulOk x.num 1 := mulOk_pow (b := 1) hx.1 (by decide) (by omega)
  have k4 : mulOk 1 (x.den : Int) := mulOk_pow (a := 1) (by decide) dx (by omega)
  have k5 : mulOk (x.den : Int) 1 := mulOk_pow (b := 1) dx (by decide) (by omega)
  have sh := v_lshare (t := x.num * (y.den : Int) * (w.den : Int) + y.num * w.num * (x.den : Int)) n1 (lt_up q6 (by omega)) h
  rw [dot_top _ _ y w (show (x.den : Int) ≠ 0 by have := den_pos x; omega), show Rat.divInt x.num (x.den : Int) = x by exact Rat.num_divInt_den x] at sh
  have o1 : (1 : Rat).num = 1 := rfl
  have o2 : (((1 : Rat).den : Nat) : Int) = 1 := rfl
  have zl : zipI (aCons (vr 0) (aCons (vr 1) (aNil))) [some (.lst [encQ x, encQ y]), some (.lst [encQ 1, encQ w]), some (.int 0), some (.int 1), none, none] h = .ok ⟨[.tup [encQ x, encQ 1], .tup [encQ y, encQ w]], []⟩ h := rfl
  refine bodyD_ret ?_
  unfold body__law_dot
  rw [show startD 6 [.lst [encQ x, encQ y], .lst [encQ 1, encQ w]] = [some (.lst [encQ x, encQ y]), some (.lst [encQ 1, encQ w]), none, none, none, none] from rfl]
  simp -implicitDefEqProofs [x_forS, zl, for_consE, for_nilE, tupT, seqOf, tsCons, tsNil, i_top, i_bot, o1, o2, p_muli, k1, k2, k3, k4, k5, m1, m2, m3, m4, m5, m6, sh]
end Dz.PB

namespace Dz.PB
open PySem PySem.Spec PyProof.Rows L2 Dz Dz.PL
noncomputable def lc__law_unit_1 : Den := lcD (rng1 (aCons (vr 0) (aNil))) (setT 2) (yesB) (tupD (aCons (callP (intD) (aCons (bin2 dEq (vr 2) (vr 1)) (aNil))) (aCons (cst (.int 1)) (aNil)))) [2]
noncomputable def body__law_unit : DenS := retS (callP (tupleD) (aCons (lc__law_unit_1) (aNil)))
noncomputable def den__law_unit : FDen := bodyD 3 body__law_unit
noncomputable def body__law_bent_slants : DenS := seqS (setS 2 (callD Dz.PL.den__law_draw 2 (aCons (vr 0) (aCons (callP lenD (aCons (vr 1) (aNil))) (aNil))))) (seqS (setS 3 (bin2 dIx (lstD (aCons (cst (.int 51)) (aCons (un1 dNeg (cst (.int 51))) (aCons (cst (.bl true)) (aCons (cst .non) (aCons (cst (.str "0")) (aCons (tupD (aCons (cst (.int 0)) (aNil))) (aCons (bin2 dPow (cst (.int 10)) (cst (.int 30))) (aCons (lstD (aCons (cst (.int 0)) (aNil))) (aNil)))))))))) (callD Dz.PL.den__law_draw 2 (aCons (vr 0) (aCons (cst (.int 8)) (aNil)))))) (seqS (setS 4 (lstD (aCons (bin2 dAdd (bin2 dAdd (slD mkL (vr 1) (oNone) (oSome (vr 2))) (tupD (aCons (vr 3) (aNil)))) (slD mkL (vr 1) (oSome (bin2 dAdd (vr 2) (cst (.int 1)))) (oNone))) (aCons (bin2 dAdd (vr 1) (tupD (aCons (cst (.int 0)) (aNil)))) (aCons (slD mkL (vr 1) (oSome (cst (.int 1))) (oNone)) (aCons (callP (listD mkL) (aCons (vr 1) (aNil))) (aCons (tupD (aCons (vr 1) (aNil))) (aCons (tupD (aNil)) (aCons (cst .non) (aNil)))))))))) (retS (bin2 dIx (bin2 dAdd (vr 4) (lstD (aCons (cst (.int 0)) (aCons (cst (.str "")) (aCons (dctD) (aCons (bin2 dMul (tupD (aCons (cst (.int 0)) (aNil))) (cst (.int 11))) (aCons (bin2 dMul (tupD (aCons (cst (.int 1)) (aNil))) (cst (.int 10))) (aNil)))))))) (callD Dz.PL.den__law_draw 2 (aCons (vr 0) (aCons (cst (.int 12)) (aNil))))))))
noncomputable def den__law_bent_slants : FDen := bodyD 5 body__law_bent_slants
noncomputable def body__law_made : DenS := retS (callP (tupleD) (aCons (lcD (seqI (vr 0)) (setT 2) (yesB) (callD Dz.PB.den__law_dot 2 (aCons (lcD (seqI (vr 2)) (setT 3) (yesB) (tupD (aCons (vr 3) (aCons (cst (.int 1)) (aNil)))) [3]) (aCons (vr 1) (aNil)))) [2]) (aNil)))
noncomputable def den__law_made : FDen := bodyD 4 body__law_made
theorem v_lunit (n p : Nat) (hn : n ≤ 1000000) (h : Hd) : den__law_unit [.int (n : Int), .int (p : Int)] h = .ok (encR (unitR n p)) h := by
  have e : lc__law_unit_1 [some (.int (n : Int)), some (.int (p : Int)), none] h = .ok (.lst ((unitR n p).map encQ)) h := unit_den n p hn h rfl
  refine bodyD_ret ?_
  unfold body__law_unit encR
  generalize (unitR n p).map encQ = L at *
  simp -implicitDefEqProofs [startD, e]
theorem v_ldotG {d1 d2 : D} {xs ys : List Rat} {a b : Nat} (hx : ∀ q ∈ xs, Qs a q) (hy : ∀ q ∈ ys, Qs b q) (hl : 1 + (xs.length + 1) * (a + b + 1) ≤ 8000) (h : Hd) (hz : ∀ x2 x3 x4 x5, zipI (aCons (vr 0) (aCons (vr 1) (aNil))) [some d1, some d2, x2, x3, x4, x5] h = .ok ⟨pairUp (xs.map encQ) (ys.map encQ), []⟩ h) : den__law_dot [d1, d2] h = .ok (encQ (dotQ xs ys)) h := by
  have mem : ∀ p ∈ xs.zip ys, Qs a p.1 ∧ Qs b p.2 := fun p hp => ⟨hx _ (List.of_mem_zip hp).1, hy _ (List.of_mem_zip hp).2⟩
  obtain ⟨t', m', y4, y5, e, r1, r2, r3⟩ := ld_loop (h := h) (x0 := some d1) (x1 := some d2) (xs.zip ys) 0 1 1 none none (by decide) (by decide) (by decide) mem (by
    have : (xs.zip ys).length ≤ xs.length := by rw [List.length_zip]; omega
    have := Nat.mul_le_mul_right (a + b + 1) (Nat.succ_le_succ this)
    simp only [Nat.succ_eq_add_one] at this
    omega)
  have z : Rat.divInt 0 1 = 0 := by decide +kernel
  rw [z] at r3
  have sh := v_lshare (t := t') r1 r2 h
  rw [r3] at sh
  change den__law_share _ _ = .ok (encQ (dotQ xs ys)) h at sh
  have hz' := hz (some (.int 0)) (some (.int 1)) none none
  rw [pair_map] at hz'
  refine bodyD_ret ?_
  unfold body__law_dot
  rw [show startD 6 [d1, d2] = [some d1, some d2, none, none, none, none] from rfl]
  generalize (xs.zip ys).map (fun p => D.tup [encQ p.1, encQ p.2]) = L at *
  simp -implicitDefEqProofs [x_forS, hz', e, sh]
theorem v_ldotLT {xs ys : List Rat} {a b : Nat} (hx : ∀ q ∈ xs, Qs a q) (hy : ∀ q ∈ ys, Qs b q) (hl : 1 + (xs.length + 1) * (a + b + 1) ≤ 8000) (h : Hd) : den__law_dot [.lst (xs.map encQ), encR ys] h = .ok (encQ (dotQ xs ys)) h :=
  v_ldotG hx hy hl h fun x2 x3 x4 x5 => by
    unfold encR
    generalize xs.map encQ = A
    generalize ys.map encQ = B
    rfl
theorem v_ldotTT {xs ys : List Rat} {a b : Nat} (hx : ∀ q ∈ xs, Qs a q) (hy : ∀ q ∈ ys, Qs b q) (hl : 1 + (xs.length + 1) * (a + b + 1) ≤ 8000) (h : Hd) : den__law_dot [encR xs, encR ys] h = .ok (encQ (dotQ xs ys)) h :=
  v_ldotG hx hy hl h fun x2 x3 x4 x5 => by
    unfold encR
    generalize xs.map encQ = A
    generalize ys.map encQ = B
    rfl
theorem v_ldotLL {xs ys : List Rat} {a b : Nat} (hx : ∀ q ∈ xs, Qs a q) (hy : ∀ q ∈ ys, Qs b q) (hl : 1 + (xs.length + 1) * (a + b + 1) ≤ 8000) (h : Hd) : den__law_dot [.lst (xs.map encQ), .lst (ys.map encQ)] h = .ok (encQ (dotQ xs ys)) h :=
  v_ldotG hx hy hl h fun x2 x3 x4 x5 => by
    generalize xs.map encQ = A
    generalize ys.map encQ = B
    rfl
theorem v_lmadeT {xs : List Int} {n B : Nat} {qs : List Rat} (n5 : n ≤ 5) (hb : ∀ x ∈ xs, -50 ≤ x ∧ x ≤ 50) (qq : ∀ q ∈ qs, Qs B q) (hB : B ≤ 600) (h : Hd) : den__law_made [encT (tabL xs n), encR qs] h = .ok (encR (mkQ xs n qs)) h := by
  have inner : ∀ (l : List Int) (x0 x1 x3 : Option D), lcD (seqI (vr 2)) (setT 3) (yesB) (tupD (aCons (vr 3) (aCons (cst (.int 1)) (aNil)))) [3] [x0, x1, some (.lst (l.map D.int)), x3] h = .ok (.lst ((cqs l).map encQ)) h := fun l x0 x1 x3 => by
    unfold cqs
    rw [List.map_map]
    exact lcD_seq (l := l) (g := D.int) (by simp -implicitDefEqProofs [x_seqI, kSeq_lst]) fun i _ => by simp -implicitDefEqProofs [wipeD, enc_int]
  have outer : lcD (seqI (vr 0)) (setT 2) (yesB) (callD Dz.PB.den__law_dot 2 (aCons (lcD (seqI (vr 2)) (setT 3) (yesB) (tupD (aCons (vr 3) (aCons (cst (.int 1)) (aNil)))) [3]) (aCons (vr 1) (aNil)))) [2] [some (encT (tabL xs n)), some (encR qs), none, none] h = .ok (.lst ((mkQ xs n qs).map encQ)) h := by
    unfold mkQ
    rw [List.map_map]
    refine lcD_seq (l := tabL xs n) (g := fun r => D.lst (r.map D.int)) (by simp -implicitDefEqProofs [x_seqI, encT, kSeq_lst]) fun l hl => ?_
    have dd := v_ldotLT (cq_qs (tab_mem hb hl)) qq (by
      have l1 : (cqs l).length = n := by rw [cqs, List.length_map]; exact tab_rows hl
      have := Nat.mul_le_mul (show (cqs l).length + 1 ≤ 6 by omega) (show 6 + B + 1 ≤ 607 by omega)
      omega) h
    have e := inner l (some (encT (tabL xs n))) (some (encR qs)) none
    generalize (cqs l).map encQ = L at *
    simp -implicitDefEqProofs [wipeD, e, dd]
  refine bodyD_ret ?_
  unfold body__law_made
  rw [show startD 4 [encT (tabL xs n), encR qs] = [some (encT (tabL xs n)), some (encR qs), none, none] from rfl]
  unfold encR at *
  generalize (mkQ xs n qs).map encQ = L at *
  simp -implicitDefEqProofs [outer]
theorem v_bentslants {i : Nat} {h : Hd} {xs : List Int} (p : PenAt i h) (hs : Sl xs) : ∃ d h', den__law_bent_slants [.ref i, .tup (xs.map D.int)] h = .ok d h' ∧ PlX d ∧ PenStep i h h' := by
  obtain ⟨⟨m, l1, l5, lm⟩, _⟩ := id hs
  have hlx : xs.length ≤ 9 := by omega
  obtain ⟨r1, h1, e1, b1, s1⟩ := v_drawN p xs.length (M := (xs.length : Int)) (by omega) (by omega)
  have p1 := s1.at p
  obtain ⟨r2, h2, e2, b2, s2⟩ := v_drawN p1 8 (by decide) (by decide) (M := 8)
  have p2 := s2.at p1
  obtain ⟨r3, h3, e3, b3, s3⟩ := v_drawN p2 12 (by decide) (by decide) (M := 12)
  have pw : powOk 10 30 := by decide
  have m11 : ∀ hh, dMul (.tup [.int 0]) (.int 11) hh = some (.tup (List.replicate 11 (.int 0)), hh) := fun hh => p_mult hh mkL _ _ (by simp)
  have m10 : ∀ hh, dMul (.tup [.int 1]) (.int 10) hh = some (.tup (List.replicate 10 (.int 1)), hh) := fun hh => p_mult hh mkL _ _ (by simp)
  have px := pl_map xs
  generalize hX : xs.map D.int = X at px
  have lX : X.length = xs.length := by rw [← hX, List.length_map]
  have lX9 : X.length ≤ 9 := by omega
  generalize hR11 : List.replicate 11 (D.int 0) = R11 at m11
  generalize hR10 : List.replicate 10 (D.int 1) = R10 at m10
  refine ⟨?d, h3, bodyD_ret ?e, ?f, s1.trans (s2.trans s3)⟩
  case e =>
    unfold body__law_bent_slants
    rw [show startD 5 [.ref i, .tup X] = [some (.ref i), some (.tup X), none, none, none] from rfl]
    simp -implicitDefEqProofs [lX, e1, e2, e3, p_powi, pw, ixmN, b2, b3, p_addl, p_addt, dAddL, m11, m10, zb (Nat.le_trans lX9 (by decide : 9 ≤ 100000)), zb (Nat.le_trans hlx (by decide : 9 ≤ 100000)), cut_to, cut_from1, cut_f1, -List.map_take, -List.map_drop]
    rfl
  case f =>
    have ho : PlD (pick [.int 51, .int (-51), .bl true, .non, .str "0", .tup [.int 0], .int 1000000000000000000000000000000, .lst [.int 0]] r2) := pick_all (by simpa using b2) (by
      simp only [List.forall_mem_cons]
      exact ⟨trivial, trivial, trivial, trivial, trivial, trivial, trivial, trivial, fun x hx => absurd hx (by simp)⟩)
    refine pick_all (by simpa using b3) ?_
    simp only [List.forall_mem_cons]
    have up : ∀ {ds : List D}, (∀ x ∈ ds, PlD x) → PlX (.tup ds) := plx_tup
    refine ⟨up fun x hx => ?_, up fun x hx => ?_, up fun x hx => px x (List.mem_of_mem_tail hx), plx_of trivial rfl, up fun x hx => ?_, up fun x hx => absurd hx (by simp), plx_of trivial rfl, plx_of trivial rfl, plx_of trivial rfl, plx_of trivial rfl, up fun x hx => ?_, up fun x hx => ?_, fun x hx => absurd hx (by simp)⟩
    · rcases List.mem_append.mp hx with hx | hx
      · exact px x (List.mem_of_mem_take hx)
      · rcases List.mem_cons.mp hx with rfl | hx
        · exact ho
        · exact px x (List.mem_of_mem_drop hx)
    · rcases List.mem_append.mp hx with hx | hx
      · exact px x hx
      · simp at hx; subst hx; trivial
    · simp at hx; subst hx; trivial
    · rw [← hR11] at hx
      obtain rfl := List.eq_of_mem_replicate hx
      trivial
    · rw [← hR10] at hx
      obtain rfl := List.eq_of_mem_replicate hx
      trivial
theorem tabS_eq (t : List (List Int)) : PB.tabQ t = tabS t := rfl
end Dz.PB

namespace Dz
open PySem PySem.Spec PyProof.Rows L2
/-! ## defs known by another name -/
structure FA (K : PySem.W.Frag) (mg : Str → Option Value) (alias_ name : Str) (st : Stmt) (ps : List Str) : Prop where
  ex : ∃ f fd, L2.Fun K name name st f fd ∧ mg alias_ = some (.ref f) ∧ Binds K fd ps []
section
variable {P : Program} {w : World} {K : PySem.W.Frag} {mg : Str → Option Value} {base : Heap} {k : Nat} {alias_ name : Str} {st : Stmt} {N ps : List Str}
theorem FA.raw {fb : DenS} (F : FA K mg alias_ name st ps) (S : FnScope N ps (defScope st))
    (hbody : ∀ (f : Addr) (cdv : Value) (A : Around) (outer : List Env) (s : Shared) (H : Hp) (E : XK), Ctx P w base (XOf P w K mg base N name st f cdv A outer s H E).A k → L2N.Takes (XOf P w K mg base N name st f cdv A outer s H E) (WOf E) →
      DSs (XOf P w K mg base N name st f cdv A outer s H E) (WOf E) (defBody st) fb) : Fn P w K mg base (k + 1) alias_ ps.length (bodyD N.length fb) := by
  obtain ⟨f, fd, F, hm, hb⟩ := F.ex
  exact ⟨f, fd, ps, fnG_gen F S fun cdv A outer s H E cx => ⟨fb, hbody f cdv A outer s H E cx (L2N.takes_of rfl rfl rfl rfl), fun _ _ _ _ _ _ q => q⟩, hm, F.kp, hb, rfl⟩
theorem FF.con (F : FF K mg name st ps) : Con K mg name (.gl name) := by
  obtain ⟨f, fd, _, hm, _⟩ := F.ex
  exact con_gl hm
theorem FA.con (F : FA K mg alias_ name st ps) : Con K mg alias_ (.gl alias_) := by
  obtain ⟨f, fd, _, hm, _⟩ := F.ex
  exact con_gl hm
end
/-! ## a def out of some, called -/
def selOf (tab : List (Str × FDen)) (d : D) : Option FDen := match d with
  | .gl x => tab.lookup x
  | _ => none
def kSel (n : Nat) (fa : DenA) (σ : Sd) (h1 : Hd) (o : Option FDen) : Out D := match o with
  | some den => (fa σ h1).bind fun ds h2 => if ds.length = n then den ds h2 else .stuck
  | none => .stuck
def kSel0 (tab : List (Str × FDen)) (n : Nat) (fa : DenA) (σ : Sd) (d : D) (h1 : Hd) : Out D := kSel n fa σ h1 (selOf tab d)
@[simp] theorem kSel0_e (tab : List (Str × FDen)) (n : Nat) (fa : DenA) (σ : Sd) (d : D) (h1 : Hd) : kSel0 tab n fa σ d h1 = kSel n fa σ h1 (selOf tab d) := rfl
def callSel (tab : List (Str × FDen)) (n : Nat) (fd : Den) (fa : DenA) : Den := fun σ h => (fd σ h).bind (kSel0 tab n fa σ)
@[simp] theorem e_callSel (tab : List (Str × FDen)) (n : Nat) (fd : Den) (fa : DenA) (σ : Sd) (h : Hd) : callSel tab n fd fa σ h = (fd σ h).bind (kSel0 tab n fa σ) := rfl
@[simp] theorem selOf_gl (tab : List (Str × FDen)) (x : Str) : selOf tab (.gl x) = tab.lookup x := rfl
@[simp] theorem kSel_some (n : Nat) (fa : DenA) (σ : Sd) (h1 : Hd) (den : FDen) : kSel n fa σ h1 (some den) = (fa σ h1).bind (kD den n) := rfl
section
variable {X : Cx} {W : WX} {k : Nat}
theorem sel_mem {tab : List (Str × FDen)} {x : Str} {den : FDen} (e : tab.lookup x = some den) : (x, den) ∈ tab := by
  induction tab with
  | nil => cases e
  | cons p t ih =>
    obtain ⟨y, d⟩ := p
    rw [List.lookup_cons] at e
    split at e
    · rename_i h
      cases e
      have : x = y := eq_of_beq h
      subst this
      exact List.mem_cons_self
    · exact List.mem_cons_of_mem _ (ih e)
theorem f_callSel {tab : List (Str × FDen)} {n : Nat} {pos : Pos} {fe e : Expr} {es : List Expr} {fd : Den} {fa : DenA} (F : ∀ p ∈ tab, Fn X.prog X.w X.K X.mg X.base k p.1 n p.2) (cx : Ctx X.prog X.w X.base X.A k) (tk : L2N.Takes X W)
    (hf : DE X W fe fd) (ha : DA X W (e :: es) fa)
    (hc : eval (.Call fe (e :: es) [] pos) X.env = (do callWith pos (← eval fe X.env) [] (backTo pos (starEach (e :: es) X.env)) (backToKw pos (keywordEach [] X.env))) := by rfl)
    (he : starEach (e :: es) X.env = (false, eval e X.env) :: starEach es X.env := by rfl) (hpl : (backTo pos (starEach es X.env)).any (·.1) = false := by rfl) :
    DE X W (.Call fe (e :: es) [] pos) (callSel tab n fd fa) := by
  refine ⟨fun pins s σ H Q I h => ?_⟩
  obtain ⟨ρ, σd, hd, HR, S, h⟩ := h
  refine Call_ (thn (hf.run pins s σ H _ I ⟨ρ, σd, hd, HR, S, PostG.bind (rD X.K X.mg) h⟩) fun u s1 ⟨v, H1, I1, r, dx, h1, ρ1, G1, HR1, r1, q1⟩ => ?_) hc
  rw [kSel0_e] at q1
  cases el : selOf tab dx with
  | none => rw [el] at q1; exact q1.elim
  | some den =>
    rw [el] at q1
    have q1 := PostG.bind (rL X.K X.mg) q1
    cases dx with
    | gl x =>
      obtain ⟨u0, e0, r0⟩ := r1
      obtain ⟨f, fd', ps, G, hm, hk, hb, hn⟩ := (F _ (sel_mem el)).ex
      dsimp only at hm
      rw [hm] at e0
      cases e0
      have hv : v = .ref f := by
        cases v with
        | ref z =>
          have r0 : Value.ref f = .ref z := r0
          cases r0
          rfl
        | int i => obtain ⟨t, z⟩ := r0; cases z
        | str i => obtain ⟨t, z⟩ := r0; cases z
        | flt i => obtain ⟨t, z⟩ := r0; cases z
        | byt i => obtain ⟨t, z⟩ := r0; cases z
        | _ => cases r0
      subst hv
      cases r
      refine PySem.W.callWith_K (h₀ := X.base) I1.ok.mod.kin hk (thn (ha.run pos pins s1 σ H1 _ I1 ⟨ρ1, σd, h1, HR1, S.grow G1, q1⟩) fun us s2 ⟨vs, H2, I2, r, ds, h2, ρ2, G2, HR2, r2, q2⟩ => ⟨I2.kIn, ?_⟩) he hpl
      by_cases hz : ds.length = n
      · rw [if_pos hz] at q2
        exact run_fnG G cx hb (L2N.passAt tk σ) I2 r ⟨ρ2, h2, ds, HR2, r2, hz.trans hn.symm, q2⟩
      · rw [if_neg hz] at q2; exact q2.elim
    | _ => cases el
end
end Dz

namespace Dz
open PySem PySem.Spec PyProof.Rows L2 Dz 
/-! ## repr, of None, truths and numbers too -/
def reprD3 : PL := fun ds h => match ds with
  | [.non] => some (.str "None", h)
  | [.bl b] => some (.str (if b then "True" else "False"), h)
  | [.int i] => if i.natAbs.log2 < 1920 then some (.str (toString i), h) else none
  | ds => reprD2 ds h
section
variable {X : Cx}
theorem c_repr3 (hg : X.A.guards = some []) (hu : X.A.units + 64 < cLine) : CallR X (.builtin "repr") (rPL X.K X.mg reprD3) := by
  intro pins s σ H xs us Q I r h
  obtain ⟨ρ, hd, ds, HR, rl, q⟩ := h
  have gen : reprD3 ds hd = reprD2 ds hd → wpAny (model X.prog X.w) X.A (call (.builtin "repr") us) (EP X pins σ Q) X.xe s := fun e => c_repr2 hg hu pins s σ H xs us Q I r ⟨ρ, hd, ds, HR, rl, by rw [e] at q; exact q⟩
  by_cases h1 : ∃ d, ds = [d] ∧ (d = .non ∨ (∃ b, d = .bl b) ∨ ∃ i, d = .int i)
  · obtain ⟨d, rfl, hd'⟩ := h1
    obtain ⟨v, rfl, r1⟩ := repL_one rl
    obtain ⟨u, rfl, ru⟩ := vals1 r
    rcases hd' with rfl | ⟨b, rfl⟩ | ⟨i, rfl⟩
    · cases r1
      cases ru
      exact PySem.P.repr_of_none ⟨.str "None", H, I.tok _, ⟨_, rfl⟩, PostO.pure q HR ⟨rfl, by decide⟩⟩
    · cases r1
      cases ru
      refine PySem.P.repr_of_bool ⟨.str _, H, I.tok _, ⟨_, rfl⟩, PostO.pure q HR ⟨rfl, ?_⟩⟩
      cases b <;> decide
    · unfold reprD3 at q
      dsimp only at q
      by_cases hz : i.natAbs.log2 < 1920
      · rw [if_pos hz] at q
        cases r1
        obtain ⟨t, rfl⟩ := ru
        exact PySem.P.repr_of_int hz ⟨.str _, H, I.tok _, ⟨_, rfl⟩, PostO.pure q HR ⟨rfl, int_text_fits hz⟩⟩
      · rw [if_neg hz] at q
        exact q.elim
  · refine gen ?_
    unfold reprD3
    split
    · exact absurd ⟨_, rfl, .inl rfl⟩ h1
    · exact absurd ⟨_, rfl, .inr (.inl ⟨_, rfl⟩)⟩ h1
    · exact absurd ⟨_, rfl, .inr (.inr ⟨_, rfl⟩)⟩ h1
    · rfl
end
theorem repr3_of {d : D} {h : Hd} {r : D × Hd} (hr : isRefD d = true) (e : reprD2 [d] h = some r) : reprD3 [d] h = some r := by
  unfold reprD3
  cases d <;> first | exact e | cases hr
theorem repr_any {k : Bool} {n B : Nat} {d : D} (h : Prn k n B d) (hn : n ≤ 60) (hB : B ≤ 16777216) : ∃ x : Str, ∀ hh, reprD3 [d] hh = some (.str x, hh) := by
  obtain ⟨p, a, b, c, e⟩ := id h
  cases d with
  | non => exact ⟨_, fun hh => rfl⟩
  | bl b => exact ⟨_, fun hh => rfl⟩
  | int i =>
    have hz : i.natAbs.log2 < 1920 := by
      cases a
      simpa [PyData.showable] using b
    exact ⟨_, fun hh => if_pos hz⟩
  | tup xs => obtain ⟨x, e⟩ := repr_prn h hn hB rfl; exact ⟨x, fun hh => repr3_of rfl (e hh)⟩
  | lst xs => obtain ⟨x, e⟩ := repr_prn h hn hB rfl; exact ⟨x, fun hh => repr3_of rfl (e hh)⟩
  | dct => obtain ⟨x, e⟩ := repr_prn h hn hB rfl; exact ⟨x, fun hh => repr3_of rfl (e hh)⟩
  | str x =>
    cases a
    have := fun hh => repr_str (x := x) (by rw [szl]; omega) hh
    exact ⟨_, fun hh => by
      show reprD2 [.str x] hh = _
      exact reprD2_of (this hh)⟩
  | _ => unfold pyK at a; cases a
/-! ## a def that calls itself, at depth 0 -/
theorem ss_stuck {X : Cx} {W : WX} {st : List Stmt} : DSs X W st (fun _ _ => .stuck) := ⟨fun pins s σ H E I h => by
  obtain ⟨ρ, σd, hd, HR, S, q⟩ := h
  exact q.elim⟩
end Dz

namespace L_slanttables_k25_backs_told
open PySem PySem.Spec PyProof.Rows L2 Dz Dz.PL
def topS (i : Nat) : Stmt := PySem.Challenge.pw_slanttables_k25_backs_told.main.body.getD i (.Pass ⟨0, 0, 0, 0⟩)
def raisedNames : List Str := ["NoSlants", "NotFull"]
theorem bb_abs : bootBuiltins "abs" = some (.builtin "abs") := by decide +kernel
theorem bb_all : bootBuiltins "all" = some (.builtin "all") := by decide +kernel
theorem bb_isinstance : bootBuiltins "isinstance" = some (.builtin "isinstance") := by decide +kernel
theorem bb_len : bootBuiltins "len" = some (.builtin "len") := by decide +kernel
theorem bb_max : bootBuiltins "max" = some (.builtin "max") := by decide +kernel
theorem bb_ValueError : bootBuiltins "ValueError" = some (.type "ValueError") := by decide +kernel
theorem bb_bool : bootBuiltins "bool" = some (.type "bool") := by decide +kernel
theorem bb_int : bootBuiltins "int" = some (.type "int") := by decide +kernel
theorem bb_list : bootBuiltins "list" = some (.type "list") := by decide +kernel
theorem bb_tuple : bootBuiltins "tuple" = some (.type "tuple") := by decide +kernel
structure CA where
  SlantError : Addr
  NoSlants : Addr
  NoRow : Addr
  NoNumber : Addr
  NoLine : Addr
  NotEven : Addr
  NotFull : Addr
  NotStrong : Addr
  NoText : Addr
  TooGreat : Addr
abbrev st_is_whole : Stmt := topS 14
theorem sc_is_whole : FnScope ["thing"] ["thing"] (defScope st_is_whole) := ⟨rfl, rfl, rfl, by decide +kernel, rfl, by decide +kernel, by decide +kernel⟩
abbrev st_common : Stmt := topS 16
theorem sc_common : FnScope ["one", "other"] ["one", "other"] (defScope st_common) := ⟨rfl, rfl, rfl, by decide +kernel, rfl, by decide +kernel, by decide +kernel⟩
abbrev st_whole_row : Stmt := topS 23
theorem sc_whole_row : FnScope ["numbers", "number"] ["numbers"] (defScope st_whole_row) := ⟨rfl, rfl, rfl, by decide +kernel, rfl, by decide +kernel, by decide +kernel⟩
abbrev st_unit_row : Stmt := topS 24
theorem sc_unit_row : FnScope ["size", "place", "at"] ["size", "place"] (defScope st_unit_row) := ⟨rfl, rfl, rfl, by decide +kernel, rfl, by decide +kernel, by decide +kernel⟩
abbrev st_size_of : Stmt := topS 30
theorem sc_size_of : FnScope ["slants"] ["slants"] (defScope st_size_of) := ⟨rfl, rfl, rfl, by decide +kernel, rfl, by decide +kernel, by decide +kernel⟩
abbrev st__law_cell_at : Stmt := topS 44
theorem sc__law_cell_at : FnScope ["_law_script", "_law_k"] ["_law_script", "_law_k"] (defScope st__law_cell_at) := ⟨rfl, rfl, rfl, by decide +kernel, rfl, by decide +kernel, by decide +kernel⟩
abbrev st__law_next : Stmt := topS 45
theorem sc__law_next : FnScope ["_law_seed"] ["_law_seed"] (defScope st__law_next) := ⟨rfl, rfl, rfl, by decide +kernel, rfl, by decide +kernel, by decide +kernel⟩
abbrev st__law_pen_of : Stmt := topS 46
theorem sc__law_pen_of : FnScope ["_law_cell", "_law_left"] ["_law_cell"] (defScope st__law_pen_of) := ⟨rfl, rfl, rfl, by decide +kernel, rfl, by decide +kernel, by decide +kernel⟩
abbrev st__law_whole_of : Stmt := topS 48
theorem sc__law_whole_of : FnScope ["_law_found"] ["_law_found"] (defScope st__law_whole_of) := ⟨rfl, rfl, rfl, by decide +kernel, rfl, by decide +kernel, by decide +kernel⟩
abbrev st__law_kind_of : Stmt := topS 49
theorem sc__law_kind_of : FnScope ["_law_e", "_law_marks"] ["_law_e"] (defScope st__law_kind_of) := ⟨rfl, rfl, rfl, by decide +kernel, rfl, by decide +kernel, by decide +kernel⟩
abbrev st__law_gcd : Stmt := topS 51
theorem sc__law_gcd : FnScope ["_law_one", "_law_other"] ["_law_one", "_law_other"] (defScope st__law_gcd) := ⟨rfl, rfl, rfl, by decide +kernel, rfl, by decide +kernel, by decide +kernel⟩
abbrev st__law_table_of : Stmt := topS 56
theorem sc__law_table_of : FnScope ["_law_slants", "_law_size", "_law_i", "_law_j"] ["_law_slants"] (defScope st__law_table_of) := ⟨rfl, rfl, rfl, by decide +kernel, rfl, by decide +kernel, by decide +kernel⟩
abbrev st__law_taken : Stmt := topS 57
theorem sc__law_taken : FnScope ["_law_row", "_law_here", "_law_at", "_law_last", "_law_found", "_law_j", "_law_number"] ["_law_row", "_law_here", "_law_at", "_law_last"] (defScope st__law_taken) := ⟨rfl, rfl, rfl, by decide +kernel, rfl, by decide +kernel, by decide +kernel⟩
abbrev st__law_shared : Stmt := topS 61
theorem sc__law_shared : FnScope ["_law_table", "_law_line", "_law_number"] ["_law_table"] (defScope st__law_shared) := ⟨rfl, rfl, rfl, by decide +kernel, rfl, by decide +kernel, by decide +kernel⟩
abbrev st_is_upto : Stmt := topS 15
theorem sc_is_upto : FnScope ["thing", "low", "high"] ["thing", "low", "high"] (defScope st_is_upto) := ⟨rfl, rfl, rfl, by decide +kernel, rfl, by decide +kernel, by decide +kernel⟩
abbrev st_share : Stmt := topS 17
theorem sc_share : FnScope ["top", "bottom", "both"] ["top", "bottom"] (defScope st_share) := ⟨rfl, rfl, rfl, by decide +kernel, rfl, by decide +kernel, by decide +kernel⟩
abbrev st_tabled : Stmt := topS 31
theorem sc_tabled : FnScope ["slants", "size", "row", "column"] ["slants"] (defScope st_tabled) := ⟨rfl, rfl, rfl, by decide +kernel, rfl, by decide +kernel, by decide +kernel⟩
abbrev st__law_draw : Stmt := topS 47
theorem sc__law_draw : FnScope ["_law_pen", "_law_many", "_law_found"] ["_law_pen", "_law_many"] (defScope st__law_draw) := ⟨rfl, rfl, rfl, by decide +kernel, rfl, by decide +kernel, by decide +kernel⟩
abbrev st__law_refused : Stmt := topS 50
theorem sc__law_refused : FnScope ["_law_e", "_law_kind"] ["_law_e"] (defScope st__law_refused) := ⟨rfl, rfl, rfl, by decide +kernel, rfl, by decide +kernel, by decide +kernel⟩
abbrev st__law_share : Stmt := topS 52
theorem sc__law_share : FnScope ["_law_top", "_law_bottom", "_law_both"] ["_law_top", "_law_bottom"] (defScope st__law_share) := ⟨rfl, rfl, rfl, by decide +kernel, rfl, by decide +kernel, by decide +kernel⟩
abbrev st__law_share_like : Stmt := topS 53
theorem sc__law_share_like : FnScope ["_law_thing"] ["_law_thing"] (defScope st__law_share_like) := ⟨rfl, rfl, rfl, by decide +kernel, rfl, by decide +kernel, by decide +kernel⟩
abbrev st__law_number_of : Stmt := topS 58
theorem sc__law_number_of : FnScope ["_law_table", "_law_rows", "_law_sign", "_law_last", "_law_at", "_law_good", "_law_k", "_law_row"] ["_law_table"] (defScope st__law_number_of) := ⟨rfl, rfl, rfl, by decide +kernel, rfl, by decide +kernel, by decide +kernel⟩
abbrev st_less : Stmt := topS 18
theorem sc_less : FnScope ["one", "other"] ["one", "other"] (defScope st_less) := ⟨rfl, rfl, rfl, by decide +kernel, rfl, by decide +kernel, by decide +kernel⟩
abbrev st_times : Stmt := topS 19
theorem sc_times : FnScope ["one", "other"] ["one", "other"] (defScope st_times) := ⟨rfl, rfl, rfl, by decide +kernel, rfl, by decide +kernel, by decide +kernel⟩
abbrev st_by : Stmt := topS 20
theorem sc_by : FnScope ["one", "other"] ["one", "other"] (defScope st_by) := ⟨rfl, rfl, rfl, by decide +kernel, rfl, by decide +kernel, by decide +kernel⟩
abbrev st_slants_good : Stmt := topS 28
theorem sc_slants_good : FnScope ["thing", "number"] ["thing"] (defScope st_slants_good) := ⟨rfl, rfl, rfl, by decide +kernel, rfl, by decide +kernel, by decide +kernel⟩
abbrev st_share_by : Stmt := topS 38
theorem sc_share_by : FnScope ["slants", "line"] ["slants"] (defScope st_share_by) := ⟨rfl, rfl, rfl, by decide +kernel, rfl, by decide +kernel, by decide +kernel⟩
abbrev st__law_row_like : Stmt := topS 54
theorem sc__law_row_like : FnScope ["_law_thing", "_law_size", "_law_one"] ["_law_thing", "_law_size"] (defScope st__law_row_like) := ⟨rfl, rfl, rfl, by decide +kernel, rfl, by decide +kernel, by decide +kernel⟩
abbrev st__law_slants_of : Stmt := topS 55
theorem sc__law_slants_of : FnScope ["_law_pen", "_law_size", "_law_most", "_law_found", "_law_way", "_law_step", "_law_turn", "_law_number"] ["_law_pen"] (defScope st__law_slants_of) := ⟨rfl, rfl, rfl, by decide +kernel, rfl, by decide +kernel, by decide +kernel⟩
abbrev st__law_back : Stmt := topS 59
theorem sc__law_back : FnScope ["_law_table", "_law_whole", "_law_rows", "_law_i", "_law_row", "_law_j", "_law_part", "_law_line"] ["_law_table"] (defScope st__law_back) := ⟨rfl, rfl, rfl, by decide +kernel, rfl, by decide +kernel, by decide +kernel⟩
abbrev st_scaled : Stmt := topS 21
theorem sc_scaled : FnScope ["row", "factor", "one"] ["row", "factor"] (defScope st_scaled) := ⟨rfl, rfl, rfl, by decide +kernel, rfl, by decide +kernel, by decide +kernel⟩
abbrev st_rows_less : Stmt := topS 22
theorem sc_rows_less : FnScope ["one", "other", "left", "right"] ["one", "other"] (defScope st_rows_less) := ⟨rfl, rfl, rfl, by decide +kernel, rfl, by decide +kernel, by decide +kernel⟩
abbrev st_check_slants : Stmt := topS 29
theorem sc_check_slants : FnScope ["slants"] ["slants"] (defScope st_check_slants) := ⟨rfl, rfl, rfl, by decide +kernel, rfl, by decide +kernel, by decide +kernel⟩
abbrev st__law_table_like : Stmt := topS 60
theorem sc__law_table_like : FnScope ["_law_thing", "_law_size", "_law_row"] ["_law_thing", "_law_size"] (defScope st__law_table_like) := ⟨rfl, rfl, rfl, by decide +kernel, rfl, by decide +kernel, by decide +kernel⟩
abbrev st_lined : Stmt := topS 33
theorem sc_lined : FnScope ["table", "rows", "places", "place", "below", "here", "at"] ["table"] (defScope st_lined) := ⟨rfl, rfl, rfl, by decide +kernel, rfl, by decide +kernel, by decide +kernel⟩
abbrev st_share_table : Stmt := topS 42
theorem sc_share_table : FnScope ["slants"] ["slants"] (defScope st_share_table) := ⟨rfl, rfl, rfl, by decide +kernel, rfl, by decide +kernel, by decide +kernel⟩
abbrev st_free_by : Stmt := topS 34
theorem sc_free_by : FnScope ["slants", "size", "found", "free", "rows", "places", "row", "place", "at", "line"] ["slants"] (defScope st_free_by) := ⟨rfl, rfl, rfl, by decide +kernel, rfl, by decide +kernel, by decide +kernel⟩
abbrev st_backs_by : Stmt := topS 35
theorem sc_backs_by : FnScope ["slants", "size", "table", "rows", "places", "at", "line", "row"] ["slants"] (defScope st_backs_by) := ⟨rfl, rfl, rfl, by decide +kernel, rfl, by decide +kernel, by decide +kernel⟩
abbrev st_full_by : Stmt := topS 36
theorem sc_full_by : FnScope ["slants"] ["slants"] (defScope st_full_by) := ⟨rfl, rfl, rfl, by decide +kernel, rfl, by decide +kernel, by decide +kernel⟩
abbrev st_columns_of : Stmt := topS 39
theorem sc_columns_of : FnScope ["slants"] ["slants"] (defScope st_columns_of) := ⟨rfl, rfl, rfl, by decide +kernel, rfl, by decide +kernel, by decide +kernel⟩
abbrev st_back_of : Stmt := topS 40
theorem sc_back_of : FnScope ["slants", "columns", "at", "column"] ["slants"] (defScope st_back_of) := ⟨rfl, rfl, rfl, by decide +kernel, rfl, by decide +kernel, by decide +kernel⟩
abbrev st_two_rows : Stmt := topS 41
theorem sc_two_rows : FnScope ["slants", "columns"] ["slants"] (defScope st_two_rows) := ⟨rfl, rfl, rfl, by decide +kernel, rfl, by decide +kernel, by decide +kernel⟩
abbrev st__law_told : Stmt := topS 62
theorem sc__law_told : FnScope ["_law_way", "_law_slants", "_law_e"] ["_law_way", "_law_slants"] (defScope st__law_told) := ⟨rfl, rfl, rfl, by decide +kernel, rfl, by decide +kernel, by decide +kernel⟩
abbrev st__law_right_of : Stmt := topS 63
theorem sc__law_right_of : FnScope ["_law_slants", "_law_table", "_law_due", "_law_found", "_law_two", "_law_row"] ["_law_slants"] (defScope st__law_right_of) := ⟨rfl, rfl, rfl, by decide +kernel, rfl, by decide +kernel, by decide +kernel⟩
abbrev st_law : Stmt := topS 64
theorem sc_law : FnScope ["_law_script", "_law_slants", "_law_cell", "_law_pen", "_law_table"] ["_law_script"] (defScope st_law) := ⟨rfl, rfl, rfl, by decide +kernel, rfl, by decide +kernel, by decide +kernel⟩
structure Txt (K : PySem.W.Frag) (mg : Str → Option Value) (cA : CA) : Prop where
  n_ValueError : mg "ValueError" = none
  n_abs : mg "abs" = none
  n_all : mg "all" = none
  n_bool : mg "bool" = none
  n_enumerate : mg "enumerate" = none
  n_int : mg "int" = none
  n_isinstance : mg "isinstance" = none
  n_len : mg "len" = none
  n_list : mg "list" = none
  n_max : mg "max" = none
  n_range : mg "range" = none
  n_tuple : mg "tuple" = none
  n_zip : mg "zip" = none
  c_MOST : Con K mg "MOST" (.int 50)
  c_MOST_SIZE : Con K mg "MOST_SIZE" (.int 5)
  c_NOUGHT : Con K mg "NOUGHT" (.tup [.int 0, .int 1])
  c_ONE : Con K mg "ONE" (.tup [.int 1, .int 1])
  g_SlantError : mg "SlantError" = some (.ref cA.SlantError)
  g_NoSlants : mg "NoSlants" = some (.ref cA.NoSlants)
  g_NoRow : mg "NoRow" = some (.ref cA.NoRow)
  g_NoNumber : mg "NoNumber" = some (.ref cA.NoNumber)
  g_NoLine : mg "NoLine" = some (.ref cA.NoLine)
  g_NotEven : mg "NotEven" = some (.ref cA.NotEven)
  g_NotFull : mg "NotFull" = some (.ref cA.NotFull)
  g_NotStrong : mg "NotStrong" = some (.ref cA.NotStrong)
  g_NoText : mg "NoText" = some (.ref cA.NoText)
  g_TooGreat : mg "TooGreat" = some (.ref cA.TooGreat)
  x_NoSlants : XCls K mg "NoSlants" cA.NoSlants
  e_NoSlants : ExcC K cA.NoSlants
  k_NoSlants_NoSlants : PySem.W.kitOne K (.ref cA.NoSlants) (.ref cA.NoSlants) = some true
  k_NoSlants_NoRow : PySem.W.kitOne K (.ref cA.NoSlants) (.ref cA.NoRow) = some false
  k_NoSlants_NoNumber : PySem.W.kitOne K (.ref cA.NoSlants) (.ref cA.NoNumber) = some false
  k_NoSlants_NoLine : PySem.W.kitOne K (.ref cA.NoSlants) (.ref cA.NoLine) = some false
  k_NoSlants_NotEven : PySem.W.kitOne K (.ref cA.NoSlants) (.ref cA.NotEven) = some false
  k_NoSlants_NotFull : PySem.W.kitOne K (.ref cA.NoSlants) (.ref cA.NotFull) = some false
  k_NoSlants_NotStrong : PySem.W.kitOne K (.ref cA.NoSlants) (.ref cA.NotStrong) = some false
  k_NoSlants_NoText : PySem.W.kitOne K (.ref cA.NoSlants) (.ref cA.NoText) = some false
  k_NoSlants_TooGreat : PySem.W.kitOne K (.ref cA.NoSlants) (.ref cA.TooGreat) = some false
  v_NoSlants : PySem.W.kitOne K (.ref cA.NoSlants) (.type "ValueError") = some true
  y_NoSlants : PySem.W.exmOne K (.ref cA.NoSlants) (.ref cA.SlantError) = some true
  x_NotFull : XCls K mg "NotFull" cA.NotFull
  e_NotFull : ExcC K cA.NotFull
  k_NotFull_NoSlants : PySem.W.kitOne K (.ref cA.NotFull) (.ref cA.NoSlants) = some false
  k_NotFull_NoRow : PySem.W.kitOne K (.ref cA.NotFull) (.ref cA.NoRow) = some false
  k_NotFull_NoNumber : PySem.W.kitOne K (.ref cA.NotFull) (.ref cA.NoNumber) = some false
  k_NotFull_NoLine : PySem.W.kitOne K (.ref cA.NotFull) (.ref cA.NoLine) = some false
  k_NotFull_NotEven : PySem.W.kitOne K (.ref cA.NotFull) (.ref cA.NotEven) = some false
  k_NotFull_NotFull : PySem.W.kitOne K (.ref cA.NotFull) (.ref cA.NotFull) = some true
  k_NotFull_NotStrong : PySem.W.kitOne K (.ref cA.NotFull) (.ref cA.NotStrong) = some false
  k_NotFull_NoText : PySem.W.kitOne K (.ref cA.NotFull) (.ref cA.NoText) = some false
  k_NotFull_TooGreat : PySem.W.kitOne K (.ref cA.NotFull) (.ref cA.TooGreat) = some false
  v_NotFull : PySem.W.kitOne K (.ref cA.NotFull) (.type "ValueError") = some true
  y_NotFull : PySem.W.exmOne K (.ref cA.NotFull) (.ref cA.SlantError) = some true
  f_is_whole : FF K mg "is_whole" st_is_whole ["thing"]
  f_common : FF K mg "common" st_common ["one", "other"]
  f_whole_row : FF K mg "whole_row" st_whole_row ["numbers"]
  f_unit_row : FF K mg "unit_row" st_unit_row ["size", "place"]
  f_size_of : FF K mg "size_of" st_size_of ["slants"]
  f__law_cell_at : FF K mg "_law_cell_at" st__law_cell_at ["_law_script", "_law_k"]
  f__law_next : FF K mg "_law_next" st__law_next ["_law_seed"]
  f__law_pen_of : FF K mg "_law_pen_of" st__law_pen_of ["_law_cell"]
  f__law_whole_of : FF K mg "_law_whole_of" st__law_whole_of ["_law_found"]
  f__law_kind_of : FF K mg "_law_kind_of" st__law_kind_of ["_law_e"]
  f__law_gcd : FF K mg "_law_gcd" st__law_gcd ["_law_one", "_law_other"]
  f__law_table_of : FF K mg "_law_table_of" st__law_table_of ["_law_slants"]
  f__law_taken : FF K mg "_law_taken" st__law_taken ["_law_row", "_law_here", "_law_at", "_law_last"]
  f__law_shared : FF K mg "_law_shared" st__law_shared ["_law_table"]
  f_is_upto : FF K mg "is_upto" st_is_upto ["thing", "low", "high"]
  f_share : FF K mg "share" st_share ["top", "bottom"]
  f_tabled : FF K mg "tabled" st_tabled ["slants"]
  f__law_draw : FF K mg "_law_draw" st__law_draw ["_law_pen", "_law_many"]
  f__law_refused : FF K mg "_law_refused" st__law_refused ["_law_e"]
  f__law_share : FF K mg "_law_share" st__law_share ["_law_top", "_law_bottom"]
  f__law_share_like : FF K mg "_law_share_like" st__law_share_like ["_law_thing"]
  f__law_number_of : FF K mg "_law_number_of" st__law_number_of ["_law_table"]
  f_less : FF K mg "less" st_less ["one", "other"]
  f_times : FF K mg "times" st_times ["one", "other"]
  f_by : FF K mg "by" st_by ["one", "other"]
  f_slants_good : FF K mg "slants_good" st_slants_good ["thing"]
  f_share_by : FF K mg "share_by" st_share_by ["slants"]
  f__law_row_like : FF K mg "_law_row_like" st__law_row_like ["_law_thing", "_law_size"]
  f__law_slants_of : FF K mg "_law_slants_of" st__law_slants_of ["_law_pen"]
  f__law_back : FF K mg "_law_back" st__law_back ["_law_table"]
  f_scaled : FF K mg "scaled" st_scaled ["row", "factor"]
  f_rows_less : FF K mg "rows_less" st_rows_less ["one", "other"]
  f_check_slants : FF K mg "check_slants" st_check_slants ["slants"]
  f__law_table_like : FF K mg "_law_table_like" st__law_table_like ["_law_thing", "_law_size"]
  f_lined : FF K mg "lined" st_lined ["table"]
  f_share_table : FF K mg "share_table" st_share_table ["slants"]
  f_free_by : FF K mg "free_by" st_free_by ["slants"]
  f_backs_by : FF K mg "backs_by" st_backs_by ["slants"]
  f_full_by : FF K mg "full_by" st_full_by ["slants"]
  f_columns_of : FF K mg "columns_of" st_columns_of ["slants"]
  f_back_of : FF K mg "back_of" st_back_of ["slants"]
  f_two_rows : FF K mg "two_rows" st_two_rows ["slants"]
  f__law_told : FF K mg "_law_told" st__law_told ["_law_way", "_law_slants"]
  f__law_right_of : FF K mg "_law_right_of" st__law_right_of ["_law_slants"]
  f_law : FF K mg "law" st_law ["_law_script"]
theorem Txt.exm {K : PySem.W.Frag} {mg : Str → Option Value} {cA : CA} (T : Txt K mg cA) : ∀ C ∈ raisedNames, ∀ c, mg C = some (.ref c) → PySem.W.exmOne K (.ref c) (.ref cA.SlantError) = some true := by
  intro C hC c hc
  simp only [raisedNames, List.mem_cons, List.mem_nil_iff, or_false] at hC
  rcases hC with h | h <;> subst h
  · rw [T.g_NoSlants] at hc; cases hc; exact T.y_NoSlants
  · rw [T.g_NotFull] at hc; cases hc; exact T.y_NotFull
theorem Txt.isE {X : Cx} {cA : CA} {C : Str} {cls : Value} {p : Addr × Obj} (T : Txt X.K X.mg cA) (hC : C ∈ raisedNames) (hX : XAt X.K X.mg C cls none p.2) (hp : p ∈ X.pn) : CallR X (.builtin "isinstance") (rPL X.K X.mg (isE p.1 (tabOf C) allNames true)) := by
  simp only [raisedNames, List.mem_cons, List.mem_nil_iff, or_false] at hC
  rcases hC with h | h <;> subst h
  · refine c_isE hX hp T.g_NoSlants T.e_NoSlants (fun n hn => ?_) T.v_NoSlants
    simp only [allNames, List.mem_cons, List.mem_nil_iff, or_false] at hn
    rcases hn with h | h | h | h | h | h | h | h | h <;> subst h
    · exact ⟨_, T.g_NoSlants, T.k_NoSlants_NoSlants⟩
    · exact ⟨_, T.g_NoRow, T.k_NoSlants_NoRow⟩
    · exact ⟨_, T.g_NoNumber, T.k_NoSlants_NoNumber⟩
    · exact ⟨_, T.g_NoLine, T.k_NoSlants_NoLine⟩
    · exact ⟨_, T.g_NotEven, T.k_NoSlants_NotEven⟩
    · exact ⟨_, T.g_NotFull, T.k_NoSlants_NotFull⟩
    · exact ⟨_, T.g_NotStrong, T.k_NoSlants_NotStrong⟩
    · exact ⟨_, T.g_NoText, T.k_NoSlants_NoText⟩
    · exact ⟨_, T.g_TooGreat, T.k_NoSlants_TooGreat⟩
  · refine c_isE hX hp T.g_NotFull T.e_NotFull (fun n hn => ?_) T.v_NotFull
    simp only [allNames, List.mem_cons, List.mem_nil_iff, or_false] at hn
    rcases hn with h | h | h | h | h | h | h | h | h <;> subst h
    · exact ⟨_, T.g_NoSlants, T.k_NotFull_NoSlants⟩
    · exact ⟨_, T.g_NoRow, T.k_NotFull_NoRow⟩
    · exact ⟨_, T.g_NoNumber, T.k_NotFull_NoNumber⟩
    · exact ⟨_, T.g_NoLine, T.k_NotFull_NoLine⟩
    · exact ⟨_, T.g_NotEven, T.k_NotFull_NotEven⟩
    · exact ⟨_, T.g_NotFull, T.k_NotFull_NotFull⟩
    · exact ⟨_, T.g_NotStrong, T.k_NotFull_NotStrong⟩
    · exact ⟨_, T.g_NoText, T.k_NotFull_NoText⟩
    · exact ⟨_, T.g_TooGreat, T.k_NotFull_TooGreat⟩
theorem rn_all : ∀ C ∈ raisedNames, C ∈ allNames := by decide +kernel
theorem rn_NoSlants : ("NoSlants" : Str) ∈ raisedNames := by decide +kernel
theorem rn_NotFull : ("NotFull" : Str) ∈ raisedNames := by decide +kernel
theorem v_kind (a : Addr) (C : Str) (hC : C ∈ raisedNames) (h : Hd) : PL.den__law_kind_of a C [.ex a] h = .ok (.str (kn C)) h := PL.v_kind a C (rn_all C hC) h
theorem v_refused (a : Addr) (C : Str) (hC : C ∈ raisedNames) (h : Hd) : PL.den__law_refused a C [.ex a] h = .ok (.tup [.str (kn C)]) h := PL.v_refused a C (rn_all C hC) (fun z => by subst z; exact absurd hC (by decide +kernel)) h
theorem ok_is_whole {P : Program} {w : World} {K : PySem.W.Frag} {mg : Str → Option Value} {base : Heap} {cA : CA} (T : Txt K mg cA) : Fn P w K mg base 1 "is_whole" 1 Dz.PL.den_is_whole := by
  have sc := sc_is_whole
  exact T.f_is_whole.raw sc fun f cdv A outer s H E cx tk => ss_one (s_ret (d_and (d_callB (c_isi) T.n_isinstance bb_isinstance (a_cons (d_var 0) (a_cons (d_ty T.n_int bb_int) (a_nil)))) (d_one (d_not (d_callB (c_isi) T.n_isinstance bb_isinstance (a_cons (d_var 0) (a_cons (d_ty T.n_bool bb_bool) (a_nil))))))))
theorem ok_common {P : Program} {w : World} {K : PySem.W.Frag} {mg : Str → Option Value} {base : Heap} {cA : CA} (T : Txt K mg cA) : Fn P w K mg base 1 "common" 2 Dz.PL.den_common := by
  have sc := sc_common
  exact T.f_common.raw sc fun f cdv A outer s H E cx tk => ss_cons (s_par 0 1 rfl sc.nd (a_cons (d_callB (c_abs) T.n_abs bb_abs (a_cons (d_var 0) (a_nil))) (a_cons (d_callB (c_abs) T.n_abs bb_abs (a_cons (d_var 1) (a_nil))) (a_nil)))) (ss_cons (s_while (passes_of rfl) (t_cmp (op_ne' cx.room.units) (d_var 1) (d_int)) (ss_one (s_par 0 1 rfl sc.nd (a_cons (d_var 1) (a_cons (d_bin op_mod' (d_var 0) (d_var 1)) (a_nil)))))) (ss_one (s_ret (d_var 0))))
theorem ok_whole_row {P : Program} {w : World} {K : PySem.W.Frag} {mg : Str → Option Value} {base : Heap} {cA : CA} (T : Txt K mg cA) : Fn P w K mg base 1 "whole_row" 1 Dz.PL.den_whole_row := by
  have sc := sc_whole_row
  exact T.f_whole_row.raw sc fun f cdv A outer s H E cx tk => ss_one (s_ret (d_callTy c_tuple T.n_tuple bb_tuple (a_cons (d_lc rfl sc.nd (i_seq (d_var 0)) (blkOk_by (own := [("number", 1)]) (by kernel_rfl)) (fun _ _ _ _ _ => c_name 1 sc.nd) (fun _ _ _ _ _ => ts_nil) (fun _ _ _ _ _ => d_tup (a_cons (d_var 1) (a_cons (d_int) (a_nil))))) (a_nil))))
theorem ok_unit_row {P : Program} {w : World} {K : PySem.W.Frag} {mg : Str → Option Value} {base : Heap} {cA : CA} (T : Txt K mg cA) : Fn P w K mg base 1 "unit_row" 2 Dz.PL.den_unit_row := by
  have sc := sc_unit_row
  exact T.f_unit_row.raw sc fun f cdv A outer s H E cx tk => ss_one (s_ret (d_callTy c_tuple T.n_tuple bb_tuple (a_cons (d_lc rfl sc.nd (i_range1 T.n_range (a_cons (d_var 0) (a_nil))) (blkOk_by (own := [("at", 2)]) (by kernel_rfl)) (fun _ _ _ _ _ => c_name 2 sc.nd) (fun _ _ _ _ _ => ts_nil) (fun _ _ _ _ _ => d_tup (a_cons (d_callTy c_int T.n_int bb_int (a_cons (d_cmp (op_eq' cx.room.units) (d_var 2) (d_var 1)) (a_nil))) (a_cons (d_int) (a_nil))))) (a_nil))))
theorem ok_size_of {P : Program} {w : World} {K : PySem.W.Frag} {mg : Str → Option Value} {base : Heap} {cA : CA} (T : Txt K mg cA) : Fn P w K mg base 1 "size_of" 1 Dz.PL.den_size_of := by
  have sc := sc_size_of
  exact T.f_size_of.raw sc fun f cdv A outer s H E cx tk => ss_one (s_ret (d_bin op_div' (d_bin op_add' (d_callB (c_len) T.n_len bb_len (a_cons (d_var 0) (a_nil))) (d_int)) (d_int)))
theorem ok__law_cell_at {P : Program} {w : World} {K : PySem.W.Frag} {mg : Str → Option Value} {base : Heap} {cA : CA} (T : Txt K mg cA) : Fn P w K mg base 1 "_law_cell_at" 2 Dz.PL.den__law_cell_at := by
  have sc := sc__law_cell_at
  exact T.f__law_cell_at.raw sc fun f cdv A outer s H E cx tk => ss_cons (s_if (t_cmp op_lt' (d_var 1) (d_callB (c_len) T.n_len bb_len (a_cons (d_var 0) (a_nil)))) (ss_one (s_ret (d_ix (d_var 0) (d_var 1)))) (ss_nil)) (ss_one (s_ret (d_int)))
theorem ok__law_next {P : Program} {w : World} {K : PySem.W.Frag} {mg : Str → Option Value} {base : Heap} {cA : CA} (T : Txt K mg cA) : Fn P w K mg base 1 "_law_next" 1 Dz.PL.den__law_next := by
  have sc := sc__law_next
  exact T.f__law_next.raw sc fun f cdv A outer s H E cx tk => ss_cons (s_set 0 sc.nd (d_bin op_mod' (d_bin op_add' (d_var 0) (d_int)) (d_int))) (ss_one (s_ret (d_bin op_mod' (d_bin op_add' (d_bin op_add' (d_bin op_mul' (d_var 0) (d_var 0)) (d_bin op_mul' (d_int) (d_var 0))) (d_int)) (d_int))))
theorem ok__law_pen_of {P : Program} {w : World} {K : PySem.W.Frag} {mg : Str → Option Value} {base : Heap} {cA : CA} (T : Txt K mg cA) : Fn P w K mg base 1 "_law_pen_of" 1 Dz.PL.den__law_pen_of := by
  have sc := sc__law_pen_of
  exact T.f__law_pen_of.raw sc fun f cdv A outer s H E cx tk => ss_cons (s_set 1 sc.nd (d_callB (c_max rfl) T.n_max bb_max (a_cons (d_var 0) (a_cons (d_bin op_sub' (d_int) (d_var 0)) (a_nil))))) (ss_one (s_ret (d_lstM (a_cons (d_var 1) (a_cons (d_callTy c_int T.n_int bb_int (a_cons (d_cmp op_ge' (d_var 1) (d_bin op_pow' (d_int) (d_int))) (a_nil))) (a_cons (d_bin op_mod' (d_var 1) (d_int)) (a_nil)))))))
theorem ok__law_whole_of {P : Program} {w : World} {K : PySem.W.Frag} {mg : Str → Option Value} {base : Heap} {cA : CA} (T : Txt K mg cA) : Fn P w K mg base 1 "_law_whole_of" 1 Dz.PL.den__law_whole := by
  have sc := sc__law_whole_of
  exact T.f__law_whole_of.raw sc fun f cdv A outer s H E cx tk => ss_one (s_ret (d_and (d_callB (c_isi) T.n_isinstance bb_isinstance (a_cons (d_var 0) (a_cons (d_ty T.n_int bb_int) (a_nil)))) (d_one (d_not (d_callB (c_isi) T.n_isinstance bb_isinstance (a_cons (d_var 0) (a_cons (d_ty T.n_bool bb_bool) (a_nil))))))))
theorem ok__law_kind_of {P : Program} {w : World} {K : PySem.W.Frag} {mg : Str → Option Value} {base : Heap} {cA : CA} (T : Txt K mg cA) : FnEx P w K mg base 1 "_law_kind_of" 1 raisedNames Dz.PL.den__law_kind_of := by
  have sc := sc__law_kind_of
  exact T.f__law_kind_of.hot sc fun f cdv A outer s H E p C cls hC hX hot hr => by
    obtain ⟨a, oe⟩ := p
    have hu := units64 hr
    exact ss_cons (s_set 1 sc.nd (d_lst (a_cons (d_callB (T.isE hC hX List.mem_cons_self) T.n_isinstance bb_isinstance (a_cons (d_var 0) (a_cons (d_glob (con_gl T.g_NoSlants)) (a_nil)))) (a_cons (d_callB (T.isE hC hX List.mem_cons_self) T.n_isinstance bb_isinstance (a_cons (d_var 0) (a_cons (d_glob (con_gl T.g_NoRow)) (a_nil)))) (a_cons (d_callB (T.isE hC hX List.mem_cons_self) T.n_isinstance bb_isinstance (a_cons (d_var 0) (a_cons (d_glob (con_gl T.g_NoNumber)) (a_nil)))) (a_cons (d_callB (T.isE hC hX List.mem_cons_self) T.n_isinstance bb_isinstance (a_cons (d_var 0) (a_cons (d_glob (con_gl T.g_NoLine)) (a_nil)))) (a_nil))))))) (ss_cons (s_set 1 sc.nd (d_bin op_add' (d_var 1) (d_lst (a_cons (d_callB (T.isE hC hX List.mem_cons_self) T.n_isinstance bb_isinstance (a_cons (d_var 0) (a_cons (d_glob (con_gl T.g_NotEven)) (a_nil)))) (a_cons (d_callB (T.isE hC hX List.mem_cons_self) T.n_isinstance bb_isinstance (a_cons (d_var 0) (a_cons (d_glob (con_gl T.g_NotFull)) (a_nil)))) (a_cons (d_callB (T.isE hC hX List.mem_cons_self) T.n_isinstance bb_isinstance (a_cons (d_var 0) (a_cons (d_glob (con_gl T.g_NotStrong)) (a_nil)))) (a_nil))))))) (ss_cons (s_set 1 sc.nd (d_bin op_add' (d_var 1) (d_lst (a_cons (d_callB (T.isE hC hX List.mem_cons_self) T.n_isinstance bb_isinstance (a_cons (d_var 0) (a_cons (d_glob (con_gl T.g_NoText)) (a_nil)))) (a_cons (d_callB (T.isE hC hX List.mem_cons_self) T.n_isinstance bb_isinstance (a_cons (d_var 0) (a_cons (d_glob (con_gl T.g_TooGreat)) (a_nil)))) (a_nil)))))) (ss_cons (s_if (DW.pt (w_or (t_not (t_val (d_callB (T.isE hC hX List.mem_cons_self) T.n_isinstance bb_isinstance (a_cons (d_var 0) (a_cons (d_ty T.n_ValueError bb_ValueError) (a_nil)))))) (w_or1 (t_cmp (op_ne' hu) (d_metL PySem.F.slot_list_count PySem.F.type_list_count m_count (d_var 1) (a_cons (d_bl) (a_nil))) (d_int))))) (ss_one (s_ret (d_str))) (ss_nil)) (ss_one (s_ret (d_ix (d_lst (a_cons (d_str) (a_cons (d_str) (a_cons (d_str) (a_cons (d_str) (a_cons (d_str) (a_cons (d_str) (a_cons (d_str) (a_cons (d_str) (a_cons (d_str) (a_nil))))))))))) (d_metL PySem.F.slot_list_index PySem.F.type_list_index m_index (d_var 1) (a_cons (d_bl) (a_nil)))))))))
theorem ok__law_gcd {P : Program} {w : World} {K : PySem.W.Frag} {mg : Str → Option Value} {base : Heap} {cA : CA} (T : Txt K mg cA) : Fn P w K mg base 1 "_law_gcd" 2 Dz.PB.den__law_gcd := by
  have sc := sc__law_gcd
  exact T.f__law_gcd.raw sc fun f cdv A outer s H E cx tk => ss_cons (s_set 0 sc.nd (d_callB (c_abs) T.n_abs bb_abs (a_cons (d_var 0) (a_nil)))) (ss_cons (s_set 1 sc.nd (d_callB (c_abs) T.n_abs bb_abs (a_cons (d_var 1) (a_nil)))) (ss_cons (s_while (passes_of rfl) (t_cmp (op_ne' cx.room.units) (d_var 1) (d_int)) (ss_one (s_par 0 1 rfl sc.nd (a_cons (d_var 1) (a_cons (d_bin op_mod' (d_var 0) (d_var 1)) (a_nil)))))) (ss_one (s_ret (d_var 0)))))
theorem ok__law_table_of {P : Program} {w : World} {K : PySem.W.Frag} {mg : Str → Option Value} {base : Heap} {cA : CA} (T : Txt K mg cA) : Fn P w K mg base 1 "_law_table_of" 1 Dz.PB.den__law_table_of := by
  have sc := sc__law_table_of
  exact T.f__law_table_of.raw sc fun f cdv A outer s H E cx tk => ss_cons (s_set 1 sc.nd (d_bin op_div' (d_bin op_add' (d_callB (c_len) T.n_len bb_len (a_cons (d_var 0) (a_nil))) (d_int)) (d_int))) (ss_one (s_ret (d_lc rfl sc.nd (i_range1 T.n_range (a_cons (d_var 1) (a_nil))) (blkOk_by (own := [("_law_i", 2)]) (by kernel_rfl)) (fun _ _ _ _ _ => c_name 2 sc.nd) (fun _ _ _ _ _ => ts_nil) (fun _ _ _ _ _ => d_lc rfl sc.nd (i_range1 T.n_range (a_cons (d_var 1) (a_nil))) (blkOk_by (own := [("_law_j", 3)]) (by kernel_rfl)) (fun _ _ _ _ _ => c_name 3 sc.nd) (fun _ _ _ _ _ => ts_nil) (fun _ _ _ _ _ => d_ix (d_var 0) (d_bin op_sub' (d_bin op_add' (d_bin op_sub' (d_var 3) (d_var 2)) (d_var 1)) (d_int)))))))
theorem ok__law_taken {P : Program} {w : World} {K : PySem.W.Frag} {mg : Str → Option Value} {base : Heap} {cA : CA} (T : Txt K mg cA) : Fn P w K mg base 1 "_law_taken" 4 Dz.PN.den__law_taken := by
  have sc := sc__law_taken
  exact T.f__law_taken.set sc fun f cdv A outer s H E cx tk => ss_cons (s_set 4 sc.nd (d_lstM (a_nil))) (ss_cons (s_for (passes_of rfl) rfl (i_range1 T.n_range (a_cons (d_callB (c_len) T.n_len bb_len (a_cons (d_var 0) (a_nil))) (a_nil))) (g_name 5 sc.nd) (ss_cons (s_set 6 sc.nd (d_bin op_sub' (d_bin op_mul' (d_ix (d_var 0) (d_var 5)) (d_ix (d_var 1) (d_var 2))) (d_bin op_mul' (d_ix (d_var 0) (d_var 2)) (d_ix (d_var 1) (d_var 5))))) (ss_one (s_expr (d_append (d_var 4) (a_cons (d_bin op_div' (d_var 6) (d_var 3)) (a_nil))))))) (ss_one (s_ret (d_var 4))))
theorem ok__law_shared {P : Program} {w : World} {K : PySem.W.Frag} {mg : Str → Option Value} {base : Heap} {cA : CA} (T : Txt K mg cA) : Fn P w K mg base 1 "_law_shared" 1 Dz.PB.den__law_shared := by
  have sc := sc__law_shared
  exact T.f__law_shared.raw sc fun f cdv A outer s H E cx tk => ss_one (s_ret (d_callTy c_tuple T.n_tuple bb_tuple (a_cons (d_lc rfl sc.nd (i_seq (d_var 0)) (blkOk_by (own := [("_law_line", 1)]) (by kernel_rfl)) (fun _ _ _ _ _ => c_name 1 sc.nd) (fun _ _ _ _ _ => ts_nil) (fun _ _ _ _ _ => d_callTy c_tuple T.n_tuple bb_tuple (a_cons (d_lc rfl sc.nd (i_seq (d_var 1)) (blkOk_by (own := [("_law_number", 2)]) (by kernel_rfl)) (fun _ _ _ _ _ => c_name 2 sc.nd) (fun _ _ _ _ _ => ts_nil) (fun _ _ _ _ _ => d_tup (a_cons (d_var 2) (a_cons (d_int) (a_nil))))) (a_nil)))) (a_nil))))
theorem ok_is_upto {P : Program} {w : World} {K : PySem.W.Frag} {mg : Str → Option Value} {base : Heap} {cA : CA} (T : Txt K mg cA) : Fn P w K mg base 2 "is_upto" 3 Dz.PL.den_is_upto := by
  have sc := sc_is_upto
  exact T.f_is_upto.raw sc fun f cdv A outer s H E cx tk => ss_one (s_ret (d_and (f_call ((ok_is_whole T).mono (by decide)) cx tk (a_cons (d_var 0) (a_nil))) (d_one (d_chain op_le' op_le' (d_var 1) (d_var 0) (d_var 2)))))
theorem ok_share {P : Program} {w : World} {K : PySem.W.Frag} {mg : Str → Option Value} {base : Heap} {cA : CA} (T : Txt K mg cA) : Fn P w K mg base 2 "share" 2 Dz.PL.den_share := by
  have sc := sc_share
  exact T.f_share.raw sc fun f cdv A outer s H E cx tk => ss_cons (s_set 2 sc.nd (f_call ((ok_common T).mono (by decide)) cx tk (a_cons (d_var 0) (a_cons (d_var 1) (a_nil))))) (ss_cons (s_if (t_cmp op_lt' (d_var 1) (d_int)) (ss_one (s_set 2 sc.nd (d_bin op_sub' (d_int) (d_var 2)))) (ss_nil)) (ss_one (s_ret (d_tup (a_cons (d_bin op_div' (d_var 0) (d_var 2)) (a_cons (d_bin op_div' (d_var 1) (d_var 2)) (a_nil)))))))
theorem ok_tabled {P : Program} {w : World} {K : PySem.W.Frag} {mg : Str → Option Value} {base : Heap} {cA : CA} (T : Txt K mg cA) : Fn P w K mg base 2 "tabled" 1 Dz.PL.den_tabled := by
  have sc := sc_tabled
  exact T.f_tabled.raw sc fun f cdv A outer s H E cx tk => ss_cons (s_set 1 sc.nd (f_call ((ok_size_of T).mono (by decide)) cx tk (a_cons (d_var 0) (a_nil)))) (ss_one (s_ret (d_lc rfl sc.nd (i_range1 T.n_range (a_cons (d_var 1) (a_nil))) (blkOk_by (own := [("row", 2)]) (by kernel_rfl)) (fun _ _ _ _ _ => c_name 2 sc.nd) (fun _ _ _ _ _ => ts_nil) (fun _ _ _ _ _ => d_lc rfl sc.nd (i_range1 T.n_range (a_cons (d_var 1) (a_nil))) (blkOk_by (own := [("column", 3)]) (by kernel_rfl)) (fun _ _ _ _ _ => c_name 3 sc.nd) (fun _ _ _ _ _ => ts_nil) (fun _ _ _ _ _ => d_ix (d_var 0) (d_bin op_sub' (d_bin op_add' (d_bin op_sub' (d_var 3) (d_var 2)) (d_var 1)) (d_int)))))))
theorem ok__law_draw {P : Program} {w : World} {K : PySem.W.Frag} {mg : Str → Option Value} {base : Heap} {cA : CA} (T : Txt K mg cA) : Fn P w K mg base 2 "_law_draw" 2 Dz.PL.den__law_draw := by
  have sc := sc__law_draw
  exact T.f__law_draw.raw sc fun f cdv A outer s H E cx tk => ss_cons (s_if (t_cmp (op_eq' cx.room.units) (d_ix (d_var 0) (d_int)) (d_int)) (ss_cons (s_set 2 sc.nd (d_bin op_mod' (d_ix (d_var 0) (d_int)) (d_var 1))) (ss_cons (s_asg (d_bin op_div' (d_ix (d_var 0) (d_int)) (d_var 1)) (g_sub (W := W0) set_D (d_var 0) (d_int))) (ss_one (s_ret (d_var 2))))) (ss_nil)) (ss_cons (s_asg (f_call ((ok__law_next T).mono (by decide)) cx tk (a_cons (d_bin op_add' (f_call ((ok__law_next T).mono (by decide)) cx tk (a_cons (d_ix (d_var 0) (d_int)) (a_nil))) (d_int)) (a_nil))) (g_sub (W := W0) set_D (d_var 0) (d_int))) (ss_one (s_ret (d_bin op_mod' (d_bin op_div' (d_ix (d_var 0) (d_int)) (d_int)) (d_var 1)))))
theorem ok__law_refused {P : Program} {w : World} {K : PySem.W.Frag} {mg : Str → Option Value} {base : Heap} {cA : CA} (T : Txt K mg cA) : FnEx P w K mg base 2 "_law_refused" 1 raisedNames Dz.PL.den__law_refused := by
  have sc := sc__law_refused
  exact T.f__law_refused.hot sc fun f cdv A outer s H E p C cls hC hX hot hr => by
    obtain ⟨a, oe⟩ := p
    have hu := units64 hr
    exact ss_cons (s_set 1 sc.nd (e_call2 (den := Dz.PL.den__law_kind_of) (p := (a, oe)) (names := raisedNames) (cls := cls) (ok__law_kind_of T) (hr.mono (by decide)) hot hC hX (a_cons (d_var 0) (a_nil)))) (ss_cons (s_if (t_cmp (op_eq' hu) (d_var 1) (d_str)) (ss_one (s_ret (d_tup (a_cons (d_var 1) (a_cons (d_stk) (a_nil)))))) (ss_nil)) (ss_one (s_ret (d_tup (a_cons (d_var 1) (a_nil))))))
theorem ok__law_share {P : Program} {w : World} {K : PySem.W.Frag} {mg : Str → Option Value} {base : Heap} {cA : CA} (T : Txt K mg cA) : Fn P w K mg base 2 "_law_share" 2 Dz.PB.den__law_share := by
  have sc := sc__law_share
  exact T.f__law_share.raw sc fun f cdv A outer s H E cx tk => ss_cons (s_set 2 sc.nd (f_call ((ok__law_gcd T).mono (by decide)) cx tk (a_cons (d_var 0) (a_cons (d_var 1) (a_nil))))) (ss_cons (s_if (t_cmp op_lt' (d_var 1) (d_int)) (ss_one (s_set 2 sc.nd (d_un un_neg' (d_var 2)))) (ss_nil)) (ss_one (s_ret (d_tup (a_cons (d_bin op_div' (d_var 0) (d_var 2)) (a_cons (d_bin op_div' (d_var 1) (d_var 2)) (a_nil)))))))
theorem ok__law_share_like {P : Program} {w : World} {K : PySem.W.Frag} {mg : Str → Option Value} {base : Heap} {cA : CA} (T : Txt K mg cA) : Fn P w K mg base 2 "_law_share_like" 1 Dz.PB.den__law_share_like := by
  have sc := sc__law_share_like
  exact T.f__law_share_like.raw sc fun f cdv A outer s H E cx tk => ss_cons (s_if (DW.pt (w_or (t_not (t_val (d_callB (c_isi) T.n_isinstance bb_isinstance (a_cons (d_var 0) (a_cons (d_ty T.n_tuple bb_tuple) (a_nil)))))) (w_or (t_cmp (op_ne' cx.room.units) (d_callB (c_len) T.n_len bb_len (a_cons (d_var 0) (a_nil))) (d_int)) (w_or (t_not (t_val (f_call ((ok__law_whole_of T).mono (by decide)) cx tk (a_cons (d_ix (d_var 0) (d_int)) (a_nil))))) (w_or1 (t_not (t_val (f_call ((ok__law_whole_of T).mono (by decide)) cx tk (a_cons (d_ix (d_var 0) (d_int)) (a_nil)))))))))) (ss_one (s_ret (d_bl))) (ss_nil)) (ss_one (s_ret (d_and (d_cmp op_gt' (d_ix (d_var 0) (d_int)) (d_int)) (d_one (d_cmp (op_eq' cx.room.units) (f_call ((ok__law_gcd T).mono (by decide)) cx tk (a_cons (d_ix (d_var 0) (d_int)) (a_cons (d_ix (d_var 0) (d_int)) (a_nil)))) (d_int))))))
theorem ok__law_number_of {P : Program} {w : World} {K : PySem.W.Frag} {mg : Str → Option Value} {base : Heap} {cA : CA} (T : Txt K mg cA) : Fn P w K mg base 2 "_law_number_of" 1 Dz.PN.den__law_number_of := by
  have sc := sc__law_number_of
  exact T.f__law_number_of.set sc fun f cdv A outer s H E cx tk => ss_cons (s_set 1 sc.nd (d_lcM rfl sc.nd (i_seq (d_var 0)) (blkOk_by (own := [("_law_row", 7)]) (by kernel_rfl)) (fun _ _ _ _ _ => c_name 7 sc.nd) (fun _ _ _ _ _ => ts_nil) (fun _ _ _ _ _ => d_callTy c_list T.n_list bb_list (a_cons (d_var 7) (a_nil))))) (ss_cons (s_set 2 sc.nd (d_int)) (ss_cons (s_set 3 sc.nd (d_int)) (ss_cons (s_for (passes_of rfl) rfl (i_range1 T.n_range (a_cons (d_callB (c_len) T.n_len bb_len (a_cons (d_var 1) (a_nil))) (a_nil))) (g_name 4 sc.nd) (ss_cons (s_setLc 5 rfl sc.nd (i_range2 T.n_range (a_cons (d_var 4) (a_cons (d_callB (c_len) T.n_len bb_len (a_cons (d_var 1) (a_nil))) (a_nil)))) (blkOk_by (own := [("_law_k", 6)]) (by kernel_rfl)) (fun _ _ _ _ _ => c_name 6 sc.nd) (fun _ _ _ _ _ => ts_one (t_cmp (op_ne' cx.room.units) (d_ix (d_ix (d_var 1) (d_var 6)) (d_var 4)) (d_int))) (fun _ _ _ _ _ => d_var 6) (sw_true rfl rfl rfl (by decide +kernel))) (ss_cons (s_if (t_cmp (op_eq' cx.room.units) (d_var 5) (d_lst (a_nil))) (ss_one (s_ret (d_int))) (ss_nil)) (ss_cons (s_asg (d_tup (a_cons (d_ix (d_var 1) (d_ix (d_var 5) (d_int))) (a_cons (d_ix (d_var 1) (d_var 4)) (a_nil)))) (g_tup rfl (gs_cons (g_sub (W := W0) set_D (d_var 1) (d_var 4)) (gs_cons (g_sub (W := W0) set_D (d_var 1) (d_ix (d_var 5) (d_int))) (gs_nil))))) (ss_cons (s_set 2 sc.nd (d_bin op_mul' (d_var 2) (d_bin op_sub' (d_int) (d_bin op_mul' (d_int) (d_callTy c_int T.n_int bb_int (a_cons (d_cmp (op_ne' cx.room.units) (d_ix (d_var 5) (d_int)) (d_var 4)) (a_nil))))))) (ss_cons (s_for (passes_of rfl) rfl (i_range2 T.n_range (a_cons (d_bin op_add' (d_var 4) (d_int)) (a_cons (d_callB (c_len) T.n_len bb_len (a_cons (d_var 1) (a_nil))) (a_nil)))) (g_name 6 sc.nd) (ss_one (s_asg (f_call ((ok__law_taken T).mono (by decide)) cx tk (a_cons (d_ix (d_var 1) (d_var 6)) (a_cons (d_ix (d_var 1) (d_var 4)) (a_cons (d_var 4) (a_cons (d_var 3) (a_nil)))))) (g_sub (W := W0) set_D (d_var 1) (d_var 6))))) (ss_one (s_set 3 sc.nd (d_ix (d_ix (d_var 1) (d_var 4)) (d_var 4)))))))))) (ss_one (s_ret (d_bin op_mul' (d_var 2) (d_var 3)))))))
theorem ok_less {P : Program} {w : World} {K : PySem.W.Frag} {mg : Str → Option Value} {base : Heap} {cA : CA} (T : Txt K mg cA) : Fn P w K mg base 3 "less" 2 Dz.PL.den_less := by
  have sc := sc_less
  exact T.f_less.raw sc fun f cdv A outer s H E cx tk => ss_one (s_ret (f_call ((ok_share T).mono (by decide)) cx tk (a_cons (d_bin op_sub' (d_bin op_mul' (d_ix (d_var 0) (d_int)) (d_ix (d_var 1) (d_int))) (d_bin op_mul' (d_ix (d_var 1) (d_int)) (d_ix (d_var 0) (d_int)))) (a_cons (d_bin op_mul' (d_ix (d_var 0) (d_int)) (d_ix (d_var 1) (d_int))) (a_nil)))))
theorem ok_times {P : Program} {w : World} {K : PySem.W.Frag} {mg : Str → Option Value} {base : Heap} {cA : CA} (T : Txt K mg cA) : Fn P w K mg base 3 "times" 2 Dz.PL.den_times := by
  have sc := sc_times
  exact T.f_times.raw sc fun f cdv A outer s H E cx tk => ss_one (s_ret (f_call ((ok_share T).mono (by decide)) cx tk (a_cons (d_bin op_mul' (d_ix (d_var 0) (d_int)) (d_ix (d_var 1) (d_int))) (a_cons (d_bin op_mul' (d_ix (d_var 0) (d_int)) (d_ix (d_var 1) (d_int))) (a_nil)))))
theorem ok_by {P : Program} {w : World} {K : PySem.W.Frag} {mg : Str → Option Value} {base : Heap} {cA : CA} (T : Txt K mg cA) : Fn P w K mg base 3 "by" 2 Dz.PL.den_by := by
  have sc := sc_by
  exact T.f_by.raw sc fun f cdv A outer s H E cx tk => ss_one (s_ret (f_call ((ok_share T).mono (by decide)) cx tk (a_cons (d_bin op_mul' (d_ix (d_var 0) (d_int)) (d_ix (d_var 1) (d_int))) (a_cons (d_bin op_mul' (d_ix (d_var 0) (d_int)) (d_ix (d_var 1) (d_int))) (a_nil)))))
theorem ok_slants_good {P : Program} {w : World} {K : PySem.W.Frag} {mg : Str → Option Value} {base : Heap} {cA : CA} (T : Txt K mg cA) : Fn P w K mg base 3 "slants_good" 1 Dz.PL.den_slants_good := by
  have sc := sc_slants_good
  exact T.f_slants_good.raw sc fun f cdv A outer s H E cx tk => ss_cons (s_if (DW.pt (w_or (t_not (t_val (d_callB (c_isi) T.n_isinstance bb_isinstance (a_cons (d_var 0) (a_cons (d_ty T.n_tuple bb_tuple) (a_nil)))))) (w_or (t_cmp (op_eq' cx.room.units) (d_bin op_mod' (d_callB (c_len) T.n_len bb_len (a_cons (d_var 0) (a_nil))) (d_int)) (d_int)) (w_or1 (t_cmp op_gt' (d_callB (c_len) T.n_len bb_len (a_cons (d_var 0) (a_nil))) (d_bin op_sub' (d_bin op_mul' (d_int) (d_glob T.c_MOST_SIZE)) (d_int))))))) (ss_one (s_ret (d_bl))) (ss_nil)) (ss_one (s_ret (d_callB (c_all rfl) T.n_all bb_all (a_cons (d_lc rfl sc.nd (i_seq (d_var 0)) (blkOk_by (own := [("number", 1)]) (by kernel_rfl)) (fun _ _ _ _ _ => c_name 1 sc.nd) (fun _ _ _ _ _ => ts_nil) (fun _ _ _ _ _ => f_call ((ok_is_upto T).mono (by decide)) cx takes0N (a_cons (d_var 1) (a_cons (d_bin op_sub' (d_int) (d_glob T.c_MOST)) (a_cons (d_glob T.c_MOST) (a_nil)))))) (a_nil)))))
theorem ok_share_by {P : Program} {w : World} {K : PySem.W.Frag} {mg : Str → Option Value} {base : Heap} {cA : CA} (T : Txt K mg cA) : Fn P w K mg base 3 "share_by" 1 Dz.PL.den_share_by := by
  have sc := sc_share_by
  exact T.f_share_by.raw sc fun f cdv A outer s H E cx tk => ss_one (s_ret (d_callTy c_tuple T.n_tuple bb_tuple (a_cons (d_lc rfl sc.nd (i_seq (f_call ((ok_tabled T).mono (by decide)) cx tk (a_cons (d_var 0) (a_nil)))) (blkOk_by (own := [("line", 1)]) (by kernel_rfl)) (fun _ _ _ _ _ => c_name 1 sc.nd) (fun _ _ _ _ _ => ts_nil) (fun _ _ _ _ _ => f_call ((ok_whole_row T).mono (by decide)) cx takes0N (a_cons (d_var 1) (a_nil)))) (a_nil))))
theorem ok__law_row_like {P : Program} {w : World} {K : PySem.W.Frag} {mg : Str → Option Value} {base : Heap} {cA : CA} (T : Txt K mg cA) : Fn P w K mg base 3 "_law_row_like" 2 Dz.PB.den__law_row_like := by
  have sc := sc__law_row_like
  exact T.f__law_row_like.raw sc fun f cdv A outer s H E cx tk => ss_one (s_ret (d_and (d_callB (c_isi) T.n_isinstance bb_isinstance (a_cons (d_var 0) (a_cons (d_ty T.n_tuple bb_tuple) (a_nil)))) (d_and (d_cmp (op_eq' cx.room.units) (d_callB (c_len) T.n_len bb_len (a_cons (d_var 0) (a_nil))) (d_var 1)) (d_one (d_callB (c_all rfl) T.n_all bb_all (a_cons (d_lc rfl sc.nd (i_seq (d_var 0)) (blkOk_by (own := [("_law_one", 2)]) (by kernel_rfl)) (fun _ _ _ _ _ => c_name 2 sc.nd) (fun _ _ _ _ _ => ts_nil) (fun _ _ _ _ _ => f_call ((ok__law_share_like T).mono (by decide)) cx takes0N (a_cons (d_var 2) (a_nil)))) (a_nil)))))))
theorem ok__law_slants_of {P : Program} {w : World} {K : PySem.W.Frag} {mg : Str → Option Value} {base : Heap} {cA : CA} (T : Txt K mg cA) : Fn P w K mg base 3 "_law_slants_of" 1 Dz.PB.den__law_slants_of := by
  have sc := sc__law_slants_of
  exact T.f__law_slants_of.set sc fun f cdv A outer s H E cx tk => ss_cons (s_set 1 sc.nd (d_bin op_add' (d_int) (f_call ((ok__law_draw T).mono (by decide)) cx tk (a_cons (d_var 0) (a_cons (d_int) (a_nil)))))) (ss_cons (s_set 2 sc.nd (d_ix (d_lst (a_cons (d_int) (a_cons (d_int) (a_cons (d_int) (a_cons (d_int) (a_cons (d_int) (a_nil))))))) (f_call ((ok__law_draw T).mono (by decide)) cx tk (a_cons (d_var 0) (a_cons (d_int) (a_nil)))))) (ss_cons (s_setLcM 3 rfl sc.nd (i_range1 T.n_range (a_cons (d_bin op_sub' (d_bin op_mul' (d_int) (d_var 1)) (d_int)) (a_nil))) (blkOk_by (own := [("_law_turn", 6)]) (by kernel_rfl)) (fun _ _ _ _ _ => c_name 6 sc.nd) (fun _ _ _ _ _ => ts_nil) (fun _ _ _ _ _ => d_bin op_sub' (f_call ((ok__law_draw T).mono (by decide)) cx takes0N (a_cons (d_var 0) (a_cons (d_bin op_add' (d_bin op_mul' (d_int) (d_var 2)) (d_int)) (a_nil)))) (d_var 2)) (sw_true rfl rfl rfl (by decide +kernel))) (ss_cons (s_set 4 sc.nd (f_call ((ok__law_draw T).mono (by decide)) cx tk (a_cons (d_var 0) (a_cons (d_int) (a_nil))))) (ss_cons (s_set 5 sc.nd (d_bin op_add' (d_int) (f_call ((ok__law_draw T).mono (by decide)) cx tk (a_cons (d_var 0) (a_cons (d_int) (a_nil)))))) (ss_cons (s_if (t_cmp (op_eq' cx.room.units) (d_var 4) (d_int)) (ss_one (s_set 3 sc.nd (d_slM (d_bin op_mul' (d_sl (d_var 3) (o_none) (o_some (d_var 5))) (d_int)) (o_none) (o_some (d_callB (c_len) T.n_len bb_len (a_cons (d_var 3) (a_nil))))))) (ss_nil)) (ss_cons (s_if (t_cmp (op_eq' cx.room.units) (d_var 4) (d_int)) (ss_one (s_asg (d_ix (d_lst (a_cons (d_int) (a_cons (d_un un_neg' (d_int)) (a_cons (d_int) (a_nil))))) (f_call ((ok__law_draw T).mono (by decide)) cx tk (a_cons (d_var 0) (a_cons (d_int) (a_nil))))) (g_sub (W := W0) set_D (d_var 3) (d_bin op_sub' (d_var 1) (d_int))))) (ss_nil)) (ss_cons (s_if (t_cmp (op_eq' cx.room.units) (d_var 4) (d_int)) (ss_one (s_setLcM 3 rfl sc.nd (i_seq (d_var 3)) (blkOk_by (own := [("_law_number", 7)]) (by kernel_rfl)) (fun _ _ _ _ _ => c_name 7 sc.nd) (fun _ _ _ _ _ => ts_nil) (fun _ _ _ _ _ => d_bin op_mul' (d_var 7) (d_callTy c_int T.n_int bb_int (a_cons (d_cmp (op_eq' cx.room.units) (f_call ((ok__law_draw T).mono (by decide)) cx takes0N (a_cons (d_var 0) (a_cons (d_int) (a_nil)))) (d_int)) (a_nil)))) (sw_true rfl rfl rfl (by decide +kernel)))) (ss_nil)) (ss_cons (s_if (t_cmp op_in' (d_var 4) (d_tup (a_cons (d_int) (a_cons (d_int) (a_cons (d_int) (a_nil)))))) (ss_one (s_set 3 sc.nd (d_bin op_addM' (d_sl (d_var 3) (o_none) (o_some (d_var 1))) (d_rev (d_sl (d_var 3) (o_none) (o_some (d_bin op_sub' (d_var 1) (d_int)))))))) (ss_nil)) (ss_one (s_ret (d_callTy c_tuple T.n_tuple bb_tuple (a_cons (d_var 3) (a_nil)))))))))))))
noncomputable def lc__law_back_1 : Den := lcD (seqI (bin2 dAdd (slD mkL (vr 0) (oNone) (oSome (vr 5))) (slD mkL (vr 0) (oSome (bin2 dAdd (vr 5) (cst (.int 1)))) (oNone)))) (setT 7) (yesB) (bin2 dAdd (slD mkL (vr 7) (oNone) (oSome (vr 3))) (slD mkL (vr 7) (oSome (bin2 dAdd (vr 3) (cst (.int 1)))) (oNone))) [7]
noncomputable def lb__law_back_1 : DenS := seqS (setS 6 (lc__law_back_1)) (exS (metL appP (vr 4) (aCons (callD Dz.PB.den__law_share 2 (aCons (bin2 dMul (callD Dz.PN.den__law_number_of 1 (aCons (vr 6) (aNil))) (bin2 dSub (cst (.int 1)) (bin2 dMul (cst (.int 2)) (bin2 dMod (bin2 dAdd (vr 3) (vr 5)) (cst (.int 2)))))) (aCons (vr 1) (aNil)))) (aNil))))
noncomputable def lp__law_back_1 : DenS := forS (rng1 (aCons (callP lenD (aCons (vr 0) (aNil))) (aNil))) (setT 5) (lb__law_back_1)
noncomputable def lb__law_back_2 : DenS := seqS (setS 4 (lstM (aNil))) (seqS (lp__law_back_1) (exS (metL appP (vr 2) (aCons (callP (tupleD) (aCons (vr 4) (aNil))) (aNil)))))
noncomputable def lp__law_back_2 : DenS := forS (rng1 (aCons (callP lenD (aCons (vr 0) (aNil))) (aNil))) (setT 3) (lb__law_back_2)
noncomputable def body__law_back : DenS := seqS (setS 1 (callD Dz.PN.den__law_number_of 1 (aCons (vr 0) (aNil)))) (seqS (setS 2 (lstM (aNil))) (seqS (lp__law_back_2) (retS (callP (tupleD) (aCons (vr 2) (aNil))))))
noncomputable def den__law_back : FDen := bodyS 8 body__law_back
theorem ok__law_back {P : Program} {w : World} {K : PySem.W.Frag} {mg : Str → Option Value} {base : Heap} {cA : CA} (T : Txt K mg cA) : Fn P w K mg base 3 "_law_back" 1 den__law_back := by
  have sc := sc__law_back
  exact T.f__law_back.set sc fun f cdv A outer s H E cx tk => ss_cons (s_set 1 sc.nd (f_call ((ok__law_number_of T).mono (by decide)) cx tk (a_cons (d_var 0) (a_nil)))) (ss_cons (s_set 2 sc.nd (d_lstM (a_nil))) (ss_cons (s_for (passes_of rfl) rfl (i_range1 T.n_range (a_cons (d_callB (c_len) T.n_len bb_len (a_cons (d_var 0) (a_nil))) (a_nil))) (g_name 3 sc.nd) (ss_cons (s_set 4 sc.nd (d_lstM (a_nil))) (ss_cons (s_for (passes_of rfl) rfl (i_range1 T.n_range (a_cons (d_callB (c_len) T.n_len bb_len (a_cons (d_var 0) (a_nil))) (a_nil))) (g_name 5 sc.nd) (ss_cons (s_setLc 6 rfl sc.nd (i_seq (d_bin op_add' (d_sl (d_var 0) (o_none) (o_some (d_var 5))) (d_sl (d_var 0) (o_some (d_bin op_add' (d_var 5) (d_int))) (o_none)))) (blkOk_by (own := [("_law_line", 7)]) (by kernel_rfl)) (fun _ _ _ _ _ => c_name 7 sc.nd) (fun _ _ _ _ _ => ts_nil) (fun _ _ _ _ _ => d_bin op_add' (d_sl (d_var 7) (o_none) (o_some (d_var 3))) (d_sl (d_var 7) (o_some (d_bin op_add' (d_var 3) (d_int))) (o_none))) (sw_true rfl rfl rfl (by decide +kernel))) (ss_one (s_expr (d_append (d_var 4) (a_cons (f_call ((ok__law_share T).mono (by decide)) cx tk (a_cons (d_bin op_mul' (f_call ((ok__law_number_of T).mono (by decide)) cx tk (a_cons (d_var 6) (a_nil))) (d_bin op_sub' (d_int) (d_bin op_mul' (d_int) (d_bin op_mod' (d_bin op_add' (d_var 3) (d_var 5)) (d_int))))) (a_cons (d_var 1) (a_nil)))) (a_nil))))))) (ss_one (s_expr (d_append (d_var 2) (a_cons (d_callTy c_tuple T.n_tuple bb_tuple (a_cons (d_var 4) (a_nil))) (a_nil)))))))) (ss_one (s_ret (d_callTy c_tuple T.n_tuple bb_tuple (a_cons (d_var 2) (a_nil)))))))
theorem ok_scaled {P : Program} {w : World} {K : PySem.W.Frag} {mg : Str → Option Value} {base : Heap} {cA : CA} (T : Txt K mg cA) : Fn P w K mg base 4 "scaled" 2 Dz.PR.den_scaled := by
  have sc := sc_scaled
  exact T.f_scaled.raw sc fun f cdv A outer s H E cx tk => ss_one (s_ret (d_callTy c_tuple T.n_tuple bb_tuple (a_cons (d_lc rfl sc.nd (i_seq (d_var 0)) (blkOk_by (own := [("one", 2)]) (by kernel_rfl)) (fun _ _ _ _ _ => c_name 2 sc.nd) (fun _ _ _ _ _ => ts_nil) (fun _ _ _ _ _ => f_call ((ok_times T).mono (by decide)) cx takes0N (a_cons (d_var 2) (a_cons (d_var 1) (a_nil))))) (a_nil))))
theorem ok_rows_less {P : Program} {w : World} {K : PySem.W.Frag} {mg : Str → Option Value} {base : Heap} {cA : CA} (T : Txt K mg cA) : Fn P w K mg base 4 "rows_less" 2 Dz.PR.den_rows_less := by
  have sc := sc_rows_less
  exact T.f_rows_less.raw sc fun f cdv A outer s H E cx tk => ss_one (s_ret (d_callTy c_tuple T.n_tuple bb_tuple (a_cons (d_lc rfl sc.nd (i_zip T.n_zip (a_cons (d_var 0) (a_cons (d_var 1) (a_nil)))) (blkOk_by (own := [("left", 2), ("right", 3)]) (by kernel_rfl)) (fun _ _ _ _ _ => c_tup rfl (cs_cons (c_name 2 sc.nd) (cs_cons (c_name 3 sc.nd) (cs_nil)))) (fun _ _ _ _ _ => ts_nil) (fun _ _ _ _ _ => f_call ((ok_less T).mono (by decide)) cx takes0N (a_cons (d_var 2) (a_cons (d_var 3) (a_nil))))) (a_nil))))
theorem ok_check_slants {P : Program} {w : World} {K : PySem.W.Frag} {mg : Str → Option Value} {base : Heap} {cA : CA} (T : Txt K mg cA) : Fn P w K mg base 4 "check_slants" 1 Dz.PL.den_check_slants := by
  have sc := sc_check_slants
  exact T.f_check_slants.raw sc fun f cdv A outer s H E cx tk => ss_one (s_if (t_not (t_val (f_call ((ok_slants_good T).mono (by decide)) cx tk (a_cons (d_var 0) (a_nil))))) (ss_one (s_raise0 rfl tk T.x_NoSlants)) (ss_nil))
theorem ok__law_table_like {P : Program} {w : World} {K : PySem.W.Frag} {mg : Str → Option Value} {base : Heap} {cA : CA} (T : Txt K mg cA) : Fn P w K mg base 4 "_law_table_like" 2 Dz.PB.den__law_table_like := by
  have sc := sc__law_table_like
  exact T.f__law_table_like.raw sc fun f cdv A outer s H E cx tk => ss_cons (s_if (DW.pt (w_or (t_not (t_val (d_callB (c_isi) T.n_isinstance bb_isinstance (a_cons (d_var 0) (a_cons (d_ty T.n_tuple bb_tuple) (a_nil)))))) (w_or1 (t_cmp (op_ne' cx.room.units) (d_callB (c_len) T.n_len bb_len (a_cons (d_var 0) (a_nil))) (d_var 1))))) (ss_one (s_ret (d_bl))) (ss_nil)) (ss_one (s_ret (d_callB (c_all rfl) T.n_all bb_all (a_cons (d_lc rfl sc.nd (i_seq (d_var 0)) (blkOk_by (own := [("_law_row", 2)]) (by kernel_rfl)) (fun _ _ _ _ _ => c_name 2 sc.nd) (fun _ _ _ _ _ => ts_nil) (fun _ _ _ _ _ => f_call ((ok__law_row_like T).mono (by decide)) cx takes0N (a_cons (d_var 2) (a_cons (d_var 1) (a_nil))))) (a_nil)))))
theorem ok_lined {P : Program} {w : World} {K : PySem.W.Frag} {mg : Str → Option Value} {base : Heap} {cA : CA} (T : Txt K mg cA) : Fn P w K mg base 5 "lined" 1 Dz.PR.den_lined := by
  have sc := sc_lined
  exact T.f_lined.set sc fun f cdv A outer s H E cx tk => ss_cons (s_set 1 sc.nd (d_callTy c_listM T.n_list bb_list (a_cons (d_var 0) (a_nil)))) (ss_cons (s_set 2 sc.nd (d_lstM (a_nil))) (ss_cons (s_for (passes_of rfl) rfl (i_range1 T.n_range (a_cons (d_callB (c_len) T.n_len bb_len (a_cons (d_ix (d_var 0) (d_int)) (a_nil))) (a_nil))) (g_name 3 sc.nd) (ss_cons (s_setLc 4 rfl sc.nd (i_range2 T.n_range (a_cons (d_callB (c_len) T.n_len bb_len (a_cons (d_var 2) (a_nil))) (a_cons (d_callB (c_len) T.n_len bb_len (a_cons (d_var 1) (a_nil))) (a_nil)))) (blkOk_by (own := [("at", 6)]) (by kernel_rfl)) (fun _ _ _ _ _ => c_name 6 sc.nd) (fun _ _ _ _ _ => ts_one (t_cmp (op_ne' cx.room.units) (d_ix (d_ix (d_var 1) (d_var 6)) (d_var 3)) (d_glob T.c_NOUGHT))) (fun _ _ _ _ _ => d_var 6) (sw_true rfl rfl rfl (by decide +kernel))) (ss_one (s_if (t_cmp (op_ne' cx.room.units) (d_var 4) (d_lst (a_nil))) (ss_cons (s_set 5 sc.nd (d_callB (c_len) T.n_len bb_len (a_cons (d_var 2) (a_nil)))) (ss_cons (s_asg (d_tup (a_cons (d_ix (d_var 1) (d_ix (d_var 4) (d_int))) (a_cons (d_ix (d_var 1) (d_var 5)) (a_nil)))) (g_tup rfl (gs_cons (g_sub (W := W0) set_D (d_var 1) (d_var 5)) (gs_cons (g_sub (W := W0) set_D (d_var 1) (d_ix (d_var 4) (d_int))) (gs_nil))))) (ss_cons (s_asg (f_call ((ok_scaled T).mono (by decide)) cx tk (a_cons (d_ix (d_var 1) (d_var 5)) (a_cons (f_call ((ok_by T).mono (by decide)) cx tk (a_cons (d_glob T.c_ONE) (a_cons (d_ix (d_ix (d_var 1) (d_var 5)) (d_var 3)) (a_nil)))) (a_nil)))) (g_sub (W := W0) set_D (d_var 1) (d_var 5))) (ss_cons (s_for (passes_of rfl) rfl (i_range1 T.n_range (a_cons (d_callB (c_len) T.n_len bb_len (a_cons (d_var 1) (a_nil))) (a_nil))) (g_name 6 sc.nd) (ss_one (s_if (t_cmp (op_ne' cx.room.units) (d_var 6) (d_var 5)) (ss_one (s_asg (f_call ((ok_rows_less T).mono (by decide)) cx tk (a_cons (d_ix (d_var 1) (d_var 6)) (a_cons (f_call ((ok_scaled T).mono (by decide)) cx tk (a_cons (d_ix (d_var 1) (d_var 5)) (a_cons (d_ix (d_ix (d_var 1) (d_var 6)) (d_var 3)) (a_nil)))) (a_nil)))) (g_sub (W := W0) set_D (d_var 1) (d_var 6)))) (ss_nil)))) (ss_one (s_expr (d_append (d_var 2) (a_cons (d_var 3) (a_nil))))))))) (ss_nil))))) (ss_one (s_ret (d_tup (a_cons (d_var 1) (a_cons (d_var 2) (a_nil))))))))
theorem ok_share_table {P : Program} {w : World} {K : PySem.W.Frag} {mg : Str → Option Value} {base : Heap} {cA : CA} (T : Txt K mg cA) : Fn P w K mg base 5 "share_table" 1 Dz.PH.den_share_table := by
  have sc := sc_share_table
  exact T.f_share_table.raw sc fun f cdv A outer s H E cx tk => ss_cons (s_expr (f_call ((ok_check_slants T).mono (by decide)) cx tk (a_cons (d_var 0) (a_nil)))) (ss_one (s_ret (f_call ((ok_share_by T).mono (by decide)) cx tk (a_cons (d_var 0) (a_nil)))))
theorem ok_free_by {P : Program} {w : World} {K : PySem.W.Frag} {mg : Str → Option Value} {base : Heap} {cA : CA} (T : Txt K mg cA) : Fn P w K mg base 6 "free_by" 1 Dz.PF.den_free_by := by
  have sc := sc_free_by
  exact T.f_free_by.raw sc fun f cdv A outer s H E cx tk => ss_cons (s_set 1 sc.nd (f_call ((ok_size_of T).mono (by decide)) cx tk (a_cons (d_var 0) (a_nil)))) (ss_cons (s_asg (f_call ((ok_lined T).mono (by decide)) cx tk (a_cons (d_lc rfl sc.nd (i_seq (f_call ((ok_tabled T).mono (by decide)) cx tk (a_cons (d_var 0) (a_nil)))) (blkOk_by (own := [("line", 9)]) (by kernel_rfl)) (fun _ _ _ _ _ => c_name 9 sc.nd) (fun _ _ _ _ _ => ts_nil) (fun _ _ _ _ _ => f_call ((ok_whole_row T).mono (by decide)) cx takes0N (a_cons (d_var 9) (a_nil)))) (a_nil))) (g_tup rfl (gs_cons (g_name 4 sc.nd) (gs_cons (g_name 5 sc.nd) (gs_nil))))) (ss_cons (s_set 2 sc.nd (d_lstM (a_nil))) (ss_cons (s_for (passes_of rfl) rfl (i_seq (d_lc rfl sc.nd (i_range1 T.n_range (a_cons (d_var 1) (a_nil))) (blkOk_by (own := [("place", 7)]) (by kernel_rfl)) (fun _ _ _ _ _ => c_name 7 sc.nd) (fun _ _ _ _ _ => ts_one (t_cmp op_notin' (d_var 7) (d_var 5))) (fun _ _ _ _ _ => d_var 7))) (g_name 3 sc.nd) (ss_cons (s_set 6 sc.nd (d_callTy c_listM T.n_list bb_list (a_cons (f_call ((ok_unit_row T).mono (by decide)) cx tk (a_cons (d_var 1) (a_cons (d_var 3) (a_nil)))) (a_nil)))) (ss_cons (s_for (passes_of rfl) rfl (i_enum T.n_enumerate (a_cons (d_var 5) (a_nil))) (g_tup rfl (gs_cons (g_name 8 sc.nd) (gs_cons (g_name 7 sc.nd) (gs_nil)))) (ss_one (s_asg (f_call ((ok_less T).mono (by decide)) cx tk (a_cons (d_glob T.c_NOUGHT) (a_cons (d_ix (d_ix (d_var 4) (d_var 8)) (d_var 3)) (a_nil)))) (g_sub (W := W0) set_D (d_var 6) (d_var 7))))) (ss_one (s_expr (d_append (d_var 2) (a_cons (d_callTy c_tuple T.n_tuple bb_tuple (a_cons (d_var 6) (a_nil))) (a_nil)))))))) (ss_one (s_ret (d_var 2))))))
theorem ok_backs_by {P : Program} {w : World} {K : PySem.W.Frag} {mg : Str → Option Value} {base : Heap} {cA : CA} (T : Txt K mg cA) : Fn P w K mg base 6 "backs_by" 1 Dz.PH.den_backs_by := by
  have sc := sc_backs_by
  exact T.f_backs_by.raw sc fun f cdv A outer s H E cx tk => ss_cons (s_set 1 sc.nd (f_call ((ok_size_of T).mono (by decide)) cx tk (a_cons (d_var 0) (a_nil)))) (ss_cons (s_setLc 2 rfl sc.nd (i_enum T.n_enumerate (a_cons (f_call ((ok_tabled T).mono (by decide)) cx tk (a_cons (d_var 0) (a_nil))) (a_nil))) (blkOk_by (own := [("at", 5), ("line", 6)]) (by kernel_rfl)) (fun _ _ _ _ _ => c_tup rfl (cs_cons (c_name 5 sc.nd) (cs_cons (c_name 6 sc.nd) (cs_nil)))) (fun _ _ _ _ _ => ts_nil) (fun _ _ _ _ _ => d_bin op_add' (f_call ((ok_whole_row T).mono (by decide)) cx takes0N (a_cons (d_var 6) (a_nil))) (f_call ((ok_unit_row T).mono (by decide)) cx takes0N (a_cons (d_var 1) (a_cons (d_var 5) (a_nil))))) (sw_true rfl rfl rfl (by decide +kernel))) (ss_cons (s_asg (f_call ((ok_lined T).mono (by decide)) cx tk (a_cons (d_var 2) (a_nil))) (g_tup rfl (gs_cons (g_name 3 sc.nd) (gs_cons (g_name 4 sc.nd) (gs_nil))))) (ss_one (s_ret (d_lc rfl sc.nd (i_range1 T.n_range (a_cons (d_var 1) (a_nil))) (blkOk_by (own := [("at", 5)]) (by kernel_rfl)) (fun _ _ _ _ _ => c_name 5 sc.nd) (fun _ _ _ _ _ => ts_nil) (fun _ _ _ _ _ => d_callTy c_tuple T.n_tuple bb_tuple (a_cons (d_lc rfl sc.nd (i_seq (d_sl (d_var 3) (o_none) (o_some (d_var 1)))) (blkOk_by (own := [("row", 7)]) (by kernel_rfl)) (fun _ _ _ _ _ => c_name 7 sc.nd) (fun _ _ _ _ _ => ts_nil) (fun _ _ _ _ _ => d_ix (d_var 7) (d_bin op_add' (d_var 1) (d_var 5)))) (a_nil))))))))
theorem ok_full_by {P : Program} {w : World} {K : PySem.W.Frag} {mg : Str → Option Value} {base : Heap} {cA : CA} (T : Txt K mg cA) : Fn P w K mg base 7 "full_by" 1 Dz.PF.den_full_by := by
  have sc := sc_full_by
  exact T.f_full_by.raw sc fun f cdv A outer s H E cx tk => ss_one (s_ret (d_cmp (op_eq' cx.room.units) (f_call ((ok_free_by T).mono (by decide)) cx tk (a_cons (d_var 0) (a_nil))) (d_lst (a_nil))))
theorem ok_columns_of {P : Program} {w : World} {K : PySem.W.Frag} {mg : Str → Option Value} {base : Heap} {cA : CA} (T : Txt K mg cA) : Fn P w K mg base 8 "columns_of" 1 Dz.PH.den_columns_of := by
  have sc := sc_columns_of
  exact T.f_columns_of.raw sc fun f cdv A outer s H E cx tk => ss_cons (s_expr (f_call ((ok_check_slants T).mono (by decide)) cx tk (a_cons (d_var 0) (a_nil)))) (ss_cons (s_if (t_not (t_val (f_call ((ok_full_by T).mono (by decide)) cx tk (a_cons (d_var 0) (a_nil))))) (ss_one (s_raise0 rfl tk T.x_NotFull)) (ss_nil)) (ss_one (s_ret (f_call ((ok_backs_by T).mono (by decide)) cx tk (a_cons (d_var 0) (a_nil))))))
theorem ok_back_of {P : Program} {w : World} {K : PySem.W.Frag} {mg : Str → Option Value} {base : Heap} {cA : CA} (T : Txt K mg cA) : Fn P w K mg base 9 "back_of" 1 Dz.PH.den_back_of := by
  have sc := sc_back_of
  exact T.f_back_of.raw sc fun f cdv A outer s H E cx tk => ss_cons (s_set 1 sc.nd (f_call ((ok_columns_of T).mono (by decide)) cx tk (a_cons (d_var 0) (a_nil)))) (ss_one (s_ret (d_callTy c_tuple T.n_tuple bb_tuple (a_cons (d_lc rfl sc.nd (i_range1 T.n_range (a_cons (d_callB (c_len) T.n_len bb_len (a_cons (d_var 1) (a_nil))) (a_nil))) (blkOk_by (own := [("at", 2)]) (by kernel_rfl)) (fun _ _ _ _ _ => c_name 2 sc.nd) (fun _ _ _ _ _ => ts_nil) (fun _ _ _ _ _ => d_callTy c_tuple T.n_tuple bb_tuple (a_cons (d_lc rfl sc.nd (i_seq (d_var 1)) (blkOk_by (own := [("column", 3)]) (by kernel_rfl)) (fun _ _ _ _ _ => c_name 3 sc.nd) (fun _ _ _ _ _ => ts_nil) (fun _ _ _ _ _ => d_ix (d_var 3) (d_var 2))) (a_nil)))) (a_nil)))))
theorem ok_two_rows {P : Program} {w : World} {K : PySem.W.Frag} {mg : Str → Option Value} {base : Heap} {cA : CA} (T : Txt K mg cA) : Fn P w K mg base 9 "two_rows" 1 Dz.PH.den_two_rows := by
  have sc := sc_two_rows
  exact T.f_two_rows.raw sc fun f cdv A outer s H E cx tk => ss_cons (s_set 1 sc.nd (f_call ((ok_columns_of T).mono (by decide)) cx tk (a_cons (d_var 0) (a_nil)))) (ss_one (s_ret (d_tup (a_cons (d_ix (d_var 1) (d_int)) (a_cons (d_ix (d_var 1) (d_un un_neg' (d_int))) (a_nil))))))
noncomputable def tb__law_told_1 : DenS := retS (callSel [("back_of", Dz.PH.den_back_of), ("two_rows", Dz.PH.den_two_rows)] 1 (bin2 dIx (lstD (aCons (cst (.gl "back_of")) (aCons (cst (.gl "two_rows")) (aNil)))) (vr 0)) (aCons (vr 1) (aNil)))
def suite__law_told (a : Addr) (C : Str) : DenS := retS (callD (Dz.PL.den__law_refused a C) 1 (aCons (vr 2) (aNil)))
def suite__law_told' (C : Str) : DenS := fun σ h => suite__law_told 0 C (σ.set 2 (some (.ex 0))) h
theorem suite__law_told_eq : ∀ (a : Addr) (C : Str) (σ : Sd) (h : Hd), C ∈ raisedNames → suite__law_told a C (σ.set 2 (some (.ex a))) h = suite__law_told' C σ h := by
  intro a C σ h hC
  unfold suite__law_told' suite__law_told
  by_cases hi : 2 < σ.length
  · have e : ∀ b, vr 2 (σ.set 2 (some (.ex b))) h = .ok (.ex b) h := fun b => e_vr (List.getElem?_set_self hi)
    simp [e, v_refused a C hC, v_refused 0 C hC]
  · rw [List.set_eq_of_length_le (by omega), List.set_eq_of_length_le (by omega)]
    have e : vr 2 σ h = .stuck := by
      unfold vr
      rw [List.getElem?_eq_none (by omega)]
    simp [e]

noncomputable def body__law_told : DenS := tryS 2 raisedNames (tb__law_told_1) (suite__law_told')
noncomputable def den__law_told : FDen := bodyD 3 body__law_told
theorem ok__law_told {P : Program} {w : World} {K : PySem.W.Frag} {mg : Str → Option Value} {base : Heap} {cA : CA} (T : Txt K mg cA) : Fn P w K mg base 10 "_law_told" 2 den__law_told := by
  have sc := sc__law_told
  exact T.f__law_told.raw sc fun f cdv A outer s H E cx tk => ss_one (s_try 2 (fs := suite__law_told) (fs' := suite__law_told') rfl rfl sc.nd ⟨rfl, by decide, .inl T.g_SlantError⟩ tk T.exm suite__law_told_eq (fun W pn xe tk2 hp2 => ss_one (s_ret (f_callSel (List.forall_mem_cons.mpr ⟨(ok_back_of T).mono (by decide), List.forall_mem_cons.mpr ⟨(ok_two_rows T).mono (by decide), fun _ h => absurd h (by simp)⟩⟩) cx tk2 (d_ix (d_lst (a_cons (d_glob T.f_back_of.con) (a_cons (d_glob T.f_two_rows.con) (a_nil)))) (d_var 0)) (a_cons (d_var 1) (a_nil))))) (fun a oe cls pn C hC hX => ss_one (s_ret (e_call (den := Dz.PL.den__law_refused) (p := (a, oe)) (names := raisedNames) (cls := cls) (ok__law_refused T) (room_suite (cx.room.mono (by decide))) (hot_suite hX) List.mem_cons_self hC hX passes_suite (a_cons (d_var 2) (a_nil))))))
noncomputable def lc__law_right_of_1 : Den := lcD (seqI (vr 4)) (setT 5) (yesB) (callD Dz.PB.den__law_row_like 2 (aCons (vr 5) (aCons (callP lenD (aCons (vr 1) (aNil))) (aNil)))) [5]
noncomputable def lc__law_right_of_2 : Den := lcD (seqI (vr 2)) (setT 5) (yesB) (bin2 dIx (vr 5) (un1 dNeg (cst (.int 1)))) [5]
noncomputable def lc__law_right_of_3 : Den := lcD (seqI (vr 2)) (setT 5) (yesB) (bin2 dIx (vr 5) (cst (.int 0))) [5]
noncomputable def body__law_right_of : DenS := seqS (setS 1 (callD Dz.PB.den__law_table_of 1 (aCons (vr 0) (aNil)))) (seqS (parS 3 4 (aCons (callD den__law_told 2 (aCons (cst (.int 0)) (aCons (vr 0) (aNil)))) (aCons (callD den__law_told 2 (aCons (cst (.int 1)) (aCons (vr 0) (aNil)))) (aNil)))) (seqS (ifS (asB (bin2 dEq (callD Dz.PN.den__law_number_of 1 (aCons (vr 1) (aNil))) (cst (.int 0)))) (retS (chain3 dEq dEq (vr 3) (vr 4) (tupD (aCons (cst (.str "full")) (aNil))))) (nxS)) (seqS (setS 2 (callD den__law_back 1 (aCons (vr 1) (aNil)))) (seqS (ifS (orB (notB (asB (callD Dz.PB.den__law_table_like 2 (aCons (vr 3) (aCons (callP lenD (aCons (vr 1) (aNil))) (aNil)))))) (asB (bin2 dNe (vr 3) (vr 2)))) (retS (cst (.bl false))) (nxS)) (seqS (ifS (orB (notB (asB (callP isiD (aCons (vr 4) (aCons (cst (.ty "tuple")) (aNil)))))) (orB (asB (bin2 dNe (callP lenD (aCons (vr 4) (aNil))) (cst (.int 2)))) (notB (asB (callP allD (aCons (lc__law_right_of_1) (aNil))))))) (retS (cst (.bl false))) (nxS)) (retS (bin2 dEq (vr 4) (tupD (aCons (callP (tupleD) (aCons (lc__law_right_of_3) (aNil))) (aCons (callP (tupleD) (aCons (lc__law_right_of_2) (aNil))) (aNil)))))))))))
noncomputable def den__law_right_of : FDen := bodyD 6 body__law_right_of
theorem ok__law_right_of {P : Program} {w : World} {K : PySem.W.Frag} {mg : Str → Option Value} {base : Heap} {cA : CA} (T : Txt K mg cA) : Fn P w K mg base 11 "_law_right_of" 1 den__law_right_of := by
  have sc := sc__law_right_of
  exact T.f__law_right_of.raw sc fun f cdv A outer s H E cx tk => ss_cons (s_set 1 sc.nd (f_call ((ok__law_table_of T).mono (by decide)) cx tk (a_cons (d_var 0) (a_nil)))) (ss_cons (s_par 3 4 rfl sc.nd (a_cons (f_call ((ok__law_told T).mono (by decide)) cx tk (a_cons (d_int) (a_cons (d_var 0) (a_nil)))) (a_cons (f_call ((ok__law_told T).mono (by decide)) cx tk (a_cons (d_int) (a_cons (d_var 0) (a_nil)))) (a_nil)))) (ss_cons (s_if (t_cmp (op_eq' cx.room.units) (f_call ((ok__law_number_of T).mono (by decide)) cx tk (a_cons (d_var 1) (a_nil))) (d_int)) (ss_one (s_ret (d_chain (op_eq' cx.room.units) (op_eq' cx.room.units) (d_var 3) (d_var 4) (d_tup (a_cons (d_str) (a_nil)))))) (ss_nil)) (ss_cons (s_set 2 sc.nd (f_call ((ok__law_back T).mono (by decide)) cx tk (a_cons (d_var 1) (a_nil)))) (ss_cons (s_if (DW.pt (w_or (t_not (t_val (f_call ((ok__law_table_like T).mono (by decide)) cx tk (a_cons (d_var 3) (a_cons (d_callB (c_len) T.n_len bb_len (a_cons (d_var 1) (a_nil))) (a_nil)))))) (w_or1 (t_cmp (op_ne' cx.room.units) (d_var 3) (d_var 2))))) (ss_one (s_ret (d_bl))) (ss_nil)) (ss_cons (s_if (DW.pt (w_or (t_not (t_val (d_callB (c_isi) T.n_isinstance bb_isinstance (a_cons (d_var 4) (a_cons (d_ty T.n_tuple bb_tuple) (a_nil)))))) (w_or (t_cmp (op_ne' cx.room.units) (d_callB (c_len) T.n_len bb_len (a_cons (d_var 4) (a_nil))) (d_int)) (w_or1 (t_not (t_val (d_callB (c_all rfl) T.n_all bb_all (a_cons (d_lc rfl sc.nd (i_seq (d_var 4)) (blkOk_by (own := [("_law_row", 5)]) (by kernel_rfl)) (fun _ _ _ _ _ => c_name 5 sc.nd) (fun _ _ _ _ _ => ts_nil) (fun _ _ _ _ _ => f_call ((ok__law_row_like T).mono (by decide)) cx takes0N (a_cons (d_var 5) (a_cons (d_callB (c_len) T.n_len bb_len (a_cons (d_var 1) (a_nil))) (a_nil))))) (a_nil))))))))) (ss_one (s_ret (d_bl))) (ss_nil)) (ss_one (s_ret (d_cmp (op_eq' cx.room.units) (d_var 4) (d_tup (a_cons (d_callTy c_tuple T.n_tuple bb_tuple (a_cons (d_lc rfl sc.nd (i_seq (d_var 2)) (blkOk_by (own := [("_law_row", 5)]) (by kernel_rfl)) (fun _ _ _ _ _ => c_name 5 sc.nd) (fun _ _ _ _ _ => ts_nil) (fun _ _ _ _ _ => d_ix (d_var 5) (d_int))) (a_nil))) (a_cons (d_callTy c_tuple T.n_tuple bb_tuple (a_cons (d_lc rfl sc.nd (i_seq (d_var 2)) (blkOk_by (own := [("_law_row", 5)]) (by kernel_rfl)) (fun _ _ _ _ _ => c_name 5 sc.nd) (fun _ _ _ _ _ => ts_nil) (fun _ _ _ _ _ => d_ix (d_var 5) (d_un un_neg' (d_int)))) (a_nil))) (a_nil))))))))))))
noncomputable def lb_law_1 : DenS := ifS (notB (asB (callD den__law_right_of 1 (aCons (vr 1) (aNil))))) (retS (cst (.bl false))) (nxS)
noncomputable def lp_law_1 : DenS := forS (seqI (lstD (aCons (tupD (aCons (cst (.int 0)) (aNil))) (aCons (tupD (aCons (cst (.int 50)) (aNil))) (aCons (tupD (aCons (un1 dNeg (cst (.int 1))) (aNil))) (aCons (tupD (aCons (cst (.int 0)) (aCons (cst (.int 0)) (aCons (cst (.int 1)) (aNil))))) (aCons (tupD (aCons (cst (.int 1)) (aCons (cst (.int 0)) (aCons (cst (.int 0)) (aNil))))) (aCons (tupD (aCons (cst (.int 1)) (aCons (cst (.int 0)) (aCons (cst (.int 1)) (aNil))))) (aCons (tupD (aCons (cst (.int 0)) (aCons (cst (.int 1)) (aCons (cst (.int 0)) (aCons (cst (.int 1)) (aCons (cst (.int 0)) (aNil))))))) (aCons (tupD (aCons (cst (.int 1)) (aCons (cst (.int 1)) (aCons (cst (.int 0)) (aCons (cst (.int 1)) (aCons (cst (.int 1)) (aNil))))))) (aNil))))))))))) (setT 1) (lb_law_1)
noncomputable def lb_law_2 : DenS := seqS (setS 3 (callD Dz.PL.den__law_pen_of 1 (aCons (vr 2) (aNil)))) (seqS (setS 1 (callD Dz.PB.den__law_slants_of 1 (aCons (vr 3) (aNil)))) (seqS (ifS (orB (notB (asB (callD den__law_right_of 1 (aCons (vr 1) (aNil))))) (orB (notB (asB (callD den__law_right_of 1 (aCons (un1 revP (vr 1)) (aNil))))) (notB (asB (callD den__law_right_of 1 (aCons (vr 1) (aNil))))))) (retS (cst (.bl false))) (nxS)) (seqS (setS 4 (callD Dz.PH.den_share_table 1 (aCons (vr 1) (aNil)))) (ifS (orB (notB (asB (callD Dz.PB.den__law_table_like 2 (aCons (vr 4) (aCons (callP lenD (aCons (vr 4) (aNil))) (aNil)))))) (asB (bin2 dNe (vr 4) (callD Dz.PB.den__law_shared 1 (aCons (callD Dz.PB.den__law_table_of 1 (aCons (vr 1) (aNil))) (aNil)))))) (retS (cst (.bl false))) (nxS)))))
noncomputable def lp_law_2 : DenS := forS (seqI (bin2 dAdd (lstD (aCons (callD Dz.PL.den__law_cell_at 2 (aCons (vr 0) (aCons (cst (.int 0)) (aNil)))) (aNil))) (slD mkL (vr 0) (oSome (cst (.int 1))) (oSome (cst (.int 8)))))) (setT 2) (lb_law_2)
noncomputable def body_law : DenS := seqS (lp_law_1) (seqS (lp_law_2) (retS (cst (.bl true))))
noncomputable def den_law : FDen := bodyD 5 body_law
theorem ok_law {P : Program} {w : World} {K : PySem.W.Frag} {mg : Str → Option Value} {base : Heap} {cA : CA} {f : Addr} {fd : FuncData} (T : Txt K mg cA) (F : L2.Fun K "law" "law" st_law f fd) : FnG P w K mg base 12 f fd ["_law_script"] den_law := by
  have sc := sc_law
  exact law_raw F sc fun cdv A outer s H E cx tk => ss_cons (s_for (passes_of rfl) rfl (i_seq (d_lst (a_cons (d_tup (a_cons (d_int) (a_nil))) (a_cons (d_tup (a_cons (d_int) (a_nil))) (a_cons (d_tup (a_cons (d_un un_neg' (d_int)) (a_nil))) (a_cons (d_tup (a_cons (d_int) (a_cons (d_int) (a_cons (d_int) (a_nil))))) (a_cons (d_tup (a_cons (d_int) (a_cons (d_int) (a_cons (d_int) (a_nil))))) (a_cons (d_tup (a_cons (d_int) (a_cons (d_int) (a_cons (d_int) (a_nil))))) (a_cons (d_tup (a_cons (d_int) (a_cons (d_int) (a_cons (d_int) (a_cons (d_int) (a_cons (d_int) (a_nil))))))) (a_cons (d_tup (a_cons (d_int) (a_cons (d_int) (a_cons (d_int) (a_cons (d_int) (a_cons (d_int) (a_nil))))))) (a_nil))))))))))) (g_name 1 sc.nd) (ss_one (s_if (t_not (t_val (f_call ((ok__law_right_of T).mono (by decide)) cx tk (a_cons (d_var 1) (a_nil))))) (ss_one (s_ret (d_bl))) (ss_nil)))) (ss_cons (s_for (passes_of rfl) rfl (i_seq (d_bin op_add' (d_lst (a_cons (f_call ((ok__law_cell_at T).mono (by decide)) cx tk (a_cons (d_var 0) (a_cons (d_int) (a_nil)))) (a_nil))) (d_sl (d_var 0) (o_some (d_int)) (o_some (d_int))))) (g_name 2 sc.nd) (ss_cons (s_set 3 sc.nd (f_call ((ok__law_pen_of T).mono (by decide)) cx tk (a_cons (d_var 2) (a_nil)))) (ss_cons (s_set 1 sc.nd (f_call ((ok__law_slants_of T).mono (by decide)) cx tk (a_cons (d_var 3) (a_nil)))) (ss_cons (s_if (DW.pt (w_or (t_not (t_val (f_call ((ok__law_right_of T).mono (by decide)) cx tk (a_cons (d_var 1) (a_nil))))) (w_or (t_not (t_val (f_call ((ok__law_right_of T).mono (by decide)) cx tk (a_cons (d_rev (d_var 1)) (a_nil))))) (w_or1 (t_not (t_val (f_call ((ok__law_right_of T).mono (by decide)) cx tk (a_cons (d_var 1) (a_nil))))))))) (ss_one (s_ret (d_bl))) (ss_nil)) (ss_cons (s_set 4 sc.nd (f_call ((ok_share_table T).mono (by decide)) cx tk (a_cons (d_var 1) (a_nil)))) (ss_one (s_if (DW.pt (w_or (t_not (t_val (f_call ((ok__law_table_like T).mono (by decide)) cx tk (a_cons (d_var 4) (a_cons (d_callB (c_len) T.n_len bb_len (a_cons (d_var 4) (a_nil))) (a_nil)))))) (w_or1 (t_cmp (op_ne' cx.room.units) (d_var 4) (f_call ((ok__law_shared T).mono (by decide)) cx tk (a_cons (f_call ((ok__law_table_of T).mono (by decide)) cx tk (a_cons (d_var 1) (a_nil))) (a_nil))))))) (ss_one (s_ret (d_bl))) (ss_nil)))))))) (ss_one (s_ret (d_bl))))
end L_slanttables_k25_backs_told

namespace L_slanttables_k25_backs_told
open PySem PySem.Spec PyProof.Rows L2 Dz Dz.PL Dz.PN Dz.PR Dz.PF Dz.PD Dz.PG Dz.PB Dz.PH
theorem pla_encR {B : Nat} {qs : List Rat} (h : ∀ q ∈ qs, Qs B q) : PlA B (encR qs) := pla_tup fun x hx => by
  obtain ⟨q, hq, rfl⟩ := List.mem_map.mp hx
  exact pla_enc (h q hq)
theorem tabS_sq {xs : List Int} {n B : Nat} (hs : Sl xs) (n1 : 1 ≤ n) (n5 : n ≤ 5) (hB : 6 ≤ B) : SqM B (tabS (tabL xs n)) := by
  have lT : (tabS (tabL xs n)).length = n := by rw [tabS, List.length_map, tab_len]
  refine ⟨by omega, by omega, fun r hr => ?_⟩
  obtain ⟨l, hl, rfl⟩ := List.mem_map.mp hr
  exact ⟨by rw [lT, cqs, List.length_map]; exact tab_rows hl, fun q hq => (cq_qs (tab_mem hs.2 hl) q hq).mono hB⟩
theorem for_thingsF {i : Nat} {fb : DenS} (σf : Option D → Sd) (hset : ∀ x d, (σf x).set i (some d) = σf (some d)) : ∀ (items : List D) (x : Option D) (h : Hd), FlatH h → (∀ d ∈ items, ∀ h, FlatH h → ∃ h', FlatH h' ∧ fb (σf (some d)) h = .next (σf (some d)) h') → ∃ y h', FlatH h' ∧ forLoop (setT i) fb [] items (σf x) h = .next (σf y) h'
  | [], x, h, hf, _ => ⟨x, h, hf, for_nil⟩
  | d :: ds, x, h, hf, hb => by
    obtain ⟨h1, f1, e1⟩ := hb d (List.mem_cons_self ..) h hf
    obtain ⟨y, h2, f2, e2⟩ := for_thingsF σf hset ds (some d) h1 f1 fun d' hd' => hb d' (List.mem_cons_of_mem _ hd')
    refine ⟨y, h2, f2, (for_cons (σ1 := σf (some d)) (h1 := h) ?_ e1).trans e2⟩
    show Out.ok ((σf x).set i (some d)) h = _
    rw [hset]
theorem den_back_same : den__law_back = Dz.PN.den__law_back_of := rfl
section
variable {xs : List Int} {n : Nat}
theorem i_told0 : ∀ hh, dIx (.lst [.gl "back_of", .gl "two_rows"]) (.int 0) hh = some (.gl "back_of", hh) := fun hh => ixl0 _ _ _
theorem i_told1 : ∀ hh, dIx (.lst [.gl "back_of", .gl "two_rows"]) (.int 1) hh = some (.gl "two_rows", hh) := fun hh => ixl1 _ _ _ _
theorem lk_told0 : List.lookup ("back_of" : Str) [(("back_of" : Str), Dz.PH.den_back_of), ("two_rows", Dz.PH.den_two_rows)] = some Dz.PH.den_back_of := by rfl
theorem lk_told1 : List.lookup ("two_rows" : Str) [(("back_of" : Str), Dz.PH.den_back_of), ("two_rows", Dz.PH.den_two_rows)] = some Dz.PH.den_two_rows := by rfl
theorem told_ok (hs : Sl xs) (n1 : 1 ≤ n) (n5 : n ≤ 5) (hl : xs.length = 2 * n - 1) (h0 : numT (tabL xs n) ≠ 0) (h : Hd) : ∃ g, FlatH g ∧ den__law_told [.int 0, .tup (xs.map D.int)] h = .ok (encMt (backT (tabL xs n))) (h ++ g) := by
  obtain ⟨g, fg, e⟩ := v_backof' hs n1 n5 hl h0 h
  exact ⟨g, fg, bodyD_ret (by simp -implicitDefEqProofs [body__law_told, startD, e_tryS, tb__law_told_1, i_told0, lk_told0, e])⟩
theorem told_ok1 (hs : Sl xs) (n1 : 1 ≤ n) (n5 : n ≤ 5) (hl : xs.length = 2 * n - 1) (h0 : numT (tabL xs n) ≠ 0) (h : Hd) : ∃ g, FlatH g ∧ den__law_told [.int 1, .tup (xs.map D.int)] h = .ok (.tup [encR (colB (tabL xs n) n 0), encR (colB (tabL xs n) n (n - 1))]) (h ++ g) := by
  obtain ⟨g, fg, e⟩ := v_tworows hs n1 n5 hl h0 h
  exact ⟨g, fg, bodyD_ret (by simp -implicitDefEqProofs [body__law_told, startD, e_tryS, tb__law_told_1, i_told1, lk_told1, e])⟩
theorem told_f (hs : Sl xs) (n1 : 1 ≤ n) (n5 : n ≤ 5) (hl : xs.length = 2 * n - 1) (h0 : numT (tabL xs n) = 0) (w : Nat) (hw : w < 2) (h : Hd) : ∃ g, FlatH g ∧ den__law_told [.int (w : Int), .tup (xs.map D.int)] h = .ok (.tup [.str "full"]) (h ++ g) := by
  obtain ⟨g, fg, e⟩ := v_columnsN hs n1 n5 hl h0 h
  refine ⟨g, fg, ?_⟩
  have r := v_refused 0 _ rn_NotFull (h ++ g)
  have k := PL.kn_NotFull
  have e0 : Dz.PH.den_back_of [.tup (xs.map D.int)] h = .exc ⟨"NotFull", none⟩ (h ++ g) := bodyD_exc (σ := [some (.tup (xs.map D.int)), none, none, none]) (by simp -implicitDefEqProofs [body_back_of, startD, e])
  have e1 : Dz.PH.den_two_rows [.tup (xs.map D.int)] h = .exc ⟨"NotFull", none⟩ (h ++ g) := bodyD_exc (σ := [some (.tup (xs.map D.int)), none]) (by simp -implicitDefEqProofs [body_two_rows, startD, e])
  obtain rfl | rfl : w = 0 ∨ w = 1 := by omega
  · exact bodyD_ret (by simp -implicitDefEqProofs [body__law_told, startD, e_tryS, tb__law_told_1, i_told0, lk_told0, e0, tryO_exc rn_NotFull, suite__law_told', suite__law_told, r, k])
  · exact bodyD_ret (by simp -implicitDefEqProofs [body__law_told, startD, e_tryS, tb__law_told_1, i_told1, lk_told1, e1, tryO_exc rn_NotFull, suite__law_told', suite__law_told, r, k])
theorem v_num (hs : Sl xs) (n1 : 1 ≤ n) (n5 : n ≤ 5) (h : Hd) : Dz.PN.den__law_number_of [encT (tabL xs n)] h = .ok (.int (numT (tabL xs n))) h := by
  have tl : (tabL xs n).length = n := tab_len xs n
  exact (v_numberof (t := tabL xs n) (b := 6) (by rw [tl]; exact tab_sq xs n) (by omega) (bl_all (tab_bl hs)) (by decide) (by
    rw [tl]
    obtain rfl | rfl | rfl | rfl | rfl : n = 1 ∨ n = 2 ∨ n = 3 ∨ n = 4 ∨ n = 5 := by omega
    all_goals decide) h).1
theorem eq_full (h : Hd) : eqD false (.tup [.str "full"]) (.tup [.str "full"]) h = some (.bl true, h) := rfl
theorem v_right (hs : Sl xs) (n1 : 1 ≤ n) (n5 : n ≤ 5) (hl : xs.length = 2 * n - 1) (h : Hd) : ∃ g, FlatH g ∧ den__law_right_of [.tup (xs.map D.int)] h = .ok (.bl true) (h ++ g) := by
  by_cases h0 : numT (tabL xs n) = 0
  · obtain ⟨g0, f0, e0⟩ := told_f hs n1 n5 hl h0 0 (by decide) h
    obtain ⟨g1, f1, e1⟩ := told_f hs n1 n5 hl h0 1 (by decide) (h ++ g0)
    have et := v_tableof n1 n5 hl h
    have en := v_num hs n1 n5 (h ++ g0 ++ g1)
    rw [h0] at en
    rw [show ((0 : Nat) : Int) = 0 from rfl] at e0
    rw [show ((1 : Nat) : Int) = 1 from rfl] at e1
    refine ⟨g0 ++ g1, flat_append f0 f1, bodyD_ret ?_⟩
    unfold body__law_right_of
    rw [show startD 6 [.tup (xs.map D.int)] = [some (.tup (xs.map D.int)), none, none, none, none, none] from rfl]
    rw [← List.append_assoc]
    generalize encT (tabL xs n) = T at *
    generalize xs.map D.int = X at *
    generalize h ++ g0 = HA at *
    generalize HA ++ g1 = HB at *
    simp -implicitDefEqProofs [parS, et, e0, e1, en, kCh1, show dEq = eqD false from rfl, eq_full]
  · obtain ⟨g0, f0, e0⟩ := told_ok hs n1 n5 hl h0 h
    obtain ⟨g1, f1, e1⟩ := told_ok1 hs n1 n5 hl h0 (h ++ g0)
    have et := v_tableof n1 n5 hl h
    have en := v_num hs n1 n5 (h ++ g0 ++ g1)
    obtain ⟨eb, qb, lb⟩ := v_backof (tab_sq xs n) n5 (tab_bl hs) h0 (h ++ g0 ++ g1)
    have sB : SqM 224 (backT (tabL xs n)) := ⟨by omega, by omega, fun r hr => ⟨by rw [(qb r hr).1, lb], (qb r hr).2⟩⟩
    have ln : ∀ hh, lenD [encT (tabL xs n)] hh = some (.int (n : Int), hh) := fun hh => by unfold encT; rw [p_lenl, List.length_map, tab_len]
    have tk := v_ltlike (pla_encMt sB) n (h ++ g0 ++ g1)
    have t1 := tabLk_encMt sB
    rw [lb] at t1
    rw [t1] at tk
    have q1 := p_eqM true (backT (tabL xs n)) (backT (tabL xs n)) (h ++ g0 ++ g1)
    rw [decide_eq_true rfl] at q1
    have q1 : eqD true (encMt (backT (tabL xs n))) (encMt (backT (tabL xs n))) (h ++ g0 ++ g1) = some (.bl false, h ++ g0 ++ g1) := q1
    have bT : backT (tabL xs n) = (List.range n).map fun i => (List.range n).map fun j => entQ (tabL xs n) i j := by unfold backT; rw [tab_len]
    have cell : ∀ c, c < n → (backT (tabL xs n)).map (fun r => r.getD c 0) = colB (tabL xs n) n c := fun c hc => by
      rw [bT, List.map_map]
      unfold colB
      refine List.map_congr_left fun i _ => ?_
      show ((List.range n).map fun j => entQ (tabL xs n) i j).getD c 0 = _
      rw [List.getD, List.getElem?_map, List.getElem?_range hc]
      rfl
    have qc : ∀ c, c < n → ∀ q ∈ colB (tabL xs n) n c, Qs 224 q := fun c hc q hq => by
      rw [← cell c hc] at hq
      obtain ⟨r, hr, rfl⟩ := List.mem_map.mp hq
      exact getD_q (by decide) (qb r hr).2 c
    have rk : ∀ c, c < n → ∀ hh, Dz.PB.den__law_row_like [encR (colB (tabL xs n) n c), .int (n : Int)] hh = .ok (.bl true) hh := fun c hc hh => by
      have e := v_lrlike (pla_encR (qc c hc)) n hh
      have r := rowG_enc (colB (tabL xs n) n c)
      rw [colB_len] at r
      rw [show encR (colB (tabL xs n) n c) = .tup ((colB (tabL xs n) n c).map encQ) from rfl] at e ⊢
      rw [r] at e
      exact e
    have rk0 := rk 0 (by omega)
    have rk1 := rk (n - 1) (by omega)
    have c0 : ∀ x5, lc__law_right_of_3 [some (.tup (xs.map D.int)), some (encT (tabL xs n)), some (encMt (backT (tabL xs n))), some (encMt (backT (tabL xs n))), some (.tup [encR (colB (tabL xs n) n 0), encR (colB (tabL xs n) n (n - 1))]), x5] (h ++ g0 ++ g1) = .ok (.lst ((colB (tabL xs n) n 0).map encQ)) (h ++ g0 ++ g1) := fun x5 => by
      rw [← cell 0 (by omega), List.map_map]
      refine lcD_seq (l := backT (tabL xs n)) (g := encR) (by simp -implicitDefEqProofs [x_seqI, encMt, kSeq_tup]) fun r hr => ?_
      have ix := ixr (r := r) (j := 0) (by rw [(qb r hr).1]; omega) (h ++ g0 ++ g1)
      rw [show ((0 : Nat) : Int) = 0 from rfl] at ix
      generalize h ++ g0 ++ g1 = HB at *
      simp -implicitDefEqProofs [wipeD, ix]
    have c1 : ∀ x5, lc__law_right_of_2 [some (.tup (xs.map D.int)), some (encT (tabL xs n)), some (encMt (backT (tabL xs n))), some (encMt (backT (tabL xs n))), some (.tup [encR (colB (tabL xs n) n 0), encR (colB (tabL xs n) n (n - 1))]), x5] (h ++ g0 ++ g1) = .ok (.lst ((colB (tabL xs n) n (n - 1)).map encQ)) (h ++ g0 ++ g1) := fun x5 => by
      rw [← cell (n - 1) (by omega), List.map_map]
      refine lcD_seq (l := backT (tabL xs n)) (g := encR) (by simp -implicitDefEqProofs [x_seqI, encMt, kSeq_tup]) fun r hr => ?_
      have ix := ixr_last (r := r) (by rw [(qb r hr).1]; omega) (h ++ g0 ++ g1)
      rw [(qb r hr).1] at ix
      generalize h ++ g0 ++ g1 = HB at *
      simp -implicitDefEqProofs [wipeD, p_neg1, ix]
    have q2 := p_eqM false [colB (tabL xs n) n 0, colB (tabL xs n) n (n - 1)] [colB (tabL xs n) n 0, colB (tabL xs n) n (n - 1)] (h ++ g0 ++ g1)
    rw [decide_eq_true rfl, xB_f] at q2
    have q2 : eqD false (.tup [encR (colB (tabL xs n) n 0), encR (colB (tabL xs n) n (n - 1))]) (.tup [encR (colB (tabL xs n) n 0), encR (colB (tabL xs n) n (n - 1))]) (h ++ g0 ++ g1) = some (.bl true, h ++ g0 ++ g1) := q2
    have lc1 : ∀ x5, lc__law_right_of_1 [some (.tup (xs.map D.int)), some (encT (tabL xs n)), some (encMt (backT (tabL xs n))), some (encMt (backT (tabL xs n))), some (.tup [encR (colB (tabL xs n) n 0), encR (colB (tabL xs n) n (n - 1))]), x5] (h ++ g0 ++ g1) = .ok (.lst ([encR (colB (tabL xs n) n 0), encR (colB (tabL xs n) n (n - 1))].map fun _ => .bl true)) (h ++ g0 ++ g1) := fun x5 => by
      refine lcD_seqD (by simp -implicitDefEqProofs [x_seqI, kSeq_tup]) fun r hr => ?_
      simp only [List.mem_cons, List.mem_nil_iff, or_false] at hr
      generalize encT (tabL xs n) = T at *
      rcases hr with rfl | rfl
      · simp -implicitDefEqProofs [wipeD, ln, rk0]
      · simp -implicitDefEqProofs [wipeD, ln, rk1]
    have al : allD [.lst ([encR (colB (tabL xs n) n 0), encR (colB (tabL xs n) n (n - 1))].map fun _ => .bl true)] (h ++ g0 ++ g1) = some (.bl true, h ++ g0 ++ g1) := all_bls (fun _ => true) _ _
    refine ⟨g0 ++ g1, flat_append f0 f1, bodyD_ret ?_⟩
    unfold body__law_right_of
    rw [show startD 6 [.tup (xs.map D.int)] = [some (.tup (xs.map D.int)), none, none, none, none, none] from rfl]
    rw [← List.append_assoc]
    rw [show den__law_back = Dz.PN.den__law_back_of from rfl]
    generalize encT (tabL xs n) = T at *
    generalize xs.map D.int = X at *
    generalize encMt (backT (tabL xs n)) = B at *
    unfold encR at *
    generalize (colB (tabL xs n) n 0).map encQ = C0 at *
    generalize (colB (tabL xs n) n (n - 1)).map encQ = C1 at *
    generalize hZ : ([D.tup C0, D.tup C1].map fun _ => D.bl true) = Z at *
    have l2 : ∀ hh, lenD [.tup [.tup C0, .tup C1]] hh = some (.int 2, hh) := fun hh => rfl
    generalize h ++ g0 = HA at *
    generalize HA ++ g1 = HB at *
    simp -implicitDefEqProofs [parS, et, e0, e1, en, h0, eb, ln, tk, show dNe = eqD true from rfl, q1, isi_tuple', l2, lc1, al, c0, c1, show dEq = eqD false from rfl, q2]
theorem v_right' (hs : Sl xs) (h : Hd) (hf : FlatH h) : ∃ h', FlatH h' ∧ den__law_right_of [.tup (xs.map D.int)] h = .ok (.bl true) h' := by
  obtain ⟨n, n1, n5, hl⟩ := hs.1
  obtain ⟨g, fg, e⟩ := v_right hs n1 n5 hl h
  exact ⟨_, flat_append hf fg, e⟩
end
theorem lb1_ok {sc : D} {x2 x3 x4 : Option D} {xs : List Int} (hs : Sl xs) (h : Hd) (hf : FlatH h) : ∃ h', FlatH h' ∧ lb_law_1 [some sc, some (.tup (xs.map D.int)), x2, x3, x4] h = .next [some sc, some (.tup (xs.map D.int)), x2, x3, x4] h' := by
  obtain ⟨h', f, e⟩ := v_right' hs h hf
  refine ⟨h', f, ?_⟩
  generalize xs.map D.int = X at *
  simp -implicitDefEqProofs [lb_law_1, e]
theorem lb2_ok {sc : D} {c : Int} {x1 x3 x4 : Option D} {H : Hd} (hf : FlatH H) : ∃ σ' H', lb_law_2 [some sc, x1, some (.int c), x3, x4] H = .next σ' H' ∧ σ'.length = 5 ∧ σ'[0]? = some (some sc) ∧ FlatH H' := by
  obtain ⟨pv, pv1, e1⟩ := v_pen c H
  have p1 := pen_at0 pv H pv1
  have f1 := pen_flat hf pv1
  generalize hi : H.length = ip at e1 p1
  generalize H ++ [Ob.lst pv] = H1 at e1 p1 f1
  obtain ⟨xs, H2, e2, Sx, s2⟩ := PB.v_slantsof p1 f1
  have p2 := s2.at p1
  have f2 := s2.flat f1
  obtain ⟨n, n1, n5, hl⟩ := Sx.1
  obtain ⟨H3, f3, r1⟩ := v_right' Sx H2 f2
  obtain ⟨H4, f4, r2⟩ := v_right' (Sl_rev Sx) H3 f3
  obtain ⟨H5, f5, r3⟩ := v_right' Sx H4 f4
  have es := v_sharetable Sx n1 n5 hl H5
  have sS := tabS_sq (n := n) (B := 6) Sx n1 n5 (by decide)
  have lS : (tabS (tabL xs n)).length = n := by rw [tabS, List.length_map, tab_len]
  have ln : ∀ hh, lenD [encMt (tabS (tabL xs n))] hh = some (.int (n : Int), hh) := fun hh => by unfold encMt; rw [p_lent, List.length_map, lS]
  have tk := v_ltlike (pla_encMt sS) n H5
  have t1 := tabLk_encMt sS
  rw [lS] at t1
  rw [t1] at tk
  have et := PB.v_tableof n1 n5 hl H5
  have sh := v_shared (t := tabL xs n) H5
  rw [tabS_eq] at sh
  have q1 := p_eqM true (tabS (tabL xs n)) (tabS (tabL xs n)) H5
  rw [decide_eq_true rfl] at q1
  have q1 : eqD true (encMt (tabS (tabL xs n))) (encMt (tabS (tabL xs n))) H5 = some (.bl false, H5) := q1
  refine ⟨[some sc, some (.tup (xs.map D.int)), some (.int c), some (.ref ip), some (encMt (tabS (tabL xs n)))], H5, ?_, rfl, rfl, f5⟩
  rw [List.map_reverse] at r2
  unfold lb_law_2
  generalize encMt (tabS (tabL xs n)) = S at *
  generalize encT (tabL xs n) = T at *
  generalize xs.map D.int = X at *
  simp -implicitDefEqProofs [e1, e2, r1, r2, r3, es, ln, tk, et, sh, show dNe = eqD true from rfl, q1]
theorem law_true (ns : List Int) (hl : ns.length ≤ 63) : ∃ h, den_law [.scr (ns.map D.int)] [] = .ok (.bl true) h := by
  have sl : ∀ {xs : List Int} {n : Nat}, 1 ≤ n → n ≤ 5 → xs.length = 2 * n - 1 → (∀ x ∈ xs, -50 ≤ x ∧ x ≤ 50) → Sl xs := fun n1 n5 hl h => ⟨⟨_, n1, n5, hl⟩, h⟩
  obtain ⟨y1, h1, f1, e1⟩ := for_thingsF (i := 1) (fb := lb_law_1) (fun x => [some (.scr (ns.map D.int)), x, none, none, none]) (fun _ _ => rfl) ([[0], [50], [-1], [0, 0, 1], [1, 0, 0], [1, 0, 1], [0, 1, 0, 1, 0], [1, 1, 0, 1, 1]].map fun xs : List Int => D.tup (xs.map D.int)) none [] (fun ob hb => absurd hb (by simp)) fun d hd h hf => by
    obtain ⟨xs, hx, rfl⟩ := List.mem_map.mp hd
    refine lb1_ok ?_ h hf
    simp only [List.mem_cons, List.mem_nil_iff, or_false] at hx
    rcases hx with rfl | rfl | rfl | rfl | rfl | rfl | rfl | rfl
    · exact sl (n := 1) (by decide) (by decide) rfl (by decide)
    · exact sl (n := 1) (by decide) (by decide) rfl (by decide)
    · exact sl (n := 1) (by decide) (by decide) rfl (by decide)
    · exact sl (n := 2) (by decide) (by decide) rfl (by decide)
    · exact sl (n := 2) (by decide) (by decide) rfl (by decide)
    · exact sl (n := 2) (by decide) (by decide) rfl (by decide)
    · exact sl (n := 3) (by decide) (by decide) rfl (by decide)
    · exact sl (n := 3) (by decide) (by decide) rfl (by decide)
  obtain ⟨σ', h', e, _, _, _⟩ := cells_loop (n := 5) (v := 2) (k := 8) (fb := lb_law_2) (lp := lp_law_2) (ns := ns) (σ := [some (.scr (ns.map D.int)), y1, none, none, none]) (h := h1) rfl rfl f1 (by decide) rfl fun c σ h a1 a2 a3 => by
    match σ, a1, a2 with
    | [x0, x1, x2, x3, x4], _, a2 =>
      obtain rfl : x0 = some (.scr (ns.map D.int)) := by simpa using a2
      exact lb2_ok a3
  refine ⟨h', bodyD_ret ?_⟩
  unfold body_law
  rw [show startD 5 [.scr (ns.map D.int)] = [some (.scr (ns.map D.int)), none, none, none, none] from rfl]
  have e1 : forLoop (setT 1) lb_law_1 [] [.tup [.int 0], .tup [.int 50], .tup [.int (-1)], .tup [.int 0, .int 0, .int 1], .tup [.int 1, .int 0, .int 0], .tup [.int 1, .int 0, .int 1], .tup [.int 0, .int 1, .int 0, .int 1, .int 0], .tup [.int 1, .int 1, .int 0, .int 1, .int 1]] [some (.scr (ns.map D.int)), none, none, none, none] [] = .next [some (.scr (ns.map D.int)), y1, none, none, none] h1 := e1
  simp -implicitDefEqProofs [lp_law_1, x_forS, x_seqI, kSeq_lst, p_neg1, e1, e]
end L_slanttables_k25_backs_told

namespace L_slanttables_k25_backs_told
open PySem PySem.Spec PyProof.Rows L2 Dz Dz.PL
theorem all_mk {P : Program} {w : World} {K : PySem.W.Frag} {h : Heap} {mg : Str → Option Value} {fa : Addr} {aC_SlantError aC_NoSlants aC_NoRow aC_NoNumber aC_NoLine aC_NotEven aC_NotFull aC_NotStrong aC_NoText aC_TooGreat : Addr} {t_MOST : Tok} {t_MOST_SIZE : Tok} {t1_NOUGHT t2_NOUGHT : Tok} {ad_NOUGHT : Addr} {cd_NOUGHT : Option Addr} {cn_NOUGHT : Nat} {cs_NOUGHT : Array (Option Value)} {t1_ONE t2_ONE : Tok} {ad_ONE : Addr} {cd_ONE : Option Addr} {cn_ONE : Nat} {cs_ONE : Array (Option Value)} {f_is_whole : Addr} {od_is_whole an_is_whole : Option Addr} {sl_is_whole : Array (Option Value)} {oc_is_whole kV_is_whole dc_is_whole pm_is_whole cd_is_whole ct_is_whole : Value} {f_common : Addr} {od_common an_common : Option Addr} {sl_common : Array (Option Value)} {oc_common kV_common dc_common pm_common cd_common ct_common : Value} {f_whole_row : Addr} {od_whole_row an_whole_row : Option Addr} {sl_whole_row : Array (Option Value)} {oc_whole_row kV_whole_row dc_whole_row pm_whole_row cd_whole_row ct_whole_row : Value} {f_unit_row : Addr} {od_unit_row an_unit_row : Option Addr} {sl_unit_row : Array (Option Value)} {oc_unit_row kV_unit_row dc_unit_row pm_unit_row cd_unit_row ct_unit_row : Value} {f_size_of : Addr} {od_size_of an_size_of : Option Addr} {sl_size_of : Array (Option Value)} {oc_size_of kV_size_of dc_size_of pm_size_of cd_size_of ct_size_of : Value} {f__law_cell_at : Addr} {od__law_cell_at an__law_cell_at : Option Addr} {sl__law_cell_at : Array (Option Value)} {oc__law_cell_at kV__law_cell_at dc__law_cell_at pm__law_cell_at cd__law_cell_at ct__law_cell_at : Value} {f__law_next : Addr} {od__law_next an__law_next : Option Addr} {sl__law_next : Array (Option Value)} {oc__law_next kV__law_next dc__law_next pm__law_next cd__law_next ct__law_next : Value} {f__law_pen_of : Addr} {od__law_pen_of an__law_pen_of : Option Addr} {sl__law_pen_of : Array (Option Value)} {oc__law_pen_of kV__law_pen_of dc__law_pen_of pm__law_pen_of cd__law_pen_of ct__law_pen_of : Value} {f__law_whole_of : Addr} {od__law_whole_of an__law_whole_of : Option Addr} {sl__law_whole_of : Array (Option Value)} {oc__law_whole_of kV__law_whole_of dc__law_whole_of pm__law_whole_of cd__law_whole_of ct__law_whole_of : Value} {f__law_kind_of : Addr} {od__law_kind_of an__law_kind_of : Option Addr} {sl__law_kind_of : Array (Option Value)} {oc__law_kind_of kV__law_kind_of dc__law_kind_of pm__law_kind_of cd__law_kind_of ct__law_kind_of : Value} {f__law_gcd : Addr} {od__law_gcd an__law_gcd : Option Addr} {sl__law_gcd : Array (Option Value)} {oc__law_gcd kV__law_gcd dc__law_gcd pm__law_gcd cd__law_gcd ct__law_gcd : Value} {f__law_table_of : Addr} {od__law_table_of an__law_table_of : Option Addr} {sl__law_table_of : Array (Option Value)} {oc__law_table_of kV__law_table_of dc__law_table_of pm__law_table_of cd__law_table_of ct__law_table_of : Value} {f__law_taken : Addr} {od__law_taken an__law_taken : Option Addr} {sl__law_taken : Array (Option Value)} {oc__law_taken kV__law_taken dc__law_taken pm__law_taken cd__law_taken ct__law_taken : Value} {f__law_shared : Addr} {od__law_shared an__law_shared : Option Addr} {sl__law_shared : Array (Option Value)} {oc__law_shared kV__law_shared dc__law_shared pm__law_shared cd__law_shared ct__law_shared : Value} {f_is_upto : Addr} {od_is_upto an_is_upto : Option Addr} {sl_is_upto : Array (Option Value)} {oc_is_upto kV_is_upto dc_is_upto pm_is_upto cd_is_upto ct_is_upto : Value} {f_share : Addr} {od_share an_share : Option Addr} {sl_share : Array (Option Value)} {oc_share kV_share dc_share pm_share cd_share ct_share : Value} {f_tabled : Addr} {od_tabled an_tabled : Option Addr} {sl_tabled : Array (Option Value)} {oc_tabled kV_tabled dc_tabled pm_tabled cd_tabled ct_tabled : Value} {f__law_draw : Addr} {od__law_draw an__law_draw : Option Addr} {sl__law_draw : Array (Option Value)} {oc__law_draw kV__law_draw dc__law_draw pm__law_draw cd__law_draw ct__law_draw : Value} {f__law_refused : Addr} {od__law_refused an__law_refused : Option Addr} {sl__law_refused : Array (Option Value)} {oc__law_refused kV__law_refused dc__law_refused pm__law_refused cd__law_refused ct__law_refused : Value} {f__law_share : Addr} {od__law_share an__law_share : Option Addr} {sl__law_share : Array (Option Value)} {oc__law_share kV__law_share dc__law_share pm__law_share cd__law_share ct__law_share : Value} {f__law_share_like : Addr} {od__law_share_like an__law_share_like : Option Addr} {sl__law_share_like : Array (Option Value)} {oc__law_share_like kV__law_share_like dc__law_share_like pm__law_share_like cd__law_share_like ct__law_share_like : Value} {f__law_number_of : Addr} {od__law_number_of an__law_number_of : Option Addr} {sl__law_number_of : Array (Option Value)} {oc__law_number_of kV__law_number_of dc__law_number_of pm__law_number_of cd__law_number_of ct__law_number_of : Value} {f_less : Addr} {od_less an_less : Option Addr} {sl_less : Array (Option Value)} {oc_less kV_less dc_less pm_less cd_less ct_less : Value} {f_times : Addr} {od_times an_times : Option Addr} {sl_times : Array (Option Value)} {oc_times kV_times dc_times pm_times cd_times ct_times : Value} {f_by : Addr} {od_by an_by : Option Addr} {sl_by : Array (Option Value)} {oc_by kV_by dc_by pm_by cd_by ct_by : Value} {f_slants_good : Addr} {od_slants_good an_slants_good : Option Addr} {sl_slants_good : Array (Option Value)} {oc_slants_good kV_slants_good dc_slants_good pm_slants_good cd_slants_good ct_slants_good : Value} {f_share_by : Addr} {od_share_by an_share_by : Option Addr} {sl_share_by : Array (Option Value)} {oc_share_by kV_share_by dc_share_by pm_share_by cd_share_by ct_share_by : Value} {f__law_row_like : Addr} {od__law_row_like an__law_row_like : Option Addr} {sl__law_row_like : Array (Option Value)} {oc__law_row_like kV__law_row_like dc__law_row_like pm__law_row_like cd__law_row_like ct__law_row_like : Value} {f__law_slants_of : Addr} {od__law_slants_of an__law_slants_of : Option Addr} {sl__law_slants_of : Array (Option Value)} {oc__law_slants_of kV__law_slants_of dc__law_slants_of pm__law_slants_of cd__law_slants_of ct__law_slants_of : Value} {f__law_back : Addr} {od__law_back an__law_back : Option Addr} {sl__law_back : Array (Option Value)} {oc__law_back kV__law_back dc__law_back pm__law_back cd__law_back ct__law_back : Value} {f_scaled : Addr} {od_scaled an_scaled : Option Addr} {sl_scaled : Array (Option Value)} {oc_scaled kV_scaled dc_scaled pm_scaled cd_scaled ct_scaled : Value} {f_rows_less : Addr} {od_rows_less an_rows_less : Option Addr} {sl_rows_less : Array (Option Value)} {oc_rows_less kV_rows_less dc_rows_less pm_rows_less cd_rows_less ct_rows_less : Value} {f_check_slants : Addr} {od_check_slants an_check_slants : Option Addr} {sl_check_slants : Array (Option Value)} {oc_check_slants kV_check_slants dc_check_slants pm_check_slants cd_check_slants ct_check_slants : Value} {f__law_table_like : Addr} {od__law_table_like an__law_table_like : Option Addr} {sl__law_table_like : Array (Option Value)} {oc__law_table_like kV__law_table_like dc__law_table_like pm__law_table_like cd__law_table_like ct__law_table_like : Value} {f_lined : Addr} {od_lined an_lined : Option Addr} {sl_lined : Array (Option Value)} {oc_lined kV_lined dc_lined pm_lined cd_lined ct_lined : Value} {f_share_table : Addr} {od_share_table an_share_table : Option Addr} {sl_share_table : Array (Option Value)} {oc_share_table kV_share_table dc_share_table pm_share_table cd_share_table ct_share_table : Value} {f_free_by : Addr} {od_free_by an_free_by : Option Addr} {sl_free_by : Array (Option Value)} {oc_free_by kV_free_by dc_free_by pm_free_by cd_free_by ct_free_by : Value} {f_backs_by : Addr} {od_backs_by an_backs_by : Option Addr} {sl_backs_by : Array (Option Value)} {oc_backs_by kV_backs_by dc_backs_by pm_backs_by cd_backs_by ct_backs_by : Value} {f_full_by : Addr} {od_full_by an_full_by : Option Addr} {sl_full_by : Array (Option Value)} {oc_full_by kV_full_by dc_full_by pm_full_by cd_full_by ct_full_by : Value} {f_columns_of : Addr} {od_columns_of an_columns_of : Option Addr} {sl_columns_of : Array (Option Value)} {oc_columns_of kV_columns_of dc_columns_of pm_columns_of cd_columns_of ct_columns_of : Value} {f_back_of : Addr} {od_back_of an_back_of : Option Addr} {sl_back_of : Array (Option Value)} {oc_back_of kV_back_of dc_back_of pm_back_of cd_back_of ct_back_of : Value} {f_two_rows : Addr} {od_two_rows an_two_rows : Option Addr} {sl_two_rows : Array (Option Value)} {oc_two_rows kV_two_rows dc_two_rows pm_two_rows cd_two_rows ct_two_rows : Value} {f__law_told : Addr} {od__law_told an__law_told : Option Addr} {sl__law_told : Array (Option Value)} {oc__law_told kV__law_told dc__law_told pm__law_told cd__law_told ct__law_told : Value} {f__law_right_of : Addr} {od__law_right_of an__law_right_of : Option Addr} {sl__law_right_of : Array (Option Value)} {oc__law_right_of kV__law_right_of dc__law_right_of pm__law_right_of cd__law_right_of ct__law_right_of : Value} {f_law : Addr} {od_law an_law : Option Addr} {sl_law : Array (Option Value)} {oc_law kV_law dc_law pm_law cd_law ct_law : Value} (X : K.In h) (G : h.Ns mainGlobals mg) (hfa : mg "law" = some (.ref fa))
    (spec1 : PySem.W.specialIn K (.builtin "object.__class__") "__get__" = some (some (.builtin "getset_descriptor.__get__")))
    (spec2 : PySem.W.takesIn K (.builtin "object.__class__") = some true)
    (b_ValueError : PySem.W.nsIn K mainGlobals "ValueError" = some none)
    (b_abs : PySem.W.nsIn K mainGlobals "abs" = some none)
    (b_all : PySem.W.nsIn K mainGlobals "all" = some none)
    (b_bool : PySem.W.nsIn K mainGlobals "bool" = some none)
    (b_enumerate : PySem.W.nsIn K mainGlobals "enumerate" = some none)
    (b_int : PySem.W.nsIn K mainGlobals "int" = some none)
    (b_isinstance : PySem.W.nsIn K mainGlobals "isinstance" = some none)
    (b_len : PySem.W.nsIn K mainGlobals "len" = some none)
    (b_list : PySem.W.nsIn K mainGlobals "list" = some none)
    (b_max : PySem.W.nsIn K mainGlobals "max" = some none)
    (b_range : PySem.W.nsIn K mainGlobals "range" = some none)
    (b_tuple : PySem.W.nsIn K mainGlobals "tuple" = some none)
    (b_zip : PySem.W.nsIn K mainGlobals "zip" = some none)
    (d_MOST : PySem.W.nsIn K mainGlobals "MOST" = some (some (.int 50 t_MOST)))
    (d_MOST_SIZE : PySem.W.nsIn K mainGlobals "MOST_SIZE" = some (some (.int 5 t_MOST_SIZE)))
    (d_NOUGHT : PySem.W.nsIn K mainGlobals "NOUGHT" = some (some (.ref ad_NOUGHT)))
    (z_NOUGHT : K.lookup ad_NOUGHT = some ⟨.type "tuple", cd_NOUGHT, .seq #[.int 0 t1_NOUGHT, .int 1 t2_NOUGHT] cn_NOUGHT, cs_NOUGHT⟩)
    (d_ONE : PySem.W.nsIn K mainGlobals "ONE" = some (some (.ref ad_ONE)))
    (z_ONE : K.lookup ad_ONE = some ⟨.type "tuple", cd_ONE, .seq #[.int 1 t1_ONE, .int 1 t2_ONE] cn_ONE, cs_ONE⟩)
    (a_SlantError : PySem.W.nsIn K mainGlobals "SlantError" = some (some (.ref aC_SlantError)))
    (a_NoSlants : PySem.W.nsIn K mainGlobals "NoSlants" = some (some (.ref aC_NoSlants)))
    (a_NoRow : PySem.W.nsIn K mainGlobals "NoRow" = some (some (.ref aC_NoRow)))
    (a_NoNumber : PySem.W.nsIn K mainGlobals "NoNumber" = some (some (.ref aC_NoNumber)))
    (a_NoLine : PySem.W.nsIn K mainGlobals "NoLine" = some (some (.ref aC_NoLine)))
    (a_NotEven : PySem.W.nsIn K mainGlobals "NotEven" = some (some (.ref aC_NotEven)))
    (a_NotFull : PySem.W.nsIn K mainGlobals "NotFull" = some (some (.ref aC_NotFull)))
    (a_NotStrong : PySem.W.nsIn K mainGlobals "NotStrong" = some (some (.ref aC_NotStrong)))
    (a_NoText : PySem.W.nsIn K mainGlobals "NoText" = some (some (.ref aC_NoText)))
    (a_TooGreat : PySem.W.nsIn K mainGlobals "TooGreat" = some (some (.ref aC_TooGreat)))
    (q_NoSlants : PySem.W.excIn K aC_NoSlants bmVE "ValueError.__new__" = true)
    (h_NoSlants : PySem.W.keepIn K (.ref aC_NoSlants) = true)
    (s_NoSlants : PySem.W.subIn K (.ref aC_NoSlants) (.type "BaseException") = some true)
    (t_NoSlants : PySem.W.typeIn K (.ref aC_NoSlants) = some (.type "type"))
    (hg_NoSlants : PySem.W.findIn K (.ref aC_NoSlants) "__getattribute__" = some (some (.builtin "BaseException.__getattribute__")))
    (hk_NoSlants : PySem.W.findIn K (.ref aC_NoSlants) "__getattr__" = some none)
    (hd_NoSlants : PySem.W.hasDictIn K aC_NoSlants = true)
    (ha_NoSlants : PySem.W.findIn K (.ref aC_NoSlants) "__class__" = some (some (.builtin "object.__class__")))
    (hm_NoSlants : PySem.W.mroIn K aC_NoSlants (.type "object") = some true)
    (u_NoSlants : PySem.W.subIn K (.ref aC_NoSlants) (.ref aC_NoSlants) = some true)
    (k_NoSlants_NoRow : PySem.W.subIn K (.ref aC_NoSlants) (.ref aC_NoRow) = some false)
    (k_NoSlants_NoNumber : PySem.W.subIn K (.ref aC_NoSlants) (.ref aC_NoNumber) = some false)
    (k_NoSlants_NoLine : PySem.W.subIn K (.ref aC_NoSlants) (.ref aC_NoLine) = some false)
    (k_NoSlants_NotEven : PySem.W.subIn K (.ref aC_NoSlants) (.ref aC_NotEven) = some false)
    (k_NoSlants_NotFull : PySem.W.subIn K (.ref aC_NoSlants) (.ref aC_NotFull) = some false)
    (k_NoSlants_NotStrong : PySem.W.subIn K (.ref aC_NoSlants) (.ref aC_NotStrong) = some false)
    (k_NoSlants_NoText : PySem.W.subIn K (.ref aC_NoSlants) (.ref aC_NoText) = some false)
    (k_NoSlants_TooGreat : PySem.W.subIn K (.ref aC_NoSlants) (.ref aC_TooGreat) = some false)
    (v_NoSlants : PySem.W.subIn K (.ref aC_NoSlants) (.type "ValueError") = some true)
    (y_NoSlants : PySem.W.subIn K (.ref aC_NoSlants) (.ref aC_SlantError) = some true)
    (q_NotFull : PySem.W.excIn K aC_NotFull bmVE "ValueError.__new__" = true)
    (h_NotFull : PySem.W.keepIn K (.ref aC_NotFull) = true)
    (s_NotFull : PySem.W.subIn K (.ref aC_NotFull) (.type "BaseException") = some true)
    (t_NotFull : PySem.W.typeIn K (.ref aC_NotFull) = some (.type "type"))
    (hg_NotFull : PySem.W.findIn K (.ref aC_NotFull) "__getattribute__" = some (some (.builtin "BaseException.__getattribute__")))
    (hk_NotFull : PySem.W.findIn K (.ref aC_NotFull) "__getattr__" = some none)
    (hd_NotFull : PySem.W.hasDictIn K aC_NotFull = true)
    (ha_NotFull : PySem.W.findIn K (.ref aC_NotFull) "__class__" = some (some (.builtin "object.__class__")))
    (hm_NotFull : PySem.W.mroIn K aC_NotFull (.type "object") = some true)
    (u_NotFull : PySem.W.subIn K (.ref aC_NotFull) (.ref aC_NotFull) = some true)
    (k_NotFull_NoSlants : PySem.W.subIn K (.ref aC_NotFull) (.ref aC_NoSlants) = some false)
    (k_NotFull_NoRow : PySem.W.subIn K (.ref aC_NotFull) (.ref aC_NoRow) = some false)
    (k_NotFull_NoNumber : PySem.W.subIn K (.ref aC_NotFull) (.ref aC_NoNumber) = some false)
    (k_NotFull_NoLine : PySem.W.subIn K (.ref aC_NotFull) (.ref aC_NoLine) = some false)
    (k_NotFull_NotEven : PySem.W.subIn K (.ref aC_NotFull) (.ref aC_NotEven) = some false)
    (k_NotFull_NotStrong : PySem.W.subIn K (.ref aC_NotFull) (.ref aC_NotStrong) = some false)
    (k_NotFull_NoText : PySem.W.subIn K (.ref aC_NotFull) (.ref aC_NoText) = some false)
    (k_NotFull_TooGreat : PySem.W.subIn K (.ref aC_NotFull) (.ref aC_TooGreat) = some false)
    (v_NotFull : PySem.W.subIn K (.ref aC_NotFull) (.type "ValueError") = some true)
    (y_NotFull : PySem.W.subIn K (.ref aC_NotFull) (.ref aC_SlantError) = some true)
    (be : PySem.W.subIn K (.ref aC_SlantError) (.type "BaseException") = some true)
    (i_SlantError : PySem.W.isClsIn K aC_SlantError = true)
    (j_SlantError : PySem.W.typeIn K (.ref aC_SlantError) = some (.type "type"))
    (i_NoSlants : PySem.W.isClsIn K aC_NoSlants = true)
    (j_NoSlants : PySem.W.typeIn K (.ref aC_NoSlants) = some (.type "type"))
    (i_NoRow : PySem.W.isClsIn K aC_NoRow = true)
    (j_NoRow : PySem.W.typeIn K (.ref aC_NoRow) = some (.type "type"))
    (i_NoNumber : PySem.W.isClsIn K aC_NoNumber = true)
    (j_NoNumber : PySem.W.typeIn K (.ref aC_NoNumber) = some (.type "type"))
    (i_NoLine : PySem.W.isClsIn K aC_NoLine = true)
    (j_NoLine : PySem.W.typeIn K (.ref aC_NoLine) = some (.type "type"))
    (i_NotEven : PySem.W.isClsIn K aC_NotEven = true)
    (j_NotEven : PySem.W.typeIn K (.ref aC_NotEven) = some (.type "type"))
    (i_NotFull : PySem.W.isClsIn K aC_NotFull = true)
    (j_NotFull : PySem.W.typeIn K (.ref aC_NotFull) = some (.type "type"))
    (i_NotStrong : PySem.W.isClsIn K aC_NotStrong = true)
    (j_NotStrong : PySem.W.typeIn K (.ref aC_NotStrong) = some (.type "type"))
    (i_NoText : PySem.W.isClsIn K aC_NoText = true)
    (j_NoText : PySem.W.typeIn K (.ref aC_NoText) = some (.type "type"))
    (i_TooGreat : PySem.W.isClsIn K aC_TooGreat = true)
    (j_TooGreat : PySem.W.typeIn K (.ref aC_TooGreat) = some (.type "type"))
    (m_is_whole : PySem.W.nsIn K mainGlobals "is_whole" = some (some (.ref f_is_whole)))
    (l_is_whole : K.lookup f_is_whole = some ⟨oc_is_whole, od_is_whole, .func (PySem.W.fnOf "is_whole" "is_whole" (defArgs st_is_whole) (defBody st_is_whole) (defScope st_is_whole) .none kV_is_whole dc_is_whole pm_is_whole an_is_whole cd_is_whole ct_is_whole), sl_is_whole⟩)
    (c_is_whole : PySem.W.codeIn K cd_is_whole "is_whole" = true)
    (p_is_whole : PySem.W.keepIn K (.ref f_is_whole) = true)
    (m_common : PySem.W.nsIn K mainGlobals "common" = some (some (.ref f_common)))
    (l_common : K.lookup f_common = some ⟨oc_common, od_common, .func (PySem.W.fnOf "common" "common" (defArgs st_common) (defBody st_common) (defScope st_common) .none kV_common dc_common pm_common an_common cd_common ct_common), sl_common⟩)
    (c_common : PySem.W.codeIn K cd_common "common" = true)
    (p_common : PySem.W.keepIn K (.ref f_common) = true)
    (m_whole_row : PySem.W.nsIn K mainGlobals "whole_row" = some (some (.ref f_whole_row)))
    (l_whole_row : K.lookup f_whole_row = some ⟨oc_whole_row, od_whole_row, .func (PySem.W.fnOf "whole_row" "whole_row" (defArgs st_whole_row) (defBody st_whole_row) (defScope st_whole_row) .none kV_whole_row dc_whole_row pm_whole_row an_whole_row cd_whole_row ct_whole_row), sl_whole_row⟩)
    (c_whole_row : PySem.W.codeIn K cd_whole_row "whole_row" = true)
    (p_whole_row : PySem.W.keepIn K (.ref f_whole_row) = true)
    (m_unit_row : PySem.W.nsIn K mainGlobals "unit_row" = some (some (.ref f_unit_row)))
    (l_unit_row : K.lookup f_unit_row = some ⟨oc_unit_row, od_unit_row, .func (PySem.W.fnOf "unit_row" "unit_row" (defArgs st_unit_row) (defBody st_unit_row) (defScope st_unit_row) .none kV_unit_row dc_unit_row pm_unit_row an_unit_row cd_unit_row ct_unit_row), sl_unit_row⟩)
    (c_unit_row : PySem.W.codeIn K cd_unit_row "unit_row" = true)
    (p_unit_row : PySem.W.keepIn K (.ref f_unit_row) = true)
    (m_size_of : PySem.W.nsIn K mainGlobals "size_of" = some (some (.ref f_size_of)))
    (l_size_of : K.lookup f_size_of = some ⟨oc_size_of, od_size_of, .func (PySem.W.fnOf "size_of" "size_of" (defArgs st_size_of) (defBody st_size_of) (defScope st_size_of) .none kV_size_of dc_size_of pm_size_of an_size_of cd_size_of ct_size_of), sl_size_of⟩)
    (c_size_of : PySem.W.codeIn K cd_size_of "size_of" = true)
    (p_size_of : PySem.W.keepIn K (.ref f_size_of) = true)
    (m__law_cell_at : PySem.W.nsIn K mainGlobals "_law_cell_at" = some (some (.ref f__law_cell_at)))
    (l__law_cell_at : K.lookup f__law_cell_at = some ⟨oc__law_cell_at, od__law_cell_at, .func (PySem.W.fnOf "_law_cell_at" "_law_cell_at" (defArgs st__law_cell_at) (defBody st__law_cell_at) (defScope st__law_cell_at) .none kV__law_cell_at dc__law_cell_at pm__law_cell_at an__law_cell_at cd__law_cell_at ct__law_cell_at), sl__law_cell_at⟩)
    (c__law_cell_at : PySem.W.codeIn K cd__law_cell_at "_law_cell_at" = true)
    (p__law_cell_at : PySem.W.keepIn K (.ref f__law_cell_at) = true)
    (m__law_next : PySem.W.nsIn K mainGlobals "_law_next" = some (some (.ref f__law_next)))
    (l__law_next : K.lookup f__law_next = some ⟨oc__law_next, od__law_next, .func (PySem.W.fnOf "_law_next" "_law_next" (defArgs st__law_next) (defBody st__law_next) (defScope st__law_next) .none kV__law_next dc__law_next pm__law_next an__law_next cd__law_next ct__law_next), sl__law_next⟩)
    (c__law_next : PySem.W.codeIn K cd__law_next "_law_next" = true)
    (p__law_next : PySem.W.keepIn K (.ref f__law_next) = true)
    (m__law_pen_of : PySem.W.nsIn K mainGlobals "_law_pen_of" = some (some (.ref f__law_pen_of)))
    (l__law_pen_of : K.lookup f__law_pen_of = some ⟨oc__law_pen_of, od__law_pen_of, .func (PySem.W.fnOf "_law_pen_of" "_law_pen_of" (defArgs st__law_pen_of) (defBody st__law_pen_of) (defScope st__law_pen_of) .none kV__law_pen_of dc__law_pen_of pm__law_pen_of an__law_pen_of cd__law_pen_of ct__law_pen_of), sl__law_pen_of⟩)
    (c__law_pen_of : PySem.W.codeIn K cd__law_pen_of "_law_pen_of" = true)
    (p__law_pen_of : PySem.W.keepIn K (.ref f__law_pen_of) = true)
    (m__law_whole_of : PySem.W.nsIn K mainGlobals "_law_whole_of" = some (some (.ref f__law_whole_of)))
    (l__law_whole_of : K.lookup f__law_whole_of = some ⟨oc__law_whole_of, od__law_whole_of, .func (PySem.W.fnOf "_law_whole_of" "_law_whole_of" (defArgs st__law_whole_of) (defBody st__law_whole_of) (defScope st__law_whole_of) .none kV__law_whole_of dc__law_whole_of pm__law_whole_of an__law_whole_of cd__law_whole_of ct__law_whole_of), sl__law_whole_of⟩)
    (c__law_whole_of : PySem.W.codeIn K cd__law_whole_of "_law_whole_of" = true)
    (p__law_whole_of : PySem.W.keepIn K (.ref f__law_whole_of) = true)
    (m__law_kind_of : PySem.W.nsIn K mainGlobals "_law_kind_of" = some (some (.ref f__law_kind_of)))
    (l__law_kind_of : K.lookup f__law_kind_of = some ⟨oc__law_kind_of, od__law_kind_of, .func (PySem.W.fnOf "_law_kind_of" "_law_kind_of" (defArgs st__law_kind_of) (defBody st__law_kind_of) (defScope st__law_kind_of) .none kV__law_kind_of dc__law_kind_of pm__law_kind_of an__law_kind_of cd__law_kind_of ct__law_kind_of), sl__law_kind_of⟩)
    (c__law_kind_of : PySem.W.codeIn K cd__law_kind_of "_law_kind_of" = true)
    (p__law_kind_of : PySem.W.keepIn K (.ref f__law_kind_of) = true)
    (m__law_gcd : PySem.W.nsIn K mainGlobals "_law_gcd" = some (some (.ref f__law_gcd)))
    (l__law_gcd : K.lookup f__law_gcd = some ⟨oc__law_gcd, od__law_gcd, .func (PySem.W.fnOf "_law_gcd" "_law_gcd" (defArgs st__law_gcd) (defBody st__law_gcd) (defScope st__law_gcd) .none kV__law_gcd dc__law_gcd pm__law_gcd an__law_gcd cd__law_gcd ct__law_gcd), sl__law_gcd⟩)
    (c__law_gcd : PySem.W.codeIn K cd__law_gcd "_law_gcd" = true)
    (p__law_gcd : PySem.W.keepIn K (.ref f__law_gcd) = true)
    (m__law_table_of : PySem.W.nsIn K mainGlobals "_law_table_of" = some (some (.ref f__law_table_of)))
    (l__law_table_of : K.lookup f__law_table_of = some ⟨oc__law_table_of, od__law_table_of, .func (PySem.W.fnOf "_law_table_of" "_law_table_of" (defArgs st__law_table_of) (defBody st__law_table_of) (defScope st__law_table_of) .none kV__law_table_of dc__law_table_of pm__law_table_of an__law_table_of cd__law_table_of ct__law_table_of), sl__law_table_of⟩)
    (c__law_table_of : PySem.W.codeIn K cd__law_table_of "_law_table_of" = true)
    (p__law_table_of : PySem.W.keepIn K (.ref f__law_table_of) = true)
    (m__law_taken : PySem.W.nsIn K mainGlobals "_law_taken" = some (some (.ref f__law_taken)))
    (l__law_taken : K.lookup f__law_taken = some ⟨oc__law_taken, od__law_taken, .func (PySem.W.fnOf "_law_taken" "_law_taken" (defArgs st__law_taken) (defBody st__law_taken) (defScope st__law_taken) .none kV__law_taken dc__law_taken pm__law_taken an__law_taken cd__law_taken ct__law_taken), sl__law_taken⟩)
    (c__law_taken : PySem.W.codeIn K cd__law_taken "_law_taken" = true)
    (p__law_taken : PySem.W.keepIn K (.ref f__law_taken) = true)
    (m__law_shared : PySem.W.nsIn K mainGlobals "_law_shared" = some (some (.ref f__law_shared)))
    (l__law_shared : K.lookup f__law_shared = some ⟨oc__law_shared, od__law_shared, .func (PySem.W.fnOf "_law_shared" "_law_shared" (defArgs st__law_shared) (defBody st__law_shared) (defScope st__law_shared) .none kV__law_shared dc__law_shared pm__law_shared an__law_shared cd__law_shared ct__law_shared), sl__law_shared⟩)
    (c__law_shared : PySem.W.codeIn K cd__law_shared "_law_shared" = true)
    (p__law_shared : PySem.W.keepIn K (.ref f__law_shared) = true)
    (m_is_upto : PySem.W.nsIn K mainGlobals "is_upto" = some (some (.ref f_is_upto)))
    (l_is_upto : K.lookup f_is_upto = some ⟨oc_is_upto, od_is_upto, .func (PySem.W.fnOf "is_upto" "is_upto" (defArgs st_is_upto) (defBody st_is_upto) (defScope st_is_upto) .none kV_is_upto dc_is_upto pm_is_upto an_is_upto cd_is_upto ct_is_upto), sl_is_upto⟩)
    (c_is_upto : PySem.W.codeIn K cd_is_upto "is_upto" = true)
    (p_is_upto : PySem.W.keepIn K (.ref f_is_upto) = true)
    (m_share : PySem.W.nsIn K mainGlobals "share" = some (some (.ref f_share)))
    (l_share : K.lookup f_share = some ⟨oc_share, od_share, .func (PySem.W.fnOf "share" "share" (defArgs st_share) (defBody st_share) (defScope st_share) .none kV_share dc_share pm_share an_share cd_share ct_share), sl_share⟩)
    (c_share : PySem.W.codeIn K cd_share "share" = true)
    (p_share : PySem.W.keepIn K (.ref f_share) = true)
    (m_tabled : PySem.W.nsIn K mainGlobals "tabled" = some (some (.ref f_tabled)))
    (l_tabled : K.lookup f_tabled = some ⟨oc_tabled, od_tabled, .func (PySem.W.fnOf "tabled" "tabled" (defArgs st_tabled) (defBody st_tabled) (defScope st_tabled) .none kV_tabled dc_tabled pm_tabled an_tabled cd_tabled ct_tabled), sl_tabled⟩)
    (c_tabled : PySem.W.codeIn K cd_tabled "tabled" = true)
    (p_tabled : PySem.W.keepIn K (.ref f_tabled) = true)
    (m__law_draw : PySem.W.nsIn K mainGlobals "_law_draw" = some (some (.ref f__law_draw)))
    (l__law_draw : K.lookup f__law_draw = some ⟨oc__law_draw, od__law_draw, .func (PySem.W.fnOf "_law_draw" "_law_draw" (defArgs st__law_draw) (defBody st__law_draw) (defScope st__law_draw) .none kV__law_draw dc__law_draw pm__law_draw an__law_draw cd__law_draw ct__law_draw), sl__law_draw⟩)
    (c__law_draw : PySem.W.codeIn K cd__law_draw "_law_draw" = true)
    (p__law_draw : PySem.W.keepIn K (.ref f__law_draw) = true)
    (m__law_refused : PySem.W.nsIn K mainGlobals "_law_refused" = some (some (.ref f__law_refused)))
    (l__law_refused : K.lookup f__law_refused = some ⟨oc__law_refused, od__law_refused, .func (PySem.W.fnOf "_law_refused" "_law_refused" (defArgs st__law_refused) (defBody st__law_refused) (defScope st__law_refused) .none kV__law_refused dc__law_refused pm__law_refused an__law_refused cd__law_refused ct__law_refused), sl__law_refused⟩)
    (c__law_refused : PySem.W.codeIn K cd__law_refused "_law_refused" = true)
    (p__law_refused : PySem.W.keepIn K (.ref f__law_refused) = true)
    (m__law_share : PySem.W.nsIn K mainGlobals "_law_share" = some (some (.ref f__law_share)))
    (l__law_share : K.lookup f__law_share = some ⟨oc__law_share, od__law_share, .func (PySem.W.fnOf "_law_share" "_law_share" (defArgs st__law_share) (defBody st__law_share) (defScope st__law_share) .none kV__law_share dc__law_share pm__law_share an__law_share cd__law_share ct__law_share), sl__law_share⟩)
    (c__law_share : PySem.W.codeIn K cd__law_share "_law_share" = true)
    (p__law_share : PySem.W.keepIn K (.ref f__law_share) = true)
    (m__law_share_like : PySem.W.nsIn K mainGlobals "_law_share_like" = some (some (.ref f__law_share_like)))
    (l__law_share_like : K.lookup f__law_share_like = some ⟨oc__law_share_like, od__law_share_like, .func (PySem.W.fnOf "_law_share_like" "_law_share_like" (defArgs st__law_share_like) (defBody st__law_share_like) (defScope st__law_share_like) .none kV__law_share_like dc__law_share_like pm__law_share_like an__law_share_like cd__law_share_like ct__law_share_like), sl__law_share_like⟩)
    (c__law_share_like : PySem.W.codeIn K cd__law_share_like "_law_share_like" = true)
    (p__law_share_like : PySem.W.keepIn K (.ref f__law_share_like) = true)
    (m__law_number_of : PySem.W.nsIn K mainGlobals "_law_number_of" = some (some (.ref f__law_number_of)))
    (l__law_number_of : K.lookup f__law_number_of = some ⟨oc__law_number_of, od__law_number_of, .func (PySem.W.fnOf "_law_number_of" "_law_number_of" (defArgs st__law_number_of) (defBody st__law_number_of) (defScope st__law_number_of) .none kV__law_number_of dc__law_number_of pm__law_number_of an__law_number_of cd__law_number_of ct__law_number_of), sl__law_number_of⟩)
    (c__law_number_of : PySem.W.codeIn K cd__law_number_of "_law_number_of" = true)
    (p__law_number_of : PySem.W.keepIn K (.ref f__law_number_of) = true)
    (m_less : PySem.W.nsIn K mainGlobals "less" = some (some (.ref f_less)))
    (l_less : K.lookup f_less = some ⟨oc_less, od_less, .func (PySem.W.fnOf "less" "less" (defArgs st_less) (defBody st_less) (defScope st_less) .none kV_less dc_less pm_less an_less cd_less ct_less), sl_less⟩)
    (c_less : PySem.W.codeIn K cd_less "less" = true)
    (p_less : PySem.W.keepIn K (.ref f_less) = true)
    (m_times : PySem.W.nsIn K mainGlobals "times" = some (some (.ref f_times)))
    (l_times : K.lookup f_times = some ⟨oc_times, od_times, .func (PySem.W.fnOf "times" "times" (defArgs st_times) (defBody st_times) (defScope st_times) .none kV_times dc_times pm_times an_times cd_times ct_times), sl_times⟩)
    (c_times : PySem.W.codeIn K cd_times "times" = true)
    (p_times : PySem.W.keepIn K (.ref f_times) = true)
    (m_by : PySem.W.nsIn K mainGlobals "by" = some (some (.ref f_by)))
    (l_by : K.lookup f_by = some ⟨oc_by, od_by, .func (PySem.W.fnOf "by" "by" (defArgs st_by) (defBody st_by) (defScope st_by) .none kV_by dc_by pm_by an_by cd_by ct_by), sl_by⟩)
    (c_by : PySem.W.codeIn K cd_by "by" = true)
    (p_by : PySem.W.keepIn K (.ref f_by) = true)
    (m_slants_good : PySem.W.nsIn K mainGlobals "slants_good" = some (some (.ref f_slants_good)))
    (l_slants_good : K.lookup f_slants_good = some ⟨oc_slants_good, od_slants_good, .func (PySem.W.fnOf "slants_good" "slants_good" (defArgs st_slants_good) (defBody st_slants_good) (defScope st_slants_good) .none kV_slants_good dc_slants_good pm_slants_good an_slants_good cd_slants_good ct_slants_good), sl_slants_good⟩)
    (c_slants_good : PySem.W.codeIn K cd_slants_good "slants_good" = true)
    (p_slants_good : PySem.W.keepIn K (.ref f_slants_good) = true)
    (m_share_by : PySem.W.nsIn K mainGlobals "share_by" = some (some (.ref f_share_by)))
    (l_share_by : K.lookup f_share_by = some ⟨oc_share_by, od_share_by, .func (PySem.W.fnOf "share_by" "share_by" (defArgs st_share_by) (defBody st_share_by) (defScope st_share_by) .none kV_share_by dc_share_by pm_share_by an_share_by cd_share_by ct_share_by), sl_share_by⟩)
    (c_share_by : PySem.W.codeIn K cd_share_by "share_by" = true)
    (p_share_by : PySem.W.keepIn K (.ref f_share_by) = true)
    (m__law_row_like : PySem.W.nsIn K mainGlobals "_law_row_like" = some (some (.ref f__law_row_like)))
    (l__law_row_like : K.lookup f__law_row_like = some ⟨oc__law_row_like, od__law_row_like, .func (PySem.W.fnOf "_law_row_like" "_law_row_like" (defArgs st__law_row_like) (defBody st__law_row_like) (defScope st__law_row_like) .none kV__law_row_like dc__law_row_like pm__law_row_like an__law_row_like cd__law_row_like ct__law_row_like), sl__law_row_like⟩)
    (c__law_row_like : PySem.W.codeIn K cd__law_row_like "_law_row_like" = true)
    (p__law_row_like : PySem.W.keepIn K (.ref f__law_row_like) = true)
    (m__law_slants_of : PySem.W.nsIn K mainGlobals "_law_slants_of" = some (some (.ref f__law_slants_of)))
    (l__law_slants_of : K.lookup f__law_slants_of = some ⟨oc__law_slants_of, od__law_slants_of, .func (PySem.W.fnOf "_law_slants_of" "_law_slants_of" (defArgs st__law_slants_of) (defBody st__law_slants_of) (defScope st__law_slants_of) .none kV__law_slants_of dc__law_slants_of pm__law_slants_of an__law_slants_of cd__law_slants_of ct__law_slants_of), sl__law_slants_of⟩)
    (c__law_slants_of : PySem.W.codeIn K cd__law_slants_of "_law_slants_of" = true)
    (p__law_slants_of : PySem.W.keepIn K (.ref f__law_slants_of) = true)
    (m__law_back : PySem.W.nsIn K mainGlobals "_law_back" = some (some (.ref f__law_back)))
    (l__law_back : K.lookup f__law_back = some ⟨oc__law_back, od__law_back, .func (PySem.W.fnOf "_law_back" "_law_back" (defArgs st__law_back) (defBody st__law_back) (defScope st__law_back) .none kV__law_back dc__law_back pm__law_back an__law_back cd__law_back ct__law_back), sl__law_back⟩)
    (c__law_back : PySem.W.codeIn K cd__law_back "_law_back" = true)
    (p__law_back : PySem.W.keepIn K (.ref f__law_back) = true)
    (m_scaled : PySem.W.nsIn K mainGlobals "scaled" = some (some (.ref f_scaled)))
    (l_scaled : K.lookup f_scaled = some ⟨oc_scaled, od_scaled, .func (PySem.W.fnOf "scaled" "scaled" (defArgs st_scaled) (defBody st_scaled) (defScope st_scaled) .none kV_scaled dc_scaled pm_scaled an_scaled cd_scaled ct_scaled), sl_scaled⟩)
    (c_scaled : PySem.W.codeIn K cd_scaled "scaled" = true)
    (p_scaled : PySem.W.keepIn K (.ref f_scaled) = true)
    (m_rows_less : PySem.W.nsIn K mainGlobals "rows_less" = some (some (.ref f_rows_less)))
    (l_rows_less : K.lookup f_rows_less = some ⟨oc_rows_less, od_rows_less, .func (PySem.W.fnOf "rows_less" "rows_less" (defArgs st_rows_less) (defBody st_rows_less) (defScope st_rows_less) .none kV_rows_less dc_rows_less pm_rows_less an_rows_less cd_rows_less ct_rows_less), sl_rows_less⟩)
    (c_rows_less : PySem.W.codeIn K cd_rows_less "rows_less" = true)
    (p_rows_less : PySem.W.keepIn K (.ref f_rows_less) = true)
    (m_check_slants : PySem.W.nsIn K mainGlobals "check_slants" = some (some (.ref f_check_slants)))
    (l_check_slants : K.lookup f_check_slants = some ⟨oc_check_slants, od_check_slants, .func (PySem.W.fnOf "check_slants" "check_slants" (defArgs st_check_slants) (defBody st_check_slants) (defScope st_check_slants) .none kV_check_slants dc_check_slants pm_check_slants an_check_slants cd_check_slants ct_check_slants), sl_check_slants⟩)
    (c_check_slants : PySem.W.codeIn K cd_check_slants "check_slants" = true)
    (p_check_slants : PySem.W.keepIn K (.ref f_check_slants) = true)
    (m__law_table_like : PySem.W.nsIn K mainGlobals "_law_table_like" = some (some (.ref f__law_table_like)))
    (l__law_table_like : K.lookup f__law_table_like = some ⟨oc__law_table_like, od__law_table_like, .func (PySem.W.fnOf "_law_table_like" "_law_table_like" (defArgs st__law_table_like) (defBody st__law_table_like) (defScope st__law_table_like) .none kV__law_table_like dc__law_table_like pm__law_table_like an__law_table_like cd__law_table_like ct__law_table_like), sl__law_table_like⟩)
    (c__law_table_like : PySem.W.codeIn K cd__law_table_like "_law_table_like" = true)
    (p__law_table_like : PySem.W.keepIn K (.ref f__law_table_like) = true)
    (m_lined : PySem.W.nsIn K mainGlobals "lined" = some (some (.ref f_lined)))
    (l_lined : K.lookup f_lined = some ⟨oc_lined, od_lined, .func (PySem.W.fnOf "lined" "lined" (defArgs st_lined) (defBody st_lined) (defScope st_lined) .none kV_lined dc_lined pm_lined an_lined cd_lined ct_lined), sl_lined⟩)
    (c_lined : PySem.W.codeIn K cd_lined "lined" = true)
    (p_lined : PySem.W.keepIn K (.ref f_lined) = true)
    (m_share_table : PySem.W.nsIn K mainGlobals "share_table" = some (some (.ref f_share_table)))
    (l_share_table : K.lookup f_share_table = some ⟨oc_share_table, od_share_table, .func (PySem.W.fnOf "share_table" "share_table" (defArgs st_share_table) (defBody st_share_table) (defScope st_share_table) .none kV_share_table dc_share_table pm_share_table an_share_table cd_share_table ct_share_table), sl_share_table⟩)
    (c_share_table : PySem.W.codeIn K cd_share_table "share_table" = true)
    (p_share_table : PySem.W.keepIn K (.ref f_share_table) = true)
    (m_free_by : PySem.W.nsIn K mainGlobals "free_by" = some (some (.ref f_free_by)))
    (l_free_by : K.lookup f_free_by = some ⟨oc_free_by, od_free_by, .func (PySem.W.fnOf "free_by" "free_by" (defArgs st_free_by) (defBody st_free_by) (defScope st_free_by) .none kV_free_by dc_free_by pm_free_by an_free_by cd_free_by ct_free_by), sl_free_by⟩)
    (c_free_by : PySem.W.codeIn K cd_free_by "free_by" = true)
    (p_free_by : PySem.W.keepIn K (.ref f_free_by) = true)
    (m_backs_by : PySem.W.nsIn K mainGlobals "backs_by" = some (some (.ref f_backs_by)))
    (l_backs_by : K.lookup f_backs_by = some ⟨oc_backs_by, od_backs_by, .func (PySem.W.fnOf "backs_by" "backs_by" (defArgs st_backs_by) (defBody st_backs_by) (defScope st_backs_by) .none kV_backs_by dc_backs_by pm_backs_by an_backs_by cd_backs_by ct_backs_by), sl_backs_by⟩)
    (c_backs_by : PySem.W.codeIn K cd_backs_by "backs_by" = true)
    (p_backs_by : PySem.W.keepIn K (.ref f_backs_by) = true)
    (m_full_by : PySem.W.nsIn K mainGlobals "full_by" = some (some (.ref f_full_by)))
    (l_full_by : K.lookup f_full_by = some ⟨oc_full_by, od_full_by, .func (PySem.W.fnOf "full_by" "full_by" (defArgs st_full_by) (defBody st_full_by) (defScope st_full_by) .none kV_full_by dc_full_by pm_full_by an_full_by cd_full_by ct_full_by), sl_full_by⟩)
    (c_full_by : PySem.W.codeIn K cd_full_by "full_by" = true)
    (p_full_by : PySem.W.keepIn K (.ref f_full_by) = true)
    (m_columns_of : PySem.W.nsIn K mainGlobals "columns_of" = some (some (.ref f_columns_of)))
    (l_columns_of : K.lookup f_columns_of = some ⟨oc_columns_of, od_columns_of, .func (PySem.W.fnOf "columns_of" "columns_of" (defArgs st_columns_of) (defBody st_columns_of) (defScope st_columns_of) .none kV_columns_of dc_columns_of pm_columns_of an_columns_of cd_columns_of ct_columns_of), sl_columns_of⟩)
    (c_columns_of : PySem.W.codeIn K cd_columns_of "columns_of" = true)
    (p_columns_of : PySem.W.keepIn K (.ref f_columns_of) = true)
    (m_back_of : PySem.W.nsIn K mainGlobals "back_of" = some (some (.ref f_back_of)))
    (l_back_of : K.lookup f_back_of = some ⟨oc_back_of, od_back_of, .func (PySem.W.fnOf "back_of" "back_of" (defArgs st_back_of) (defBody st_back_of) (defScope st_back_of) .none kV_back_of dc_back_of pm_back_of an_back_of cd_back_of ct_back_of), sl_back_of⟩)
    (c_back_of : PySem.W.codeIn K cd_back_of "back_of" = true)
    (p_back_of : PySem.W.keepIn K (.ref f_back_of) = true)
    (m_two_rows : PySem.W.nsIn K mainGlobals "two_rows" = some (some (.ref f_two_rows)))
    (l_two_rows : K.lookup f_two_rows = some ⟨oc_two_rows, od_two_rows, .func (PySem.W.fnOf "two_rows" "two_rows" (defArgs st_two_rows) (defBody st_two_rows) (defScope st_two_rows) .none kV_two_rows dc_two_rows pm_two_rows an_two_rows cd_two_rows ct_two_rows), sl_two_rows⟩)
    (c_two_rows : PySem.W.codeIn K cd_two_rows "two_rows" = true)
    (p_two_rows : PySem.W.keepIn K (.ref f_two_rows) = true)
    (m__law_told : PySem.W.nsIn K mainGlobals "_law_told" = some (some (.ref f__law_told)))
    (l__law_told : K.lookup f__law_told = some ⟨oc__law_told, od__law_told, .func (PySem.W.fnOf "_law_told" "_law_told" (defArgs st__law_told) (defBody st__law_told) (defScope st__law_told) .none kV__law_told dc__law_told pm__law_told an__law_told cd__law_told ct__law_told), sl__law_told⟩)
    (c__law_told : PySem.W.codeIn K cd__law_told "_law_told" = true)
    (p__law_told : PySem.W.keepIn K (.ref f__law_told) = true)
    (m__law_right_of : PySem.W.nsIn K mainGlobals "_law_right_of" = some (some (.ref f__law_right_of)))
    (l__law_right_of : K.lookup f__law_right_of = some ⟨oc__law_right_of, od__law_right_of, .func (PySem.W.fnOf "_law_right_of" "_law_right_of" (defArgs st__law_right_of) (defBody st__law_right_of) (defScope st__law_right_of) .none kV__law_right_of dc__law_right_of pm__law_right_of an__law_right_of cd__law_right_of ct__law_right_of), sl__law_right_of⟩)
    (c__law_right_of : PySem.W.codeIn K cd__law_right_of "_law_right_of" = true)
    (p__law_right_of : PySem.W.keepIn K (.ref f__law_right_of) = true)
    (m_law : PySem.W.nsIn K mainGlobals "law" = some (some (.ref f_law)))
    (l_law : K.lookup f_law = some ⟨oc_law, od_law, .func (PySem.W.fnOf "law" "law" (defArgs st_law) (defBody st_law) (defScope st_law) .none kV_law dc_law pm_law an_law cd_law ct_law), sl_law⟩)
    (c_law : PySem.W.codeIn K cd_law "law" = true)
    (p_law : PySem.W.keepIn K (.ref f_law) = true)
    : ∃ fd : FuncData, (∀ (s : Shared) (u : Value), BindsTo s fd ⟨[u], []⟩ [("_law_script", u)]) ∧ ∀ base : Heap, K.In base → base.Ns mainGlobals mg → FnG P w K mg base 12 fa fd ["_law_script"] den_law := by
  have e := hfa.symm.trans (PySem.W.mg_of X G m_law)
  cases e
  have T : Txt K mg ⟨aC_SlantError, aC_NoSlants, aC_NoRow, aC_NoNumber, aC_NoLine, aC_NotEven, aC_NotFull, aC_NotStrong, aC_NoText, aC_TooGreat⟩ := {
    n_ValueError := PySem.W.mg_none_of X G b_ValueError,
    n_abs := PySem.W.mg_none_of X G b_abs,
    n_all := PySem.W.mg_none_of X G b_all,
    n_bool := PySem.W.mg_none_of X G b_bool,
    n_enumerate := PySem.W.mg_none_of X G b_enumerate,
    n_int := PySem.W.mg_none_of X G b_int,
    n_isinstance := PySem.W.mg_none_of X G b_isinstance,
    n_len := PySem.W.mg_none_of X G b_len,
    n_list := PySem.W.mg_none_of X G b_list,
    n_max := PySem.W.mg_none_of X G b_max,
    n_range := PySem.W.mg_none_of X G b_range,
    n_tuple := PySem.W.mg_none_of X G b_tuple,
    n_zip := PySem.W.mg_none_of X G b_zip,
    c_MOST := con_int (PySem.W.mg_of X G d_MOST),
    c_MOST_SIZE := con_int (PySem.W.mg_of X G d_MOST_SIZE),
    c_NOUGHT := con_tup2 (PySem.W.mg_of X G d_NOUGHT) z_NOUGHT,
    c_ONE := con_tup2 (PySem.W.mg_of X G d_ONE) z_ONE,
    g_SlantError := PySem.W.mg_of X G a_SlantError,
    g_NoSlants := PySem.W.mg_of X G a_NoSlants,
    g_NoRow := PySem.W.mg_of X G a_NoRow,
    g_NoNumber := PySem.W.mg_of X G a_NoNumber,
    g_NoLine := PySem.W.mg_of X G a_NoLine,
    g_NotEven := PySem.W.mg_of X G a_NotEven,
    g_NotFull := PySem.W.mg_of X G a_NotFull,
    g_NotStrong := PySem.W.mg_of X G a_NotStrong,
    g_NoText := PySem.W.mg_of X G a_NoText,
    g_TooGreat := PySem.W.mg_of X G a_TooGreat,
    x_NoSlants := ⟨PySem.W.mg_of X G a_NoSlants, q_NoSlants, h_NoSlants, s_NoSlants, t_NoSlants⟩,
    e_NoSlants := ⟨hg_NoSlants, hk_NoSlants, s_NoSlants, hd_NoSlants, ha_NoSlants, spec1, spec2, hm_NoSlants⟩,
    k_NoSlants_NoSlants := kit_self,
    k_NoSlants_NoRow := kit_ref i_NoRow j_NoRow k_NoSlants_NoRow u_NoSlants,
    k_NoSlants_NoNumber := kit_ref i_NoNumber j_NoNumber k_NoSlants_NoNumber u_NoSlants,
    k_NoSlants_NoLine := kit_ref i_NoLine j_NoLine k_NoSlants_NoLine u_NoSlants,
    k_NoSlants_NotEven := kit_ref i_NotEven j_NotEven k_NoSlants_NotEven u_NoSlants,
    k_NoSlants_NotFull := kit_ref i_NotFull j_NotFull k_NoSlants_NotFull u_NoSlants,
    k_NoSlants_NotStrong := kit_ref i_NotStrong j_NotStrong k_NoSlants_NotStrong u_NoSlants,
    k_NoSlants_NoText := kit_ref i_NoText j_NoText k_NoSlants_NoText u_NoSlants,
    k_NoSlants_TooGreat := kit_ref i_TooGreat j_TooGreat k_NoSlants_TooGreat u_NoSlants,
    v_NoSlants := kit_ve v_NoSlants,
    y_NoSlants := exm_of i_SlantError j_SlantError be y_NoSlants,
    x_NotFull := ⟨PySem.W.mg_of X G a_NotFull, q_NotFull, h_NotFull, s_NotFull, t_NotFull⟩,
    e_NotFull := ⟨hg_NotFull, hk_NotFull, s_NotFull, hd_NotFull, ha_NotFull, spec1, spec2, hm_NotFull⟩,
    k_NotFull_NoSlants := kit_ref i_NoSlants j_NoSlants k_NotFull_NoSlants u_NotFull,
    k_NotFull_NoRow := kit_ref i_NoRow j_NoRow k_NotFull_NoRow u_NotFull,
    k_NotFull_NoNumber := kit_ref i_NoNumber j_NoNumber k_NotFull_NoNumber u_NotFull,
    k_NotFull_NoLine := kit_ref i_NoLine j_NoLine k_NotFull_NoLine u_NotFull,
    k_NotFull_NotEven := kit_ref i_NotEven j_NotEven k_NotFull_NotEven u_NotFull,
    k_NotFull_NotFull := kit_self,
    k_NotFull_NotStrong := kit_ref i_NotStrong j_NotStrong k_NotFull_NotStrong u_NotFull,
    k_NotFull_NoText := kit_ref i_NoText j_NoText k_NotFull_NoText u_NotFull,
    k_NotFull_TooGreat := kit_ref i_TooGreat j_TooGreat k_NotFull_TooGreat u_NotFull,
    v_NotFull := kit_ve v_NotFull,
    y_NotFull := exm_of i_SlantError j_SlantError be y_NotFull,
    f_is_whole := ⟨_, _, fun_mk (st := st_is_whole) l_is_whole c_is_whole p_is_whole, PySem.W.mg_of X G m_is_whole, (fun_mk (st := st_is_whole) l_is_whole c_is_whole p_is_whole).binds (ps := ["thing"]) fun _ _ _ _ _ _ us hl => match us, hl with | [_], _ => rfl⟩,
    f_common := ⟨_, _, fun_mk (st := st_common) l_common c_common p_common, PySem.W.mg_of X G m_common, (fun_mk (st := st_common) l_common c_common p_common).binds (ps := ["one", "other"]) fun _ _ _ _ _ _ us hl => match us, hl with | [_, _], _ => rfl⟩,
    f_whole_row := ⟨_, _, fun_mk (st := st_whole_row) l_whole_row c_whole_row p_whole_row, PySem.W.mg_of X G m_whole_row, (fun_mk (st := st_whole_row) l_whole_row c_whole_row p_whole_row).binds (ps := ["numbers"]) fun _ _ _ _ _ _ us hl => match us, hl with | [_], _ => rfl⟩,
    f_unit_row := ⟨_, _, fun_mk (st := st_unit_row) l_unit_row c_unit_row p_unit_row, PySem.W.mg_of X G m_unit_row, (fun_mk (st := st_unit_row) l_unit_row c_unit_row p_unit_row).binds (ps := ["size", "place"]) fun _ _ _ _ _ _ us hl => match us, hl with | [_, _], _ => rfl⟩,
    f_size_of := ⟨_, _, fun_mk (st := st_size_of) l_size_of c_size_of p_size_of, PySem.W.mg_of X G m_size_of, (fun_mk (st := st_size_of) l_size_of c_size_of p_size_of).binds (ps := ["slants"]) fun _ _ _ _ _ _ us hl => match us, hl with | [_], _ => rfl⟩,
    f__law_cell_at := ⟨_, _, fun_mk (st := st__law_cell_at) l__law_cell_at c__law_cell_at p__law_cell_at, PySem.W.mg_of X G m__law_cell_at, (fun_mk (st := st__law_cell_at) l__law_cell_at c__law_cell_at p__law_cell_at).binds (ps := ["_law_script", "_law_k"]) fun _ _ _ _ _ _ us hl => match us, hl with | [_, _], _ => rfl⟩,
    f__law_next := ⟨_, _, fun_mk (st := st__law_next) l__law_next c__law_next p__law_next, PySem.W.mg_of X G m__law_next, (fun_mk (st := st__law_next) l__law_next c__law_next p__law_next).binds (ps := ["_law_seed"]) fun _ _ _ _ _ _ us hl => match us, hl with | [_], _ => rfl⟩,
    f__law_pen_of := ⟨_, _, fun_mk (st := st__law_pen_of) l__law_pen_of c__law_pen_of p__law_pen_of, PySem.W.mg_of X G m__law_pen_of, (fun_mk (st := st__law_pen_of) l__law_pen_of c__law_pen_of p__law_pen_of).binds (ps := ["_law_cell"]) fun _ _ _ _ _ _ us hl => match us, hl with | [_], _ => rfl⟩,
    f__law_whole_of := ⟨_, _, fun_mk (st := st__law_whole_of) l__law_whole_of c__law_whole_of p__law_whole_of, PySem.W.mg_of X G m__law_whole_of, (fun_mk (st := st__law_whole_of) l__law_whole_of c__law_whole_of p__law_whole_of).binds (ps := ["_law_found"]) fun _ _ _ _ _ _ us hl => match us, hl with | [_], _ => rfl⟩,
    f__law_kind_of := ⟨_, _, fun_mk (st := st__law_kind_of) l__law_kind_of c__law_kind_of p__law_kind_of, PySem.W.mg_of X G m__law_kind_of, (fun_mk (st := st__law_kind_of) l__law_kind_of c__law_kind_of p__law_kind_of).binds (ps := ["_law_e"]) fun _ _ _ _ _ _ us hl => match us, hl with | [_], _ => rfl⟩,
    f__law_gcd := ⟨_, _, fun_mk (st := st__law_gcd) l__law_gcd c__law_gcd p__law_gcd, PySem.W.mg_of X G m__law_gcd, (fun_mk (st := st__law_gcd) l__law_gcd c__law_gcd p__law_gcd).binds (ps := ["_law_one", "_law_other"]) fun _ _ _ _ _ _ us hl => match us, hl with | [_, _], _ => rfl⟩,
    f__law_table_of := ⟨_, _, fun_mk (st := st__law_table_of) l__law_table_of c__law_table_of p__law_table_of, PySem.W.mg_of X G m__law_table_of, (fun_mk (st := st__law_table_of) l__law_table_of c__law_table_of p__law_table_of).binds (ps := ["_law_slants"]) fun _ _ _ _ _ _ us hl => match us, hl with | [_], _ => rfl⟩,
    f__law_taken := ⟨_, _, fun_mk (st := st__law_taken) l__law_taken c__law_taken p__law_taken, PySem.W.mg_of X G m__law_taken, (fun_mk (st := st__law_taken) l__law_taken c__law_taken p__law_taken).binds (ps := ["_law_row", "_law_here", "_law_at", "_law_last"]) fun _ _ _ _ _ _ us hl => match us, hl with | [_, _, _, _], _ => rfl⟩,
    f__law_shared := ⟨_, _, fun_mk (st := st__law_shared) l__law_shared c__law_shared p__law_shared, PySem.W.mg_of X G m__law_shared, (fun_mk (st := st__law_shared) l__law_shared c__law_shared p__law_shared).binds (ps := ["_law_table"]) fun _ _ _ _ _ _ us hl => match us, hl with | [_], _ => rfl⟩,
    f_is_upto := ⟨_, _, fun_mk (st := st_is_upto) l_is_upto c_is_upto p_is_upto, PySem.W.mg_of X G m_is_upto, (fun_mk (st := st_is_upto) l_is_upto c_is_upto p_is_upto).binds (ps := ["thing", "low", "high"]) fun _ _ _ _ _ _ us hl => match us, hl with | [_, _, _], _ => rfl⟩,
    f_share := ⟨_, _, fun_mk (st := st_share) l_share c_share p_share, PySem.W.mg_of X G m_share, (fun_mk (st := st_share) l_share c_share p_share).binds (ps := ["top", "bottom"]) fun _ _ _ _ _ _ us hl => match us, hl with | [_, _], _ => rfl⟩,
    f_tabled := ⟨_, _, fun_mk (st := st_tabled) l_tabled c_tabled p_tabled, PySem.W.mg_of X G m_tabled, (fun_mk (st := st_tabled) l_tabled c_tabled p_tabled).binds (ps := ["slants"]) fun _ _ _ _ _ _ us hl => match us, hl with | [_], _ => rfl⟩,
    f__law_draw := ⟨_, _, fun_mk (st := st__law_draw) l__law_draw c__law_draw p__law_draw, PySem.W.mg_of X G m__law_draw, (fun_mk (st := st__law_draw) l__law_draw c__law_draw p__law_draw).binds (ps := ["_law_pen", "_law_many"]) fun _ _ _ _ _ _ us hl => match us, hl with | [_, _], _ => rfl⟩,
    f__law_refused := ⟨_, _, fun_mk (st := st__law_refused) l__law_refused c__law_refused p__law_refused, PySem.W.mg_of X G m__law_refused, (fun_mk (st := st__law_refused) l__law_refused c__law_refused p__law_refused).binds (ps := ["_law_e"]) fun _ _ _ _ _ _ us hl => match us, hl with | [_], _ => rfl⟩,
    f__law_share := ⟨_, _, fun_mk (st := st__law_share) l__law_share c__law_share p__law_share, PySem.W.mg_of X G m__law_share, (fun_mk (st := st__law_share) l__law_share c__law_share p__law_share).binds (ps := ["_law_top", "_law_bottom"]) fun _ _ _ _ _ _ us hl => match us, hl with | [_, _], _ => rfl⟩,
    f__law_share_like := ⟨_, _, fun_mk (st := st__law_share_like) l__law_share_like c__law_share_like p__law_share_like, PySem.W.mg_of X G m__law_share_like, (fun_mk (st := st__law_share_like) l__law_share_like c__law_share_like p__law_share_like).binds (ps := ["_law_thing"]) fun _ _ _ _ _ _ us hl => match us, hl with | [_], _ => rfl⟩,
    f__law_number_of := ⟨_, _, fun_mk (st := st__law_number_of) l__law_number_of c__law_number_of p__law_number_of, PySem.W.mg_of X G m__law_number_of, (fun_mk (st := st__law_number_of) l__law_number_of c__law_number_of p__law_number_of).binds (ps := ["_law_table"]) fun _ _ _ _ _ _ us hl => match us, hl with | [_], _ => rfl⟩,
    f_less := ⟨_, _, fun_mk (st := st_less) l_less c_less p_less, PySem.W.mg_of X G m_less, (fun_mk (st := st_less) l_less c_less p_less).binds (ps := ["one", "other"]) fun _ _ _ _ _ _ us hl => match us, hl with | [_, _], _ => rfl⟩,
    f_times := ⟨_, _, fun_mk (st := st_times) l_times c_times p_times, PySem.W.mg_of X G m_times, (fun_mk (st := st_times) l_times c_times p_times).binds (ps := ["one", "other"]) fun _ _ _ _ _ _ us hl => match us, hl with | [_, _], _ => rfl⟩,
    f_by := ⟨_, _, fun_mk (st := st_by) l_by c_by p_by, PySem.W.mg_of X G m_by, (fun_mk (st := st_by) l_by c_by p_by).binds (ps := ["one", "other"]) fun _ _ _ _ _ _ us hl => match us, hl with | [_, _], _ => rfl⟩,
    f_slants_good := ⟨_, _, fun_mk (st := st_slants_good) l_slants_good c_slants_good p_slants_good, PySem.W.mg_of X G m_slants_good, (fun_mk (st := st_slants_good) l_slants_good c_slants_good p_slants_good).binds (ps := ["thing"]) fun _ _ _ _ _ _ us hl => match us, hl with | [_], _ => rfl⟩,
    f_share_by := ⟨_, _, fun_mk (st := st_share_by) l_share_by c_share_by p_share_by, PySem.W.mg_of X G m_share_by, (fun_mk (st := st_share_by) l_share_by c_share_by p_share_by).binds (ps := ["slants"]) fun _ _ _ _ _ _ us hl => match us, hl with | [_], _ => rfl⟩,
    f__law_row_like := ⟨_, _, fun_mk (st := st__law_row_like) l__law_row_like c__law_row_like p__law_row_like, PySem.W.mg_of X G m__law_row_like, (fun_mk (st := st__law_row_like) l__law_row_like c__law_row_like p__law_row_like).binds (ps := ["_law_thing", "_law_size"]) fun _ _ _ _ _ _ us hl => match us, hl with | [_, _], _ => rfl⟩,
    f__law_slants_of := ⟨_, _, fun_mk (st := st__law_slants_of) l__law_slants_of c__law_slants_of p__law_slants_of, PySem.W.mg_of X G m__law_slants_of, (fun_mk (st := st__law_slants_of) l__law_slants_of c__law_slants_of p__law_slants_of).binds (ps := ["_law_pen"]) fun _ _ _ _ _ _ us hl => match us, hl with | [_], _ => rfl⟩,
    f__law_back := ⟨_, _, fun_mk (st := st__law_back) l__law_back c__law_back p__law_back, PySem.W.mg_of X G m__law_back, (fun_mk (st := st__law_back) l__law_back c__law_back p__law_back).binds (ps := ["_law_table"]) fun _ _ _ _ _ _ us hl => match us, hl with | [_], _ => rfl⟩,
    f_scaled := ⟨_, _, fun_mk (st := st_scaled) l_scaled c_scaled p_scaled, PySem.W.mg_of X G m_scaled, (fun_mk (st := st_scaled) l_scaled c_scaled p_scaled).binds (ps := ["row", "factor"]) fun _ _ _ _ _ _ us hl => match us, hl with | [_, _], _ => rfl⟩,
    f_rows_less := ⟨_, _, fun_mk (st := st_rows_less) l_rows_less c_rows_less p_rows_less, PySem.W.mg_of X G m_rows_less, (fun_mk (st := st_rows_less) l_rows_less c_rows_less p_rows_less).binds (ps := ["one", "other"]) fun _ _ _ _ _ _ us hl => match us, hl with | [_, _], _ => rfl⟩,
    f_check_slants := ⟨_, _, fun_mk (st := st_check_slants) l_check_slants c_check_slants p_check_slants, PySem.W.mg_of X G m_check_slants, (fun_mk (st := st_check_slants) l_check_slants c_check_slants p_check_slants).binds (ps := ["slants"]) fun _ _ _ _ _ _ us hl => match us, hl with | [_], _ => rfl⟩,
    f__law_table_like := ⟨_, _, fun_mk (st := st__law_table_like) l__law_table_like c__law_table_like p__law_table_like, PySem.W.mg_of X G m__law_table_like, (fun_mk (st := st__law_table_like) l__law_table_like c__law_table_like p__law_table_like).binds (ps := ["_law_thing", "_law_size"]) fun _ _ _ _ _ _ us hl => match us, hl with | [_, _], _ => rfl⟩,
    f_lined := ⟨_, _, fun_mk (st := st_lined) l_lined c_lined p_lined, PySem.W.mg_of X G m_lined, (fun_mk (st := st_lined) l_lined c_lined p_lined).binds (ps := ["table"]) fun _ _ _ _ _ _ us hl => match us, hl with | [_], _ => rfl⟩,
    f_share_table := ⟨_, _, fun_mk (st := st_share_table) l_share_table c_share_table p_share_table, PySem.W.mg_of X G m_share_table, (fun_mk (st := st_share_table) l_share_table c_share_table p_share_table).binds (ps := ["slants"]) fun _ _ _ _ _ _ us hl => match us, hl with | [_], _ => rfl⟩,
    f_free_by := ⟨_, _, fun_mk (st := st_free_by) l_free_by c_free_by p_free_by, PySem.W.mg_of X G m_free_by, (fun_mk (st := st_free_by) l_free_by c_free_by p_free_by).binds (ps := ["slants"]) fun _ _ _ _ _ _ us hl => match us, hl with | [_], _ => rfl⟩,
    f_backs_by := ⟨_, _, fun_mk (st := st_backs_by) l_backs_by c_backs_by p_backs_by, PySem.W.mg_of X G m_backs_by, (fun_mk (st := st_backs_by) l_backs_by c_backs_by p_backs_by).binds (ps := ["slants"]) fun _ _ _ _ _ _ us hl => match us, hl with | [_], _ => rfl⟩,
    f_full_by := ⟨_, _, fun_mk (st := st_full_by) l_full_by c_full_by p_full_by, PySem.W.mg_of X G m_full_by, (fun_mk (st := st_full_by) l_full_by c_full_by p_full_by).binds (ps := ["slants"]) fun _ _ _ _ _ _ us hl => match us, hl with | [_], _ => rfl⟩,
    f_columns_of := ⟨_, _, fun_mk (st := st_columns_of) l_columns_of c_columns_of p_columns_of, PySem.W.mg_of X G m_columns_of, (fun_mk (st := st_columns_of) l_columns_of c_columns_of p_columns_of).binds (ps := ["slants"]) fun _ _ _ _ _ _ us hl => match us, hl with | [_], _ => rfl⟩,
    f_back_of := ⟨_, _, fun_mk (st := st_back_of) l_back_of c_back_of p_back_of, PySem.W.mg_of X G m_back_of, (fun_mk (st := st_back_of) l_back_of c_back_of p_back_of).binds (ps := ["slants"]) fun _ _ _ _ _ _ us hl => match us, hl with | [_], _ => rfl⟩,
    f_two_rows := ⟨_, _, fun_mk (st := st_two_rows) l_two_rows c_two_rows p_two_rows, PySem.W.mg_of X G m_two_rows, (fun_mk (st := st_two_rows) l_two_rows c_two_rows p_two_rows).binds (ps := ["slants"]) fun _ _ _ _ _ _ us hl => match us, hl with | [_], _ => rfl⟩,
    f__law_told := ⟨_, _, fun_mk (st := st__law_told) l__law_told c__law_told p__law_told, PySem.W.mg_of X G m__law_told, (fun_mk (st := st__law_told) l__law_told c__law_told p__law_told).binds (ps := ["_law_way", "_law_slants"]) fun _ _ _ _ _ _ us hl => match us, hl with | [_, _], _ => rfl⟩,
    f__law_right_of := ⟨_, _, fun_mk (st := st__law_right_of) l__law_right_of c__law_right_of p__law_right_of, PySem.W.mg_of X G m__law_right_of, (fun_mk (st := st__law_right_of) l__law_right_of c__law_right_of p__law_right_of).binds (ps := ["_law_slants"]) fun _ _ _ _ _ _ us hl => match us, hl with | [_], _ => rfl⟩,
    f_law := ⟨_, _, fun_mk (st := st_law) l_law c_law p_law, PySem.W.mg_of X G m_law, (fun_mk (st := st_law) l_law c_law p_law).binds (ps := ["_law_script"]) fun _ _ _ _ _ _ us hl => match us, hl with | [_], _ => rfl⟩ }
  exact ⟨PySem.W.fnOf "law" "law" (defArgs st_law) (defBody st_law) (defScope st_law) .none kV_law dc_law pm_law an_law cd_law ct_law, fun s u => .of_eq rfl, fun base _ _ => ok_law T (fun_mk (st := st_law) l_law c_law p_law)⟩
end L_slanttables_k25_backs_told
open PySem PySem.W PyProof.Rows
set_option maxRecDepth 100000 in
set_option maxHeartbeats 40000000 in
theorem PySem.Challenge.cw_slanttables_k25_backs_told_holds : PySem.Challenge.rw_slanttables_k25_backs_told.Holds := by
  w_on
  o_law
  k_head
  (case hw => w_witness2)
  k_fill
  refine Dz.walk_ofG (l := PySem.Challenge.rw_slanttables_k25_backs_told) (n := 63) (k := 12) (x := "_law_script") (den := L_slanttables_k25_backs_told.den_law) rfl (by decide) rfl ⟨rfl, by decide, by decide⟩ (fun w h Y => PySem.W.kIn_of Y) ?F (fun ns hl => L_slanttables_k25_backs_told.law_true ns hl)
  case F =>
    intro w mg fa h KX G hmg
    refine' L_slanttables_k25_backs_told.all_mk KX G hmg ?spec1 ?spec2 ?b_ValueError ?b_abs ?b_all ?b_bool ?b_enumerate ?b_int ?b_isinstance ?b_len ?b_list ?b_max ?b_range ?b_tuple ?b_zip ?d_MOST ?d_MOST_SIZE ?d_NOUGHT ?z_NOUGHT ?d_ONE ?z_ONE ?a_SlantError ?a_NoSlants ?a_NoRow ?a_NoNumber ?a_NoLine ?a_NotEven ?a_NotFull ?a_NotStrong ?a_NoText ?a_TooGreat ?q_NoSlants ?h_NoSlants ?s_NoSlants ?t_NoSlants ?hg_NoSlants ?hk_NoSlants ?hd_NoSlants ?ha_NoSlants ?hm_NoSlants ?u_NoSlants ?k_NoSlants_NoRow ?k_NoSlants_NoNumber ?k_NoSlants_NoLine ?k_NoSlants_NotEven ?k_NoSlants_NotFull ?k_NoSlants_NotStrong ?k_NoSlants_NoText ?k_NoSlants_TooGreat ?v_NoSlants ?y_NoSlants ?q_NotFull ?h_NotFull ?s_NotFull ?t_NotFull ?hg_NotFull ?hk_NotFull ?hd_NotFull ?ha_NotFull ?hm_NotFull ?u_NotFull ?k_NotFull_NoSlants ?k_NotFull_NoRow ?k_NotFull_NoNumber ?k_NotFull_NoLine ?k_NotFull_NotEven ?k_NotFull_NotStrong ?k_NotFull_NoText ?k_NotFull_TooGreat ?v_NotFull ?y_NotFull ?be ?i_SlantError ?j_SlantError ?i_NoSlants ?j_NoSlants ?i_NoRow ?j_NoRow ?i_NoNumber ?j_NoNumber ?i_NoLine ?j_NoLine ?i_NotEven ?j_NotEven ?i_NotFull ?j_NotFull ?i_NotStrong ?j_NotStrong ?i_NoText ?j_NoText ?i_TooGreat ?j_TooGreat ?m_is_whole ?l_is_whole ?c_is_whole ?p_is_whole ?m_common ?l_common ?c_common ?p_common ?m_whole_row ?l_whole_row ?c_whole_row ?p_whole_row ?m_unit_row ?l_unit_row ?c_unit_row ?p_unit_row ?m_size_of ?l_size_of ?c_size_of ?p_size_of ?m__law_cell_at ?l__law_cell_at ?c__law_cell_at ?p__law_cell_at ?m__law_next ?l__law_next ?c__law_next ?p__law_next ?m__law_pen_of ?l__law_pen_of ?c__law_pen_of ?p__law_pen_of ?m__law_whole_of ?l__law_whole_of ?c__law_whole_of ?p__law_whole_of ?m__law_kind_of ?l__law_kind_of ?c__law_kind_of ?p__law_kind_of ?m__law_gcd ?l__law_gcd ?c__law_gcd ?p__law_gcd ?m__law_table_of ?l__law_table_of ?c__law_table_of ?p__law_table_of ?m__law_taken ?l__law_taken ?c__law_taken ?p__law_taken ?m__law_shared ?l__law_shared ?c__law_shared ?p__law_shared ?m_is_upto ?l_is_upto ?c_is_upto ?p_is_upto ?m_share ?l_share ?c_share ?p_share ?m_tabled ?l_tabled ?c_tabled ?p_tabled ?m__law_draw ?l__law_draw ?c__law_draw ?p__law_draw ?m__law_refused ?l__law_refused ?c__law_refused ?p__law_refused ?m__law_share ?l__law_share ?c__law_share ?p__law_share ?m__law_share_like ?l__law_share_like ?c__law_share_like ?p__law_share_like ?m__law_number_of ?l__law_number_of ?c__law_number_of ?p__law_number_of ?m_less ?l_less ?c_less ?p_less ?m_times ?l_times ?c_times ?p_times ?m_by ?l_by ?c_by ?p_by ?m_slants_good ?l_slants_good ?c_slants_good ?p_slants_good ?m_share_by ?l_share_by ?c_share_by ?p_share_by ?m__law_row_like ?l__law_row_like ?c__law_row_like ?p__law_row_like ?m__law_slants_of ?l__law_slants_of ?c__law_slants_of ?p__law_slants_of ?m__law_back ?l__law_back ?c__law_back ?p__law_back ?m_scaled ?l_scaled ?c_scaled ?p_scaled ?m_rows_less ?l_rows_less ?c_rows_less ?p_rows_less ?m_check_slants ?l_check_slants ?c_check_slants ?p_check_slants ?m__law_table_like ?l__law_table_like ?c__law_table_like ?p__law_table_like ?m_lined ?l_lined ?c_lined ?p_lined ?m_share_table ?l_share_table ?c_share_table ?p_share_table ?m_free_by ?l_free_by ?c_free_by ?p_free_by ?m_backs_by ?l_backs_by ?c_backs_by ?p_backs_by ?m_full_by ?l_full_by ?c_full_by ?p_full_by ?m_columns_of ?l_columns_of ?c_columns_of ?p_columns_of ?m_back_of ?l_back_of ?c_back_of ?p_back_of ?m_two_rows ?l_two_rows ?c_two_rows ?p_two_rows ?m__law_told ?l__law_told ?c__law_told ?p__law_told ?m__law_right_of ?l__law_right_of ?c__law_right_of ?p__law_right_of ?m_law ?l_law ?c_law ?p_law
    (case spec1 => k_is)
    (case spec2 => k_is)
    (case b_ValueError => k_is)
    (case b_abs => k_is)
    (case b_all => k_is)
    (case b_bool => k_is)
    (case b_enumerate => k_is)
    (case b_int => k_is)
    (case b_isinstance => k_is)
    (case b_len => k_is)
    (case b_list => k_is)
    (case b_max => k_is)
    (case b_range => k_is)
    (case b_tuple => k_is)
    (case b_zip => k_is)
    (case d_MOST => k_is)
    (case d_MOST_SIZE => k_is)
    (case d_NOUGHT => k_is)
    (case z_NOUGHT => k_is)
    (case d_ONE => k_is)
    (case z_ONE => k_is)
    (case a_SlantError => k_is)
    (case a_NoSlants => k_is)
    (case a_NoRow => k_is)
    (case a_NoNumber => k_is)
    (case a_NoLine => k_is)
    (case a_NotEven => k_is)
    (case a_NotFull => k_is)
    (case a_NotStrong => k_is)
    (case a_NoText => k_is)
    (case a_TooGreat => k_is)
    (case q_NoSlants => k_exc)
    (case h_NoSlants => k_is)
    (case s_NoSlants => k_is)
    (case t_NoSlants => k_is)
    (case hg_NoSlants => k_is)
    (case hk_NoSlants => k_is)
    (case hd_NoSlants => k_is)
    (case ha_NoSlants => k_is)
    (case hm_NoSlants => k_is)
    (case u_NoSlants => k_is)
    (case k_NoSlants_NoRow => k_is)
    (case k_NoSlants_NoNumber => k_is)
    (case k_NoSlants_NoLine => k_is)
    (case k_NoSlants_NotEven => k_is)
    (case k_NoSlants_NotFull => k_is)
    (case k_NoSlants_NotStrong => k_is)
    (case k_NoSlants_NoText => k_is)
    (case k_NoSlants_TooGreat => k_is)
    (case v_NoSlants => k_is)
    (case y_NoSlants => k_is)
    (case q_NotFull => k_exc)
    (case h_NotFull => k_is)
    (case s_NotFull => k_is)
    (case t_NotFull => k_is)
    (case hg_NotFull => k_is)
    (case hk_NotFull => k_is)
    (case hd_NotFull => k_is)
    (case ha_NotFull => k_is)
    (case hm_NotFull => k_is)
    (case u_NotFull => k_is)
    (case k_NotFull_NoSlants => k_is)
    (case k_NotFull_NoRow => k_is)
    (case k_NotFull_NoNumber => k_is)
    (case k_NotFull_NoLine => k_is)
    (case k_NotFull_NotEven => k_is)
    (case k_NotFull_NotStrong => k_is)
    (case k_NotFull_NoText => k_is)
    (case k_NotFull_TooGreat => k_is)
    (case v_NotFull => k_is)
    (case y_NotFull => k_is)
    (case be => k_is)
    (case i_SlantError => k_is)
    (case j_SlantError => k_is)
    (case i_NoSlants => k_is)
    (case j_NoSlants => k_is)
    (case i_NoRow => k_is)
    (case j_NoRow => k_is)
    (case i_NoNumber => k_is)
    (case j_NoNumber => k_is)
    (case i_NoLine => k_is)
    (case j_NoLine => k_is)
    (case i_NotEven => k_is)
    (case j_NotEven => k_is)
    (case i_NotFull => k_is)
    (case j_NotFull => k_is)
    (case i_NotStrong => k_is)
    (case j_NotStrong => k_is)
    (case i_NoText => k_is)
    (case j_NoText => k_is)
    (case i_TooGreat => k_is)
    (case j_TooGreat => k_is)
    (case m_is_whole => k_is)
    (case l_is_whole => k_is)
    (case c_is_whole => k_is)
    (case p_is_whole => k_is)
    (case m_common => k_is)
    (case l_common => k_is)
    (case c_common => k_is)
    (case p_common => k_is)
    (case m_whole_row => k_is)
    (case l_whole_row => k_is)
    (case c_whole_row => k_is)
    (case p_whole_row => k_is)
    (case m_unit_row => k_is)
    (case l_unit_row => k_is)
    (case c_unit_row => k_is)
    (case p_unit_row => k_is)
    (case m_size_of => k_is)
    (case l_size_of => k_is)
    (case c_size_of => k_is)
    (case p_size_of => k_is)
    (case m__law_cell_at => k_is)
    (case l__law_cell_at => k_is)
    (case c__law_cell_at => k_is)
    (case p__law_cell_at => k_is)
    (case m__law_next => k_is)
    (case l__law_next => k_is)
    (case c__law_next => k_is)
    (case p__law_next => k_is)
    (case m__law_pen_of => k_is)
    (case l__law_pen_of => k_is)
    (case c__law_pen_of => k_is)
    (case p__law_pen_of => k_is)
    (case m__law_whole_of => k_is)
    (case l__law_whole_of => k_is)
    (case c__law_whole_of => k_is)
    (case p__law_whole_of => k_is)
    (case m__law_kind_of => k_is)
    (case l__law_kind_of => k_is)
    (case c__law_kind_of => k_is)
    (case p__law_kind_of => k_is)
    (case m__law_gcd => k_is)
    (case l__law_gcd => k_is)
    (case c__law_gcd => k_is)
    (case p__law_gcd => k_is)
    (case m__law_table_of => k_is)
    (case l__law_table_of => k_is)
    (case c__law_table_of => k_is)
    (case p__law_table_of => k_is)
    (case m__law_taken => k_is)
    (case l__law_taken => k_is)
    (case c__law_taken => k_is)
    (case p__law_taken => k_is)
    (case m__law_shared => k_is)
    (case l__law_shared => k_is)
    (case c__law_shared => k_is)
    (case p__law_shared => k_is)
    (case m_is_upto => k_is)
    (case l_is_upto => k_is)
    (case c_is_upto => k_is)
    (case p_is_upto => k_is)
    (case m_share => k_is)
    (case l_share => k_is)
    (case c_share => k_is)
    (case p_share => k_is)
    (case m_tabled => k_is)
    (case l_tabled => k_is)
    (case c_tabled => k_is)
    (case p_tabled => k_is)
    (case m__law_draw => k_is)
    (case l__law_draw => k_is)
    (case c__law_draw => k_is)
    (case p__law_draw => k_is)
    (case m__law_refused => k_is)
    (case l__law_refused => k_is)
    (case c__law_refused => k_is)
    (case p__law_refused => k_is)
    (case m__law_share => k_is)
    (case l__law_share => k_is)
    (case c__law_share => k_is)
    (case p__law_share => k_is)
    (case m__law_share_like => k_is)
    (case l__law_share_like => k_is)
    (case c__law_share_like => k_is)
    (case p__law_share_like => k_is)
    (case m__law_number_of => k_is)
    (case l__law_number_of => k_is)
    (case c__law_number_of => k_is)
    (case p__law_number_of => k_is)
    (case m_less => k_is)
    (case l_less => k_is)
    (case c_less => k_is)
    (case p_less => k_is)
    (case m_times => k_is)
    (case l_times => k_is)
    (case c_times => k_is)
    (case p_times => k_is)
    (case m_by => k_is)
    (case l_by => k_is)
    (case c_by => k_is)
    (case p_by => k_is)
    (case m_slants_good => k_is)
    (case l_slants_good => k_is)
    (case c_slants_good => k_is)
    (case p_slants_good => k_is)
    (case m_share_by => k_is)
    (case l_share_by => k_is)
    (case c_share_by => k_is)
    (case p_share_by => k_is)
    (case m__law_row_like => k_is)
    (case l__law_row_like => k_is)
    (case c__law_row_like => k_is)
    (case p__law_row_like => k_is)
    (case m__law_slants_of => k_is)
    (case l__law_slants_of => k_is)
    (case c__law_slants_of => k_is)
    (case p__law_slants_of => k_is)
    (case m__law_back => k_is)
    (case l__law_back => k_is)
    (case c__law_back => k_is)
    (case p__law_back => k_is)
    (case m_scaled => k_is)
    (case l_scaled => k_is)
    (case c_scaled => k_is)
    (case p_scaled => k_is)
    (case m_rows_less => k_is)
    (case l_rows_less => k_is)
    (case c_rows_less => k_is)
    (case p_rows_less => k_is)
    (case m_check_slants => k_is)
    (case l_check_slants => k_is)
    (case c_check_slants => k_is)
    (case p_check_slants => k_is)
    (case m__law_table_like => k_is)
    (case l__law_table_like => k_is)
    (case c__law_table_like => k_is)
    (case p__law_table_like => k_is)
    (case m_lined => k_is)
    (case l_lined => k_is)
    (case c_lined => k_is)
    (case p_lined => k_is)
    (case m_share_table => k_is)
    (case l_share_table => k_is)
    (case c_share_table => k_is)
    (case p_share_table => k_is)
    (case m_free_by => k_is)
    (case l_free_by => k_is)
    (case c_free_by => k_is)
    (case p_free_by => k_is)
    (case m_backs_by => k_is)
    (case l_backs_by => k_is)
    (case c_backs_by => k_is)
    (case p_backs_by => k_is)
    (case m_full_by => k_is)
    (case l_full_by => k_is)
    (case c_full_by => k_is)
    (case p_full_by => k_is)
    (case m_columns_of => k_is)
    (case l_columns_of => k_is)
    (case c_columns_of => k_is)
    (case p_columns_of => k_is)
    (case m_back_of => k_is)
    (case l_back_of => k_is)
    (case c_back_of => k_is)
    (case p_back_of => k_is)
    (case m_two_rows => k_is)
    (case l_two_rows => k_is)
    (case c_two_rows => k_is)
    (case p_two_rows => k_is)
    (case m__law_told => k_is)
    (case l__law_told => k_is)
    (case c__law_told => k_is)
    (case p__law_told => k_is)
    (case m__law_right_of => k_is)
    (case l__law_right_of => k_is)
    (case c__law_right_of => k_is)
    (case p__law_right_of => k_is)
    (case m_law => k_is)
    (case l_law => k_is)
    (case c_law => k_is)
    (case p_law => k_is)

