import PyProof.Rows.All
import Wide.All
import OpenK.AllK
import Wide.FinOn
import HandS.ForMost
import HandS.ForExc
import HandS.More
import HandS.TryMany
import HandS.IsInst
import HandS.TupAny
import HandS.Conv
import HandS.EndBits
import HandS.HeadHook2
import HandS.Defaults
import KE.GoesMore
import PyProof.EnumMake
import PyProof.Draws
import HandS.Head0
import HandS.Head1
import HandS.Head2
import HandS.HeadEnd
import HandS.HeadHook1
import KE.Datum
import PyProof.P3Eq
import PySem.Challenge.RW_pipelinecut_k12_whole_room_does_no_harm
set_option Elab.async false
set_option linter.all false
set_option maxRecDepth 100000
set_option maxHeartbeats 2000000
namespace DL
open PySem PySem.Spec PyProof.Rows L2

/-! ### values without the heap -/
inductive D where
  | non | bl (b : Bool) | int (i : Int) | str (x : Str) | tup (xs : List D) | lst (xs : List D) | scr (xs : List D) | loc (n : Nat)
abbrev Sto := List (List D)
abbrev DS := List (Option D)

mutual
/-- the value v stands for d: frozen things stand in H, a place of the store at its address -/
def Rp (K : PySem.W.Frag) (io : List Addr) (H : Hp) : D → V → Prop
  | .non, v => v = .non
  | .bl b, v => v = .bl b
  | .int i, v => v = .int i
  | .str x, v => v = .str x
  | .tup ds, v => ∃ a vs, v = .ref a ∧ SqT K H a vs ∧ RpL K io H ds vs
  | .lst ds, v => ∃ a vs, v = .ref a ∧ H a = some (.lst vs) ∧ RpL K io H ds vs
  | .scr ds, v => ∃ a vs, v = .ref a ∧ SqL K H a vs ∧ RpL K io H ds vs
  | .loc n, v => ∃ a, v = .ref a ∧ io[n]? = some a
def RpL (K : PySem.W.Frag) (io : List Addr) (H : Hp) : List D → List V → Prop
  | [], vs => vs = []
  | d :: ds, vs => ∃ v r, vs = v :: r ∧ Rp K io H d v ∧ RpL K io H ds r
end

theorem same_t {K : PySem.W.Frag} {H H' : Hp} {a : Addr} {xs : List V} (e : Same H H') (h : SqT K H a xs) : SqT K H' a xs := by
  rcases h with (h | ⟨o, h⟩) | h
  · exact .inl (.inl (e _ _ h))
  · exact .inl (.inr ⟨o, e _ _ h⟩)
  · exact .inr h

section
variable {K : PySem.W.Frag} {io io' : List Addr} {H H' : Hp}
theorem pre_get {α : Type} {l l' : List α} (h : l <+: l') {n : Nat} {a : α} (e : l[n]? = some a) : l'[n]? = some a := by
  obtain ⟨t, rfl⟩ := h
  rw [List.getElem?_append_left (List.getElem?_eq_some_iff.mp e).1]
  exact e
mutual
theorem Rp.mono (hi : io <+: io') (e : Same H H') : ∀ (d : D) (v : V), Rp K io H d v → Rp K io' H' d v
  | .non, _, h => h
  | .bl _, _, h => h
  | .int _, _, h => h
  | .str _, _, h => h
  | .tup ds, v, h => by
    obtain ⟨a, vs, h1, h2, h3⟩ := h
    exact ⟨a, vs, h1, same_t e h2, RpL.mono hi e ds vs h3⟩
  | .lst ds, v, h => by
    obtain ⟨a, vs, h1, h2, h3⟩ := h
    exact ⟨a, vs, h1, e _ _ h2, RpL.mono hi e ds vs h3⟩
  | .scr ds, v, h => by
    obtain ⟨a, vs, h1, h2, h3⟩ := h
    exact ⟨a, vs, h1, Same.seq e h2, RpL.mono hi e ds vs h3⟩
  | .loc n, v, h => by
    obtain ⟨a, h1, h2⟩ := h
    exact ⟨a, h1, pre_get hi h2⟩
theorem RpL.mono (hi : io <+: io') (e : Same H H') : ∀ (ds : List D) (vs : List V), RpL K io H ds vs → RpL K io' H' ds vs
  | [], _, h => h
  | d :: ds, _, h => by
    obtain ⟨v, r, h0, h1, h2⟩ := h
    exact ⟨v, r, h0, Rp.mono hi e d v h1, RpL.mono hi e ds r h2⟩
end
theorem RpL.length : ∀ {ds : List D} {vs : List V}, RpL K io H ds vs → vs.length = ds.length
  | [], _, h => by rw [show _ = [] from h] <;> rfl
  | d :: ds, _, h => by
    obtain ⟨v, r, rfl, _, h2⟩ := h
    rw [List.length_cons, List.length_cons, RpL.length h2]
theorem RpL.get : ∀ {ds : List D} {vs : List V} {i : Nat} {d : D}, RpL K io H ds vs → ds[i]? = some d → ∃ v, vs[i]? = some v ∧ Rp K io H d v
  | [], _, _, _, _, e => by simp at e
  | d :: ds, _, 0, d', h, e => by
    obtain ⟨v, r, rfl, h1, _⟩ := h
    have e' : d = d' := by simpa using e
    subst e'
    exact ⟨v, rfl, h1⟩
  | d :: ds, _, i + 1, d', h, e => by
    obtain ⟨v, r, rfl, _, h2⟩ := h
    have e' : ds[i]? = some d' := by simpa using e
    obtain ⟨u, q1, q2⟩ := RpL.get h2 e'
    exact ⟨u, by simpa using q1, q2⟩
theorem RpL.getV : ∀ {ds : List D} {vs : List V} {i : Nat} {v : V}, RpL K io H ds vs → vs[i]? = some v → ∃ d, ds[i]? = some d ∧ Rp K io H d v := fun {ds vs i v} h e => by
  have hl := h.length
  have hi := (List.getElem?_eq_some_iff.mp e).1
  have e2 : ds[i]? = some (ds[i]'(by omega)) := List.getElem?_eq_getElem _
  obtain ⟨u, q1, q2⟩ := h.get e2
  rw [e] at q1
  cases q1
  exact ⟨_, e2, q2⟩
theorem RpL.append : ∀ {ds es : List D} {vs us : List V}, RpL K io H ds vs → RpL K io H es us → RpL K io H (ds ++ es) (vs ++ us)
  | [], _, _, _, h, g => by rw [show _ = [] from h]; exact g
  | d :: ds, _, _, _, h, g => by
    obtain ⟨v, r, rfl, h1, h2⟩ := h
    exact ⟨v, r ++ _, rfl, h1, RpL.append h2 g⟩
theorem RpL.take : ∀ {ds : List D} {vs : List V} (n : Nat), RpL K io H ds vs → RpL K io H (ds.take n) (vs.take n)
  | ds, vs, 0, _ => by rw [List.take_zero, List.take_zero]; exact rfl
  | [], _, n + 1, h => by rw [show _ = [] from h]; exact rfl
  | d :: ds, _, n + 1, h => by
    obtain ⟨v, r, rfl, h1, h2⟩ := h
    exact ⟨v, r.take n, rfl, h1, RpL.take n h2⟩
theorem RpL.drop : ∀ {ds : List D} {vs : List V} (n : Nat), RpL K io H ds vs → RpL K io H (ds.drop n) (vs.drop n)
  | ds, vs, 0, h => h
  | [], _, n + 1, h => by rw [show _ = [] from h]; exact rfl
  | d :: ds, _, n + 1, h => by
    obtain ⟨v, r, rfl, h1, h2⟩ := h
    exact RpL.drop n h2
theorem RpL.set : ∀ {ds : List D} {vs : List V} (n : Nat) {d : D} {v : V}, RpL K io H ds vs → Rp K io H d v → RpL K io H (ds.set n d) (vs.set n v)
  | [], _, n, _, _, h, _ => by rw [show _ = [] from h]; exact rfl
  | d :: ds, _, 0, _, _, h, g => by
    obtain ⟨v, r, rfl, h1, h2⟩ := h
    exact ⟨_, r, rfl, g, h2⟩
  | d :: ds, _, n + 1, _, _, h, g => by
    obtain ⟨v, r, rfl, h1, h2⟩ := h
    exact ⟨v, r.set n _, rfl, h1, RpL.set n h2 g⟩
theorem RpL.one {d : D} {v : V} (h : Rp K io H d v) : RpL K io H [d] [v] := ⟨v, [], rfl, h, rfl⟩
theorem RpL.erase : ∀ {ds : List D} {vs : List V} (n : Nat), RpL K io H ds vs → RpL K io H (ds.eraseIdx n) (vs.eraseIdx n)
  | [], _, n, h => by rw [show _ = [] from h]; exact rfl
  | d :: ds, _, 0, h => by
    obtain ⟨v, r, rfl, h1, h2⟩ := h
    exact h2
  | d :: ds, _, n + 1, h => by
    obtain ⟨v, r, rfl, h1, h2⟩ := h
    exact ⟨v, r.eraseIdx n, rfl, h1, RpL.erase n h2⟩
theorem RpL.ints : ∀ {ns : List Int} {vs : List V}, RpL K io H (ns.map D.int) vs → vs = ns.map V.int
  | [], _, h => h
  | n :: ns, _, h => by
    obtain ⟨v, r, rfl, h1, h2⟩ := h
    rw [show v = V.int n from h1, RpL.ints h2] <;> rfl
theorem RpL.strs : ∀ {ns : List Str} {vs : List V}, RpL K io H (ns.map D.str) vs → vs = ns.map V.str
  | [], _, h => h
  | n :: ns, _, h => by
    obtain ⟨v, r, rfl, h1, h2⟩ := h
    rw [show v = V.str n from h1, RpL.strs h2] <;> rfl
theorem RpL.of_ints : ∀ (ns : List Int), RpL K io H (ns.map D.int) (ns.map V.int)
  | [] => rfl
  | n :: ns => ⟨_, _, rfl, rfl, RpL.of_ints ns⟩
theorem RpL.of_strs : ∀ (ns : List Str), RpL K io H (ns.map D.str) (ns.map V.str)
  | [] => rfl
  | n :: ns => ⟨_, _, rfl, rfl, RpL.of_strs ns⟩
end

/-! ### states -/
/-- the store's places stand at io, tracked in H; frozen things in Hf -/
structure SE (K : PySem.W.Frag) (Hf : Hp) (io : List Addr) (H : Hp) (M : Sto) : Prop where
  sub : Same Hf H
  len : io.length = M.length
  nd : io.Nodup
  own : ∀ (n : Nat) (a : Addr) (xs : List D), io[n]? = some a → M[n]? = some xs → Hf a = none ∧ ∃ vs, H a = some (.lst vs) ∧ RpL K io Hf xs vs
structure Ext (Hf : Hp) (io : List Addr) (H : Hp) (Hf' : Hp) (io' : List Addr) (H' : Hp) : Prop where
  hf : Same Hf Hf'
  pre : io <+: io'
  frame : ∀ a o, H a = some o → a ∉ io → H' a = some o
  newl : ∀ a, a ∈ io' → a ∉ io → H a = none
  newf : ∀ a, Hf a = none → Hf' a ≠ none → H a = none ∨ a ∈ io
theorem Ext.refl (Hf : Hp) (io : List Addr) (H : Hp) : Ext Hf io H Hf io H :=
  ⟨Same.refl _, List.prefix_refl _, fun _ _ e _ => e, fun _ h n => absurd h n, fun _ h n => absurd h n⟩
theorem Ext.trans {Hf Hf1 Hf2 H H1 H2 : Hp} {io io1 io2 : List Addr} (a : Ext Hf io H Hf1 io1 H1) (b : Ext Hf1 io1 H1 Hf2 io2 H2) : Ext Hf io H Hf2 io2 H2 := by
  have keep : ∀ x, x ∉ io → H1 x = none → H x = none := fun x n e => by
    cases q : H x with
    | none => rfl
    | some o => rw [a.frame x o q n] at e; cases e
  refine ⟨a.hf.trans b.hf, a.pre.trans b.pre, fun x o e n => ?_, fun x h n => ?_, fun x e n => ?_⟩
  · refine b.frame x o (a.frame x o e n) fun h => ?_
    have := a.newl x h n
    rw [e] at this
    cases this
  · by_cases h1 : x ∈ io1
    · exact a.newl x h1 n
    · exact keep x n (b.newl x h h1)
  · by_cases h1 : Hf1 x = none
    · rcases b.newf x h1 n with q | q
      · by_cases hx : x ∈ io
        · exact .inr hx
        · exact .inl (keep x hx q)
      · by_cases hx : x ∈ io
        · exact .inr hx
        · exact .inl (a.newl x q hx)
    · exact a.newf x e h1
/-- the slots -/
def RpS (K : PySem.W.Frag) (io : List Addr) (Hf : Hp) (σ : L2.St) (ds : DS) : Prop :=
  σ.length = ds.length ∧ ∀ (i : Nat) (d : D), ds[i]? = some (some d) → ∃ v, σ[i]? = some (some v) ∧ Rp K io Hf d v
theorem RpS.mono {K : PySem.W.Frag} {io io' : List Addr} {H H' : Hp} {σ : L2.St} {ds : DS} (hi : io <+: io') (e : Same H H') (h : RpS K io H σ ds) : RpS K io' H' σ ds :=
  ⟨h.1, fun i d q => let ⟨v, q1, q2⟩ := h.2 i d q; ⟨v, q1, Rp.mono hi e d v q2⟩⟩
theorem RpS.ext {K : PySem.W.Frag} {Hf Hf' H H' : Hp} {io io' : List Addr} {σ : L2.St} {ds : DS} (x : Ext Hf io H Hf' io' H') (h : RpS K io Hf σ ds) : RpS K io' Hf' σ ds := h.mono x.pre x.hf
theorem Rp.ext {K : PySem.W.Frag} {Hf Hf' H H' : Hp} {io io' : List Addr} {d : D} {v : V} (x : Ext Hf io H Hf' io' H') (h : Rp K io Hf d v) : Rp K io' Hf' d v := Rp.mono x.pre x.hf d v h
theorem RpL.ext {K : PySem.W.Frag} {Hf Hf' H H' : Hp} {io io' : List Addr} {ds : List D} {vs : List V} (x : Ext Hf io H Hf' io' H') (h : RpL K io Hf ds vs) : RpL K io' Hf' ds vs := RpL.mono x.pre x.hf ds vs h
theorem RpS.set {K : PySem.W.Frag} {io : List Addr} {Hf : Hp} {σ : L2.St} {ds : DS} (h : RpS K io Hf σ ds) (i : Nat) {d : D} {v : V} (r : Rp K io Hf d v) : RpS K io Hf (σ.set i (some v)) (ds.set i (some d)) := by
  refine ⟨by rw [List.length_set, List.length_set, h.1], fun j e q => ?_⟩
  by_cases hij : i = j
  · subst hij
    by_cases hl : i < ds.length
    · rw [List.getElem?_set_self hl] at q
      cases q
      exact ⟨v, List.getElem?_set_self (by rw [h.1]; exact hl), r⟩
    · rw [List.getElem?_eq_none (by rw [List.length_set]; omega)] at q
      cases q
  · rw [List.getElem?_set_ne hij] at q
    obtain ⟨u, q1, q2⟩ := h.2 j e q
    exact ⟨u, by rw [List.getElem?_set_ne hij]; exact q1, q2⟩
/-- slots forgotten -/
def wipeD (ds : DS) : List Nat → DS
  | [] => ds
  | v :: vs => (wipeD ds vs).set v none
theorem RpS.wipe {K : PySem.W.Frag} {io : List Addr} {Hf : Hp} {σ : L2.St} {ds : DS} (h : RpS K io Hf σ ds) : ∀ vs : List Nat, RpS K io Hf (L2.wipe σ vs) (wipeD ds vs)
  | [] => h
  | v :: vs => by
    have ih := RpS.wipe h vs
    refine ⟨?_, fun j e q => ?_⟩
    · show ((L2.wipe σ vs).set v none).length = ((wipeD ds vs).set v none).length
      rw [List.length_set, List.length_set, ih.1]
    · have q : ((wipeD ds vs).set v none)[j]? = some (some e) := q
      by_cases hij : v = j
      · subst hij
        by_cases hl : v < (wipeD ds vs).length
        · rw [List.getElem?_set_self hl] at q
          cases q
        · rw [List.getElem?_eq_none (by rw [List.length_set]; omega)] at q
          cases q
      · rw [List.getElem?_set_ne hij] at q
        obtain ⟨u, q1, q2⟩ := ih.2 j e q
        refine ⟨u, ?_, q2⟩
        show ((L2.wipe σ vs).set v none)[j]? = some (some u)
        rw [List.getElem?_set_ne hij]
        exact q1

/-- a new frozen thing -/
theorem SE.froze {K : PySem.W.Frag} {Hf H : Hp} {io : List Addr} {M : Sto} (h : SE K Hf io H M) {p : Addr} {o : HO} (np : H p = none) :
    SE K (upd Hf p o) io (upd H p o) M ∧ Ext Hf io H (upd Hf p o) io (upd H p o) := by
  have nf : Hf p = none := h.sub.free np
  have s1 : Same Hf (upd Hf p o) := fun b u e => by rw [upd_ne (ne_of_none e nf)]; exact e
  have np2 : p ∉ io := fun hm => by
    obtain ⟨n, hn, e⟩ := List.mem_iff_getElem.mp hm
    have e1 : io[n]? = some p := by rw [List.getElem?_eq_getElem hn, e]
    have e2 : M[n]? = some (M[n]'(by rw [← h.len]; exact hn)) := List.getElem?_eq_getElem _
    obtain ⟨_, vs, q, _⟩ := h.own n p _ e1 e2
    rw [np] at q
    cases q
  refine ⟨⟨fun b u e => ?_, h.len, h.nd, fun n a xs e1 e2 => ?_⟩, ⟨s1, List.prefix_refl _, fun a u e _ => ?_, fun a h1 h2 => absurd h1 h2, fun a e n => ?_⟩⟩
  · by_cases hb : b = p
    · subst hb; rw [upd_same] at e ⊢; exact e
    · rw [upd_ne hb] at e ⊢; exact h.sub b u e
  · obtain ⟨q0, vs, q1, q2⟩ := h.own n a xs e1 e2
    have ne : a ≠ p := fun z => by rw [z, np] at q1; cases q1
    exact ⟨by rw [upd_ne ne]; exact q0, vs, by rw [upd_ne ne]; exact q1, RpL.mono (List.prefix_refl _) s1 _ _ q2⟩
  · rw [upd_ne (ne_of_none e np)]; exact e
  · by_cases hb : a = p
    · subst hb; exact .inl np
    · rw [upd_ne hb] at n; exact absurd e n
/-- a new place of the store -/
theorem SE.alloc {K : PySem.W.Frag} {Hf H : Hp} {io : List Addr} {M : Sto} (h : SE K Hf io H M) {p : Addr} {vs : List V} {xs : List D} (np : H p = none) (r : RpL K io Hf xs vs) :
    SE K Hf (io ++ [p]) (upd H p (.lst vs)) (M ++ [xs]) ∧ Ext Hf io H Hf (io ++ [p]) (upd H p (.lst vs)) := by
  have nf : Hf p = none := h.sub.free np
  have pre : io <+: io ++ [p] := List.prefix_append _ _
  have np2 : p ∉ io := fun hm => by
    obtain ⟨n, hn, e⟩ := List.mem_iff_getElem.mp hm
    have e1 : io[n]? = some p := by rw [List.getElem?_eq_getElem hn, e]
    have e2 : M[n]? = some (M[n]'(by rw [← h.len]; exact hn)) := List.getElem?_eq_getElem _
    obtain ⟨_, vs, q, _⟩ := h.own n p _ e1 e2
    rw [np] at q
    cases q
  refine ⟨⟨fun b u e => ?_, by simp [h.len], ?_, fun n a ys e1 e2 => ?_⟩, ⟨Same.refl _, pre, fun a u e _ => ?_, fun a h1 h2 => ?_, fun a e n => absurd e n⟩⟩
  · rw [upd_ne (ne_of_none e nf)]; exact h.sub b u e
  · rw [List.nodup_append]
    refine ⟨h.nd, by simp, fun a ha b hb z => ?_⟩
    rw [List.mem_singleton] at hb
    rw [z, hb] at ha
    exact np2 ha
  · by_cases hn : n < io.length
    · rw [List.getElem?_append_left hn] at e1
      rw [List.getElem?_append_left (by rw [← h.len]; exact hn)] at e2
      obtain ⟨q0, us, q1, q2⟩ := h.own n a ys e1 e2
      have ne : a ≠ p := fun z => by rw [z, np] at q1; cases q1
      exact ⟨q0, us, by rw [upd_ne ne]; exact q1, RpL.mono pre (Same.refl _) _ _ q2⟩
    · have hl := (List.getElem?_eq_some_iff.mp e1).1
      have hn2 : n = io.length := by simp at hl; omega
      subst hn2
      have e3 : a = p := by simpa using e1.symm
      have e4 : ys = xs := by rw [h.len] at e2; simpa using e2.symm
      subst e3 e4
      exact ⟨nf, vs, upd_same, RpL.mono pre (Same.refl _) _ _ r⟩
  · rw [upd_ne (ne_of_none e np)]; exact e
  · have h3 : a = p := by
      rcases List.mem_append.mp h1 with q | q
      · exact absurd q h2
      · simpa using q
    subst h3
    exact np
/-- a place of the store written -/
theorem SE.store {K : PySem.W.Frag} {Hf H : Hp} {io : List Addr} {M : Sto} (h : SE K Hf io H M) {n : Nat} {p : Addr} {vs : List V} {xs : List D} (hp : io[n]? = some p) (r : RpL K io Hf xs vs) :
    SE K Hf io (upd H p (.lst vs)) (M.set n xs) ∧ Ext Hf io H Hf io (upd H p (.lst vs)) := by
  have hn := (List.getElem?_eq_some_iff.mp hp).1
  have e2 : M[n]? = some (M[n]'(by rw [← h.len]; exact hn)) := List.getElem?_eq_getElem _
  obtain ⟨nf, _, hpl, _⟩ := h.own n p _ hp e2
  have mp : p ∈ io := List.mem_of_getElem? hp
  refine ⟨⟨fun b u e => ?_, by simp [h.len], h.nd, fun m a ys f1 f2 => ?_⟩, ⟨Same.refl _, List.prefix_refl _, fun a u e na => ?_, fun a h1 h2 => absurd h1 h2, fun a e n => absurd e n⟩⟩
  · rw [upd_ne (ne_of_none e nf)]; exact h.sub b u e
  · by_cases hm : m = n
    · subst hm
      rw [hp] at f1
      cases f1
      have f3 : ys = xs := by
        rw [List.getElem?_set_self (by rw [← h.len]; exact hn)] at f2
        exact (Option.some.inj f2).symm
      subst f3
      exact ⟨nf, vs, upd_same, r⟩
    · rw [List.getElem?_set_ne (fun z => hm z.symm)] at f2
      obtain ⟨q0, us, q1, q2⟩ := h.own m a ys f1 f2
      have ne : a ≠ p := fun z => hm (L2.nd_ix h.nd (by rw [← z]; exact f1) hp)
      exact ⟨q0, us, by rw [upd_ne ne]; exact q1, q2⟩
  · rw [upd_ne (show a ≠ p from fun z => na (by rw [z]; exact mp))]; exact e
end DL
namespace DL
open PySem PySem.Spec PyProof.Rows L2

/-! ### what a piece of syntax does to plain values -/
abbrev KQ := D → Sto → Prop
abbrev KE := Str → Sto → Prop
abbrev FE := DS → Sto → KQ → KE → Prop
abbrev FT := DS → Sto → (Bool → Sto → Prop) → KE → Prop

def LQ (K : PySem.W.Frag) (Hf : Hp) (io : List Addr) (H : Hp) (Q : KQ) (Qr : VK) : Prop :=
  ∀ Hf' io' H' M' v d, Ext Hf io H Hf' io' H' → SE K Hf' io' H' M' → Rp K io' Hf' d v → Q d M' → Qr v H'
def LB (K : PySem.W.Frag) (Hf : Hp) (io : List Addr) (H : Hp) (Q : Bool → Sto → Prop) (Qr : Bool → Hp → Prop) : Prop :=
  ∀ Hf' io' H' M' b, Ext Hf io H Hf' io' H' → SE K Hf' io' H' M' → Q b M' → Qr b H'
def LA (K : PySem.W.Frag) (Hf : Hp) (io : List Addr) (H : Hp) (n : Nat) (Q : List D → Sto → Prop) (Qr : List V → Hp → Prop) : Prop :=
  ∀ Hf' io' H' M' vs ds, Ext Hf io H Hf' io' H' → SE K Hf' io' H' M' → RpL K io' Hf' ds vs → ds.length = n → Q ds M' → Qr vs H'
def LX (K : PySem.W.Frag) (mg : Str → Option Value) (Hf : Hp) (io : List Addr) (H : Hp) (E : KE) (Wr : XK) : Prop :=
  ∀ Hf' io' H' M' n C, Ext Hf io H Hf' io' H' → SE K Hf' io' H' M' → mg n = some (.ref C) → E n M' → Wr (.ref C) none H'
section
variable {K : PySem.W.Frag} {mg : Str → Option Value} {Hf Hf1 H H1 : Hp} {io io1 : List Addr}
theorem LQ.ext {Q : KQ} {Qr : VK} (q : LQ K Hf io H Q Qr) (x : Ext Hf io H Hf1 io1 H1) : LQ K Hf1 io1 H1 Q Qr := fun _ _ _ _ _ _ x2 => q _ _ _ _ _ _ (x.trans x2)
theorem LB.ext {Q : Bool → Sto → Prop} {Qr : Bool → Hp → Prop} (q : LB K Hf io H Q Qr) (x : Ext Hf io H Hf1 io1 H1) : LB K Hf1 io1 H1 Q Qr := fun _ _ _ _ _ x2 => q _ _ _ _ _ (x.trans x2)
theorem LX.ext {E : KE} {Wr : XK} (q : LX K mg Hf io H E Wr) (x : Ext Hf io H Hf1 io1 H1) : LX K mg Hf1 io1 H1 E Wr := fun _ _ _ _ _ _ x2 => q _ _ _ _ _ _ (x.trans x2)
end

structure SndE (K : PySem.W.Frag) (mg : Str → Option Value) (W : WX) (te : TE) (f : FE) : Prop where
  run : ∀ ds M Q E, f ds M Q E → ∀ σ Hf io H (Qr : VK), SE K Hf io H M → RpS K io Hf σ ds → LQ K Hf io H Q Qr → LX K mg Hf io H E (fun c d H' => W c d σ H') → te σ H Qr
structure SndT (K : PySem.W.Frag) (mg : Str → Option Value) (W : WX) (te : TT) (f : FT) : Prop where
  run : ∀ ds M Q E, f ds M Q E → ∀ σ Hf io H (Qr : Bool → Hp → Prop), SE K Hf io H M → RpS K io Hf σ ds → LB K Hf io H Q Qr → LX K mg Hf io H E (fun c d H' => W c d σ H') → te σ H Qr
/-- arguments, one after another -/
def args : List FE → DS → Sto → (List D → Sto → Prop) → KE → Prop
  | [], _, M, Q, _ => Q [] M
  | f :: fs, ds, M, Q, E => f ds M (fun x M1 => args fs ds M1 (fun xs M2 => Q (x :: xs) M2) E) E
structure SndA (K : PySem.W.Frag) (mg : Str → Option Value) (W : WX) (ta : TA) (fs : List FE) : Prop where
  run : ∀ ds M Q E, args fs ds M Q E → ∀ σ Hf io H (Qr : List V → Hp → Prop), SE K Hf io H M → RpS K io Hf σ ds → LA K Hf io H fs.length Q Qr → LX K mg Hf io H E (fun c d H' => W c d σ H') → ta σ H Qr

structure PEd (X : Cx) (K : PySem.W.Frag) (mg : Str → Option Value) (W : WX) (e : Expr) (te : TE) (f : FE) : Prop where
  hK : X.K = K
  hM : X.mg = mg
  p : PE X e te
  s : SndE K mg W te f
structure PTd (X : Cx) (K : PySem.W.Frag) (mg : Str → Option Value) (W : WX) (e : Expr) (te : TT) (f : FT) : Prop where
  hK : X.K = K
  hM : X.mg = mg
  p : PT X e te
  s : SndT K mg W te f
structure PWd (X : Cx) (K : PySem.W.Frag) (mg : Str → Option Value) (W : WX) (e : Expr) (te : TT) (f : FT) : Prop where
  hK : X.K = K
  hM : X.mg = mg
  p : PW X e te
  s : SndT K mg W te f
structure PAd (X : Cx) (K : PySem.W.Frag) (mg : Str → Option Value) (W : WX) (es : List Expr) (ta : TA) (fs : List FE) : Prop where
  hK : X.K = K
  hM : X.mg = mg
  p : PA X es ta
  s : SndA K mg W ta fs

/-! ### names, constants -/
def eVar (i : Nat) : FE := fun ds M Q _ => match ds[i]? with
  | some (some d) => Q d M
  | _ => False
def eC (d : D) : FE := fun _ M Q _ => Q d M
section
variable {X : Cx} {K : PySem.W.Frag} {mg : Str → Option Value} {W : WX} {pos : Pos}
theorem ped_var (i : Nat) {x : Str} (hN : X.N[i]? = some x := by rfl) (hv : Vis X.env.scope x := by first | exact Or.inl rfl | exact Or.inr (Or.inl rfl) | exact Or.inr (Or.inr rfl)) (hd : (x == ("__debug__" : Str)) = false := by decide)
    (hcd : (x == ("__classdict__" : Str)) = false := by decide) (hK : X.K = K := by rfl) (hM : X.mg = mg := by rfl) : PEd X K mg W (.Name x pos) (tVar i) (eVar i) := by subst hK hM; exact ⟨rfl, rfl, pe_var hN hv hd hcd, ⟨fun ds M Q E h σ Hf io H Qr se rs q _ => by
    unfold eVar at h
    split at h
    · rename_i d e
      obtain ⟨v, e1, r⟩ := rs.2 i d e
      exact ⟨v, e1, q _ _ _ _ _ _ (Ext.refl _ _ _) se r h⟩
    · exact h.elim⟩⟩
theorem snd_c {K : PySem.W.Frag} {mg : Str → Option Value} {v : V} {d : D} (r : ∀ io H, Rp K io H d v) : SndE K mg W (tC v) (eC d) :=
  ⟨fun ds M Q E h σ Hf io H Qr se rs q _ => q _ _ _ _ _ _ (Ext.refl _ _ _) se (r _ _) h⟩
theorem ped_int {i j} (hK : X.K = K := by rfl) (hM : X.mg = mg := by rfl) : PEd X K mg W (.Constant (.int i) j pos) (tC (.int i)) (eC (.int i)) := by subst hK hM; exact ⟨rfl, rfl, pe_int, snd_c fun _ _ => rfl⟩
theorem ped_bl {b j} (hK : X.K = K := by rfl) (hM : X.mg = mg := by rfl) : PEd X K mg W (.Constant (.bool b) j pos) (tC (.bl b)) (eC (.bl b)) := by subst hK hM; exact ⟨rfl, rfl, pe_bl, snd_c fun _ _ => rfl⟩
theorem ped_non {j} (hK : X.K = K := by rfl) (hM : X.mg = mg := by rfl) : PEd X K mg W (.Constant .none j pos) (tC .non) (eC .non) := by subst hK hM; exact ⟨rfl, rfl, pe_non, snd_c fun _ _ => rfl⟩
theorem ped_str {x j} (hK : X.K = K := by rfl) (hM : X.mg = mg := by rfl) : PEd X K mg W (.Constant (.str x) j pos) (tC (.str x)) (eC (.str x)) := by subst hK hM; exact ⟨rfl, rfl, pe_str, snd_c fun _ _ => rfl⟩
theorem ped_gint {x : Str} {i : Int} (hg : Gl X x) (hm : ∃ t, X.mg x = some (.int i t)) (hd : (x == ("__debug__" : Str)) = false := by decide) (hK : X.K = K := by rfl) (hM : X.mg = mg := by rfl) : PEd X K mg W (.Name x pos) (tC (.int i)) (eC (.int i)) := by
  subst hK hM
  obtain ⟨t, hm⟩ := hm
  exact ⟨rfl, rfl, pe_glob hg hm ⟨t, rfl⟩ hd, snd_c fun _ _ => rfl⟩
theorem ped_gstr {x z : Str} (hg : Gl X x) (hm : ∃ t, X.mg x = some (.str z t)) (hd : (x == ("__debug__" : Str)) = false := by decide) (hK : X.K = K := by rfl) (hM : X.mg = mg := by rfl) : PEd X K mg W (.Name x pos) (tC (.str z)) (eC (.str z)) := by
  subst hK hM
  obtain ⟨t, hm⟩ := hm
  exact ⟨rfl, rfl, pe_glob hg hm ⟨t, rfl⟩ hd, snd_c fun _ _ => rfl⟩
end

/-! ### two values -/
abbrev G2 := D → D → Sto → KQ → Prop
def SndO (K : PySem.W.Frag) (r : R2) (g : G2) : Prop :=
  ∀ x y M Q, g x y M Q → ∀ v u Hf io H (Qr : VK), SE K Hf io H M → Rp K io Hf x v → Rp K io Hf y u → LQ K Hf io H Q Qr → r v u H Qr
def eBin (g : G2) (fa fb : FE) : FE := fun ds M Q E => fa ds M (fun x M1 => fb ds M1 (fun y M2 => g x y M2 Q) E) E
def SndU (K : PySem.W.Frag) (r : V → Hp → VK → Prop) (g : D → Sto → KQ → Prop) : Prop :=
  ∀ x M Q, g x M Q → ∀ v Hf io H (Qr : VK), SE K Hf io H M → Rp K io Hf x v → LQ K Hf io H Q Qr → r v H Qr
def eUn (g : D → Sto → KQ → Prop) (fa : FE) : FE := fun ds M Q E => fa ds M (fun x M1 => g x M1 Q) E
section
variable {X : Cx} {W : WX} {pos : Pos} {K : PySem.W.Frag} {mg : Str → Option Value}
theorem snd_bin {r : R2} {g : G2} {ta tb : TE} {fa fb : FE} (o : SndO K r g) (a : SndE K mg W ta fa) (b : SndE K mg W tb fb) : SndE K mg W (tOp r ta tb) (eBin g fa fb) :=
  ⟨fun ds M Q E h σ Hf io H Qr se rs q hx => a.run ds M _ E h σ Hf io H _ se rs (fun Hf1 io1 H1 M1 v d x1 se1 rv h1 =>
    b.run ds M1 _ E h1 σ Hf1 io1 H1 _ se1 (rs.ext x1) (fun Hf2 io2 H2 M2 u e x2 se2 ru h2 => o d e M2 Q h2 v u Hf2 io2 H2 Qr se2 (rv.ext x2) ru (q.ext (x1.trans x2))) (hx.ext x1)) hx⟩
theorem snd_un {r : V → Hp → VK → Prop} {g : D → Sto → KQ → Prop} {ta : TE} {fa : FE} (o : SndU K r g) (a : SndE K mg W ta fa) : SndE K mg W (tUn r ta) (eUn g fa) :=
  ⟨fun ds M Q E h σ Hf io H Qr se rs q hx => a.run ds M _ E h σ Hf io H _ se rs (fun Hf1 io1 H1 M1 v d x1 se1 rv h1 => o d M1 Q h1 v Hf1 io1 H1 Qr se1 rv (q.ext x1)) hx⟩
theorem ped_bin {a b : Expr} {op : Operator} {r : R2} {g : G2} {ta tb : TE} {fa fb : FE} (ho : OpR X (binaryOp op) r) (o : SndO K r g) (ha : PEd X K mg W a ta fa) (hb : PEd X K mg W b tb fb) : PEd X K mg W (.BinOp a op b pos) (tOp r ta tb) (eBin g fa fb) := by obtain ⟨hK, hM⟩ : X.K = K ∧ X.mg = mg := ⟨ha.hK, ha.hM⟩; subst hK hM; exact ⟨rfl, rfl, pe_op ho ha.p hb.p, snd_bin o ha.s hb.s⟩
theorem ped_cmp {a b : Expr} {op : CmpOp} {r : R2} {g : G2} {ta tb : TE} {fa fb : FE} (ho : OpR X (compareOp op) r) (o : SndO K r g) (ha : PEd X K mg W a ta fa) (hb : PEd X K mg W b tb fb) (hm : behindInMarks op b = false := by first | exact nomark _ | rfl) :
    PEd X K mg W (.Compare a [op] [b] pos) (tOp r ta tb) (eBin g fa fb) := by obtain ⟨hK, hM⟩ : X.K = K ∧ X.mg = mg := ⟨ha.hK, ha.hM⟩; subst hK hM; exact ⟨rfl, rfl, pe_cmpR ho ha.p hb.p hm, snd_bin o ha.s hb.s⟩
theorem ped_un {a : Expr} {op : UnaryOp} {r : V → Hp → VK → Prop} {g : D → Sto → KQ → Prop} {ta : TE} {fa : FE} (ho : UnR X (unaryOp op) r) (o : SndU K r g) (ha : PEd X K mg W a ta fa) : PEd X K mg W (.UnaryOp op a pos) (tUn r ta) (eUn g fa) := by obtain ⟨hK, hM⟩ : X.K = K ∧ X.mg = mg := ⟨ha.hK, ha.hM⟩; subst hK hM; exact ⟨rfl, rfl, pe_un ho ha.p, snd_un o ha.s⟩
theorem ped_ixr {a b : Expr} {r : R2} {g : G2} {ta tb : TE} {fa fb : FE} (ho : IxR X r) (o : SndO K r g) (ha : PEd X K mg W a ta fa) (hb : PEd X K mg W b tb fb) (hs : PlainIx b := by exact fun _ _ => rfl) : PEd X K mg W (.Subscript a b pos) (tOp r ta tb) (eBin g fa fb) := by obtain ⟨hK, hM⟩ : X.K = K ∧ X.mg = mg := ⟨ha.hK, ha.hM⟩; subst hK hM; exact ⟨rfl, rfl, pe_ix ho ha.p hb.p hs, snd_bin o ha.s hb.s⟩
end

/-! ### operations on values -/
/-- a list that may grow or stands still -/
def listOf (x : D) (M : Sto) : Option (List D) := match x with
  | .lst xs => some xs
  | .loc n => M[n]?
  | _ => none
def seqOf (x : D) (M : Sto) : Option (List D) := match x with
  | .tup xs => some xs
  | .lst xs => some xs
  | .scr xs => some xs
  | .loc n => M[n]?
  | _ => none
/-- a new list: frozen, or a place of the store -/
def newL (al : Bool) (xs : List D) (M : Sto) (Q : KQ) : Prop := match al with
  | false => Q (.lst xs) M
  | true => Q (.loc M.length) (M ++ [xs])
def gI (C : Int → Int → Prop) (f : Int → Int → D) : G2 := fun x y M Q => match x with
  | .int i => (match y with
    | .int j => C i j ∧ Q (f i j) M
    | _ => False)
  | _ => False
def gI0 (f : Int → Int → D) : G2 := fun x y M Q => match x with
  | .int i => (match y with
    | .int j => Q (f i j) M
    | _ => False)
  | _ => False
def gSubI : G2 := gI0 fun i j => .int (i - j)
def gFdiv : G2 := gI CDiv fun i j => .int (i / j)
def gMod : G2 := gI (fun _ j => 0 < j) fun i j => .int (i % j)
def gPow : G2 := gI CPow fun i j => .int (i ^ j.toNat)
def gLt : G2 := gI0 fun i j => .bl (decide (i < j))
def gLe : G2 := gI0 fun i j => .bl (decide (i ≤ j))
def gGt : G2 := gI0 fun i j => .bl (decide (j < i))
def gGe : G2 := gI0 fun i j => .bl (decide (j ≤ i))
def gAdd (al : Bool) : G2 := fun x y M Q => match x with
  | .int i => (match y with
    | .int j => Q (.int (i + j)) M
    | _ => False)
  | .str a => (match y with
    | .str b => a.length + b.length ≤ sizeLine ∧ Q (.str (a ++ b)) M
    | _ => False)
  | .tup xs => (match y with
    | .tup ys => xs.length + ys.length ≤ sizeLine ∧ Q (.tup (xs ++ ys)) M
    | _ => False)
  | x => (match listOf x M with
    | some xs => (match listOf y M with
      | some ys => xs.length + ys.length ≤ sizeLine ∧ newL al (xs ++ ys) M Q
      | none => False)
    | none => False)
def gRep (al : Bool) (xs : List D) (y : D) (M : Sto) (Q : KQ) : Prop := match y with
  | .int k => (-(2 ^ 63) ≤ k ∧ k < 2 ^ 63 ∧ xs.length * k.toNat ≤ sizeLine) ∧ newL al (List.replicate k.toNat xs).flatten M Q
  | _ => False
def gMul (al : Bool) : G2 := fun x y M Q => match x with
  | .int i => (match y with
    | .int j => IntMulOk i j ∧ Q (.int (i * j)) M
    | _ => False)
  | x => (match listOf x M with
    | some xs => gRep al xs y M Q
    | none => False)
def gIx : G2 := fun x y M Q => match y with
  | .int i => (match x with
    | .str z => z.length ≤ sizeLine ∧ (match atI z.cps.toList i with
      | some c => Q (.str ⟨#[c]⟩) M
      | none => False)
    | x => (match seqOf x M with
      | some xs => (match atI xs i with
        | some d => Q d M
        | none => False)
      | none => False))
  | _ => False
def isNon : D → Bool
  | .non => true
  | _ => false
def gIsN : G2 := fun x y M Q => match y with
  | .non => Q (.bl (isNon x)) M
  | _ => False
def gNotN : G2 := fun x y M Q => match y with
  | .non => Q (.bl (!isNon x)) M
  | _ => False
def gNeg : D → Sto → KQ → Prop := fun x M Q => match x with
  | .int i => Q (.int (-i)) M
  | _ => False

section
variable {X : Cx} {K : PySem.W.Frag} {mg : Str → Option Value} {Hf H : Hp} {io : List Addr} {M : Sto}
theorem list_rep (se : SE K Hf io H M) {x : D} {v : V} {xs : List D} (r : Rp K io Hf x v) (h : listOf x M = some xs) : ∃ a vs, v = .ref a ∧ H a = some (.lst vs) ∧ RpL K io Hf xs vs := by
  cases x with
  | lst ys =>
    cases h
    obtain ⟨a, vs, rfl, h1, h2⟩ := r
    exact ⟨a, vs, rfl, se.sub _ _ h1, h2⟩
  | loc n =>
    obtain ⟨a, rfl, h1⟩ := r
    obtain ⟨_, vs, h2, h3⟩ := se.own n a xs h1 h
    exact ⟨a, vs, rfl, h2, h3⟩
  | _ => cases h
theorem seq_rep (se : SE K Hf io H M) {x : D} {v : V} {xs : List D} (r : Rp K io Hf x v) (h : seqOf x M = some xs) : ∃ a vs, v = .ref a ∧ (SqL K H a vs ∨ SqT K H a vs) ∧ RpL K io Hf xs vs := by
  cases x with
  | lst ys =>
    obtain ⟨a, vs, h1, h2, h3⟩ := list_rep (x := .lst ys) se r h
    exact ⟨a, vs, h1, .inl (SqL.of h2), h3⟩
  | loc n =>
    obtain ⟨a, vs, h1, h2, h3⟩ := list_rep (x := .loc n) se r h
    exact ⟨a, vs, h1, .inl (SqL.of h2), h3⟩
  | tup ys =>
    cases h
    obtain ⟨a, vs, rfl, h1, h2⟩ := r
    exact ⟨a, vs, rfl, .inr (same_t se.sub h1), h2⟩
  | scr ys =>
    cases h
    obtain ⟨a, vs, rfl, h1, h2⟩ := r
    exact ⟨a, vs, rfl, .inl (Same.seq se.sub h1), h2⟩
  | _ => cases h
/-- what a new list brings -/
theorem newL_ok (se : SE K Hf io H M) {al : Bool} {xs : List D} {vs : List V} {Q : KQ} {Qr : VK} (r : RpL K io Hf xs vs) (h : newL al xs M Q) (q : LQ K Hf io H Q Qr) {p : Addr} (np : H p = none) : Qr (.ref p) (upd H p (.lst vs)) := by
  cases al with
  | false =>
    obtain ⟨se1, x1⟩ := se.froze (o := .lst vs) np
    exact q _ _ _ _ _ (.lst xs) x1 se1 ⟨p, vs, rfl, upd_same, r.ext x1⟩ h
  | true =>
    obtain ⟨se1, x1⟩ := se.alloc np r
    refine q _ _ _ _ _ (.loc M.length) x1 se1 ⟨p, rfl, ?_⟩ h
    rw [← se.len]
    simp
theorem atI_rp {xs : List D} {vs : List V} {i : Int} {d : D} (r : RpL K io Hf xs vs) (h : atI xs i = some d) : ∃ v, atI vs i = some v ∧ Rp K io Hf d v := by
  unfold atI at h ⊢
  rw [r.length]
  cases e : ixN xs.length i with
  | none => rw [e] at h; cases h
  | some j =>
    rw [e] at h
    exact r.get (i := j) h
/-! ### the operations are sound -/
theorem so_I {C : Int → Int → Prop} {f : Int → Int → D} {g : Int → Int → V} (r : ∀ i j io H, Rp K io H (f i j) (g i j)) : SndO K (rI C g) (gI C f) := by
  intro x y M Q h v u Hf io H Qr se rx ry q
  cases x with
  | int i => cases y with
    | int j => exact ⟨i, j, rx, ry, h.1, q _ _ _ _ _ _ (Ext.refl _ _ _) se (r i j _ _) h.2⟩
    | _ => exact h.elim
  | _ => exact h.elim
theorem so_I0 {f : Int → Int → D} {g : Int → Int → V} (r : ∀ i j io H, Rp K io H (f i j) (g i j)) : SndO K (rI0 g) (gI0 f) := by
  intro x y M Q h v u Hf io H Qr se rx ry q
  cases x with
  | int i => cases y with
    | int j => exact ⟨i, j, rx, ry, q _ _ _ _ _ _ (Ext.refl _ _ _) se (r i j _ _) h⟩
    | _ => exact h.elim
  | _ => exact h.elim
def rAddA (K : PySem.W.Frag) : R2 := fun x y H Q => (rI0 fun i j => .int (i + j)) x y H Q ∨ (∃ i j, x = .str i ∧ y = .str j ∧ i.length + j.length ≤ sizeLine ∧ Q (.str (i ++ j)) H) ∨ rCatA K x y H Q ∨ rCat x y H Q
theorem op_addA : OpR X (binaryOp .Add) (rAddA X.K) := op_add.or (op_add_str.or (op_catA.or op_cat))
theorem so_add {al : Bool} : SndO K (rAddA K) (gAdd al) := by
  intro x y M Q h v u Hf io H Qr se rx ry q
  have lists : ∀ {xs : List D}, listOf x M = some xs → (match listOf y M with | some ys => xs.length + ys.length ≤ sizeLine ∧ newL al (xs ++ ys) M Q | none => False) → rCat v u H Qr := by
    intro xs e h
    cases e2 : listOf y M with
    | none => rw [e2] at h; exact h.elim
    | some ys =>
      rw [e2] at h
      obtain ⟨a, vs, rfl, h1, h2⟩ := list_rep se rx e
      obtain ⟨b, us, rfl, h3, h4⟩ := list_rep se ry e2
      exact ⟨a, b, vs, us, rfl, rfl, h1, h3, by rw [h2.length, h4.length]; exact h.1, fun p np => newL_ok se (h2.append h4) h.2 q np⟩
  cases x with
  | int i => cases y with
    | int j => exact .inl ⟨i, j, rx, ry, q _ _ _ _ _ (.int (i + j)) (Ext.refl _ _ _) se rfl h⟩
    | _ => exact h.elim
  | str i => cases y with
    | str j => exact .inr (.inl ⟨i, j, rx, ry, h.1, q _ _ _ _ _ (.str (i ++ j)) (Ext.refl _ _ _) se rfl h.2⟩)
    | _ => exact h.elim
  | tup xs => cases y with
    | tup ys =>
      obtain ⟨a, vs, rfl, h1, h2⟩ := rx
      obtain ⟨b, us, rfl, h3, h4⟩ := ry
      refine .inr (.inr (.inl ⟨a, b, vs, us, rfl, rfl, same_t se.sub h1, same_t se.sub h3, by rw [h2.length, h4.length]; exact h.1, fun e => ?_, fun _ e => ?_, fun _ _ p np => ?_⟩))
      · subst e
        have e2 : xs = [] := List.eq_nil_of_length_eq_zero (by rw [← h2.length]; rfl)
        subst e2
        exact q _ _ _ _ _ (.tup ys) (Ext.refl _ _ _) se ⟨b, us, rfl, h3, h4⟩ h.2
      · subst e
        have e2 : ys = [] := List.eq_nil_of_length_eq_zero (by rw [← h4.length]; rfl)
        subst e2
        refine q _ _ _ _ _ (.tup xs) (Ext.refl _ _ _) se ⟨a, vs, rfl, h1, h2⟩ ?_
        have := h.2
        rw [List.append_nil] at this
        exact this
      · obtain ⟨se1, x1⟩ := se.froze (o := .tup (vs ++ us)) np
        exact q _ _ _ _ _ (.tup (xs ++ ys)) x1 se1 ⟨p, _, rfl, SqT.of upd_same, (h2.append h4).ext x1⟩ h.2
    | _ => exact h.elim
  | lst xs => exact .inr (.inr (.inr (lists (xs := xs) rfl h)))
  | loc n =>
    have h : (match M[n]? with | some xs => (match listOf y M with | some ys => xs.length + ys.length ≤ sizeLine ∧ newL al (xs ++ ys) M Q | none => False) | none => False) := h
    cases e : M[n]? with
    | none => rw [e] at h; exact h.elim
    | some xs => rw [e] at h; exact .inr (.inr (.inr (lists (xs := xs) e h)))
  | _ => exact h.elim
theorem op_mulX : OpR X (binaryOp .Mult) (rI IntMulOk fun i j => .int (i * j)) := opI fun _ _ _ _ _ _ _ hc q => mul_int q hc
def rMulA : R2 := fun x y H Q => (rI IntMulOk fun i j => .int (i * j)) x y H Q ∨ rRep x y H Q
theorem op_mulA : OpR X (binaryOp .Mult) rMulA := op_mulX.or op_rep
theorem RpL.rep {xs : List D} {vs : List V} (h : RpL K io Hf xs vs) : ∀ k : Nat, RpL K io Hf (List.replicate k xs).flatten (List.replicate k vs).flatten
  | 0 => rfl
  | k + 1 => by
    rw [List.replicate_succ, List.replicate_succ, List.flatten_cons, List.flatten_cons]
    exact h.append (RpL.rep h k)
theorem so_mul {al : Bool} : SndO K rMulA (gMul al) := by
  intro x y M Q h v u Hf io H Qr se rx ry q
  have lists : ∀ {xs : List D}, listOf x M = some xs → gRep al xs y M Q → rRep v u H Qr := by
    intro xs e h
    cases y with
    | int k =>
      obtain ⟨a, vs, rfl, h1, h2⟩ := list_rep se rx e
      exact ⟨a, k, vs, rfl, ry, h1, h.1.1, h.1.2.1, by rw [h2.length]; exact h.1.2.2, fun p np => newL_ok se (h2.rep _) h.2 q np⟩
    | _ => exact h.elim
  cases x with
  | int i => cases y with
    | int j => exact .inl ⟨i, j, rx, ry, h.1, q _ _ _ _ _ (.int (i * j)) (Ext.refl _ _ _) se rfl h.2⟩
    | _ => exact h.elim
  | lst xs => exact .inr (lists (xs := xs) rfl h)
  | loc n =>
    have h : (match M[n]? with | some xs => gRep al xs y M Q | none => False) := h
    cases e : M[n]? with
    | none => rw [e] at h; exact h.elim
    | some xs => rw [e] at h; exact .inr (lists (xs := xs) e h)
  | _ => exact h.elim
theorem so_ix : SndO K (rIx K) gIx := by
  intro x y M Q h v u Hf io H Qr se rx ry q
  cases y with
  | int i =>
    have seqs : ∀ {xs : List D}, seqOf x M = some xs → (match atI xs i with | some d => Q d M | none => False) → rIx K v u H Qr := by
      intro xs e h
      cases e2 : atI xs i with
      | none => rw [e2] at h; exact h.elim
      | some d =>
        rw [e2] at h
        obtain ⟨a, vs, rfl, h1, h2⟩ := seq_rep se rx e
        obtain ⟨w, h3, h4⟩ := atI_rp h2 e2
        have fin := q _ _ _ _ _ d (Ext.refl _ _ _) se h4 h
        rcases h1 with h1 | h1
        · exact .inl ⟨a, vs, i, w, rfl, ry, h1, h3, fin⟩
        · exact .inr (.inl ⟨a, vs, i, w, rfl, ry, h1, h3, fin⟩)
    cases x with
    | str z =>
      obtain ⟨hz, h⟩ := h
      cases e : atI z.cps.toList i with
      | none => rw [e] at h; exact h.elim
      | some c =>
        rw [e] at h
        exact .inr (.inr ⟨z, i, c, rx, ry, hz, e, q _ _ _ _ _ (.str ⟨#[c]⟩) (Ext.refl _ _ _) se rfl h⟩)
    | tup xs => exact seqs (xs := xs) rfl h
    | lst xs => exact seqs (xs := xs) rfl h
    | scr xs => exact seqs (xs := xs) rfl h
    | loc n =>
      have h : (match M[n]? with | some xs => (match atI xs i with | some d => Q d M | none => False) | none => False) := h
      cases e : M[n]? with
      | none => rw [e] at h; exact h.elim
      | some xs => rw [e] at h; exact seqs (xs := xs) e h
    | _ => exact h.elim
  | _ => exact h.elim
theorem rp_non {d : D} {v : V} (r : Rp K io Hf d v) : decide (v = V.non) = isNon d := by
  cases d with
  | non => rw [show v = V.non from r] <;> rfl
  | bl b => rw [show v = V.bl b from r] <;> rfl
  | int b => rw [show v = V.int b from r] <;> rfl
  | str b => rw [show v = V.str b from r] <;> rfl
  | tup b => obtain ⟨a, vs, rfl, _⟩ := r; rfl
  | lst b => obtain ⟨a, vs, rfl, _⟩ := r; rfl
  | scr b => obtain ⟨a, vs, rfl, _⟩ := r; rfl
  | loc b => obtain ⟨a, rfl, _⟩ := r; rfl
theorem so_isN : SndO K (fun x y H Q => y = .non ∧ Q (.bl (decide (x = .non))) H) gIsN := by
  intro x y M Q h v u Hf io H Qr se rx ry q
  cases y with
  | non =>
    refine ⟨ry, ?_⟩
    rw [rp_non rx]
    exact q _ _ _ _ _ (.bl (isNon x)) (Ext.refl _ _ _) se rfl h
  | _ => exact h.elim
theorem so_notN : SndO K (fun x y H Q => y = .non ∧ Q (.bl (!decide (x = .non))) H) gNotN := by
  intro x y M Q h v u Hf io H Qr se rx ry q
  cases y with
  | non =>
    refine ⟨ry, ?_⟩
    rw [rp_non rx]
    exact q _ _ _ _ _ (.bl (!isNon x)) (Ext.refl _ _ _) se rfl h
  | _ => exact h.elim
theorem su_neg : SndU K (rU fun i => .int (-i)) gNeg := by
  intro x M Q h v Hf io H Qr se rx q
  cases x with
  | int i => exact ⟨i, rx, q _ _ _ _ _ (.int (-i)) (Ext.refl _ _ _) se rfl h⟩
  | _ => exact h.elim
end

section
variable {X : Cx} {K : PySem.W.Frag} {mg : Str → Option Value} {W : WX} {pos : Pos} {a b : Expr} {ta tb : TE} {fa fb : FE}
theorem ped_add (al : Bool) (ha : PEd X K mg W a ta fa) (hb : PEd X K mg W b tb fb) : PEd X K mg W (.BinOp a .Add b pos) (tOp (rAddA K) ta tb) (eBin (gAdd al) fa fb) := by obtain ⟨hK, hM⟩ : X.K = K ∧ X.mg = mg := ⟨ha.hK, ha.hM⟩; subst hK hM; exact ped_bin op_addA so_add ha hb
theorem ped_mul (al : Bool) (ha : PEd X K mg W a ta fa) (hb : PEd X K mg W b tb fb) : PEd X K mg W (.BinOp a .Mult b pos) (tOp rMulA ta tb) (eBin (gMul al) fa fb) := by obtain ⟨hK, hM⟩ : X.K = K ∧ X.mg = mg := ⟨ha.hK, ha.hM⟩; subst hK hM; exact ped_bin op_mulA so_mul ha hb
theorem ped_sub (ha : PEd X K mg W a ta fa) (hb : PEd X K mg W b tb fb) : PEd X K mg W (.BinOp a .Sub b pos) (tOp (rI0 fun i j => .int (i - j)) ta tb) (eBin gSubI fa fb) := by obtain ⟨hK, hM⟩ : X.K = K ∧ X.mg = mg := ⟨ha.hK, ha.hM⟩; subst hK hM; exact ped_bin op_sub (so_I0 fun _ _ _ _ => rfl) ha hb
theorem ped_fdiv (ha : PEd X K mg W a ta fa) (hb : PEd X K mg W b tb fb) : PEd X K mg W (.BinOp a .FloorDiv b pos) (tOp (rI CDiv fun i j => .int (i / j)) ta tb) (eBin gFdiv fa fb) := by obtain ⟨hK, hM⟩ : X.K = K ∧ X.mg = mg := ⟨ha.hK, ha.hM⟩; subst hK hM; exact ped_bin op_fdiv (so_I fun _ _ _ _ => rfl) ha hb
theorem ped_mod (ha : PEd X K mg W a ta fa) (hb : PEd X K mg W b tb fb) : PEd X K mg W (.BinOp a .Mod b pos) (tOp (rI (fun _ j => 0 < j) fun i j => .int (i % j)) ta tb) (eBin gMod fa fb) := by obtain ⟨hK, hM⟩ : X.K = K ∧ X.mg = mg := ⟨ha.hK, ha.hM⟩; subst hK hM; exact ped_bin op_mod (so_I fun _ _ _ _ => rfl) ha hb
theorem ped_pow (ha : PEd X K mg W a ta fa) (hb : PEd X K mg W b tb fb) : PEd X K mg W (.BinOp a .Pow b pos) (tOp (rI CPow fun i j => .int (i ^ j.toNat)) ta tb) (eBin gPow fa fb) := by obtain ⟨hK, hM⟩ : X.K = K ∧ X.mg = mg := ⟨ha.hK, ha.hM⟩; subst hK hM; exact ped_bin op_pow (so_I fun _ _ _ _ => rfl) ha hb
theorem ped_lt (ha : PEd X K mg W a ta fa) (hb : PEd X K mg W b tb fb) : PEd X K mg W (.Compare a [.Lt] [b] pos) (tOp (rI0 fun i j => .bl (decide (i < j))) ta tb) (eBin gLt fa fb) := by obtain ⟨hK, hM⟩ : X.K = K ∧ X.mg = mg := ⟨ha.hK, ha.hM⟩; subst hK hM; exact ped_cmp op_lt (so_I0 fun _ _ _ _ => rfl) ha hb
theorem ped_le (ha : PEd X K mg W a ta fa) (hb : PEd X K mg W b tb fb) : PEd X K mg W (.Compare a [.LtE] [b] pos) (tOp (rI0 fun i j => .bl (decide (i ≤ j))) ta tb) (eBin gLe fa fb) := by obtain ⟨hK, hM⟩ : X.K = K ∧ X.mg = mg := ⟨ha.hK, ha.hM⟩; subst hK hM; exact ped_cmp op_le (so_I0 fun _ _ _ _ => rfl) ha hb
theorem ped_gt (ha : PEd X K mg W a ta fa) (hb : PEd X K mg W b tb fb) : PEd X K mg W (.Compare a [.Gt] [b] pos) (tOp (rI0 fun i j => .bl (decide (j < i))) ta tb) (eBin gGt fa fb) := by obtain ⟨hK, hM⟩ : X.K = K ∧ X.mg = mg := ⟨ha.hK, ha.hM⟩; subst hK hM; exact ped_cmp op_gt (so_I0 fun _ _ _ _ => rfl) ha hb
theorem ped_ge (ha : PEd X K mg W a ta fa) (hb : PEd X K mg W b tb fb) : PEd X K mg W (.Compare a [.GtE] [b] pos) (tOp (rI0 fun i j => .bl (decide (j ≤ i))) ta tb) (eBin gGe fa fb) := by obtain ⟨hK, hM⟩ : X.K = K ∧ X.mg = mg := ⟨ha.hK, ha.hM⟩; subst hK hM; exact ped_cmp op_ge (so_I0 fun _ _ _ _ => rfl) ha hb
theorem ped_isN (ha : PEd X K mg W a ta fa) (hb : PEd X K mg W b tb fb) : PEd X K mg W (.Compare a [.Is] [b] pos) (tOp (fun x y H Q => y = .non ∧ Q (.bl (decide (x = .non))) H) ta tb) (eBin gIsN fa fb) := by obtain ⟨hK, hM⟩ : X.K = K ∧ X.mg = mg := ⟨ha.hK, ha.hM⟩; subst hK hM; exact ped_cmp op_isN so_isN ha hb
theorem ped_notN (ha : PEd X K mg W a ta fa) (hb : PEd X K mg W b tb fb) : PEd X K mg W (.Compare a [.IsNot] [b] pos) (tOp (fun x y H Q => y = .non ∧ Q (.bl (!decide (x = .non))) H) ta tb) (eBin gNotN fa fb) := by obtain ⟨hK, hM⟩ : X.K = K ∧ X.mg = mg := ⟨ha.hK, ha.hM⟩; subst hK hM; exact ped_cmp op_notN so_notN ha hb
theorem ped_neg (ha : PEd X K mg W a ta fa) : PEd X K mg W (.UnaryOp .USub a pos) (tUn (rU fun i => .int (-i)) ta) (eUn gNeg fa) := by obtain ⟨hK, hM⟩ : X.K = K ∧ X.mg = mg := ⟨ha.hK, ha.hM⟩; subst hK hM; exact ped_un un_neg su_neg ha
theorem ped_ix (ha : PEd X K mg W a ta fa) (hb : PEd X K mg W b tb fb) (hs : PlainIx b := by exact fun _ _ => rfl) : PEd X K mg W (.Subscript a b pos) (tOp (rIx K) ta tb) (eBin gIx fa fb) := by obtain ⟨hK, hM⟩ : X.K = K ∧ X.mg = mg := ⟨ha.hK, ha.hM⟩; subst hK hM; exact ped_ixr ix_seq so_ix ha hb hs
end
end DL
namespace DL
open PySem PySem.Spec PyProof.Rows L2

/-! ### == of data at any depth -/
def optAll {α β : Type} (f : α → Option β) : List α → Option (List β)
  | [] => some []
  | x :: xs => match f x with
    | some y => (match optAll f xs with
      | some ys => some (y :: ys)
      | none => none)
    | none => none
/-- what == sees of a value, n deep -/
def py (M : Sto) : Nat → D → Option PyData
  | 0, _ => none
  | n + 1, d => match d with
    | .non => some .none
    | .bl b => some (.bool b)
    | .int i => some (.int i)
    | .str x => some (.str x)
    | .tup xs => (optAll (py M n) xs).map .tuple
    | .lst xs => (optAll (py M n) xs).map .list
    | .scr xs => (optAll (py M n) xs).map .list
    | .loc k => match M[k]? with
      | some xs => (optAll (py M n) xs).map .list
      | none => none
def gEqD (neg : Bool) (x y : D) (M : Sto) (Q : KQ) : Prop := match py M 8 x with
  | some d => (match py M 8 y with
    | some e => d.canLay0 = true ∧ e.canLay0 = true ∧ Q (.bl (if neg then !PyData.eqv d e else PyData.eqv d e)) M
    | none => False)
  | none => False
def gEqN (neg : Bool) : G2 := fun x y M Q => match x with
  | .str a => (match y with
    | .str b => Q (.bl (if neg then !decide (a = b) else decide (a = b))) M
    | y => gEqD neg (.str a) y M Q)
  | .int a => (match y with
    | .int b => Q (.bl (if neg then !decide (a = b) else decide (a = b))) M
    | y => gEqD neg (.int a) y M Q)
  | .bl a => (match y with
    | .bl b => Q (.bl (if neg then !decide (a = b) else decide (a = b))) M
    | y => gEqD neg (.bl a) y M Q)
  | x => gEqD neg x y M Q
section
variable {X : Cx} {W : WX} {K : PySem.W.Frag} {mg : Str → Option Value} {Hf H : Hp} {io : List Addr} {M : Sto}
theorem py_depth : ∀ (n : Nat) (x : D) (d : PyData), py M n x = some d → d.depth ≤ n
  | 0, _, _, h => by cases h
  | n + 1, x, d, h => by
    have ih := py_depth n
    have all : ∀ (xs : List D) (ds : List PyData), optAll (py M n) xs = some ds → PyData.depthAll ds ≤ n := by
      intro xs
      induction xs with
      | nil => intro ds e; cases e; simp [PyData.depthAll]
      | cons x xs ihx =>
        intro ds e
        unfold optAll at e
        cases e1 : py M n x with
        | none => rw [e1] at e; cases e
        | some y =>
          rw [e1] at e
          cases e2 : optAll (py M n) xs with
          | none => rw [e2] at e; cases e
          | some ys =>
            rw [e2] at e
            cases e
            have h1 := ih x y e1
            have h2 := ihx ys e2
            simp only [PyData.depthAll]
            omega
    have mp : ∀ (xs : List D) (f : List PyData → PyData), (∀ ds, (f ds).depth = PyData.depthAll ds + 1) → (optAll (py M n) xs).map f = some d → d.depth ≤ n + 1 := by
      intro xs f hf e
      cases e2 : optAll (py M n) xs with
      | none => rw [e2] at e; cases e
      | some ys =>
        rw [e2] at e
        cases e
        have := all xs ys e2
        rw [hf]
        omega
    have sc : ∀ e : PyData, e.depth = 0 ∨ e.depth = 1 → some e = some d → d.depth ≤ n + 1 := by
      intro e h1 h2
      cases h2
      omega
    unfold py at h
    cases x with
    | non => exact sc _ (by simp [PyData.depth]) h
    | bl b => exact sc _ (by simp [PyData.depth]) h
    | int b => exact sc _ (by simp [PyData.depth]) h
    | str b => exact sc _ (by simp [PyData.depth]) h
    | tup xs => exact mp xs _ (fun ds => by simp only [PyData.depth]) h
    | lst xs => exact mp xs _ (fun ds => by simp only [PyData.depth]) h
    | scr xs => exact mp xs _ (fun ds => by simp only [PyData.depth]) h
    | loc k =>
      dsimp only at h
      cases e : M[k]? with
      | none => rw [e] at h; cases h
      | some xs => rw [e] at h; exact mp xs _ (fun ds => by simp only [PyData.depth]) h
theorem py_dp (se : SE K Hf io H M) : ∀ (n : Nat) (x : D) (v : V) (d : PyData), Rp K io Hf x v → py M n x = some d → Dp K H v d
  | 0, _, _, _, _, h => by cases h
  | n + 1, x, v, d, r, h => by
    have ih := py_dp se n
    have all : ∀ (xs : List D) (vs : List V) (ds : List PyData), RpL K io Hf xs vs → optAll (py M n) xs = some ds → DpAll K H vs ds := by
      intro xs
      induction xs with
      | nil => intro vs ds r e; cases e; rw [show vs = [] from r]; exact .nil
      | cons x xs ihx =>
        intro vs ds r e
        obtain ⟨v, us, rfl, r1, r2⟩ := r
        unfold optAll at e
        cases e1 : py M n x with
        | none => rw [e1] at e; cases e
        | some y =>
          rw [e1] at e
          cases e2 : optAll (py M n) xs with
          | none => rw [e2] at e; cases e
          | some ys =>
            rw [e2] at e
            cases e
            exact .cons (ih x v y r1 e1) (ihx us ys r2 e2)
    have mp : ∀ (xs : List D) (f : List PyData → PyData), (optAll (py M n) xs).map f = some d → ∃ ds, optAll (py M n) xs = some ds ∧ d = f ds := by
      intro xs f e
      cases e2 : optAll (py M n) xs with
      | none => rw [e2] at e; cases e
      | some ys => rw [e2] at e; cases e; exact ⟨ys, rfl, rfl⟩
    unfold py at h
    cases x with
    | non => cases h; rw [show v = .non from r]; exact .non
    | bl b => cases h; rw [show v = .bl b from r]; exact .bl b
    | int b => cases h; rw [show v = .int b from r]; exact .int b
    | str b => cases h; rw [show v = .str b from r]; exact .str b
    | tup xs =>
      obtain ⟨ds, e, rfl⟩ := mp xs _ h
      obtain ⟨a, vs, rfl, h1, h2⟩ := r
      exact .tup (same_t se.sub h1) (all xs vs ds h2 e)
    | lst xs =>
      obtain ⟨ds, e, rfl⟩ := mp xs _ h
      obtain ⟨a, vs, rfl, h1, h2⟩ := r
      exact .lst (SqL.of (se.sub _ _ h1)) (all xs vs ds h2 e)
    | scr xs =>
      obtain ⟨ds, e, rfl⟩ := mp xs _ h
      obtain ⟨a, vs, rfl, h1, h2⟩ := r
      exact .lst (Same.seq se.sub h1) (all xs vs ds h2 e)
    | loc k =>
      dsimp only at h
      cases e : M[k]? with
      | none => rw [e] at h; cases h
      | some xs =>
        rw [e] at h
        obtain ⟨ds, e1, rfl⟩ := mp xs _ h
        obtain ⟨a, rfl, h1⟩ := r
        obtain ⟨_, vs, h2, h3⟩ := se.own k a xs h1 e
        exact .lst (SqL.of h2) (all xs vs ds h3 e1)
def rEqA (K : PySem.W.Frag) : R2 := fun x y H Q => rEq x y H Q ∨ rEqD K x y H Q
def rNeA (K : PySem.W.Frag) : R2 := fun x y H Q => rNe x y H Q ∨ rNeD K x y H Q
theorem op_eqA (hu : X.A.units + 64 < cLine) : OpR X (compareOp .Eq) (rEqA X.K) := op_eq.or (op_eqD hu)
theorem op_neA (hu : X.A.units + 64 < cLine) : OpR X (compareOp .NotEq) (rNeA X.K) := op_ne.or (op_neD hu)
theorem eqD_of (se : SE K Hf io H M) {neg : Bool} {x y : D} {v u : V} {Q : KQ} {Qr : VK} (rx : Rp K io Hf x v) (ry : Rp K io Hf y u) (q : LQ K Hf io H Q Qr) (h : gEqD neg x y M Q) :
    ∃ d e, Dp K H v d ∧ Dp K H u e ∧ SeqAt.shaped d = true ∧ SeqAt.shaped e = true ∧ Qr (.bl (if neg then !PyData.eqv d e else PyData.eqv d e)) H := by
  unfold gEqD at h
  cases e1 : py M 8 x with
  | none => rw [e1] at h; exact h.elim
  | some d =>
    rw [e1] at h
    cases e2 : py M 8 y with
    | none => rw [e2] at h; exact h.elim
    | some e =>
      rw [e2] at h
      have s1 : SeqAt.shaped d = true := by
        unfold SeqAt.shaped
        rw [h.1, Bool.true_and]
        exact decide_eq_true (Nat.le_trans (py_depth 8 x d e1) (by decide))
      have s2 : SeqAt.shaped e = true := by
        unfold SeqAt.shaped
        rw [h.2.1, Bool.true_and]
        exact decide_eq_true (Nat.le_trans (py_depth 8 y e e2) (by decide))
      exact ⟨d, e, py_dp se 8 x v d rx e1, py_dp se 8 y u e ry e2, s1, s2, q _ _ _ _ _ (.bl _) (Ext.refl _ _ _) se rfl h.2.2⟩
theorem so_eq : SndO K (rEqA K) (gEqN false) := by
  intro x y M Q h v u Hf io H Qr se rx ry q
  have deep : gEqD false x y M Q → rEqA K v u H Qr := fun h => .inr (by obtain ⟨d, e, h1, h2, h3, h4, h5⟩ := eqD_of se rx ry q h; exact ⟨d, e, h1, h2, h3, h4, by simpa using h5⟩)
  have scl : ∀ b, (v = V.str b ∨ v = V.int b.length ∨ True) → True := fun _ _ => trivial
  cases x with
  | str a => cases y with
    | str b =>
      cases (show v = .str a from rx)
      cases (show u = .str b from ry)
      refine .inl ⟨rfl, ?_⟩
      have e : decide (V.str a = V.str b) = decide (a = b) := by by_cases z : a = b <;> simp [z]
      rw [e]
      exact q _ _ _ _ _ (.bl _) (Ext.refl _ _ _) se rfl h
    | _ => exact deep h
  | int a => cases y with
    | int b =>
      cases (show v = .int a from rx)
      cases (show u = .int b from ry)
      refine .inl ⟨rfl, ?_⟩
      have e : decide (V.int a = V.int b) = decide (a = b) := by by_cases z : a = b <;> simp [z]
      rw [e]
      exact q _ _ _ _ _ (.bl _) (Ext.refl _ _ _) se rfl h
    | _ => exact deep h
  | bl a => cases y with
    | bl b =>
      cases (show v = .bl a from rx)
      cases (show u = .bl b from ry)
      refine .inl ⟨rfl, ?_⟩
      have e : decide (V.bl a = V.bl b) = decide (a = b) := by by_cases z : a = b <;> simp [z]
      rw [e]
      exact q _ _ _ _ _ (.bl _) (Ext.refl _ _ _) se rfl h
    | _ => exact deep h
  | _ => exact deep h
theorem so_ne : SndO K (rNeA K) (gEqN true) := by
  intro x y M Q h v u Hf io H Qr se rx ry q
  have deep : gEqD true x y M Q → rNeA K v u H Qr := fun h => .inr (by obtain ⟨d, e, h1, h2, h3, h4, h5⟩ := eqD_of se rx ry q h; exact ⟨d, e, h1, h2, h3, h4, by simpa using h5⟩)
  cases x with
  | str a => cases y with
    | str b =>
      cases (show v = .str a from rx)
      cases (show u = .str b from ry)
      refine .inl ⟨rfl, ?_⟩
      have e : decide (V.str a = V.str b) = decide (a = b) := by by_cases z : a = b <;> simp [z]
      rw [e]
      exact q _ _ _ _ _ (.bl _) (Ext.refl _ _ _) se rfl h
    | _ => exact deep h
  | int a => cases y with
    | int b =>
      cases (show v = .int a from rx)
      cases (show u = .int b from ry)
      refine .inl ⟨rfl, ?_⟩
      have e : decide (V.int a = V.int b) = decide (a = b) := by by_cases z : a = b <;> simp [z]
      rw [e]
      exact q _ _ _ _ _ (.bl _) (Ext.refl _ _ _) se rfl h
    | _ => exact deep h
  | bl a => cases y with
    | bl b =>
      cases (show v = .bl a from rx)
      cases (show u = .bl b from ry)
      refine .inl ⟨rfl, ?_⟩
      have e : decide (V.bl a = V.bl b) = decide (a = b) := by by_cases z : a = b <;> simp [z]
      rw [e]
      exact q _ _ _ _ _ (.bl _) (Ext.refl _ _ _) se rfl h
    | _ => exact deep h
  | _ => exact deep h
end

/-! ### in, not in -/
/-- a flat value -/
def toV : D → Option V
  | .non => some .non
  | .bl b => some (.bl b)
  | .int i => some (.int i)
  | .str x => some (.str x)
  | _ => none
def gInSeq (neg : Bool) (x : D) (ys : List D) (M : Sto) (Q : KQ) : Prop := match toV x with
  | some v => (match optAll toV ys with
    | some us => Q (.bl (if neg then !inV v us else inV v us)) M
    | none => False)
  | none => False
def gIn (neg : Bool) : G2 := fun x y M Q => match y with
  | .str z => (match x with
    | .str c => (match c.cps.toList with
      | [k] => Q (.bl (if neg then !decide (k ∈ z.cps.toList) else decide (k ∈ z.cps.toList))) M
      | _ => False)
    | _ => False)
  | y => (match seqOf y M with
    | some ys => gInSeq neg x ys M Q
    | none => False)
section
variable {X : Cx} {W : WX} {K : PySem.W.Frag} {mg : Str → Option Value} {Hf H : Hp} {io : List Addr} {M : Sto}
theorem toV_rp {d : D} {v u : V} (h : toV d = some v) (r : Rp K io Hf d u) : u = v ∧ flatV v = true := by
  cases d with
  | non => cases h; exact ⟨r, rfl⟩
  | bl b => cases h; exact ⟨r, rfl⟩
  | int b => cases h; exact ⟨r, rfl⟩
  | str b => cases h; exact ⟨r, rfl⟩
  | _ => cases h
theorem toV_all : ∀ {ds : List D} {vs us : List V}, optAll toV ds = some vs → RpL K io Hf ds us → us = vs ∧ vs.all flatV = true
  | [], _, _, h, r => by cases h; exact ⟨r, rfl⟩
  | d :: ds, vs, us, h, r => by
    obtain ⟨u, us', rfl, r1, r2⟩ := r
    unfold optAll at h
    cases e1 : toV d with
    | none => rw [e1] at h; cases h
    | some y =>
      rw [e1] at h
      cases e2 : optAll toV ds with
      | none => rw [e2] at h; cases h
      | some ys =>
        rw [e2] at h
        cases h
        obtain ⟨rfl, f1⟩ := toV_rp e1 r1
        obtain ⟨rfl, f2⟩ := toV_all e2 r2
        exact ⟨rfl, by rw [List.all_cons, f1, f2] <;> rfl⟩
def rInA (K : PySem.W.Frag) (neg : Bool) : R2 := fun x y H Q => rIn K neg x y H Q ∨ ∃ (c : Nat) (z : Str), x = .str ⟨#[c]⟩ ∧ y = .str z ∧ Q (.bl (if neg then !decide (c ∈ z.cps.toList) else decide (c ∈ z.cps.toList))) H
theorem op_inA : OpR X (compareOp .In) (rInA X.K false) := op_in_seq.or (fun pins s σ H x y v u Q I rx ry h => op_in_sign pins s σ H x y v u Q I rx ry (by simpa using h))
theorem op_niA : OpR X (compareOp .NotIn) (rInA X.K true) := op_notIn_seq.or (fun pins s σ H x y v u Q I rx ry h => op_notIn_sign pins s σ H x y v u Q I rx ry (by simpa using h))
theorem so_in {neg : Bool} : SndO K (rInA K neg) (gIn neg) := by
  intro x y M Q h v u Hf io H Qr se rx ry q
  have seqs : ∀ {ys : List D}, seqOf y M = some ys → gInSeq neg x ys M Q → rInA K neg v u H Qr := by
    intro ys e h
    obtain ⟨a, vs, rfl, h1, h2⟩ := seq_rep se ry e
    unfold gInSeq at h
    cases e1 : toV x with
    | none => rw [e1] at h; exact h.elim
    | some w =>
      rw [e1] at h
      cases e2 : optAll toV ys with
      | none => rw [e2] at h; exact h.elim
      | some us =>
        rw [e2] at h
        obtain ⟨rfl, f1⟩ := toV_rp e1 rx
        obtain ⟨rfl, f2⟩ := toV_all e2 h2
        exact .inl ⟨a, _, rfl, h1, f1, f2, q _ _ _ _ _ (.bl _) (Ext.refl _ _ _) se rfl h⟩
  cases y with
  | str z => cases x with
    | str c =>
      have h : (match c.cps.toList with | [k] => Q (.bl (if neg then !decide (k ∈ z.cps.toList) else decide (k ∈ z.cps.toList))) M | _ => False) := h
      split at h
      · rename_i k e
        refine .inr ⟨k, z, ?_, ry, q _ _ _ _ _ (.bl _) (Ext.refl _ _ _) se rfl h⟩
        have : c = ⟨#[k]⟩ := by
          cases c with
          | mk cps => cases cps with
            | mk l =>
              have e : l = [k] := e
              subst e
              rfl
        rw [← this]
        exact rx
      · exact h.elim
    | _ => exact h.elim
  | tup ys => exact seqs (ys := ys) rfl h
  | lst ys => exact seqs (ys := ys) rfl h
  | scr ys => exact seqs (ys := ys) rfl h
  | loc n =>
    have h : (match M[n]? with | some ys => gInSeq neg x ys M Q | none => False) := h
    cases e : M[n]? with
    | none => rw [e] at h; exact h.elim
    | some ys => rw [e] at h; exact seqs (ys := ys) e h
  | _ => exact h.elim
end
section
variable {X : Cx} {K : PySem.W.Frag} {mg : Str → Option Value} {W : WX} {pos : Pos} {a b : Expr} {ta tb : TE} {fa fb : FE} {k : Nat}
theorem ped_eq (hr : Room k X.A) (ha : PEd X K mg W a ta fa) (hb : PEd X K mg W b tb fb) : PEd X K mg W (.Compare a [.Eq] [b] pos) (tOp (rEqA K) ta tb) (eBin (gEqN false) fa fb) := by obtain ⟨hK, hM⟩ : X.K = K ∧ X.mg = mg := ⟨ha.hK, ha.hM⟩; subst hK hM; exact ped_cmp (op_eqA hr.units) so_eq ha hb
theorem ped_ne (hr : Room k X.A) (ha : PEd X K mg W a ta fa) (hb : PEd X K mg W b tb fb) : PEd X K mg W (.Compare a [.NotEq] [b] pos) (tOp (rNeA K) ta tb) (eBin (gEqN true) fa fb) := by obtain ⟨hK, hM⟩ : X.K = K ∧ X.mg = mg := ⟨ha.hK, ha.hM⟩; subst hK hM; exact ped_cmp (op_neA hr.units) so_ne ha hb
theorem ped_in (ha : PEd X K mg W a ta fa) (hb : PEd X K mg W b tb fb) (hm : behindInMarks .In b = false := by rfl) : PEd X K mg W (.Compare a [.In] [b] pos) (tOp (rInA K false) ta tb) (eBin (gIn false) fa fb) := by obtain ⟨hK, hM⟩ : X.K = K ∧ X.mg = mg := ⟨ha.hK, ha.hM⟩; subst hK hM; exact ped_cmp op_inA so_in ha hb hm
theorem ped_ni (ha : PEd X K mg W a ta fa) (hb : PEd X K mg W b tb fb) (hm : behindInMarks .NotIn b = false := by rfl) : PEd X K mg W (.Compare a [.NotIn] [b] pos) (tOp (rInA K true) ta tb) (eBin (gIn true) fa fb) := by obtain ⟨hK, hM⟩ : X.K = K ∧ X.mg = mg := ⟨ha.hK, ha.hM⟩; subst hK hM; exact ped_cmp op_niA so_in ha hb hm
end

/-! ### chains, and, or, not -/
def eChain (g g' : G2) (fa fb fc : FE) : FE := fun ds M Q E => fa ds M (fun x M1 => fb ds M1 (fun y M2 => g x y M2 fun z M3 => match z with
  | .bl k => if k = true then fc ds M3 (fun w M4 => g' y w M4 Q) E else Q (.bl false) M3
  | _ => False) E) E
def eAnd (fa fb : FE) : FE := fun ds M Q E => fa ds M (fun x M1 => match x with
  | .bl c => if c = true then fb ds M1 Q E else Q (.bl false) M1
  | _ => False) E
def eOr (fa fb : FE) : FE := fun ds M Q E => fa ds M (fun x M1 => match x with
  | .bl c => if c = true then Q (.bl true) M1 else fb ds M1 Q E
  | _ => False) E
def eNot (fa : FE) : FE := fun ds M Q E => fa ds M (fun x M1 => match x with
  | .bl c => Q (.bl (!c)) M1
  | _ => False) E
/-- a value as a test; the connections of tests -/
def tst (f : FE) : FT := fun ds M Q E => f ds M (fun x M1 => match x with
  | .bl c => Q c M1
  | _ => False) E
def ftAnd (t u : FT) : FT := fun ds M Q E => t ds M (fun c M1 => if c = true then u ds M1 Q E else Q false M1) E
def ftOr (t u : FT) : FT := fun ds M Q E => t ds M (fun c M1 => if c = true then Q true M1 else u ds M1 Q E) E
def ftNot (t : FT) : FT := fun ds M Q E => t ds M (fun c M1 => Q (!c) M1) E
def eIf (t : FT) (fa fb : FE) : FE := fun ds M Q E => t ds M (fun c M1 => if c = true then fa ds M1 Q E else fb ds M1 Q E) E
section
variable {X : Cx} {W : WX} {K : PySem.W.Frag} {mg : Str → Option Value} {pos : Pos} {a b c : Expr} {ta tb tc : TE} {fa fb fc : FE} {t u : TT} {ft fu : FT} {rest : List Expr}
theorem rp_bl {io : List Addr} {H : Hp} {k : Bool} {v : V} (r : Rp K io H (.bl k) v) : v = .bl k := r
theorem snd_chain {r r' : R2} {g g' : G2} (o : SndO K r g) (o' : SndO K r' g') (sa : SndE K mg W ta fa) (sb : SndE K mg W tb fb) (sc : SndE K mg W tc fc) : SndE K mg W (tChain r r' ta tb tc) (eChain g g' fa fb fc) :=
  ⟨fun ds M Q E h σ Hf io H Qr se rs q hx => sa.run ds M _ E h σ Hf io H _ se rs (fun Hf1 io1 H1 M1 v d x1 se1 rv h1 =>
    sb.run ds M1 _ E h1 σ Hf1 io1 H1 _ se1 (rs.ext x1) (fun Hf2 io2 H2 M2 u e x2 se2 ru h2 => o d e M2 _ h2 v u Hf2 io2 H2 _ se2 (rv.ext x2) ru (fun Hf3 io3 H3 M3 z k x3 se3 rz h3 => by
      have X03 := (x1.trans x2).trans x3
      cases k with
      | bl k =>
        refine ⟨k, rz, ?_⟩
        by_cases hk : k = true
        · rw [if_pos hk]
          have h3 : (if k = true then fc ds M3 (fun w M4 => g' e w M4 Q) E else Q (.bl false) M3) := h3
          rw [if_pos hk] at h3
          exact sc.run ds M3 _ E h3 σ Hf3 io3 H3 _ se3 (rs.ext X03) (fun Hf4 io4 H4 M4 w k4 x4 se4 rw4 h4 => o' e k4 M4 Q h4 u w Hf4 io4 H4 Qr se4 (ru.ext (x3.trans x4)) rw4 (q.ext (X03.trans x4))) (hx.ext X03)
        · rw [if_neg hk]
          have h3 : (if k = true then fc ds M3 (fun w M4 => g' e w M4 Q) E else Q (.bl false) M3) := h3
          rw [if_neg hk] at h3
          exact q _ _ _ _ _ (.bl false) X03 se3 rfl h3
      | _ => exact h3.elim)) (hx.ext x1)) hx⟩
theorem snd_and (sa : SndE K mg W ta fa) (sb : SndE K mg W tb fb) : SndE K mg W (tAndV ta tb) (eAnd fa fb) :=
  ⟨fun ds M Q E h σ Hf io H Qr se rs q hx => sa.run ds M _ E h σ Hf io H _ se rs (fun Hf1 io1 H1 M1 v d x1 se1 rv h1 => by
    cases d with
    | bl k =>
      refine ⟨k, rv, ?_⟩
      have h1 : (if k = true then fb ds M1 Q E else Q (.bl false) M1) := h1
      by_cases hk : k = true
      · rw [if_pos hk] at h1 ⊢
        exact sb.run ds M1 Q E h1 σ Hf1 io1 H1 Qr se1 (rs.ext x1) (q.ext x1) (hx.ext x1)
      · rw [if_neg hk] at h1 ⊢
        exact q _ _ _ _ _ (.bl false) x1 se1 rfl h1
    | _ => exact h1.elim) hx⟩
theorem snd_or (sa : SndE K mg W ta fa) (sb : SndE K mg W tb fb) : SndE K mg W (tOrV ta tb) (eOr fa fb) :=
  ⟨fun ds M Q E h σ Hf io H Qr se rs q hx => sa.run ds M _ E h σ Hf io H _ se rs (fun Hf1 io1 H1 M1 v d x1 se1 rv h1 => by
    cases d with
    | bl k =>
      refine ⟨k, rv, ?_⟩
      have h1 : (if k = true then Q (.bl true) M1 else fb ds M1 Q E) := h1
      by_cases hk : k = true
      · rw [if_pos hk] at h1 ⊢
        exact q _ _ _ _ _ (.bl true) x1 se1 rfl h1
      · rw [if_neg hk] at h1 ⊢
        exact sb.run ds M1 Q E h1 σ Hf1 io1 H1 Qr se1 (rs.ext x1) (q.ext x1) (hx.ext x1)
    | _ => exact h1.elim) hx⟩
theorem snd_not (sa : SndE K mg W ta fa) : SndE K mg W (tNotV ta) (eNot fa) :=
  ⟨fun ds M Q E h σ Hf io H Qr se rs q hx => sa.run ds M _ E h σ Hf io H _ se rs (fun Hf1 io1 H1 M1 v d x1 se1 rv h1 => by
    cases d with
    | bl k => exact ⟨k, rv, q _ _ _ _ _ (.bl (!k)) x1 se1 rfl h1⟩
    | _ => exact h1.elim) hx⟩
theorem snd_tst (sa : SndE K mg W ta fa) : SndT K mg W (tB ta) (tst fa) :=
  ⟨fun ds M Q E h σ Hf io H Qr se rs q hx => sa.run ds M _ E h σ Hf io H _ se rs (fun Hf1 io1 H1 M1 v d x1 se1 rv h1 => by
    cases d with
    | bl k => exact ⟨k, rv, q _ _ _ _ k x1 se1 h1⟩
    | _ => exact h1.elim) hx⟩
theorem snd_tAnd (st : SndT K mg W t ft) (su : SndT K mg W u fu) : SndT K mg W (tAnd t u) (ftAnd ft fu) :=
  ⟨fun ds M Q E h σ Hf io H Qr se rs q hx => st.run ds M _ E h σ Hf io H _ se rs (fun Hf1 io1 H1 M1 k x1 se1 h1 => by
    have h1 : (if k = true then fu ds M1 Q E else Q false M1) := h1
    by_cases hk : k = true
    · rw [if_pos hk] at h1 ⊢
      exact su.run ds M1 Q E h1 σ Hf1 io1 H1 Qr se1 (rs.ext x1) (q.ext x1) (hx.ext x1)
    · rw [if_neg hk] at h1 ⊢
      exact q _ _ _ _ _ x1 se1 h1) hx⟩
theorem snd_tOr (st : SndT K mg W t ft) (su : SndT K mg W u fu) : SndT K mg W (tOr t u) (ftOr ft fu) :=
  ⟨fun ds M Q E h σ Hf io H Qr se rs q hx => st.run ds M _ E h σ Hf io H _ se rs (fun Hf1 io1 H1 M1 k x1 se1 h1 => by
    have h1 : (if k = true then Q true M1 else fu ds M1 Q E) := h1
    by_cases hk : k = true
    · rw [if_pos hk] at h1 ⊢
      exact q _ _ _ _ _ x1 se1 h1
    · rw [if_neg hk] at h1 ⊢
      exact su.run ds M1 Q E h1 σ Hf1 io1 H1 Qr se1 (rs.ext x1) (q.ext x1) (hx.ext x1)) hx⟩
theorem snd_tNot (st : SndT K mg W t ft) : SndT K mg W (tNot t) (ftNot ft) :=
  ⟨fun ds M Q E h σ Hf io H Qr se rs q hx => st.run ds M _ E h σ Hf io H _ se rs (fun Hf1 io1 H1 M1 k x1 se1 h1 => q _ _ _ _ _ x1 se1 h1) hx⟩
theorem snd_if (st : SndT K mg W t ft) (sa : SndE K mg W ta fa) (sb : SndE K mg W tb fb) : SndE K mg W (tIf t ta tb) (eIf ft fa fb) :=
  ⟨fun ds M Q E h σ Hf io H Qr se rs q hx => st.run ds M _ E h σ Hf io H _ se rs (fun Hf1 io1 H1 M1 k x1 se1 h1 => by
    have h1 : (if k = true then fa ds M1 Q E else fb ds M1 Q E) := h1
    by_cases hk : k = true
    · rw [if_pos hk] at h1 ⊢
      exact sa.run ds M1 Q E h1 σ Hf1 io1 H1 Qr se1 (rs.ext x1) (q.ext x1) (hx.ext x1)
    · rw [if_neg hk] at h1 ⊢
      exact sb.run ds M1 Q E h1 σ Hf1 io1 H1 Qr se1 (rs.ext x1) (q.ext x1) (hx.ext x1)) hx⟩
theorem ped_chain {op op' : CmpOp} {r r' : R2} {g g' : G2} (ho : OpR X (compareOp op) r) (ho' : OpR X (compareOp op') r') (o : SndO K r g) (o' : SndO K r' g') (ha : PEd X K mg W a ta fa) (hb : PEd X K mg W b tb fb) (hc : PEd X K mg W c tc fc)
    (hm : lastMarks [op, op'] [b, c] = false := by with_unfolding_all rfl) : PEd X K mg W (.Compare a [op, op'] [b, c] pos) (tChain r r' ta tb tc) (eChain g g' fa fb fc) := by obtain ⟨hK, hM⟩ : X.K = K ∧ X.mg = mg := ⟨ha.hK, ha.hM⟩; subst hK hM; exact ⟨rfl, rfl, pe_chain ho ho' ha.p hb.p hc.p hm, snd_chain o o' ha.s hb.s hc.s⟩
theorem ptd_chain {op op' : CmpOp} {r r' : R2} {g g' : G2} (ho : OpR X (compareOp op) r) (ho' : OpR X (compareOp op') r') (o : SndO K r g) (o' : SndO K r' g') (ha : PEd X K mg W a ta fa) (hb : PEd X K mg W b tb fb) (hc : PEd X K mg W c tc fc)
    (hm : lastMarks [op, op'] [b, c] = false := by with_unfolding_all rfl) : PTd X K mg W (.Compare a [op, op'] [b, c] pos) (tB (tChain r r' ta tb tc)) (tst (eChain g g' fa fb fc)) := by obtain ⟨hK, hM⟩ : X.K = K ∧ X.mg = mg := ⟨ha.hK, ha.hM⟩; subst hK hM; exact ⟨rfl, rfl, pt_chain ho ho' ha.p hb.p hc.p hm, snd_tst (snd_chain o o' ha.s hb.s hc.s)⟩
theorem ped_and (ha : PEd X K mg W a ta fa) (hb : PEd X K mg W (.BoolOp .And (b :: rest) pos) tb fb) : PEd X K mg W (.BoolOp .And (a :: b :: rest) pos) (tAndV ta tb) (eAnd fa fb) := by obtain ⟨hK, hM⟩ : X.K = K ∧ X.mg = mg := ⟨ha.hK, ha.hM⟩; subst hK hM; exact ⟨rfl, rfl, pe_and ha.p hb.p, snd_and ha.s hb.s⟩
theorem ped_or (ha : PEd X K mg W a ta fa) (hb : PEd X K mg W (.BoolOp .Or (b :: rest) pos) tb fb) : PEd X K mg W (.BoolOp .Or (a :: b :: rest) pos) (tOrV ta tb) (eOr fa fb) := by obtain ⟨hK, hM⟩ : X.K = K ∧ X.mg = mg := ⟨ha.hK, ha.hM⟩; subst hK hM; exact ⟨rfl, rfl, pe_or ha.p hb.p, snd_or ha.s hb.s⟩
theorem ped_one {op} (ha : PEd X K mg W a ta fa) : PEd X K mg W (.BoolOp op [a] pos) ta fa := by obtain ⟨hK, hM⟩ : X.K = K ∧ X.mg = mg := ⟨ha.hK, ha.hM⟩; subst hK hM; exact ⟨rfl, rfl, pe_one ha.p, ha.s⟩
theorem ped_not (ha : PEd X K mg W a ta fa) : PEd X K mg W (.UnaryOp .Not a pos) (tNotV ta) (eNot fa) := by obtain ⟨hK, hM⟩ : X.K = K ∧ X.mg = mg := ⟨ha.hK, ha.hM⟩; subst hK hM; exact ⟨rfl, rfl, pe_not ha.p, snd_not ha.s⟩
theorem ped_ifx (hc : PTd X K mg W c t ft) (ha : PEd X K mg W a ta fa) (hb : PEd X K mg W b tb fb) : PEd X K mg W (.IfExp c a b pos) (tIf t ta tb) (eIf ft fa fb) := by obtain ⟨hK, hM⟩ : X.K = K ∧ X.mg = mg := ⟨hc.hK, hc.hM⟩; subst hK hM; exact ⟨rfl, rfl, pe_ifExp hc.p ha.p hb.p, snd_if hc.s ha.s hb.s⟩
/-- an expression of truth as a test -/
theorem ptd_val (ha : PEd X K mg W a ta fa) (he : ∀ whole, isTrue a X.env whole = (do let v ← whole; standAt a.pos; holding [v] (truthy v)) := by intro _; rfl) : PTd X K mg W a (tB ta) (tst fa) := by obtain ⟨hK, hM⟩ : X.K = K ∧ X.mg = mg := ⟨ha.hK, ha.hM⟩; subst hK hM; exact ⟨rfl, rfl, pt_val ha.p he, snd_tst ha.s⟩
theorem ptd_cmpr {op : CmpOp} {r : R2} {g : G2} (ho : OpR X (compareOp op) r) (o : SndO K r g) (ha : PEd X K mg W a ta fa) (hb : PEd X K mg W b tb fb) (hm : behindInMarks op b = false := by first | exact nomark _ | rfl) : PTd X K mg W (.Compare a [op] [b] pos) (tB (tOp r ta tb)) (tst (eBin g fa fb)) := by obtain ⟨hK, hM⟩ : X.K = K ∧ X.mg = mg := ⟨ha.hK, ha.hM⟩; subst hK hM; exact ⟨rfl, rfl, pt_cmpR ho ha.p hb.p hm, snd_tst (snd_bin o ha.s hb.s)⟩
theorem pwd_and (ha : PTd X K mg W a t ft) (hb : PWd X K mg W (.BoolOp .And (b :: rest) pos) u fu) : PWd X K mg W (.BoolOp .And (a :: b :: rest) pos) (tAnd t u) (ftAnd ft fu) := by obtain ⟨hK, hM⟩ : X.K = K ∧ X.mg = mg := ⟨ha.hK, ha.hM⟩; subst hK hM; exact ⟨rfl, rfl, pw_and ha.p hb.p, snd_tAnd ha.s hb.s⟩
theorem pwd_or (ha : PTd X K mg W a t ft) (hb : PWd X K mg W (.BoolOp .Or (b :: rest) pos) u fu) : PWd X K mg W (.BoolOp .Or (a :: b :: rest) pos) (tOr t u) (ftOr ft fu) := by obtain ⟨hK, hM⟩ : X.K = K ∧ X.mg = mg := ⟨ha.hK, ha.hM⟩; subst hK hM; exact ⟨rfl, rfl, pw_or ha.p hb.p, snd_tOr ha.s hb.s⟩
theorem pwd_and1 (ha : PTd X K mg W a t ft) : PWd X K mg W (.BoolOp .And [a] pos) t ft := by obtain ⟨hK, hM⟩ : X.K = K ∧ X.mg = mg := ⟨ha.hK, ha.hM⟩; subst hK hM; exact ⟨rfl, rfl, pw_and1 ha.p, ha.s⟩
theorem pwd_or1 (ha : PTd X K mg W a t ft) : PWd X K mg W (.BoolOp .Or [a] pos) t ft := by obtain ⟨hK, hM⟩ : X.K = K ∧ X.mg = mg := ⟨ha.hK, ha.hM⟩; subst hK hM; exact ⟨rfl, rfl, pw_or1 ha.p, ha.s⟩
theorem PWd.pt (h : PWd X K mg W a t ft) : PTd X K mg W a t ft := by obtain ⟨hK, hM⟩ : X.K = K ∧ X.mg = mg := ⟨h.hK, h.hM⟩; subst hK hM; exact ⟨rfl, rfl, h.p.pt, h.s⟩
theorem ptd_not (h : PTd X K mg W a t ft) : PTd X K mg W (.UnaryOp .Not a pos) (tNot t) (ftNot ft) := by obtain ⟨hK, hM⟩ : X.K = K ∧ X.mg = mg := ⟨h.hK, h.hM⟩; subst hK hM; exact ⟨rfl, rfl, pt_not h.p, snd_tNot h.s⟩
end
section
variable {X : Cx} {K : PySem.W.Frag} {mg : Str → Option Value} {W : WX} {pos : Pos} {a b : Expr} {ta tb : TE} {fa fb : FE} {k : Nat}
theorem ptd_lt (ha : PEd X K mg W a ta fa) (hb : PEd X K mg W b tb fb) : PTd X K mg W (.Compare a [.Lt] [b] pos) (tB (tOp (rI0 fun i j => .bl (decide (i < j))) ta tb)) (tst (eBin gLt fa fb)) := by obtain ⟨hK, hM⟩ : X.K = K ∧ X.mg = mg := ⟨ha.hK, ha.hM⟩; subst hK hM; exact ptd_cmpr op_lt (so_I0 fun _ _ _ _ => rfl) ha hb
theorem ptd_le (ha : PEd X K mg W a ta fa) (hb : PEd X K mg W b tb fb) : PTd X K mg W (.Compare a [.LtE] [b] pos) (tB (tOp (rI0 fun i j => .bl (decide (i ≤ j))) ta tb)) (tst (eBin gLe fa fb)) := by obtain ⟨hK, hM⟩ : X.K = K ∧ X.mg = mg := ⟨ha.hK, ha.hM⟩; subst hK hM; exact ptd_cmpr op_le (so_I0 fun _ _ _ _ => rfl) ha hb
theorem ptd_gt (ha : PEd X K mg W a ta fa) (hb : PEd X K mg W b tb fb) : PTd X K mg W (.Compare a [.Gt] [b] pos) (tB (tOp (rI0 fun i j => .bl (decide (j < i))) ta tb)) (tst (eBin gGt fa fb)) := by obtain ⟨hK, hM⟩ : X.K = K ∧ X.mg = mg := ⟨ha.hK, ha.hM⟩; subst hK hM; exact ptd_cmpr op_gt (so_I0 fun _ _ _ _ => rfl) ha hb
theorem ptd_ge (ha : PEd X K mg W a ta fa) (hb : PEd X K mg W b tb fb) : PTd X K mg W (.Compare a [.GtE] [b] pos) (tB (tOp (rI0 fun i j => .bl (decide (j ≤ i))) ta tb)) (tst (eBin gGe fa fb)) := by obtain ⟨hK, hM⟩ : X.K = K ∧ X.mg = mg := ⟨ha.hK, ha.hM⟩; subst hK hM; exact ptd_cmpr op_ge (so_I0 fun _ _ _ _ => rfl) ha hb
theorem ptd_eq (hr : Room k X.A) (ha : PEd X K mg W a ta fa) (hb : PEd X K mg W b tb fb) : PTd X K mg W (.Compare a [.Eq] [b] pos) (tB (tOp (rEqA K) ta tb)) (tst (eBin (gEqN false) fa fb)) := by obtain ⟨hK, hM⟩ : X.K = K ∧ X.mg = mg := ⟨ha.hK, ha.hM⟩; subst hK hM; exact ptd_cmpr (op_eqA hr.units) so_eq ha hb
theorem ptd_ne (hr : Room k X.A) (ha : PEd X K mg W a ta fa) (hb : PEd X K mg W b tb fb) : PTd X K mg W (.Compare a [.NotEq] [b] pos) (tB (tOp (rNeA K) ta tb)) (tst (eBin (gEqN true) fa fb)) := by obtain ⟨hK, hM⟩ : X.K = K ∧ X.mg = mg := ⟨ha.hK, ha.hM⟩; subst hK hM; exact ptd_cmpr (op_neA hr.units) so_ne ha hb
theorem ptd_in (ha : PEd X K mg W a ta fa) (hb : PEd X K mg W b tb fb) (hm : behindInMarks .In b = false := by rfl) : PTd X K mg W (.Compare a [.In] [b] pos) (tB (tOp (rInA K false) ta tb)) (tst (eBin (gIn false) fa fb)) := by obtain ⟨hK, hM⟩ : X.K = K ∧ X.mg = mg := ⟨ha.hK, ha.hM⟩; subst hK hM; exact ptd_cmpr op_inA so_in ha hb hm
theorem ptd_ni (ha : PEd X K mg W a ta fa) (hb : PEd X K mg W b tb fb) (hm : behindInMarks .NotIn b = false := by rfl) : PTd X K mg W (.Compare a [.NotIn] [b] pos) (tB (tOp (rInA K true) ta tb)) (tst (eBin (gIn true) fa fb)) := by obtain ⟨hK, hM⟩ : X.K = K ∧ X.mg = mg := ⟨ha.hK, ha.hM⟩; subst hK hM; exact ptd_cmpr op_niA so_in ha hb hm
theorem ptd_isN (ha : PEd X K mg W a ta fa) (hb : PEd X K mg W b tb fb) : PTd X K mg W (.Compare a [.Is] [b] pos) (tB (tOp (fun x y H Q => y = .non ∧ Q (.bl (decide (x = .non))) H) ta tb)) (tst (eBin gIsN fa fb)) := by obtain ⟨hK, hM⟩ : X.K = K ∧ X.mg = mg := ⟨ha.hK, ha.hM⟩; subst hK hM; exact ptd_cmpr op_isN so_isN ha hb
theorem ptd_notN (ha : PEd X K mg W a ta fa) (hb : PEd X K mg W b tb fb) : PTd X K mg W (.Compare a [.IsNot] [b] pos) (tB (tOp (fun x y H Q => y = .non ∧ Q (.bl (!decide (x = .non))) H) ta tb)) (tst (eBin gNotN fa fb)) := by obtain ⟨hK, hM⟩ : X.K = K ∧ X.mg = mg := ⟨ha.hK, ha.hM⟩; subst hK hM; exact ptd_cmpr op_notN so_notN ha hb
end
end DL
namespace DL
open PySem PySem.Spec PyProof.Rows L2

/-! ### slices -/
abbrev FO := DS → Sto → (Option Int → Sto → Prop) → KE → Prop
def LO (K : PySem.W.Frag) (Hf : Hp) (io : List Addr) (H : Hp) (Q : Option Int → Sto → Prop) (Qr : Option Int → Hp → Prop) : Prop :=
  ∀ Hf' io' H' M' b, Ext Hf io H Hf' io' H' → SE K Hf' io' H' M' → Q b M' → Qr b H'
structure SndP (K : PySem.W.Frag) (mg : Str → Option Value) (W : WX) (to : TO) (f : FO) : Prop where
  run : ∀ ds M Q E, f ds M Q E → ∀ σ Hf io H (Qr : Option Int → Hp → Prop), SE K Hf io H M → RpS K io Hf σ ds → LO K Hf io H Q Qr → LX K mg Hf io H E (fun c d H' => W c d σ H') → to σ H Qr
structure POd (X : Cx) (K : PySem.W.Frag) (mg : Str → Option Value) (W : WX) (e : Option Expr) (to : TO) (f : FO) : Prop where
  hK : X.K = K
  hM : X.mg = mg
  p : PO X e to
  s : SndP K mg W to f
def oNo : FO := fun _ M Q _ => Q none M
def oPart (f : FE) : FO := fun ds M Q E => f ds M (fun x M1 => match x with
  | .int i => Q (some i) M1
  | _ => False) E
def cutD {α : Type} (xs : List α) (lo hi : Option Int) : List α := (xs.drop (HT.sIx xs.length 0 lo)).take (HT.sIx xs.length xs.length hi - HT.sIx xs.length 0 lo)
def gSlice (al : Bool) (x : D) (lo hi : Option Int) (M : Sto) (Q : KQ) : Prop := match x with
  | .str z => z.length ≤ sizeLine ∧ Q (.str (cutS z lo hi)) M
  | .tup xs => Q (.tup (cutD xs lo hi)) M
  | x => (match listOf x M with
    | some xs => newL al (cutD xs lo hi) M Q
    | none => False)
def eSlice (al : Bool) (f : FE) (fl fh : FO) : FE := fun ds M Q E => f ds M (fun x M1 => fl ds M1 (fun lo M2 => fh ds M2 (fun hi M3 => gSlice al x lo hi M3 Q) E) E) E
section
variable {X : Cx} {W : WX} {K : PySem.W.Frag} {mg : Str → Option Value} {Hf H Hf1 H1 : Hp} {io io1 : List Addr} {M : Sto} {pos p2 : Pos} {e : Expr} {lo hi : Option Expr} {te : TE} {f : FE} {tl th : TO} {fl fh : FO}
theorem LO.ext {Q : Option Int → Sto → Prop} {Qr : Option Int → Hp → Prop} (q : LO K Hf io H Q Qr) (x : Ext Hf io H Hf1 io1 H1) : LO K Hf1 io1 H1 Q Qr := fun _ _ _ _ _ x2 => q _ _ _ _ _ (x.trans x2)
theorem pod_none (hK : X.K = K := by rfl) (hM : X.mg = mg := by rfl) : POd X K mg W none tNoPart oNo := by subst hK hM; exact ⟨rfl, rfl, po_none, ⟨fun ds M Q E h σ Hf io H Qr se rs q _ => q _ _ _ _ _ (Ext.refl _ _ _) se h⟩⟩
theorem pod_some (h : PEd X K mg W e te f) : POd X K mg W (some e) (tPart te) (oPart f) := by obtain ⟨hK, hM⟩ : X.K = K ∧ X.mg = mg := ⟨h.hK, h.hM⟩; subst hK hM; exact ⟨rfl, rfl, po_some h.p, ⟨fun ds M Q E hh σ Hf io H Qr se rs q hx => h.s.run ds M _ E hh σ Hf io H _ se rs (fun Hf1 io1 H1 M1 v d x1 se1 rv h1 => by
    cases d with
    | int i => exact ⟨i, rv, q _ _ _ _ _ x1 se1 h1⟩
    | _ => exact h1.elim) hx⟩⟩
theorem RpL.cut {xs : List D} {vs : List V} (r : RpL K io Hf xs vs) (lo hi : Option Int) : RpL K io Hf (cutD xs lo hi) (cutV vs lo hi) := by
  unfold cutD cutV
  rw [r.length]
  exact (r.drop _).take _
def rSlG (K : PySem.W.Frag) : V → Option Int → Option Int → Hp → VK → Prop := fun x lo hi H Q => rSlL K x lo hi H Q ∨ rSlA K x lo hi H Q ∨ rSlS x lo hi H Q
theorem sl_all : SlR X (rSlG X.K) := sl_list.or (sl_tupA.or sl_str)
theorem cut_whole {α : Type} {xs : List α} {lo hi : Option Int} (h : HT.sIx xs.length 0 lo = 0 ∧ HT.sIx xs.length xs.length hi = xs.length) : cutD xs lo hi = xs := by
  unfold cutD
  rw [h.1, h.2, List.drop_zero, Nat.sub_zero, List.take_length]
theorem so_slice {al : Bool} {x : D} {v : V} {lo hi : Option Int} {Q : KQ} {Qr : VK} (se : SE K Hf io H M) (rx : Rp K io Hf x v) (h : gSlice al x lo hi M Q) (q : LQ K Hf io H Q Qr) : rSlG K v lo hi H Qr := by
  have lists : ∀ {xs : List D}, listOf x M = some xs → newL al (cutD xs lo hi) M Q → rSlG K v lo hi H Qr := by
    intro xs e h
    obtain ⟨a, vs, rfl, h1, h2⟩ := list_rep se rx e
    exact .inl ⟨a, vs, rfl, SqL.of h1, fun p np => newL_ok se (h2.cut lo hi) h q np⟩
  cases x with
  | str z =>
    cases (show v = .str z from rx)
    exact .inr (.inr ⟨z, rfl, h.1, q _ _ _ _ _ (.str _) (Ext.refl _ _ _) se rfl h.2⟩)
  | tup xs =>
    obtain ⟨a, vs, rfl, h1, h2⟩ := rx
    refine .inr (.inl ⟨a, vs, rfl, same_t se.sub h1, fun z => ?_, fun z p np => ?_⟩)
    · have e1 : cutD xs lo hi = xs := cut_whole (by rw [← h2.length]; exact z)
      have h : Q (.tup (cutD xs lo hi)) M := h
      rw [e1] at h
      exact q _ _ _ _ _ (.tup xs) (Ext.refl _ _ _) se ⟨a, vs, rfl, h1, h2⟩ h
    · obtain ⟨se1, x1⟩ := se.froze (o := .tup (cutV vs lo hi)) np
      exact q _ _ _ _ _ (.tup _) x1 se1 ⟨p, _, rfl, SqT.of upd_same, (h2.cut lo hi).ext x1⟩ h
  | lst xs => exact lists (xs := xs) rfl h
  | loc n =>
    have h : (match M[n]? with | some xs => newL al (cutD xs lo hi) M Q | none => False) := h
    cases e : M[n]? with
    | none => rw [e] at h; exact h.elim
    | some xs => rw [e] at h; exact lists (xs := xs) e h
  | _ => exact h.elim
theorem ped_slice (al : Bool) (he : PEd X K mg W e te f) (hl : POd X K mg W lo tl fl) (hh : POd X K mg W hi th fh) : PEd X K mg W (.Subscript e (.Slice lo hi none p2) pos) (tSl (rSlG K) te tl th) (eSlice al f fl fh) := by obtain ⟨hK, hM⟩ : X.K = K ∧ X.mg = mg := ⟨he.hK, he.hM⟩; subst hK hM; exact ⟨rfl, rfl, pe_slice sl_all he.p hl.p hh.p, ⟨fun ds M Q E h σ Hf io H Qr se rs q hx => he.s.run ds M _ E h σ Hf io H _ se rs (fun Hf1 io1 H1 M1 v d x1 se1 rv h1 =>
    hl.s.run ds M1 _ E h1 σ Hf1 io1 H1 _ se1 (rs.ext x1) (fun Hf2 io2 H2 M2 l x2 se2 h2 => hh.s.run ds M2 _ E h2 σ Hf2 io2 H2 _ se2 (rs.ext (x1.trans x2)) (fun Hf3 io3 H3 M3 u x3 se3 h3 =>
      so_slice se3 (rv.ext (x2.trans x3)) h3 (q.ext ((x1.trans x2).trans x3))) (hx.ext (x1.trans x2))) (hx.ext x1)) hx⟩⟩
end

/-! ### arguments, displays -/
section
variable {X : Cx} {W : WX} {K : PySem.W.Frag} {mg : Str → Option Value} {Hf H Hf1 H1 : Hp} {io io1 : List Addr} {M : Sto} {pos : Pos} {e : Expr} {es : List Expr} {te : TE} {f : FE} {ta : TA} {fs : List FE}
theorem LA.ext {n : Nat} {Q : List D → Sto → Prop} {Qr : List V → Hp → Prop} (q : LA K Hf io H n Q Qr) (x : Ext Hf io H Hf1 io1 H1) : LA K Hf1 io1 H1 n Q Qr := fun _ _ _ _ _ _ x2 => q _ _ _ _ _ _ (x.trans x2)
theorem pad_nil (hK : X.K = K := by rfl) (hM : X.mg = mg := by rfl) : PAd X K mg W [] tNil [] := by subst hK hM; exact ⟨rfl, rfl, pa_nil, ⟨fun ds M Q E h σ Hf io H Qr se rs q _ => q _ _ _ _ [] [] (Ext.refl _ _ _) se rfl rfl h⟩⟩
theorem pad_cons (he : PEd X K mg W e te f) (hr : PAd X K mg W es ta fs) (hs : starEach (e :: es) X.env = (false, eval e X.env) :: starEach es X.env := by rfl) : PAd X K mg W (e :: es) (tCons te ta) (f :: fs) := by obtain ⟨hK, hM⟩ : X.K = K ∧ X.mg = mg := ⟨he.hK, he.hM⟩; subst hK hM; exact ⟨rfl, rfl, pa_cons he.p hr.p hs, ⟨fun ds M Q E h σ Hf io H Qr se rs q hx => he.s.run ds M _ E h σ Hf io H _ se rs (fun Hf1 io1 H1 M1 v d x1 se1 rv h1 =>
    hr.s.run ds M1 _ E h1 σ Hf1 io1 H1 _ se1 (rs.ext x1) (fun Hf2 io2 H2 M2 vs ds' x2 se2 rvs hl h2 => q _ _ _ _ (v :: vs) (d :: ds') (x1.trans x2) se2 ⟨v, vs, rfl, rv.ext x2, rvs⟩ (by rw [List.length_cons, List.length_cons, hl]) h2) (hx.ext x1)) hx⟩⟩
def eTup (fs : List FE) : FE := fun ds M Q E => args fs ds M (fun xs M1 => Q (.tup xs) M1) E
def eLst (al : Bool) (fs : List FE) : FE := fun ds M Q E => args fs ds M (fun xs M1 => newL al xs M1 Q) E
theorem few_line {n : Nat} (h : n ≤ 1000) : n ≤ sizeLine := Nat.le_trans h (by decide)
theorem ped_tup {x1} (h : PAd X K mg W es ta fs) (hn : fs.length ≤ 1000 := by exact Nat.le_of_ble_eq_true rfl) : PEd X K mg W (.Tuple es x1 pos) (tTup ta) (eTup fs) := by obtain ⟨hK, hM⟩ : X.K = K ∧ X.mg = mg := ⟨h.hK, h.hM⟩; subst hK hM; exact ⟨rfl, rfl, pe_tup h.p, ⟨fun ds M Q E hh σ Hf io H Qr se rs q hx => h.s.run ds M _ E hh σ Hf io H _ se rs (fun Hf1 io1 H1 M1 vs xs x1 se1 rv hl h1 => by
    refine ⟨by rw [rv.length, hl]; exact few_line hn, fun p np => ?_⟩
    obtain ⟨se2, x2⟩ := se1.froze (o := .tup vs) np
    exact q _ _ _ _ _ (.tup xs) (x1.trans x2) se2 ⟨p, vs, rfl, SqT.of upd_same, rv.ext x2⟩ h1) hx⟩⟩
theorem ped_lst (al : Bool) (h : PAd X K mg W es ta fs) (hn : fs.length ≤ 1000 := by exact Nat.le_of_ble_eq_true rfl) : PEd X K mg W (.List es pos) (tLst ta) (eLst al fs) := by obtain ⟨hK, hM⟩ : X.K = K ∧ X.mg = mg := ⟨h.hK, h.hM⟩; subst hK hM; exact ⟨rfl, rfl, pe_lst h.p, ⟨fun ds M Q E hh σ Hf io H Qr se rs q hx => h.s.run ds M _ E hh σ Hf io H _ se rs (fun Hf1 io1 H1 M1 vs xs x1 se1 rv hl h1 =>
    ⟨by rw [rv.length, hl]; exact few_line hn, fun p np => newL_ok se1 rv h1 (q.ext x1) np⟩) hx⟩⟩
end

/-! ### own defs -/
/-- a def by its arguments, its store and what is wanted of its value and of what it raises -/
abbrev GS := List D → Sto → KQ → KE → Prop
def eCall (G : GS) (fs : List FE) : FE := fun ds M Q E => args fs ds M (fun xs M1 => G xs M1 Q E) E
/-- the promise of a def that does G -/
def spD (K : PySem.W.Frag) (mg : Str → Option Value) (n : Nat) (G : GS) : Sp := fun vs H Q E => vs.length = n ∧ ∃ Hf io M ds Q' E', SE K Hf io H M ∧ RpL K io Hf ds vs ∧ G ds M Q' E' ∧ LQ K Hf io H Q' Q ∧ LX K mg Hf io H E' E
section
variable {X : Cx} {K : PySem.W.Frag} {mg : Str → Option Value} {W : WX} {pos p : Pos} {e : Expr} {es : List Expr} {ta : TA} {fs : List FE} {G : GS} {k : Nat} {f : Addr} {fd : FuncData} {ps : List Str} {x : Str}
theorem ped_call (F : FnOk X.prog X.w X.K X.mg X.base (L2.CX X.prog X.w) k f fd ps (spD K mg fs.length G)) (hr : Room k X.A) (hm : X.mg x = some (.ref f)) (hk : PySem.W.keepIn X.K (.ref f) = true) (hb : Binds X.K fd ps []) (tk : Takes X W)
    (ha : PAd X K mg W (e :: es) ta fs) (hg : Gl X x := by rfl) (hdb : (x == ("__debug__" : Str)) = false := by decide) (he : starEach (e :: es) X.env = (false, eval e X.env) :: starEach es X.env := by rfl) (hpl : (backTo pos (starEach es X.env)).any (·.1) = false := by rfl) :
    PEd X K mg W (.Call (.Name x p) (e :: es) [] pos) (tCallS (spD K mg fs.length G) (WE W) ta) (eCall G fs) := by obtain ⟨hK, hM⟩ : X.K = K ∧ X.mg = mg := ⟨ha.hK, ha.hM⟩; subst hK hM; exact ⟨rfl, rfl, pe_callS F hr hg hm hk hb (fun σ => passAt tk σ) ha.p hdb he hpl, ⟨fun ds M Q E hh σ Hf io H Qr se rs q hx => ha.s.run ds M _ E hh σ Hf io H _ se rs (fun Hf1 io1 H1 M1 vs xs x1 se1 rv hl h1 => by
    exact ⟨by rw [rv.length, hl], Hf1, io1, M1, xs, Q, E, se1, rv, h1, q.ext x1, hx.ext x1⟩) hx⟩⟩
end

end DL
namespace DL
open PySem PySem.Spec PyProof.Rows L2
/-! ### built-ins by name -/
abbrev GC := List D → Sto → KQ → Prop
def SndC (K : PySem.W.Frag) (r : List V → Hp → VK → Prop) (g : GC) : Prop :=
  ∀ xs M Q, g xs M Q → ∀ vs Hf io H (Qr : VK), SE K Hf io H M → RpL K io Hf xs vs → LQ K Hf io H Q Qr → r vs H Qr
def eB (g : GC) (fs : List FE) : FE := fun ds M Q E => args fs ds M (fun xs M1 => g xs M1 Q) E
section
variable {X : Cx} {W : WX} {K : PySem.W.Frag} {mg : Str → Option Value} {Hf H : Hp} {io : List Addr} {M : Sto} {pos p : Pos} {e : Expr} {es : List Expr} {ta : TA} {fs : List FE} {x : Str} {id T : String} {r : List V → Hp → VK → Prop} {g : GC}
theorem snd_B (o : SndC K r g) (ha : SndA K mg W ta fs) : SndE K mg W (tCB r ta) (eB g fs) :=
  ⟨fun ds M Q E hh σ Hf io H Qr se rs q hx => ha.run ds M _ E hh σ Hf io H _ se rs (fun Hf1 io1 H1 M1 vs xs x1 se1 rv hl h1 => o xs M1 Q h1 vs Hf1 io1 H1 Qr se1 rv (q.ext x1)) hx⟩
theorem ped_B (hc : CallR X (.builtin id) r) (o : SndC K r g) (hm : X.mg x = none) (hv : bootBuiltins x = some (.builtin id)) (ha : PAd X K mg W (e :: es) ta fs) (hg : Gl X x := by rfl) (hn : x ≠ "__name__" := by decide) (hdb : (x == ("__debug__" : Str)) = false := by decide)
    (he : starEach (e :: es) X.env = (false, eval e X.env) :: starEach es X.env := by rfl) (hpl : (backTo pos (starEach es X.env)).any (·.1) = false := by rfl) : PEd X K mg W (.Call (.Name x p) (e :: es) [] pos) (tCB r ta) (eB g fs) := by obtain ⟨hK, hM⟩ : X.K = K ∧ X.mg = mg := ⟨ha.hK, ha.hM⟩; subst hK hM; exact ⟨rfl, rfl, pe_callB hc hg hm hv ha.p hn hdb he hpl, snd_B o ha.s⟩
theorem ped_Ty (hc : CallR X (.type T) r) (o : SndC K r g) (hm : X.mg x = none) (hv : bootBuiltins x = some (.type T)) (ha : PAd X K mg W (e :: es) ta fs) (hg : Gl X x := by rfl) (hn : x ≠ "__name__" := by decide) (hdb : (x == ("__debug__" : Str)) = false := by decide)
    (he : starEach (e :: es) X.env = (false, eval e X.env) :: starEach es X.env := by rfl) (hpl : (backTo pos (starEach es X.env)).any (·.1) = false := by rfl) : PEd X K mg W (.Call (.Name x p) (e :: es) [] pos) (tCB r ta) (eB g fs) := by obtain ⟨hK, hM⟩ : X.K = K ∧ X.mg = mg := ⟨ha.hK, ha.hM⟩; subst hK hM; exact ⟨rfl, rfl, pe_callTy hc hg hm hv ha.p hn hdb he hpl, snd_B o ha.s⟩
def gLen : GC := fun xs M Q => match xs with
  | [x] => (match x with
    | .str z => z.length ≤ sizeLine ∧ Q (.int z.length) M
    | x => (match seqOf x M with
      | some ys => Q (.int ys.length) M
      | none => False))
  | _ => False
theorem sc_len : SndC K (fun xs H Q => (∃ p ys, xs = [.ref p] ∧ (SqL K H p ys ∨ SqT K H p ys) ∧ Q (.int ys.length) H) ∨ ∃ z, xs = [.str z] ∧ z.length ≤ sizeLine ∧ Q (.int z.length) H) gLen := by
  intro xs M Q h vs Hf io H Qr se rv q
  match xs, h with
  | [x], h =>
    obtain ⟨v, r, rfl, rx, rn⟩ := rv
    cases (show r = [] from rn)
    have seqs : ∀ {ys : List D}, seqOf x M = some ys → Q (.int ys.length) M → (∃ p ys, [v] = [V.ref p] ∧ (SqL K H p ys ∨ SqT K H p ys) ∧ Qr (.int ys.length) H) := by
      intro ys e h
      obtain ⟨a, us, rfl, h1, h2⟩ := seq_rep se rx e
      refine ⟨a, us, rfl, h1, ?_⟩
      rw [h2.length]
      exact q _ _ _ _ _ (.int _) (Ext.refl _ _ _) se rfl h
    cases x with
    | str z =>
      cases (show v = .str z from rx)
      exact .inr ⟨z, rfl, h.1, q _ _ _ _ _ (.int _) (Ext.refl _ _ _) se rfl h.2⟩
    | tup ys => exact .inl (seqs (ys := ys) rfl h)
    | lst ys => exact .inl (seqs (ys := ys) rfl h)
    | scr ys => exact .inl (seqs (ys := ys) rfl h)
    | loc n =>
      have h : (match M[n]? with | some ys => Q (.int ys.length) M | none => False) := h
      cases e : M[n]? with
      | none => rw [e] at h; exact h.elim
      | some ys => rw [e] at h; exact .inl (seqs (ys := ys) e h)
    | _ => exact h.elim
theorem ped_len (hm : X.mg "len" = none) (ha : PAd X K mg W (e :: es) ta fs) (hg : Gl X "len" := by rfl)
    (he : starEach (e :: es) X.env = (false, eval e X.env) :: starEach es X.env := by rfl) (hpl : (backTo pos (starEach es X.env)).any (·.1) = false := by rfl) :
    PEd X K mg W (.Call (.Name "len" p) (e :: es) [] pos) (tCB (fun xs H Q => (∃ p ys, xs = [.ref p] ∧ (SqL K H p ys ∨ SqT K H p ys) ∧ Q (.int ys.length) H) ∨ ∃ z, xs = [.str z] ∧ z.length ≤ sizeLine ∧ Q (.int z.length) H) ta) (eB gLen fs) := by obtain ⟨hK, hM⟩ : X.K = K ∧ X.mg = mg := ⟨ha.hK, ha.hM⟩; subst hK hM; exact ped_B (W := W) (x := "len") (p := p) (pos := pos) (CallR.or (call_len_seq (X := X)) call_len_str) sc_len hm PySem.boot_len ha hg (by decide) (by decide) he hpl
def gMin2 : GC := fun xs M Q => match xs with
  | [.int i, .int j] => Q (.int (if j < i then j else i)) M
  | _ => False
def gMax2 : GC := fun xs M Q => match xs with
  | [.int i, .int j] => Q (.int (if j > i then j else i)) M
  | _ => False
theorem sc_min2 : SndC K (fun xs H Q => ∃ i j, xs = [.int i, .int j] ∧ Q (.int (if j < i then j else i)) H) gMin2 := by
  intro xs M Q h vs Hf io H Qr se rv q
  unfold gMin2 at h
  split at h
  · rename_i i j
    obtain ⟨v, r, rfl, rx, v2, r2, rfl, ry, rn⟩ := rv
    cases (show r2 = [] from rn)
    cases (show v = .int i from rx)
    cases (show v2 = .int j from ry)
    exact ⟨i, j, rfl, q _ _ _ _ _ (.int _) (Ext.refl _ _ _) se rfl h⟩
  · exact h.elim
theorem sc_max2 : SndC K (fun xs H Q => ∃ i j, xs = [.int i, .int j] ∧ Q (.int (if j > i then j else i)) H) gMax2 := by
  intro xs M Q h vs Hf io H Qr se rv q
  unfold gMax2 at h
  split at h
  · rename_i i j
    obtain ⟨v, r, rfl, rx, v2, r2, rfl, ry, rn⟩ := rv
    cases (show r2 = [] from rn)
    cases (show v = .int i from rx)
    cases (show v2 = .int j from ry)
    exact ⟨i, j, rfl, q _ _ _ _ _ (.int _) (Ext.refl _ _ _) se rfl h⟩
  · exact h.elim
theorem ped_min2 (hc : X.calm = true) (hm : X.mg "min" = none) (ha : PAd X K mg W (e :: es) ta fs) (hg : Gl X "min" := by rfl)
    (he : starEach (e :: es) X.env = (false, eval e X.env) :: starEach es X.env := by rfl) (hpl : (backTo pos (starEach es X.env)).any (·.1) = false := by rfl) :
    PEd X K mg W (.Call (.Name "min" p) (e :: es) [] pos) (tCB (fun xs H Q => ∃ i j, xs = [.int i, .int j] ∧ Q (.int (if j < i then j else i)) H) ta) (eB gMin2 fs) := by obtain ⟨hK, hM⟩ : X.K = K ∧ X.mg = mg := ⟨ha.hK, ha.hM⟩; subst hK hM; exact ped_B (W := W) (x := "min") (p := p) (pos := pos) (call_min2 (X := X) hc) sc_min2 hm PyProof.Rows.boot_min ha hg (by decide) (by decide) he hpl
theorem ped_max2 (hc : X.calm = true) (hm : X.mg "max" = none) (ha : PAd X K mg W (e :: es) ta fs) (hg : Gl X "max" := by rfl)
    (he : starEach (e :: es) X.env = (false, eval e X.env) :: starEach es X.env := by rfl) (hpl : (backTo pos (starEach es X.env)).any (·.1) = false := by rfl) :
    PEd X K mg W (.Call (.Name "max" p) (e :: es) [] pos) (tCB (fun xs H Q => ∃ i j, xs = [.int i, .int j] ∧ Q (.int (if j > i then j else i)) H) ta) (eB gMax2 fs) := by obtain ⟨hK, hM⟩ : X.K = K ∧ X.mg = mg := ⟨ha.hK, ha.hM⟩; subst hK hM; exact ped_B (W := W) (x := "max") (p := p) (pos := pos) (call_max2 (X := X) hc) sc_max2 hm PyProof.Rows.boot_max ha hg (by decide) (by decide) he hpl
/-- list(x), tuple(x) -/
def gList (al : Bool) : GC := fun xs M Q => match xs with
  | [x] => (match seqOf x M with
    | some ys => newL al ys M Q
    | none => False)
  | _ => False
def gTuple : GC := fun xs M Q => match xs with
  | [x] => (match seqOf x M with
    | some ys => Q (.tup ys) M
    | none => False)
  | _ => False
theorem sc_list {al : Bool} : SndC K (fun xs H Q => ∃ p ys, xs = [.ref p] ∧ (SqL K H p ys ∨ SqT K H p ys) ∧ ∀ l, H l = none → Q (.ref l) (upd H l (.lst ys))) (gList al) := by
  intro xs M Q h vs Hf io H Qr se rv q
  match xs, h with
  | [x], h =>
    obtain ⟨v, r, rfl, rx, rn⟩ := rv
    cases (show r = [] from rn)
    have h : (match seqOf x M with | some ys => newL al ys M Q | none => False) := h
    cases e : seqOf x M with
    | none => rw [e] at h; exact h.elim
    | some ys =>
      rw [e] at h
      obtain ⟨a, us, rfl, h1, h2⟩ := seq_rep se rx e
      exact ⟨a, us, rfl, h1, fun p np => newL_ok se h2 h q np⟩
theorem sc_tuple : SndC K (fun xs H Q => ∃ p ys, xs = [.ref p] ∧ ((SqL K H p ys ∧ ∀ l, H l = none → Q (.ref l) (upd H l (.tup ys))) ∨ (SqT K H p ys ∧ Q (.ref p) H))) gTuple := by
  intro xs M Q h vs Hf io H Qr se rv q
  match xs, h with
  | [x], h =>
    obtain ⟨v, r, rfl, rx, rn⟩ := rv
    cases (show r = [] from rn)
    have lists : ∀ {ys : List D}, seqOf x M = some ys → (∃ a us, v = .ref a ∧ SqL K H a us ∧ RpL K io Hf ys us) → Q (.tup ys) M → ∃ p ys, [v] = [V.ref p] ∧ ((SqL K H p ys ∧ ∀ l, H l = none → Qr (.ref l) (upd H l (.tup ys))) ∨ (SqT K H p ys ∧ Qr (.ref p) H)) := by
      intro ys e z h
      obtain ⟨a, us, rfl, h1, h2⟩ := z
      refine ⟨a, us, rfl, .inl ⟨h1, fun l nl => ?_⟩⟩
      obtain ⟨se1, x1⟩ := se.froze (o := .tup us) nl
      exact q _ _ _ _ _ (.tup ys) x1 se1 ⟨l, us, rfl, SqT.of upd_same, h2.ext x1⟩ h
    have h : (match seqOf x M with | some ys => Q (.tup ys) M | none => False) := h
    cases x with
    | tup ys =>
      obtain ⟨a, us, rfl, h1, h2⟩ := rx
      exact ⟨a, us, rfl, .inr ⟨same_t se.sub h1, q _ _ _ _ _ (.tup ys) (Ext.refl _ _ _) se ⟨a, us, rfl, h1, h2⟩ h⟩⟩
    | lst ys =>
      obtain ⟨a, us, e1, h1, h2⟩ := list_rep (x := .lst ys) se rx rfl
      exact lists (ys := ys) rfl ⟨a, us, e1, SqL.of h1, h2⟩ h
    | scr ys =>
      obtain ⟨a, us, rfl, h1, h2⟩ := rx
      exact lists (ys := ys) rfl ⟨a, us, rfl, Same.seq se.sub h1, h2⟩ h
    | loc n =>
      have h : (match M[n]? with | some ys => Q (.tup ys) M | none => False) := h
      cases e : M[n]? with
      | none => rw [e] at h; exact h.elim
      | some ys =>
        rw [e] at h
        obtain ⟨a, us, e1, h1, h2⟩ := list_rep (x := .loc n) se rx e
        exact lists (ys := ys) e ⟨a, us, e1, SqL.of h1, h2⟩ h
    | _ => exact h.elim
theorem ped_list (al : Bool) (hm : X.mg "list" = none) (ha : PAd X K mg W (e :: es) ta fs) (hg : Gl X "list" := by rfl)
    (he : starEach (e :: es) X.env = (false, eval e X.env) :: starEach es X.env := by rfl) (hpl : (backTo pos (starEach es X.env)).any (·.1) = false := by rfl) :
    PEd X K mg W (.Call (.Name "list" p) (e :: es) [] pos) (tCB (fun xs H Q => ∃ p ys, xs = [.ref p] ∧ (SqL K H p ys ∨ SqT K H p ys) ∧ ∀ l, H l = none → Q (.ref l) (upd H l (.lst ys))) ta) (eB (gList al) fs) := by obtain ⟨hK, hM⟩ : X.K = K ∧ X.mg = mg := ⟨ha.hK, ha.hM⟩; subst hK hM; exact ped_Ty (W := W) (x := "list") (p := p) (pos := pos) (call_list_of (X := X)) (sc_list (al := al)) hm PyProof.Rows.boot_list ha hg (by decide) (by decide) he hpl
theorem ped_tuple (hm : X.mg "tuple" = none) (ha : PAd X K mg W (e :: es) ta fs) (hg : Gl X "tuple" := by rfl)
    (he : starEach (e :: es) X.env = (false, eval e X.env) :: starEach es X.env := by rfl) (hpl : (backTo pos (starEach es X.env)).any (·.1) = false := by rfl) :
    PEd X K mg W (.Call (.Name "tuple" p) (e :: es) [] pos) (tCB (fun xs H Q => ∃ p ys, xs = [.ref p] ∧ ((SqL K H p ys ∧ ∀ l, H l = none → Q (.ref l) (upd H l (.tup ys))) ∨ (SqT K H p ys ∧ Q (.ref p) H))) ta) (eB gTuple fs) := by obtain ⟨hK, hM⟩ : X.K = K ∧ X.mg = mg := ⟨ha.hK, ha.hM⟩; subst hK hM; exact ped_Ty (W := W) (x := "tuple") (p := p) (pos := pos) (call_tuple_of (X := X)) sc_tuple hm PyProof.Rows.boot_tuple ha hg (by decide) (by decide) he hpl
/-- str(n) -/
def gStr : GC := fun xs M Q => match xs with
  | [.int i] => i.natAbs.log2 < 1920 ∧ Q (.str (toString i)) M
  | _ => False
theorem sc_str : SndC K (fun xs H Q => ∃ i, xs = [.int i] ∧ i.natAbs.log2 < 1920 ∧ Q (.str (toString i)) H) gStr := by
  intro xs M Q h vs Hf io H Qr se rv q
  unfold gStr at h
  split at h
  · rename_i i
    obtain ⟨v, r, rfl, rx, rn⟩ := rv
    cases (show r = [] from rn)
    cases (show v = .int i from rx)
    exact ⟨i, rfl, h.1, q _ _ _ _ _ (.str _) (Ext.refl _ _ _) se rfl h.2⟩
  · exact h.elim
theorem ped_strI (hm : X.mg "str" = none) (ha : PAd X K mg W (e :: es) ta fs) (hg : Gl X "str" := by rfl)
    (he : starEach (e :: es) X.env = (false, eval e X.env) :: starEach es X.env := by rfl) (hpl : (backTo pos (starEach es X.env)).any (·.1) = false := by rfl) :
    PEd X K mg W (.Call (.Name "str" p) (e :: es) [] pos) (tCB (fun xs H Q => ∃ i, xs = [.int i] ∧ i.natAbs.log2 < 1920 ∧ Q (.str (toString i)) H) ta) (eB gStr fs) := by obtain ⟨hK, hM⟩ : X.K = K ∧ X.mg = mg := ⟨ha.hK, ha.hM⟩; subst hK hM; exact ped_Ty (W := W) (x := "str") (p := p) (pos := pos) (call_str_int (X := X)) sc_str hm PyProof.Rows.boot_str ha hg (by decide) (by decide) he hpl
/-- int(text), int(a truth) -/
def gInt : GC := fun xs M Q => match xs with
  | [.str a] => (match PySem.intText? a with
    | some n => a.length ≤ 640 ∧ Q (.int n) M
    | none => False)
  | [.bl b] => Q (.int (if b then 1 else 0)) M
  | _ => False
theorem sc_int : SndC K (fun xs H Q => (∃ a n, xs = [.str a] ∧ PySem.intText? a = some n ∧ a.length ≤ 640 ∧ Q (.int n) H) ∨ ((∃ i, xs = [.int i] ∧ Q (.int i) H) ∨ ∃ k, xs = [.bl k] ∧ Q (.int (if k then 1 else 0)) H)) gInt := by
  intro xs M Q h vs Hf io H Qr se rv q
  unfold gInt at h
  split at h
  · rename_i a
    obtain ⟨v, r, rfl, rx, rn⟩ := rv
    cases (show r = [] from rn)
    cases (show v = .str a from rx)
    split at h
    · rename_i n e
      exact .inl ⟨a, n, rfl, e, h.1, q _ _ _ _ _ (.int _) (Ext.refl _ _ _) se rfl h.2⟩
    · exact h.elim
  · rename_i b
    obtain ⟨v, r, rfl, rx, rn⟩ := rv
    cases (show r = [] from rn)
    cases (show v = .bl b from rx)
    exact .inr (.inr ⟨b, rfl, q _ _ _ _ _ (.int _) (Ext.refl _ _ _) se rfl h⟩)
  · exact h.elim
theorem ped_intS (hm : X.mg "int" = none) (ha : PAd X K mg W (e :: es) ta fs) (hg : Gl X "int" := by rfl)
    (he : starEach (e :: es) X.env = (false, eval e X.env) :: starEach es X.env := by rfl) (hpl : (backTo pos (starEach es X.env)).any (·.1) = false := by rfl) :
    PEd X K mg W (.Call (.Name "int" p) (e :: es) [] pos) (tCB (fun xs H Q => (∃ a n, xs = [.str a] ∧ PySem.intText? a = some n ∧ a.length ≤ 640 ∧ Q (.int n) H) ∨ ((∃ i, xs = [.int i] ∧ Q (.int i) H) ∨ ∃ k, xs = [.bl k] ∧ Q (.int (if k then 1 else 0)) H)) ta) (eB gInt fs) := by obtain ⟨hK, hM⟩ : X.K = K ∧ X.mg = mg := ⟨ha.hK, ha.hM⟩; subst hK hM; exact ped_Ty (W := W) (x := "int") (p := p) (pos := pos) (CallR.or (call_int_str (X := X)) call_int1) sc_int hm PyProof.Rows.boot_int ha hg (by decide) (by decide) he hpl
/-- isinstance(x, T), T a built-in class -/
def tyName : D → String
  | .non => "NoneType"
  | .bl _ => "bool"
  | .int _ => "int"
  | .str _ => "str"
  | .tup _ => "tuple"
  | .lst _ => "list"
  | .scr _ => "list"
  | .loc _ => "list"
def eIsi (T : String) (f : FE) : FE := fun ds M Q E => f ds M (fun x M1 => match kitB (tyName x) T with
  | some b => Q (.bl b) M1
  | none => False) E
theorem ty_rep (se : SE K Hf io H M) {x : D} {v : V} (r : Rp K io Hf x v) (hl : ∀ n, x = .loc n → ∃ xs, M[n]? = some xs) : TyX K H v (.type (tyName x)) := by
  have sql : ∀ {a : Addr} {xs : List V}, SqL K H a xs → TyX K H (.ref a) (.type "list") := by
    intro a xs h
    rcases h with (h | ⟨o, h⟩) | ⟨o, its, n, h1, h2, _⟩
    · exact .base (.lst h)
    · exact .base (.frz h)
    · exact .kList h1 h2
  cases x with
  | non => cases (show v = .non from r); exact .base .non
  | bl b => cases (show v = .bl b from r); exact .base (.bl b)
  | int b => cases (show v = .int b from r); exact .base (.int b)
  | str b => cases (show v = .str b from r); exact .base (.str b)
  | tup xs =>
    obtain ⟨a, vs, rfl, h1, _⟩ := r
    rcases same_t se.sub h1 with (h | ⟨o, h⟩) | ⟨o, its, n, h1, h2, _⟩
    · exact .base (.tup h)
    · exact .fTuple h
    · exact .kTuple h1 h2
  | lst xs =>
    obtain ⟨a, vs, rfl, h1, _⟩ := r
    exact sql (SqL.of (se.sub _ _ h1))
  | scr xs =>
    obtain ⟨a, vs, rfl, h1, _⟩ := r
    exact sql (Same.seq se.sub h1)
  | loc n =>
    obtain ⟨a, rfl, h1⟩ := r
    obtain ⟨xs, e⟩ := hl n rfl
    obtain ⟨_, vs, h2, _⟩ := se.own n a xs h1 e
    exact sql (SqL.of h2)
theorem ped_isi {T : String} {xT : Str} {pT : Pos} {te : TE} {f : FE} (hm : X.mg "isinstance" = none) (hmT : X.mg xT = none) (hvT : bootBuiltins xT = some (.type T)) (he1 : PEd X K mg W e te f) (hg : Gl X "isinstance" := by rfl) (hgT : Gl X xT := by rfl)
    (hnT : xT ≠ "__name__" := by decide) (hdT : (xT == ("__debug__" : Str)) = false := by decide)
    (hs : starEach [e, .Name xT pT] X.env = (false, eval e X.env) :: starEach [.Name xT pT] X.env := by rfl) (hs2 : starEach [.Name xT pT] X.env = (false, eval (.Name xT pT) X.env) :: starEach [] X.env := by rfl) (hpl : (backTo pos (starEach [.Name xT pT] X.env)).any (·.1) = false := by rfl) :
    PEd X K mg W (.Call (.Name "isinstance" p) [e, .Name xT pT] [] pos) (tCB (rIsi K) (tCons te (tCons (tC (.ty T)) tNil))) (eIsi T f) := by obtain ⟨hK, hM⟩ : X.K = K ∧ X.mg = mg := ⟨he1.hK, he1.hM⟩; subst hK hM; exact ⟨rfl, rfl, pe_callB call_isi hg hm PyProof.Rows.boot_isinstance (pa_cons he1.p (pa_cons (pe_bltn (v := .ty T) hgT hmT hvT rfl hnT hdT) pa_nil hs2) hs) (by decide) (by decide) hs hpl,
   ⟨fun ds M Q E hh σ Hf io H Qr se rs q hx => he1.s.run ds M _ E hh σ Hf io H _ se rs (fun Hf1 io1 H1 M1 v d x1 se1 rv h1 => by
    have h1 : (match kitB (tyName d) T with | some b => Q (.bl b) M1 | none => False) := h1
    cases e : kitB (tyName d) T with
    | none => rw [e] at h1; exact h1.elim
    | some b =>
      rw [e] at h1
      refine ⟨v, .ty T, _, _, b, rfl, .ty T, ty_rep se1 rv (fun n z => ?_), kit_ty e, q _ _ _ _ _ (.bl b) x1 se1 rfl h1⟩
      subst z
      obtain ⟨a, _, h2⟩ := rv
      have := (List.getElem?_eq_some_iff.mp h2).1
      exact ⟨_, List.getElem?_eq_getElem (by rw [← se1.len]; exact this)⟩) hx⟩⟩
/-- sum(a list | a tuple of ints), min(a list) -/
def toI : D → Option Int
  | .int i => some i
  | _ => none
theorem toI_all : ∀ {ds : List D} {ns : List Int}, optAll toI ds = some ns → ds = ns.map D.int
  | [], _, h => by cases h; rfl
  | d :: ds, ns, h => by
    unfold optAll at h
    cases e1 : toI d with
    | none => rw [e1] at h; cases h
    | some y =>
      rw [e1] at h
      cases e2 : optAll toI ds with
      | none => rw [e2] at h; cases h
      | some ys =>
        rw [e2] at h
        cases h
        cases d with
        | int i => cases e1; rw [toI_all e2] <;> rfl
        | _ => cases e1
def gMinL : GC := fun xs M Q => match xs with
  | [x] => (match listOf x M with
    | some ys => (match optAll toI ys with
      | some ns => 0 < ns.length ∧ ∀ m, m ∈ ns → (∀ y, y ∈ ns → m ≤ y) → Q (.int m) M
      | none => False)
    | none => False)
  | _ => False
theorem sc_minL : SndC K (rMin K) gMinL := by
  intro xs M Q h vs Hf io H Qr se rv q
  match xs, h with
  | [x], h =>
    obtain ⟨v, r, rfl, rx, rn⟩ := rv
    cases (show r = [] from rn)
    have h : (match listOf x M with | some ys => (match optAll toI ys with | some ns => 0 < ns.length ∧ ∀ m, m ∈ ns → (∀ y, y ∈ ns → m ≤ y) → Q (.int m) M | none => False) | none => False) := h
    cases e : listOf x M with
    | none => rw [e] at h; exact h.elim
    | some ys =>
      rw [e] at h
      have h : (match optAll toI ys with | some ns => 0 < ns.length ∧ ∀ m, m ∈ ns → (∀ y, y ∈ ns → m ≤ y) → Q (.int m) M | none => False) := h
      cases e2 : optAll toI ys with
      | none => rw [e2] at h; exact h.elim
      | some ns =>
        rw [e2] at h
        obtain ⟨a, us, rfl, h1, h2⟩ := list_rep se rx e
        rw [toI_all e2] at h2
        rw [h2.ints] at h1
        exact ⟨a, ns, rfl, SqL.of h1, h.1, fun m hm hy => q _ _ _ _ _ (.int m) (Ext.refl _ _ _) se rfl (h.2 m hm hy)⟩
theorem ped_minL (hc : X.calm = true) (hm : X.mg "min" = none) (ha : PAd X K mg W (e :: es) ta fs) (hg : Gl X "min" := by rfl)
    (he : starEach (e :: es) X.env = (false, eval e X.env) :: starEach es X.env := by rfl) (hpl : (backTo pos (starEach es X.env)).any (·.1) = false := by rfl) :
    PEd X K mg W (.Call (.Name "min" p) (e :: es) [] pos) (tCB (rMin K) ta) (eB gMinL fs) := by obtain ⟨hK, hM⟩ : X.K = K ∧ X.mg = mg := ⟨ha.hK, ha.hM⟩; subst hK hM; exact ped_B (W := W) (x := "min") (p := p) (pos := pos) (cr_min (X := X) hc) sc_minL hm PyProof.Rows.boot_min ha hg (by decide) (by decide) he hpl
end

end DL
namespace DL
open PySem PySem.Spec PyProof.Rows L2
/-! ### methods of lists and texts -/
abbrev GM := D → List D → Sto → KQ → Prop
def SndM (K : PySem.W.Frag) (r : V → List V → Hp → VK → Prop) (g : GM) : Prop :=
  ∀ x xs M Q, g x xs M Q → ∀ v vs Hf io H (Qr : VK), SE K Hf io H M → Rp K io Hf x v → RpL K io Hf xs vs → LQ K Hf io H Q Qr → r v vs H Qr
def eM (g : GM) (f : FE) (fs : List FE) : FE := fun ds M Q E => f ds M (fun x M1 => match listOf x M1 with
  | some _ => args fs ds M1 (fun xs M2 => g x xs M2 Q) E
  | none => False) E
def mAppend : GM := fun x xs M Q => match x with
  | .loc n => (match xs with
    | [y] => (match M[n]? with
      | some zs => zs.length < sizeLine ∧ Q .non (M.set n (zs ++ [y]))
      | none => False)
    | _ => False)
  | _ => False
def mInsert : GM := fun x xs M Q => match x with
  | .loc n => (match xs with
    | [.int i, y] => (match M[n]? with
      | some zs => zs.length < sizeLine ∧ (0 ≤ i ∧ i < 2 ^ 63) ∧ Q .non (M.set n (zs.take i.toNat ++ [y] ++ zs.drop i.toNat))
      | none => False)
    | _ => False)
  | _ => False
def mPopAt : GM := fun x xs M Q => match x with
  | .loc n => (match xs with
    | [.int i] => (match M[n]? with
      | some zs => (0 ≤ i ∧ i < 2 ^ 62) ∧ (match zs[i.toNat]? with
        | some y => Q y (M.set n (zs.eraseIdx i.toNat))
        | none => False)
      | none => False)
    | _ => False)
  | _ => False
def mIndex : GM := fun x xs M Q => match listOf x M with
  | some zs => (match xs with
    | [y] => (match toV y with
      | some v => (match optAll toV zs with
        | some us => (match us.findIdx? (fun z => eqV z v) with
          | some j => Q (.int (j : Nat)) M
          | none => False)
        | none => False)
      | none => False)
    | _ => False)
  | none => False
section
variable {X : Cx} {W : WX} {K : PySem.W.Frag} {mg : Str → Option Value} {Hf H : Hp} {io : List Addr} {M : Sto} {pos p apos cpos : Pos} {o e : Expr} {es : List Expr} {to : TE} {fo : FE} {ta : TA} {fs : List FE} {name : Str} {id : String} {r : V → List V → Hp → VK → Prop} {g : GM}
theorem ped_m (slot : Slot "list" name id) (hty : typeOf (.builtin id) = pure (.type "method_descriptor")) (hm : MtR X id r) (om : SndM K r g) (ho : PEd X K mg W o to fo) (ha : PAd X K mg W (e :: es) ta fs)
    (hbase : attributeBase o name X.env (eval o X.env) = eval o X.env := by rfl)
    (hfew : ((backTo cpos (starEach (e :: es) X.env)).all (fun x => !x.1) && (backToKw cpos (keywordEach [] X.env)).all (fun x => x.1.isSome)
      && decide ((e :: es).length + ([] : List Keyword).length + (if ([] : List Keyword).isEmpty then 0 else 1) < 30)) = true := by rfl)
    (hline : (apos.endLine == cpos.line) = true := by rfl) (hs : starEach (e :: es) X.env = (false, eval e X.env) :: starEach es X.env := by rfl) (hplain : (backTo cpos (starEach es X.env)).any (·.1) = false := by rfl) :
    PEd X K mg W (.Call (.Attribute o name apos) (e :: es) [] cpos) (tBM K "list" r to ta) (eM g fo fs) := by obtain ⟨hK, hM⟩ : X.K = K ∧ X.mg = mg := ⟨ho.hK, ho.hM⟩; subst hK hM; exact ⟨rfl, rfl, pe_bm PySem.F.plainAttrs_list slot hty hm ho.p ha.p hbase hfew hline hs hplain, ⟨fun ds M Q E hh σ Hf io H Qr se rs q hx => ho.s.run ds M _ E hh σ Hf io H _ se rs (fun Hf1 io1 H1 M1 v d x1 se1 rv h1 => by
    have h1 : (match listOf d M1 with | some _ => args fs ds M1 (fun xs M2 => g d xs M2 Q) E | none => False) := h1
    cases e : listOf d M1 with
    | none => rw [e] at h1; exact h1.elim
    | some zs =>
      rw [e] at h1
      obtain ⟨a, vs, rfl, h2, _⟩ := list_rep se1 rv e
      refine ⟨Or.inl ⟨rfl, vs, SqL.of h2⟩, ?_⟩
      exact ha.s.run ds M1 _ E h1 σ Hf1 io1 H1 _ se1 (rs.ext x1) (fun Hf2 io2 H2 M2 us xs x2 se2 r2 hl h3 => om d xs M2 Q h3 _ us Hf2 io2 H2 Qr se2 (rv.ext x2) r2 (q.ext (x1.trans x2))) (hx.ext x1)) hx⟩⟩
theorem sm_append : SndM K rAppend mAppend := by
  intro x xs M Q h v vs Hf io H Qr se rx rv q
  cases x with
  | loc n => match xs, h with
    | [y], h =>
      obtain ⟨u, us, rfl, ry, rn⟩ := rv
      cases (show us = [] from rn)
      have h : (match M[n]? with | some zs => zs.length < sizeLine ∧ Q .non (M.set n (zs ++ [y])) | none => False) := h
      cases e : M[n]? with
      | none => rw [e] at h; exact h.elim
      | some zs =>
        rw [e] at h
        obtain ⟨a, rfl, h1⟩ := rx
        obtain ⟨_, ws, h2, h3⟩ := se.own n a zs h1 e
        obtain ⟨se1, x1⟩ := se.store h1 (h3.append (RpL.one ry))
        exact ⟨a, ws, u, rfl, rfl, h2, by rw [h3.length]; exact h.1, q _ _ _ _ _ .non x1 se1 rfl h.2⟩
  | _ => exact h.elim
theorem sm_insert : SndM K (fun x vs H Q => ∃ (l : Addr) (xs : List V) (i : Int) (y : V), x = .ref l ∧ vs = [.int i, y] ∧ H l = some (.lst xs) ∧ xs.length < sizeLine ∧ 0 ≤ i ∧ i < 2 ^ 63 ∧
    Q .non (upd H l (.lst (xs.take i.toNat ++ [y] ++ xs.drop i.toNat)))) mInsert := by
  intro x xs M Q h v vs Hf io H Qr se rx rv q
  cases x with
  | loc n =>
    unfold mInsert at h
    dsimp only at h
    split at h
    · rename_i i y
      obtain ⟨u0, us0, rfl, r0, u, us, rfl, ry, rn⟩ := rv
      cases (show us = [] from rn)
      cases (show u0 = .int i from r0)
      split at h
      · rename_i zs e
        obtain ⟨a, rfl, h1⟩ := rx
        obtain ⟨_, ws, h2, h3⟩ := se.own n a zs h1 e
        obtain ⟨se1, x1⟩ := se.store h1 (((h3.take i.toNat).append (RpL.one ry)).append (h3.drop i.toNat))
        exact ⟨a, ws, i, u, rfl, rfl, h2, by rw [h3.length]; exact h.1, h.2.1.1, h.2.1.2, q _ _ _ _ _ .non x1 se1 rfl h.2.2⟩
      · exact h.elim
    · exact h.elim
  | _ => exact h.elim
theorem sm_popAt : SndM K rPopAt mPopAt := by
  intro x xs M Q h v vs Hf io H Qr se rx rv q
  cases x with
  | loc n =>
    unfold mPopAt at h
    dsimp only at h
    split at h
    · rename_i i
      obtain ⟨u0, us0, rfl, r0, rn⟩ := rv
      cases (show us0 = [] from rn)
      cases (show u0 = .int i from r0)
      split at h
      · rename_i zs e
        obtain ⟨hi, h⟩ := h
        split at h
        · rename_i y e2
          obtain ⟨a, rfl, h1⟩ := rx
          obtain ⟨_, ws, h2, h3⟩ := se.own n a zs h1 e
          obtain ⟨w, e3, rw⟩ := h3.get e2
          obtain ⟨se1, x1⟩ := se.store h1 (h3.erase i.toNat)
          have hlt := (List.getElem?_eq_some_iff.mp e3).1
          refine ⟨a, ws, i, i.toNat, w, rfl, rfl, h2, by omega, by omega, ?_, e3, q _ _ _ _ _ y x1 se1 (rw.ext x1) h⟩
          have e4 : ixN ws.length i = some i.toNat := by
            unfold ixN
            rw [if_pos hi.1, if_pos (by omega)]
          exact (ixN_seq e4).1
        · exact h.elim
      · exact h.elim
    · exact h.elim
  | _ => exact h.elim
theorem sm_index : SndM K (rIndex K) mIndex := by
  intro x xs M Q h v vs Hf io H Qr se rx rv q
  unfold mIndex at h
  split at h
  · rename_i zs e
    split at h
    · rename_i y
      obtain ⟨u0, us0, rfl, r0, rn⟩ := rv
      cases (show us0 = [] from rn)
      split at h
      · rename_i w e1
        split at h
        · rename_i us e2
          split at h
          · rename_i j e3
            obtain ⟨a, ws, rfl, h1, h2⟩ := list_rep se rx e
            obtain ⟨rfl, f1⟩ := toV_rp e1 r0
            obtain ⟨rfl, f2⟩ := toV_all e2 h2
            obtain ⟨hj, hp, hno⟩ := List.findIdx?_eq_some_iff_getElem.mp e3
            refine ⟨a, ws, u0, j, ws[j], rfl, rfl, SqL.of h1, f1, f2, List.getElem?_eq_getElem hj, hp, fun m z' hm hz => ?_, q _ _ _ _ _ (.int _) (Ext.refl _ _ _) se rfl h⟩
            obtain ⟨hm2, e4⟩ := List.getElem?_eq_some_iff.mp hz
            have := hno m hm
            rw [e4] at this
            simpa using this
          · exact h.elim
        · exact h.elim
      · exact h.elim
    · exact h.elim
  · exact h.elim
theorem ped_append (ho : PEd X K mg W o to fo) (ha : PAd X K mg W (e :: es) ta fs)
    (hbase : attributeBase o "append" X.env (eval o X.env) = eval o X.env := by rfl)
    (hfew : ((backTo cpos (starEach (e :: es) X.env)).all (fun x => !x.1) && (backToKw cpos (keywordEach [] X.env)).all (fun x => x.1.isSome)
      && decide ((e :: es).length + ([] : List Keyword).length + (if ([] : List Keyword).isEmpty then 0 else 1) < 30)) = true := by rfl)
    (hline : (apos.endLine == cpos.line) = true := by rfl) (hs : starEach (e :: es) X.env = (false, eval e X.env) :: starEach es X.env := by rfl) (hplain : (backTo cpos (starEach es X.env)).any (·.1) = false := by rfl) :
    PEd X K mg W (.Call (.Attribute o "append" apos) (e :: es) [] cpos) (tBM K "list" rAppend to ta) (eM mAppend fo fs) := by obtain ⟨hK, hM⟩ : X.K = K ∧ X.mg = mg := ⟨ho.hK, ho.hM⟩; subst hK hM; exact ped_m PySem.F.slot_list_append PySem.F.type_list_append mt_append sm_append ho ha hbase hfew hline hs hplain
theorem ped_insert (ho : PEd X K mg W o to fo) (ha : PAd X K mg W (e :: es) ta fs)
    (hbase : attributeBase o "insert" X.env (eval o X.env) = eval o X.env := by rfl)
    (hfew : ((backTo cpos (starEach (e :: es) X.env)).all (fun x => !x.1) && (backToKw cpos (keywordEach [] X.env)).all (fun x => x.1.isSome)
      && decide ((e :: es).length + ([] : List Keyword).length + (if ([] : List Keyword).isEmpty then 0 else 1) < 30)) = true := by rfl)
    (hline : (apos.endLine == cpos.line) = true := by rfl) (hs : starEach (e :: es) X.env = (false, eval e X.env) :: starEach es X.env := by rfl) (hplain : (backTo cpos (starEach es X.env)).any (·.1) = false := by rfl) :
    PEd X K mg W (.Call (.Attribute o "insert" apos) (e :: es) [] cpos) (tBM K "list" (fun x vs H Q => ∃ (l : Addr) (xs : List V) (i : Int) (y : V), x = .ref l ∧ vs = [.int i, y] ∧ H l = some (.lst xs) ∧ xs.length < sizeLine ∧ 0 ≤ i ∧ i < 2 ^ 63 ∧ Q .non (upd H l (.lst (xs.take i.toNat ++ [y] ++ xs.drop i.toNat)))) to ta) (eM mInsert fo fs) := by obtain ⟨hK, hM⟩ : X.K = K ∧ X.mg = mg := ⟨ho.hK, ho.hM⟩; subst hK hM; exact ped_m (W := W) (X := X) (apos := apos) (cpos := cpos) PySem.F.slot_list_insert PySem.F.type_list_insert mt_insert sm_insert ho ha hbase hfew hline hs hplain
theorem ped_popAt (ho : PEd X K mg W o to fo) (ha : PAd X K mg W (e :: es) ta fs)
    (hbase : attributeBase o "pop" X.env (eval o X.env) = eval o X.env := by rfl)
    (hfew : ((backTo cpos (starEach (e :: es) X.env)).all (fun x => !x.1) && (backToKw cpos (keywordEach [] X.env)).all (fun x => x.1.isSome)
      && decide ((e :: es).length + ([] : List Keyword).length + (if ([] : List Keyword).isEmpty then 0 else 1) < 30)) = true := by rfl)
    (hline : (apos.endLine == cpos.line) = true := by rfl) (hs : starEach (e :: es) X.env = (false, eval e X.env) :: starEach es X.env := by rfl) (hplain : (backTo cpos (starEach es X.env)).any (·.1) = false := by rfl) :
    PEd X K mg W (.Call (.Attribute o "pop" apos) (e :: es) [] cpos) (tBM K "list" rPopAt to ta) (eM mPopAt fo fs) := by obtain ⟨hK, hM⟩ : X.K = K ∧ X.mg = mg := ⟨ho.hK, ho.hM⟩; subst hK hM; exact ped_m (W := W) (X := X) (apos := apos) (cpos := cpos) PySem.F.slot_list_pop PySem.F.type_list_pop mt_popAt sm_popAt ho ha hbase hfew hline hs hplain
theorem ped_index (ho : PEd X K mg W o to fo) (ha : PAd X K mg W (e :: es) ta fs)
    (hbase : attributeBase o "index" X.env (eval o X.env) = eval o X.env := by rfl)
    (hfew : ((backTo cpos (starEach (e :: es) X.env)).all (fun x => !x.1) && (backToKw cpos (keywordEach [] X.env)).all (fun x => x.1.isSome)
      && decide ((e :: es).length + ([] : List Keyword).length + (if ([] : List Keyword).isEmpty then 0 else 1) < 30)) = true := by rfl)
    (hline : (apos.endLine == cpos.line) = true := by rfl) (hs : starEach (e :: es) X.env = (false, eval e X.env) :: starEach es X.env := by rfl) (hplain : (backTo cpos (starEach es X.env)).any (·.1) = false := by rfl) :
    PEd X K mg W (.Call (.Attribute o "index" apos) (e :: es) [] cpos) (tBM K "list" (rIndex K) to ta) (eM mIndex fo fs) := by obtain ⟨hK, hM⟩ : X.K = K ∧ X.mg = mg := ⟨ho.hK, ho.hM⟩; subst hK hM; exact ped_m (W := W) (X := X) (apos := apos) (cpos := cpos) PySem.F.slot_list_index PySem.F.type_list_index mt_index sm_index ho ha hbase hfew hline hs hplain
/-- text.split(sep), sep.join(list) -/
def eStr1 (g : Str → D → Sto → KQ → Prop) (fo fe : FE) : FE := fun ds M Q E => fo ds M (fun x M1 => match x with
  | .str a => fe ds M1 (fun y M2 => g a y M2 Q) E
  | _ => False) E
def SndS1 (K : PySem.W.Frag) (r : V → List V → Hp → VK → Prop) (g : Str → D → Sto → KQ → Prop) : Prop :=
  ∀ a y M Q, g a y M Q → ∀ u Hf io H (Qr : VK), SE K Hf io H M → Rp K io Hf y u → LQ K Hf io H Q Qr → r (.str a) [u] H Qr
theorem snd_str1 {te : TE} {fe : FE} {g : Str → D → Sto → KQ → Prop} (o : SndS1 K r g) (ho : SndE K mg W to fo) (he : SndE K mg W te fe) : SndE K mg W (tM1 r to te) (eStr1 g fo fe) :=
  ⟨fun ds M Q E hh σ Hf io H Qr se rs q hx => ho.run ds M _ E hh σ Hf io H _ se rs (fun Hf1 io1 H1 M1 v d x1 se1 rv h1 => by
    cases d with
    | str a =>
      cases (show v = .str a from rv)
      refine ⟨⟨a, rfl⟩, ?_⟩
      exact he.run ds M1 _ E h1 σ Hf1 io1 H1 _ se1 (rs.ext x1) (fun Hf2 io2 H2 M2 u y x2 se2 ry h2 => o a y M2 Q h2 u Hf2 io2 H2 Qr se2 ry (q.ext (x1.trans x2))) (hx.ext x1)
    | _ => exact h1.elim) hx⟩
def gSplit : Str → D → Sto → KQ → Prop := fun a y M Q => match y with
  | .str b => ((b.length == 0) = false ∧ a.length + 2 ≤ sizeLine) ∧ Q (.lst ((Txt.split a b).map D.str)) M
  | _ => False
def toS : D → Option Str
  | .str i => some i
  | _ => none
theorem toS_all : ∀ {ds : List D} {ns : List Str}, optAll toS ds = some ns → ds = ns.map D.str
  | [], _, h => by cases h; rfl
  | d :: ds, ns, h => by
    unfold optAll at h
    cases e1 : toS d with
    | none => rw [e1] at h; cases h
    | some y =>
      rw [e1] at h
      cases e2 : optAll toS ds with
      | none => rw [e2] at h; cases h
      | some ys =>
        rw [e2] at h
        cases h
        cases d with
        | str i => cases e1; rw [toS_all e2] <;> rfl
        | _ => cases e1
def gJoin : Str → D → Sto → KQ → Prop := fun a y M Q => match seqOf y M with
  | some zs => (match optAll toS zs with
    | some ys => (ys.map (·.length)).sum + ys.length * a.length ≤ 16777216 ∧ Q (.str (Txt.join a ys)) M
    | none => False)
  | none => False
theorem ss_split : SndS1 K (fun x xs H Q => ∃ a b, x = .str a ∧ xs = [.str b] ∧ (b.length == 0) = false ∧ a.length + 2 ≤ sizeLine ∧ rNewStrs (Txt.split a b) H Q) gSplit := by
  intro a y M Q h u Hf io H Qr se ry q
  cases y with
  | str b =>
    cases (show u = .str b from ry)
    refine ⟨a, b, rfl, rfl, h.1.1, h.1.2, fun p np => ?_⟩
    exact newL_ok se (al := false) (RpL.of_strs _) h.2 q np
  | _ => exact h.elim
theorem ss_join : SndS1 K (fun x xs H Q => ∃ a p, ∃ ys : List Str, x = .str a ∧ xs = [.ref p] ∧ (SqL K H p (ys.map V.str) ∨ SqT K H p (ys.map V.str)) ∧
      (ys.map (·.length)).sum + ys.length * a.length ≤ 16777216 ∧ Q (.str (Txt.join a ys)) H) gJoin := by
  intro a y M Q h u Hf io H Qr se ry q
  unfold gJoin at h
  split at h
  · rename_i zs e
    split at h
    · rename_i ys e2
      obtain ⟨p, vs, rfl, h1, h2⟩ := seq_rep se ry e
      rw [toS_all e2] at h2
      rw [h2.strs] at h1
      exact ⟨a, p, ys, rfl, rfl, h1, h.1, q _ _ _ _ _ (.str _) (Ext.refl _ _ _) se rfl h.2⟩
    · exact h.elim
  · exact h.elim
theorem ped_split {te : TE} {fe : FE} (ho : PEd X K mg W o to fo) (he : PEd X K mg W e te fe) (hs : starEach [e] X.env = [(false, eval e X.env)] := by rfl) (hbase : attributeBase o "split" X.env (eval o X.env) = eval o X.env := by rfl) (hline : (apos.endLine == pos.line) = true := by rfl) :
    PEd X K mg W (.Call (.Attribute o "split" apos) [e] [] pos) (tM1 (fun x xs H Q => ∃ a b, x = .str a ∧ xs = [.str b] ∧ (b.length == 0) = false ∧ a.length + 2 ≤ sizeLine ∧ rNewStrs (Txt.split a b) H Q) to te) (eStr1 gSplit fo fe) := by obtain ⟨hK, hM⟩ : X.K = K ∧ X.mg = mg := ⟨ho.hK, ho.hM⟩; subst hK hM; exact ⟨rfl, rfl, pe_split ho.p he.p hs hbase hline, snd_str1 ss_split ho.s he.s⟩
theorem ped_join {te : TE} {fe : FE} (ho : PEd X K mg W o to fo) (he : PEd X K mg W e te fe) (hs : starEach [e] X.env = [(false, eval e X.env)] := by rfl) (hbase : attributeBase o "join" X.env (eval o X.env) = eval o X.env := by rfl) (hline : (apos.endLine == pos.line) = true := by rfl) :
    PEd X K mg W (.Call (.Attribute o "join" apos) [e] [] pos) (tM1 (fun x xs H Q => ∃ a p, ∃ ys : List Str, x = .str a ∧ xs = [.ref p] ∧ (SqL K H p (ys.map V.str) ∨ SqT K H p (ys.map V.str)) ∧
      (ys.map (·.length)).sum + ys.length * a.length ≤ 16777216 ∧ Q (.str (Txt.join a ys)) H) to te) (eStr1 gJoin fo fe) := by obtain ⟨hK, hM⟩ : X.K = K ∧ X.mg = mg := ⟨ho.hK, ho.hM⟩; subst hK hM; exact ⟨rfl, rfl, pe_join ho.p he.p hs hbase hline, snd_str1 ss_join ho.s he.s⟩
end
end DL
namespace DL
open PySem PySem.Spec PyProof.Rows L2

/-! ### statements -/
structure EndsD where
  nx : DS → Sto → Prop
  rt : D → Sto → Prop
  bk : DS → Sto → Prop := fun _ _ => False
  ct : DS → Sto → Prop := fun _ _ => False
  ex : Str → DS → Sto → Prop := fun _ _ _ => False
abbrev FS := EndsD → DS → Sto → Prop
/-- the ends that hold of plain values hold of the heap -/
structure LS (K : PySem.W.Frag) (mg : Str → Option Value) (W : WX) (Hf : Hp) (io : List Addr) (H : Hp) (D' : EndsD) (D : Ends) : Prop where
  nx : ∀ Hf' io' H' M' σ' ds', Ext Hf io H Hf' io' H' → SE K Hf' io' H' M' → RpS K io' Hf' σ' ds' → D'.nx ds' M' → D.nx σ' H'
  rt : ∀ Hf' io' H' M' v d, Ext Hf io H Hf' io' H' → SE K Hf' io' H' M' → Rp K io' Hf' d v → D'.rt d M' → D.rt v H'
  bk : ∀ Hf' io' H' M' σ' ds', Ext Hf io H Hf' io' H' → SE K Hf' io' H' M' → RpS K io' Hf' σ' ds' → D'.bk ds' M' → D.bk σ' H'
  ct : ∀ Hf' io' H' M' σ' ds', Ext Hf io H Hf' io' H' → SE K Hf' io' H' M' → RpS K io' Hf' σ' ds' → D'.ct ds' M' → D.ct σ' H'
  ex : ∀ Hf' io' H' M' σ' ds' n C, Ext Hf io H Hf' io' H' → SE K Hf' io' H' M' → RpS K io' Hf' σ' ds' → mg n = some (.ref C) → D'.ex n ds' M' → W (.ref C) none σ' H'
structure SndS (K : PySem.W.Frag) (mg : Str → Option Value) (W : WX) (ts : TS) (fs : FS) : Prop where
  run : ∀ D' ds M, fs D' ds M → ∀ σ Hf io H D, SE K Hf io H M → RpS K io Hf σ ds → LS K mg W Hf io H D' D → ts D σ H
structure PSd (X : Cx) (K : PySem.W.Frag) (mg : Str → Option Value) (W : WX) (st : Stmt) (ts : TS) (fs : FS) : Prop where
  hK : X.K = K
  hM : X.mg = mg
  p : PS X st ts
  s : SndS K mg W ts fs
structure PSsd (X : Cx) (K : PySem.W.Frag) (mg : Str → Option Value) (W : WX) (st : List Stmt) (ts : TS) (fs : FS) : Prop where
  hK : X.K = K
  hM : X.mg = mg
  p : PSs X st ts
  s : SndS K mg W ts fs
section
variable {K : PySem.W.Frag} {mg : Str → Option Value} {W : WX} {Hf Hf1 H H1 : Hp} {io io1 : List Addr} {D' : EndsD} {D : Ends}
theorem LS.ext (l : LS K mg W Hf io H D' D) (x : Ext Hf io H Hf1 io1 H1) : LS K mg W Hf1 io1 H1 D' D where
  nx := fun _ _ _ _ _ _ x2 => l.nx _ _ _ _ _ _ (x.trans x2)
  rt := fun _ _ _ _ _ _ x2 => l.rt _ _ _ _ _ _ (x.trans x2)
  bk := fun _ _ _ _ _ _ x2 => l.bk _ _ _ _ _ _ (x.trans x2)
  ct := fun _ _ _ _ _ _ x2 => l.ct _ _ _ _ _ _ (x.trans x2)
  ex := fun _ _ _ _ _ _ _ _ x2 => l.ex _ _ _ _ _ _ _ _ (x.trans x2)
theorem LS.lx {σ : L2.St} {ds : DS} (l : LS K mg W Hf io H D' D) (rs : RpS K io Hf σ ds) : LX K mg Hf io H (fun n M => D'.ex n ds M) (fun c d H' => W c d σ H') :=
  fun Hf' io' H' M' n C x se hC h => l.ex _ _ _ _ _ _ _ _ x se (rs.ext x) hC h
end

def sNext : FS := fun D' ds M => D'.nx ds M
def sSeq (t u : FS) : FS := fun D' ds M => t { D' with nx := u D' } ds M
def sCt : FS := fun D' ds M => D'.ct ds M
def sDrop (f : FE) : FS := fun D' ds M => f ds M (fun _ M1 => D'.nx ds M1) (fun n M1 => D'.ex n ds M1)
def sRet (f : FE) : FS := fun D' ds M => f ds M D'.rt (fun n M1 => D'.ex n ds M1)
def sRetN : FS := fun D' ds M => D'.rt .non M
def sIf (c : FT) (t u : FS) : FS := fun D' ds M => c ds M (fun b M1 => if b = true then t D' ds M1 else u D' ds M1) (fun n M1 => D'.ex n ds M1)
def sNever : FS := fun _ _ _ => False
section
variable {X : Cx} {K : PySem.W.Frag} {mg : Str → Option Value} {W : WX} {pos : Pos} {st : Stmt} {rest : List Stmt} {t u : TS} {ft fu : FS} {e : Expr} {te : TE} {f : FE}
theorem pssd_nil (hK : X.K = K := by rfl) (hM : X.mg = mg := by rfl) : PSsd X K mg W [] tNext sNext := by subst hK hM; exact ⟨rfl, rfl, pss_nil, ⟨fun D' ds M h σ Hf io H D se rs l => l.nx _ _ _ _ _ _ (Ext.refl _ _ _) se rs h⟩⟩
theorem pssd_cons (h1 : PSd X K mg W st t ft) (h2 : PSsd X K mg W rest u fu) : PSsd X K mg W (st :: rest) (tSeq t u) (sSeq ft fu) := by obtain ⟨hK, hM⟩ : X.K = K ∧ X.mg = mg := ⟨h1.hK, h1.hM⟩; subst hK hM; exact ⟨rfl, rfl, pss_cons h1.p h2.p, ⟨fun D' ds M h σ Hf io H D se rs l => h1.s.run _ ds M h σ Hf io H _ se rs
    ⟨fun Hf1 io1 H1 M1 σ1 ds1 x1 se1 rs1 h1 => h2.s.run D' ds1 M1 h1 σ1 Hf1 io1 H1 D se1 rs1 (l.ext x1), l.rt, l.bk, l.ct, l.ex⟩⟩⟩
theorem pssd_one (h1 : PSd X K mg W st t ft) : PSsd X K mg W [st] t ft := by obtain ⟨hK, hM⟩ : X.K = K ∧ X.mg = mg := ⟨h1.hK, h1.hM⟩; subst hK hM; exact ⟨rfl, rfl, pss_one h1.p, h1.s⟩
theorem psd_cont (hK : X.K = K := by rfl) (hM : X.mg = mg := by rfl) : PSd X K mg W (.Continue pos) tCont sCt := by subst hK hM; exact ⟨rfl, rfl, ps_continue, ⟨fun D' ds M h σ Hf io H D se rs l => l.ct _ _ _ _ _ _ (Ext.refl _ _ _) se rs h⟩⟩
theorem psd_expr (he : PEd X K mg W e te f) (hs : swapsWith e none pos.line X.env = pure false := by rfl) : PSd X K mg W (.Expr e pos) (tDrop te) (sDrop f) := by obtain ⟨hK, hM⟩ : X.K = K ∧ X.mg = mg := ⟨he.hK, he.hM⟩; subst hK hM; exact ⟨rfl, rfl, ps_expr he.p hs, ⟨fun D' ds M h σ Hf io H D se rs l => he.s.run ds M _ _ h σ Hf io H _ se rs (fun Hf1 io1 H1 M1 v d x1 se1 rv h1 => l.nx _ _ _ _ _ _ x1 se1 (rs.ext x1) h1) (l.lx rs)⟩⟩
theorem psd_ret (he : PEd X K mg W e te f) : PSd X K mg W (.Return (some e) pos) (tRet te) (sRet f) := by obtain ⟨hK, hM⟩ : X.K = K ∧ X.mg = mg := ⟨he.hK, he.hM⟩; subst hK hM; exact ⟨rfl, rfl, ps_ret he.p, ⟨fun D' ds M h σ Hf io H D se rs l => he.s.run ds M _ _ h σ Hf io H _ se rs (fun Hf1 io1 H1 M1 v d x1 se1 rv h1 => l.rt _ _ _ _ _ _ x1 se1 rv h1) (l.lx rs)⟩⟩
theorem psd_retN (hK : X.K = K := by rfl) (hM : X.mg = mg := by rfl) : PSd X K mg W (.Return none pos) tRetN sRetN := by subst hK hM; exact ⟨rfl, rfl, ps_retN, ⟨fun D' ds M h σ Hf io H D se rs l => l.rt _ _ _ _ .non .non (Ext.refl _ _ _) se rfl h⟩⟩
theorem psd_if {c : Expr} {a b : List Stmt} {tc : TT} {fc : FT} (hc : PTd X K mg W c tc fc) (ha : PSsd X K mg W a t ft) (hb : PSsd X K mg W b u fu) : PSd X K mg W (.If c a b pos) (tIfS tc t u) (sIf fc ft fu) := by obtain ⟨hK, hM⟩ : X.K = K ∧ X.mg = mg := ⟨hc.hK, hc.hM⟩; subst hK hM; exact ⟨rfl, rfl, ps_if hc.p ha.p hb.p, ⟨fun D' ds M h σ Hf io H D se rs l => hc.s.run ds M _ _ h σ Hf io H _ se rs (fun Hf1 io1 H1 M1 k x1 se1 h1 => by
    have h1 : (if k = true then ft D' ds M1 else fu D' ds M1) := h1
    by_cases hk : k = true
    · rw [if_pos hk] at h1 ⊢
      exact ha.s.run D' ds M1 h1 σ Hf1 io1 H1 D se1 (rs.ext x1) (l.ext x1)
    · rw [if_neg hk] at h1 ⊢
      exact hb.s.run D' ds M1 h1 σ Hf1 io1 H1 D se1 (rs.ext x1) (l.ext x1)) (l.lx rs)⟩⟩
theorem psd_never (hK : X.K = K := by rfl) (hM : X.mg = mg := by rfl) : PSd X K mg W st tNever sNever := by subst hK hM; exact ⟨rfl, rfl, ps_never, ⟨fun D' ds M h => h.elim⟩⟩
theorem pssd_never {sts : List Stmt} (hK : X.K = K := by rfl) (hM : X.mg = mg := by rfl) : PSsd X K mg W sts tNever sNever := by subst hK hM; exact ⟨rfl, rfl, pss_never, ⟨fun D' ds M h => h.elim⟩⟩
end

/-! ### targets -/
abbrev FG := D → DS → Sto → (DS → Sto → Prop) → KE → Prop
def LN (K : PySem.W.Frag) (Hf : Hp) (io : List Addr) (H : Hp) (Q : DS → Sto → Prop) (Qr : L2.St → Hp → Prop) : Prop :=
  ∀ Hf' io' H' M' σ' ds', Ext Hf io H Hf' io' H' → SE K Hf' io' H' M' → RpS K io' Hf' σ' ds' → Q ds' M' → Qr σ' H'
structure SndG (K : PySem.W.Frag) (mg : Str → Option Value) (W : WX) (tg : TG) (g : FG) : Prop where
  run : ∀ d ds M Q E, g d ds M Q E → ∀ v σ Hf io H (Qr : L2.St → Hp → Prop), SE K Hf io H M → RpS K io Hf σ ds → Rp K io Hf d v → LN K Hf io H Q Qr → LX K mg Hf io H E (fun c d H' => W c d σ H') → tg v σ H Qr
structure PGd (X : Cx) (K : PySem.W.Frag) (mg : Str → Option Value) (W : WX) (e : Expr) (tg : TG) (g : FG) : Prop where
  hK : X.K = K
  hM : X.mg = mg
  p : PG X e tg
  s : SndG K mg W tg g
def gNm (i : Nat) : FG := fun d ds M Q _ => Q (ds.set i (some d)) M
def gNms : List Nat → List D → DS → DS
  | i :: is, d :: xs, ds => gNms is xs (ds.set i (some d))
  | _, _, ds => ds
def gTp (is : List Nat) : FG := fun d ds M Q _ => match d with
  | .tup xs => xs.length = is.length ∧ Q (gNms is xs ds) M
  | _ => False
def setD (o i d : D) (M : Sto) (Q : Sto → Prop) : Prop := match o with
  | .loc n => (match M[n]? with
    | some xs => (match i with
      | .int k => (match ixN xs.length k with
        | some j => Q (M.set n (xs.set j d))
        | none => False)
      | _ => False)
    | none => False)
  | _ => False
def gSb (fo fi : FE) : FG := fun d ds M Q E => fo ds M (fun o M1 => fi ds M1 (fun i M2 => setD o i d M2 (fun M3 => Q ds M3)) E) E
section
variable {X : Cx} {W : WX} {K : PySem.W.Frag} {mg : Str → Option Value} {pos : Pos} {Hf H Hf1 H1 : Hp} {io io1 : List Addr} {M : Sto}
theorem LN.ext {Q : DS → Sto → Prop} {Qr : L2.St → Hp → Prop} (q : LN K Hf io H Q Qr) (x : Ext Hf io H Hf1 io1 H1) : LN K Hf1 io1 H1 Q Qr := fun _ _ _ _ _ _ x2 => q _ _ _ _ _ _ (x.trans x2)
theorem sg_nm (i : Nat) : SndG K mg W (gName i) (gNm i) := ⟨fun d ds M Q E h v σ Hf io H Qr se rs rv q _ => q _ _ _ _ _ _ (Ext.refl _ _ _) se (rs.set i rv) h⟩
theorem pgd_name (i : Nat) {x : Str} (hN : X.N.Nodup) (hi : X.N[i]? = some x := by rfl) (hx : Loc X.env.scope x := by first | exact .inl rfl | exact .inr rfl) (hf : X.fn x = true ∨ X.env.scope.names.lookup x = some .local := by first | exact .inl rfl | exact .inr rfl) (hK : X.K = K := by rfl) (hM : X.mg = mg := by rfl) : PGd X K mg W (.Name x pos) (gName i) (gNm i) := by subst hK hM; exact ⟨rfl, rfl, pg_name hN hi hx hf, sg_nm i⟩
/-- names in a tuple -/
inductive PNs (X : Cx) : List Expr → TGs → List Nat → Prop
  | nil : PNs X [] gNil []
  | cons {i : Nat} {x : Str} {pos : Pos} {es : List Expr} {t : TGs} {is : List Nat} (hN : X.N.Nodup) (hi : X.N[i]? = some x) (hx : Loc X.env.scope x) (hf : X.fn x = true ∨ X.env.scope.names.lookup x = some .local) (r : PNs X es t is) : PNs X (.Name x pos :: es) (gCons (gName i) t) (i :: is)
theorem pns_cons (i : Nat) {x : Str} {es : List Expr} {t : TGs} {is : List Nat} (hN : X.N.Nodup) (r : PNs X es t is) (hi : X.N[i]? = some x := by rfl) (hx : Loc X.env.scope x := by first | exact .inl rfl | exact .inr rfl) (hf : X.fn x = true ∨ X.env.scope.names.lookup x = some .local := by first | exact .inl rfl | exact .inr rfl) : PNs X (.Name x pos :: es) (gCons (gName i) t) (i :: is) := .cons hN hi hx hf r
theorem PNs.pgs {es : List Expr} {t : TGs} {is : List Nat} (h : PNs X es t is) : PGs X es t := by
  induction h with
  | nil => exact pgs_nil
  | cons hN hi hx hf r ih => exact pgs_cons (pg_name hN hi hx hf) ih
theorem PNs.snd {es : List Expr} {t : TGs} {is : List Nat} (h : PNs X es t is) : ∀ (xs : List D) (vs : List V) (σ : L2.St) (ds : DS) (Hf H : Hp) (io : List Addr) (Qr : L2.St → Hp → Prop), RpL K io Hf xs vs → xs.length = is.length → RpS K io Hf σ ds →
    (∀ σ', RpS K io Hf σ' (gNms is xs ds) → Qr σ' H) → t vs σ H Qr := by
  induction h with
  | nil =>
    intro xs vs σ ds Hf H io Qr r hl rs q
    cases xs with
    | nil => cases (show vs = [] from r); exact ⟨rfl, q σ rs⟩
    | cons _ _ => cases hl
  | cons hN hi hx hf r ih =>
    intro xs vs σ ds Hf H io Qr rv hl rs q
    cases xs with
    | nil => cases hl
    | cons d xs =>
      obtain ⟨v, us, rfl, r1, r2⟩ := rv
      refine ⟨v, us, rfl, ?_⟩
      exact ih xs us _ _ Hf H io Qr r2 (by simpa using hl) (rs.set _ r1) q
theorem sg_tp {es : List Expr} {t : TGs} {is : List Nat} (h : PNs X es t is) : SndG X.K X.mg W (gTup X.K is.length t) (gTp is) :=
  ⟨fun d ds M Q E hh v σ Hf io H Qr se rs rv q _ => by
    cases d with
    | tup xs =>
      obtain ⟨a, vs, rfl, h1, h2⟩ := rv
      refine ⟨a, vs, rfl, same_t se.sub h1, by rw [h2.length]; exact hh.1, ?_⟩
      exact h.snd xs vs σ ds Hf H io Qr h2 hh.1 rs fun σ' rs' => q _ _ _ _ _ _ (Ext.refl _ _ _) se rs' hh.2
    | _ => exact hh.elim⟩
theorem PNs.len {es : List Expr} {t : TGs} {is : List Nat} (h : PNs X es t is) : es.length = is.length := by
  induction h with
  | nil => rfl
  | cons _ _ _ _ _ ih => rw [List.length_cons, List.length_cons, ih]
theorem pgd_tup {es : List Expr} {k : Nat} {t : TGs} {is : List Nat} (hc : X.calm = true) (h : PNs X es t is) (hn : (assignEach es X.env).length = is.length := by rfl) (hst : (assignEach es X.env).findIdx? (·.1) = none := by rfl) (hK : X.K = K := by rfl) (hM : X.mg = mg := by rfl) : PGd X K mg W (.Tuple es k pos) (gTup K is.length t) (gTp is) := by subst hK hM; exact ⟨rfl, rfl, pg_tup hc h.pgs hn hst, sg_tp h⟩
theorem pgd_sub {o i : Expr} {to ti : TE} {fo fi : FE} (ho : PEd X K mg W o to fo) (hi : PEd X K mg W i ti fi) 
    (ha : ∀ v, assign (.Subscript o i pos) X.env v = (do
      let ov ← holding [v] (eval o X.env)
      let iv ← holding [v, ov] (eval i X.env)
      standAt pos
      holding [v, ov, iv] (setItem ov iv v)
      release [v, ov, iv] []) := by intro _; rfl) : PGd X K mg W (.Subscript o i pos) (gSub to ti rSetL) (gSb fo fi) := by obtain ⟨hK, hM⟩ : X.K = K ∧ X.mg = mg := ⟨ho.hK, ho.hM⟩; subst hK hM; exact ⟨rfl, rfl, pg_sub ho.p hi.p set_list ha, ⟨fun d ds M Q E hh v σ Hf io H Qr se rs rv q hx => ho.s.run ds M _ E hh σ Hf io H _ se rs (fun Hf1 io1 H1 M1 ov od x1 se1 ro h1 =>
    hi.s.run ds M1 _ E h1 σ Hf1 io1 H1 _ se1 (rs.ext x1) (fun Hf2 io2 H2 M2 iv id x2 se2 ri h2 => by
      unfold setD at h2
      cases od with
      | loc n =>
        dsimp only at h2
        split at h2
        · rename_i xs e
          cases id with
          | int k =>
            dsimp only at h2
            split at h2
            · rename_i j e2
              obtain ⟨a, rfl, h3⟩ := ro
              have h3 := pre_get x2.pre h3
              obtain ⟨_, ws, h4, h5⟩ := se2.own n a xs h3 e
              have X02 := x1.trans x2
              obtain ⟨se3, x3⟩ := se2.store h3 (h5.set j (rv.ext X02))
              exact ⟨a, ws, k, j, rfl, ri, h4, by rw [h5.length]; exact e2, q _ _ _ _ _ _ (X02.trans x3) se3 (rs.ext (X02.trans x3)) h2⟩
            · exact h2.elim
          | _ => exact h2.elim
        · exact h2.elim
      | _ => exact h2.elim) (hx.ext x1)) hx⟩⟩
end

/-! ### assignments -/
def sSet (i : Nat) (f : FE) : FS := fun D' ds M => f ds M (fun d M1 => D'.nx (ds.set i (some d)) M1) (fun n M1 => D'.ex n ds M1)
def sAsg (f : FE) (g : FG) : FS := fun D' ds M => f ds M (fun d M1 => g d ds M1 D'.nx (fun n M2 => D'.ex n ds M2)) (fun n M1 => D'.ex n ds M1)
section
variable {X : Cx} {W : WX} {K : PySem.W.Frag} {mg : Str → Option Value} {pos : Pos} {e : Expr} {te : TE} {f : FE}
theorem ss_asg {tg : TG} {g : FG} (he : SndE K mg W te f) (hg : SndG K mg W tg g) : SndS K mg W (tAsg te tg) (sAsg f g) :=
  ⟨fun D' ds M h σ Hf io H D se rs l => he.run ds M _ _ h σ Hf io H _ se rs (fun Hf1 io1 H1 M1 v d x1 se1 rv h1 =>
    hg.run d ds M1 _ _ h1 v σ Hf1 io1 H1 _ se1 (rs.ext x1) rv (fun Hf2 io2 H2 M2 σ2 ds2 x2 se2 rs2 h2 => l.nx _ _ _ _ _ _ (x1.trans x2) se2 rs2 h2) ((l.lx rs).ext x1)) (l.lx rs)⟩
theorem ss_set (i : Nat) (he : SndE K mg W te f) : SndS K mg W (tAsg te (gName i)) (sSet i f) := ⟨(ss_asg he (sg_nm i)).run⟩
theorem psd_set (i : Nat) {x : Str} {pos' : Pos} (hN : X.N.Nodup) (he : PEd X K mg W e te f) (hi : X.N[i]? = some x := by rfl) (hx : Loc X.env.scope x := by first | exact .inl rfl | exact .inr rfl) (hs : swapsWith e (some (.Name x pos')) pos.line X.env = pure false := by rfl)
    (hf : X.fn x = true ∨ X.env.scope.names.lookup x = some .local := by first | exact .inl rfl | exact .inr rfl) : PSd X K mg W (.Assign [.Name x pos'] e pos) (tAsg te (gName i)) (sSet i f) := by obtain ⟨hK, hM⟩ : X.K = K ∧ X.mg = mg := ⟨he.hK, he.hM⟩; subst hK hM; exact ⟨rfl, rfl, ps_set hN hi hx he.p hs hf, ss_set i he.s⟩
theorem psd_asg {tg : Expr} {t : TG} {g : FG} (he : PEd X K mg W e te f) (hg : PGd X K mg W tg t g) (hs : swapsWithSole [tg] e pos.line X.env = pure false := by rfl) (hw : swappedStores [tg] e X.env = pure none := by rfl) (h1 : (assignEach [tg] X.env).map (·.2) = [assign tg X.env] := by rfl) : PSd X K mg W (.Assign [tg] e pos) (tAsg te t) (sAsg f g) := by obtain ⟨hK, hM⟩ : X.K = K ∧ X.mg = mg := ⟨he.hK, he.hM⟩; subst hK hM; exact ⟨rfl, rfl, ps_asg he.p hg.p hs hw h1, ss_asg he.s hg.s⟩
end
end DL
namespace DL
open PySem PySem.Spec PyProof.Rows L2

/-! ### what is walked -/
structure Walks (K : PySem.W.Frag) (Hf0 : Hp) (io0 : List Addr) (J : It) (xs : List D) (ok : Sto → Prop) : Prop where
  stop : ∀ Hf io H M, Same Hf0 Hf → io0 <+: io → SE K Hf io H M → ok M → J.stop xs.length H
  go : ∀ Hf io H M i d, Same Hf0 Hf → io0 <+: io → SE K Hf io H M → ok M → xs[i]? = some d → J.go i H ∧ ∀ x H', J.yld i H x H' → ∃ Hf', Ext Hf io H Hf' io H' ∧ SE K Hf' io H' M ∧ Rp K io Hf' d x
theorem Walks.mono {K : PySem.W.Frag} {Hf0 Hf1 : Hp} {io0 io1 : List Addr} {J : It} {xs : List D} {ok : Sto → Prop} (w : Walks K Hf0 io0 J xs ok) (e : Same Hf0 Hf1) (p : io0 <+: io1) : Walks K Hf1 io1 J xs ok :=
  ⟨fun Hf io H M e1 p1 => w.stop Hf io H M (e.trans e1) (p.trans p1), fun Hf io H M i d e1 p1 => w.go Hf io H M i d (e.trans e1) (p.trans p1)⟩
abbrev FI := DS → Sto → (List D → (Sto → Prop) → Sto → Prop) → KE → Prop
structure SndI (K : PySem.W.Frag) (mg : Str → Option Value) (W : WX) (wi : TI) (f : FI) : Prop where
  run : ∀ ds M R E, f ds M R E → ∀ σ Hf io H (Rr : It → Hp → Prop), SE K Hf io H M → RpS K io Hf σ ds →
    (∀ Hf' io' H' M' J xs ok, Ext Hf io H Hf' io' H' → SE K Hf' io' H' M' → Walks K Hf' io' J xs ok → R xs ok M' → Rr J H') → LX K mg Hf io H E (fun c d H' => W c d σ H') → wi σ H Rr
structure PId (X : Cx) (K : PySem.W.Frag) (mg : Str → Option Value) (W : WX) (tg iter : Expr) (wi : TI) (f : FI) : Prop where
  hK : X.K = K
  hM : X.mg = mg
  p : PI X tg iter wi
  s : SndI K mg W wi f
theorem PI.or {X : Cx} {tg iter : Expr} {w1 w2 : TI} (h1 : PI X tg iter w1) (h2 : PI X tg iter w2) : PI X tg iter (fun σ H R => w1 σ H R ∨ w2 σ H R) :=
  ⟨fun pins s σ H R I h => h.elim (h1.run pins s σ H R I) (h2.run pins s σ H R I)⟩
def okAny : Sto → Prop := fun _ => True
def signs (z : Str) : List D := z.cps.toList.map fun c => D.str ⟨#[c]⟩
def iSeqD (f : FE) : FI := fun ds M R E => f ds M (fun x M1 => match x with
  | .tup xs => R xs okAny M1
  | .lst xs => R xs okAny M1
  | .scr xs => R xs okAny M1
  | .str z => R (signs z) okAny M1
  | .loc n => (match M1[n]? with
    | some xs => R xs (fun M => M[n]? = some xs) M1
    | none => False)
  | _ => False) E
def rngD (lo : Int) (n : Nat) : List D := (List.range n).map fun (i : Nat) => D.int (lo + (i : Int))
def rngC (lo c : Int) (n : Nat) : List D := (List.range n).map fun (i : Nat) => D.int (lo + (i : Int) * c)
def iRng1D (fs : List FE) : FI := fun ds M R E => args fs ds M (fun xs M1 => match xs with
  | [.int j] => (-(2 ^ 62) ≤ j ∧ j < 2 ^ 62) ∧ R (rngD 0 j.toNat) okAny M1
  | _ => False) E
def iRng2D (fs : List FE) : FI := fun ds M R E => args fs ds M (fun xs M1 => match xs with
  | [.int i, .int j] => (-(2 ^ 62) ≤ i ∧ i < 2 ^ 62 ∧ -(2 ^ 62) ≤ j ∧ j < 2 ^ 62) ∧ R (rngD i (j - i).toNat) okAny M1
  | _ => False) E
def iRng3D (fs : List FE) : FI := fun ds M R E => args fs ds M (fun xs M1 => match xs with
  | [.int i, .int j, .int c] => ∃ n, RgC i j c n ∧ R (rngC i c n) okAny M1
  | _ => False) E
def pairs (xs : List D) : List D := xs.mapIdx fun i x => D.tup [.int (i : Nat), x]
def iEnumD (fs : List FE) : FI := fun ds M R E => args fs ds M (fun xs M1 => match xs with
  | [.lst ys] => R (pairs ys) okAny M1
  | [.loc n] => (match M1[n]? with
    | some ys => R (pairs ys) (fun M => M[n]? = some ys) M1
    | none => False)
  | [.scr ys] => R (pairs ys) okAny M1
  | _ => False) E
section
variable {X : Cx} {W : WX} {K : PySem.W.Frag} {mg : Str → Option Value} {pos p : Pos} {Hf H Hf1 H1 : Hp} {io io1 : List Addr} {M : Sto} {tg e : Expr} {es : List Expr} {te : TE} {f : FE} {ta : TA} {fs : List FE}
theorem wk_list {Hf0 : Hp} {io0 : List Addr} {a : Addr} {vs : List V} {xs : List D} {ok : Sto → Prop} (h : ∀ Hf io H M, Same Hf0 Hf → io0 <+: io → SE K Hf io H M → ok M → ∃ vs, SqL K H a vs ∧ RpL K io Hf xs vs) : Walks K Hf0 io0 (Itl K a) xs ok :=
  ⟨fun Hf io H M e1 p1 se o => by
    obtain ⟨vs, h1, h2⟩ := h Hf io H M e1 p1 se o
    exact ⟨vs, h1, by rw [h2.length]; exact Nat.le_refl _⟩,
   fun Hf io H M i d e1 p1 se o hi => by
    obtain ⟨vs, h1, h2⟩ := h Hf io H M e1 p1 se o
    obtain ⟨v, h3, h4⟩ := h2.get hi
    refine ⟨⟨vs, v, h1, h3⟩, fun x H' y => ?_⟩
    obtain ⟨rfl, y⟩ := y
    have h5 := y vs h1
    rw [h3] at h5
    cases h5
    exact ⟨Hf, Ext.refl _ _ _, se, h4⟩⟩
theorem wk_tup {Hf0 : Hp} {io0 : List Addr} {a : Addr} {vs : List V} {xs : List D} (h0 : SqT K Hf0 a vs) (r0 : RpL K io0 Hf0 xs vs) : Walks K Hf0 io0 (Itt K a) xs okAny :=
  ⟨fun Hf io H M e1 p1 se o => ⟨vs, same_t (e1.trans se.sub) h0, by rw [r0.length]; exact Nat.le_refl _⟩,
   fun Hf io H M i d e1 p1 se o hi => by
    obtain ⟨v, h3, h4⟩ := (RpL.mono p1 e1 _ _ r0).get hi
    have h1 := same_t (e1.trans se.sub) h0
    refine ⟨⟨vs, v, h1, h3⟩, fun x H' y => ?_⟩
    obtain ⟨rfl, y⟩ := y
    have h5 := y vs h1
    rw [h3] at h5
    cases h5
    exact ⟨Hf, Ext.refl _ _ _, se, h4⟩⟩
theorem wk_str {Hf0 : Hp} {io0 : List Addr} (z : Str) : Walks K Hf0 io0 (Its z) (signs z) okAny :=
  ⟨fun Hf io H M e1 p1 se o => by unfold signs; rw [List.length_map, Array.length_toList]; exact Nat.le_refl _,
   fun Hf io H M i d e1 p1 se o hi => by
    unfold signs at hi
    rw [List.getElem?_map] at hi
    cases e : z.cps.toList[i]? with
    | none => rw [e] at hi; cases hi
    | some c =>
      rw [e] at hi
      cases hi
      have hi2 := (List.getElem?_eq_some_iff.mp e).1
      rw [Array.length_toList] at hi2
      refine ⟨hi2, fun x H' y => ?_⟩
      obtain ⟨rfl, c', h1, rfl⟩ := y
      have h2 : z.cps[i]? = some c := by rw [← e]; simp
      rw [h1] at h2
      cases h2
      exact ⟨Hf, Ext.refl _ _ _, se, rfl⟩⟩
theorem wk_rng {Hf0 : Hp} {io0 : List Addr} (lo : Int) (n : Nat) : Walks K Hf0 io0 (Itr lo n) (rngD lo n) okAny :=
  ⟨fun Hf io H M e1 p1 se o => by unfold rngD; rw [List.length_map, List.length_range]; exact Nat.le_refl _,
   fun Hf io H M i d e1 p1 se o hi => by
    unfold rngD at hi
    rw [List.getElem?_map] at hi
    cases e : (List.range n)[i]? with
    | none => rw [e] at hi; cases hi
    | some c =>
      rw [e] at hi
      cases hi
      obtain ⟨h1, h2⟩ := List.getElem?_eq_some_iff.mp e
      rw [List.getElem_range] at h2
      subst h2
      rw [List.length_range] at h1
      refine ⟨h1, fun x H' y => ?_⟩
      obtain ⟨rfl, rfl⟩ := y
      exact ⟨Hf, Ext.refl _ _ _, se, rfl⟩⟩
theorem wk_rngC {Hf0 : Hp} {io0 : List Addr} (lo c : Int) (n : Nat) : Walks K Hf0 io0 (Itc lo c n) (rngC lo c n) okAny :=
  ⟨fun Hf io H M e1 p1 se o => by unfold rngC; rw [List.length_map, List.length_range]; exact Nat.le_refl _,
   fun Hf io H M i d e1 p1 se o hi => by
    unfold rngC at hi
    rw [List.getElem?_map] at hi
    cases e : (List.range n)[i]? with
    | none => rw [e] at hi; cases hi
    | some c =>
      rw [e] at hi
      cases hi
      obtain ⟨h1, h2⟩ := List.getElem?_eq_some_iff.mp e
      rw [List.getElem_range] at h2
      subst h2
      rw [List.length_range] at h1
      refine ⟨h1, fun x H' y => ?_⟩
      obtain ⟨rfl, rfl⟩ := y
      exact ⟨Hf, Ext.refl _ _ _, se, rfl⟩⟩
theorem pairs_get {xs : List D} {i : Nat} {d : D} (h : (pairs xs)[i]? = some d) : ∃ x, xs[i]? = some x ∧ d = .tup [.int (i : Nat), x] := by
  unfold pairs at h
  rw [List.getElem?_mapIdx] at h
  cases e : xs[i]? with
  | none => rw [e] at h; cases h
  | some x => rw [e] at h; cases h; exact ⟨x, rfl, rfl⟩
theorem wk_enum {Hf0 : Hp} {io0 : List Addr} {a : Addr} {xs : List D} {ok : Sto → Prop} (h : ∀ Hf io H M, Same Hf0 Hf → io0 <+: io → SE K Hf io H M → ok M → ∃ vs, SqL K H a vs ∧ RpL K io Hf xs vs) : Walks K Hf0 io0 (Ite K a) (pairs xs) ok :=
  ⟨fun Hf io H M e1 p1 se o => by
    obtain ⟨vs, h1, h2⟩ := h Hf io H M e1 p1 se o
    exact ⟨vs, h1, by unfold pairs; rw [h2.length, List.length_mapIdx]; exact Nat.le_refl _⟩,
   fun Hf io H M i d e1 p1 se o hi => by
    obtain ⟨x, hx, rfl⟩ := pairs_get hi
    obtain ⟨vs, h1, h2⟩ := h Hf io H M e1 p1 se o
    obtain ⟨v, h3, h4⟩ := h2.get hx
    refine ⟨⟨vs, v, h1, h3⟩, fun x' H' y => ?_⟩
    obtain ⟨T, x2, rfl, nT, rfl, y⟩ := y
    have h5 := y vs h1
    rw [h3] at h5
    cases h5
    obtain ⟨se1, x1⟩ := se.froze (o := .tup [.int (i : Nat), v]) nT
    exact ⟨_, x1, se1, ⟨T, _, rfl, SqT.of upd_same, _, _, rfl, rfl, _, _, rfl, h4.ext x1, rfl⟩⟩⟩
def iAny (K : PySem.W.Frag) (te : TE) : TI := fun σ H R => te σ H fun x H1 => (∃ a, x = .ref a ∧ (∃ xs, SqL K H1 a xs) ∧ R (Itl K a) H1) ∨ (∃ a, x = .ref a ∧ (∃ xs, SqT K H1 a xs) ∧ R (Itt K a) H1) ∨ ∃ z, x = .str z ∧ R (Its z) H1
/-- the reading of a walked thing, by its value -/
theorem snd_seq (s : SndE K mg W te f) : SndI K mg W (iAny K te) (iSeqD f) := by
  refine ⟨fun ds M R E h σ Hf io H Rr se rs q hx => s.run ds M _ E h σ Hf io H _ se rs (fun Hf1 io1 H1 M1 v d x1 se1 rv h1 => ?_) hx⟩
  cases d with
  | tup xs =>
    obtain ⟨a, vs, rfl, h2, h3⟩ := rv
    exact .inr (.inl ⟨a, rfl, ⟨vs, same_t se1.sub h2⟩, q _ _ _ _ _ _ _ x1 se1 (wk_tup h2 h3) h1⟩)
  | lst xs =>
    obtain ⟨a, vs, rfl, h2, h3⟩ := rv
    exact .inl ⟨a, rfl, ⟨vs, SqL.of (se1.sub _ _ h2)⟩, q _ _ _ _ _ _ _ x1 se1 (wk_list (vs := vs) fun Hf io H M e1 p1 se _ => ⟨vs, SqL.of ((e1.trans se.sub) _ _ h2), RpL.mono p1 e1 _ _ h3⟩) h1⟩
  | scr xs =>
    obtain ⟨a, vs, rfl, h2, h3⟩ := rv
    exact .inl ⟨a, rfl, ⟨vs, Same.seq se1.sub h2⟩, q _ _ _ _ _ _ _ x1 se1 (wk_list (vs := vs) fun Hf io H M e1 p1 se _ => ⟨vs, Same.seq (e1.trans se.sub) h2, RpL.mono p1 e1 _ _ h3⟩) h1⟩
  | str z =>
    cases (show v = .str z from rv)
    exact .inr (.inr ⟨z, rfl, q _ _ _ _ _ _ _ x1 se1 (wk_str z) h1⟩)
  | loc n =>
    obtain ⟨a, rfl, h2⟩ := rv
    have h1 : (match M1[n]? with | some xs => R xs (fun M => M[n]? = some xs) M1 | none => False) := h1
    cases e : M1[n]? with
    | none => rw [e] at h1; exact h1.elim
    | some xs =>
      rw [e] at h1
      obtain ⟨_, vs, h3, h4⟩ := se1.own n a xs h2 e
      refine .inl ⟨a, rfl, ⟨vs, SqL.of h3⟩, q _ _ _ _ _ _ _ x1 se1 (wk_list (vs := vs) fun Hf io H M e1 p1 se o => ?_) h1⟩
      obtain ⟨_, us, h5, h6⟩ := se.own n a xs (pre_get p1 h2) o
      exact ⟨us, SqL.of h5, h6⟩
  | _ => exact h1.elim
/-- over a list, a tuple, a text -/
theorem pi_any (he : PE X e te) : PI X tg e (iAny X.K te) := by
  refine ⟨fun pins s σ H R I h => ?_⟩
  refine thn (he.run pins s σ H _ I h) fun v s1 ⟨x, H1, I1, r1, q1⟩ => ?_
  have fp : ∀ b ∈ [s1.heap.objs.size], FpOk X pins H1 b := fun b hb => by
    have e : b = s1.heap.objs.size := by simpa using hb
    subst e
    exact I1.fpOk (Nat.le_refl _) (I1.hok.fresh (Nat.le_refl _))
  rcases q1 with ⟨a, e, ⟨xs, hq⟩, q⟩ | ⟨a, e, ⟨xs, hq⟩, q⟩ | ⟨z, e, q⟩
  · subst e
    cases r1
    obtain ⟨its, rv, p, hz⟩ := I1.list hq
    refine wpAny_pyIter_list p.isList ?_
    exact ⟨s1.heap.objs.size, [s1.heap.objs.size], _, _, H1, rfl, I1.kept (t' := s1.toks) fun b o e => Heap.get?_push_of_some _ e, turn_list a _, ⟨_, Heap.get?_push_size _ rfl, rfl, rfl⟩, fp, q⟩
  · subst e
    cases r1
    obtain ⟨its, rv, p, hz⟩ := I1.tuple hq
    refine wpAny_pyIter_tuple (show s1.heap.IsTuple a its.toArray from p) ?_
    exact ⟨s1.heap.objs.size, [s1.heap.objs.size], _, _, H1, rfl, I1.kept (t' := s1.toks) fun b o e => Heap.get?_push_of_some _ e, turn_tuple a _, ⟨_, Heap.get?_push_size _ rfl, rfl, rfl⟩, fp, q⟩
  · subst e
    obtain ⟨t, rfl⟩ := r1
    cases ha : z.cps.all (· < 128)
    · exact wpAny_pyIter_wide ha (pi_one (tk := s1.toks) I1 _ (turn_str _ z t "str_iterator" (.inr rfl)) ⟨_, Heap.get?_push_size _ rfl, rfl, rfl⟩ q)
    · exact wpAny_pyIter_ascii ha (pi_one (tk := s1.toks) I1 _ (turn_str _ z t "str_ascii_iterator" (.inl rfl)) ⟨_, Heap.get?_push_size _ rfl, rfl, rfl⟩ q)
theorem pid_seq (he : PEd X K mg W e te f) : PId X K mg W tg e (iAny K te) (iSeqD f) := by obtain ⟨hK, hM⟩ : X.K = K ∧ X.mg = mg := ⟨he.hK, he.hM⟩; subst hK hM; exact ⟨rfl, rfl, pi_any he.p, snd_seq he.s⟩
theorem snd_rng1 (s : SndA K mg W ta fs) : SndI K mg W (iRng1 ta) (iRng1D fs) :=
  ⟨fun ds M R E h σ Hf io H Rr se rs q hx => s.run ds M _ E h σ Hf io H _ se rs (fun Hf1 io1 H1 M1 vs xs x1 se1 rv hl h1 => by
    match xs, h1 with
    | [.int j], h1 =>
      obtain ⟨v, r, rfl, rx, rn⟩ := rv
      cases (show r = [] from rn)
      cases (show v = .int j from rx)
      exact ⟨j, rfl, h1.1.1, h1.1.2, q _ _ _ _ _ _ _ x1 se1 (wk_rng 0 j.toNat) h1.2⟩) hx⟩
theorem snd_rng2 (s : SndA K mg W ta fs) : SndI K mg W (iRng2 ta) (iRng2D fs) :=
  ⟨fun ds M R E h σ Hf io H Rr se rs q hx => s.run ds M _ E h σ Hf io H _ se rs (fun Hf1 io1 H1 M1 vs xs x1 se1 rv hl h1 => by
    match xs, h1 with
    | [.int i, .int j], h1 =>
      obtain ⟨v, r, rfl, rx, v2, r2, rfl, ry, rn⟩ := rv
      cases (show r2 = [] from rn)
      cases (show v = .int i from rx)
      cases (show v2 = .int j from ry)
      exact ⟨i, j, rfl, h1.1, q _ _ _ _ _ _ _ x1 se1 (wk_rng i (j - i).toNat) h1.2⟩) hx⟩
theorem snd_rng3 (s : SndA K mg W ta fs) : SndI K mg W (iRng3 ta) (iRng3D fs) :=
  ⟨fun ds M R E h σ Hf io H Rr se rs q hx => s.run ds M _ E h σ Hf io H _ se rs (fun Hf1 io1 H1 M1 vs xs x1 se1 rv hl h1 => by
    match xs, h1 with
    | [.int i, .int j, .int c], h1 =>
      obtain ⟨v, r, rfl, rx, v2, r2, rfl, ry, v3, r3, rfl, rz, rn⟩ := rv
      cases (show r3 = [] from rn)
      cases (show v = .int i from rx)
      cases (show v2 = .int j from ry)
      cases (show v3 = .int c from rz)
      obtain ⟨n, h2, h3⟩ := h1
      exact ⟨i, j, c, n, rfl, h2, q _ _ _ _ _ _ _ x1 se1 (wk_rngC i c n) h3⟩) hx⟩
theorem snd_enum (s : SndA K mg W ta fs) : SndI K mg W (iEnum K ta) (iEnumD fs) :=
  ⟨fun ds M R E h σ Hf io H Rr se rs q hx => s.run ds M _ E h σ Hf io H _ se rs (fun Hf1 io1 H1 M1 vs xs x1 se1 rv hl h1 => by
    match xs, h1 with
    | [.lst ys], h1 =>
      obtain ⟨v, r, rfl, rx, rn⟩ := rv
      cases (show r = [] from rn)
      obtain ⟨a, us, rfl, h2, h3⟩ := rx
      exact ⟨a, us, rfl, SqL.of (se1.sub _ _ h2), q _ _ _ _ _ _ _ x1 se1 (wk_enum fun Hf io H M e1 p1 se _ => ⟨us, SqL.of ((e1.trans se.sub) _ _ h2), RpL.mono p1 e1 _ _ h3⟩) h1⟩
    | [.scr ys], h1 =>
      obtain ⟨v, r, rfl, rx, rn⟩ := rv
      cases (show r = [] from rn)
      obtain ⟨a, us, rfl, h2, h3⟩ := rx
      exact ⟨a, us, rfl, Same.seq se1.sub h2, q _ _ _ _ _ _ _ x1 se1 (wk_enum fun Hf io H M e1 p1 se _ => ⟨us, Same.seq (e1.trans se.sub) h2, RpL.mono p1 e1 _ _ h3⟩) h1⟩
    | [.loc n], h1 =>
      obtain ⟨v, r, rfl, rx, rn⟩ := rv
      cases (show r = [] from rn)
      obtain ⟨a, rfl, h2⟩ := rx
      have h1 : (match M1[n]? with | some ys => R (pairs ys) (fun M => M[n]? = some ys) M1 | none => False) := h1
      cases e : M1[n]? with
      | none => rw [e] at h1; exact h1.elim
      | some ys =>
        rw [e] at h1
        obtain ⟨_, us, h3, h4⟩ := se1.own n a ys h2 e
        refine ⟨a, us, rfl, SqL.of h3, q _ _ _ _ _ _ _ x1 se1 (wk_enum fun Hf io H M e1 p1 se o => ?_) h1⟩
        obtain ⟨_, ws, h5, h6⟩ := se.own n a ys (pre_get p1 h2) o
        exact ⟨ws, SqL.of h5, h6⟩) hx⟩
theorem pid_rng1 {a : Expr} (hm : X.mg "range" = none) (ha : PAd X K mg W [a] ta fs) (hg : Gl X "range" := by rfl) (hs : starEach [a] X.env = [(false, eval a X.env)] := by rfl) : PId X K mg W tg (.Call (.Name "range" p) [a] [] pos) (iRng1 ta) (iRng1D fs) := by obtain ⟨hK, hM⟩ : X.K = K ∧ X.mg = mg := ⟨ha.hK, ha.hM⟩; subst hK hM; exact ⟨rfl, rfl, pi_range1 hg hm ha.p hs, snd_rng1 ha.s⟩
theorem pid_rng2 {a b : Expr} (hm : X.mg "range" = none) (ha : PAd X K mg W [a, b] ta fs) (hg : Gl X "range" := by rfl) (hs : starEach [a, b] X.env = [(false, eval a X.env), (false, eval b X.env)] := by rfl) (hs2 : starEach [b] X.env = [(false, eval b X.env)] := by rfl) : PId X K mg W tg (.Call (.Name "range" p) [a, b] [] pos) (iRng2 ta) (iRng2D fs) := by obtain ⟨hK, hM⟩ : X.K = K ∧ X.mg = mg := ⟨ha.hK, ha.hM⟩; subst hK hM; exact ⟨rfl, rfl, pi_range2 hg hm ha.p hs hs2, snd_rng2 ha.s⟩
theorem pid_rng3 {a b c : Expr} (hm : X.mg "range" = none) (ha : PAd X K mg W [a, b, c] ta fs) (hg : Gl X "range" := by rfl) (hs : starEach [a, b, c] X.env = (false, eval a X.env) :: starEach [b, c] X.env := by rfl) (hpl : (backTo pos (starEach [b, c] X.env)).any (·.1) = false := by rfl) :
    PId X K mg W tg (.Call (.Name "range" p) [a, b, c] [] pos) (iRng3 ta) (iRng3D fs) := by obtain ⟨hK, hM⟩ : X.K = K ∧ X.mg = mg := ⟨ha.hK, ha.hM⟩; subst hK hM; exact ⟨rfl, rfl, pi_range3 hg hm ha.p hs hpl, snd_rng3 ha.s⟩
theorem pid_enum {tpos : Pos} {elts : List Expr} {kk : Nat} (hm : X.mg "enumerate" = none) (ha : PAd X K mg W [e] ta fs) (hg : Gl X "enumerate" := by rfl) (hs : starEach [e] X.env = [(false, eval e X.env)] := by rfl) :
    PId X K mg W (.Tuple elts kk tpos) (.Call (.Name "enumerate" p) [e] [] pos) (iEnum K ta) (iEnumD fs) := by obtain ⟨hK, hM⟩ : X.K = K ∧ X.mg = mg := ⟨ha.hK, ha.hM⟩; subst hK hM; exact ⟨rfl, rfl, pi_enum hg hm ha.p hs, snd_enum ha.s⟩
end
end DL
namespace DL
open PySem PySem.Spec PyProof.Rows L2

/-! ### loops -/
def forW (ok : Sto → Prop) (g : FG) (b : FS) : List D → EndsD → DS → Sto → Prop
  | [], D', ds, M => ok M ∧ D'.nx ds M
  | d :: r, D', ds, M => ok M ∧ g d ds M (fun ds1 M1 => b { D' with nx := forW ok g b r D', ct := forW ok g b r D', bk := D'.nx } ds1 M1) (fun n M1 => D'.ex n ds M1)
def sFor (fi : FI) (g : FG) (b : FS) : FS := fun D' ds M => fi ds M (fun xs ok M1 => forW ok g b xs D' ds M1) (fun n M1 => D'.ex n ds M1)
def whileN (c : FT) (b : FS) : Nat → EndsD → DS → Sto → Prop
  | 0, _, _, _ => False
  | n + 1, D', ds, M => c ds M (fun k M1 => if k = true then b { D' with nx := whileN c b n D', ct := whileN c b n D', bk := D'.nx } ds M1 else D'.nx ds M1) (fun e M1 => D'.ex e ds M1)
def sWhile (c : FT) (b : FS) : FS := fun D' ds M => ∃ n, whileN c b n D' ds M
section
variable {X : Cx} {W : WX} {K : PySem.W.Frag} {mg : Str → Option Value} {pos : Pos} {Hf H Hf1 H1 : Hp} {io io1 : List Addr} {M : Sto}
theorem ss_for {wi : TI} {fi : FI} {tg : TG} {g : FG} {tb : TS} {b : FS} (si : SndI K mg W wi fi) (sg : SndG K mg W tg g) (sb : SndS K mg W tb b) : SndS K mg W (tFor wi tg tb) (sFor fi g b) := by
  refine ⟨fun D' ds M h σ Hf io H D se rs l => si.run ds M _ _ h σ Hf io H _ se rs (fun Hf1 io1 H1 M1 J xs ok x1 se1 wk h1 => ?_) (l.lx rs)⟩
  refine ⟨fun i m σ H => ∃ r Hf io M ds, r = xs.drop i ∧ i ≤ xs.length ∧ m = r.length ∧ Ext Hf1 io1 H1 Hf io H ∧ SE K Hf io H M ∧ RpS K io Hf σ ds ∧ forW ok g b r D' ds M,
    ⟨xs.length, xs, Hf1, io1, M1, ds, rfl, Nat.zero_le _, rfl, Ext.refl _ _ _, se1, rs.ext x1, h1⟩, ?_⟩
  rintro i m σ2 H2 ⟨r, Hf2, io2, M2, ds2, er, hi, rfl, x2, se2, rs2, h2⟩
  cases r with
  | nil =>
    obtain ⟨h3, h4⟩ := h2
    have hlen : xs.length ≤ i := by
      have := congrArg List.length er
      rw [List.length_nil, List.length_drop] at this
      omega
    have e : i = xs.length := Nat.le_antisymm hi hlen
    subst e
    exact .inl ⟨wk.stop Hf2 io2 H2 M2 x2.hf x2.pre se2 h3, l.nx _ _ _ _ _ _ (x1.trans x2) se2 rs2 h4⟩
  | cons d r =>
    obtain ⟨h3, h4⟩ := h2
    have hx : xs[i]? = some d := by
      have : (xs.drop i)[0]? = some d := by rw [← er]; rfl
      rw [List.getElem?_drop] at this
      exact this
    have hlt := (List.getElem?_eq_some_iff.mp hx).1
    have er2 : r = xs.drop (i + 1) := by
      rw [← List.tail_drop, ← er]; rfl
    obtain ⟨hgo, hy⟩ := wk.go Hf2 io2 H2 M2 i d x2.hf x2.pre se2 h3 hx
    refine .inr ⟨hgo, fun σ' H' => ∃ Hf io M ds, Ext Hf1 io1 H1 Hf io H' ∧ SE K Hf io H' M ∧ RpS K io Hf σ' ds ∧ forW ok g b r D' ds M, fun σ' H' ⟨Hf3, io3, M3, ds3, a1, a2, a3, a4⟩ =>
      ⟨r.length, Nat.lt_succ_self _, r, Hf3, io3, M3, ds3, er2, hlt, rfl, a1, a2, a3, a4⟩, fun v H3 y => ?_⟩
    obtain ⟨Hf3, x3, se3, rv⟩ := hy v H3 y
    refine sg.run d ds2 M2 _ _ h4 v σ2 Hf3 io2 H3 _ se3 (rs2.ext x3) rv (fun Hf4 io4 H4 M4 σ4 ds4 x4 se4 rs4 h5 => ?_) ((l.ext ((x1.trans x2).trans x3)).lx (rs2.ext x3))
    have X14 := (x2.trans x3).trans x4
    exact sb.run _ ds4 M4 h5 σ4 Hf4 io4 H4 _ se4 rs4 ⟨fun Hf5 io5 H5 M5 σ5 ds5 x5 se5 rs5 h6 => ⟨Hf5, io5, M5, ds5, X14.trans x5, se5, rs5, h6⟩, (l.ext (x1.trans X14)).rt,
      fun Hf5 io5 H5 M5 σ5 ds5 x5 se5 rs5 h6 => l.nx _ _ _ _ _ _ ((x1.trans X14).trans x5) se5 rs5 h6, fun Hf5 io5 H5 M5 σ5 ds5 x5 se5 rs5 h6 => ⟨Hf5, io5, M5, ds5, X14.trans x5, se5, rs5, h6⟩, (l.ext (x1.trans X14)).ex⟩
theorem psd_for {iter tgt : Expr} {body : List Stmt} {wi : TI} {fi : FI} {tg : TG} {g : FG} {tb : TS} {b : FS} (hp : PassesOwn (model X.prog X.w) X.A X.env X.xe) (hc : X.calm = true) (hi : PId X K mg W tgt iter wi fi) (hg : PGd X K mg W tgt tg g) (hb : PSsd X K mg W body tb b)
    (hs : ∀ x, foldedSetIterable iter X.env x = pure x := by intro _; rfl) : PSd X K mg W (.For tgt iter body [] pos) (tFor wi tg tb) (sFor fi g b) := by obtain ⟨hK, hM⟩ : X.K = K ∧ X.mg = mg := ⟨hi.hK, hi.hM⟩; subst hK hM; exact ⟨rfl, rfl, ps_for hp hc hi.p hg.p hb.p hs, ss_for hi.s hg.s hb.s⟩
theorem ss_while {tc : TT} {c : FT} {tb : TS} {b : FS} (sc : SndT K mg W tc c) (sb : SndS K mg W tb b) : SndS K mg W (tWhile tc tb) (sWhile c b) := by
  refine ⟨fun D' ds M h σ Hf io H D se rs l => ?_⟩
  obtain ⟨n, h⟩ := h
  refine ⟨fun m σ1 H1 => ∃ Hf1 io1 M1 ds1, Ext Hf io H Hf1 io1 H1 ∧ SE K Hf1 io1 H1 M1 ∧ RpS K io1 Hf1 σ1 ds1 ∧ whileN c b m D' ds1 M1, ⟨n, Hf, io, M, ds, Ext.refl _ _ _, se, rs, h⟩, ?_⟩
  rintro m σ1 H1 ⟨Hf1, io1, M1, ds1, x1, se1, rs1, h1⟩
  cases m with
  | zero => exact h1.elim
  | succ m =>
    refine sc.run ds1 M1 _ _ h1 σ1 Hf1 io1 H1 _ se1 rs1 (fun Hf2 io2 H2 M2 k x2 se2 h2 => ?_) ((l.ext x1).lx rs1)
    have h2 : (if k = true then b { D' with nx := whileN c b m D', ct := whileN c b m D', bk := D'.nx } ds1 M2 else D'.nx ds1 M2) := h2
    have X02 := x1.trans x2
    by_cases hk : k = true
    · rw [if_pos hk] at h2 ⊢
      refine ⟨fun σ' H' => ∃ Hf3 io3 M3 ds3, Ext Hf io H Hf3 io3 H' ∧ SE K Hf3 io3 H' M3 ∧ RpS K io3 Hf3 σ' ds3 ∧ whileN c b m D' ds3 M3, fun σ' H' q => ⟨m, Nat.lt_succ_self _, q⟩, ?_⟩
      exact sb.run _ ds1 M2 h2 σ1 Hf2 io2 H2 _ se2 (rs1.ext x2) ⟨fun Hf5 io5 H5 M5 σ5 ds5 x5 se5 rs5 h6 => ⟨Hf5, io5, M5, ds5, X02.trans x5, se5, rs5, h6⟩, (l.ext X02).rt,
        fun Hf5 io5 H5 M5 σ5 ds5 x5 se5 rs5 h6 => l.nx _ _ _ _ _ _ (X02.trans x5) se5 rs5 h6, fun Hf5 io5 H5 M5 σ5 ds5 x5 se5 rs5 h6 => ⟨Hf5, io5, M5, ds5, X02.trans x5, se5, rs5, h6⟩, (l.ext X02).ex⟩
    · rw [if_neg hk] at h2 ⊢
      exact l.nx _ _ _ _ _ _ X02 se2 (rs1.ext x2) h2
theorem psd_while {c : Expr} {body : List Stmt} {tc : TT} {fc : FT} {tb : TS} {b : FS} (hp : PassesOwn (model X.prog X.w) X.A X.env X.xe) (hc : PTd X K mg W c tc fc) (hb : PSsd X K mg W body tb b) : PSd X K mg W (.While c body [] pos) (tWhile tc tb) (sWhile fc b) := by obtain ⟨hK, hM⟩ : X.K = K ∧ X.mg = mg := ⟨hc.hK, hc.hM⟩; subst hK hM; exact ⟨rfl, rfl, ps_while hp hc.p hb.p, ss_while hc.s hb.s⟩
end

/-! ### comprehensions -/
abbrev W0 : WX := fun _ _ _ _ => False
def noE : KE := fun _ _ => False
/-- what the target of a comprehension stores -/
abbrev Put := D → DS → (DS → Prop) → Prop
def putNm (i : Nat) : Put := fun d ds Q => Q (ds.set i (some d))
def putTp (is : List Nat) : Put := fun d ds Q => match d with
  | .tup xs => xs.length = is.length ∧ Q (gNms is xs ds)
  | _ => False
def lcW (ok : Sto → Prop) (vs : List Nat) (put : Put) (t : FT) (e : FE) : List D → List D → DS → Sto → (List D → Sto → Prop) → Prop
  | [], acc, _, M, Q => ok M ∧ Q acc M
  | d :: r, acc, ds, M, Q => ok M ∧ put d (wipeD ds vs) fun dx => t dx M (fun b M1 => if b = true then e dx M1 (fun y M2 => lcW ok vs put t e r (acc ++ [y]) ds M2 Q) noE else lcW ok vs put t e r acc ds M1 Q) noE
def eLc (al : Bool) (fi : FI) (vs : List Nat) (put : Put) (t : FT) (e : FE) : FE := fun ds M Q E => fi ds M (fun xs ok M1 => xs.length ≤ sizeLine ∧ lcW ok vs put t e xs [] ds M1 (fun acc M2 => newL al acc M2 Q)) E
/-- a target of a comprehension, its slots among vs -/
structure PutOk (K : PySem.W.Frag) (vs : List Nat) (tg : TG) (put : Put) : Prop where
  run : ∀ d ds Q, put d ds Q → ∀ v σ Hf H io (Qr : L2.St → Hp → Prop), Same Hf H → RpS K io Hf σ ds → Rp K io Hf d v → (∀ σ' ds', RpS K io Hf σ' ds' → (∀ k, k ∉ vs → σ'[k]? = σ[k]?) → σ'.length = σ.length → Q ds' → Qr σ' H) → tg v σ H Qr
def ftYes : FT := fun _ M Q _ => Q true M
section
variable {X : Cx} {W : WX} {K : PySem.W.Frag} {mg : Str → Option Value} {pos : Pos} {Hf H Hf1 H1 : Hp} {io io1 : List Addr} {M : Sto}
theorem wipe_ext {σ τ : L2.St} (hl : σ.length = τ.length) : ∀ {vs : List Nat}, (∀ k, k ∉ vs → σ[k]? = τ[k]?) → L2.wipe σ vs = L2.wipe τ vs := by
  have key : ∀ (vs : List Nat) (ρ : L2.St) (k : Nat), (L2.wipe ρ vs)[k]? = if k ∈ vs then (if k < ρ.length then some none else none) else ρ[k]? := by
    intro vs
    induction vs with
    | nil => intro ρ k; rw [if_neg (List.not_mem_nil)]; rfl
    | cons v vs ih =>
      intro ρ k
      show ((L2.wipe ρ vs).set v none)[k]? = _
      by_cases hv : v = k
      · subst hv
        rw [if_pos List.mem_cons_self]
        by_cases hk : v < ρ.length
        · rw [List.getElem?_set_self (by rw [L2.wipe_length]; exact hk), if_pos hk]
        · rw [List.getElem?_eq_none (by rw [List.length_set, L2.wipe_length]; omega), if_neg hk]
      · rw [List.getElem?_set_ne hv, ih]
        by_cases hm : k ∈ vs
        · rw [if_pos hm, if_pos (List.mem_cons_of_mem _ hm)]
        · rw [if_neg hm, if_neg (fun z => by rcases List.mem_cons.mp z with q | q; exact hv q.symm; exact hm q)]
  intro vs h
  apply List.ext_getElem?
  intro k
  rw [key, key]
  by_cases hm : k ∈ vs
  · rw [if_pos hm, if_pos hm, hl]
  · rw [if_neg hm, if_neg hm, h k hm]
theorem put_nm (i : Nat) : PutOk K [i] (gName i) (putNm i) :=
  ⟨fun d ds Q h v σ Hf H io Qr _ rs rv q => q _ _ (rs.set i rv) (fun k hk => by rw [List.getElem?_set_ne (fun z => hk (by simp [z]))]) (List.length_set) h⟩
theorem PNs.put {es : List Expr} {t : TGs} {is : List Nat} (h : PNs X es t is) : ∀ (xs : List D) (vs : List V) (σ : L2.St) (ds : DS) (Hf H : Hp) (io : List Addr) (Qr : L2.St → Hp → Prop), RpL K io Hf xs vs → xs.length = is.length → RpS K io Hf σ ds →
    (∀ σ', RpS K io Hf σ' (gNms is xs ds) → (∀ k, k ∉ is → σ'[k]? = σ[k]?) → σ'.length = σ.length → Qr σ' H) → t vs σ H Qr := by
  induction h with
  | nil =>
    intro xs vs σ ds Hf H io Qr r hl rs q
    cases xs with
    | nil => cases (show vs = [] from r); exact ⟨rfl, q σ rs (fun _ _ => rfl) rfl⟩
    | cons _ _ => cases hl
  | @cons i x pos es t is hN hi hx hf r ih =>
    intro xs vs σ ds Hf H io Qr rv hl rs q
    cases xs with
    | nil => cases hl
    | cons d xs =>
      obtain ⟨v, us, rfl, r1, r2⟩ := rv
      refine ⟨v, us, rfl, ?_⟩
      refine ih xs us _ _ Hf H io Qr r2 (by simpa using hl) (rs.set _ r1) fun σ' h1 h2 h3 => q σ' h1 (fun k hk => ?_) (by rw [h3, List.length_set])
      rw [h2 k (fun z => hk (List.mem_cons_of_mem _ z)), List.getElem?_set_ne (fun z => hk (by rw [z]; exact List.mem_cons_self))]
theorem put_tp {es : List Expr} {t : TGs} {is : List Nat} (h : PNs X es t is) : PutOk K is (gTup K is.length t) (putTp is) :=
  ⟨fun d ds Q hh v σ Hf H io Qr sm rs rv q => by
    cases d with
    | tup xs =>
      obtain ⟨a, vs, rfl, h1, h2⟩ := rv
      refine ⟨a, vs, rfl, same_t sm h1, by rw [h2.length]; exact hh.1, ?_⟩
      exact h.put xs vs σ ds Hf H io Qr h2 hh.1 rs fun σ' a1 a2 a3 => q σ' _ a1 a2 a3 hh.2
    | _ => exact hh.elim⟩
/-- something that is neither frozen nor of the store is changed -/
theorem SE.other (h : SE K Hf io H M) {p : Addr} {o : HO} (nf : Hf p = none) (np : p ∉ io) : SE K Hf io (upd H p o) M := by
  refine ⟨fun b u e => ?_, h.len, h.nd, fun n a xs e1 e2 => ?_⟩
  · rw [upd_ne (ne_of_none e nf)]; exact h.sub b u e
  · obtain ⟨q0, vs, q1, q2⟩ := h.own n a xs e1 e2
    have ne : a ≠ p := fun z => np (by rw [← z]; exact List.mem_of_getElem? e1)
    exact ⟨q0, vs, by rw [upd_ne ne]; exact q1, q2⟩
theorem Ext.other (x : Ext Hf io H Hf1 io1 H1) {p : Addr} {o : HO} (np : H p = none) : Ext Hf io H Hf1 io1 (upd H1 p o) :=
  ⟨x.hf, x.pre, fun a u e n => by rw [upd_ne (ne_of_none e np)]; exact x.frame a u e n, x.newl, x.newf⟩
theorem SE.not_io (h : SE K Hf io H M) {p : Addr} (np : H p = none) : p ∉ io := fun hm => by
  obtain ⟨n, hn, e⟩ := List.mem_iff_getElem.mp hm
  have e1 : io[n]? = some p := by rw [List.getElem?_eq_getElem hn, e]
  have e2 : M[n]? = some (M[n]'(by rw [← h.len]; exact hn)) := List.getElem?_eq_getElem _
  obtain ⟨_, vs, q, _⟩ := h.own n p _ e1 e2
  rw [np] at q
  cases q
/-- such a thing stands behind an extension -/
theorem Ext.still (x : Ext Hf io H Hf1 io1 H1) {p : Addr} {o : HO} (hp : H p = some o) (nf : Hf p = none) (np : p ∉ io) : H1 p = some o ∧ Hf1 p = none ∧ p ∉ io1 := by
  refine ⟨x.frame p o hp np, ?_, fun hm => ?_⟩
  · cases q : Hf1 p with
    | none => rfl
    | some u =>
      rcases x.newf p nf (by rw [q]; exact fun z => nomatch z) with z | z
      · rw [hp] at z; cases z
      · exact absurd z np
  · have := x.newl p hm np
    rw [hp] at this
    cases this
theorem snd_lc {al : Bool} {wi : TI} {fi : FI} {vs : List Nat} {tg : TG} {put : Put} {tt : TT} {t : FT} {te : TE} {e : FE} (si : SndI K mg W wi fi) (pk : PutOk K vs tg put) (st : SndT K mg W0 tt t) (s : SndE K mg W0 te e) : SndE K mg W (tLc wi tg tt te vs) (eLc al fi vs put t e) := by
  refine ⟨fun ds M Q E h σ Hf io H Qr se rs q hx => si.run ds M _ E h σ Hf io H _ se rs (fun Hf1 io1 H1 M1 J xs ok x1 se1 wk h1 => ?_) hx⟩
  obtain ⟨hsz, h1⟩ := h1
  intro D nD
  have nfD : Hf1 D = none := se1.sub.free nD
  have niD : D ∉ io1 := se1.not_io nD
  refine ⟨fun i m H => ∃ r acc accV Hf io M, r = xs.drop i ∧ i ≤ xs.length ∧ m = r.length ∧ Ext Hf1 io1 H1 Hf io H ∧ SE K Hf io H M ∧ H D = some (.lst accV) ∧ Hf D = none ∧ D ∉ io ∧ RpL K io Hf acc accV ∧ acc.length ≤ i ∧
      lcW ok vs put t e r acc ds M (fun acc M2 => newL al acc M2 Q),
    ⟨xs.length, xs, [], [], Hf1, io1, M1, rfl, Nat.zero_le _, rfl, (Ext.refl _ _ _).other nD, se1.other nfD niD, upd_same, nfD, niD, rfl, Nat.le_refl _, h1⟩, ?_⟩
  rintro i m H2 ⟨r, acc, accV, Hf2, io2, M2, er, hi, rfl, x2, se2, hD, nf2, ni2, ra, hal, h2⟩
  cases r with
  | nil =>
    obtain ⟨h3, h4⟩ := h2
    have hlen : xs.length ≤ i := by
      have := congrArg List.length er
      rw [List.length_nil, List.length_drop] at this
      omega
    have ei : i = xs.length := Nat.le_antisymm hi hlen
    subst ei
    refine .inl ⟨wk.stop Hf2 io2 H2 M2 x2.hf x2.pre se2 h3, ?_⟩
    have uu : upd H2 D (.lst accV) = H2 := by
      funext b
      by_cases hb : b = D
      · rw [hb, upd_same, hD]
      · rw [upd_ne hb]
    cases al with
    | false =>
      have s1 : Same Hf2 (upd Hf2 D (.lst accV)) := fun b u e => by rw [upd_ne (ne_of_none e nf2)]; exact e
      have se3 : SE K (upd Hf2 D (.lst accV)) io2 H2 M2 := by
        refine ⟨fun b u e => ?_, se2.len, se2.nd, fun n a ys e1 e2 => ?_⟩
        · by_cases hb : b = D
          · subst hb; rw [upd_same] at e; rw [hD]; exact e
          · rw [upd_ne hb] at e; exact se2.sub b u e
        · obtain ⟨q0, us, q1, q2⟩ := se2.own n a ys e1 e2
          have ne : a ≠ D := fun z => ni2 (by rw [← z]; exact List.mem_of_getElem? e1)
          exact ⟨by rw [upd_ne ne]; exact q0, us, q1, RpL.mono (List.prefix_refl _) s1 _ _ q2⟩
      have x3 : Ext Hf1 io1 H1 (upd Hf2 D (.lst accV)) io2 H2 := by
        refine ⟨x2.hf.trans s1, x2.pre, x2.frame, x2.newl, fun a e n => ?_⟩
        by_cases hb : a = D
        · subst hb; exact .inl nD
        · rw [upd_ne hb] at n; exact x2.newf a e n
      exact q _ _ _ _ _ (.lst acc) (x1.trans x3) se3 ⟨D, accV, rfl, upd_same, RpL.mono (List.prefix_refl _) s1 _ _ ra⟩ h4
    | true =>
      have pre : io2 <+: io2 ++ [D] := List.prefix_append _ _
      have se3 : SE K Hf2 (io2 ++ [D]) H2 (M2 ++ [acc]) := by
        refine ⟨se2.sub, by simp [se2.len], ?_, fun n a ys e1 e2 => ?_⟩
        · rw [List.nodup_append]
          refine ⟨se2.nd, by simp, fun a ha b hb z => ?_⟩
          rw [List.mem_singleton] at hb
          rw [z, hb] at ha
          exact ni2 ha
        · by_cases hn : n < io2.length
          · rw [List.getElem?_append_left hn] at e1
            rw [List.getElem?_append_left (by rw [← se2.len]; exact hn)] at e2
            obtain ⟨q0, us, q1, q2⟩ := se2.own n a ys e1 e2
            exact ⟨q0, us, q1, RpL.mono pre (Same.refl _) _ _ q2⟩
          · have hl := (List.getElem?_eq_some_iff.mp e1).1
            have hn2 : n = io2.length := by simp at hl; omega
            subst hn2
            have e3 : a = D := by simpa using e1.symm
            have e4 : ys = acc := by rw [se2.len] at e2; simpa using e2.symm
            subst e3 e4
            exact ⟨nf2, accV, hD, RpL.mono pre (Same.refl _) _ _ ra⟩
      have x3 : Ext Hf1 io1 H1 Hf2 (io2 ++ [D]) H2 := by
        refine ⟨x2.hf, x2.pre.trans pre, x2.frame, fun a h1 h2 => ?_, x2.newf⟩
        rcases List.mem_append.mp h1 with z | z
        · exact x2.newl a z h2
        · rw [List.mem_singleton] at z
          rw [z]
          exact nD
      refine q _ _ _ _ _ (.loc M2.length) (x1.trans x3) se3 ⟨D, rfl, ?_⟩ h4
      rw [← se2.len]
      simp
  | cons d r =>
    obtain ⟨h3, h4⟩ := h2
    have hxi : xs[i]? = some d := by
      have : (xs.drop i)[0]? = some d := by rw [← er]; rfl
      rw [List.getElem?_drop] at this
      exact this
    have hlt := (List.getElem?_eq_some_iff.mp hxi).1
    have er2 : r = xs.drop (i + 1) := by rw [← List.tail_drop, ← er]; rfl
    obtain ⟨hgo, hy⟩ := wk.go Hf2 io2 H2 M2 i d x2.hf x2.pre se2 h3 hxi
    refine .inr ⟨hgo, fun H' => ∃ acc accV Hf io M, Ext Hf1 io1 H1 Hf io H' ∧ SE K Hf io H' M ∧ H' D = some (.lst accV) ∧ Hf D = none ∧ D ∉ io ∧ RpL K io Hf acc accV ∧ acc.length ≤ i + 1 ∧ lcW ok vs put t e r acc ds M (fun acc M2 => newL al acc M2 Q),
      fun H' ⟨acc', accV', Hf3, io3, M3, a1, a2, a3, a4, a5, a6, a7, a8⟩ => ⟨r.length, Nat.lt_succ_self _, r, acc', accV', Hf3, io3, M3, er2, hlt, rfl, a1, a2, a3, a4, a5, a6, a7, a8⟩, fun v H3 y => ?_⟩
    obtain ⟨Hf3, x3, se3, rv⟩ := hy v H3 y
    have X03 := x2.trans x3
    have rs3 : RpS K io2 Hf3 (L2.wipe σ vs) (wipeD ds vs) := ((rs.ext (x1.trans x2)).ext x3).wipe vs
    refine pk.run d _ _ h4 v _ Hf3 H3 io2 _ se3.sub rs3 rv fun σ4 dx rs4 ag hl4 h5 => ⟨?_, ?_⟩
    · have e1 : L2.wipe σ4 vs = L2.wipe (L2.wipe σ vs) vs := wipe_ext hl4 ag
      have e2 : L2.wipe (L2.wipe σ vs) vs = L2.wipe σ vs := by
        refine wipe_ext (L2.wipe_length σ vs) fun k hk => ?_
        exact L2.wipe_out hk
      rw [e1, e2]
    · refine st.run dx M2 _ _ h5 σ4 Hf3 io2 H3 _ se3 rs4 (fun Hf5 io5 H5 M5 b x5 se5 h6 => ?_) (fun _ _ _ _ _ _ _ _ _ z => z.elim)
      have h6 : (if b = true then e dx M5 (fun y M2 => lcW ok vs put t e r (acc ++ [y]) ds M2 (fun acc M2 => newL al acc M2 Q)) noE else lcW ok vs put t e r acc ds M5 (fun acc M2 => newL al acc M2 Q)) := h6
      obtain ⟨b1, b2, b3⟩ := (x3.trans x5).still hD nf2 ni2
      by_cases hb : b = true
      · rw [if_pos hb] at h6 ⊢
        refine s.run dx M5 _ _ h6 σ4 Hf5 io5 H5 _ se5 (rs4.ext x5) (fun Hf6 io6 H6 M6 w y x6 se6 rw h7 => ?_) (fun _ _ _ _ _ _ _ _ _ z => z.elim)
        obtain ⟨c1, c2, c3⟩ := x6.still b1 b2 b3
        have XA := (x3.trans x5).trans x6
        refine ⟨accV, c1, ?_, acc ++ [y], accV ++ [w], Hf6, io6, M6, (x2.trans XA).other nD, se6.other c2 c3, upd_same, c2, c3, (ra.ext XA).append (RpL.one rw), by rw [List.length_append]; simp; omega, h7⟩
        rw [ra.length]
        omega
      · rw [if_neg hb] at h6 ⊢
        exact ⟨acc, accV, Hf5, io5, M5, X03.trans x5, se5, b1, b2, b3, ra.ext (x3.trans x5), by omega, h6⟩
theorem snd_yes {K : PySem.W.Frag} {mg : Str → Option Value} {W : WX} : SndT K mg W tYes ftYes := ⟨fun ds M Q E h σ Hf io H Qr se rs q _ => q _ _ _ _ _ (Ext.refl _ _ _) se h⟩
/-- the test of a comprehension: none, one -/
structure PTsd (X : Cx) (K : PySem.W.Frag) (mg : Str → Option Value) (ifs : List Expr) (tt : TT) (t : FT) : Prop where
  hK : X.K = K
  hM : X.mg = mg
  p : PTs X ifs tt
  s : SndT K mg W0 tt t
theorem ptsd_nil (hK : X.K = K := by rfl) (hM : X.mg = mg := by rfl) : PTsd X K mg [] tYes ftYes := by subst hK hM; exact ⟨rfl, rfl, pts_nil, snd_yes⟩
theorem ptsd_one {c : Expr} {tt : TT} {t : FT} (h : PTd X K mg W0 c tt t) : PTsd X K mg [c] tt t := by obtain ⟨hK, hM⟩ : X.K = K ∧ X.mg = mg := ⟨h.hK, h.hM⟩; subst hK hM; exact ⟨rfl, rfl, pts_one h.p, h.s⟩
structure PGc (X : Cx) (K : PySem.W.Frag) (mg : Str → Option Value) (vs : List Nat) (e : Expr) (tg : TG) (put : Put) : Prop where
  hK : X.K = K
  hM : X.mg = mg
  p : PG X e tg
  s : PutOk K vs tg put
theorem pgc_name (i : Nat) {x : Str} (hN : X.N.Nodup) (hi : X.N[i]? = some x := by rfl) (hx : Loc X.env.scope x := by first | exact .inl rfl | exact .inr rfl) (hf : X.fn x = true ∨ X.env.scope.names.lookup x = some .local := by first | exact .inl rfl | exact .inr rfl) (hK : X.K = K := by rfl) (hM : X.mg = mg := by rfl) : PGc X K mg [i] (.Name x pos) (gName i) (putNm i) := by subst hK hM; exact ⟨rfl, rfl, pg_name hN hi hx hf, put_nm i⟩
theorem pgc_tup {es : List Expr} {k : Nat} {t : TGs} {is : List Nat} (hc : X.calm = true) (h : PNs X es t is) (hn : (assignEach es X.env).length = is.length := by rfl) (hst : (assignEach es X.env).findIdx? (·.1) = none := by rfl) (hK : X.K = K := by rfl) (hM : X.mg = mg := by rfl) : PGc X K mg is (.Tuple es k pos) (gTup K is.length t) (putTp is) := by subst hK hM; exact ⟨rfl, rfl, pg_tup hc h.pgs hn hst, put_tp h⟩
theorem ped_lc {al : Bool} {elt tg iter : Expr} {ifs : List Expr} {scope : Scope} {wi : TI} {fi : FI} {g : TG} {put : Put} {tt : TT} {t : FT} {te : TE} {e : FE} {vs : List Nat} (own : List (Str × Nat)) (hc : X.calm = true) (hN : X.N.Nodup) (hi : PId X K mg W tg iter wi fi) (ok : BlkOk X.N X.env.scope scope own)
    (hg : ∀ (s : Shared) (H : Hp) (C : Addr) (cl : List (Str × Addr)) (fp : List Addr), PGc (X.blk s H scope (compEnvC scope cl C X.env) fp) K mg vs tg g put) (ht : ∀ (s : Shared) (H : Hp) (C : Addr) (cl : List (Str × Addr)) (fp : List Addr), PTsd (X.blk s H scope (compEnvC scope cl C X.env) fp) K mg ifs tt t)
    (he : ∀ (s : Shared) (H : Hp) (C : Addr) (cl : List (Str × Addr)) (fp : List Addr), PEd (X.blk s H scope (compEnvC scope cl C X.env) fp) K mg W0 elt te e) (hs : ∀ x, foldedSetIterable iter X.env x = pure x := by intro _; rfl) (hvs : own.map (·.2) = vs := by rfl) :
    PEd X K mg W (.ListComp elt [⟨tg, iter, ifs, 0⟩] scope pos) (tLc wi g tt te vs) (eLc al fi vs put t e) := by obtain ⟨hK, hM⟩ : X.K = K ∧ X.mg = mg := ⟨hi.hK, hi.hM⟩; subst hK hM; subst hvs; exact ⟨rfl, rfl, pe_lc hc hN hi.p ok (fun s H C cl fp => (hg s H C cl fp).p) (fun s H C cl fp => (ht s H C cl fp).p) (fun s H C cl fp => (he s H C cl fp).p) hs,
   snd_lc hi.s (hg X.s_0 X.H_0 0 [] []).s (ht X.s_0 X.H_0 0 [] []).s (he X.s_0 X.H_0 0 [] []).s⟩
/-- name = [..] -/
theorem psd_setLc {al : Bool} {i : Nat} {y : Str} {py spos : Pos} {elt tg iter : Expr} {ifs : List Expr} {scope : Scope} {wi : TI} {fi : FI} {g : TG} {put : Put} {tt : TT} {t : FT} {te : TE} {e : FE} {vs : List Nat} (own : List (Str × Nat)) (hc : X.calm = true) (hN : X.N.Nodup) (hi : PId X K mg W tg iter wi fi) (ok : BlkOk X.N X.env.scope scope own)
    (hg : ∀ (s : Shared) (H : Hp) (C : Addr) (cl : List (Str × Addr)) (fp : List Addr), PGc (X.blk s H scope (compEnvC scope cl C X.env) fp) K mg vs tg g put) (ht : ∀ (s : Shared) (H : Hp) (C : Addr) (cl : List (Str × Addr)) (fp : List Addr), PTsd (X.blk s H scope (compEnvC scope cl C X.env) fp) K mg ifs tt t)
    (he : ∀ (s : Shared) (H : Hp) (C : Addr) (cl : List (Str × Addr)) (fp : List Addr), PEd (X.blk s H scope (compEnvC scope cl C X.env) fp) K mg W0 elt te e)
    (hy : X.N[i]? = some y := by rfl) (hyl : X.env.scope.names.lookup y = some .local := by rfl)
    (hsw : swapsWith (.ListComp elt [⟨tg, iter, ifs, 0⟩] scope pos) (some (.Name y py)) spos.line X.env = pure true := by exact sw_true rfl rfl rfl (by decide +kernel)) (hs : ∀ x, foldedSetIterable iter X.env x = pure x := by intro _; rfl) (hvs : own.map (·.2) = vs := by rfl) :
    PSd X K mg W (.Assign [.Name y py] (.ListComp elt [⟨tg, iter, ifs, 0⟩] scope pos) spos) (tAsg (tLc wi g tt te vs) (gName i)) (sSet i (eLc al fi vs put t e)) := by obtain ⟨hK, hM⟩ : X.K = K ∧ X.mg = mg := ⟨hi.hK, hi.hM⟩; subst hK hM; subst hvs; exact ⟨rfl, rfl, ps_setLc hc hN hy hyl hsw hi.p ok (fun s H C cl fp => (hg s H C cl fp).p) (fun s H C cl fp => (ht s H C cl fp).p) (fun s H C cl fp => (he s H C cl fp).p) hs,
   ss_set i (snd_lc hi.s (hg X.s_0 X.H_0 0 [] []).s (ht X.s_0 X.H_0 0 [] []).s (he X.s_0 X.H_0 0 [] []).s)⟩
end
end DL
namespace DL
open PySem PySem.Spec PyProof.Rows L2

/-! ### a def is left -/
mutual
def noLoc : D → Bool
  | .loc _ => false
  | .tup xs => noLocL xs
  | .lst xs => noLocL xs
  | .scr xs => noLocL xs
  | .non => true
  | .bl _ => true
  | .int _ => true
  | .str _ => true
def noLocL : List D → Bool
  | [] => true
  | d :: ds => noLoc d && noLocL ds
end
/-- places from k on are frozen -/
def rsv (M : Sto) (k : Nat) : Nat → D → Option D
  | 0, d => if noLoc d = true then some d else none
  | f + 1, d => if noLoc d = true then some d else match d with
    | .tup xs => (optAll (rsv M k f) xs).map .tup
    | .lst xs => (optAll (rsv M k f) xs).map .lst
    | .scr xs => (optAll (rsv M k f) xs).map .scr
    | .loc n => if n < k then some (.loc n) else match M[n]? with
      | some xs => (optAll (rsv M k f) xs).map .lst
      | none => none
    | d => some d
def fin (pure : Bool) (M : Sto) (d : D) (M1 : Sto) (Q : KQ) : Prop := match pure with
  | true => ∃ d', rsv M1 M.length 6 d = some d' ∧ M1.take M.length = M ∧ Q d' M
  | false => Q d M1
def finx (pure : Bool) (M : Sto) (n : Str) (M1 : Sto) (E : KE) : Prop := match pure with
  | true => M1.take M.length = M ∧ E n M
  | false => E n M1
def exits (pure : Bool) (M : Sto) (Q : KQ) (E : KE) : EndsD := { nx := fun _ M1 => fin pure M .non M1 Q, rt := fun d M1 => fin pure M d M1 Q, ex := fun n _ M1 => finx pure M n M1 E }
def startD (N : Nat) (ds : List D) : DS := ds.map some ++ List.replicate (N - ds.length) none
theorem rsv_no {M : Sto} {k f : Nat} {d : D} (h : noLoc d = true) : rsv M k f d = some d := by
  cases f <;> (unfold rsv; rw [if_pos h])
theorem fin_no {M : Sto} {d : D} {Q : KQ} (h : noLoc d = true) (q : Q d M) : fin true M d M Q := ⟨d, rsv_no h, List.take_length, q⟩
section
variable {K : PySem.W.Frag} {mg : Str → Option Value} {Hf H Hf1 H1 : Hp} {io io1 : List Addr} {M M1 : Sto}
mutual
theorem Rp.noLoc_io (e : Same H H1) : ∀ (d : D) (v : V), noLoc d = true → Rp K io H d v → Rp K io1 H1 d v
  | .non, _, _, h => h
  | .bl _, _, _, h => h
  | .int _, _, _, h => h
  | .str _, _, _, h => h
  | .tup ds, v, n, h => by
    obtain ⟨a, vs, h1, h2, h3⟩ := h
    exact ⟨a, vs, h1, same_t e h2, RpL.noLoc_io e ds vs (by simpa only [noLoc] using n) h3⟩
  | .lst ds, v, n, h => by
    obtain ⟨a, vs, h1, h2, h3⟩ := h
    exact ⟨a, vs, h1, e _ _ h2, RpL.noLoc_io e ds vs (by simpa only [noLoc] using n) h3⟩
  | .scr ds, v, n, h => by
    obtain ⟨a, vs, h1, h2, h3⟩ := h
    exact ⟨a, vs, h1, Same.seq e h2, RpL.noLoc_io e ds vs (by simpa only [noLoc] using n) h3⟩
  | .loc n, v, h, _ => by simp [noLoc] at h
theorem RpL.noLoc_io (e : Same H H1) : ∀ (ds : List D) (vs : List V), noLocL ds = true → RpL K io H ds vs → RpL K io1 H1 ds vs
  | [], _, _, h => h
  | d :: ds, _, n, h => by
    obtain ⟨v, r, h0, h1, h2⟩ := h
    simp only [noLocL, Bool.and_eq_true] at n
    exact ⟨v, r, h0, Rp.noLoc_io e d v n.1 h1, RpL.noLoc_io e ds r n.2 h2⟩
end
mutual
/-- of what stands over io, seen over more places -/
theorem Rp.both (e : Same H H1) : ∀ (d : D) (v v1 : V), Rp K io H d v → Rp K io1 H1 d v1 → io <+: io1 → ∀ Hx, Same H1 Hx → Rp K io Hx d v1
  | .non, _, _, _, h, _, _, _ => h
  | .bl _, _, _, _, h, _, _, _ => h
  | .int _, _, _, _, h, _, _, _ => h
  | .str _, _, _, _, h, _, _, _ => h
  | .tup ds, v, v1, g, h, p, Hx, s => by
    obtain ⟨a, vs, h1, h2, h3⟩ := h
    obtain ⟨b, us, g1, g2, g3⟩ := g
    exact ⟨a, vs, h1, same_t s h2, RpL.both e ds us vs g3 h3 p Hx s⟩
  | .lst ds, v, v1, g, h, p, Hx, s => by
    obtain ⟨a, vs, h1, h2, h3⟩ := h
    obtain ⟨b, us, g1, g2, g3⟩ := g
    exact ⟨a, vs, h1, s _ _ h2, RpL.both e ds us vs g3 h3 p Hx s⟩
  | .scr ds, v, v1, g, h, p, Hx, s => by
    obtain ⟨a, vs, h1, h2, h3⟩ := h
    obtain ⟨b, us, g1, g2, g3⟩ := g
    exact ⟨a, vs, h1, Same.seq s h2, RpL.both e ds us vs g3 h3 p Hx s⟩
  | .loc n, v, v1, g, h, p, Hx, s => by
    obtain ⟨a, h1, h2⟩ := h
    obtain ⟨b, g1, g2⟩ := g
    refine ⟨a, h1, ?_⟩
    have := pre_get p g2
    rw [this] at h2
    cases h2
    exact g2
theorem RpL.both (e : Same H H1) : ∀ (ds : List D) (vs vs1 : List V), RpL K io H ds vs → RpL K io1 H1 ds vs1 → io <+: io1 → ∀ Hx, Same H1 Hx → RpL K io Hx ds vs1
  | [], _, _, _, h, _, _, _ => h
  | d :: ds, _, _, g, h, p, Hx, s => by
    obtain ⟨v, r, h0, h1, h2⟩ := h
    obtain ⟨u, q, g0, g1, g2⟩ := g
    exact ⟨v, r, h0, Rp.both e d u v g1 h1 p Hx s, RpL.both e ds q r g2 h2 p Hx s⟩
end
/-- the heap in which the places behind io are frozen -/
def cutH (Hf H : Hp) (new : List Addr) : Hp := fun b => if b ∈ new then H b else Hf b
theorem cut_ok (se0 : SE K Hf io H M) (x : Ext Hf io H Hf1 io1 H1) (se1 : SE K Hf1 io1 H1 M1) (hM : M1.take M.length = M) :
    Same Hf1 (cutH Hf1 H1 (io1.drop io.length)) ∧ SE K (cutH Hf1 H1 (io1.drop io.length)) io H1 M ∧ Ext Hf io H (cutH Hf1 H1 (io1.drop io.length)) io H1 ∧
      (∀ (f : Nat) (d d' : D) (v : V), Rp K io1 Hf1 d v → rsv M1 M.length f d = some d' → Rp K io (cutH Hf1 H1 (io1.drop io.length)) d' v) := by
  obtain ⟨t, rfl⟩ := x.pre
  have hd : (io ++ t).drop io.length = t := List.drop_left
  rw [hd]
  have own1 : ∀ b, b ∈ t → Hf1 b = none ∧ ∃ vs, H1 b = some (.lst vs) := fun b hb => by
    obtain ⟨n, hn, e⟩ := List.mem_iff_getElem.mp (List.mem_append_right io hb)
    have e1 : (io ++ t)[n]? = some b := by rw [List.getElem?_eq_getElem hn, e]
    have e2 : M1[n]? = some (M1[n]'(by rw [← se1.len]; exact hn)) := List.getElem?_eq_getElem _
    obtain ⟨q0, vs, q1, _⟩ := se1.own n b _ e1 e2
    exact ⟨q0, vs, q1⟩
  have nt : ∀ b, b ∈ io → b ∉ t := fun b h1 h2 => by
    have := se1.nd
    rw [List.nodup_append] at this
    exact this.2.2 b h1 b h2 rfl
  have sm : Same Hf1 (cutH Hf1 H1 t) := fun b o e => by
    unfold cutH
    by_cases hb : b ∈ t
    · have := (own1 b hb).1
      rw [e] at this
      cases this
    · rw [if_neg hb]; exact e
  have hlen : io.length = M.length := se0.len
  have key : ∀ (f : Nat) (d d' : D) (v : V), Rp K (io ++ t) Hf1 d v → rsv M1 M.length f d = some d' → Rp K io (cutH Hf1 H1 t) d' v := by
    intro f
    induction f with
    | zero =>
      intro d d' v r h
      unfold rsv at h
      by_cases hn : noLoc d = true
      · rw [if_pos hn] at h
        cases h
        exact Rp.noLoc_io sm d v hn r
      · rw [if_neg hn] at h
        cases h
    | succ f ih =>
      intro d d' v r h
      have all : ∀ (xs ys : List D) (vs : List V), RpL K (io ++ t) Hf1 xs vs → optAll (rsv M1 M.length f) xs = some ys → RpL K io (cutH Hf1 H1 t) ys vs := by
        intro xs
        induction xs with
        | nil => intro ys vs r e; cases e; exact r
        | cons x xs ihx =>
          intro ys vs r e
          obtain ⟨v, us, rfl, r1, r2⟩ := r
          unfold optAll at e
          cases e1 : rsv M1 M.length f x with
          | none => rw [e1] at e; cases e
          | some y =>
            rw [e1] at e
            cases e2 : optAll (rsv M1 M.length f) xs with
            | none => rw [e2] at e; cases e
            | some zs =>
              rw [e2] at e
              cases e
              exact ⟨v, us, rfl, ih x y v r1 e1, ihx zs us r2 e2⟩
      have mp : ∀ (xs : List D) (g : List D → D), (optAll (rsv M1 M.length f) xs).map g = some d' → ∃ ys, optAll (rsv M1 M.length f) xs = some ys ∧ d' = g ys := by
        intro xs g e
        cases e2 : optAll (rsv M1 M.length f) xs with
        | none => rw [e2] at e; cases e
        | some ys => rw [e2] at e; cases e; exact ⟨ys, rfl, rfl⟩
      unfold rsv at h
      by_cases hn : noLoc d = true
      · rw [if_pos hn] at h
        cases h
        exact Rp.noLoc_io sm d v hn r
      · rw [if_neg hn] at h
        cases d with
        | tup xs =>
          obtain ⟨ys, e, rfl⟩ := mp xs _ h
          obtain ⟨a, vs, rfl, h1, h2⟩ := r
          exact ⟨a, vs, rfl, same_t sm h1, all xs ys vs h2 e⟩
        | lst xs =>
          obtain ⟨ys, e, rfl⟩ := mp xs _ h
          obtain ⟨a, vs, rfl, h1, h2⟩ := r
          exact ⟨a, vs, rfl, sm _ _ h1, all xs ys vs h2 e⟩
        | scr xs =>
          obtain ⟨ys, e, rfl⟩ := mp xs _ h
          obtain ⟨a, vs, rfl, h1, h2⟩ := r
          exact ⟨a, vs, rfl, Same.seq sm h1, all xs ys vs h2 e⟩
        | loc n =>
          obtain ⟨a, rfl, h1⟩ := r
          have h : (if n < M.length then some (D.loc n) else match M1[n]? with | some xs => (optAll (rsv M1 M.length f) xs).map .lst | none => none) = some d' := h
          by_cases hk : n < M.length
          · rw [if_pos hk] at h
            cases h
            refine ⟨a, rfl, ?_⟩
            rw [List.getElem?_append_left (by omega)] at h1
            exact h1
          · rw [if_neg hk] at h
            cases e : M1[n]? with
            | none => rw [e] at h; cases h
            | some xs =>
              rw [e] at h
              obtain ⟨ys, e2, rfl⟩ := mp xs _ h
              obtain ⟨_, vs, h3, h4⟩ := se1.own n a xs h1 e
              have ha : a ∈ t := by
                rw [List.getElem?_append_right (by omega)] at h1
                exact List.mem_of_getElem? h1
              refine ⟨a, vs, rfl, ?_, all xs ys vs h4 e2⟩
              unfold cutH
              rw [if_pos ha]
              exact h3
        | non => exact absurd rfl hn
        | bl _ => exact absurd rfl hn
        | int _ => exact absurd rfl hn
        | str _ => exact absurd rfl hn
  refine ⟨sm, ⟨fun b o e => ?_, se0.len, se0.nd, fun n a xs e1 e2 => ?_⟩, ⟨x.hf.trans sm, List.prefix_refl _, x.frame, fun a h1 h2 => absurd h1 h2, fun a e n => ?_⟩, key⟩
  · unfold cutH at e
    by_cases hb : b ∈ t
    · rw [if_pos hb] at e; exact e
    · rw [if_neg hb] at e; exact se1.sub b o e
  · have hn : n < io.length := (List.getElem?_eq_some_iff.mp e1).1
    have e3 : (io ++ t)[n]? = some a := by rw [List.getElem?_append_left hn]; exact e1
    have e4 : M1[n]? = some xs := by
      rw [← hM] at e2
      rw [List.getElem?_take] at e2
      split at e2
      · exact e2
      · cases e2
    obtain ⟨q0, vs, q1, q2⟩ := se1.own n a xs e3 e4
    obtain ⟨p0, us, p1, p2⟩ := se0.own n a xs e1 e2
    refine ⟨?_, vs, q1, RpL.both x.hf xs us vs p2 q2 (List.prefix_append _ _) _ sm⟩
    unfold cutH
    rw [if_neg (nt a (List.mem_of_getElem? e1))]
    exact q0
  · by_cases hb : a ∈ t
    · exact .inl (x.newl a (List.mem_append_right _ hb) (fun z => nt a z hb))
    · unfold cutH at n
      rw [if_neg hb] at n
      exact x.newf a e n
/-- a def by its body -/
theorem okD {P : Program} {w : World} {base : Heap} {x : Str} {st : Stmt} {f : Addr} {fd : FuncData} {N ps : List Str} {k n : Nat} {G : GS} (pure : Bool) (fs : FS) (F : FunD K x x (defArgs st) (defBody st) (defScope st) [] [] f fd) (S : FnScope N ps (defScope st)) (hn : ps.length = n)
    (hb : ∀ (cdv : Value) (A : Around) (outer : List Env) (s : Shared) (H : Hp) (E : XK), Room k (A.deeper (envOfC x (defScope st) s.heap.objs.size f cdv)) →
      ∃ ts, PSsd (cxOf (L2.CX P w) P w K mg base N x (defScope st) f cdv A outer s H E) K mg (fun c d _ H' => E c d H') (defBody st) ts fs)
    (hs : ∀ ds M Q E, G ds M Q E → fs (exits pure M Q E) (startD N.length ds) M) : FnOk P w K mg base (L2.CX P w) (k + 1) f fd ps (spD K mg n G) := by
  refine F.ok S (fun vs H Q E h => by rw [h.1, hn]) (fun cdv A outer s H vs Q E hr h => ?_)
  obtain ⟨ts, hts⟩ := hb cdv A outer s H E hr
  refine ⟨ts, hts.p, ?_⟩
  obtain ⟨hl, Hf, io, M, ds, Q', E', se, rv, hG, hq, hx⟩ := h
  have rs : RpS K io Hf (L2.start N vs) (startD N.length ds) := by
    have hl2 : vs.length = ds.length := rv.length
    refine ⟨by unfold L2.start startD; simp [hl2], fun i d e => ?_⟩
    unfold startD at e
    unfold L2.start
    by_cases hi : i < ds.length
    · rw [List.getElem?_append_left (by simpa using hi), List.getElem?_map] at e
      cases q : ds[i]? with
      | none => rw [q] at e; cases e
      | some d' =>
        rw [q] at e
        cases e
        obtain ⟨v, h1, h2⟩ := rv.get q
        exact ⟨v, by rw [List.getElem?_append_left (by simpa [hl2] using hi), List.getElem?_map, h1]; rfl, h2⟩
    · rw [List.getElem?_append_right (by simpa using hi)] at e
      rw [List.getElem?_replicate] at e
      split at e <;> cases e
  have done : ∀ Hf' io' H' M' v d, Ext Hf io H Hf' io' H' → SE K Hf' io' H' M' → Rp K io' Hf' d v → fin pure M d M' Q' → Q v H' := by
    intro Hf' io' H' M' v d x1 se1 rd h
    cases pure with
    | false => exact hq Hf' io' H' M' v d x1 se1 rd h
    | true =>
      obtain ⟨d', h1, h2, h3⟩ := h
      obtain ⟨_, se2, x2, key⟩ := cut_ok se x1 se1 h2
      exact hq _ io H' M v d' x2 se2 (key 6 d d' v rd h1) h3
  exact hts.s.run _ _ _ (hs ds M Q' E' hG) _ Hf io H _ se rs ⟨fun Hf' io' H' M' σ' ds' x1 se1 rs1 h => done _ _ _ _ .non .non x1 se1 rfl h, fun Hf' io' H' M' v d x1 se1 rd h => done _ _ _ _ v d x1 se1 rd h,
    fun _ _ _ _ _ _ _ _ _ z => z.elim, fun _ _ _ _ _ _ _ _ _ z => z.elim, fun Hf' io' H' M' σ' ds' nm C x1 se1 rs1 hC h => by
      cases pure with
      | false => exact hx Hf' io' H' M' nm C x1 se1 hC h
      | true =>
        obtain ⟨h2, h3⟩ := (show M'.take M.length = M ∧ E' nm M from h)
        obtain ⟨_, se2, x2, _⟩ := cut_ok se x1 se1 h2
        exact hx _ io H' M nm C x2 se2 hC h3⟩
end
/-- a def of the top, and what it does -/
structure Def1 (K : PySem.W.Frag) (mg : Str → Option Value) (x : Str) (st : Stmt) (ps : List Str) : Prop where
  ex : ∃ f fd, FunD K x x (defArgs st) (defBody st) (defScope st) [] [] f fd ∧ mg x = some (.ref f) ∧ Binds K fd ps []
structure Callee (P : Program) (w : World) (K : PySem.W.Frag) (mg : Str → Option Value) (base : Heap) (x : Str) (k n : Nat) (G : GS) : Prop where
  ex : ∃ f fd ps, FnOk P w K mg base (L2.CX P w) k f fd ps (spD K mg n G) ∧ mg x = some (.ref f) ∧ PySem.W.keepIn K (.ref f) = true ∧ Binds K fd ps []
theorem okC {K : PySem.W.Frag} {mg : Str → Option Value} {P : Program} {w : World} {base : Heap} {x : Str} {st : Stmt} {N ps : List Str} {k n : Nat} {G : GS} (pure : Bool) (fs : FS) (F : Def1 K mg x st ps) (S : FnScope N ps (defScope st)) (hn : ps.length = n)
    (hb : ∀ (f : Addr) (cdv : Value) (A : Around) (outer : List Env) (s : Shared) (H : Hp) (E : XK), Room k (A.deeper (envOfC x (defScope st) s.heap.objs.size f cdv)) →
      ∃ ts, PSsd (cxOf (L2.CX P w) P w K mg base N x (defScope st) f cdv A outer s H E) K mg (fun c d _ H' => E c d H') (defBody st) ts fs)
    (hs : ∀ ds M Q E, G ds M Q E → fs (exits pure M Q E) (startD N.length ds) M) : Callee P w K mg base x (k + 1) n G := by
  obtain ⟨f, fd, F1, hm, hb1⟩ := F.ex
  exact ⟨f, fd, ps, okD pure fs F1 S hn (hb f) hs, hm, F1.kp, hb1⟩
theorem ped_callC {X : Cx} {K : PySem.W.Frag} {mg : Str → Option Value} {W : WX} {pos p : Pos} {e : Expr} {es : List Expr} {ta : TA} {fs : List FE} {G : GS} {k j : Nat} {x : Str} (C : Callee X.prog X.w X.K X.mg X.base x j fs.length G) (hr : Room k X.A) (tk : Takes X W)
    (ha : PAd X K mg W (e :: es) ta fs) (hj : j ≤ k := by decide) (hg : Gl X x := by rfl) (hdb : (x == ("__debug__" : Str)) = false := by decide) (he : starEach (e :: es) X.env = (false, eval e X.env) :: starEach es X.env := by rfl) (hpl : (backTo pos (starEach es X.env)).any (·.1) = false := by rfl) :
    PEd X K mg W (.Call (.Name x p) (e :: es) [] pos) (tCallS (spD K mg fs.length G) (WE W) ta) (eCall G fs) := by
  obtain ⟨hK, hM⟩ : X.K = K ∧ X.mg = mg := ⟨ha.hK, ha.hM⟩
  subst hK hM
  obtain ⟨f, fd, ps, F, hm, hk, hb⟩ := C.ex
  exact ped_call F (hr.mono hj) hm hk hb tk ha hg hdb he hpl
/-! ### raise, try -/
/-- what the top says of an own exception class -/
structure ExcF (K : PySem.W.Frag) (mg : Str → Option Value) (x : Str) (C : Addr) : Prop where
  g : mg x = some (.ref C)
  q : PySem.W.excIn K C He.veBase "ValueError.__new__" = true
  k : PySem.W.keepIn K (.ref C) = true
  s : PySem.W.subIn K (.ref C) (.type "BaseException") = some true
  t : PySem.W.typeIn K (.ref C) = some (.type "type")
def sRaise (n : Str) : FS := fun D' ds M => D'.ex n ds M
section
variable {X : Cx} {W : WX} {K : PySem.W.Frag} {mg : Str → Option Value} {pos p p2 pos2 : Pos}
theorem psd_raise {x m : Str} {j : Nat} {C : Addr} (hc : X.calm = true) (tk : Takes X W) (T : ExcF X.K X.mg x C) (hg : Gl X x := by rfl) (hdb : (x == ("__debug__" : Str)) = false := by decide) (hK : X.K = K := by rfl) (hM : X.mg = mg := by rfl) :
    PSd X K mg W (.Raise (some (.Call (.Name x p) [.Constant (.str m) j p2] [] pos)) none pos2) (fun _ σ H => (fun _ H Q => Q (.ref C) none H : L2.St → Hp → XK → Prop) σ H fun cls d H' => W cls d σ H') (sRaise x) := by subst hK hM; exact ⟨rfl, rfl, ps_raise hc tk (pmk_own PySem.F.excBase_ValueError T.q T.g T.k (raises_own T.s T.t) hg hdb), ⟨fun D' ds M h σ Hf io H D se rs l => l.ex _ _ _ _ _ _ _ _ (Ext.refl _ _ _) se rs T.g h⟩⟩
end
end DL
namespace PySem
open Sem (wp)
open AutoSeq1 (wpAny_loadPart')
/-! ### enumerate(tuple) -/
abbrev tupIt (l : Addr) : Obj := { cls := .type "tuple_iterator", data := .fields #[.ref l, .int 0 0] }
abbrev enObj (a : Addr) : Obj := { cls := .type "enumerate", data := .fields #[.none, .bool false, .ref a, rawInt 0, .none, .none] }
theorem meets_enumT (l : Addr) (items : Array Value) (n : Nat) (dct : Option Addr) (sl : Array (Option Value)) :
    Meets (Builtin.«enumerate.__new__» ⟨[.type "enumerate", .ref l], []⟩) (fun _ R s => s.heap.get? l = some { cls := .type "tuple", dict := dct, data := .seq items n, slots := sl } ∧
      R (.ok (.ret (.ref (s.heap.push (tupIt l)).objs.size))) { s with heap := (s.heap.push (tupIt l)).push (enObj s.heap.objs.size) }) :=
  .of_wp fun prog w A R s0 h0 => by
    obtain ⟨hp, g, d, tk, os⟩ := s0; obtain ⟨hl, h0⟩ := h0
    have hsub2 := sub_enumerate
    have hT2 : Heap.IsTuple (Shared.heap ⟨hp, g, d, tk, os⟩) l items := ⟨_, hl, rfl, n, rfl⟩
    wp_walk using wpAny_loadPart' hl
    refine wpAny_stack_any fun st0 => wpAny_pure ?_
    split
    · rename_i c0 _ _ _ _ _
      cases (c0 == Value.type "enumerate") <;> (wp_walk using wpAny_loadPart' hl, wpAny_pyIter_tuple hT2; exact ⟨_, rfl, h0⟩)
    · wp_walk using wpAny_loadPart' hl, wpAny_pyIter_tuple hT2; exact ⟨_, rfl, h0⟩
theorem call_enumT {prog : Program} {w : World} {A : Around} {E : Value → Shared → Prop} {s : Shared} {l : Addr} {items : Array Value} {Q : Value → Shared → Prop} (hL : s.heap.IsTuple l items)
    (h : ∀ h', IsEnum h' (s.heap.objs.size + 1) s.heap.objs.size 0 .none → h'.IsTupleIter s.heap.objs.size l 0 → h'.objs.size = s.heap.objs.size + 2 → (∀ b o, s.heap.get? b = some o → h'.get? b = some o) → Q (.ref (s.heap.objs.size + 1)) { s with heap := h' }) :
    wpAny (model prog w) A (call (.type "enumerate") [.ref l]) Q E s := by
  obtain ⟨⟨c, dct, dt, sl⟩, hl, hc, n, hd⟩ := hL
  replace hc : c = .type "tuple" := hc; replace hd : dt = .seq items n := hd
  subst hc hd
  refine callType_new F.called_enumerate (by decide) (F.typeCall_enumerate_1 _) (F.newCall_enumerate_1 _) (fun obj => F.args_object_init_2 obj _) F.entry_enumerate_new (meets_enumT l items n dct sl) ⟨hl, ?_⟩
  have hz : (s.heap.push (tupIt l)).objs.size = s.heap.objs.size + 1 := Heap.size_push ..
  show _ ∧ _
  rw [hz]
  have he : IsEnum ((s.heap.push (tupIt l)).push (enObj s.heap.objs.size)) (s.heap.objs.size + 1) s.heap.objs.size 0 .none := by
    have q := Heap.get?_push_size (s.heap.push (tupIt l)) (o := enObj s.heap.objs.size) rfl
    rw [hz] at q; exact q
  exact ⟨⟨_, he, rfl⟩, h _ he ⟨_, Heap.get?_push_of_some _ (Heap.get?_push_size _ rfl), rfl, rfl⟩ (by rw [Heap.size_push, hz]) fun b o x => Heap.get?_push_of_some _ (Heap.get?_push_of_some _ x)⟩
end PySem
namespace L2
open PySem PySem.Spec PyProof.Rows
/-- the tuple at a, each item in a new pair -/
def IteT (K : PySem.W.Frag) (a : Addr) : It :=
  ⟨fun i H => ∃ (xs : List V) (x : V), SqT K H a xs ∧ xs[i]? = some x, fun i H v H' => ∃ T x, v = .ref T ∧ H T = none ∧ H' = upd H T (.tup [.int (i : Nat), x]) ∧ ∀ xs, SqT K H a xs → xs[i]? = some x, fun i H => ∃ xs : List V, SqT K H a xs ∧ xs.length = i⟩
theorem turn_enumT {P : Program} {w : World} {K : PySem.W.Frag} {elts : List Expr} {kk : Nat} {tpos : Pos} (a e it : Addr) (hai : a ≠ it) (hae : a ≠ e) :
    Turn P w K (.Tuple elts kk tpos) (IteT K a) [e, it] e (fun i h => (∃ old, IsEnum h e it ((i : Nat) : Int) old) ∧ h.IsTupleIter it a i ∧ e ≠ it) where
  mem := by simp
  obj := fun i h st b hb => by
    obtain ⟨⟨old, he⟩, ⟨o, ho, hc, hd⟩, _⟩ := st
    rcases (by simpa using hb : b = e ∨ b = it) with z | z
    · rw [z]; exact ⟨_, he, fun v q => nomatch q⟩
    · rw [z]; exact ⟨o, ho, fun v q => by rw [hd] at q; cases q⟩
  keep := fun i h h' st k => by
    obtain ⟨⟨old, he⟩, hi, hne⟩ := st
    exact ⟨⟨old, k e (by simp) _ he⟩, hi.at fun o q => k it (by simp) o q, hne⟩
  item := by
    intro X hP hw hK hc i pins s σ H E I hf st hg
    subst hP hw hK
    obtain ⟨⟨old, he⟩, hit, hne⟩ := st
    obtain ⟨xs, x, hq, hx⟩ := hg
    obtain ⟨its, rv, p, hz⟩ := I.tuple hq
    have pT : s.heap.IsTuple a its.toArray := p
    obtain ⟨u, hu, ru⟩ := rv.get hx
    have hel : e < s.heap.objs.size := Heap.lt_size he
    have hil : it < s.heap.objs.size := by obtain ⟨_, q, _⟩ := hit; exact Heap.lt_size q
    have hlt : i < its.toArray.size := by rw [List.size_toArray]; exact (List.getElem?_eq_some_iff.mp hu).1
    refine wpAny_pyNext_enum_itemD (PySem.Draws.tuple (show X.A.in1.handled = none from I.ok.hd hc) it a hai its.toArray) he ⟨hit, pT⟩ hlt hne (by simp [hne, Ne.symm hae]) fun y h' tk hy ho st' hT hsz hk => ?_
    obtain rfl : y = u := by
      have e1 : its.toArray[i]? = its[i]? := by simp
      rw [e1, hu] at hy
      exact (Option.some.inj hy).symm
    refine ⟨_, rfl, wpAny_letOwnedTupleGo_enum (s := { s with heap := h', toks := tk + 1 }) ho fun h2 he2 sb => ?_⟩
    have hT2 : h2.get? s.heap.objs.size = some { cls := .type "tuple", data := .seq #[.int i tk, y] } := (sb.2 _ (Nat.ne_of_gt hel)).trans hT
    have new : ObjOk X.prog X.w (upd H s.heap.objs.size (.tup [.int (i : Nat), x])) h2 s.heap.objs.size (.tup [.int (i : Nat), x]) := ⟨by show 2 ≤ sizeLine; decide, [.int i tk, y], .cons ⟨_, rfl⟩ (.cons ru .nil), ⟨_, hT2, rfl, _, rfl⟩⟩
    have I1 : Inv X pins σ (upd H s.heap.objs.size (.tup [.int (i : Nat), x])) { s with heap := h2, toks := tk + 1 } := I.turnedNew (ch := [e, it]) (fun b ob hb q => (sb.2 b (fun z => hb (by simp [z]))).trans (hk b ob (fun z => hb (by simp [z])) (fun z => hb (by simp [z])) q)) hf (Nat.le_refl _) new
    refine ⟨.ref s.heap.objs.size, _, I1, rfl, ⟨_, x, rfl, I.hok.fresh (Nat.le_refl _), rfl, fun ys hy => by rw [I.tuple_inj hy hq]; exact hx⟩, ⟨⟨y, ?_⟩, st'.1.at fun o q => (sb.2 it (Ne.symm hne)).trans q, hne⟩, fun b hb => ?_⟩
    · rw [show ((i + 1 : Nat) : Int) = (i : Int) + 1 by omega]; exact he2
    · have hb2 : b < s.heap.objs.size := by
        rcases (by simpa using hb : b = e ∨ b = it) with z | z
        · rw [z]; exact hel
        · rw [z]; exact hil
      rw [upd_ne (Nat.ne_of_lt hb2)]; exact (hf b hb).1
  done := by
    intro X hP hw hK hc i pins s σ H E I hf st hg
    subst hP hw hK
    obtain ⟨⟨old, he⟩, hit, hne⟩ := st
    obtain ⟨xs, hq, hx⟩ := hg
    obtain ⟨its, rv, p, hz⟩ := I.tuple hq
    have pT : s.heap.IsTuple a its.toArray := p
    obtain ⟨f0, f1, f2, f3, f4, f5⟩ := hf it (by simp)
    have hl := rv.length
    subst hx
    have hsz : its.toArray.size = xs.length := by rw [List.size_toArray, hl]
    exact wpAny_pyNext_enum_endD (PySem.Draws.tuple (show X.A.in1.handled = none from I.ok.hd hc) it a hai its.toArray) he (by rw [hsz]; exact ⟨hit, pT⟩) fun h' eb => ⟨rfl, I.turned (t' := s.toks) (fun b o hb q => eb b o hb q) f0 f1 f3 f4 f5⟩
  self := fun A i s Q E st h => by
    obtain ⟨⟨_, he⟩, _⟩ := st
    exact wpAny_pyIter_enum he h
def iEnumT (K : PySem.W.Frag) (ta : TA) : TI := fun σ H R => ta σ H fun vs H1 => ∃ a xs, vs = [.ref a] ∧ SqT K H1 a xs ∧ R (IteT K a) H1
theorem pi_enumT {X : Cx} {e : Expr} {ta : TA} {p pos tpos : Pos} {elts : List Expr} {kk : Nat} (hg : Gl X "enumerate") (hm : X.mg "enumerate" = none) (ha : PA X [e] ta) (hs : starEach [e] X.env = [(false, eval e X.env)] := by rfl) : PI X (.Tuple elts kk tpos) (.Call (.Name "enumerate" p) [e] [] pos) (iEnumT X.K ta) := by
  refine ⟨fun pins s σ H R I h => Call_ (ld_blt I hg hm boot_enumerate (PyProof.Rows.callWith_type1 (thn (ha.run pos pins s σ H _ I h) fun us s1 ⟨vs, H1, I1, r1, q1⟩ => ?_) hs rfl))⟩
  obtain ⟨a, xs, rfl, hq, q⟩ := q1
  cases r1 with
  | cons r rr =>
    cases rr
    cases r
    obtain ⟨its, rv, p2, hz⟩ := I1.tuple hq
    have pT : s1.heap.IsTuple a its.toArray := p2
    have hal : a < s1.heap.objs.size := by obtain ⟨_, z, _⟩ := pT; exact Heap.lt_size z
    refine call_enumT pT fun h' he hit hsz hk => wpAny_pyIter_enum he ?_
    have I2 : Inv X pins σ H1 { s1 with heap := h' } := I1.kept (t' := s1.toks) hk
    refine ⟨s1.heap.objs.size + 1, [s1.heap.objs.size + 1, s1.heap.objs.size], _, _, H1, rfl, I2, turn_enumT a (s1.heap.objs.size + 1) s1.heap.objs.size (Nat.ne_of_lt hal) (Nat.ne_of_lt (Nat.lt_succ_of_lt hal)), ⟨⟨.none, he⟩, hit, Nat.succ_ne_self _⟩, fun b hb => ?_, q⟩
    have hle : s1.heap.objs.size ≤ b := by
      rcases (by simpa using hb : b = s1.heap.objs.size + 1 ∨ b = s1.heap.objs.size) with z | z
      · rw [z]; exact Nat.le_succ _
      · rw [z]; exact Nat.le_refl _
    exact I1.fpOk hle (I1.hok.fresh hle)
end L2
namespace DL
open PySem PySem.Spec PyProof.Rows L2
def iEnumTD (fs : List FE) : FI := fun ds M R E => args fs ds M (fun xs M1 => match xs with
  | [.tup ys] => R (pairs ys) okAny M1
  | _ => False) E
section
variable {X : Cx} {W : WX} {K : PySem.W.Frag} {mg : Str → Option Value} {pos p : Pos} {Hf H Hf1 H1 : Hp} {io io1 : List Addr} {M : Sto} {tg e : Expr} {ta : TA} {fs : List FE}
theorem wk_enumT {Hf0 : Hp} {io0 : List Addr} {a : Addr} {xs : List D} {vs0 : List V} (h0 : SqT K Hf0 a vs0) (r0 : RpL K io0 Hf0 xs vs0) : Walks K Hf0 io0 (IteT K a) (pairs xs) okAny :=
  ⟨fun Hf io H M e1 p1 se o => ⟨vs0, same_t (e1.trans se.sub) h0, by unfold pairs; rw [List.length_mapIdx, r0.length]⟩,
   fun Hf io H M i d e1 p1 se o hi => by
    obtain ⟨x, hx, rfl⟩ := pairs_get hi
    have h1 := same_t (e1.trans se.sub) h0
    obtain ⟨v, h3, h4⟩ := (RpL.mono p1 e1 _ _ r0).get hx
    refine ⟨⟨vs0, v, h1, h3⟩, fun x' H' y => ?_⟩
    obtain ⟨T, x2, rfl, nT, rfl, y⟩ := y
    have h5 := y vs0 h1
    rw [h3] at h5
    cases h5
    obtain ⟨se1, x1⟩ := se.froze (o := .tup [.int (i : Nat), v]) nT
    exact ⟨_, x1, se1, ⟨T, _, rfl, SqT.of upd_same, _, _, rfl, rfl, _, _, rfl, h4.ext x1, rfl⟩⟩⟩
theorem snd_enumT (s : SndA K mg W ta fs) : SndI K mg W (iEnumT K ta) (iEnumTD fs) :=
  ⟨fun ds M R E h σ Hf io H Rr se rs q hx => s.run ds M _ E h σ Hf io H _ se rs (fun Hf1 io1 H1 M1 vs xs x1 se1 rv hl h1 => by
    match xs, h1 with
    | [.tup ys], h1 =>
      obtain ⟨v, r, rfl, rx, rn⟩ := rv
      cases (show r = [] from rn)
      obtain ⟨a, us, rfl, h2, h3⟩ := rx
      exact ⟨a, us, rfl, same_t se1.sub h2, q _ _ _ _ _ _ _ x1 se1 (wk_enumT h2 h3) h1⟩) hx⟩
theorem pid_enumT {tpos : Pos} {elts : List Expr} {kk : Nat} (hm : X.mg "enumerate" = none) (ha : PAd X K mg W [e] ta fs) (hg : Gl X "enumerate" := by rfl) (hs : starEach [e] X.env = [(false, eval e X.env)] := by rfl) :
    PId X K mg W (.Tuple elts kk tpos) (.Call (.Name "enumerate" p) [e] [] pos) (iEnumT K ta) (iEnumTD fs) := by obtain ⟨hK, hM⟩ : X.K = K ∧ X.mg = mg := ⟨ha.hK, ha.hM⟩; subst hK hM; exact ⟨rfl, rfl, pi_enumT hg hm ha.p hs, snd_enumT ha.s⟩
end
end DL
namespace DL
open PySem PySem.Spec PyProof.Rows L2

/-- k01; slots: 0 net, 1 who -/
def f_need_worker : FS :=
  (sIf (ftNot (tst (eChain gLe gLt (eC (.int 0)) (eVar 1) (eB gLen [(eBin gIx (eVar 0) (eC (.int 1)))])))) (sRaise "NoWorker") sNext)

/-- k01; slots: 0 net, 1 state, 2 who -/
def f_is_through (g_need_worker : GS) : FS :=
  (sSeq (sDrop (eCall g_need_worker [(eVar 0), (eVar 2)]))
    (sRet (eBin gGe (eBin gIx (eBin gIx (eVar 1) (eC (.int 0))) (eVar 2)) (eB gLen [(eBin gIx (eBin gIx (eVar 0) (eC (.int 1))) (eVar 2))]))))

/-- k01; slots: 0 net, 1 state, 2 who, 3 order, 4 pipe, 5 held -/
def f_wait_of (g_is_through : GS) : FS :=
  (sSeq (sIf (tst (eCall g_is_through [(eVar 0), (eVar 1), (eVar 2)])) (sRet (eC .non)) sNext)
    (sSeq (sSet 3 (eBin gIx (eBin gIx (eBin gIx (eVar 0) (eC (.int 1))) (eVar 2)) (eBin gIx (eBin gIx (eVar 1) (eC (.int 0))) (eVar 2))))
    (sSeq (sIf (tst (eBin (gEqN false) (eBin gIx (eVar 3) (eC (.int 0))) (eC (.str "set")))) (sRet (eC .non)) sNext)
    (sSeq (sSet 4 (eBin gIx (eBin gIx (eVar 0) (eC (.int 0))) (eBin gIx (eVar 3) (eC (.int 1)))))
    (sSeq (sSet 5 (eB gLen [(eBin gIx (eBin gIx (eVar 1) (eC (.int 2))) (eBin gIx (eVar 3) (eC (.int 1))))]))
    (sSeq (sIf (ftAnd (tst (eBin (gEqN false) (eBin gIx (eVar 3) (eC (.int 0))) (eC (.str "put")))) (tst (eBin gGe (eVar 5) (eBin gIx (eVar 4) (eC (.int 2)))))) (sRet (eTup [(eBin gIx (eVar 3) (eC (.int 1))), (eBin gIx (eVar 4) (eC (.int 1)))])) sNext)
    (sSeq (sIf (ftAnd (tst (eBin (gEqN true) (eBin gIx (eVar 3) (eC (.int 0))) (eC (.str "put")))) (tst (eBin (gEqN false) (eVar 5) (eC (.int 0))))) (sRet (eTup [(eBin gIx (eVar 3) (eC (.int 1))), (eBin gIx (eVar 4) (eC (.int 0)))])) sNext)
    (sRet (eC .non)))))))))

/-- k01; slots: 0 row, 1 at, 2 value -/
def f_with_at : FS :=
  (sRet (eBin (gAdd false) (eBin (gAdd false) (eSlice false (eVar 0) oNo (oPart (eVar 1))) (eTup [(eVar 2)])) (eSlice false (eVar 0) (oPart (eBin (gAdd false) (eVar 1) (eC (.int 1)))) oNo)))

/-- k01; slots: 0 net, 1 state, 2 who, 3 order, 4 box, 5 held, 6 past, 7 came -/
def f_step (g_is_through g_wait_of g_with_at : GS) : FS :=
  (sSeq (sIf (tst (eCall g_is_through [(eVar 0), (eVar 1), (eVar 2)])) (sRaise "IsThrough") sNext)
    (sSeq (sIf (tst (eBin gNotN (eCall g_wait_of [(eVar 0), (eVar 1), (eVar 2)]) (eC .non))) (sRaise "HasToWait") sNext)
    (sSeq (sSet 3 (eBin gIx (eBin gIx (eBin gIx (eVar 0) (eC (.int 1))) (eVar 2)) (eBin gIx (eBin gIx (eVar 1) (eC (.int 0))) (eVar 2))))
    (sSeq (sSet 4 (eBin gIx (eBin gIx (eVar 1) (eC (.int 1))) (eVar 2)))
    (sSeq (sSet 5 (eBin gIx (eVar 1) (eC (.int 2))))
    (sSeq (sSet 6 (eBin gIx (eVar 1) (eC (.int 3))))
    (sSeq (sIf (tst (eBin (gEqN false) (eBin gIx (eVar 3) (eC (.int 0))) (eC (.str "set")))) (sSet 4 (eBin gIx (eVar 3) (eC (.int 1)))) (sIf (tst (eBin (gEqN false) (eBin gIx (eVar 3) (eC (.int 0))) (eC (.str "put")))) (sSet 5 (eCall g_with_at [(eVar 5), (eBin gIx (eVar 3) (eC (.int 1))), (eBin (gAdd false) (eBin gIx (eVar 5) (eBin gIx (eVar 3) (eC (.int 1)))) (eTup [(eVar 4)]))])) (sSeq (sSet 7 (eBin gIx (eBin gIx (eVar 5) (eBin gIx (eVar 3) (eC (.int 1)))) (eC (.int 0))))
    (sSeq (sSet 5 (eCall g_with_at [(eVar 5), (eBin gIx (eVar 3) (eC (.int 1))), (eSlice false (eBin gIx (eVar 5) (eBin gIx (eVar 3) (eC (.int 1)))) (oPart (eC (.int 1))) oNo)]))
    (sSeq (sSet 6 (eCall g_with_at [(eVar 6), (eBin gIx (eVar 3) (eC (.int 1))), (eBin (gAdd false) (eBin gIx (eVar 6) (eBin gIx (eVar 3) (eC (.int 1)))) (eTup [(eVar 7)]))]))
    (sSet 4 (eIf (tst (eBin (gEqN false) (eBin gIx (eVar 3) (eC (.int 0))) (eC (.str "take")))) (eVar 7) (eBin (gAdd false) (eVar 4) (eVar 7)))))))))
    (sRet (eTup [(eCall g_with_at [(eBin gIx (eVar 1) (eC (.int 0))), (eVar 2), (eBin (gAdd false) (eBin gIx (eBin gIx (eVar 1) (eC (.int 0))) (eVar 2)) (eC (.int 1)))]), (eCall g_with_at [(eBin gIx (eVar 1) (eC (.int 1))), (eVar 2), (eVar 4)]), (eVar 5), (eVar 6)])))))))))

/-- k01; slots: 0 found -/
def f_whole : FS :=
  (sRet (eAnd (eIsi "int" (eVar 0)) (eNot (eIsi "bool" (eVar 0)))))

/-- k01; slots: 0 script, 1 k -/
def f_cell_at : FS :=
  (sSeq (sIf (tst (eBin gLt (eVar 1) (eB gLen [(eVar 0)]))) (sRet (eBin gIx (eVar 0) (eVar 1))) sNext)
    (sRet (eC (.int 0))))

/-- k01; slots: 0 cell -/
def f_number_by : FS :=
  (sSeq (sIf (tst (eBin (gEqN false) (eBin gMod (eVar 0) (eC (.int 5))) (eC (.int 4)))) (sRet (eBin (gMul false) (eBin gMod (eBin (gMul false) (eVar 0) (eBin (gAdd false) (eBin gPow (eC (.int 10)) (eC (.int 59))) (eC (.int 7)))) (eBin gPow (eC (.int 10)) (eC (.int 60)))) (eBin gSubI (eC (.int 1)) (eBin (gMul false) (eC (.int 2)) (eBin gMod (eBin gFdiv (eVar 0) (eC (.int 5))) (eC (.int 2))))))) sNext)
    (sSeq (sIf (tst (eBin (gEqN false) (eBin gMod (eVar 0) (eC (.int 5))) (eC (.int 3)))) (sRet (eBin gMod (eBin gFdiv (eVar 0) (eC (.int 5))) (eC (.int 7)))) sNext)
    (sRet (eBin gSubI (eBin gMod (eBin (gMul false) (eVar 0) (eC (.int 48271))) (eC (.int 2003))) (eC (.int 1001))))))

/-- k01; slots: 0 cell, 1 many, 2 rest, 3 room -/
def f_pipe_by : FS :=
  (sSeq (sSet 2 (eBin gFdiv (eVar 0) (eVar 1)))
    (sSeq (sSet 3 (eBin (gAdd false) (eC (.int 1)) (eBin gMod (eBin gFdiv (eVar 2) (eVar 1)) (eC (.int 3)))))
    (sSeq (sIf (tst (eBin (gEqN false) (eBin gMod (eBin gFdiv (eBin gFdiv (eVar 2) (eVar 1)) (eC (.int 3))) (eC (.int 5))) (eC (.int 4)))) (sSet 3 (eBin (gAdd false) (eC (.int 1)) (eBin gMod (eBin gFdiv (eBin gFdiv (eVar 2) (eVar 1)) (eC (.int 15))) (eC (.int 1000))))) sNext)
    (sRet (eTup [(eBin gMod (eVar 0) (eVar 1)), (eBin gMod (eVar 2) (eVar 1)), (eVar 3)])))))

/-- k01; slots: 0 row, 1 order, 2 rest -/
def f_put_in : FS :=
  (sIf (tst (eBin (gEqN false) (eBin gMod (eVar 2) (eC (.int 3))) (eC (.int 0)))) (sDrop (eM mInsert (eVar 0) [(eBin gMod (eBin gFdiv (eVar 2) (eC (.int 3))) (eBin (gAdd false) (eB gLen [(eVar 0)]) (eC (.int 1)))), (eVar 1)])) (sDrop (eM mAppend (eVar 0) [(eVar 1)])))

/-- k01; slots: 0 cells, 1 pipes, 2 many, 3 even, 4 k, 5 rows, 6 cell, 7 way, 8 rest, 9 at, 10 maker, 11 taker, 12 turn -/
def f_rows_by (g_number_by g_put_in : GS) : FS :=
  (sSeq (sSet 5 (eLc true (iRng1D [(eVar 2)]) [4] (putNm 4) ftYes (eLst true [])))
    (sSeq (sFor (iSeqD (eVar 0)) (gNm 6) (sSeq (sSet 7 (eBin gMod (eVar 6) (eC (.int 7))))
    (sSeq (sSet 8 (eBin gFdiv (eVar 6) (eC (.int 7))))
    (sSeq (sIf (ftOr (tst (eBin (gEqN false) (eVar 7) (eC (.int 6)))) (tst (eBin (gEqN false) (eB gLen [(eVar 1)]) (eC (.int 0))))) (sSeq (sIf (tst (eBin gLt (eB gLen [(eBin gIx (eVar 5) (eBin gMod (eVar 8) (eVar 2)))]) (eC (.int 199)))) (sDrop (eM mAppend (eBin gIx (eVar 5) (eBin gMod (eVar 8) (eVar 2))) [(eTup [(eC (.str "set")), (eCall g_number_by [(eBin gFdiv (eVar 8) (eVar 2))])])])) sNext)
    sCt) sNext)
    (sSeq (sSet 9 (eBin gMod (eVar 8) (eB gLen [(eVar 1)])))
    (sSeq (sSet 8 (eBin gFdiv (eVar 8) (eB gLen [(eVar 1)])))
    (sSeq (sSet 10 (eBin gIx (eVar 5) (eBin gIx (eBin gIx (eVar 1) (eVar 9)) (eC (.int 0)))))
    (sSeq (sSet 11 (eBin gIx (eVar 5) (eBin gIx (eBin gIx (eVar 1) (eVar 9)) (eC (.int 1)))))
    (sFor (iRng1D [(eIf (tst (eBin (gEqN false) (eVar 7) (eC (.int 5)))) (eBin (gAdd false) (eC (.int 1)) (eBin gMod (eBin gFdiv (eVar 8) (eC (.int 18))) (eC (.int 12)))) (eC (.int 1)))]) (gNm 12) (sSeq (sIf (ftAnd (tst (eBin gLt (eB gLen [(eVar 10)]) (eC (.int 199)))) (ftAnd (tst (eBin gLt (eB gLen [(eVar 11)]) (eC (.int 199)))) (ftOr (tst (eBin (gEqN true) (eVar 7) (eC (.int 4)))) (tst (eVar 3))))) (sDrop (eCall g_put_in [(eVar 10), (eTup [(eC (.str "put")), (eVar 9)]), (eBin gFdiv (eVar 8) (eC (.int 2)))])) sNext)
    (sIf (ftAnd (tst (eBin gLt (eB gLen [(eVar 10)]) (eC (.int 200)))) (ftAnd (tst (eBin gLt (eB gLen [(eVar 11)]) (eC (.int 199)))) (ftOr (tst (eBin (gEqN true) (eVar 7) (eC (.int 3)))) (tst (eVar 3))))) (sDrop (eCall g_put_in [(eVar 11), (eTup [(eBin gIx (eLst false [(eC (.str "take")), (eC (.str "add"))]) (eBin gMod (eVar 8) (eC (.int 2)))), (eVar 9)]), (eBin gFdiv (eVar 8) (eC (.int 6)))])) sNext)))))))))))
    (sRet (eVar 5))))

/-- k01; slots: 0 script, 1 begun_here, 2 stride, 3 head, 4 many, 5 amount, 6 k, 7 pipes, 8 cells -/
def f_net_by (g_cell_at g_pipe_by g_rows_by : GS) : FS :=
  (sSeq (sSet 3 (eCall g_cell_at [(eVar 0), (eC (.int 0))]))
    (sSeq (sSet 4 (eBin (gAdd false) (eC (.int 1)) (eBin gMod (eVar 3) (eC (.int 5)))))
    (sSeq (sIf (tst (eBin (gEqN false) (eBin gMod (eBin gFdiv (eVar 3) (eC (.int 15))) (eC (.int 9))) (eC (.int 8)))) (sSet 4 (eBin gSubI (eC (.int 20)) (eBin gMod (eBin gFdiv (eVar 3) (eC (.int 135))) (eC (.int 20))))) sNext)
    (sSeq (sSet 5 (eBin gMod (eCall g_cell_at [(eVar 0), (eC (.int 1))]) (eC (.int 7))))
    (sSeq (sIf (tst (eBin (gEqN false) (eBin gMod (eBin gFdiv (eCall g_cell_at [(eVar 0), (eC (.int 1))]) (eC (.int 7))) (eC (.int 9))) (eC (.int 8)))) (sSet 5 (eBin gSubI (eC (.int 60)) (eBin gMod (eBin gFdiv (eCall g_cell_at [(eVar 0), (eC (.int 1))]) (eC (.int 63))) (eC (.int 61))))) sNext)
    (sSeq (sSet 7 (eLc false (iRng1D [(eVar 5)]) [6] (putNm 6) ftYes (eCall g_pipe_by [(eBin (gAdd false) (eCall g_cell_at [(eVar 0), (eBin (gAdd false) (eC (.int 2)) (eBin gMod (eVar 6) (eC (.int 7))))]) (eBin (gMul false) (eC (.int 97)) (eBin gFdiv (eVar 6) (eC (.int 7))))), (eVar 4)])))
    (sSeq (sSet 8 (eLc false (iRng3D [(eVar 1), (eB gLen [(eVar 0)]), (eVar 2)]) [6] (putNm 6) ftYes (eBin gIx (eVar 0) (eVar 6))))
    (sRet (eTup [(eVar 7), (eCall g_rows_by [(eVar 8), (eVar 7), (eVar 4), (eBin (gEqN true) (eBin gMod (eVar 3) (eC (.int 3))) (eC (.int 1)))])])))))))))

/-- k01; slots: 0 found, 1 due, 2 k -/
def f_numbers_are (g_whole : GS) : FS :=
  (sSeq (sIf (ftOr (ftNot (tst (eIsi "tuple" (eVar 0)))) (tst (eBin (gEqN true) (eB gLen [(eVar 0)]) (eB gLen [(eVar 1)])))) (sRet (eC (.bl false))) sNext)
    (sSeq (sFor (iRng1D [(eB gLen [(eVar 1)])]) (gNm 2) (sIf (ftOr (ftNot (tst (eCall g_whole [(eBin gIx (eVar 0) (eVar 2))]))) (tst (eBin (gEqN true) (eBin gIx (eVar 0) (eVar 2)) (eBin gIx (eVar 1) (eVar 2))))) (sRet (eC (.bl false))) sNext))
    (sRet (eC (.bl true)))))

/-- k01; slots: 0 found, 1 due, 2 k, 3 at -/
def f_state_is (g_numbers_are : GS) : FS :=
  (sSeq (sIf (ftOr (ftNot (tst (eIsi "tuple" (eVar 0)))) (tst (eBin (gEqN true) (eB gLen [(eVar 0)]) (eC (.int 4))))) (sRet (eC (.bl false))) sNext)
    (sSeq (sFor (iSeqD (eTup [(eC (.int 2)), (eC (.int 3))])) (gNm 2) (sSeq (sIf (ftOr (ftNot (tst (eIsi "tuple" (eBin gIx (eVar 0) (eVar 2))))) (tst (eBin (gEqN true) (eB gLen [(eBin gIx (eVar 0) (eVar 2))]) (eB gLen [(eBin gIx (eVar 1) (eVar 2))])))) (sRet (eC (.bl false))) sNext)
    (sFor (iRng1D [(eB gLen [(eBin gIx (eVar 1) (eVar 2))])]) (gNm 3) (sIf (ftNot (tst (eCall g_numbers_are [(eBin gIx (eBin gIx (eVar 0) (eVar 2)) (eVar 3)), (eBin gIx (eBin gIx (eVar 1) (eVar 2)) (eVar 3))]))) (sRet (eC (.bl false))) sNext))))
    (sRet (eAnd (eCall g_numbers_are [(eBin gIx (eVar 0) (eC (.int 0))), (eBin gIx (eVar 1) (eC (.int 0)))]) (eCall g_numbers_are [(eBin gIx (eVar 0) (eC (.int 1))), (eBin gIx (eVar 1) (eC (.int 1)))])))))

/-- k01; slots: 0 net, 1 lists, 2 who, 3 order, 4 pipe -/
def f_wait_by : FS :=
  (sSeq (sIf (tst (eBin gGe (eBin gIx (eBin gIx (eVar 1) (eC (.int 0))) (eVar 2)) (eB gLen [(eBin gIx (eBin gIx (eVar 0) (eC (.int 1))) (eVar 2))]))) (sRet (eC .non)) sNext)
    (sSeq (sSet 3 (eBin gIx (eBin gIx (eBin gIx (eVar 0) (eC (.int 1))) (eVar 2)) (eBin gIx (eBin gIx (eVar 1) (eC (.int 0))) (eVar 2))))
    (sSeq (sIf (tst (eBin (gEqN false) (eBin gIx (eVar 3) (eC (.int 0))) (eC (.str "set")))) (sRet (eC .non)) sNext)
    (sSeq (sSet 4 (eBin gIx (eBin gIx (eVar 0) (eC (.int 0))) (eBin gIx (eVar 3) (eC (.int 1)))))
    (sSeq (sIf (ftAnd (tst (eBin (gEqN false) (eBin gIx (eVar 3) (eC (.int 0))) (eC (.str "put")))) (tst (eBin gGe (eB gLen [(eBin gIx (eBin gIx (eVar 1) (eC (.int 2))) (eBin gIx (eVar 3) (eC (.int 1))))]) (eBin gIx (eVar 4) (eC (.int 2)))))) (sRet (eTup [(eBin gIx (eVar 3) (eC (.int 1))), (eBin gIx (eVar 4) (eC (.int 1)))])) sNext)
    (sSeq (sIf (ftAnd (tst (eBin (gEqN true) (eBin gIx (eVar 3) (eC (.int 0))) (eC (.str "put")))) (tst (eBin (gEqN false) (eB gLen [(eBin gIx (eBin gIx (eVar 1) (eC (.int 2))) (eBin gIx (eVar 3) (eC (.int 1))))]) (eC (.int 0))))) (sRet (eTup [(eBin gIx (eVar 3) (eC (.int 1))), (eBin gIx (eVar 4) (eC (.int 0)))])) sNext)
    (sRet (eC .non))))))))

/-- k01; slots: 0 net, 1 lists, 2 who -/
def f_can_by (g_wait_by : GS) : FS :=
  (sRet (eAnd (eBin gLt (eBin gIx (eBin gIx (eVar 1) (eC (.int 0))) (eVar 2)) (eB gLen [(eBin gIx (eBin gIx (eVar 0) (eC (.int 1))) (eVar 2))])) (eBin gIsN (eCall g_wait_by [(eVar 0), (eVar 1), (eVar 2)]) (eC .non))))

/-- k01; slots: 0 net, 1 lists, 2 who, 3 order, 4 came -/
def f_step_by : FS :=
  (sSeq (sSet 3 (eBin gIx (eBin gIx (eBin gIx (eVar 0) (eC (.int 1))) (eVar 2)) (eBin gIx (eBin gIx (eVar 1) (eC (.int 0))) (eVar 2))))
    (sSeq (sAsg (eBin (gAdd false) (eBin gIx (eBin gIx (eVar 1) (eC (.int 0))) (eVar 2)) (eC (.int 1))) (gSb (eBin gIx (eVar 1) (eC (.int 0))) (eVar 2)))
    (sIf (tst (eBin (gEqN false) (eBin gIx (eVar 3) (eC (.int 0))) (eC (.str "set")))) (sAsg (eBin gIx (eVar 3) (eC (.int 1))) (gSb (eBin gIx (eVar 1) (eC (.int 1))) (eVar 2))) (sIf (tst (eBin (gEqN false) (eBin gIx (eVar 3) (eC (.int 0))) (eC (.str "put")))) (sDrop (eM mAppend (eBin gIx (eBin gIx (eVar 1) (eC (.int 2))) (eBin gIx (eVar 3) (eC (.int 1)))) [(eBin gIx (eBin gIx (eVar 1) (eC (.int 1))) (eVar 2))])) (sSeq (sSet 4 (eM mPopAt (eBin gIx (eBin gIx (eVar 1) (eC (.int 2))) (eBin gIx (eVar 3) (eC (.int 1)))) [(eC (.int 0))]))
    (sSeq (sDrop (eM mAppend (eBin gIx (eBin gIx (eVar 1) (eC (.int 3))) (eBin gIx (eVar 3) (eC (.int 1)))) [(eVar 4)]))
    (sAsg (eIf (tst (eBin (gEqN false) (eBin gIx (eVar 3) (eC (.int 0))) (eC (.str "take")))) (eVar 4) (eBin (gAdd false) (eBin gIx (eBin gIx (eVar 1) (eC (.int 1))) (eVar 2)) (eVar 4))) (gSb (eBin gIx (eVar 1) (eC (.int 1))) (eVar 2)))))))))

/-- k01; slots: 0 net, 1 many, 2 amount, 3 k -/
def f_begun : FS :=
  (sSeq (sSet 1 (eB gLen [(eBin gIx (eVar 0) (eC (.int 1)))]))
    (sSeq (sSet 2 (eB gLen [(eBin gIx (eVar 0) (eC (.int 0)))]))
    (sRet (eLst false [(eBin (gMul true) (eLst false [(eC (.int 0))]) (eVar 1)), (eBin (gMul true) (eLst false [(eC (.int 0))]) (eVar 1)), (eLc false (iRng1D [(eVar 2)]) [3] (putNm 3) ftYes (eLst true [])), (eLc false (iRng1D [(eVar 2)]) [3] (putNm 3) ftYes (eLst true []))]))))

/-- k01; slots: 0 net, 1 row -/
def f_copy_of : FS :=
  (sRet (eTup [(eB (gList false) [(eBin gIx (eVar 0) (eC (.int 0)))]), (eLc false (iSeqD (eBin gIx (eVar 0) (eC (.int 1)))) [1] (putNm 1) ftYes (eB (gList false) [(eVar 1)]))]))

/-- k01; slots: 0 cell, 1 room, 2 at, 3 size, 4 k -/
def f_held_by (g_number_by : GS) : FS :=
  (sSeq (sSet 3 (eBin gIx (eLst false [(eC (.int 0)), (eB gMin2 [(eVar 1), (eC (.int 40))]), (eB gMin2 [(eVar 1), (eBin gMod (eBin gFdiv (eVar 0) (eC (.int 3))) (eC (.int 4)))])]) (eBin gMod (eVar 0) (eC (.int 3)))))
    (sSeq (sIf (tst (eBin (gEqN false) (eBin gMod (eVar 0) (eC (.int 9))) (eC (.int 8)))) (sSet 3 (eVar 1)) sNext)
    (sRet (eLc true (iRng1D [(eVar 3)]) [4] (putNm 4) ftYes (eCall g_number_by [(eBin (gAdd false) (eBin (gAdd false) (eVar 0) (eBin (gMul false) (eC (.int 3)) (eVar 4))) (eVar 2))])))))

/-- k01; slots: 0 script, 1 net, 2 many, 3 mixed, 4 k, 5 places, 6 boxes, 7 pipe, 8 held, 9 past -/
def f_lists_by (g_cell_at g_number_by g_held_by : GS) : FS :=
  (sSeq (sSet 2 (eB gLen [(eBin gIx (eVar 1) (eC (.int 1)))]))
    (sSeq (sSet 3 (eBin (gAdd false) (eCall g_cell_at [(eVar 0), (eC (.int 2))]) (eBin (gMul false) (eCall g_cell_at [(eVar 0), (eC (.int 11))]) (eC (.int 31)))))
    (sSeq (sSet 5 (eLc true (iRng1D [(eVar 2)]) [4] (putNm 4) ftYes (eBin gMod (eBin gFdiv (eBin (gAdd false) (eVar 3) (eBin (gMul false) (eC (.int 5)) (eVar 4))) (eBin (gAdd false) (eC (.int 1)) (eBin gMod (eVar 4) (eC (.int 3))))) (eBin (gAdd false) (eB gLen [(eBin gIx (eBin gIx (eVar 1) (eC (.int 1))) (eVar 4))]) (eC (.int 1))))))
    (sSeq (sSet 6 (eLc true (iRng1D [(eVar 2)]) [4] (putNm 4) ftYes (eCall g_number_by [(eBin (gAdd false) (eCall g_cell_at [(eVar 0), (eC (.int 12))]) (eBin (gMul false) (eC (.int 7)) (eVar 4)))])))
    (sSeq (sSet 8 (eLc false (iEnumD [(eBin gIx (eVar 1) (eC (.int 0)))]) [4, 7] (putTp [4, 7]) ftYes (eCall g_held_by [(eBin (gAdd false) (eCall g_cell_at [(eVar 0), (eBin (gAdd false) (eC (.int 9)) (eBin gMod (eVar 4) (eC (.int 4))))]) (eBin gFdiv (eVar 4) (eC (.int 4)))), (eBin gIx (eVar 7) (eC (.int 2))), (eVar 4)])))
    (sSeq (sSet 9 (eLc false (iRng1D [(eB gLen [(eBin gIx (eVar 1) (eC (.int 0)))])]) [4] (putNm 4) ftYes (eLst true [(eCall g_number_by [(eBin (gAdd false) (eVar 3) (eVar 4))]), (eVar 4)])))
    (sRet (eLst false [(eVar 5), (eVar 6), (eVar 8), (eVar 9)]))))))))

/-- k01; slots: 0 lists, 1 row, 2 held, 3 past -/
def f_frozen : FS :=
  (sSeq (sSet 2 (eB gTuple [(eLc false (iSeqD (eBin gIx (eVar 0) (eC (.int 2)))) [1] (putNm 1) ftYes (eB gTuple [(eVar 1)]))]))
    (sSeq (sSet 3 (eB gTuple [(eLc false (iSeqD (eBin gIx (eVar 0) (eC (.int 3)))) [1] (putNm 1) ftYes (eB gTuple [(eVar 1)]))]))
    (sRet (eTup [(eB gTuple [(eBin gIx (eVar 0) (eC (.int 0)))]), (eB gTuple [(eBin gIx (eVar 0) (eC (.int 1)))]), (eVar 2), (eVar 3)]))))

/-- k01; slots: 0 cell, 1 many, 2 far -/
def f_stranger : FS :=
  (sSeq (sSet 2 (eBin gIx (eLst false [(eC (.int 1)), (eC (.int 2)), (eBin (gAdd false) (eC (.int 1)) (eBin gMod (eBin gFdiv (eVar 0) (eC (.int 8))) (eC (.int 70)))), (eBin (gAdd false) (eBin gPow (eC (.int 10)) (eC (.int 40))) (eBin gMod (eBin gFdiv (eVar 0) (eC (.int 8))) (eC (.int 1000))))]) (eBin gMod (eVar 0) (eC (.int 4)))))
    (sSeq (sIf (tst (eBin (gEqN false) (eBin gMod (eBin gFdiv (eVar 0) (eC (.int 4))) (eC (.int 2))) (eC (.int 0)))) (sRet (eBin gSubI (eC (.int 0)) (eVar 2))) sNext)
    (sRet (eBin (gAdd false) (eBin gSubI (eVar 1) (eC (.int 1))) (eVar 2)))))

/-- k01; slots: 0 net, 1 lists, 2 who -/
def f_kind_due (g_wait_by : GS) : FS :=
  (sSeq (sIf (ftNot (tst (eChain gLe gLt (eC (.int 0)) (eVar 2) (eB gLen [(eBin gIx (eVar 0) (eC (.int 1)))])))) (sRet (eC (.str "worker"))) sNext)
    (sSeq (sIf (tst (eBin gGe (eBin gIx (eBin gIx (eVar 1) (eC (.int 0))) (eVar 2)) (eB gLen [(eBin gIx (eBin gIx (eVar 0) (eC (.int 1))) (eVar 2))]))) (sRet (eC (.str "through"))) sNext)
    (sSeq (sIf (tst (eBin gNotN (eCall g_wait_by [(eVar 0), (eVar 1), (eVar 2)]) (eC .non))) (sRet (eC (.str "wait"))) sNext)
    (sRet (eC (.str ""))))))

/-- k02; slots: 0 net, 1 row, 2 none, 3 pipe, 4 empty -/
def f_begin : FS :=
  (sSeq (sSet 2 (eB gTuple [(eLc false (iSeqD (eBin gIx (eVar 0) (eC (.int 1)))) [1] (putNm 1) ftYes (eC (.int 0)))]))
    (sSeq (sSet 4 (eB gTuple [(eLc false (iSeqD (eBin gIx (eVar 0) (eC (.int 0)))) [3] (putNm 3) ftYes (eTup []))]))
    (sRet (eTup [(eVar 2), (eVar 2), (eVar 4), (eVar 4)]))))

/-- k02; slots: 0 net, 1 state, 2 who -/
def f_can_step (g_is_through g_wait_of : GS) : FS :=
  (sRet (eAnd (eNot (eCall g_is_through [(eVar 0), (eVar 1), (eVar 2)])) (eBin gIsN (eCall g_wait_of [(eVar 0), (eVar 1), (eVar 2)]) (eC .non))))

/-- k02; slots: 0 net, 1 many, 2 amount, 3 k -/
def f_begun_k02 : FS :=
  (sSeq (sSet 1 (eB gLen [(eBin gIx (eVar 0) (eC (.int 1)))]))
    (sSeq (sSet 2 (eB gLen [(eBin gIx (eVar 0) (eC (.int 0)))]))
    (sRet (eLst false [(eBin (gMul false) (eLst false [(eC (.int 0))]) (eVar 1)), (eBin (gMul false) (eLst false [(eC (.int 0))]) (eVar 1)), (eLc false (iRng1D [(eVar 2)]) [3] (putNm 3) ftYes (eLst false [])), (eLc false (iRng1D [(eVar 2)]) [3] (putNm 3) ftYes (eLst false []))]))))

/-- k02; slots: 0 cell, 1 room, 2 at, 3 size, 4 k -/
def f_held_by_k02 (g_number_by : GS) : FS :=
  (sSeq (sSet 3 (eBin gIx (eLst false [(eC (.int 0)), (eB gMin2 [(eVar 1), (eC (.int 40))]), (eB gMin2 [(eVar 1), (eBin gMod (eBin gFdiv (eVar 0) (eC (.int 3))) (eC (.int 4)))])]) (eBin gMod (eVar 0) (eC (.int 3)))))
    (sSeq (sIf (tst (eBin (gEqN false) (eBin gMod (eVar 0) (eC (.int 9))) (eC (.int 8)))) (sSet 3 (eVar 1)) sNext)
    (sRet (eLc false (iRng1D [(eVar 3)]) [4] (putNm 4) ftYes (eCall g_number_by [(eBin (gAdd false) (eBin (gAdd false) (eVar 0) (eBin (gMul false) (eC (.int 3)) (eVar 4))) (eVar 2))])))))

/-- k02; slots: 0 script, 1 net, 2 many, 3 mixed, 4 k, 5 places, 6 boxes, 7 pipe, 8 held -/
def f_lists_by_k02 (g_cell_at g_number_by g_begun g_held_by : GS) : FS :=
  (sSeq (sSet 2 (eB gLen [(eBin gIx (eVar 1) (eC (.int 1)))]))
    (sSeq (sSet 3 (eBin (gAdd false) (eCall g_cell_at [(eVar 0), (eC (.int 2))]) (eBin (gMul false) (eCall g_cell_at [(eVar 0), (eC (.int 11))]) (eC (.int 31)))))
    (sSeq (sIf (tst (eBin (gEqN false) (eBin gMod (eVar 3) (eC (.int 3))) (eC (.int 0)))) (sRet (eCall g_begun [(eVar 1)])) sNext)
    (sSeq (sSet 5 (eLc false (iRng1D [(eVar 2)]) [4] (putNm 4) ftYes (eBin gMod (eBin gFdiv (eBin (gAdd false) (eVar 3) (eBin (gMul false) (eC (.int 5)) (eVar 4))) (eBin (gAdd false) (eC (.int 1)) (eBin gMod (eVar 4) (eC (.int 3))))) (eBin (gAdd false) (eB gLen [(eBin gIx (eBin gIx (eVar 1) (eC (.int 1))) (eVar 4))]) (eC (.int 1))))))
    (sSeq (sSet 6 (eLc false (iRng1D [(eVar 2)]) [4] (putNm 4) ftYes (eCall g_number_by [(eBin (gAdd false) (eCall g_cell_at [(eVar 0), (eC (.int 12))]) (eBin (gMul false) (eC (.int 7)) (eVar 4)))])))
    (sSeq (sSet 8 (eLc false (iEnumD [(eBin gIx (eVar 1) (eC (.int 0)))]) [4, 7] (putTp [4, 7]) ftYes (eCall g_held_by [(eBin (gAdd false) (eCall g_cell_at [(eVar 0), (eBin (gAdd false) (eC (.int 9)) (eBin gMod (eVar 4) (eC (.int 4))))]) (eBin gFdiv (eVar 4) (eC (.int 4)))), (eBin gIx (eVar 7) (eC (.int 2))), (eVar 4)])))
    (sRet (eLst false [(eVar 5), (eVar 6), (eVar 8), (eLc false (iSeqD (eBin gIx (eVar 1) (eC (.int 0)))) [7] (putNm 7) ftYes (eLst false []))]))))))))

/-- k02; slots: 0 net, 1 lists, 2 state, 3 who, 4 through, 5 can, 6 due, 7 found -/
def f_told_of (g_is_through g_wait_of g_can_step g_numbers_are g_wait_by g_can_by : GS) : FS :=
  (sSeq (sSet 4 (eCall g_is_through [(eVar 0), (eVar 2), (eVar 3)]))
    (sSeq (sSet 5 (eCall g_can_step [(eVar 0), (eVar 2), (eVar 3)]))
    (sSeq (sIf (ftOr (ftNot (tst (eIsi "bool" (eVar 4)))) (ftNot (tst (eIsi "bool" (eVar 5))))) (sRet (eC (.bl false))) sNext)
    (sSeq (sSet 6 (eCall g_wait_by [(eVar 0), (eVar 1), (eVar 3)]))
    (sSeq (sSet 7 (eCall g_wait_of [(eVar 0), (eVar 2), (eVar 3)]))
    (sSeq (sIf (ftOr (tst (eBin (gEqN true) (eVar 4) (eBin gGe (eBin gIx (eBin gIx (eVar 1) (eC (.int 0))) (eVar 3)) (eB gLen [(eBin gIx (eBin gIx (eVar 0) (eC (.int 1))) (eVar 3))])))) (tst (eBin (gEqN true) (eVar 5) (eCall g_can_by [(eVar 0), (eVar 1), (eVar 3)])))) (sRet (eC (.bl false))) sNext)
    (sSeq (sIf (tst (eBin gIsN (eVar 6) (eC .non))) (sRet (eBin gIsN (eVar 7) (eC .non))) sNext)
    (sRet (eCall g_numbers_are [(eVar 7), (eVar 6)])))))))))

/-- k02; slots: 0 script, 1 net, 2 lists, 3 state, 4 handed, 5 who -/
def f_law_k02 (g_begin g_cell_at g_net_by g_state_is g_begun g_copy_of g_lists_by g_frozen g_stranger g_refused g_told_of : GS) : FS :=
  (sSeq (sSet 1 (eCall g_net_by [(eVar 0), (eC (.int 10)), (eC (.int 3))]))
    (sSeq (sSet 2 (eCall g_lists_by [(eVar 0), (eVar 1)]))
    (sSeq (sSet 3 (eCall g_frozen [(eVar 2)]))
    (sSeq (sSet 4 (eCall g_copy_of [(eVar 1)]))
    (sSeq (sFor (iRng1D [(eB gLen [(eBin gIx (eVar 1) (eC (.int 1)))])]) (gNm 5) (sIf (ftNot (tst (eCall g_told_of [(eVar 4), (eVar 2), (eVar 3), (eVar 5)]))) (sRet (eC (.bl false))) sNext))
    (sSeq (sFor (iSeqD (eLst false [(eUn gNeg (eC (.int 1))), (eB gLen [(eBin gIx (eVar 1) (eC (.int 1)))]), (eCall g_stranger [(eCall g_cell_at [(eVar 0), (eC (.int 9))]), (eB gLen [(eBin gIx (eVar 1) (eC (.int 1)))])])])) (gNm 5) (sIf (ftNot (tst (eCall g_refused [(eVar 4), (eVar 3), (eVar 5)]))) (sRet (eC (.bl false))) sNext))
    (sRet (eAnd (eCall g_state_is [(eCall g_begin [(eVar 4)]), (eCall g_frozen [(eCall g_begun [(eVar 1)])])]) (eBin (gEqN false) (eVar 4) (eVar 1))))))))))

/-- k03; slots: 0 rows, 1 words, 2 pipe, 3 found, 4 row, 5 order -/
def f_told_of_k03 : FS :=
  (sSeq (sSet 3 (eC (.int 0)))
    (sSeq (sFor (iSeqD (eVar 0)) (gNm 4) (sSet 3 (eBin (gAdd false) (eVar 3) (eB gLen [(eLc false (iSeqD (eVar 4)) [5] (putNm 5) (ftAnd (tst (eBin (gIn false) (eBin gIx (eVar 5) (eC (.int 0))) (eVar 1))) (tst (eBin (gEqN false) (eBin gIx (eVar 5) (eC (.int 1))) (eVar 2)))) (eVar 5))]))))
    (sRet (eVar 3))))

/-- k03; slots: 0 net, 1 at -/
def f_balanced (g_told_of : GS) : FS :=
  (sSeq (sFor (iRng1D [(eB gLen [(eBin gIx (eVar 0) (eC (.int 0)))])]) (gNm 1) (sIf (tst (eBin (gEqN true) (eCall g_told_of [(eBin gIx (eVar 0) (eC (.int 1))), (eTup [(eC (.str "put"))]), (eVar 1)]) (eCall g_told_of [(eBin gIx (eVar 0) (eC (.int 1))), (eTup [(eC (.str "take")), (eC (.str "add"))]), (eVar 1)]))) (sRet (eC (.bl false))) sNext))
    (sRet (eC (.bl true))))

/-- k03; slots: 0 net, 1 more, 2 pipe, 3 pipes, 4 row -/
def f_widened : FS :=
  (sSeq (sSet 3 (eLc false (iSeqD (eBin gIx (eVar 0) (eC (.int 0)))) [2] (putNm 2) ftYes (eTup [(eBin gIx (eVar 2) (eC (.int 0))), (eBin gIx (eVar 2) (eC (.int 1))), (eB gMin2 [(eC (.int 1000)), (eBin (gAdd false) (eBin gIx (eVar 2) (eC (.int 2))) (eVar 1))])])))
    (sRet (eTup [(eVar 3), (eLc false (iSeqD (eBin gIx (eVar 0) (eC (.int 1)))) [4] (putNm 4) ftYes (eB (gList false) [(eVar 4)]))])))

/-- k03; slots: 0 net, 1 cell, 2 at, 3 word, 4 who, 5 row -/
def f_with_one_more : FS :=
  (sSeq (sIf (ftOr (tst (eBin (gEqN false) (eB gLen [(eBin gIx (eVar 0) (eC (.int 0)))]) (eC (.int 0)))) (tst (eBin (gEqN false) (eBin gMod (eVar 1) (eC (.int 2))) (eC (.int 0))))) sRetN sNext)
    (sSeq (sSet 2 (eBin gMod (eBin gFdiv (eVar 1) (eC (.int 2))) (eB gLen [(eBin gIx (eVar 0) (eC (.int 0)))])))
    (sSeq (sSet 3 (eBin gIx (eLst false [(eC (.str "put")), (eC (.str "take")), (eC (.str "add"))]) (eBin gMod (eBin gFdiv (eBin gFdiv (eVar 1) (eC (.int 2))) (eB gLen [(eBin gIx (eVar 0) (eC (.int 0)))])) (eC (.int 3)))))
    (sSeq (sSet 4 (eIf (tst (eBin (gEqN false) (eVar 3) (eC (.str "put")))) (eBin gIx (eBin gIx (eBin gIx (eVar 0) (eC (.int 0))) (eVar 2)) (eC (.int 0))) (eBin gIx (eBin gIx (eBin gIx (eVar 0) (eC (.int 0))) (eVar 2)) (eC (.int 1)))))
    (sSeq (sSet 5 (eBin gIx (eBin gIx (eVar 0) (eC (.int 1))) (eVar 4)))
    (sIf (tst (eBin gLt (eB gLen [(eVar 5)]) (eC (.int 200)))) (sDrop (eM mInsert (eVar 5) [(eBin gMod (eBin gFdiv (eVar 1) (eC (.int 7))) (eBin (gAdd false) (eB gLen [(eVar 5)]) (eC (.int 1)))), (eTup [(eVar 3), (eVar 2)])])) sNext))))))

/-- k03; slots: 0 net, 1 pipe, 2 weights, 3 row, 4 order -/
def f_even : FS :=
  (sSeq (sSet 2 (eLc true (iSeqD (eBin gIx (eVar 0) (eC (.int 0)))) [1] (putNm 1) ftYes (eC (.int 0))))
    (sSeq (sFor (iSeqD (eBin gIx (eVar 0) (eC (.int 1)))) (gNm 3) (sFor (iSeqD (eVar 3)) (gNm 4) (sIf (tst (eBin (gEqN false) (eBin gIx (eVar 4) (eC (.int 0))) (eC (.str "put")))) (sAsg (eBin (gAdd false) (eBin gIx (eVar 2) (eBin gIx (eVar 4) (eC (.int 1)))) (eC (.int 1))) (gSb (eVar 2) (eBin gIx (eVar 4) (eC (.int 1))))) (sIf (tst (eBin (gEqN true) (eBin gIx (eVar 4) (eC (.int 0))) (eC (.str "set")))) (sAsg (eBin gSubI (eBin gIx (eVar 2) (eBin gIx (eVar 4) (eC (.int 1)))) (eC (.int 1))) (gSb (eVar 2) (eBin gIx (eVar 4) (eC (.int 1))))) sNext))))
    (sRet (eBin (gEqN false) (eVar 2) (eLc false (iSeqD (eBin gIx (eVar 0) (eC (.int 0)))) [1] (putNm 1) ftYes (eC (.int 0)))))))

/-- k03; slots: 0 found, 1 net, 2 more, 3 row, 4 k, 5 pipe, 6 told -/
def f_wide (g_whole : GS) : FS :=
  (sSeq (sIf (ftOr (ftNot (tst (eIsi "tuple" (eVar 0)))) (ftOr (tst (eBin (gEqN true) (eB gLen [(eVar 0)]) (eC (.int 2)))) (ftNot (tst (eIsi "list" (eBin gIx (eVar 0) (eC (.int 0)))))))) (sRet (eC (.bl false))) sNext)
    (sSeq (sIf (ftOr (ftNot (tst (eIsi "list" (eBin gIx (eVar 0) (eC (.int 1)))))) (ftOr (tst (eBin (gEqN true) (eBin gIx (eVar 0) (eC (.int 1))) (eBin gIx (eVar 1) (eC (.int 1))))) (tst (eBin (gEqN true) (eB gLen [(eBin gIx (eVar 0) (eC (.int 0)))]) (eB gLen [(eBin gIx (eVar 1) (eC (.int 0)))]))))) (sRet (eC (.bl false))) sNext)
    (sSeq (sFor (iSeqD (eBin gIx (eVar 0) (eC (.int 1)))) (gNm 3) (sIf (ftNot (tst (eIsi "list" (eVar 3)))) (sRet (eC (.bl false))) sNext))
    (sSeq (sFor (iEnumD [(eBin gIx (eVar 1) (eC (.int 0)))]) (gTp [4, 5]) (sSeq (sSet 6 (eBin gIx (eBin gIx (eVar 0) (eC (.int 0))) (eVar 4)))
    (sSeq (sIf (ftOr (ftNot (tst (eIsi "tuple" (eVar 6)))) (ftOr (tst (eBin (gEqN true) (eB gLen [(eVar 6)]) (eC (.int 3)))) (ftNot (tst (eCall g_whole [(eBin gIx (eVar 6) (eC (.int 2)))]))))) (sRet (eC (.bl false))) sNext)
    (sIf (ftOr (tst (eBin (gEqN true) (eBin gIx (eVar 6) (eC (.int 0))) (eBin gIx (eVar 5) (eC (.int 0))))) (ftOr (tst (eBin (gEqN true) (eBin gIx (eVar 6) (eC (.int 1))) (eBin gIx (eVar 5) (eC (.int 1))))) (tst (eBin (gEqN true) (eBin gIx (eVar 6) (eC (.int 2))) (eB gMin2 [(eC (.int 1000)), (eBin (gAdd false) (eBin gIx (eVar 5) (eC (.int 2))) (eVar 2))]))))) (sRet (eC (.bl false))) sNext))))
    (sRet (eC (.bl true)))))))

/-- k03; slots: 0 script, 1 net, 2 more, 3 row, 4 handed, 5 found -/
def f_law_k03 (g_balanced g_widened g_cell_at g_net_by g_with_one_more g_even g_wide : GS) : FS :=
  (sSeq (sSet 1 (eCall g_net_by [(eVar 0), (eC (.int 10)), (eC (.int 3))]))
    (sSeq (sDrop (eCall g_with_one_more [(eVar 1), (eCall g_cell_at [(eVar 0), (eC (.int 9))])]))
    (sSeq (sSet 2 (eBin gMod (eCall g_cell_at [(eVar 0), (eC (.int 11))]) (eC (.int 4))))
    (sSeq (sIf (tst (eBin (gEqN false) (eBin gMod (eBin gFdiv (eCall g_cell_at [(eVar 0), (eC (.int 11))]) (eC (.int 4))) (eC (.int 3))) (eC (.int 2)))) (sSet 2 (eBin gMod (eBin gFdiv (eCall g_cell_at [(eVar 0), (eC (.int 11))]) (eC (.int 12))) (eC (.int 1201)))) sNext)
    (sSeq (sSet 4 (eTup [(eB (gList false) [(eBin gIx (eVar 1) (eC (.int 0)))]), (eLc false (iSeqD (eBin gIx (eVar 1) (eC (.int 1)))) [3] (putNm 3) ftYes (eB (gList false) [(eVar 3)]))]))
    (sSeq (sSet 5 (eCall g_balanced [(eVar 4)]))
    (sSeq (sIf (ftOr (ftNot (tst (eIsi "bool" (eVar 5)))) (tst (eBin (gEqN true) (eVar 5) (eCall g_even [(eVar 1)])))) (sRet (eC (.bl false))) sNext)
    (sRet (eAnd (eCall g_wide [(eCall g_widened [(eVar 4), (eVar 2)]), (eVar 1), (eVar 2)]) (eBin (gEqN false) (eVar 4) (eVar 1)))))))))))

/-- k04; slots: 0 pipe, 1 many -/
def f_good_pipe : FS :=
  (sRet (eAnd (eChain gLe gLt (eC (.int 0)) (eBin gIx (eVar 0) (eC (.int 0))) (eVar 1)) (eAnd (eChain gLe gLt (eC (.int 0)) (eBin gIx (eVar 0) (eC (.int 1))) (eVar 1)) (eChain gLe gLe (eC (.int 1)) (eBin gIx (eVar 0) (eC (.int 2))) (eC (.int 1000))))))

/-- k04; slots: 0 order, 1 who, 2 pipes -/
def f_good_order : FS :=
  (sSeq (sIf (tst (eBin (gEqN false) (eBin gIx (eVar 0) (eC (.int 0))) (eC (.str "set")))) (sRet (eC (.bl true))) sNext)
    (sSeq (sIf (ftOr (tst (eBin (gIn true) (eBin gIx (eVar 0) (eC (.int 0))) (eTup [(eC (.str "put")), (eC (.str "take")), (eC (.str "add"))]))) (ftNot (tst (eChain gLe gLt (eC (.int 0)) (eBin gIx (eVar 0) (eC (.int 1))) (eB gLen [(eVar 2)]))))) (sRet (eC (.bl false))) sNext)
    (sSeq (sIf (tst (eBin (gEqN false) (eBin gIx (eVar 0) (eC (.int 0))) (eC (.str "put")))) (sRet (eBin (gEqN false) (eBin gIx (eBin gIx (eVar 2) (eBin gIx (eVar 0) (eC (.int 1)))) (eC (.int 0))) (eVar 1))) sNext)
    (sRet (eBin (gEqN false) (eBin gIx (eBin gIx (eVar 2) (eBin gIx (eVar 0) (eC (.int 1)))) (eC (.int 1))) (eVar 1))))))

/-- k04; slots: 0 net, 1 pipe, 2 who, 3 row, 4 order -/
def f_checked (g_good_pipe g_good_order : GS) : FS :=
  (sSeq (sFor (iSeqD (eBin gIx (eVar 0) (eC (.int 0)))) (gNm 1) (sIf (ftNot (tst (eCall g_good_pipe [(eVar 1), (eB gLen [(eBin gIx (eVar 0) (eC (.int 1)))])]))) (sRaise "NoPipe") sNext))
    (sSeq (sFor (iEnumD [(eBin gIx (eVar 0) (eC (.int 1)))]) (gTp [2, 3]) (sFor (iSeqD (eVar 3)) (gNm 4) (sIf (ftNot (tst (eCall g_good_order [(eVar 4), (eVar 2), (eBin gIx (eVar 0) (eC (.int 0)))]))) (sRaise "NoOrder") sNext)))
    (sRet (eTup [(eB (gList true) [(eBin gIx (eVar 0) (eC (.int 0)))]), (eLc true (iSeqD (eBin gIx (eVar 0) (eC (.int 1)))) [3] (putNm 3) ftYes (eB (gList true) [(eVar 3)]))]))))

/-- k04; slots: 0 script, 1 begun, 2 stride, 3 head, 4 many, 5 amount, 6 k, 7 pipes, 8 cells -/
def f_net_by_k04 (g_cell_at g_pipe_by g_rows_by : GS) : FS :=
  (sSeq (sSet 3 (eCall g_cell_at [(eVar 0), (eC (.int 0))]))
    (sSeq (sSet 4 (eBin (gAdd false) (eC (.int 1)) (eBin gMod (eVar 3) (eC (.int 5)))))
    (sSeq (sIf (tst (eBin (gEqN false) (eBin gMod (eBin gFdiv (eVar 3) (eC (.int 15))) (eC (.int 9))) (eC (.int 8)))) (sSet 4 (eBin gSubI (eC (.int 20)) (eBin gMod (eBin gFdiv (eVar 3) (eC (.int 135))) (eC (.int 20))))) sNext)
    (sSeq (sSet 5 (eBin gMod (eCall g_cell_at [(eVar 0), (eC (.int 1))]) (eC (.int 7))))
    (sSeq (sIf (tst (eBin (gEqN false) (eBin gMod (eBin gFdiv (eCall g_cell_at [(eVar 0), (eC (.int 1))]) (eC (.int 7))) (eC (.int 9))) (eC (.int 8)))) (sSet 5 (eBin gSubI (eC (.int 60)) (eBin gMod (eBin gFdiv (eCall g_cell_at [(eVar 0), (eC (.int 1))]) (eC (.int 63))) (eC (.int 61))))) sNext)
    (sSeq (sSet 7 (eLc true (iRng1D [(eVar 5)]) [6] (putNm 6) ftYes (eCall g_pipe_by [(eBin (gAdd false) (eCall g_cell_at [(eVar 0), (eBin (gAdd false) (eC (.int 2)) (eBin gMod (eVar 6) (eC (.int 7))))]) (eBin (gMul false) (eC (.int 97)) (eBin gFdiv (eVar 6) (eC (.int 7))))), (eVar 4)])))
    (sSeq (sSet 8 (eLc false (iRng3D [(eVar 1), (eB gLen [(eVar 0)]), (eVar 2)]) [6] (putNm 6) ftYes (eBin gIx (eVar 0) (eVar 6))))
    (sRet (eTup [(eVar 7), (eCall g_rows_by [(eVar 8), (eVar 7), (eVar 4), (eBin (gEqN true) (eBin gMod (eVar 3) (eC (.int 3))) (eC (.int 1)))])])))))))))

/-- k04; slots: 0 cell, 1 many, 2 stranger_here, 3 some -/
def f_odd_pipe (g_stranger : GS) : FS :=
  (sSeq (sSet 2 (eCall g_stranger [(eBin gFdiv (eVar 0) (eC (.int 5))), (eVar 1)]))
    (sSeq (sSet 3 (eLst false [(eTup [(eVar 2), (eC (.int 0)), (eC (.int 1))]), (eTup [(eC (.int 0)), (eVar 2), (eC (.int 1))]), (eTup [(eC (.int 0)), (eBin gSubI (eVar 1) (eC (.int 1))), (eBin (gAdd false) (eC (.int 1)) (eCall g_stranger [(eBin gFdiv (eVar 0) (eC (.int 5))), (eC (.int 1000))]))])]))
    (sSeq (sSet 3 (eBin (gAdd false) (eVar 3) (eLst false [(eTup [(eC (.int 0)), (eC (.int 0)), (eC (.int 1))]), (eTup [(eBin gSubI (eVar 1) (eC (.int 1))), (eC (.int 0)), (eC (.int 1000))])])))
    (sRet (eBin gIx (eVar 3) (eBin gMod (eVar 0) (eC (.int 5))))))))

/-- k04; slots: 0 cell, 1 signs, 2 word, 3 at, 4 sign -/
def f_bent_word : FS :=
  (sSeq (sSet 1 (eC (.str "abcdefghijklmnopqrstuvwxyzST 1-")))
    (sSeq (sSet 2 (eBin gIx (eLst false [(eC (.str "put")), (eC (.str "take")), (eC (.str "add")), (eC (.str "set"))]) (eBin gMod (eVar 0) (eC (.int 4)))))
    (sSeq (sSet 3 (eBin gMod (eBin gFdiv (eVar 0) (eC (.int 4))) (eBin (gAdd false) (eB gLen [(eVar 2)]) (eC (.int 1)))))
    (sSeq (sSet 4 (eBin gIx (eVar 1) (eBin gMod (eBin gFdiv (eVar 0) (eC (.int 20))) (eC (.int 31)))))
    (sRet (eBin (gAdd false) (eBin (gAdd false) (eSlice false (eVar 2) oNo (oPart (eVar 3))) (eBin gIx (eLst false [(eVar 4), (eVar 4), (eC (.str ""))]) (eBin gMod (eBin gFdiv (eVar 0) (eC (.int 620))) (eC (.int 3))))) (eSlice false (eVar 2) (oPart (eBin (gAdd false) (eVar 3) (eB gInt [(eBin gGt (eBin gMod (eBin gFdiv (eVar 0) (eC (.int 620))) (eC (.int 3))) (eC (.int 0)))]))) oNo)))))))

/-- k04; slots: 0 cell, 1 amount, 2 word, 3 at -/
def f_odd_order (g_stranger g_bent_word : GS) : FS :=
  (sSeq (sSet 2 (eBin gIx (eLst false [(eC (.str "put")), (eC (.str "take")), (eC (.str "add")), (eC (.str "set")), (eC (.str "get")), (eC (.str "")), (eC (.str "Put")), (eC (.str "put ")), (eC (.str "move"))]) (eBin gMod (eVar 0) (eC (.int 9)))))
    (sSeq (sIf (tst (eBin (gEqN false) (eBin gMod (eBin gFdiv (eVar 0) (eC (.int 36))) (eC (.int 3))) (eC (.int 1)))) (sSet 2 (eCall g_bent_word [(eBin gFdiv (eVar 0) (eC (.int 108)))])) sNext)
    (sSeq (sSet 3 (eBin gIx (eLst false [(eCall g_stranger [(eBin gFdiv (eVar 0) (eC (.int 18))), (eVar 1)]), (eBin gMod (eBin gFdiv (eVar 0) (eC (.int 18))) (eB gMax2 [(eC (.int 1)), (eVar 1)]))]) (eBin gMod (eBin gFdiv (eVar 0) (eC (.int 9))) (eC (.int 2)))))
    (sRet (eTup [(eVar 2), (eVar 3)])))))

/-- k04; slots: 0 net, 1 pipe, 2 who, 3 row, 4 order -/
def f_due : FS :=
  (sSeq (sFor (iSeqD (eBin gIx (eVar 0) (eC (.int 0)))) (gNm 1) (sIf (ftNot (ftAnd (tst (eChain gLe gLt (eC (.int 0)) (eBin gIx (eVar 1) (eC (.int 0))) (eB gLen [(eBin gIx (eVar 0) (eC (.int 1)))]))) (ftAnd (tst (eChain gLe gLt (eC (.int 0)) (eBin gIx (eVar 1) (eC (.int 1))) (eB gLen [(eBin gIx (eVar 0) (eC (.int 1)))]))) (tst (eChain gLe gLe (eC (.int 1)) (eBin gIx (eVar 1) (eC (.int 2))) (eC (.int 1000))))))) (sRet (eC (.str "pipe"))) sNext))
    (sSeq (sFor (iEnumD [(eBin gIx (eVar 0) (eC (.int 1)))]) (gTp [2, 3]) (sFor (iSeqD (eVar 3)) (gNm 4) (sSeq (sIf (tst (eBin (gEqN false) (eBin gIx (eVar 4) (eC (.int 0))) (eC (.str "set")))) sCt sNext)
    (sSeq (sIf (ftOr (tst (eBin (gIn true) (eBin gIx (eVar 4) (eC (.int 0))) (eTup [(eC (.str "put")), (eC (.str "take")), (eC (.str "add"))]))) (ftNot (tst (eChain gLe gLt (eC (.int 0)) (eBin gIx (eVar 4) (eC (.int 1))) (eB gLen [(eBin gIx (eVar 0) (eC (.int 0)))]))))) (sRet (eC (.str "order"))) sNext)
    (sSeq (sIf (ftAnd (tst (eBin (gEqN false) (eBin gIx (eVar 4) (eC (.int 0))) (eC (.str "put")))) (tst (eBin (gEqN true) (eBin gIx (eBin gIx (eBin gIx (eVar 0) (eC (.int 0))) (eBin gIx (eVar 4) (eC (.int 1)))) (eC (.int 0))) (eVar 2)))) (sRet (eC (.str "order"))) sNext)
    (sIf (ftAnd (tst (eBin (gEqN true) (eBin gIx (eVar 4) (eC (.int 0))) (eC (.str "put")))) (tst (eBin (gEqN true) (eBin gIx (eBin gIx (eBin gIx (eVar 0) (eC (.int 0))) (eBin gIx (eVar 4) (eC (.int 1)))) (eC (.int 1))) (eVar 2)))) (sRet (eC (.str "order"))) sNext))))))
    (sRet (eC (.str "")))))

/-- k04; slots: 0 found, 1 net, 2 handed, 3 row -/
def f_good : FS :=
  (sSeq (sIf (ftOr (ftNot (tst (eIsi "tuple" (eVar 0)))) (ftOr (tst (eBin (gEqN true) (eB gLen [(eVar 0)]) (eC (.int 2)))) (tst (eBin (gEqN true) (eVar 0) (eVar 1))))) (sRet (eC (.bl false))) sNext)
    (sSeq (sIf (ftOr (ftNot (tst (eIsi "list" (eBin gIx (eVar 0) (eC (.int 0)))))) (ftNot (tst (eIsi "list" (eBin gIx (eVar 0) (eC (.int 1))))))) (sRet (eC (.bl false))) sNext)
    (sSeq (sFor (iSeqD (eBin gIx (eVar 0) (eC (.int 1)))) (gNm 3) (sSeq (sIf (ftNot (tst (eIsi "list" (eVar 3)))) (sRet (eC (.bl false))) sNext)
    (sDrop (eM mAppend (eVar 3) [(eTup [(eC (.str "set")), (eC (.int 1))])]))))
    (sSeq (sDrop (eM mAppend (eBin gIx (eVar 0) (eC (.int 0))) [(eTup [(eC (.int 0)), (eC (.int 0)), (eC (.int 1))])]))
    (sRet (eBin (gEqN false) (eVar 2) (eVar 1)))))))

/-- k05; slots: 0 net, 1 pipe, 2 who, 3 row, 4 order -/
def f_checked_k05 (g_good_pipe g_good_order : GS) : FS :=
  (sSeq (sFor (iSeqD (eBin gIx (eVar 0) (eC (.int 0)))) (gNm 1) (sIf (ftNot (tst (eCall g_good_pipe [(eVar 1), (eB gLen [(eBin gIx (eVar 0) (eC (.int 1)))])]))) (sRaise "NoPipe") sNext))
    (sSeq (sFor (iEnumD [(eBin gIx (eVar 0) (eC (.int 1)))]) (gTp [2, 3]) (sFor (iSeqD (eVar 3)) (gNm 4) (sIf (ftNot (tst (eCall g_good_order [(eVar 4), (eVar 2), (eBin gIx (eVar 0) (eC (.int 0)))]))) (sRaise "NoOrder") sNext)))
    (sRet (eTup [(eB (gList false) [(eBin gIx (eVar 0) (eC (.int 0)))]), (eLc false (iSeqD (eBin gIx (eVar 0) (eC (.int 1)))) [3] (putNm 3) ftYes (eB (gList false) [(eVar 3)]))]))))

/-- k05; slots: 0 net, 1 lines, 2 pipe, 3 row, 4 order -/
def f_written : FS :=
  (sSeq (sSet 1 (eLst true []))
    (sSeq (sFor (iSeqD (eBin gIx (eVar 0) (eC (.int 0)))) (gNm 2) (sDrop (eM mAppend (eVar 1) [(eBin (gAdd false) (eBin (gAdd false) (eBin (gAdd false) (eBin (gAdd false) (eBin (gAdd false) (eC (.str "pipe ")) (eB gStr [(eBin gIx (eVar 2) (eC (.int 0)))])) (eC (.str " "))) (eB gStr [(eBin gIx (eVar 2) (eC (.int 1)))])) (eC (.str " "))) (eB gStr [(eBin gIx (eVar 2) (eC (.int 2)))]))])))
    (sSeq (sFor (iSeqD (eBin gIx (eVar 0) (eC (.int 1)))) (gNm 3) (sSeq (sDrop (eM mAppend (eVar 1) [(eC (.str "worker"))]))
    (sFor (iSeqD (eVar 3)) (gNm 4) (sDrop (eM mAppend (eVar 1) [(eBin (gAdd false) (eBin (gAdd false) (eBin gIx (eVar 4) (eC (.int 0))) (eC (.str " "))) (eB gStr [(eBin gIx (eVar 4) (eC (.int 1)))]))])))))
    (sRet (eStr1 gJoin (eC (.str "\n")) (eVar 1))))))

/-- k05; slots: 0 word, 1 sign -/
def f_whole_k05 : FS :=
  (sSeq (sFor (iSeqD (eVar 0)) (gNm 1) (sIf (tst (eBin (gIn true) (eVar 1) (eC (.str "0123456789")))) (sRaise "BadNote") sNext))
    (sSeq (sIf (ftOr (tst (eBin (gEqN false) (eVar 0) (eC (.str "")))) (ftAnd (tst (eBin (gEqN false) (eBin gIx (eVar 0) (eC (.int 0))) (eC (.str "0")))) (tst (eBin gGt (eB gLen [(eVar 0)]) (eC (.int 1)))))) (sRaise "BadNote") sNext)
    (sRet (eB gInt [(eVar 0)]))))

/-- k05; slots: 0 word -/
def f_signed (g_whole : GS) : FS :=
  (sSeq (sIf (ftAnd (tst (eBin (gEqN false) (eSlice false (eVar 0) oNo (oPart (eC (.int 1)))) (eC (.str "-")))) (tst (eBin (gEqN true) (eVar 0) (eC (.str "-0"))))) (sRet (eUn gNeg (eCall g_whole [(eSlice false (eVar 0) (oPart (eC (.int 1))) oNo)]))) sNext)
    (sRet (eCall g_whole [(eVar 0)])))

/-- k05; slots: 0 words -/
def f_order_of (g_whole g_signed : GS) : FS :=
  (sSeq (sIf (ftOr (tst (eBin (gEqN true) (eB gLen [(eVar 0)]) (eC (.int 2)))) (tst (eBin (gIn true) (eBin gIx (eVar 0) (eC (.int 0))) (eTup [(eC (.str "set")), (eC (.str "put")), (eC (.str "take")), (eC (.str "add"))])))) (sRaise "BadNote") sNext)
    (sSeq (sIf (tst (eBin (gEqN false) (eBin gIx (eVar 0) (eC (.int 0))) (eC (.str "set")))) (sRet (eTup [(eC (.str "set")), (eCall g_signed [(eBin gIx (eVar 0) (eC (.int 1)))])])) sNext)
    (sRet (eTup [(eBin gIx (eVar 0) (eC (.int 0))), (eCall g_whole [(eBin gIx (eVar 0) (eC (.int 1)))])]))))

/-- k05; slots: 0 text, 1 pipes, 2 rows, 3 line, 4 words -/
def f_read (g_checked g_whole g_order_of : GS) : FS :=
  (sSeq (sSet 1 (eLst true []))
    (sSeq (sSet 2 (eLst true []))
    (sSeq (sFor (iSeqD (eStr1 gSplit (eVar 0) (eC (.str "\n")))) (gNm 3) (sSeq (sSet 4 (eStr1 gSplit (eVar 3) (eC (.str " "))))
    (sIf (tst (eBin (gEqN false) (eVar 4) (eLst true [(eC (.str "worker"))]))) (sDrop (eM mAppend (eVar 2) [(eLst true [])])) (sIf (ftAnd (tst (eBin (gEqN false) (eBin gIx (eVar 4) (eC (.int 0))) (eC (.str "pipe")))) (ftAnd (tst (eBin (gEqN false) (eB gLen [(eVar 4)]) (eC (.int 4)))) (tst (eBin (gEqN false) (eB gLen [(eVar 2)]) (eC (.int 0)))))) (sDrop (eM mAppend (eVar 1) [(eTup [(eCall g_whole [(eBin gIx (eVar 4) (eC (.int 1)))]), (eCall g_whole [(eBin gIx (eVar 4) (eC (.int 2)))]), (eCall g_whole [(eBin gIx (eVar 4) (eC (.int 3)))])])])) (sIf (tst (eBin gGt (eB gLen [(eVar 2)]) (eC (.int 0)))) (sDrop (eM mAppend (eBin gIx (eVar 2) (eUn gNeg (eC (.int 1)))) [(eCall g_order_of [(eVar 4)])])) (sRaise "BadNote"))))))
    (sSeq (sIf (tst (eBin (gEqN false) (eB gLen [(eVar 2)]) (eC (.int 0)))) (sRaise "BadNote") sNext)
    (sRet (eCall g_checked [(eTup [(eVar 1), (eVar 2)])]))))))

/-- k05; slots: 0 words, 1 text, 2 k -/
def f_line : FS :=
  (sSeq (sSet 1 (eBin gIx (eVar 0) (eC (.int 0))))
    (sSeq (sFor (iRng2D [(eC (.int 1)), (eB gLen [(eVar 0)])]) (gNm 2) (sSet 1 (eBin (gAdd false) (eBin (gAdd false) (eVar 1) (eC (.str " "))) (eB gStr [(eBin gIx (eVar 0) (eVar 2))]))))
    (sRet (eVar 1))))

/-- k05; slots: 0 net, 1 pipe, 2 lines, 3 row, 4 order -/
def f_text_by (g_line : GS) : FS :=
  (sSeq (sSet 2 (eLc true (iSeqD (eBin gIx (eVar 0) (eC (.int 0)))) [1] (putNm 1) ftYes (eCall g_line [(eLst false [(eC (.str "pipe")), (eBin gIx (eVar 1) (eC (.int 0))), (eBin gIx (eVar 1) (eC (.int 1))), (eBin gIx (eVar 1) (eC (.int 2)))])])))
    (sSeq (sFor (iSeqD (eBin gIx (eVar 0) (eC (.int 1)))) (gNm 3) (sSeq (sDrop (eM mAppend (eVar 2) [(eC (.str "worker"))]))
    (sFor (iSeqD (eVar 3)) (gNm 4) (sDrop (eM mAppend (eVar 2) [(eCall g_line [(eLst false [(eBin gIx (eVar 4) (eC (.int 0))), (eBin gIx (eVar 4) (eC (.int 1)))])])])))))
    (sRet (eStr1 gJoin (eC (.str "\n")) (eVar 2)))))

/-- k05; slots: 0 found, 1 net, 2 pipe, 3 row, 4 order -/
def f_net_is (g_whole : GS) : FS :=
  (sSeq (sIf (ftOr (ftNot (tst (eIsi "tuple" (eVar 0)))) (ftOr (tst (eBin (gEqN true) (eB gLen [(eVar 0)]) (eC (.int 2)))) (tst (eBin (gEqN true) (eVar 0) (eVar 1))))) (sRet (eC (.bl false))) sNext)
    (sSeq (sIf (ftOr (ftNot (tst (eIsi "list" (eBin gIx (eVar 0) (eC (.int 0)))))) (ftNot (tst (eIsi "list" (eBin gIx (eVar 0) (eC (.int 1))))))) (sRet (eC (.bl false))) sNext)
    (sSeq (sFor (iSeqD (eBin gIx (eVar 0) (eC (.int 0)))) (gNm 2) (sIf (ftOr (ftNot (tst (eIsi "tuple" (eVar 2)))) (ftOr (ftNot (tst (eCall g_whole [(eBin gIx (eVar 2) (eC (.int 0)))]))) (ftOr (ftNot (tst (eCall g_whole [(eBin gIx (eVar 2) (eC (.int 1)))]))) (ftNot (tst (eCall g_whole [(eBin gIx (eVar 2) (eC (.int 2)))])))))) (sRet (eC (.bl false))) sNext))
    (sSeq (sFor (iSeqD (eBin gIx (eVar 0) (eC (.int 1)))) (gNm 3) (sSeq (sIf (ftNot (tst (eIsi "list" (eVar 3)))) (sRet (eC (.bl false))) sNext)
    (sFor (iSeqD (eVar 3)) (gNm 4) (sIf (ftOr (ftNot (tst (eIsi "tuple" (eVar 4)))) (ftOr (ftNot (tst (eIsi "str" (eBin gIx (eVar 4) (eC (.int 0)))))) (ftNot (tst (eCall g_whole [(eBin gIx (eVar 4) (eC (.int 1)))]))))) (sRet (eC (.bl false))) sNext))))
    (sRet (eC (.bl true)))))))

/-- k05; slots: 0 script, 1 net, 2 row, 3 handed, 4 text -/
def f_law_k05 (g_written g_read g_net_by g_text_by g_net_is : GS) : FS :=
  (sSeq (sSet 1 (eCall g_net_by [(eVar 0), (eC (.int 10)), (eC (.int 3))]))
    (sSeq (sSet 3 (eTup [(eB (gList false) [(eBin gIx (eVar 1) (eC (.int 0)))]), (eLc false (iSeqD (eBin gIx (eVar 1) (eC (.int 1)))) [2] (putNm 2) ftYes (eB (gList false) [(eVar 2)]))]))
    (sSeq (sSet 4 (eCall g_written [(eVar 3)]))
    (sSeq (sIf (ftOr (ftNot (tst (eIsi "str" (eVar 4)))) (ftOr (tst (eBin (gEqN true) (eVar 4) (eCall g_text_by [(eVar 1)]))) (tst (eBin (gEqN true) (eVar 3) (eVar 1))))) (sRet (eC (.bl false))) sNext)
    (sRet (eCall g_net_is [(eCall g_read [(eVar 4)]), (eVar 1)]))))))

/-- k06; slots: 0 word, 1 sign -/
def f_figures : FS :=
  (sSeq (sIf (ftOr (tst (eBin (gEqN false) (eVar 0) (eC (.str "")))) (ftAnd (tst (eBin gGt (eB gLen [(eVar 0)]) (eC (.int 1)))) (tst (eBin (gEqN false) (eBin gIx (eVar 0) (eC (.int 0))) (eC (.str "0")))))) (sRet (eC .non)) sNext)
    (sSeq (sFor (iSeqD (eVar 0)) (gNm 1) (sIf (tst (eBin (gIn true) (eVar 1) (eC (.str "0123456789")))) (sRet (eC .non)) sNext))
    (sRet (eB gInt [(eVar 0)]))))

/-- k06; slots: 0 word, 1 found -/
def f_signed_k06 (g_figures : GS) : FS :=
  (sSeq (sIf (ftAnd (tst (eBin (gEqN false) (eSlice false (eVar 0) oNo (oPart (eC (.int 1)))) (eC (.str "-")))) (tst (eBin (gEqN true) (eVar 0) (eC (.str "-0"))))) (sSeq (sSet 1 (eCall g_figures [(eSlice false (eVar 0) (oPart (eC (.int 1))) oNo)]))
    (sSeq (sIf (tst (eBin gIsN (eVar 1) (eC .non))) (sRet (eC .non)) sNext)
    (sRet (eUn gNeg (eVar 1))))) sNext)
    (sRet (eCall g_figures [(eVar 0)])))

/-- k06; slots: 0 lines, 1 pipes, 2 rows, 3 line, 4 words, 5 word, 6 numbers -/
def f_net_of (g_figures g_signed : GS) : FS :=
  (sSeq (sSet 1 (eLst true []))
    (sSeq (sSet 2 (eLst true []))
    (sSeq (sFor (iSeqD (eVar 0)) (gNm 3) (sSeq (sSet 4 (eStr1 gSplit (eVar 3) (eC (.str " "))))
    (sSeq (sIf (tst (eBin (gEqN false) (eVar 3) (eC (.str "worker")))) (sSeq (sDrop (eM mAppend (eVar 2) [(eLst true [])]))
    sCt) sNext)
    (sSeq (sSet 6 (eLc true (iSeqD (eSlice true (eVar 4) (oPart (eC (.int 1))) oNo)) [5] (putNm 5) ftYes (eIf (tst (eBin (gEqN false) (eBin gIx (eVar 4) (eC (.int 0))) (eC (.str "set")))) (eCall g_signed [(eVar 5)]) (eCall g_figures [(eVar 5)]))))
    (sSeq (sIf (tst (eBin (gIn false) (eC .non) (eVar 6))) (sRet (eC .non)) sNext)
    (sIf (ftAnd (tst (eBin (gEqN false) (eBin gIx (eVar 4) (eC (.int 0))) (eC (.str "pipe")))) (ftAnd (tst (eBin (gEqN false) (eB gLen [(eVar 6)]) (eC (.int 3)))) (tst (eBin (gEqN false) (eB gLen [(eVar 2)]) (eC (.int 0)))))) (sDrop (eM mAppend (eVar 1) [(eTup [(eBin gIx (eVar 6) (eC (.int 0))), (eBin gIx (eVar 6) (eC (.int 1))), (eBin gIx (eVar 6) (eC (.int 2)))])])) (sIf (ftAnd (tst (eBin (gIn false) (eBin gIx (eVar 4) (eC (.int 0))) (eTup [(eC (.str "set")), (eC (.str "put")), (eC (.str "take")), (eC (.str "add"))]))) (ftAnd (tst (eBin (gEqN false) (eB gLen [(eVar 6)]) (eC (.int 1)))) (tst (eBin gGt (eB gLen [(eVar 2)]) (eC (.int 0)))))) (sDrop (eM mAppend (eBin gIx (eVar 2) (eUn gNeg (eC (.int 1)))) [(eTup [(eBin gIx (eVar 4) (eC (.int 0))), (eBin gIx (eVar 6) (eC (.int 0)))])])) (sRet (eC .non)))))))))
    (sSeq (sIf (tst (eBin (gEqN false) (eB gLen [(eVar 2)]) (eC (.int 0)))) (sRet (eC .non)) sNext)
    (sRet (eTup [(eVar 1), (eVar 2)]))))))

/-- k06; slots: 0 net, 1 pipe, 2 who, 3 row, 4 order -/
def f_due_k06 : FS :=
  (sSeq (sIf (tst (eBin gIsN (eVar 0) (eC .non))) (sRet (eC (.str "note"))) sNext)
    (sSeq (sFor (iSeqD (eBin gIx (eVar 0) (eC (.int 0)))) (gNm 1) (sIf (ftNot (ftAnd (tst (eBin gLt (eBin gIx (eVar 1) (eC (.int 0))) (eB gLen [(eBin gIx (eVar 0) (eC (.int 1)))]))) (ftAnd (tst (eBin gLt (eBin gIx (eVar 1) (eC (.int 1))) (eB gLen [(eBin gIx (eVar 0) (eC (.int 1)))]))) (tst (eChain gLe gLe (eC (.int 1)) (eBin gIx (eVar 1) (eC (.int 2))) (eC (.int 1000))))))) (sRet (eC (.str "pipe"))) sNext))
    (sSeq (sFor (iEnumD [(eBin gIx (eVar 0) (eC (.int 1)))]) (gTp [2, 3]) (sFor (iSeqD (eVar 3)) (gNm 4) (sSeq (sIf (ftAnd (tst (eBin (gEqN true) (eBin gIx (eVar 4) (eC (.int 0))) (eC (.str "set")))) (tst (eBin gGe (eBin gIx (eVar 4) (eC (.int 1))) (eB gLen [(eBin gIx (eVar 0) (eC (.int 0)))])))) (sRet (eC (.str "order"))) sNext)
    (sSeq (sIf (ftAnd (tst (eBin (gEqN false) (eBin gIx (eVar 4) (eC (.int 0))) (eC (.str "put")))) (tst (eBin (gEqN true) (eBin gIx (eBin gIx (eBin gIx (eVar 0) (eC (.int 0))) (eBin gIx (eVar 4) (eC (.int 1)))) (eC (.int 0))) (eVar 2)))) (sRet (eC (.str "order"))) sNext)
    (sIf (ftAnd (tst (eBin (gIn false) (eBin gIx (eVar 4) (eC (.int 0))) (eTup [(eC (.str "take")), (eC (.str "add"))]))) (tst (eBin (gEqN true) (eBin gIx (eBin gIx (eBin gIx (eVar 0) (eC (.int 0))) (eBin gIx (eVar 4) (eC (.int 1)))) (eC (.int 1))) (eVar 2)))) (sRet (eC (.str "order"))) sNext)))))
    (sRet (eC (.str ""))))))

/-- k06; slots: 0 cell, 1 some -/
def f_odd_line : FS :=
  (sSeq (sSet 1 (eLst false [(eC (.str "")), (eC (.str "worker")), (eC (.str "pipe 0 0 1")), (eC (.str "pipe 0 1 1001")), (eC (.str "pipe 0 0 0")), (eC (.str "pipe 0 0")), (eC (.str "pipe 0 0 1 1")), (eC (.str "pipe 0 00 1"))]))
    (sSeq (sSet 1 (eBin (gAdd false) (eVar 1) (eLst false [(eC (.str "pipe -1 0 1")), (eC (.str "set 5")), (eC (.str "set -5")), (eC (.str "set -0")), (eC (.str "set 007")), (eC (.str "set +5")), (eC (.str "set")), (eC (.str "set 5 5")), (eC (.str "put 0"))])))
    (sSeq (sSet 1 (eBin (gAdd false) (eVar 1) (eLst false [(eC (.str "take 0")), (eC (.str "add  0")), (eC (.str " put 0")), (eC (.str "Put 0")), (eC (.str "put -1")), (eC (.str "worker ")), (eC (.str "sett 5")), (eC (.str "set -007")), (eC (.str "set -00")), (eC (.str "set -"))])))
    (sSeq (sSet 1 (eBin (gAdd false) (eVar 1) (eLst false [(eC (.str "set --5")), (eC (.str "pipe 0 0 01")), (eC (.str "pipe  0 0 1"))])))
    (sRet (eBin gIx (eVar 1) (eBin gMod (eVar 0) (eC (.int 30)))))))))

/-- k06; slots: 0 script, 1 many, 2 amount, 3 lines, 4 k, 5 cell, 6 ends, 7 at, 8 word, 9 number -/
def f_lines_by (g_cell_at : GS) : FS :=
  (sSeq (sSet 1 (eBin (gAdd false) (eC (.int 1)) (eBin gMod (eCall g_cell_at [(eVar 0), (eC (.int 0))]) (eC (.int 3)))))
    (sSeq (sSet 2 (eBin gMod (eCall g_cell_at [(eVar 0), (eC (.int 1))]) (eC (.int 4))))
    (sSeq (sSet 3 (eLst true []))
    (sSeq (sFor (iRng1D [(eVar 2)]) (gNm 4) (sSeq (sSet 5 (eCall g_cell_at [(eVar 0), (eBin (gAdd false) (eC (.int 2)) (eVar 4))]))
    (sSeq (sSet 6 (eBin (gAdd false) (eBin (gAdd false) (eB gStr [(eBin gMod (eVar 5) (eVar 1))]) (eC (.str " "))) (eB gStr [(eBin gMod (eBin gFdiv (eVar 5) (eC (.int 3))) (eVar 1))])))
    (sDrop (eM mAppend (eVar 3) [(eBin (gAdd false) (eBin (gAdd false) (eBin (gAdd false) (eC (.str "pipe ")) (eVar 6)) (eC (.str " "))) (eB gStr [(eBin (gAdd false) (eC (.int 1)) (eBin gMod (eBin gFdiv (eVar 5) (eC (.int 9))) (eC (.int 1000))))]))])))))
    (sSeq (sFor (iRng1D [(eVar 1)]) (gNm 4) (sSeq (sDrop (eM mAppend (eVar 3) [(eC (.str "worker"))]))
    (sFor (iRng3D [(eBin (gAdd false) (eC (.int 6)) (eVar 4)), (eB gMin2 [(eB gLen [(eVar 0)]), (eC (.int 60))]), (eBin (gAdd false) (eVar 1) (eC (.int 2)))]) (gNm 7) (sSeq (sSet 5 (eBin gIx (eVar 0) (eVar 7)))
    (sSeq (sSet 8 (eBin gIx (eLst false [(eC (.str "set")), (eC (.str "put")), (eC (.str "take")), (eC (.str "add"))]) (eBin gMod (eVar 5) (eC (.int 4)))))
    (sSeq (sSet 9 (eIf (tst (eBin (gEqN false) (eBin gMod (eVar 5) (eC (.int 4))) (eC (.int 0)))) (eBin gMod (eBin gFdiv (eVar 5) (eC (.int 4))) (eBin gPow (eC (.int 10)) (eC (.int 20)))) (eBin gMod (eBin gFdiv (eVar 5) (eC (.int 4))) (eC (.int 5)))))
    (sDrop (eM mAppend (eVar 3) [(eBin (gAdd false) (eBin (gAdd false) (eVar 8) (eC (.str " "))) (eB gStr [(eVar 9)]))]))))))))
    (sRet (eVar 3)))))))

/-- k06; slots: 0 cell, 1 some -/
def f_sign_by : FS :=
  (sSeq (sSet 1 (eC (.str " !\"#$&'()*+,-./0123456789:;<=>?@ABCDEFGHIJKLMNOPQRSTUVWXYZ[\\]^_`")))
    (sSeq (sSet 1 (eBin (gAdd false) (eVar 1) (eC (.str "abcdefghijklmnopqrstuvwxyz{|}~\n\t -0 -0"))))
    (sRet (eBin gIx (eVar 1) (eBin gMod (eVar 0) (eC (.int 102)))))))

/-- k06; slots: 0 script, 1 lines, 2 text, 3 cell, 4 at -/
def f_text_by_k06 (g_cell_at g_sign_by : GS) : FS :=
  (sSeq (sSet 2 (eStr1 gJoin (eC (.str "\n")) (eVar 1)))
    (sSeq (sSet 3 (eCall g_cell_at [(eVar 0), (eC (.int 3))]))
    (sSeq (sIf (tst (eBin (gEqN false) (eBin gMod (eVar 3) (eC (.int 6))) (eC (.int 4)))) (sSeq (sSet 4 (eBin gMod (eBin gFdiv (eVar 3) (eC (.int 6))) (eBin (gAdd false) (eB gLen [(eVar 2)]) (eC (.int 1)))))
    (sRet (eBin (gAdd false) (eBin (gAdd false) (eSlice false (eVar 2) oNo (oPart (eVar 4))) (eCall g_sign_by [(eBin (gAdd false) (eCall g_cell_at [(eVar 0), (eC (.int 0))]) (eCall g_cell_at [(eVar 0), (eC (.int 4))]))])) (eSlice false (eVar 2) (oPart (eVar 4)) oNo)))) sNext)
    (sSeq (sIf (ftAnd (tst (eBin (gEqN false) (eBin gMod (eVar 3) (eC (.int 6))) (eC (.int 5)))) (tst (eBin gGt (eB gLen [(eVar 2)]) (eC (.int 0))))) (sSeq (sSet 4 (eBin gMod (eBin gFdiv (eVar 3) (eC (.int 6))) (eB gLen [(eVar 2)])))
    (sRet (eBin (gAdd false) (eSlice false (eVar 2) oNo (oPart (eVar 4))) (eSlice false (eVar 2) (oPart (eBin (gAdd false) (eVar 4) (eC (.int 1)))) oNo)))) sNext)
    (sRet (eVar 2))))))

/-- k07; slots: 0 net, 1 state, 2 picks, 3 who, 4 done, 5 can -/
def f_run (g_need_worker g_can_step g_step : GS) : FS :=
  (sSeq (sFor (iSeqD (eVar 2)) (gNm 3) (sDrop (eCall g_need_worker [(eVar 0), (eVar 3)])))
    (sSeq (sSet 4 (eLst true []))
    (sSeq (sFor (iSeqD (eVar 2)) (gNm 3) (sSeq (sSet 5 (eCall g_can_step [(eVar 0), (eVar 1), (eVar 3)]))
    (sSeq (sIf (tst (eVar 5)) (sSet 1 (eCall g_step [(eVar 0), (eVar 1), (eVar 3)])) sNext)
    (sDrop (eM mAppend (eVar 4) [(eVar 5)])))))
    (sRet (eTup [(eVar 1), (eVar 4)])))))

/-- k07; slots: 0 script, 1 many, 2 picks, 3 k, 4 turn -/
def f_picks_by : FS :=
  (sSeq (sSet 2 (eLst true []))
    (sSeq (sFor (iRng3D [(eC (.int 9)), (eB gLen [(eVar 0)]), (eC (.int 2))]) (gNm 3) (sFor (iRng1D [(eBin (gAdd false) (eC (.int 1)) (eBin gMod (eBin gFdiv (eBin gIx (eVar 0) (eVar 3)) (eVar 1)) (eC (.int 4))))]) (gNm 4) (sDrop (eM mAppend (eVar 2) [(eBin gMod (eBin gIx (eVar 0) (eVar 3)) (eVar 1))]))))
    (sRet (eVar 2))))

/-- k07; slots: 0 net, 1 picks, 2 lists, 3 done, 4 who, 5 can -/
def f_walked (g_can_by g_step_by g_begun : GS) : FS :=
  (sSeq (sSet 2 (eCall g_begun [(eVar 0)]))
    (sSeq (sSet 3 (eLst false []))
    (sSeq (sFor (iSeqD (eVar 1)) (gNm 4) (sSeq (sSet 5 (eCall g_can_by [(eVar 0), (eVar 2), (eVar 4)]))
    (sSeq (sIf (tst (eVar 5)) (sDrop (eCall g_step_by [(eVar 0), (eVar 2), (eVar 4)])) sNext)
    (sDrop (eM mAppend (eVar 3) [(eVar 5)])))))
    (sRet (eTup [(eVar 2), (eVar 3)])))))

/-- k07; slots: 0 found, 1 due, 2 told -/
def f_bools_are : FS :=
  (sSeq (sIf (ftOr (ftNot (tst (eIsi "list" (eVar 0)))) (tst (eBin (gEqN true) (eVar 0) (eVar 1)))) (sRet (eC (.bl false))) sNext)
    (sSeq (sFor (iSeqD (eVar 0)) (gNm 2) (sIf (ftNot (tst (eIsi "bool" (eVar 2)))) (sRet (eC (.bl false))) sNext))
    (sRet (eC (.bl true)))))

/-- k07; slots: 0 script, 1 net, 2 many, 3 picks, 4 cell, 5 handed, 6 given, 7 found, 8 lists, 9 done, 10 row, 11 held, 12 past, 13 due -/
def f_law_k07 (g_begin g_run g_cell_at g_net_by g_state_is g_copy_of g_picks_by g_walked g_bools_are g_stranger g_refused : GS) : FS :=
  (sSeq (sSet 1 (eCall g_net_by [(eVar 0), (eC (.int 10)), (eC (.int 2))]))
    (sSeq (sSet 2 (eB gLen [(eBin gIx (eVar 1) (eC (.int 1)))]))
    (sSeq (sSet 3 (eCall g_picks_by [(eVar 0), (eVar 2)]))
    (sSeq (sSet 4 (eCall g_cell_at [(eVar 0), (eC (.int 2))]))
    (sSeq (sSet 5 (eCall g_copy_of [(eVar 1)]))
    (sSeq (sIf (tst (eBin (gEqN false) (eBin gMod (eVar 4) (eC (.int 8))) (eC (.int 5)))) (sSeq (sDrop (eM mInsert (eVar 3) [(eBin gMod (eBin gFdiv (eVar 4) (eC (.int 8))) (eBin (gAdd false) (eB gLen [(eVar 3)]) (eC (.int 1)))), (eCall g_stranger [(eCall g_cell_at [(eVar 0), (eC (.int 3))]), (eVar 2)])]))
    (sRet (eCall g_refused [(eVar 5), (eVar 3)]))) sNext)
    (sSeq (sSet 6 (eB (gList false) [(eVar 3)]))
    (sSeq (sSet 7 (eCall g_run [(eVar 5), (eCall g_begin [(eVar 5)]), (eVar 6)]))
    (sSeq (sAsg (eCall g_walked [(eVar 1), (eVar 3)]) (gTp [8, 9]))
    (sSeq (sSet 11 (eB gTuple [(eLc false (iSeqD (eBin gIx (eVar 8) (eC (.int 2)))) [10] (putNm 10) ftYes (eB gTuple [(eVar 10)]))]))
    (sSeq (sSet 12 (eB gTuple [(eLc false (iSeqD (eBin gIx (eVar 8) (eC (.int 3)))) [10] (putNm 10) ftYes (eB gTuple [(eVar 10)]))]))
    (sSeq (sSet 13 (eTup [(eB gTuple [(eBin gIx (eVar 8) (eC (.int 0)))]), (eB gTuple [(eBin gIx (eVar 8) (eC (.int 1)))]), (eVar 11), (eVar 12)]))
    (sSeq (sIf (ftOr (ftNot (tst (eIsi "tuple" (eVar 7)))) (ftOr (tst (eBin (gEqN true) (eB gLen [(eVar 7)]) (eC (.int 2)))) (ftOr (tst (eBin (gEqN true) (eVar 6) (eVar 3))) (tst (eBin (gEqN true) (eVar 5) (eVar 1)))))) (sRet (eC (.bl false))) sNext)
    (sRet (eAnd (eCall g_state_is [(eBin gIx (eVar 7) (eC (.int 0))), (eVar 13)]) (eCall g_bools_are [(eBin gIx (eVar 7) (eC (.int 1))), (eVar 9)]))))))))))))))))

/-- k08; slots: 0 net, 1 state, 2 who -/
def f_who_can (g_can_step : GS) : FS :=
  (sSeq (sFor (iRng1D [(eB gLen [(eBin gIx (eVar 0) (eC (.int 1)))])]) (gNm 2) (sIf (tst (eCall g_can_step [(eVar 0), (eVar 1), (eVar 2)])) (sRet (eVar 2)) sNext))
    (sRet (eC .non)))

/-- k08; slots: 0 net, 1 state, 2 who -/
def f_settled (g_step g_who_can : GS) : FS :=
  (sSeq (sSet 2 (eCall g_who_can [(eVar 0), (eVar 1)]))
    (sSeq (sWhile (tst (eBin gNotN (eVar 2) (eC .non))) (sSeq (sSet 1 (eCall g_step [(eVar 0), (eVar 1), (eVar 2)]))
    (sSet 2 (eCall g_who_can [(eVar 0), (eVar 1)]))))
    (sRet (eVar 1))))

/-- k08; slots: 0 net, 1 state, 2 who, 3 gone, 4 waits, 5 ring, 6 least -/
def f_way_from (g_wait_of : GS) : FS :=
  (sSeq (sSet 3 (eLst true []))
    (sSeq (sWhile (tst (eBin (gIn true) (eVar 2) (eVar 3))) (sSeq (sDrop (eM mAppend (eVar 3) [(eVar 2)]))
    (sSeq (sSet 4 (eCall g_wait_of [(eVar 0), (eVar 1), (eVar 2)]))
    (sSeq (sIf (tst (eBin gIsN (eVar 4) (eC .non))) (sRet (eTup [(eC (.str "end")), (eVar 3)])) sNext)
    (sSet 2 (eBin gIx (eVar 4) (eC (.int 1))))))))
    (sSeq (sSet 5 (eSlice false (eVar 3) (oPart (eM mIndex (eVar 3) [(eVar 2)])) oNo))
    (sSeq (sSet 6 (eM mIndex (eVar 5) [(eB gMinL [(eVar 5)])]))
    (sRet (eTup [(eC (.str "ring")), (eBin (gAdd false) (eSlice false (eVar 5) (oPart (eVar 6)) oNo) (eSlice false (eVar 5) oNo (oPart (eVar 6))))]))))))

/-- k08; slots: 0 net, 1 state, 2 who -/
def f_stuck (g_wait_of g_who_can g_way_from : GS) : FS :=
  (sSeq (sIf (tst (eBin gNotN (eCall g_who_can [(eVar 0), (eVar 1)]) (eC .non))) (sRet (eC .non)) sNext)
    (sSeq (sFor (iRng1D [(eB gLen [(eBin gIx (eVar 0) (eC (.int 1)))])]) (gNm 2) (sIf (tst (eBin gNotN (eCall g_wait_of [(eVar 0), (eVar 1), (eVar 2)]) (eC .non))) (sRet (eCall g_way_from [(eVar 0), (eVar 1), (eVar 2)])) sNext))
    (sRet (eC .non))))

/-- k08; slots: 0 cells, 1 pipes, 2 many, 3 even, 4 k, 5 rows, 6 cell, 7 way_here, 8 rest, 9 at, 10 maker, 11 taker -/
def f_rows_by_k08 (g_number_by g_put_in : GS) : FS :=
  (sSeq (sSet 5 (eLc true (iRng1D [(eVar 2)]) [4] (putNm 4) ftYes (eLst true [])))
    (sSeq (sFor (iSeqD (eVar 0)) (gNm 6) (sSeq (sSet 7 (eBin gMod (eVar 6) (eC (.int 7))))
    (sSeq (sSet 8 (eBin gFdiv (eVar 6) (eC (.int 7))))
    (sSeq (sIf (ftOr (tst (eBin (gEqN false) (eVar 7) (eC (.int 6)))) (tst (eBin (gEqN false) (eB gLen [(eVar 1)]) (eC (.int 0))))) (sSeq (sIf (tst (eBin gLt (eB gLen [(eBin gIx (eVar 5) (eBin gMod (eVar 8) (eVar 2)))]) (eC (.int 199)))) (sDrop (eM mAppend (eBin gIx (eVar 5) (eBin gMod (eVar 8) (eVar 2))) [(eTup [(eC (.str "set")), (eCall g_number_by [(eBin gFdiv (eVar 8) (eVar 2))])])])) sNext)
    sCt) sNext)
    (sSeq (sSet 9 (eBin gMod (eVar 8) (eB gLen [(eVar 1)])))
    (sSeq (sSet 8 (eBin gFdiv (eVar 8) (eB gLen [(eVar 1)])))
    (sSeq (sSet 10 (eBin gIx (eVar 5) (eBin gIx (eBin gIx (eVar 1) (eVar 9)) (eC (.int 0)))))
    (sSeq (sSet 11 (eBin gIx (eVar 5) (eBin gIx (eBin gIx (eVar 1) (eVar 9)) (eC (.int 1)))))
    (sIf (ftAnd (tst (eBin gLt (eB gLen [(eVar 10)]) (eC (.int 199)))) (tst (eBin gLt (eB gLen [(eVar 11)]) (eC (.int 199))))) (sSeq (sIf (ftOr (tst (eBin (gEqN true) (eVar 7) (eC (.int 4)))) (tst (eVar 3))) (sDrop (eCall g_put_in [(eVar 10), (eTup [(eC (.str "put")), (eVar 9)]), (eBin gFdiv (eVar 8) (eC (.int 2)))])) sNext)
    (sIf (ftOr (tst (eBin (gEqN true) (eVar 7) (eC (.int 3)))) (tst (eVar 3))) (sDrop (eCall g_put_in [(eVar 11), (eTup [(eBin gIx (eLst false [(eC (.str "take")), (eC (.str "add"))]) (eBin gMod (eVar 8) (eC (.int 2)))), (eVar 9)]), (eBin gFdiv (eVar 8) (eC (.int 6)))])) sNext)) sNext)))))))))
    (sRet (eVar 5))))

/-- k08; slots: 0 script, 1 begun_here, 2 stride, 3 head, 4 many, 5 amount, 6 k, 7 pipes, 8 cells -/
def f_net_by_k08 (g_cell_at g_pipe_by g_rows_by : GS) : FS :=
  (sSeq (sSet 3 (eCall g_cell_at [(eVar 0), (eC (.int 0))]))
    (sSeq (sSet 4 (eBin (gAdd false) (eC (.int 1)) (eBin gMod (eVar 3) (eC (.int 5)))))
    (sSeq (sIf (tst (eBin (gEqN false) (eBin gMod (eBin gFdiv (eVar 3) (eC (.int 15))) (eC (.int 9))) (eC (.int 8)))) (sSet 4 (eC (.int 20))) sNext)
    (sSeq (sSet 5 (eBin gMod (eCall g_cell_at [(eVar 0), (eC (.int 1))]) (eC (.int 7))))
    (sSeq (sIf (tst (eBin (gEqN false) (eBin gMod (eBin gFdiv (eCall g_cell_at [(eVar 0), (eC (.int 1))]) (eC (.int 7))) (eC (.int 9))) (eC (.int 8)))) (sSet 5 (eC (.int 30))) sNext)
    (sSeq (sSet 7 (eLc false (iRng1D [(eVar 5)]) [6] (putNm 6) ftYes (eCall g_pipe_by [(eBin (gAdd false) (eCall g_cell_at [(eVar 0), (eBin (gAdd false) (eC (.int 2)) (eBin gMod (eVar 6) (eC (.int 7))))]) (eBin (gMul false) (eC (.int 97)) (eBin gFdiv (eVar 6) (eC (.int 7))))), (eVar 4)])))
    (sSeq (sSet 8 (eLc false (iRng3D [(eVar 1), (eB gLen [(eVar 0)]), (eVar 2)]) [6] (putNm 6) ftYes (eBin gIx (eVar 0) (eVar 6))))
    (sRet (eTup [(eVar 7), (eCall g_rows_by [(eVar 8), (eVar 7), (eVar 4), (eBin (gEqN true) (eBin gMod (eVar 3) (eC (.int 3))) (eC (.int 1)))])])))))))))

/-- k08; slots: 0 script, 1 net, 2 many, 3 mixed, 4 row, 5 sizes, 6 k, 7 places, 8 boxes, 9 pipe, 10 held, 11 past -/
def f_lists_by_k08 (g_cell_at g_number_by g_held_by : GS) : FS :=
  (sSeq (sSet 2 (eB gLen [(eBin gIx (eVar 1) (eC (.int 1)))]))
    (sSeq (sSet 3 (eBin (gAdd false) (eCall g_cell_at [(eVar 0), (eC (.int 2))]) (eBin (gMul false) (eCall g_cell_at [(eVar 0), (eC (.int 11))]) (eC (.int 31)))))
    (sSeq (sSet 5 (eLc false (iSeqD (eBin gIx (eVar 1) (eC (.int 1)))) [4] (putNm 4) ftYes (eBin (gAdd false) (eB gLen [(eVar 4)]) (eC (.int 1)))))
    (sSeq (sSet 7 (eLc true (iRng1D [(eVar 2)]) [6] (putNm 6) ftYes (eBin gFdiv (eBin gMod (eBin gFdiv (eBin (gAdd false) (eVar 3) (eBin (gMul false) (eC (.int 5)) (eVar 6))) (eBin (gAdd false) (eC (.int 1)) (eBin gMod (eVar 6) (eC (.int 3))))) (eBin gIx (eVar 5) (eVar 6))) (eBin (gAdd false) (eC (.int 1)) (eBin gMod (eVar 3) (eC (.int 3)))))))
    (sSeq (sSet 8 (eLc true (iRng1D [(eVar 2)]) [6] (putNm 6) ftYes (eCall g_number_by [(eBin (gAdd false) (eCall g_cell_at [(eVar 0), (eC (.int 12))]) (eBin (gMul false) (eC (.int 7)) (eVar 6)))])))
    (sSeq (sSet 10 (eLc false (iEnumD [(eBin gIx (eVar 1) (eC (.int 0)))]) [6, 9] (putTp [6, 9]) ftYes (eCall g_held_by [(eBin (gAdd false) (eCall g_cell_at [(eVar 0), (eBin (gAdd false) (eC (.int 9)) (eBin gMod (eVar 6) (eC (.int 4))))]) (eBin gFdiv (eVar 6) (eC (.int 4)))), (eBin gIx (eVar 9) (eC (.int 2))), (eVar 6)])))
    (sSeq (sSet 11 (eLc false (iRng1D [(eB gLen [(eBin gIx (eVar 1) (eC (.int 0)))])]) [6] (putNm 6) ftYes (eLst true [(eCall g_number_by [(eBin (gAdd false) (eVar 3) (eVar 6))]), (eVar 6)])))
    (sRet (eLst false [(eVar 7), (eVar 8), (eVar 10), (eVar 11)])))))))))

/-- k08; slots: 0 lists, 1 row -/
def f_copy_lists : FS :=
  (sRet (eLst false [(eB (gList true) [(eBin gIx (eVar 0) (eC (.int 0)))]), (eB (gList true) [(eBin gIx (eVar 0) (eC (.int 1)))]), (eLc false (iSeqD (eBin gIx (eVar 0) (eC (.int 2)))) [1] (putNm 1) ftYes (eB (gList true) [(eVar 1)])), (eLc false (iSeqD (eBin gIx (eVar 0) (eC (.int 3)))) [1] (putNm 1) ftYes (eB (gList true) [(eVar 1)]))]))

/-- k08; slots: 0 net, 1 cell, 2 k, 3 row, 4 more, 5 at -/
def f_lengthen : FS :=
  (sIf (ftAnd (tst (eBin (gEqN false) (eBin gMod (eVar 1) (eC (.int 8))) (eC (.int 7)))) (tst (eBin gLt (eB gLen [(eBin gIx (eVar 0) (eC (.int 1)))]) (eC (.int 6))))) (sFor (iRng1D [(eB gLen [(eBin gIx (eVar 0) (eC (.int 1)))])]) (gNm 2) (sSeq (sSet 3 (eBin gIx (eBin gIx (eVar 0) (eC (.int 1))) (eVar 2)))
    (sSeq (sSet 4 (eB gMin2 [(eBin (gAdd false) (eC (.int 140)) (eBin gMod (eBin gFdiv (eVar 1) (eC (.int 8))) (eC (.int 50)))), (eBin gSubI (eC (.int 199)) (eB gLen [(eVar 3)]))]))
    (sAsg (eBin (gAdd false) (eLc false (iRng1D [(eVar 4)]) [5] (putNm 5) ftYes (eTup [(eC (.str "set")), (eBin (gAdd false) (eVar 2) (eVar 5))])) (eVar 3)) (gSb (eBin gIx (eVar 0) (eC (.int 1))) (eVar 2)))))) sNext)

/-- k08; slots: 0 cell, 1 rows, 2 k, 3 at -/
def f_long_net (g_number_by : GS) : FS :=
  (sSeq (sSet 1 (eLst true []))
    (sSeq (sFor (iRng1D [(eC (.int 12))]) (gNm 2) (sDrop (eM mAppend (eVar 1) [(eLc false (iRng1D [(eBin (gAdd false) (eC (.int 180)) (eBin gMod (eVar 0) (eC (.int 20))))]) [3] (putNm 3) ftYes (eTup [(eC (.str "set")), (eCall g_number_by [(eBin (gAdd false) (eBin (gAdd false) (eVar 0) (eBin (gMul false) (eC (.int 7)) (eVar 2))) (eVar 3))])]))])))
    (sRet (eTup [(eLst false []), (eVar 1)]))))

/-- k08; slots: 0 net, 1 lists, 2 who -/
def f_settle (g_can_by g_step_by : GS) : FS :=
  (sSeq (sSet 2 (eC (.int 0)))
    (sWhile (tst (eBin gLt (eVar 2) (eB gLen [(eBin gIx (eVar 0) (eC (.int 1)))]))) (sIf (tst (eCall g_can_by [(eVar 0), (eVar 1), (eVar 2)])) (sSeq (sDrop (eCall g_step_by [(eVar 0), (eVar 1), (eVar 2)]))
    (sSet 2 (eC (.int 0)))) (sSet 2 (eBin (gAdd false) (eVar 2) (eC (.int 1)))))))

/-- k08; slots: 0 net, 1 lists, 2 who, 3 gone, 4 waits, 5 ring -/
def f_way (g_wait_by : GS) : FS :=
  (sSeq (sSet 2 (eC (.int 0)))
    (sSeq (sWhile (ftAnd (tst (eBin gLt (eVar 2) (eB gLen [(eBin gIx (eVar 0) (eC (.int 1)))]))) (tst (eBin gIsN (eCall g_wait_by [(eVar 0), (eVar 1), (eVar 2)]) (eC .non)))) (sSet 2 (eBin (gAdd false) (eVar 2) (eC (.int 1)))))
    (sSeq (sIf (tst (eBin (gEqN false) (eVar 2) (eB gLen [(eBin gIx (eVar 0) (eC (.int 1)))]))) (sRet (eC .non)) sNext)
    (sSeq (sSet 3 (eLst true []))
    (sSeq (sWhile (tst (eBin (gIn true) (eVar 2) (eVar 3))) (sSeq (sDrop (eM mAppend (eVar 3) [(eVar 2)]))
    (sSeq (sSet 4 (eCall g_wait_by [(eVar 0), (eVar 1), (eVar 2)]))
    (sSeq (sIf (tst (eBin gIsN (eVar 4) (eC .non))) (sRet (eTup [(eC (.str "end")), (eVar 3)])) sNext)
    (sSet 2 (eBin gIx (eVar 4) (eC (.int 1))))))))
    (sSeq (sSet 5 (eSlice false (eVar 3) (oPart (eM mIndex (eVar 3) [(eVar 2)])) oNo))
    (sSeq (sWhile (tst (eBin (gEqN true) (eBin gIx (eVar 5) (eC (.int 0))) (eB gMinL [(eVar 5)]))) (sSet 5 (eBin (gAdd false) (eSlice false (eVar 5) (oPart (eC (.int 1))) oNo) (eSlice false (eVar 5) oNo (oPart (eC (.int 1)))))))
    (sRet (eTup [(eC (.str "ring")), (eVar 5)])))))))))

/-- k08; slots: 0 found, 1 due, 2 who -/
def f_way_is (g_whole : GS) : FS :=
  (sSeq (sIf (tst (eBin gIsN (eVar 1) (eC .non))) (sRet (eBin gIsN (eVar 0) (eC .non))) sNext)
    (sSeq (sIf (ftOr (ftNot (tst (eIsi "tuple" (eVar 0)))) (ftOr (tst (eBin (gEqN true) (eB gLen [(eVar 0)]) (eC (.int 2)))) (ftNot (tst (eIsi "list" (eBin gIx (eVar 0) (eC (.int 1)))))))) (sRet (eC (.bl false))) sNext)
    (sSeq (sFor (iSeqD (eBin gIx (eVar 0) (eC (.int 1)))) (gNm 2) (sIf (ftNot (tst (eCall g_whole [(eVar 2)]))) (sRet (eC (.bl false))) sNext))
    (sRet (eAnd (eBin (gEqN false) (eBin gIx (eVar 0) (eC (.int 0))) (eBin gIx (eVar 1) (eC (.int 0)))) (eBin (gEqN false) (eBin gIx (eVar 0) (eC (.int 1))) (eBin gIx (eVar 1) (eC (.int 1)))))))))

/-- k08; slots: 0 script, 1 many, 2 picks, 3 k, 4 turn -/
def f_picks_by_k08 : FS :=
  (sSeq (sSet 2 (eLst true []))
    (sSeq (sFor (iRng3D [(eC (.int 11)), (eB gLen [(eVar 0)]), (eC (.int 3))]) (gNm 3) (sFor (iRng1D [(eBin (gAdd false) (eC (.int 1)) (eBin gMod (eBin gFdiv (eBin gIx (eVar 0) (eVar 3)) (eVar 1)) (eC (.int 4))))]) (gNm 4) (sDrop (eM mAppend (eVar 2) [(eBin gMod (eBin gIx (eVar 0) (eVar 3)) (eVar 1))]))))
    (sRet (eVar 2))))

/-- k08; slots: 0 script, 1 net, 2 lists, 3 picks, 4 handed, 5 state, 6 walked, 7 done, 8 who, 9 found, 10 behind, 11 due, 12 told -/
def f_law_k08 (g_run g_settled g_stuck g_cell_at g_net_by g_state_is g_can_by g_step_by g_begun g_copy_of g_lists_by g_frozen g_copy_lists g_lengthen g_long_net g_settle g_way g_way_is g_picks_by : GS) : FS :=
  (sSeq (sSet 1 (eCall g_net_by [(eVar 0), (eC (.int 10)), (eC (.int 3))]))
    (sSeq (sSet 2 (eCall g_lists_by [(eVar 0), (eVar 1)]))
    (sSeq (sDrop (eCall g_lengthen [(eVar 1), (eCall g_cell_at [(eVar 0), (eC (.int 8))])]))
    (sSeq (sIf (tst (eBin (gEqN false) (eBin gMod (eCall g_cell_at [(eVar 0), (eC (.int 8))]) (eC (.int 24))) (eC (.int 6)))) (sSeq (sSet 1 (eCall g_long_net [(eCall g_cell_at [(eVar 0), (eC (.int 7))])]))
    (sSet 2 (eCall g_begun [(eVar 1)]))) sNext)
    (sSeq (sSet 3 (eCall g_picks_by [(eVar 0), (eB gLen [(eBin gIx (eVar 1) (eC (.int 1)))])]))
    (sSeq (sSet 4 (eCall g_copy_of [(eVar 1)]))
    (sSeq (sSet 5 (eCall g_frozen [(eVar 2)]))
    (sSeq (sSet 6 (eCall g_copy_lists [(eVar 2)]))
    (sSeq (sSet 7 (eLst true []))
    (sSeq (sFor (iSeqD (eVar 3)) (gNm 8) (sSeq (sDrop (eM mAppend (eVar 7) [(eCall g_can_by [(eVar 1), (eVar 6), (eVar 8)])]))
    (sIf (tst (eBin gIx (eVar 7) (eUn gNeg (eC (.int 1))))) (sDrop (eCall g_step_by [(eVar 1), (eVar 6), (eVar 8)])) sNext)))
    (sSeq (sSet 9 (eCall g_run [(eVar 4), (eVar 5), (eB (gList false) [(eVar 3)])]))
    (sSeq (sIf (ftOr (ftNot (tst (eCall g_state_is [(eBin gIx (eVar 9) (eC (.int 0))), (eCall g_frozen [(eVar 6)])]))) (tst (eBin (gEqN true) (eBin gIx (eVar 9) (eC (.int 1))) (eVar 7)))) (sRet (eC (.bl false))) sNext)
    (sSeq (sSet 10 (eCall g_settled [(eVar 4), (eBin gIx (eVar 9) (eC (.int 0)))]))
    (sSeq (sDrop (eCall g_settle [(eVar 1), (eVar 2)]))
    (sSeq (sSet 11 (eCall g_frozen [(eVar 2)]))
    (sSeq (sSet 12 (eCall g_settled [(eVar 4), (eVar 5)]))
    (sSeq (sIf (ftOr (ftNot (tst (eCall g_state_is [(eVar 12), (eVar 11)]))) (ftOr (ftNot (tst (eCall g_state_is [(eVar 10), (eVar 11)]))) (tst (eBin (gEqN true) (eVar 4) (eVar 1))))) (sRet (eC (.bl false))) sNext)
    (sRet (eCall g_way_is [(eCall g_stuck [(eVar 4), (eVar 12)]), (eCall g_way [(eVar 1), (eVar 2)])])))))))))))))))))))

/-- k09; slots: 0 state, 1 net, 2 k, 3 told, 4 row -/
def f_formed (g_whole : GS) : FS :=
  (sSeq (sIf (ftOr (ftNot (tst (eIsi "tuple" (eVar 0)))) (tst (eBin (gEqN true) (eB gLen [(eVar 0)]) (eC (.int 4))))) (sRet (eC (.bl false))) sNext)
    (sSeq (sFor (iRng1D [(eC (.int 4))]) (gNm 2) (sIf (ftOr (ftNot (tst (eIsi "tuple" (eBin gIx (eVar 0) (eVar 2))))) (tst (eBin (gEqN true) (eB gLen [(eBin gIx (eVar 0) (eVar 2))]) (eB gLen [(eBin gIx (eVar 1) (eBin gSubI (eC (.int 1)) (eBin gFdiv (eVar 2) (eC (.int 2)))))])))) (sRet (eC (.bl false))) sNext))
    (sSeq (sFor (iRng1D [(eC (.int 2))]) (gNm 2) (sFor (iSeqD (eBin gIx (eVar 0) (eVar 2))) (gNm 3) (sIf (ftNot (tst (eCall g_whole [(eVar 3)]))) (sRet (eC (.bl false))) sNext)))
    (sSeq (sFor (iSeqD (eTup [(eC (.int 2)), (eC (.int 3))])) (gNm 2) (sFor (iSeqD (eBin gIx (eVar 0) (eVar 2))) (gNm 4) (sSeq (sIf (ftNot (tst (eIsi "tuple" (eVar 4)))) (sRet (eC (.bl false))) sNext)
    (sFor (iSeqD (eVar 4)) (gNm 3) (sIf (ftNot (tst (eCall g_whole [(eVar 3)]))) (sRet (eC (.bl false))) sNext)))))
    (sRet (eC (.bl true)))))))

/-- k09; slots: 0 net, 1 state, 2 who, 3 went, 4 came, 5 box, 6 order, 7 at -/
def f_alone : FS :=
  (sSeq (sSet 5 (eC (.int 0)))
    (sSeq (sIf (ftNot (tst (eChain gLe gLe (eC (.int 0)) (eBin gIx (eBin gIx (eVar 1) (eC (.int 0))) (eVar 2)) (eB gLen [(eBin gIx (eBin gIx (eVar 0) (eC (.int 1))) (eVar 2))])))) (sRet (eC (.bl false))) sNext)
    (sSeq (sFor (iSeqD (eSlice false (eBin gIx (eBin gIx (eVar 0) (eC (.int 1))) (eVar 2)) oNo (oPart (eBin gIx (eBin gIx (eVar 1) (eC (.int 0))) (eVar 2))))) (gNm 6) (sIf (tst (eBin (gEqN false) (eBin gIx (eVar 6) (eC (.int 0))) (eC (.str "set")))) (sSet 5 (eBin gIx (eVar 6) (eC (.int 1)))) (sIf (tst (eBin (gEqN false) (eBin gIx (eVar 6) (eC (.int 0))) (eC (.str "put")))) (sDrop (eM mAppend (eBin gIx (eVar 3) (eBin gIx (eVar 6) (eC (.int 1)))) [(eVar 5)])) (sSeq (sSet 7 (eBin gIx (eVar 4) (eBin gIx (eVar 6) (eC (.int 1)))))
    (sSeq (sIf (tst (eBin gGe (eVar 7) (eB gLen [(eBin gIx (eBin gIx (eVar 1) (eC (.int 3))) (eBin gIx (eVar 6) (eC (.int 1))))]))) (sRet (eC (.bl false))) sNext)
    (sSeq (sAsg (eBin (gAdd false) (eVar 7) (eC (.int 1))) (gSb (eVar 4) (eBin gIx (eVar 6) (eC (.int 1)))))
    (sSet 5 (eBin (gAdd false) (eBin gIx (eBin gIx (eBin gIx (eVar 1) (eC (.int 3))) (eBin gIx (eVar 6) (eC (.int 1)))) (eVar 7)) (eIf (tst (eBin (gEqN false) (eBin gIx (eVar 6) (eC (.int 0))) (eC (.str "add")))) (eVar 5) (eC (.int 0)))))))))))
    (sRet (eBin (gEqN false) (eVar 5) (eBin gIx (eBin gIx (eVar 1) (eC (.int 1))) (eVar 2)))))))

/-- k10; slots: 0 script, 1 net, 2 many, 3 mixed, 4 row, 5 sizes, 6 k, 7 places, 8 boxes, 9 pipe, 10 held, 11 past -/
def f_lists_by_k10 (g_cell_at g_number_by g_held_by : GS) : FS :=
  (sSeq (sSet 2 (eB gLen [(eBin gIx (eVar 1) (eC (.int 1)))]))
    (sSeq (sSet 3 (eBin (gAdd false) (eCall g_cell_at [(eVar 0), (eC (.int 2))]) (eBin (gMul false) (eCall g_cell_at [(eVar 0), (eC (.int 11))]) (eC (.int 31)))))
    (sSeq (sSet 5 (eLc false (iSeqD (eBin gIx (eVar 1) (eC (.int 1)))) [4] (putNm 4) ftYes (eBin (gAdd false) (eB gLen [(eVar 4)]) (eC (.int 1)))))
    (sSeq (sSet 7 (eLc false (iRng1D [(eVar 2)]) [6] (putNm 6) ftYes (eBin gFdiv (eBin gMod (eBin gFdiv (eBin (gAdd false) (eVar 3) (eBin (gMul false) (eC (.int 5)) (eVar 6))) (eBin (gAdd false) (eC (.int 1)) (eBin gMod (eVar 6) (eC (.int 3))))) (eBin gIx (eVar 5) (eVar 6))) (eBin (gAdd false) (eC (.int 1)) (eBin gMod (eVar 3) (eC (.int 3)))))))
    (sSeq (sSet 8 (eLc false (iRng1D [(eVar 2)]) [6] (putNm 6) ftYes (eCall g_number_by [(eBin (gAdd false) (eCall g_cell_at [(eVar 0), (eC (.int 12))]) (eBin (gMul false) (eC (.int 7)) (eVar 6)))])))
    (sSeq (sSet 10 (eLc false (iEnumD [(eBin gIx (eVar 1) (eC (.int 0)))]) [6, 9] (putTp [6, 9]) ftYes (eCall g_held_by [(eBin (gAdd false) (eCall g_cell_at [(eVar 0), (eBin (gAdd false) (eC (.int 9)) (eBin gMod (eVar 6) (eC (.int 4))))]) (eBin gFdiv (eVar 6) (eC (.int 4)))), (eBin gIx (eVar 9) (eC (.int 2))), (eVar 6)])))
    (sSeq (sSet 11 (eLc false (iRng1D [(eB gLen [(eBin gIx (eVar 1) (eC (.int 0)))])]) [6] (putNm 6) ftYes (eLst false [(eCall g_number_by [(eBin (gAdd false) (eVar 3) (eVar 6))]), (eVar 6)])))
    (sRet (eLst false [(eVar 7), (eVar 8), (eVar 10), (eVar 11)])))))))))

/-- k10; slots: 0 script, 1 many, 2 begun_here, 3 picks, 4 k, 5 turn -/
def f_picks_by_k10 : FS :=
  (sSeq (sSet 3 (eLst true []))
    (sSeq (sFor (iRng3D [(eVar 2), (eB gLen [(eVar 0)]), (eC (.int 3))]) (gNm 4) (sFor (iRng1D [(eBin (gAdd false) (eC (.int 1)) (eBin gMod (eBin gFdiv (eBin gIx (eVar 0) (eVar 4)) (eVar 1)) (eC (.int 4))))]) (gNm 5) (sDrop (eM mAppend (eVar 3) [(eBin gMod (eBin gIx (eVar 0) (eVar 4)) (eVar 1))]))))
    (sRet (eVar 3))))

/-- k10; slots: 0 state, 1 row -/
def f_lists_of : FS :=
  (sRet (eLst false [(eB (gList false) [(eBin gIx (eVar 0) (eC (.int 0)))]), (eB (gList false) [(eBin gIx (eVar 0) (eC (.int 1)))]), (eLc false (iSeqD (eBin gIx (eVar 0) (eC (.int 2)))) [1] (putNm 1) ftYes (eB (gList false) [(eVar 1)])), (eLc false (iSeqD (eBin gIx (eVar 0) (eC (.int 3)))) [1] (putNm 1) ftYes (eB (gList false) [(eVar 1)]))]))

/-- k10; slots: 0 state, 1 net, 2 k, 3 place, 4 row -/
def f_formed_k10 (g_whole : GS) : FS :=
  (sSeq (sIf (ftOr (ftNot (tst (eIsi "tuple" (eVar 0)))) (tst (eBin (gEqN true) (eB gLen [(eVar 0)]) (eC (.int 4))))) (sRet (eC (.bl false))) sNext)
    (sSeq (sFor (iRng1D [(eC (.int 4))]) (gNm 2) (sIf (ftOr (ftNot (tst (eIsi "tuple" (eBin gIx (eVar 0) (eVar 2))))) (tst (eBin (gEqN true) (eB gLen [(eBin gIx (eVar 0) (eVar 2))]) (eB gLen [(eBin gIx (eVar 1) (eBin gSubI (eC (.int 1)) (eBin gFdiv (eVar 2) (eC (.int 2)))))])))) (sRet (eC (.bl false))) sNext))
    (sSeq (sFor (iEnumTD [(eBin gIx (eVar 0) (eC (.int 0)))]) (gTp [2, 3]) (sIf (ftOr (ftNot (tst (eCall g_whole [(eVar 3)]))) (ftNot (tst (eChain gLe gLe (eC (.int 0)) (eVar 3) (eB gLen [(eBin gIx (eBin gIx (eVar 1) (eC (.int 1))) (eVar 2))]))))) (sRet (eC (.bl false))) sNext))
    (sSeq (sFor (iSeqD (eBin gIx (eVar 0) (eC (.int 2)))) (gNm 4) (sIf (ftNot (tst (eIsi "tuple" (eVar 4)))) (sRet (eC (.bl false))) sNext))
    (sRet (eC (.bl true)))))))

/-- k10; slots: 0 state, 1 first, 2 who, 3 at -/
def f_goes_on : FS :=
  (sSeq (sFor (iRng1D [(eB gLen [(eBin gIx (eVar 0) (eC (.int 0)))])]) (gNm 2) (sIf (tst (eBin gLt (eBin gIx (eBin gIx (eVar 1) (eC (.int 0))) (eVar 2)) (eBin gIx (eBin gIx (eVar 0) (eC (.int 0))) (eVar 2)))) (sRet (eC (.bl false))) sNext))
    (sSeq (sFor (iRng1D [(eB gLen [(eBin gIx (eVar 0) (eC (.int 3)))])]) (gNm 3) (sIf (tst (eBin (gEqN true) (eSlice false (eBin gIx (eBin gIx (eVar 1) (eC (.int 3))) (eVar 3)) oNo (oPart (eB gLen [(eBin gIx (eBin gIx (eVar 0) (eC (.int 3))) (eVar 3))]))) (eBin gIx (eBin gIx (eVar 0) (eC (.int 3))) (eVar 3)))) (sRet (eC (.bl false))) sNext))
    (sRet (eC (.bl true)))))

/-- k10; slots: 0 script, 1 net, 2 many, 3 handed, 4 ones, 5 others, 6 state, 7 first, 8 lists, 9 who, 10 picks, 11 found, 12 behind -/
def f_law_k10 (g_begin g_run g_settled g_cell_at g_net_by g_state_is g_can_by g_copy_of g_lists_by g_frozen g_picks_by g_lists_of g_formed g_goes_on : GS) : FS :=
  (sSeq (sSet 1 (eCall g_net_by [(eVar 0), (eC (.int 9)), (eC (.int 3))]))
    (sSeq (sSet 2 (eB gLen [(eBin gIx (eVar 1) (eC (.int 1)))]))
    (sSeq (sSet 3 (eCall g_copy_of [(eVar 1)]))
    (sSeq (sSet 4 (eCall g_picks_by [(eVar 0), (eVar 2), (eC (.int 10))]))
    (sSeq (sSet 5 (eCall g_picks_by [(eVar 0), (eVar 2), (eC (.int 11))]))
    (sSeq (sSet 6 (eCall g_begin [(eVar 3)]))
    (sSeq (sIf (tst (eBin (gEqN false) (eBin gMod (eCall g_cell_at [(eVar 0), (eC (.int 2))]) (eC (.int 2))) (eC (.int 1)))) (sSet 6 (eCall g_frozen [(eCall g_lists_by [(eVar 0), (eVar 1)])])) sNext)
    (sSeq (sSet 7 (eCall g_settled [(eVar 3), (eVar 6)]))
    (sSeq (sIf (ftOr (ftNot (tst (eCall g_formed [(eVar 7), (eVar 1)]))) (ftNot (tst (eCall g_goes_on [(eVar 6), (eVar 7)])))) (sRet (eC (.bl false))) sNext)
    (sSeq (sSet 8 (eCall g_lists_of [(eVar 7)]))
    (sSeq (sFor (iRng1D [(eVar 2)]) (gNm 9) (sIf (tst (eCall g_can_by [(eVar 1), (eVar 8), (eVar 9)])) (sRet (eC (.bl false))) sNext))
    (sSeq (sFor (iSeqD (eLst false [(eVar 4), (eBin (gAdd false) (eVar 4) (eVar 5))])) (gNm 10) (sSeq (sSet 11 (eCall g_settled [(eVar 3), (eBin gIx (eCall g_run [(eVar 3), (eVar 6), (eVar 10)]) (eC (.int 0)))]))
    (sIf (ftNot (tst (eCall g_state_is [(eVar 11), (eVar 7)]))) (sRet (eC (.bl false))) sNext)))
    (sSeq (sSet 12 (eCall g_run [(eVar 3), (eVar 7), (eVar 4)]))
    (sRet (eAnd (eCall g_state_is [(eBin gIx (eVar 12) (eC (.int 0))), (eVar 7)]) (eAnd (eBin (gEqN false) (eBin gIx (eVar 12) (eC (.int 1))) (eLc false (iSeqD (eVar 4)) [9] (putNm 9) ftYes (eC (.bl false)))) (eBin (gEqN false) (eVar 3) (eVar 1))))))))))))))))))

/-- k11; slots: 0 script, 1 many, 2 size, 3 turn, 4 k, 5 ring, 6 rows, 7 pipes, 8 room, 9 full, 10 who, 11 maker -/
def f_ring_net (g_cell_at : GS) : FS :=
  (sSeq (sSet 1 (eBin (gAdd false) (eC (.int 2)) (eBin gMod (eCall g_cell_at [(eVar 0), (eC (.int 3))]) (eC (.int 8)))))
    (sSeq (sSet 2 (eBin (gAdd false) (eC (.int 1)) (eBin gMod (eCall g_cell_at [(eVar 0), (eC (.int 4))]) (eVar 1))))
    (sSeq (sSet 3 (eIf (tst (eBin (gEqN false) (eBin gMod (eCall g_cell_at [(eVar 0), (eC (.int 5))]) (eC (.int 2))) (eC (.int 0)))) (eC (.int 1)) (eBin gSubI (eVar 1) (eC (.int 1)))))
    (sSeq (sSet 5 (eLc false (iRng1D [(eVar 2)]) [4] (putNm 4) ftYes (eBin gMod (eBin (gAdd false) (eCall g_cell_at [(eVar 0), (eC (.int 6))]) (eBin (gMul false) (eVar 3) (eVar 4))) (eVar 1))))
    (sSeq (sSet 6 (eLc true (iRng1D [(eVar 1)]) [4] (putNm 4) ftYes (eLst true [])))
    (sSeq (sSet 7 (eLst true []))
    (sSeq (sFor (iRng1D [(eVar 2)]) (gNm 4) (sSeq (sSet 8 (eBin (gAdd false) (eC (.int 1)) (eBin gMod (eCall g_cell_at [(eVar 0), (eBin (gAdd false) (eC (.int 7)) (eBin gMod (eVar 4) (eC (.int 3))))]) (eC (.int 3)))))
    (sDrop (eM mAppend (eVar 7) [(eTup [(eBin gIx (eVar 5) (eVar 4)), (eBin gIx (eVar 5) (eBin gMod (eBin (gAdd false) (eVar 4) (eC (.int 1))) (eVar 2))), (eVar 8)])]))))
    (sSeq (sSet 9 (eBin (gEqN false) (eBin gMod (eBin gFdiv (eCall g_cell_at [(eVar 0), (eC (.int 5))]) (eC (.int 2))) (eC (.int 2))) (eC (.int 0))))
    (sSeq (sFor (iRng1D [(eVar 2)]) (gNm 4) (sSeq (sIf (tst (eVar 9)) (sAsg (eLc true (iRng1D [(eBin (gAdd false) (eBin gIx (eBin gIx (eVar 7) (eVar 4)) (eC (.int 2))) (eC (.int 1)))]) [3] (putNm 3) ftYes (eTup [(eC (.str "put")), (eVar 4)])) (gSb (eVar 6) (eBin gIx (eVar 5) (eVar 4)))) sNext)
    (sSeq (sDrop (eM mAppend (eBin gIx (eVar 6) (eBin gIx (eVar 5) (eVar 4))) [(eTup [(eC (.str "take")), (eBin gMod (eBin gSubI (eBin (gAdd false) (eVar 4) (eVar 2)) (eC (.int 1))) (eVar 2))])]))
    (sDrop (eM mAppend (eBin gIx (eVar 6) (eBin gIx (eVar 5) (eVar 4))) [(eTup [(eC (.str "put")), (eVar 4)])])))))
    (sSeq (sFor (iRng1D [(eVar 1)]) (gNm 10) (sIf (tst (eBin (gIn true) (eVar 10) (eVar 5))) (sSeq (sSet 11 (eBin gIx (eVar 5) (eBin gMod (eCall g_cell_at [(eVar 0), (eBin (gAdd false) (eC (.int 8)) (eVar 10))]) (eVar 2))))
    (sSeq (sDrop (eM mAppend (eBin gIx (eVar 6) (eVar 10)) [(eTup [(eC (.str "take")), (eB gLen [(eVar 7)])])]))
    (sSeq (sDrop (eM mAppend (eBin gIx (eVar 6) (eVar 11)) [(eTup [(eC (.str "put")), (eB gLen [(eVar 7)])])]))
    (sDrop (eM mAppend (eVar 7) [(eTup [(eVar 11), (eVar 10), (eC (.int 1))])]))))) sNext))
    (sRet (eTup [(eVar 7), (eVar 6)]))))))))))))

/-- k11; slots: 0 net, 1 lists, 2 workers, 3 closed, 4 k, 5 who, 6 waits -/
def f_steps_on (g_whole g_wait_by : GS) : FS :=
  (sSeq (sFor (iEnumD [(eVar 2)]) (gTp [4, 5]) (sSeq (sIf (ftOr (ftNot (tst (eCall g_whole [(eVar 5)]))) (ftOr (tst (eBin (gIn false) (eVar 5) (eSlice false (eVar 2) oNo (oPart (eVar 4))))) (ftNot (tst (eChain gLe gLt (eC (.int 0)) (eVar 5) (eB gLen [(eBin gIx (eVar 0) (eC (.int 1)))])))))) (sRet (eC (.bl false))) sNext)
    (sSeq (sIf (ftAnd (tst (eBin (gEqN false) (eVar 4) (eBin gSubI (eB gLen [(eVar 2)]) (eC (.int 1))))) (ftNot (tst (eVar 3)))) (sRet (eBin gGe (eBin gIx (eBin gIx (eVar 1) (eC (.int 0))) (eVar 5)) (eB gLen [(eBin gIx (eBin gIx (eVar 0) (eC (.int 1))) (eVar 5))]))) sNext)
    (sSeq (sSet 6 (eCall g_wait_by [(eVar 0), (eVar 1), (eVar 5)]))
    (sIf (ftOr (tst (eBin gIsN (eVar 6) (eC .non))) (tst (eBin (gEqN true) (eBin gIx (eVar 6) (eC (.int 1))) (eBin gIx (eVar 2) (eBin gMod (eBin (gAdd false) (eVar 4) (eC (.int 1))) (eB gLen [(eVar 2)])))))) (sRet (eC (.bl false))) sNext)))))
    (sRet (eBin gGt (eB gLen [(eVar 2)]) (eC (.int 0)))))

/-- k11; slots: 0 net, 1 lists, 2 who, 3 ring, 4 turn, 5 waits -/
def f_comes_to (g_wait_by : GS) : FS :=
  (sSeq (sFor (iRng1D [(eB gLen [(eBin gIx (eVar 0) (eC (.int 1)))])]) (gNm 4) (sSeq (sIf (tst (eBin (gIn false) (eVar 2) (eVar 3))) (sRet (eC (.bl true))) sNext)
    (sSeq (sSet 5 (eCall g_wait_by [(eVar 0), (eVar 1), (eVar 2)]))
    (sSeq (sIf (tst (eBin gIsN (eVar 5) (eC .non))) (sRet (eC (.bl false))) sNext)
    (sSet 2 (eBin gIx (eVar 5) (eC (.int 1))))))))
    (sRet (eBin (gIn false) (eVar 2) (eVar 3))))

/-- k11; slots: 0 net, 1 lists, 2 found, 3 waiting -/
def f_why (g_even g_steps_on g_comes_to : GS) : FS :=
  (sSeq (sIf (ftOr (ftNot (tst (eIsi "tuple" (eVar 2)))) (ftOr (tst (eBin (gEqN true) (eB gLen [(eVar 2)]) (eC (.int 2)))) (ftNot (tst (eIsi "list" (eBin gIx (eVar 2) (eC (.int 1)))))))) (sRet (eC (.bl false))) sNext)
    (sSeq (sIf (ftNot (tst (eCall g_steps_on [(eVar 0), (eVar 1), (eBin gIx (eVar 2) (eC (.int 1))), (eBin (gEqN false) (eBin gIx (eVar 2) (eC (.int 0))) (eC (.str "ring")))]))) (sRet (eC (.bl false))) sNext)
    (sSeq (sIf (tst (eBin (gEqN false) (eBin gIx (eVar 2) (eC (.int 0))) (eC (.str "ring")))) (sRet (eAnd (eBin (gEqN false) (eBin gIx (eBin gIx (eVar 2) (eC (.int 1))) (eC (.int 0))) (eB gMinL [(eBin gIx (eVar 2) (eC (.int 1)))])) (eCall g_comes_to [(eVar 0), (eVar 1), (eBin gIx (eVar 3) (eC (.int 0))), (eBin gIx (eVar 2) (eC (.int 1)))]))) sNext)
    (sRet (eAnd (eBin (gEqN false) (eBin gIx (eVar 2) (eC (.int 0))) (eC (.str "end"))) (eAnd (eBin (gEqN false) (eBin gIx (eBin gIx (eVar 2) (eC (.int 1))) (eC (.int 0))) (eBin gIx (eVar 3) (eC (.int 0)))) (eNot (eCall g_even [(eVar 0)]))))))))

/-- k11; slots: 0 script, 1 net, 2 handed, 3 state, 4 row, 5 lists, 6 found, 7 who, 8 able, 9 waiting, 10 pipe -/
def f_law_k11 (g_begin g_run g_settled g_stuck g_balanced g_cell_at g_net_by g_wait_by g_can_by g_copy_of g_picks_by g_ring_net g_even g_why : GS) : FS :=
  (sSeq (sSet 1 (eCall g_net_by [(eVar 0), (eC (.int 10)), (eC (.int 2))]))
    (sSeq (sIf (tst (eBin (gEqN false) (eBin gMod (eCall g_cell_at [(eVar 0), (eC (.int 2))]) (eC (.int 3))) (eC (.int 1)))) (sSet 1 (eCall g_ring_net [(eVar 0)])) sNext)
    (sSeq (sSet 2 (eCall g_copy_of [(eVar 1)]))
    (sSeq (sSet 3 (eBin gIx (eCall g_run [(eVar 2), (eCall g_begin [(eVar 2)]), (eCall g_picks_by [(eVar 0), (eB gLen [(eBin gIx (eVar 1) (eC (.int 1)))])])]) (eC (.int 0))))
    (sSeq (sIf (tst (eBin gGt (eBin gMod (eCall g_cell_at [(eVar 0), (eC (.int 2))]) (eC (.int 3))) (eC (.int 0)))) (sSet 3 (eCall g_settled [(eVar 2), (eVar 3)])) sNext)
    (sSeq (sSet 5 (eLst false [(eB (gList false) [(eBin gIx (eVar 3) (eC (.int 0)))]), (eB (gList false) [(eBin gIx (eVar 3) (eC (.int 1)))]), (eLc false (iSeqD (eBin gIx (eVar 3) (eC (.int 2)))) [4] (putNm 4) ftYes (eB (gList false) [(eVar 4)])), (eLc false (iSeqD (eBin gIx (eVar 3) (eC (.int 3)))) [4] (putNm 4) ftYes (eB (gList false) [(eVar 4)]))]))
    (sSeq (sSet 6 (eCall g_stuck [(eVar 2), (eVar 3)]))
    (sSeq (sSet 8 (eLc false (iRng1D [(eB gLen [(eBin gIx (eVar 1) (eC (.int 1)))])]) [7] (putNm 7) (tst (eCall g_can_by [(eVar 1), (eVar 5), (eVar 7)])) (eVar 7)))
    (sSeq (sSet 9 (eLc false (iRng1D [(eB gLen [(eBin gIx (eVar 1) (eC (.int 1)))])]) [7] (putNm 7) (tst (eBin gNotN (eCall g_wait_by [(eVar 1), (eVar 5), (eVar 7)]) (eC .non))) (eVar 7)))
    (sSeq (sIf (ftOr (tst (eBin (gEqN true) (eCall g_balanced [(eVar 2)]) (eCall g_even [(eVar 1)]))) (tst (eBin (gEqN true) (eVar 2) (eVar 1)))) (sRet (eC (.bl false))) sNext)
    (sSeq (sIf (ftOr (tst (eBin gGt (eB gLen [(eVar 8)]) (eC (.int 0)))) (tst (eBin (gEqN false) (eB gLen [(eVar 9)]) (eC (.int 0))))) (sSeq (sIf (ftAnd (tst (eBin (gEqN false) (eB gLen [(eVar 8)]) (eC (.int 0)))) (ftAnd (tst (eCall g_even [(eVar 1)])) (tst (eBin (gEqN true) (eBin gIx (eVar 5) (eC (.int 2))) (eLc false (iSeqD (eBin gIx (eVar 1) (eC (.int 0)))) [10] (putNm 10) ftYes (eLst false [])))))) (sRet (eC (.bl false))) sNext)
    (sRet (eBin gIsN (eVar 6) (eC .non)))) sNext)
    (sRet (eCall g_why [(eVar 1), (eVar 5), (eVar 6), (eVar 9)])))))))))))))

/-- k12; slots: 0 state, 1 net, 2 k, 3 place, 4 row -/
def f_formed_k12 (g_whole : GS) : FS :=
  (sSeq (sIf (ftOr (ftNot (tst (eIsi "tuple" (eVar 0)))) (tst (eBin (gEqN true) (eB gLen [(eVar 0)]) (eC (.int 4))))) (sRet (eC (.bl false))) sNext)
    (sSeq (sFor (iRng1D [(eC (.int 4))]) (gNm 2) (sIf (ftOr (ftNot (tst (eIsi "tuple" (eBin gIx (eVar 0) (eVar 2))))) (tst (eBin (gEqN true) (eB gLen [(eBin gIx (eVar 0) (eVar 2))]) (eB gLen [(eBin gIx (eVar 1) (eBin gSubI (eC (.int 1)) (eBin gFdiv (eVar 2) (eC (.int 2)))))])))) (sRet (eC (.bl false))) sNext))
    (sSeq (sFor (iEnumTD [(eBin gIx (eVar 0) (eC (.int 0)))]) (gTp [2, 3]) (sIf (ftOr (ftNot (tst (eCall g_whole [(eVar 3)]))) (ftNot (tst (eChain gLe gLe (eC (.int 0)) (eVar 3) (eB gLen [(eBin gIx (eBin gIx (eVar 1) (eC (.int 1))) (eVar 2))]))))) (sRet (eC (.bl false))) sNext))
    (sSeq (sFor (iSeqD (eBin gIx (eVar 0) (eC (.int 3)))) (gNm 4) (sIf (ftNot (tst (eIsi "tuple" (eVar 4)))) (sRet (eC (.bl false))) sNext))
    (sRet (eC (.bl true)))))))

/-- k12; slots: 0 script, 1 net, 2 more, 3 row, 4 handed, 5 wide, 6 pipe, 7 narrow, 8 found, 9 who, 10 at -/
def f_law_k12 (g_widened g_begin g_settled g_cell_at g_net_by g_state_is g_formed : GS) : FS :=
  (sSeq (sSet 1 (eCall g_net_by [(eVar 0), (eC (.int 10)), (eC (.int 2))]))
    (sSeq (sSet 2 (eBin gMod (eCall g_cell_at [(eVar 0), (eC (.int 9))]) (eC (.int 4))))
    (sSeq (sIf (tst (eBin (gEqN false) (eBin gMod (eBin gFdiv (eCall g_cell_at [(eVar 0), (eC (.int 9))]) (eC (.int 4))) (eC (.int 3))) (eC (.int 2)))) (sSet 2 (eBin gMod (eBin gFdiv (eCall g_cell_at [(eVar 0), (eC (.int 9))]) (eC (.int 12))) (eC (.int 1201)))) sNext)
    (sSeq (sSet 4 (eTup [(eB (gList false) [(eBin gIx (eVar 1) (eC (.int 0)))]), (eLc false (iSeqD (eBin gIx (eVar 1) (eC (.int 1)))) [3] (putNm 3) ftYes (eB (gList false) [(eVar 3)]))]))
    (sSeq (sSet 5 (eCall g_widened [(eVar 4), (eVar 2)]))
    (sSeq (sIf (tst (eBin (gEqN true) (eVar 5) (eTup [(eLc false (iSeqD (eBin gIx (eVar 1) (eC (.int 0)))) [6] (putNm 6) ftYes (eTup [(eBin gIx (eVar 6) (eC (.int 0))), (eBin gIx (eVar 6) (eC (.int 1))), (eB gMin2 [(eC (.int 1000)), (eBin (gAdd false) (eBin gIx (eVar 6) (eC (.int 2))) (eVar 2))])])), (eBin gIx (eVar 1) (eC (.int 1)))]))) (sRet (eC (.bl false))) sNext)
    (sSeq (sSet 7 (eCall g_settled [(eVar 4), (eCall g_begin [(eVar 4)])]))
    (sSeq (sSet 8 (eCall g_settled [(eVar 5), (eCall g_begin [(eVar 5)])]))
    (sSeq (sIf (ftOr (ftNot (tst (eCall g_formed [(eVar 7), (eVar 1)]))) (ftOr (ftNot (tst (eCall g_formed [(eVar 8), (eVar 1)]))) (tst (eBin (gEqN true) (eVar 4) (eVar 1))))) (sRet (eC (.bl false))) sNext)
    (sSeq (sFor (iRng1D [(eB gLen [(eBin gIx (eVar 1) (eC (.int 1)))])]) (gNm 9) (sIf (tst (eBin gLt (eBin gIx (eBin gIx (eVar 8) (eC (.int 0))) (eVar 9)) (eBin gIx (eBin gIx (eVar 7) (eC (.int 0))) (eVar 9)))) (sRet (eC (.bl false))) sNext))
    (sSeq (sFor (iRng1D [(eB gLen [(eBin gIx (eVar 1) (eC (.int 0)))])]) (gNm 10) (sIf (tst (eBin (gEqN true) (eSlice false (eBin gIx (eBin gIx (eVar 8) (eC (.int 3))) (eVar 10)) oNo (oPart (eB gLen [(eBin gIx (eBin gIx (eVar 7) (eC (.int 3))) (eVar 10))]))) (eBin gIx (eBin gIx (eVar 7) (eC (.int 3))) (eVar 10)))) (sRet (eC (.bl false))) sNext))
    (sSeq (sIf (tst (eBin (gEqN false) (eLc false (iSeqD (eBin gIx (eVar 1) (eC (.int 1)))) [3] (putNm 3) ftYes (eB gLen [(eVar 3)])) (eB (gList false) [(eBin gIx (eVar 7) (eC (.int 0)))]))) (sRet (eCall g_state_is [(eVar 8), (eVar 7)])) sNext)
    (sRet (eC (.bl true)))))))))))))))
end DL
namespace DL
open PySem PySem.Spec PyProof.Rows L2

/-! ### words of the plain world -/
theorem seq_cut {t u : FS} {D' : EndsD} {ds : DS} {M : Sto} (P : DS → Sto → Prop) (h1 : ∀ nx : DS → Sto → Prop, (∀ ds M, P ds M → nx ds M) → t { D' with nx := nx } ds M) (h2 : ∀ ds M, P ds M → u D' ds M) : sSeq t u D' ds M := h1 _ h2
theorem forW_inv {ok : Sto → Prop} {g : FG} {b : FS} {D' : EndsD} : ∀ {xs : List D} {ds : DS} {M : Sto} (I : Nat → DS → Sto → Prop) (h0 : I 0 ds M) (hok : ∀ i ds M, i ≤ xs.length → I i ds M → ok M)
    (step : ∀ i d ds M (nx : DS → Sto → Prop), xs[i]? = some d → I i ds M → (∀ ds M, I (i + 1) ds M → nx ds M) → g d ds M (fun ds1 M1 => b { D' with nx := nx, ct := nx, bk := D'.nx } ds1 M1) (fun n M1 => D'.ex n ds M1))
    (done : ∀ ds M, I xs.length ds M → D'.nx ds M), forW ok g b xs D' ds M
  | [], ds, M, I, h0, hok, _, done => ⟨hok 0 ds M (Nat.le_refl _) h0, done ds M h0⟩
  | d :: r, ds, M, I, h0, hok, step, done => ⟨hok 0 ds M (Nat.zero_le _) h0, step 0 d ds M _ rfl h0 fun ds1 M1 h1 =>
      forW_inv (xs := r) (fun i => I (i + 1)) h1 (fun i ds M hi h => hok (i + 1) ds M (Nat.succ_le_succ hi) h) (fun i d ds M nx e h k => step (i + 1) d ds M nx (by simpa using e) h k) done⟩
/-- a comprehension that keeps the store -/
theorem lc_map {α : Type} {ok : Sto → Prop} {vs : List Nat} {put : Put} {e : FE} {ds : DS} {M : Sto} {Q : List D → Sto → Prop} (f F : α → D) (hok : ok M) : ∀ (L : List α) (acc : List D),
    (∀ a ∈ L, ∀ Q : KQ, Q (F a) M → put (f a) (wipeD ds vs) fun dx => e dx M Q noE) → Q (acc ++ L.map F) M → lcW ok vs put ftYes e (L.map f) acc ds M Q
  | [], acc, _, h => ⟨hok, by simpa using h⟩
  | a :: L, acc, hel, h => by
    refine ⟨hok, ?_⟩
    have h1 := hel a List.mem_cons_self (fun y M2 => lcW ok vs put ftYes e (L.map f) (acc ++ [y]) ds M2 Q) (lc_map f F hok L (acc ++ [F a]) (fun b hb => hel b (List.mem_cons_of_mem _ hb)) (by simpa using h))
    exact h1
theorem atI_nn {α : Type} {xs : List α} {i : Nat} : atI xs (i : Int) = xs[i]? := by
  unfold atI ixN
  rw [if_pos (Int.natCast_nonneg i)]
  by_cases h : i < xs.length
  · rw [if_pos (by omega)]
    rfl
  · rw [if_neg (by omega), List.getElem?_eq_none (by omega)]
    rfl
theorem atI_0 {α : Type} {xs : List α} : atI xs 0 = xs[0]? := atI_nn (i := 0)
theorem atI_1 {α : Type} {xs : List α} : atI xs 1 = xs[1]? := atI_nn (i := 1)
theorem atI_2 {α : Type} {xs : List α} : atI xs 2 = xs[2]? := atI_nn (i := 2)
theorem atI_3 {α : Type} {xs : List α} : atI xs 3 = xs[3]? := atI_nn (i := 3)

/-! ### nets and states -/
inductive Od where
  | set (n : Int) | put (p : Nat) | take (p : Nat) | add (p : Nat)
  deriving DecidableEq
structure Pip where
  ma : Nat
  ta : Nat
  ro : Nat
  deriving DecidableEq
structure Net where
  pipes : List Pip
  rows : List (List Od)
structure Sta where
  places : List Nat
  boxes : List Int
  held : List (List Int)
  past : List (List Int)
def Od.raw : Od → Str × Int
  | .set n => ("set", n)
  | .put p => ("put", (p : Int))
  | .take p => ("take", (p : Int))
  | .add p => ("add", (p : Int))
def encR (o : Str × Int) : D := .tup [.str o.1, .int o.2]
def encO (o : Od) : D := encR o.raw
def encP (p : Pip) : D := .tup [.int p.ma, .int p.ta, .int p.ro]
def encRow (r : List Od) : D := .lst (r.map encO)
def encNet (N : Net) : D := .tup [.lst (N.pipes.map encP), .lst (N.rows.map encRow)]
def nats (xs : List Nat) : List D := xs.map fun (n : Nat) => D.int n
def encT (xs : List Int) : D := .tup (xs.map D.int)
def encSt (S : Sta) : D := .tup [.tup (nats S.places), .tup (S.boxes.map D.int), .tup (S.held.map encT), .tup (S.past.map encT)]
def Net.W (N : Net) : Nat := N.rows.length
def Net.P (N : Net) : Nat := N.pipes.length
/-- what is let by, within the bounds -/
structure NetOk (N : Net) : Prop where
  few : N.W ≤ 1000
  fewP : N.P ≤ 1000
  short : ∀ row ∈ N.rows, row.length ≤ 1000
  pipes : ∀ p ∈ N.pipes, p.ma < N.W ∧ p.ta < N.W ∧ 1 ≤ p.ro ∧ p.ro ≤ 1000
  ords : ∀ row ∈ N.rows, ∀ o ∈ row, ∀ p, (o = .put p ∨ o = .take p ∨ o = .add p) → p < N.P
/-- a state of it -/
structure Good (N : Net) (S : Sta) : Prop where
  ok : NetOk N
  pl : S.places.length = N.W
  bx : S.boxes.length = N.W
  hl : S.held.length = N.P
  ps : S.past.length = N.P
  hs : ∀ xs ∈ S.held, xs.length ≤ 1000000
  pz : ∀ xs ∈ S.past, xs.length ≤ 1000000
def Net.row (N : Net) (w : Nat) : List Od := N.rows.getD w []
def Net.pip (N : Net) (p : Nat) : Pip := N.pipes.getD p ⟨0, 0, 0⟩
def Sta.pl (S : Sta) (w : Nat) : Nat := S.places.getD w 0
def Sta.bx (S : Sta) (w : Nat) : Int := S.boxes.getD w 0
def Sta.hl (S : Sta) (p : Nat) : List Int := S.held.getD p []
def Sta.ps (S : Sta) (p : Nat) : List Int := S.past.getD p []
def thru (N : Net) (S : Sta) (w : Nat) : Bool := decide ((N.row w).length ≤ S.pl w)
def ordOf (N : Net) (S : Sta) (w : Nat) : Od := (N.row w).getD (S.pl w) (.set 0)
def waitO (N : Net) (S : Sta) : Od → Option (Nat × Nat)
  | .set _ => none
  | .put p => if (N.pip p).ro ≤ (S.hl p).length then some (p, (N.pip p).ta) else none
  | .take p => if (S.hl p).length = 0 then some (p, (N.pip p).ma) else none
  | .add p => if (S.hl p).length = 0 then some (p, (N.pip p).ma) else none
def waitN (N : Net) (S : Sta) (w : Nat) : Option (Nat × Nat) := if thru N S w then none else waitO N S (ordOf N S w)
def canN (N : Net) (S : Sta) (w : Nat) : Bool := !thru N S w && (waitN N S w).isNone
def stepO (S : Sta) (w : Nat) : Od → Sta
  | .set n => { S with places := S.places.set w (S.pl w + 1), boxes := S.boxes.set w n }
  | .put p => { S with places := S.places.set w (S.pl w + 1), boxes := S.boxes.set w (S.bx w), held := S.held.set p (S.hl p ++ [S.bx w]) }
  | .take p => { places := S.places.set w (S.pl w + 1), boxes := S.boxes.set w ((S.hl p).headD 0), held := S.held.set p (S.hl p).tail, past := S.past.set p (S.ps p ++ [(S.hl p).headD 0]) }
  | .add p => { places := S.places.set w (S.pl w + 1), boxes := S.boxes.set w (S.bx w + (S.hl p).headD 0), held := S.held.set p (S.hl p).tail, past := S.past.set p (S.ps p ++ [(S.hl p).headD 0]) }
def stepN (N : Net) (S : Sta) (w : Nat) : Sta := stepO S w (ordOf N S w)
def encW : Option (Nat × Nat) → D
  | none => .non
  | some (p, w) => .tup [.int p, .int w]

section
variable {N : Net} {S : Sta} {w : Nat}
theorem getD_of {α : Type} {l : List α} {i : Nat} {d : α} (h : i < l.length) : l[i]? = some (l.getD i d) := by
  rw [List.getD_eq_getElem?_getD, List.getElem?_eq_getElem h, Option.getD_some]
theorem row_at (h : w < N.W) : N.rows[w]? = some (N.row w) := getD_of h
theorem row_mem (h : w < N.W) : N.row w ∈ N.rows := List.mem_of_getElem? (row_at h)
theorem pip_at {p : Nat} (h : p < N.P) : N.pipes[p]? = some (N.pip p) := getD_of h
theorem pip_mem {p : Nat} (h : p < N.P) : N.pip p ∈ N.pipes := List.mem_of_getElem? (pip_at h)
theorem pl_at (g : Good N S) (h : w < N.W) : S.places[w]? = some (S.pl w) := getD_of (by rw [g.pl]; exact h)
theorem bx_at (g : Good N S) (h : w < N.W) : S.boxes[w]? = some (S.bx w) := getD_of (by rw [g.bx]; exact h)
theorem hl_at (g : Good N S) {p : Nat} (h : p < N.P) : S.held[p]? = some (S.hl p) := getD_of (by rw [g.hl]; exact h)
theorem ps_at (g : Good N S) {p : Nat} (h : p < N.P) : S.past[p]? = some (S.ps p) := getD_of (by rw [g.ps]; exact h)
theorem hl_mem (g : Good N S) {p : Nat} (h : p < N.P) : S.hl p ∈ S.held := List.mem_of_getElem? (hl_at g h)
theorem ps_mem (g : Good N S) {p : Nat} (h : p < N.P) : S.ps p ∈ S.past := List.mem_of_getElem? (ps_at g h)
theorem ord_at (h : thru N S w = false) : (N.row w)[S.pl w]? = some (ordOf N S w) := getD_of (by
  have := of_decide_eq_false h
  omega)
theorem ord_p (g : Good N S) (hw : w < N.W) (h : thru N S w = false) {p : Nat} (e : ordOf N S w = .put p ∨ ordOf N S w = .take p ∨ ordOf N S w = .add p) : p < N.P :=
  g.ok.ords _ (row_mem hw) _ (List.mem_of_getElem? (ord_at h)) p e
end
/-- a number that may be a worker -/
def isW (N : Net) (who : Int) : Prop := 0 ≤ who ∧ who < N.W
instance {N : Net} {who : Int} : Decidable (isW N who) := inferInstanceAs (Decidable (_ ∧ _))
def G_need_worker : GS := fun ds M Q E => ∃ N who, ds = [encNet N, .int who] ∧ if isW N who then Q .non M else E "NoWorker" M
def G_is_through : GS := fun ds M Q E => ∃ N S who, ds = [encNet N, encSt S, .int who] ∧ Good N S ∧ if isW N who then Q (.bl (thru N S who.toNat)) M else E "NoWorker" M
def G_wait_of : GS := fun ds M Q E => ∃ N S who, ds = [encNet N, encSt S, .int who] ∧ Good N S ∧ if isW N who then Q (encW (waitN N S who.toNat)) M else E "NoWorker" M
def G_can_step : GS := fun ds M Q E => ∃ N S who, ds = [encNet N, encSt S, .int who] ∧ Good N S ∧ if isW N who then Q (.bl (canN N S who.toNat)) M else E "NoWorker" M
def G_with_at : GS := fun ds M Q E => ∃ xs i v, ds = [.tup xs, .int ((i : Nat) : Int), v] ∧ i < xs.length ∧ xs.length ≤ 1000000 ∧ Q (.tup (xs.set i v)) M
def G_step : GS := fun ds M Q E => ∃ N S who, ds = [encNet N, encSt S, .int who] ∧ Good N S ∧
  if isW N who then (if thru N S who.toNat then E "IsThrough" M else if (waitN N S who.toNat).isSome then E "HasToWait" M else Q (encSt (stepN N S who.toNat)) M) else E "NoWorker" M

section
variable {N : Net} {S : Sta} {w : Nat} {who : Int} {M : Sto}
theorem isW_of (h : w < N.W) : isW N (w : Int) := ⟨Int.natCast_nonneg w, by omega⟩
theorem nw_ok (h : w < N.W) : ∀ (Q : KQ) (E : KE), Q .non M → G_need_worker [encNet N, .int w] M Q E := fun Q E q => ⟨N, w, rfl, by rw [if_pos (isW_of h)]; exact q⟩
theorem nw_ex (h : ¬ isW N who) : ∀ (Q : KQ) (E : KE), E "NoWorker" M → G_need_worker [encNet N, .int who] M Q E := fun Q E q => ⟨N, who, rfl, by rw [if_neg h]; exact q⟩
theorem it_ok (g : Good N S) (h : w < N.W) : ∀ (Q : KQ) (E : KE), Q (.bl (thru N S w)) M → G_is_through [encNet N, encSt S, .int w] M Q E := fun Q E q => ⟨N, S, w, rfl, g, by rw [if_pos (isW_of h)]; exact q⟩
theorem it_ex (g : Good N S) (h : ¬ isW N who) : ∀ (Q : KQ) (E : KE), E "NoWorker" M → G_is_through [encNet N, encSt S, .int who] M Q E := fun Q E q => ⟨N, S, who, rfl, g, by rw [if_neg h]; exact q⟩
theorem wo_ok (g : Good N S) (h : w < N.W) : ∀ (Q : KQ) (E : KE), Q (encW (waitN N S w)) M → G_wait_of [encNet N, encSt S, .int w] M Q E := fun Q E q => ⟨N, S, w, rfl, g, by rw [if_pos (isW_of h)]; exact q⟩
theorem wo_ex (g : Good N S) (h : ¬ isW N who) : ∀ (Q : KQ) (E : KE), E "NoWorker" M → G_wait_of [encNet N, encSt S, .int who] M Q E := fun Q E q => ⟨N, S, who, rfl, g, by rw [if_neg h]; exact q⟩
theorem cs_ok (g : Good N S) (h : w < N.W) : ∀ (Q : KQ) (E : KE), Q (.bl (canN N S w)) M → G_can_step [encNet N, encSt S, .int w] M Q E := fun Q E q => ⟨N, S, w, rfl, g, by rw [if_pos (isW_of h)]; exact q⟩
theorem cs_ex (g : Good N S) (h : ¬ isW N who) : ∀ (Q : KQ) (E : KE), E "NoWorker" M → G_can_step [encNet N, encSt S, .int who] M Q E := fun Q E q => ⟨N, S, who, rfl, g, by rw [if_neg h]; exact q⟩
theorem st_ok (g : Good N S) (h : w < N.W) (hc : canN N S w = true) : ∀ (Q : KQ) (E : KE), Q (encSt (stepN N S w)) M → G_step [encNet N, encSt S, .int w] M Q E := fun Q E q => by
  refine ⟨N, S, w, rfl, g, ?_⟩
  unfold canN at hc
  simp only [Bool.and_eq_true, Bool.not_eq_true'] at hc
  rw [if_pos (isW_of h), Int.toNat_natCast, hc.1, if_neg Bool.false_ne_true, if_neg (by rw [Option.isNone_iff_eq_none] at hc; rw [hc.2]; exact Bool.false_ne_true)]
  exact q
end
theorem sn_set_put : ((("set" : Str) = "put")) = False := eq_false (by decide +kernel)
theorem sn_set_take : ((("set" : Str) = "take")) = False := eq_false (by decide +kernel)
theorem sn_set_add : ((("set" : Str) = "add")) = False := eq_false (by decide +kernel)
theorem sn_put_set : ((("put" : Str) = "set")) = False := eq_false (by decide +kernel)
theorem sn_put_take : ((("put" : Str) = "take")) = False := eq_false (by decide +kernel)
theorem sn_put_add : ((("put" : Str) = "add")) = False := eq_false (by decide +kernel)
theorem sn_take_set : ((("take" : Str) = "set")) = False := eq_false (by decide +kernel)
theorem sn_take_put : ((("take" : Str) = "put")) = False := eq_false (by decide +kernel)
theorem sn_take_add : ((("take" : Str) = "add")) = False := eq_false (by decide +kernel)
theorem sn_add_set : ((("add" : Str) = "set")) = False := eq_false (by decide +kernel)
theorem sn_add_put : ((("add" : Str) = "put")) = False := eq_false (by decide +kernel)
theorem sn_add_take : ((("add" : Str) = "take")) = False := eq_false (by decide +kernel)

/-! ### one statement after the other -/
/-- what an expression gives, and the store behind it -/
def Ev (f : FE) (ds : DS) (M : Sto) (d : D) (M1 : Sto) : Prop := ∀ (Q : KQ) (E : KE), Q d M1 → f ds M Q E
def Tv (f : FT) (ds : DS) (M : Sto) (b : Bool) (M1 : Sto) : Prop := ∀ (Q : Bool → Sto → Prop) (E : KE), Q b M1 → f ds M Q E
def Ex (f : FE) (ds : DS) (M : Sto) (n : Str) (M1 : Sto) : Prop := ∀ (Q : KQ) (E : KE), E n M1 → f ds M Q E
def Av (fs : List FE) (ds : DS) (M : Sto) (xs : List D) (M1 : Sto) : Prop := ∀ (Q : List D → Sto → Prop) (E : KE), Q xs M1 → args fs ds M Q E
section
variable {f : FE} {fs : List FE} {c : FT} {t u e : FS} {D' : EndsD} {ds : DS} {M M1 M2 : Sto} {d : D} {b : Bool} {i : Nat} {n : Str} {G : GS} {xs : List D}
theorem st_set (he : Ev f ds M d M1) (h : t D' (ds.set i (some d)) M1) : sSeq (sSet i f) t D' ds M := he _ _ h
theorem st_drop (he : Ev f ds M d M1) (h : t D' ds M1) : sSeq (sDrop f) t D' ds M := he _ _ h
theorem st_ret (he : Ev f ds M d M1) (h : D'.rt d M1) : sRet f D' ds M := he _ _ h
theorem st_ret2 (he : Ev f ds M d M1) (h : D'.rt d M1) : sSeq (sRet f) t D' ds M := he _ _ h
theorem st_raise (h : D'.ex n ds M) : sRaise n D' ds M := h
/-- an if whose way is known -/
theorem st_if1 (hc : Tv c ds M true M1) (h : sSeq t u D' ds M1) : sSeq (sIf c t e) u D' ds M := hc _ _ h
theorem st_if0 (hc : Tv c ds M false M1) (h : sSeq e u D' ds M1) : sSeq (sIf c t e) u D' ds M := hc _ _ h
theorem st_ifn (hc : Tv c ds M false M1) (h : u D' ds M1) : sSeq (sIf c t sNext) u D' ds M := hc _ _ h
theorem st_l1 (hc : Tv c ds M true M1) (h : t D' ds M1) : sIf c t e D' ds M := hc _ _ h
theorem st_l0 (hc : Tv c ds M false M1) (h : e D' ds M1) : sIf c t e D' ds M := hc _ _ h
theorem st_seq3 {v : FS} (h : sSeq t (sSeq u v) D' ds M) : sSeq (sSeq t u) v D' ds M := h
theorem st_nx (h : u D' ds M) : sSeq sNext u D' ds M := h
/-- an expression that raises -/
theorem sx_drop (he : Ex f ds M n M1) (h : D'.ex n ds M1) : sSeq (sDrop f) t D' ds M := he _ _ h
theorem sx_ret (he : Ex f ds M n M1) (h : D'.ex n ds M1) : sRet f D' ds M := he _ _ h
theorem sx_if (he : Ex f ds M n M1) (h : D'.ex n ds M1) : sSeq (sIf (tst f) t e) u D' ds M := he _ _ h
theorem ev_call (ha : Av fs ds M xs M1) (h : ∀ (Q : KQ) (E : KE), Q d M2 → G xs M1 Q E) : Ev (eCall G fs) ds M d M2 := fun Q E q => ha _ _ (h Q E q)
theorem ex_call (ha : Av fs ds M xs M1) (h : ∀ (Q : KQ) (E : KE), E n M2 → G xs M1 Q E) : Ex (eCall G fs) ds M n M2 := fun Q E q => ha _ _ (h Q E q)
theorem tv_of (he : Ev f ds M (.bl b) M1) : Tv (tst f) ds M b M1 := fun Q E q => he _ _ q
theorem ev_bin {g : G2} {fa fb : FE} {x y : D} {M3 : Sto} (ha : Ev fa ds M x M1) (hb : Ev fb ds M1 y M2) (hg : ∀ Q : KQ, Q d M3 → g x y M2 Q) : Ev (eBin g fa fb) ds M d M3 := fun Q E q => ha _ _ (hb _ _ (hg _ q))
end

theorem sem_need_worker : ∀ ds M Q E, G_need_worker ds M Q E → f_need_worker (exits false M Q E) (startD 2 ds) M := by
  rintro ds M Q E ⟨N, who, rfl, hq⟩
  unfold f_need_worker
  simp only [startD, List.map_cons, List.map_nil, List.length_cons, List.length_nil, List.replicate, List.cons_append, List.nil_append, Nat.reduceAdd, Nat.reduceSub]
  simp only [exits, fin, finx, sIf, sRaise, sNext]
  simp only [↓eVar, ↓eC, ↓eBin, ↓eUn, ↓eB, ↓eTup, ↓eLst, ↓eAnd, ↓eOr, ↓eNot, ↓eIf, ↓eChain, ↓eSlice, ↓eM, ↓eStr1, ↓eIsi, ↓oNo, ↓oPart, ↓tst, ↓ftAnd, ↓ftOr, ↓ftNot, ↓ftYes, ↓args, ↓gI, ↓gI0, ↓gSubI, ↓gFdiv, ↓gMod, ↓gPow, ↓gLt, ↓gLe, ↓gGt, ↓gGe, ↓gAdd, ↓gMul, ↓gRep, ↓gIx, ↓gIsN, ↓gNotN, ↓gNeg, ↓gEqN, ↓gIn, ↓gInSeq, ↓gLen, ↓gSlice, ↓gList, ↓gTuple, ↓gMin2, ↓gMax2, ↓gStr, ↓gInt, ↓newL, ↓mAppend, ↓mInsert, ↓mPopAt, ↓mIndex, ↓gSplit, ↓gJoin, List.map_cons, List.map_nil, List.length_cons, List.length_nil, List.length_map, List.cons_append, List.nil_append, Nat.reduceAdd, Nat.reduceSub, List.getElem?_cons_zero, List.getElem?_cons_succ, List.getElem?_map, Option.map_some, List.set_cons_zero, List.set_cons_succ, isNon, seqOf, listOf, atI_nn, atI_0, atI_1, atI_2, atI_3, encNet, encSt, encRow, encR, encO, encP, nats, encT, Od.raw, if_true, if_false, ite_true, ite_false, Bool.false_eq_true, Bool.true_eq_false, Bool.not_true, Bool.not_false, decide_true, decide_false, reduceIte, eq_self, and_true, true_and, sn_set_put, sn_set_take, sn_set_add, sn_put_set, sn_put_take, sn_put_add, sn_take_set, sn_take_put, sn_take_add, sn_add_set, sn_add_put, sn_add_take]
  by_cases hw : isW N who
  · rw [if_pos hw] at hq
    have h1 : 0 ≤ who := hw.1
    have h2 : who < (N.rows.length : Int) := hw.2
    simp only [decide_eq_true h1, decide_eq_true h2, Bool.not_true, if_true, Bool.false_eq_true, if_false]
    exact hq
  · rw [if_neg hw] at hq
    by_cases h1 : 0 ≤ who
    · have h2 : ¬ who < (N.rows.length : Int) := fun z => hw ⟨h1, z⟩
      simp only [decide_eq_true h1, decide_eq_false h2, Bool.not_false, if_true]
      exact hq
    · simp only [decide_eq_false h1, Bool.not_false, if_true, Bool.false_eq_true, if_false]
      exact hq
theorem sem_is_through : ∀ ds M Q E, G_is_through ds M Q E → f_is_through G_need_worker (exits false M Q E) (startD 3 ds) M := by
  rintro ds M Q E ⟨N, S, who, rfl, g, hq⟩
  unfold f_is_through
  simp only [startD, List.map_cons, List.map_nil, List.length_cons, List.length_nil, List.replicate, List.cons_append, List.nil_append, Nat.reduceAdd, Nat.reduceSub]
  by_cases hw : isW N who
  · obtain ⟨w, rfl⟩ : ∃ w : Nat, who = w := ⟨who.toNat, by have := hw.1; omega⟩
    have hw2 : w < N.W := by have := hw.2; omega
    rw [if_pos hw] at hq
    refine st_drop (ev_call (by intro Q E hq; simp only [↓eVar, ↓eC, ↓eBin, ↓eUn, ↓eB, ↓eTup, ↓eLst, ↓eAnd, ↓eOr, ↓eNot, ↓eIf, ↓eChain, ↓eSlice, ↓eM, ↓eStr1, ↓eIsi, ↓oNo, ↓oPart, ↓tst, ↓ftAnd, ↓ftOr, ↓ftNot, ↓ftYes, ↓args, ↓gI, ↓gI0, ↓gSubI, ↓gFdiv, ↓gMod, ↓gPow, ↓gLt, ↓gLe, ↓gGt, ↓gGe, ↓gAdd, ↓gMul, ↓gRep, ↓gIx, ↓gIsN, ↓gNotN, ↓gNeg, ↓gEqN, ↓gIn, ↓gInSeq, ↓gLen, ↓gSlice, ↓gList, ↓gTuple, ↓gMin2, ↓gMax2, ↓gStr, ↓gInt, ↓newL, ↓mAppend, ↓mInsert, ↓mPopAt, ↓mIndex, ↓gSplit, ↓gJoin, List.map_cons, List.map_nil, List.length_cons, List.length_nil, List.length_map, List.cons_append, List.nil_append, Nat.reduceAdd, Nat.reduceSub, List.getElem?_cons_zero, List.getElem?_cons_succ, List.getElem?_map, Option.map_some, List.set_cons_zero, List.set_cons_succ, isNon, seqOf, listOf, atI_nn, atI_0, atI_1, atI_2, atI_3, encNet, encSt, encRow, encR, encO, encP, nats, encT, Od.raw, if_true, if_false, ite_true, ite_false, Bool.false_eq_true, Bool.true_eq_false, Bool.not_true, Bool.not_false, decide_true, decide_false, reduceIte, eq_self, and_true, true_and, sn_set_put, sn_set_take, sn_set_add, sn_put_set, sn_put_take, sn_put_add, sn_take_set, sn_take_put, sn_take_add, sn_add_set, sn_add_put, sn_add_take]; exact hq) (nw_ok hw2)) (st_ret (by intro Q E hq; simp only [↓eVar, ↓eC, ↓eBin, ↓eUn, ↓eB, ↓eTup, ↓eLst, ↓eAnd, ↓eOr, ↓eNot, ↓eIf, ↓eChain, ↓eSlice, ↓eM, ↓eStr1, ↓eIsi, ↓oNo, ↓oPart, ↓tst, ↓ftAnd, ↓ftOr, ↓ftNot, ↓ftYes, ↓args, ↓gI, ↓gI0, ↓gSubI, ↓gFdiv, ↓gMod, ↓gPow, ↓gLt, ↓gLe, ↓gGt, ↓gGe, ↓gAdd, ↓gMul, ↓gRep, ↓gIx, ↓gIsN, ↓gNotN, ↓gNeg, ↓gEqN, ↓gIn, ↓gInSeq, ↓gLen, ↓gSlice, ↓gList, ↓gTuple, ↓gMin2, ↓gMax2, ↓gStr, ↓gInt, ↓newL, ↓mAppend, ↓mInsert, ↓mPopAt, ↓mIndex, ↓gSplit, ↓gJoin, List.map_cons, List.map_nil, List.length_cons, List.length_nil, List.length_map, List.cons_append, List.nil_append, Nat.reduceAdd, Nat.reduceSub, List.getElem?_cons_zero, List.getElem?_cons_succ, List.getElem?_map, Option.map_some, List.set_cons_zero, List.set_cons_succ, isNon, seqOf, listOf, atI_nn, atI_0, atI_1, atI_2, atI_3, encNet, encSt, encRow, encR, encO, encP, nats, encT, Od.raw, if_true, if_false, ite_true, ite_false, Bool.false_eq_true, Bool.true_eq_false, Bool.not_true, Bool.not_false, decide_true, decide_false, reduceIte, eq_self, and_true, true_and, sn_set_put, sn_set_take, sn_set_add, sn_put_set, sn_put_take, sn_put_add, sn_take_set, sn_take_put, sn_take_add, sn_add_set, sn_add_put, sn_add_take, row_at hw2, pl_at g hw2]; exact hq) ?_)
    simpa [thru, exits, fin] using hq
  · rw [if_neg hw] at hq
    exact sx_drop (ex_call (by intro Q E hq; simp only [↓eVar, ↓eC, ↓eBin, ↓eUn, ↓eB, ↓eTup, ↓eLst, ↓eAnd, ↓eOr, ↓eNot, ↓eIf, ↓eChain, ↓eSlice, ↓eM, ↓eStr1, ↓eIsi, ↓oNo, ↓oPart, ↓tst, ↓ftAnd, ↓ftOr, ↓ftNot, ↓ftYes, ↓args, ↓gI, ↓gI0, ↓gSubI, ↓gFdiv, ↓gMod, ↓gPow, ↓gLt, ↓gLe, ↓gGt, ↓gGe, ↓gAdd, ↓gMul, ↓gRep, ↓gIx, ↓gIsN, ↓gNotN, ↓gNeg, ↓gEqN, ↓gIn, ↓gInSeq, ↓gLen, ↓gSlice, ↓gList, ↓gTuple, ↓gMin2, ↓gMax2, ↓gStr, ↓gInt, ↓newL, ↓mAppend, ↓mInsert, ↓mPopAt, ↓mIndex, ↓gSplit, ↓gJoin, List.map_cons, List.map_nil, List.length_cons, List.length_nil, List.length_map, List.cons_append, List.nil_append, Nat.reduceAdd, Nat.reduceSub, List.getElem?_cons_zero, List.getElem?_cons_succ, List.getElem?_map, Option.map_some, List.set_cons_zero, List.set_cons_succ, isNon, seqOf, listOf, atI_nn, atI_0, atI_1, atI_2, atI_3, encNet, encSt, encRow, encR, encO, encP, nats, encT, Od.raw, if_true, if_false, ite_true, ite_false, Bool.false_eq_true, Bool.true_eq_false, Bool.not_true, Bool.not_false, decide_true, decide_false, reduceIte, eq_self, and_true, true_and, sn_set_put, sn_set_take, sn_set_add, sn_put_set, sn_put_take, sn_put_add, sn_take_set, sn_take_put, sn_take_add, sn_add_set, sn_add_put, sn_add_take]; exact hq) (nw_ex hw)) hq
theorem sem_wait_of : ∀ ds M Q E, G_wait_of ds M Q E → f_wait_of G_is_through (exits false M Q E) (startD 6 ds) M := by
  rintro ds M Q E ⟨N, S, who, rfl, g, hq⟩
  unfold f_wait_of
  simp only [startD, List.map_cons, List.map_nil, List.length_cons, List.length_nil, List.replicate, List.cons_append, List.nil_append, Nat.reduceAdd, Nat.reduceSub]
  by_cases hw : isW N who
  · obtain ⟨w, rfl⟩ : ∃ w : Nat, who = w := ⟨who.toNat, by have := hw.1; omega⟩
    have hw2 : w < N.W := by have := hw.2; omega
    rw [if_pos hw] at hq
    have ht2 : Tv (tst (eCall G_is_through [eVar 0, eVar 1, eVar 2])) [some (encNet N), some (encSt S), some (D.int w), none, none, none] M (thru N S w) M := tv_of (ev_call (by intro Q E hq; simp only [↓eVar, ↓eC, ↓eBin, ↓eUn, ↓eB, ↓eTup, ↓eLst, ↓eAnd, ↓eOr, ↓eNot, ↓eIf, ↓eChain, ↓eSlice, ↓eM, ↓eStr1, ↓eIsi, ↓oNo, ↓oPart, ↓tst, ↓ftAnd, ↓ftOr, ↓ftNot, ↓ftYes, ↓args, ↓gI, ↓gI0, ↓gSubI, ↓gFdiv, ↓gMod, ↓gPow, ↓gLt, ↓gLe, ↓gGt, ↓gGe, ↓gAdd, ↓gMul, ↓gRep, ↓gIx, ↓gIsN, ↓gNotN, ↓gNeg, ↓gEqN, ↓gIn, ↓gInSeq, ↓gLen, ↓gSlice, ↓gList, ↓gTuple, ↓gMin2, ↓gMax2, ↓gStr, ↓gInt, ↓newL, ↓mAppend, ↓mInsert, ↓mPopAt, ↓mIndex, ↓gSplit, ↓gJoin, List.map_cons, List.map_nil, List.length_cons, List.length_nil, List.length_map, List.cons_append, List.nil_append, Nat.reduceAdd, Nat.reduceSub, List.getElem?_cons_zero, List.getElem?_cons_succ, List.getElem?_map, Option.map_some, List.set_cons_zero, List.set_cons_succ, isNon, seqOf, listOf, atI_nn, atI_0, atI_1, atI_2, atI_3, encNet, encSt, encRow, encR, encO, encP, nats, encT, Od.raw, if_true, if_false, ite_true, ite_false, Bool.false_eq_true, Bool.true_eq_false, Bool.not_true, Bool.not_false, decide_true, decide_false, reduceIte, eq_self, and_true, true_and, sn_set_put, sn_set_take, sn_set_add, sn_put_set, sn_put_take, sn_put_add, sn_take_set, sn_take_put, sn_take_add, sn_add_set, sn_add_put, sn_add_take]; exact hq) (it_ok g hw2))
    cases ht : thru N S w with
    | true =>
      rw [ht] at ht2
      exact st_if1 ht2 (st_ret2 (by intro Q E hq; simp only [↓eVar, ↓eC, ↓eBin, ↓eUn, ↓eB, ↓eTup, ↓eLst, ↓eAnd, ↓eOr, ↓eNot, ↓eIf, ↓eChain, ↓eSlice, ↓eM, ↓eStr1, ↓eIsi, ↓oNo, ↓oPart, ↓tst, ↓ftAnd, ↓ftOr, ↓ftNot, ↓ftYes, ↓args, ↓gI, ↓gI0, ↓gSubI, ↓gFdiv, ↓gMod, ↓gPow, ↓gLt, ↓gLe, ↓gGt, ↓gGe, ↓gAdd, ↓gMul, ↓gRep, ↓gIx, ↓gIsN, ↓gNotN, ↓gNeg, ↓gEqN, ↓gIn, ↓gInSeq, ↓gLen, ↓gSlice, ↓gList, ↓gTuple, ↓gMin2, ↓gMax2, ↓gStr, ↓gInt, ↓newL, ↓mAppend, ↓mInsert, ↓mPopAt, ↓mIndex, ↓gSplit, ↓gJoin, List.map_cons, List.map_nil, List.length_cons, List.length_nil, List.length_map, List.cons_append, List.nil_append, Nat.reduceAdd, Nat.reduceSub, List.getElem?_cons_zero, List.getElem?_cons_succ, List.getElem?_map, Option.map_some, List.set_cons_zero, List.set_cons_succ, isNon, seqOf, listOf, atI_nn, atI_0, atI_1, atI_2, atI_3, encNet, encSt, encRow, encR, encO, encP, nats, encT, Od.raw, if_true, if_false, ite_true, ite_false, Bool.false_eq_true, Bool.true_eq_false, Bool.not_true, Bool.not_false, decide_true, decide_false, reduceIte, eq_self, and_true, true_and, sn_set_put, sn_set_take, sn_set_add, sn_put_set, sn_put_take, sn_put_add, sn_take_set, sn_take_put, sn_take_add, sn_add_set, sn_add_put, sn_add_take]; exact hq) (by simpa [waitN, ht, encW, exits, fin] using hq))
    | false =>
      rw [ht] at ht2
      refine st_ifn ht2 ?_
      have hp := fun p => ord_p g hw2 ht (p := p)
      refine st_set (d := encO (ordOf N S w)) (M1 := M) (by intro Q E hq; simp only [↓eVar, ↓eC, ↓eBin, ↓eUn, ↓eB, ↓eTup, ↓eLst, ↓eAnd, ↓eOr, ↓eNot, ↓eIf, ↓eChain, ↓eSlice, ↓eM, ↓eStr1, ↓eIsi, ↓oNo, ↓oPart, ↓tst, ↓ftAnd, ↓ftOr, ↓ftNot, ↓ftYes, ↓args, ↓gI, ↓gI0, ↓gSubI, ↓gFdiv, ↓gMod, ↓gPow, ↓gLt, ↓gLe, ↓gGt, ↓gGe, ↓gAdd, ↓gMul, ↓gRep, ↓gIx, ↓gIsN, ↓gNotN, ↓gNeg, ↓gEqN, ↓gIn, ↓gInSeq, ↓gLen, ↓gSlice, ↓gList, ↓gTuple, ↓gMin2, ↓gMax2, ↓gStr, ↓gInt, ↓newL, ↓mAppend, ↓mInsert, ↓mPopAt, ↓mIndex, ↓gSplit, ↓gJoin, List.map_cons, List.map_nil, List.length_cons, List.length_nil, List.length_map, List.cons_append, List.nil_append, Nat.reduceAdd, Nat.reduceSub, List.getElem?_cons_zero, List.getElem?_cons_succ, List.getElem?_map, Option.map_some, List.set_cons_zero, List.set_cons_succ, isNon, seqOf, listOf, atI_nn, atI_0, atI_1, atI_2, atI_3, encNet, encSt, encRow, encR, encO, encP, nats, encT, Od.raw, if_true, if_false, ite_true, ite_false, Bool.false_eq_true, Bool.true_eq_false, Bool.not_true, Bool.not_false, decide_true, decide_false, reduceIte, eq_self, and_true, true_and, sn_set_put, sn_set_take, sn_set_add, sn_put_set, sn_put_take, sn_put_add, sn_take_set, sn_take_put, sn_take_add, sn_add_set, sn_add_put, sn_add_take, row_at hw2, pl_at g hw2, ord_at ht]; exact hq) ?_
      simp only [Int.toNat_natCast, waitN, ht] at hq
      cases ho : ordOf N S w with
      | set n =>
        rw [ho] at hq
        exact st_if1 (by intro Q E hq; simp only [↓eVar, ↓eC, ↓eBin, ↓eUn, ↓eB, ↓eTup, ↓eLst, ↓eAnd, ↓eOr, ↓eNot, ↓eIf, ↓eChain, ↓eSlice, ↓eM, ↓eStr1, ↓eIsi, ↓oNo, ↓oPart, ↓tst, ↓ftAnd, ↓ftOr, ↓ftNot, ↓ftYes, ↓args, ↓gI, ↓gI0, ↓gSubI, ↓gFdiv, ↓gMod, ↓gPow, ↓gLt, ↓gLe, ↓gGt, ↓gGe, ↓gAdd, ↓gMul, ↓gRep, ↓gIx, ↓gIsN, ↓gNotN, ↓gNeg, ↓gEqN, ↓gIn, ↓gInSeq, ↓gLen, ↓gSlice, ↓gList, ↓gTuple, ↓gMin2, ↓gMax2, ↓gStr, ↓gInt, ↓newL, ↓mAppend, ↓mInsert, ↓mPopAt, ↓mIndex, ↓gSplit, ↓gJoin, List.map_cons, List.map_nil, List.length_cons, List.length_nil, List.length_map, List.cons_append, List.nil_append, Nat.reduceAdd, Nat.reduceSub, List.getElem?_cons_zero, List.getElem?_cons_succ, List.getElem?_map, Option.map_some, List.set_cons_zero, List.set_cons_succ, isNon, seqOf, listOf, atI_nn, atI_0, atI_1, atI_2, atI_3, encNet, encSt, encRow, encR, encO, encP, nats, encT, Od.raw, if_true, if_false, ite_true, ite_false, Bool.false_eq_true, Bool.true_eq_false, Bool.not_true, Bool.not_false, decide_true, decide_false, reduceIte, eq_self, and_true, true_and, sn_set_put, sn_set_take, sn_set_add, sn_put_set, sn_put_take, sn_put_add, sn_take_set, sn_take_put, sn_take_add, sn_add_set, sn_add_put, sn_add_take]; exact hq) (st_ret2 (by intro Q E hq; simp only [↓eVar, ↓eC, ↓eBin, ↓eUn, ↓eB, ↓eTup, ↓eLst, ↓eAnd, ↓eOr, ↓eNot, ↓eIf, ↓eChain, ↓eSlice, ↓eM, ↓eStr1, ↓eIsi, ↓oNo, ↓oPart, ↓tst, ↓ftAnd, ↓ftOr, ↓ftNot, ↓ftYes, ↓args, ↓gI, ↓gI0, ↓gSubI, ↓gFdiv, ↓gMod, ↓gPow, ↓gLt, ↓gLe, ↓gGt, ↓gGe, ↓gAdd, ↓gMul, ↓gRep, ↓gIx, ↓gIsN, ↓gNotN, ↓gNeg, ↓gEqN, ↓gIn, ↓gInSeq, ↓gLen, ↓gSlice, ↓gList, ↓gTuple, ↓gMin2, ↓gMax2, ↓gStr, ↓gInt, ↓newL, ↓mAppend, ↓mInsert, ↓mPopAt, ↓mIndex, ↓gSplit, ↓gJoin, List.map_cons, List.map_nil, List.length_cons, List.length_nil, List.length_map, List.cons_append, List.nil_append, Nat.reduceAdd, Nat.reduceSub, List.getElem?_cons_zero, List.getElem?_cons_succ, List.getElem?_map, Option.map_some, List.set_cons_zero, List.set_cons_succ, isNon, seqOf, listOf, atI_nn, atI_0, atI_1, atI_2, atI_3, encNet, encSt, encRow, encR, encO, encP, nats, encT, Od.raw, if_true, if_false, ite_true, ite_false, Bool.false_eq_true, Bool.true_eq_false, Bool.not_true, Bool.not_false, decide_true, decide_false, reduceIte, eq_self, and_true, true_and, sn_set_put, sn_set_take, sn_set_add, sn_put_set, sn_put_take, sn_put_add, sn_take_set, sn_take_put, sn_take_add, sn_add_set, sn_add_put, sn_add_take]; exact hq) hq)
      | put p =>
        have hp := hp p (.inl ho)
        refine st_ifn (by intro Q E hq; simp only [↓eVar, ↓eC, ↓eBin, ↓eUn, ↓eB, ↓eTup, ↓eLst, ↓eAnd, ↓eOr, ↓eNot, ↓eIf, ↓eChain, ↓eSlice, ↓eM, ↓eStr1, ↓eIsi, ↓oNo, ↓oPart, ↓tst, ↓ftAnd, ↓ftOr, ↓ftNot, ↓ftYes, ↓args, ↓gI, ↓gI0, ↓gSubI, ↓gFdiv, ↓gMod, ↓gPow, ↓gLt, ↓gLe, ↓gGt, ↓gGe, ↓gAdd, ↓gMul, ↓gRep, ↓gIx, ↓gIsN, ↓gNotN, ↓gNeg, ↓gEqN, ↓gIn, ↓gInSeq, ↓gLen, ↓gSlice, ↓gList, ↓gTuple, ↓gMin2, ↓gMax2, ↓gStr, ↓gInt, ↓newL, ↓mAppend, ↓mInsert, ↓mPopAt, ↓mIndex, ↓gSplit, ↓gJoin, List.map_cons, List.map_nil, List.length_cons, List.length_nil, List.length_map, List.cons_append, List.nil_append, Nat.reduceAdd, Nat.reduceSub, List.getElem?_cons_zero, List.getElem?_cons_succ, List.getElem?_map, Option.map_some, List.set_cons_zero, List.set_cons_succ, isNon, seqOf, listOf, atI_nn, atI_0, atI_1, atI_2, atI_3, encNet, encSt, encRow, encR, encO, encP, nats, encT, Od.raw, if_true, if_false, ite_true, ite_false, Bool.false_eq_true, Bool.true_eq_false, Bool.not_true, Bool.not_false, decide_true, decide_false, reduceIte, eq_self, and_true, true_and, sn_set_put, sn_set_take, sn_set_add, sn_put_set, sn_put_take, sn_put_add, sn_take_set, sn_take_put, sn_take_add, sn_add_set, sn_add_put, sn_add_take]; exact hq) (st_set (by intro Q E hq; simp only [↓eVar, ↓eC, ↓eBin, ↓eUn, ↓eB, ↓eTup, ↓eLst, ↓eAnd, ↓eOr, ↓eNot, ↓eIf, ↓eChain, ↓eSlice, ↓eM, ↓eStr1, ↓eIsi, ↓oNo, ↓oPart, ↓tst, ↓ftAnd, ↓ftOr, ↓ftNot, ↓ftYes, ↓args, ↓gI, ↓gI0, ↓gSubI, ↓gFdiv, ↓gMod, ↓gPow, ↓gLt, ↓gLe, ↓gGt, ↓gGe, ↓gAdd, ↓gMul, ↓gRep, ↓gIx, ↓gIsN, ↓gNotN, ↓gNeg, ↓gEqN, ↓gIn, ↓gInSeq, ↓gLen, ↓gSlice, ↓gList, ↓gTuple, ↓gMin2, ↓gMax2, ↓gStr, ↓gInt, ↓newL, ↓mAppend, ↓mInsert, ↓mPopAt, ↓mIndex, ↓gSplit, ↓gJoin, List.map_cons, List.map_nil, List.length_cons, List.length_nil, List.length_map, List.cons_append, List.nil_append, Nat.reduceAdd, Nat.reduceSub, List.getElem?_cons_zero, List.getElem?_cons_succ, List.getElem?_map, Option.map_some, List.set_cons_zero, List.set_cons_succ, isNon, seqOf, listOf, atI_nn, atI_0, atI_1, atI_2, atI_3, encNet, encSt, encRow, encR, encO, encP, nats, encT, Od.raw, if_true, if_false, ite_true, ite_false, Bool.false_eq_true, Bool.true_eq_false, Bool.not_true, Bool.not_false, decide_true, decide_false, reduceIte, eq_self, and_true, true_and, sn_set_put, sn_set_take, sn_set_add, sn_put_set, sn_put_take, sn_put_add, sn_take_set, sn_take_put, sn_take_add, sn_add_set, sn_add_put, sn_add_take, pip_at hp]; exact hq) (st_set (by intro Q E hq; simp only [↓eVar, ↓eC, ↓eBin, ↓eUn, ↓eB, ↓eTup, ↓eLst, ↓eAnd, ↓eOr, ↓eNot, ↓eIf, ↓eChain, ↓eSlice, ↓eM, ↓eStr1, ↓eIsi, ↓oNo, ↓oPart, ↓tst, ↓ftAnd, ↓ftOr, ↓ftNot, ↓ftYes, ↓args, ↓gI, ↓gI0, ↓gSubI, ↓gFdiv, ↓gMod, ↓gPow, ↓gLt, ↓gLe, ↓gGt, ↓gGe, ↓gAdd, ↓gMul, ↓gRep, ↓gIx, ↓gIsN, ↓gNotN, ↓gNeg, ↓gEqN, ↓gIn, ↓gInSeq, ↓gLen, ↓gSlice, ↓gList, ↓gTuple, ↓gMin2, ↓gMax2, ↓gStr, ↓gInt, ↓newL, ↓mAppend, ↓mInsert, ↓mPopAt, ↓mIndex, ↓gSplit, ↓gJoin, List.map_cons, List.map_nil, List.length_cons, List.length_nil, List.length_map, List.cons_append, List.nil_append, Nat.reduceAdd, Nat.reduceSub, List.getElem?_cons_zero, List.getElem?_cons_succ, List.getElem?_map, Option.map_some, List.set_cons_zero, List.set_cons_succ, isNon, seqOf, listOf, atI_nn, atI_0, atI_1, atI_2, atI_3, encNet, encSt, encRow, encR, encO, encP, nats, encT, Od.raw, if_true, if_false, ite_true, ite_false, Bool.false_eq_true, Bool.true_eq_false, Bool.not_true, Bool.not_false, decide_true, decide_false, reduceIte, eq_self, and_true, true_and, sn_set_put, sn_set_take, sn_set_add, sn_put_set, sn_put_take, sn_put_add, sn_take_set, sn_take_put, sn_take_add, sn_add_set, sn_add_put, sn_add_take, hl_at g hp]; exact hq) ?_))
        rw [ho] at hq
        simp only [waitO, Bool.false_eq_true, if_false] at hq
        by_cases hc : (N.pip p).ro ≤ (S.hl p).length
        · have hc2 : ((N.pip p).ro : Int) ≤ ((S.hl p).length : Int) := by omega
          refine st_if1 (by intro Q E hq; simp only [↓eVar, ↓eC, ↓eBin, ↓eUn, ↓eB, ↓eTup, ↓eLst, ↓eAnd, ↓eOr, ↓eNot, ↓eIf, ↓eChain, ↓eSlice, ↓eM, ↓eStr1, ↓eIsi, ↓oNo, ↓oPart, ↓tst, ↓ftAnd, ↓ftOr, ↓ftNot, ↓ftYes, ↓args, ↓gI, ↓gI0, ↓gSubI, ↓gFdiv, ↓gMod, ↓gPow, ↓gLt, ↓gLe, ↓gGt, ↓gGe, ↓gAdd, ↓gMul, ↓gRep, ↓gIx, ↓gIsN, ↓gNotN, ↓gNeg, ↓gEqN, ↓gIn, ↓gInSeq, ↓gLen, ↓gSlice, ↓gList, ↓gTuple, ↓gMin2, ↓gMax2, ↓gStr, ↓gInt, ↓newL, ↓mAppend, ↓mInsert, ↓mPopAt, ↓mIndex, ↓gSplit, ↓gJoin, List.map_cons, List.map_nil, List.length_cons, List.length_nil, List.length_map, List.cons_append, List.nil_append, Nat.reduceAdd, Nat.reduceSub, List.getElem?_cons_zero, List.getElem?_cons_succ, List.getElem?_map, Option.map_some, List.set_cons_zero, List.set_cons_succ, isNon, seqOf, listOf, atI_nn, atI_0, atI_1, atI_2, atI_3, encNet, encSt, encRow, encR, encO, encP, nats, encT, Od.raw, if_true, if_false, ite_true, ite_false, Bool.false_eq_true, Bool.true_eq_false, Bool.not_true, Bool.not_false, decide_true, decide_false, reduceIte, eq_self, and_true, true_and, sn_set_put, sn_set_take, sn_set_add, sn_put_set, sn_put_take, sn_put_add, sn_take_set, sn_take_put, sn_take_add, sn_add_set, sn_add_put, sn_add_take, decide_eq_true hc2]; exact hq) (st_ret2 (by intro Q E hq; simp only [↓eVar, ↓eC, ↓eBin, ↓eUn, ↓eB, ↓eTup, ↓eLst, ↓eAnd, ↓eOr, ↓eNot, ↓eIf, ↓eChain, ↓eSlice, ↓eM, ↓eStr1, ↓eIsi, ↓oNo, ↓oPart, ↓tst, ↓ftAnd, ↓ftOr, ↓ftNot, ↓ftYes, ↓args, ↓gI, ↓gI0, ↓gSubI, ↓gFdiv, ↓gMod, ↓gPow, ↓gLt, ↓gLe, ↓gGt, ↓gGe, ↓gAdd, ↓gMul, ↓gRep, ↓gIx, ↓gIsN, ↓gNotN, ↓gNeg, ↓gEqN, ↓gIn, ↓gInSeq, ↓gLen, ↓gSlice, ↓gList, ↓gTuple, ↓gMin2, ↓gMax2, ↓gStr, ↓gInt, ↓newL, ↓mAppend, ↓mInsert, ↓mPopAt, ↓mIndex, ↓gSplit, ↓gJoin, List.map_cons, List.map_nil, List.length_cons, List.length_nil, List.length_map, List.cons_append, List.nil_append, Nat.reduceAdd, Nat.reduceSub, List.getElem?_cons_zero, List.getElem?_cons_succ, List.getElem?_map, Option.map_some, List.set_cons_zero, List.set_cons_succ, isNon, seqOf, listOf, atI_nn, atI_0, atI_1, atI_2, atI_3, encNet, encSt, encRow, encR, encO, encP, nats, encT, Od.raw, if_true, if_false, ite_true, ite_false, Bool.false_eq_true, Bool.true_eq_false, Bool.not_true, Bool.not_false, decide_true, decide_false, reduceIte, eq_self, and_true, true_and, sn_set_put, sn_set_take, sn_set_add, sn_put_set, sn_put_take, sn_put_add, sn_take_set, sn_take_put, sn_take_add, sn_add_set, sn_add_put, sn_add_take]; exact hq) ?_)
          rw [if_pos hc] at hq
          exact hq
        · have hc2 : ¬ ((N.pip p).ro : Int) ≤ ((S.hl p).length : Int) := by omega
          refine st_ifn (by intro Q E hq; simp only [↓eVar, ↓eC, ↓eBin, ↓eUn, ↓eB, ↓eTup, ↓eLst, ↓eAnd, ↓eOr, ↓eNot, ↓eIf, ↓eChain, ↓eSlice, ↓eM, ↓eStr1, ↓eIsi, ↓oNo, ↓oPart, ↓tst, ↓ftAnd, ↓ftOr, ↓ftNot, ↓ftYes, ↓args, ↓gI, ↓gI0, ↓gSubI, ↓gFdiv, ↓gMod, ↓gPow, ↓gLt, ↓gLe, ↓gGt, ↓gGe, ↓gAdd, ↓gMul, ↓gRep, ↓gIx, ↓gIsN, ↓gNotN, ↓gNeg, ↓gEqN, ↓gIn, ↓gInSeq, ↓gLen, ↓gSlice, ↓gList, ↓gTuple, ↓gMin2, ↓gMax2, ↓gStr, ↓gInt, ↓newL, ↓mAppend, ↓mInsert, ↓mPopAt, ↓mIndex, ↓gSplit, ↓gJoin, List.map_cons, List.map_nil, List.length_cons, List.length_nil, List.length_map, List.cons_append, List.nil_append, Nat.reduceAdd, Nat.reduceSub, List.getElem?_cons_zero, List.getElem?_cons_succ, List.getElem?_map, Option.map_some, List.set_cons_zero, List.set_cons_succ, isNon, seqOf, listOf, atI_nn, atI_0, atI_1, atI_2, atI_3, encNet, encSt, encRow, encR, encO, encP, nats, encT, Od.raw, if_true, if_false, ite_true, ite_false, Bool.false_eq_true, Bool.true_eq_false, Bool.not_true, Bool.not_false, decide_true, decide_false, reduceIte, eq_self, and_true, true_and, sn_set_put, sn_set_take, sn_set_add, sn_put_set, sn_put_take, sn_put_add, sn_take_set, sn_take_put, sn_take_add, sn_add_set, sn_add_put, sn_add_take, decide_eq_false hc2]; exact hq) (st_ifn (by intro Q E hq; simp only [↓eVar, ↓eC, ↓eBin, ↓eUn, ↓eB, ↓eTup, ↓eLst, ↓eAnd, ↓eOr, ↓eNot, ↓eIf, ↓eChain, ↓eSlice, ↓eM, ↓eStr1, ↓eIsi, ↓oNo, ↓oPart, ↓tst, ↓ftAnd, ↓ftOr, ↓ftNot, ↓ftYes, ↓args, ↓gI, ↓gI0, ↓gSubI, ↓gFdiv, ↓gMod, ↓gPow, ↓gLt, ↓gLe, ↓gGt, ↓gGe, ↓gAdd, ↓gMul, ↓gRep, ↓gIx, ↓gIsN, ↓gNotN, ↓gNeg, ↓gEqN, ↓gIn, ↓gInSeq, ↓gLen, ↓gSlice, ↓gList, ↓gTuple, ↓gMin2, ↓gMax2, ↓gStr, ↓gInt, ↓newL, ↓mAppend, ↓mInsert, ↓mPopAt, ↓mIndex, ↓gSplit, ↓gJoin, List.map_cons, List.map_nil, List.length_cons, List.length_nil, List.length_map, List.cons_append, List.nil_append, Nat.reduceAdd, Nat.reduceSub, List.getElem?_cons_zero, List.getElem?_cons_succ, List.getElem?_map, Option.map_some, List.set_cons_zero, List.set_cons_succ, isNon, seqOf, listOf, atI_nn, atI_0, atI_1, atI_2, atI_3, encNet, encSt, encRow, encR, encO, encP, nats, encT, Od.raw, if_true, if_false, ite_true, ite_false, Bool.false_eq_true, Bool.true_eq_false, Bool.not_true, Bool.not_false, decide_true, decide_false, reduceIte, eq_self, and_true, true_and, sn_set_put, sn_set_take, sn_set_add, sn_put_set, sn_put_take, sn_put_add, sn_take_set, sn_take_put, sn_take_add, sn_add_set, sn_add_put, sn_add_take]; exact hq) (st_ret (by intro Q E hq; simp only [↓eVar, ↓eC, ↓eBin, ↓eUn, ↓eB, ↓eTup, ↓eLst, ↓eAnd, ↓eOr, ↓eNot, ↓eIf, ↓eChain, ↓eSlice, ↓eM, ↓eStr1, ↓eIsi, ↓oNo, ↓oPart, ↓tst, ↓ftAnd, ↓ftOr, ↓ftNot, ↓ftYes, ↓args, ↓gI, ↓gI0, ↓gSubI, ↓gFdiv, ↓gMod, ↓gPow, ↓gLt, ↓gLe, ↓gGt, ↓gGe, ↓gAdd, ↓gMul, ↓gRep, ↓gIx, ↓gIsN, ↓gNotN, ↓gNeg, ↓gEqN, ↓gIn, ↓gInSeq, ↓gLen, ↓gSlice, ↓gList, ↓gTuple, ↓gMin2, ↓gMax2, ↓gStr, ↓gInt, ↓newL, ↓mAppend, ↓mInsert, ↓mPopAt, ↓mIndex, ↓gSplit, ↓gJoin, List.map_cons, List.map_nil, List.length_cons, List.length_nil, List.length_map, List.cons_append, List.nil_append, Nat.reduceAdd, Nat.reduceSub, List.getElem?_cons_zero, List.getElem?_cons_succ, List.getElem?_map, Option.map_some, List.set_cons_zero, List.set_cons_succ, isNon, seqOf, listOf, atI_nn, atI_0, atI_1, atI_2, atI_3, encNet, encSt, encRow, encR, encO, encP, nats, encT, Od.raw, if_true, if_false, ite_true, ite_false, Bool.false_eq_true, Bool.true_eq_false, Bool.not_true, Bool.not_false, decide_true, decide_false, reduceIte, eq_self, and_true, true_and, sn_set_put, sn_set_take, sn_set_add, sn_put_set, sn_put_take, sn_put_add, sn_take_set, sn_take_put, sn_take_add, sn_add_set, sn_add_put, sn_add_take]; exact hq) ?_))
          rw [if_neg hc] at hq
          exact hq
      | take p =>
        have hp := hp p (.inr (.inl ho))
        refine st_ifn (by intro Q E hq; simp only [↓eVar, ↓eC, ↓eBin, ↓eUn, ↓eB, ↓eTup, ↓eLst, ↓eAnd, ↓eOr, ↓eNot, ↓eIf, ↓eChain, ↓eSlice, ↓eM, ↓eStr1, ↓eIsi, ↓oNo, ↓oPart, ↓tst, ↓ftAnd, ↓ftOr, ↓ftNot, ↓ftYes, ↓args, ↓gI, ↓gI0, ↓gSubI, ↓gFdiv, ↓gMod, ↓gPow, ↓gLt, ↓gLe, ↓gGt, ↓gGe, ↓gAdd, ↓gMul, ↓gRep, ↓gIx, ↓gIsN, ↓gNotN, ↓gNeg, ↓gEqN, ↓gIn, ↓gInSeq, ↓gLen, ↓gSlice, ↓gList, ↓gTuple, ↓gMin2, ↓gMax2, ↓gStr, ↓gInt, ↓newL, ↓mAppend, ↓mInsert, ↓mPopAt, ↓mIndex, ↓gSplit, ↓gJoin, List.map_cons, List.map_nil, List.length_cons, List.length_nil, List.length_map, List.cons_append, List.nil_append, Nat.reduceAdd, Nat.reduceSub, List.getElem?_cons_zero, List.getElem?_cons_succ, List.getElem?_map, Option.map_some, List.set_cons_zero, List.set_cons_succ, isNon, seqOf, listOf, atI_nn, atI_0, atI_1, atI_2, atI_3, encNet, encSt, encRow, encR, encO, encP, nats, encT, Od.raw, if_true, if_false, ite_true, ite_false, Bool.false_eq_true, Bool.true_eq_false, Bool.not_true, Bool.not_false, decide_true, decide_false, reduceIte, eq_self, and_true, true_and, sn_set_put, sn_set_take, sn_set_add, sn_put_set, sn_put_take, sn_put_add, sn_take_set, sn_take_put, sn_take_add, sn_add_set, sn_add_put, sn_add_take]; exact hq) (st_set (by intro Q E hq; simp only [↓eVar, ↓eC, ↓eBin, ↓eUn, ↓eB, ↓eTup, ↓eLst, ↓eAnd, ↓eOr, ↓eNot, ↓eIf, ↓eChain, ↓eSlice, ↓eM, ↓eStr1, ↓eIsi, ↓oNo, ↓oPart, ↓tst, ↓ftAnd, ↓ftOr, ↓ftNot, ↓ftYes, ↓args, ↓gI, ↓gI0, ↓gSubI, ↓gFdiv, ↓gMod, ↓gPow, ↓gLt, ↓gLe, ↓gGt, ↓gGe, ↓gAdd, ↓gMul, ↓gRep, ↓gIx, ↓gIsN, ↓gNotN, ↓gNeg, ↓gEqN, ↓gIn, ↓gInSeq, ↓gLen, ↓gSlice, ↓gList, ↓gTuple, ↓gMin2, ↓gMax2, ↓gStr, ↓gInt, ↓newL, ↓mAppend, ↓mInsert, ↓mPopAt, ↓mIndex, ↓gSplit, ↓gJoin, List.map_cons, List.map_nil, List.length_cons, List.length_nil, List.length_map, List.cons_append, List.nil_append, Nat.reduceAdd, Nat.reduceSub, List.getElem?_cons_zero, List.getElem?_cons_succ, List.getElem?_map, Option.map_some, List.set_cons_zero, List.set_cons_succ, isNon, seqOf, listOf, atI_nn, atI_0, atI_1, atI_2, atI_3, encNet, encSt, encRow, encR, encO, encP, nats, encT, Od.raw, if_true, if_false, ite_true, ite_false, Bool.false_eq_true, Bool.true_eq_false, Bool.not_true, Bool.not_false, decide_true, decide_false, reduceIte, eq_self, and_true, true_and, sn_set_put, sn_set_take, sn_set_add, sn_put_set, sn_put_take, sn_put_add, sn_take_set, sn_take_put, sn_take_add, sn_add_set, sn_add_put, sn_add_take, pip_at hp]; exact hq) (st_set (by intro Q E hq; simp only [↓eVar, ↓eC, ↓eBin, ↓eUn, ↓eB, ↓eTup, ↓eLst, ↓eAnd, ↓eOr, ↓eNot, ↓eIf, ↓eChain, ↓eSlice, ↓eM, ↓eStr1, ↓eIsi, ↓oNo, ↓oPart, ↓tst, ↓ftAnd, ↓ftOr, ↓ftNot, ↓ftYes, ↓args, ↓gI, ↓gI0, ↓gSubI, ↓gFdiv, ↓gMod, ↓gPow, ↓gLt, ↓gLe, ↓gGt, ↓gGe, ↓gAdd, ↓gMul, ↓gRep, ↓gIx, ↓gIsN, ↓gNotN, ↓gNeg, ↓gEqN, ↓gIn, ↓gInSeq, ↓gLen, ↓gSlice, ↓gList, ↓gTuple, ↓gMin2, ↓gMax2, ↓gStr, ↓gInt, ↓newL, ↓mAppend, ↓mInsert, ↓mPopAt, ↓mIndex, ↓gSplit, ↓gJoin, List.map_cons, List.map_nil, List.length_cons, List.length_nil, List.length_map, List.cons_append, List.nil_append, Nat.reduceAdd, Nat.reduceSub, List.getElem?_cons_zero, List.getElem?_cons_succ, List.getElem?_map, Option.map_some, List.set_cons_zero, List.set_cons_succ, isNon, seqOf, listOf, atI_nn, atI_0, atI_1, atI_2, atI_3, encNet, encSt, encRow, encR, encO, encP, nats, encT, Od.raw, if_true, if_false, ite_true, ite_false, Bool.false_eq_true, Bool.true_eq_false, Bool.not_true, Bool.not_false, decide_true, decide_false, reduceIte, eq_self, and_true, true_and, sn_set_put, sn_set_take, sn_set_add, sn_put_set, sn_put_take, sn_put_add, sn_take_set, sn_take_put, sn_take_add, sn_add_set, sn_add_put, sn_add_take, hl_at g hp]; exact hq) (st_ifn (by intro Q E hq; simp only [↓eVar, ↓eC, ↓eBin, ↓eUn, ↓eB, ↓eTup, ↓eLst, ↓eAnd, ↓eOr, ↓eNot, ↓eIf, ↓eChain, ↓eSlice, ↓eM, ↓eStr1, ↓eIsi, ↓oNo, ↓oPart, ↓tst, ↓ftAnd, ↓ftOr, ↓ftNot, ↓ftYes, ↓args, ↓gI, ↓gI0, ↓gSubI, ↓gFdiv, ↓gMod, ↓gPow, ↓gLt, ↓gLe, ↓gGt, ↓gGe, ↓gAdd, ↓gMul, ↓gRep, ↓gIx, ↓gIsN, ↓gNotN, ↓gNeg, ↓gEqN, ↓gIn, ↓gInSeq, ↓gLen, ↓gSlice, ↓gList, ↓gTuple, ↓gMin2, ↓gMax2, ↓gStr, ↓gInt, ↓newL, ↓mAppend, ↓mInsert, ↓mPopAt, ↓mIndex, ↓gSplit, ↓gJoin, List.map_cons, List.map_nil, List.length_cons, List.length_nil, List.length_map, List.cons_append, List.nil_append, Nat.reduceAdd, Nat.reduceSub, List.getElem?_cons_zero, List.getElem?_cons_succ, List.getElem?_map, Option.map_some, List.set_cons_zero, List.set_cons_succ, isNon, seqOf, listOf, atI_nn, atI_0, atI_1, atI_2, atI_3, encNet, encSt, encRow, encR, encO, encP, nats, encT, Od.raw, if_true, if_false, ite_true, ite_false, Bool.false_eq_true, Bool.true_eq_false, Bool.not_true, Bool.not_false, decide_true, decide_false, reduceIte, eq_self, and_true, true_and, sn_set_put, sn_set_take, sn_set_add, sn_put_set, sn_put_take, sn_put_add, sn_take_set, sn_take_put, sn_take_add, sn_add_set, sn_add_put, sn_add_take]; exact hq) ?_)))
        rw [ho] at hq
        simp only [waitO, Bool.false_eq_true, if_false] at hq
        by_cases hc : (S.hl p).length = 0
        · have hc2 : ((S.hl p).length : Int) = 0 := by omega
          refine st_if1 (by intro Q E hq; simp only [↓eVar, ↓eC, ↓eBin, ↓eUn, ↓eB, ↓eTup, ↓eLst, ↓eAnd, ↓eOr, ↓eNot, ↓eIf, ↓eChain, ↓eSlice, ↓eM, ↓eStr1, ↓eIsi, ↓oNo, ↓oPart, ↓tst, ↓ftAnd, ↓ftOr, ↓ftNot, ↓ftYes, ↓args, ↓gI, ↓gI0, ↓gSubI, ↓gFdiv, ↓gMod, ↓gPow, ↓gLt, ↓gLe, ↓gGt, ↓gGe, ↓gAdd, ↓gMul, ↓gRep, ↓gIx, ↓gIsN, ↓gNotN, ↓gNeg, ↓gEqN, ↓gIn, ↓gInSeq, ↓gLen, ↓gSlice, ↓gList, ↓gTuple, ↓gMin2, ↓gMax2, ↓gStr, ↓gInt, ↓newL, ↓mAppend, ↓mInsert, ↓mPopAt, ↓mIndex, ↓gSplit, ↓gJoin, List.map_cons, List.map_nil, List.length_cons, List.length_nil, List.length_map, List.cons_append, List.nil_append, Nat.reduceAdd, Nat.reduceSub, List.getElem?_cons_zero, List.getElem?_cons_succ, List.getElem?_map, Option.map_some, List.set_cons_zero, List.set_cons_succ, isNon, seqOf, listOf, atI_nn, atI_0, atI_1, atI_2, atI_3, encNet, encSt, encRow, encR, encO, encP, nats, encT, Od.raw, if_true, if_false, ite_true, ite_false, Bool.false_eq_true, Bool.true_eq_false, Bool.not_true, Bool.not_false, decide_true, decide_false, reduceIte, eq_self, and_true, true_and, sn_set_put, sn_set_take, sn_set_add, sn_put_set, sn_put_take, sn_put_add, sn_take_set, sn_take_put, sn_take_add, sn_add_set, sn_add_put, sn_add_take, decide_eq_true hc2]; exact hq) (st_ret2 (by intro Q E hq; simp only [↓eVar, ↓eC, ↓eBin, ↓eUn, ↓eB, ↓eTup, ↓eLst, ↓eAnd, ↓eOr, ↓eNot, ↓eIf, ↓eChain, ↓eSlice, ↓eM, ↓eStr1, ↓eIsi, ↓oNo, ↓oPart, ↓tst, ↓ftAnd, ↓ftOr, ↓ftNot, ↓ftYes, ↓args, ↓gI, ↓gI0, ↓gSubI, ↓gFdiv, ↓gMod, ↓gPow, ↓gLt, ↓gLe, ↓gGt, ↓gGe, ↓gAdd, ↓gMul, ↓gRep, ↓gIx, ↓gIsN, ↓gNotN, ↓gNeg, ↓gEqN, ↓gIn, ↓gInSeq, ↓gLen, ↓gSlice, ↓gList, ↓gTuple, ↓gMin2, ↓gMax2, ↓gStr, ↓gInt, ↓newL, ↓mAppend, ↓mInsert, ↓mPopAt, ↓mIndex, ↓gSplit, ↓gJoin, List.map_cons, List.map_nil, List.length_cons, List.length_nil, List.length_map, List.cons_append, List.nil_append, Nat.reduceAdd, Nat.reduceSub, List.getElem?_cons_zero, List.getElem?_cons_succ, List.getElem?_map, Option.map_some, List.set_cons_zero, List.set_cons_succ, isNon, seqOf, listOf, atI_nn, atI_0, atI_1, atI_2, atI_3, encNet, encSt, encRow, encR, encO, encP, nats, encT, Od.raw, if_true, if_false, ite_true, ite_false, Bool.false_eq_true, Bool.true_eq_false, Bool.not_true, Bool.not_false, decide_true, decide_false, reduceIte, eq_self, and_true, true_and, sn_set_put, sn_set_take, sn_set_add, sn_put_set, sn_put_take, sn_put_add, sn_take_set, sn_take_put, sn_take_add, sn_add_set, sn_add_put, sn_add_take]; exact hq) ?_)
          rw [if_pos hc] at hq
          exact hq
        · have hc2 : ¬ ((S.hl p).length : Int) = 0 := by omega
          refine st_ifn (by intro Q E hq; simp only [↓eVar, ↓eC, ↓eBin, ↓eUn, ↓eB, ↓eTup, ↓eLst, ↓eAnd, ↓eOr, ↓eNot, ↓eIf, ↓eChain, ↓eSlice, ↓eM, ↓eStr1, ↓eIsi, ↓oNo, ↓oPart, ↓tst, ↓ftAnd, ↓ftOr, ↓ftNot, ↓ftYes, ↓args, ↓gI, ↓gI0, ↓gSubI, ↓gFdiv, ↓gMod, ↓gPow, ↓gLt, ↓gLe, ↓gGt, ↓gGe, ↓gAdd, ↓gMul, ↓gRep, ↓gIx, ↓gIsN, ↓gNotN, ↓gNeg, ↓gEqN, ↓gIn, ↓gInSeq, ↓gLen, ↓gSlice, ↓gList, ↓gTuple, ↓gMin2, ↓gMax2, ↓gStr, ↓gInt, ↓newL, ↓mAppend, ↓mInsert, ↓mPopAt, ↓mIndex, ↓gSplit, ↓gJoin, List.map_cons, List.map_nil, List.length_cons, List.length_nil, List.length_map, List.cons_append, List.nil_append, Nat.reduceAdd, Nat.reduceSub, List.getElem?_cons_zero, List.getElem?_cons_succ, List.getElem?_map, Option.map_some, List.set_cons_zero, List.set_cons_succ, isNon, seqOf, listOf, atI_nn, atI_0, atI_1, atI_2, atI_3, encNet, encSt, encRow, encR, encO, encP, nats, encT, Od.raw, if_true, if_false, ite_true, ite_false, Bool.false_eq_true, Bool.true_eq_false, Bool.not_true, Bool.not_false, decide_true, decide_false, reduceIte, eq_self, and_true, true_and, sn_set_put, sn_set_take, sn_set_add, sn_put_set, sn_put_take, sn_put_add, sn_take_set, sn_take_put, sn_take_add, sn_add_set, sn_add_put, sn_add_take, decide_eq_false hc2]; exact hq) (st_ret (by intro Q E hq; simp only [↓eVar, ↓eC, ↓eBin, ↓eUn, ↓eB, ↓eTup, ↓eLst, ↓eAnd, ↓eOr, ↓eNot, ↓eIf, ↓eChain, ↓eSlice, ↓eM, ↓eStr1, ↓eIsi, ↓oNo, ↓oPart, ↓tst, ↓ftAnd, ↓ftOr, ↓ftNot, ↓ftYes, ↓args, ↓gI, ↓gI0, ↓gSubI, ↓gFdiv, ↓gMod, ↓gPow, ↓gLt, ↓gLe, ↓gGt, ↓gGe, ↓gAdd, ↓gMul, ↓gRep, ↓gIx, ↓gIsN, ↓gNotN, ↓gNeg, ↓gEqN, ↓gIn, ↓gInSeq, ↓gLen, ↓gSlice, ↓gList, ↓gTuple, ↓gMin2, ↓gMax2, ↓gStr, ↓gInt, ↓newL, ↓mAppend, ↓mInsert, ↓mPopAt, ↓mIndex, ↓gSplit, ↓gJoin, List.map_cons, List.map_nil, List.length_cons, List.length_nil, List.length_map, List.cons_append, List.nil_append, Nat.reduceAdd, Nat.reduceSub, List.getElem?_cons_zero, List.getElem?_cons_succ, List.getElem?_map, Option.map_some, List.set_cons_zero, List.set_cons_succ, isNon, seqOf, listOf, atI_nn, atI_0, atI_1, atI_2, atI_3, encNet, encSt, encRow, encR, encO, encP, nats, encT, Od.raw, if_true, if_false, ite_true, ite_false, Bool.false_eq_true, Bool.true_eq_false, Bool.not_true, Bool.not_false, decide_true, decide_false, reduceIte, eq_self, and_true, true_and, sn_set_put, sn_set_take, sn_set_add, sn_put_set, sn_put_take, sn_put_add, sn_take_set, sn_take_put, sn_take_add, sn_add_set, sn_add_put, sn_add_take]; exact hq) ?_)
          rw [if_neg hc] at hq
          exact hq
      | add p =>
        have hp := hp p (.inr (.inr ho))
        refine st_ifn (by intro Q E hq; simp only [↓eVar, ↓eC, ↓eBin, ↓eUn, ↓eB, ↓eTup, ↓eLst, ↓eAnd, ↓eOr, ↓eNot, ↓eIf, ↓eChain, ↓eSlice, ↓eM, ↓eStr1, ↓eIsi, ↓oNo, ↓oPart, ↓tst, ↓ftAnd, ↓ftOr, ↓ftNot, ↓ftYes, ↓args, ↓gI, ↓gI0, ↓gSubI, ↓gFdiv, ↓gMod, ↓gPow, ↓gLt, ↓gLe, ↓gGt, ↓gGe, ↓gAdd, ↓gMul, ↓gRep, ↓gIx, ↓gIsN, ↓gNotN, ↓gNeg, ↓gEqN, ↓gIn, ↓gInSeq, ↓gLen, ↓gSlice, ↓gList, ↓gTuple, ↓gMin2, ↓gMax2, ↓gStr, ↓gInt, ↓newL, ↓mAppend, ↓mInsert, ↓mPopAt, ↓mIndex, ↓gSplit, ↓gJoin, List.map_cons, List.map_nil, List.length_cons, List.length_nil, List.length_map, List.cons_append, List.nil_append, Nat.reduceAdd, Nat.reduceSub, List.getElem?_cons_zero, List.getElem?_cons_succ, List.getElem?_map, Option.map_some, List.set_cons_zero, List.set_cons_succ, isNon, seqOf, listOf, atI_nn, atI_0, atI_1, atI_2, atI_3, encNet, encSt, encRow, encR, encO, encP, nats, encT, Od.raw, if_true, if_false, ite_true, ite_false, Bool.false_eq_true, Bool.true_eq_false, Bool.not_true, Bool.not_false, decide_true, decide_false, reduceIte, eq_self, and_true, true_and, sn_set_put, sn_set_take, sn_set_add, sn_put_set, sn_put_take, sn_put_add, sn_take_set, sn_take_put, sn_take_add, sn_add_set, sn_add_put, sn_add_take]; exact hq) (st_set (by intro Q E hq; simp only [↓eVar, ↓eC, ↓eBin, ↓eUn, ↓eB, ↓eTup, ↓eLst, ↓eAnd, ↓eOr, ↓eNot, ↓eIf, ↓eChain, ↓eSlice, ↓eM, ↓eStr1, ↓eIsi, ↓oNo, ↓oPart, ↓tst, ↓ftAnd, ↓ftOr, ↓ftNot, ↓ftYes, ↓args, ↓gI, ↓gI0, ↓gSubI, ↓gFdiv, ↓gMod, ↓gPow, ↓gLt, ↓gLe, ↓gGt, ↓gGe, ↓gAdd, ↓gMul, ↓gRep, ↓gIx, ↓gIsN, ↓gNotN, ↓gNeg, ↓gEqN, ↓gIn, ↓gInSeq, ↓gLen, ↓gSlice, ↓gList, ↓gTuple, ↓gMin2, ↓gMax2, ↓gStr, ↓gInt, ↓newL, ↓mAppend, ↓mInsert, ↓mPopAt, ↓mIndex, ↓gSplit, ↓gJoin, List.map_cons, List.map_nil, List.length_cons, List.length_nil, List.length_map, List.cons_append, List.nil_append, Nat.reduceAdd, Nat.reduceSub, List.getElem?_cons_zero, List.getElem?_cons_succ, List.getElem?_map, Option.map_some, List.set_cons_zero, List.set_cons_succ, isNon, seqOf, listOf, atI_nn, atI_0, atI_1, atI_2, atI_3, encNet, encSt, encRow, encR, encO, encP, nats, encT, Od.raw, if_true, if_false, ite_true, ite_false, Bool.false_eq_true, Bool.true_eq_false, Bool.not_true, Bool.not_false, decide_true, decide_false, reduceIte, eq_self, and_true, true_and, sn_set_put, sn_set_take, sn_set_add, sn_put_set, sn_put_take, sn_put_add, sn_take_set, sn_take_put, sn_take_add, sn_add_set, sn_add_put, sn_add_take, pip_at hp]; exact hq) (st_set (by intro Q E hq; simp only [↓eVar, ↓eC, ↓eBin, ↓eUn, ↓eB, ↓eTup, ↓eLst, ↓eAnd, ↓eOr, ↓eNot, ↓eIf, ↓eChain, ↓eSlice, ↓eM, ↓eStr1, ↓eIsi, ↓oNo, ↓oPart, ↓tst, ↓ftAnd, ↓ftOr, ↓ftNot, ↓ftYes, ↓args, ↓gI, ↓gI0, ↓gSubI, ↓gFdiv, ↓gMod, ↓gPow, ↓gLt, ↓gLe, ↓gGt, ↓gGe, ↓gAdd, ↓gMul, ↓gRep, ↓gIx, ↓gIsN, ↓gNotN, ↓gNeg, ↓gEqN, ↓gIn, ↓gInSeq, ↓gLen, ↓gSlice, ↓gList, ↓gTuple, ↓gMin2, ↓gMax2, ↓gStr, ↓gInt, ↓newL, ↓mAppend, ↓mInsert, ↓mPopAt, ↓mIndex, ↓gSplit, ↓gJoin, List.map_cons, List.map_nil, List.length_cons, List.length_nil, List.length_map, List.cons_append, List.nil_append, Nat.reduceAdd, Nat.reduceSub, List.getElem?_cons_zero, List.getElem?_cons_succ, List.getElem?_map, Option.map_some, List.set_cons_zero, List.set_cons_succ, isNon, seqOf, listOf, atI_nn, atI_0, atI_1, atI_2, atI_3, encNet, encSt, encRow, encR, encO, encP, nats, encT, Od.raw, if_true, if_false, ite_true, ite_false, Bool.false_eq_true, Bool.true_eq_false, Bool.not_true, Bool.not_false, decide_true, decide_false, reduceIte, eq_self, and_true, true_and, sn_set_put, sn_set_take, sn_set_add, sn_put_set, sn_put_take, sn_put_add, sn_take_set, sn_take_put, sn_take_add, sn_add_set, sn_add_put, sn_add_take, hl_at g hp]; exact hq) (st_ifn (by intro Q E hq; simp only [↓eVar, ↓eC, ↓eBin, ↓eUn, ↓eB, ↓eTup, ↓eLst, ↓eAnd, ↓eOr, ↓eNot, ↓eIf, ↓eChain, ↓eSlice, ↓eM, ↓eStr1, ↓eIsi, ↓oNo, ↓oPart, ↓tst, ↓ftAnd, ↓ftOr, ↓ftNot, ↓ftYes, ↓args, ↓gI, ↓gI0, ↓gSubI, ↓gFdiv, ↓gMod, ↓gPow, ↓gLt, ↓gLe, ↓gGt, ↓gGe, ↓gAdd, ↓gMul, ↓gRep, ↓gIx, ↓gIsN, ↓gNotN, ↓gNeg, ↓gEqN, ↓gIn, ↓gInSeq, ↓gLen, ↓gSlice, ↓gList, ↓gTuple, ↓gMin2, ↓gMax2, ↓gStr, ↓gInt, ↓newL, ↓mAppend, ↓mInsert, ↓mPopAt, ↓mIndex, ↓gSplit, ↓gJoin, List.map_cons, List.map_nil, List.length_cons, List.length_nil, List.length_map, List.cons_append, List.nil_append, Nat.reduceAdd, Nat.reduceSub, List.getElem?_cons_zero, List.getElem?_cons_succ, List.getElem?_map, Option.map_some, List.set_cons_zero, List.set_cons_succ, isNon, seqOf, listOf, atI_nn, atI_0, atI_1, atI_2, atI_3, encNet, encSt, encRow, encR, encO, encP, nats, encT, Od.raw, if_true, if_false, ite_true, ite_false, Bool.false_eq_true, Bool.true_eq_false, Bool.not_true, Bool.not_false, decide_true, decide_false, reduceIte, eq_self, and_true, true_and, sn_set_put, sn_set_take, sn_set_add, sn_put_set, sn_put_take, sn_put_add, sn_take_set, sn_take_put, sn_take_add, sn_add_set, sn_add_put, sn_add_take]; exact hq) ?_)))
        rw [ho] at hq
        simp only [waitO, Bool.false_eq_true, if_false] at hq
        by_cases hc : (S.hl p).length = 0
        · have hc2 : ((S.hl p).length : Int) = 0 := by omega
          refine st_if1 (by intro Q E hq; simp only [↓eVar, ↓eC, ↓eBin, ↓eUn, ↓eB, ↓eTup, ↓eLst, ↓eAnd, ↓eOr, ↓eNot, ↓eIf, ↓eChain, ↓eSlice, ↓eM, ↓eStr1, ↓eIsi, ↓oNo, ↓oPart, ↓tst, ↓ftAnd, ↓ftOr, ↓ftNot, ↓ftYes, ↓args, ↓gI, ↓gI0, ↓gSubI, ↓gFdiv, ↓gMod, ↓gPow, ↓gLt, ↓gLe, ↓gGt, ↓gGe, ↓gAdd, ↓gMul, ↓gRep, ↓gIx, ↓gIsN, ↓gNotN, ↓gNeg, ↓gEqN, ↓gIn, ↓gInSeq, ↓gLen, ↓gSlice, ↓gList, ↓gTuple, ↓gMin2, ↓gMax2, ↓gStr, ↓gInt, ↓newL, ↓mAppend, ↓mInsert, ↓mPopAt, ↓mIndex, ↓gSplit, ↓gJoin, List.map_cons, List.map_nil, List.length_cons, List.length_nil, List.length_map, List.cons_append, List.nil_append, Nat.reduceAdd, Nat.reduceSub, List.getElem?_cons_zero, List.getElem?_cons_succ, List.getElem?_map, Option.map_some, List.set_cons_zero, List.set_cons_succ, isNon, seqOf, listOf, atI_nn, atI_0, atI_1, atI_2, atI_3, encNet, encSt, encRow, encR, encO, encP, nats, encT, Od.raw, if_true, if_false, ite_true, ite_false, Bool.false_eq_true, Bool.true_eq_false, Bool.not_true, Bool.not_false, decide_true, decide_false, reduceIte, eq_self, and_true, true_and, sn_set_put, sn_set_take, sn_set_add, sn_put_set, sn_put_take, sn_put_add, sn_take_set, sn_take_put, sn_take_add, sn_add_set, sn_add_put, sn_add_take, decide_eq_true hc2]; exact hq) (st_ret2 (by intro Q E hq; simp only [↓eVar, ↓eC, ↓eBin, ↓eUn, ↓eB, ↓eTup, ↓eLst, ↓eAnd, ↓eOr, ↓eNot, ↓eIf, ↓eChain, ↓eSlice, ↓eM, ↓eStr1, ↓eIsi, ↓oNo, ↓oPart, ↓tst, ↓ftAnd, ↓ftOr, ↓ftNot, ↓ftYes, ↓args, ↓gI, ↓gI0, ↓gSubI, ↓gFdiv, ↓gMod, ↓gPow, ↓gLt, ↓gLe, ↓gGt, ↓gGe, ↓gAdd, ↓gMul, ↓gRep, ↓gIx, ↓gIsN, ↓gNotN, ↓gNeg, ↓gEqN, ↓gIn, ↓gInSeq, ↓gLen, ↓gSlice, ↓gList, ↓gTuple, ↓gMin2, ↓gMax2, ↓gStr, ↓gInt, ↓newL, ↓mAppend, ↓mInsert, ↓mPopAt, ↓mIndex, ↓gSplit, ↓gJoin, List.map_cons, List.map_nil, List.length_cons, List.length_nil, List.length_map, List.cons_append, List.nil_append, Nat.reduceAdd, Nat.reduceSub, List.getElem?_cons_zero, List.getElem?_cons_succ, List.getElem?_map, Option.map_some, List.set_cons_zero, List.set_cons_succ, isNon, seqOf, listOf, atI_nn, atI_0, atI_1, atI_2, atI_3, encNet, encSt, encRow, encR, encO, encP, nats, encT, Od.raw, if_true, if_false, ite_true, ite_false, Bool.false_eq_true, Bool.true_eq_false, Bool.not_true, Bool.not_false, decide_true, decide_false, reduceIte, eq_self, and_true, true_and, sn_set_put, sn_set_take, sn_set_add, sn_put_set, sn_put_take, sn_put_add, sn_take_set, sn_take_put, sn_take_add, sn_add_set, sn_add_put, sn_add_take]; exact hq) ?_)
          rw [if_pos hc] at hq
          exact hq
        · have hc2 : ¬ ((S.hl p).length : Int) = 0 := by omega
          refine st_ifn (by intro Q E hq; simp only [↓eVar, ↓eC, ↓eBin, ↓eUn, ↓eB, ↓eTup, ↓eLst, ↓eAnd, ↓eOr, ↓eNot, ↓eIf, ↓eChain, ↓eSlice, ↓eM, ↓eStr1, ↓eIsi, ↓oNo, ↓oPart, ↓tst, ↓ftAnd, ↓ftOr, ↓ftNot, ↓ftYes, ↓args, ↓gI, ↓gI0, ↓gSubI, ↓gFdiv, ↓gMod, ↓gPow, ↓gLt, ↓gLe, ↓gGt, ↓gGe, ↓gAdd, ↓gMul, ↓gRep, ↓gIx, ↓gIsN, ↓gNotN, ↓gNeg, ↓gEqN, ↓gIn, ↓gInSeq, ↓gLen, ↓gSlice, ↓gList, ↓gTuple, ↓gMin2, ↓gMax2, ↓gStr, ↓gInt, ↓newL, ↓mAppend, ↓mInsert, ↓mPopAt, ↓mIndex, ↓gSplit, ↓gJoin, List.map_cons, List.map_nil, List.length_cons, List.length_nil, List.length_map, List.cons_append, List.nil_append, Nat.reduceAdd, Nat.reduceSub, List.getElem?_cons_zero, List.getElem?_cons_succ, List.getElem?_map, Option.map_some, List.set_cons_zero, List.set_cons_succ, isNon, seqOf, listOf, atI_nn, atI_0, atI_1, atI_2, atI_3, encNet, encSt, encRow, encR, encO, encP, nats, encT, Od.raw, if_true, if_false, ite_true, ite_false, Bool.false_eq_true, Bool.true_eq_false, Bool.not_true, Bool.not_false, decide_true, decide_false, reduceIte, eq_self, and_true, true_and, sn_set_put, sn_set_take, sn_set_add, sn_put_set, sn_put_take, sn_put_add, sn_take_set, sn_take_put, sn_take_add, sn_add_set, sn_add_put, sn_add_take, decide_eq_false hc2]; exact hq) (st_ret (by intro Q E hq; simp only [↓eVar, ↓eC, ↓eBin, ↓eUn, ↓eB, ↓eTup, ↓eLst, ↓eAnd, ↓eOr, ↓eNot, ↓eIf, ↓eChain, ↓eSlice, ↓eM, ↓eStr1, ↓eIsi, ↓oNo, ↓oPart, ↓tst, ↓ftAnd, ↓ftOr, ↓ftNot, ↓ftYes, ↓args, ↓gI, ↓gI0, ↓gSubI, ↓gFdiv, ↓gMod, ↓gPow, ↓gLt, ↓gLe, ↓gGt, ↓gGe, ↓gAdd, ↓gMul, ↓gRep, ↓gIx, ↓gIsN, ↓gNotN, ↓gNeg, ↓gEqN, ↓gIn, ↓gInSeq, ↓gLen, ↓gSlice, ↓gList, ↓gTuple, ↓gMin2, ↓gMax2, ↓gStr, ↓gInt, ↓newL, ↓mAppend, ↓mInsert, ↓mPopAt, ↓mIndex, ↓gSplit, ↓gJoin, List.map_cons, List.map_nil, List.length_cons, List.length_nil, List.length_map, List.cons_append, List.nil_append, Nat.reduceAdd, Nat.reduceSub, List.getElem?_cons_zero, List.getElem?_cons_succ, List.getElem?_map, Option.map_some, List.set_cons_zero, List.set_cons_succ, isNon, seqOf, listOf, atI_nn, atI_0, atI_1, atI_2, atI_3, encNet, encSt, encRow, encR, encO, encP, nats, encT, Od.raw, if_true, if_false, ite_true, ite_false, Bool.false_eq_true, Bool.true_eq_false, Bool.not_true, Bool.not_false, decide_true, decide_false, reduceIte, eq_self, and_true, true_and, sn_set_put, sn_set_take, sn_set_add, sn_put_set, sn_put_take, sn_put_add, sn_take_set, sn_take_put, sn_take_add, sn_add_set, sn_add_put, sn_add_take]; exact hq) ?_)
          rw [if_neg hc] at hq
          exact hq
  · rw [if_neg hw] at hq
    exact sx_if (ex_call (by intro Q E hq; simp only [↓eVar, ↓eC, ↓eBin, ↓eUn, ↓eB, ↓eTup, ↓eLst, ↓eAnd, ↓eOr, ↓eNot, ↓eIf, ↓eChain, ↓eSlice, ↓eM, ↓eStr1, ↓eIsi, ↓oNo, ↓oPart, ↓tst, ↓ftAnd, ↓ftOr, ↓ftNot, ↓ftYes, ↓args, ↓gI, ↓gI0, ↓gSubI, ↓gFdiv, ↓gMod, ↓gPow, ↓gLt, ↓gLe, ↓gGt, ↓gGe, ↓gAdd, ↓gMul, ↓gRep, ↓gIx, ↓gIsN, ↓gNotN, ↓gNeg, ↓gEqN, ↓gIn, ↓gInSeq, ↓gLen, ↓gSlice, ↓gList, ↓gTuple, ↓gMin2, ↓gMax2, ↓gStr, ↓gInt, ↓newL, ↓mAppend, ↓mInsert, ↓mPopAt, ↓mIndex, ↓gSplit, ↓gJoin, List.map_cons, List.map_nil, List.length_cons, List.length_nil, List.length_map, List.cons_append, List.nil_append, Nat.reduceAdd, Nat.reduceSub, List.getElem?_cons_zero, List.getElem?_cons_succ, List.getElem?_map, Option.map_some, List.set_cons_zero, List.set_cons_succ, isNon, seqOf, listOf, atI_nn, atI_0, atI_1, atI_2, atI_3, encNet, encSt, encRow, encR, encO, encP, nats, encT, Od.raw, if_true, if_false, ite_true, ite_false, Bool.false_eq_true, Bool.true_eq_false, Bool.not_true, Bool.not_false, decide_true, decide_false, reduceIte, eq_self, and_true, true_and, sn_set_put, sn_set_take, sn_set_add, sn_put_set, sn_put_take, sn_put_add, sn_take_set, sn_take_put, sn_take_add, sn_add_set, sn_add_put, sn_add_take]; exact hq) (it_ex g hw)) hq
theorem set_cut {xs : List D} {i : Nat} {v : D} (h : i < xs.length) : xs.take i ++ [v] ++ xs.drop (i + 1) = xs.set i v := by
  rw [List.set_eq_take_append_cons_drop, if_pos h, List.append_assoc]
  rfl
theorem cut_to {xs : List D} {i : Nat} (h : i ≤ xs.length) : cutD xs none (some (i : Int)) = xs.take i := by
  unfold cutD
  rw [HT.sIx_none, HT.sIx_nat, List.drop_zero, Nat.sub_zero, Nat.min_eq_left h]
theorem cut_from {xs : List D} {i : Nat} (h : i ≤ xs.length) : cutD xs (some (i : Int)) none = xs.drop i := by
  unfold cutD
  rw [HT.sIx_none, HT.sIx_nat, Nat.min_eq_left h]
  exact List.take_of_length_le (by rw [List.length_drop]; exact Nat.le_refl _)
theorem million {n : Nat} (h : n ≤ 10000000) : n ≤ sizeLine := Nat.le_trans h (by decide)
theorem sem_with_at : ∀ ds M Q E, G_with_at ds M Q E → f_with_at (exits false M Q E) (startD 3 ds) M := by
  rintro ds M Q E ⟨xs, i, v, rfl, hi, hs, hq⟩
  unfold f_with_at
  simp only [startD, List.map_cons, List.map_nil, List.length_cons, List.length_nil, List.replicate, List.cons_append, List.nil_append, Nat.reduceAdd, Nat.reduceSub]
  refine st_ret (d := .tup (xs.set i v)) (M1 := M) ?_ hq
  intro Q E hq
  have e1 : (i : Int) + 1 = ((i + 1 : Nat) : Int) := by omega
  simp only [↓eVar, ↓eC, ↓eBin, ↓eUn, ↓eB, ↓eTup, ↓eLst, ↓eAnd, ↓eOr, ↓eNot, ↓eIf, ↓eChain, ↓eSlice, ↓eM, ↓eStr1, ↓eIsi, ↓oNo, ↓oPart, ↓tst, ↓ftAnd, ↓ftOr, ↓ftNot, ↓ftYes, ↓args, ↓gI, ↓gI0, ↓gSubI, ↓gFdiv, ↓gMod, ↓gPow, ↓gLt, ↓gLe, ↓gGt, ↓gGe, ↓gAdd, ↓gMul, ↓gRep, ↓gIx, ↓gIsN, ↓gNotN, ↓gNeg, ↓gEqN, ↓gIn, ↓gInSeq, ↓gLen, ↓gSlice, ↓gList, ↓gTuple, ↓gMin2, ↓gMax2, ↓gStr, ↓gInt, ↓newL, ↓mAppend, ↓mInsert, ↓mPopAt, ↓mIndex, ↓gSplit, ↓gJoin, List.map_cons, List.map_nil, List.length_cons, List.length_nil, List.length_map, List.cons_append, List.nil_append, Nat.reduceAdd, Nat.reduceSub, List.getElem?_cons_zero, List.getElem?_cons_succ, List.getElem?_map, Option.map_some, List.set_cons_zero, List.set_cons_succ, isNon, seqOf, listOf, atI_nn, atI_0, atI_1, atI_2, atI_3, encNet, encSt, encRow, encR, encO, encP, nats, encT, Od.raw, if_true, if_false, ite_true, ite_false, Bool.false_eq_true, Bool.true_eq_false, Bool.not_true, Bool.not_false, decide_true, decide_false, reduceIte, eq_self, and_true, true_and, sn_set_put, sn_set_take, sn_set_add, sn_put_set, sn_put_take, sn_put_add, sn_take_set, sn_take_put, sn_take_add, sn_add_set, sn_add_put, sn_add_take, cut_to (Nat.le_of_lt hi), e1, cut_from hi]
  refine ⟨million (by rw [List.length_take]; simp; omega), million (by rw [List.length_append, List.length_take, List.length_drop]; simp; omega), ?_⟩
  rw [set_cut hi]
  exact hq
theorem sem_can_step : ∀ ds M Q E, G_can_step ds M Q E → f_can_step G_is_through G_wait_of (exits false M Q E) (startD 3 ds) M := by
  rintro ds M Q E ⟨N, S, who, rfl, g, hq⟩
  unfold f_can_step
  simp only [startD, List.map_cons, List.map_nil, List.length_cons, List.length_nil, List.replicate, List.cons_append, List.nil_append, Nat.reduceAdd, Nat.reduceSub]
  by_cases hw : isW N who
  · obtain ⟨w, rfl⟩ : ∃ w : Nat, who = w := ⟨who.toNat, by have := hw.1; omega⟩
    have hw2 : w < N.W := by have := hw.2; omega
    rw [if_pos hw] at hq
    have h1 : Ev (eCall G_is_through [eVar 0, eVar 1, eVar 2]) [some (encNet N), some (encSt S), some (D.int w)] M (.bl (thru N S w)) M := ev_call (by intro Q E hq; simp only [↓eVar, ↓eC, ↓eBin, ↓eUn, ↓eB, ↓eTup, ↓eLst, ↓eAnd, ↓eOr, ↓eNot, ↓eIf, ↓eChain, ↓eSlice, ↓eM, ↓eStr1, ↓eIsi, ↓oNo, ↓oPart, ↓tst, ↓ftAnd, ↓ftOr, ↓ftNot, ↓ftYes, ↓args, ↓gI, ↓gI0, ↓gSubI, ↓gFdiv, ↓gMod, ↓gPow, ↓gLt, ↓gLe, ↓gGt, ↓gGe, ↓gAdd, ↓gMul, ↓gRep, ↓gIx, ↓gIsN, ↓gNotN, ↓gNeg, ↓gEqN, ↓gIn, ↓gInSeq, ↓gLen, ↓gSlice, ↓gList, ↓gTuple, ↓gMin2, ↓gMax2, ↓gStr, ↓gInt, ↓newL, ↓mAppend, ↓mInsert, ↓mPopAt, ↓mIndex, ↓gSplit, ↓gJoin, List.map_cons, List.map_nil, List.length_cons, List.length_nil, List.length_map, List.cons_append, List.nil_append, Nat.reduceAdd, Nat.reduceSub, List.getElem?_cons_zero, List.getElem?_cons_succ, List.getElem?_map, Option.map_some, List.set_cons_zero, List.set_cons_succ, isNon, seqOf, listOf, atI_nn, atI_0, atI_1, atI_2, atI_3, encNet, encSt, encRow, encR, encO, encP, nats, encT, Od.raw, if_true, if_false, ite_true, ite_false, Bool.false_eq_true, Bool.true_eq_false, Bool.not_true, Bool.not_false, decide_true, decide_false, reduceIte, eq_self, and_true, true_and, sn_set_put, sn_set_take, sn_set_add, sn_put_set, sn_put_take, sn_put_add, sn_take_set, sn_take_put, sn_take_add, sn_add_set, sn_add_put, sn_add_take]; exact hq) (it_ok g hw2)
    have h2 : Ev (eCall G_wait_of [eVar 0, eVar 1, eVar 2]) [some (encNet N), some (encSt S), some (D.int w)] M (encW (waitN N S w)) M := ev_call (by intro Q E hq; simp only [↓eVar, ↓eC, ↓eBin, ↓eUn, ↓eB, ↓eTup, ↓eLst, ↓eAnd, ↓eOr, ↓eNot, ↓eIf, ↓eChain, ↓eSlice, ↓eM, ↓eStr1, ↓eIsi, ↓oNo, ↓oPart, ↓tst, ↓ftAnd, ↓ftOr, ↓ftNot, ↓ftYes, ↓args, ↓gI, ↓gI0, ↓gSubI, ↓gFdiv, ↓gMod, ↓gPow, ↓gLt, ↓gLe, ↓gGt, ↓gGe, ↓gAdd, ↓gMul, ↓gRep, ↓gIx, ↓gIsN, ↓gNotN, ↓gNeg, ↓gEqN, ↓gIn, ↓gInSeq, ↓gLen, ↓gSlice, ↓gList, ↓gTuple, ↓gMin2, ↓gMax2, ↓gStr, ↓gInt, ↓newL, ↓mAppend, ↓mInsert, ↓mPopAt, ↓mIndex, ↓gSplit, ↓gJoin, List.map_cons, List.map_nil, List.length_cons, List.length_nil, List.length_map, List.cons_append, List.nil_append, Nat.reduceAdd, Nat.reduceSub, List.getElem?_cons_zero, List.getElem?_cons_succ, List.getElem?_map, Option.map_some, List.set_cons_zero, List.set_cons_succ, isNon, seqOf, listOf, atI_nn, atI_0, atI_1, atI_2, atI_3, encNet, encSt, encRow, encR, encO, encP, nats, encT, Od.raw, if_true, if_false, ite_true, ite_false, Bool.false_eq_true, Bool.true_eq_false, Bool.not_true, Bool.not_false, decide_true, decide_false, reduceIte, eq_self, and_true, true_and, sn_set_put, sn_set_take, sn_set_add, sn_put_set, sn_put_take, sn_put_add, sn_take_set, sn_take_put, sn_take_add, sn_add_set, sn_add_put, sn_add_take]; exact hq) (wo_ok g hw2)
    refine st_ret (d := .bl (canN N S w)) (M1 := M) ?_ hq
    clear hq
    intro Q E hq
    unfold eAnd eNot
    refine h1 _ _ ?_
    unfold canN at hq
    cases ht : thru N S w with
    | true =>
      rw [ht] at hq
      exact hq
    | false =>
      rw [ht] at hq
      show eBin gIsN (eCall G_wait_of [eVar 0, eVar 1, eVar 2]) (eC .non) _ M Q E
      unfold eBin
      refine h2 _ _ ?_
      cases hx : waitN N S w with
      | none => rw [hx] at hq; exact hq
      | some p => rw [hx] at hq; exact hq
  · rw [if_neg hw] at hq
    refine sx_ret ?_ hq
    clear hq
    intro Q E hq
    unfold eAnd eNot
    exact ex_call (M1 := M) (M2 := M) (by intro Q E hq; simp only [↓eVar, ↓eC, ↓eBin, ↓eUn, ↓eB, ↓eTup, ↓eLst, ↓eAnd, ↓eOr, ↓eNot, ↓eIf, ↓eChain, ↓eSlice, ↓eM, ↓eStr1, ↓eIsi, ↓oNo, ↓oPart, ↓tst, ↓ftAnd, ↓ftOr, ↓ftNot, ↓ftYes, ↓args, ↓gI, ↓gI0, ↓gSubI, ↓gFdiv, ↓gMod, ↓gPow, ↓gLt, ↓gLe, ↓gGt, ↓gGe, ↓gAdd, ↓gMul, ↓gRep, ↓gIx, ↓gIsN, ↓gNotN, ↓gNeg, ↓gEqN, ↓gIn, ↓gInSeq, ↓gLen, ↓gSlice, ↓gList, ↓gTuple, ↓gMin2, ↓gMax2, ↓gStr, ↓gInt, ↓newL, ↓mAppend, ↓mInsert, ↓mPopAt, ↓mIndex, ↓gSplit, ↓gJoin, List.map_cons, List.map_nil, List.length_cons, List.length_nil, List.length_map, List.cons_append, List.nil_append, Nat.reduceAdd, Nat.reduceSub, List.getElem?_cons_zero, List.getElem?_cons_succ, List.getElem?_map, Option.map_some, List.set_cons_zero, List.set_cons_succ, isNon, seqOf, listOf, atI_nn, atI_0, atI_1, atI_2, atI_3, encNet, encSt, encRow, encR, encO, encP, nats, encT, Od.raw, if_true, if_false, ite_true, ite_false, Bool.false_eq_true, Bool.true_eq_false, Bool.not_true, Bool.not_false, decide_true, decide_false, reduceIte, eq_self, and_true, true_and, sn_set_put, sn_set_take, sn_set_add, sn_put_set, sn_put_take, sn_put_add, sn_take_set, sn_take_put, sn_take_add, sn_add_set, sn_add_put, sn_add_take]; exact hq) (it_ex g hw) _ _ hq
theorem encT_set {xs : List (List Int)} {p : Nat} {ys : List Int} : (xs.map encT).set p (encT ys) = (xs.set p ys).map encT := (List.map_set).symm
theorem sem_step : ∀ ds M Q E, G_step ds M Q E → f_step G_is_through G_wait_of G_with_at (exits false M Q E) (startD 8 ds) M := by
  rintro ds M Q E ⟨N, S, who, rfl, g, hq⟩
  unfold f_step
  simp only [startD, List.map_cons, List.map_nil, List.length_cons, List.length_nil, List.replicate, List.cons_append, List.nil_append, Nat.reduceAdd, Nat.reduceSub]
  by_cases hw : isW N who
  · obtain ⟨w, rfl⟩ : ∃ w : Nat, who = w := ⟨who.toNat, by have := hw.1; omega⟩
    have hw2 : w < N.W := by have := hw.2; omega
    rw [if_pos hw] at hq
    have h1 : Ev (eCall G_is_through [eVar 0, eVar 1, eVar 2]) [some (encNet N), some (encSt S), some (D.int w), none, none, none, none, none] M (.bl (thru N S w)) M := ev_call (by intro Q E hq; simp only [↓eVar, ↓eC, ↓eBin, ↓eUn, ↓eB, ↓eTup, ↓eLst, ↓eAnd, ↓eOr, ↓eNot, ↓eIf, ↓eChain, ↓eSlice, ↓eM, ↓eStr1, ↓eIsi, ↓oNo, ↓oPart, ↓tst, ↓ftAnd, ↓ftOr, ↓ftNot, ↓ftYes, ↓args, ↓gI, ↓gI0, ↓gSubI, ↓gFdiv, ↓gMod, ↓gPow, ↓gLt, ↓gLe, ↓gGt, ↓gGe, ↓gAdd, ↓gMul, ↓gRep, ↓gIx, ↓gIsN, ↓gNotN, ↓gNeg, ↓gEqN, ↓gIn, ↓gInSeq, ↓gLen, ↓gSlice, ↓gList, ↓gTuple, ↓gMin2, ↓gMax2, ↓gStr, ↓gInt, ↓newL, ↓mAppend, ↓mInsert, ↓mPopAt, ↓mIndex, ↓gSplit, ↓gJoin, List.map_cons, List.map_nil, List.length_cons, List.length_nil, List.length_map, List.cons_append, List.nil_append, Nat.reduceAdd, Nat.reduceSub, List.getElem?_cons_zero, List.getElem?_cons_succ, List.getElem?_map, Option.map_some, List.set_cons_zero, List.set_cons_succ, isNon, seqOf, listOf, atI_nn, atI_0, atI_1, atI_2, atI_3, encNet, encSt, encRow, encR, encO, encP, nats, encT, Od.raw, if_true, if_false, ite_true, ite_false, Bool.false_eq_true, Bool.true_eq_false, Bool.not_true, Bool.not_false, decide_true, decide_false, reduceIte, eq_self, and_true, true_and, sn_set_put, sn_set_take, sn_set_add, sn_put_set, sn_put_take, sn_put_add, sn_take_set, sn_take_put, sn_take_add, sn_add_set, sn_add_put, sn_add_take]; exact hq) (it_ok g hw2)
    have h2 : Ev (eCall G_wait_of [eVar 0, eVar 1, eVar 2]) [some (encNet N), some (encSt S), some (D.int w), none, none, none, none, none] M (encW (waitN N S w)) M := ev_call (by intro Q E hq; simp only [↓eVar, ↓eC, ↓eBin, ↓eUn, ↓eB, ↓eTup, ↓eLst, ↓eAnd, ↓eOr, ↓eNot, ↓eIf, ↓eChain, ↓eSlice, ↓eM, ↓eStr1, ↓eIsi, ↓oNo, ↓oPart, ↓tst, ↓ftAnd, ↓ftOr, ↓ftNot, ↓ftYes, ↓args, ↓gI, ↓gI0, ↓gSubI, ↓gFdiv, ↓gMod, ↓gPow, ↓gLt, ↓gLe, ↓gGt, ↓gGe, ↓gAdd, ↓gMul, ↓gRep, ↓gIx, ↓gIsN, ↓gNotN, ↓gNeg, ↓gEqN, ↓gIn, ↓gInSeq, ↓gLen, ↓gSlice, ↓gList, ↓gTuple, ↓gMin2, ↓gMax2, ↓gStr, ↓gInt, ↓newL, ↓mAppend, ↓mInsert, ↓mPopAt, ↓mIndex, ↓gSplit, ↓gJoin, List.map_cons, List.map_nil, List.length_cons, List.length_nil, List.length_map, List.cons_append, List.nil_append, Nat.reduceAdd, Nat.reduceSub, List.getElem?_cons_zero, List.getElem?_cons_succ, List.getElem?_map, Option.map_some, List.set_cons_zero, List.set_cons_succ, isNon, seqOf, listOf, atI_nn, atI_0, atI_1, atI_2, atI_3, encNet, encSt, encRow, encR, encO, encP, nats, encT, Od.raw, if_true, if_false, ite_true, ite_false, Bool.false_eq_true, Bool.true_eq_false, Bool.not_true, Bool.not_false, decide_true, decide_false, reduceIte, eq_self, and_true, true_and, sn_set_put, sn_set_take, sn_set_add, sn_put_set, sn_put_take, sn_put_add, sn_take_set, sn_take_put, sn_take_add, sn_add_set, sn_add_put, sn_add_take]; exact hq) (wo_ok g hw2)
    simp only [Int.toNat_natCast] at hq
    cases ht : thru N S w with
    | true =>
      rw [ht] at h1 hq
      exact st_if1 (tv_of h1) (st_raise hq)
    | false =>
      rw [ht] at h1 hq
      rw [if_neg Bool.false_ne_true] at hq
      refine st_ifn (tv_of h1) ?_
      cases hx : waitN N S w with
      | some pq =>
        obtain ⟨p, q⟩ := pq
        rw [hx] at h2 hq
        exact st_if1 (tv_of (ev_bin (y := .non) (d := .bl true) (M2 := M) (M3 := M) h2 (by intro Q E hq; simp only [↓eVar, ↓eC, ↓eBin, ↓eUn, ↓eB, ↓eTup, ↓eLst, ↓eAnd, ↓eOr, ↓eNot, ↓eIf, ↓eChain, ↓eSlice, ↓eM, ↓eStr1, ↓eIsi, ↓oNo, ↓oPart, ↓tst, ↓ftAnd, ↓ftOr, ↓ftNot, ↓ftYes, ↓args, ↓gI, ↓gI0, ↓gSubI, ↓gFdiv, ↓gMod, ↓gPow, ↓gLt, ↓gLe, ↓gGt, ↓gGe, ↓gAdd, ↓gMul, ↓gRep, ↓gIx, ↓gIsN, ↓gNotN, ↓gNeg, ↓gEqN, ↓gIn, ↓gInSeq, ↓gLen, ↓gSlice, ↓gList, ↓gTuple, ↓gMin2, ↓gMax2, ↓gStr, ↓gInt, ↓newL, ↓mAppend, ↓mInsert, ↓mPopAt, ↓mIndex, ↓gSplit, ↓gJoin, List.map_cons, List.map_nil, List.length_cons, List.length_nil, List.length_map, List.cons_append, List.nil_append, Nat.reduceAdd, Nat.reduceSub, List.getElem?_cons_zero, List.getElem?_cons_succ, List.getElem?_map, Option.map_some, List.set_cons_zero, List.set_cons_succ, isNon, seqOf, listOf, atI_nn, atI_0, atI_1, atI_2, atI_3, encNet, encSt, encRow, encR, encO, encP, nats, encT, Od.raw, if_true, if_false, ite_true, ite_false, Bool.false_eq_true, Bool.true_eq_false, Bool.not_true, Bool.not_false, decide_true, decide_false, reduceIte, eq_self, and_true, true_and, sn_set_put, sn_set_take, sn_set_add, sn_put_set, sn_put_take, sn_put_add, sn_take_set, sn_take_put, sn_take_add, sn_add_set, sn_add_put, sn_add_take]; exact hq) (fun Q hq => hq))) (st_raise hq)
      | none =>
        rw [hx] at h2 hq
        have hq : Q (encSt (stepN N S w)) M := hq
        refine st_ifn (tv_of (ev_bin (y := .non) (d := .bl false) (M2 := M) (M3 := M) h2 (by intro Q E hq; simp only [↓eVar, ↓eC, ↓eBin, ↓eUn, ↓eB, ↓eTup, ↓eLst, ↓eAnd, ↓eOr, ↓eNot, ↓eIf, ↓eChain, ↓eSlice, ↓eM, ↓eStr1, ↓eIsi, ↓oNo, ↓oPart, ↓tst, ↓ftAnd, ↓ftOr, ↓ftNot, ↓ftYes, ↓args, ↓gI, ↓gI0, ↓gSubI, ↓gFdiv, ↓gMod, ↓gPow, ↓gLt, ↓gLe, ↓gGt, ↓gGe, ↓gAdd, ↓gMul, ↓gRep, ↓gIx, ↓gIsN, ↓gNotN, ↓gNeg, ↓gEqN, ↓gIn, ↓gInSeq, ↓gLen, ↓gSlice, ↓gList, ↓gTuple, ↓gMin2, ↓gMax2, ↓gStr, ↓gInt, ↓newL, ↓mAppend, ↓mInsert, ↓mPopAt, ↓mIndex, ↓gSplit, ↓gJoin, List.map_cons, List.map_nil, List.length_cons, List.length_nil, List.length_map, List.cons_append, List.nil_append, Nat.reduceAdd, Nat.reduceSub, List.getElem?_cons_zero, List.getElem?_cons_succ, List.getElem?_map, Option.map_some, List.set_cons_zero, List.set_cons_succ, isNon, seqOf, listOf, atI_nn, atI_0, atI_1, atI_2, atI_3, encNet, encSt, encRow, encR, encO, encP, nats, encT, Od.raw, if_true, if_false, ite_true, ite_false, Bool.false_eq_true, Bool.true_eq_false, Bool.not_true, Bool.not_false, decide_true, decide_false, reduceIte, eq_self, and_true, true_and, sn_set_put, sn_set_take, sn_set_add, sn_put_set, sn_put_take, sn_put_add, sn_take_set, sn_take_put, sn_take_add, sn_add_set, sn_add_put, sn_add_take]; exact hq) (fun Q hq => hq))) ?_
        have hp := fun p => ord_p g hw2 ht (p := p)
        refine st_set (d := encO (ordOf N S w)) (M1 := M) (by intro Q E hq; simp only [↓eVar, ↓eC, ↓eBin, ↓eUn, ↓eB, ↓eTup, ↓eLst, ↓eAnd, ↓eOr, ↓eNot, ↓eIf, ↓eChain, ↓eSlice, ↓eM, ↓eStr1, ↓eIsi, ↓oNo, ↓oPart, ↓tst, ↓ftAnd, ↓ftOr, ↓ftNot, ↓ftYes, ↓args, ↓gI, ↓gI0, ↓gSubI, ↓gFdiv, ↓gMod, ↓gPow, ↓gLt, ↓gLe, ↓gGt, ↓gGe, ↓gAdd, ↓gMul, ↓gRep, ↓gIx, ↓gIsN, ↓gNotN, ↓gNeg, ↓gEqN, ↓gIn, ↓gInSeq, ↓gLen, ↓gSlice, ↓gList, ↓gTuple, ↓gMin2, ↓gMax2, ↓gStr, ↓gInt, ↓newL, ↓mAppend, ↓mInsert, ↓mPopAt, ↓mIndex, ↓gSplit, ↓gJoin, List.map_cons, List.map_nil, List.length_cons, List.length_nil, List.length_map, List.cons_append, List.nil_append, Nat.reduceAdd, Nat.reduceSub, List.getElem?_cons_zero, List.getElem?_cons_succ, List.getElem?_map, Option.map_some, List.set_cons_zero, List.set_cons_succ, isNon, seqOf, listOf, atI_nn, atI_0, atI_1, atI_2, atI_3, encNet, encSt, encRow, encR, encO, encP, nats, encT, Od.raw, if_true, if_false, ite_true, ite_false, Bool.false_eq_true, Bool.true_eq_false, Bool.not_true, Bool.not_false, decide_true, decide_false, reduceIte, eq_self, and_true, true_and, sn_set_put, sn_set_take, sn_set_add, sn_put_set, sn_put_take, sn_put_add, sn_take_set, sn_take_put, sn_take_add, sn_add_set, sn_add_put, sn_add_take, row_at hw2, pl_at g hw2, ord_at ht]; exact hq) ?_
        refine st_set (d := .int (S.bx w)) (M1 := M) (by intro Q E hq; simp only [↓eVar, ↓eC, ↓eBin, ↓eUn, ↓eB, ↓eTup, ↓eLst, ↓eAnd, ↓eOr, ↓eNot, ↓eIf, ↓eChain, ↓eSlice, ↓eM, ↓eStr1, ↓eIsi, ↓oNo, ↓oPart, ↓tst, ↓ftAnd, ↓ftOr, ↓ftNot, ↓ftYes, ↓args, ↓gI, ↓gI0, ↓gSubI, ↓gFdiv, ↓gMod, ↓gPow, ↓gLt, ↓gLe, ↓gGt, ↓gGe, ↓gAdd, ↓gMul, ↓gRep, ↓gIx, ↓gIsN, ↓gNotN, ↓gNeg, ↓gEqN, ↓gIn, ↓gInSeq, ↓gLen, ↓gSlice, ↓gList, ↓gTuple, ↓gMin2, ↓gMax2, ↓gStr, ↓gInt, ↓newL, ↓mAppend, ↓mInsert, ↓mPopAt, ↓mIndex, ↓gSplit, ↓gJoin, List.map_cons, List.map_nil, List.length_cons, List.length_nil, List.length_map, List.cons_append, List.nil_append, Nat.reduceAdd, Nat.reduceSub, List.getElem?_cons_zero, List.getElem?_cons_succ, List.getElem?_map, Option.map_some, List.set_cons_zero, List.set_cons_succ, isNon, seqOf, listOf, atI_nn, atI_0, atI_1, atI_2, atI_3, encNet, encSt, encRow, encR, encO, encP, nats, encT, Od.raw, if_true, if_false, ite_true, ite_false, Bool.false_eq_true, Bool.true_eq_false, Bool.not_true, Bool.not_false, decide_true, decide_false, reduceIte, eq_self, and_true, true_and, sn_set_put, sn_set_take, sn_set_add, sn_put_set, sn_put_take, sn_put_add, sn_take_set, sn_take_put, sn_take_add, sn_add_set, sn_add_put, sn_add_take, bx_at g hw2]; exact hq) ?_
        refine st_set (by intro Q E hq; simp only [↓eVar, ↓eC, ↓eBin, ↓eUn, ↓eB, ↓eTup, ↓eLst, ↓eAnd, ↓eOr, ↓eNot, ↓eIf, ↓eChain, ↓eSlice, ↓eM, ↓eStr1, ↓eIsi, ↓oNo, ↓oPart, ↓tst, ↓ftAnd, ↓ftOr, ↓ftNot, ↓ftYes, ↓args, ↓gI, ↓gI0, ↓gSubI, ↓gFdiv, ↓gMod, ↓gPow, ↓gLt, ↓gLe, ↓gGt, ↓gGe, ↓gAdd, ↓gMul, ↓gRep, ↓gIx, ↓gIsN, ↓gNotN, ↓gNeg, ↓gEqN, ↓gIn, ↓gInSeq, ↓gLen, ↓gSlice, ↓gList, ↓gTuple, ↓gMin2, ↓gMax2, ↓gStr, ↓gInt, ↓newL, ↓mAppend, ↓mInsert, ↓mPopAt, ↓mIndex, ↓gSplit, ↓gJoin, List.map_cons, List.map_nil, List.length_cons, List.length_nil, List.length_map, List.cons_append, List.nil_append, Nat.reduceAdd, Nat.reduceSub, List.getElem?_cons_zero, List.getElem?_cons_succ, List.getElem?_map, Option.map_some, List.set_cons_zero, List.set_cons_succ, isNon, seqOf, listOf, atI_nn, atI_0, atI_1, atI_2, atI_3, encNet, encSt, encRow, encR, encO, encP, nats, encT, Od.raw, if_true, if_false, ite_true, ite_false, Bool.false_eq_true, Bool.true_eq_false, Bool.not_true, Bool.not_false, decide_true, decide_false, reduceIte, eq_self, and_true, true_and, sn_set_put, sn_set_take, sn_set_add, sn_put_set, sn_put_take, sn_put_add, sn_take_set, sn_take_put, sn_take_add, sn_add_set, sn_add_put, sn_add_take]; exact hq) (st_set (by intro Q E hq; simp only [↓eVar, ↓eC, ↓eBin, ↓eUn, ↓eB, ↓eTup, ↓eLst, ↓eAnd, ↓eOr, ↓eNot, ↓eIf, ↓eChain, ↓eSlice, ↓eM, ↓eStr1, ↓eIsi, ↓oNo, ↓oPart, ↓tst, ↓ftAnd, ↓ftOr, ↓ftNot, ↓ftYes, ↓args, ↓gI, ↓gI0, ↓gSubI, ↓gFdiv, ↓gMod, ↓gPow, ↓gLt, ↓gLe, ↓gGt, ↓gGe, ↓gAdd, ↓gMul, ↓gRep, ↓gIx, ↓gIsN, ↓gNotN, ↓gNeg, ↓gEqN, ↓gIn, ↓gInSeq, ↓gLen, ↓gSlice, ↓gList, ↓gTuple, ↓gMin2, ↓gMax2, ↓gStr, ↓gInt, ↓newL, ↓mAppend, ↓mInsert, ↓mPopAt, ↓mIndex, ↓gSplit, ↓gJoin, List.map_cons, List.map_nil, List.length_cons, List.length_nil, List.length_map, List.cons_append, List.nil_append, Nat.reduceAdd, Nat.reduceSub, List.getElem?_cons_zero, List.getElem?_cons_succ, List.getElem?_map, Option.map_some, List.set_cons_zero, List.set_cons_succ, isNon, seqOf, listOf, atI_nn, atI_0, atI_1, atI_2, atI_3, encNet, encSt, encRow, encR, encO, encP, nats, encT, Od.raw, if_true, if_false, ite_true, ite_false, Bool.false_eq_true, Bool.true_eq_false, Bool.not_true, Bool.not_false, decide_true, decide_false, reduceIte, eq_self, and_true, true_and, sn_set_put, sn_set_take, sn_set_add, sn_put_set, sn_put_take, sn_put_add, sn_take_set, sn_take_put, sn_take_add, sn_add_set, sn_add_put, sn_add_take]; exact hq) ?_)
        have fin2 : ∀ (b : Int) (hs ps : List (List Int)) (o came : Option D), Ev (eTup [(eCall G_with_at [(eBin gIx (eVar 1) (eC (.int 0))), (eVar 2), (eBin (gAdd false) (eBin gIx (eBin gIx (eVar 1) (eC (.int 0))) (eVar 2)) (eC (.int 1)))]), (eCall G_with_at [(eBin gIx (eVar 1) (eC (.int 1))), (eVar 2), (eVar 4)]), (eVar 5), (eVar 6)])
            [some (encNet N), some (encSt S), some (D.int w), o, some (.int b), some (.tup (hs.map encT)), some (.tup (ps.map encT)), came] M (encSt ⟨S.places.set w (S.pl w + 1), S.boxes.set w b, hs, ps⟩) M := by
          intro b hs ps o came Q E hq
          have c1 : Ev (eCall G_with_at [(eBin gIx (eVar 1) (eC (.int 0))), (eVar 2), (eBin (gAdd false) (eBin gIx (eBin gIx (eVar 1) (eC (.int 0))) (eVar 2)) (eC (.int 1)))])
              [some (encNet N), some (encSt S), some (D.int w), o, some (.int b), some (.tup (hs.map encT)), some (.tup (ps.map encT)), came] M (.tup (nats (S.places.set w (S.pl w + 1)))) M :=
            ev_call (M1 := M) (by intro Q E hq; simp only [↓eVar, ↓eC, ↓eBin, ↓eUn, ↓eB, ↓eTup, ↓eLst, ↓eAnd, ↓eOr, ↓eNot, ↓eIf, ↓eChain, ↓eSlice, ↓eM, ↓eStr1, ↓eIsi, ↓oNo, ↓oPart, ↓tst, ↓ftAnd, ↓ftOr, ↓ftNot, ↓ftYes, ↓args, ↓gI, ↓gI0, ↓gSubI, ↓gFdiv, ↓gMod, ↓gPow, ↓gLt, ↓gLe, ↓gGt, ↓gGe, ↓gAdd, ↓gMul, ↓gRep, ↓gIx, ↓gIsN, ↓gNotN, ↓gNeg, ↓gEqN, ↓gIn, ↓gInSeq, ↓gLen, ↓gSlice, ↓gList, ↓gTuple, ↓gMin2, ↓gMax2, ↓gStr, ↓gInt, ↓newL, ↓mAppend, ↓mInsert, ↓mPopAt, ↓mIndex, ↓gSplit, ↓gJoin, List.map_cons, List.map_nil, List.length_cons, List.length_nil, List.length_map, List.cons_append, List.nil_append, Nat.reduceAdd, Nat.reduceSub, List.getElem?_cons_zero, List.getElem?_cons_succ, List.getElem?_map, Option.map_some, List.set_cons_zero, List.set_cons_succ, isNon, seqOf, listOf, atI_nn, atI_0, atI_1, atI_2, atI_3, encNet, encSt, encRow, encR, encO, encP, nats, encT, Od.raw, if_true, if_false, ite_true, ite_false, Bool.false_eq_true, Bool.true_eq_false, Bool.not_true, Bool.not_false, decide_true, decide_false, reduceIte, eq_self, and_true, true_and, sn_set_put, sn_set_take, sn_set_add, sn_put_set, sn_put_take, sn_put_add, sn_take_set, sn_take_put, sn_take_add, sn_add_set, sn_add_put, sn_add_take, pl_at g hw2]; exact hq) fun Q E q => ⟨nats S.places, w, .int ((S.pl w : Int) + 1), rfl, by unfold nats; rw [List.length_map, g.pl]; exact hw2, by unfold nats; rw [List.length_map, g.pl]; have := g.ok.few; omega,
              by unfold nats at q ⊢; rw [List.map_set] at q; exact q⟩
          have c2 : Ev (eCall G_with_at [(eBin gIx (eVar 1) (eC (.int 1))), (eVar 2), (eVar 4)])
              [some (encNet N), some (encSt S), some (D.int w), o, some (.int b), some (.tup (hs.map encT)), some (.tup (ps.map encT)), came] M (.tup ((S.boxes.set w b).map D.int)) M :=
            ev_call (M1 := M) (by intro Q E hq; simp only [↓eVar, ↓eC, ↓eBin, ↓eUn, ↓eB, ↓eTup, ↓eLst, ↓eAnd, ↓eOr, ↓eNot, ↓eIf, ↓eChain, ↓eSlice, ↓eM, ↓eStr1, ↓eIsi, ↓oNo, ↓oPart, ↓tst, ↓ftAnd, ↓ftOr, ↓ftNot, ↓ftYes, ↓args, ↓gI, ↓gI0, ↓gSubI, ↓gFdiv, ↓gMod, ↓gPow, ↓gLt, ↓gLe, ↓gGt, ↓gGe, ↓gAdd, ↓gMul, ↓gRep, ↓gIx, ↓gIsN, ↓gNotN, ↓gNeg, ↓gEqN, ↓gIn, ↓gInSeq, ↓gLen, ↓gSlice, ↓gList, ↓gTuple, ↓gMin2, ↓gMax2, ↓gStr, ↓gInt, ↓newL, ↓mAppend, ↓mInsert, ↓mPopAt, ↓mIndex, ↓gSplit, ↓gJoin, List.map_cons, List.map_nil, List.length_cons, List.length_nil, List.length_map, List.cons_append, List.nil_append, Nat.reduceAdd, Nat.reduceSub, List.getElem?_cons_zero, List.getElem?_cons_succ, List.getElem?_map, Option.map_some, List.set_cons_zero, List.set_cons_succ, isNon, seqOf, listOf, atI_nn, atI_0, atI_1, atI_2, atI_3, encNet, encSt, encRow, encR, encO, encP, nats, encT, Od.raw, if_true, if_false, ite_true, ite_false, Bool.false_eq_true, Bool.true_eq_false, Bool.not_true, Bool.not_false, decide_true, decide_false, reduceIte, eq_self, and_true, true_and, sn_set_put, sn_set_take, sn_set_add, sn_put_set, sn_put_take, sn_put_add, sn_take_set, sn_take_put, sn_take_add, sn_add_set, sn_add_put, sn_add_take]; exact hq) fun Q E q => ⟨S.boxes.map D.int, w, .int b, rfl, by rw [List.length_map, g.bx]; exact hw2, by rw [List.length_map, g.bx]; have := g.ok.few; omega, by rw [List.map_set] at q; exact q⟩
          unfold eTup
          exact c1 _ _ (c2 _ _ hq)
        have wa : ∀ (xs : List (List Int)) (p : Nat) (ys : List Int), p < xs.length → xs.length ≤ 1000000 → ∀ M (Q : KQ) (E : KE), Q (.tup ((xs.set p ys).map encT)) M → G_with_at [.tup (xs.map encT), .int (p : Nat), encT ys] M Q E := fun xs p ys h1 h2 M Q E q =>
          ⟨xs.map encT, p, encT ys, rfl, by rw [List.length_map]; exact h1, by rw [List.length_map]; exact h2, by rw [encT_set]; exact q⟩
        have hfew := g.ok.fewP
        unfold stepN at hq
        cases ho : ordOf N S w with
        | set n =>
          rw [ho] at hq
          refine st_if1 (by intro Q E hq; simp only [↓eVar, ↓eC, ↓eBin, ↓eUn, ↓eB, ↓eTup, ↓eLst, ↓eAnd, ↓eOr, ↓eNot, ↓eIf, ↓eChain, ↓eSlice, ↓eM, ↓eStr1, ↓eIsi, ↓oNo, ↓oPart, ↓tst, ↓ftAnd, ↓ftOr, ↓ftNot, ↓ftYes, ↓args, ↓gI, ↓gI0, ↓gSubI, ↓gFdiv, ↓gMod, ↓gPow, ↓gLt, ↓gLe, ↓gGt, ↓gGe, ↓gAdd, ↓gMul, ↓gRep, ↓gIx, ↓gIsN, ↓gNotN, ↓gNeg, ↓gEqN, ↓gIn, ↓gInSeq, ↓gLen, ↓gSlice, ↓gList, ↓gTuple, ↓gMin2, ↓gMax2, ↓gStr, ↓gInt, ↓newL, ↓mAppend, ↓mInsert, ↓mPopAt, ↓mIndex, ↓gSplit, ↓gJoin, List.map_cons, List.map_nil, List.length_cons, List.length_nil, List.length_map, List.cons_append, List.nil_append, Nat.reduceAdd, Nat.reduceSub, List.getElem?_cons_zero, List.getElem?_cons_succ, List.getElem?_map, Option.map_some, List.set_cons_zero, List.set_cons_succ, isNon, seqOf, listOf, atI_nn, atI_0, atI_1, atI_2, atI_3, encNet, encSt, encRow, encR, encO, encP, nats, encT, Od.raw, if_true, if_false, ite_true, ite_false, Bool.false_eq_true, Bool.true_eq_false, Bool.not_true, Bool.not_false, decide_true, decide_false, reduceIte, eq_self, and_true, true_and, sn_set_put, sn_set_take, sn_set_add, sn_put_set, sn_put_take, sn_put_add, sn_take_set, sn_take_put, sn_take_add, sn_add_set, sn_add_put, sn_add_take]; exact hq) (st_set (by intro Q E hq; simp only [↓eVar, ↓eC, ↓eBin, ↓eUn, ↓eB, ↓eTup, ↓eLst, ↓eAnd, ↓eOr, ↓eNot, ↓eIf, ↓eChain, ↓eSlice, ↓eM, ↓eStr1, ↓eIsi, ↓oNo, ↓oPart, ↓tst, ↓ftAnd, ↓ftOr, ↓ftNot, ↓ftYes, ↓args, ↓gI, ↓gI0, ↓gSubI, ↓gFdiv, ↓gMod, ↓gPow, ↓gLt, ↓gLe, ↓gGt, ↓gGe, ↓gAdd, ↓gMul, ↓gRep, ↓gIx, ↓gIsN, ↓gNotN, ↓gNeg, ↓gEqN, ↓gIn, ↓gInSeq, ↓gLen, ↓gSlice, ↓gList, ↓gTuple, ↓gMin2, ↓gMax2, ↓gStr, ↓gInt, ↓newL, ↓mAppend, ↓mInsert, ↓mPopAt, ↓mIndex, ↓gSplit, ↓gJoin, List.map_cons, List.map_nil, List.length_cons, List.length_nil, List.length_map, List.cons_append, List.nil_append, Nat.reduceAdd, Nat.reduceSub, List.getElem?_cons_zero, List.getElem?_cons_succ, List.getElem?_map, Option.map_some, List.set_cons_zero, List.set_cons_succ, isNon, seqOf, listOf, atI_nn, atI_0, atI_1, atI_2, atI_3, encNet, encSt, encRow, encR, encO, encP, nats, encT, Od.raw, if_true, if_false, ite_true, ite_false, Bool.false_eq_true, Bool.true_eq_false, Bool.not_true, Bool.not_false, decide_true, decide_false, reduceIte, eq_self, and_true, true_and, sn_set_put, sn_set_take, sn_set_add, sn_put_set, sn_put_take, sn_put_add, sn_take_set, sn_take_put, sn_take_add, sn_add_set, sn_add_put, sn_add_take]; exact hq) (st_ret ?_ hq))
          exact fin2 n S.held S.past _ _
        | put p =>
          have hp := hp p (.inl ho)
          rw [ho] at hq
          refine st_if0 (by intro Q E hq; simp only [↓eVar, ↓eC, ↓eBin, ↓eUn, ↓eB, ↓eTup, ↓eLst, ↓eAnd, ↓eOr, ↓eNot, ↓eIf, ↓eChain, ↓eSlice, ↓eM, ↓eStr1, ↓eIsi, ↓oNo, ↓oPart, ↓tst, ↓ftAnd, ↓ftOr, ↓ftNot, ↓ftYes, ↓args, ↓gI, ↓gI0, ↓gSubI, ↓gFdiv, ↓gMod, ↓gPow, ↓gLt, ↓gLe, ↓gGt, ↓gGe, ↓gAdd, ↓gMul, ↓gRep, ↓gIx, ↓gIsN, ↓gNotN, ↓gNeg, ↓gEqN, ↓gIn, ↓gInSeq, ↓gLen, ↓gSlice, ↓gList, ↓gTuple, ↓gMin2, ↓gMax2, ↓gStr, ↓gInt, ↓newL, ↓mAppend, ↓mInsert, ↓mPopAt, ↓mIndex, ↓gSplit, ↓gJoin, List.map_cons, List.map_nil, List.length_cons, List.length_nil, List.length_map, List.cons_append, List.nil_append, Nat.reduceAdd, Nat.reduceSub, List.getElem?_cons_zero, List.getElem?_cons_succ, List.getElem?_map, Option.map_some, List.set_cons_zero, List.set_cons_succ, isNon, seqOf, listOf, atI_nn, atI_0, atI_1, atI_2, atI_3, encNet, encSt, encRow, encR, encO, encP, nats, encT, Od.raw, if_true, if_false, ite_true, ite_false, Bool.false_eq_true, Bool.true_eq_false, Bool.not_true, Bool.not_false, decide_true, decide_false, reduceIte, eq_self, and_true, true_and, sn_set_put, sn_set_take, sn_set_add, sn_put_set, sn_put_take, sn_put_add, sn_take_set, sn_take_put, sn_take_add, sn_add_set, sn_add_put, sn_add_take]; exact hq) ?_
          refine st_if1 (by intro Q E hq; simp only [↓eVar, ↓eC, ↓eBin, ↓eUn, ↓eB, ↓eTup, ↓eLst, ↓eAnd, ↓eOr, ↓eNot, ↓eIf, ↓eChain, ↓eSlice, ↓eM, ↓eStr1, ↓eIsi, ↓oNo, ↓oPart, ↓tst, ↓ftAnd, ↓ftOr, ↓ftNot, ↓ftYes, ↓args, ↓gI, ↓gI0, ↓gSubI, ↓gFdiv, ↓gMod, ↓gPow, ↓gLt, ↓gLe, ↓gGt, ↓gGe, ↓gAdd, ↓gMul, ↓gRep, ↓gIx, ↓gIsN, ↓gNotN, ↓gNeg, ↓gEqN, ↓gIn, ↓gInSeq, ↓gLen, ↓gSlice, ↓gList, ↓gTuple, ↓gMin2, ↓gMax2, ↓gStr, ↓gInt, ↓newL, ↓mAppend, ↓mInsert, ↓mPopAt, ↓mIndex, ↓gSplit, ↓gJoin, List.map_cons, List.map_nil, List.length_cons, List.length_nil, List.length_map, List.cons_append, List.nil_append, Nat.reduceAdd, Nat.reduceSub, List.getElem?_cons_zero, List.getElem?_cons_succ, List.getElem?_map, Option.map_some, List.set_cons_zero, List.set_cons_succ, isNon, seqOf, listOf, atI_nn, atI_0, atI_1, atI_2, atI_3, encNet, encSt, encRow, encR, encO, encP, nats, encT, Od.raw, if_true, if_false, ite_true, ite_false, Bool.false_eq_true, Bool.true_eq_false, Bool.not_true, Bool.not_false, decide_true, decide_false, reduceIte, eq_self, and_true, true_and, sn_set_put, sn_set_take, sn_set_add, sn_put_set, sn_put_take, sn_put_add, sn_take_set, sn_take_put, sn_take_add, sn_add_set, sn_add_put, sn_add_take]; exact hq) (st_set (d := .tup ((S.held.set p (S.hl p ++ [S.bx w])).map encT)) (M1 := M) ?_ (st_ret ?_ hq))
          · refine ev_call (M1 := M) (xs := [.tup (S.held.map encT), .int (p : Nat), encT (S.hl p ++ [S.bx w])]) ?_ (wa _ _ _ (by rw [g.hl]; exact hp) (by rw [g.hl]; omega) M)
            intro Q E hq
            simp only [↓eVar, ↓eC, ↓eBin, ↓eUn, ↓eB, ↓eTup, ↓eLst, ↓eAnd, ↓eOr, ↓eNot, ↓eIf, ↓eChain, ↓eSlice, ↓eM, ↓eStr1, ↓eIsi, ↓oNo, ↓oPart, ↓tst, ↓ftAnd, ↓ftOr, ↓ftNot, ↓ftYes, ↓args, ↓gI, ↓gI0, ↓gSubI, ↓gFdiv, ↓gMod, ↓gPow, ↓gLt, ↓gLe, ↓gGt, ↓gGe, ↓gAdd, ↓gMul, ↓gRep, ↓gIx, ↓gIsN, ↓gNotN, ↓gNeg, ↓gEqN, ↓gIn, ↓gInSeq, ↓gLen, ↓gSlice, ↓gList, ↓gTuple, ↓gMin2, ↓gMax2, ↓gStr, ↓gInt, ↓newL, ↓mAppend, ↓mInsert, ↓mPopAt, ↓mIndex, ↓gSplit, ↓gJoin, List.map_cons, List.map_nil, List.length_cons, List.length_nil, List.length_map, List.cons_append, List.nil_append, Nat.reduceAdd, Nat.reduceSub, List.getElem?_cons_zero, List.getElem?_cons_succ, List.getElem?_map, Option.map_some, List.set_cons_zero, List.set_cons_succ, isNon, seqOf, listOf, atI_nn, atI_0, atI_1, atI_2, atI_3, encNet, encSt, encRow, encR, encO, encP, nats, encT, Od.raw, if_true, if_false, ite_true, ite_false, Bool.false_eq_true, Bool.true_eq_false, Bool.not_true, Bool.not_false, decide_true, decide_false, reduceIte, eq_self, and_true, true_and, sn_set_put, sn_set_take, sn_set_add, sn_put_set, sn_put_take, sn_put_add, sn_take_set, sn_take_put, sn_take_add, sn_add_set, sn_add_put, sn_add_take, hl_at g hp]
            refine ⟨million (by have := g.hs _ (hl_mem g hp); omega), ?_⟩
            unfold encT at hq
            rw [List.map_append] at hq
            exact hq
          · exact fin2 (S.bx w) _ S.past _ _
        | take p =>
          have hp := hp p (.inr (.inl ho))
          have hne : S.hl p ≠ [] := by
            intro z
            unfold waitN at hx
            rw [ht, ho] at hx
            simp [waitO, z] at hx
          obtain ⟨c, cs, hc⟩ : ∃ c cs, S.hl p = c :: cs := by
            cases e : S.hl p with
            | nil => exact absurd e hne
            | cons c cs => exact ⟨c, cs, rfl⟩
          have hcut : cutD ((c :: cs).map D.int) (some 1) none = cs.map D.int := by
            rw [show (1 : Int) = ((1 : Nat) : Int) from rfl, cut_from (by simp)]
            rfl
          rw [ho] at hq
          refine st_if0 (by intro Q E hq; simp only [↓eVar, ↓eC, ↓eBin, ↓eUn, ↓eB, ↓eTup, ↓eLst, ↓eAnd, ↓eOr, ↓eNot, ↓eIf, ↓eChain, ↓eSlice, ↓eM, ↓eStr1, ↓eIsi, ↓oNo, ↓oPart, ↓tst, ↓ftAnd, ↓ftOr, ↓ftNot, ↓ftYes, ↓args, ↓gI, ↓gI0, ↓gSubI, ↓gFdiv, ↓gMod, ↓gPow, ↓gLt, ↓gLe, ↓gGt, ↓gGe, ↓gAdd, ↓gMul, ↓gRep, ↓gIx, ↓gIsN, ↓gNotN, ↓gNeg, ↓gEqN, ↓gIn, ↓gInSeq, ↓gLen, ↓gSlice, ↓gList, ↓gTuple, ↓gMin2, ↓gMax2, ↓gStr, ↓gInt, ↓newL, ↓mAppend, ↓mInsert, ↓mPopAt, ↓mIndex, ↓gSplit, ↓gJoin, List.map_cons, List.map_nil, List.length_cons, List.length_nil, List.length_map, List.cons_append, List.nil_append, Nat.reduceAdd, Nat.reduceSub, List.getElem?_cons_zero, List.getElem?_cons_succ, List.getElem?_map, Option.map_some, List.set_cons_zero, List.set_cons_succ, isNon, seqOf, listOf, atI_nn, atI_0, atI_1, atI_2, atI_3, encNet, encSt, encRow, encR, encO, encP, nats, encT, Od.raw, if_true, if_false, ite_true, ite_false, Bool.false_eq_true, Bool.true_eq_false, Bool.not_true, Bool.not_false, decide_true, decide_false, reduceIte, eq_self, and_true, true_and, sn_set_put, sn_set_take, sn_set_add, sn_put_set, sn_put_take, sn_put_add, sn_take_set, sn_take_put, sn_take_add, sn_add_set, sn_add_put, sn_add_take]; exact hq) (st_if0 (by intro Q E hq; simp only [↓eVar, ↓eC, ↓eBin, ↓eUn, ↓eB, ↓eTup, ↓eLst, ↓eAnd, ↓eOr, ↓eNot, ↓eIf, ↓eChain, ↓eSlice, ↓eM, ↓eStr1, ↓eIsi, ↓oNo, ↓oPart, ↓tst, ↓ftAnd, ↓ftOr, ↓ftNot, ↓ftYes, ↓args, ↓gI, ↓gI0, ↓gSubI, ↓gFdiv, ↓gMod, ↓gPow, ↓gLt, ↓gLe, ↓gGt, ↓gGe, ↓gAdd, ↓gMul, ↓gRep, ↓gIx, ↓gIsN, ↓gNotN, ↓gNeg, ↓gEqN, ↓gIn, ↓gInSeq, ↓gLen, ↓gSlice, ↓gList, ↓gTuple, ↓gMin2, ↓gMax2, ↓gStr, ↓gInt, ↓newL, ↓mAppend, ↓mInsert, ↓mPopAt, ↓mIndex, ↓gSplit, ↓gJoin, List.map_cons, List.map_nil, List.length_cons, List.length_nil, List.length_map, List.cons_append, List.nil_append, Nat.reduceAdd, Nat.reduceSub, List.getElem?_cons_zero, List.getElem?_cons_succ, List.getElem?_map, Option.map_some, List.set_cons_zero, List.set_cons_succ, isNon, seqOf, listOf, atI_nn, atI_0, atI_1, atI_2, atI_3, encNet, encSt, encRow, encR, encO, encP, nats, encT, Od.raw, if_true, if_false, ite_true, ite_false, Bool.false_eq_true, Bool.true_eq_false, Bool.not_true, Bool.not_false, decide_true, decide_false, reduceIte, eq_self, and_true, true_and, sn_set_put, sn_set_take, sn_set_add, sn_put_set, sn_put_take, sn_put_add, sn_take_set, sn_take_put, sn_take_add, sn_add_set, sn_add_put, sn_add_take]; exact hq) (st_seq3 (st_set (d := .int c) (M1 := M) (by intro Q E hq; simp only [↓eVar, ↓eC, ↓eBin, ↓eUn, ↓eB, ↓eTup, ↓eLst, ↓eAnd, ↓eOr, ↓eNot, ↓eIf, ↓eChain, ↓eSlice, ↓eM, ↓eStr1, ↓eIsi, ↓oNo, ↓oPart, ↓tst, ↓ftAnd, ↓ftOr, ↓ftNot, ↓ftYes, ↓args, ↓gI, ↓gI0, ↓gSubI, ↓gFdiv, ↓gMod, ↓gPow, ↓gLt, ↓gLe, ↓gGt, ↓gGe, ↓gAdd, ↓gMul, ↓gRep, ↓gIx, ↓gIsN, ↓gNotN, ↓gNeg, ↓gEqN, ↓gIn, ↓gInSeq, ↓gLen, ↓gSlice, ↓gList, ↓gTuple, ↓gMin2, ↓gMax2, ↓gStr, ↓gInt, ↓newL, ↓mAppend, ↓mInsert, ↓mPopAt, ↓mIndex, ↓gSplit, ↓gJoin, List.map_cons, List.map_nil, List.length_cons, List.length_nil, List.length_map, List.cons_append, List.nil_append, Nat.reduceAdd, Nat.reduceSub, List.getElem?_cons_zero, List.getElem?_cons_succ, List.getElem?_map, Option.map_some, List.set_cons_zero, List.set_cons_succ, isNon, seqOf, listOf, atI_nn, atI_0, atI_1, atI_2, atI_3, encNet, encSt, encRow, encR, encO, encP, nats, encT, Od.raw, if_true, if_false, ite_true, ite_false, Bool.false_eq_true, Bool.true_eq_false, Bool.not_true, Bool.not_false, decide_true, decide_false, reduceIte, eq_self, and_true, true_and, sn_set_put, sn_set_take, sn_set_add, sn_put_set, sn_put_take, sn_put_add, sn_take_set, sn_take_put, sn_take_add, sn_add_set, sn_add_put, sn_add_take, hl_at g hp, hc]; exact hq) (st_seq3 (st_set (d := .tup ((S.held.set p cs).map encT)) (M1 := M) ?_ (st_seq3 (st_set (d := .tup ((S.past.set p (S.ps p ++ [c])).map encT)) (M1 := M) ?_ (st_set (d := .int c) (M1 := M) (by intro Q E hq; simp only [↓eVar, ↓eC, ↓eBin, ↓eUn, ↓eB, ↓eTup, ↓eLst, ↓eAnd, ↓eOr, ↓eNot, ↓eIf, ↓eChain, ↓eSlice, ↓eM, ↓eStr1, ↓eIsi, ↓oNo, ↓oPart, ↓tst, ↓ftAnd, ↓ftOr, ↓ftNot, ↓ftYes, ↓args, ↓gI, ↓gI0, ↓gSubI, ↓gFdiv, ↓gMod, ↓gPow, ↓gLt, ↓gLe, ↓gGt, ↓gGe, ↓gAdd, ↓gMul, ↓gRep, ↓gIx, ↓gIsN, ↓gNotN, ↓gNeg, ↓gEqN, ↓gIn, ↓gInSeq, ↓gLen, ↓gSlice, ↓gList, ↓gTuple, ↓gMin2, ↓gMax2, ↓gStr, ↓gInt, ↓newL, ↓mAppend, ↓mInsert, ↓mPopAt, ↓mIndex, ↓gSplit, ↓gJoin, List.map_cons, List.map_nil, List.length_cons, List.length_nil, List.length_map, List.cons_append, List.nil_append, Nat.reduceAdd, Nat.reduceSub, List.getElem?_cons_zero, List.getElem?_cons_succ, List.getElem?_map, Option.map_some, List.set_cons_zero, List.set_cons_succ, isNon, seqOf, listOf, atI_nn, atI_0, atI_1, atI_2, atI_3, encNet, encSt, encRow, encR, encO, encP, nats, encT, Od.raw, if_true, if_false, ite_true, ite_false, Bool.false_eq_true, Bool.true_eq_false, Bool.not_true, Bool.not_false, decide_true, decide_false, reduceIte, eq_self, and_true, true_and, sn_set_put, sn_set_take, sn_set_add, sn_put_set, sn_put_take, sn_put_add, sn_take_set, sn_take_put, sn_take_add, sn_add_set, sn_add_put, sn_add_take]; exact hq) (st_ret ?_ hq)))))))))
          · refine ev_call (M1 := M) (xs := [.tup (S.held.map encT), .int (p : Nat), encT cs]) ?_ (wa _ _ _ (by rw [g.hl]; exact hp) (by rw [g.hl]; omega) M)
            intro Q E hq
            simp only [↓eVar, ↓eC, ↓eBin, ↓eUn, ↓eB, ↓eTup, ↓eLst, ↓eAnd, ↓eOr, ↓eNot, ↓eIf, ↓eChain, ↓eSlice, ↓eM, ↓eStr1, ↓eIsi, ↓oNo, ↓oPart, ↓tst, ↓ftAnd, ↓ftOr, ↓ftNot, ↓ftYes, ↓args, ↓gI, ↓gI0, ↓gSubI, ↓gFdiv, ↓gMod, ↓gPow, ↓gLt, ↓gLe, ↓gGt, ↓gGe, ↓gAdd, ↓gMul, ↓gRep, ↓gIx, ↓gIsN, ↓gNotN, ↓gNeg, ↓gEqN, ↓gIn, ↓gInSeq, ↓gLen, ↓gSlice, ↓gList, ↓gTuple, ↓gMin2, ↓gMax2, ↓gStr, ↓gInt, ↓newL, ↓mAppend, ↓mInsert, ↓mPopAt, ↓mIndex, ↓gSplit, ↓gJoin, List.map_cons, List.map_nil, List.length_cons, List.length_nil, List.length_map, List.cons_append, List.nil_append, Nat.reduceAdd, Nat.reduceSub, List.getElem?_cons_zero, List.getElem?_cons_succ, List.getElem?_map, Option.map_some, List.set_cons_zero, List.set_cons_succ, isNon, seqOf, listOf, atI_nn, atI_0, atI_1, atI_2, atI_3, encNet, encSt, encRow, encR, encO, encP, nats, encT, Od.raw, if_true, if_false, ite_true, ite_false, Bool.false_eq_true, Bool.true_eq_false, Bool.not_true, Bool.not_false, decide_true, decide_false, reduceIte, eq_self, and_true, true_and, sn_set_put, sn_set_take, sn_set_add, sn_put_set, sn_put_take, sn_put_add, sn_take_set, sn_take_put, sn_take_add, sn_add_set, sn_add_put, sn_add_take, hl_at g hp, hc]
            simp only [List.map_cons] at hcut
            rw [hcut]
            exact hq
          · refine ev_call (M1 := M) (xs := [.tup (S.past.map encT), .int (p : Nat), encT (S.ps p ++ [c])]) ?_ (wa _ _ _ (by rw [g.ps]; exact hp) (by rw [g.ps]; omega) M)
            intro Q E hq
            simp only [↓eVar, ↓eC, ↓eBin, ↓eUn, ↓eB, ↓eTup, ↓eLst, ↓eAnd, ↓eOr, ↓eNot, ↓eIf, ↓eChain, ↓eSlice, ↓eM, ↓eStr1, ↓eIsi, ↓oNo, ↓oPart, ↓tst, ↓ftAnd, ↓ftOr, ↓ftNot, ↓ftYes, ↓args, ↓gI, ↓gI0, ↓gSubI, ↓gFdiv, ↓gMod, ↓gPow, ↓gLt, ↓gLe, ↓gGt, ↓gGe, ↓gAdd, ↓gMul, ↓gRep, ↓gIx, ↓gIsN, ↓gNotN, ↓gNeg, ↓gEqN, ↓gIn, ↓gInSeq, ↓gLen, ↓gSlice, ↓gList, ↓gTuple, ↓gMin2, ↓gMax2, ↓gStr, ↓gInt, ↓newL, ↓mAppend, ↓mInsert, ↓mPopAt, ↓mIndex, ↓gSplit, ↓gJoin, List.map_cons, List.map_nil, List.length_cons, List.length_nil, List.length_map, List.cons_append, List.nil_append, Nat.reduceAdd, Nat.reduceSub, List.getElem?_cons_zero, List.getElem?_cons_succ, List.getElem?_map, Option.map_some, List.set_cons_zero, List.set_cons_succ, isNon, seqOf, listOf, atI_nn, atI_0, atI_1, atI_2, atI_3, encNet, encSt, encRow, encR, encO, encP, nats, encT, Od.raw, if_true, if_false, ite_true, ite_false, Bool.false_eq_true, Bool.true_eq_false, Bool.not_true, Bool.not_false, decide_true, decide_false, reduceIte, eq_self, and_true, true_and, sn_set_put, sn_set_take, sn_set_add, sn_put_set, sn_put_take, sn_put_add, sn_take_set, sn_take_put, sn_take_add, sn_add_set, sn_add_put, sn_add_take, ps_at g hp]
            refine ⟨million (by have := g.pz _ (ps_mem g hp); omega), ?_⟩
            unfold encT at hq
            rw [List.map_append] at hq
            exact hq
          · have := fin2 c (S.held.set p cs) (S.past.set p (S.ps p ++ [c])) (some (encO (.take p))) (some (.int c))
            simp only [stepO, hc, List.headD_cons, List.tail_cons]
            exact this
        | add p =>
          have hp := hp p (.inr (.inr ho))
          have hne : S.hl p ≠ [] := by
            intro z
            unfold waitN at hx
            rw [ht, ho] at hx
            simp [waitO, z] at hx
          obtain ⟨c, cs, hc⟩ : ∃ c cs, S.hl p = c :: cs := by
            cases e : S.hl p with
            | nil => exact absurd e hne
            | cons c cs => exact ⟨c, cs, rfl⟩
          have hcut : cutD ((c :: cs).map D.int) (some 1) none = cs.map D.int := by
            rw [show (1 : Int) = ((1 : Nat) : Int) from rfl, cut_from (by simp)]
            rfl
          rw [ho] at hq
          refine st_if0 (by intro Q E hq; simp only [↓eVar, ↓eC, ↓eBin, ↓eUn, ↓eB, ↓eTup, ↓eLst, ↓eAnd, ↓eOr, ↓eNot, ↓eIf, ↓eChain, ↓eSlice, ↓eM, ↓eStr1, ↓eIsi, ↓oNo, ↓oPart, ↓tst, ↓ftAnd, ↓ftOr, ↓ftNot, ↓ftYes, ↓args, ↓gI, ↓gI0, ↓gSubI, ↓gFdiv, ↓gMod, ↓gPow, ↓gLt, ↓gLe, ↓gGt, ↓gGe, ↓gAdd, ↓gMul, ↓gRep, ↓gIx, ↓gIsN, ↓gNotN, ↓gNeg, ↓gEqN, ↓gIn, ↓gInSeq, ↓gLen, ↓gSlice, ↓gList, ↓gTuple, ↓gMin2, ↓gMax2, ↓gStr, ↓gInt, ↓newL, ↓mAppend, ↓mInsert, ↓mPopAt, ↓mIndex, ↓gSplit, ↓gJoin, List.map_cons, List.map_nil, List.length_cons, List.length_nil, List.length_map, List.cons_append, List.nil_append, Nat.reduceAdd, Nat.reduceSub, List.getElem?_cons_zero, List.getElem?_cons_succ, List.getElem?_map, Option.map_some, List.set_cons_zero, List.set_cons_succ, isNon, seqOf, listOf, atI_nn, atI_0, atI_1, atI_2, atI_3, encNet, encSt, encRow, encR, encO, encP, nats, encT, Od.raw, if_true, if_false, ite_true, ite_false, Bool.false_eq_true, Bool.true_eq_false, Bool.not_true, Bool.not_false, decide_true, decide_false, reduceIte, eq_self, and_true, true_and, sn_set_put, sn_set_take, sn_set_add, sn_put_set, sn_put_take, sn_put_add, sn_take_set, sn_take_put, sn_take_add, sn_add_set, sn_add_put, sn_add_take]; exact hq) (st_if0 (by intro Q E hq; simp only [↓eVar, ↓eC, ↓eBin, ↓eUn, ↓eB, ↓eTup, ↓eLst, ↓eAnd, ↓eOr, ↓eNot, ↓eIf, ↓eChain, ↓eSlice, ↓eM, ↓eStr1, ↓eIsi, ↓oNo, ↓oPart, ↓tst, ↓ftAnd, ↓ftOr, ↓ftNot, ↓ftYes, ↓args, ↓gI, ↓gI0, ↓gSubI, ↓gFdiv, ↓gMod, ↓gPow, ↓gLt, ↓gLe, ↓gGt, ↓gGe, ↓gAdd, ↓gMul, ↓gRep, ↓gIx, ↓gIsN, ↓gNotN, ↓gNeg, ↓gEqN, ↓gIn, ↓gInSeq, ↓gLen, ↓gSlice, ↓gList, ↓gTuple, ↓gMin2, ↓gMax2, ↓gStr, ↓gInt, ↓newL, ↓mAppend, ↓mInsert, ↓mPopAt, ↓mIndex, ↓gSplit, ↓gJoin, List.map_cons, List.map_nil, List.length_cons, List.length_nil, List.length_map, List.cons_append, List.nil_append, Nat.reduceAdd, Nat.reduceSub, List.getElem?_cons_zero, List.getElem?_cons_succ, List.getElem?_map, Option.map_some, List.set_cons_zero, List.set_cons_succ, isNon, seqOf, listOf, atI_nn, atI_0, atI_1, atI_2, atI_3, encNet, encSt, encRow, encR, encO, encP, nats, encT, Od.raw, if_true, if_false, ite_true, ite_false, Bool.false_eq_true, Bool.true_eq_false, Bool.not_true, Bool.not_false, decide_true, decide_false, reduceIte, eq_self, and_true, true_and, sn_set_put, sn_set_take, sn_set_add, sn_put_set, sn_put_take, sn_put_add, sn_take_set, sn_take_put, sn_take_add, sn_add_set, sn_add_put, sn_add_take]; exact hq) (st_seq3 (st_set (d := .int c) (M1 := M) (by intro Q E hq; simp only [↓eVar, ↓eC, ↓eBin, ↓eUn, ↓eB, ↓eTup, ↓eLst, ↓eAnd, ↓eOr, ↓eNot, ↓eIf, ↓eChain, ↓eSlice, ↓eM, ↓eStr1, ↓eIsi, ↓oNo, ↓oPart, ↓tst, ↓ftAnd, ↓ftOr, ↓ftNot, ↓ftYes, ↓args, ↓gI, ↓gI0, ↓gSubI, ↓gFdiv, ↓gMod, ↓gPow, ↓gLt, ↓gLe, ↓gGt, ↓gGe, ↓gAdd, ↓gMul, ↓gRep, ↓gIx, ↓gIsN, ↓gNotN, ↓gNeg, ↓gEqN, ↓gIn, ↓gInSeq, ↓gLen, ↓gSlice, ↓gList, ↓gTuple, ↓gMin2, ↓gMax2, ↓gStr, ↓gInt, ↓newL, ↓mAppend, ↓mInsert, ↓mPopAt, ↓mIndex, ↓gSplit, ↓gJoin, List.map_cons, List.map_nil, List.length_cons, List.length_nil, List.length_map, List.cons_append, List.nil_append, Nat.reduceAdd, Nat.reduceSub, List.getElem?_cons_zero, List.getElem?_cons_succ, List.getElem?_map, Option.map_some, List.set_cons_zero, List.set_cons_succ, isNon, seqOf, listOf, atI_nn, atI_0, atI_1, atI_2, atI_3, encNet, encSt, encRow, encR, encO, encP, nats, encT, Od.raw, if_true, if_false, ite_true, ite_false, Bool.false_eq_true, Bool.true_eq_false, Bool.not_true, Bool.not_false, decide_true, decide_false, reduceIte, eq_self, and_true, true_and, sn_set_put, sn_set_take, sn_set_add, sn_put_set, sn_put_take, sn_put_add, sn_take_set, sn_take_put, sn_take_add, sn_add_set, sn_add_put, sn_add_take, hl_at g hp, hc]; exact hq) (st_seq3 (st_set (d := .tup ((S.held.set p cs).map encT)) (M1 := M) ?_ (st_seq3 (st_set (d := .tup ((S.past.set p (S.ps p ++ [c])).map encT)) (M1 := M) ?_ (st_set (d := .int (S.bx w + c)) (M1 := M) (by intro Q E hq; simp only [↓eVar, ↓eC, ↓eBin, ↓eUn, ↓eB, ↓eTup, ↓eLst, ↓eAnd, ↓eOr, ↓eNot, ↓eIf, ↓eChain, ↓eSlice, ↓eM, ↓eStr1, ↓eIsi, ↓oNo, ↓oPart, ↓tst, ↓ftAnd, ↓ftOr, ↓ftNot, ↓ftYes, ↓args, ↓gI, ↓gI0, ↓gSubI, ↓gFdiv, ↓gMod, ↓gPow, ↓gLt, ↓gLe, ↓gGt, ↓gGe, ↓gAdd, ↓gMul, ↓gRep, ↓gIx, ↓gIsN, ↓gNotN, ↓gNeg, ↓gEqN, ↓gIn, ↓gInSeq, ↓gLen, ↓gSlice, ↓gList, ↓gTuple, ↓gMin2, ↓gMax2, ↓gStr, ↓gInt, ↓newL, ↓mAppend, ↓mInsert, ↓mPopAt, ↓mIndex, ↓gSplit, ↓gJoin, List.map_cons, List.map_nil, List.length_cons, List.length_nil, List.length_map, List.cons_append, List.nil_append, Nat.reduceAdd, Nat.reduceSub, List.getElem?_cons_zero, List.getElem?_cons_succ, List.getElem?_map, Option.map_some, List.set_cons_zero, List.set_cons_succ, isNon, seqOf, listOf, atI_nn, atI_0, atI_1, atI_2, atI_3, encNet, encSt, encRow, encR, encO, encP, nats, encT, Od.raw, if_true, if_false, ite_true, ite_false, Bool.false_eq_true, Bool.true_eq_false, Bool.not_true, Bool.not_false, decide_true, decide_false, reduceIte, eq_self, and_true, true_and, sn_set_put, sn_set_take, sn_set_add, sn_put_set, sn_put_take, sn_put_add, sn_take_set, sn_take_put, sn_take_add, sn_add_set, sn_add_put, sn_add_take]; exact hq) (st_ret ?_ hq)))))))))
          · refine ev_call (M1 := M) (xs := [.tup (S.held.map encT), .int (p : Nat), encT cs]) ?_ (wa _ _ _ (by rw [g.hl]; exact hp) (by rw [g.hl]; omega) M)
            intro Q E hq
            simp only [↓eVar, ↓eC, ↓eBin, ↓eUn, ↓eB, ↓eTup, ↓eLst, ↓eAnd, ↓eOr, ↓eNot, ↓eIf, ↓eChain, ↓eSlice, ↓eM, ↓eStr1, ↓eIsi, ↓oNo, ↓oPart, ↓tst, ↓ftAnd, ↓ftOr, ↓ftNot, ↓ftYes, ↓args, ↓gI, ↓gI0, ↓gSubI, ↓gFdiv, ↓gMod, ↓gPow, ↓gLt, ↓gLe, ↓gGt, ↓gGe, ↓gAdd, ↓gMul, ↓gRep, ↓gIx, ↓gIsN, ↓gNotN, ↓gNeg, ↓gEqN, ↓gIn, ↓gInSeq, ↓gLen, ↓gSlice, ↓gList, ↓gTuple, ↓gMin2, ↓gMax2, ↓gStr, ↓gInt, ↓newL, ↓mAppend, ↓mInsert, ↓mPopAt, ↓mIndex, ↓gSplit, ↓gJoin, List.map_cons, List.map_nil, List.length_cons, List.length_nil, List.length_map, List.cons_append, List.nil_append, Nat.reduceAdd, Nat.reduceSub, List.getElem?_cons_zero, List.getElem?_cons_succ, List.getElem?_map, Option.map_some, List.set_cons_zero, List.set_cons_succ, isNon, seqOf, listOf, atI_nn, atI_0, atI_1, atI_2, atI_3, encNet, encSt, encRow, encR, encO, encP, nats, encT, Od.raw, if_true, if_false, ite_true, ite_false, Bool.false_eq_true, Bool.true_eq_false, Bool.not_true, Bool.not_false, decide_true, decide_false, reduceIte, eq_self, and_true, true_and, sn_set_put, sn_set_take, sn_set_add, sn_put_set, sn_put_take, sn_put_add, sn_take_set, sn_take_put, sn_take_add, sn_add_set, sn_add_put, sn_add_take, hl_at g hp, hc]
            simp only [List.map_cons] at hcut
            rw [hcut]
            exact hq
          · refine ev_call (M1 := M) (xs := [.tup (S.past.map encT), .int (p : Nat), encT (S.ps p ++ [c])]) ?_ (wa _ _ _ (by rw [g.ps]; exact hp) (by rw [g.ps]; omega) M)
            intro Q E hq
            simp only [↓eVar, ↓eC, ↓eBin, ↓eUn, ↓eB, ↓eTup, ↓eLst, ↓eAnd, ↓eOr, ↓eNot, ↓eIf, ↓eChain, ↓eSlice, ↓eM, ↓eStr1, ↓eIsi, ↓oNo, ↓oPart, ↓tst, ↓ftAnd, ↓ftOr, ↓ftNot, ↓ftYes, ↓args, ↓gI, ↓gI0, ↓gSubI, ↓gFdiv, ↓gMod, ↓gPow, ↓gLt, ↓gLe, ↓gGt, ↓gGe, ↓gAdd, ↓gMul, ↓gRep, ↓gIx, ↓gIsN, ↓gNotN, ↓gNeg, ↓gEqN, ↓gIn, ↓gInSeq, ↓gLen, ↓gSlice, ↓gList, ↓gTuple, ↓gMin2, ↓gMax2, ↓gStr, ↓gInt, ↓newL, ↓mAppend, ↓mInsert, ↓mPopAt, ↓mIndex, ↓gSplit, ↓gJoin, List.map_cons, List.map_nil, List.length_cons, List.length_nil, List.length_map, List.cons_append, List.nil_append, Nat.reduceAdd, Nat.reduceSub, List.getElem?_cons_zero, List.getElem?_cons_succ, List.getElem?_map, Option.map_some, List.set_cons_zero, List.set_cons_succ, isNon, seqOf, listOf, atI_nn, atI_0, atI_1, atI_2, atI_3, encNet, encSt, encRow, encR, encO, encP, nats, encT, Od.raw, if_true, if_false, ite_true, ite_false, Bool.false_eq_true, Bool.true_eq_false, Bool.not_true, Bool.not_false, decide_true, decide_false, reduceIte, eq_self, and_true, true_and, sn_set_put, sn_set_take, sn_set_add, sn_put_set, sn_put_take, sn_put_add, sn_take_set, sn_take_put, sn_take_add, sn_add_set, sn_add_put, sn_add_take, ps_at g hp]
            refine ⟨million (by have := g.pz _ (ps_mem g hp); omega), ?_⟩
            unfold encT at hq
            rw [List.map_append] at hq
            exact hq
          · have := fin2 (S.bx w + c) (S.held.set p cs) (S.past.set p (S.ps p ++ [c])) (some (encO (.add p))) (some (.int c))
            simp only [stepO, hc, List.headD_cons, List.tail_cons]
            exact this
  · rw [if_neg hw] at hq
    exact sx_if (ex_call (by intro Q E hq; simp only [↓eVar, ↓eC, ↓eBin, ↓eUn, ↓eB, ↓eTup, ↓eLst, ↓eAnd, ↓eOr, ↓eNot, ↓eIf, ↓eChain, ↓eSlice, ↓eM, ↓eStr1, ↓eIsi, ↓oNo, ↓oPart, ↓tst, ↓ftAnd, ↓ftOr, ↓ftNot, ↓ftYes, ↓args, ↓gI, ↓gI0, ↓gSubI, ↓gFdiv, ↓gMod, ↓gPow, ↓gLt, ↓gLe, ↓gGt, ↓gGe, ↓gAdd, ↓gMul, ↓gRep, ↓gIx, ↓gIsN, ↓gNotN, ↓gNeg, ↓gEqN, ↓gIn, ↓gInSeq, ↓gLen, ↓gSlice, ↓gList, ↓gTuple, ↓gMin2, ↓gMax2, ↓gStr, ↓gInt, ↓newL, ↓mAppend, ↓mInsert, ↓mPopAt, ↓mIndex, ↓gSplit, ↓gJoin, List.map_cons, List.map_nil, List.length_cons, List.length_nil, List.length_map, List.cons_append, List.nil_append, Nat.reduceAdd, Nat.reduceSub, List.getElem?_cons_zero, List.getElem?_cons_succ, List.getElem?_map, Option.map_some, List.set_cons_zero, List.set_cons_succ, isNon, seqOf, listOf, atI_nn, atI_0, atI_1, atI_2, atI_3, encNet, encSt, encRow, encR, encO, encP, nats, encT, Od.raw, if_true, if_false, ite_true, ite_false, Bool.false_eq_true, Bool.true_eq_false, Bool.not_true, Bool.not_false, decide_true, decide_false, reduceIte, eq_self, and_true, true_and, sn_set_put, sn_set_take, sn_set_add, sn_put_set, sn_put_take, sn_put_add, sn_take_set, sn_take_put, sn_take_add, sn_add_set, sn_add_put, sn_add_take]; exact hq) (it_ex g hw)) hq
end DL
namespace DL
open PySem PySem.Spec PyProof.Rows L2

/-! ### sizes of cells -/
def sml : Nat := 2 ^ 1048577
def big : Nat := 2 ^ 2000000
theorem sml_big : 1000000 * sml + 1000000000 ≤ big := by
  have e1 : 2 ^ 951423 * sml = big := by
    unfold sml big
    rw [← Nat.pow_add]
  have h1 : 2 ^ 40 ≤ 2 ^ 951423 := Nat.pow_le_pow_right (by decide) (by decide)
  have h2 : 2 ^ 40 ≤ sml := Nat.pow_le_pow_right (by decide) (by decide)
  have h3 : 2 ^ 40 * sml ≤ big := by rw [← e1]; exact Nat.mul_le_mul_right _ h1
  have h4 : (2 : Nat) ^ 40 = 1099511627776 := by decide
  rw [h4] at h2 h3
  clear h1 e1 h4
  generalize sml = a at *
  generalize big = b at *
  omega
theorem sml_pos : 1000000 ≤ sml := Nat.le_trans (by decide : 1000000 ≤ 2 ^ 40) (Nat.pow_le_pow_right (by decide) (by decide))
theorem bits_sml {z : Int} (h : Builtin.Int.intBits z ≤ 1048576) : z.natAbs < sml := by
  have h1 : z.natAbs.log2 < 1048577 := by
    unfold Builtin.Int.intBits at h
    split at h
    · rename_i h0
      have : z = 0 := by simpa using h0
      rw [this]
      decide
    · omega
  by_cases h0 : z.natAbs = 0
  · rw [h0]
    exact Nat.lt_of_lt_of_le (by decide) sml_pos
  · exact (Nat.log2_lt h0).mp h1
theorem big_mul {i j : Int} (h : i.natAbs < big) (hj : j.natAbs < 2 ^ 400) : IntMulOk i j := by
  have b : ∀ x : Int, ∀ k : Nat, 0 < k → x.natAbs < 2 ^ k → Builtin.Int.intBits x ≤ k := fun x k hk hx => by
    have := PySem.Flt.log2_lt_of hk hx
    unfold Builtin.Int.intBits
    split <;> omega
  have h1 := b i 2000000 (by decide) h
  have h2 := b j 400 (by decide) hj
  have e : bitsLine = 134217728 := by decide
  unfold IntMulOk
  intro z
  rw [Bool.and_eq_true] at z
  have z2 := z.2
  unfold Builtin.Int.intTooBig at z2
  have z3 := of_decide_eq_true z2
  rw [e] at z3
  omega
theorem div_abs {x : Int} {k : Int} (h : 0 < k) : (x / k).natAbs ≤ x.natAbs := by
  obtain ⟨m, rfl⟩ : ∃ m : Nat, k = m := ⟨k.toNat, by omega⟩
  have hm : 0 < m := by omega
  cases x with
  | ofNat a =>
    show (((a : Int) / (m : Int))).natAbs ≤ a
    rw [← Int.natCast_ediv, Int.natAbs_natCast]
    exact Nat.div_le_self _ _
  | negSucc a =>
    rw [Int.negSucc_ediv _ h]
    have e : ((a : Int) / (m : Int) + 1) = ((a / m + 1 : Nat) : Int) := by rw [← Int.natCast_ediv]; rfl
    have e2 : -(Int.ediv (a : Int) (m : Int) + 1) = -(((a / m + 1 : Nat) : Int)) := by rw [← e]; rfl
    have e3 : (Int.negSucc a).natAbs = a + 1 := rfl
    rw [e3]
    show (-(Int.ediv (a : Int) (m : Int) + 1)).natAbs ≤ a + 1
    rw [e2, Int.natAbs_neg, Int.natAbs_natCast]
    have := Nat.div_le_self a m
    omega

/-! ### cells, numbers, pipes -/
def intL (ns : List Int) : List D := ns.map D.int
def Cells (ns : List Int) : Prop := ns.length ≤ 63 ∧ ∀ z ∈ ns, z.natAbs < sml
def G_whole : GS := fun ds M Q E => ∃ z : Int, ds = [.int z] ∧ Q (.bl true) M
def G_cell_at : GS := fun ds M Q E => ∃ ns, ∃ k : Nat, ds = [.scr (intL ns), .int (k : Int)] ∧ Cells ns ∧ ∀ z : Int, z.natAbs < sml → Q (.int z) M
def G_number_by : GS := fun ds M Q E => ∃ c : Int, ds = [.int c] ∧ c.natAbs < big ∧ ∀ z : Int, z.natAbs < 10 ^ 60 → Q (.int z) M
def G_pipe_by : GS := fun ds M Q E => ∃ (c : Int) (W : Nat), ds = [.int c, .int (W : Int)] ∧ 0 < W ∧ W ≤ 1000 ∧ ∀ p : Pip, p.ma < W → p.ta < W → 1 ≤ p.ro → p.ro ≤ 1000 → Q (encP p) M
def G_put_in : GS := fun ds M Q E => ∃ (n : Nat) (o : D) (r : Int) (xs : List D), ds = [.loc n, o, .int r] ∧ M[n]? = some xs ∧ xs.length ≤ 1000 ∧ ∀ k, k ≤ xs.length → Q .non (M.set n (xs.take k ++ [o] ++ xs.drop k))
theorem sem_whole : ∀ ds M Q E, G_whole ds M Q E → f_whole (exits false M Q E) (startD 1 ds) M := by
  rintro ds M Q E ⟨z, rfl, hq⟩
  unfold f_whole
  simp only [startD, List.map_cons, List.map_nil, List.length_cons, List.length_nil, List.replicate, List.cons_append, List.nil_append, Nat.reduceAdd, Nat.reduceSub]
  refine st_ret (d := .bl true) (M1 := M) ?_ hq
  intro Q E h
  exact h
theorem sem_cell_at : ∀ ds M Q E, G_cell_at ds M Q E → f_cell_at (exits false M Q E) (startD 2 ds) M := by
  rintro ds M Q E ⟨ns, k, rfl, hc, hq⟩
  unfold f_cell_at intL
  simp only [startD, List.map_cons, List.map_nil, List.length_cons, List.length_nil, List.replicate, List.cons_append, List.nil_append, Nat.reduceAdd, Nat.reduceSub]
  by_cases h : k < ns.length
  · have h2 : (k : Int) < (ns.length : Int) := by omega
    have h3 : ns[k]? = some ns[k] := List.getElem?_eq_getElem h
    exact st_if1 (by intro Q E hq; simp only [↓eVar, ↓eC, ↓eBin, ↓eUn, ↓eB, ↓eTup, ↓eLst, ↓eAnd, ↓eOr, ↓eNot, ↓eIf, ↓eChain, ↓eSlice, ↓eM, ↓eStr1, ↓eIsi, ↓oNo, ↓oPart, ↓tst, ↓ftAnd, ↓ftOr, ↓ftNot, ↓ftYes, ↓args, ↓gI, ↓gI0, ↓gSubI, ↓gFdiv, ↓gMod, ↓gPow, ↓gLt, ↓gLe, ↓gGt, ↓gGe, ↓gAdd, ↓gMul, ↓gRep, ↓gIx, ↓gIsN, ↓gNotN, ↓gNeg, ↓gEqN, ↓gIn, ↓gInSeq, ↓gLen, ↓gSlice, ↓gList, ↓gTuple, ↓gMin2, ↓gMax2, ↓gStr, ↓gInt, ↓newL, ↓mAppend, ↓mInsert, ↓mPopAt, ↓mIndex, ↓gSplit, ↓gJoin, List.map_cons, List.map_nil, List.length_cons, List.length_nil, List.length_map, List.cons_append, List.nil_append, Nat.reduceAdd, Nat.reduceSub, List.getElem?_cons_zero, List.getElem?_cons_succ, List.getElem?_map, Option.map_some, List.set_cons_zero, List.set_cons_succ, isNon, seqOf, listOf, atI_nn, atI_0, atI_1, atI_2, atI_3, encNet, encSt, encRow, encR, encO, encP, nats, encT, Od.raw, if_true, if_false, ite_true, ite_false, Bool.false_eq_true, Bool.true_eq_false, Bool.not_true, Bool.not_false, decide_true, decide_false, reduceIte, eq_self, and_true, true_and, sn_set_put, sn_set_take, sn_set_add, sn_put_set, sn_put_take, sn_put_add, sn_take_set, sn_take_put, sn_take_add, sn_add_set, sn_add_put, sn_add_take, decide_eq_true h2]; exact hq) (st_ret2 (by intro Q E hq; simp only [↓eVar, ↓eC, ↓eBin, ↓eUn, ↓eB, ↓eTup, ↓eLst, ↓eAnd, ↓eOr, ↓eNot, ↓eIf, ↓eChain, ↓eSlice, ↓eM, ↓eStr1, ↓eIsi, ↓oNo, ↓oPart, ↓tst, ↓ftAnd, ↓ftOr, ↓ftNot, ↓ftYes, ↓args, ↓gI, ↓gI0, ↓gSubI, ↓gFdiv, ↓gMod, ↓gPow, ↓gLt, ↓gLe, ↓gGt, ↓gGe, ↓gAdd, ↓gMul, ↓gRep, ↓gIx, ↓gIsN, ↓gNotN, ↓gNeg, ↓gEqN, ↓gIn, ↓gInSeq, ↓gLen, ↓gSlice, ↓gList, ↓gTuple, ↓gMin2, ↓gMax2, ↓gStr, ↓gInt, ↓newL, ↓mAppend, ↓mInsert, ↓mPopAt, ↓mIndex, ↓gSplit, ↓gJoin, List.map_cons, List.map_nil, List.length_cons, List.length_nil, List.length_map, List.cons_append, List.nil_append, Nat.reduceAdd, Nat.reduceSub, List.getElem?_cons_zero, List.getElem?_cons_succ, List.getElem?_map, Option.map_some, List.set_cons_zero, List.set_cons_succ, isNon, seqOf, listOf, atI_nn, atI_0, atI_1, atI_2, atI_3, encNet, encSt, encRow, encR, encO, encP, nats, encT, Od.raw, if_true, if_false, ite_true, ite_false, Bool.false_eq_true, Bool.true_eq_false, Bool.not_true, Bool.not_false, decide_true, decide_false, reduceIte, eq_self, and_true, true_and, sn_set_put, sn_set_take, sn_set_add, sn_put_set, sn_put_take, sn_put_add, sn_take_set, sn_take_put, sn_take_add, sn_add_set, sn_add_put, sn_add_take, h3]; exact hq) (hq _ (hc.2 _ (List.getElem_mem h))))
  · have h2 : ¬ (k : Int) < (ns.length : Int) := by omega
    exact st_ifn (by intro Q E hq; simp only [↓eVar, ↓eC, ↓eBin, ↓eUn, ↓eB, ↓eTup, ↓eLst, ↓eAnd, ↓eOr, ↓eNot, ↓eIf, ↓eChain, ↓eSlice, ↓eM, ↓eStr1, ↓eIsi, ↓oNo, ↓oPart, ↓tst, ↓ftAnd, ↓ftOr, ↓ftNot, ↓ftYes, ↓args, ↓gI, ↓gI0, ↓gSubI, ↓gFdiv, ↓gMod, ↓gPow, ↓gLt, ↓gLe, ↓gGt, ↓gGe, ↓gAdd, ↓gMul, ↓gRep, ↓gIx, ↓gIsN, ↓gNotN, ↓gNeg, ↓gEqN, ↓gIn, ↓gInSeq, ↓gLen, ↓gSlice, ↓gList, ↓gTuple, ↓gMin2, ↓gMax2, ↓gStr, ↓gInt, ↓newL, ↓mAppend, ↓mInsert, ↓mPopAt, ↓mIndex, ↓gSplit, ↓gJoin, List.map_cons, List.map_nil, List.length_cons, List.length_nil, List.length_map, List.cons_append, List.nil_append, Nat.reduceAdd, Nat.reduceSub, List.getElem?_cons_zero, List.getElem?_cons_succ, List.getElem?_map, Option.map_some, List.set_cons_zero, List.set_cons_succ, isNon, seqOf, listOf, atI_nn, atI_0, atI_1, atI_2, atI_3, encNet, encSt, encRow, encR, encO, encP, nats, encT, Od.raw, if_true, if_false, ite_true, ite_false, Bool.false_eq_true, Bool.true_eq_false, Bool.not_true, Bool.not_false, decide_true, decide_false, reduceIte, eq_self, and_true, true_and, sn_set_put, sn_set_take, sn_set_add, sn_put_set, sn_put_take, sn_put_add, sn_take_set, sn_take_put, sn_take_add, sn_add_set, sn_add_put, sn_add_take, decide_eq_false h2]; exact hq) (st_ret (by intro Q E hq; simp only [↓eVar, ↓eC, ↓eBin, ↓eUn, ↓eB, ↓eTup, ↓eLst, ↓eAnd, ↓eOr, ↓eNot, ↓eIf, ↓eChain, ↓eSlice, ↓eM, ↓eStr1, ↓eIsi, ↓oNo, ↓oPart, ↓tst, ↓ftAnd, ↓ftOr, ↓ftNot, ↓ftYes, ↓args, ↓gI, ↓gI0, ↓gSubI, ↓gFdiv, ↓gMod, ↓gPow, ↓gLt, ↓gLe, ↓gGt, ↓gGe, ↓gAdd, ↓gMul, ↓gRep, ↓gIx, ↓gIsN, ↓gNotN, ↓gNeg, ↓gEqN, ↓gIn, ↓gInSeq, ↓gLen, ↓gSlice, ↓gList, ↓gTuple, ↓gMin2, ↓gMax2, ↓gStr, ↓gInt, ↓newL, ↓mAppend, ↓mInsert, ↓mPopAt, ↓mIndex, ↓gSplit, ↓gJoin, List.map_cons, List.map_nil, List.length_cons, List.length_nil, List.length_map, List.cons_append, List.nil_append, Nat.reduceAdd, Nat.reduceSub, List.getElem?_cons_zero, List.getElem?_cons_succ, List.getElem?_map, Option.map_some, List.set_cons_zero, List.set_cons_succ, isNon, seqOf, listOf, atI_nn, atI_0, atI_1, atI_2, atI_3, encNet, encSt, encRow, encR, encO, encP, nats, encT, Od.raw, if_true, if_false, ite_true, ite_false, Bool.false_eq_true, Bool.true_eq_false, Bool.not_true, Bool.not_false, decide_true, decide_false, reduceIte, eq_self, and_true, true_and, sn_set_put, sn_set_take, sn_set_add, sn_put_set, sn_put_take, sn_put_add, sn_take_set, sn_take_put, sn_take_add, sn_add_set, sn_add_put, sn_add_take]; exact hq) (hq _ (Nat.lt_of_lt_of_le (by decide) sml_pos)))
theorem dv (i : Int) {k : Int} (h : 0 < k) (h2 : k < 1073741824) : CDiv i k := ⟨h, h2⟩
theorem sem_number_by : ∀ ds M Q E, G_number_by ds M Q E → f_number_by (exits false M Q E) (startD 1 ds) M := by
  rintro ds M Q E ⟨c, rfl, hc, hq⟩
  unfold f_number_by
  simp only [startD, List.map_cons, List.map_nil, List.length_cons, List.length_nil, List.replicate, List.cons_append, List.nil_append, Nat.reduceAdd, Nat.reduceSub]
  have m5 : (0 : Int) < 5 := by decide
  have p1 : CPow 10 59 := by unfold CPow; decide
  have p2 : CPow 10 60 := by unfold CPow; decide
  have mb : IntMulOk c (10 ^ Int.toNat 59 + 7) := big_mul hc (by decide +kernel)
  have m2 : IntMulOk 2 (c / 5 % 2) := big_mul (Nat.lt_of_lt_of_le (m := 1000000000) (by decide) (Nat.le_trans (by omega) sml_big)) (by
    have : (c / 5 % 2).natAbs < 2 := by omega
    exact Nat.lt_of_lt_of_le this (by decide))
  have q60 : (0 : Int) < 10 ^ Int.toNat 60 := by decide +kernel
  have hr : (c * (10 ^ Int.toNat 59 + 7) % 10 ^ Int.toNat 60).natAbs < 10 ^ 60 := by
    have h1 := Int.emod_nonneg (c * (10 ^ Int.toNat 59 + 7)) (b := 10 ^ Int.toNat 60) (by omega)
    have h2 := Int.emod_lt_of_pos (c * (10 ^ Int.toNat 59 + 7)) q60
    have h3 : ((10 ^ 60 : Nat) : Int) = 10 ^ Int.toNat 60 := by decide +kernel
    omega
  have m3 : IntMulOk (c * (10 ^ Int.toNat 59 + 7) % 10 ^ Int.toNat 60) (1 - 2 * (c / 5 % 2)) := big_mul (Nat.lt_of_lt_of_le hr (Nat.le_trans (Nat.pow_le_pow_left (by decide : 10 ≤ 2 ^ 4) 60) (by rw [← Nat.pow_mul]; exact Nat.pow_le_pow_right (by decide) (by decide)))) (by
    have : (1 - 2 * (c / 5 % 2)).natAbs < 4 := by omega
    exact Nat.lt_of_lt_of_le this (by decide))
  have m4 : IntMulOk c 48271 := big_mul hc (by decide +kernel)
  have q5 := dv c (k := 5) (by decide) (by decide)
  by_cases h4 : c % 5 = 4
  · refine st_if1 (M1 := M) (by intro Q E hq; simp only [↓eVar, ↓eC, ↓eBin, ↓eUn, ↓eB, ↓eTup, ↓eLst, ↓eAnd, ↓eOr, ↓eNot, ↓eIf, ↓eChain, ↓eSlice, ↓eM, ↓eStr1, ↓eIsi, ↓oNo, ↓oPart, ↓tst, ↓ftAnd, ↓ftOr, ↓ftNot, ↓ftYes, ↓args, ↓gI, ↓gI0, ↓gSubI, ↓gFdiv, ↓gMod, ↓gPow, ↓gLt, ↓gLe, ↓gGt, ↓gGe, ↓gAdd, ↓gMul, ↓gRep, ↓gIx, ↓gIsN, ↓gNotN, ↓gNeg, ↓gEqN, ↓gIn, ↓gInSeq, ↓gLen, ↓gSlice, ↓gList, ↓gTuple, ↓gMin2, ↓gMax2, ↓gStr, ↓gInt, ↓newL, ↓mAppend, ↓mInsert, ↓mPopAt, ↓mIndex, ↓gSplit, ↓gJoin, List.map_cons, List.map_nil, List.length_cons, List.length_nil, List.length_map, List.cons_append, List.nil_append, Nat.reduceAdd, Nat.reduceSub, List.getElem?_cons_zero, List.getElem?_cons_succ, List.getElem?_map, Option.map_some, List.set_cons_zero, List.set_cons_succ, isNon, seqOf, listOf, atI_nn, atI_0, atI_1, atI_2, atI_3, encNet, encSt, encRow, encR, encO, encP, nats, encT, Od.raw, if_true, if_false, ite_true, ite_false, Bool.false_eq_true, Bool.true_eq_false, Bool.not_true, Bool.not_false, decide_true, decide_false, reduceIte, eq_self, and_true, true_and, sn_set_put, sn_set_take, sn_set_add, sn_put_set, sn_put_take, sn_put_add, sn_take_set, sn_take_put, sn_take_add, sn_add_set, sn_add_put, sn_add_take, m5, decide_eq_true h4]; exact hq) (st_ret2 (M1 := M) (by intro Q E hq; simp only [↓eVar, ↓eC, ↓eBin, ↓eUn, ↓eB, ↓eTup, ↓eLst, ↓eAnd, ↓eOr, ↓eNot, ↓eIf, ↓eChain, ↓eSlice, ↓eM, ↓eStr1, ↓eIsi, ↓oNo, ↓oPart, ↓tst, ↓ftAnd, ↓ftOr, ↓ftNot, ↓ftYes, ↓args, ↓gI, ↓gI0, ↓gSubI, ↓gFdiv, ↓gMod, ↓gPow, ↓gLt, ↓gLe, ↓gGt, ↓gGe, ↓gAdd, ↓gMul, ↓gRep, ↓gIx, ↓gIsN, ↓gNotN, ↓gNeg, ↓gEqN, ↓gIn, ↓gInSeq, ↓gLen, ↓gSlice, ↓gList, ↓gTuple, ↓gMin2, ↓gMax2, ↓gStr, ↓gInt, ↓newL, ↓mAppend, ↓mInsert, ↓mPopAt, ↓mIndex, ↓gSplit, ↓gJoin, List.map_cons, List.map_nil, List.length_cons, List.length_nil, List.length_map, List.cons_append, List.nil_append, Nat.reduceAdd, Nat.reduceSub, List.getElem?_cons_zero, List.getElem?_cons_succ, List.getElem?_map, Option.map_some, List.set_cons_zero, List.set_cons_succ, isNon, seqOf, listOf, atI_nn, atI_0, atI_1, atI_2, atI_3, encNet, encSt, encRow, encR, encO, encP, nats, encT, Od.raw, if_true, if_false, ite_true, ite_false, Bool.false_eq_true, Bool.true_eq_false, Bool.not_true, Bool.not_false, decide_true, decide_false, reduceIte, eq_self, and_true, true_and, sn_set_put, sn_set_take, sn_set_add, sn_put_set, sn_put_take, sn_put_add, sn_take_set, sn_take_put, sn_take_add, sn_add_set, sn_add_put, sn_add_take, m5, p1, p2, mb, q60, q5, m2, m3, show (0 : Int) < 2 by decide]; exact hq) (hq _ ?_))
    rw [Int.natAbs_mul]
    have h5 : (1 - 2 * (c / 5 % 2)).natAbs = 1 := by omega
    rw [h5, Nat.mul_one]
    exact hr
  · refine st_ifn (M1 := M) (by intro Q E hq; simp only [↓eVar, ↓eC, ↓eBin, ↓eUn, ↓eB, ↓eTup, ↓eLst, ↓eAnd, ↓eOr, ↓eNot, ↓eIf, ↓eChain, ↓eSlice, ↓eM, ↓eStr1, ↓eIsi, ↓oNo, ↓oPart, ↓tst, ↓ftAnd, ↓ftOr, ↓ftNot, ↓ftYes, ↓args, ↓gI, ↓gI0, ↓gSubI, ↓gFdiv, ↓gMod, ↓gPow, ↓gLt, ↓gLe, ↓gGt, ↓gGe, ↓gAdd, ↓gMul, ↓gRep, ↓gIx, ↓gIsN, ↓gNotN, ↓gNeg, ↓gEqN, ↓gIn, ↓gInSeq, ↓gLen, ↓gSlice, ↓gList, ↓gTuple, ↓gMin2, ↓gMax2, ↓gStr, ↓gInt, ↓newL, ↓mAppend, ↓mInsert, ↓mPopAt, ↓mIndex, ↓gSplit, ↓gJoin, List.map_cons, List.map_nil, List.length_cons, List.length_nil, List.length_map, List.cons_append, List.nil_append, Nat.reduceAdd, Nat.reduceSub, List.getElem?_cons_zero, List.getElem?_cons_succ, List.getElem?_map, Option.map_some, List.set_cons_zero, List.set_cons_succ, isNon, seqOf, listOf, atI_nn, atI_0, atI_1, atI_2, atI_3, encNet, encSt, encRow, encR, encO, encP, nats, encT, Od.raw, if_true, if_false, ite_true, ite_false, Bool.false_eq_true, Bool.true_eq_false, Bool.not_true, Bool.not_false, decide_true, decide_false, reduceIte, eq_self, and_true, true_and, sn_set_put, sn_set_take, sn_set_add, sn_put_set, sn_put_take, sn_put_add, sn_take_set, sn_take_put, sn_take_add, sn_add_set, sn_add_put, sn_add_take, m5, decide_eq_false h4]; exact hq) ?_
    by_cases h3 : c % 5 = 3
    · refine st_if1 (M1 := M) (by intro Q E hq; simp only [↓eVar, ↓eC, ↓eBin, ↓eUn, ↓eB, ↓eTup, ↓eLst, ↓eAnd, ↓eOr, ↓eNot, ↓eIf, ↓eChain, ↓eSlice, ↓eM, ↓eStr1, ↓eIsi, ↓oNo, ↓oPart, ↓tst, ↓ftAnd, ↓ftOr, ↓ftNot, ↓ftYes, ↓args, ↓gI, ↓gI0, ↓gSubI, ↓gFdiv, ↓gMod, ↓gPow, ↓gLt, ↓gLe, ↓gGt, ↓gGe, ↓gAdd, ↓gMul, ↓gRep, ↓gIx, ↓gIsN, ↓gNotN, ↓gNeg, ↓gEqN, ↓gIn, ↓gInSeq, ↓gLen, ↓gSlice, ↓gList, ↓gTuple, ↓gMin2, ↓gMax2, ↓gStr, ↓gInt, ↓newL, ↓mAppend, ↓mInsert, ↓mPopAt, ↓mIndex, ↓gSplit, ↓gJoin, List.map_cons, List.map_nil, List.length_cons, List.length_nil, List.length_map, List.cons_append, List.nil_append, Nat.reduceAdd, Nat.reduceSub, List.getElem?_cons_zero, List.getElem?_cons_succ, List.getElem?_map, Option.map_some, List.set_cons_zero, List.set_cons_succ, isNon, seqOf, listOf, atI_nn, atI_0, atI_1, atI_2, atI_3, encNet, encSt, encRow, encR, encO, encP, nats, encT, Od.raw, if_true, if_false, ite_true, ite_false, Bool.false_eq_true, Bool.true_eq_false, Bool.not_true, Bool.not_false, decide_true, decide_false, reduceIte, eq_self, and_true, true_and, sn_set_put, sn_set_take, sn_set_add, sn_put_set, sn_put_take, sn_put_add, sn_take_set, sn_take_put, sn_take_add, sn_add_set, sn_add_put, sn_add_take, m5, decide_eq_true h3]; exact hq) (st_ret2 (M1 := M) (by intro Q E hq; simp only [↓eVar, ↓eC, ↓eBin, ↓eUn, ↓eB, ↓eTup, ↓eLst, ↓eAnd, ↓eOr, ↓eNot, ↓eIf, ↓eChain, ↓eSlice, ↓eM, ↓eStr1, ↓eIsi, ↓oNo, ↓oPart, ↓tst, ↓ftAnd, ↓ftOr, ↓ftNot, ↓ftYes, ↓args, ↓gI, ↓gI0, ↓gSubI, ↓gFdiv, ↓gMod, ↓gPow, ↓gLt, ↓gLe, ↓gGt, ↓gGe, ↓gAdd, ↓gMul, ↓gRep, ↓gIx, ↓gIsN, ↓gNotN, ↓gNeg, ↓gEqN, ↓gIn, ↓gInSeq, ↓gLen, ↓gSlice, ↓gList, ↓gTuple, ↓gMin2, ↓gMax2, ↓gStr, ↓gInt, ↓newL, ↓mAppend, ↓mInsert, ↓mPopAt, ↓mIndex, ↓gSplit, ↓gJoin, List.map_cons, List.map_nil, List.length_cons, List.length_nil, List.length_map, List.cons_append, List.nil_append, Nat.reduceAdd, Nat.reduceSub, List.getElem?_cons_zero, List.getElem?_cons_succ, List.getElem?_map, Option.map_some, List.set_cons_zero, List.set_cons_succ, isNon, seqOf, listOf, atI_nn, atI_0, atI_1, atI_2, atI_3, encNet, encSt, encRow, encR, encO, encP, nats, encT, Od.raw, if_true, if_false, ite_true, ite_false, Bool.false_eq_true, Bool.true_eq_false, Bool.not_true, Bool.not_false, decide_true, decide_false, reduceIte, eq_self, and_true, true_and, sn_set_put, sn_set_take, sn_set_add, sn_put_set, sn_put_take, sn_put_add, sn_take_set, sn_take_put, sn_take_add, sn_add_set, sn_add_put, sn_add_take, m5, q5, show (0 : Int) < 7 by decide]; exact hq) (hq _ ?_))
      have : (c / 5 % 7).natAbs < 7 := by omega
      exact Nat.lt_of_lt_of_le this (by decide)
    · refine st_ifn (M1 := M) (by intro Q E hq; simp only [↓eVar, ↓eC, ↓eBin, ↓eUn, ↓eB, ↓eTup, ↓eLst, ↓eAnd, ↓eOr, ↓eNot, ↓eIf, ↓eChain, ↓eSlice, ↓eM, ↓eStr1, ↓eIsi, ↓oNo, ↓oPart, ↓tst, ↓ftAnd, ↓ftOr, ↓ftNot, ↓ftYes, ↓args, ↓gI, ↓gI0, ↓gSubI, ↓gFdiv, ↓gMod, ↓gPow, ↓gLt, ↓gLe, ↓gGt, ↓gGe, ↓gAdd, ↓gMul, ↓gRep, ↓gIx, ↓gIsN, ↓gNotN, ↓gNeg, ↓gEqN, ↓gIn, ↓gInSeq, ↓gLen, ↓gSlice, ↓gList, ↓gTuple, ↓gMin2, ↓gMax2, ↓gStr, ↓gInt, ↓newL, ↓mAppend, ↓mInsert, ↓mPopAt, ↓mIndex, ↓gSplit, ↓gJoin, List.map_cons, List.map_nil, List.length_cons, List.length_nil, List.length_map, List.cons_append, List.nil_append, Nat.reduceAdd, Nat.reduceSub, List.getElem?_cons_zero, List.getElem?_cons_succ, List.getElem?_map, Option.map_some, List.set_cons_zero, List.set_cons_succ, isNon, seqOf, listOf, atI_nn, atI_0, atI_1, atI_2, atI_3, encNet, encSt, encRow, encR, encO, encP, nats, encT, Od.raw, if_true, if_false, ite_true, ite_false, Bool.false_eq_true, Bool.true_eq_false, Bool.not_true, Bool.not_false, decide_true, decide_false, reduceIte, eq_self, and_true, true_and, sn_set_put, sn_set_take, sn_set_add, sn_put_set, sn_put_take, sn_put_add, sn_take_set, sn_take_put, sn_take_add, sn_add_set, sn_add_put, sn_add_take, m5, decide_eq_false h3]; exact hq) (st_ret (M1 := M) (by intro Q E hq; simp only [↓eVar, ↓eC, ↓eBin, ↓eUn, ↓eB, ↓eTup, ↓eLst, ↓eAnd, ↓eOr, ↓eNot, ↓eIf, ↓eChain, ↓eSlice, ↓eM, ↓eStr1, ↓eIsi, ↓oNo, ↓oPart, ↓tst, ↓ftAnd, ↓ftOr, ↓ftNot, ↓ftYes, ↓args, ↓gI, ↓gI0, ↓gSubI, ↓gFdiv, ↓gMod, ↓gPow, ↓gLt, ↓gLe, ↓gGt, ↓gGe, ↓gAdd, ↓gMul, ↓gRep, ↓gIx, ↓gIsN, ↓gNotN, ↓gNeg, ↓gEqN, ↓gIn, ↓gInSeq, ↓gLen, ↓gSlice, ↓gList, ↓gTuple, ↓gMin2, ↓gMax2, ↓gStr, ↓gInt, ↓newL, ↓mAppend, ↓mInsert, ↓mPopAt, ↓mIndex, ↓gSplit, ↓gJoin, List.map_cons, List.map_nil, List.length_cons, List.length_nil, List.length_map, List.cons_append, List.nil_append, Nat.reduceAdd, Nat.reduceSub, List.getElem?_cons_zero, List.getElem?_cons_succ, List.getElem?_map, Option.map_some, List.set_cons_zero, List.set_cons_succ, isNon, seqOf, listOf, atI_nn, atI_0, atI_1, atI_2, atI_3, encNet, encSt, encRow, encR, encO, encP, nats, encT, Od.raw, if_true, if_false, ite_true, ite_false, Bool.false_eq_true, Bool.true_eq_false, Bool.not_true, Bool.not_false, decide_true, decide_false, reduceIte, eq_self, and_true, true_and, sn_set_put, sn_set_take, sn_set_add, sn_put_set, sn_put_take, sn_put_add, sn_take_set, sn_take_put, sn_take_add, sn_add_set, sn_add_put, sn_add_take, m4, show (0 : Int) < 2003 by decide]; exact hq) (hq _ ?_))
      have : (c * 48271 % 2003 - 1001).natAbs < 2003 := by omega
      exact Nat.lt_of_lt_of_le this (by decide)
theorem sem_pipe_by : ∀ ds M Q E, G_pipe_by ds M Q E → f_pipe_by (exits false M Q E) (startD 4 ds) M := by
  rintro ds M Q E ⟨c, W, rfl, hW, hW2, hq⟩
  unfold f_pipe_by
  simp only [startD, List.map_cons, List.map_nil, List.length_cons, List.length_nil, List.replicate, List.cons_append, List.nil_append, Nat.reduceAdd, Nat.reduceSub]
  have d1 := dv c (k := (W : Int)) (by omega) (by omega)
  have d2 := dv (c / W) (k := (W : Int)) (by omega) (by omega)
  have d3 := dv (c / W / W) (k := 3) (by decide) (by decide)
  have d4 := dv (c / W / W) (k := 15) (by decide) (by decide)
  have hW3 : (0 : Int) < (W : Int) := by omega
  refine st_set (M1 := M) (by intro Q E hq; simp only [↓eVar, ↓eC, ↓eBin, ↓eUn, ↓eB, ↓eTup, ↓eLst, ↓eAnd, ↓eOr, ↓eNot, ↓eIf, ↓eChain, ↓eSlice, ↓eM, ↓eStr1, ↓eIsi, ↓oNo, ↓oPart, ↓tst, ↓ftAnd, ↓ftOr, ↓ftNot, ↓ftYes, ↓args, ↓gI, ↓gI0, ↓gSubI, ↓gFdiv, ↓gMod, ↓gPow, ↓gLt, ↓gLe, ↓gGt, ↓gGe, ↓gAdd, ↓gMul, ↓gRep, ↓gIx, ↓gIsN, ↓gNotN, ↓gNeg, ↓gEqN, ↓gIn, ↓gInSeq, ↓gLen, ↓gSlice, ↓gList, ↓gTuple, ↓gMin2, ↓gMax2, ↓gStr, ↓gInt, ↓newL, ↓mAppend, ↓mInsert, ↓mPopAt, ↓mIndex, ↓gSplit, ↓gJoin, List.map_cons, List.map_nil, List.length_cons, List.length_nil, List.length_map, List.cons_append, List.nil_append, Nat.reduceAdd, Nat.reduceSub, List.getElem?_cons_zero, List.getElem?_cons_succ, List.getElem?_map, Option.map_some, List.set_cons_zero, List.set_cons_succ, isNon, seqOf, listOf, atI_nn, atI_0, atI_1, atI_2, atI_3, encNet, encSt, encRow, encR, encO, encP, nats, encT, Od.raw, if_true, if_false, ite_true, ite_false, Bool.false_eq_true, Bool.true_eq_false, Bool.not_true, Bool.not_false, decide_true, decide_false, reduceIte, eq_self, and_true, true_and, sn_set_put, sn_set_take, sn_set_add, sn_put_set, sn_put_take, sn_put_add, sn_take_set, sn_take_put, sn_take_add, sn_add_set, sn_add_put, sn_add_take, d1]; exact hq) (st_set (M1 := M) (by intro Q E hq; simp only [↓eVar, ↓eC, ↓eBin, ↓eUn, ↓eB, ↓eTup, ↓eLst, ↓eAnd, ↓eOr, ↓eNot, ↓eIf, ↓eChain, ↓eSlice, ↓eM, ↓eStr1, ↓eIsi, ↓oNo, ↓oPart, ↓tst, ↓ftAnd, ↓ftOr, ↓ftNot, ↓ftYes, ↓args, ↓gI, ↓gI0, ↓gSubI, ↓gFdiv, ↓gMod, ↓gPow, ↓gLt, ↓gLe, ↓gGt, ↓gGe, ↓gAdd, ↓gMul, ↓gRep, ↓gIx, ↓gIsN, ↓gNotN, ↓gNeg, ↓gEqN, ↓gIn, ↓gInSeq, ↓gLen, ↓gSlice, ↓gList, ↓gTuple, ↓gMin2, ↓gMax2, ↓gStr, ↓gInt, ↓newL, ↓mAppend, ↓mInsert, ↓mPopAt, ↓mIndex, ↓gSplit, ↓gJoin, List.map_cons, List.map_nil, List.length_cons, List.length_nil, List.length_map, List.cons_append, List.nil_append, Nat.reduceAdd, Nat.reduceSub, List.getElem?_cons_zero, List.getElem?_cons_succ, List.getElem?_map, Option.map_some, List.set_cons_zero, List.set_cons_succ, isNon, seqOf, listOf, atI_nn, atI_0, atI_1, atI_2, atI_3, encNet, encSt, encRow, encR, encO, encP, nats, encT, Od.raw, if_true, if_false, ite_true, ite_false, Bool.false_eq_true, Bool.true_eq_false, Bool.not_true, Bool.not_false, decide_true, decide_false, reduceIte, eq_self, and_true, true_and, sn_set_put, sn_set_take, sn_set_add, sn_put_set, sn_put_take, sn_put_add, sn_take_set, sn_take_put, sn_take_add, sn_add_set, sn_add_put, sn_add_take, d2, show (0 : Int) < 3 by decide]; exact hq) ?_)
  have last : ∀ z : Int, 1 ≤ z → z ≤ 1000 → sRet (eTup [(eBin gMod (eVar 0) (eVar 1)), (eBin gMod (eVar 2) (eVar 1)), (eVar 3)]) (exits false M Q E) [some (.int c), some (.int (W : Int)), some (.int (c / W)), some (.int z)] M := by
    intro z h1 h2
    refine st_ret (M1 := M) (d := encP ⟨(c % W).toNat, (c / W % W).toNat, z.toNat⟩) ?_ (hq _ ?_ ?_ ?_ ?_)
    · intro Q E hq
      have e1 := Int.emod_nonneg c (b := (W : Int)) (by omega)
      have e2 := Int.emod_nonneg (c / W) (b := (W : Int)) (by omega)
      unfold encP at hq
      rw [Int.toNat_of_nonneg e1, Int.toNat_of_nonneg e2, Int.toNat_of_nonneg (by omega)] at hq
      simp only [↓eVar, ↓eC, ↓eBin, ↓eUn, ↓eB, ↓eTup, ↓eLst, ↓eAnd, ↓eOr, ↓eNot, ↓eIf, ↓eChain, ↓eSlice, ↓eM, ↓eStr1, ↓eIsi, ↓oNo, ↓oPart, ↓tst, ↓ftAnd, ↓ftOr, ↓ftNot, ↓ftYes, ↓args, ↓gI, ↓gI0, ↓gSubI, ↓gFdiv, ↓gMod, ↓gPow, ↓gLt, ↓gLe, ↓gGt, ↓gGe, ↓gAdd, ↓gMul, ↓gRep, ↓gIx, ↓gIsN, ↓gNotN, ↓gNeg, ↓gEqN, ↓gIn, ↓gInSeq, ↓gLen, ↓gSlice, ↓gList, ↓gTuple, ↓gMin2, ↓gMax2, ↓gStr, ↓gInt, ↓newL, ↓mAppend, ↓mInsert, ↓mPopAt, ↓mIndex, ↓gSplit, ↓gJoin, List.map_cons, List.map_nil, List.length_cons, List.length_nil, List.length_map, List.cons_append, List.nil_append, Nat.reduceAdd, Nat.reduceSub, List.getElem?_cons_zero, List.getElem?_cons_succ, List.getElem?_map, Option.map_some, List.set_cons_zero, List.set_cons_succ, isNon, seqOf, listOf, atI_nn, atI_0, atI_1, atI_2, atI_3, encNet, encSt, encRow, encR, encO, encP, nats, encT, Od.raw, if_true, if_false, ite_true, ite_false, Bool.false_eq_true, Bool.true_eq_false, Bool.not_true, Bool.not_false, decide_true, decide_false, reduceIte, eq_self, and_true, true_and, sn_set_put, sn_set_take, sn_set_add, sn_put_set, sn_put_take, sn_put_add, sn_take_set, sn_take_put, sn_take_add, sn_add_set, sn_add_put, sn_add_take, hW3]
      exact hq
    · have := Int.emod_lt_of_pos c hW3
      have := Int.emod_nonneg c (b := (W : Int)) (by omega)
      show (c % W).toNat < W
      omega
    · have := Int.emod_lt_of_pos (c / W) hW3
      have := Int.emod_nonneg (c / W) (b := (W : Int)) (by omega)
      show (c / W % W).toNat < W
      omega
    · show 1 ≤ z.toNat
      omega
    · show z.toNat ≤ 1000
      omega
  by_cases h : c / W / W / 3 % 5 = 4
  · exact st_if1 (M1 := M) (by intro Q E hq; simp only [↓eVar, ↓eC, ↓eBin, ↓eUn, ↓eB, ↓eTup, ↓eLst, ↓eAnd, ↓eOr, ↓eNot, ↓eIf, ↓eChain, ↓eSlice, ↓eM, ↓eStr1, ↓eIsi, ↓oNo, ↓oPart, ↓tst, ↓ftAnd, ↓ftOr, ↓ftNot, ↓ftYes, ↓args, ↓gI, ↓gI0, ↓gSubI, ↓gFdiv, ↓gMod, ↓gPow, ↓gLt, ↓gLe, ↓gGt, ↓gGe, ↓gAdd, ↓gMul, ↓gRep, ↓gIx, ↓gIsN, ↓gNotN, ↓gNeg, ↓gEqN, ↓gIn, ↓gInSeq, ↓gLen, ↓gSlice, ↓gList, ↓gTuple, ↓gMin2, ↓gMax2, ↓gStr, ↓gInt, ↓newL, ↓mAppend, ↓mInsert, ↓mPopAt, ↓mIndex, ↓gSplit, ↓gJoin, List.map_cons, List.map_nil, List.length_cons, List.length_nil, List.length_map, List.cons_append, List.nil_append, Nat.reduceAdd, Nat.reduceSub, List.getElem?_cons_zero, List.getElem?_cons_succ, List.getElem?_map, Option.map_some, List.set_cons_zero, List.set_cons_succ, isNon, seqOf, listOf, atI_nn, atI_0, atI_1, atI_2, atI_3, encNet, encSt, encRow, encR, encO, encP, nats, encT, Od.raw, if_true, if_false, ite_true, ite_false, Bool.false_eq_true, Bool.true_eq_false, Bool.not_true, Bool.not_false, decide_true, decide_false, reduceIte, eq_self, and_true, true_and, sn_set_put, sn_set_take, sn_set_add, sn_put_set, sn_put_take, sn_put_add, sn_take_set, sn_take_put, sn_take_add, sn_add_set, sn_add_put, sn_add_take, d2, d3, show (0 : Int) < 5 by decide, decide_eq_true h]; exact hq) (st_set (M1 := M) (by intro Q E hq; simp only [↓eVar, ↓eC, ↓eBin, ↓eUn, ↓eB, ↓eTup, ↓eLst, ↓eAnd, ↓eOr, ↓eNot, ↓eIf, ↓eChain, ↓eSlice, ↓eM, ↓eStr1, ↓eIsi, ↓oNo, ↓oPart, ↓tst, ↓ftAnd, ↓ftOr, ↓ftNot, ↓ftYes, ↓args, ↓gI, ↓gI0, ↓gSubI, ↓gFdiv, ↓gMod, ↓gPow, ↓gLt, ↓gLe, ↓gGt, ↓gGe, ↓gAdd, ↓gMul, ↓gRep, ↓gIx, ↓gIsN, ↓gNotN, ↓gNeg, ↓gEqN, ↓gIn, ↓gInSeq, ↓gLen, ↓gSlice, ↓gList, ↓gTuple, ↓gMin2, ↓gMax2, ↓gStr, ↓gInt, ↓newL, ↓mAppend, ↓mInsert, ↓mPopAt, ↓mIndex, ↓gSplit, ↓gJoin, List.map_cons, List.map_nil, List.length_cons, List.length_nil, List.length_map, List.cons_append, List.nil_append, Nat.reduceAdd, Nat.reduceSub, List.getElem?_cons_zero, List.getElem?_cons_succ, List.getElem?_map, Option.map_some, List.set_cons_zero, List.set_cons_succ, isNon, seqOf, listOf, atI_nn, atI_0, atI_1, atI_2, atI_3, encNet, encSt, encRow, encR, encO, encP, nats, encT, Od.raw, if_true, if_false, ite_true, ite_false, Bool.false_eq_true, Bool.true_eq_false, Bool.not_true, Bool.not_false, decide_true, decide_false, reduceIte, eq_self, and_true, true_and, sn_set_put, sn_set_take, sn_set_add, sn_put_set, sn_put_take, sn_put_add, sn_take_set, sn_take_put, sn_take_add, sn_add_set, sn_add_put, sn_add_take, d2, d4, show (0 : Int) < 1000 by decide]; exact hq) (last _ (by omega) (by omega)))
  · exact st_ifn (M1 := M) (by intro Q E hq; simp only [↓eVar, ↓eC, ↓eBin, ↓eUn, ↓eB, ↓eTup, ↓eLst, ↓eAnd, ↓eOr, ↓eNot, ↓eIf, ↓eChain, ↓eSlice, ↓eM, ↓eStr1, ↓eIsi, ↓oNo, ↓oPart, ↓tst, ↓ftAnd, ↓ftOr, ↓ftNot, ↓ftYes, ↓args, ↓gI, ↓gI0, ↓gSubI, ↓gFdiv, ↓gMod, ↓gPow, ↓gLt, ↓gLe, ↓gGt, ↓gGe, ↓gAdd, ↓gMul, ↓gRep, ↓gIx, ↓gIsN, ↓gNotN, ↓gNeg, ↓gEqN, ↓gIn, ↓gInSeq, ↓gLen, ↓gSlice, ↓gList, ↓gTuple, ↓gMin2, ↓gMax2, ↓gStr, ↓gInt, ↓newL, ↓mAppend, ↓mInsert, ↓mPopAt, ↓mIndex, ↓gSplit, ↓gJoin, List.map_cons, List.map_nil, List.length_cons, List.length_nil, List.length_map, List.cons_append, List.nil_append, Nat.reduceAdd, Nat.reduceSub, List.getElem?_cons_zero, List.getElem?_cons_succ, List.getElem?_map, Option.map_some, List.set_cons_zero, List.set_cons_succ, isNon, seqOf, listOf, atI_nn, atI_0, atI_1, atI_2, atI_3, encNet, encSt, encRow, encR, encO, encP, nats, encT, Od.raw, if_true, if_false, ite_true, ite_false, Bool.false_eq_true, Bool.true_eq_false, Bool.not_true, Bool.not_false, decide_true, decide_false, reduceIte, eq_self, and_true, true_and, sn_set_put, sn_set_take, sn_set_add, sn_put_set, sn_put_take, sn_put_add, sn_take_set, sn_take_put, sn_take_add, sn_add_set, sn_add_put, sn_add_take, d2, d3, show (0 : Int) < 5 by decide, decide_eq_false h]; exact hq) (last _ (by omega) (by omega))
theorem sem_put_in : ∀ ds M Q E, G_put_in ds M Q E → f_put_in (exits false M Q E) (startD 3 ds) M := by
  rintro ds M Q E ⟨n, o, r, xs, rfl, hx, hl, hq⟩
  unfold f_put_in
  simp only [startD, List.map_cons, List.map_nil, List.length_cons, List.length_nil, List.replicate, List.cons_append, List.nil_append, Nat.reduceAdd, Nat.reduceSub]
  have hz : xs.length < sizeLine := Nat.lt_of_le_of_lt hl (by decide)
  have d1 := dv r (k := 3) (by decide) (by decide)
  have dl : (0 : Int) < (xs.length : Int) + 1 := by omega
  by_cases h : r % 3 = 0
  · refine st_l1 (M1 := M) (by intro Q E hq; simp only [↓eVar, ↓eC, ↓eBin, ↓eUn, ↓eB, ↓eTup, ↓eLst, ↓eAnd, ↓eOr, ↓eNot, ↓eIf, ↓eChain, ↓eSlice, ↓eM, ↓eStr1, ↓eIsi, ↓oNo, ↓oPart, ↓tst, ↓ftAnd, ↓ftOr, ↓ftNot, ↓ftYes, ↓args, ↓gI, ↓gI0, ↓gSubI, ↓gFdiv, ↓gMod, ↓gPow, ↓gLt, ↓gLe, ↓gGt, ↓gGe, ↓gAdd, ↓gMul, ↓gRep, ↓gIx, ↓gIsN, ↓gNotN, ↓gNeg, ↓gEqN, ↓gIn, ↓gInSeq, ↓gLen, ↓gSlice, ↓gList, ↓gTuple, ↓gMin2, ↓gMax2, ↓gStr, ↓gInt, ↓newL, ↓mAppend, ↓mInsert, ↓mPopAt, ↓mIndex, ↓gSplit, ↓gJoin, List.map_cons, List.map_nil, List.length_cons, List.length_nil, List.length_map, List.cons_append, List.nil_append, Nat.reduceAdd, Nat.reduceSub, List.getElem?_cons_zero, List.getElem?_cons_succ, List.getElem?_map, Option.map_some, List.set_cons_zero, List.set_cons_succ, isNon, seqOf, listOf, atI_nn, atI_0, atI_1, atI_2, atI_3, encNet, encSt, encRow, encR, encO, encP, nats, encT, Od.raw, if_true, if_false, ite_true, ite_false, Bool.false_eq_true, Bool.true_eq_false, Bool.not_true, Bool.not_false, decide_true, decide_false, reduceIte, eq_self, and_true, true_and, sn_set_put, sn_set_take, sn_set_add, sn_put_set, sn_put_take, sn_put_add, sn_take_set, sn_take_put, sn_take_add, sn_add_set, sn_add_put, sn_add_take, show (0 : Int) < 3 by decide, decide_eq_true h]; exact hq) ?_
    have e1 := Int.emod_nonneg (r / 3) (b := (xs.length : Int) + 1) (by omega)
    have e2 := Int.emod_lt_of_pos (r / 3) dl
    show eM mInsert _ _ _ _ _ _
    simp only [↓eVar, ↓eC, ↓eBin, ↓eUn, ↓eB, ↓eTup, ↓eLst, ↓eAnd, ↓eOr, ↓eNot, ↓eIf, ↓eChain, ↓eSlice, ↓eM, ↓eStr1, ↓eIsi, ↓oNo, ↓oPart, ↓tst, ↓ftAnd, ↓ftOr, ↓ftNot, ↓ftYes, ↓args, ↓gI, ↓gI0, ↓gSubI, ↓gFdiv, ↓gMod, ↓gPow, ↓gLt, ↓gLe, ↓gGt, ↓gGe, ↓gAdd, ↓gMul, ↓gRep, ↓gIx, ↓gIsN, ↓gNotN, ↓gNeg, ↓gEqN, ↓gIn, ↓gInSeq, ↓gLen, ↓gSlice, ↓gList, ↓gTuple, ↓gMin2, ↓gMax2, ↓gStr, ↓gInt, ↓newL, ↓mAppend, ↓mInsert, ↓mPopAt, ↓mIndex, ↓gSplit, ↓gJoin, List.map_cons, List.map_nil, List.length_cons, List.length_nil, List.length_map, List.cons_append, List.nil_append, Nat.reduceAdd, Nat.reduceSub, List.getElem?_cons_zero, List.getElem?_cons_succ, List.getElem?_map, Option.map_some, List.set_cons_zero, List.set_cons_succ, isNon, seqOf, listOf, atI_nn, atI_0, atI_1, atI_2, atI_3, encNet, encSt, encRow, encR, encO, encP, nats, encT, Od.raw, if_true, if_false, ite_true, ite_false, Bool.false_eq_true, Bool.true_eq_false, Bool.not_true, Bool.not_false, decide_true, decide_false, reduceIte, eq_self, and_true, true_and, sn_set_put, sn_set_take, sn_set_add, sn_put_set, sn_put_take, sn_put_add, sn_take_set, sn_take_put, sn_take_add, sn_add_set, sn_add_put, sn_add_take, hx, d1, dl]
    exact ⟨hz, ⟨e1, by omega⟩, hq _ (by omega)⟩
  · refine st_l0 (M1 := M) (by intro Q E hq; simp only [↓eVar, ↓eC, ↓eBin, ↓eUn, ↓eB, ↓eTup, ↓eLst, ↓eAnd, ↓eOr, ↓eNot, ↓eIf, ↓eChain, ↓eSlice, ↓eM, ↓eStr1, ↓eIsi, ↓oNo, ↓oPart, ↓tst, ↓ftAnd, ↓ftOr, ↓ftNot, ↓ftYes, ↓args, ↓gI, ↓gI0, ↓gSubI, ↓gFdiv, ↓gMod, ↓gPow, ↓gLt, ↓gLe, ↓gGt, ↓gGe, ↓gAdd, ↓gMul, ↓gRep, ↓gIx, ↓gIsN, ↓gNotN, ↓gNeg, ↓gEqN, ↓gIn, ↓gInSeq, ↓gLen, ↓gSlice, ↓gList, ↓gTuple, ↓gMin2, ↓gMax2, ↓gStr, ↓gInt, ↓newL, ↓mAppend, ↓mInsert, ↓mPopAt, ↓mIndex, ↓gSplit, ↓gJoin, List.map_cons, List.map_nil, List.length_cons, List.length_nil, List.length_map, List.cons_append, List.nil_append, Nat.reduceAdd, Nat.reduceSub, List.getElem?_cons_zero, List.getElem?_cons_succ, List.getElem?_map, Option.map_some, List.set_cons_zero, List.set_cons_succ, isNon, seqOf, listOf, atI_nn, atI_0, atI_1, atI_2, atI_3, encNet, encSt, encRow, encR, encO, encP, nats, encT, Od.raw, if_true, if_false, ite_true, ite_false, Bool.false_eq_true, Bool.true_eq_false, Bool.not_true, Bool.not_false, decide_true, decide_false, reduceIte, eq_self, and_true, true_and, sn_set_put, sn_set_take, sn_set_add, sn_put_set, sn_put_take, sn_put_add, sn_take_set, sn_take_put, sn_take_add, sn_add_set, sn_add_put, sn_add_take, show (0 : Int) < 3 by decide, decide_eq_false h]; exact hq) ?_
    show eM mAppend _ _ _ _ _ _
    simp only [↓eVar, ↓eC, ↓eBin, ↓eUn, ↓eB, ↓eTup, ↓eLst, ↓eAnd, ↓eOr, ↓eNot, ↓eIf, ↓eChain, ↓eSlice, ↓eM, ↓eStr1, ↓eIsi, ↓oNo, ↓oPart, ↓tst, ↓ftAnd, ↓ftOr, ↓ftNot, ↓ftYes, ↓args, ↓gI, ↓gI0, ↓gSubI, ↓gFdiv, ↓gMod, ↓gPow, ↓gLt, ↓gLe, ↓gGt, ↓gGe, ↓gAdd, ↓gMul, ↓gRep, ↓gIx, ↓gIsN, ↓gNotN, ↓gNeg, ↓gEqN, ↓gIn, ↓gInSeq, ↓gLen, ↓gSlice, ↓gList, ↓gTuple, ↓gMin2, ↓gMax2, ↓gStr, ↓gInt, ↓newL, ↓mAppend, ↓mInsert, ↓mPopAt, ↓mIndex, ↓gSplit, ↓gJoin, List.map_cons, List.map_nil, List.length_cons, List.length_nil, List.length_map, List.cons_append, List.nil_append, Nat.reduceAdd, Nat.reduceSub, List.getElem?_cons_zero, List.getElem?_cons_succ, List.getElem?_map, Option.map_some, List.set_cons_zero, List.set_cons_succ, isNon, seqOf, listOf, atI_nn, atI_0, atI_1, atI_2, atI_3, encNet, encSt, encRow, encR, encO, encP, nats, encT, Od.raw, if_true, if_false, ite_true, ite_false, Bool.false_eq_true, Bool.true_eq_false, Bool.not_true, Bool.not_false, decide_true, decide_false, reduceIte, eq_self, and_true, true_and, sn_set_put, sn_set_take, sn_set_add, sn_put_set, sn_put_take, sn_put_add, sn_take_set, sn_take_put, sn_take_add, sn_add_set, sn_add_put, sn_add_take, hx]
    refine ⟨hz, ?_⟩
    have := hq xs.length (Nat.le_refl _)
    rw [List.take_length, List.drop_length, List.append_nil] at this
    exact this

/-! ### rows, nets -/
/-- an order that stands well in row w -/
def okOrd (ps : List Pip) (w : Nat) : Od → Prop
  | .set n => n.natAbs < 10 ^ 60
  | .put p => p < ps.length ∧ (ps.getD p ⟨0, 0, 0⟩).ma = w
  | .take p => p < ps.length ∧ (ps.getD p ⟨0, 0, 0⟩).ta = w
  | .add p => p < ps.length ∧ (ps.getD p ⟨0, 0, 0⟩).ta = w
/-- a net as the law makes it -/
structure Made (N : Net) : Prop where
  pos : 0 < N.W
  few : N.W ≤ 20
  fewP : N.P ≤ 60
  short : ∀ row ∈ N.rows, row.length ≤ 200
  pipes : ∀ p ∈ N.pipes, p.ma < N.W ∧ p.ta < N.W ∧ 1 ≤ p.ro ∧ p.ro ≤ 1000
  ords : ∀ (w : Nat) (row : List Od), N.rows[w]? = some row → ∀ o ∈ row, okOrd N.pipes w o
theorem Made.ok {N : Net} (m : Made N) : NetOk N := by
  refine ⟨by have := m.few; omega, by have := m.fewP; omega, fun row h => by have := m.short row h; omega, m.pipes, fun row h o ho p e => ?_⟩
  obtain ⟨w, hw, e2⟩ := List.mem_iff_getElem.mp h
  have := m.ords w row (by rw [List.getElem?_eq_getElem hw, e2]) o ho
  rcases e with e | e | e <;> (subst e; exact this.1)
/-- the store while rows are made -/
def rowsM (rs : List (List Od)) : Sto := rs.map (fun r => r.map encO) ++ [(List.range rs.length).map D.loc]
structure RowsI (ps : List Pip) (W : Nat) (rs : List (List Od)) : Prop where
  len : rs.length = W
  short : ∀ row ∈ rs, row.length ≤ 200
  ords : ∀ (w : Nat) (row : List Od), rs[w]? = some row → ∀ o ∈ row, okOrd ps w o
def G_rows_by : GS := fun ds M Q E => ∃ (cs : List Int) (ps : List Pip) (W : Nat) (even : Bool), ds = [.lst (intL cs), .lst (ps.map encP), .int (W : Int), .bl even] ∧ M = [] ∧ 0 < W ∧ W ≤ 20 ∧ ps.length ≤ 60 ∧ (∀ p ∈ ps, p.ma < W ∧ p.ta < W) ∧ (∀ z ∈ cs, z.natAbs < sml) ∧
  ∀ rs, RowsI ps W rs → Q (.loc W) (rowsM rs)
section
variable {rs : List (List Od)} {ps : List Pip} {W w : Nat}
theorem rowsM_at (h : w < rs.length) : (rowsM rs)[w]? = some ((rs.getD w []).map encO) := by
  unfold rowsM
  rw [List.getElem?_append_left (by simpa using h), List.getElem?_map, getD_of (d := []) h]
  rfl
theorem rowsM_top (h : rs.length = W) : (rowsM rs)[W]? = some ((List.range W).map D.loc) := by
  unfold rowsM
  rw [List.getElem?_append_right (by simp [h]), List.length_map, h, Nat.sub_self]
  rfl
theorem rowsM_set (h : w < rs.length) {r : List Od} : (rowsM rs).set w (r.map encO) = rowsM (rs.set w r) := by
  unfold rowsM
  rw [List.set_append_left _ _ (by simpa using h), List.map_set, List.length_set]
theorem locs_at (h : w < W) : ((List.range W).map D.loc)[w]? = some (.loc w) := by
  rw [List.getElem?_map, List.getElem?_range h]
  rfl
/-- one order put in -/
theorem RowsI.put (I : RowsI ps W rs) (hw : w < W) {o : Od} (ho : okOrd ps w o) (hl : (rs.getD w []).length < 200) (k : Nat) : RowsI ps W (rs.set w ((rs.getD w []).take k ++ [o] ++ (rs.getD w []).drop k)) := by
  have hw2 : w < rs.length := by rw [I.len]; exact hw
  have hr := getD_of (d := []) hw2
  have hm : rs.getD w [] ∈ rs := List.mem_of_getElem? hr
  refine ⟨by rw [List.length_set]; exact I.len, fun row h => ?_, fun v row h o' ho' => ?_⟩
  · rcases List.mem_or_eq_of_mem_set h with h | h
    · exact I.short row h
    · rw [h]
      simp only [List.length_append, List.length_take, List.length_drop, List.length_cons, List.length_nil]
      omega
  · by_cases hv : w = v
    · subst hv
      rw [List.getElem?_set_self hw2] at h
      cases h
      rcases List.mem_append.mp ho' with z | z
      · rcases List.mem_append.mp z with z | z
        · exact I.ords w _ hr _ (List.mem_of_mem_take z)
        · rw [List.mem_singleton] at z
          rw [z]
          exact ho
      · exact I.ords w _ hr _ (List.mem_of_mem_drop z)
    · rw [List.getElem?_set_ne hv] at h
      exact I.ords v row h o' ho'
theorem map_put {xs : List Od} {o : Od} (k : Nat) : (xs.map encO).take k ++ [encO o] ++ (xs.map encO).drop k = (xs.take k ++ [o] ++ xs.drop k).map encO := by
  rw [List.map_append, List.map_append, List.map_take, List.map_drop]
  rfl
end
end DL
namespace DL
open PySem PySem.Spec PyProof.Rows L2

/-! ### the end of a law -/
def G_law : GS := fun ds M Q E => ∃ ns, ds = [.scr (intL ns)] ∧ M = [] ∧ Cells ns ∧ ∀ M', Q (.bl true) M'
theorem rpL_ints {K : PySem.W.Frag} {io : List Addr} {H : Hp} : ∀ ns : List Int, RpL K io H (intL ns) (ns.map V.int)
  | [] => rfl
  | n :: ns => ⟨.int n, ns.map V.int, rfl, rfl, rpL_ints ns⟩
theorem walk_ofD {l : PySem.W.OpenLaw} {k : Nat} {q : Program} {loose : List Str} {XP : (Str → Option Value) → Heap → Prop} {YP : World → Heap → Prop} {d : DefRec} {x : Str}
    (hn : l.most = some 63) (hdf : d.params.defaults = []) (hr : Room k callerA)
    (F : ∀ (w : World) (mg : Str → Option Value) (fa : Addr) (h : Heap), YP w h → h.Ns mainGlobals mg → mg d.name = some (.ref fa) →
      ∃ (K : PySem.W.Frag) (fd : FuncData), K.In h ∧ (∀ (s : Shared) (u : Value), BindsTo s fd ⟨[u], []⟩ [(x, u)]) ∧
        ∀ base : Heap, K.In base → base.Ns mainGlobals mg → FnOk l.prog w K mg base (L2.CX l.prog w) k fa fd [x] (spD K mg 1 G_law)) :
    PySem.W.WalkO q loose XP YP l.row.toRowW d [] (fun f vs => PySem.call f vs) := by
  refine Att.attach_callB hn hdf fun w s₀ s₁ mg mb fa o pm cd doc a vs ns G Y ho hd hcd hmg hobj hints hlen hbits hg => ?_
  obtain ⟨K, fd, KX, hb, hF⟩ := F w mg fa _ Y G.T.g hmg
  refine law_call KX G.T.g G.T.b G.T.builtins G.T.nolimit hg hobj hints (Nat.le_trans hlen (by decide)) hr hF hb (fun H hO hS => ?_) fun H e s' h => ?_
  · refine ⟨rfl, H, [], [], [.scr (intL ns)], fun d _ => d = .bl true, fun _ _ => False, ⟨fun _ _ e => e, rfl, List.nodup_nil, fun n a xs h => by cases h⟩, ⟨.ref a, [], rfl, ⟨a, _, rfl, hS, rpL_ints ns⟩, rfl⟩,
      ⟨ns, rfl, rfl, ⟨hlen, fun z hz => bits_sml (hbits z hz)⟩, fun _ => rfl⟩, ?_, ?_⟩
    · intro Hf' io' H' M' v d _ _ rv hd
      subst hd
      exact rv
    · intro Hf' io' H' M' n C _ _ _ h
      exact h.elim
  · obtain ⟨_, _, _, _, _, _, _, _, _, _, _, _, z⟩ := h
    exact z
end DL
namespace DL
open PySem PySem.Spec PyProof.Rows L2

/-- what is walked -/
def Iv (fi : FI) (ds : DS) (M : Sto) (xs : List D) (ok : Sto → Prop) (M1 : Sto) : Prop := ∀ (R : List D → (Sto → Prop) → Sto → Prop) (E : KE), R xs ok M1 → fi ds M R E
section
variable {fi : FI} {g : FG} {b t : FS} {D' : EndsD} {ds : DS} {M M1 : Sto} {xs : List D} {ok : Sto → Prop} {al : Bool} {vs : List Nat} {put : Put} {ft : FT} {e : FE} {i : Nat}
theorem st_for (hi : Iv fi ds M xs ok M1) (h : forW ok g b xs { D' with nx := t D' } ds M1) : sSeq (sFor fi g b) t D' ds M := hi _ _ h
theorem st_lfor (hi : Iv fi ds M xs ok M1) (h : forW ok g b xs D' ds M1) : sFor fi g b D' ds M := hi _ _ h
theorem st_lc (hi : Iv fi ds M xs ok M1) (hl : xs.length ≤ sizeLine) (h : lcW ok vs put ft e xs [] ds M1 (fun acc M2 => newL al acc M2 (fun d M3 => t D' (ds.set i (some d)) M3))) : sSeq (sSet i (eLc al fi vs put ft e)) t D' ds M := hi _ _ ⟨hl, h⟩
theorem ev_lc {acc : List D} {M2 M3 : Sto} {d : D} (hi : Iv fi ds M xs ok M1) (hl : xs.length ≤ sizeLine) (h : ∀ Q : List D → Sto → Prop, Q acc M2 → lcW ok vs put ft e xs [] ds M1 Q) (hn : ∀ Q : KQ, Q d M3 → newL al acc M2 Q) : Ev (eLc al fi vs put ft e) ds M d M3 := fun Q E q => hi _ _ ⟨hl, h _ (hn Q q)⟩
end
theorem lc_new {vs : List Nat} {i : Nat} {ds : DS} {Q : List D → Sto → Prop} : ∀ (L acc : List D) (M : Sto), Q (acc ++ (List.range L.length).map fun j => D.loc (M.length + j)) (M ++ List.replicate L.length []) → lcW okAny vs (putNm i) ftYes (eLst true []) L acc ds M Q
  | [], acc, M, h => ⟨trivial, by simpa using h⟩
  | d :: L, acc, M, h => by
    refine ⟨trivial, ?_⟩
    show lcW okAny vs (putNm i) ftYes (eLst true []) L (acc ++ [D.loc M.length]) ds (M ++ [[]]) Q
    refine lc_new L _ _ ?_
    have e1 : acc ++ [D.loc M.length] ++ List.map (fun j => D.loc ((M ++ [[]]).length + j)) (List.range L.length) = acc ++ (List.range (d :: L).length).map fun j => D.loc (M.length + j) := by
      rw [List.length_cons, List.range_succ_eq_map, List.map_cons, List.map_map, List.append_assoc]
      congr 1
      show D.loc M.length :: _ = D.loc M.length :: _
      congr 1
      apply List.map_congr_left
      intro j _
      simp [Nat.add_assoc, Nat.add_comm 1 j]
    have e2 : M ++ [[]] ++ List.replicate L.length ([] : List D) = M ++ List.replicate (d :: L).length [] := by
      rw [List.length_cons, List.replicate_succ, List.append_assoc]
      rfl
    rw [e1, e2]
    exact h
theorem rngD_len {lo : Int} {n : Nat} : (rngD lo n).length = n := by unfold rngD; rw [List.length_map, List.length_range]
theorem rngD_get {lo : Int} {n i : Nat} {d : D} (h : (rngD lo n)[i]? = some d) : i < n ∧ d = .int (lo + (i : Int)) := by
  unfold rngD at h
  rw [List.getElem?_map] at h
  by_cases hi : i < n
  · rw [List.getElem?_range hi] at h
    cases h
    exact ⟨hi, rfl⟩
  · rw [List.getElem?_eq_none (by rw [List.length_range]; omega)] at h
    cases h
theorem small62 {n : Nat} (h : n ≤ 1000000000) : -(2 ^ 62) ≤ (n : Int) ∧ (n : Int) < 2 ^ 62 := by
  have : (2 : Int) ^ 62 = 4611686018427387904 := by decide
  omega
theorem small62' {z : Int} (h0 : 0 ≤ z) (h : z ≤ 1000000000) : -(2 ^ 62) ≤ z ∧ z < 2 ^ 62 := by
  have : (2 : Int) ^ 62 = 4611686018427387904 := by decide
  omega
/-- an order put into a row of the store, or not -/
def rowsS (cs : List Int) (ps : List Pip) (W : Nat) (even : Bool) (x4 x6 x7 x8 x9 x10 x11 x12 : Option D) : DS := [some (.lst (intL cs)), some (.lst (ps.map encP)), some (.int (W : Int)), some (.bl even), none, some (.loc W), x6, x7, x8, x9, x10, x11, x12]
/-- the slots within the innermost loop -/
def rowsL (cs : List Int) (ps : List Pip) (W : Nat) (even : Bool) (z r : Int) (p mk tk : Nat) (x : Option D) : DS := [some (.lst (intL cs)), some (.lst (ps.map encP)), some (.int (W : Int)), some (.bl even), none, some (.loc W), some (.int z), some (.int (z % 7)), some (.int r), some (.int (p : Int)), some (.loc mk), some (.loc tk), x]
theorem rows_cond {cs : List Int} {ps : List Pip} {W : Nat} {even : Bool} {z r : Int} {p mk tk : Nat} {x : Option D} {M : Sto} {xs ys : List Od} {c k : Int} (h1 : M[mk]? = some (xs.map encO)) (h2 : M[tk]? = some (ys.map encO)) (hc : c ≤ 200) :
    ∃ b, Tv (ftAnd (tst (eBin gLt (eB gLen [(eVar 10)]) (eC (.int c)))) (ftAnd (tst (eBin gLt (eB gLen [(eVar 11)]) (eC (.int 199)))) (ftOr (tst (eBin (gEqN true) (eVar 7) (eC (.int k)))) (tst (eVar 3))))) (rowsL cs ps W even z r p mk tk x) M b M ∧ (b = true → xs.length < 200 ∧ ys.length < 200) := by
  unfold rowsL
  by_cases a1 : ((xs.length : Nat) : Int) < c
  · by_cases a2 : ((ys.length : Nat) : Int) < 199
    · by_cases a3 : z % 7 = k
      · exact ⟨even, by intro Q E hq; simp only [↓eVar, ↓eC, ↓eBin, ↓eUn, ↓eB, ↓eTup, ↓eLst, ↓eAnd, ↓eOr, ↓eNot, ↓eIf, ↓eChain, ↓eSlice, ↓eM, ↓eStr1, ↓eIsi, ↓oNo, ↓oPart, ↓tst, ↓ftAnd, ↓ftOr, ↓ftNot, ↓ftYes, ↓args, ↓gI, ↓gI0, ↓gSubI, ↓gFdiv, ↓gMod, ↓gPow, ↓gLt, ↓gLe, ↓gGt, ↓gGe, ↓gAdd, ↓gMul, ↓gRep, ↓gIx, ↓gIsN, ↓gNotN, ↓gNeg, ↓gEqN, ↓gIn, ↓gInSeq, ↓gLen, ↓gSlice, ↓gList, ↓gTuple, ↓gMin2, ↓gMax2, ↓gStr, ↓gInt, ↓newL, ↓mAppend, ↓mInsert, ↓mPopAt, ↓mIndex, ↓gSplit, ↓gJoin, List.map_cons, List.map_nil, List.length_cons, List.length_nil, List.length_map, List.cons_append, List.nil_append, Nat.reduceAdd, Nat.reduceSub, List.getElem?_cons_zero, List.getElem?_cons_succ, List.getElem?_map, Option.map_some, List.set_cons_zero, List.set_cons_succ, isNon, seqOf, listOf, atI_nn, atI_0, atI_1, atI_2, atI_3, encNet, encSt, encRow, encR, encO, encP, nats, encT, Od.raw, if_true, if_false, ite_true, ite_false, Bool.false_eq_true, Bool.true_eq_false, Bool.not_true, Bool.not_false, decide_true, decide_false, reduceIte, eq_self, and_true, true_and, sn_set_put, sn_set_take, sn_set_add, sn_put_set, sn_put_take, sn_put_add, sn_take_set, sn_take_put, sn_take_add, sn_add_set, sn_add_put, sn_add_take, h1, h2, decide_eq_true a1, decide_eq_true a2, decide_eq_true a3]; exact hq, fun _ => by omega⟩
      · exact ⟨true, by intro Q E hq; simp only [↓eVar, ↓eC, ↓eBin, ↓eUn, ↓eB, ↓eTup, ↓eLst, ↓eAnd, ↓eOr, ↓eNot, ↓eIf, ↓eChain, ↓eSlice, ↓eM, ↓eStr1, ↓eIsi, ↓oNo, ↓oPart, ↓tst, ↓ftAnd, ↓ftOr, ↓ftNot, ↓ftYes, ↓args, ↓gI, ↓gI0, ↓gSubI, ↓gFdiv, ↓gMod, ↓gPow, ↓gLt, ↓gLe, ↓gGt, ↓gGe, ↓gAdd, ↓gMul, ↓gRep, ↓gIx, ↓gIsN, ↓gNotN, ↓gNeg, ↓gEqN, ↓gIn, ↓gInSeq, ↓gLen, ↓gSlice, ↓gList, ↓gTuple, ↓gMin2, ↓gMax2, ↓gStr, ↓gInt, ↓newL, ↓mAppend, ↓mInsert, ↓mPopAt, ↓mIndex, ↓gSplit, ↓gJoin, List.map_cons, List.map_nil, List.length_cons, List.length_nil, List.length_map, List.cons_append, List.nil_append, Nat.reduceAdd, Nat.reduceSub, List.getElem?_cons_zero, List.getElem?_cons_succ, List.getElem?_map, Option.map_some, List.set_cons_zero, List.set_cons_succ, isNon, seqOf, listOf, atI_nn, atI_0, atI_1, atI_2, atI_3, encNet, encSt, encRow, encR, encO, encP, nats, encT, Od.raw, if_true, if_false, ite_true, ite_false, Bool.false_eq_true, Bool.true_eq_false, Bool.not_true, Bool.not_false, decide_true, decide_false, reduceIte, eq_self, and_true, true_and, sn_set_put, sn_set_take, sn_set_add, sn_put_set, sn_put_take, sn_put_add, sn_take_set, sn_take_put, sn_take_add, sn_add_set, sn_add_put, sn_add_take, h1, h2, decide_eq_true a1, decide_eq_true a2, decide_eq_false a3]; exact hq, fun _ => by omega⟩
    · exact ⟨false, by intro Q E hq; simp only [↓eVar, ↓eC, ↓eBin, ↓eUn, ↓eB, ↓eTup, ↓eLst, ↓eAnd, ↓eOr, ↓eNot, ↓eIf, ↓eChain, ↓eSlice, ↓eM, ↓eStr1, ↓eIsi, ↓oNo, ↓oPart, ↓tst, ↓ftAnd, ↓ftOr, ↓ftNot, ↓ftYes, ↓args, ↓gI, ↓gI0, ↓gSubI, ↓gFdiv, ↓gMod, ↓gPow, ↓gLt, ↓gLe, ↓gGt, ↓gGe, ↓gAdd, ↓gMul, ↓gRep, ↓gIx, ↓gIsN, ↓gNotN, ↓gNeg, ↓gEqN, ↓gIn, ↓gInSeq, ↓gLen, ↓gSlice, ↓gList, ↓gTuple, ↓gMin2, ↓gMax2, ↓gStr, ↓gInt, ↓newL, ↓mAppend, ↓mInsert, ↓mPopAt, ↓mIndex, ↓gSplit, ↓gJoin, List.map_cons, List.map_nil, List.length_cons, List.length_nil, List.length_map, List.cons_append, List.nil_append, Nat.reduceAdd, Nat.reduceSub, List.getElem?_cons_zero, List.getElem?_cons_succ, List.getElem?_map, Option.map_some, List.set_cons_zero, List.set_cons_succ, isNon, seqOf, listOf, atI_nn, atI_0, atI_1, atI_2, atI_3, encNet, encSt, encRow, encR, encO, encP, nats, encT, Od.raw, if_true, if_false, ite_true, ite_false, Bool.false_eq_true, Bool.true_eq_false, Bool.not_true, Bool.not_false, decide_true, decide_false, reduceIte, eq_self, and_true, true_and, sn_set_put, sn_set_take, sn_set_add, sn_put_set, sn_put_take, sn_put_add, sn_take_set, sn_take_put, sn_take_add, sn_add_set, sn_add_put, sn_add_take, h1, h2, decide_eq_true a1, decide_eq_false a2]; exact hq, nofun⟩
  · exact ⟨false, by intro Q E hq; simp only [↓eVar, ↓eC, ↓eBin, ↓eUn, ↓eB, ↓eTup, ↓eLst, ↓eAnd, ↓eOr, ↓eNot, ↓eIf, ↓eChain, ↓eSlice, ↓eM, ↓eStr1, ↓eIsi, ↓oNo, ↓oPart, ↓tst, ↓ftAnd, ↓ftOr, ↓ftNot, ↓ftYes, ↓args, ↓gI, ↓gI0, ↓gSubI, ↓gFdiv, ↓gMod, ↓gPow, ↓gLt, ↓gLe, ↓gGt, ↓gGe, ↓gAdd, ↓gMul, ↓gRep, ↓gIx, ↓gIsN, ↓gNotN, ↓gNeg, ↓gEqN, ↓gIn, ↓gInSeq, ↓gLen, ↓gSlice, ↓gList, ↓gTuple, ↓gMin2, ↓gMax2, ↓gStr, ↓gInt, ↓newL, ↓mAppend, ↓mInsert, ↓mPopAt, ↓mIndex, ↓gSplit, ↓gJoin, List.map_cons, List.map_nil, List.length_cons, List.length_nil, List.length_map, List.cons_append, List.nil_append, Nat.reduceAdd, Nat.reduceSub, List.getElem?_cons_zero, List.getElem?_cons_succ, List.getElem?_map, Option.map_some, List.set_cons_zero, List.set_cons_succ, isNon, seqOf, listOf, atI_nn, atI_0, atI_1, atI_2, atI_3, encNet, encSt, encRow, encR, encO, encP, nats, encT, Od.raw, if_true, if_false, ite_true, ite_false, Bool.false_eq_true, Bool.true_eq_false, Bool.not_true, Bool.not_false, decide_true, decide_false, reduceIte, eq_self, and_true, true_and, sn_set_put, sn_set_take, sn_set_add, sn_put_set, sn_put_take, sn_put_add, sn_take_set, sn_take_put, sn_take_add, sn_add_set, sn_add_put, sn_add_take, h1, h2, decide_eq_false a1]; exact hq, nofun⟩
theorem rows_put {ps : List Pip} {W : Nat} {rs : List (List Od)} {w : Nat} {o : Od} {r : Int} (I : RowsI ps W rs) (hw : w < W) (ho : okOrd ps w o) (hl : (rs.getD w []).length < 200) (Q : KQ) (E : KE) (h : ∀ rs', RowsI ps W rs' → Q .non (rowsM rs')) : G_put_in [.loc w, encO o, .int r] (rowsM rs) Q E := by
  have hr : w < rs.length := by rw [I.len]; exact hw
  refine ⟨w, encO o, r, (rs.getD w []).map encO, rfl, rowsM_at hr, by rw [List.length_map]; omega, fun k _ => ?_⟩
  rw [map_put, rowsM_set hr]
  exact h _ (I.put hw ho hl k)
theorem rows_turn {cs : List Int} {ps : List Pip} {W : Nat} {even : Bool} {z r : Int} {p mk tk : Nat} {x : Option D} {rs : List (List Od)} {k k2 : Int} {D' : EndsD} (I : RowsI ps W rs) (hp : p < ps.length) (hm : (ps.getD p ⟨0, 0, 0⟩).ma = mk) (ht : (ps.getD p ⟨0, 0, 0⟩).ta = tk) (hmW : mk < W) (htW : tk < W)
    (hnx : ∀ rs', RowsI ps W rs' → D'.nx (rowsL cs ps W even z r p mk tk x) (rowsM rs')) :
    sSeq (sIf (ftAnd (tst (eBin gLt (eB gLen [(eVar 10)]) (eC (.int 199)))) (ftAnd (tst (eBin gLt (eB gLen [(eVar 11)]) (eC (.int 199)))) (ftOr (tst (eBin (gEqN true) (eVar 7) (eC (.int k)))) (tst (eVar 3))))) (sDrop (eCall G_put_in [(eVar 10), (eTup [(eC (.str "put")), (eVar 9)]), (eBin gFdiv (eVar 8) (eC (.int 2)))])) sNext)
    (sIf (ftAnd (tst (eBin gLt (eB gLen [(eVar 10)]) (eC (.int 200)))) (ftAnd (tst (eBin gLt (eB gLen [(eVar 11)]) (eC (.int 199)))) (ftOr (tst (eBin (gEqN true) (eVar 7) (eC (.int k2)))) (tst (eVar 3))))) (sDrop (eCall G_put_in [(eVar 11), (eTup [(eBin gIx (eLst false [(eC (.str "take")), (eC (.str "add"))]) (eBin gMod (eVar 8) (eC (.int 2)))), (eVar 9)]), (eBin gFdiv (eVar 8) (eC (.int 6)))])) sNext) D' (rowsL cs ps W even z r p mk tk x) (rowsM rs) := by
  have d2 := dv r (k := 2) (by decide) (by decide)
  have d6 := dv r (k := 6) (by decide) (by decide)
  refine seq_cut (fun ds M => ∃ rs', RowsI ps W rs' ∧ ds = rowsL cs ps W even z r p mk tk x ∧ M = rowsM rs') ?_ ?_
  · intro nx h
    obtain ⟨b, hb, hl⟩ := rows_cond (cs := cs) (ps := ps) (W := W) (even := even) (z := z) (r := r) (p := p) (x := x) (c := 199) (k := k) (rowsM_at (by rw [I.len]; exact hmW)) (rowsM_at (by rw [I.len]; exact htW)) (by decide)
    cases b with
    | false => exact st_l0 hb (h _ _ ⟨rs, I, rfl, rfl⟩)
    | true =>
      refine st_l1 hb ?_
      show eCall _ _ _ _ _ _
      unfold rowsL
      simp only [↓eVar, ↓eC, ↓eBin, ↓eUn, ↓eB, ↓eTup, ↓eLst, ↓eAnd, ↓eOr, ↓eNot, ↓eIf, ↓eChain, ↓eSlice, ↓eM, ↓eStr1, ↓eIsi, ↓oNo, ↓oPart, ↓tst, ↓ftAnd, ↓ftOr, ↓ftNot, ↓ftYes, ↓args, ↓gI, ↓gI0, ↓gSubI, ↓gFdiv, ↓gMod, ↓gPow, ↓gLt, ↓gLe, ↓gGt, ↓gGe, ↓gAdd, ↓gMul, ↓gRep, ↓gIx, ↓gIsN, ↓gNotN, ↓gNeg, ↓gEqN, ↓gIn, ↓gInSeq, ↓gLen, ↓gSlice, ↓gList, ↓gTuple, ↓gMin2, ↓gMax2, ↓gStr, ↓gInt, ↓newL, ↓mAppend, ↓mInsert, ↓mPopAt, ↓mIndex, ↓gSplit, ↓gJoin, List.map_cons, List.map_nil, List.length_cons, List.length_nil, List.length_map, List.cons_append, List.nil_append, Nat.reduceAdd, Nat.reduceSub, List.getElem?_cons_zero, List.getElem?_cons_succ, List.getElem?_map, Option.map_some, List.set_cons_zero, List.set_cons_succ, isNon, seqOf, listOf, atI_nn, atI_0, atI_1, atI_2, atI_3, encNet, encSt, encRow, encR, encO, encP, nats, encT, Od.raw, if_true, if_false, ite_true, ite_false, Bool.false_eq_true, Bool.true_eq_false, Bool.not_true, Bool.not_false, decide_true, decide_false, reduceIte, eq_self, and_true, true_and, sn_set_put, sn_set_take, sn_set_add, sn_put_set, sn_put_take, sn_put_add, sn_take_set, sn_take_put, sn_take_add, sn_add_set, sn_add_put, sn_add_take, ↓eCall, d2]
      exact rows_put (o := .put p) I hmW ⟨hp, hm⟩ (hl rfl).1 _ _ fun rs' I' => h _ _ ⟨rs', I', rfl, rfl⟩
  · rintro _ _ ⟨rs', I', rfl, rfl⟩
    obtain ⟨b, hb, hl⟩ := rows_cond (cs := cs) (ps := ps) (W := W) (even := even) (z := z) (r := r) (p := p) (x := x) (c := 200) (k := k2) (rowsM_at (by rw [I'.len]; exact hmW)) (rowsM_at (by rw [I'.len]; exact htW)) (by decide)
    cases b with
    | false => exact st_l0 hb (hnx _ I')
    | true =>
      refine st_l1 hb ?_
      show eCall _ _ _ _ _ _
      unfold rowsL
      rcases (by omega : r % 2 = 0 ∨ r % 2 = 1) with e | e
      · simp only [↓eVar, ↓eC, ↓eBin, ↓eUn, ↓eB, ↓eTup, ↓eLst, ↓eAnd, ↓eOr, ↓eNot, ↓eIf, ↓eChain, ↓eSlice, ↓eM, ↓eStr1, ↓eIsi, ↓oNo, ↓oPart, ↓tst, ↓ftAnd, ↓ftOr, ↓ftNot, ↓ftYes, ↓args, ↓gI, ↓gI0, ↓gSubI, ↓gFdiv, ↓gMod, ↓gPow, ↓gLt, ↓gLe, ↓gGt, ↓gGe, ↓gAdd, ↓gMul, ↓gRep, ↓gIx, ↓gIsN, ↓gNotN, ↓gNeg, ↓gEqN, ↓gIn, ↓gInSeq, ↓gLen, ↓gSlice, ↓gList, ↓gTuple, ↓gMin2, ↓gMax2, ↓gStr, ↓gInt, ↓newL, ↓mAppend, ↓mInsert, ↓mPopAt, ↓mIndex, ↓gSplit, ↓gJoin, List.map_cons, List.map_nil, List.length_cons, List.length_nil, List.length_map, List.cons_append, List.nil_append, Nat.reduceAdd, Nat.reduceSub, List.getElem?_cons_zero, List.getElem?_cons_succ, List.getElem?_map, Option.map_some, List.set_cons_zero, List.set_cons_succ, isNon, seqOf, listOf, atI_nn, atI_0, atI_1, atI_2, atI_3, encNet, encSt, encRow, encR, encO, encP, nats, encT, Od.raw, if_true, if_false, ite_true, ite_false, Bool.false_eq_true, Bool.true_eq_false, Bool.not_true, Bool.not_false, decide_true, decide_false, reduceIte, eq_self, and_true, true_and, sn_set_put, sn_set_take, sn_set_add, sn_put_set, sn_put_take, sn_put_add, sn_take_set, sn_take_put, sn_take_add, sn_add_set, sn_add_put, sn_add_take, ↓eCall, d6, show (0 : Int) < 2 by decide, e]
        exact rows_put (o := .take p) I' htW ⟨hp, ht⟩ (hl rfl).2 _ _ fun rs' I' => hnx _ I'
      · simp only [↓eVar, ↓eC, ↓eBin, ↓eUn, ↓eB, ↓eTup, ↓eLst, ↓eAnd, ↓eOr, ↓eNot, ↓eIf, ↓eChain, ↓eSlice, ↓eM, ↓eStr1, ↓eIsi, ↓oNo, ↓oPart, ↓tst, ↓ftAnd, ↓ftOr, ↓ftNot, ↓ftYes, ↓args, ↓gI, ↓gI0, ↓gSubI, ↓gFdiv, ↓gMod, ↓gPow, ↓gLt, ↓gLe, ↓gGt, ↓gGe, ↓gAdd, ↓gMul, ↓gRep, ↓gIx, ↓gIsN, ↓gNotN, ↓gNeg, ↓gEqN, ↓gIn, ↓gInSeq, ↓gLen, ↓gSlice, ↓gList, ↓gTuple, ↓gMin2, ↓gMax2, ↓gStr, ↓gInt, ↓newL, ↓mAppend, ↓mInsert, ↓mPopAt, ↓mIndex, ↓gSplit, ↓gJoin, List.map_cons, List.map_nil, List.length_cons, List.length_nil, List.length_map, List.cons_append, List.nil_append, Nat.reduceAdd, Nat.reduceSub, List.getElem?_cons_zero, List.getElem?_cons_succ, List.getElem?_map, Option.map_some, List.set_cons_zero, List.set_cons_succ, isNon, seqOf, listOf, atI_nn, atI_0, atI_1, atI_2, atI_3, encNet, encSt, encRow, encR, encO, encP, nats, encT, Od.raw, if_true, if_false, ite_true, ite_false, Bool.false_eq_true, Bool.true_eq_false, Bool.not_true, Bool.not_false, decide_true, decide_false, reduceIte, eq_self, and_true, true_and, sn_set_put, sn_set_take, sn_set_add, sn_put_set, sn_put_take, sn_put_add, sn_take_set, sn_take_put, sn_take_add, sn_add_set, sn_add_put, sn_add_take, ↓eCall, d6, show (0 : Int) < 2 by decide, e]
        exact rows_put (o := .add p) I' htW ⟨hp, ht⟩ (hl rfl).2 _ _ fun rs' I' => hnx _ I'
theorem rows_run {cs : List Int} {ps : List Pip} {W : Nat} {even : Bool} {D' : EndsD} (hW : 0 < W) (hW2 : W ≤ 20) (hP : ps.length ≤ 60) (hps : ∀ p ∈ ps, p.ma < W ∧ p.ta < W) (hcs : ∀ z ∈ cs, z.natAbs < sml) (hq : ∀ rs, RowsI ps W rs → D'.rt (.loc W) (rowsM rs)) :
    f_rows_by G_number_by G_put_in D' (startD 13 [.lst (intL cs), .lst (ps.map encP), .int (W : Int), .bl even]) [] := by
  unfold f_rows_by
  simp only [startD, List.map_cons, List.map_nil, List.length_cons, List.length_nil, List.replicate, List.cons_append, List.nil_append, Nat.reduceAdd, Nat.reduceSub]
  have hWi : (0 : Int) < (W : Int) := by omega
  have hs := small62 (n := W) (by omega)
  -- the rows
  refine st_lc (M1 := []) (xs := rngD 0 W) (ok := okAny) (by intro R E hq; simp only [↓iSeqD, ↓iRng1D, ↓iRng2D, ↓iRng3D, ↓iEnumD, ↓iEnumTD, ↓eVar, ↓eC, ↓eBin, ↓eUn, ↓eB, ↓eTup, ↓eLst, ↓eAnd, ↓eOr, ↓eNot, ↓eIf, ↓eChain, ↓eSlice, ↓eM, ↓eStr1, ↓eIsi, ↓oNo, ↓oPart, ↓tst, ↓ftAnd, ↓ftOr, ↓ftNot, ↓ftYes, ↓args, ↓gI, ↓gI0, ↓gSubI, ↓gFdiv, ↓gMod, ↓gPow, ↓gLt, ↓gLe, ↓gGt, ↓gGe, ↓gAdd, ↓gMul, ↓gRep, ↓gIx, ↓gIsN, ↓gNotN, ↓gNeg, ↓gEqN, ↓gIn, ↓gInSeq, ↓gLen, ↓gSlice, ↓gList, ↓gTuple, ↓gMin2, ↓gMax2, ↓gStr, ↓gInt, ↓newL, ↓mAppend, ↓mInsert, ↓mPopAt, ↓mIndex, ↓gSplit, ↓gJoin, List.map_cons, List.map_nil, List.length_cons, List.length_nil, List.length_map, List.cons_append, List.nil_append, Nat.reduceAdd, Nat.reduceSub, List.getElem?_cons_zero, List.getElem?_cons_succ, List.getElem?_map, Option.map_some, List.set_cons_zero, List.set_cons_succ, isNon, seqOf, listOf, atI_nn, atI_0, atI_1, atI_2, atI_3, encNet, encSt, encRow, encR, encO, encP, nats, encT, Od.raw, if_true, if_false, ite_true, ite_false, Bool.false_eq_true, Bool.true_eq_false, Bool.not_true, Bool.not_false, decide_true, decide_false, reduceIte, eq_self, and_true, true_and, sn_set_put, sn_set_take, sn_set_add, sn_put_set, sn_put_take, sn_put_add, sn_take_set, sn_take_put, sn_take_add, sn_add_set, sn_add_put, sn_add_take, hs, Int.toNat_natCast]; exact hq) (by rw [rngD_len]; exact million (by omega)) (lc_new _ _ _ ?_)
  have e0 : newL true ([] ++ (List.range (rngD 0 W).length).map fun j => D.loc (([] : Sto).length + j)) ([] ++ List.replicate (rngD 0 W).length []) = fun Q : KQ => Q (.loc W) (rowsM (List.replicate W [])) := by
    funext Q
    unfold rowsM newL
    rw [rngD_len, List.length_replicate]
    simp
  rw [e0]
  show sSeq _ _ _ (rowsS cs ps W even none none none none none none none none) _
  refine seq_cut (fun ds M => ∃ rs x6 x7 x8 x9 x10 x11 x12, ds = rowsS cs ps W even none x6 x7 x8 x9 x10 x11 x12 ∧ RowsI ps W rs ∧ M = rowsM rs) ?_ (by
    rintro ds M ⟨rs, x6, x7, x8, x9, x10, x11, x12, rfl, I, rfl⟩
    exact st_ret (by intro Q E hq; simp only [↓eVar, ↓eC, ↓eBin, ↓eUn, ↓eB, ↓eTup, ↓eLst, ↓eAnd, ↓eOr, ↓eNot, ↓eIf, ↓eChain, ↓eSlice, ↓eM, ↓eStr1, ↓eIsi, ↓oNo, ↓oPart, ↓tst, ↓ftAnd, ↓ftOr, ↓ftNot, ↓ftYes, ↓args, ↓gI, ↓gI0, ↓gSubI, ↓gFdiv, ↓gMod, ↓gPow, ↓gLt, ↓gLe, ↓gGt, ↓gGe, ↓gAdd, ↓gMul, ↓gRep, ↓gIx, ↓gIsN, ↓gNotN, ↓gNeg, ↓gEqN, ↓gIn, ↓gInSeq, ↓gLen, ↓gSlice, ↓gList, ↓gTuple, ↓gMin2, ↓gMax2, ↓gStr, ↓gInt, ↓newL, ↓mAppend, ↓mInsert, ↓mPopAt, ↓mIndex, ↓gSplit, ↓gJoin, List.map_cons, List.map_nil, List.length_cons, List.length_nil, List.length_map, List.cons_append, List.nil_append, Nat.reduceAdd, Nat.reduceSub, List.getElem?_cons_zero, List.getElem?_cons_succ, List.getElem?_map, Option.map_some, List.set_cons_zero, List.set_cons_succ, isNon, seqOf, listOf, atI_nn, atI_0, atI_1, atI_2, atI_3, encNet, encSt, encRow, encR, encO, encP, nats, encT, Od.raw, if_true, if_false, ite_true, ite_false, Bool.false_eq_true, Bool.true_eq_false, Bool.not_true, Bool.not_false, decide_true, decide_false, reduceIte, eq_self, and_true, true_and, sn_set_put, sn_set_take, sn_set_add, sn_put_set, sn_put_take, sn_put_add, sn_take_set, sn_take_put, sn_take_add, sn_add_set, sn_add_put, sn_add_take, rowsS]; exact hq) (hq rs I))
  intro nx hnx
  refine st_lfor (xs := intL cs) (ok := okAny) (M1 := rowsM (List.replicate W [])) (by intro R E hq; simp only [↓iSeqD, ↓iRng1D, ↓iRng2D, ↓iRng3D, ↓iEnumD, ↓iEnumTD, ↓eVar, ↓eC, ↓eBin, ↓eUn, ↓eB, ↓eTup, ↓eLst, ↓eAnd, ↓eOr, ↓eNot, ↓eIf, ↓eChain, ↓eSlice, ↓eM, ↓eStr1, ↓eIsi, ↓oNo, ↓oPart, ↓tst, ↓ftAnd, ↓ftOr, ↓ftNot, ↓ftYes, ↓args, ↓gI, ↓gI0, ↓gSubI, ↓gFdiv, ↓gMod, ↓gPow, ↓gLt, ↓gLe, ↓gGt, ↓gGe, ↓gAdd, ↓gMul, ↓gRep, ↓gIx, ↓gIsN, ↓gNotN, ↓gNeg, ↓gEqN, ↓gIn, ↓gInSeq, ↓gLen, ↓gSlice, ↓gList, ↓gTuple, ↓gMin2, ↓gMax2, ↓gStr, ↓gInt, ↓newL, ↓mAppend, ↓mInsert, ↓mPopAt, ↓mIndex, ↓gSplit, ↓gJoin, List.map_cons, List.map_nil, List.length_cons, List.length_nil, List.length_map, List.cons_append, List.nil_append, Nat.reduceAdd, Nat.reduceSub, List.getElem?_cons_zero, List.getElem?_cons_succ, List.getElem?_map, Option.map_some, List.set_cons_zero, List.set_cons_succ, isNon, seqOf, listOf, atI_nn, atI_0, atI_1, atI_2, atI_3, encNet, encSt, encRow, encR, encO, encP, nats, encT, Od.raw, if_true, if_false, ite_true, ite_false, Bool.false_eq_true, Bool.true_eq_false, Bool.not_true, Bool.not_false, decide_true, decide_false, reduceIte, eq_self, and_true, true_and, sn_set_put, sn_set_take, sn_set_add, sn_put_set, sn_put_take, sn_put_add, sn_take_set, sn_take_put, sn_take_add, sn_add_set, sn_add_put, sn_add_take, rowsS]; exact hq) ?_
  refine forW_inv (fun i ds M => ∃ rs x6 x7 x8 x9 x10 x11 x12, ds = rowsS cs ps W even none x6 x7 x8 x9 x10 x11 x12 ∧ RowsI ps W rs ∧ M = rowsM rs) ?_ (fun _ _ _ _ _ => trivial) ?_ (fun ds M h => hnx ds M h)
  · refine ⟨_, none, none, none, none, none, none, none, rfl, ⟨by simp, fun row h => ?_, fun w row h o ho => ?_⟩, rfl⟩
    · rw [(List.mem_replicate.mp h).2]
      exact Nat.zero_le _
    · have := List.mem_of_getElem? h
      rw [(List.mem_replicate.mp this).2] at ho
      cases ho
  rintro i d ds M nx hd ⟨rs, x6, x7, x8, x9, x10, x11, x12, rfl, I, rfl⟩ hnx
  have hd2 : ∃ z : Int, cs[i]? = some z ∧ d = .int z := by
    unfold intL at hd
    rw [List.getElem?_map] at hd
    cases e : cs[i]? with
    | none => rw [e] at hd; cases hd
    | some z => rw [e] at hd; cases hd; exact ⟨z, rfl, rfl⟩
  obtain ⟨z, hz, rfl⟩ := hd2
  have hzb := hcs z (List.mem_of_getElem? hz)
  unfold gNm rowsS
  have d7 := dv z (k := 7) (by decide) (by decide)
  have dW := dv (z / 7) (k := (W : Int)) (by omega) (by omega)
  refine st_set (M1 := rowsM rs) (by intro Q E hq; simp only [↓eVar, ↓eC, ↓eBin, ↓eUn, ↓eB, ↓eTup, ↓eLst, ↓eAnd, ↓eOr, ↓eNot, ↓eIf, ↓eChain, ↓eSlice, ↓eM, ↓eStr1, ↓eIsi, ↓oNo, ↓oPart, ↓tst, ↓ftAnd, ↓ftOr, ↓ftNot, ↓ftYes, ↓args, ↓gI, ↓gI0, ↓gSubI, ↓gFdiv, ↓gMod, ↓gPow, ↓gLt, ↓gLe, ↓gGt, ↓gGe, ↓gAdd, ↓gMul, ↓gRep, ↓gIx, ↓gIsN, ↓gNotN, ↓gNeg, ↓gEqN, ↓gIn, ↓gInSeq, ↓gLen, ↓gSlice, ↓gList, ↓gTuple, ↓gMin2, ↓gMax2, ↓gStr, ↓gInt, ↓newL, ↓mAppend, ↓mInsert, ↓mPopAt, ↓mIndex, ↓gSplit, ↓gJoin, List.map_cons, List.map_nil, List.length_cons, List.length_nil, List.length_map, List.cons_append, List.nil_append, Nat.reduceAdd, Nat.reduceSub, List.getElem?_cons_zero, List.getElem?_cons_succ, List.getElem?_map, Option.map_some, List.set_cons_zero, List.set_cons_succ, isNon, seqOf, listOf, atI_nn, atI_0, atI_1, atI_2, atI_3, encNet, encSt, encRow, encR, encO, encP, nats, encT, Od.raw, if_true, if_false, ite_true, ite_false, Bool.false_eq_true, Bool.true_eq_false, Bool.not_true, Bool.not_false, decide_true, decide_false, reduceIte, eq_self, and_true, true_and, sn_set_put, sn_set_take, sn_set_add, sn_put_set, sn_put_take, sn_put_add, sn_take_set, sn_take_put, sn_take_add, sn_add_set, sn_add_put, sn_add_take, show (0 : Int) < 7 by decide]; exact hq) (st_set (M1 := rowsM rs) (by intro Q E hq; simp only [↓eVar, ↓eC, ↓eBin, ↓eUn, ↓eB, ↓eTup, ↓eLst, ↓eAnd, ↓eOr, ↓eNot, ↓eIf, ↓eChain, ↓eSlice, ↓eM, ↓eStr1, ↓eIsi, ↓oNo, ↓oPart, ↓tst, ↓ftAnd, ↓ftOr, ↓ftNot, ↓ftYes, ↓args, ↓gI, ↓gI0, ↓gSubI, ↓gFdiv, ↓gMod, ↓gPow, ↓gLt, ↓gLe, ↓gGt, ↓gGe, ↓gAdd, ↓gMul, ↓gRep, ↓gIx, ↓gIsN, ↓gNotN, ↓gNeg, ↓gEqN, ↓gIn, ↓gInSeq, ↓gLen, ↓gSlice, ↓gList, ↓gTuple, ↓gMin2, ↓gMax2, ↓gStr, ↓gInt, ↓newL, ↓mAppend, ↓mInsert, ↓mPopAt, ↓mIndex, ↓gSplit, ↓gJoin, List.map_cons, List.map_nil, List.length_cons, List.length_nil, List.length_map, List.cons_append, List.nil_append, Nat.reduceAdd, Nat.reduceSub, List.getElem?_cons_zero, List.getElem?_cons_succ, List.getElem?_map, Option.map_some, List.set_cons_zero, List.set_cons_succ, isNon, seqOf, listOf, atI_nn, atI_0, atI_1, atI_2, atI_3, encNet, encSt, encRow, encR, encO, encP, nats, encT, Od.raw, if_true, if_false, ite_true, ite_false, Bool.false_eq_true, Bool.true_eq_false, Bool.not_true, Bool.not_false, decide_true, decide_false, reduceIte, eq_self, and_true, true_and, sn_set_put, sn_set_take, sn_set_add, sn_put_set, sn_put_take, sn_put_add, sn_take_set, sn_take_put, sn_take_add, sn_add_set, sn_add_put, sn_add_take, d7]; exact hq) ?_)
  -- a set, or orders at a pipe
  by_cases hset : z % 7 = 6 ∨ ps.length = 0
  · have cond : Tv (ftOr (tst (eBin (gEqN false) (eVar 7) (eC (.int 6)))) (tst (eBin (gEqN false) (eB gLen [(eVar 1)]) (eC (.int 0)))))
        ((([some (.lst (intL cs)), some (.lst (ps.map encP)), some (.int (W : Int)), some (.bl even), none, some (.loc W), x6, x7, x8, x9, x10, x11, x12].set 6 (some (D.int z))).set 7 (some (D.int (z % 7)))).set 8 (some (D.int (z / 7)))) (rowsM rs) true (rowsM rs) := by
      by_cases h6 : z % 7 = 6
      · exact (by intro Q E hq; simp only [↓eVar, ↓eC, ↓eBin, ↓eUn, ↓eB, ↓eTup, ↓eLst, ↓eAnd, ↓eOr, ↓eNot, ↓eIf, ↓eChain, ↓eSlice, ↓eM, ↓eStr1, ↓eIsi, ↓oNo, ↓oPart, ↓tst, ↓ftAnd, ↓ftOr, ↓ftNot, ↓ftYes, ↓args, ↓gI, ↓gI0, ↓gSubI, ↓gFdiv, ↓gMod, ↓gPow, ↓gLt, ↓gLe, ↓gGt, ↓gGe, ↓gAdd, ↓gMul, ↓gRep, ↓gIx, ↓gIsN, ↓gNotN, ↓gNeg, ↓gEqN, ↓gIn, ↓gInSeq, ↓gLen, ↓gSlice, ↓gList, ↓gTuple, ↓gMin2, ↓gMax2, ↓gStr, ↓gInt, ↓newL, ↓mAppend, ↓mInsert, ↓mPopAt, ↓mIndex, ↓gSplit, ↓gJoin, List.map_cons, List.map_nil, List.length_cons, List.length_nil, List.length_map, List.cons_append, List.nil_append, Nat.reduceAdd, Nat.reduceSub, List.getElem?_cons_zero, List.getElem?_cons_succ, List.getElem?_map, Option.map_some, List.set_cons_zero, List.set_cons_succ, isNon, seqOf, listOf, atI_nn, atI_0, atI_1, atI_2, atI_3, encNet, encSt, encRow, encR, encO, encP, nats, encT, Od.raw, if_true, if_false, ite_true, ite_false, Bool.false_eq_true, Bool.true_eq_false, Bool.not_true, Bool.not_false, decide_true, decide_false, reduceIte, eq_self, and_true, true_and, sn_set_put, sn_set_take, sn_set_add, sn_put_set, sn_put_take, sn_put_add, sn_take_set, sn_take_put, sn_take_add, sn_add_set, sn_add_put, sn_add_take, decide_eq_true h6]; exact hq)
      · have hz0 : ((ps.length : Nat) : Int) = 0 := by
          rcases hset with h | h
          · exact absurd h h6
          · omega
        exact (by intro Q E hq; simp only [↓eVar, ↓eC, ↓eBin, ↓eUn, ↓eB, ↓eTup, ↓eLst, ↓eAnd, ↓eOr, ↓eNot, ↓eIf, ↓eChain, ↓eSlice, ↓eM, ↓eStr1, ↓eIsi, ↓oNo, ↓oPart, ↓tst, ↓ftAnd, ↓ftOr, ↓ftNot, ↓ftYes, ↓args, ↓gI, ↓gI0, ↓gSubI, ↓gFdiv, ↓gMod, ↓gPow, ↓gLt, ↓gLe, ↓gGt, ↓gGe, ↓gAdd, ↓gMul, ↓gRep, ↓gIx, ↓gIsN, ↓gNotN, ↓gNeg, ↓gEqN, ↓gIn, ↓gInSeq, ↓gLen, ↓gSlice, ↓gList, ↓gTuple, ↓gMin2, ↓gMax2, ↓gStr, ↓gInt, ↓newL, ↓mAppend, ↓mInsert, ↓mPopAt, ↓mIndex, ↓gSplit, ↓gJoin, List.map_cons, List.map_nil, List.length_cons, List.length_nil, List.length_map, List.cons_append, List.nil_append, Nat.reduceAdd, Nat.reduceSub, List.getElem?_cons_zero, List.getElem?_cons_succ, List.getElem?_map, Option.map_some, List.set_cons_zero, List.set_cons_succ, isNon, seqOf, listOf, atI_nn, atI_0, atI_1, atI_2, atI_3, encNet, encSt, encRow, encR, encO, encP, nats, encT, Od.raw, if_true, if_false, ite_true, ite_false, Bool.false_eq_true, Bool.true_eq_false, Bool.not_true, Bool.not_false, decide_true, decide_false, reduceIte, eq_self, and_true, true_and, sn_set_put, sn_set_take, sn_set_add, sn_put_set, sn_put_take, sn_put_add, sn_take_set, sn_take_put, sn_take_add, sn_add_set, sn_add_put, sn_add_take, decide_eq_false h6, decide_eq_true hz0]; exact hq)
    refine st_if1 cond ?_
    obtain ⟨v, hv⟩ : ∃ v : Nat, z / 7 % (W : Int) = v := ⟨(z / 7 % (W : Int)).toNat, by have := Int.emod_nonneg (z / 7) (b := (W : Int)) (by omega); omega⟩
    have hvW : v < W := by have := Int.emod_lt_of_pos (z / 7) hWi; omega
    have hvr : v < rs.length := by rw [I.len]; exact hvW
    have a1 := rowsM_top I.len
    have a2 := locs_at hvW
    have a3 := rowsM_at hvr
    refine st_seq3 ?_
    by_cases hl : (rs.getD v []).length < 199
    · have hl2 : (((rs.getD v []).length : Nat) : Int) < 199 := by omega
      refine st_if1 (M1 := rowsM rs) (by intro Q E hq; simp only [↓eVar, ↓eC, ↓eBin, ↓eUn, ↓eB, ↓eTup, ↓eLst, ↓eAnd, ↓eOr, ↓eNot, ↓eIf, ↓eChain, ↓eSlice, ↓eM, ↓eStr1, ↓eIsi, ↓oNo, ↓oPart, ↓tst, ↓ftAnd, ↓ftOr, ↓ftNot, ↓ftYes, ↓args, ↓gI, ↓gI0, ↓gSubI, ↓gFdiv, ↓gMod, ↓gPow, ↓gLt, ↓gLe, ↓gGt, ↓gGe, ↓gAdd, ↓gMul, ↓gRep, ↓gIx, ↓gIsN, ↓gNotN, ↓gNeg, ↓gEqN, ↓gIn, ↓gInSeq, ↓gLen, ↓gSlice, ↓gList, ↓gTuple, ↓gMin2, ↓gMax2, ↓gStr, ↓gInt, ↓newL, ↓mAppend, ↓mInsert, ↓mPopAt, ↓mIndex, ↓gSplit, ↓gJoin, List.map_cons, List.map_nil, List.length_cons, List.length_nil, List.length_map, List.cons_append, List.nil_append, Nat.reduceAdd, Nat.reduceSub, List.getElem?_cons_zero, List.getElem?_cons_succ, List.getElem?_map, Option.map_some, List.set_cons_zero, List.set_cons_succ, isNon, seqOf, listOf, atI_nn, atI_0, atI_1, atI_2, atI_3, encNet, encSt, encRow, encR, encO, encP, nats, encT, Od.raw, if_true, if_false, ite_true, ite_false, Bool.false_eq_true, Bool.true_eq_false, Bool.not_true, Bool.not_false, decide_true, decide_false, reduceIte, eq_self, and_true, true_and, sn_set_put, sn_set_take, sn_set_add, sn_put_set, sn_put_take, sn_put_add, sn_take_set, sn_take_put, sn_take_add, sn_add_set, sn_add_put, sn_add_take, hWi, hv, a1, a2, a3, decide_eq_true hl2]; exact hq) ?_
      show eM mAppend _ _ _ _ _ _
      simp only [↓eVar, ↓eC, ↓eBin, ↓eUn, ↓eB, ↓eTup, ↓eLst, ↓eAnd, ↓eOr, ↓eNot, ↓eIf, ↓eChain, ↓eSlice, ↓eM, ↓eStr1, ↓eIsi, ↓oNo, ↓oPart, ↓tst, ↓ftAnd, ↓ftOr, ↓ftNot, ↓ftYes, ↓args, ↓gI, ↓gI0, ↓gSubI, ↓gFdiv, ↓gMod, ↓gPow, ↓gLt, ↓gLe, ↓gGt, ↓gGe, ↓gAdd, ↓gMul, ↓gRep, ↓gIx, ↓gIsN, ↓gNotN, ↓gNeg, ↓gEqN, ↓gIn, ↓gInSeq, ↓gLen, ↓gSlice, ↓gList, ↓gTuple, ↓gMin2, ↓gMax2, ↓gStr, ↓gInt, ↓newL, ↓mAppend, ↓mInsert, ↓mPopAt, ↓mIndex, ↓gSplit, ↓gJoin, List.map_cons, List.map_nil, List.length_cons, List.length_nil, List.length_map, List.cons_append, List.nil_append, Nat.reduceAdd, Nat.reduceSub, List.getElem?_cons_zero, List.getElem?_cons_succ, List.getElem?_map, Option.map_some, List.set_cons_zero, List.set_cons_succ, isNon, seqOf, listOf, atI_nn, atI_0, atI_1, atI_2, atI_3, encNet, encSt, encRow, encR, encO, encP, nats, encT, Od.raw, if_true, if_false, ite_true, ite_false, Bool.false_eq_true, Bool.true_eq_false, Bool.not_true, Bool.not_false, decide_true, decide_false, reduceIte, eq_self, and_true, true_and, sn_set_put, sn_set_take, sn_set_add, sn_put_set, sn_put_take, sn_put_add, sn_take_set, sn_take_put, sn_take_add, sn_add_set, sn_add_put, sn_add_take, hWi, hv, a1, a2, a3, dW, ↓eCall]
      refine ⟨_, rfl, ?_, fun y hy => ?_⟩
      · have h1 := div_abs (x := z) (k := 7) (by decide)
        have h2 := div_abs (x := z / 7) (k := (W : Int)) hWi
        have := sml_big
        omega
      · have a3' : (rowsM rs)[v]? = some ((rs.getD v []).map encO) := a3
        simp only [↓eVar, ↓eC, ↓eBin, ↓eUn, ↓eB, ↓eTup, ↓eLst, ↓eAnd, ↓eOr, ↓eNot, ↓eIf, ↓eChain, ↓eSlice, ↓eM, ↓eStr1, ↓eIsi, ↓oNo, ↓oPart, ↓tst, ↓ftAnd, ↓ftOr, ↓ftNot, ↓ftYes, ↓args, ↓gI, ↓gI0, ↓gSubI, ↓gFdiv, ↓gMod, ↓gPow, ↓gLt, ↓gLe, ↓gGt, ↓gGe, ↓gAdd, ↓gMul, ↓gRep, ↓gIx, ↓gIsN, ↓gNotN, ↓gNeg, ↓gEqN, ↓gIn, ↓gInSeq, ↓gLen, ↓gSlice, ↓gList, ↓gTuple, ↓gMin2, ↓gMax2, ↓gStr, ↓gInt, ↓newL, ↓mAppend, ↓mInsert, ↓mPopAt, ↓mIndex, ↓gSplit, ↓gJoin, List.map_cons, List.map_nil, List.length_cons, List.length_nil, List.length_map, List.cons_append, List.nil_append, Nat.reduceAdd, Nat.reduceSub, List.getElem?_cons_zero, List.getElem?_cons_succ, List.getElem?_map, Option.map_some, List.set_cons_zero, List.set_cons_succ, isNon, seqOf, listOf, atI_nn, atI_0, atI_1, atI_2, atI_3, encNet, encSt, encRow, encR, encO, encP, nats, encT, Od.raw, if_true, if_false, ite_true, ite_false, Bool.false_eq_true, Bool.true_eq_false, Bool.not_true, Bool.not_false, decide_true, decide_false, reduceIte, eq_self, and_true, true_and, sn_set_put, sn_set_take, sn_set_add, sn_put_set, sn_put_take, sn_put_add, sn_take_set, sn_take_put, sn_take_add, sn_add_set, sn_add_put, sn_add_take, a3']
        refine ⟨Nat.lt_of_le_of_lt (Nat.le_of_lt hl) (by decide), ?_⟩
        refine hnx _ _ ⟨rs.set v ((rs.getD v []).take (rs.getD v []).length ++ [.set y] ++ (rs.getD v []).drop (rs.getD v []).length), _, _, _, _, _, _, _, rfl, I.put hvW (o := .set y) hy (by omega) _, ?_⟩
        rw [← rowsM_set hvr, List.take_length, List.drop_length, List.append_nil, List.map_append]
        rfl
    · have hl2 : ¬ (((rs.getD v []).length : Nat) : Int) < 199 := by omega
      refine st_ifn (M1 := rowsM rs) (by intro Q E hq; simp only [↓eVar, ↓eC, ↓eBin, ↓eUn, ↓eB, ↓eTup, ↓eLst, ↓eAnd, ↓eOr, ↓eNot, ↓eIf, ↓eChain, ↓eSlice, ↓eM, ↓eStr1, ↓eIsi, ↓oNo, ↓oPart, ↓tst, ↓ftAnd, ↓ftOr, ↓ftNot, ↓ftYes, ↓args, ↓gI, ↓gI0, ↓gSubI, ↓gFdiv, ↓gMod, ↓gPow, ↓gLt, ↓gLe, ↓gGt, ↓gGe, ↓gAdd, ↓gMul, ↓gRep, ↓gIx, ↓gIsN, ↓gNotN, ↓gNeg, ↓gEqN, ↓gIn, ↓gInSeq, ↓gLen, ↓gSlice, ↓gList, ↓gTuple, ↓gMin2, ↓gMax2, ↓gStr, ↓gInt, ↓newL, ↓mAppend, ↓mInsert, ↓mPopAt, ↓mIndex, ↓gSplit, ↓gJoin, List.map_cons, List.map_nil, List.length_cons, List.length_nil, List.length_map, List.cons_append, List.nil_append, Nat.reduceAdd, Nat.reduceSub, List.getElem?_cons_zero, List.getElem?_cons_succ, List.getElem?_map, Option.map_some, List.set_cons_zero, List.set_cons_succ, isNon, seqOf, listOf, atI_nn, atI_0, atI_1, atI_2, atI_3, encNet, encSt, encRow, encR, encO, encP, nats, encT, Od.raw, if_true, if_false, ite_true, ite_false, Bool.false_eq_true, Bool.true_eq_false, Bool.not_true, Bool.not_false, decide_true, decide_false, reduceIte, eq_self, and_true, true_and, sn_set_put, sn_set_take, sn_set_add, sn_put_set, sn_put_take, sn_put_add, sn_take_set, sn_take_put, sn_take_add, sn_add_set, sn_add_put, sn_add_take, hWi, hv, a1, a2, a3, decide_eq_false hl2]; exact hq) ?_
      exact hnx _ _ ⟨rs, _, _, _, _, _, _, _, rfl, I, rfl⟩
  · have h6 : ¬ z % 7 = 6 := fun h => hset (.inl h)
    have hp0 : ¬ ps.length = 0 := fun h => hset (.inr h)
    have hz0 : ¬ ((ps.length : Nat) : Int) = 0 := by omega
    have hPi : (0 : Int) < (ps.length : Int) := by omega
    refine st_ifn (M1 := rowsM rs) (by intro Q E hq; simp only [↓eVar, ↓eC, ↓eBin, ↓eUn, ↓eB, ↓eTup, ↓eLst, ↓eAnd, ↓eOr, ↓eNot, ↓eIf, ↓eChain, ↓eSlice, ↓eM, ↓eStr1, ↓eIsi, ↓oNo, ↓oPart, ↓tst, ↓ftAnd, ↓ftOr, ↓ftNot, ↓ftYes, ↓args, ↓gI, ↓gI0, ↓gSubI, ↓gFdiv, ↓gMod, ↓gPow, ↓gLt, ↓gLe, ↓gGt, ↓gGe, ↓gAdd, ↓gMul, ↓gRep, ↓gIx, ↓gIsN, ↓gNotN, ↓gNeg, ↓gEqN, ↓gIn, ↓gInSeq, ↓gLen, ↓gSlice, ↓gList, ↓gTuple, ↓gMin2, ↓gMax2, ↓gStr, ↓gInt, ↓newL, ↓mAppend, ↓mInsert, ↓mPopAt, ↓mIndex, ↓gSplit, ↓gJoin, List.map_cons, List.map_nil, List.length_cons, List.length_nil, List.length_map, List.cons_append, List.nil_append, Nat.reduceAdd, Nat.reduceSub, List.getElem?_cons_zero, List.getElem?_cons_succ, List.getElem?_map, Option.map_some, List.set_cons_zero, List.set_cons_succ, isNon, seqOf, listOf, atI_nn, atI_0, atI_1, atI_2, atI_3, encNet, encSt, encRow, encR, encO, encP, nats, encT, Od.raw, if_true, if_false, ite_true, ite_false, Bool.false_eq_true, Bool.true_eq_false, Bool.not_true, Bool.not_false, decide_true, decide_false, reduceIte, eq_self, and_true, true_and, sn_set_put, sn_set_take, sn_set_add, sn_put_set, sn_put_take, sn_put_add, sn_take_set, sn_take_put, sn_take_add, sn_add_set, sn_add_put, sn_add_take, decide_eq_false h6, decide_eq_false hz0]; exact hq) ?_
    obtain ⟨p, hp⟩ : ∃ p : Nat, z / 7 % (ps.length : Int) = p := ⟨(z / 7 % (ps.length : Int)).toNat, by have := Int.emod_nonneg (z / 7) (b := (ps.length : Int)) (by omega); omega⟩
    have hpP : p < ps.length := by have := Int.emod_lt_of_pos (z / 7) hPi; omega
    have dP := dv (z / 7) (k := (ps.length : Int)) (by omega) (by omega)
    have hpi := getD_of (d := (⟨0, 0, 0⟩ : Pip)) hpP
    have hpm := hps _ (List.mem_of_getElem? hpi)
    have a1 := rowsM_top I.len
    refine st_set (M1 := rowsM rs) (d := .int (p : Int)) (by intro Q E hq; simp only [↓eVar, ↓eC, ↓eBin, ↓eUn, ↓eB, ↓eTup, ↓eLst, ↓eAnd, ↓eOr, ↓eNot, ↓eIf, ↓eChain, ↓eSlice, ↓eM, ↓eStr1, ↓eIsi, ↓oNo, ↓oPart, ↓tst, ↓ftAnd, ↓ftOr, ↓ftNot, ↓ftYes, ↓args, ↓gI, ↓gI0, ↓gSubI, ↓gFdiv, ↓gMod, ↓gPow, ↓gLt, ↓gLe, ↓gGt, ↓gGe, ↓gAdd, ↓gMul, ↓gRep, ↓gIx, ↓gIsN, ↓gNotN, ↓gNeg, ↓gEqN, ↓gIn, ↓gInSeq, ↓gLen, ↓gSlice, ↓gList, ↓gTuple, ↓gMin2, ↓gMax2, ↓gStr, ↓gInt, ↓newL, ↓mAppend, ↓mInsert, ↓mPopAt, ↓mIndex, ↓gSplit, ↓gJoin, List.map_cons, List.map_nil, List.length_cons, List.length_nil, List.length_map, List.cons_append, List.nil_append, Nat.reduceAdd, Nat.reduceSub, List.getElem?_cons_zero, List.getElem?_cons_succ, List.getElem?_map, Option.map_some, List.set_cons_zero, List.set_cons_succ, isNon, seqOf, listOf, atI_nn, atI_0, atI_1, atI_2, atI_3, encNet, encSt, encRow, encR, encO, encP, nats, encT, Od.raw, if_true, if_false, ite_true, ite_false, Bool.false_eq_true, Bool.true_eq_false, Bool.not_true, Bool.not_false, decide_true, decide_false, reduceIte, eq_self, and_true, true_and, sn_set_put, sn_set_take, sn_set_add, sn_put_set, sn_put_take, sn_put_add, sn_take_set, sn_take_put, sn_take_add, sn_add_set, sn_add_put, sn_add_take, hPi, hp]; exact hq) (st_set (M1 := rowsM rs) (by intro Q E hq; simp only [↓eVar, ↓eC, ↓eBin, ↓eUn, ↓eB, ↓eTup, ↓eLst, ↓eAnd, ↓eOr, ↓eNot, ↓eIf, ↓eChain, ↓eSlice, ↓eM, ↓eStr1, ↓eIsi, ↓oNo, ↓oPart, ↓tst, ↓ftAnd, ↓ftOr, ↓ftNot, ↓ftYes, ↓args, ↓gI, ↓gI0, ↓gSubI, ↓gFdiv, ↓gMod, ↓gPow, ↓gLt, ↓gLe, ↓gGt, ↓gGe, ↓gAdd, ↓gMul, ↓gRep, ↓gIx, ↓gIsN, ↓gNotN, ↓gNeg, ↓gEqN, ↓gIn, ↓gInSeq, ↓gLen, ↓gSlice, ↓gList, ↓gTuple, ↓gMin2, ↓gMax2, ↓gStr, ↓gInt, ↓newL, ↓mAppend, ↓mInsert, ↓mPopAt, ↓mIndex, ↓gSplit, ↓gJoin, List.map_cons, List.map_nil, List.length_cons, List.length_nil, List.length_map, List.cons_append, List.nil_append, Nat.reduceAdd, Nat.reduceSub, List.getElem?_cons_zero, List.getElem?_cons_succ, List.getElem?_map, Option.map_some, List.set_cons_zero, List.set_cons_succ, isNon, seqOf, listOf, atI_nn, atI_0, atI_1, atI_2, atI_3, encNet, encSt, encRow, encR, encO, encP, nats, encT, Od.raw, if_true, if_false, ite_true, ite_false, Bool.false_eq_true, Bool.true_eq_false, Bool.not_true, Bool.not_false, decide_true, decide_false, reduceIte, eq_self, and_true, true_and, sn_set_put, sn_set_take, sn_set_add, sn_put_set, sn_put_take, sn_put_add, sn_take_set, sn_take_put, sn_take_add, sn_add_set, sn_add_put, sn_add_take, dP]; exact hq) ?_)
    refine st_set (M1 := rowsM rs) (d := .loc (ps.getD p ⟨0, 0, 0⟩).ma) (by intro Q E hq; simp only [↓eVar, ↓eC, ↓eBin, ↓eUn, ↓eB, ↓eTup, ↓eLst, ↓eAnd, ↓eOr, ↓eNot, ↓eIf, ↓eChain, ↓eSlice, ↓eM, ↓eStr1, ↓eIsi, ↓oNo, ↓oPart, ↓tst, ↓ftAnd, ↓ftOr, ↓ftNot, ↓ftYes, ↓args, ↓gI, ↓gI0, ↓gSubI, ↓gFdiv, ↓gMod, ↓gPow, ↓gLt, ↓gLe, ↓gGt, ↓gGe, ↓gAdd, ↓gMul, ↓gRep, ↓gIx, ↓gIsN, ↓gNotN, ↓gNeg, ↓gEqN, ↓gIn, ↓gInSeq, ↓gLen, ↓gSlice, ↓gList, ↓gTuple, ↓gMin2, ↓gMax2, ↓gStr, ↓gInt, ↓newL, ↓mAppend, ↓mInsert, ↓mPopAt, ↓mIndex, ↓gSplit, ↓gJoin, List.map_cons, List.map_nil, List.length_cons, List.length_nil, List.length_map, List.cons_append, List.nil_append, Nat.reduceAdd, Nat.reduceSub, List.getElem?_cons_zero, List.getElem?_cons_succ, List.getElem?_map, Option.map_some, List.set_cons_zero, List.set_cons_succ, isNon, seqOf, listOf, atI_nn, atI_0, atI_1, atI_2, atI_3, encNet, encSt, encRow, encR, encO, encP, nats, encT, Od.raw, if_true, if_false, ite_true, ite_false, Bool.false_eq_true, Bool.true_eq_false, Bool.not_true, Bool.not_false, decide_true, decide_false, reduceIte, eq_self, and_true, true_and, sn_set_put, sn_set_take, sn_set_add, sn_put_set, sn_put_take, sn_put_add, sn_take_set, sn_take_put, sn_take_add, sn_add_set, sn_add_put, sn_add_take, hpi, a1, locs_at hpm.1]; exact hq) (st_set (M1 := rowsM rs) (d := .loc (ps.getD p ⟨0, 0, 0⟩).ta) (by intro Q E hq; simp only [↓eVar, ↓eC, ↓eBin, ↓eUn, ↓eB, ↓eTup, ↓eLst, ↓eAnd, ↓eOr, ↓eNot, ↓eIf, ↓eChain, ↓eSlice, ↓eM, ↓eStr1, ↓eIsi, ↓oNo, ↓oPart, ↓tst, ↓ftAnd, ↓ftOr, ↓ftNot, ↓ftYes, ↓args, ↓gI, ↓gI0, ↓gSubI, ↓gFdiv, ↓gMod, ↓gPow, ↓gLt, ↓gLe, ↓gGt, ↓gGe, ↓gAdd, ↓gMul, ↓gRep, ↓gIx, ↓gIsN, ↓gNotN, ↓gNeg, ↓gEqN, ↓gIn, ↓gInSeq, ↓gLen, ↓gSlice, ↓gList, ↓gTuple, ↓gMin2, ↓gMax2, ↓gStr, ↓gInt, ↓newL, ↓mAppend, ↓mInsert, ↓mPopAt, ↓mIndex, ↓gSplit, ↓gJoin, List.map_cons, List.map_nil, List.length_cons, List.length_nil, List.length_map, List.cons_append, List.nil_append, Nat.reduceAdd, Nat.reduceSub, List.getElem?_cons_zero, List.getElem?_cons_succ, List.getElem?_map, Option.map_some, List.set_cons_zero, List.set_cons_succ, isNon, seqOf, listOf, atI_nn, atI_0, atI_1, atI_2, atI_3, encNet, encSt, encRow, encR, encO, encP, nats, encT, Od.raw, if_true, if_false, ite_true, ite_false, Bool.false_eq_true, Bool.true_eq_false, Bool.not_true, Bool.not_false, decide_true, decide_false, reduceIte, eq_self, and_true, true_and, sn_set_put, sn_set_take, sn_set_add, sn_put_set, sn_put_take, sn_put_add, sn_take_set, sn_take_put, sn_take_add, sn_add_set, sn_add_put, sn_add_take, hpi, a1, locs_at hpm.2]; exact hq) ?_)
    have mW := hpm.1
    have tW := hpm.2
    obtain ⟨n, hn, hiv⟩ : ∃ n : Nat, n ≤ 12 ∧ Ev (eIf (tst (eBin (gEqN false) (eVar 7) (eC (.int 5)))) (eBin (gAdd false) (eC (.int 1)) (eBin gMod (eBin gFdiv (eVar 8) (eC (.int 18))) (eC (.int 12)))) (eC (.int 1))) (rowsL cs ps W even z (z / 7 / (ps.length : Int)) p (ps.getD p ⟨0, 0, 0⟩).ma (ps.getD p ⟨0, 0, 0⟩).ta x12) (rowsM rs) (.int (n : Int)) (rowsM rs) := by
      unfold rowsL
      have d18 := dv (z / 7 / (ps.length : Int)) (k := 18) (by decide) (by decide)
      by_cases h5 : z % 7 = 5
      · obtain ⟨m, hm⟩ : ∃ m : Nat, 1 + z / 7 / (ps.length : Int) / 18 % 12 = m := ⟨(1 + z / 7 / (ps.length : Int) / 18 % 12).toNat, by omega⟩
        exact ⟨m, by omega, by intro Q E hq; simp only [↓eVar, ↓eC, ↓eBin, ↓eUn, ↓eB, ↓eTup, ↓eLst, ↓eAnd, ↓eOr, ↓eNot, ↓eIf, ↓eChain, ↓eSlice, ↓eM, ↓eStr1, ↓eIsi, ↓oNo, ↓oPart, ↓tst, ↓ftAnd, ↓ftOr, ↓ftNot, ↓ftYes, ↓args, ↓gI, ↓gI0, ↓gSubI, ↓gFdiv, ↓gMod, ↓gPow, ↓gLt, ↓gLe, ↓gGt, ↓gGe, ↓gAdd, ↓gMul, ↓gRep, ↓gIx, ↓gIsN, ↓gNotN, ↓gNeg, ↓gEqN, ↓gIn, ↓gInSeq, ↓gLen, ↓gSlice, ↓gList, ↓gTuple, ↓gMin2, ↓gMax2, ↓gStr, ↓gInt, ↓newL, ↓mAppend, ↓mInsert, ↓mPopAt, ↓mIndex, ↓gSplit, ↓gJoin, List.map_cons, List.map_nil, List.length_cons, List.length_nil, List.length_map, List.cons_append, List.nil_append, Nat.reduceAdd, Nat.reduceSub, List.getElem?_cons_zero, List.getElem?_cons_succ, List.getElem?_map, Option.map_some, List.set_cons_zero, List.set_cons_succ, isNon, seqOf, listOf, atI_nn, atI_0, atI_1, atI_2, atI_3, encNet, encSt, encRow, encR, encO, encP, nats, encT, Od.raw, if_true, if_false, ite_true, ite_false, Bool.false_eq_true, Bool.true_eq_false, Bool.not_true, Bool.not_false, decide_true, decide_false, reduceIte, eq_self, and_true, true_and, sn_set_put, sn_set_take, sn_set_add, sn_put_set, sn_put_take, sn_put_add, sn_take_set, sn_take_put, sn_take_add, sn_add_set, sn_add_put, sn_add_take, decide_eq_true h5, d18, show (0 : Int) < 12 by decide, hm]; exact hq⟩
      · exact ⟨1, by decide, by intro Q E hq; simp only [↓eVar, ↓eC, ↓eBin, ↓eUn, ↓eB, ↓eTup, ↓eLst, ↓eAnd, ↓eOr, ↓eNot, ↓eIf, ↓eChain, ↓eSlice, ↓eM, ↓eStr1, ↓eIsi, ↓oNo, ↓oPart, ↓tst, ↓ftAnd, ↓ftOr, ↓ftNot, ↓ftYes, ↓args, ↓gI, ↓gI0, ↓gSubI, ↓gFdiv, ↓gMod, ↓gPow, ↓gLt, ↓gLe, ↓gGt, ↓gGe, ↓gAdd, ↓gMul, ↓gRep, ↓gIx, ↓gIsN, ↓gNotN, ↓gNeg, ↓gEqN, ↓gIn, ↓gInSeq, ↓gLen, ↓gSlice, ↓gList, ↓gTuple, ↓gMin2, ↓gMax2, ↓gStr, ↓gInt, ↓newL, ↓mAppend, ↓mInsert, ↓mPopAt, ↓mIndex, ↓gSplit, ↓gJoin, List.map_cons, List.map_nil, List.length_cons, List.length_nil, List.length_map, List.cons_append, List.nil_append, Nat.reduceAdd, Nat.reduceSub, List.getElem?_cons_zero, List.getElem?_cons_succ, List.getElem?_map, Option.map_some, List.set_cons_zero, List.set_cons_succ, isNon, seqOf, listOf, atI_nn, atI_0, atI_1, atI_2, atI_3, encNet, encSt, encRow, encR, encO, encP, nats, encT, Od.raw, if_true, if_false, ite_true, ite_false, Bool.false_eq_true, Bool.true_eq_false, Bool.not_true, Bool.not_false, decide_true, decide_false, reduceIte, eq_self, and_true, true_and, sn_set_put, sn_set_take, sn_set_add, sn_put_set, sn_put_take, sn_put_add, sn_take_set, sn_take_put, sn_take_add, sn_add_set, sn_add_put, sn_add_take, decide_eq_false h5]; exact hq⟩
    show sFor _ _ _ _ (rowsL cs ps W even z (z / 7 / (ps.length : Int)) p (ps.getD p ⟨0, 0, 0⟩).ma (ps.getD p ⟨0, 0, 0⟩).ta x12) _
    have hn2 := small62 (n := n) (by omega)
    refine st_lfor (M1 := rowsM rs) (xs := rngD 0 n) (ok := okAny) (fun R E hq => hiv _ _ ⟨hn2, by rw [Int.toNat_natCast]; exact hq⟩) ?_
    refine forW_inv (fun i ds M => ∃ rs' x, RowsI ps W rs' ∧ ds = rowsL cs ps W even z (z / 7 / (ps.length : Int)) p (ps.getD p ⟨0, 0, 0⟩).ma (ps.getD p ⟨0, 0, 0⟩).ta x ∧ M = rowsM rs') ⟨rs, x12, I, rfl, rfl⟩ (fun _ _ _ _ _ => trivial) ?_ ?_
    · rintro i d _ _ nx2 hd ⟨rs', x, I', rfl, rfl⟩ h2
      exact rows_turn I' hpP rfl rfl mW tW fun rs2 I2 => h2 _ _ ⟨rs2, some d, I2, rfl, rfl⟩
    · rintro _ _ ⟨rs', x, I', rfl, rfl⟩
      exact hnx _ _ ⟨rs', _, _, _, _, _, _, _, rfl, I', rfl⟩
theorem sem_rows_by : ∀ ds M Q E, G_rows_by ds M Q E → f_rows_by G_number_by G_put_in (exits false M Q E) (startD 13 ds) M := by
  rintro ds M Q E ⟨cs, ps, W, even, rfl, rfl, hW, hW2, hP, hps, hcs, hq⟩
  exact rows_run hW hW2 hP hps hcs hq
theorem optAll_map {α : Type} {f : D → Option D} {g h : α → D} : ∀ (L : List α), (∀ a ∈ L, f (g a) = some (h a)) → optAll f (L.map g) = some (L.map h)
  | [], _ => rfl
  | a :: L, e => by
    have ih := optAll_map L fun b hb => e b (List.mem_cons_of_mem _ hb)
    simp only [List.map_cons, optAll, e a List.mem_cons_self, ih]
theorem noLoc_encO {o : Od} : noLoc (encO o) = true := by cases o <;> rfl
theorem noLocL_map {α : Type} {g : α → D} : ∀ (L : List α), (∀ a ∈ L, noLoc (g a) = true) → noLocL (L.map g) = true
  | [], _ => rfl
  | a :: L, e => by
    have ih := noLocL_map L fun b hb => e b (List.mem_cons_of_mem _ hb)
    simp only [List.map_cons, noLocL, e a List.mem_cons_self, ih, Bool.and_self]
theorem noLoc_encRow {r : List Od} : noLoc (encRow r) = true := by
  show noLocL (r.map encO) = true
  exact noLocL_map r fun _ _ => noLoc_encO
theorem rsv_rows {rs : List (List Od)} {W : Nat} {f : Nat} (h : rs.length = W) : rsv (rowsM rs) 0 (f + 2) (.loc W) = some (.lst (rs.map encRow)) := by
  unfold rsv
  rw [if_neg (by intro z; cases z)]
  simp only [Nat.not_lt_zero, if_false, rowsM_top h]
  have e : optAll (rsv (rowsM rs) 0 (f + 1)) ((List.range W).map D.loc) = some ((List.range W).map fun i => encRow (rs.getD i [])) := by
    refine optAll_map _ fun i hi => ?_
    have hi2 : i < rs.length := by rw [h]; exact List.mem_range.mp hi
    unfold rsv
    rw [if_neg (by intro z; cases z)]
    simp only [Nat.not_lt_zero, if_false, rowsM_at hi2]
    rw [optAll_map (h := encO) _ fun o _ => rsv_no noLoc_encO]
    rfl
  rw [e, Option.map_some, Option.some_inj]
  congr 1
  refine List.ext_getElem (by simp [h]) fun i h1 h2 => ?_
  simp only [List.getElem_map, List.getElem_range]
  rw [List.getD_eq_getElem?_getD, List.getElem?_eq_getElem (by simpa using h2), Option.getD_some]
def G_rows_byF : GS := fun ds M Q E => ∃ (cs : List Int) (ps : List Pip) (W : Nat) (even : Bool), ds = [.lst (intL cs), .lst (ps.map encP), .int (W : Int), .bl even] ∧ M = [] ∧ 0 < W ∧ W ≤ 20 ∧ ps.length ≤ 60 ∧ (∀ p ∈ ps, p.ma < W ∧ p.ta < W) ∧ (∀ z ∈ cs, z.natAbs < sml) ∧
  ∀ rs, RowsI ps W rs → Q (.lst (rs.map encRow)) []
theorem sem_rows_byF : ∀ ds M Q E, G_rows_byF ds M Q E → f_rows_by G_number_by G_put_in (exits true M Q E) (startD 13 ds) M := by
  rintro ds M Q E ⟨cs, ps, W, even, rfl, rfl, hW, hW2, hP, hps, hcs, hq⟩
  exact rows_run hW hW2 hP hps hcs fun rs I => ⟨_, rsv_rows I.len, rfl, hq rs I⟩
end DL
namespace DL
open PySem PySem.Spec PyProof.Rows L2

theorem fits {z : Int} (h1 : -1000000 ≤ z) (h2 : z ≤ 1000000) : Builtin.Range.rangeFitsLong z = true := by
  unfold Builtin.Range.rangeFitsLong
  have : (2 : Int) ^ 63 = 9223372036854775808 := by decide
  simp only [Bool.and_eq_true, decide_eq_true_eq]
  omega
/-- a range up, by c -/
theorem rgc {a b c : Nat} (hc : 0 < c) (hc2 : c ≤ 1000) (ha : a ≤ 1000) (hb : b ≤ 1000) : ∃ n : Nat, RgC a b c n ∧ n ≤ b ∧ ∀ i : Nat, i < n → (a : Int) + (i : Int) * c < b := by
  by_cases h : a < b
  · have e : Builtin.Range.rangeSize a b c = (((b - a - 1) / c + 1 : Nat) : Int) := by
      unfold Builtin.Range.rangeSize
      rw [if_pos (by omega), if_pos (by omega)]
      have : ((b : Int) - a - 1) = ((b - a - 1 : Nat) : Int) := by omega
      rw [this]
      rfl
    have hd := Nat.div_le_self (b - a - 1) c
    refine ⟨(b - a - 1) / c + 1, ⟨by omega, by omega, ?_, e⟩, by omega, fun i hi => ?_⟩
    · unfold Builtin.Range.small
      have hd2 : ((b - a - 1 : Nat) / c) ≤ b := by omega
      rw [e]
      generalize (b - a - 1) / c = q at hd2 ⊢
      rw [fits (by omega) (by omega), fits (by omega) (by omega), fits (by omega) (by omega), fits (by omega) (by omega), if_pos (by omega), fits (by omega) (by omega)]
      simp
    · have h1 : i ≤ (b - a - 1) / c := by omega
      have h2 : i * c ≤ (b - a - 1) := Nat.le_trans (Nat.mul_le_mul_right c h1) (Nat.div_mul_le_self _ _)
      have h3 : ((i : Int) * (c : Int)) = ((i * c : Nat) : Int) := by push_cast; rfl
      rw [h3]
      omega
  · have e : Builtin.Range.rangeSize a b c = 0 := by
      unfold Builtin.Range.rangeSize
      rw [if_pos (by omega), if_neg (by omega)]
    refine ⟨0, ⟨by omega, by omega, ?_, by rw [e]; rfl⟩, Nat.zero_le _, fun i hi => absurd hi (Nat.not_lt_zero i)⟩
    unfold Builtin.Range.small
    rw [e, fits (by omega) (by omega), fits (by omega) (by omega), fits (by omega) (by omega), fits (by omega) (by omega)]
    simp
theorem rngC_len {lo c : Int} {n : Nat} : (rngC lo c n).length = n := by unfold rngC; rw [List.length_map, List.length_range]
/-- a comprehension of which only a part is known -/
theorem lc_enc {α β : Type} {ok : Sto → Prop} {vs : List Nat} {put : Put} {e : FE} {ds : DS} {M : Sto} {Q : List D → Sto → Prop} (f : α → D) (enc : β → D) (P : β → Prop) (hok : ok M) : ∀ (L : List α) (acc : List D),
    (∀ a ∈ L, ∀ Q : KQ, (∀ b, P b → Q (enc b) M) → put (f a) (wipeD ds vs) fun dx => e dx M Q noE) → (∀ bs : List β, bs.length = L.length → (∀ b ∈ bs, P b) → Q (acc ++ bs.map enc) M) → lcW ok vs put ftYes e (L.map f) acc ds M Q
  | [], acc, _, h => ⟨hok, by simpa using h [] rfl nofun⟩
  | a :: L, acc, hel, h => by
    refine ⟨hok, ?_⟩
    have h1 := hel a List.mem_cons_self (fun y M2 => lcW ok vs put ftYes e (L.map f) (acc ++ [y]) ds M2 Q) fun b hb =>
      lc_enc f enc P hok L (acc ++ [enc b]) (fun a ha => hel a (List.mem_cons_of_mem _ ha)) fun bs hl hbs => by
        have := h (b :: bs) (by simp [hl]) (fun x hx => by
          rcases List.mem_cons.mp hx with z | z
          · rw [z]; exact hb
          · exact hbs x z)
        simpa using this
    exact h1
theorem cell_ok {ns : List Int} (hc : Cells ns) {k : Nat} {M : Sto} {Q : KQ} {E : KE} (h : ∀ z : Int, z.natAbs < sml → Q (.int z) M) : G_cell_at [.scr (intL ns), .int (k : Int)] M Q E := ⟨ns, k, rfl, hc, h⟩
theorem small_big {z : Int} (h : z.natAbs < sml) : z.natAbs < big := by have := sml_big; omega
/-- a net by a script -/
theorem net_run {ns : List Int} {b c : Nat} {D' : EndsD} {G : GS} {res : List (List Od) → D} {sto : List (List Od) → Sto} (hc : Cells ns) (hb : b ≤ 100) (hs : 0 < c) (hs2 : c ≤ 100)
    (hG : ∀ cs ps (W : Nat) even (Q : KQ) (E : KE), 0 < W → W ≤ 20 → ps.length ≤ 60 → (∀ p ∈ ps, p.ma < W ∧ p.ta < W) → (∀ z ∈ cs, z.natAbs < sml) → (∀ rs, RowsI ps W rs → Q (res rs) (sto rs)) → G [.lst (intL cs), .lst (ps.map encP), .int (W : Int), .bl even] [] Q E)
    (hq : ∀ N, Made N → D'.rt (.tup [.lst (N.pipes.map encP), res N.rows]) (sto N.rows)) :
    f_net_by G_cell_at G_pipe_by G D' (startD 9 [.scr (intL ns), .int (b : Int), .int (c : Int)]) [] := by
  unfold f_net_by
  simp only [startD, List.map_cons, List.map_nil, List.length_cons, List.length_nil, List.replicate, List.cons_append, List.nil_append, Nat.reduceAdd, Nat.reduceSub]
  refine ?_
  show eCall G_cell_at _ _ _ _ _
  simp only [↓eVar, ↓eC, ↓eBin, ↓eUn, ↓eB, ↓eTup, ↓eLst, ↓eAnd, ↓eOr, ↓eNot, ↓eIf, ↓eChain, ↓eSlice, ↓eM, ↓eStr1, ↓eIsi, ↓oNo, ↓oPart, ↓tst, ↓ftAnd, ↓ftOr, ↓ftNot, ↓ftYes, ↓args, ↓gI, ↓gI0, ↓gSubI, ↓gFdiv, ↓gMod, ↓gPow, ↓gLt, ↓gLe, ↓gGt, ↓gGe, ↓gAdd, ↓gMul, ↓gRep, ↓gIx, ↓gIsN, ↓gNotN, ↓gNeg, ↓gEqN, ↓gIn, ↓gInSeq, ↓gLen, ↓gSlice, ↓gList, ↓gTuple, ↓gMin2, ↓gMax2, ↓gStr, ↓gInt, ↓newL, ↓mAppend, ↓mInsert, ↓mPopAt, ↓mIndex, ↓gSplit, ↓gJoin, List.map_cons, List.map_nil, List.length_cons, List.length_nil, List.length_map, List.cons_append, List.nil_append, Nat.reduceAdd, Nat.reduceSub, List.getElem?_cons_zero, List.getElem?_cons_succ, List.getElem?_map, Option.map_some, List.set_cons_zero, List.set_cons_succ, isNon, seqOf, listOf, atI_nn, atI_0, atI_1, atI_2, atI_3, encNet, encSt, encRow, encR, encO, encP, nats, encT, Od.raw, if_true, if_false, ite_true, ite_false, Bool.false_eq_true, Bool.true_eq_false, Bool.not_true, Bool.not_false, decide_true, decide_false, reduceIte, eq_self, and_true, true_and, sn_set_put, sn_set_take, sn_set_add, sn_put_set, sn_put_take, sn_put_add, sn_take_set, sn_take_put, sn_take_add, sn_add_set, sn_add_put, sn_add_take, ↓eCall]
  refine cell_ok hc (k := 0) fun h hh => ?_
  have mw : ∀ {k : Int}, 0 < k → k < 1073741824 → ∀ z, CDiv z k := fun h1 h2 z => dv z h1 h2
  refine st_set (M1 := []) (d := .int (1 + h % 5)) (by intro Q E hq; simp only [↓eVar, ↓eC, ↓eBin, ↓eUn, ↓eB, ↓eTup, ↓eLst, ↓eAnd, ↓eOr, ↓eNot, ↓eIf, ↓eChain, ↓eSlice, ↓eM, ↓eStr1, ↓eIsi, ↓oNo, ↓oPart, ↓tst, ↓ftAnd, ↓ftOr, ↓ftNot, ↓ftYes, ↓args, ↓gI, ↓gI0, ↓gSubI, ↓gFdiv, ↓gMod, ↓gPow, ↓gLt, ↓gLe, ↓gGt, ↓gGe, ↓gAdd, ↓gMul, ↓gRep, ↓gIx, ↓gIsN, ↓gNotN, ↓gNeg, ↓gEqN, ↓gIn, ↓gInSeq, ↓gLen, ↓gSlice, ↓gList, ↓gTuple, ↓gMin2, ↓gMax2, ↓gStr, ↓gInt, ↓newL, ↓mAppend, ↓mInsert, ↓mPopAt, ↓mIndex, ↓gSplit, ↓gJoin, List.map_cons, List.map_nil, List.length_cons, List.length_nil, List.length_map, List.cons_append, List.nil_append, Nat.reduceAdd, Nat.reduceSub, List.getElem?_cons_zero, List.getElem?_cons_succ, List.getElem?_map, Option.map_some, List.set_cons_zero, List.set_cons_succ, isNon, seqOf, listOf, atI_nn, atI_0, atI_1, atI_2, atI_3, encNet, encSt, encRow, encR, encO, encP, nats, encT, Od.raw, if_true, if_false, ite_true, ite_false, Bool.false_eq_true, Bool.true_eq_false, Bool.not_true, Bool.not_false, decide_true, decide_false, reduceIte, eq_self, and_true, true_and, sn_set_put, sn_set_take, sn_set_add, sn_put_set, sn_put_take, sn_put_add, sn_take_set, sn_take_put, sn_take_add, sn_add_set, sn_add_put, sn_add_take, show (0 : Int) < 5 by decide]; exact hq) ?_
  have d15 := dv h (k := 15) (by decide) (by decide)
  have d135 := dv h (k := 135) (by decide) (by decide)
  refine seq_cut (fun ds M => ∃ W : Nat, 0 < W ∧ W ≤ 20 ∧ M = [] ∧ ds = [some (.scr (intL ns)), some (.int b), some (.int c), some (.int h), some (.int (W : Int)), none, none, none, none]) ?_ ?_
  · intro nx k
    by_cases e : h / 15 % 9 = 8
    · refine st_l1 (M1 := []) (by intro Q E hq; simp only [↓eVar, ↓eC, ↓eBin, ↓eUn, ↓eB, ↓eTup, ↓eLst, ↓eAnd, ↓eOr, ↓eNot, ↓eIf, ↓eChain, ↓eSlice, ↓eM, ↓eStr1, ↓eIsi, ↓oNo, ↓oPart, ↓tst, ↓ftAnd, ↓ftOr, ↓ftNot, ↓ftYes, ↓args, ↓gI, ↓gI0, ↓gSubI, ↓gFdiv, ↓gMod, ↓gPow, ↓gLt, ↓gLe, ↓gGt, ↓gGe, ↓gAdd, ↓gMul, ↓gRep, ↓gIx, ↓gIsN, ↓gNotN, ↓gNeg, ↓gEqN, ↓gIn, ↓gInSeq, ↓gLen, ↓gSlice, ↓gList, ↓gTuple, ↓gMin2, ↓gMax2, ↓gStr, ↓gInt, ↓newL, ↓mAppend, ↓mInsert, ↓mPopAt, ↓mIndex, ↓gSplit, ↓gJoin, List.map_cons, List.map_nil, List.length_cons, List.length_nil, List.length_map, List.cons_append, List.nil_append, Nat.reduceAdd, Nat.reduceSub, List.getElem?_cons_zero, List.getElem?_cons_succ, List.getElem?_map, Option.map_some, List.set_cons_zero, List.set_cons_succ, isNon, seqOf, listOf, atI_nn, atI_0, atI_1, atI_2, atI_3, encNet, encSt, encRow, encR, encO, encP, nats, encT, Od.raw, if_true, if_false, ite_true, ite_false, Bool.false_eq_true, Bool.true_eq_false, Bool.not_true, Bool.not_false, decide_true, decide_false, reduceIte, eq_self, and_true, true_and, sn_set_put, sn_set_take, sn_set_add, sn_put_set, sn_put_take, sn_put_add, sn_take_set, sn_take_put, sn_take_add, sn_add_set, sn_add_put, sn_add_take, d15, show (0 : Int) < 9 by decide, decide_eq_true e]; exact hq) ?_
      obtain ⟨W, hW⟩ : ∃ W : Nat, 20 - h / 135 % 20 = W := ⟨(20 - h / 135 % 20).toNat, by omega⟩
      show eBin _ _ _ _ _ _ _
      simp only [↓eVar, ↓eC, ↓eBin, ↓eUn, ↓eB, ↓eTup, ↓eLst, ↓eAnd, ↓eOr, ↓eNot, ↓eIf, ↓eChain, ↓eSlice, ↓eM, ↓eStr1, ↓eIsi, ↓oNo, ↓oPart, ↓tst, ↓ftAnd, ↓ftOr, ↓ftNot, ↓ftYes, ↓args, ↓gI, ↓gI0, ↓gSubI, ↓gFdiv, ↓gMod, ↓gPow, ↓gLt, ↓gLe, ↓gGt, ↓gGe, ↓gAdd, ↓gMul, ↓gRep, ↓gIx, ↓gIsN, ↓gNotN, ↓gNeg, ↓gEqN, ↓gIn, ↓gInSeq, ↓gLen, ↓gSlice, ↓gList, ↓gTuple, ↓gMin2, ↓gMax2, ↓gStr, ↓gInt, ↓newL, ↓mAppend, ↓mInsert, ↓mPopAt, ↓mIndex, ↓gSplit, ↓gJoin, List.map_cons, List.map_nil, List.length_cons, List.length_nil, List.length_map, List.cons_append, List.nil_append, Nat.reduceAdd, Nat.reduceSub, List.getElem?_cons_zero, List.getElem?_cons_succ, List.getElem?_map, Option.map_some, List.set_cons_zero, List.set_cons_succ, isNon, seqOf, listOf, atI_nn, atI_0, atI_1, atI_2, atI_3, encNet, encSt, encRow, encR, encO, encP, nats, encT, Od.raw, if_true, if_false, ite_true, ite_false, Bool.false_eq_true, Bool.true_eq_false, Bool.not_true, Bool.not_false, decide_true, decide_false, reduceIte, eq_self, and_true, true_and, sn_set_put, sn_set_take, sn_set_add, sn_put_set, sn_put_take, sn_put_add, sn_take_set, sn_take_put, sn_take_add, sn_add_set, sn_add_put, sn_add_take, d135, show (0 : Int) < 20 by decide, hW]
      exact k _ _ ⟨W, by omega, by omega, rfl, rfl⟩
    · refine st_l0 (M1 := []) (by intro Q E hq; simp only [↓eVar, ↓eC, ↓eBin, ↓eUn, ↓eB, ↓eTup, ↓eLst, ↓eAnd, ↓eOr, ↓eNot, ↓eIf, ↓eChain, ↓eSlice, ↓eM, ↓eStr1, ↓eIsi, ↓oNo, ↓oPart, ↓tst, ↓ftAnd, ↓ftOr, ↓ftNot, ↓ftYes, ↓args, ↓gI, ↓gI0, ↓gSubI, ↓gFdiv, ↓gMod, ↓gPow, ↓gLt, ↓gLe, ↓gGt, ↓gGe, ↓gAdd, ↓gMul, ↓gRep, ↓gIx, ↓gIsN, ↓gNotN, ↓gNeg, ↓gEqN, ↓gIn, ↓gInSeq, ↓gLen, ↓gSlice, ↓gList, ↓gTuple, ↓gMin2, ↓gMax2, ↓gStr, ↓gInt, ↓newL, ↓mAppend, ↓mInsert, ↓mPopAt, ↓mIndex, ↓gSplit, ↓gJoin, List.map_cons, List.map_nil, List.length_cons, List.length_nil, List.length_map, List.cons_append, List.nil_append, Nat.reduceAdd, Nat.reduceSub, List.getElem?_cons_zero, List.getElem?_cons_succ, List.getElem?_map, Option.map_some, List.set_cons_zero, List.set_cons_succ, isNon, seqOf, listOf, atI_nn, atI_0, atI_1, atI_2, atI_3, encNet, encSt, encRow, encR, encO, encP, nats, encT, Od.raw, if_true, if_false, ite_true, ite_false, Bool.false_eq_true, Bool.true_eq_false, Bool.not_true, Bool.not_false, decide_true, decide_false, reduceIte, eq_self, and_true, true_and, sn_set_put, sn_set_take, sn_set_add, sn_put_set, sn_put_take, sn_put_add, sn_take_set, sn_take_put, sn_take_add, sn_add_set, sn_add_put, sn_add_take, d15, show (0 : Int) < 9 by decide, decide_eq_false e]; exact hq) ?_
      obtain ⟨W, hW⟩ : ∃ W : Nat, 1 + h % 5 = W := ⟨(1 + h % 5).toNat, by omega⟩
      exact k _ _ ⟨W, by omega, by omega, rfl, by rw [hW]; rfl⟩
  rintro _ _ ⟨W, hW0, hW, rfl, rfl⟩
  show eBin _ _ _ _ _ _ _
  simp only [↓eVar, ↓eC, ↓eBin, ↓eUn, ↓eB, ↓eTup, ↓eLst, ↓eAnd, ↓eOr, ↓eNot, ↓eIf, ↓eChain, ↓eSlice, ↓eM, ↓eStr1, ↓eIsi, ↓oNo, ↓oPart, ↓tst, ↓ftAnd, ↓ftOr, ↓ftNot, ↓ftYes, ↓args, ↓gI, ↓gI0, ↓gSubI, ↓gFdiv, ↓gMod, ↓gPow, ↓gLt, ↓gLe, ↓gGt, ↓gGe, ↓gAdd, ↓gMul, ↓gRep, ↓gIx, ↓gIsN, ↓gNotN, ↓gNeg, ↓gEqN, ↓gIn, ↓gInSeq, ↓gLen, ↓gSlice, ↓gList, ↓gTuple, ↓gMin2, ↓gMax2, ↓gStr, ↓gInt, ↓newL, ↓mAppend, ↓mInsert, ↓mPopAt, ↓mIndex, ↓gSplit, ↓gJoin, List.map_cons, List.map_nil, List.length_cons, List.length_nil, List.length_map, List.cons_append, List.nil_append, Nat.reduceAdd, Nat.reduceSub, List.getElem?_cons_zero, List.getElem?_cons_succ, List.getElem?_map, Option.map_some, List.set_cons_zero, List.set_cons_succ, isNon, seqOf, listOf, atI_nn, atI_0, atI_1, atI_2, atI_3, encNet, encSt, encRow, encR, encO, encP, nats, encT, Od.raw, if_true, if_false, ite_true, ite_false, Bool.false_eq_true, Bool.true_eq_false, Bool.not_true, Bool.not_false, decide_true, decide_false, reduceIte, eq_self, and_true, true_and, sn_set_put, sn_set_take, sn_set_add, sn_put_set, sn_put_take, sn_put_add, sn_take_set, sn_take_put, sn_take_add, sn_add_set, sn_add_put, sn_add_take, ↓eCall]
  refine cell_ok hc (k := 1) fun z1 hz1 => ?_
  simp only [↓eVar, ↓eC, ↓eBin, ↓eUn, ↓eB, ↓eTup, ↓eLst, ↓eAnd, ↓eOr, ↓eNot, ↓eIf, ↓eChain, ↓eSlice, ↓eM, ↓eStr1, ↓eIsi, ↓oNo, ↓oPart, ↓tst, ↓ftAnd, ↓ftOr, ↓ftNot, ↓ftYes, ↓args, ↓gI, ↓gI0, ↓gSubI, ↓gFdiv, ↓gMod, ↓gPow, ↓gLt, ↓gLe, ↓gGt, ↓gGe, ↓gAdd, ↓gMul, ↓gRep, ↓gIx, ↓gIsN, ↓gNotN, ↓gNeg, ↓gEqN, ↓gIn, ↓gInSeq, ↓gLen, ↓gSlice, ↓gList, ↓gTuple, ↓gMin2, ↓gMax2, ↓gStr, ↓gInt, ↓newL, ↓mAppend, ↓mInsert, ↓mPopAt, ↓mIndex, ↓gSplit, ↓gJoin, List.map_cons, List.map_nil, List.length_cons, List.length_nil, List.length_map, List.cons_append, List.nil_append, Nat.reduceAdd, Nat.reduceSub, List.getElem?_cons_zero, List.getElem?_cons_succ, List.getElem?_map, Option.map_some, List.set_cons_zero, List.set_cons_succ, isNon, seqOf, listOf, atI_nn, atI_0, atI_1, atI_2, atI_3, encNet, encSt, encRow, encR, encO, encP, nats, encT, Od.raw, if_true, if_false, ite_true, ite_false, Bool.false_eq_true, Bool.true_eq_false, Bool.not_true, Bool.not_false, decide_true, decide_false, reduceIte, eq_self, and_true, true_and, sn_set_put, sn_set_take, sn_set_add, sn_put_set, sn_put_take, sn_put_add, sn_take_set, sn_take_put, sn_take_add, sn_add_set, sn_add_put, sn_add_take, show (0 : Int) < 7 by decide]
  refine seq_cut (fun ds M => ∃ P : Nat, P ≤ 60 ∧ M = [] ∧ ds = [some (.scr (intL ns)), some (.int b), some (.int c), some (.int h), some (.int (W : Int)), some (.int (P : Int)), none, none, none]) ?_ ?_
  · intro nx k
    show tst _ _ _ _ _
    simp only [↓eVar, ↓eC, ↓eBin, ↓eUn, ↓eB, ↓eTup, ↓eLst, ↓eAnd, ↓eOr, ↓eNot, ↓eIf, ↓eChain, ↓eSlice, ↓eM, ↓eStr1, ↓eIsi, ↓oNo, ↓oPart, ↓tst, ↓ftAnd, ↓ftOr, ↓ftNot, ↓ftYes, ↓args, ↓gI, ↓gI0, ↓gSubI, ↓gFdiv, ↓gMod, ↓gPow, ↓gLt, ↓gLe, ↓gGt, ↓gGe, ↓gAdd, ↓gMul, ↓gRep, ↓gIx, ↓gIsN, ↓gNotN, ↓gNeg, ↓gEqN, ↓gIn, ↓gInSeq, ↓gLen, ↓gSlice, ↓gList, ↓gTuple, ↓gMin2, ↓gMax2, ↓gStr, ↓gInt, ↓newL, ↓mAppend, ↓mInsert, ↓mPopAt, ↓mIndex, ↓gSplit, ↓gJoin, List.map_cons, List.map_nil, List.length_cons, List.length_nil, List.length_map, List.cons_append, List.nil_append, Nat.reduceAdd, Nat.reduceSub, List.getElem?_cons_zero, List.getElem?_cons_succ, List.getElem?_map, Option.map_some, List.set_cons_zero, List.set_cons_succ, isNon, seqOf, listOf, atI_nn, atI_0, atI_1, atI_2, atI_3, encNet, encSt, encRow, encR, encO, encP, nats, encT, Od.raw, if_true, if_false, ite_true, ite_false, Bool.false_eq_true, Bool.true_eq_false, Bool.not_true, Bool.not_false, decide_true, decide_false, reduceIte, eq_self, and_true, true_and, sn_set_put, sn_set_take, sn_set_add, sn_put_set, sn_put_take, sn_put_add, sn_take_set, sn_take_put, sn_take_add, sn_add_set, sn_add_put, sn_add_take, ↓eCall]
    refine cell_ok hc (k := 1) fun z2 hz2 => ?_
    simp only [↓eVar, ↓eC, ↓eBin, ↓eUn, ↓eB, ↓eTup, ↓eLst, ↓eAnd, ↓eOr, ↓eNot, ↓eIf, ↓eChain, ↓eSlice, ↓eM, ↓eStr1, ↓eIsi, ↓oNo, ↓oPart, ↓tst, ↓ftAnd, ↓ftOr, ↓ftNot, ↓ftYes, ↓args, ↓gI, ↓gI0, ↓gSubI, ↓gFdiv, ↓gMod, ↓gPow, ↓gLt, ↓gLe, ↓gGt, ↓gGe, ↓gAdd, ↓gMul, ↓gRep, ↓gIx, ↓gIsN, ↓gNotN, ↓gNeg, ↓gEqN, ↓gIn, ↓gInSeq, ↓gLen, ↓gSlice, ↓gList, ↓gTuple, ↓gMin2, ↓gMax2, ↓gStr, ↓gInt, ↓newL, ↓mAppend, ↓mInsert, ↓mPopAt, ↓mIndex, ↓gSplit, ↓gJoin, List.map_cons, List.map_nil, List.length_cons, List.length_nil, List.length_map, List.cons_append, List.nil_append, Nat.reduceAdd, Nat.reduceSub, List.getElem?_cons_zero, List.getElem?_cons_succ, List.getElem?_map, Option.map_some, List.set_cons_zero, List.set_cons_succ, isNon, seqOf, listOf, atI_nn, atI_0, atI_1, atI_2, atI_3, encNet, encSt, encRow, encR, encO, encP, nats, encT, Od.raw, if_true, if_false, ite_true, ite_false, Bool.false_eq_true, Bool.true_eq_false, Bool.not_true, Bool.not_false, decide_true, decide_false, reduceIte, eq_self, and_true, true_and, sn_set_put, sn_set_take, sn_set_add, sn_put_set, sn_put_take, sn_put_add, sn_take_set, sn_take_put, sn_take_add, sn_add_set, sn_add_put, sn_add_take, dv z2 (k := 7) (by decide) (by decide), show (0 : Int) < 9 by decide]
    by_cases e : z2 / 7 % 9 = 8
    · rw [if_pos (decide_eq_true e)]
      show eBin _ _ _ _ _ _ _
      simp only [↓eVar, ↓eC, ↓eBin, ↓eUn, ↓eB, ↓eTup, ↓eLst, ↓eAnd, ↓eOr, ↓eNot, ↓eIf, ↓eChain, ↓eSlice, ↓eM, ↓eStr1, ↓eIsi, ↓oNo, ↓oPart, ↓tst, ↓ftAnd, ↓ftOr, ↓ftNot, ↓ftYes, ↓args, ↓gI, ↓gI0, ↓gSubI, ↓gFdiv, ↓gMod, ↓gPow, ↓gLt, ↓gLe, ↓gGt, ↓gGe, ↓gAdd, ↓gMul, ↓gRep, ↓gIx, ↓gIsN, ↓gNotN, ↓gNeg, ↓gEqN, ↓gIn, ↓gInSeq, ↓gLen, ↓gSlice, ↓gList, ↓gTuple, ↓gMin2, ↓gMax2, ↓gStr, ↓gInt, ↓newL, ↓mAppend, ↓mInsert, ↓mPopAt, ↓mIndex, ↓gSplit, ↓gJoin, List.map_cons, List.map_nil, List.length_cons, List.length_nil, List.length_map, List.cons_append, List.nil_append, Nat.reduceAdd, Nat.reduceSub, List.getElem?_cons_zero, List.getElem?_cons_succ, List.getElem?_map, Option.map_some, List.set_cons_zero, List.set_cons_succ, isNon, seqOf, listOf, atI_nn, atI_0, atI_1, atI_2, atI_3, encNet, encSt, encRow, encR, encO, encP, nats, encT, Od.raw, if_true, if_false, ite_true, ite_false, Bool.false_eq_true, Bool.true_eq_false, Bool.not_true, Bool.not_false, decide_true, decide_false, reduceIte, eq_self, and_true, true_and, sn_set_put, sn_set_take, sn_set_add, sn_put_set, sn_put_take, sn_put_add, sn_take_set, sn_take_put, sn_take_add, sn_add_set, sn_add_put, sn_add_take, ↓eCall]
      refine cell_ok hc (k := 1) fun z3 hz3 => ?_
      obtain ⟨P, hP⟩ : ∃ P : Nat, 60 - z3 / 63 % 61 = P := ⟨(60 - z3 / 63 % 61).toNat, by omega⟩
      simp only [↓eVar, ↓eC, ↓eBin, ↓eUn, ↓eB, ↓eTup, ↓eLst, ↓eAnd, ↓eOr, ↓eNot, ↓eIf, ↓eChain, ↓eSlice, ↓eM, ↓eStr1, ↓eIsi, ↓oNo, ↓oPart, ↓tst, ↓ftAnd, ↓ftOr, ↓ftNot, ↓ftYes, ↓args, ↓gI, ↓gI0, ↓gSubI, ↓gFdiv, ↓gMod, ↓gPow, ↓gLt, ↓gLe, ↓gGt, ↓gGe, ↓gAdd, ↓gMul, ↓gRep, ↓gIx, ↓gIsN, ↓gNotN, ↓gNeg, ↓gEqN, ↓gIn, ↓gInSeq, ↓gLen, ↓gSlice, ↓gList, ↓gTuple, ↓gMin2, ↓gMax2, ↓gStr, ↓gInt, ↓newL, ↓mAppend, ↓mInsert, ↓mPopAt, ↓mIndex, ↓gSplit, ↓gJoin, List.map_cons, List.map_nil, List.length_cons, List.length_nil, List.length_map, List.cons_append, List.nil_append, Nat.reduceAdd, Nat.reduceSub, List.getElem?_cons_zero, List.getElem?_cons_succ, List.getElem?_map, Option.map_some, List.set_cons_zero, List.set_cons_succ, isNon, seqOf, listOf, atI_nn, atI_0, atI_1, atI_2, atI_3, encNet, encSt, encRow, encR, encO, encP, nats, encT, Od.raw, if_true, if_false, ite_true, ite_false, Bool.false_eq_true, Bool.true_eq_false, Bool.not_true, Bool.not_false, decide_true, decide_false, reduceIte, eq_self, and_true, true_and, sn_set_put, sn_set_take, sn_set_add, sn_put_set, sn_put_take, sn_put_add, sn_take_set, sn_take_put, sn_take_add, sn_add_set, sn_add_put, sn_add_take, dv z3 (k := 63) (by decide) (by decide), show (0 : Int) < 61 by decide, hP]
      exact k _ _ ⟨P, by omega, rfl, rfl⟩
    · rw [if_neg (by rw [decide_eq_false e]; exact Bool.false_ne_true)]
      obtain ⟨P, hP⟩ : ∃ P : Nat, z1 % 7 = P := ⟨(z1 % 7).toNat, by omega⟩
      refine k _ _ ⟨P, by omega, rfl, ?_⟩
      rw [hP]
  rintro _ _ ⟨P, hP, rfl, rfl⟩
  -- the pipes
  have hP2 := small62 (n := P) (by omega)
  refine st_lc (M1 := []) (xs := rngD 0 P) (ok := okAny) (by intro R E hq; simp only [↓iSeqD, ↓iRng1D, ↓iRng2D, ↓iRng3D, ↓iEnumD, ↓iEnumTD, ↓eVar, ↓eC, ↓eBin, ↓eUn, ↓eB, ↓eTup, ↓eLst, ↓eAnd, ↓eOr, ↓eNot, ↓eIf, ↓eChain, ↓eSlice, ↓eM, ↓eStr1, ↓eIsi, ↓oNo, ↓oPart, ↓tst, ↓ftAnd, ↓ftOr, ↓ftNot, ↓ftYes, ↓args, ↓gI, ↓gI0, ↓gSubI, ↓gFdiv, ↓gMod, ↓gPow, ↓gLt, ↓gLe, ↓gGt, ↓gGe, ↓gAdd, ↓gMul, ↓gRep, ↓gIx, ↓gIsN, ↓gNotN, ↓gNeg, ↓gEqN, ↓gIn, ↓gInSeq, ↓gLen, ↓gSlice, ↓gList, ↓gTuple, ↓gMin2, ↓gMax2, ↓gStr, ↓gInt, ↓newL, ↓mAppend, ↓mInsert, ↓mPopAt, ↓mIndex, ↓gSplit, ↓gJoin, List.map_cons, List.map_nil, List.length_cons, List.length_nil, List.length_map, List.cons_append, List.nil_append, Nat.reduceAdd, Nat.reduceSub, List.getElem?_cons_zero, List.getElem?_cons_succ, List.getElem?_map, Option.map_some, List.set_cons_zero, List.set_cons_succ, isNon, seqOf, listOf, atI_nn, atI_0, atI_1, atI_2, atI_3, encNet, encSt, encRow, encR, encO, encP, nats, encT, Od.raw, if_true, if_false, ite_true, ite_false, Bool.false_eq_true, Bool.true_eq_false, Bool.not_true, Bool.not_false, decide_true, decide_false, reduceIte, eq_self, and_true, true_and, sn_set_put, sn_set_take, sn_set_add, sn_put_set, sn_put_take, sn_put_add, sn_take_set, sn_take_put, sn_take_add, sn_add_set, sn_add_put, sn_add_take, hP2, Int.toNat_natCast]; exact hq) (by rw [rngD_len]; exact million (by omega)) ?_
  unfold rngD
  refine lc_enc (fun (i : Nat) => D.int (0 + (i : Int))) encP (fun p => p.ma < W ∧ p.ta < W ∧ 1 ≤ p.ro ∧ p.ro ≤ 1000) trivial _ _ ?_ ?_
  · intro i hi Q hQ
    have hi2 : i < P := List.mem_range.mp hi
    show eCall _ _ _ _ _ _
    obtain ⟨k, hk⟩ : ∃ k : Nat, (2 : Int) + (0 + (i : Int)) % 7 = k := ⟨2 + i % 7, by omega⟩
    simp only [↓eVar, ↓eC, ↓eBin, ↓eUn, ↓eB, ↓eTup, ↓eLst, ↓eAnd, ↓eOr, ↓eNot, ↓eIf, ↓eChain, ↓eSlice, ↓eM, ↓eStr1, ↓eIsi, ↓oNo, ↓oPart, ↓tst, ↓ftAnd, ↓ftOr, ↓ftNot, ↓ftYes, ↓args, ↓gI, ↓gI0, ↓gSubI, ↓gFdiv, ↓gMod, ↓gPow, ↓gLt, ↓gLe, ↓gGt, ↓gGe, ↓gAdd, ↓gMul, ↓gRep, ↓gIx, ↓gIsN, ↓gNotN, ↓gNeg, ↓gEqN, ↓gIn, ↓gInSeq, ↓gLen, ↓gSlice, ↓gList, ↓gTuple, ↓gMin2, ↓gMax2, ↓gStr, ↓gInt, ↓newL, ↓mAppend, ↓mInsert, ↓mPopAt, ↓mIndex, ↓gSplit, ↓gJoin, List.map_cons, List.map_nil, List.length_cons, List.length_nil, List.length_map, List.cons_append, List.nil_append, Nat.reduceAdd, Nat.reduceSub, List.getElem?_cons_zero, List.getElem?_cons_succ, List.getElem?_map, Option.map_some, List.set_cons_zero, List.set_cons_succ, isNon, seqOf, listOf, atI_nn, atI_0, atI_1, atI_2, atI_3, encNet, encSt, encRow, encR, encO, encP, nats, encT, Od.raw, if_true, if_false, ite_true, ite_false, Bool.false_eq_true, Bool.true_eq_false, Bool.not_true, Bool.not_false, decide_true, decide_false, reduceIte, eq_self, and_true, true_and, sn_set_put, sn_set_take, sn_set_add, sn_put_set, sn_put_take, sn_put_add, sn_take_set, sn_take_put, sn_take_add, sn_add_set, sn_add_put, sn_add_take, ↓eCall, wipeD, show (0 : Int) < 7 by decide, hk]
    refine cell_ok hc fun z hz => ?_
    have m97 : IntMulOk 97 ((0 + (i : Int)) / 7) := big_mul (Nat.lt_of_lt_of_le (m := 1000000000) (by decide) (Nat.le_trans (by omega) sml_big)) (by
      have : ((0 + (i : Int)) / 7).natAbs < 64 := by omega
      exact Nat.lt_of_lt_of_le this (by decide))
    simp only [↓eVar, ↓eC, ↓eBin, ↓eUn, ↓eB, ↓eTup, ↓eLst, ↓eAnd, ↓eOr, ↓eNot, ↓eIf, ↓eChain, ↓eSlice, ↓eM, ↓eStr1, ↓eIsi, ↓oNo, ↓oPart, ↓tst, ↓ftAnd, ↓ftOr, ↓ftNot, ↓ftYes, ↓args, ↓gI, ↓gI0, ↓gSubI, ↓gFdiv, ↓gMod, ↓gPow, ↓gLt, ↓gLe, ↓gGt, ↓gGe, ↓gAdd, ↓gMul, ↓gRep, ↓gIx, ↓gIsN, ↓gNotN, ↓gNeg, ↓gEqN, ↓gIn, ↓gInSeq, ↓gLen, ↓gSlice, ↓gList, ↓gTuple, ↓gMin2, ↓gMax2, ↓gStr, ↓gInt, ↓newL, ↓mAppend, ↓mInsert, ↓mPopAt, ↓mIndex, ↓gSplit, ↓gJoin, List.map_cons, List.map_nil, List.length_cons, List.length_nil, List.length_map, List.cons_append, List.nil_append, Nat.reduceAdd, Nat.reduceSub, List.getElem?_cons_zero, List.getElem?_cons_succ, List.getElem?_map, Option.map_some, List.set_cons_zero, List.set_cons_succ, isNon, seqOf, listOf, atI_nn, atI_0, atI_1, atI_2, atI_3, encNet, encSt, encRow, encR, encO, encP, nats, encT, Od.raw, if_true, if_false, ite_true, ite_false, Bool.false_eq_true, Bool.true_eq_false, Bool.not_true, Bool.not_false, decide_true, decide_false, reduceIte, eq_self, and_true, true_and, sn_set_put, sn_set_take, sn_set_add, sn_put_set, sn_put_take, sn_put_add, sn_take_set, sn_take_put, sn_take_add, sn_add_set, sn_add_put, sn_add_take, ↓eCall, dv (0 + (i : Int)) (k := 7) (by decide) (by decide), m97]
    exact ⟨_, W, rfl, hW0, by omega, fun p h1 h2 h3 h4 => hQ p ⟨h1, h2, h3, h4⟩⟩
  intro ps hpl hps
  rw [List.length_range] at hpl
  simp only [↓eVar, ↓eC, ↓eBin, ↓eUn, ↓eB, ↓eTup, ↓eLst, ↓eAnd, ↓eOr, ↓eNot, ↓eIf, ↓eChain, ↓eSlice, ↓eM, ↓eStr1, ↓eIsi, ↓oNo, ↓oPart, ↓tst, ↓ftAnd, ↓ftOr, ↓ftNot, ↓ftYes, ↓args, ↓gI, ↓gI0, ↓gSubI, ↓gFdiv, ↓gMod, ↓gPow, ↓gLt, ↓gLe, ↓gGt, ↓gGe, ↓gAdd, ↓gMul, ↓gRep, ↓gIx, ↓gIsN, ↓gNotN, ↓gNeg, ↓gEqN, ↓gIn, ↓gInSeq, ↓gLen, ↓gSlice, ↓gList, ↓gTuple, ↓gMin2, ↓gMax2, ↓gStr, ↓gInt, ↓newL, ↓mAppend, ↓mInsert, ↓mPopAt, ↓mIndex, ↓gSplit, ↓gJoin, List.map_cons, List.map_nil, List.length_cons, List.length_nil, List.length_map, List.cons_append, List.nil_append, Nat.reduceAdd, Nat.reduceSub, List.getElem?_cons_zero, List.getElem?_cons_succ, List.getElem?_map, Option.map_some, List.set_cons_zero, List.set_cons_succ, isNon, seqOf, listOf, atI_nn, atI_0, atI_1, atI_2, atI_3, encNet, encSt, encRow, encR, encO, encP, nats, encT, Od.raw, if_true, if_false, ite_true, ite_false, Bool.false_eq_true, Bool.true_eq_false, Bool.not_true, Bool.not_false, decide_true, decide_false, reduceIte, eq_self, and_true, true_and, sn_set_put, sn_set_take, sn_set_add, sn_put_set, sn_put_take, sn_put_add, sn_take_set, sn_take_put, sn_take_add, sn_add_set, sn_add_put, sn_add_take, newL]
  -- the cells
  have hn := hc.1
  obtain ⟨n, hr, hnb, hin⟩ := rgc hs (by omega : c ≤ 1000) (by omega : b ≤ 1000) (by omega : ns.length ≤ 1000)
  refine st_lc (M1 := []) (xs := rngC b c n) (ok := okAny) (by
    intro R E hq
    simp only [↓eVar, ↓eC, ↓eBin, ↓eUn, ↓eB, ↓eTup, ↓eLst, ↓eAnd, ↓eOr, ↓eNot, ↓eIf, ↓eChain, ↓eSlice, ↓eM, ↓eStr1, ↓eIsi, ↓oNo, ↓oPart, ↓tst, ↓ftAnd, ↓ftOr, ↓ftNot, ↓ftYes, ↓args, ↓gI, ↓gI0, ↓gSubI, ↓gFdiv, ↓gMod, ↓gPow, ↓gLt, ↓gLe, ↓gGt, ↓gGe, ↓gAdd, ↓gMul, ↓gRep, ↓gIx, ↓gIsN, ↓gNotN, ↓gNeg, ↓gEqN, ↓gIn, ↓gInSeq, ↓gLen, ↓gSlice, ↓gList, ↓gTuple, ↓gMin2, ↓gMax2, ↓gStr, ↓gInt, ↓newL, ↓mAppend, ↓mInsert, ↓mPopAt, ↓mIndex, ↓gSplit, ↓gJoin, List.map_cons, List.map_nil, List.length_cons, List.length_nil, List.length_map, List.cons_append, List.nil_append, Nat.reduceAdd, Nat.reduceSub, List.getElem?_cons_zero, List.getElem?_cons_succ, List.getElem?_map, Option.map_some, List.set_cons_zero, List.set_cons_succ, isNon, seqOf, listOf, atI_nn, atI_0, atI_1, atI_2, atI_3, encNet, encSt, encRow, encR, encO, encP, nats, encT, Od.raw, if_true, if_false, ite_true, ite_false, Bool.false_eq_true, Bool.true_eq_false, Bool.not_true, Bool.not_false, decide_true, decide_false, reduceIte, eq_self, and_true, true_and, sn_set_put, sn_set_take, sn_set_add, sn_put_set, sn_put_take, sn_put_add, sn_take_set, sn_take_put, sn_take_add, sn_add_set, sn_add_put, sn_add_take, ↓iRng3D, intL]
    exact ⟨n, hr, hq⟩) (by rw [rngC_len]; exact million (by omega)) ?_
  unfold rngC
  refine lc_enc (fun (i : Nat) => D.int ((b : Int) + (i : Int) * c)) D.int (fun z => z.natAbs < sml) trivial _ _ ?_ ?_
  · intro i hi Q hQ
    have hi2 := hin i (List.mem_range.mp hi)
    obtain ⟨k, hk⟩ : ∃ k : Nat, (b : Int) + (i : Int) * c = k := ⟨b + i * c, by push_cast; rfl⟩
    have hkl : k < ns.length := by omega
    have hkg : ns[k]? = some ns[k] := List.getElem?_eq_getElem hkl
    show eBin _ _ _ _ _ _ _
    unfold intL
    simp only [↓eVar, ↓eC, ↓eBin, ↓eUn, ↓eB, ↓eTup, ↓eLst, ↓eAnd, ↓eOr, ↓eNot, ↓eIf, ↓eChain, ↓eSlice, ↓eM, ↓eStr1, ↓eIsi, ↓oNo, ↓oPart, ↓tst, ↓ftAnd, ↓ftOr, ↓ftNot, ↓ftYes, ↓args, ↓gI, ↓gI0, ↓gSubI, ↓gFdiv, ↓gMod, ↓gPow, ↓gLt, ↓gLe, ↓gGt, ↓gGe, ↓gAdd, ↓gMul, ↓gRep, ↓gIx, ↓gIsN, ↓gNotN, ↓gNeg, ↓gEqN, ↓gIn, ↓gInSeq, ↓gLen, ↓gSlice, ↓gList, ↓gTuple, ↓gMin2, ↓gMax2, ↓gStr, ↓gInt, ↓newL, ↓mAppend, ↓mInsert, ↓mPopAt, ↓mIndex, ↓gSplit, ↓gJoin, List.map_cons, List.map_nil, List.length_cons, List.length_nil, List.length_map, List.cons_append, List.nil_append, Nat.reduceAdd, Nat.reduceSub, List.getElem?_cons_zero, List.getElem?_cons_succ, List.getElem?_map, Option.map_some, List.set_cons_zero, List.set_cons_succ, isNon, seqOf, listOf, atI_nn, atI_0, atI_1, atI_2, atI_3, encNet, encSt, encRow, encR, encO, encP, nats, encT, Od.raw, if_true, if_false, ite_true, ite_false, Bool.false_eq_true, Bool.true_eq_false, Bool.not_true, Bool.not_false, decide_true, decide_false, reduceIte, eq_self, and_true, true_and, sn_set_put, sn_set_take, sn_set_add, sn_put_set, sn_put_take, sn_put_add, sn_take_set, sn_take_put, sn_take_add, sn_add_set, sn_add_put, sn_add_take, wipeD, hk, hkg]
    exact hQ _ (hc.2 _ (List.getElem_mem hkl))
  intro cs hcl hcs
  simp only [↓eVar, ↓eC, ↓eBin, ↓eUn, ↓eB, ↓eTup, ↓eLst, ↓eAnd, ↓eOr, ↓eNot, ↓eIf, ↓eChain, ↓eSlice, ↓eM, ↓eStr1, ↓eIsi, ↓oNo, ↓oPart, ↓tst, ↓ftAnd, ↓ftOr, ↓ftNot, ↓ftYes, ↓args, ↓gI, ↓gI0, ↓gSubI, ↓gFdiv, ↓gMod, ↓gPow, ↓gLt, ↓gLe, ↓gGt, ↓gGe, ↓gAdd, ↓gMul, ↓gRep, ↓gIx, ↓gIsN, ↓gNotN, ↓gNeg, ↓gEqN, ↓gIn, ↓gInSeq, ↓gLen, ↓gSlice, ↓gList, ↓gTuple, ↓gMin2, ↓gMax2, ↓gStr, ↓gInt, ↓newL, ↓mAppend, ↓mInsert, ↓mPopAt, ↓mIndex, ↓gSplit, ↓gJoin, List.map_cons, List.map_nil, List.length_cons, List.length_nil, List.length_map, List.cons_append, List.nil_append, Nat.reduceAdd, Nat.reduceSub, List.getElem?_cons_zero, List.getElem?_cons_succ, List.getElem?_map, Option.map_some, List.set_cons_zero, List.set_cons_succ, isNon, seqOf, listOf, atI_nn, atI_0, atI_1, atI_2, atI_3, encNet, encSt, encRow, encR, encO, encP, nats, encT, Od.raw, if_true, if_false, ite_true, ite_false, Bool.false_eq_true, Bool.true_eq_false, Bool.not_true, Bool.not_false, decide_true, decide_false, reduceIte, eq_self, and_true, true_and, sn_set_put, sn_set_take, sn_set_add, sn_put_set, sn_put_take, sn_put_add, sn_take_set, sn_take_put, sn_take_add, sn_add_set, sn_add_put, sn_add_take, newL]
  show eTup _ _ _ _ _
  simp only [↓eVar, ↓eC, ↓eBin, ↓eUn, ↓eB, ↓eTup, ↓eLst, ↓eAnd, ↓eOr, ↓eNot, ↓eIf, ↓eChain, ↓eSlice, ↓eM, ↓eStr1, ↓eIsi, ↓oNo, ↓oPart, ↓tst, ↓ftAnd, ↓ftOr, ↓ftNot, ↓ftYes, ↓args, ↓gI, ↓gI0, ↓gSubI, ↓gFdiv, ↓gMod, ↓gPow, ↓gLt, ↓gLe, ↓gGt, ↓gGe, ↓gAdd, ↓gMul, ↓gRep, ↓gIx, ↓gIsN, ↓gNotN, ↓gNeg, ↓gEqN, ↓gIn, ↓gInSeq, ↓gLen, ↓gSlice, ↓gList, ↓gTuple, ↓gMin2, ↓gMax2, ↓gStr, ↓gInt, ↓newL, ↓mAppend, ↓mInsert, ↓mPopAt, ↓mIndex, ↓gSplit, ↓gJoin, List.map_cons, List.map_nil, List.length_cons, List.length_nil, List.length_map, List.cons_append, List.nil_append, Nat.reduceAdd, Nat.reduceSub, List.getElem?_cons_zero, List.getElem?_cons_succ, List.getElem?_map, Option.map_some, List.set_cons_zero, List.set_cons_succ, isNon, seqOf, listOf, atI_nn, atI_0, atI_1, atI_2, atI_3, encNet, encSt, encRow, encR, encO, encP, nats, encT, Od.raw, if_true, if_false, ite_true, ite_false, Bool.false_eq_true, Bool.true_eq_false, Bool.not_true, Bool.not_false, decide_true, decide_false, reduceIte, eq_self, and_true, true_and, sn_set_put, sn_set_take, sn_set_add, sn_put_set, sn_put_take, sn_put_add, sn_take_set, sn_take_put, sn_take_add, sn_add_set, sn_add_put, sn_add_take, ↓eCall, show (0 : Int) < 3 by decide]
  refine hG cs ps W _ _ _ hW0 hW (by omega) (fun p hp => ⟨(hps p hp).1, (hps p hp).2.1⟩) hcs fun rs I => ?_
  have hq := hq ⟨ps, rs⟩ ⟨by show 0 < rs.length; rw [I.len]; exact hW0, by show rs.length ≤ 20; rw [I.len]; exact hW, by show ps.length ≤ 60; omega, I.short, fun p hp => by show p.ma < rs.length ∧ p.ta < rs.length ∧ _; rw [I.len]; exact hps p hp, I.ords⟩
  exact hq
/-- the net frozen -/
def G_net_by : GS := fun ds M Q E => ∃ (ns : List Int) (b c : Nat), ds = [.scr (intL ns), .int (b : Int), .int (c : Int)] ∧ M = [] ∧ Cells ns ∧ b ≤ 100 ∧ 0 < c ∧ c ≤ 100 ∧ ∀ N, Made N → Q (encNet N) []
theorem sem_net_by : ∀ ds M Q E, G_net_by ds M Q E → f_net_by G_cell_at G_pipe_by G_rows_byF (exits false M Q E) (startD 9 ds) M := by
  rintro ds M Q E ⟨ns, b, c, rfl, rfl, hc, hb, h1, h2, hq⟩
  exact net_run (res := fun rs => .lst (rs.map encRow)) (sto := fun _ => []) hc hb h1 h2 (fun cs ps W even Q E a1 a2 a3 a4 a5 h => ⟨cs, ps, W, even, rfl, rfl, a1, a2, a3, a4, a5, h⟩) hq
/-- the net with its rows in places -/
def G_net_byS : GS := fun ds M Q E => ∃ (ns : List Int) (b c : Nat), ds = [.scr (intL ns), .int (b : Int), .int (c : Int)] ∧ M = [] ∧ Cells ns ∧ b ≤ 100 ∧ 0 < c ∧ c ≤ 100 ∧ ∀ N, Made N → Q (.tup [.lst (N.pipes.map encP), .loc N.W]) (rowsM N.rows)
theorem sem_net_byS : ∀ ds M Q E, G_net_byS ds M Q E → f_net_by G_cell_at G_pipe_by G_rows_by (exits false M Q E) (startD 9 ds) M := by
  rintro ds M Q E ⟨ns, b, c, rfl, rfl, hc, hb, h1, h2, hq⟩
  exact net_run (res := fun rs => .loc rs.length) (sto := rowsM) hc hb h1 h2 (fun cs ps W even Q E a1 a2 a3 a4 a5 h => ⟨cs, ps, W, even, rfl, rfl, a1, a2, a3, a4, a5, fun rs I => by
    have := h rs I
    rw [I.len] at this
    exact this⟩) hq
end DL
namespace DL
open PySem PySem.Spec PyProof.Rows L2

/-! ### sequences frozen or in the store -/
def SeqIn (M : Sto) (d : D) (xs : List D) : Prop := d = .lst xs ∨ ∃ n, d = .loc n ∧ M[n]? = some xs
theorem SeqIn.seq {M : Sto} {d : D} {xs : List D} (h : SeqIn M d xs) : seqOf d M = some xs := by
  rcases h with h | ⟨n, h, e⟩ <;> subst h
  · rfl
  · exact e
theorem iv_seq {f : FE} {ds : DS} {M M1 : Sto} {d : D} {xs : List D} (he : Ev f ds M d M1) (h : SeqIn M1 d xs) : ∃ ok, Iv (iSeqD f) ds M xs ok M1 ∧ ∀ M', SeqIn M' d xs → ok M' := by
  rcases h with h | ⟨n, h, e⟩ <;> subst h
  · exact ⟨okAny, fun R E q => he _ _ q, fun _ _ => trivial⟩
  · refine ⟨fun M => M[n]? = some xs, fun R E q => he _ _ ?_, fun M' h => ?_⟩
    · show match M1[n]? with | some xs => R xs (fun M => M[n]? = some xs) M1 | none => False
      rw [e]
      exact q
    · rcases h with h | ⟨m, h, e⟩
      · cases h
      · cases h; exact e
/-- rows in a store -/
def RowsIn (M : Sto) (d : D) (rows : List (List Od)) : Prop := ∃ rds, SeqIn M d rds ∧ rds.length = rows.length ∧ ∀ w rd, rds[w]? = some rd → SeqIn M rd ((rows.getD w []).map encO)
theorem rowsIn_lst {M : Sto} {rows : List (List Od)} : RowsIn M (.lst (rows.map encRow)) rows := by
  refine ⟨rows.map encRow, .inl rfl, by simp, fun w rd h => ?_⟩
  rw [List.getElem?_map] at h
  by_cases hw : w < rows.length
  · rw [getD_of (d := []) hw] at h
    cases h
    exact .inl rfl
  · rw [List.getElem?_eq_none (by omega)] at h
    cases h
theorem rowsIn_loc {rows : List (List Od)} {more : Sto} : RowsIn (rowsM rows ++ more) (.loc rows.length) rows := by
  have hl : (rowsM rows).length = rows.length + 1 := by unfold rowsM; simp
  refine ⟨(List.range rows.length).map D.loc, .inr ⟨_, rfl, ?_⟩, by simp, fun w rd h => ?_⟩
  · rw [List.getElem?_append_left (by omega)]
    exact rowsM_top rfl
  · have hw : w < rows.length := by
      by_cases hw : w < rows.length
      · exact hw
      · rw [List.getElem?_eq_none (by simp; omega)] at h
        cases h
    rw [locs_at hw] at h
    cases h
    refine .inr ⟨w, rfl, ?_⟩
    rw [List.getElem?_append_left (by omega)]
    exact rowsM_at hw

/-! ### == -/
def pO (o : Od) : PyData := .tuple [.str o.raw.1, .int o.raw.2]
def pP (p : Pip) : PyData := .tuple [.int p.ma, .int p.ta, .int p.ro]
def pRows (rows : List (List Od)) : PyData := .list (rows.map fun r => .list (r.map pO))
def pNet (N : Net) : PyData := .tuple [.list (N.pipes.map pP), pRows N.rows]
theorem py_O {M : Sto} {n : Nat} {o : Od} : py M (n + 2) (encO o) = some (pO o) := by unfold encO encR py optAll py optAll py optAll; rfl
theorem py_P {M : Sto} {n : Nat} {p : Pip} : py M (n + 2) (encP p) = some (pP p) := by unfold encP py optAll py optAll py optAll py optAll; rfl
theorem optAll_map2 {α β : Type} {f : D → Option β} {g : α → D} {h : α → β} : ∀ (L : List α), (∀ a ∈ L, f (g a) = some (h a)) → optAll f (L.map g) = some (L.map h)
  | [], _ => rfl
  | a :: L, e => by
    have ih := optAll_map2 L fun b hb => e b (List.mem_cons_of_mem _ hb)
    simp only [List.map_cons, optAll, e a List.mem_cons_self, ih]
theorem optAll_get {β : Type} {f : D → Option β} : ∀ {L : List D} {bs : List β}, L.length = bs.length → (∀ (i : Nat) (d : D) (b : β), L[i]? = some d → bs[i]? = some b → f d = some b) → optAll f L = some bs
  | [], [], _, _ => rfl
  | d :: L, b :: bs, h, e => by
    have ih := optAll_get (L := L) (bs := bs) (by simpa using h) fun i d b h1 h2 => e (i + 1) d b (by simpa using h1) (by simpa using h2)
    simp only [optAll, e 0 d b rfl rfl, ih]
theorem py_seq {M : Sto} {n : Nat} {d : D} {xs : List D} (h : SeqIn M d xs) : py M (n + 1) d = (optAll (py M n) xs).map .list := by
  rcases h with h | ⟨k, h, e⟩ <;> subst h
  · unfold py; rfl
  · unfold py; simp only [e]
theorem py_row {M : Sto} {n : Nat} {d : D} {row : List Od} (h : SeqIn M d (row.map encO)) : py M (n + 3) d = some (.list (row.map pO)) := by
  rw [py_seq h, optAll_map2 row fun o _ => py_O]
  rfl
theorem py_rows {M : Sto} {n : Nat} {d : D} {rows : List (List Od)} (h : RowsIn M d rows) : py M (n + 4) d = some (pRows rows) := by
  obtain ⟨rds, h1, h2, h3⟩ := h
  rw [py_seq h1, optAll_get (bs := rows.map fun r => .list (r.map pO)) (by rw [h2, List.length_map]) fun i d b e1 e2 => ?_]
  · rfl
  · rw [py_row (h3 i d e1)]
    rw [List.getElem?_map] at e2
    cases e : rows[i]? with
    | none => rw [e] at e2; cases e2
    | some r =>
      rw [e] at e2
      cases e2
      rw [List.getD_eq_getElem?_getD, e]
      rfl
theorem py_pipes {M : Sto} {n : Nat} {ps : List Pip} : py M (n + 3) (.lst (ps.map encP)) = some (.list (ps.map pP)) := by
  rw [py_seq (.inl rfl), optAll_map2 ps fun p _ => py_P]
  rfl
theorem py_net {M : Sto} {n : Nat} {N : Net} {d : D} (h : RowsIn M d N.rows) : py M (n + 5) (.tup [.lst (N.pipes.map encP), d]) = some (pNet N) := by
  have e1 := py_pipes (M := M) (n := n + 1) (ps := N.pipes)
  have e2 := py_rows (n := n) h
  unfold py
  simp only [optAll, e1, e2]
  rfl
theorem canLay_all {α : Type} {f : α → PyData} : ∀ (L : List α), (∀ a ∈ L, (f a).canLay0 = true) → PyData.canLayAll0 (L.map f) = true
  | [], _ => rfl
  | a :: L, h => by
    rw [List.map_cons, PyData.canLayAll0, h a List.mem_cons_self, canLay_all L fun b hb => h b (List.mem_cons_of_mem _ hb)]
    rfl
theorem canLay_list {α : Type} {f : α → PyData} (L : List α) (h : ∀ a ∈ L, (f a).canLay0 = true) : (PyData.list (L.map f)).canLay0 = true := by
  rw [PyData.canLay0]; exact canLay_all L h
theorem canLay_O {o : Od} : (pO o).canLay0 = true := by
  unfold pO
  cases o <;> simp only [Od.raw, PyData.canLay0, PyData.canLayAll0, Bool.and_true] <;> decide +kernel
theorem canLay_P {p : Pip} : (pP p).canLay0 = true := by simp only [pP, PyData.canLay0, PyData.canLayAll0, Bool.and_true]
theorem canLay_rows {rows : List (List Od)} : (pRows rows).canLay0 = true := canLay_list rows fun r _ => canLay_list r fun _ _ => canLay_O
theorem canLay_pipes {ps : List Pip} : (PyData.list (ps.map pP)).canLay0 = true := canLay_list ps fun _ _ => canLay_P
theorem canLay_net {N : Net} : (pNet N).canLay0 = true := by simp only [pNet, PyData.canLay0, PyData.canLayAll0, canLay_rows, canLay_all N.pipes fun _ _ => canLay_P, Bool.and_true]
/-- what is seen alike is alike -/
theorem eq_alike {neg : Bool} {x y : D} {M : Sto} {p : PyData} {Q : KQ} (hx : py M 8 x = some p) (hy : py M 8 y = some p) (hp : p.canLay0 = true) (h : Q (.bl (!neg)) M) : gEqD neg x y M Q := by
  unfold gEqD
  rw [hx, hy]
  refine ⟨hp, hp, ?_⟩
  rw [SeqAt.eqv_refl p hp]
  cases neg <;> exact h
theorem py_ints {M : Sto} {n : Nat} {zs : List Int} : py M (n + 2) (.lst (zs.map D.int)) = some (.list (zs.map .int)) := by
  rw [py_seq (.inl rfl), optAll_map2 zs fun z _ => by unfold py; rfl]
  rfl
theorem canLay_ints {zs : List Int} : (PyData.list (zs.map .int)).canLay0 = true := canLay_list zs fun _ _ => by rw [PyData.canLay0]
/-- lists of numbers -/
theorem eq_ints {neg : Bool} {x y : D} {M : Sto} {as bs : List Int} {Q : KQ} (hx : py M 8 x = some (.list (as.map .int))) (hy : py M 8 y = some (.list (bs.map .int))) (h : Q (.bl (if neg then !decide (as = bs) else decide (as = bs))) M) : gEqD neg x y M Q := by
  unfold gEqD
  rw [hx, hy]
  refine ⟨canLay_ints, canLay_ints, ?_⟩
  have : PyData.eqv (.list (as.map .int)) (.list (bs.map .int)) = decide (as = bs) := PySem.W.Datum.eqv as bs
  rw [this]
  exact h

theorem newL_f {acc : List D} {M : Sto} {Q : KQ} (h : Q (.lst acc) M) : newL false acc M Q := by
  unfold newL
  simpa using h
/-! ### more comprehensions -/
theorem lc_filt {α : Type} {ok : Sto → Prop} {i : Nat} {t : FT} {e : FE} {ds : DS} {M : Sto} {Q : List D → Sto → Prop} (f F : α → D) (g : α → Bool) (hok : ok M) : ∀ (L : List α) (acc : List D),
    (∀ a ∈ L, Tv t ((ds.set i none).set i (some (f a))) M (g a) M ∧ Ev e ((ds.set i none).set i (some (f a))) M (F a) M) → Q (acc ++ (L.filter g).map F) M → lcW ok [i] (putNm i) t e (L.map f) acc ds M Q
  | [], acc, _, h => ⟨hok, by simpa using h⟩
  | a :: L, acc, hel, h => by
    refine ⟨hok, (hel a List.mem_cons_self).1 _ _ ?_⟩
    have ih := fun (acc : List D) (h : Q (acc ++ (L.filter g).map F) M) => lc_filt f F g hok L acc (fun b hb => hel b (List.mem_cons_of_mem _ hb)) h
    cases hg : g a with
    | true =>
      rw [if_pos rfl]
      refine (hel a List.mem_cons_self).2 _ _ (ih _ ?_)
      rw [List.filter_cons_of_pos hg] at h
      simpa using h
    | false =>
      rw [if_neg Bool.false_ne_true]
      rw [List.filter_cons_of_neg (by rw [hg]; exact Bool.false_ne_true)] at h
      exact ih _ h
/-- a comprehension over frozen items, each by itself, given as an expression -/
theorem lc_ev {α : Type} {ok : Sto → Prop} {i : Nat} {e : FE} {ds : DS} {M : Sto} {Q : List D → Sto → Prop} (f F : α → D) (hok : ok M) (L : List α) (hel : ∀ a ∈ L, Ev e ((ds.set i none).set i (some (f a))) M (F a) M) (h : Q (L.map F) M) : lcW ok [i] (putNm i) ftYes e (L.map f) [] ds M Q :=
  lc_map f F hok L [] (fun a ha Q q => hel a ha _ _ q) (by simpa using h)
/-- over places -/
theorem lc_get {ok : Sto → Prop} {i : Nat} {e : FE} {M : Sto} {ds : DS} {Q : List D → Sto → Prop} (hok : ok M) : ∀ (xs ys acc : List D), xs.length = ys.length → (∀ (k : Nat) (x y : D), xs[k]? = some x → ys[k]? = some y → Ev e ((ds.set i none).set i (some x)) M y M) → Q (acc ++ ys) M → lcW ok [i] (putNm i) ftYes e xs acc ds M Q
  | [], [], acc, _, _, h => ⟨hok, by simpa using h⟩
  | x :: xs, y :: ys, acc, hl, hel, h => ⟨hok, hel 0 x y rfl rfl _ _ (lc_get hok xs ys (acc ++ [y]) (by simpa using hl) (fun k x y h1 h2 => hel (k + 1) x y (by simpa using h1) (by simpa using h2)) (by simpa using h))⟩

section
variable {fi : FI} {g : FG} {b t : FS} {D' : EndsD} {ds : DS} {M M1 : Sto} {xs : List D} {ok : Sto → Prop}
/-- a loop, and what follows -/
theorem st_forI (hi : Iv fi ds M xs ok M1) (I : Nat → DS → Sto → Prop) (h0 : I 0 ds M1) (hok : ∀ i ds M, i ≤ xs.length → I i ds M → ok M)
    (step : ∀ i d ds M (nx : DS → Sto → Prop), xs[i]? = some d → I i ds M → (∀ ds M, I (i + 1) ds M → nx ds M) → g d ds M (fun ds1 M1 => b { D' with nx := nx, ct := nx, bk := t D' } ds1 M1) (fun n M1 => D'.ex n ds M1))
    (done : ∀ ds M, I xs.length ds M → t D' ds M) : sSeq (sFor fi g b) t D' ds M := st_for hi (forW_inv I h0 hok step done)
theorem st_lforI (hi : Iv fi ds M xs ok M1) (I : Nat → DS → Sto → Prop) (h0 : I 0 ds M1) (hok : ∀ i ds M, i ≤ xs.length → I i ds M → ok M)
    (step : ∀ i d ds M (nx : DS → Sto → Prop), xs[i]? = some d → I i ds M → (∀ ds M, I (i + 1) ds M → nx ds M) → g d ds M (fun ds1 M1 => b { D' with nx := nx, ct := nx, bk := D'.nx } ds1 M1) (fun n M1 => D'.ex n ds M1))
    (done : ∀ ds M, I xs.length ds M → D'.nx ds M) : sFor fi g b D' ds M := st_lfor hi (forW_inv I h0 hok step done)
end
theorem map_get {α : Type} {f : α → D} {L : List α} {i : Nat} {d : D} (h : (L.map f)[i]? = some d) : ∃ a, L[i]? = some a ∧ d = f a := by
  rw [List.getElem?_map] at h
  cases e : L[i]? with
  | none => rw [e] at h; cases h
  | some a => rw [e] at h; cases h; exact ⟨a, rfl, rfl⟩
/-! ### how much is put and taken -/
def isP (p : Nat) : Od → Bool
  | .put q => decide (q = p)
  | _ => false
def isT (p : Nat) : Od → Bool
  | .take q => decide (q = p)
  | .add q => decide (q = p)
  | _ => false
def cnt (g : Od → Bool) (rows : List (List Od)) : Nat := (rows.map fun r => (r.filter g).length).sum
def bal (N : Net) : Bool := (List.range N.P).all fun p => cnt (isP p) N.rows == cnt (isT p) N.rows
theorem cnt_take {g : Od → Bool} {rows : List (List Od)} {i : Nat} {r : List Od} (h : rows[i]? = some r) : cnt g (rows.take (i + 1)) = cnt g (rows.take i) + (r.filter g).length := by
  unfold cnt
  rw [List.take_succ, h, List.map_append, List.sum_append]
  simp
def wsP : List D := [.str "put"]
def wsT : List D := [.str "take", .str "add"]
def G_told_of_k03 : GS := fun ds M Q E => ∃ (rows : List (List Od)) (ws : List D) (p : Nat) (g : Od → Bool), ds = [.lst (rows.map encRow), .tup ws, .int (p : Int)] ∧ (ws = wsP ∧ g = isP p ∨ ws = wsT ∧ g = isT p) ∧ (∀ r ∈ rows, r.length ≤ 1000) ∧ Q (.int (cnt g rows : Nat)) M
theorem sem_told_of_k03 : ∀ ds M Q E, G_told_of_k03 ds M Q E → f_told_of_k03 (exits false M Q E) (startD 6 ds) M := by
  rintro ds M Q E ⟨rows, ws, p, g, rfl, hws, hl, hq⟩
  unfold f_told_of_k03
  simp only [startD, List.map_cons, List.map_nil, List.length_cons, List.length_nil, List.replicate, List.cons_append, List.nil_append, Nat.reduceAdd, Nat.reduceSub]
  refine st_set (M1 := M) (by intro Q E hq; simp only [↓eVar, ↓eC, ↓eBin, ↓eUn, ↓eB, ↓eTup, ↓eLst, ↓eAnd, ↓eOr, ↓eNot, ↓eIf, ↓eChain, ↓eSlice, ↓eM, ↓eStr1, ↓eIsi, ↓oNo, ↓oPart, ↓tst, ↓ftAnd, ↓ftOr, ↓ftNot, ↓ftYes, ↓args, ↓gI, ↓gI0, ↓gSubI, ↓gFdiv, ↓gMod, ↓gPow, ↓gLt, ↓gLe, ↓gGt, ↓gGe, ↓gAdd, ↓gMul, ↓gRep, ↓gIx, ↓gIsN, ↓gNotN, ↓gNeg, ↓gEqN, ↓gIn, ↓gInSeq, ↓gLen, ↓gSlice, ↓gList, ↓gTuple, ↓gMin2, ↓gMax2, ↓gStr, ↓gInt, ↓newL, ↓mAppend, ↓mInsert, ↓mPopAt, ↓mIndex, ↓gSplit, ↓gJoin, List.map_cons, List.map_nil, List.length_cons, List.length_nil, List.length_map, List.cons_append, List.nil_append, Nat.reduceAdd, Nat.reduceSub, List.getElem?_cons_zero, List.getElem?_cons_succ, List.getElem?_map, Option.map_some, List.set_cons_zero, List.set_cons_succ, isNon, seqOf, listOf, atI_nn, atI_0, atI_1, atI_2, atI_3, encNet, encSt, encRow, encR, encO, encP, nats, encT, Od.raw, if_true, if_false, ite_true, ite_false, Bool.false_eq_true, Bool.true_eq_false, Bool.not_true, Bool.not_false, decide_true, decide_false, reduceIte, eq_self, and_true, true_and, sn_set_put, sn_set_take, sn_set_add, sn_put_set, sn_put_take, sn_put_add, sn_take_set, sn_take_put, sn_take_add, sn_add_set, sn_add_put, sn_add_take]; exact hq) ?_
  refine seq_cut (fun ds M' => ∃ x4, M = M' ∧ ds = [some (.lst (rows.map encRow)), some (.tup ws), some (.int p), some (.int (cnt g rows : Nat)), x4, none]) ?_ ?_
  · intro nx k
    refine st_lfor (xs := rows.map encRow) (ok := okAny) (M1 := M) (by intro R E hq; simp only [↓iSeqD, ↓iRng1D, ↓iRng2D, ↓iRng3D, ↓iEnumD, ↓iEnumTD, ↓eVar, ↓eC, ↓eBin, ↓eUn, ↓eB, ↓eTup, ↓eLst, ↓eAnd, ↓eOr, ↓eNot, ↓eIf, ↓eChain, ↓eSlice, ↓eM, ↓eStr1, ↓eIsi, ↓oNo, ↓oPart, ↓tst, ↓ftAnd, ↓ftOr, ↓ftNot, ↓ftYes, ↓args, ↓gI, ↓gI0, ↓gSubI, ↓gFdiv, ↓gMod, ↓gPow, ↓gLt, ↓gLe, ↓gGt, ↓gGe, ↓gAdd, ↓gMul, ↓gRep, ↓gIx, ↓gIsN, ↓gNotN, ↓gNeg, ↓gEqN, ↓gIn, ↓gInSeq, ↓gLen, ↓gSlice, ↓gList, ↓gTuple, ↓gMin2, ↓gMax2, ↓gStr, ↓gInt, ↓newL, ↓mAppend, ↓mInsert, ↓mPopAt, ↓mIndex, ↓gSplit, ↓gJoin, List.map_cons, List.map_nil, List.length_cons, List.length_nil, List.length_map, List.cons_append, List.nil_append, Nat.reduceAdd, Nat.reduceSub, List.getElem?_cons_zero, List.getElem?_cons_succ, List.getElem?_map, Option.map_some, List.set_cons_zero, List.set_cons_succ, isNon, seqOf, listOf, atI_nn, atI_0, atI_1, atI_2, atI_3, encNet, encSt, encRow, encR, encO, encP, nats, encT, Od.raw, if_true, if_false, ite_true, ite_false, Bool.false_eq_true, Bool.true_eq_false, Bool.not_true, Bool.not_false, decide_true, decide_false, reduceIte, eq_self, and_true, true_and, sn_set_put, sn_set_take, sn_set_add, sn_put_set, sn_put_take, sn_put_add, sn_take_set, sn_take_put, sn_take_add, sn_add_set, sn_add_put, sn_add_take]; exact hq) ?_
    refine forW_inv (fun i ds M' => ∃ x4, M = M' ∧ ds = [some (.lst (rows.map encRow)), some (.tup ws), some (.int p), some (.int (cnt g (rows.take i) : Nat)), x4, none]) ⟨none, rfl, rfl⟩ (fun _ _ _ _ _ => trivial) ?_ ?_
    · rintro i d _ _ nx2 hd ⟨x4, rfl, rfl⟩ h2
      rw [List.getElem?_map] at hd
      cases e : rows[i]? with
      | none => rw [e] at hd; cases hd
      | some r =>
        rw [e] at hd
        cases hd
        have hr := hl r (List.mem_of_getElem? e)
        have hlc : Ev (eLc false (iSeqD (eVar 4)) [5] (putNm 5) (ftAnd (tst (eBin (gIn false) (eBin gIx (eVar 5) (eC (.int 0))) (eVar 1))) (tst (eBin (gEqN false) (eBin gIx (eVar 5) (eC (.int 1))) (eVar 2)))) (eVar 5))
            [some (.lst (rows.map encRow)), some (.tup ws), some (.int p), some (.int (cnt g (rows.take i) : Nat)), some (encRow r), none] M (.lst ((r.filter g).map encO)) M := by
          refine ev_lc (xs := r.map encO) (ok := okAny) (M1 := M) (M2 := M) (acc := (r.filter g).map encO) (by intro R E hq; simp only [↓iSeqD, ↓iRng1D, ↓iRng2D, ↓iRng3D, ↓iEnumD, ↓iEnumTD, ↓eVar, ↓eC, ↓eBin, ↓eUn, ↓eB, ↓eTup, ↓eLst, ↓eAnd, ↓eOr, ↓eNot, ↓eIf, ↓eChain, ↓eSlice, ↓eM, ↓eStr1, ↓eIsi, ↓oNo, ↓oPart, ↓tst, ↓ftAnd, ↓ftOr, ↓ftNot, ↓ftYes, ↓args, ↓gI, ↓gI0, ↓gSubI, ↓gFdiv, ↓gMod, ↓gPow, ↓gLt, ↓gLe, ↓gGt, ↓gGe, ↓gAdd, ↓gMul, ↓gRep, ↓gIx, ↓gIsN, ↓gNotN, ↓gNeg, ↓gEqN, ↓gIn, ↓gInSeq, ↓gLen, ↓gSlice, ↓gList, ↓gTuple, ↓gMin2, ↓gMax2, ↓gStr, ↓gInt, ↓newL, ↓mAppend, ↓mInsert, ↓mPopAt, ↓mIndex, ↓gSplit, ↓gJoin, List.map_cons, List.map_nil, List.length_cons, List.length_nil, List.length_map, List.cons_append, List.nil_append, Nat.reduceAdd, Nat.reduceSub, List.getElem?_cons_zero, List.getElem?_cons_succ, List.getElem?_map, Option.map_some, List.set_cons_zero, List.set_cons_succ, isNon, seqOf, listOf, atI_nn, atI_0, atI_1, atI_2, atI_3, encNet, encSt, encRow, encR, encO, encP, nats, encT, Od.raw, if_true, if_false, ite_true, ite_false, Bool.false_eq_true, Bool.true_eq_false, Bool.not_true, Bool.not_false, decide_true, decide_false, reduceIte, eq_self, and_true, true_and, sn_set_put, sn_set_take, sn_set_add, sn_put_set, sn_put_take, sn_put_add, sn_take_set, sn_take_put, sn_take_add, sn_add_set, sn_add_put, sn_add_take]; exact hq) (by rw [List.length_map]; exact million (by omega)) ?_ (fun Q q => q)
          intro Q q
          refine lc_filt encO encO g trivial r [] ?_ (by simpa using q)
          intro o ho
          refine ⟨?_, by intro Q E hq; simp only [↓eVar, ↓eC, ↓eBin, ↓eUn, ↓eB, ↓eTup, ↓eLst, ↓eAnd, ↓eOr, ↓eNot, ↓eIf, ↓eChain, ↓eSlice, ↓eM, ↓eStr1, ↓eIsi, ↓oNo, ↓oPart, ↓tst, ↓ftAnd, ↓ftOr, ↓ftNot, ↓ftYes, ↓args, ↓gI, ↓gI0, ↓gSubI, ↓gFdiv, ↓gMod, ↓gPow, ↓gLt, ↓gLe, ↓gGt, ↓gGe, ↓gAdd, ↓gMul, ↓gRep, ↓gIx, ↓gIsN, ↓gNotN, ↓gNeg, ↓gEqN, ↓gIn, ↓gInSeq, ↓gLen, ↓gSlice, ↓gList, ↓gTuple, ↓gMin2, ↓gMax2, ↓gStr, ↓gInt, ↓newL, ↓mAppend, ↓mInsert, ↓mPopAt, ↓mIndex, ↓gSplit, ↓gJoin, List.map_cons, List.map_nil, List.length_cons, List.length_nil, List.length_map, List.cons_append, List.nil_append, Nat.reduceAdd, Nat.reduceSub, List.getElem?_cons_zero, List.getElem?_cons_succ, List.getElem?_map, Option.map_some, List.set_cons_zero, List.set_cons_succ, isNon, seqOf, listOf, atI_nn, atI_0, atI_1, atI_2, atI_3, encNet, encSt, encRow, encR, encO, encP, nats, encT, Od.raw, if_true, if_false, ite_true, ite_false, Bool.false_eq_true, Bool.true_eq_false, Bool.not_true, Bool.not_false, decide_true, decide_false, reduceIte, eq_self, and_true, true_and, sn_set_put, sn_set_take, sn_set_add, sn_put_set, sn_put_take, sn_put_add, sn_take_set, sn_take_put, sn_take_add, sn_add_set, sn_add_put, sn_add_take]; exact hq⟩
          rcases hws with ⟨rfl, rfl⟩ | ⟨rfl, rfl⟩
          · cases o with
            | set q =>
              have c2 : isP p (.set q) = false := rfl
              unfold wsP
              rw [c2]
              exact (by intro Q E hq; simp only [↓eVar, ↓eC, ↓eBin, ↓eUn, ↓eB, ↓eTup, ↓eLst, ↓eAnd, ↓eOr, ↓eNot, ↓eIf, ↓eChain, ↓eSlice, ↓eM, ↓eStr1, ↓eIsi, ↓oNo, ↓oPart, ↓tst, ↓ftAnd, ↓ftOr, ↓ftNot, ↓ftYes, ↓args, ↓gI, ↓gI0, ↓gSubI, ↓gFdiv, ↓gMod, ↓gPow, ↓gLt, ↓gLe, ↓gGt, ↓gGe, ↓gAdd, ↓gMul, ↓gRep, ↓gIx, ↓gIsN, ↓gNotN, ↓gNeg, ↓gEqN, ↓gIn, ↓gInSeq, ↓gLen, ↓gSlice, ↓gList, ↓gTuple, ↓gMin2, ↓gMax2, ↓gStr, ↓gInt, ↓newL, ↓mAppend, ↓mInsert, ↓mPopAt, ↓mIndex, ↓gSplit, ↓gJoin, List.map_cons, List.map_nil, List.length_cons, List.length_nil, List.length_map, List.cons_append, List.nil_append, Nat.reduceAdd, Nat.reduceSub, List.getElem?_cons_zero, List.getElem?_cons_succ, List.getElem?_map, Option.map_some, List.set_cons_zero, List.set_cons_succ, isNon, seqOf, listOf, atI_nn, atI_0, atI_1, atI_2, atI_3, encNet, encSt, encRow, encR, encO, encP, nats, encT, Od.raw, if_true, if_false, ite_true, ite_false, Bool.false_eq_true, Bool.true_eq_false, Bool.not_true, Bool.not_false, decide_true, decide_false, reduceIte, eq_self, and_true, true_and, sn_set_put, sn_set_take, sn_set_add, sn_put_set, sn_put_take, sn_put_add, sn_take_set, sn_take_put, sn_take_add, sn_add_set, sn_add_put, sn_add_take, ↓gIn, ↓gInSeq, toV, optAll, inV, List.any_cons, List.any_nil, eqV, Bool.or_false, Bool.or_true, Bool.true_or, beq_self_eq_true]; exact hq)
            | put q =>
              by_cases c : ((q : Nat) : Int) = p
              · have c2 : isP p (.put q) = true := decide_eq_true (by omega)
                unfold wsP
                rw [c2]
                exact (by intro Q E hq; simp only [↓eVar, ↓eC, ↓eBin, ↓eUn, ↓eB, ↓eTup, ↓eLst, ↓eAnd, ↓eOr, ↓eNot, ↓eIf, ↓eChain, ↓eSlice, ↓eM, ↓eStr1, ↓eIsi, ↓oNo, ↓oPart, ↓tst, ↓ftAnd, ↓ftOr, ↓ftNot, ↓ftYes, ↓args, ↓gI, ↓gI0, ↓gSubI, ↓gFdiv, ↓gMod, ↓gPow, ↓gLt, ↓gLe, ↓gGt, ↓gGe, ↓gAdd, ↓gMul, ↓gRep, ↓gIx, ↓gIsN, ↓gNotN, ↓gNeg, ↓gEqN, ↓gIn, ↓gInSeq, ↓gLen, ↓gSlice, ↓gList, ↓gTuple, ↓gMin2, ↓gMax2, ↓gStr, ↓gInt, ↓newL, ↓mAppend, ↓mInsert, ↓mPopAt, ↓mIndex, ↓gSplit, ↓gJoin, List.map_cons, List.map_nil, List.length_cons, List.length_nil, List.length_map, List.cons_append, List.nil_append, Nat.reduceAdd, Nat.reduceSub, List.getElem?_cons_zero, List.getElem?_cons_succ, List.getElem?_map, Option.map_some, List.set_cons_zero, List.set_cons_succ, isNon, seqOf, listOf, atI_nn, atI_0, atI_1, atI_2, atI_3, encNet, encSt, encRow, encR, encO, encP, nats, encT, Od.raw, if_true, if_false, ite_true, ite_false, Bool.false_eq_true, Bool.true_eq_false, Bool.not_true, Bool.not_false, decide_true, decide_false, reduceIte, eq_self, and_true, true_and, sn_set_put, sn_set_take, sn_set_add, sn_put_set, sn_put_take, sn_put_add, sn_take_set, sn_take_put, sn_take_add, sn_add_set, sn_add_put, sn_add_take, ↓gIn, ↓gInSeq, toV, optAll, inV, List.any_cons, List.any_nil, eqV, Bool.or_false, Bool.or_true, Bool.true_or, beq_self_eq_true, decide_eq_true c]; exact hq)
              · have c2 : isP p (.put q) = false := decide_eq_false (by omega)
                unfold wsP
                rw [c2]
                exact (by intro Q E hq; simp only [↓eVar, ↓eC, ↓eBin, ↓eUn, ↓eB, ↓eTup, ↓eLst, ↓eAnd, ↓eOr, ↓eNot, ↓eIf, ↓eChain, ↓eSlice, ↓eM, ↓eStr1, ↓eIsi, ↓oNo, ↓oPart, ↓tst, ↓ftAnd, ↓ftOr, ↓ftNot, ↓ftYes, ↓args, ↓gI, ↓gI0, ↓gSubI, ↓gFdiv, ↓gMod, ↓gPow, ↓gLt, ↓gLe, ↓gGt, ↓gGe, ↓gAdd, ↓gMul, ↓gRep, ↓gIx, ↓gIsN, ↓gNotN, ↓gNeg, ↓gEqN, ↓gIn, ↓gInSeq, ↓gLen, ↓gSlice, ↓gList, ↓gTuple, ↓gMin2, ↓gMax2, ↓gStr, ↓gInt, ↓newL, ↓mAppend, ↓mInsert, ↓mPopAt, ↓mIndex, ↓gSplit, ↓gJoin, List.map_cons, List.map_nil, List.length_cons, List.length_nil, List.length_map, List.cons_append, List.nil_append, Nat.reduceAdd, Nat.reduceSub, List.getElem?_cons_zero, List.getElem?_cons_succ, List.getElem?_map, Option.map_some, List.set_cons_zero, List.set_cons_succ, isNon, seqOf, listOf, atI_nn, atI_0, atI_1, atI_2, atI_3, encNet, encSt, encRow, encR, encO, encP, nats, encT, Od.raw, if_true, if_false, ite_true, ite_false, Bool.false_eq_true, Bool.true_eq_false, Bool.not_true, Bool.not_false, decide_true, decide_false, reduceIte, eq_self, and_true, true_and, sn_set_put, sn_set_take, sn_set_add, sn_put_set, sn_put_take, sn_put_add, sn_take_set, sn_take_put, sn_take_add, sn_add_set, sn_add_put, sn_add_take, ↓gIn, ↓gInSeq, toV, optAll, inV, List.any_cons, List.any_nil, eqV, Bool.or_false, Bool.or_true, Bool.true_or, beq_self_eq_true, decide_eq_false c]; exact hq)
            | take q =>
              have c2 : isP p (.take q) = false := rfl
              unfold wsP
              rw [c2]
              exact (by intro Q E hq; simp only [↓eVar, ↓eC, ↓eBin, ↓eUn, ↓eB, ↓eTup, ↓eLst, ↓eAnd, ↓eOr, ↓eNot, ↓eIf, ↓eChain, ↓eSlice, ↓eM, ↓eStr1, ↓eIsi, ↓oNo, ↓oPart, ↓tst, ↓ftAnd, ↓ftOr, ↓ftNot, ↓ftYes, ↓args, ↓gI, ↓gI0, ↓gSubI, ↓gFdiv, ↓gMod, ↓gPow, ↓gLt, ↓gLe, ↓gGt, ↓gGe, ↓gAdd, ↓gMul, ↓gRep, ↓gIx, ↓gIsN, ↓gNotN, ↓gNeg, ↓gEqN, ↓gIn, ↓gInSeq, ↓gLen, ↓gSlice, ↓gList, ↓gTuple, ↓gMin2, ↓gMax2, ↓gStr, ↓gInt, ↓newL, ↓mAppend, ↓mInsert, ↓mPopAt, ↓mIndex, ↓gSplit, ↓gJoin, List.map_cons, List.map_nil, List.length_cons, List.length_nil, List.length_map, List.cons_append, List.nil_append, Nat.reduceAdd, Nat.reduceSub, List.getElem?_cons_zero, List.getElem?_cons_succ, List.getElem?_map, Option.map_some, List.set_cons_zero, List.set_cons_succ, isNon, seqOf, listOf, atI_nn, atI_0, atI_1, atI_2, atI_3, encNet, encSt, encRow, encR, encO, encP, nats, encT, Od.raw, if_true, if_false, ite_true, ite_false, Bool.false_eq_true, Bool.true_eq_false, Bool.not_true, Bool.not_false, decide_true, decide_false, reduceIte, eq_self, and_true, true_and, sn_set_put, sn_set_take, sn_set_add, sn_put_set, sn_put_take, sn_put_add, sn_take_set, sn_take_put, sn_take_add, sn_add_set, sn_add_put, sn_add_take, ↓gIn, ↓gInSeq, toV, optAll, inV, List.any_cons, List.any_nil, eqV, Bool.or_false, Bool.or_true, Bool.true_or, beq_self_eq_true]; exact hq)
            | add q =>
              have c2 : isP p (.add q) = false := rfl
              unfold wsP
              rw [c2]
              exact (by intro Q E hq; simp only [↓eVar, ↓eC, ↓eBin, ↓eUn, ↓eB, ↓eTup, ↓eLst, ↓eAnd, ↓eOr, ↓eNot, ↓eIf, ↓eChain, ↓eSlice, ↓eM, ↓eStr1, ↓eIsi, ↓oNo, ↓oPart, ↓tst, ↓ftAnd, ↓ftOr, ↓ftNot, ↓ftYes, ↓args, ↓gI, ↓gI0, ↓gSubI, ↓gFdiv, ↓gMod, ↓gPow, ↓gLt, ↓gLe, ↓gGt, ↓gGe, ↓gAdd, ↓gMul, ↓gRep, ↓gIx, ↓gIsN, ↓gNotN, ↓gNeg, ↓gEqN, ↓gIn, ↓gInSeq, ↓gLen, ↓gSlice, ↓gList, ↓gTuple, ↓gMin2, ↓gMax2, ↓gStr, ↓gInt, ↓newL, ↓mAppend, ↓mInsert, ↓mPopAt, ↓mIndex, ↓gSplit, ↓gJoin, List.map_cons, List.map_nil, List.length_cons, List.length_nil, List.length_map, List.cons_append, List.nil_append, Nat.reduceAdd, Nat.reduceSub, List.getElem?_cons_zero, List.getElem?_cons_succ, List.getElem?_map, Option.map_some, List.set_cons_zero, List.set_cons_succ, isNon, seqOf, listOf, atI_nn, atI_0, atI_1, atI_2, atI_3, encNet, encSt, encRow, encR, encO, encP, nats, encT, Od.raw, if_true, if_false, ite_true, ite_false, Bool.false_eq_true, Bool.true_eq_false, Bool.not_true, Bool.not_false, decide_true, decide_false, reduceIte, eq_self, and_true, true_and, sn_set_put, sn_set_take, sn_set_add, sn_put_set, sn_put_take, sn_put_add, sn_take_set, sn_take_put, sn_take_add, sn_add_set, sn_add_put, sn_add_take, ↓gIn, ↓gInSeq, toV, optAll, inV, List.any_cons, List.any_nil, eqV, Bool.or_false, Bool.or_true, Bool.true_or, beq_self_eq_true]; exact hq)
          · cases o with
            | set q =>
              have c2 : isT p (.set q) = false := rfl
              unfold wsT
              rw [c2]
              exact (by intro Q E hq; simp only [↓eVar, ↓eC, ↓eBin, ↓eUn, ↓eB, ↓eTup, ↓eLst, ↓eAnd, ↓eOr, ↓eNot, ↓eIf, ↓eChain, ↓eSlice, ↓eM, ↓eStr1, ↓eIsi, ↓oNo, ↓oPart, ↓tst, ↓ftAnd, ↓ftOr, ↓ftNot, ↓ftYes, ↓args, ↓gI, ↓gI0, ↓gSubI, ↓gFdiv, ↓gMod, ↓gPow, ↓gLt, ↓gLe, ↓gGt, ↓gGe, ↓gAdd, ↓gMul, ↓gRep, ↓gIx, ↓gIsN, ↓gNotN, ↓gNeg, ↓gEqN, ↓gIn, ↓gInSeq, ↓gLen, ↓gSlice, ↓gList, ↓gTuple, ↓gMin2, ↓gMax2, ↓gStr, ↓gInt, ↓newL, ↓mAppend, ↓mInsert, ↓mPopAt, ↓mIndex, ↓gSplit, ↓gJoin, List.map_cons, List.map_nil, List.length_cons, List.length_nil, List.length_map, List.cons_append, List.nil_append, Nat.reduceAdd, Nat.reduceSub, List.getElem?_cons_zero, List.getElem?_cons_succ, List.getElem?_map, Option.map_some, List.set_cons_zero, List.set_cons_succ, isNon, seqOf, listOf, atI_nn, atI_0, atI_1, atI_2, atI_3, encNet, encSt, encRow, encR, encO, encP, nats, encT, Od.raw, if_true, if_false, ite_true, ite_false, Bool.false_eq_true, Bool.true_eq_false, Bool.not_true, Bool.not_false, decide_true, decide_false, reduceIte, eq_self, and_true, true_and, sn_set_put, sn_set_take, sn_set_add, sn_put_set, sn_put_take, sn_put_add, sn_take_set, sn_take_put, sn_take_add, sn_add_set, sn_add_put, sn_add_take, ↓gIn, ↓gInSeq, toV, optAll, inV, List.any_cons, List.any_nil, eqV, Bool.or_false, Bool.or_true, Bool.true_or, beq_self_eq_true]; exact hq)
            | put q =>
              have c2 : isT p (.put q) = false := rfl
              unfold wsT
              rw [c2]
              exact (by intro Q E hq; simp only [↓eVar, ↓eC, ↓eBin, ↓eUn, ↓eB, ↓eTup, ↓eLst, ↓eAnd, ↓eOr, ↓eNot, ↓eIf, ↓eChain, ↓eSlice, ↓eM, ↓eStr1, ↓eIsi, ↓oNo, ↓oPart, ↓tst, ↓ftAnd, ↓ftOr, ↓ftNot, ↓ftYes, ↓args, ↓gI, ↓gI0, ↓gSubI, ↓gFdiv, ↓gMod, ↓gPow, ↓gLt, ↓gLe, ↓gGt, ↓gGe, ↓gAdd, ↓gMul, ↓gRep, ↓gIx, ↓gIsN, ↓gNotN, ↓gNeg, ↓gEqN, ↓gIn, ↓gInSeq, ↓gLen, ↓gSlice, ↓gList, ↓gTuple, ↓gMin2, ↓gMax2, ↓gStr, ↓gInt, ↓newL, ↓mAppend, ↓mInsert, ↓mPopAt, ↓mIndex, ↓gSplit, ↓gJoin, List.map_cons, List.map_nil, List.length_cons, List.length_nil, List.length_map, List.cons_append, List.nil_append, Nat.reduceAdd, Nat.reduceSub, List.getElem?_cons_zero, List.getElem?_cons_succ, List.getElem?_map, Option.map_some, List.set_cons_zero, List.set_cons_succ, isNon, seqOf, listOf, atI_nn, atI_0, atI_1, atI_2, atI_3, encNet, encSt, encRow, encR, encO, encP, nats, encT, Od.raw, if_true, if_false, ite_true, ite_false, Bool.false_eq_true, Bool.true_eq_false, Bool.not_true, Bool.not_false, decide_true, decide_false, reduceIte, eq_self, and_true, true_and, sn_set_put, sn_set_take, sn_set_add, sn_put_set, sn_put_take, sn_put_add, sn_take_set, sn_take_put, sn_take_add, sn_add_set, sn_add_put, sn_add_take, ↓gIn, ↓gInSeq, toV, optAll, inV, List.any_cons, List.any_nil, eqV, Bool.or_false, Bool.or_true, Bool.true_or, beq_self_eq_true]; exact hq)
            | take q =>
              by_cases c : ((q : Nat) : Int) = p
              · have c2 : isT p (.take q) = true := decide_eq_true (by omega)
                unfold wsT
                rw [c2]
                exact (by intro Q E hq; simp only [↓eVar, ↓eC, ↓eBin, ↓eUn, ↓eB, ↓eTup, ↓eLst, ↓eAnd, ↓eOr, ↓eNot, ↓eIf, ↓eChain, ↓eSlice, ↓eM, ↓eStr1, ↓eIsi, ↓oNo, ↓oPart, ↓tst, ↓ftAnd, ↓ftOr, ↓ftNot, ↓ftYes, ↓args, ↓gI, ↓gI0, ↓gSubI, ↓gFdiv, ↓gMod, ↓gPow, ↓gLt, ↓gLe, ↓gGt, ↓gGe, ↓gAdd, ↓gMul, ↓gRep, ↓gIx, ↓gIsN, ↓gNotN, ↓gNeg, ↓gEqN, ↓gIn, ↓gInSeq, ↓gLen, ↓gSlice, ↓gList, ↓gTuple, ↓gMin2, ↓gMax2, ↓gStr, ↓gInt, ↓newL, ↓mAppend, ↓mInsert, ↓mPopAt, ↓mIndex, ↓gSplit, ↓gJoin, List.map_cons, List.map_nil, List.length_cons, List.length_nil, List.length_map, List.cons_append, List.nil_append, Nat.reduceAdd, Nat.reduceSub, List.getElem?_cons_zero, List.getElem?_cons_succ, List.getElem?_map, Option.map_some, List.set_cons_zero, List.set_cons_succ, isNon, seqOf, listOf, atI_nn, atI_0, atI_1, atI_2, atI_3, encNet, encSt, encRow, encR, encO, encP, nats, encT, Od.raw, if_true, if_false, ite_true, ite_false, Bool.false_eq_true, Bool.true_eq_false, Bool.not_true, Bool.not_false, decide_true, decide_false, reduceIte, eq_self, and_true, true_and, sn_set_put, sn_set_take, sn_set_add, sn_put_set, sn_put_take, sn_put_add, sn_take_set, sn_take_put, sn_take_add, sn_add_set, sn_add_put, sn_add_take, ↓gIn, ↓gInSeq, toV, optAll, inV, List.any_cons, List.any_nil, eqV, Bool.or_false, Bool.or_true, Bool.true_or, beq_self_eq_true, decide_eq_true c]; exact hq)
              · have c2 : isT p (.take q) = false := decide_eq_false (by omega)
                unfold wsT
                rw [c2]
                exact (by intro Q E hq; simp only [↓eVar, ↓eC, ↓eBin, ↓eUn, ↓eB, ↓eTup, ↓eLst, ↓eAnd, ↓eOr, ↓eNot, ↓eIf, ↓eChain, ↓eSlice, ↓eM, ↓eStr1, ↓eIsi, ↓oNo, ↓oPart, ↓tst, ↓ftAnd, ↓ftOr, ↓ftNot, ↓ftYes, ↓args, ↓gI, ↓gI0, ↓gSubI, ↓gFdiv, ↓gMod, ↓gPow, ↓gLt, ↓gLe, ↓gGt, ↓gGe, ↓gAdd, ↓gMul, ↓gRep, ↓gIx, ↓gIsN, ↓gNotN, ↓gNeg, ↓gEqN, ↓gIn, ↓gInSeq, ↓gLen, ↓gSlice, ↓gList, ↓gTuple, ↓gMin2, ↓gMax2, ↓gStr, ↓gInt, ↓newL, ↓mAppend, ↓mInsert, ↓mPopAt, ↓mIndex, ↓gSplit, ↓gJoin, List.map_cons, List.map_nil, List.length_cons, List.length_nil, List.length_map, List.cons_append, List.nil_append, Nat.reduceAdd, Nat.reduceSub, List.getElem?_cons_zero, List.getElem?_cons_succ, List.getElem?_map, Option.map_some, List.set_cons_zero, List.set_cons_succ, isNon, seqOf, listOf, atI_nn, atI_0, atI_1, atI_2, atI_3, encNet, encSt, encRow, encR, encO, encP, nats, encT, Od.raw, if_true, if_false, ite_true, ite_false, Bool.false_eq_true, Bool.true_eq_false, Bool.not_true, Bool.not_false, decide_true, decide_false, reduceIte, eq_self, and_true, true_and, sn_set_put, sn_set_take, sn_set_add, sn_put_set, sn_put_take, sn_put_add, sn_take_set, sn_take_put, sn_take_add, sn_add_set, sn_add_put, sn_add_take, ↓gIn, ↓gInSeq, toV, optAll, inV, List.any_cons, List.any_nil, eqV, Bool.or_false, Bool.or_true, Bool.true_or, beq_self_eq_true, decide_eq_false c]; exact hq)
            | add q =>
              by_cases c : ((q : Nat) : Int) = p
              · have c2 : isT p (.add q) = true := decide_eq_true (by omega)
                unfold wsT
                rw [c2]
                exact (by intro Q E hq; simp only [↓eVar, ↓eC, ↓eBin, ↓eUn, ↓eB, ↓eTup, ↓eLst, ↓eAnd, ↓eOr, ↓eNot, ↓eIf, ↓eChain, ↓eSlice, ↓eM, ↓eStr1, ↓eIsi, ↓oNo, ↓oPart, ↓tst, ↓ftAnd, ↓ftOr, ↓ftNot, ↓ftYes, ↓args, ↓gI, ↓gI0, ↓gSubI, ↓gFdiv, ↓gMod, ↓gPow, ↓gLt, ↓gLe, ↓gGt, ↓gGe, ↓gAdd, ↓gMul, ↓gRep, ↓gIx, ↓gIsN, ↓gNotN, ↓gNeg, ↓gEqN, ↓gIn, ↓gInSeq, ↓gLen, ↓gSlice, ↓gList, ↓gTuple, ↓gMin2, ↓gMax2, ↓gStr, ↓gInt, ↓newL, ↓mAppend, ↓mInsert, ↓mPopAt, ↓mIndex, ↓gSplit, ↓gJoin, List.map_cons, List.map_nil, List.length_cons, List.length_nil, List.length_map, List.cons_append, List.nil_append, Nat.reduceAdd, Nat.reduceSub, List.getElem?_cons_zero, List.getElem?_cons_succ, List.getElem?_map, Option.map_some, List.set_cons_zero, List.set_cons_succ, isNon, seqOf, listOf, atI_nn, atI_0, atI_1, atI_2, atI_3, encNet, encSt, encRow, encR, encO, encP, nats, encT, Od.raw, if_true, if_false, ite_true, ite_false, Bool.false_eq_true, Bool.true_eq_false, Bool.not_true, Bool.not_false, decide_true, decide_false, reduceIte, eq_self, and_true, true_and, sn_set_put, sn_set_take, sn_set_add, sn_put_set, sn_put_take, sn_put_add, sn_take_set, sn_take_put, sn_take_add, sn_add_set, sn_add_put, sn_add_take, ↓gIn, ↓gInSeq, toV, optAll, inV, List.any_cons, List.any_nil, eqV, Bool.or_false, Bool.or_true, Bool.true_or, beq_self_eq_true, decide_eq_true c]; exact hq)
              · have c2 : isT p (.add q) = false := decide_eq_false (by omega)
                unfold wsT
                rw [c2]
                exact (by intro Q E hq; simp only [↓eVar, ↓eC, ↓eBin, ↓eUn, ↓eB, ↓eTup, ↓eLst, ↓eAnd, ↓eOr, ↓eNot, ↓eIf, ↓eChain, ↓eSlice, ↓eM, ↓eStr1, ↓eIsi, ↓oNo, ↓oPart, ↓tst, ↓ftAnd, ↓ftOr, ↓ftNot, ↓ftYes, ↓args, ↓gI, ↓gI0, ↓gSubI, ↓gFdiv, ↓gMod, ↓gPow, ↓gLt, ↓gLe, ↓gGt, ↓gGe, ↓gAdd, ↓gMul, ↓gRep, ↓gIx, ↓gIsN, ↓gNotN, ↓gNeg, ↓gEqN, ↓gIn, ↓gInSeq, ↓gLen, ↓gSlice, ↓gList, ↓gTuple, ↓gMin2, ↓gMax2, ↓gStr, ↓gInt, ↓newL, ↓mAppend, ↓mInsert, ↓mPopAt, ↓mIndex, ↓gSplit, ↓gJoin, List.map_cons, List.map_nil, List.length_cons, List.length_nil, List.length_map, List.cons_append, List.nil_append, Nat.reduceAdd, Nat.reduceSub, List.getElem?_cons_zero, List.getElem?_cons_succ, List.getElem?_map, Option.map_some, List.set_cons_zero, List.set_cons_succ, isNon, seqOf, listOf, atI_nn, atI_0, atI_1, atI_2, atI_3, encNet, encSt, encRow, encR, encO, encP, nats, encT, Od.raw, if_true, if_false, ite_true, ite_false, Bool.false_eq_true, Bool.true_eq_false, Bool.not_true, Bool.not_false, decide_true, decide_false, reduceIte, eq_self, and_true, true_and, sn_set_put, sn_set_take, sn_set_add, sn_put_set, sn_put_take, sn_put_add, sn_take_set, sn_take_put, sn_take_add, sn_add_set, sn_add_put, sn_add_take, ↓gIn, ↓gInSeq, toV, optAll, inV, List.any_cons, List.any_nil, eqV, Bool.or_false, Bool.or_true, Bool.true_or, beq_self_eq_true, decide_eq_false c]; exact hq)
        show eBin _ _ _ _ _ _ _
        unfold eBin
        refine (show Ev (eVar 3) _ _ (.int (cnt g (rows.take i) : Nat)) _ from by intro Q E hq; simp only [↓eVar, ↓eC, ↓eBin, ↓eUn, ↓eB, ↓eTup, ↓eLst, ↓eAnd, ↓eOr, ↓eNot, ↓eIf, ↓eChain, ↓eSlice, ↓eM, ↓eStr1, ↓eIsi, ↓oNo, ↓oPart, ↓tst, ↓ftAnd, ↓ftOr, ↓ftNot, ↓ftYes, ↓args, ↓gI, ↓gI0, ↓gSubI, ↓gFdiv, ↓gMod, ↓gPow, ↓gLt, ↓gLe, ↓gGt, ↓gGe, ↓gAdd, ↓gMul, ↓gRep, ↓gIx, ↓gIsN, ↓gNotN, ↓gNeg, ↓gEqN, ↓gIn, ↓gInSeq, ↓gLen, ↓gSlice, ↓gList, ↓gTuple, ↓gMin2, ↓gMax2, ↓gStr, ↓gInt, ↓newL, ↓mAppend, ↓mInsert, ↓mPopAt, ↓mIndex, ↓gSplit, ↓gJoin, List.map_cons, List.map_nil, List.length_cons, List.length_nil, List.length_map, List.cons_append, List.nil_append, Nat.reduceAdd, Nat.reduceSub, List.getElem?_cons_zero, List.getElem?_cons_succ, List.getElem?_map, Option.map_some, List.set_cons_zero, List.set_cons_succ, isNon, seqOf, listOf, atI_nn, atI_0, atI_1, atI_2, atI_3, encNet, encSt, encRow, encR, encO, encP, nats, encT, Od.raw, if_true, if_false, ite_true, ite_false, Bool.false_eq_true, Bool.true_eq_false, Bool.not_true, Bool.not_false, decide_true, decide_false, reduceIte, eq_self, and_true, true_and, sn_set_put, sn_set_take, sn_set_add, sn_put_set, sn_put_take, sn_put_add, sn_take_set, sn_take_put, sn_take_add, sn_add_set, sn_add_put, sn_add_take]; exact hq) _ _ ?_
        unfold eB
        refine hlc _ _ ?_
        simp only [↓eVar, ↓eC, ↓eBin, ↓eUn, ↓eB, ↓eTup, ↓eLst, ↓eAnd, ↓eOr, ↓eNot, ↓eIf, ↓eChain, ↓eSlice, ↓eM, ↓eStr1, ↓eIsi, ↓oNo, ↓oPart, ↓tst, ↓ftAnd, ↓ftOr, ↓ftNot, ↓ftYes, ↓args, ↓gI, ↓gI0, ↓gSubI, ↓gFdiv, ↓gMod, ↓gPow, ↓gLt, ↓gLe, ↓gGt, ↓gGe, ↓gAdd, ↓gMul, ↓gRep, ↓gIx, ↓gIsN, ↓gNotN, ↓gNeg, ↓gEqN, ↓gIn, ↓gInSeq, ↓gLen, ↓gSlice, ↓gList, ↓gTuple, ↓gMin2, ↓gMax2, ↓gStr, ↓gInt, ↓newL, ↓mAppend, ↓mInsert, ↓mPopAt, ↓mIndex, ↓gSplit, ↓gJoin, List.map_cons, List.map_nil, List.length_cons, List.length_nil, List.length_map, List.cons_append, List.nil_append, Nat.reduceAdd, Nat.reduceSub, List.getElem?_cons_zero, List.getElem?_cons_succ, List.getElem?_map, Option.map_some, List.set_cons_zero, List.set_cons_succ, isNon, seqOf, listOf, atI_nn, atI_0, atI_1, atI_2, atI_3, encNet, encSt, encRow, encR, encO, encP, nats, encT, Od.raw, if_true, if_false, ite_true, ite_false, Bool.false_eq_true, Bool.true_eq_false, Bool.not_true, Bool.not_false, decide_true, decide_false, reduceIte, eq_self, and_true, true_and, sn_set_put, sn_set_take, sn_set_add, sn_put_set, sn_put_take, sn_put_add, sn_take_set, sn_take_put, sn_take_add, sn_add_set, sn_add_put, sn_add_take]
        refine h2 _ _ ⟨some (encRow r), rfl, ?_⟩
        rw [cnt_take e]
        push_cast
        rfl
    · rintro _ _ ⟨x4, rfl, rfl⟩
      refine k _ _ ⟨x4, rfl, ?_⟩
      rw [List.length_map, List.take_length]
  · rintro _ _ ⟨x4, rfl, rfl⟩
    exact st_ret (by intro Q E hq; simp only [↓eVar, ↓eC, ↓eBin, ↓eUn, ↓eB, ↓eTup, ↓eLst, ↓eAnd, ↓eOr, ↓eNot, ↓eIf, ↓eChain, ↓eSlice, ↓eM, ↓eStr1, ↓eIsi, ↓oNo, ↓oPart, ↓tst, ↓ftAnd, ↓ftOr, ↓ftNot, ↓ftYes, ↓args, ↓gI, ↓gI0, ↓gSubI, ↓gFdiv, ↓gMod, ↓gPow, ↓gLt, ↓gLe, ↓gGt, ↓gGe, ↓gAdd, ↓gMul, ↓gRep, ↓gIx, ↓gIsN, ↓gNotN, ↓gNeg, ↓gEqN, ↓gIn, ↓gInSeq, ↓gLen, ↓gSlice, ↓gList, ↓gTuple, ↓gMin2, ↓gMax2, ↓gStr, ↓gInt, ↓newL, ↓mAppend, ↓mInsert, ↓mPopAt, ↓mIndex, ↓gSplit, ↓gJoin, List.map_cons, List.map_nil, List.length_cons, List.length_nil, List.length_map, List.cons_append, List.nil_append, Nat.reduceAdd, Nat.reduceSub, List.getElem?_cons_zero, List.getElem?_cons_succ, List.getElem?_map, Option.map_some, List.set_cons_zero, List.set_cons_succ, isNon, seqOf, listOf, atI_nn, atI_0, atI_1, atI_2, atI_3, encNet, encSt, encRow, encR, encO, encP, nats, encT, Od.raw, if_true, if_false, ite_true, ite_false, Bool.false_eq_true, Bool.true_eq_false, Bool.not_true, Bool.not_false, decide_true, decide_false, reduceIte, eq_self, and_true, true_and, sn_set_put, sn_set_take, sn_set_add, sn_put_set, sn_put_take, sn_put_add, sn_take_set, sn_take_put, sn_take_add, sn_add_set, sn_add_put, sn_add_take]; exact hq) hq
def G_balanced : GS := fun ds M Q E => ∃ N, ds = [encNet N] ∧ NetOk N ∧ Q (.bl (bal N)) M
theorem sem_balanced : ∀ ds M Q E, G_balanced ds M Q E → f_balanced G_told_of_k03 (exits false M Q E) (startD 2 ds) M := by
  rintro ds M Q E ⟨N, rfl, ok, hq⟩
  unfold f_balanced
  simp only [startD, List.map_cons, List.map_nil, List.length_cons, List.length_nil, List.replicate, List.cons_append, List.nil_append, Nat.reduceAdd, Nat.reduceSub]
  have hf := ok.fewP
  have hs := small62 (n := N.P) (by omega)
  unfold Net.P at hs
  refine st_forI (xs := rngD 0 N.P) (ok := okAny) (M1 := M) (by intro R E hq; simp only [↓iSeqD, ↓iRng1D, ↓iRng2D, ↓iRng3D, ↓iEnumD, ↓iEnumTD, ↓eVar, ↓eC, ↓eBin, ↓eUn, ↓eB, ↓eTup, ↓eLst, ↓eAnd, ↓eOr, ↓eNot, ↓eIf, ↓eChain, ↓eSlice, ↓eM, ↓eStr1, ↓eIsi, ↓oNo, ↓oPart, ↓tst, ↓ftAnd, ↓ftOr, ↓ftNot, ↓ftYes, ↓args, ↓gI, ↓gI0, ↓gSubI, ↓gFdiv, ↓gMod, ↓gPow, ↓gLt, ↓gLe, ↓gGt, ↓gGe, ↓gAdd, ↓gMul, ↓gRep, ↓gIx, ↓gIsN, ↓gNotN, ↓gNeg, ↓gEqN, ↓gIn, ↓gInSeq, ↓gLen, ↓gSlice, ↓gList, ↓gTuple, ↓gMin2, ↓gMax2, ↓gStr, ↓gInt, ↓newL, ↓mAppend, ↓mInsert, ↓mPopAt, ↓mIndex, ↓gSplit, ↓gJoin, List.map_cons, List.map_nil, List.length_cons, List.length_nil, List.length_map, List.cons_append, List.nil_append, Nat.reduceAdd, Nat.reduceSub, List.getElem?_cons_zero, List.getElem?_cons_succ, List.getElem?_map, Option.map_some, List.set_cons_zero, List.set_cons_succ, isNon, seqOf, listOf, atI_nn, atI_0, atI_1, atI_2, atI_3, encNet, encSt, encRow, encR, encO, encP, nats, encT, Od.raw, if_true, if_false, ite_true, ite_false, Bool.false_eq_true, Bool.true_eq_false, Bool.not_true, Bool.not_false, decide_true, decide_false, reduceIte, eq_self, and_true, true_and, sn_set_put, sn_set_take, sn_set_add, sn_put_set, sn_put_take, sn_put_add, sn_take_set, sn_take_put, sn_take_add, sn_add_set, sn_add_put, sn_add_take, hs, Int.toNat_natCast, Net.P]; exact hq) (fun i ds M' => ∃ x1, M = M' ∧ ds = [some (encNet N), x1] ∧ ∀ p, p < i → cnt (isP p) N.rows = cnt (isT p) N.rows) ⟨none, rfl, rfl, fun p h => absurd h (Nat.not_lt_zero p)⟩ (fun _ _ _ _ _ => trivial) ?_ ?_
  · rintro i d _ _ nx hd ⟨x1, rfl, rfl, hi⟩ k
    obtain ⟨hiP, rfl⟩ := rngD_get hd
    have call : ∀ ws g, (ws = wsP ∧ g = isP i ∨ ws = wsT ∧ g = isT i) → ∀ (Q : KQ) (E : KE), Q (.int (cnt g N.rows : Nat)) M → G_told_of_k03 [.lst (N.rows.map encRow), .tup ws, .int ((i : Nat) : Int)] M Q E :=
      fun ws g h Q E q => ⟨N.rows, ws, i, g, rfl, h, ok.short, q⟩
    have c1 : Ev (eCall G_told_of_k03 [(eBin gIx (eVar 0) (eC (.int 1))), (eTup [(eC (.str "put"))]), (eVar 1)]) [some (encNet N), some (.int (0 + (i : Int)))] M (.int (cnt (isP i) N.rows : Nat)) M :=
      ev_call (xs := [.lst (N.rows.map encRow), .tup wsP, .int ((i : Nat) : Int)]) (M1 := M) (by rw [Int.zero_add]; exact (by intro Q E hq; simp only [↓eVar, ↓eC, ↓eBin, ↓eUn, ↓eB, ↓eTup, ↓eLst, ↓eAnd, ↓eOr, ↓eNot, ↓eIf, ↓eChain, ↓eSlice, ↓eM, ↓eStr1, ↓eIsi, ↓oNo, ↓oPart, ↓tst, ↓ftAnd, ↓ftOr, ↓ftNot, ↓ftYes, ↓args, ↓gI, ↓gI0, ↓gSubI, ↓gFdiv, ↓gMod, ↓gPow, ↓gLt, ↓gLe, ↓gGt, ↓gGe, ↓gAdd, ↓gMul, ↓gRep, ↓gIx, ↓gIsN, ↓gNotN, ↓gNeg, ↓gEqN, ↓gIn, ↓gInSeq, ↓gLen, ↓gSlice, ↓gList, ↓gTuple, ↓gMin2, ↓gMax2, ↓gStr, ↓gInt, ↓newL, ↓mAppend, ↓mInsert, ↓mPopAt, ↓mIndex, ↓gSplit, ↓gJoin, List.map_cons, List.map_nil, List.length_cons, List.length_nil, List.length_map, List.cons_append, List.nil_append, Nat.reduceAdd, Nat.reduceSub, List.getElem?_cons_zero, List.getElem?_cons_succ, List.getElem?_map, Option.map_some, List.set_cons_zero, List.set_cons_succ, isNon, seqOf, listOf, atI_nn, atI_0, atI_1, atI_2, atI_3, encNet, encSt, encRow, encR, encO, encP, nats, encT, Od.raw, if_true, if_false, ite_true, ite_false, Bool.false_eq_true, Bool.true_eq_false, Bool.not_true, Bool.not_false, decide_true, decide_false, reduceIte, eq_self, and_true, true_and, sn_set_put, sn_set_take, sn_set_add, sn_put_set, sn_put_take, sn_put_add, sn_take_set, sn_take_put, sn_take_add, sn_add_set, sn_add_put, sn_add_take]; exact hq)) (call _ _ (.inl ⟨rfl, rfl⟩))
    have c2 : Ev (eCall G_told_of_k03 [(eBin gIx (eVar 0) (eC (.int 1))), (eTup [(eC (.str "take")), (eC (.str "add"))]), (eVar 1)]) [some (encNet N), some (.int (0 + (i : Int)))] M (.int (cnt (isT i) N.rows : Nat)) M :=
      ev_call (xs := [.lst (N.rows.map encRow), .tup wsT, .int ((i : Nat) : Int)]) (M1 := M) (by rw [Int.zero_add]; exact (by intro Q E hq; simp only [↓eVar, ↓eC, ↓eBin, ↓eUn, ↓eB, ↓eTup, ↓eLst, ↓eAnd, ↓eOr, ↓eNot, ↓eIf, ↓eChain, ↓eSlice, ↓eM, ↓eStr1, ↓eIsi, ↓oNo, ↓oPart, ↓tst, ↓ftAnd, ↓ftOr, ↓ftNot, ↓ftYes, ↓args, ↓gI, ↓gI0, ↓gSubI, ↓gFdiv, ↓gMod, ↓gPow, ↓gLt, ↓gLe, ↓gGt, ↓gGe, ↓gAdd, ↓gMul, ↓gRep, ↓gIx, ↓gIsN, ↓gNotN, ↓gNeg, ↓gEqN, ↓gIn, ↓gInSeq, ↓gLen, ↓gSlice, ↓gList, ↓gTuple, ↓gMin2, ↓gMax2, ↓gStr, ↓gInt, ↓newL, ↓mAppend, ↓mInsert, ↓mPopAt, ↓mIndex, ↓gSplit, ↓gJoin, List.map_cons, List.map_nil, List.length_cons, List.length_nil, List.length_map, List.cons_append, List.nil_append, Nat.reduceAdd, Nat.reduceSub, List.getElem?_cons_zero, List.getElem?_cons_succ, List.getElem?_map, Option.map_some, List.set_cons_zero, List.set_cons_succ, isNon, seqOf, listOf, atI_nn, atI_0, atI_1, atI_2, atI_3, encNet, encSt, encRow, encR, encO, encP, nats, encT, Od.raw, if_true, if_false, ite_true, ite_false, Bool.false_eq_true, Bool.true_eq_false, Bool.not_true, Bool.not_false, decide_true, decide_false, reduceIte, eq_self, and_true, true_and, sn_set_put, sn_set_take, sn_set_add, sn_put_set, sn_put_take, sn_put_add, sn_take_set, sn_take_put, sn_take_add, sn_add_set, sn_add_put, sn_add_take]; exact hq)) (call _ _ (.inr ⟨rfl, rfl⟩))
    by_cases e : cnt (isP i) N.rows = cnt (isT i) N.rows
    · have e2 : ((cnt (isP i) N.rows : Nat) : Int) = (cnt (isT i) N.rows : Nat) := by omega
      refine st_l0 (M1 := M) (tv_of (ev_bin (M3 := M) c1 c2 (fun Q q => ?_))) (k _ _ ⟨some (.int (0 + (i : Int))), rfl, rfl, fun p hp => ?_⟩)
      · show Q (.bl (!decide _)) M
        rw [decide_eq_true e2]
        exact q
      · by_cases h : p = i
        · subst h; exact e
        · exact hi p (by omega)
    · have e2 : ¬ ((cnt (isP i) N.rows : Nat) : Int) = (cnt (isT i) N.rows : Nat) := by omega
      refine st_l1 (M1 := M) (tv_of (ev_bin (M3 := M) c1 c2 (fun Q q => ?_))) (st_ret (by intro Q E hq; simp only [↓eVar, ↓eC, ↓eBin, ↓eUn, ↓eB, ↓eTup, ↓eLst, ↓eAnd, ↓eOr, ↓eNot, ↓eIf, ↓eChain, ↓eSlice, ↓eM, ↓eStr1, ↓eIsi, ↓oNo, ↓oPart, ↓tst, ↓ftAnd, ↓ftOr, ↓ftNot, ↓ftYes, ↓args, ↓gI, ↓gI0, ↓gSubI, ↓gFdiv, ↓gMod, ↓gPow, ↓gLt, ↓gLe, ↓gGt, ↓gGe, ↓gAdd, ↓gMul, ↓gRep, ↓gIx, ↓gIsN, ↓gNotN, ↓gNeg, ↓gEqN, ↓gIn, ↓gInSeq, ↓gLen, ↓gSlice, ↓gList, ↓gTuple, ↓gMin2, ↓gMax2, ↓gStr, ↓gInt, ↓newL, ↓mAppend, ↓mInsert, ↓mPopAt, ↓mIndex, ↓gSplit, ↓gJoin, List.map_cons, List.map_nil, List.length_cons, List.length_nil, List.length_map, List.cons_append, List.nil_append, Nat.reduceAdd, Nat.reduceSub, List.getElem?_cons_zero, List.getElem?_cons_succ, List.getElem?_map, Option.map_some, List.set_cons_zero, List.set_cons_succ, isNon, seqOf, listOf, atI_nn, atI_0, atI_1, atI_2, atI_3, encNet, encSt, encRow, encR, encO, encP, nats, encT, Od.raw, if_true, if_false, ite_true, ite_false, Bool.false_eq_true, Bool.true_eq_false, Bool.not_true, Bool.not_false, decide_true, decide_false, reduceIte, eq_self, and_true, true_and, sn_set_put, sn_set_take, sn_set_add, sn_put_set, sn_put_take, sn_put_add, sn_take_set, sn_take_put, sn_take_add, sn_add_set, sn_add_put, sn_add_take]; exact hq) ?_)
      · show Q (.bl (!decide _)) M
        rw [decide_eq_false e2]
        exact q
      · have : bal N = false := by
          unfold bal
          rw [Bool.eq_false_iff]
          intro h
          rw [List.all_eq_true] at h
          exact e (by simpa using h i (List.mem_range.mpr hiP))
        rw [this] at hq
        exact hq
  · rintro _ _ ⟨x1, rfl, rfl, hi⟩
    rw [rngD_len] at hi
    have : bal N = true := by
      unfold bal
      rw [List.all_eq_true]
      intro p hp
      rw [hi p (List.mem_range.mp hp)]
      exact beq_self_eq_true _
    rw [this] at hq
    exact st_ret (by intro Q E hq; simp only [↓eVar, ↓eC, ↓eBin, ↓eUn, ↓eB, ↓eTup, ↓eLst, ↓eAnd, ↓eOr, ↓eNot, ↓eIf, ↓eChain, ↓eSlice, ↓eM, ↓eStr1, ↓eIsi, ↓oNo, ↓oPart, ↓tst, ↓ftAnd, ↓ftOr, ↓ftNot, ↓ftYes, ↓args, ↓gI, ↓gI0, ↓gSubI, ↓gFdiv, ↓gMod, ↓gPow, ↓gLt, ↓gLe, ↓gGt, ↓gGe, ↓gAdd, ↓gMul, ↓gRep, ↓gIx, ↓gIsN, ↓gNotN, ↓gNeg, ↓gEqN, ↓gIn, ↓gInSeq, ↓gLen, ↓gSlice, ↓gList, ↓gTuple, ↓gMin2, ↓gMax2, ↓gStr, ↓gInt, ↓newL, ↓mAppend, ↓mInsert, ↓mPopAt, ↓mIndex, ↓gSplit, ↓gJoin, List.map_cons, List.map_nil, List.length_cons, List.length_nil, List.length_map, List.cons_append, List.nil_append, Nat.reduceAdd, Nat.reduceSub, List.getElem?_cons_zero, List.getElem?_cons_succ, List.getElem?_map, Option.map_some, List.set_cons_zero, List.set_cons_succ, isNon, seqOf, listOf, atI_nn, atI_0, atI_1, atI_2, atI_3, encNet, encSt, encRow, encR, encO, encP, nats, encT, Od.raw, if_true, if_false, ite_true, ite_false, Bool.false_eq_true, Bool.true_eq_false, Bool.not_true, Bool.not_false, decide_true, decide_false, reduceIte, eq_self, and_true, true_and, sn_set_put, sn_set_take, sn_set_add, sn_put_set, sn_put_take, sn_put_add, sn_take_set, sn_take_put, sn_take_add, sn_add_set, sn_add_put, sn_add_take]; exact hq) hq
/-- with more room -/
def widP (m : Nat) (p : Pip) : Pip := ⟨p.ma, p.ta, min 1000 (p.ro + m)⟩
def widN (m : Nat) (N : Net) : Net := ⟨N.pipes.map (widP m), N.rows⟩
def G_widened : GS := fun ds M Q E => ∃ N, ∃ m : Nat, ds = [encNet N, .int (m : Int)] ∧ NetOk N ∧ Q (encNet (widN m N)) M
theorem min_int {a b : Nat} : (if (b : Int) < (a : Int) then (b : Int) else (a : Int)) = ((min a b : Nat) : Int) := by
  split <;> omega
theorem min_1000 {r m : Nat} : (if ((r : Int) + (m : Int)) < 1000 then ((r : Int) + (m : Int)) else 1000) = ((min 1000 (r + m) : Nat) : Int) := by
  split <;> omega
theorem sem_widened : ∀ ds M Q E, G_widened ds M Q E → f_widened (exits false M Q E) (startD 5 ds) M := by
  rintro ds M Q E ⟨N, m, rfl, ok, hq⟩
  unfold f_widened
  simp only [startD, List.map_cons, List.map_nil, List.length_cons, List.length_nil, List.replicate, List.cons_append, List.nil_append, Nat.reduceAdd, Nat.reduceSub]
  have hf := ok.fewP
  have hw := ok.few
  refine st_lc (M1 := M) (xs := N.pipes.map encP) (ok := okAny) (by intro R E hq; simp only [↓iSeqD, ↓iRng1D, ↓iRng2D, ↓iRng3D, ↓iEnumD, ↓iEnumTD, ↓eVar, ↓eC, ↓eBin, ↓eUn, ↓eB, ↓eTup, ↓eLst, ↓eAnd, ↓eOr, ↓eNot, ↓eIf, ↓eChain, ↓eSlice, ↓eM, ↓eStr1, ↓eIsi, ↓oNo, ↓oPart, ↓tst, ↓ftAnd, ↓ftOr, ↓ftNot, ↓ftYes, ↓args, ↓gI, ↓gI0, ↓gSubI, ↓gFdiv, ↓gMod, ↓gPow, ↓gLt, ↓gLe, ↓gGt, ↓gGe, ↓gAdd, ↓gMul, ↓gRep, ↓gIx, ↓gIsN, ↓gNotN, ↓gNeg, ↓gEqN, ↓gIn, ↓gInSeq, ↓gLen, ↓gSlice, ↓gList, ↓gTuple, ↓gMin2, ↓gMax2, ↓gStr, ↓gInt, ↓newL, ↓mAppend, ↓mInsert, ↓mPopAt, ↓mIndex, ↓gSplit, ↓gJoin, List.map_cons, List.map_nil, List.length_cons, List.length_nil, List.length_map, List.cons_append, List.nil_append, Nat.reduceAdd, Nat.reduceSub, List.getElem?_cons_zero, List.getElem?_cons_succ, List.getElem?_map, Option.map_some, List.set_cons_zero, List.set_cons_succ, isNon, seqOf, listOf, atI_nn, atI_0, atI_1, atI_2, atI_3, encNet, encSt, encRow, encR, encO, encP, nats, encT, Od.raw, if_true, if_false, ite_true, ite_false, Bool.false_eq_true, Bool.true_eq_false, Bool.not_true, Bool.not_false, decide_true, decide_false, reduceIte, eq_self, and_true, true_and, sn_set_put, sn_set_take, sn_set_add, sn_put_set, sn_put_take, sn_put_add, sn_take_set, sn_take_put, sn_take_add, sn_add_set, sn_add_put, sn_add_take]; exact hq) (by rw [List.length_map]; exact million (Nat.le_trans hf (by decide))) (lc_ev encP (fun p => encP (widP m p)) trivial _ (fun p hp => ?_) ?_)
  · unfold widP
    simp only [encP, ← min_1000]
    exact (by intro Q E hq; simp only [↓eVar, ↓eC, ↓eBin, ↓eUn, ↓eB, ↓eTup, ↓eLst, ↓eAnd, ↓eOr, ↓eNot, ↓eIf, ↓eChain, ↓eSlice, ↓eM, ↓eStr1, ↓eIsi, ↓oNo, ↓oPart, ↓tst, ↓ftAnd, ↓ftOr, ↓ftNot, ↓ftYes, ↓args, ↓gI, ↓gI0, ↓gSubI, ↓gFdiv, ↓gMod, ↓gPow, ↓gLt, ↓gLe, ↓gGt, ↓gGe, ↓gAdd, ↓gMul, ↓gRep, ↓gIx, ↓gIsN, ↓gNotN, ↓gNeg, ↓gEqN, ↓gIn, ↓gInSeq, ↓gLen, ↓gSlice, ↓gList, ↓gTuple, ↓gMin2, ↓gMax2, ↓gStr, ↓gInt, ↓newL, ↓mAppend, ↓mInsert, ↓mPopAt, ↓mIndex, ↓gSplit, ↓gJoin, List.map_cons, List.map_nil, List.length_cons, List.length_nil, List.length_map, List.cons_append, List.nil_append, Nat.reduceAdd, Nat.reduceSub, List.getElem?_cons_zero, List.getElem?_cons_succ, List.getElem?_map, Option.map_some, List.set_cons_zero, List.set_cons_succ, isNon, seqOf, listOf, atI_nn, atI_0, atI_1, atI_2, atI_3, encNet, encSt, encRow, encR, encO, encP, nats, encT, Od.raw, if_true, if_false, ite_true, ite_false, Bool.false_eq_true, Bool.true_eq_false, Bool.not_true, Bool.not_false, decide_true, decide_false, reduceIte, eq_self, and_true, true_and, sn_set_put, sn_set_take, sn_set_add, sn_put_set, sn_put_take, sn_put_add, sn_take_set, sn_take_put, sn_take_add, sn_add_set, sn_add_put, sn_add_take]; exact hq)
  · have e : (N.pipes.map (fun p => encP (widP m p))) = (widN m N).pipes.map encP := by unfold widN; rw [List.map_map]; rfl
    rw [e]
    refine newL_f ?_
    show sRet _ _ [some (encNet N), some (.int m), none, some (.lst ((widN m N).pipes.map encP)), none] M
    refine st_ret (d := encNet (widN m N)) (M1 := M) ?_ hq
    clear hq
    intro Q E hq
    unfold eTup
    refine (show Ev (eVar 3) _ M (.lst ((widN m N).pipes.map encP)) M from by intro Q E hq; simp only [↓eVar, ↓eC, ↓eBin, ↓eUn, ↓eB, ↓eTup, ↓eLst, ↓eAnd, ↓eOr, ↓eNot, ↓eIf, ↓eChain, ↓eSlice, ↓eM, ↓eStr1, ↓eIsi, ↓oNo, ↓oPart, ↓tst, ↓ftAnd, ↓ftOr, ↓ftNot, ↓ftYes, ↓args, ↓gI, ↓gI0, ↓gSubI, ↓gFdiv, ↓gMod, ↓gPow, ↓gLt, ↓gLe, ↓gGt, ↓gGe, ↓gAdd, ↓gMul, ↓gRep, ↓gIx, ↓gIsN, ↓gNotN, ↓gNeg, ↓gEqN, ↓gIn, ↓gInSeq, ↓gLen, ↓gSlice, ↓gList, ↓gTuple, ↓gMin2, ↓gMax2, ↓gStr, ↓gInt, ↓newL, ↓mAppend, ↓mInsert, ↓mPopAt, ↓mIndex, ↓gSplit, ↓gJoin, List.map_cons, List.map_nil, List.length_cons, List.length_nil, List.length_map, List.cons_append, List.nil_append, Nat.reduceAdd, Nat.reduceSub, List.getElem?_cons_zero, List.getElem?_cons_succ, List.getElem?_map, Option.map_some, List.set_cons_zero, List.set_cons_succ, isNon, seqOf, listOf, atI_nn, atI_0, atI_1, atI_2, atI_3, encNet, encSt, encRow, encR, encO, encP, nats, encT, Od.raw, if_true, if_false, ite_true, ite_false, Bool.false_eq_true, Bool.true_eq_false, Bool.not_true, Bool.not_false, decide_true, decide_false, reduceIte, eq_self, and_true, true_and, sn_set_put, sn_set_take, sn_set_add, sn_put_set, sn_put_take, sn_put_add, sn_take_set, sn_take_put, sn_take_add, sn_add_set, sn_add_put, sn_add_take]; exact hq) _ _ ?_
    have hlc : Ev (eLc false (iSeqD (eBin gIx (eVar 0) (eC (.int 1)))) [4] (putNm 4) ftYes (eB (gList false) [(eVar 4)])) [some (encNet N), some (.int m), none, some (.lst ((widN m N).pipes.map encP)), none] M (.lst (N.rows.map encRow)) M := by
      refine ev_lc (xs := N.rows.map encRow) (ok := okAny) (M1 := M) (M2 := M) (acc := N.rows.map encRow) (by intro R E hq; simp only [↓iSeqD, ↓iRng1D, ↓iRng2D, ↓iRng3D, ↓iEnumD, ↓iEnumTD, ↓eVar, ↓eC, ↓eBin, ↓eUn, ↓eB, ↓eTup, ↓eLst, ↓eAnd, ↓eOr, ↓eNot, ↓eIf, ↓eChain, ↓eSlice, ↓eM, ↓eStr1, ↓eIsi, ↓oNo, ↓oPart, ↓tst, ↓ftAnd, ↓ftOr, ↓ftNot, ↓ftYes, ↓args, ↓gI, ↓gI0, ↓gSubI, ↓gFdiv, ↓gMod, ↓gPow, ↓gLt, ↓gLe, ↓gGt, ↓gGe, ↓gAdd, ↓gMul, ↓gRep, ↓gIx, ↓gIsN, ↓gNotN, ↓gNeg, ↓gEqN, ↓gIn, ↓gInSeq, ↓gLen, ↓gSlice, ↓gList, ↓gTuple, ↓gMin2, ↓gMax2, ↓gStr, ↓gInt, ↓newL, ↓mAppend, ↓mInsert, ↓mPopAt, ↓mIndex, ↓gSplit, ↓gJoin, List.map_cons, List.map_nil, List.length_cons, List.length_nil, List.length_map, List.cons_append, List.nil_append, Nat.reduceAdd, Nat.reduceSub, List.getElem?_cons_zero, List.getElem?_cons_succ, List.getElem?_map, Option.map_some, List.set_cons_zero, List.set_cons_succ, isNon, seqOf, listOf, atI_nn, atI_0, atI_1, atI_2, atI_3, encNet, encSt, encRow, encR, encO, encP, nats, encT, Od.raw, if_true, if_false, ite_true, ite_false, Bool.false_eq_true, Bool.true_eq_false, Bool.not_true, Bool.not_false, decide_true, decide_false, reduceIte, eq_self, and_true, true_and, sn_set_put, sn_set_take, sn_set_add, sn_put_set, sn_put_take, sn_put_add, sn_take_set, sn_take_put, sn_take_add, sn_add_set, sn_add_put, sn_add_take]; exact hq) (by rw [List.length_map]; exact million (Nat.le_trans hw (by decide))) ?_ (fun Q q => q)
      intro Q q
      exact lc_ev encRow encRow trivial _ (fun r hr => by intro Q E hq; simp only [↓eVar, ↓eC, ↓eBin, ↓eUn, ↓eB, ↓eTup, ↓eLst, ↓eAnd, ↓eOr, ↓eNot, ↓eIf, ↓eChain, ↓eSlice, ↓eM, ↓eStr1, ↓eIsi, ↓oNo, ↓oPart, ↓tst, ↓ftAnd, ↓ftOr, ↓ftNot, ↓ftYes, ↓args, ↓gI, ↓gI0, ↓gSubI, ↓gFdiv, ↓gMod, ↓gPow, ↓gLt, ↓gLe, ↓gGt, ↓gGe, ↓gAdd, ↓gMul, ↓gRep, ↓gIx, ↓gIsN, ↓gNotN, ↓gNeg, ↓gEqN, ↓gIn, ↓gInSeq, ↓gLen, ↓gSlice, ↓gList, ↓gTuple, ↓gMin2, ↓gMax2, ↓gStr, ↓gInt, ↓newL, ↓mAppend, ↓mInsert, ↓mPopAt, ↓mIndex, ↓gSplit, ↓gJoin, List.map_cons, List.map_nil, List.length_cons, List.length_nil, List.length_map, List.cons_append, List.nil_append, Nat.reduceAdd, Nat.reduceSub, List.getElem?_cons_zero, List.getElem?_cons_succ, List.getElem?_map, Option.map_some, List.set_cons_zero, List.set_cons_succ, isNon, seqOf, listOf, atI_nn, atI_0, atI_1, atI_2, atI_3, encNet, encSt, encRow, encR, encO, encP, nats, encT, Od.raw, if_true, if_false, ite_true, ite_false, Bool.false_eq_true, Bool.true_eq_false, Bool.not_true, Bool.not_false, decide_true, decide_false, reduceIte, eq_self, and_true, true_and, sn_set_put, sn_set_take, sn_set_add, sn_put_set, sn_put_take, sn_put_add, sn_take_set, sn_take_put, sn_take_add, sn_add_set, sn_add_put, sn_add_take, newL]; exact hq) q
    exact hlc _ _ hq
end DL
namespace DL
open PySem PySem.Spec PyProof.Rows L2

/-! ### the law's own weights -/
def wts (P : Nat) (rows : List (List Od)) : List Int := (List.range P).map fun p => (cnt (isP p) rows : Int) - (cnt (isT p) rows : Int)
theorem cnt_app {g : Od → Bool} {xs ys : List (List Od)} : cnt g (xs ++ ys) = cnt g xs + cnt g ys := by
  unfold cnt
  rw [List.map_append, List.sum_append]
theorem cnt_one {g : Od → Bool} {r : List Od} : cnt g [r] = (r.filter g).length := by
  unfold cnt
  simp
theorem cnt_snoc {g : Od → Bool} {xs : List (List Od)} {r : List Od} {o : Od} : cnt g (xs ++ [r ++ [o]]) = cnt g (xs ++ [r]) + (if g o = true then 1 else 0) := by
  rw [cnt_app, cnt_app, cnt_one, cnt_one, List.filter_append, List.length_append]
  cases h : g o <;> simp [h]
  omega
theorem wts_len {P : Nat} {rows : List (List Od)} : (wts P rows).length = P := by unfold wts; simp
theorem wts_get {P p : Nat} {rows : List (List Od)} (h : p < P) : (wts P rows)[p]? = some ((cnt (isP p) rows : Int) - (cnt (isT p) rows : Int)) := by
  unfold wts
  rw [List.getElem?_map, List.getElem?_range h]
  rfl
theorem wts_put {P p : Nat} {xs : List (List Od)} {r : List Od} (h : p < P) : wts P (xs ++ [r ++ [.put p]]) = (wts P (xs ++ [r])).set p ((cnt (isP p) (xs ++ [r]) : Int) - (cnt (isT p) (xs ++ [r]) : Int) + 1) := by
  refine List.ext_getElem? fun i => ?_
  by_cases hi : i < P
  · by_cases e : p = i
    · subst e
      rw [List.getElem?_set_self (by rw [wts_len]; exact hi), wts_get hi, cnt_snoc, cnt_snoc]
      simp only [isP, isT, decide_true, if_true, Bool.false_eq_true, if_false]
      congr 1
      omega
    · rw [List.getElem?_set_ne e, wts_get hi, wts_get hi, cnt_snoc, cnt_snoc]
      simp only [isP, isT, decide_eq_false e, Bool.false_eq_true, if_false, Nat.add_zero]
  · rw [List.getElem?_eq_none (by rw [wts_len]; omega), List.getElem?_eq_none (by rw [List.length_set, wts_len]; omega)]
theorem wts_take {P p : Nat} {xs : List (List Od)} {r : List Od} {o : Od} (ho : o = .take p ∨ o = .add p) (h : p < P) : wts P (xs ++ [r ++ [o]]) = (wts P (xs ++ [r])).set p ((cnt (isP p) (xs ++ [r]) : Int) - (cnt (isT p) (xs ++ [r]) : Int) - 1) := by
  refine List.ext_getElem? fun i => ?_
  have h1 : isP i o = false := by rcases ho with e | e <;> subst e <;> rfl
  have h2 : isT i o = decide (p = i) := by rcases ho with e | e <;> subst e <;> rfl
  by_cases hi : i < P
  · by_cases e : p = i
    · subst e
      rw [List.getElem?_set_self (by rw [wts_len]; exact hi), wts_get hi, cnt_snoc, cnt_snoc, h1, h2]
      simp only [decide_true, if_true, Bool.false_eq_true, if_false]
      congr 1
      omega
    · rw [List.getElem?_set_ne e, wts_get hi, wts_get hi, cnt_snoc, cnt_snoc, h1, h2]
      simp only [decide_eq_false e, Bool.false_eq_true, if_false, Nat.add_zero]
  · rw [List.getElem?_eq_none (by rw [wts_len]; omega), List.getElem?_eq_none (by rw [List.length_set, wts_len]; omega)]
theorem wts_set {P : Nat} {z : Int} {xs : List (List Od)} {r : List Od} : wts P (xs ++ [r ++ [.set z]]) = wts P (xs ++ [r]) := by
  refine List.ext_getElem? fun i => ?_
  by_cases hi : i < P
  · rw [wts_get hi, wts_get hi, cnt_snoc, cnt_snoc]
    simp only [isP, isT, Bool.false_eq_true, if_false, Nat.add_zero]
  · rw [List.getElem?_eq_none (by rw [wts_len]; omega), List.getElem?_eq_none (by rw [wts_len]; omega)]
theorem wts_nil {P : Nat} {xs : List (List Od)} : wts P (xs ++ [[]]) = wts P xs := by
  unfold wts
  congr 1
  funext p
  rw [cnt_app, cnt_app, cnt_one, cnt_one]
  simp
theorem wts_bal {N : Net} : decide (wts N.P N.rows = List.replicate N.P 0) = bal N := by
  rw [Bool.eq_iff_iff, decide_eq_true_iff]
  unfold bal
  rw [List.all_eq_true]
  constructor
  · intro h p hp
    have hp := List.mem_range.mp hp
    have := wts_get (rows := N.rows) hp
    rw [h, List.getElem?_replicate, if_pos hp, Option.some_inj] at this
    rw [beq_iff_eq]
    omega
  · intro h
    refine List.ext_getElem? fun i => ?_
    by_cases hi : i < N.P
    · rw [wts_get hi, List.getElem?_replicate, if_pos hi]
      have := h i (List.mem_range.mpr hi)
      rw [beq_iff_eq] at this
      rw [this, Option.some_inj]
      omega
    · rw [List.getElem?_eq_none (by rw [wts_len]; omega), List.getElem?_eq_none (by rw [List.length_replicate]; omega)]
theorem SeqIn.app {M more : Sto} {d : D} {xs : List D} (h : SeqIn M d xs) : SeqIn (M ++ more) d xs := by
  rcases h with h | ⟨n, h, e⟩
  · exact .inl h
  · exact .inr ⟨n, h, by rw [List.getElem?_append_left (List.getElem?_eq_some_iff.mp e).1]; exact e⟩
theorem newL_t {acc : List D} {M : Sto} {Q : KQ} (h : Q (.loc M.length) (M ++ [acc])) : newL true acc M Q := h
def G_even : GS := fun ds M Q E => ∃ N rd, ds = [.tup [.lst (N.pipes.map encP), rd]] ∧ NetOk N ∧ RowsIn M rd N.rows ∧ Q (.bl (bal N)) M
theorem last_at {M : Sto} {xs : List D} : (M ++ [xs])[M.length]? = some xs := by
  rw [List.getElem?_append_right (Nat.le_refl _), Nat.sub_self]
  rfl
theorem last_set {M : Sto} {xs ys : List D} : (M ++ [xs]).set M.length ys = M ++ [ys] := by
  rw [List.set_append_right _ _ (Nat.le_refl _), Nat.sub_self]
  rfl
theorem ints_set {zs : List Int} {p : Nat} {z : Int} : (intL zs).set p (.int z) = intL (zs.set p z) := by unfold intL; rw [List.map_set]
theorem ints_at {zs : List Int} {p : Nat} : (intL zs)[p]? = (zs[p]?).map D.int := by unfold intL; rw [List.getElem?_map]
theorem sem_even : ∀ ds M Q E, G_even ds M Q E → f_even (exits true M Q E) (startD 5 ds) M := by
  rintro ds M Q E ⟨N, rd, rfl, ok, hr, hq⟩
  unfold f_even
  simp only [startD, List.map_cons, List.map_nil, List.length_cons, List.length_nil, List.replicate, List.cons_append, List.nil_append, Nat.reduceAdd, Nat.reduceSub]
  have hf := ok.fewP
  have hw := ok.few
  have zeros : N.pipes.map (fun _ => D.int 0) = intL (List.replicate N.P 0) := by unfold intL Net.P; rw [List.map_replicate, ← List.map_const']
  refine st_lc (M1 := M) (xs := N.pipes.map encP) (ok := okAny) (by intro R E hq; simp only [↓iSeqD, ↓iRng1D, ↓iRng2D, ↓iRng3D, ↓iEnumD, ↓iEnumTD, ↓eVar, ↓eC, ↓eBin, ↓eUn, ↓eB, ↓eTup, ↓eLst, ↓eAnd, ↓eOr, ↓eNot, ↓eIf, ↓eChain, ↓eSlice, ↓eM, ↓eStr1, ↓eIsi, ↓oNo, ↓oPart, ↓tst, ↓ftAnd, ↓ftOr, ↓ftNot, ↓ftYes, ↓args, ↓gI, ↓gI0, ↓gSubI, ↓gFdiv, ↓gMod, ↓gPow, ↓gLt, ↓gLe, ↓gGt, ↓gGe, ↓gAdd, ↓gMul, ↓gRep, ↓gIx, ↓gIsN, ↓gNotN, ↓gNeg, ↓gEqN, ↓gIn, ↓gInSeq, ↓gLen, ↓gSlice, ↓gList, ↓gTuple, ↓gMin2, ↓gMax2, ↓gStr, ↓gInt, ↓newL, ↓mAppend, ↓mInsert, ↓mPopAt, ↓mIndex, ↓gSplit, ↓gJoin, List.map_cons, List.map_nil, List.length_cons, List.length_nil, List.length_map, List.cons_append, List.nil_append, Nat.reduceAdd, Nat.reduceSub, List.getElem?_cons_zero, List.getElem?_cons_succ, List.getElem?_map, Option.map_some, List.set_cons_zero, List.set_cons_succ, isNon, seqOf, listOf, atI_nn, atI_0, atI_1, atI_2, atI_3, encNet, encSt, encRow, encR, encO, encP, nats, encT, Od.raw, if_true, if_false, ite_true, ite_false, Bool.false_eq_true, Bool.true_eq_false, Bool.not_true, Bool.not_false, decide_true, decide_false, reduceIte, eq_self, and_true, true_and, sn_set_put, sn_set_take, sn_set_add, sn_put_set, sn_put_take, sn_put_add, sn_take_set, sn_take_put, sn_take_add, sn_add_set, sn_add_put, sn_add_take]; exact hq) (by rw [List.length_map]; exact million (Nat.le_trans hf (by decide))) (lc_ev encP (fun p => D.int 0) trivial _ (fun p hp => by intro Q E hq; simp only [↓eVar, ↓eC, ↓eBin, ↓eUn, ↓eB, ↓eTup, ↓eLst, ↓eAnd, ↓eOr, ↓eNot, ↓eIf, ↓eChain, ↓eSlice, ↓eM, ↓eStr1, ↓eIsi, ↓oNo, ↓oPart, ↓tst, ↓ftAnd, ↓ftOr, ↓ftNot, ↓ftYes, ↓args, ↓gI, ↓gI0, ↓gSubI, ↓gFdiv, ↓gMod, ↓gPow, ↓gLt, ↓gLe, ↓gGt, ↓gGe, ↓gAdd, ↓gMul, ↓gRep, ↓gIx, ↓gIsN, ↓gNotN, ↓gNeg, ↓gEqN, ↓gIn, ↓gInSeq, ↓gLen, ↓gSlice, ↓gList, ↓gTuple, ↓gMin2, ↓gMax2, ↓gStr, ↓gInt, ↓newL, ↓mAppend, ↓mInsert, ↓mPopAt, ↓mIndex, ↓gSplit, ↓gJoin, List.map_cons, List.map_nil, List.length_cons, List.length_nil, List.length_map, List.cons_append, List.nil_append, Nat.reduceAdd, Nat.reduceSub, List.getElem?_cons_zero, List.getElem?_cons_succ, List.getElem?_map, Option.map_some, List.set_cons_zero, List.set_cons_succ, isNon, seqOf, listOf, atI_nn, atI_0, atI_1, atI_2, atI_3, encNet, encSt, encRow, encR, encO, encP, nats, encT, Od.raw, if_true, if_false, ite_true, ite_false, Bool.false_eq_true, Bool.true_eq_false, Bool.not_true, Bool.not_false, decide_true, decide_false, reduceIte, eq_self, and_true, true_and, sn_set_put, sn_set_take, sn_set_add, sn_put_set, sn_put_take, sn_put_add, sn_take_set, sn_take_put, sn_take_add, sn_add_set, sn_add_put, sn_add_take]; exact hq) ?_)
  rw [zeros]
  refine newL_t ?_
  have e0 : wts N.P (N.rows.take 0) = List.replicate N.P 0 := by
    refine List.ext_getElem? fun i => ?_
    by_cases hi : i < N.P
    · rw [wts_get hi, List.getElem?_replicate, if_pos hi]
      rfl
    · rw [List.getElem?_eq_none (by rw [wts_len]; omega), List.getElem?_eq_none (by rw [List.length_replicate]; omega)]
  rw [← e0]
  show sSeq _ _ _ [some (.tup [.lst (N.pipes.map encP), rd]), none, some (.loc M.length), none, none] _
  obtain ⟨rds, s1, s2, s3⟩ := hr
  obtain ⟨ok1, iv1, hok1⟩ := iv_seq (f := eBin gIx (eVar 0) (eC (.int 1))) (ds := [some (.tup [.lst (N.pipes.map encP), rd]), none, some (.loc M.length), none, none]) (M := M ++ [intL (wts N.P (N.rows.take 0))]) (d := rd) (by intro Q E hq; simp only [↓eVar, ↓eC, ↓eBin, ↓eUn, ↓eB, ↓eTup, ↓eLst, ↓eAnd, ↓eOr, ↓eNot, ↓eIf, ↓eChain, ↓eSlice, ↓eM, ↓eStr1, ↓eIsi, ↓oNo, ↓oPart, ↓tst, ↓ftAnd, ↓ftOr, ↓ftNot, ↓ftYes, ↓args, ↓gI, ↓gI0, ↓gSubI, ↓gFdiv, ↓gMod, ↓gPow, ↓gLt, ↓gLe, ↓gGt, ↓gGe, ↓gAdd, ↓gMul, ↓gRep, ↓gIx, ↓gIsN, ↓gNotN, ↓gNeg, ↓gEqN, ↓gIn, ↓gInSeq, ↓gLen, ↓gSlice, ↓gList, ↓gTuple, ↓gMin2, ↓gMax2, ↓gStr, ↓gInt, ↓newL, ↓mAppend, ↓mInsert, ↓mPopAt, ↓mIndex, ↓gSplit, ↓gJoin, List.map_cons, List.map_nil, List.length_cons, List.length_nil, List.length_map, List.cons_append, List.nil_append, Nat.reduceAdd, Nat.reduceSub, List.getElem?_cons_zero, List.getElem?_cons_succ, List.getElem?_map, Option.map_some, List.set_cons_zero, List.set_cons_succ, isNon, seqOf, listOf, atI_nn, atI_0, atI_1, atI_2, atI_3, encNet, encSt, encRow, encR, encO, encP, nats, encT, Od.raw, if_true, if_false, ite_true, ite_false, Bool.false_eq_true, Bool.true_eq_false, Bool.not_true, Bool.not_false, decide_true, decide_false, reduceIte, eq_self, and_true, true_and, sn_set_put, sn_set_take, sn_set_add, sn_put_set, sn_put_take, sn_put_add, sn_take_set, sn_take_put, sn_take_add, sn_add_set, sn_add_put, sn_add_take]; exact hq) s1.app
  refine st_forI iv1 (fun i ds M' => ∃ x3 x4, M' = M ++ [intL (wts N.P (N.rows.take i))] ∧ ds = [some (.tup [.lst (N.pipes.map encP), rd]), none, some (.loc M.length), x3, x4]) ⟨none, none, rfl, rfl⟩ (by
    rintro i ds _ _ ⟨x3, x4, rfl, rfl⟩
    exact hok1 _ s1.app) ?_ ?_
  · rintro i d _ _ nx hd ⟨x3, x4, rfl, rfl⟩ k
    have sr := s3 i d hd
    have hi : i < N.rows.length := by rw [← s2]; exact (List.getElem?_eq_some_iff.mp hd).1
    have hrow := getD_of (d := ([] : List Od)) hi
    have hmem := List.mem_of_getElem? hrow
    generalize hr : N.rows.getD i [] = r at *
    obtain ⟨ok2, iv2, hok2⟩ := iv_seq (f := eVar 3) (ds := [some (.tup [.lst (N.pipes.map encP), rd]), none, some (.loc M.length), some d, x4]) (M := M ++ [intL (wts N.P (N.rows.take i))]) (d := d) (by intro Q E hq; simp only [↓eVar, ↓eC, ↓eBin, ↓eUn, ↓eB, ↓eTup, ↓eLst, ↓eAnd, ↓eOr, ↓eNot, ↓eIf, ↓eChain, ↓eSlice, ↓eM, ↓eStr1, ↓eIsi, ↓oNo, ↓oPart, ↓tst, ↓ftAnd, ↓ftOr, ↓ftNot, ↓ftYes, ↓args, ↓gI, ↓gI0, ↓gSubI, ↓gFdiv, ↓gMod, ↓gPow, ↓gLt, ↓gLe, ↓gGt, ↓gGe, ↓gAdd, ↓gMul, ↓gRep, ↓gIx, ↓gIsN, ↓gNotN, ↓gNeg, ↓gEqN, ↓gIn, ↓gInSeq, ↓gLen, ↓gSlice, ↓gList, ↓gTuple, ↓gMin2, ↓gMax2, ↓gStr, ↓gInt, ↓newL, ↓mAppend, ↓mInsert, ↓mPopAt, ↓mIndex, ↓gSplit, ↓gJoin, List.map_cons, List.map_nil, List.length_cons, List.length_nil, List.length_map, List.cons_append, List.nil_append, Nat.reduceAdd, Nat.reduceSub, List.getElem?_cons_zero, List.getElem?_cons_succ, List.getElem?_map, Option.map_some, List.set_cons_zero, List.set_cons_succ, isNon, seqOf, listOf, atI_nn, atI_0, atI_1, atI_2, atI_3, encNet, encSt, encRow, encR, encO, encP, nats, encT, Od.raw, if_true, if_false, ite_true, ite_false, Bool.false_eq_true, Bool.true_eq_false, Bool.not_true, Bool.not_false, decide_true, decide_false, reduceIte, eq_self, and_true, true_and, sn_set_put, sn_set_take, sn_set_add, sn_put_set, sn_put_take, sn_put_add, sn_take_set, sn_take_put, sn_take_add, sn_add_set, sn_add_put, sn_add_take]; exact hq) sr.app
    refine st_lforI iv2 (fun j ds M' => ∃ x4, M' = M ++ [intL (wts N.P (N.rows.take i ++ [r.take j]))] ∧ ds = [some (.tup [.lst (N.pipes.map encP), rd]), none, some (.loc M.length), some d, x4]) ⟨x4, by rw [List.take_zero, wts_nil], rfl⟩ (by
      rintro j ds _ _ ⟨x4, rfl, rfl⟩
      exact hok2 _ sr.app) ?_ ?_
    · rintro j o _ _ nx2 ho0 ⟨x4, rfl, rfl⟩ k2
      obtain ⟨o, ho, rfl⟩ := map_get ho0
      have hp := ok.ords r hmem o (List.mem_of_getElem? ho)
      have hts : r.take (j + 1) = r.take j ++ [o] := by rw [List.take_succ, ho]; rfl
      rw [hts] at k2
      have ixn : ∀ p : Nat, p < N.P → ixN (wts N.P (N.rows.take i ++ [r.take j])).length (p : Int) = some p := by
        intro p hp
        unfold ixN
        rw [if_pos (Int.natCast_nonneg p), wts_len, if_pos (by omega)]
        rfl
      have lens : ∀ zs : List Int, (intL zs).length = zs.length := fun zs => by unfold intL; rw [List.length_map]
      unfold gNm
      cases o with
      | set z =>
        rw [wts_set] at k2
        refine st_l0 (M1 := M ++ [intL (wts N.P (N.rows.take i ++ [r.take j]))]) (by intro Q E hq; simp only [↓eVar, ↓eC, ↓eBin, ↓eUn, ↓eB, ↓eTup, ↓eLst, ↓eAnd, ↓eOr, ↓eNot, ↓eIf, ↓eChain, ↓eSlice, ↓eM, ↓eStr1, ↓eIsi, ↓oNo, ↓oPart, ↓tst, ↓ftAnd, ↓ftOr, ↓ftNot, ↓ftYes, ↓args, ↓gI, ↓gI0, ↓gSubI, ↓gFdiv, ↓gMod, ↓gPow, ↓gLt, ↓gLe, ↓gGt, ↓gGe, ↓gAdd, ↓gMul, ↓gRep, ↓gIx, ↓gIsN, ↓gNotN, ↓gNeg, ↓gEqN, ↓gIn, ↓gInSeq, ↓gLen, ↓gSlice, ↓gList, ↓gTuple, ↓gMin2, ↓gMax2, ↓gStr, ↓gInt, ↓newL, ↓mAppend, ↓mInsert, ↓mPopAt, ↓mIndex, ↓gSplit, ↓gJoin, List.map_cons, List.map_nil, List.length_cons, List.length_nil, List.length_map, List.cons_append, List.nil_append, Nat.reduceAdd, Nat.reduceSub, List.getElem?_cons_zero, List.getElem?_cons_succ, List.getElem?_map, Option.map_some, List.set_cons_zero, List.set_cons_succ, isNon, seqOf, listOf, atI_nn, atI_0, atI_1, atI_2, atI_3, encNet, encSt, encRow, encR, encO, encP, nats, encT, Od.raw, if_true, if_false, ite_true, ite_false, Bool.false_eq_true, Bool.true_eq_false, Bool.not_true, Bool.not_false, decide_true, decide_false, reduceIte, eq_self, and_true, true_and, sn_set_put, sn_set_take, sn_set_add, sn_put_set, sn_put_take, sn_put_add, sn_take_set, sn_take_put, sn_take_add, sn_add_set, sn_add_put, sn_add_take]; exact hq) (st_l0 (M1 := M ++ [intL (wts N.P (N.rows.take i ++ [r.take j]))]) (by intro Q E hq; simp only [↓eVar, ↓eC, ↓eBin, ↓eUn, ↓eB, ↓eTup, ↓eLst, ↓eAnd, ↓eOr, ↓eNot, ↓eIf, ↓eChain, ↓eSlice, ↓eM, ↓eStr1, ↓eIsi, ↓oNo, ↓oPart, ↓tst, ↓ftAnd, ↓ftOr, ↓ftNot, ↓ftYes, ↓args, ↓gI, ↓gI0, ↓gSubI, ↓gFdiv, ↓gMod, ↓gPow, ↓gLt, ↓gLe, ↓gGt, ↓gGe, ↓gAdd, ↓gMul, ↓gRep, ↓gIx, ↓gIsN, ↓gNotN, ↓gNeg, ↓gEqN, ↓gIn, ↓gInSeq, ↓gLen, ↓gSlice, ↓gList, ↓gTuple, ↓gMin2, ↓gMax2, ↓gStr, ↓gInt, ↓newL, ↓mAppend, ↓mInsert, ↓mPopAt, ↓mIndex, ↓gSplit, ↓gJoin, List.map_cons, List.map_nil, List.length_cons, List.length_nil, List.length_map, List.cons_append, List.nil_append, Nat.reduceAdd, Nat.reduceSub, List.getElem?_cons_zero, List.getElem?_cons_succ, List.getElem?_map, Option.map_some, List.set_cons_zero, List.set_cons_succ, isNon, seqOf, listOf, atI_nn, atI_0, atI_1, atI_2, atI_3, encNet, encSt, encRow, encR, encO, encP, nats, encT, Od.raw, if_true, if_false, ite_true, ite_false, Bool.false_eq_true, Bool.true_eq_false, Bool.not_true, Bool.not_false, decide_true, decide_false, reduceIte, eq_self, and_true, true_and, sn_set_put, sn_set_take, sn_set_add, sn_put_set, sn_put_take, sn_put_add, sn_take_set, sn_take_put, sn_take_add, sn_add_set, sn_add_put, sn_add_take]; exact hq) ?_)
        exact k2 _ _ ⟨some (encO (.set z)), rfl, rfl⟩
      | put p =>
        have hp := hp p (.inl rfl)
        rw [wts_put hp] at k2
        refine st_l1 (M1 := M ++ [intL (wts N.P (N.rows.take i ++ [r.take j]))]) (by intro Q E hq; simp only [↓eVar, ↓eC, ↓eBin, ↓eUn, ↓eB, ↓eTup, ↓eLst, ↓eAnd, ↓eOr, ↓eNot, ↓eIf, ↓eChain, ↓eSlice, ↓eM, ↓eStr1, ↓eIsi, ↓oNo, ↓oPart, ↓tst, ↓ftAnd, ↓ftOr, ↓ftNot, ↓ftYes, ↓args, ↓gI, ↓gI0, ↓gSubI, ↓gFdiv, ↓gMod, ↓gPow, ↓gLt, ↓gLe, ↓gGt, ↓gGe, ↓gAdd, ↓gMul, ↓gRep, ↓gIx, ↓gIsN, ↓gNotN, ↓gNeg, ↓gEqN, ↓gIn, ↓gInSeq, ↓gLen, ↓gSlice, ↓gList, ↓gTuple, ↓gMin2, ↓gMax2, ↓gStr, ↓gInt, ↓newL, ↓mAppend, ↓mInsert, ↓mPopAt, ↓mIndex, ↓gSplit, ↓gJoin, List.map_cons, List.map_nil, List.length_cons, List.length_nil, List.length_map, List.cons_append, List.nil_append, Nat.reduceAdd, Nat.reduceSub, List.getElem?_cons_zero, List.getElem?_cons_succ, List.getElem?_map, Option.map_some, List.set_cons_zero, List.set_cons_succ, isNon, seqOf, listOf, atI_nn, atI_0, atI_1, atI_2, atI_3, encNet, encSt, encRow, encR, encO, encP, nats, encT, Od.raw, if_true, if_false, ite_true, ite_false, Bool.false_eq_true, Bool.true_eq_false, Bool.not_true, Bool.not_false, decide_true, decide_false, reduceIte, eq_self, and_true, true_and, sn_set_put, sn_set_take, sn_set_add, sn_put_set, sn_put_take, sn_put_add, sn_take_set, sn_take_put, sn_take_add, sn_add_set, sn_add_put, sn_add_take]; exact hq) ?_
        show eBin _ _ _ _ _ _ _
        simp only [↓eVar, ↓eC, ↓eBin, ↓eUn, ↓eB, ↓eTup, ↓eLst, ↓eAnd, ↓eOr, ↓eNot, ↓eIf, ↓eChain, ↓eSlice, ↓eM, ↓eStr1, ↓eIsi, ↓oNo, ↓oPart, ↓tst, ↓ftAnd, ↓ftOr, ↓ftNot, ↓ftYes, ↓args, ↓gI, ↓gI0, ↓gSubI, ↓gFdiv, ↓gMod, ↓gPow, ↓gLt, ↓gLe, ↓gGt, ↓gGe, ↓gAdd, ↓gMul, ↓gRep, ↓gIx, ↓gIsN, ↓gNotN, ↓gNeg, ↓gEqN, ↓gIn, ↓gInSeq, ↓gLen, ↓gSlice, ↓gList, ↓gTuple, ↓gMin2, ↓gMax2, ↓gStr, ↓gInt, ↓newL, ↓mAppend, ↓mInsert, ↓mPopAt, ↓mIndex, ↓gSplit, ↓gJoin, List.map_cons, List.map_nil, List.length_cons, List.length_nil, List.length_map, List.cons_append, List.nil_append, Nat.reduceAdd, Nat.reduceSub, List.getElem?_cons_zero, List.getElem?_cons_succ, List.getElem?_map, Option.map_some, List.set_cons_zero, List.set_cons_succ, isNon, seqOf, listOf, atI_nn, atI_0, atI_1, atI_2, atI_3, encNet, encSt, encRow, encR, encO, encP, nats, encT, Od.raw, if_true, if_false, ite_true, ite_false, Bool.false_eq_true, Bool.true_eq_false, Bool.not_true, Bool.not_false, decide_true, decide_false, reduceIte, eq_self, and_true, true_and, sn_set_put, sn_set_take, sn_set_add, sn_put_set, sn_put_take, sn_put_add, sn_take_set, sn_take_put, sn_take_add, sn_add_set, sn_add_put, sn_add_take, last_at, ints_at, wts_get hp, ↓gSb, setD, lens, ixn p hp, ints_set, last_set]
        exact k2 _ _ ⟨some (encO (.put p)), rfl, rfl⟩
      | take p =>
        have hp := hp p (.inr (.inl rfl))
        rw [wts_take (.inl rfl) hp] at k2
        refine st_l0 (M1 := M ++ [intL (wts N.P (N.rows.take i ++ [r.take j]))]) (by intro Q E hq; simp only [↓eVar, ↓eC, ↓eBin, ↓eUn, ↓eB, ↓eTup, ↓eLst, ↓eAnd, ↓eOr, ↓eNot, ↓eIf, ↓eChain, ↓eSlice, ↓eM, ↓eStr1, ↓eIsi, ↓oNo, ↓oPart, ↓tst, ↓ftAnd, ↓ftOr, ↓ftNot, ↓ftYes, ↓args, ↓gI, ↓gI0, ↓gSubI, ↓gFdiv, ↓gMod, ↓gPow, ↓gLt, ↓gLe, ↓gGt, ↓gGe, ↓gAdd, ↓gMul, ↓gRep, ↓gIx, ↓gIsN, ↓gNotN, ↓gNeg, ↓gEqN, ↓gIn, ↓gInSeq, ↓gLen, ↓gSlice, ↓gList, ↓gTuple, ↓gMin2, ↓gMax2, ↓gStr, ↓gInt, ↓newL, ↓mAppend, ↓mInsert, ↓mPopAt, ↓mIndex, ↓gSplit, ↓gJoin, List.map_cons, List.map_nil, List.length_cons, List.length_nil, List.length_map, List.cons_append, List.nil_append, Nat.reduceAdd, Nat.reduceSub, List.getElem?_cons_zero, List.getElem?_cons_succ, List.getElem?_map, Option.map_some, List.set_cons_zero, List.set_cons_succ, isNon, seqOf, listOf, atI_nn, atI_0, atI_1, atI_2, atI_3, encNet, encSt, encRow, encR, encO, encP, nats, encT, Od.raw, if_true, if_false, ite_true, ite_false, Bool.false_eq_true, Bool.true_eq_false, Bool.not_true, Bool.not_false, decide_true, decide_false, reduceIte, eq_self, and_true, true_and, sn_set_put, sn_set_take, sn_set_add, sn_put_set, sn_put_take, sn_put_add, sn_take_set, sn_take_put, sn_take_add, sn_add_set, sn_add_put, sn_add_take]; exact hq) (st_l1 (M1 := M ++ [intL (wts N.P (N.rows.take i ++ [r.take j]))]) (by intro Q E hq; simp only [↓eVar, ↓eC, ↓eBin, ↓eUn, ↓eB, ↓eTup, ↓eLst, ↓eAnd, ↓eOr, ↓eNot, ↓eIf, ↓eChain, ↓eSlice, ↓eM, ↓eStr1, ↓eIsi, ↓oNo, ↓oPart, ↓tst, ↓ftAnd, ↓ftOr, ↓ftNot, ↓ftYes, ↓args, ↓gI, ↓gI0, ↓gSubI, ↓gFdiv, ↓gMod, ↓gPow, ↓gLt, ↓gLe, ↓gGt, ↓gGe, ↓gAdd, ↓gMul, ↓gRep, ↓gIx, ↓gIsN, ↓gNotN, ↓gNeg, ↓gEqN, ↓gIn, ↓gInSeq, ↓gLen, ↓gSlice, ↓gList, ↓gTuple, ↓gMin2, ↓gMax2, ↓gStr, ↓gInt, ↓newL, ↓mAppend, ↓mInsert, ↓mPopAt, ↓mIndex, ↓gSplit, ↓gJoin, List.map_cons, List.map_nil, List.length_cons, List.length_nil, List.length_map, List.cons_append, List.nil_append, Nat.reduceAdd, Nat.reduceSub, List.getElem?_cons_zero, List.getElem?_cons_succ, List.getElem?_map, Option.map_some, List.set_cons_zero, List.set_cons_succ, isNon, seqOf, listOf, atI_nn, atI_0, atI_1, atI_2, atI_3, encNet, encSt, encRow, encR, encO, encP, nats, encT, Od.raw, if_true, if_false, ite_true, ite_false, Bool.false_eq_true, Bool.true_eq_false, Bool.not_true, Bool.not_false, decide_true, decide_false, reduceIte, eq_self, and_true, true_and, sn_set_put, sn_set_take, sn_set_add, sn_put_set, sn_put_take, sn_put_add, sn_take_set, sn_take_put, sn_take_add, sn_add_set, sn_add_put, sn_add_take]; exact hq) ?_)
        show eBin _ _ _ _ _ _ _
        simp only [↓eVar, ↓eC, ↓eBin, ↓eUn, ↓eB, ↓eTup, ↓eLst, ↓eAnd, ↓eOr, ↓eNot, ↓eIf, ↓eChain, ↓eSlice, ↓eM, ↓eStr1, ↓eIsi, ↓oNo, ↓oPart, ↓tst, ↓ftAnd, ↓ftOr, ↓ftNot, ↓ftYes, ↓args, ↓gI, ↓gI0, ↓gSubI, ↓gFdiv, ↓gMod, ↓gPow, ↓gLt, ↓gLe, ↓gGt, ↓gGe, ↓gAdd, ↓gMul, ↓gRep, ↓gIx, ↓gIsN, ↓gNotN, ↓gNeg, ↓gEqN, ↓gIn, ↓gInSeq, ↓gLen, ↓gSlice, ↓gList, ↓gTuple, ↓gMin2, ↓gMax2, ↓gStr, ↓gInt, ↓newL, ↓mAppend, ↓mInsert, ↓mPopAt, ↓mIndex, ↓gSplit, ↓gJoin, List.map_cons, List.map_nil, List.length_cons, List.length_nil, List.length_map, List.cons_append, List.nil_append, Nat.reduceAdd, Nat.reduceSub, List.getElem?_cons_zero, List.getElem?_cons_succ, List.getElem?_map, Option.map_some, List.set_cons_zero, List.set_cons_succ, isNon, seqOf, listOf, atI_nn, atI_0, atI_1, atI_2, atI_3, encNet, encSt, encRow, encR, encO, encP, nats, encT, Od.raw, if_true, if_false, ite_true, ite_false, Bool.false_eq_true, Bool.true_eq_false, Bool.not_true, Bool.not_false, decide_true, decide_false, reduceIte, eq_self, and_true, true_and, sn_set_put, sn_set_take, sn_set_add, sn_put_set, sn_put_take, sn_put_add, sn_take_set, sn_take_put, sn_take_add, sn_add_set, sn_add_put, sn_add_take, last_at, ints_at, wts_get hp, ↓gSb, setD, lens, ixn p hp, ints_set, last_set]
        exact k2 _ _ ⟨some (encO (.take p)), rfl, rfl⟩
      | add p =>
        have hp := hp p (.inr (.inr rfl))
        rw [wts_take (.inr rfl) hp] at k2
        refine st_l0 (M1 := M ++ [intL (wts N.P (N.rows.take i ++ [r.take j]))]) (by intro Q E hq; simp only [↓eVar, ↓eC, ↓eBin, ↓eUn, ↓eB, ↓eTup, ↓eLst, ↓eAnd, ↓eOr, ↓eNot, ↓eIf, ↓eChain, ↓eSlice, ↓eM, ↓eStr1, ↓eIsi, ↓oNo, ↓oPart, ↓tst, ↓ftAnd, ↓ftOr, ↓ftNot, ↓ftYes, ↓args, ↓gI, ↓gI0, ↓gSubI, ↓gFdiv, ↓gMod, ↓gPow, ↓gLt, ↓gLe, ↓gGt, ↓gGe, ↓gAdd, ↓gMul, ↓gRep, ↓gIx, ↓gIsN, ↓gNotN, ↓gNeg, ↓gEqN, ↓gIn, ↓gInSeq, ↓gLen, ↓gSlice, ↓gList, ↓gTuple, ↓gMin2, ↓gMax2, ↓gStr, ↓gInt, ↓newL, ↓mAppend, ↓mInsert, ↓mPopAt, ↓mIndex, ↓gSplit, ↓gJoin, List.map_cons, List.map_nil, List.length_cons, List.length_nil, List.length_map, List.cons_append, List.nil_append, Nat.reduceAdd, Nat.reduceSub, List.getElem?_cons_zero, List.getElem?_cons_succ, List.getElem?_map, Option.map_some, List.set_cons_zero, List.set_cons_succ, isNon, seqOf, listOf, atI_nn, atI_0, atI_1, atI_2, atI_3, encNet, encSt, encRow, encR, encO, encP, nats, encT, Od.raw, if_true, if_false, ite_true, ite_false, Bool.false_eq_true, Bool.true_eq_false, Bool.not_true, Bool.not_false, decide_true, decide_false, reduceIte, eq_self, and_true, true_and, sn_set_put, sn_set_take, sn_set_add, sn_put_set, sn_put_take, sn_put_add, sn_take_set, sn_take_put, sn_take_add, sn_add_set, sn_add_put, sn_add_take]; exact hq) (st_l1 (M1 := M ++ [intL (wts N.P (N.rows.take i ++ [r.take j]))]) (by intro Q E hq; simp only [↓eVar, ↓eC, ↓eBin, ↓eUn, ↓eB, ↓eTup, ↓eLst, ↓eAnd, ↓eOr, ↓eNot, ↓eIf, ↓eChain, ↓eSlice, ↓eM, ↓eStr1, ↓eIsi, ↓oNo, ↓oPart, ↓tst, ↓ftAnd, ↓ftOr, ↓ftNot, ↓ftYes, ↓args, ↓gI, ↓gI0, ↓gSubI, ↓gFdiv, ↓gMod, ↓gPow, ↓gLt, ↓gLe, ↓gGt, ↓gGe, ↓gAdd, ↓gMul, ↓gRep, ↓gIx, ↓gIsN, ↓gNotN, ↓gNeg, ↓gEqN, ↓gIn, ↓gInSeq, ↓gLen, ↓gSlice, ↓gList, ↓gTuple, ↓gMin2, ↓gMax2, ↓gStr, ↓gInt, ↓newL, ↓mAppend, ↓mInsert, ↓mPopAt, ↓mIndex, ↓gSplit, ↓gJoin, List.map_cons, List.map_nil, List.length_cons, List.length_nil, List.length_map, List.cons_append, List.nil_append, Nat.reduceAdd, Nat.reduceSub, List.getElem?_cons_zero, List.getElem?_cons_succ, List.getElem?_map, Option.map_some, List.set_cons_zero, List.set_cons_succ, isNon, seqOf, listOf, atI_nn, atI_0, atI_1, atI_2, atI_3, encNet, encSt, encRow, encR, encO, encP, nats, encT, Od.raw, if_true, if_false, ite_true, ite_false, Bool.false_eq_true, Bool.true_eq_false, Bool.not_true, Bool.not_false, decide_true, decide_false, reduceIte, eq_self, and_true, true_and, sn_set_put, sn_set_take, sn_set_add, sn_put_set, sn_put_take, sn_put_add, sn_take_set, sn_take_put, sn_take_add, sn_add_set, sn_add_put, sn_add_take]; exact hq) ?_)
        show eBin _ _ _ _ _ _ _
        simp only [↓eVar, ↓eC, ↓eBin, ↓eUn, ↓eB, ↓eTup, ↓eLst, ↓eAnd, ↓eOr, ↓eNot, ↓eIf, ↓eChain, ↓eSlice, ↓eM, ↓eStr1, ↓eIsi, ↓oNo, ↓oPart, ↓tst, ↓ftAnd, ↓ftOr, ↓ftNot, ↓ftYes, ↓args, ↓gI, ↓gI0, ↓gSubI, ↓gFdiv, ↓gMod, ↓gPow, ↓gLt, ↓gLe, ↓gGt, ↓gGe, ↓gAdd, ↓gMul, ↓gRep, ↓gIx, ↓gIsN, ↓gNotN, ↓gNeg, ↓gEqN, ↓gIn, ↓gInSeq, ↓gLen, ↓gSlice, ↓gList, ↓gTuple, ↓gMin2, ↓gMax2, ↓gStr, ↓gInt, ↓newL, ↓mAppend, ↓mInsert, ↓mPopAt, ↓mIndex, ↓gSplit, ↓gJoin, List.map_cons, List.map_nil, List.length_cons, List.length_nil, List.length_map, List.cons_append, List.nil_append, Nat.reduceAdd, Nat.reduceSub, List.getElem?_cons_zero, List.getElem?_cons_succ, List.getElem?_map, Option.map_some, List.set_cons_zero, List.set_cons_succ, isNon, seqOf, listOf, atI_nn, atI_0, atI_1, atI_2, atI_3, encNet, encSt, encRow, encR, encO, encP, nats, encT, Od.raw, if_true, if_false, ite_true, ite_false, Bool.false_eq_true, Bool.true_eq_false, Bool.not_true, Bool.not_false, decide_true, decide_false, reduceIte, eq_self, and_true, true_and, sn_set_put, sn_set_take, sn_set_add, sn_put_set, sn_put_take, sn_put_add, sn_take_set, sn_take_put, sn_take_add, sn_add_set, sn_add_put, sn_add_take, last_at, ints_at, wts_get hp, ↓gSb, setD, lens, ixn p hp, ints_set, last_set]
        exact k2 _ _ ⟨some (encO (.add p)), rfl, rfl⟩
    · rintro _ _ ⟨x4, rfl, rfl⟩
      refine k _ _ ⟨some d, x4, ?_, rfl⟩
      rw [List.length_map, List.take_length, List.take_succ, hrow]
      rfl
  · rintro _ _ ⟨x3, x4, rfl, rfl⟩
    rw [s2, List.take_length]
    have hl : (M ++ [intL (wts N.P N.rows)]).take M.length = M := List.take_left
    refine st_ret (d := .bl (bal N)) (M1 := M ++ [intL (wts N.P N.rows)]) ?_ ⟨_, rsv_no rfl, hl, hq⟩
    clear hq
    intro Q E hq
    have zlc : Ev (eLc false (iSeqD (eBin gIx (eVar 0) (eC (.int 0)))) [1] (putNm 1) ftYes (eC (.int 0))) [some (.tup [.lst (N.pipes.map encP), rd]), none, some (.loc M.length), x3, x4] (M ++ [intL (wts N.P N.rows)]) (.lst (intL (List.replicate N.P 0))) (M ++ [intL (wts N.P N.rows)]) := by
      refine ev_lc (xs := N.pipes.map encP) (ok := okAny) (M1 := M ++ [intL (wts N.P N.rows)]) (M2 := M ++ [intL (wts N.P N.rows)]) (acc := intL (List.replicate N.P 0)) (by intro R E hq; simp only [↓iSeqD, ↓iRng1D, ↓iRng2D, ↓iRng3D, ↓iEnumD, ↓iEnumTD, ↓eVar, ↓eC, ↓eBin, ↓eUn, ↓eB, ↓eTup, ↓eLst, ↓eAnd, ↓eOr, ↓eNot, ↓eIf, ↓eChain, ↓eSlice, ↓eM, ↓eStr1, ↓eIsi, ↓oNo, ↓oPart, ↓tst, ↓ftAnd, ↓ftOr, ↓ftNot, ↓ftYes, ↓args, ↓gI, ↓gI0, ↓gSubI, ↓gFdiv, ↓gMod, ↓gPow, ↓gLt, ↓gLe, ↓gGt, ↓gGe, ↓gAdd, ↓gMul, ↓gRep, ↓gIx, ↓gIsN, ↓gNotN, ↓gNeg, ↓gEqN, ↓gIn, ↓gInSeq, ↓gLen, ↓gSlice, ↓gList, ↓gTuple, ↓gMin2, ↓gMax2, ↓gStr, ↓gInt, ↓newL, ↓mAppend, ↓mInsert, ↓mPopAt, ↓mIndex, ↓gSplit, ↓gJoin, List.map_cons, List.map_nil, List.length_cons, List.length_nil, List.length_map, List.cons_append, List.nil_append, Nat.reduceAdd, Nat.reduceSub, List.getElem?_cons_zero, List.getElem?_cons_succ, List.getElem?_map, Option.map_some, List.set_cons_zero, List.set_cons_succ, isNon, seqOf, listOf, atI_nn, atI_0, atI_1, atI_2, atI_3, encNet, encSt, encRow, encR, encO, encP, nats, encT, Od.raw, if_true, if_false, ite_true, ite_false, Bool.false_eq_true, Bool.true_eq_false, Bool.not_true, Bool.not_false, decide_true, decide_false, reduceIte, eq_self, and_true, true_and, sn_set_put, sn_set_take, sn_set_add, sn_put_set, sn_put_take, sn_put_add, sn_take_set, sn_take_put, sn_take_add, sn_add_set, sn_add_put, sn_add_take]; exact hq) (by rw [List.length_map]; exact million (Nat.le_trans hf (by decide))) ?_ (fun Q q => q)
      intro Q q
      refine lc_ev encP (fun p => D.int 0) trivial _ (fun p hp => by intro Q E hq; simp only [↓eVar, ↓eC, ↓eBin, ↓eUn, ↓eB, ↓eTup, ↓eLst, ↓eAnd, ↓eOr, ↓eNot, ↓eIf, ↓eChain, ↓eSlice, ↓eM, ↓eStr1, ↓eIsi, ↓oNo, ↓oPart, ↓tst, ↓ftAnd, ↓ftOr, ↓ftNot, ↓ftYes, ↓args, ↓gI, ↓gI0, ↓gSubI, ↓gFdiv, ↓gMod, ↓gPow, ↓gLt, ↓gLe, ↓gGt, ↓gGe, ↓gAdd, ↓gMul, ↓gRep, ↓gIx, ↓gIsN, ↓gNotN, ↓gNeg, ↓gEqN, ↓gIn, ↓gInSeq, ↓gLen, ↓gSlice, ↓gList, ↓gTuple, ↓gMin2, ↓gMax2, ↓gStr, ↓gInt, ↓newL, ↓mAppend, ↓mInsert, ↓mPopAt, ↓mIndex, ↓gSplit, ↓gJoin, List.map_cons, List.map_nil, List.length_cons, List.length_nil, List.length_map, List.cons_append, List.nil_append, Nat.reduceAdd, Nat.reduceSub, List.getElem?_cons_zero, List.getElem?_cons_succ, List.getElem?_map, Option.map_some, List.set_cons_zero, List.set_cons_succ, isNon, seqOf, listOf, atI_nn, atI_0, atI_1, atI_2, atI_3, encNet, encSt, encRow, encR, encO, encP, nats, encT, Od.raw, if_true, if_false, ite_true, ite_false, Bool.false_eq_true, Bool.true_eq_false, Bool.not_true, Bool.not_false, decide_true, decide_false, reduceIte, eq_self, and_true, true_and, sn_set_put, sn_set_take, sn_set_add, sn_put_set, sn_put_take, sn_put_add, sn_take_set, sn_take_put, sn_take_add, sn_add_set, sn_add_put, sn_add_take]; exact hq) ?_
      rw [zeros]
      exact q
    refine ev_bin (M3 := M ++ [intL (wts N.P N.rows)]) (d := .bl (bal N)) (x := .loc M.length) (M1 := M ++ [intL (wts N.P N.rows)]) (by intro Q E hq; simp only [↓eVar, ↓eC, ↓eBin, ↓eUn, ↓eB, ↓eTup, ↓eLst, ↓eAnd, ↓eOr, ↓eNot, ↓eIf, ↓eChain, ↓eSlice, ↓eM, ↓eStr1, ↓eIsi, ↓oNo, ↓oPart, ↓tst, ↓ftAnd, ↓ftOr, ↓ftNot, ↓ftYes, ↓args, ↓gI, ↓gI0, ↓gSubI, ↓gFdiv, ↓gMod, ↓gPow, ↓gLt, ↓gLe, ↓gGt, ↓gGe, ↓gAdd, ↓gMul, ↓gRep, ↓gIx, ↓gIsN, ↓gNotN, ↓gNeg, ↓gEqN, ↓gIn, ↓gInSeq, ↓gLen, ↓gSlice, ↓gList, ↓gTuple, ↓gMin2, ↓gMax2, ↓gStr, ↓gInt, ↓newL, ↓mAppend, ↓mInsert, ↓mPopAt, ↓mIndex, ↓gSplit, ↓gJoin, List.map_cons, List.map_nil, List.length_cons, List.length_nil, List.length_map, List.cons_append, List.nil_append, Nat.reduceAdd, Nat.reduceSub, List.getElem?_cons_zero, List.getElem?_cons_succ, List.getElem?_map, Option.map_some, List.set_cons_zero, List.set_cons_succ, isNon, seqOf, listOf, atI_nn, atI_0, atI_1, atI_2, atI_3, encNet, encSt, encRow, encR, encO, encP, nats, encT, Od.raw, if_true, if_false, ite_true, ite_false, Bool.false_eq_true, Bool.true_eq_false, Bool.not_true, Bool.not_false, decide_true, decide_false, reduceIte, eq_self, and_true, true_and, sn_set_put, sn_set_take, sn_set_add, sn_put_set, sn_put_take, sn_put_add, sn_take_set, sn_take_put, sn_take_add, sn_add_set, sn_add_put, sn_add_take]; exact hq) zlc (fun Q q => ?_) Q E hq
    refine eq_ints (as := wts N.P N.rows) (bs := List.replicate N.P 0) ?_ py_ints ?_
    · rw [py_seq (.inr ⟨_, rfl, last_at⟩)]
      unfold intL
      rw [optAll_map2 (h := PyData.int) _ fun z _ => by unfold py; rfl]
      rfl
    · rw [wts_bal]
      exact q
end DL
namespace DL
open PySem PySem.Spec PyProof.Rows L2

section
variable {t u : FT} {fa fb : FE} {ds : DS} {M M1 M2 : Sto} {b : Bool} {d : D}
theorem tv_or0 (h : Tv t ds M false M1) (h2 : Tv u ds M1 b M2) : Tv (ftOr t u) ds M b M2 := fun Q E q => h _ _ (h2 _ _ q)
theorem tv_or1 (h : Tv t ds M true M1) : Tv (ftOr t u) ds M true M1 := fun Q E q => h _ _ q
theorem tv_and1 (h : Tv t ds M true M1) (h2 : Tv u ds M1 b M2) : Tv (ftAnd t u) ds M b M2 := fun Q E q => h _ _ (h2 _ _ q)
theorem tv_and0 (h : Tv t ds M false M1) : Tv (ftAnd t u) ds M false M1 := fun Q E q => h _ _ q
theorem tv_not (h : Tv t ds M b M1) : Tv (ftNot t) ds M (!b) M1 := fun Q E q => h _ _ q
theorem ev_and1 (h : Ev fa ds M (.bl true) M1) (h2 : Ev fb ds M1 d M2) : Ev (eAnd fa fb) ds M d M2 := fun Q E q => h _ _ (h2 _ _ q)
theorem ev_and0 (h : Ev fa ds M (.bl false) M1) : Ev (eAnd fa fb) ds M (.bl false) M1 := fun Q E q => h _ _ q
theorem ev_or0 (h : Ev fa ds M (.bl false) M1) (h2 : Ev fb ds M1 d M2) : Ev (eOr fa fb) ds M d M2 := fun Q E q => h _ _ (h2 _ _ q)
theorem ev_or1 (h : Ev fa ds M (.bl true) M1) : Ev (eOr fa fb) ds M (.bl true) M1 := fun Q E q => h _ _ q
theorem ev_not (h : Ev fa ds M (.bl b) M1) : Ev (eNot fa) ds M (.bl (!b)) M1 := fun Q E q => h _ _ q
end
theorem kb_tt : kitB "tuple" "tuple" = some true := by decide +kernel
theorem kb_ll : kitB "list" "list" = some true := by decide +kernel
theorem kb_bb : kitB "bool" "bool" = some true := by decide +kernel
theorem mod_nat {a b : Int} (h : 0 < b) : ∃ k : Nat, a % b = k := ⟨(a % b).toNat, by have := Int.emod_nonneg a (b := b) (by omega); omega⟩
def G_with_one_more : GS := fun ds M Q E => ∃ N c, ds = [.tup [.lst (N.pipes.map encP), .loc N.W], .int c] ∧ M = rowsM N.rows ∧ Made N ∧ ∀ rs, RowsI N.pipes N.W rs → Q .non (rowsM rs)
theorem Made.rowsI {N : Net} (m : Made N) : RowsI N.pipes N.W N.rows := ⟨rfl, m.short, m.ords⟩
theorem RowsI.made {N : Net} {rs : List (List Od)} (m : Made N) (I : RowsI N.pipes N.W rs) : Made ⟨N.pipes, rs⟩ :=
  ⟨by show 0 < rs.length; rw [I.len]; exact m.pos, by show rs.length ≤ 20; rw [I.len]; exact m.few, m.fewP, I.short, fun p h => by show p.ma < rs.length ∧ p.ta < rs.length ∧ _; rw [I.len]; exact m.pipes p h, I.ords⟩
theorem sem_with_one_more : ∀ ds M Q E, G_with_one_more ds M Q E → f_with_one_more (exits false M Q E) (startD 6 ds) M := by
  rintro ds M Q E ⟨N, c, rfl, rfl, md, hq⟩
  unfold f_with_one_more
  simp only [startD, List.map_cons, List.map_nil, List.length_cons, List.length_nil, List.replicate, List.cons_append, List.nil_append, Nat.reduceAdd, Nat.reduceSub]
  by_cases hc : N.pipes.length = 0 ∨ c % 2 = 0
  · have cond : Tv (ftOr (tst (eBin (gEqN false) (eB gLen [(eBin gIx (eVar 0) (eC (.int 0)))]) (eC (.int 0)))) (tst (eBin (gEqN false) (eBin gMod (eVar 1) (eC (.int 2))) (eC (.int 0)))))
        [some (.tup [.lst (N.pipes.map encP), .loc N.W]), some (.int c), none, none, none, none] (rowsM N.rows) true (rowsM N.rows) := by
      by_cases h0 : ((N.pipes.length : Nat) : Int) = 0
      · exact (by intro Q E hq; simp only [↓eVar, ↓eC, ↓eBin, ↓eUn, ↓eB, ↓eTup, ↓eLst, ↓eAnd, ↓eOr, ↓eNot, ↓eIf, ↓eChain, ↓eSlice, ↓eM, ↓eStr1, ↓eIsi, ↓oNo, ↓oPart, ↓tst, ↓ftAnd, ↓ftOr, ↓ftNot, ↓ftYes, ↓args, ↓gI, ↓gI0, ↓gSubI, ↓gFdiv, ↓gMod, ↓gPow, ↓gLt, ↓gLe, ↓gGt, ↓gGe, ↓gAdd, ↓gMul, ↓gRep, ↓gIx, ↓gIsN, ↓gNotN, ↓gNeg, ↓gEqN, ↓gIn, ↓gInSeq, ↓gLen, ↓gSlice, ↓gList, ↓gTuple, ↓gMin2, ↓gMax2, ↓gStr, ↓gInt, ↓newL, ↓mAppend, ↓mInsert, ↓mPopAt, ↓mIndex, ↓gSplit, ↓gJoin, List.map_cons, List.map_nil, List.length_cons, List.length_nil, List.length_map, List.cons_append, List.nil_append, Nat.reduceAdd, Nat.reduceSub, List.getElem?_cons_zero, List.getElem?_cons_succ, List.getElem?_map, Option.map_some, List.set_cons_zero, List.set_cons_succ, isNon, seqOf, listOf, atI_nn, atI_0, atI_1, atI_2, atI_3, encNet, encSt, encRow, encR, encO, encP, nats, encT, Od.raw, if_true, if_false, ite_true, ite_false, Bool.false_eq_true, Bool.true_eq_false, Bool.not_true, Bool.not_false, decide_true, decide_false, reduceIte, eq_self, and_true, true_and, sn_set_put, sn_set_take, sn_set_add, sn_put_set, sn_put_take, sn_put_add, sn_take_set, sn_take_put, sn_take_add, sn_add_set, sn_add_put, sn_add_take, decide_eq_true h0]; exact hq)
      · have h2 : c % 2 = 0 := by omega
        exact (by intro Q E hq; simp only [↓eVar, ↓eC, ↓eBin, ↓eUn, ↓eB, ↓eTup, ↓eLst, ↓eAnd, ↓eOr, ↓eNot, ↓eIf, ↓eChain, ↓eSlice, ↓eM, ↓eStr1, ↓eIsi, ↓oNo, ↓oPart, ↓tst, ↓ftAnd, ↓ftOr, ↓ftNot, ↓ftYes, ↓args, ↓gI, ↓gI0, ↓gSubI, ↓gFdiv, ↓gMod, ↓gPow, ↓gLt, ↓gLe, ↓gGt, ↓gGe, ↓gAdd, ↓gMul, ↓gRep, ↓gIx, ↓gIsN, ↓gNotN, ↓gNeg, ↓gEqN, ↓gIn, ↓gInSeq, ↓gLen, ↓gSlice, ↓gList, ↓gTuple, ↓gMin2, ↓gMax2, ↓gStr, ↓gInt, ↓newL, ↓mAppend, ↓mInsert, ↓mPopAt, ↓mIndex, ↓gSplit, ↓gJoin, List.map_cons, List.map_nil, List.length_cons, List.length_nil, List.length_map, List.cons_append, List.nil_append, Nat.reduceAdd, Nat.reduceSub, List.getElem?_cons_zero, List.getElem?_cons_succ, List.getElem?_map, Option.map_some, List.set_cons_zero, List.set_cons_succ, isNon, seqOf, listOf, atI_nn, atI_0, atI_1, atI_2, atI_3, encNet, encSt, encRow, encR, encO, encP, nats, encT, Od.raw, if_true, if_false, ite_true, ite_false, Bool.false_eq_true, Bool.true_eq_false, Bool.not_true, Bool.not_false, decide_true, decide_false, reduceIte, eq_self, and_true, true_and, sn_set_put, sn_set_take, sn_set_add, sn_put_set, sn_put_take, sn_put_add, sn_take_set, sn_take_put, sn_take_add, sn_add_set, sn_add_put, sn_add_take, decide_eq_false h0, decide_eq_true h2, show (0 : Int) < 2 by decide]; exact hq)
    exact st_if1 cond (hq _ md.rowsI)
  · have h0 : ¬ ((N.pipes.length : Nat) : Int) = 0 := by omega
    have h2 : ¬ c % 2 = 0 := by omega
    refine st_ifn (M1 := rowsM N.rows) (by intro Q E hq; simp only [↓eVar, ↓eC, ↓eBin, ↓eUn, ↓eB, ↓eTup, ↓eLst, ↓eAnd, ↓eOr, ↓eNot, ↓eIf, ↓eChain, ↓eSlice, ↓eM, ↓eStr1, ↓eIsi, ↓oNo, ↓oPart, ↓tst, ↓ftAnd, ↓ftOr, ↓ftNot, ↓ftYes, ↓args, ↓gI, ↓gI0, ↓gSubI, ↓gFdiv, ↓gMod, ↓gPow, ↓gLt, ↓gLe, ↓gGt, ↓gGe, ↓gAdd, ↓gMul, ↓gRep, ↓gIx, ↓gIsN, ↓gNotN, ↓gNeg, ↓gEqN, ↓gIn, ↓gInSeq, ↓gLen, ↓gSlice, ↓gList, ↓gTuple, ↓gMin2, ↓gMax2, ↓gStr, ↓gInt, ↓newL, ↓mAppend, ↓mInsert, ↓mPopAt, ↓mIndex, ↓gSplit, ↓gJoin, List.map_cons, List.map_nil, List.length_cons, List.length_nil, List.length_map, List.cons_append, List.nil_append, Nat.reduceAdd, Nat.reduceSub, List.getElem?_cons_zero, List.getElem?_cons_succ, List.getElem?_map, Option.map_some, List.set_cons_zero, List.set_cons_succ, isNon, seqOf, listOf, atI_nn, atI_0, atI_1, atI_2, atI_3, encNet, encSt, encRow, encR, encO, encP, nats, encT, Od.raw, if_true, if_false, ite_true, ite_false, Bool.false_eq_true, Bool.true_eq_false, Bool.not_true, Bool.not_false, decide_true, decide_false, reduceIte, eq_self, and_true, true_and, sn_set_put, sn_set_take, sn_set_add, sn_put_set, sn_put_take, sn_put_add, sn_take_set, sn_take_put, sn_take_add, sn_add_set, sn_add_put, sn_add_take, decide_eq_false h0, decide_eq_false h2, show (0 : Int) < 2 by decide]; exact hq) ?_
    have hP : (0 : Int) < (N.pipes.length : Int) := by omega
    have hP60 : N.pipes.length ≤ 60 := md.fewP
    obtain ⟨p, hp⟩ := mod_nat (a := c / 2) hP
    have hpP : p < N.pipes.length := by have := Int.emod_lt_of_pos (c / 2) hP; omega
    have dP := dv (c / 2) (k := (N.pipes.length : Int)) (by omega) (by omega)
    have d2 := dv c (k := 2) (by decide) (by decide)
    have d7 := dv c (k := 7) (by decide) (by decide)
    have hpi := getD_of (d := (⟨0, 0, 0⟩ : Pip)) hpP
    have hpm := md.pipes _ (List.mem_of_getElem? hpi)
    obtain ⟨t, ht⟩ := mod_nat (a := c / 2 / (N.pipes.length : Int)) (b := 3) (by decide)
    have ht3 : t < 3 := by omega
    refine st_set (M1 := rowsM N.rows) (d := .int (p : Int)) (by intro Q E hq; simp only [↓eVar, ↓eC, ↓eBin, ↓eUn, ↓eB, ↓eTup, ↓eLst, ↓eAnd, ↓eOr, ↓eNot, ↓eIf, ↓eChain, ↓eSlice, ↓eM, ↓eStr1, ↓eIsi, ↓oNo, ↓oPart, ↓tst, ↓ftAnd, ↓ftOr, ↓ftNot, ↓ftYes, ↓args, ↓gI, ↓gI0, ↓gSubI, ↓gFdiv, ↓gMod, ↓gPow, ↓gLt, ↓gLe, ↓gGt, ↓gGe, ↓gAdd, ↓gMul, ↓gRep, ↓gIx, ↓gIsN, ↓gNotN, ↓gNeg, ↓gEqN, ↓gIn, ↓gInSeq, ↓gLen, ↓gSlice, ↓gList, ↓gTuple, ↓gMin2, ↓gMax2, ↓gStr, ↓gInt, ↓newL, ↓mAppend, ↓mInsert, ↓mPopAt, ↓mIndex, ↓gSplit, ↓gJoin, List.map_cons, List.map_nil, List.length_cons, List.length_nil, List.length_map, List.cons_append, List.nil_append, Nat.reduceAdd, Nat.reduceSub, List.getElem?_cons_zero, List.getElem?_cons_succ, List.getElem?_map, Option.map_some, List.set_cons_zero, List.set_cons_succ, isNon, seqOf, listOf, atI_nn, atI_0, atI_1, atI_2, atI_3, encNet, encSt, encRow, encR, encO, encP, nats, encT, Od.raw, if_true, if_false, ite_true, ite_false, Bool.false_eq_true, Bool.true_eq_false, Bool.not_true, Bool.not_false, decide_true, decide_false, reduceIte, eq_self, and_true, true_and, sn_set_put, sn_set_take, sn_set_add, sn_put_set, sn_put_take, sn_put_add, sn_take_set, sn_take_put, sn_take_add, sn_add_set, sn_add_put, sn_add_take, hP, hp, d2]; exact hq) ?_
    have rest : ∀ (s : Str) (o : Od) (w : Nat), w < N.W → okOrd N.pipes w o → D.tup [.str s, .int (p : Int)] = encO o →
        sSeq (sSet 5 (eBin gIx (eBin gIx (eVar 0) (eC (.int 1))) (eVar 4)))
          (sIf (tst (eBin gLt (eB gLen [(eVar 5)]) (eC (.int 200)))) (sDrop (eM mInsert (eVar 5) [(eBin gMod (eBin gFdiv (eVar 1) (eC (.int 7))) (eBin (gAdd false) (eB gLen [(eVar 5)]) (eC (.int 1)))), (eTup [(eVar 3), (eVar 2)])])) sNext)
          (exits false (rowsM N.rows) Q E) [some (.tup [.lst (N.pipes.map encP), .loc N.W]), some (.int c), some (.int (p : Int)), some (.str s), some (.int (w : Int)), none] (rowsM N.rows) := by
      intro s o w hw ho eo
      have a1 := rowsM_top (rs := N.rows) (W := N.W) rfl
      have a2 := rowsM_at (rs := N.rows) hw
      have hm := md.short _ (List.mem_of_getElem? (getD_of (d := []) hw))
      refine st_set (M1 := rowsM N.rows) (d := .loc w) (by intro Q E hq; simp only [↓eVar, ↓eC, ↓eBin, ↓eUn, ↓eB, ↓eTup, ↓eLst, ↓eAnd, ↓eOr, ↓eNot, ↓eIf, ↓eChain, ↓eSlice, ↓eM, ↓eStr1, ↓eIsi, ↓oNo, ↓oPart, ↓tst, ↓ftAnd, ↓ftOr, ↓ftNot, ↓ftYes, ↓args, ↓gI, ↓gI0, ↓gSubI, ↓gFdiv, ↓gMod, ↓gPow, ↓gLt, ↓gLe, ↓gGt, ↓gGe, ↓gAdd, ↓gMul, ↓gRep, ↓gIx, ↓gIsN, ↓gNotN, ↓gNeg, ↓gEqN, ↓gIn, ↓gInSeq, ↓gLen, ↓gSlice, ↓gList, ↓gTuple, ↓gMin2, ↓gMax2, ↓gStr, ↓gInt, ↓newL, ↓mAppend, ↓mInsert, ↓mPopAt, ↓mIndex, ↓gSplit, ↓gJoin, List.map_cons, List.map_nil, List.length_cons, List.length_nil, List.length_map, List.cons_append, List.nil_append, Nat.reduceAdd, Nat.reduceSub, List.getElem?_cons_zero, List.getElem?_cons_succ, List.getElem?_map, Option.map_some, List.set_cons_zero, List.set_cons_succ, isNon, seqOf, listOf, atI_nn, atI_0, atI_1, atI_2, atI_3, encNet, encSt, encRow, encR, encO, encP, nats, encT, Od.raw, if_true, if_false, ite_true, ite_false, Bool.false_eq_true, Bool.true_eq_false, Bool.not_true, Bool.not_false, decide_true, decide_false, reduceIte, eq_self, and_true, true_and, sn_set_put, sn_set_take, sn_set_add, sn_put_set, sn_put_take, sn_put_add, sn_take_set, sn_take_put, sn_take_add, sn_add_set, sn_add_put, sn_add_take, a1, locs_at hw]; exact hq) ?_
      by_cases hl : (((N.rows.getD w []).length : Nat) : Int) < 200
      · refine st_l1 (M1 := rowsM N.rows) (by intro Q E hq; simp only [↓eVar, ↓eC, ↓eBin, ↓eUn, ↓eB, ↓eTup, ↓eLst, ↓eAnd, ↓eOr, ↓eNot, ↓eIf, ↓eChain, ↓eSlice, ↓eM, ↓eStr1, ↓eIsi, ↓oNo, ↓oPart, ↓tst, ↓ftAnd, ↓ftOr, ↓ftNot, ↓ftYes, ↓args, ↓gI, ↓gI0, ↓gSubI, ↓gFdiv, ↓gMod, ↓gPow, ↓gLt, ↓gLe, ↓gGt, ↓gGe, ↓gAdd, ↓gMul, ↓gRep, ↓gIx, ↓gIsN, ↓gNotN, ↓gNeg, ↓gEqN, ↓gIn, ↓gInSeq, ↓gLen, ↓gSlice, ↓gList, ↓gTuple, ↓gMin2, ↓gMax2, ↓gStr, ↓gInt, ↓newL, ↓mAppend, ↓mInsert, ↓mPopAt, ↓mIndex, ↓gSplit, ↓gJoin, List.map_cons, List.map_nil, List.length_cons, List.length_nil, List.length_map, List.cons_append, List.nil_append, Nat.reduceAdd, Nat.reduceSub, List.getElem?_cons_zero, List.getElem?_cons_succ, List.getElem?_map, Option.map_some, List.set_cons_zero, List.set_cons_succ, isNon, seqOf, listOf, atI_nn, atI_0, atI_1, atI_2, atI_3, encNet, encSt, encRow, encR, encO, encP, nats, encT, Od.raw, if_true, if_false, ite_true, ite_false, Bool.false_eq_true, Bool.true_eq_false, Bool.not_true, Bool.not_false, decide_true, decide_false, reduceIte, eq_self, and_true, true_and, sn_set_put, sn_set_take, sn_set_add, sn_put_set, sn_put_take, sn_put_add, sn_take_set, sn_take_put, sn_take_add, sn_add_set, sn_add_put, sn_add_take, a2, decide_eq_true hl]; exact hq) ?_
        show eM mInsert _ _ _ _ _ _
        have hdl : (0 : Int) < ((N.rows.getD w []).length : Int) + 1 := by omega
        obtain ⟨k, hk⟩ := mod_nat (a := c / 7) hdl
        have hkl := Int.emod_lt_of_pos (c / 7) hdl
        simp only [↓eVar, ↓eC, ↓eBin, ↓eUn, ↓eB, ↓eTup, ↓eLst, ↓eAnd, ↓eOr, ↓eNot, ↓eIf, ↓eChain, ↓eSlice, ↓eM, ↓eStr1, ↓eIsi, ↓oNo, ↓oPart, ↓tst, ↓ftAnd, ↓ftOr, ↓ftNot, ↓ftYes, ↓args, ↓gI, ↓gI0, ↓gSubI, ↓gFdiv, ↓gMod, ↓gPow, ↓gLt, ↓gLe, ↓gGt, ↓gGe, ↓gAdd, ↓gMul, ↓gRep, ↓gIx, ↓gIsN, ↓gNotN, ↓gNeg, ↓gEqN, ↓gIn, ↓gInSeq, ↓gLen, ↓gSlice, ↓gList, ↓gTuple, ↓gMin2, ↓gMax2, ↓gStr, ↓gInt, ↓newL, ↓mAppend, ↓mInsert, ↓mPopAt, ↓mIndex, ↓gSplit, ↓gJoin, List.map_cons, List.map_nil, List.length_cons, List.length_nil, List.length_map, List.cons_append, List.nil_append, Nat.reduceAdd, Nat.reduceSub, List.getElem?_cons_zero, List.getElem?_cons_succ, List.getElem?_map, Option.map_some, List.set_cons_zero, List.set_cons_succ, isNon, seqOf, listOf, atI_nn, atI_0, atI_1, atI_2, atI_3, encNet, encSt, encRow, encR, encO, encP, nats, encT, Od.raw, if_true, if_false, ite_true, ite_false, Bool.false_eq_true, Bool.true_eq_false, Bool.not_true, Bool.not_false, decide_true, decide_false, reduceIte, eq_self, and_true, true_and, sn_set_put, sn_set_take, sn_set_add, sn_put_set, sn_put_take, sn_put_add, sn_take_set, sn_take_put, sn_take_add, sn_add_set, sn_add_put, sn_add_take, a2, d7, hdl, hk]
        refine ⟨Nat.lt_of_le_of_lt (m := 1000) (by omega) (by decide), ⟨by omega, by
          have : (2 : Int) ^ 63 = 9223372036854775808 := by decide
          omega⟩, ?_⟩
        rw [Int.toNat_natCast, eo]
        have := hq _ (md.rowsI.put hw ho (by omega) k)
        rw [← rowsM_set (by exact hw), ← map_put] at this
        exact this
      · refine st_l0 (M1 := rowsM N.rows) (by intro Q E hq; simp only [↓eVar, ↓eC, ↓eBin, ↓eUn, ↓eB, ↓eTup, ↓eLst, ↓eAnd, ↓eOr, ↓eNot, ↓eIf, ↓eChain, ↓eSlice, ↓eM, ↓eStr1, ↓eIsi, ↓oNo, ↓oPart, ↓tst, ↓ftAnd, ↓ftOr, ↓ftNot, ↓ftYes, ↓args, ↓gI, ↓gI0, ↓gSubI, ↓gFdiv, ↓gMod, ↓gPow, ↓gLt, ↓gLe, ↓gGt, ↓gGe, ↓gAdd, ↓gMul, ↓gRep, ↓gIx, ↓gIsN, ↓gNotN, ↓gNeg, ↓gEqN, ↓gIn, ↓gInSeq, ↓gLen, ↓gSlice, ↓gList, ↓gTuple, ↓gMin2, ↓gMax2, ↓gStr, ↓gInt, ↓newL, ↓mAppend, ↓mInsert, ↓mPopAt, ↓mIndex, ↓gSplit, ↓gJoin, List.map_cons, List.map_nil, List.length_cons, List.length_nil, List.length_map, List.cons_append, List.nil_append, Nat.reduceAdd, Nat.reduceSub, List.getElem?_cons_zero, List.getElem?_cons_succ, List.getElem?_map, Option.map_some, List.set_cons_zero, List.set_cons_succ, isNon, seqOf, listOf, atI_nn, atI_0, atI_1, atI_2, atI_3, encNet, encSt, encRow, encR, encO, encP, nats, encT, Od.raw, if_true, if_false, ite_true, ite_false, Bool.false_eq_true, Bool.true_eq_false, Bool.not_true, Bool.not_false, decide_true, decide_false, reduceIte, eq_self, and_true, true_and, sn_set_put, sn_set_take, sn_set_add, sn_put_set, sn_put_take, sn_put_add, sn_take_set, sn_take_put, sn_take_add, sn_add_set, sn_add_put, sn_add_take, a2, decide_eq_false hl]; exact hq) ?_
        exact hq _ md.rowsI
    rcases (by omega : t = 0 ∨ t = 1 ∨ t = 2) with e | e | e
    · subst e
      have hz : c / 2 / (N.pipes.length : Int) % 3 = 0 := by omega
      refine st_set (M1 := rowsM N.rows) (d := .str "put") (by intro Q E hq; simp only [↓eVar, ↓eC, ↓eBin, ↓eUn, ↓eB, ↓eTup, ↓eLst, ↓eAnd, ↓eOr, ↓eNot, ↓eIf, ↓eChain, ↓eSlice, ↓eM, ↓eStr1, ↓eIsi, ↓oNo, ↓oPart, ↓tst, ↓ftAnd, ↓ftOr, ↓ftNot, ↓ftYes, ↓args, ↓gI, ↓gI0, ↓gSubI, ↓gFdiv, ↓gMod, ↓gPow, ↓gLt, ↓gLe, ↓gGt, ↓gGe, ↓gAdd, ↓gMul, ↓gRep, ↓gIx, ↓gIsN, ↓gNotN, ↓gNeg, ↓gEqN, ↓gIn, ↓gInSeq, ↓gLen, ↓gSlice, ↓gList, ↓gTuple, ↓gMin2, ↓gMax2, ↓gStr, ↓gInt, ↓newL, ↓mAppend, ↓mInsert, ↓mPopAt, ↓mIndex, ↓gSplit, ↓gJoin, List.map_cons, List.map_nil, List.length_cons, List.length_nil, List.length_map, List.cons_append, List.nil_append, Nat.reduceAdd, Nat.reduceSub, List.getElem?_cons_zero, List.getElem?_cons_succ, List.getElem?_map, Option.map_some, List.set_cons_zero, List.set_cons_succ, isNon, seqOf, listOf, atI_nn, atI_0, atI_1, atI_2, atI_3, encNet, encSt, encRow, encR, encO, encP, nats, encT, Od.raw, if_true, if_false, ite_true, ite_false, Bool.false_eq_true, Bool.true_eq_false, Bool.not_true, Bool.not_false, decide_true, decide_false, reduceIte, eq_self, and_true, true_and, sn_set_put, sn_set_take, sn_set_add, sn_put_set, sn_put_take, sn_put_add, sn_take_set, sn_take_put, sn_take_add, sn_add_set, sn_add_put, sn_add_take, dP, d2, show (0 : Int) < 3 by decide, hz]; exact hq) (st_set (M1 := rowsM N.rows) (d := .int ((N.pipes.getD p ⟨0, 0, 0⟩).ma : Nat)) (by intro Q E hq; simp only [↓eVar, ↓eC, ↓eBin, ↓eUn, ↓eB, ↓eTup, ↓eLst, ↓eAnd, ↓eOr, ↓eNot, ↓eIf, ↓eChain, ↓eSlice, ↓eM, ↓eStr1, ↓eIsi, ↓oNo, ↓oPart, ↓tst, ↓ftAnd, ↓ftOr, ↓ftNot, ↓ftYes, ↓args, ↓gI, ↓gI0, ↓gSubI, ↓gFdiv, ↓gMod, ↓gPow, ↓gLt, ↓gLe, ↓gGt, ↓gGe, ↓gAdd, ↓gMul, ↓gRep, ↓gIx, ↓gIsN, ↓gNotN, ↓gNeg, ↓gEqN, ↓gIn, ↓gInSeq, ↓gLen, ↓gSlice, ↓gList, ↓gTuple, ↓gMin2, ↓gMax2, ↓gStr, ↓gInt, ↓newL, ↓mAppend, ↓mInsert, ↓mPopAt, ↓mIndex, ↓gSplit, ↓gJoin, List.map_cons, List.map_nil, List.length_cons, List.length_nil, List.length_map, List.cons_append, List.nil_append, Nat.reduceAdd, Nat.reduceSub, List.getElem?_cons_zero, List.getElem?_cons_succ, List.getElem?_map, Option.map_some, List.set_cons_zero, List.set_cons_succ, isNon, seqOf, listOf, atI_nn, atI_0, atI_1, atI_2, atI_3, encNet, encSt, encRow, encR, encO, encP, nats, encT, Od.raw, if_true, if_false, ite_true, ite_false, Bool.false_eq_true, Bool.true_eq_false, Bool.not_true, Bool.not_false, decide_true, decide_false, reduceIte, eq_self, and_true, true_and, sn_set_put, sn_set_take, sn_set_add, sn_put_set, sn_put_take, sn_put_add, sn_take_set, sn_take_put, sn_take_add, sn_add_set, sn_add_put, sn_add_take, hpi]; exact hq) ?_)
      exact rest _ (.put p) _ hpm.1 ⟨hpP, rfl⟩ rfl
    · subst e
      have hz : c / 2 / (N.pipes.length : Int) % 3 = 1 := by omega
      refine st_set (M1 := rowsM N.rows) (d := .str "take") (by intro Q E hq; simp only [↓eVar, ↓eC, ↓eBin, ↓eUn, ↓eB, ↓eTup, ↓eLst, ↓eAnd, ↓eOr, ↓eNot, ↓eIf, ↓eChain, ↓eSlice, ↓eM, ↓eStr1, ↓eIsi, ↓oNo, ↓oPart, ↓tst, ↓ftAnd, ↓ftOr, ↓ftNot, ↓ftYes, ↓args, ↓gI, ↓gI0, ↓gSubI, ↓gFdiv, ↓gMod, ↓gPow, ↓gLt, ↓gLe, ↓gGt, ↓gGe, ↓gAdd, ↓gMul, ↓gRep, ↓gIx, ↓gIsN, ↓gNotN, ↓gNeg, ↓gEqN, ↓gIn, ↓gInSeq, ↓gLen, ↓gSlice, ↓gList, ↓gTuple, ↓gMin2, ↓gMax2, ↓gStr, ↓gInt, ↓newL, ↓mAppend, ↓mInsert, ↓mPopAt, ↓mIndex, ↓gSplit, ↓gJoin, List.map_cons, List.map_nil, List.length_cons, List.length_nil, List.length_map, List.cons_append, List.nil_append, Nat.reduceAdd, Nat.reduceSub, List.getElem?_cons_zero, List.getElem?_cons_succ, List.getElem?_map, Option.map_some, List.set_cons_zero, List.set_cons_succ, isNon, seqOf, listOf, atI_nn, atI_0, atI_1, atI_2, atI_3, encNet, encSt, encRow, encR, encO, encP, nats, encT, Od.raw, if_true, if_false, ite_true, ite_false, Bool.false_eq_true, Bool.true_eq_false, Bool.not_true, Bool.not_false, decide_true, decide_false, reduceIte, eq_self, and_true, true_and, sn_set_put, sn_set_take, sn_set_add, sn_put_set, sn_put_take, sn_put_add, sn_take_set, sn_take_put, sn_take_add, sn_add_set, sn_add_put, sn_add_take, dP, d2, show (0 : Int) < 3 by decide, hz]; exact hq) (st_set (M1 := rowsM N.rows) (d := .int ((N.pipes.getD p ⟨0, 0, 0⟩).ta : Nat)) (by intro Q E hq; simp only [↓eVar, ↓eC, ↓eBin, ↓eUn, ↓eB, ↓eTup, ↓eLst, ↓eAnd, ↓eOr, ↓eNot, ↓eIf, ↓eChain, ↓eSlice, ↓eM, ↓eStr1, ↓eIsi, ↓oNo, ↓oPart, ↓tst, ↓ftAnd, ↓ftOr, ↓ftNot, ↓ftYes, ↓args, ↓gI, ↓gI0, ↓gSubI, ↓gFdiv, ↓gMod, ↓gPow, ↓gLt, ↓gLe, ↓gGt, ↓gGe, ↓gAdd, ↓gMul, ↓gRep, ↓gIx, ↓gIsN, ↓gNotN, ↓gNeg, ↓gEqN, ↓gIn, ↓gInSeq, ↓gLen, ↓gSlice, ↓gList, ↓gTuple, ↓gMin2, ↓gMax2, ↓gStr, ↓gInt, ↓newL, ↓mAppend, ↓mInsert, ↓mPopAt, ↓mIndex, ↓gSplit, ↓gJoin, List.map_cons, List.map_nil, List.length_cons, List.length_nil, List.length_map, List.cons_append, List.nil_append, Nat.reduceAdd, Nat.reduceSub, List.getElem?_cons_zero, List.getElem?_cons_succ, List.getElem?_map, Option.map_some, List.set_cons_zero, List.set_cons_succ, isNon, seqOf, listOf, atI_nn, atI_0, atI_1, atI_2, atI_3, encNet, encSt, encRow, encR, encO, encP, nats, encT, Od.raw, if_true, if_false, ite_true, ite_false, Bool.false_eq_true, Bool.true_eq_false, Bool.not_true, Bool.not_false, decide_true, decide_false, reduceIte, eq_self, and_true, true_and, sn_set_put, sn_set_take, sn_set_add, sn_put_set, sn_put_take, sn_put_add, sn_take_set, sn_take_put, sn_take_add, sn_add_set, sn_add_put, sn_add_take, hpi]; exact hq) ?_)
      exact rest _ (.take p) _ hpm.2.1 ⟨hpP, rfl⟩ rfl
    · subst e
      have hz : c / 2 / (N.pipes.length : Int) % 3 = 2 := by omega
      refine st_set (M1 := rowsM N.rows) (d := .str "add") (by intro Q E hq; simp only [↓eVar, ↓eC, ↓eBin, ↓eUn, ↓eB, ↓eTup, ↓eLst, ↓eAnd, ↓eOr, ↓eNot, ↓eIf, ↓eChain, ↓eSlice, ↓eM, ↓eStr1, ↓eIsi, ↓oNo, ↓oPart, ↓tst, ↓ftAnd, ↓ftOr, ↓ftNot, ↓ftYes, ↓args, ↓gI, ↓gI0, ↓gSubI, ↓gFdiv, ↓gMod, ↓gPow, ↓gLt, ↓gLe, ↓gGt, ↓gGe, ↓gAdd, ↓gMul, ↓gRep, ↓gIx, ↓gIsN, ↓gNotN, ↓gNeg, ↓gEqN, ↓gIn, ↓gInSeq, ↓gLen, ↓gSlice, ↓gList, ↓gTuple, ↓gMin2, ↓gMax2, ↓gStr, ↓gInt, ↓newL, ↓mAppend, ↓mInsert, ↓mPopAt, ↓mIndex, ↓gSplit, ↓gJoin, List.map_cons, List.map_nil, List.length_cons, List.length_nil, List.length_map, List.cons_append, List.nil_append, Nat.reduceAdd, Nat.reduceSub, List.getElem?_cons_zero, List.getElem?_cons_succ, List.getElem?_map, Option.map_some, List.set_cons_zero, List.set_cons_succ, isNon, seqOf, listOf, atI_nn, atI_0, atI_1, atI_2, atI_3, encNet, encSt, encRow, encR, encO, encP, nats, encT, Od.raw, if_true, if_false, ite_true, ite_false, Bool.false_eq_true, Bool.true_eq_false, Bool.not_true, Bool.not_false, decide_true, decide_false, reduceIte, eq_self, and_true, true_and, sn_set_put, sn_set_take, sn_set_add, sn_put_set, sn_put_take, sn_put_add, sn_take_set, sn_take_put, sn_take_add, sn_add_set, sn_add_put, sn_add_take, dP, d2, show (0 : Int) < 3 by decide, hz]; exact hq) (st_set (M1 := rowsM N.rows) (d := .int ((N.pipes.getD p ⟨0, 0, 0⟩).ta : Nat)) (by intro Q E hq; simp only [↓eVar, ↓eC, ↓eBin, ↓eUn, ↓eB, ↓eTup, ↓eLst, ↓eAnd, ↓eOr, ↓eNot, ↓eIf, ↓eChain, ↓eSlice, ↓eM, ↓eStr1, ↓eIsi, ↓oNo, ↓oPart, ↓tst, ↓ftAnd, ↓ftOr, ↓ftNot, ↓ftYes, ↓args, ↓gI, ↓gI0, ↓gSubI, ↓gFdiv, ↓gMod, ↓gPow, ↓gLt, ↓gLe, ↓gGt, ↓gGe, ↓gAdd, ↓gMul, ↓gRep, ↓gIx, ↓gIsN, ↓gNotN, ↓gNeg, ↓gEqN, ↓gIn, ↓gInSeq, ↓gLen, ↓gSlice, ↓gList, ↓gTuple, ↓gMin2, ↓gMax2, ↓gStr, ↓gInt, ↓newL, ↓mAppend, ↓mInsert, ↓mPopAt, ↓mIndex, ↓gSplit, ↓gJoin, List.map_cons, List.map_nil, List.length_cons, List.length_nil, List.length_map, List.cons_append, List.nil_append, Nat.reduceAdd, Nat.reduceSub, List.getElem?_cons_zero, List.getElem?_cons_succ, List.getElem?_map, Option.map_some, List.set_cons_zero, List.set_cons_succ, isNon, seqOf, listOf, atI_nn, atI_0, atI_1, atI_2, atI_3, encNet, encSt, encRow, encR, encO, encP, nats, encT, Od.raw, if_true, if_false, ite_true, ite_false, Bool.false_eq_true, Bool.true_eq_false, Bool.not_true, Bool.not_false, decide_true, decide_false, reduceIte, eq_self, and_true, true_and, sn_set_put, sn_set_take, sn_set_add, sn_put_set, sn_put_take, sn_put_add, sn_take_set, sn_take_put, sn_take_add, sn_add_set, sn_add_put, sn_add_take, hpi]; exact hq) ?_)
      exact rest _ (.add p) _ hpm.2.1 ⟨hpP, rfl⟩ rfl
theorem pairs_len {L : List D} : (pairs L).length = L.length := by unfold pairs; rw [List.length_mapIdx]
def G_wide : GS := fun ds M Q E => ∃ N rd, ∃ m : Nat, ds = [encNet (widN m N), .tup [.lst (N.pipes.map encP), rd], .int (m : Int)] ∧ NetOk N ∧ RowsIn M rd N.rows ∧ Q (.bl true) M
theorem sem_wide : ∀ ds M Q E, G_wide ds M Q E → f_wide G_whole (exits false M Q E) (startD 7 ds) M := by
  rintro ds M Q E ⟨N, rd, m, rfl, ok, hr, hq⟩
  unfold f_wide
  simp only [startD, List.map_cons, List.map_nil, List.length_cons, List.length_nil, List.replicate, List.cons_append, List.nil_append, Nat.reduceAdd, Nat.reduceSub]
  have hl : (widN m N).pipes.length = N.pipes.length := by unfold widN; rw [List.length_map]
  refine st_ifn (M1 := M) (by intro Q E hq; simp only [↓eVar, ↓eC, ↓eBin, ↓eUn, ↓eB, ↓eTup, ↓eLst, ↓eAnd, ↓eOr, ↓eNot, ↓eIf, ↓eChain, ↓eSlice, ↓eM, ↓eStr1, ↓eIsi, ↓oNo, ↓oPart, ↓tst, ↓ftAnd, ↓ftOr, ↓ftNot, ↓ftYes, ↓args, ↓gI, ↓gI0, ↓gSubI, ↓gFdiv, ↓gMod, ↓gPow, ↓gLt, ↓gLe, ↓gGt, ↓gGe, ↓gAdd, ↓gMul, ↓gRep, ↓gIx, ↓gIsN, ↓gNotN, ↓gNeg, ↓gEqN, ↓gIn, ↓gInSeq, ↓gLen, ↓gSlice, ↓gList, ↓gTuple, ↓gMin2, ↓gMax2, ↓gStr, ↓gInt, ↓newL, ↓mAppend, ↓mInsert, ↓mPopAt, ↓mIndex, ↓gSplit, ↓gJoin, List.map_cons, List.map_nil, List.length_cons, List.length_nil, List.length_map, List.cons_append, List.nil_append, Nat.reduceAdd, Nat.reduceSub, List.getElem?_cons_zero, List.getElem?_cons_succ, List.getElem?_map, Option.map_some, List.set_cons_zero, List.set_cons_succ, isNon, seqOf, listOf, atI_nn, atI_0, atI_1, atI_2, atI_3, encNet, encSt, encRow, encR, encO, encP, nats, encT, Od.raw, if_true, if_false, ite_true, ite_false, Bool.false_eq_true, Bool.true_eq_false, Bool.not_true, Bool.not_false, decide_true, decide_false, reduceIte, eq_self, and_true, true_and, sn_set_put, sn_set_take, sn_set_add, sn_put_set, sn_put_take, sn_put_add, sn_take_set, sn_take_put, sn_take_add, sn_add_set, sn_add_put, sn_add_take, ↓eIsi, tyName, kb_tt, kb_ll]; exact hq) ?_
  have hrow : Ev (eBin (gEqN true) (eBin gIx (eVar 0) (eC (.int 1))) (eBin gIx (eVar 1) (eC (.int 1)))) [some (encNet (widN m N)), some (.tup [.lst (N.pipes.map encP), rd]), some (.int m), none, none, none, none] M (.bl false) M :=
    ev_bin (M1 := M) (M2 := M) (x := .lst (N.rows.map encRow)) (y := rd) (by show Ev _ _ _ (.lst ((widN m N).rows.map encRow)) _; exact (by intro Q E hq; simp only [↓eVar, ↓eC, ↓eBin, ↓eUn, ↓eB, ↓eTup, ↓eLst, ↓eAnd, ↓eOr, ↓eNot, ↓eIf, ↓eChain, ↓eSlice, ↓eM, ↓eStr1, ↓eIsi, ↓oNo, ↓oPart, ↓tst, ↓ftAnd, ↓ftOr, ↓ftNot, ↓ftYes, ↓args, ↓gI, ↓gI0, ↓gSubI, ↓gFdiv, ↓gMod, ↓gPow, ↓gLt, ↓gLe, ↓gGt, ↓gGe, ↓gAdd, ↓gMul, ↓gRep, ↓gIx, ↓gIsN, ↓gNotN, ↓gNeg, ↓gEqN, ↓gIn, ↓gInSeq, ↓gLen, ↓gSlice, ↓gList, ↓gTuple, ↓gMin2, ↓gMax2, ↓gStr, ↓gInt, ↓newL, ↓mAppend, ↓mInsert, ↓mPopAt, ↓mIndex, ↓gSplit, ↓gJoin, List.map_cons, List.map_nil, List.length_cons, List.length_nil, List.length_map, List.cons_append, List.nil_append, Nat.reduceAdd, Nat.reduceSub, List.getElem?_cons_zero, List.getElem?_cons_succ, List.getElem?_map, Option.map_some, List.set_cons_zero, List.set_cons_succ, isNon, seqOf, listOf, atI_nn, atI_0, atI_1, atI_2, atI_3, encNet, encSt, encRow, encR, encO, encP, nats, encT, Od.raw, if_true, if_false, ite_true, ite_false, Bool.false_eq_true, Bool.true_eq_false, Bool.not_true, Bool.not_false, decide_true, decide_false, reduceIte, eq_self, and_true, true_and, sn_set_put, sn_set_take, sn_set_add, sn_put_set, sn_put_take, sn_put_add, sn_take_set, sn_take_put, sn_take_add, sn_add_set, sn_add_put, sn_add_take]; exact hq)) (by intro Q E hq; simp only [↓eVar, ↓eC, ↓eBin, ↓eUn, ↓eB, ↓eTup, ↓eLst, ↓eAnd, ↓eOr, ↓eNot, ↓eIf, ↓eChain, ↓eSlice, ↓eM, ↓eStr1, ↓eIsi, ↓oNo, ↓oPart, ↓tst, ↓ftAnd, ↓ftOr, ↓ftNot, ↓ftYes, ↓args, ↓gI, ↓gI0, ↓gSubI, ↓gFdiv, ↓gMod, ↓gPow, ↓gLt, ↓gLe, ↓gGt, ↓gGe, ↓gAdd, ↓gMul, ↓gRep, ↓gIx, ↓gIsN, ↓gNotN, ↓gNeg, ↓gEqN, ↓gIn, ↓gInSeq, ↓gLen, ↓gSlice, ↓gList, ↓gTuple, ↓gMin2, ↓gMax2, ↓gStr, ↓gInt, ↓newL, ↓mAppend, ↓mInsert, ↓mPopAt, ↓mIndex, ↓gSplit, ↓gJoin, List.map_cons, List.map_nil, List.length_cons, List.length_nil, List.length_map, List.cons_append, List.nil_append, Nat.reduceAdd, Nat.reduceSub, List.getElem?_cons_zero, List.getElem?_cons_succ, List.getElem?_map, Option.map_some, List.set_cons_zero, List.set_cons_succ, isNon, seqOf, listOf, atI_nn, atI_0, atI_1, atI_2, atI_3, encNet, encSt, encRow, encR, encO, encP, nats, encT, Od.raw, if_true, if_false, ite_true, ite_false, Bool.false_eq_true, Bool.true_eq_false, Bool.not_true, Bool.not_false, decide_true, decide_false, reduceIte, eq_self, and_true, true_and, sn_set_put, sn_set_take, sn_set_add, sn_put_set, sn_put_take, sn_put_add, sn_take_set, sn_take_put, sn_take_add, sn_add_set, sn_add_put, sn_add_take]; exact hq) fun Q q => eq_alike (neg := true) (py_rows (n := 4) rowsIn_lst) (py_rows (n := 4) hr) canLay_rows q
  refine st_ifn (M1 := M) ?_ ?_
  · intro Q E q
    unfold ftOr
    refine (show Tv (ftNot (tst (eIsi "list" (eBin gIx (eVar 0) (eC (.int 1)))))) _ M false M from by intro Q E hq; simp only [↓eVar, ↓eC, ↓eBin, ↓eUn, ↓eB, ↓eTup, ↓eLst, ↓eAnd, ↓eOr, ↓eNot, ↓eIf, ↓eChain, ↓eSlice, ↓eM, ↓eStr1, ↓eIsi, ↓oNo, ↓oPart, ↓tst, ↓ftAnd, ↓ftOr, ↓ftNot, ↓ftYes, ↓args, ↓gI, ↓gI0, ↓gSubI, ↓gFdiv, ↓gMod, ↓gPow, ↓gLt, ↓gLe, ↓gGt, ↓gGe, ↓gAdd, ↓gMul, ↓gRep, ↓gIx, ↓gIsN, ↓gNotN, ↓gNeg, ↓gEqN, ↓gIn, ↓gInSeq, ↓gLen, ↓gSlice, ↓gList, ↓gTuple, ↓gMin2, ↓gMax2, ↓gStr, ↓gInt, ↓newL, ↓mAppend, ↓mInsert, ↓mPopAt, ↓mIndex, ↓gSplit, ↓gJoin, List.map_cons, List.map_nil, List.length_cons, List.length_nil, List.length_map, List.cons_append, List.nil_append, Nat.reduceAdd, Nat.reduceSub, List.getElem?_cons_zero, List.getElem?_cons_succ, List.getElem?_map, Option.map_some, List.set_cons_zero, List.set_cons_succ, isNon, seqOf, listOf, atI_nn, atI_0, atI_1, atI_2, atI_3, encNet, encSt, encRow, encR, encO, encP, nats, encT, Od.raw, if_true, if_false, ite_true, ite_false, Bool.false_eq_true, Bool.true_eq_false, Bool.not_true, Bool.not_false, decide_true, decide_false, reduceIte, eq_self, and_true, true_and, sn_set_put, sn_set_take, sn_set_add, sn_put_set, sn_put_take, sn_put_add, sn_take_set, sn_take_put, sn_take_add, sn_add_set, sn_add_put, sn_add_take, ↓eIsi, tyName, kb_tt, kb_ll]; exact hq) _ _ ?_
    rw [if_neg Bool.false_ne_true]
    refine tv_of hrow _ _ ?_
    rw [if_neg Bool.false_ne_true]
    refine (show Tv (tst (eBin (gEqN true) (eB gLen [(eBin gIx (eVar 0) (eC (.int 0)))]) (eB gLen [(eBin gIx (eVar 1) (eC (.int 0)))]))) _ M false M from by intro Q E hq; simp only [↓eVar, ↓eC, ↓eBin, ↓eUn, ↓eB, ↓eTup, ↓eLst, ↓eAnd, ↓eOr, ↓eNot, ↓eIf, ↓eChain, ↓eSlice, ↓eM, ↓eStr1, ↓eIsi, ↓oNo, ↓oPart, ↓tst, ↓ftAnd, ↓ftOr, ↓ftNot, ↓ftYes, ↓args, ↓gI, ↓gI0, ↓gSubI, ↓gFdiv, ↓gMod, ↓gPow, ↓gLt, ↓gLe, ↓gGt, ↓gGe, ↓gAdd, ↓gMul, ↓gRep, ↓gIx, ↓gIsN, ↓gNotN, ↓gNeg, ↓gEqN, ↓gIn, ↓gInSeq, ↓gLen, ↓gSlice, ↓gList, ↓gTuple, ↓gMin2, ↓gMax2, ↓gStr, ↓gInt, ↓newL, ↓mAppend, ↓mInsert, ↓mPopAt, ↓mIndex, ↓gSplit, ↓gJoin, List.map_cons, List.map_nil, List.length_cons, List.length_nil, List.length_map, List.cons_append, List.nil_append, Nat.reduceAdd, Nat.reduceSub, List.getElem?_cons_zero, List.getElem?_cons_succ, List.getElem?_map, Option.map_some, List.set_cons_zero, List.set_cons_succ, isNon, seqOf, listOf, atI_nn, atI_0, atI_1, atI_2, atI_3, encNet, encSt, encRow, encR, encO, encP, nats, encT, Od.raw, if_true, if_false, ite_true, ite_false, Bool.false_eq_true, Bool.true_eq_false, Bool.not_true, Bool.not_false, decide_true, decide_false, reduceIte, eq_self, and_true, true_and, sn_set_put, sn_set_take, sn_set_add, sn_put_set, sn_put_take, sn_put_add, sn_take_set, sn_take_put, sn_take_add, sn_add_set, sn_add_put, sn_add_take, hl]; exact hq) _ _ q
  refine st_forI (xs := N.rows.map encRow) (ok := okAny) (M1 := M) (by
    show Iv _ _ _ ((widN m N).rows.map encRow) _ _
    exact (by intro R E hq; simp only [↓iSeqD, ↓iRng1D, ↓iRng2D, ↓iRng3D, ↓iEnumD, ↓iEnumTD, ↓eVar, ↓eC, ↓eBin, ↓eUn, ↓eB, ↓eTup, ↓eLst, ↓eAnd, ↓eOr, ↓eNot, ↓eIf, ↓eChain, ↓eSlice, ↓eM, ↓eStr1, ↓eIsi, ↓oNo, ↓oPart, ↓tst, ↓ftAnd, ↓ftOr, ↓ftNot, ↓ftYes, ↓args, ↓gI, ↓gI0, ↓gSubI, ↓gFdiv, ↓gMod, ↓gPow, ↓gLt, ↓gLe, ↓gGt, ↓gGe, ↓gAdd, ↓gMul, ↓gRep, ↓gIx, ↓gIsN, ↓gNotN, ↓gNeg, ↓gEqN, ↓gIn, ↓gInSeq, ↓gLen, ↓gSlice, ↓gList, ↓gTuple, ↓gMin2, ↓gMax2, ↓gStr, ↓gInt, ↓newL, ↓mAppend, ↓mInsert, ↓mPopAt, ↓mIndex, ↓gSplit, ↓gJoin, List.map_cons, List.map_nil, List.length_cons, List.length_nil, List.length_map, List.cons_append, List.nil_append, Nat.reduceAdd, Nat.reduceSub, List.getElem?_cons_zero, List.getElem?_cons_succ, List.getElem?_map, Option.map_some, List.set_cons_zero, List.set_cons_succ, isNon, seqOf, listOf, atI_nn, atI_0, atI_1, atI_2, atI_3, encNet, encSt, encRow, encR, encO, encP, nats, encT, Od.raw, if_true, if_false, ite_true, ite_false, Bool.false_eq_true, Bool.true_eq_false, Bool.not_true, Bool.not_false, decide_true, decide_false, reduceIte, eq_self, and_true, true_and, sn_set_put, sn_set_take, sn_set_add, sn_put_set, sn_put_take, sn_put_add, sn_take_set, sn_take_put, sn_take_add, sn_add_set, sn_add_put, sn_add_take]; exact hq)) (fun i ds M' => ∃ x3, M = M' ∧ ds = [some (encNet (widN m N)), some (.tup [.lst (N.pipes.map encP), rd]), some (.int m), x3, none, none, none]) ⟨none, rfl, rfl⟩ (fun _ _ _ _ _ => trivial) ?_ ?_
  · rintro i d _ _ nx hd ⟨x3, rfl, rfl⟩ k
    obtain ⟨r, hr, rfl⟩ := map_get hd
    exact st_l0 (M1 := M) (by intro Q E hq; simp only [↓eVar, ↓eC, ↓eBin, ↓eUn, ↓eB, ↓eTup, ↓eLst, ↓eAnd, ↓eOr, ↓eNot, ↓eIf, ↓eChain, ↓eSlice, ↓eM, ↓eStr1, ↓eIsi, ↓oNo, ↓oPart, ↓tst, ↓ftAnd, ↓ftOr, ↓ftNot, ↓ftYes, ↓args, ↓gI, ↓gI0, ↓gSubI, ↓gFdiv, ↓gMod, ↓gPow, ↓gLt, ↓gLe, ↓gGt, ↓gGe, ↓gAdd, ↓gMul, ↓gRep, ↓gIx, ↓gIsN, ↓gNotN, ↓gNeg, ↓gEqN, ↓gIn, ↓gInSeq, ↓gLen, ↓gSlice, ↓gList, ↓gTuple, ↓gMin2, ↓gMax2, ↓gStr, ↓gInt, ↓newL, ↓mAppend, ↓mInsert, ↓mPopAt, ↓mIndex, ↓gSplit, ↓gJoin, List.map_cons, List.map_nil, List.length_cons, List.length_nil, List.length_map, List.cons_append, List.nil_append, Nat.reduceAdd, Nat.reduceSub, List.getElem?_cons_zero, List.getElem?_cons_succ, List.getElem?_map, Option.map_some, List.set_cons_zero, List.set_cons_succ, isNon, seqOf, listOf, atI_nn, atI_0, atI_1, atI_2, atI_3, encNet, encSt, encRow, encR, encO, encP, nats, encT, Od.raw, if_true, if_false, ite_true, ite_false, Bool.false_eq_true, Bool.true_eq_false, Bool.not_true, Bool.not_false, decide_true, decide_false, reduceIte, eq_self, and_true, true_and, sn_set_put, sn_set_take, sn_set_add, sn_put_set, sn_put_take, sn_put_add, sn_take_set, sn_take_put, sn_take_add, sn_add_set, sn_add_put, sn_add_take, ↓eIsi, tyName, kb_ll]; exact hq) (k _ _ ⟨some (encRow r), rfl, rfl⟩)
  rintro _ _ ⟨x3, rfl, rfl⟩
  refine st_forI (xs := pairs (N.pipes.map encP)) (ok := okAny) (M1 := M) (by intro R E hq; simp only [↓iSeqD, ↓iRng1D, ↓iRng2D, ↓iRng3D, ↓iEnumD, ↓iEnumTD, ↓eVar, ↓eC, ↓eBin, ↓eUn, ↓eB, ↓eTup, ↓eLst, ↓eAnd, ↓eOr, ↓eNot, ↓eIf, ↓eChain, ↓eSlice, ↓eM, ↓eStr1, ↓eIsi, ↓oNo, ↓oPart, ↓tst, ↓ftAnd, ↓ftOr, ↓ftNot, ↓ftYes, ↓args, ↓gI, ↓gI0, ↓gSubI, ↓gFdiv, ↓gMod, ↓gPow, ↓gLt, ↓gLe, ↓gGt, ↓gGe, ↓gAdd, ↓gMul, ↓gRep, ↓gIx, ↓gIsN, ↓gNotN, ↓gNeg, ↓gEqN, ↓gIn, ↓gInSeq, ↓gLen, ↓gSlice, ↓gList, ↓gTuple, ↓gMin2, ↓gMax2, ↓gStr, ↓gInt, ↓newL, ↓mAppend, ↓mInsert, ↓mPopAt, ↓mIndex, ↓gSplit, ↓gJoin, List.map_cons, List.map_nil, List.length_cons, List.length_nil, List.length_map, List.cons_append, List.nil_append, Nat.reduceAdd, Nat.reduceSub, List.getElem?_cons_zero, List.getElem?_cons_succ, List.getElem?_map, Option.map_some, List.set_cons_zero, List.set_cons_succ, isNon, seqOf, listOf, atI_nn, atI_0, atI_1, atI_2, atI_3, encNet, encSt, encRow, encR, encO, encP, nats, encT, Od.raw, if_true, if_false, ite_true, ite_false, Bool.false_eq_true, Bool.true_eq_false, Bool.not_true, Bool.not_false, decide_true, decide_false, reduceIte, eq_self, and_true, true_and, sn_set_put, sn_set_take, sn_set_add, sn_put_set, sn_put_take, sn_put_add, sn_take_set, sn_take_put, sn_take_add, sn_add_set, sn_add_put, sn_add_take]; exact hq) (fun i ds M' => ∃ x4 x5 x6, M = M' ∧ ds = [some (encNet (widN m N)), some (.tup [.lst (N.pipes.map encP), rd]), some (.int m), x3, x4, x5, x6]) ⟨none, none, none, rfl, rfl⟩ (fun _ _ _ _ _ => trivial) ?_ ?_
  · rintro i d _ _ nx hd ⟨x4, x5, x6, rfl, rfl⟩ k
    obtain ⟨x, hx, rfl⟩ := pairs_get hd
    obtain ⟨p, hp, rfl⟩ := map_get hx
    have hp2 : (widN m N).pipes[i]? = some (widP m p) := by unfold widN; rw [List.getElem?_map, hp]; rfl
    refine ⟨rfl, ?_⟩
    show sSeq _ _ _ [some (encNet (widN m N)), some (.tup [.lst (N.pipes.map encP), rd]), some (.int m), x3, some (.int (i : Nat)), some (encP p), x6] M
    refine st_set (M1 := M) (d := encP (widP m p)) (by intro Q E hq; simp only [↓eVar, ↓eC, ↓eBin, ↓eUn, ↓eB, ↓eTup, ↓eLst, ↓eAnd, ↓eOr, ↓eNot, ↓eIf, ↓eChain, ↓eSlice, ↓eM, ↓eStr1, ↓eIsi, ↓oNo, ↓oPart, ↓tst, ↓ftAnd, ↓ftOr, ↓ftNot, ↓ftYes, ↓args, ↓gI, ↓gI0, ↓gSubI, ↓gFdiv, ↓gMod, ↓gPow, ↓gLt, ↓gLe, ↓gGt, ↓gGe, ↓gAdd, ↓gMul, ↓gRep, ↓gIx, ↓gIsN, ↓gNotN, ↓gNeg, ↓gEqN, ↓gIn, ↓gInSeq, ↓gLen, ↓gSlice, ↓gList, ↓gTuple, ↓gMin2, ↓gMax2, ↓gStr, ↓gInt, ↓newL, ↓mAppend, ↓mInsert, ↓mPopAt, ↓mIndex, ↓gSplit, ↓gJoin, List.map_cons, List.map_nil, List.length_cons, List.length_nil, List.length_map, List.cons_append, List.nil_append, Nat.reduceAdd, Nat.reduceSub, List.getElem?_cons_zero, List.getElem?_cons_succ, List.getElem?_map, Option.map_some, List.set_cons_zero, List.set_cons_succ, isNon, seqOf, listOf, atI_nn, atI_0, atI_1, atI_2, atI_3, encNet, encSt, encRow, encR, encO, encP, nats, encT, Od.raw, if_true, if_false, ite_true, ite_false, Bool.false_eq_true, Bool.true_eq_false, Bool.not_true, Bool.not_false, decide_true, decide_false, reduceIte, eq_self, and_true, true_and, sn_set_put, sn_set_take, sn_set_add, sn_put_set, sn_put_take, sn_put_add, sn_take_set, sn_take_put, sn_take_add, sn_add_set, sn_add_put, sn_add_take, hp2]; exact hq) ?_
    refine st_ifn (M1 := M) ?_ (st_l0 (M1 := M) ?_ (k _ _ ⟨_, _, _, rfl, rfl⟩))
    · intro Q E q
      simp only [↓eVar, ↓eC, ↓eBin, ↓eUn, ↓eB, ↓eTup, ↓eLst, ↓eAnd, ↓eOr, ↓eNot, ↓eIf, ↓eChain, ↓eSlice, ↓eM, ↓eStr1, ↓eIsi, ↓oNo, ↓oPart, ↓tst, ↓ftAnd, ↓ftOr, ↓ftNot, ↓ftYes, ↓args, ↓gI, ↓gI0, ↓gSubI, ↓gFdiv, ↓gMod, ↓gPow, ↓gLt, ↓gLe, ↓gGt, ↓gGe, ↓gAdd, ↓gMul, ↓gRep, ↓gIx, ↓gIsN, ↓gNotN, ↓gNeg, ↓gEqN, ↓gIn, ↓gInSeq, ↓gLen, ↓gSlice, ↓gList, ↓gTuple, ↓gMin2, ↓gMax2, ↓gStr, ↓gInt, ↓newL, ↓mAppend, ↓mInsert, ↓mPopAt, ↓mIndex, ↓gSplit, ↓gJoin, List.map_cons, List.map_nil, List.length_cons, List.length_nil, List.length_map, List.cons_append, List.nil_append, Nat.reduceAdd, Nat.reduceSub, List.getElem?_cons_zero, List.getElem?_cons_succ, List.getElem?_map, Option.map_some, List.set_cons_zero, List.set_cons_succ, isNon, seqOf, listOf, atI_nn, atI_0, atI_1, atI_2, atI_3, encNet, encSt, encRow, encR, encO, encP, nats, encT, Od.raw, if_true, if_false, ite_true, ite_false, Bool.false_eq_true, Bool.true_eq_false, Bool.not_true, Bool.not_false, decide_true, decide_false, reduceIte, eq_self, and_true, true_and, sn_set_put, sn_set_take, sn_set_add, sn_put_set, sn_put_take, sn_put_add, sn_take_set, sn_take_put, sn_take_add, sn_add_set, sn_add_put, sn_add_take, ↓eIsi, tyName, kb_tt, ↓eCall]
      refine ⟨_, rfl, ?_⟩
      exact q
    · unfold widP
      simp only [encP, ← min_1000]
      exact (by intro Q E hq; simp only [↓eVar, ↓eC, ↓eBin, ↓eUn, ↓eB, ↓eTup, ↓eLst, ↓eAnd, ↓eOr, ↓eNot, ↓eIf, ↓eChain, ↓eSlice, ↓eM, ↓eStr1, ↓eIsi, ↓oNo, ↓oPart, ↓tst, ↓ftAnd, ↓ftOr, ↓ftNot, ↓ftYes, ↓args, ↓gI, ↓gI0, ↓gSubI, ↓gFdiv, ↓gMod, ↓gPow, ↓gLt, ↓gLe, ↓gGt, ↓gGe, ↓gAdd, ↓gMul, ↓gRep, ↓gIx, ↓gIsN, ↓gNotN, ↓gNeg, ↓gEqN, ↓gIn, ↓gInSeq, ↓gLen, ↓gSlice, ↓gList, ↓gTuple, ↓gMin2, ↓gMax2, ↓gStr, ↓gInt, ↓newL, ↓mAppend, ↓mInsert, ↓mPopAt, ↓mIndex, ↓gSplit, ↓gJoin, List.map_cons, List.map_nil, List.length_cons, List.length_nil, List.length_map, List.cons_append, List.nil_append, Nat.reduceAdd, Nat.reduceSub, List.getElem?_cons_zero, List.getElem?_cons_succ, List.getElem?_map, Option.map_some, List.set_cons_zero, List.set_cons_succ, isNon, seqOf, listOf, atI_nn, atI_0, atI_1, atI_2, atI_3, encNet, encSt, encRow, encR, encO, encP, nats, encT, Od.raw, if_true, if_false, ite_true, ite_false, Bool.false_eq_true, Bool.true_eq_false, Bool.not_true, Bool.not_false, decide_true, decide_false, reduceIte, eq_self, and_true, true_and, sn_set_put, sn_set_take, sn_set_add, sn_put_set, sn_put_take, sn_put_add, sn_take_set, sn_take_put, sn_take_add, sn_add_set, sn_add_put, sn_add_take]; exact hq)
  rintro _ _ ⟨x4, x5, x6, rfl, rfl⟩
  exact st_ret (by intro Q E hq; simp only [↓eVar, ↓eC, ↓eBin, ↓eUn, ↓eB, ↓eTup, ↓eLst, ↓eAnd, ↓eOr, ↓eNot, ↓eIf, ↓eChain, ↓eSlice, ↓eM, ↓eStr1, ↓eIsi, ↓oNo, ↓oPart, ↓tst, ↓ftAnd, ↓ftOr, ↓ftNot, ↓ftYes, ↓args, ↓gI, ↓gI0, ↓gSubI, ↓gFdiv, ↓gMod, ↓gPow, ↓gLt, ↓gLe, ↓gGt, ↓gGe, ↓gAdd, ↓gMul, ↓gRep, ↓gIx, ↓gIsN, ↓gNotN, ↓gNeg, ↓gEqN, ↓gIn, ↓gInSeq, ↓gLen, ↓gSlice, ↓gList, ↓gTuple, ↓gMin2, ↓gMax2, ↓gStr, ↓gInt, ↓newL, ↓mAppend, ↓mInsert, ↓mPopAt, ↓mIndex, ↓gSplit, ↓gJoin, List.map_cons, List.map_nil, List.length_cons, List.length_nil, List.length_map, List.cons_append, List.nil_append, Nat.reduceAdd, Nat.reduceSub, List.getElem?_cons_zero, List.getElem?_cons_succ, List.getElem?_map, Option.map_some, List.set_cons_zero, List.set_cons_succ, isNon, seqOf, listOf, atI_nn, atI_0, atI_1, atI_2, atI_3, encNet, encSt, encRow, encR, encO, encP, nats, encT, Od.raw, if_true, if_false, ite_true, ite_false, Bool.false_eq_true, Bool.true_eq_false, Bool.not_true, Bool.not_false, decide_true, decide_false, reduceIte, eq_self, and_true, true_and, sn_set_put, sn_set_take, sn_set_add, sn_put_set, sn_put_take, sn_put_add, sn_take_set, sn_take_put, sn_take_add, sn_add_set, sn_add_put, sn_add_take]; exact hq) hq
theorem sem_law_k03 : ∀ ds M Q E, G_law ds M Q E → f_law_k03 G_balanced G_widened G_cell_at G_net_byS G_with_one_more G_even G_wide (exits false M Q E) (startD 6 ds) M := by
  rintro ds M Q E ⟨ns, rfl, rfl, hc, hq⟩
  unfold f_law_k03
  simp only [startD, List.map_cons, List.map_nil, List.length_cons, List.length_nil, List.replicate, List.cons_append, List.nil_append, Nat.reduceAdd, Nat.reduceSub]
  show eCall _ _ _ _ _ _
  simp only [↓eVar, ↓eC, ↓eBin, ↓eUn, ↓eB, ↓eTup, ↓eLst, ↓eAnd, ↓eOr, ↓eNot, ↓eIf, ↓eChain, ↓eSlice, ↓eM, ↓eStr1, ↓eIsi, ↓oNo, ↓oPart, ↓tst, ↓ftAnd, ↓ftOr, ↓ftNot, ↓ftYes, ↓args, ↓gI, ↓gI0, ↓gSubI, ↓gFdiv, ↓gMod, ↓gPow, ↓gLt, ↓gLe, ↓gGt, ↓gGe, ↓gAdd, ↓gMul, ↓gRep, ↓gIx, ↓gIsN, ↓gNotN, ↓gNeg, ↓gEqN, ↓gIn, ↓gInSeq, ↓gLen, ↓gSlice, ↓gList, ↓gTuple, ↓gMin2, ↓gMax2, ↓gStr, ↓gInt, ↓newL, ↓mAppend, ↓mInsert, ↓mPopAt, ↓mIndex, ↓gSplit, ↓gJoin, List.map_cons, List.map_nil, List.length_cons, List.length_nil, List.length_map, List.cons_append, List.nil_append, Nat.reduceAdd, Nat.reduceSub, List.getElem?_cons_zero, List.getElem?_cons_succ, List.getElem?_map, Option.map_some, List.set_cons_zero, List.set_cons_succ, isNon, seqOf, listOf, atI_nn, atI_0, atI_1, atI_2, atI_3, encNet, encSt, encRow, encR, encO, encP, nats, encT, Od.raw, if_true, if_false, ite_true, ite_false, Bool.false_eq_true, Bool.true_eq_false, Bool.not_true, Bool.not_false, decide_true, decide_false, reduceIte, eq_self, and_true, true_and, sn_set_put, sn_set_take, sn_set_add, sn_put_set, sn_put_take, sn_put_add, sn_take_set, sn_take_put, sn_take_add, sn_add_set, sn_add_put, sn_add_take, ↓eCall]
  refine ⟨ns, 10, 3, rfl, rfl, hc, by decide, by decide, by decide, fun N0 md0 => ?_⟩
  -- one order more
  show eCall _ _ _ _ _ _
  simp only [↓eVar, ↓eC, ↓eBin, ↓eUn, ↓eB, ↓eTup, ↓eLst, ↓eAnd, ↓eOr, ↓eNot, ↓eIf, ↓eChain, ↓eSlice, ↓eM, ↓eStr1, ↓eIsi, ↓oNo, ↓oPart, ↓tst, ↓ftAnd, ↓ftOr, ↓ftNot, ↓ftYes, ↓args, ↓gI, ↓gI0, ↓gSubI, ↓gFdiv, ↓gMod, ↓gPow, ↓gLt, ↓gLe, ↓gGt, ↓gGe, ↓gAdd, ↓gMul, ↓gRep, ↓gIx, ↓gIsN, ↓gNotN, ↓gNeg, ↓gEqN, ↓gIn, ↓gInSeq, ↓gLen, ↓gSlice, ↓gList, ↓gTuple, ↓gMin2, ↓gMax2, ↓gStr, ↓gInt, ↓newL, ↓mAppend, ↓mInsert, ↓mPopAt, ↓mIndex, ↓gSplit, ↓gJoin, List.map_cons, List.map_nil, List.length_cons, List.length_nil, List.length_map, List.cons_append, List.nil_append, Nat.reduceAdd, Nat.reduceSub, List.getElem?_cons_zero, List.getElem?_cons_succ, List.getElem?_map, Option.map_some, List.set_cons_zero, List.set_cons_succ, isNon, seqOf, listOf, atI_nn, atI_0, atI_1, atI_2, atI_3, encNet, encSt, encRow, encR, encO, encP, nats, encT, Od.raw, if_true, if_false, ite_true, ite_false, Bool.false_eq_true, Bool.true_eq_false, Bool.not_true, Bool.not_false, decide_true, decide_false, reduceIte, eq_self, and_true, true_and, sn_set_put, sn_set_take, sn_set_add, sn_put_set, sn_put_take, sn_put_add, sn_take_set, sn_take_put, sn_take_add, sn_add_set, sn_add_put, sn_add_take, ↓eCall]
  refine cell_ok hc (k := 9) fun z hz => ?_
  refine ⟨N0, z, rfl, rfl, md0, fun rs I => ?_⟩
  obtain ⟨N, hN1, hN2⟩ : ∃ N : Net, N.pipes = N0.pipes ∧ N.rows = rs := ⟨⟨N0.pipes, rs⟩, rfl, rfl⟩
  have md : Made N := by
    have := I.made md0
    cases N
    cases hN1
    cases hN2
    exact this
  have hW : N0.W = N.rows.length := by rw [hN2]; exact I.len.symm
  rw [← hN1, ← hN2, hW]
  have hr : RowsIn (rowsM N.rows) (.loc N.rows.length) N.rows := by
    have := rowsIn_loc (rows := N.rows) (more := [])
    rw [List.append_nil] at this
    exact this
  -- how much more
  refine seq_cut (fun ds M => ∃ z : Int, M = rowsM N.rows ∧ ds = [some (.scr (intL ns)), some (.tup [.lst (N.pipes.map encP), .loc N.rows.length]), some (.int (z % 4)), none, none, none]) ?_ ?_
  · intro nx k
    show eBin _ _ _ _ _ _ _
    simp only [↓eVar, ↓eC, ↓eBin, ↓eUn, ↓eB, ↓eTup, ↓eLst, ↓eAnd, ↓eOr, ↓eNot, ↓eIf, ↓eChain, ↓eSlice, ↓eM, ↓eStr1, ↓eIsi, ↓oNo, ↓oPart, ↓tst, ↓ftAnd, ↓ftOr, ↓ftNot, ↓ftYes, ↓args, ↓gI, ↓gI0, ↓gSubI, ↓gFdiv, ↓gMod, ↓gPow, ↓gLt, ↓gLe, ↓gGt, ↓gGe, ↓gAdd, ↓gMul, ↓gRep, ↓gIx, ↓gIsN, ↓gNotN, ↓gNeg, ↓gEqN, ↓gIn, ↓gInSeq, ↓gLen, ↓gSlice, ↓gList, ↓gTuple, ↓gMin2, ↓gMax2, ↓gStr, ↓gInt, ↓newL, ↓mAppend, ↓mInsert, ↓mPopAt, ↓mIndex, ↓gSplit, ↓gJoin, List.map_cons, List.map_nil, List.length_cons, List.length_nil, List.length_map, List.cons_append, List.nil_append, Nat.reduceAdd, Nat.reduceSub, List.getElem?_cons_zero, List.getElem?_cons_succ, List.getElem?_map, Option.map_some, List.set_cons_zero, List.set_cons_succ, isNon, seqOf, listOf, atI_nn, atI_0, atI_1, atI_2, atI_3, encNet, encSt, encRow, encR, encO, encP, nats, encT, Od.raw, if_true, if_false, ite_true, ite_false, Bool.false_eq_true, Bool.true_eq_false, Bool.not_true, Bool.not_false, decide_true, decide_false, reduceIte, eq_self, and_true, true_and, sn_set_put, sn_set_take, sn_set_add, sn_put_set, sn_put_take, sn_put_add, sn_take_set, sn_take_put, sn_take_add, sn_add_set, sn_add_put, sn_add_take, ↓eCall]
    refine cell_ok hc (k := 11) fun z hz => ?_
    simp only [↓eVar, ↓eC, ↓eBin, ↓eUn, ↓eB, ↓eTup, ↓eLst, ↓eAnd, ↓eOr, ↓eNot, ↓eIf, ↓eChain, ↓eSlice, ↓eM, ↓eStr1, ↓eIsi, ↓oNo, ↓oPart, ↓tst, ↓ftAnd, ↓ftOr, ↓ftNot, ↓ftYes, ↓args, ↓gI, ↓gI0, ↓gSubI, ↓gFdiv, ↓gMod, ↓gPow, ↓gLt, ↓gLe, ↓gGt, ↓gGe, ↓gAdd, ↓gMul, ↓gRep, ↓gIx, ↓gIsN, ↓gNotN, ↓gNeg, ↓gEqN, ↓gIn, ↓gInSeq, ↓gLen, ↓gSlice, ↓gList, ↓gTuple, ↓gMin2, ↓gMax2, ↓gStr, ↓gInt, ↓newL, ↓mAppend, ↓mInsert, ↓mPopAt, ↓mIndex, ↓gSplit, ↓gJoin, List.map_cons, List.map_nil, List.length_cons, List.length_nil, List.length_map, List.cons_append, List.nil_append, Nat.reduceAdd, Nat.reduceSub, List.getElem?_cons_zero, List.getElem?_cons_succ, List.getElem?_map, Option.map_some, List.set_cons_zero, List.set_cons_succ, isNon, seqOf, listOf, atI_nn, atI_0, atI_1, atI_2, atI_3, encNet, encSt, encRow, encR, encO, encP, nats, encT, Od.raw, if_true, if_false, ite_true, ite_false, Bool.false_eq_true, Bool.true_eq_false, Bool.not_true, Bool.not_false, decide_true, decide_false, reduceIte, eq_self, and_true, true_and, sn_set_put, sn_set_take, sn_set_add, sn_put_set, sn_put_take, sn_put_add, sn_take_set, sn_take_put, sn_take_add, sn_add_set, sn_add_put, sn_add_take, show (0 : Int) < 4 by decide]
    exact k _ _ ⟨z, rfl, rfl⟩
  rintro _ _ ⟨z, rfl, rfl⟩
  refine seq_cut (fun ds M => ∃ m : Nat, M = rowsM N.rows ∧ ds = [some (.scr (intL ns)), some (.tup [.lst (N.pipes.map encP), .loc N.rows.length]), some (.int (m : Int)), none, none, none]) ?_ ?_
  · intro nx k
    show tst _ _ _ _ _
    simp only [↓eVar, ↓eC, ↓eBin, ↓eUn, ↓eB, ↓eTup, ↓eLst, ↓eAnd, ↓eOr, ↓eNot, ↓eIf, ↓eChain, ↓eSlice, ↓eM, ↓eStr1, ↓eIsi, ↓oNo, ↓oPart, ↓tst, ↓ftAnd, ↓ftOr, ↓ftNot, ↓ftYes, ↓args, ↓gI, ↓gI0, ↓gSubI, ↓gFdiv, ↓gMod, ↓gPow, ↓gLt, ↓gLe, ↓gGt, ↓gGe, ↓gAdd, ↓gMul, ↓gRep, ↓gIx, ↓gIsN, ↓gNotN, ↓gNeg, ↓gEqN, ↓gIn, ↓gInSeq, ↓gLen, ↓gSlice, ↓gList, ↓gTuple, ↓gMin2, ↓gMax2, ↓gStr, ↓gInt, ↓newL, ↓mAppend, ↓mInsert, ↓mPopAt, ↓mIndex, ↓gSplit, ↓gJoin, List.map_cons, List.map_nil, List.length_cons, List.length_nil, List.length_map, List.cons_append, List.nil_append, Nat.reduceAdd, Nat.reduceSub, List.getElem?_cons_zero, List.getElem?_cons_succ, List.getElem?_map, Option.map_some, List.set_cons_zero, List.set_cons_succ, isNon, seqOf, listOf, atI_nn, atI_0, atI_1, atI_2, atI_3, encNet, encSt, encRow, encR, encO, encP, nats, encT, Od.raw, if_true, if_false, ite_true, ite_false, Bool.false_eq_true, Bool.true_eq_false, Bool.not_true, Bool.not_false, decide_true, decide_false, reduceIte, eq_self, and_true, true_and, sn_set_put, sn_set_take, sn_set_add, sn_put_set, sn_put_take, sn_put_add, sn_take_set, sn_take_put, sn_take_add, sn_add_set, sn_add_put, sn_add_take, ↓eCall]
    refine cell_ok hc (k := 11) fun z2 hz2 => ?_
    simp only [↓eVar, ↓eC, ↓eBin, ↓eUn, ↓eB, ↓eTup, ↓eLst, ↓eAnd, ↓eOr, ↓eNot, ↓eIf, ↓eChain, ↓eSlice, ↓eM, ↓eStr1, ↓eIsi, ↓oNo, ↓oPart, ↓tst, ↓ftAnd, ↓ftOr, ↓ftNot, ↓ftYes, ↓args, ↓gI, ↓gI0, ↓gSubI, ↓gFdiv, ↓gMod, ↓gPow, ↓gLt, ↓gLe, ↓gGt, ↓gGe, ↓gAdd, ↓gMul, ↓gRep, ↓gIx, ↓gIsN, ↓gNotN, ↓gNeg, ↓gEqN, ↓gIn, ↓gInSeq, ↓gLen, ↓gSlice, ↓gList, ↓gTuple, ↓gMin2, ↓gMax2, ↓gStr, ↓gInt, ↓newL, ↓mAppend, ↓mInsert, ↓mPopAt, ↓mIndex, ↓gSplit, ↓gJoin, List.map_cons, List.map_nil, List.length_cons, List.length_nil, List.length_map, List.cons_append, List.nil_append, Nat.reduceAdd, Nat.reduceSub, List.getElem?_cons_zero, List.getElem?_cons_succ, List.getElem?_map, Option.map_some, List.set_cons_zero, List.set_cons_succ, isNon, seqOf, listOf, atI_nn, atI_0, atI_1, atI_2, atI_3, encNet, encSt, encRow, encR, encO, encP, nats, encT, Od.raw, if_true, if_false, ite_true, ite_false, Bool.false_eq_true, Bool.true_eq_false, Bool.not_true, Bool.not_false, decide_true, decide_false, reduceIte, eq_self, and_true, true_and, sn_set_put, sn_set_take, sn_set_add, sn_put_set, sn_put_take, sn_put_add, sn_take_set, sn_take_put, sn_take_add, sn_add_set, sn_add_put, sn_add_take, dv z2 (k := 4) (by decide) (by decide), show (0 : Int) < 3 by decide]
    by_cases e : z2 / 4 % 3 = 2
    · rw [if_pos (decide_eq_true e)]
      show eBin _ _ _ _ _ _ _
      simp only [↓eVar, ↓eC, ↓eBin, ↓eUn, ↓eB, ↓eTup, ↓eLst, ↓eAnd, ↓eOr, ↓eNot, ↓eIf, ↓eChain, ↓eSlice, ↓eM, ↓eStr1, ↓eIsi, ↓oNo, ↓oPart, ↓tst, ↓ftAnd, ↓ftOr, ↓ftNot, ↓ftYes, ↓args, ↓gI, ↓gI0, ↓gSubI, ↓gFdiv, ↓gMod, ↓gPow, ↓gLt, ↓gLe, ↓gGt, ↓gGe, ↓gAdd, ↓gMul, ↓gRep, ↓gIx, ↓gIsN, ↓gNotN, ↓gNeg, ↓gEqN, ↓gIn, ↓gInSeq, ↓gLen, ↓gSlice, ↓gList, ↓gTuple, ↓gMin2, ↓gMax2, ↓gStr, ↓gInt, ↓newL, ↓mAppend, ↓mInsert, ↓mPopAt, ↓mIndex, ↓gSplit, ↓gJoin, List.map_cons, List.map_nil, List.length_cons, List.length_nil, List.length_map, List.cons_append, List.nil_append, Nat.reduceAdd, Nat.reduceSub, List.getElem?_cons_zero, List.getElem?_cons_succ, List.getElem?_map, Option.map_some, List.set_cons_zero, List.set_cons_succ, isNon, seqOf, listOf, atI_nn, atI_0, atI_1, atI_2, atI_3, encNet, encSt, encRow, encR, encO, encP, nats, encT, Od.raw, if_true, if_false, ite_true, ite_false, Bool.false_eq_true, Bool.true_eq_false, Bool.not_true, Bool.not_false, decide_true, decide_false, reduceIte, eq_self, and_true, true_and, sn_set_put, sn_set_take, sn_set_add, sn_put_set, sn_put_take, sn_put_add, sn_take_set, sn_take_put, sn_take_add, sn_add_set, sn_add_put, sn_add_take, ↓eCall]
      refine cell_ok hc (k := 11) fun z3 hz3 => ?_
      obtain ⟨m, hm⟩ := mod_nat (a := z3 / 12) (b := 1201) (by decide)
      simp only [↓eVar, ↓eC, ↓eBin, ↓eUn, ↓eB, ↓eTup, ↓eLst, ↓eAnd, ↓eOr, ↓eNot, ↓eIf, ↓eChain, ↓eSlice, ↓eM, ↓eStr1, ↓eIsi, ↓oNo, ↓oPart, ↓tst, ↓ftAnd, ↓ftOr, ↓ftNot, ↓ftYes, ↓args, ↓gI, ↓gI0, ↓gSubI, ↓gFdiv, ↓gMod, ↓gPow, ↓gLt, ↓gLe, ↓gGt, ↓gGe, ↓gAdd, ↓gMul, ↓gRep, ↓gIx, ↓gIsN, ↓gNotN, ↓gNeg, ↓gEqN, ↓gIn, ↓gInSeq, ↓gLen, ↓gSlice, ↓gList, ↓gTuple, ↓gMin2, ↓gMax2, ↓gStr, ↓gInt, ↓newL, ↓mAppend, ↓mInsert, ↓mPopAt, ↓mIndex, ↓gSplit, ↓gJoin, List.map_cons, List.map_nil, List.length_cons, List.length_nil, List.length_map, List.cons_append, List.nil_append, Nat.reduceAdd, Nat.reduceSub, List.getElem?_cons_zero, List.getElem?_cons_succ, List.getElem?_map, Option.map_some, List.set_cons_zero, List.set_cons_succ, isNon, seqOf, listOf, atI_nn, atI_0, atI_1, atI_2, atI_3, encNet, encSt, encRow, encR, encO, encP, nats, encT, Od.raw, if_true, if_false, ite_true, ite_false, Bool.false_eq_true, Bool.true_eq_false, Bool.not_true, Bool.not_false, decide_true, decide_false, reduceIte, eq_self, and_true, true_and, sn_set_put, sn_set_take, sn_set_add, sn_put_set, sn_put_take, sn_put_add, sn_take_set, sn_take_put, sn_take_add, sn_add_set, sn_add_put, sn_add_take, dv z3 (k := 12) (by decide) (by decide), show (0 : Int) < 1201 by decide, hm]
      exact k _ _ ⟨m, rfl, rfl⟩
    · rw [if_neg (by rw [decide_eq_false e]; exact Bool.false_ne_true)]
      obtain ⟨m, hm⟩ := mod_nat (a := z) (b := 4) (by decide)
      refine k _ _ ⟨m, rfl, ?_⟩
      rw [hm]
  rintro _ _ ⟨m, rfl, rfl⟩
  -- what is handed in
  have ok := md.ok
  obtain ⟨rds, s1, s2, s3⟩ := id hr
  have hand : Ev (eTup [(eB (gList false) [(eBin gIx (eVar 1) (eC (.int 0)))]), (eLc false (iSeqD (eBin gIx (eVar 1) (eC (.int 1)))) [3] (putNm 3) ftYes (eB (gList false) [(eVar 3)]))])
      [some (.scr (intL ns)), some (.tup [.lst (N.pipes.map encP), .loc N.rows.length]), some (.int (m : Int)), none, none, none] (rowsM N.rows) (encNet N) (rowsM N.rows) := by
    intro Q E q
    unfold eTup
    refine (show Ev (eB (gList false) [(eBin gIx (eVar 1) (eC (.int 0)))]) _ (rowsM N.rows) (.lst (N.pipes.map encP)) (rowsM N.rows) from by intro Q E hq; simp only [↓eVar, ↓eC, ↓eBin, ↓eUn, ↓eB, ↓eTup, ↓eLst, ↓eAnd, ↓eOr, ↓eNot, ↓eIf, ↓eChain, ↓eSlice, ↓eM, ↓eStr1, ↓eIsi, ↓oNo, ↓oPart, ↓tst, ↓ftAnd, ↓ftOr, ↓ftNot, ↓ftYes, ↓args, ↓gI, ↓gI0, ↓gSubI, ↓gFdiv, ↓gMod, ↓gPow, ↓gLt, ↓gLe, ↓gGt, ↓gGe, ↓gAdd, ↓gMul, ↓gRep, ↓gIx, ↓gIsN, ↓gNotN, ↓gNeg, ↓gEqN, ↓gIn, ↓gInSeq, ↓gLen, ↓gSlice, ↓gList, ↓gTuple, ↓gMin2, ↓gMax2, ↓gStr, ↓gInt, ↓newL, ↓mAppend, ↓mInsert, ↓mPopAt, ↓mIndex, ↓gSplit, ↓gJoin, List.map_cons, List.map_nil, List.length_cons, List.length_nil, List.length_map, List.cons_append, List.nil_append, Nat.reduceAdd, Nat.reduceSub, List.getElem?_cons_zero, List.getElem?_cons_succ, List.getElem?_map, Option.map_some, List.set_cons_zero, List.set_cons_succ, isNon, seqOf, listOf, atI_nn, atI_0, atI_1, atI_2, atI_3, encNet, encSt, encRow, encR, encO, encP, nats, encT, Od.raw, if_true, if_false, ite_true, ite_false, Bool.false_eq_true, Bool.true_eq_false, Bool.not_true, Bool.not_false, decide_true, decide_false, reduceIte, eq_self, and_true, true_and, sn_set_put, sn_set_take, sn_set_add, sn_put_set, sn_put_take, sn_put_add, sn_take_set, sn_take_put, sn_take_add, sn_add_set, sn_add_put, sn_add_take, newL]; exact hq) _ _ ?_
    obtain ⟨ok1, iv1, hok1⟩ := iv_seq (f := eBin gIx (eVar 1) (eC (.int 1))) (ds := [some (.scr (intL ns)), some (.tup [.lst (N.pipes.map encP), .loc N.rows.length]), some (.int (m : Int)), none, none, none]) (M := rowsM N.rows) (by intro Q E hq; simp only [↓eVar, ↓eC, ↓eBin, ↓eUn, ↓eB, ↓eTup, ↓eLst, ↓eAnd, ↓eOr, ↓eNot, ↓eIf, ↓eChain, ↓eSlice, ↓eM, ↓eStr1, ↓eIsi, ↓oNo, ↓oPart, ↓tst, ↓ftAnd, ↓ftOr, ↓ftNot, ↓ftYes, ↓args, ↓gI, ↓gI0, ↓gSubI, ↓gFdiv, ↓gMod, ↓gPow, ↓gLt, ↓gLe, ↓gGt, ↓gGe, ↓gAdd, ↓gMul, ↓gRep, ↓gIx, ↓gIsN, ↓gNotN, ↓gNeg, ↓gEqN, ↓gIn, ↓gInSeq, ↓gLen, ↓gSlice, ↓gList, ↓gTuple, ↓gMin2, ↓gMax2, ↓gStr, ↓gInt, ↓newL, ↓mAppend, ↓mInsert, ↓mPopAt, ↓mIndex, ↓gSplit, ↓gJoin, List.map_cons, List.map_nil, List.length_cons, List.length_nil, List.length_map, List.cons_append, List.nil_append, Nat.reduceAdd, Nat.reduceSub, List.getElem?_cons_zero, List.getElem?_cons_succ, List.getElem?_map, Option.map_some, List.set_cons_zero, List.set_cons_succ, isNon, seqOf, listOf, atI_nn, atI_0, atI_1, atI_2, atI_3, encNet, encSt, encRow, encR, encO, encP, nats, encT, Od.raw, if_true, if_false, ite_true, ite_false, Bool.false_eq_true, Bool.true_eq_false, Bool.not_true, Bool.not_false, decide_true, decide_false, reduceIte, eq_self, and_true, true_and, sn_set_put, sn_set_take, sn_set_add, sn_put_set, sn_put_take, sn_put_add, sn_take_set, sn_take_put, sn_take_add, sn_add_set, sn_add_put, sn_add_take]; exact hq) s1
    have hlc : Ev (eLc false (iSeqD (eBin gIx (eVar 1) (eC (.int 1)))) [3] (putNm 3) ftYes (eB (gList false) [(eVar 3)])) [some (.scr (intL ns)), some (.tup [.lst (N.pipes.map encP), .loc N.rows.length]), some (.int (m : Int)), none, none, none] (rowsM N.rows) (.lst (N.rows.map encRow)) (rowsM N.rows) := by
      refine ev_lc (acc := N.rows.map encRow) (M2 := rowsM N.rows) iv1 (by rw [s2]; exact million (Nat.le_trans ok.few (by decide))) ?_ (fun Q q => q)
      intro Q q
      refine lc_get (hok1 _ s1) rds (N.rows.map encRow) [] (by rw [s2, List.length_map]) (fun k x y h1 h2 => ?_) q
      have h3 := s3 k x h1
      have hy : y = encRow (N.rows.getD k []) := by
        have hk : k < N.rows.length := by rw [← s2]; exact (List.getElem?_eq_some_iff.mp h1).1
        rw [List.getElem?_map, getD_of (d := []) hk] at h2
        cases h2
        rfl
      rw [hy]
      rcases h3 with rfl | ⟨n, rfl, e⟩
      · exact (by intro Q E hq; simp only [↓eVar, ↓eC, ↓eBin, ↓eUn, ↓eB, ↓eTup, ↓eLst, ↓eAnd, ↓eOr, ↓eNot, ↓eIf, ↓eChain, ↓eSlice, ↓eM, ↓eStr1, ↓eIsi, ↓oNo, ↓oPart, ↓tst, ↓ftAnd, ↓ftOr, ↓ftNot, ↓ftYes, ↓args, ↓gI, ↓gI0, ↓gSubI, ↓gFdiv, ↓gMod, ↓gPow, ↓gLt, ↓gLe, ↓gGt, ↓gGe, ↓gAdd, ↓gMul, ↓gRep, ↓gIx, ↓gIsN, ↓gNotN, ↓gNeg, ↓gEqN, ↓gIn, ↓gInSeq, ↓gLen, ↓gSlice, ↓gList, ↓gTuple, ↓gMin2, ↓gMax2, ↓gStr, ↓gInt, ↓newL, ↓mAppend, ↓mInsert, ↓mPopAt, ↓mIndex, ↓gSplit, ↓gJoin, List.map_cons, List.map_nil, List.length_cons, List.length_nil, List.length_map, List.cons_append, List.nil_append, Nat.reduceAdd, Nat.reduceSub, List.getElem?_cons_zero, List.getElem?_cons_succ, List.getElem?_map, Option.map_some, List.set_cons_zero, List.set_cons_succ, isNon, seqOf, listOf, atI_nn, atI_0, atI_1, atI_2, atI_3, encNet, encSt, encRow, encR, encO, encP, nats, encT, Od.raw, if_true, if_false, ite_true, ite_false, Bool.false_eq_true, Bool.true_eq_false, Bool.not_true, Bool.not_false, decide_true, decide_false, reduceIte, eq_self, and_true, true_and, sn_set_put, sn_set_take, sn_set_add, sn_put_set, sn_put_take, sn_put_add, sn_take_set, sn_take_put, sn_take_add, sn_add_set, sn_add_put, sn_add_take, newL]; exact hq)
      · exact (by intro Q E hq; simp only [↓eVar, ↓eC, ↓eBin, ↓eUn, ↓eB, ↓eTup, ↓eLst, ↓eAnd, ↓eOr, ↓eNot, ↓eIf, ↓eChain, ↓eSlice, ↓eM, ↓eStr1, ↓eIsi, ↓oNo, ↓oPart, ↓tst, ↓ftAnd, ↓ftOr, ↓ftNot, ↓ftYes, ↓args, ↓gI, ↓gI0, ↓gSubI, ↓gFdiv, ↓gMod, ↓gPow, ↓gLt, ↓gLe, ↓gGt, ↓gGe, ↓gAdd, ↓gMul, ↓gRep, ↓gIx, ↓gIsN, ↓gNotN, ↓gNeg, ↓gEqN, ↓gIn, ↓gInSeq, ↓gLen, ↓gSlice, ↓gList, ↓gTuple, ↓gMin2, ↓gMax2, ↓gStr, ↓gInt, ↓newL, ↓mAppend, ↓mInsert, ↓mPopAt, ↓mIndex, ↓gSplit, ↓gJoin, List.map_cons, List.map_nil, List.length_cons, List.length_nil, List.length_map, List.cons_append, List.nil_append, Nat.reduceAdd, Nat.reduceSub, List.getElem?_cons_zero, List.getElem?_cons_succ, List.getElem?_map, Option.map_some, List.set_cons_zero, List.set_cons_succ, isNon, seqOf, listOf, atI_nn, atI_0, atI_1, atI_2, atI_3, encNet, encSt, encRow, encR, encO, encP, nats, encT, Od.raw, if_true, if_false, ite_true, ite_false, Bool.false_eq_true, Bool.true_eq_false, Bool.not_true, Bool.not_false, decide_true, decide_false, reduceIte, eq_self, and_true, true_and, sn_set_put, sn_set_take, sn_set_add, sn_put_set, sn_put_take, sn_put_add, sn_take_set, sn_take_put, sn_take_add, sn_add_set, sn_add_put, sn_add_take, newL, e]; exact hq)
    exact hlc _ _ q
  refine st_set (M1 := rowsM N.rows) hand ?_
  refine st_set (M1 := rowsM N.rows) (d := .bl (bal N)) (ev_call (xs := [encNet N]) (M1 := rowsM N.rows) (by intro Q E hq; simp only [↓eVar, ↓eC, ↓eBin, ↓eUn, ↓eB, ↓eTup, ↓eLst, ↓eAnd, ↓eOr, ↓eNot, ↓eIf, ↓eChain, ↓eSlice, ↓eM, ↓eStr1, ↓eIsi, ↓oNo, ↓oPart, ↓tst, ↓ftAnd, ↓ftOr, ↓ftNot, ↓ftYes, ↓args, ↓gI, ↓gI0, ↓gSubI, ↓gFdiv, ↓gMod, ↓gPow, ↓gLt, ↓gLe, ↓gGt, ↓gGe, ↓gAdd, ↓gMul, ↓gRep, ↓gIx, ↓gIsN, ↓gNotN, ↓gNeg, ↓gEqN, ↓gIn, ↓gInSeq, ↓gLen, ↓gSlice, ↓gList, ↓gTuple, ↓gMin2, ↓gMax2, ↓gStr, ↓gInt, ↓newL, ↓mAppend, ↓mInsert, ↓mPopAt, ↓mIndex, ↓gSplit, ↓gJoin, List.map_cons, List.map_nil, List.length_cons, List.length_nil, List.length_map, List.cons_append, List.nil_append, Nat.reduceAdd, Nat.reduceSub, List.getElem?_cons_zero, List.getElem?_cons_succ, List.getElem?_map, Option.map_some, List.set_cons_zero, List.set_cons_succ, isNon, seqOf, listOf, atI_nn, atI_0, atI_1, atI_2, atI_3, encNet, encSt, encRow, encR, encO, encP, nats, encT, Od.raw, if_true, if_false, ite_true, ite_false, Bool.false_eq_true, Bool.true_eq_false, Bool.not_true, Bool.not_false, decide_true, decide_false, reduceIte, eq_self, and_true, true_and, sn_set_put, sn_set_take, sn_set_add, sn_put_set, sn_put_take, sn_put_add, sn_take_set, sn_take_put, sn_take_add, sn_add_set, sn_add_put, sn_add_take]; exact hq) fun Q E q => ⟨N, rfl, ok, q⟩) ?_
  show sSeq _ _ _ [some (.scr (intL ns)), some (.tup [.lst (N.pipes.map encP), .loc N.rows.length]), some (.int (m : Int)), none, some (encNet N), some (.bl (bal N))] _
  refine st_ifn (M1 := rowsM N.rows) ?_ ?_
  · intro Q E q
    unfold ftOr
    refine (show Tv (ftNot (tst (eIsi "bool" (eVar 5)))) _ (rowsM N.rows) false (rowsM N.rows) from by intro Q E hq; simp only [↓eVar, ↓eC, ↓eBin, ↓eUn, ↓eB, ↓eTup, ↓eLst, ↓eAnd, ↓eOr, ↓eNot, ↓eIf, ↓eChain, ↓eSlice, ↓eM, ↓eStr1, ↓eIsi, ↓oNo, ↓oPart, ↓tst, ↓ftAnd, ↓ftOr, ↓ftNot, ↓ftYes, ↓args, ↓gI, ↓gI0, ↓gSubI, ↓gFdiv, ↓gMod, ↓gPow, ↓gLt, ↓gLe, ↓gGt, ↓gGe, ↓gAdd, ↓gMul, ↓gRep, ↓gIx, ↓gIsN, ↓gNotN, ↓gNeg, ↓gEqN, ↓gIn, ↓gInSeq, ↓gLen, ↓gSlice, ↓gList, ↓gTuple, ↓gMin2, ↓gMax2, ↓gStr, ↓gInt, ↓newL, ↓mAppend, ↓mInsert, ↓mPopAt, ↓mIndex, ↓gSplit, ↓gJoin, List.map_cons, List.map_nil, List.length_cons, List.length_nil, List.length_map, List.cons_append, List.nil_append, Nat.reduceAdd, Nat.reduceSub, List.getElem?_cons_zero, List.getElem?_cons_succ, List.getElem?_map, Option.map_some, List.set_cons_zero, List.set_cons_succ, isNon, seqOf, listOf, atI_nn, atI_0, atI_1, atI_2, atI_3, encNet, encSt, encRow, encR, encO, encP, nats, encT, Od.raw, if_true, if_false, ite_true, ite_false, Bool.false_eq_true, Bool.true_eq_false, Bool.not_true, Bool.not_false, decide_true, decide_false, reduceIte, eq_self, and_true, true_and, sn_set_put, sn_set_take, sn_set_add, sn_put_set, sn_put_take, sn_put_add, sn_take_set, sn_take_put, sn_take_add, sn_add_set, sn_add_put, sn_add_take, ↓eIsi, tyName, kb_bb]; exact hq) _ _ ?_
    rw [if_neg Bool.false_ne_true]
    refine tv_of (ev_bin (M1 := rowsM N.rows) (M2 := rowsM N.rows) (M3 := rowsM N.rows) (x := .bl (bal N)) (y := .bl (bal N)) (d := .bl false) (by intro Q E hq; simp only [↓eVar, ↓eC, ↓eBin, ↓eUn, ↓eB, ↓eTup, ↓eLst, ↓eAnd, ↓eOr, ↓eNot, ↓eIf, ↓eChain, ↓eSlice, ↓eM, ↓eStr1, ↓eIsi, ↓oNo, ↓oPart, ↓tst, ↓ftAnd, ↓ftOr, ↓ftNot, ↓ftYes, ↓args, ↓gI, ↓gI0, ↓gSubI, ↓gFdiv, ↓gMod, ↓gPow, ↓gLt, ↓gLe, ↓gGt, ↓gGe, ↓gAdd, ↓gMul, ↓gRep, ↓gIx, ↓gIsN, ↓gNotN, ↓gNeg, ↓gEqN, ↓gIn, ↓gInSeq, ↓gLen, ↓gSlice, ↓gList, ↓gTuple, ↓gMin2, ↓gMax2, ↓gStr, ↓gInt, ↓newL, ↓mAppend, ↓mInsert, ↓mPopAt, ↓mIndex, ↓gSplit, ↓gJoin, List.map_cons, List.map_nil, List.length_cons, List.length_nil, List.length_map, List.cons_append, List.nil_append, Nat.reduceAdd, Nat.reduceSub, List.getElem?_cons_zero, List.getElem?_cons_succ, List.getElem?_map, Option.map_some, List.set_cons_zero, List.set_cons_succ, isNon, seqOf, listOf, atI_nn, atI_0, atI_1, atI_2, atI_3, encNet, encSt, encRow, encR, encO, encP, nats, encT, Od.raw, if_true, if_false, ite_true, ite_false, Bool.false_eq_true, Bool.true_eq_false, Bool.not_true, Bool.not_false, decide_true, decide_false, reduceIte, eq_self, and_true, true_and, sn_set_put, sn_set_take, sn_set_add, sn_put_set, sn_put_take, sn_put_add, sn_take_set, sn_take_put, sn_take_add, sn_add_set, sn_add_put, sn_add_take]; exact hq) (ev_call (xs := [.tup [.lst (N.pipes.map encP), .loc N.rows.length]]) (M1 := rowsM N.rows) (by intro Q E hq; simp only [↓eVar, ↓eC, ↓eBin, ↓eUn, ↓eB, ↓eTup, ↓eLst, ↓eAnd, ↓eOr, ↓eNot, ↓eIf, ↓eChain, ↓eSlice, ↓eM, ↓eStr1, ↓eIsi, ↓oNo, ↓oPart, ↓tst, ↓ftAnd, ↓ftOr, ↓ftNot, ↓ftYes, ↓args, ↓gI, ↓gI0, ↓gSubI, ↓gFdiv, ↓gMod, ↓gPow, ↓gLt, ↓gLe, ↓gGt, ↓gGe, ↓gAdd, ↓gMul, ↓gRep, ↓gIx, ↓gIsN, ↓gNotN, ↓gNeg, ↓gEqN, ↓gIn, ↓gInSeq, ↓gLen, ↓gSlice, ↓gList, ↓gTuple, ↓gMin2, ↓gMax2, ↓gStr, ↓gInt, ↓newL, ↓mAppend, ↓mInsert, ↓mPopAt, ↓mIndex, ↓gSplit, ↓gJoin, List.map_cons, List.map_nil, List.length_cons, List.length_nil, List.length_map, List.cons_append, List.nil_append, Nat.reduceAdd, Nat.reduceSub, List.getElem?_cons_zero, List.getElem?_cons_succ, List.getElem?_map, Option.map_some, List.set_cons_zero, List.set_cons_succ, isNon, seqOf, listOf, atI_nn, atI_0, atI_1, atI_2, atI_3, encNet, encSt, encRow, encR, encO, encP, nats, encT, Od.raw, if_true, if_false, ite_true, ite_false, Bool.false_eq_true, Bool.true_eq_false, Bool.not_true, Bool.not_false, decide_true, decide_false, reduceIte, eq_self, and_true, true_and, sn_set_put, sn_set_take, sn_set_add, sn_put_set, sn_put_take, sn_put_add, sn_take_set, sn_take_put, sn_take_add, sn_add_set, sn_add_put, sn_add_take]; exact hq) fun Q E q => ⟨N, _, rfl, ok, hr, q⟩) (fun Q q => ?_)) _ _ q
    show Q (.bl (!decide (bal N = bal N))) _
    rw [decide_eq_true rfl]
    exact q
  refine st_ret (d := .bl true) (M1 := rowsM N.rows) ?_ (hq _)
  refine ev_and1 (M1 := rowsM N.rows) (ev_call (xs := [encNet (widN m N), .tup [.lst (N.pipes.map encP), .loc N.rows.length], .int (m : Int)]) (M1 := rowsM N.rows) ?_ fun Q E q => ⟨N, _, m, rfl, ok, hr, q⟩) ?_
  · intro Q E q
    simp only [↓eVar, ↓eC, ↓eBin, ↓eUn, ↓eB, ↓eTup, ↓eLst, ↓eAnd, ↓eOr, ↓eNot, ↓eIf, ↓eChain, ↓eSlice, ↓eM, ↓eStr1, ↓eIsi, ↓oNo, ↓oPart, ↓tst, ↓ftAnd, ↓ftOr, ↓ftNot, ↓ftYes, ↓args, ↓gI, ↓gI0, ↓gSubI, ↓gFdiv, ↓gMod, ↓gPow, ↓gLt, ↓gLe, ↓gGt, ↓gGe, ↓gAdd, ↓gMul, ↓gRep, ↓gIx, ↓gIsN, ↓gNotN, ↓gNeg, ↓gEqN, ↓gIn, ↓gInSeq, ↓gLen, ↓gSlice, ↓gList, ↓gTuple, ↓gMin2, ↓gMax2, ↓gStr, ↓gInt, ↓newL, ↓mAppend, ↓mInsert, ↓mPopAt, ↓mIndex, ↓gSplit, ↓gJoin, List.map_cons, List.map_nil, List.length_cons, List.length_nil, List.length_map, List.cons_append, List.nil_append, Nat.reduceAdd, Nat.reduceSub, List.getElem?_cons_zero, List.getElem?_cons_succ, List.getElem?_map, Option.map_some, List.set_cons_zero, List.set_cons_succ, isNon, seqOf, listOf, atI_nn, atI_0, atI_1, atI_2, atI_3, encNet, encSt, encRow, encR, encO, encP, nats, encT, Od.raw, if_true, if_false, ite_true, ite_false, Bool.false_eq_true, Bool.true_eq_false, Bool.not_true, Bool.not_false, decide_true, decide_false, reduceIte, eq_self, and_true, true_and, sn_set_put, sn_set_take, sn_set_add, sn_put_set, sn_put_take, sn_put_add, sn_take_set, sn_take_put, sn_take_add, sn_add_set, sn_add_put, sn_add_take, ↓eCall]
    exact ⟨N, m, rfl, ok, q⟩
  refine ev_bin (M1 := rowsM N.rows) (M2 := rowsM N.rows) (M3 := rowsM N.rows) (x := encNet N) (y := .tup [.lst (N.pipes.map encP), .loc N.rows.length]) (d := .bl true) (by intro Q E hq; simp only [↓eVar, ↓eC, ↓eBin, ↓eUn, ↓eB, ↓eTup, ↓eLst, ↓eAnd, ↓eOr, ↓eNot, ↓eIf, ↓eChain, ↓eSlice, ↓eM, ↓eStr1, ↓eIsi, ↓oNo, ↓oPart, ↓tst, ↓ftAnd, ↓ftOr, ↓ftNot, ↓ftYes, ↓args, ↓gI, ↓gI0, ↓gSubI, ↓gFdiv, ↓gMod, ↓gPow, ↓gLt, ↓gLe, ↓gGt, ↓gGe, ↓gAdd, ↓gMul, ↓gRep, ↓gIx, ↓gIsN, ↓gNotN, ↓gNeg, ↓gEqN, ↓gIn, ↓gInSeq, ↓gLen, ↓gSlice, ↓gList, ↓gTuple, ↓gMin2, ↓gMax2, ↓gStr, ↓gInt, ↓newL, ↓mAppend, ↓mInsert, ↓mPopAt, ↓mIndex, ↓gSplit, ↓gJoin, List.map_cons, List.map_nil, List.length_cons, List.length_nil, List.length_map, List.cons_append, List.nil_append, Nat.reduceAdd, Nat.reduceSub, List.getElem?_cons_zero, List.getElem?_cons_succ, List.getElem?_map, Option.map_some, List.set_cons_zero, List.set_cons_succ, isNon, seqOf, listOf, atI_nn, atI_0, atI_1, atI_2, atI_3, encNet, encSt, encRow, encR, encO, encP, nats, encT, Od.raw, if_true, if_false, ite_true, ite_false, Bool.false_eq_true, Bool.true_eq_false, Bool.not_true, Bool.not_false, decide_true, decide_false, reduceIte, eq_self, and_true, true_and, sn_set_put, sn_set_take, sn_set_add, sn_put_set, sn_put_take, sn_put_add, sn_take_set, sn_take_put, sn_take_add, sn_add_set, sn_add_put, sn_add_take]; exact hq) (by intro Q E hq; simp only [↓eVar, ↓eC, ↓eBin, ↓eUn, ↓eB, ↓eTup, ↓eLst, ↓eAnd, ↓eOr, ↓eNot, ↓eIf, ↓eChain, ↓eSlice, ↓eM, ↓eStr1, ↓eIsi, ↓oNo, ↓oPart, ↓tst, ↓ftAnd, ↓ftOr, ↓ftNot, ↓ftYes, ↓args, ↓gI, ↓gI0, ↓gSubI, ↓gFdiv, ↓gMod, ↓gPow, ↓gLt, ↓gLe, ↓gGt, ↓gGe, ↓gAdd, ↓gMul, ↓gRep, ↓gIx, ↓gIsN, ↓gNotN, ↓gNeg, ↓gEqN, ↓gIn, ↓gInSeq, ↓gLen, ↓gSlice, ↓gList, ↓gTuple, ↓gMin2, ↓gMax2, ↓gStr, ↓gInt, ↓newL, ↓mAppend, ↓mInsert, ↓mPopAt, ↓mIndex, ↓gSplit, ↓gJoin, List.map_cons, List.map_nil, List.length_cons, List.length_nil, List.length_map, List.cons_append, List.nil_append, Nat.reduceAdd, Nat.reduceSub, List.getElem?_cons_zero, List.getElem?_cons_succ, List.getElem?_map, Option.map_some, List.set_cons_zero, List.set_cons_succ, isNon, seqOf, listOf, atI_nn, atI_0, atI_1, atI_2, atI_3, encNet, encSt, encRow, encR, encO, encP, nats, encT, Od.raw, if_true, if_false, ite_true, ite_false, Bool.false_eq_true, Bool.true_eq_false, Bool.not_true, Bool.not_false, decide_true, decide_false, reduceIte, eq_self, and_true, true_and, sn_set_put, sn_set_take, sn_set_add, sn_put_set, sn_put_take, sn_put_add, sn_take_set, sn_take_put, sn_take_add, sn_add_set, sn_add_put, sn_add_take]; exact hq) (fun Q q => ?_)
  exact eq_alike (neg := false) (py_net (n := 3) rowsIn_lst) (py_net (n := 3) hr) canLay_net q
end DL
namespace DL
open PySem PySem.Spec PyProof.Rows L2

/-! ### runs in whatever order, in plain words -/
/-- as long as they have to be -/
structure Shp (N : Net) (S : Sta) : Prop where
  pl : S.places.length = N.W
  bx : S.boxes.length = N.W
  hl : S.held.length = N.P
  ps : S.past.length = N.P
theorem Good.shp {N : Net} {S : Sta} (g : Good N S) : Shp N S := ⟨g.pl, g.bx, g.hl, g.ps⟩
theorem getD_set_eq {α : Type} {xs : List α} {i : Nat} {a d : α} (h : i < xs.length) : (xs.set i a).getD i d = a := by
  rw [List.getD_eq_getElem?_getD, List.getElem?_set_self h]
  rfl
theorem getD_set_ne {α : Type} {xs : List α} {i j : Nat} {a d : α} (h : i ≠ j) : (xs.set i a).getD j d = xs.getD j d := by
  rw [List.getD_eq_getElem?_getD, List.getElem?_set_ne h, List.getD_eq_getElem?_getD]
theorem list_ext_getD {α : Type} {xs ys : List α} {n : Nat} (d : α) (h1 : xs.length = n) (h2 : ys.length = n) (h : ∀ i, i < n → xs.getD i d = ys.getD i d) : xs = ys := by
  refine List.ext_getElem? fun i => ?_
  by_cases hi : i < n
  · rw [getD_of (d := d) (by omega), getD_of (l := ys) (d := d) (by omega), h i hi]
  · rw [List.getElem?_eq_none (by omega), List.getElem?_eq_none (by omega)]
theorem Sta.ext' {N : Net} {S T : Sta} (hs : Shp N S) (ht : Shp N T) (h1 : ∀ w, w < N.W → S.pl w = T.pl w) (h2 : ∀ w, w < N.W → S.bx w = T.bx w) (h3 : ∀ p, p < N.P → S.hl p = T.hl p) (h4 : ∀ p, p < N.P → S.ps p = T.ps p) : S = T := by
  obtain ⟨a, b, c, d⟩ := S
  obtain ⟨a', b', c', d'⟩ := T
  obtain rfl : a = a' := list_ext_getD 0 hs.pl ht.pl h1
  obtain rfl : b = b' := list_ext_getD 0 hs.bx ht.bx h2
  obtain rfl : c = c' := list_ext_getD [] hs.hl ht.hl h3
  obtain rfl : d = d' := list_ext_getD [] hs.ps ht.ps h4
  rfl
def newBx (S : Sta) (w : Nat) : Od → Int
  | .set n => n
  | .put _ => S.bx w
  | .take p => (S.hl p).headD 0
  | .add p => S.bx w + (S.hl p).headD 0
def newHl (S : Sta) (w : Nat) (q : Nat) : Od → List Int
  | .set _ => S.hl q
  | .put p => if q = p then S.hl p ++ [S.bx w] else S.hl q
  | .take p => if q = p then (S.hl p).tail else S.hl q
  | .add p => if q = p then (S.hl p).tail else S.hl q
def newPs (S : Sta) (q : Nat) : Od → List Int
  | .set _ => S.ps q
  | .put _ => S.ps q
  | .take p => if q = p then S.ps p ++ [(S.hl p).headD 0] else S.ps q
  | .add p => if q = p then S.ps p ++ [(S.hl p).headD 0] else S.ps q
section
variable {N : Net} {S T : Sta} {w v p q : Nat} {o : Od}
theorem shp_step (h : Shp N S) : Shp N (stepO S w o) := by
  cases o <;> exact ⟨by simp [stepO, h.pl], by simp [stepO, h.bx], by simp [stepO, h.hl], by simp [stepO, h.ps]⟩
theorem pl_step (h : Shp N S) (hw : w < N.W) : (stepO S w o).pl v = if v = w then S.pl w + 1 else S.pl v := by
  have e : (stepO S w o).places = S.places.set w (S.pl w + 1) := by cases o <;> rfl
  unfold Sta.pl
  rw [e]
  by_cases hv : v = w
  · subst hv
    rw [if_pos rfl, getD_set_eq (by rw [h.pl]; exact hw)]
    rfl
  · rw [if_neg hv, getD_set_ne (Ne.symm hv)]
theorem bx_step (h : Shp N S) (hw : w < N.W) : (stepO S w o).bx v = if v = w then newBx S w o else S.bx v := by
  have e : (stepO S w o).boxes = S.boxes.set w (newBx S w o) := by cases o <;> rfl
  unfold Sta.bx
  rw [e]
  by_cases hv : v = w
  · subst hv
    rw [if_pos rfl, getD_set_eq (by rw [h.bx]; exact hw)]
  · rw [if_neg hv, getD_set_ne (Ne.symm hv)]
def ordP : Od → Option Nat
  | .set _ => none
  | .put p => some p
  | .take p => some p
  | .add p => some p
theorem hl_step (h : Shp N S) (ho : ∀ p, ordP o = some p → p < N.P) : (stepO S w o).hl q = newHl S w q o := by
  cases o with
  | set n => rfl
  | put p =>
    have hp := ho p rfl
    unfold newHl stepO Sta.hl
    by_cases hq : q = p
    · subst hq
      simp only [if_true]
      exact getD_set_eq (by rw [h.hl]; exact hp)
    · simp only [hq, if_false]
      exact getD_set_ne (Ne.symm hq)
  | take p =>
    have hp := ho p rfl
    unfold newHl stepO Sta.hl
    by_cases hq : q = p
    · subst hq
      simp only [if_true]
      exact getD_set_eq (by rw [h.hl]; exact hp)
    · simp only [hq, if_false]
      exact getD_set_ne (Ne.symm hq)
  | add p =>
    have hp := ho p rfl
    unfold newHl stepO Sta.hl
    by_cases hq : q = p
    · subst hq
      simp only [if_true]
      exact getD_set_eq (by rw [h.hl]; exact hp)
    · simp only [hq, if_false]
      exact getD_set_ne (Ne.symm hq)
theorem ps_step (h : Shp N S) (ho : ∀ p, ordP o = some p → p < N.P) : (stepO S w o).ps q = newPs S q o := by
  cases o with
  | set n => rfl
  | put p => rfl
  | take p =>
    have hp := ho p rfl
    unfold newPs stepO Sta.ps
    by_cases hq : q = p
    · subst hq
      simp only [if_true]
      exact getD_set_eq (by rw [h.ps]; exact hp)
    · simp only [hq, if_false]
      exact getD_set_ne (Ne.symm hq)
  | add p =>
    have hp := ho p rfl
    unfold newPs stepO Sta.ps
    by_cases hq : q = p
    · subst hq
      simp only [if_true]
      exact getD_set_eq (by rw [h.ps]; exact hp)
    · simp only [hq, if_false]
      exact getD_set_ne (Ne.symm hq)
end
/-- who may do what -/
def Wf (N : Net) : Prop := ∀ (w : Nat) (row : List Od), N.rows[w]? = some row → ∀ o ∈ row, okOrd N.pipes w o
theorem Made.wf {N : Net} (m : Made N) : Wf N := m.ords
/-- whether an order can be done -/
def goO (N : Net) (S : Sta) : Od → Prop
  | .set _ => True
  | .put p => (S.hl p).length < (N.pip p).ro
  | .take p => S.hl p ≠ []
  | .add p => S.hl p ≠ []
section
variable {N : Net} {S T : Sta} {w v p q : Nat} {o : Od}
theorem can_iff : canN N S w = true ↔ S.pl w < (N.row w).length ∧ goO N S (ordOf N S w) := by
  unfold canN waitN thru
  by_cases h : (N.row w).length ≤ S.pl w
  · rw [decide_eq_true h]
    simp
    omega
  · rw [decide_eq_false h]
    simp only [Bool.not_false, Bool.true_and, Bool.false_eq_true, if_false]
    have h2 : S.pl w < (N.row w).length := by omega
    simp only [h2, true_and]
    cases ordOf N S w with
    | set n => simp [waitO, goO]
    | put p =>
      simp only [waitO, goO]
      split <;> simp <;> omega
    | take p =>
      simp only [waitO, goO]
      split <;> simp_all
    | add p =>
      simp only [waitO, goO]
      split <;> simp_all
theorem can_lt (h : canN N S w = true) : w < N.W := by
  have := (can_iff.mp h).1
  by_cases hw : w < N.W
  · exact hw
  · have e : N.row w = [] := by
      unfold Net.row
      rw [List.getD_eq_getElem?_getD, List.getElem?_eq_none (by unfold Net.W at hw; omega)]
      rfl
    rw [e] at this
    exact absurd this (Nat.not_lt_zero _)
theorem can_ord (wf : Wf N) (h : canN N S w = true) : okOrd N.pipes w (ordOf N S w) := by
  have h1 := (can_iff.mp h).1
  have hw := can_lt h
  refine wf w (N.row w) (row_at hw) _ (List.mem_of_getElem? (i := S.pl w) ?_)
  exact getD_of h1
theorem okOrd_p (h : okOrd N.pipes w o) : ∀ p, ordP o = some p → p < N.P := by
  intro p e
  cases o with
  | set n => cases e
  | put q => cases e; exact h.1
  | take q => cases e; exact h.1
  | add q => cases e; exact h.1
theorem ord_step (h : Shp N S) (hw : w < N.W) (hv : v ≠ w) {o : Od} : ordOf N (stepO S w o) v = ordOf N S v := by
  unfold ordOf
  rw [pl_step h hw, if_neg hv]
/-- two who can do not hinder each other -/
theorem can_other (wf : Wf N) (hs : Shp N S) (hw : canN N S w = true) (hv : canN N S v = true) (ne : v ≠ w) : canN N (stepN N S w) v = true := by
  have lw := can_lt hw
  have ow := can_ord wf hw
  have ov := can_ord wf hv
  have pw := okOrd_p ow
  have gw := (can_iff.mp hw).2
  obtain ⟨h1, h2⟩ := can_iff.mp hv
  refine can_iff.mpr ⟨?_, ?_⟩
  · unfold stepN
    rw [pl_step hs lw, if_neg ne]
    exact h1
  · unfold stepN
    rw [ord_step hs lw ne]
    generalize ordOf N S w = a at *
    generalize ordOf N S v = b at *
    have key := fun q => hl_step (q := q) (w := w) hs pw
    cases b with
    | set n => trivial
    | put p =>
      show ((stepO S w a).hl p).length < _
      have h2 : (S.hl p).length < (N.pip p).ro := h2
      rw [key]
      cases a with
      | set n => exact h2
      | put q =>
        by_cases e : p = q
        · subst e
          exact absurd (ov.2.symm.trans ow.2) ne
        · simp only [newHl, e, if_false]; exact h2
      | take q =>
        by_cases e : p = q
        · subst e
          simp only [newHl, if_true, List.length_tail]
          omega
        · simp only [newHl, e, if_false]; exact h2
      | add q =>
        by_cases e : p = q
        · subst e
          simp only [newHl, if_true, List.length_tail]
          omega
        · simp only [newHl, e, if_false]; exact h2
    | take p =>
      show (stepO S w a).hl p ≠ []
      have h2 : S.hl p ≠ [] := h2
      rw [key]
      cases a with
      | set n => exact h2
      | put q =>
        by_cases e : p = q
        · subst e
          simp [newHl]
        · simp only [newHl, e, if_false]; exact h2
      | take q =>
        by_cases e : p = q
        · subst e
          exact absurd (ov.2.symm.trans ow.2) ne
        · simp only [newHl, e, if_false]; exact h2
      | add q =>
        by_cases e : p = q
        · subst e
          exact absurd (ov.2.symm.trans ow.2) ne
        · simp only [newHl, e, if_false]; exact h2
    | add p =>
      show (stepO S w a).hl p ≠ []
      have h2 : S.hl p ≠ [] := h2
      rw [key]
      cases a with
      | set n => exact h2
      | put q =>
        by_cases e : p = q
        · subst e
          simp [newHl]
        · simp only [newHl, e, if_false]; exact h2
      | take q =>
        by_cases e : p = q
        · subst e
          exact absurd (ov.2.symm.trans ow.2) ne
        · simp only [newHl, e, if_false]; exact h2
      | add q =>
        by_cases e : p = q
        · subst e
          exact absurd (ov.2.symm.trans ow.2) ne
        · simp only [newHl, e, if_false]; exact h2
/-- one order does not touch what another puts and takes -/
def NV (S : Sta) (w : Nat) (a : Od) (v : Nat) (b : Od) : Prop := newBx (stepO S w a) v b = newBx S v b ∧ (∀ q, newHl (stepO S w a) v q b = newHl (stepO S v b) w q a) ∧ newBx (stepO S v b) w a = newBx S w a ∧ (∀ q, newPs (stepO S w a) q b = newPs (stepO S v b) q a)
theorem NV.symm {a b : Od} (h : NV S w a v b) : NV S v b w a := ⟨h.2.2.1, fun q => (h.2.1 q).symm, h.1, fun q => (h.2.2.2 q).symm⟩
theorem nv_put {b : Od} (ne : v ≠ w) (kw : ∀ q, (stepO S w (.put p)).hl q = newHl S w q (.put p)) (kv : ∀ q, (stepO S v b).hl q = newHl S v q b) (jw : ∀ q, (stepO S w (.put p)).ps q = newPs S q (.put p)) (jv : ∀ q, (stepO S v b).ps q = newPs S q b)
    (bw : ∀ u, (stepO S w (.put p)).bx u = if u = w then newBx S w (.put p) else S.bx u) (bv : ∀ u, (stepO S v b).bx u = if u = v then newBx S v b else S.bx u) (hpq : ∀ q, b = .put q → p ≠ q) (gv : goO N S b) : NV S w (.put p) v b := by
  have ne' : w ≠ v := Ne.symm ne
  unfold NV
  cases b with
  | set n => simp [newBx, newHl, newPs, kw, kv, jw, jv, bw, bv, ne, ne']
  | put q =>
    have e : p ≠ q := hpq q rfl
    have e' := Ne.symm e
    refine ⟨by simp [newBx, bw, ne], fun r => ?_, by simp [newBx, bv, ne'], fun r => by simp [newPs, jw, jv]⟩
    simp only [newHl, kw, kv, bw, bv, ne, ne', if_false]
    by_cases h1 : r = p
    · subst h1; simp [e, newHl]
    · simp [h1, e', newHl]
  | take q =>
    have gv : S.hl q ≠ [] := gv
    obtain ⟨c, cs, hc⟩ : ∃ c cs, S.hl q = c :: cs := by
      cases h : S.hl q with
      | nil => exact absurd h gv
      | cons c cs => exact ⟨c, cs, rfl⟩
    refine ⟨?_, fun r => ?_, by simp [newBx, bv, ne'], fun r => ?_⟩
    · simp only [newBx, kw, newHl]
      by_cases h : q = p
      · subst h; simp [hc]
      · simp [h]
    · simp only [newHl, kw, kv, bw, bv, ne', if_false]
      by_cases h1 : r = p <;> by_cases h2 : r = q
      · subst h1; subst h2; simp [newHl, hc]
      · subst h1; simp [newHl, h2]
      · subst h2; simp [newHl, h1]
      · simp [h1, h2, newHl]
    · simp only [newPs, jw, jv, kw, newHl]
      by_cases h2 : r = q
      · subst h2
        by_cases h1 : r = p
        · subst h1; simp [hc]
        · simp [h1]
      · simp [h2]
  | add q =>
    have gv : S.hl q ≠ [] := gv
    obtain ⟨c, cs, hc⟩ : ∃ c cs, S.hl q = c :: cs := by
      cases h : S.hl q with
      | nil => exact absurd h gv
      | cons c cs => exact ⟨c, cs, rfl⟩
    refine ⟨?_, fun r => ?_, by simp [newBx, bv, ne'], fun r => ?_⟩
    · simp only [newBx, kw, newHl, bw, ne, if_false]
      by_cases h : q = p
      · subst h; simp [hc]
      · simp [h]
    · simp only [newHl, kw, kv, bw, bv, ne', if_false]
      by_cases h1 : r = p <;> by_cases h2 : r = q
      · subst h1; subst h2; simp [newHl, hc]
      · subst h1; simp [newHl, h2]
      · subst h2; simp [newHl, h1]
      · simp [h1, h2, newHl]
    · simp only [newPs, jw, jv, kw, newHl]
      by_cases h2 : r = q
      · subst h2
        by_cases h1 : r = p
        · subst h1; simp [hc]
        · simp [h1]
      · simp [h2]
/-- in either order it is one state -/
theorem diamond (wf : Wf N) (hs : Shp N S) (hw : canN N S w = true) (hv : canN N S v = true) (ne : v ≠ w) : stepN N (stepN N S w) v = stepN N (stepN N S v) w := by
  have lw := can_lt hw
  have lv := can_lt hv
  have ow := can_ord wf hw
  have ov := can_ord wf hv
  have pw := okOrd_p ow
  have pv := okOrd_p ov
  have gw := (can_iff.mp hw).2
  have gv := (can_iff.mp hv).2
  unfold stepN
  rw [ord_step hs lw ne, ord_step hs lv (Ne.symm ne)]
  generalize ordOf N S w = a at *
  generalize ordOf N S v = b at *
  have sw := shp_step (w := w) (o := a) hs
  have sv := shp_step (w := v) (o := b) hs
  have kw := fun q => hl_step (q := q) (w := w) hs pw
  have kv := fun q => hl_step (q := q) (w := v) hs pv
  have jw := fun q => ps_step (q := q) (w := w) hs pw
  have jv := fun q => ps_step (q := q) (w := v) hs pv
  have bw := fun u => bx_step (v := u) (o := a) hs lw
  have bv := fun u => bx_step (v := u) (o := b) hs lv
  have ne' : w ≠ v := Ne.symm ne
  -- what is put or taken is not touched by the other
  have nv : NV S w a v b := by
    cases a with
    | set n => cases b <;> simp [NV, newBx, newHl, newPs, kw, kv, jw, jv, bw, bv, ne, ne']
    | put p => exact nv_put ne kw kv jw jv bw bv (fun q e1 e2 => by subst e1; subst e2; exact ne (ov.2.symm.trans ow.2)) gv
    | take p =>
      cases b with
      | set n => simp [NV, newBx, newHl, newPs, kw, kv, jw, jv, bw, bv, ne, ne']
      | put q => exact (nv_put ne' kv kw jv jw bv bw (fun _ e => by cases e) gw).symm
      | take q =>
        have e : p ≠ q := fun e => by subst e; exact ne (ov.2.symm.trans ow.2)
        have e' := Ne.symm e
        refine ⟨by simp [newBx, kw, newHl, e'], fun r => ?_, by simp [newBx, kv, newHl, e], fun r => ?_⟩
        · simp only [newHl, kw, kv]
          by_cases h1 : r = p
          · subst h1; simp [e, newHl]
          · simp [h1, e', newHl]
        · simp only [newPs, jw, jv, kw, kv, newHl]
          by_cases h1 : r = p
          · subst h1; simp [e]
          · simp [h1, e']
      | add q =>
        have e : p ≠ q := fun e => by subst e; exact ne (ov.2.symm.trans ow.2)
        have e' := Ne.symm e
        refine ⟨by simp [newBx, kw, newHl, e', bw, ne], fun r => ?_, by simp [newBx, kv, newHl, e], fun r => ?_⟩
        · simp only [newHl, kw, kv]
          by_cases h1 : r = p
          · subst h1; simp [e, newHl]
          · simp [h1, e', newHl]
        · simp only [newPs, jw, jv, kw, kv, newHl]
          by_cases h1 : r = p
          · subst h1; simp [e]
          · simp [h1, e']
    | add p =>
      cases b with
      | set n => simp [NV, newBx, newHl, newPs, kw, kv, jw, jv, bw, bv, ne, ne']
      | put q => exact (nv_put ne' kv kw jv jw bv bw (fun _ e => by cases e) gw).symm
      | take q =>
        have e : p ≠ q := fun e => by subst e; exact ne (ov.2.symm.trans ow.2)
        have e' := Ne.symm e
        refine ⟨by simp [newBx, kw, newHl, e'], fun r => ?_, by simp [newBx, kv, newHl, e, bv, ne'], fun r => ?_⟩
        · simp only [newHl, kw, kv]
          by_cases h1 : r = p
          · subst h1; simp [e, newHl]
          · simp [h1, e', newHl]
        · simp only [newPs, jw, jv, kw, kv, newHl]
          by_cases h1 : r = p
          · subst h1; simp [e]
          · simp [h1, e']
      | add q =>
        have e : p ≠ q := fun e => by subst e; exact ne (ov.2.symm.trans ow.2)
        have e' := Ne.symm e
        refine ⟨by simp [newBx, kw, newHl, e', bw, ne], fun r => ?_, by simp [newBx, kv, newHl, e, bv, ne'], fun r => ?_⟩
        · simp only [newHl, kw, kv]
          by_cases h1 : r = p
          · subst h1; simp [e, newHl]
          · simp [h1, e', newHl]
        · simp only [newPs, jw, jv, kw, kv, newHl]
          by_cases h1 : r = p
          · subst h1; simp [e]
          · simp [h1, e']
  refine Sta.ext' (N := N) (shp_step sw) (shp_step sv) (fun u hu => ?_) (fun u hu => ?_) (fun q hq => ?_) (fun q hq => ?_)
  · rw [pl_step sw lv, pl_step sv lw, pl_step hs lw, pl_step hs lv, pl_step hs lw, pl_step hs lv, if_neg ne, if_neg ne']
    by_cases h1 : u = v
    · subst h1; simp [ne]
    · by_cases h2 : u = w <;> simp [h1, h2, ne']
  · rw [bx_step sw lv, bx_step sv lw, bw, bv, nv.1, nv.2.2.1]
    by_cases h1 : u = v
    · subst h1; simp [ne]
    · by_cases h2 : u = w <;> simp [h1, h2, ne']
  · rw [hl_step sw pv, hl_step sv pw]
    exact nv.2.1 q
  · rw [ps_step sw pv, ps_step sv pw]
    exact nv.2.2.2 q
end
end DL
namespace DL
open PySem PySem.Spec PyProof.Rows L2

/-! ### ways of steps -/
inductive Go (N : Net) : Sta → Sta → Prop
  | refl (S : Sta) : Go N S S
  | step {S T : Sta} (w : Nat) (h : canN N S w = true) (r : Go N (stepN N S w) T) : Go N S T
/-- nobody can step -/
def Still (N : Net) (S : Sta) : Prop := ∀ w, canN N S w = false
section
variable {N : Net} {S T U : Sta} {w : Nat}
theorem shp_stepN (h : Shp N S) : Shp N (stepN N S w) := shp_step h
theorem Go.trans (h : Go N S T) (g : Go N T U) : Go N S U := by
  induction h with
  | refl => exact g
  | step w h _ ih => exact .step w h (ih g)
theorem Go.one (h : canN N S w = true) : Go N S (stepN N S w) := .step w h (.refl _)
theorem Go.shp (h : Go N S T) (hs : Shp N S) : Shp N T := by
  induction h with
  | refl => exact hs
  | step w h _ ih => exact ih (shp_stepN hs)
theorem go_one_still (wf : Wf N) (h : Go N S T) (hs : Shp N S) (st : Still N T) (hw : canN N S w = true) : Go N (stepN N S w) T := by
  induction h with
  | refl => rw [st w] at hw; cases hw
  | step v hv r ih =>
    rename_i S T
    by_cases e : v = w
    · subst e; exact r
    · have h1 := can_other wf hs hv hw (Ne.symm e)
      have h2 := can_other wf hs hw hv e
      have h3 := ih (shp_stepN hs) st h1
      rw [diamond wf hs hv hw (Ne.symm e)] at h3
      exact .step v h2 h3
theorem go_still (wf : Wf N) (h : Go N S T) (hs : Shp N S) (st : Still N T) (g : Go N S U) : Go N U T := by
  induction g with
  | refl => exact h
  | step w hw _ ih => exact ih (go_one_still wf h hs st hw) (shp_stepN hs)
theorem still_go (st : Still N S) (g : Go N S T) : T = S := by
  cases g with
  | refl => rfl
  | step w h _ => rw [st w] at h; cases h
/-- where nobody can step is one state -/
theorem still_one (wf : Wf N) (hs : Shp N S) (h : Go N S T) (st : Still N T) (g : Go N S U) (su : Still N U) : U = T := (still_go su (go_still wf h hs st g)).symm
/-! what stays on the way -/
theorem pl_mono (hs : Shp N S) (h : canN N S w = true) (v : Nat) : S.pl v ≤ (stepN N S w).pl v := by
  unfold stepN
  rw [pl_step hs (can_lt h)]
  split
  · rename_i e; subst e; omega
  · exact Nat.le_refl _
theorem ps_mono (wf : Wf N) (hs : Shp N S) (h : canN N S w = true) (p : Nat) : S.ps p <+: (stepN N S w).ps p := by
  unfold stepN
  rw [ps_step hs (okOrd_p (can_ord wf h))]
  cases ordOf N S w <;> simp only [newPs]
  · exact List.prefix_refl _
  · exact List.prefix_refl _
  · split
    · rename_i e; subst e; exact List.prefix_append _ _
    · exact List.prefix_refl _
  · split
    · rename_i e; subst e; exact List.prefix_append _ _
    · exact List.prefix_refl _
theorem Go.pl (h : Go N S T) (hs : Shp N S) (v : Nat) : S.pl v ≤ T.pl v := by
  induction h with
  | refl => exact Nat.le_refl _
  | step w h _ ih => exact Nat.le_trans (pl_mono hs h v) (ih (shp_stepN hs))
theorem Go.ps (wf : Wf N) (h : Go N S T) (hs : Shp N S) (p : Nat) : S.ps p <+: T.ps p := by
  induction h with
  | refl => exact List.prefix_refl _
  | step w h _ ih => exact List.IsPrefix.trans (ps_mono wf hs h p) (ih (shp_stepN hs))
end
/-! how much is left to do -/
def left (N : Net) (S : Sta) : Nat := ((List.range N.W).map fun w => (N.row w).length - S.pl w).sum
theorem sum_le {f g : Nat → Nat} : ∀ n, (∀ w, w < n → f w ≤ g w) → ((List.range n).map f).sum ≤ ((List.range n).map g).sum
  | 0, _ => Nat.le_refl _
  | n + 1, h => by
    rw [List.range_succ, List.map_append, List.map_append, List.sum_append, List.sum_append]
    have := sum_le n fun w hw => h w (by omega)
    have := h n (by omega)
    simp
    omega
theorem sum_step {f g : Nat → Nat} {v : Nat} : ∀ n, v < n → (∀ w, w ≠ v → f w = g w) → f v = g v + 1 → ((List.range n).map f).sum = ((List.range n).map g).sum + 1
  | 0, h, _, _ => absurd h (Nat.not_lt_zero _)
  | n + 1, h, e, e2 => by
    rw [List.range_succ, List.map_append, List.map_append, List.sum_append, List.sum_append]
    by_cases hv : v = n
    · subst hv
      have : (List.range v).map f = (List.range v).map g := by
        apply List.map_congr_left
        intro w hw
        exact e w (by have := List.mem_range.mp hw; omega)
      rw [this]
      simp
      omega
    · have := sum_step n (by omega) e e2
      have := e n (Ne.symm hv)
      simp
      omega
section
variable {N : Net} {S T : Sta} {w : Nat}
theorem left_step (hs : Shp N S) (h : canN N S w = true) : left N S = left N (stepN N S w) + 1 := by
  have lw := can_lt h
  have h1 := (can_iff.mp h).1
  unfold left
  refine sum_step (v := w) N.W lw (fun v hv => ?_) ?_
  · unfold stepN
    rw [pl_step hs lw, if_neg hv]
  · unfold stepN
    rw [pl_step hs lw, if_pos rfl]
    omega
/-- a state that stays within the bounds on every way -/
structure GoodL (N : Net) (S : Sta) : Prop where
  g : Good N S
  l : ∀ xs ∈ S.past, xs.length + left N S ≤ 1000000
theorem mem_getD {α : Type} {xs : List α} {x d : α} (h : x ∈ xs) : ∃ i, i < xs.length ∧ xs.getD i d = x := by
  obtain ⟨i, hi, e⟩ := List.mem_iff_getElem.mp h
  exact ⟨i, hi, by rw [List.getD_eq_getElem?_getD, List.getElem?_eq_getElem hi, e]; rfl⟩
theorem GoodL.step (wf : Wf N) (g : GoodL N S) (h : canN N S w = true) : GoodL N (stepN N S w) := by
  have hs := g.g.shp
  have s2 := shp_stepN (w := w) hs
  have pw := okOrd_p (can_ord wf h)
  have gw := (can_iff.mp h).2
  have hl := left_step hs h
  have pst : ∀ xs ∈ (stepN N S w).past, xs.length + left N (stepN N S w) ≤ 1000000 := by
    intro xs hx
    obtain ⟨q, hq, rfl⟩ := mem_getD (d := []) hx
    rw [s2.ps] at hq
    have e : (stepN N S w).past.getD q [] = (stepN N S w).ps q := rfl
    rw [e]
    unfold stepN at hl ⊢
    rw [ps_step hs pw]
    have hb := fun p (hp : p < N.P) => g.l _ (ps_mem g.g hp)
    have h0 := hb q hq
    cases ho : ordOf N S w with
    | set n => rw [ho] at hl; simp only [newPs]; omega
    | put p => rw [ho] at hl; simp only [newPs]; omega
    | take p =>
      rw [ho] at hl
      simp only [newPs]
      split
      · rename_i e; subst e; rw [List.length_append]; simp; omega
      · omega
    | add p =>
      rw [ho] at hl
      simp only [newPs]
      split
      · rename_i e; subst e; rw [List.length_append]; simp; omega
      · omega
  refine ⟨⟨g.g.ok, s2.pl, s2.bx, s2.hl, s2.ps, fun xs hx => ?_, fun xs hx => by have := pst xs hx; omega⟩, pst⟩
  obtain ⟨q, hq, rfl⟩ := mem_getD (d := []) hx
  rw [s2.hl] at hq
  have e : (stepN N S w).held.getD q [] = (stepN N S w).hl q := rfl
  rw [e]
  unfold stepN
  rw [hl_step hs pw]
  have h0 := g.g.hs _ (hl_mem g.g hq)
  cases ho : ordOf N S w with
  | set n => exact h0
  | put p =>
    rw [ho] at gw
    have hp := pw p (by rw [ho]; rfl)
    have := (g.g.ok.pipes _ (pip_mem hp)).2.2.2
    simp only [newHl]
    split
    · rename_i e; subst e; rw [List.length_append]; simp; have : (S.hl q).length < (N.pip q).ro := gw; omega
    · exact h0
  | take p =>
    simp only [newHl]
    split
    · rename_i e; subst e; rw [List.length_tail]; omega
    · exact h0
  | add p =>
    simp only [newHl]
    split
    · rename_i e; subst e; rw [List.length_tail]; omega
    · exact h0
theorem Go.good (wf : Wf N) (h : Go N S T) (g : GoodL N S) : GoodL N T := by
  induction h with
  | refl => exact g
  | step w h _ ih => exact ih (g.step wf h)
end
/-! the least who can -/
def whoN (N : Net) (S : Sta) : Option Nat := (List.range N.W).find? fun w => canN N S w
theorem who_some {N : Net} {S : Sta} {w : Nat} (h : whoN N S = some w) : canN N S w = true := by
  unfold whoN at h
  exact List.find?_some (p := fun w => canN N S w) h
theorem who_none {N : Net} {S : Sta} (h : whoN N S = none) : Still N S := by
  intro w
  unfold whoN at h
  rw [List.find?_eq_none] at h
  by_cases hw : canN N S w = true
  · exact absurd hw (h w (List.mem_range.mpr (can_lt hw)))
  · simpa using hw
theorem who_still {N : Net} {S : Sta} (h : Still N S) : whoN N S = none := by
  unfold whoN
  rw [List.find?_eq_none]
  intro w _
  rw [h w]
  exact Bool.false_ne_true
/-- there is an end -/
theorem go_end {N : Net} (n : Nat) : ∀ S, Shp N S → left N S = n → ∃ T, Go N S T ∧ Still N T := by
  induction n with
  | zero =>
    intro S hs hl
    refine ⟨S, .refl _, fun w => ?_⟩
    by_cases hw : canN N S w = true
    · have := left_step hs hw; omega
    · simpa using hw
  | succ n ih =>
    intro S hs hl
    cases e : whoN N S with
    | none => exact ⟨S, .refl _, who_none e⟩
    | some w =>
      have hw := who_some e
      obtain ⟨T, h1, h2⟩ := ih (stepN N S w) (shp_stepN hs) (by have := left_step hs hw; omega)
      exact ⟨T, .step w hw h1, h2⟩
/-! more room -/
section
variable {N : Net} {S T : Sta} {m : Nat}
theorem wid_row {w : Nat} : (widN m N).row w = N.row w := rfl
theorem wid_W : (widN m N).W = N.W := rfl
theorem wid_P : (widN m N).P = N.P := by unfold Net.P widN; rw [List.length_map]
theorem wid_pip {p : Nat} (h : p < N.P) : (widN m N).pip p = widP m (N.pip p) := by
  unfold Net.pip widN
  rw [List.getD_eq_getElem?_getD, List.getElem?_map, pip_at h]
  rfl
theorem wid_shp (h : Shp N S) : Shp (widN m N) S := ⟨h.pl, h.bx, by rw [wid_P]; exact h.hl, by rw [wid_P]; exact h.ps⟩
theorem wid_wf (md : Made N) : Wf (widN m N) := by
  intro w row h o ho
  have := md.ords w row h o ho
  have e : ∀ p, p < N.pipes.length → ((widN m N).pipes.getD p ⟨0, 0, 0⟩) = widP m (N.pipes.getD p ⟨0, 0, 0⟩) := fun p hp => wid_pip hp
  have l : (widN m N).pipes.length = N.pipes.length := by unfold widN; rw [List.length_map]
  cases o with
  | set n => exact this
  | put p => exact ⟨by rw [l]; exact this.1, by rw [e p this.1]; exact this.2⟩
  | take p => exact ⟨by rw [l]; exact this.1, by rw [e p this.1]; exact this.2⟩
  | add p => exact ⟨by rw [l]; exact this.1, by rw [e p this.1]; exact this.2⟩
theorem wid_made (md : Made N) : Made (widN m N) := by
  refine ⟨md.pos, md.few, by rw [wid_P]; exact md.fewP, md.short, fun p hp => ?_, wid_wf md⟩
  obtain ⟨q, hq, rfl⟩ := List.mem_map.mp hp
  obtain ⟨h1, h2, h3, h4⟩ := md.pipes q hq
  refine ⟨h1, h2, ?_, ?_⟩
  · show 1 ≤ min 1000 (q.ro + m)
    omega
  · show min 1000 (q.ro + m) ≤ 1000
    omega
theorem wid_can (md : Made N) {w : Nat} (h : canN N S w = true) : canN (widN m N) S w = true := by
  obtain ⟨h1, h2⟩ := can_iff.mp h
  have hp := okOrd_p (can_ord md.wf h)
  refine can_iff.mpr ⟨h1, ?_⟩
  show goO (widN m N) S (ordOf N S w)
  cases ho : ordOf N S w with
  | set n => trivial
  | put p =>
    rw [ho] at h2
    have hp := hp p (by rw [ho]; rfl)
    have h2 : (S.hl p).length < (N.pip p).ro := h2
    show (S.hl p).length < ((widN m N).pip p).ro
    rw [wid_pip hp]
    have := (md.pipes _ (pip_mem hp)).2.2.2
    show _ < min 1000 ((N.pip p).ro + m)
    omega
  | take p => rw [ho] at h2; exact h2
  | add p => rw [ho] at h2; exact h2
theorem wid_go (md : Made N) (h : Go N S T) : Go (widN m N) S T := by
  induction h with
  | refl => exact .refl _
  | step w h _ ih => exact .step w (wid_can md h) ih
/-- all are through -/
def AllT (N : Net) (S : Sta) : Prop := ∀ w, w < N.W → (N.row w).length ≤ S.pl w
theorem allT_still (h : AllT N S) : Still N S := by
  intro w
  by_cases hw : canN N S w = true
  · have h1 := (can_iff.mp hw).1
    have h2 := h w (can_lt hw)
    omega
  · simpa using hw
end
end DL
namespace DL
open PySem PySem.Spec PyProof.Rows L2

/-! ### sequences of any kind -/
def SeqT (M : Sto) (d : D) (xs : List D) : Prop := d = .tup xs ∨ SeqIn M d xs
section
variable {f g : FE} {ds : DS} {M M1 M2 : Sto} {d y : D} {xs : List D} {i : Nat} {z : Int}
theorem seqT_tup : SeqT M (.tup xs) xs := .inl rfl
theorem seqT_lst : SeqT M (.lst xs) xs := .inr (.inl rfl)
theorem SeqT.app {more : Sto} (h : SeqT M d xs) : SeqT (M ++ more) d xs := h.elim .inl fun h => .inr h.app
theorem ev_len (he : Ev f ds M d M1) (h : SeqT M1 d xs) : Ev (eB gLen [f]) ds M (.int (xs.length : Nat)) M1 := by
  intro Q E q
  unfold eB args
  refine he _ _ ?_
  rcases h with h | h | ⟨n, h, e⟩ <;> subst h
  · simp only [↓eVar, ↓eC, ↓eBin, ↓eUn, ↓eB, ↓eTup, ↓eLst, ↓eAnd, ↓eOr, ↓eNot, ↓eIf, ↓eChain, ↓eSlice, ↓eM, ↓eStr1, ↓eIsi, ↓oNo, ↓oPart, ↓tst, ↓ftAnd, ↓ftOr, ↓ftNot, ↓ftYes, ↓args, ↓gI, ↓gI0, ↓gSubI, ↓gFdiv, ↓gMod, ↓gPow, ↓gLt, ↓gLe, ↓gGt, ↓gGe, ↓gAdd, ↓gMul, ↓gRep, ↓gIx, ↓gIsN, ↓gNotN, ↓gNeg, ↓gEqN, ↓gIn, ↓gInSeq, ↓gLen, ↓gSlice, ↓gList, ↓gTuple, ↓gMin2, ↓gMax2, ↓gStr, ↓gInt, ↓newL, ↓mAppend, ↓mInsert, ↓mPopAt, ↓mIndex, ↓gSplit, ↓gJoin, List.map_cons, List.map_nil, List.length_cons, List.length_nil, List.length_map, List.cons_append, List.nil_append, Nat.reduceAdd, Nat.reduceSub, List.getElem?_cons_zero, List.getElem?_cons_succ, List.getElem?_map, Option.map_some, List.set_cons_zero, List.set_cons_succ, isNon, seqOf, listOf, atI_nn, atI_0, atI_1, atI_2, atI_3, encNet, encSt, encRow, encR, encO, encP, nats, encT, Od.raw, if_true, if_false, ite_true, ite_false, Bool.false_eq_true, Bool.true_eq_false, Bool.not_true, Bool.not_false, decide_true, decide_false, reduceIte, eq_self, and_true, true_and, sn_set_put, sn_set_take, sn_set_add, sn_put_set, sn_put_take, sn_put_add, sn_take_set, sn_take_put, sn_take_add, sn_add_set, sn_add_put, sn_add_take]
    exact q
  · simp only [↓eVar, ↓eC, ↓eBin, ↓eUn, ↓eB, ↓eTup, ↓eLst, ↓eAnd, ↓eOr, ↓eNot, ↓eIf, ↓eChain, ↓eSlice, ↓eM, ↓eStr1, ↓eIsi, ↓oNo, ↓oPart, ↓tst, ↓ftAnd, ↓ftOr, ↓ftNot, ↓ftYes, ↓args, ↓gI, ↓gI0, ↓gSubI, ↓gFdiv, ↓gMod, ↓gPow, ↓gLt, ↓gLe, ↓gGt, ↓gGe, ↓gAdd, ↓gMul, ↓gRep, ↓gIx, ↓gIsN, ↓gNotN, ↓gNeg, ↓gEqN, ↓gIn, ↓gInSeq, ↓gLen, ↓gSlice, ↓gList, ↓gTuple, ↓gMin2, ↓gMax2, ↓gStr, ↓gInt, ↓newL, ↓mAppend, ↓mInsert, ↓mPopAt, ↓mIndex, ↓gSplit, ↓gJoin, List.map_cons, List.map_nil, List.length_cons, List.length_nil, List.length_map, List.cons_append, List.nil_append, Nat.reduceAdd, Nat.reduceSub, List.getElem?_cons_zero, List.getElem?_cons_succ, List.getElem?_map, Option.map_some, List.set_cons_zero, List.set_cons_succ, isNon, seqOf, listOf, atI_nn, atI_0, atI_1, atI_2, atI_3, encNet, encSt, encRow, encR, encO, encP, nats, encT, Od.raw, if_true, if_false, ite_true, ite_false, Bool.false_eq_true, Bool.true_eq_false, Bool.not_true, Bool.not_false, decide_true, decide_false, reduceIte, eq_self, and_true, true_and, sn_set_put, sn_set_take, sn_set_add, sn_put_set, sn_put_take, sn_put_add, sn_take_set, sn_take_put, sn_take_add, sn_add_set, sn_add_put, sn_add_take]
    exact q
  · simp only [↓eVar, ↓eC, ↓eBin, ↓eUn, ↓eB, ↓eTup, ↓eLst, ↓eAnd, ↓eOr, ↓eNot, ↓eIf, ↓eChain, ↓eSlice, ↓eM, ↓eStr1, ↓eIsi, ↓oNo, ↓oPart, ↓tst, ↓ftAnd, ↓ftOr, ↓ftNot, ↓ftYes, ↓args, ↓gI, ↓gI0, ↓gSubI, ↓gFdiv, ↓gMod, ↓gPow, ↓gLt, ↓gLe, ↓gGt, ↓gGe, ↓gAdd, ↓gMul, ↓gRep, ↓gIx, ↓gIsN, ↓gNotN, ↓gNeg, ↓gEqN, ↓gIn, ↓gInSeq, ↓gLen, ↓gSlice, ↓gList, ↓gTuple, ↓gMin2, ↓gMax2, ↓gStr, ↓gInt, ↓newL, ↓mAppend, ↓mInsert, ↓mPopAt, ↓mIndex, ↓gSplit, ↓gJoin, List.map_cons, List.map_nil, List.length_cons, List.length_nil, List.length_map, List.cons_append, List.nil_append, Nat.reduceAdd, Nat.reduceSub, List.getElem?_cons_zero, List.getElem?_cons_succ, List.getElem?_map, Option.map_some, List.set_cons_zero, List.set_cons_succ, isNon, seqOf, listOf, atI_nn, atI_0, atI_1, atI_2, atI_3, encNet, encSt, encRow, encR, encO, encP, nats, encT, Od.raw, if_true, if_false, ite_true, ite_false, Bool.false_eq_true, Bool.true_eq_false, Bool.not_true, Bool.not_false, decide_true, decide_false, reduceIte, eq_self, and_true, true_and, sn_set_put, sn_set_take, sn_set_add, sn_put_set, sn_put_take, sn_put_add, sn_take_set, sn_take_put, sn_take_add, sn_add_set, sn_add_put, sn_add_take, e]
    exact q
theorem ev_ix (he : Ev f ds M d M1) (hg : Ev g ds M1 (.int (i : Nat)) M2) (h : SeqT M2 d xs) (hy : xs[i]? = some y) : Ev (eBin gIx f g) ds M y M2 := by
  intro Q E q
  unfold eBin
  refine he _ _ (hg _ _ ?_)
  rcases h with h | h | ⟨n, h, e⟩ <;> subst h
  · simp only [↓eVar, ↓eC, ↓eBin, ↓eUn, ↓eB, ↓eTup, ↓eLst, ↓eAnd, ↓eOr, ↓eNot, ↓eIf, ↓eChain, ↓eSlice, ↓eM, ↓eStr1, ↓eIsi, ↓oNo, ↓oPart, ↓tst, ↓ftAnd, ↓ftOr, ↓ftNot, ↓ftYes, ↓args, ↓gI, ↓gI0, ↓gSubI, ↓gFdiv, ↓gMod, ↓gPow, ↓gLt, ↓gLe, ↓gGt, ↓gGe, ↓gAdd, ↓gMul, ↓gRep, ↓gIx, ↓gIsN, ↓gNotN, ↓gNeg, ↓gEqN, ↓gIn, ↓gInSeq, ↓gLen, ↓gSlice, ↓gList, ↓gTuple, ↓gMin2, ↓gMax2, ↓gStr, ↓gInt, ↓newL, ↓mAppend, ↓mInsert, ↓mPopAt, ↓mIndex, ↓gSplit, ↓gJoin, List.map_cons, List.map_nil, List.length_cons, List.length_nil, List.length_map, List.cons_append, List.nil_append, Nat.reduceAdd, Nat.reduceSub, List.getElem?_cons_zero, List.getElem?_cons_succ, List.getElem?_map, Option.map_some, List.set_cons_zero, List.set_cons_succ, isNon, seqOf, listOf, atI_nn, atI_0, atI_1, atI_2, atI_3, encNet, encSt, encRow, encR, encO, encP, nats, encT, Od.raw, if_true, if_false, ite_true, ite_false, Bool.false_eq_true, Bool.true_eq_false, Bool.not_true, Bool.not_false, decide_true, decide_false, reduceIte, eq_self, and_true, true_and, sn_set_put, sn_set_take, sn_set_add, sn_put_set, sn_put_take, sn_put_add, sn_take_set, sn_take_put, sn_take_add, sn_add_set, sn_add_put, sn_add_take, hy]
    exact q
  · simp only [↓eVar, ↓eC, ↓eBin, ↓eUn, ↓eB, ↓eTup, ↓eLst, ↓eAnd, ↓eOr, ↓eNot, ↓eIf, ↓eChain, ↓eSlice, ↓eM, ↓eStr1, ↓eIsi, ↓oNo, ↓oPart, ↓tst, ↓ftAnd, ↓ftOr, ↓ftNot, ↓ftYes, ↓args, ↓gI, ↓gI0, ↓gSubI, ↓gFdiv, ↓gMod, ↓gPow, ↓gLt, ↓gLe, ↓gGt, ↓gGe, ↓gAdd, ↓gMul, ↓gRep, ↓gIx, ↓gIsN, ↓gNotN, ↓gNeg, ↓gEqN, ↓gIn, ↓gInSeq, ↓gLen, ↓gSlice, ↓gList, ↓gTuple, ↓gMin2, ↓gMax2, ↓gStr, ↓gInt, ↓newL, ↓mAppend, ↓mInsert, ↓mPopAt, ↓mIndex, ↓gSplit, ↓gJoin, List.map_cons, List.map_nil, List.length_cons, List.length_nil, List.length_map, List.cons_append, List.nil_append, Nat.reduceAdd, Nat.reduceSub, List.getElem?_cons_zero, List.getElem?_cons_succ, List.getElem?_map, Option.map_some, List.set_cons_zero, List.set_cons_succ, isNon, seqOf, listOf, atI_nn, atI_0, atI_1, atI_2, atI_3, encNet, encSt, encRow, encR, encO, encP, nats, encT, Od.raw, if_true, if_false, ite_true, ite_false, Bool.false_eq_true, Bool.true_eq_false, Bool.not_true, Bool.not_false, decide_true, decide_false, reduceIte, eq_self, and_true, true_and, sn_set_put, sn_set_take, sn_set_add, sn_put_set, sn_put_take, sn_put_add, sn_take_set, sn_take_put, sn_take_add, sn_add_set, sn_add_put, sn_add_take, hy]
    exact q
  · simp only [↓eVar, ↓eC, ↓eBin, ↓eUn, ↓eB, ↓eTup, ↓eLst, ↓eAnd, ↓eOr, ↓eNot, ↓eIf, ↓eChain, ↓eSlice, ↓eM, ↓eStr1, ↓eIsi, ↓oNo, ↓oPart, ↓tst, ↓ftAnd, ↓ftOr, ↓ftNot, ↓ftYes, ↓args, ↓gI, ↓gI0, ↓gSubI, ↓gFdiv, ↓gMod, ↓gPow, ↓gLt, ↓gLe, ↓gGt, ↓gGe, ↓gAdd, ↓gMul, ↓gRep, ↓gIx, ↓gIsN, ↓gNotN, ↓gNeg, ↓gEqN, ↓gIn, ↓gInSeq, ↓gLen, ↓gSlice, ↓gList, ↓gTuple, ↓gMin2, ↓gMax2, ↓gStr, ↓gInt, ↓newL, ↓mAppend, ↓mInsert, ↓mPopAt, ↓mIndex, ↓gSplit, ↓gJoin, List.map_cons, List.map_nil, List.length_cons, List.length_nil, List.length_map, List.cons_append, List.nil_append, Nat.reduceAdd, Nat.reduceSub, List.getElem?_cons_zero, List.getElem?_cons_succ, List.getElem?_map, Option.map_some, List.set_cons_zero, List.set_cons_succ, isNon, seqOf, listOf, atI_nn, atI_0, atI_1, atI_2, atI_3, encNet, encSt, encRow, encR, encO, encP, nats, encT, Od.raw, if_true, if_false, ite_true, ite_false, Bool.false_eq_true, Bool.true_eq_false, Bool.not_true, Bool.not_false, decide_true, decide_false, reduceIte, eq_self, and_true, true_and, sn_set_put, sn_set_take, sn_set_add, sn_put_set, sn_put_take, sn_put_add, sn_take_set, sn_take_put, sn_take_add, sn_add_set, sn_add_put, sn_add_take, e, hy]
    exact q
theorem ev_whole (he : Ev f ds M (.int z) M1) : Ev (eCall G_whole [f]) ds M (.bl true) M1 := by
  intro Q E q
  unfold eCall args
  exact he _ _ ⟨z, rfl, q⟩
theorem ev_isT (he : Ev f ds M (.tup xs) M1) : Ev (eIsi "tuple" f) ds M (.bl true) M1 := by
  intro Q E q
  refine he _ _ ?_
  show match kitB "tuple" "tuple" with | some b => Q (.bl b) M1 | none => False
  rw [kb_tt]
  exact q
/-- numbers compared -/
theorem tv_ne (he : Ev f ds M (.int z) M1) {z2 : Int} (hg : Ev g ds M1 (.int z2) M2) : Tv (tst (eBin (gEqN true) f g)) ds M (!decide (z = z2)) M2 := tv_of (ev_bin (M3 := M2) he hg fun Q q => q)
theorem tv_ne0 (he : Ev f ds M (.int z) M1) (hg : Ev g ds M1 (.int z) M2) : Tv (tst (eBin (gEqN true) f g)) ds M false M2 := by
  have := tv_ne he hg
  rw [decide_eq_true rfl] at this
  exact this
theorem tv_nn {ft : FT} (h : Tv ft ds M true M1) : Tv (ftNot ft) ds M false M1 := tv_not h
theorem iv_rng {j : Nat} (he : Ev f ds M (.int (j : Nat)) M1) (hj : j ≤ 1000000000) : Iv (iRng1D [f]) ds M (rngD 0 j) okAny M1 := by
  intro R E q
  unfold iRng1D args
  refine he _ _ ?_
  refine ⟨small62 hj, ?_⟩
  rw [Int.toNat_natCast]
  exact q
theorem iv_seqT (he : Ev f ds M d M1) (h : SeqT M1 d xs) : ∃ ok, Iv (iSeqD f) ds M xs ok M1 ∧ ∀ M', SeqT M' d xs → ok M' := by
  rcases h with h | h
  · subst h
    exact ⟨okAny, fun R E q => he _ _ q, fun _ _ => trivial⟩
  · obtain ⟨ok, h1, h2⟩ := iv_seq he h
    refine ⟨ok, h1, fun M' h3 => ?_⟩
    rcases h3 with h3 | h3
    · subst h3
      rcases h with h | ⟨n, h, _⟩ <;> cases h
    · exact h2 M' h3
end
theorem rngD_at {j i : Nat} {d : D} (h : (rngD 0 j)[i]? = some d) : i < j ∧ d = .int (i : Nat) := by
  obtain ⟨h1, h2⟩ := rngD_get h
  exact ⟨h1, by rw [h2, Int.zero_add]⟩
def G_numbers_are : GS := fun ds M Q E => ∃ zs due, ds = [.tup (intL zs), due] ∧ SeqT M due (intL zs) ∧ zs.length ≤ 1000000000 ∧ Q (.bl true) M
theorem sem_numbers_are : ∀ ds M Q E, G_numbers_are ds M Q E → f_numbers_are G_whole (exits false M Q E) (startD 3 ds) M := by
  rintro ds M Q E ⟨zs, due, rfl, hd, hl, hq⟩
  unfold f_numbers_are
  simp only [startD, List.map_cons, List.map_nil, List.length_cons, List.length_nil, List.replicate, List.cons_append, List.nil_append, Nat.reduceAdd, Nat.reduceSub]
  refine st_ifn (tv_or0 (tv_nn (tv_of (ev_isT (by intro Q E hq; simp only [↓eVar, ↓eC, ↓eBin, ↓eUn, ↓eB, ↓eTup, ↓eLst, ↓eAnd, ↓eOr, ↓eNot, ↓eIf, ↓eChain, ↓eSlice, ↓eM, ↓eStr1, ↓eIsi, ↓oNo, ↓oPart, ↓tst, ↓ftAnd, ↓ftOr, ↓ftNot, ↓ftYes, ↓args, ↓gI, ↓gI0, ↓gSubI, ↓gFdiv, ↓gMod, ↓gPow, ↓gLt, ↓gLe, ↓gGt, ↓gGe, ↓gAdd, ↓gMul, ↓gRep, ↓gIx, ↓gIsN, ↓gNotN, ↓gNeg, ↓gEqN, ↓gIn, ↓gInSeq, ↓gLen, ↓gSlice, ↓gList, ↓gTuple, ↓gMin2, ↓gMax2, ↓gStr, ↓gInt, ↓newL, ↓mAppend, ↓mInsert, ↓mPopAt, ↓mIndex, ↓gSplit, ↓gJoin, List.map_cons, List.map_nil, List.length_cons, List.length_nil, List.length_map, List.cons_append, List.nil_append, Nat.reduceAdd, Nat.reduceSub, List.getElem?_cons_zero, List.getElem?_cons_succ, List.getElem?_map, Option.map_some, List.set_cons_zero, List.set_cons_succ, isNon, seqOf, listOf, atI_nn, atI_0, atI_1, atI_2, atI_3, encNet, encSt, encRow, encR, encO, encP, nats, encT, Od.raw, if_true, if_false, ite_true, ite_false, Bool.false_eq_true, Bool.true_eq_false, Bool.not_true, Bool.not_false, decide_true, decide_false, reduceIte, eq_self, and_true, true_and, sn_set_put, sn_set_take, sn_set_add, sn_put_set, sn_put_take, sn_put_add, sn_take_set, sn_take_put, sn_take_add, sn_add_set, sn_add_put, sn_add_take]; exact hq)))) (tv_ne0 (ev_len (by intro Q E hq; simp only [↓eVar, ↓eC, ↓eBin, ↓eUn, ↓eB, ↓eTup, ↓eLst, ↓eAnd, ↓eOr, ↓eNot, ↓eIf, ↓eChain, ↓eSlice, ↓eM, ↓eStr1, ↓eIsi, ↓oNo, ↓oPart, ↓tst, ↓ftAnd, ↓ftOr, ↓ftNot, ↓ftYes, ↓args, ↓gI, ↓gI0, ↓gSubI, ↓gFdiv, ↓gMod, ↓gPow, ↓gLt, ↓gLe, ↓gGt, ↓gGe, ↓gAdd, ↓gMul, ↓gRep, ↓gIx, ↓gIsN, ↓gNotN, ↓gNeg, ↓gEqN, ↓gIn, ↓gInSeq, ↓gLen, ↓gSlice, ↓gList, ↓gTuple, ↓gMin2, ↓gMax2, ↓gStr, ↓gInt, ↓newL, ↓mAppend, ↓mInsert, ↓mPopAt, ↓mIndex, ↓gSplit, ↓gJoin, List.map_cons, List.map_nil, List.length_cons, List.length_nil, List.length_map, List.cons_append, List.nil_append, Nat.reduceAdd, Nat.reduceSub, List.getElem?_cons_zero, List.getElem?_cons_succ, List.getElem?_map, Option.map_some, List.set_cons_zero, List.set_cons_succ, isNon, seqOf, listOf, atI_nn, atI_0, atI_1, atI_2, atI_3, encNet, encSt, encRow, encR, encO, encP, nats, encT, Od.raw, if_true, if_false, ite_true, ite_false, Bool.false_eq_true, Bool.true_eq_false, Bool.not_true, Bool.not_false, decide_true, decide_false, reduceIte, eq_self, and_true, true_and, sn_set_put, sn_set_take, sn_set_add, sn_put_set, sn_put_take, sn_put_add, sn_take_set, sn_take_put, sn_take_add, sn_add_set, sn_add_put, sn_add_take]; exact hq) seqT_tup) (ev_len (by intro Q E hq; simp only [↓eVar, ↓eC, ↓eBin, ↓eUn, ↓eB, ↓eTup, ↓eLst, ↓eAnd, ↓eOr, ↓eNot, ↓eIf, ↓eChain, ↓eSlice, ↓eM, ↓eStr1, ↓eIsi, ↓oNo, ↓oPart, ↓tst, ↓ftAnd, ↓ftOr, ↓ftNot, ↓ftYes, ↓args, ↓gI, ↓gI0, ↓gSubI, ↓gFdiv, ↓gMod, ↓gPow, ↓gLt, ↓gLe, ↓gGt, ↓gGe, ↓gAdd, ↓gMul, ↓gRep, ↓gIx, ↓gIsN, ↓gNotN, ↓gNeg, ↓gEqN, ↓gIn, ↓gInSeq, ↓gLen, ↓gSlice, ↓gList, ↓gTuple, ↓gMin2, ↓gMax2, ↓gStr, ↓gInt, ↓newL, ↓mAppend, ↓mInsert, ↓mPopAt, ↓mIndex, ↓gSplit, ↓gJoin, List.map_cons, List.map_nil, List.length_cons, List.length_nil, List.length_map, List.cons_append, List.nil_append, Nat.reduceAdd, Nat.reduceSub, List.getElem?_cons_zero, List.getElem?_cons_succ, List.getElem?_map, Option.map_some, List.set_cons_zero, List.set_cons_succ, isNon, seqOf, listOf, atI_nn, atI_0, atI_1, atI_2, atI_3, encNet, encSt, encRow, encR, encO, encP, nats, encT, Od.raw, if_true, if_false, ite_true, ite_false, Bool.false_eq_true, Bool.true_eq_false, Bool.not_true, Bool.not_false, decide_true, decide_false, reduceIte, eq_self, and_true, true_and, sn_set_put, sn_set_take, sn_set_add, sn_put_set, sn_put_take, sn_put_add, sn_take_set, sn_take_put, sn_take_add, sn_add_set, sn_add_put, sn_add_take]; exact hq) hd))) ?_
  have il : (intL zs).length = zs.length := by unfold intL; rw [List.length_map]
  refine st_forI (iv_rng (ev_len (M1 := M) (by intro Q E hq; simp only [↓eVar, ↓eC, ↓eBin, ↓eUn, ↓eB, ↓eTup, ↓eLst, ↓eAnd, ↓eOr, ↓eNot, ↓eIf, ↓eChain, ↓eSlice, ↓eM, ↓eStr1, ↓eIsi, ↓oNo, ↓oPart, ↓tst, ↓ftAnd, ↓ftOr, ↓ftNot, ↓ftYes, ↓args, ↓gI, ↓gI0, ↓gSubI, ↓gFdiv, ↓gMod, ↓gPow, ↓gLt, ↓gLe, ↓gGt, ↓gGe, ↓gAdd, ↓gMul, ↓gRep, ↓gIx, ↓gIsN, ↓gNotN, ↓gNeg, ↓gEqN, ↓gIn, ↓gInSeq, ↓gLen, ↓gSlice, ↓gList, ↓gTuple, ↓gMin2, ↓gMax2, ↓gStr, ↓gInt, ↓newL, ↓mAppend, ↓mInsert, ↓mPopAt, ↓mIndex, ↓gSplit, ↓gJoin, List.map_cons, List.map_nil, List.length_cons, List.length_nil, List.length_map, List.cons_append, List.nil_append, Nat.reduceAdd, Nat.reduceSub, List.getElem?_cons_zero, List.getElem?_cons_succ, List.getElem?_map, Option.map_some, List.set_cons_zero, List.set_cons_succ, isNon, seqOf, listOf, atI_nn, atI_0, atI_1, atI_2, atI_3, encNet, encSt, encRow, encR, encO, encP, nats, encT, Od.raw, if_true, if_false, ite_true, ite_false, Bool.false_eq_true, Bool.true_eq_false, Bool.not_true, Bool.not_false, decide_true, decide_false, reduceIte, eq_self, and_true, true_and, sn_set_put, sn_set_take, sn_set_add, sn_put_set, sn_put_take, sn_put_add, sn_take_set, sn_take_put, sn_take_add, sn_add_set, sn_add_put, sn_add_take]; exact hq) hd) (by rw [il]; exact hl)) (fun i ds M' => ∃ x, M = M' ∧ ds = [some (.tup (intL zs)), some due, x]) ⟨none, rfl, rfl⟩ (fun _ _ _ _ _ => trivial) ?_ ?_
  · rintro i d _ _ nx hd2 ⟨x, rfl, rfl⟩ k
    obtain ⟨hi, rfl⟩ := rngD_at hd2
    have hz : (intL zs)[i]? = some (.int (zs.getD i 0)) := by rw [ints_at, getD_of (d := 0) (by omega)]; rfl
    unfold gNm
    refine st_l0 (tv_or0 (tv_nn (tv_of (ev_whole (ev_ix (M1 := M) (M2 := M) (by intro Q E hq; simp only [↓eVar, ↓eC, ↓eBin, ↓eUn, ↓eB, ↓eTup, ↓eLst, ↓eAnd, ↓eOr, ↓eNot, ↓eIf, ↓eChain, ↓eSlice, ↓eM, ↓eStr1, ↓eIsi, ↓oNo, ↓oPart, ↓tst, ↓ftAnd, ↓ftOr, ↓ftNot, ↓ftYes, ↓args, ↓gI, ↓gI0, ↓gSubI, ↓gFdiv, ↓gMod, ↓gPow, ↓gLt, ↓gLe, ↓gGt, ↓gGe, ↓gAdd, ↓gMul, ↓gRep, ↓gIx, ↓gIsN, ↓gNotN, ↓gNeg, ↓gEqN, ↓gIn, ↓gInSeq, ↓gLen, ↓gSlice, ↓gList, ↓gTuple, ↓gMin2, ↓gMax2, ↓gStr, ↓gInt, ↓newL, ↓mAppend, ↓mInsert, ↓mPopAt, ↓mIndex, ↓gSplit, ↓gJoin, List.map_cons, List.map_nil, List.length_cons, List.length_nil, List.length_map, List.cons_append, List.nil_append, Nat.reduceAdd, Nat.reduceSub, List.getElem?_cons_zero, List.getElem?_cons_succ, List.getElem?_map, Option.map_some, List.set_cons_zero, List.set_cons_succ, isNon, seqOf, listOf, atI_nn, atI_0, atI_1, atI_2, atI_3, encNet, encSt, encRow, encR, encO, encP, nats, encT, Od.raw, if_true, if_false, ite_true, ite_false, Bool.false_eq_true, Bool.true_eq_false, Bool.not_true, Bool.not_false, decide_true, decide_false, reduceIte, eq_self, and_true, true_and, sn_set_put, sn_set_take, sn_set_add, sn_put_set, sn_put_take, sn_put_add, sn_take_set, sn_take_put, sn_take_add, sn_add_set, sn_add_put, sn_add_take]; exact hq) (by intro Q E hq; simp only [↓eVar, ↓eC, ↓eBin, ↓eUn, ↓eB, ↓eTup, ↓eLst, ↓eAnd, ↓eOr, ↓eNot, ↓eIf, ↓eChain, ↓eSlice, ↓eM, ↓eStr1, ↓eIsi, ↓oNo, ↓oPart, ↓tst, ↓ftAnd, ↓ftOr, ↓ftNot, ↓ftYes, ↓args, ↓gI, ↓gI0, ↓gSubI, ↓gFdiv, ↓gMod, ↓gPow, ↓gLt, ↓gLe, ↓gGt, ↓gGe, ↓gAdd, ↓gMul, ↓gRep, ↓gIx, ↓gIsN, ↓gNotN, ↓gNeg, ↓gEqN, ↓gIn, ↓gInSeq, ↓gLen, ↓gSlice, ↓gList, ↓gTuple, ↓gMin2, ↓gMax2, ↓gStr, ↓gInt, ↓newL, ↓mAppend, ↓mInsert, ↓mPopAt, ↓mIndex, ↓gSplit, ↓gJoin, List.map_cons, List.map_nil, List.length_cons, List.length_nil, List.length_map, List.cons_append, List.nil_append, Nat.reduceAdd, Nat.reduceSub, List.getElem?_cons_zero, List.getElem?_cons_succ, List.getElem?_map, Option.map_some, List.set_cons_zero, List.set_cons_succ, isNon, seqOf, listOf, atI_nn, atI_0, atI_1, atI_2, atI_3, encNet, encSt, encRow, encR, encO, encP, nats, encT, Od.raw, if_true, if_false, ite_true, ite_false, Bool.false_eq_true, Bool.true_eq_false, Bool.not_true, Bool.not_false, decide_true, decide_false, reduceIte, eq_self, and_true, true_and, sn_set_put, sn_set_take, sn_set_add, sn_put_set, sn_put_take, sn_put_add, sn_take_set, sn_take_put, sn_take_add, sn_add_set, sn_add_put, sn_add_take]; exact hq) seqT_tup hz)))) (tv_ne0 (ev_ix (M1 := M) (M2 := M) (by intro Q E hq; simp only [↓eVar, ↓eC, ↓eBin, ↓eUn, ↓eB, ↓eTup, ↓eLst, ↓eAnd, ↓eOr, ↓eNot, ↓eIf, ↓eChain, ↓eSlice, ↓eM, ↓eStr1, ↓eIsi, ↓oNo, ↓oPart, ↓tst, ↓ftAnd, ↓ftOr, ↓ftNot, ↓ftYes, ↓args, ↓gI, ↓gI0, ↓gSubI, ↓gFdiv, ↓gMod, ↓gPow, ↓gLt, ↓gLe, ↓gGt, ↓gGe, ↓gAdd, ↓gMul, ↓gRep, ↓gIx, ↓gIsN, ↓gNotN, ↓gNeg, ↓gEqN, ↓gIn, ↓gInSeq, ↓gLen, ↓gSlice, ↓gList, ↓gTuple, ↓gMin2, ↓gMax2, ↓gStr, ↓gInt, ↓newL, ↓mAppend, ↓mInsert, ↓mPopAt, ↓mIndex, ↓gSplit, ↓gJoin, List.map_cons, List.map_nil, List.length_cons, List.length_nil, List.length_map, List.cons_append, List.nil_append, Nat.reduceAdd, Nat.reduceSub, List.getElem?_cons_zero, List.getElem?_cons_succ, List.getElem?_map, Option.map_some, List.set_cons_zero, List.set_cons_succ, isNon, seqOf, listOf, atI_nn, atI_0, atI_1, atI_2, atI_3, encNet, encSt, encRow, encR, encO, encP, nats, encT, Od.raw, if_true, if_false, ite_true, ite_false, Bool.false_eq_true, Bool.true_eq_false, Bool.not_true, Bool.not_false, decide_true, decide_false, reduceIte, eq_self, and_true, true_and, sn_set_put, sn_set_take, sn_set_add, sn_put_set, sn_put_take, sn_put_add, sn_take_set, sn_take_put, sn_take_add, sn_add_set, sn_add_put, sn_add_take]; exact hq) (by intro Q E hq; simp only [↓eVar, ↓eC, ↓eBin, ↓eUn, ↓eB, ↓eTup, ↓eLst, ↓eAnd, ↓eOr, ↓eNot, ↓eIf, ↓eChain, ↓eSlice, ↓eM, ↓eStr1, ↓eIsi, ↓oNo, ↓oPart, ↓tst, ↓ftAnd, ↓ftOr, ↓ftNot, ↓ftYes, ↓args, ↓gI, ↓gI0, ↓gSubI, ↓gFdiv, ↓gMod, ↓gPow, ↓gLt, ↓gLe, ↓gGt, ↓gGe, ↓gAdd, ↓gMul, ↓gRep, ↓gIx, ↓gIsN, ↓gNotN, ↓gNeg, ↓gEqN, ↓gIn, ↓gInSeq, ↓gLen, ↓gSlice, ↓gList, ↓gTuple, ↓gMin2, ↓gMax2, ↓gStr, ↓gInt, ↓newL, ↓mAppend, ↓mInsert, ↓mPopAt, ↓mIndex, ↓gSplit, ↓gJoin, List.map_cons, List.map_nil, List.length_cons, List.length_nil, List.length_map, List.cons_append, List.nil_append, Nat.reduceAdd, Nat.reduceSub, List.getElem?_cons_zero, List.getElem?_cons_succ, List.getElem?_map, Option.map_some, List.set_cons_zero, List.set_cons_succ, isNon, seqOf, listOf, atI_nn, atI_0, atI_1, atI_2, atI_3, encNet, encSt, encRow, encR, encO, encP, nats, encT, Od.raw, if_true, if_false, ite_true, ite_false, Bool.false_eq_true, Bool.true_eq_false, Bool.not_true, Bool.not_false, decide_true, decide_false, reduceIte, eq_self, and_true, true_and, sn_set_put, sn_set_take, sn_set_add, sn_put_set, sn_put_take, sn_put_add, sn_take_set, sn_take_put, sn_take_add, sn_add_set, sn_add_put, sn_add_take]; exact hq) seqT_tup hz) (ev_ix (M1 := M) (M2 := M) (by intro Q E hq; simp only [↓eVar, ↓eC, ↓eBin, ↓eUn, ↓eB, ↓eTup, ↓eLst, ↓eAnd, ↓eOr, ↓eNot, ↓eIf, ↓eChain, ↓eSlice, ↓eM, ↓eStr1, ↓eIsi, ↓oNo, ↓oPart, ↓tst, ↓ftAnd, ↓ftOr, ↓ftNot, ↓ftYes, ↓args, ↓gI, ↓gI0, ↓gSubI, ↓gFdiv, ↓gMod, ↓gPow, ↓gLt, ↓gLe, ↓gGt, ↓gGe, ↓gAdd, ↓gMul, ↓gRep, ↓gIx, ↓gIsN, ↓gNotN, ↓gNeg, ↓gEqN, ↓gIn, ↓gInSeq, ↓gLen, ↓gSlice, ↓gList, ↓gTuple, ↓gMin2, ↓gMax2, ↓gStr, ↓gInt, ↓newL, ↓mAppend, ↓mInsert, ↓mPopAt, ↓mIndex, ↓gSplit, ↓gJoin, List.map_cons, List.map_nil, List.length_cons, List.length_nil, List.length_map, List.cons_append, List.nil_append, Nat.reduceAdd, Nat.reduceSub, List.getElem?_cons_zero, List.getElem?_cons_succ, List.getElem?_map, Option.map_some, List.set_cons_zero, List.set_cons_succ, isNon, seqOf, listOf, atI_nn, atI_0, atI_1, atI_2, atI_3, encNet, encSt, encRow, encR, encO, encP, nats, encT, Od.raw, if_true, if_false, ite_true, ite_false, Bool.false_eq_true, Bool.true_eq_false, Bool.not_true, Bool.not_false, decide_true, decide_false, reduceIte, eq_self, and_true, true_and, sn_set_put, sn_set_take, sn_set_add, sn_put_set, sn_put_take, sn_put_add, sn_take_set, sn_take_put, sn_take_add, sn_add_set, sn_add_put, sn_add_take]; exact hq) (by intro Q E hq; simp only [↓eVar, ↓eC, ↓eBin, ↓eUn, ↓eB, ↓eTup, ↓eLst, ↓eAnd, ↓eOr, ↓eNot, ↓eIf, ↓eChain, ↓eSlice, ↓eM, ↓eStr1, ↓eIsi, ↓oNo, ↓oPart, ↓tst, ↓ftAnd, ↓ftOr, ↓ftNot, ↓ftYes, ↓args, ↓gI, ↓gI0, ↓gSubI, ↓gFdiv, ↓gMod, ↓gPow, ↓gLt, ↓gLe, ↓gGt, ↓gGe, ↓gAdd, ↓gMul, ↓gRep, ↓gIx, ↓gIsN, ↓gNotN, ↓gNeg, ↓gEqN, ↓gIn, ↓gInSeq, ↓gLen, ↓gSlice, ↓gList, ↓gTuple, ↓gMin2, ↓gMax2, ↓gStr, ↓gInt, ↓newL, ↓mAppend, ↓mInsert, ↓mPopAt, ↓mIndex, ↓gSplit, ↓gJoin, List.map_cons, List.map_nil, List.length_cons, List.length_nil, List.length_map, List.cons_append, List.nil_append, Nat.reduceAdd, Nat.reduceSub, List.getElem?_cons_zero, List.getElem?_cons_succ, List.getElem?_map, Option.map_some, List.set_cons_zero, List.set_cons_succ, isNon, seqOf, listOf, atI_nn, atI_0, atI_1, atI_2, atI_3, encNet, encSt, encRow, encR, encO, encP, nats, encT, Od.raw, if_true, if_false, ite_true, ite_false, Bool.false_eq_true, Bool.true_eq_false, Bool.not_true, Bool.not_false, decide_true, decide_false, reduceIte, eq_self, and_true, true_and, sn_set_put, sn_set_take, sn_set_add, sn_put_set, sn_put_take, sn_put_add, sn_take_set, sn_take_put, sn_take_add, sn_add_set, sn_add_put, sn_add_take]; exact hq) hd hz))) (k _ _ ⟨_, rfl, rfl⟩)
  · rintro _ _ ⟨x, rfl, rfl⟩
    exact st_ret (by intro Q E hq; simp only [↓eVar, ↓eC, ↓eBin, ↓eUn, ↓eB, ↓eTup, ↓eLst, ↓eAnd, ↓eOr, ↓eNot, ↓eIf, ↓eChain, ↓eSlice, ↓eM, ↓eStr1, ↓eIsi, ↓oNo, ↓oPart, ↓tst, ↓ftAnd, ↓ftOr, ↓ftNot, ↓ftYes, ↓args, ↓gI, ↓gI0, ↓gSubI, ↓gFdiv, ↓gMod, ↓gPow, ↓gLt, ↓gLe, ↓gGt, ↓gGe, ↓gAdd, ↓gMul, ↓gRep, ↓gIx, ↓gIsN, ↓gNotN, ↓gNeg, ↓gEqN, ↓gIn, ↓gInSeq, ↓gLen, ↓gSlice, ↓gList, ↓gTuple, ↓gMin2, ↓gMax2, ↓gStr, ↓gInt, ↓newL, ↓mAppend, ↓mInsert, ↓mPopAt, ↓mIndex, ↓gSplit, ↓gJoin, List.map_cons, List.map_nil, List.length_cons, List.length_nil, List.length_map, List.cons_append, List.nil_append, Nat.reduceAdd, Nat.reduceSub, List.getElem?_cons_zero, List.getElem?_cons_succ, List.getElem?_map, Option.map_some, List.set_cons_zero, List.set_cons_succ, isNon, seqOf, listOf, atI_nn, atI_0, atI_1, atI_2, atI_3, encNet, encSt, encRow, encR, encO, encP, nats, encT, Od.raw, if_true, if_false, ite_true, ite_false, Bool.false_eq_true, Bool.true_eq_false, Bool.not_true, Bool.not_false, decide_true, decide_false, reduceIte, eq_self, and_true, true_and, sn_set_put, sn_set_take, sn_set_add, sn_put_set, sn_put_take, sn_put_add, sn_take_set, sn_take_put, sn_take_add, sn_add_set, sn_add_put, sn_add_take]; exact hq) hq
/-- a state as tuples or lists -/
structure StaIn (M : Sto) (d : D) (S : Sta) : Prop where
  ex : ∃ d0 d1 d2 d3 hs ps, SeqT M d [d0, d1, d2, d3] ∧ SeqT M d0 (nats S.places) ∧ SeqT M d1 (intL S.boxes) ∧ SeqT M d2 hs ∧ SeqT M d3 ps ∧ hs.length = S.held.length ∧ ps.length = S.past.length ∧
    (∀ i h, hs[i]? = some h → SeqT M h (intL (S.hl i))) ∧ (∀ i h, ps[i]? = some h → SeqT M h (intL (S.ps i)))
theorem encT_eq {zs : List Int} : encT zs = .tup (intL zs) := rfl
theorem nats_ints {xs : List Nat} : nats xs = intL (xs.map fun (n : Nat) => (n : Int)) := by unfold nats intL; rw [List.map_map]; rfl
theorem encT_at {xs : List (List Int)} {i : Nat} {h : D} (e : (xs.map encT)[i]? = some h) : h = encT (xs.getD i []) := by
  obtain ⟨a, e2, rfl⟩ := map_get e
  rw [List.getD_eq_getElem?_getD, e2]
  rfl
theorem staIn_enc {M : Sto} {S : Sta} : StaIn M (encSt S) S := by
  refine ⟨_, _, _, _, _, _, .inl rfl, .inl rfl, .inl rfl, .inl rfl, .inl rfl, by simp, by simp, fun i h e => ?_, fun i h e => ?_⟩
  · rw [encT_at e]; exact .inl rfl
  · rw [encT_at e]; exact .inl rfl
def G_state_is : GS := fun ds M Q E => ∃ N S due, ds = [encSt S, due] ∧ StaIn M due S ∧ Good N S ∧ Q (.bl true) M
theorem sem_state_is : ∀ ds M Q E, G_state_is ds M Q E → f_state_is G_numbers_are (exits false M Q E) (startD 4 ds) M := by
  rintro ds M Q E ⟨N, S, due, rfl, ⟨d0, d1, d2, d3, hs, ps, h0, h1, h2, h3, h4, l1, l2, e1, e2⟩, g, hq⟩
  unfold f_state_is
  simp only [startD, List.map_cons, List.map_nil, List.length_cons, List.length_nil, List.replicate, List.cons_append, List.nil_append, Nat.reduceAdd, Nat.reduceSub]
  have hf := g.ok.few
  have hfP := g.ok.fewP
  have hg1 := g.hl
  have hg2 := g.ps
  refine st_ifn (tv_or0 (tv_nn (tv_of (ev_isT (M1 := M) (xs := [.tup (nats S.places), .tup (S.boxes.map D.int), .tup (S.held.map encT), .tup (S.past.map encT)]) (by intro Q E hq; simp only [↓eVar, ↓eC, ↓eBin, ↓eUn, ↓eB, ↓eTup, ↓eLst, ↓eAnd, ↓eOr, ↓eNot, ↓eIf, ↓eChain, ↓eSlice, ↓eM, ↓eStr1, ↓eIsi, ↓oNo, ↓oPart, ↓tst, ↓ftAnd, ↓ftOr, ↓ftNot, ↓ftYes, ↓args, ↓gI, ↓gI0, ↓gSubI, ↓gFdiv, ↓gMod, ↓gPow, ↓gLt, ↓gLe, ↓gGt, ↓gGe, ↓gAdd, ↓gMul, ↓gRep, ↓gIx, ↓gIsN, ↓gNotN, ↓gNeg, ↓gEqN, ↓gIn, ↓gInSeq, ↓gLen, ↓gSlice, ↓gList, ↓gTuple, ↓gMin2, ↓gMax2, ↓gStr, ↓gInt, ↓newL, ↓mAppend, ↓mInsert, ↓mPopAt, ↓mIndex, ↓gSplit, ↓gJoin, List.map_cons, List.map_nil, List.length_cons, List.length_nil, List.length_map, List.cons_append, List.nil_append, Nat.reduceAdd, Nat.reduceSub, List.getElem?_cons_zero, List.getElem?_cons_succ, List.getElem?_map, Option.map_some, List.set_cons_zero, List.set_cons_succ, isNon, seqOf, listOf, atI_nn, atI_0, atI_1, atI_2, atI_3, encNet, encSt, encRow, encR, encO, encP, nats, encT, Od.raw, if_true, if_false, ite_true, ite_false, Bool.false_eq_true, Bool.true_eq_false, Bool.not_true, Bool.not_false, decide_true, decide_false, reduceIte, eq_self, and_true, true_and, sn_set_put, sn_set_take, sn_set_add, sn_put_set, sn_put_take, sn_put_add, sn_take_set, sn_take_put, sn_take_add, sn_add_set, sn_add_put, sn_add_take]; exact hq)))) (tv_ne0 (ev_len (M1 := M) (by intro Q E hq; simp only [↓eVar, ↓eC, ↓eBin, ↓eUn, ↓eB, ↓eTup, ↓eLst, ↓eAnd, ↓eOr, ↓eNot, ↓eIf, ↓eChain, ↓eSlice, ↓eM, ↓eStr1, ↓eIsi, ↓oNo, ↓oPart, ↓tst, ↓ftAnd, ↓ftOr, ↓ftNot, ↓ftYes, ↓args, ↓gI, ↓gI0, ↓gSubI, ↓gFdiv, ↓gMod, ↓gPow, ↓gLt, ↓gLe, ↓gGt, ↓gGe, ↓gAdd, ↓gMul, ↓gRep, ↓gIx, ↓gIsN, ↓gNotN, ↓gNeg, ↓gEqN, ↓gIn, ↓gInSeq, ↓gLen, ↓gSlice, ↓gList, ↓gTuple, ↓gMin2, ↓gMax2, ↓gStr, ↓gInt, ↓newL, ↓mAppend, ↓mInsert, ↓mPopAt, ↓mIndex, ↓gSplit, ↓gJoin, List.map_cons, List.map_nil, List.length_cons, List.length_nil, List.length_map, List.cons_append, List.nil_append, Nat.reduceAdd, Nat.reduceSub, List.getElem?_cons_zero, List.getElem?_cons_succ, List.getElem?_map, Option.map_some, List.set_cons_zero, List.set_cons_succ, isNon, seqOf, listOf, atI_nn, atI_0, atI_1, atI_2, atI_3, encNet, encSt, encRow, encR, encO, encP, nats, encT, Od.raw, if_true, if_false, ite_true, ite_false, Bool.false_eq_true, Bool.true_eq_false, Bool.not_true, Bool.not_false, decide_true, decide_false, reduceIte, eq_self, and_true, true_and, sn_set_put, sn_set_take, sn_set_add, sn_put_set, sn_put_take, sn_put_add, sn_take_set, sn_take_put, sn_take_add, sn_add_set, sn_add_put, sn_add_take]; exact hq) seqT_tup) (by intro Q E hq; simp only [↓eVar, ↓eC, ↓eBin, ↓eUn, ↓eB, ↓eTup, ↓eLst, ↓eAnd, ↓eOr, ↓eNot, ↓eIf, ↓eChain, ↓eSlice, ↓eM, ↓eStr1, ↓eIsi, ↓oNo, ↓oPart, ↓tst, ↓ftAnd, ↓ftOr, ↓ftNot, ↓ftYes, ↓args, ↓gI, ↓gI0, ↓gSubI, ↓gFdiv, ↓gMod, ↓gPow, ↓gLt, ↓gLe, ↓gGt, ↓gGe, ↓gAdd, ↓gMul, ↓gRep, ↓gIx, ↓gIsN, ↓gNotN, ↓gNeg, ↓gEqN, ↓gIn, ↓gInSeq, ↓gLen, ↓gSlice, ↓gList, ↓gTuple, ↓gMin2, ↓gMax2, ↓gStr, ↓gInt, ↓newL, ↓mAppend, ↓mInsert, ↓mPopAt, ↓mIndex, ↓gSplit, ↓gJoin, List.map_cons, List.map_nil, List.length_cons, List.length_nil, List.length_map, List.cons_append, List.nil_append, Nat.reduceAdd, Nat.reduceSub, List.getElem?_cons_zero, List.getElem?_cons_succ, List.getElem?_map, Option.map_some, List.set_cons_zero, List.set_cons_succ, isNon, seqOf, listOf, atI_nn, atI_0, atI_1, atI_2, atI_3, encNet, encSt, encRow, encR, encO, encP, nats, encT, Od.raw, if_true, if_false, ite_true, ite_false, Bool.false_eq_true, Bool.true_eq_false, Bool.not_true, Bool.not_false, decide_true, decide_false, reduceIte, eq_self, and_true, true_and, sn_set_put, sn_set_take, sn_set_add, sn_put_set, sn_put_take, sn_put_add, sn_take_set, sn_take_put, sn_take_add, sn_add_set, sn_add_put, sn_add_take]; exact hq))) ?_
  have na : ∀ {ds : DS} {fa fb : FE} {zs : List Int} {x : D}, Ev fa ds M (.tup (intL zs)) M → Ev fb ds M x M → SeqT M x (intL zs) → zs.length ≤ 1000000000 → Ev (eCall G_numbers_are [fa, fb]) ds M (.bl true) M := by
    intro ds fa fb zs x ha hb hx hl Q E q
    unfold eCall args args
    exact ha _ _ (hb _ _ ⟨zs, x, rfl, hx, hl, q⟩)
  refine st_forI (xs := [.int 2, .int 3]) (ok := okAny) (M1 := M) (by intro R E hq; simp only [↓iSeqD, ↓iRng1D, ↓iRng2D, ↓iRng3D, ↓iEnumD, ↓iEnumTD, ↓eVar, ↓eC, ↓eBin, ↓eUn, ↓eB, ↓eTup, ↓eLst, ↓eAnd, ↓eOr, ↓eNot, ↓eIf, ↓eChain, ↓eSlice, ↓eM, ↓eStr1, ↓eIsi, ↓oNo, ↓oPart, ↓tst, ↓ftAnd, ↓ftOr, ↓ftNot, ↓ftYes, ↓args, ↓gI, ↓gI0, ↓gSubI, ↓gFdiv, ↓gMod, ↓gPow, ↓gLt, ↓gLe, ↓gGt, ↓gGe, ↓gAdd, ↓gMul, ↓gRep, ↓gIx, ↓gIsN, ↓gNotN, ↓gNeg, ↓gEqN, ↓gIn, ↓gInSeq, ↓gLen, ↓gSlice, ↓gList, ↓gTuple, ↓gMin2, ↓gMax2, ↓gStr, ↓gInt, ↓newL, ↓mAppend, ↓mInsert, ↓mPopAt, ↓mIndex, ↓gSplit, ↓gJoin, List.map_cons, List.map_nil, List.length_cons, List.length_nil, List.length_map, List.cons_append, List.nil_append, Nat.reduceAdd, Nat.reduceSub, List.getElem?_cons_zero, List.getElem?_cons_succ, List.getElem?_map, Option.map_some, List.set_cons_zero, List.set_cons_succ, isNon, seqOf, listOf, atI_nn, atI_0, atI_1, atI_2, atI_3, encNet, encSt, encRow, encR, encO, encP, nats, encT, Od.raw, if_true, if_false, ite_true, ite_false, Bool.false_eq_true, Bool.true_eq_false, Bool.not_true, Bool.not_false, decide_true, decide_false, reduceIte, eq_self, and_true, true_and, sn_set_put, sn_set_take, sn_set_add, sn_put_set, sn_put_take, sn_put_add, sn_take_set, sn_take_put, sn_take_add, sn_add_set, sn_add_put, sn_add_take]; exact hq) (fun i ds M' => ∃ x y, M = M' ∧ ds = [some (encSt S), some due, x, y]) ⟨none, none, rfl, rfl⟩ (fun _ _ _ _ _ => trivial) ?_ ?_
  · rintro i d _ _ nx hd2 ⟨x, y, rfl, rfl⟩ k
    have inner : ∀ (c : Nat) (zz : List (List Int)) (qs : List D), [D.tup (nats S.places), .tup (S.boxes.map D.int), .tup (S.held.map encT), .tup (S.past.map encT)][c]? = some (.tup (zz.map encT)) → (∃ dd, [d0, d1, d2, d3][c]? = some dd ∧ SeqT M dd qs) → qs.length = zz.length → zz.length ≤ 1000000 → (∀ l ∈ zz, l.length ≤ 1000000) →
        (∀ i h, qs[i]? = some h → SeqT M h (intL (zz.getD i []))) →
        (sSeq (sIf (ftOr (ftNot (tst (eIsi "tuple" (eBin gIx (eVar 0) (eVar 2))))) (tst (eBin (gEqN true) (eB gLen [(eBin gIx (eVar 0) (eVar 2))]) (eB gLen [(eBin gIx (eVar 1) (eVar 2))])))) (sRet (eC (.bl false))) sNext)
          (sFor (iRng1D [(eB gLen [(eBin gIx (eVar 1) (eVar 2))])]) (gNm 3) (sIf (ftNot (tst (eCall G_numbers_are [(eBin gIx (eBin gIx (eVar 0) (eVar 2)) (eVar 3)), (eBin gIx (eBin gIx (eVar 1) (eVar 2)) (eVar 3))]))) (sRet (eC (.bl false))) sNext)))
          { nx := nx, ct := nx, bk := sRet (eAnd (eCall G_numbers_are [(eBin gIx (eVar 0) (eC (.int 0))), (eBin gIx (eVar 1) (eC (.int 0)))]) (eCall G_numbers_are [(eBin gIx (eVar 0) (eC (.int 1))), (eBin gIx (eVar 1) (eC (.int 1)))])) (exits false M Q E), rt := (exits false M Q E).rt, ex := (exits false M Q E).ex } [some (encSt S), some due, some (.int (c : Nat)), y] M := by
      rintro c zz qs hc ⟨dd, hdd, hsd⟩ hql hzl hzz hqz
      have a1 : ∀ y, Ev (eBin gIx (eVar 0) (eVar 2)) [some (encSt S), some due, some (.int (c : Nat)), y] M (.tup (zz.map encT)) M := fun y => ev_ix (M1 := M) (M2 := M) (by intro Q E hq; simp only [↓eVar, ↓eC, ↓eBin, ↓eUn, ↓eB, ↓eTup, ↓eLst, ↓eAnd, ↓eOr, ↓eNot, ↓eIf, ↓eChain, ↓eSlice, ↓eM, ↓eStr1, ↓eIsi, ↓oNo, ↓oPart, ↓tst, ↓ftAnd, ↓ftOr, ↓ftNot, ↓ftYes, ↓args, ↓gI, ↓gI0, ↓gSubI, ↓gFdiv, ↓gMod, ↓gPow, ↓gLt, ↓gLe, ↓gGt, ↓gGe, ↓gAdd, ↓gMul, ↓gRep, ↓gIx, ↓gIsN, ↓gNotN, ↓gNeg, ↓gEqN, ↓gIn, ↓gInSeq, ↓gLen, ↓gSlice, ↓gList, ↓gTuple, ↓gMin2, ↓gMax2, ↓gStr, ↓gInt, ↓newL, ↓mAppend, ↓mInsert, ↓mPopAt, ↓mIndex, ↓gSplit, ↓gJoin, List.map_cons, List.map_nil, List.length_cons, List.length_nil, List.length_map, List.cons_append, List.nil_append, Nat.reduceAdd, Nat.reduceSub, List.getElem?_cons_zero, List.getElem?_cons_succ, List.getElem?_map, Option.map_some, List.set_cons_zero, List.set_cons_succ, isNon, seqOf, listOf, atI_nn, atI_0, atI_1, atI_2, atI_3, encNet, encSt, encRow, encR, encO, encP, nats, encT, Od.raw, if_true, if_false, ite_true, ite_false, Bool.false_eq_true, Bool.true_eq_false, Bool.not_true, Bool.not_false, decide_true, decide_false, reduceIte, eq_self, and_true, true_and, sn_set_put, sn_set_take, sn_set_add, sn_put_set, sn_put_take, sn_put_add, sn_take_set, sn_take_put, sn_take_add, sn_add_set, sn_add_put, sn_add_take]; exact hq) (by intro Q E hq; simp only [↓eVar, ↓eC, ↓eBin, ↓eUn, ↓eB, ↓eTup, ↓eLst, ↓eAnd, ↓eOr, ↓eNot, ↓eIf, ↓eChain, ↓eSlice, ↓eM, ↓eStr1, ↓eIsi, ↓oNo, ↓oPart, ↓tst, ↓ftAnd, ↓ftOr, ↓ftNot, ↓ftYes, ↓args, ↓gI, ↓gI0, ↓gSubI, ↓gFdiv, ↓gMod, ↓gPow, ↓gLt, ↓gLe, ↓gGt, ↓gGe, ↓gAdd, ↓gMul, ↓gRep, ↓gIx, ↓gIsN, ↓gNotN, ↓gNeg, ↓gEqN, ↓gIn, ↓gInSeq, ↓gLen, ↓gSlice, ↓gList, ↓gTuple, ↓gMin2, ↓gMax2, ↓gStr, ↓gInt, ↓newL, ↓mAppend, ↓mInsert, ↓mPopAt, ↓mIndex, ↓gSplit, ↓gJoin, List.map_cons, List.map_nil, List.length_cons, List.length_nil, List.length_map, List.cons_append, List.nil_append, Nat.reduceAdd, Nat.reduceSub, List.getElem?_cons_zero, List.getElem?_cons_succ, List.getElem?_map, Option.map_some, List.set_cons_zero, List.set_cons_succ, isNon, seqOf, listOf, atI_nn, atI_0, atI_1, atI_2, atI_3, encNet, encSt, encRow, encR, encO, encP, nats, encT, Od.raw, if_true, if_false, ite_true, ite_false, Bool.false_eq_true, Bool.true_eq_false, Bool.not_true, Bool.not_false, decide_true, decide_false, reduceIte, eq_self, and_true, true_and, sn_set_put, sn_set_take, sn_set_add, sn_put_set, sn_put_take, sn_put_add, sn_take_set, sn_take_put, sn_take_add, sn_add_set, sn_add_put, sn_add_take]; exact hq) seqT_tup hc
      have a2 : ∀ y, Ev (eBin gIx (eVar 1) (eVar 2)) [some (encSt S), some due, some (.int (c : Nat)), y] M dd M := fun y => ev_ix (M1 := M) (M2 := M) (by intro Q E hq; simp only [↓eVar, ↓eC, ↓eBin, ↓eUn, ↓eB, ↓eTup, ↓eLst, ↓eAnd, ↓eOr, ↓eNot, ↓eIf, ↓eChain, ↓eSlice, ↓eM, ↓eStr1, ↓eIsi, ↓oNo, ↓oPart, ↓tst, ↓ftAnd, ↓ftOr, ↓ftNot, ↓ftYes, ↓args, ↓gI, ↓gI0, ↓gSubI, ↓gFdiv, ↓gMod, ↓gPow, ↓gLt, ↓gLe, ↓gGt, ↓gGe, ↓gAdd, ↓gMul, ↓gRep, ↓gIx, ↓gIsN, ↓gNotN, ↓gNeg, ↓gEqN, ↓gIn, ↓gInSeq, ↓gLen, ↓gSlice, ↓gList, ↓gTuple, ↓gMin2, ↓gMax2, ↓gStr, ↓gInt, ↓newL, ↓mAppend, ↓mInsert, ↓mPopAt, ↓mIndex, ↓gSplit, ↓gJoin, List.map_cons, List.map_nil, List.length_cons, List.length_nil, List.length_map, List.cons_append, List.nil_append, Nat.reduceAdd, Nat.reduceSub, List.getElem?_cons_zero, List.getElem?_cons_succ, List.getElem?_map, Option.map_some, List.set_cons_zero, List.set_cons_succ, isNon, seqOf, listOf, atI_nn, atI_0, atI_1, atI_2, atI_3, encNet, encSt, encRow, encR, encO, encP, nats, encT, Od.raw, if_true, if_false, ite_true, ite_false, Bool.false_eq_true, Bool.true_eq_false, Bool.not_true, Bool.not_false, decide_true, decide_false, reduceIte, eq_self, and_true, true_and, sn_set_put, sn_set_take, sn_set_add, sn_put_set, sn_put_take, sn_put_add, sn_take_set, sn_take_put, sn_take_add, sn_add_set, sn_add_put, sn_add_take]; exact hq) (by intro Q E hq; simp only [↓eVar, ↓eC, ↓eBin, ↓eUn, ↓eB, ↓eTup, ↓eLst, ↓eAnd, ↓eOr, ↓eNot, ↓eIf, ↓eChain, ↓eSlice, ↓eM, ↓eStr1, ↓eIsi, ↓oNo, ↓oPart, ↓tst, ↓ftAnd, ↓ftOr, ↓ftNot, ↓ftYes, ↓args, ↓gI, ↓gI0, ↓gSubI, ↓gFdiv, ↓gMod, ↓gPow, ↓gLt, ↓gLe, ↓gGt, ↓gGe, ↓gAdd, ↓gMul, ↓gRep, ↓gIx, ↓gIsN, ↓gNotN, ↓gNeg, ↓gEqN, ↓gIn, ↓gInSeq, ↓gLen, ↓gSlice, ↓gList, ↓gTuple, ↓gMin2, ↓gMax2, ↓gStr, ↓gInt, ↓newL, ↓mAppend, ↓mInsert, ↓mPopAt, ↓mIndex, ↓gSplit, ↓gJoin, List.map_cons, List.map_nil, List.length_cons, List.length_nil, List.length_map, List.cons_append, List.nil_append, Nat.reduceAdd, Nat.reduceSub, List.getElem?_cons_zero, List.getElem?_cons_succ, List.getElem?_map, Option.map_some, List.set_cons_zero, List.set_cons_succ, isNon, seqOf, listOf, atI_nn, atI_0, atI_1, atI_2, atI_3, encNet, encSt, encRow, encR, encO, encP, nats, encT, Od.raw, if_true, if_false, ite_true, ite_false, Bool.false_eq_true, Bool.true_eq_false, Bool.not_true, Bool.not_false, decide_true, decide_false, reduceIte, eq_self, and_true, true_and, sn_set_put, sn_set_take, sn_set_add, sn_put_set, sn_put_take, sn_put_add, sn_take_set, sn_take_put, sn_take_add, sn_add_set, sn_add_put, sn_add_take]; exact hq) h0 hdd
      have ll := ev_len (a2 y) hsd
      rw [hql, ← List.length_map (f := encT)] at ll
      refine st_ifn (tv_or0 (tv_nn (tv_of (ev_isT (a1 y)))) (tv_ne0 (ev_len (a1 y) seqT_tup) ll)) ?_
      refine st_lforI (iv_rng (j := zz.length) (by rw [List.length_map] at ll; exact ll) (by omega)) (fun i ds M' => ∃ y, M = M' ∧ ds = [some (encSt S), some due, some (.int (c : Nat)), y]) ⟨y, rfl, rfl⟩ (fun _ _ _ _ _ => trivial) ?_ ?_
      · rintro j d _ _ nx2 hd3 ⟨y, rfl, rfl⟩ k2
        obtain ⟨hj, rfl⟩ := rngD_at hd3
        unfold gNm
        have z1 : (zz.map encT)[j]? = some (.tup (intL (zz.getD j []))) := by rw [List.getElem?_map, getD_of (d := []) hj]; rfl
        have hjq : j < qs.length := by omega
        have z2 : qs[j]? = some qs[j] := List.getElem?_eq_getElem hjq
        refine st_l0 (tv_nn (tv_of (na (ev_ix (M2 := M) (a1 _) (by intro Q E hq; simp only [↓eVar, ↓eC, ↓eBin, ↓eUn, ↓eB, ↓eTup, ↓eLst, ↓eAnd, ↓eOr, ↓eNot, ↓eIf, ↓eChain, ↓eSlice, ↓eM, ↓eStr1, ↓eIsi, ↓oNo, ↓oPart, ↓tst, ↓ftAnd, ↓ftOr, ↓ftNot, ↓ftYes, ↓args, ↓gI, ↓gI0, ↓gSubI, ↓gFdiv, ↓gMod, ↓gPow, ↓gLt, ↓gLe, ↓gGt, ↓gGe, ↓gAdd, ↓gMul, ↓gRep, ↓gIx, ↓gIsN, ↓gNotN, ↓gNeg, ↓gEqN, ↓gIn, ↓gInSeq, ↓gLen, ↓gSlice, ↓gList, ↓gTuple, ↓gMin2, ↓gMax2, ↓gStr, ↓gInt, ↓newL, ↓mAppend, ↓mInsert, ↓mPopAt, ↓mIndex, ↓gSplit, ↓gJoin, List.map_cons, List.map_nil, List.length_cons, List.length_nil, List.length_map, List.cons_append, List.nil_append, Nat.reduceAdd, Nat.reduceSub, List.getElem?_cons_zero, List.getElem?_cons_succ, List.getElem?_map, Option.map_some, List.set_cons_zero, List.set_cons_succ, isNon, seqOf, listOf, atI_nn, atI_0, atI_1, atI_2, atI_3, encNet, encSt, encRow, encR, encO, encP, nats, encT, Od.raw, if_true, if_false, ite_true, ite_false, Bool.false_eq_true, Bool.true_eq_false, Bool.not_true, Bool.not_false, decide_true, decide_false, reduceIte, eq_self, and_true, true_and, sn_set_put, sn_set_take, sn_set_add, sn_put_set, sn_put_take, sn_put_add, sn_take_set, sn_take_put, sn_take_add, sn_add_set, sn_add_put, sn_add_take]; exact hq) seqT_tup z1) (ev_ix (M2 := M) (a2 _) (by intro Q E hq; simp only [↓eVar, ↓eC, ↓eBin, ↓eUn, ↓eB, ↓eTup, ↓eLst, ↓eAnd, ↓eOr, ↓eNot, ↓eIf, ↓eChain, ↓eSlice, ↓eM, ↓eStr1, ↓eIsi, ↓oNo, ↓oPart, ↓tst, ↓ftAnd, ↓ftOr, ↓ftNot, ↓ftYes, ↓args, ↓gI, ↓gI0, ↓gSubI, ↓gFdiv, ↓gMod, ↓gPow, ↓gLt, ↓gLe, ↓gGt, ↓gGe, ↓gAdd, ↓gMul, ↓gRep, ↓gIx, ↓gIsN, ↓gNotN, ↓gNeg, ↓gEqN, ↓gIn, ↓gInSeq, ↓gLen, ↓gSlice, ↓gList, ↓gTuple, ↓gMin2, ↓gMax2, ↓gStr, ↓gInt, ↓newL, ↓mAppend, ↓mInsert, ↓mPopAt, ↓mIndex, ↓gSplit, ↓gJoin, List.map_cons, List.map_nil, List.length_cons, List.length_nil, List.length_map, List.cons_append, List.nil_append, Nat.reduceAdd, Nat.reduceSub, List.getElem?_cons_zero, List.getElem?_cons_succ, List.getElem?_map, Option.map_some, List.set_cons_zero, List.set_cons_succ, isNon, seqOf, listOf, atI_nn, atI_0, atI_1, atI_2, atI_3, encNet, encSt, encRow, encR, encO, encP, nats, encT, Od.raw, if_true, if_false, ite_true, ite_false, Bool.false_eq_true, Bool.true_eq_false, Bool.not_true, Bool.not_false, decide_true, decide_false, reduceIte, eq_self, and_true, true_and, sn_set_put, sn_set_take, sn_set_add, sn_put_set, sn_put_take, sn_put_add, sn_take_set, sn_take_put, sn_take_add, sn_add_set, sn_add_put, sn_add_take]; exact hq) hsd z2) (hqz j _ z2) ?_))) (k2 _ _ ⟨_, rfl, rfl⟩)
        have := hzz _ (List.mem_of_getElem? (getD_of (d := []) hj))
        omega
      · rintro _ _ ⟨y, rfl, rfl⟩
        exact k _ _ ⟨_, y, rfl, rfl⟩
    match i, hd2 with
    | 0, hd2 =>
      cases hd2
      exact inner 2 S.held hs rfl ⟨d2, rfl, h3⟩ l1 (by unfold Net.P at *; omega) g.hs e1
    | 1, hd2 =>
      cases hd2
      exact inner 3 S.past ps rfl ⟨d3, rfl, h4⟩ l2 (by unfold Net.P at *; omega) g.pz e2
    | (i + 2), hd2 => cases hd2
  · rintro _ _ ⟨x, y, rfl, rfl⟩
    have b1 : Ev (eBin gIx (eVar 0) (eC (.int 0))) [some (encSt S), some due, x, y] M (.tup (intL (S.places.map fun (n : Nat) => (n : Int)))) M := by rw [← nats_ints]; exact (by intro Q E hq; simp only [↓eVar, ↓eC, ↓eBin, ↓eUn, ↓eB, ↓eTup, ↓eLst, ↓eAnd, ↓eOr, ↓eNot, ↓eIf, ↓eChain, ↓eSlice, ↓eM, ↓eStr1, ↓eIsi, ↓oNo, ↓oPart, ↓tst, ↓ftAnd, ↓ftOr, ↓ftNot, ↓ftYes, ↓args, ↓gI, ↓gI0, ↓gSubI, ↓gFdiv, ↓gMod, ↓gPow, ↓gLt, ↓gLe, ↓gGt, ↓gGe, ↓gAdd, ↓gMul, ↓gRep, ↓gIx, ↓gIsN, ↓gNotN, ↓gNeg, ↓gEqN, ↓gIn, ↓gInSeq, ↓gLen, ↓gSlice, ↓gList, ↓gTuple, ↓gMin2, ↓gMax2, ↓gStr, ↓gInt, ↓newL, ↓mAppend, ↓mInsert, ↓mPopAt, ↓mIndex, ↓gSplit, ↓gJoin, List.map_cons, List.map_nil, List.length_cons, List.length_nil, List.length_map, List.cons_append, List.nil_append, Nat.reduceAdd, Nat.reduceSub, List.getElem?_cons_zero, List.getElem?_cons_succ, List.getElem?_map, Option.map_some, List.set_cons_zero, List.set_cons_succ, isNon, seqOf, listOf, atI_nn, atI_0, atI_1, atI_2, atI_3, encNet, encSt, encRow, encR, encO, encP, nats, encT, Od.raw, if_true, if_false, ite_true, ite_false, Bool.false_eq_true, Bool.true_eq_false, Bool.not_true, Bool.not_false, decide_true, decide_false, reduceIte, eq_self, and_true, true_and, sn_set_put, sn_set_take, sn_set_add, sn_put_set, sn_put_take, sn_put_add, sn_take_set, sn_take_put, sn_take_add, sn_add_set, sn_add_put, sn_add_take]; exact hq)
    have b2 : Ev (eBin gIx (eVar 1) (eC (.int 0))) [some (encSt S), some due, x, y] M d0 M := ev_ix (i := 0) (M1 := M) (by intro Q E hq; simp only [↓eVar, ↓eC, ↓eBin, ↓eUn, ↓eB, ↓eTup, ↓eLst, ↓eAnd, ↓eOr, ↓eNot, ↓eIf, ↓eChain, ↓eSlice, ↓eM, ↓eStr1, ↓eIsi, ↓oNo, ↓oPart, ↓tst, ↓ftAnd, ↓ftOr, ↓ftNot, ↓ftYes, ↓args, ↓gI, ↓gI0, ↓gSubI, ↓gFdiv, ↓gMod, ↓gPow, ↓gLt, ↓gLe, ↓gGt, ↓gGe, ↓gAdd, ↓gMul, ↓gRep, ↓gIx, ↓gIsN, ↓gNotN, ↓gNeg, ↓gEqN, ↓gIn, ↓gInSeq, ↓gLen, ↓gSlice, ↓gList, ↓gTuple, ↓gMin2, ↓gMax2, ↓gStr, ↓gInt, ↓newL, ↓mAppend, ↓mInsert, ↓mPopAt, ↓mIndex, ↓gSplit, ↓gJoin, List.map_cons, List.map_nil, List.length_cons, List.length_nil, List.length_map, List.cons_append, List.nil_append, Nat.reduceAdd, Nat.reduceSub, List.getElem?_cons_zero, List.getElem?_cons_succ, List.getElem?_map, Option.map_some, List.set_cons_zero, List.set_cons_succ, isNon, seqOf, listOf, atI_nn, atI_0, atI_1, atI_2, atI_3, encNet, encSt, encRow, encR, encO, encP, nats, encT, Od.raw, if_true, if_false, ite_true, ite_false, Bool.false_eq_true, Bool.true_eq_false, Bool.not_true, Bool.not_false, decide_true, decide_false, reduceIte, eq_self, and_true, true_and, sn_set_put, sn_set_take, sn_set_add, sn_put_set, sn_put_take, sn_put_add, sn_take_set, sn_take_put, sn_take_add, sn_add_set, sn_add_put, sn_add_take]; exact hq) (by intro Q E hq; simp only [↓eVar, ↓eC, ↓eBin, ↓eUn, ↓eB, ↓eTup, ↓eLst, ↓eAnd, ↓eOr, ↓eNot, ↓eIf, ↓eChain, ↓eSlice, ↓eM, ↓eStr1, ↓eIsi, ↓oNo, ↓oPart, ↓tst, ↓ftAnd, ↓ftOr, ↓ftNot, ↓ftYes, ↓args, ↓gI, ↓gI0, ↓gSubI, ↓gFdiv, ↓gMod, ↓gPow, ↓gLt, ↓gLe, ↓gGt, ↓gGe, ↓gAdd, ↓gMul, ↓gRep, ↓gIx, ↓gIsN, ↓gNotN, ↓gNeg, ↓gEqN, ↓gIn, ↓gInSeq, ↓gLen, ↓gSlice, ↓gList, ↓gTuple, ↓gMin2, ↓gMax2, ↓gStr, ↓gInt, ↓newL, ↓mAppend, ↓mInsert, ↓mPopAt, ↓mIndex, ↓gSplit, ↓gJoin, List.map_cons, List.map_nil, List.length_cons, List.length_nil, List.length_map, List.cons_append, List.nil_append, Nat.reduceAdd, Nat.reduceSub, List.getElem?_cons_zero, List.getElem?_cons_succ, List.getElem?_map, Option.map_some, List.set_cons_zero, List.set_cons_succ, isNon, seqOf, listOf, atI_nn, atI_0, atI_1, atI_2, atI_3, encNet, encSt, encRow, encR, encO, encP, nats, encT, Od.raw, if_true, if_false, ite_true, ite_false, Bool.false_eq_true, Bool.true_eq_false, Bool.not_true, Bool.not_false, decide_true, decide_false, reduceIte, eq_self, and_true, true_and, sn_set_put, sn_set_take, sn_set_add, sn_put_set, sn_put_take, sn_put_add, sn_take_set, sn_take_put, sn_take_add, sn_add_set, sn_add_put, sn_add_take]; exact hq) h0 rfl
    have b3 : Ev (eBin gIx (eVar 0) (eC (.int 1))) [some (encSt S), some due, x, y] M (.tup (intL S.boxes)) M := (by intro Q E hq; simp only [↓eVar, ↓eC, ↓eBin, ↓eUn, ↓eB, ↓eTup, ↓eLst, ↓eAnd, ↓eOr, ↓eNot, ↓eIf, ↓eChain, ↓eSlice, ↓eM, ↓eStr1, ↓eIsi, ↓oNo, ↓oPart, ↓tst, ↓ftAnd, ↓ftOr, ↓ftNot, ↓ftYes, ↓args, ↓gI, ↓gI0, ↓gSubI, ↓gFdiv, ↓gMod, ↓gPow, ↓gLt, ↓gLe, ↓gGt, ↓gGe, ↓gAdd, ↓gMul, ↓gRep, ↓gIx, ↓gIsN, ↓gNotN, ↓gNeg, ↓gEqN, ↓gIn, ↓gInSeq, ↓gLen, ↓gSlice, ↓gList, ↓gTuple, ↓gMin2, ↓gMax2, ↓gStr, ↓gInt, ↓newL, ↓mAppend, ↓mInsert, ↓mPopAt, ↓mIndex, ↓gSplit, ↓gJoin, List.map_cons, List.map_nil, List.length_cons, List.length_nil, List.length_map, List.cons_append, List.nil_append, Nat.reduceAdd, Nat.reduceSub, List.getElem?_cons_zero, List.getElem?_cons_succ, List.getElem?_map, Option.map_some, List.set_cons_zero, List.set_cons_succ, isNon, seqOf, listOf, atI_nn, atI_0, atI_1, atI_2, atI_3, encNet, encSt, encRow, encR, encO, encP, nats, encT, Od.raw, if_true, if_false, ite_true, ite_false, Bool.false_eq_true, Bool.true_eq_false, Bool.not_true, Bool.not_false, decide_true, decide_false, reduceIte, eq_self, and_true, true_and, sn_set_put, sn_set_take, sn_set_add, sn_put_set, sn_put_take, sn_put_add, sn_take_set, sn_take_put, sn_take_add, sn_add_set, sn_add_put, sn_add_take, intL]; exact hq)
    have b4 : Ev (eBin gIx (eVar 1) (eC (.int 1))) [some (encSt S), some due, x, y] M d1 M := ev_ix (i := 1) (M1 := M) (by intro Q E hq; simp only [↓eVar, ↓eC, ↓eBin, ↓eUn, ↓eB, ↓eTup, ↓eLst, ↓eAnd, ↓eOr, ↓eNot, ↓eIf, ↓eChain, ↓eSlice, ↓eM, ↓eStr1, ↓eIsi, ↓oNo, ↓oPart, ↓tst, ↓ftAnd, ↓ftOr, ↓ftNot, ↓ftYes, ↓args, ↓gI, ↓gI0, ↓gSubI, ↓gFdiv, ↓gMod, ↓gPow, ↓gLt, ↓gLe, ↓gGt, ↓gGe, ↓gAdd, ↓gMul, ↓gRep, ↓gIx, ↓gIsN, ↓gNotN, ↓gNeg, ↓gEqN, ↓gIn, ↓gInSeq, ↓gLen, ↓gSlice, ↓gList, ↓gTuple, ↓gMin2, ↓gMax2, ↓gStr, ↓gInt, ↓newL, ↓mAppend, ↓mInsert, ↓mPopAt, ↓mIndex, ↓gSplit, ↓gJoin, List.map_cons, List.map_nil, List.length_cons, List.length_nil, List.length_map, List.cons_append, List.nil_append, Nat.reduceAdd, Nat.reduceSub, List.getElem?_cons_zero, List.getElem?_cons_succ, List.getElem?_map, Option.map_some, List.set_cons_zero, List.set_cons_succ, isNon, seqOf, listOf, atI_nn, atI_0, atI_1, atI_2, atI_3, encNet, encSt, encRow, encR, encO, encP, nats, encT, Od.raw, if_true, if_false, ite_true, ite_false, Bool.false_eq_true, Bool.true_eq_false, Bool.not_true, Bool.not_false, decide_true, decide_false, reduceIte, eq_self, and_true, true_and, sn_set_put, sn_set_take, sn_set_add, sn_put_set, sn_put_take, sn_put_add, sn_take_set, sn_take_put, sn_take_add, sn_add_set, sn_add_put, sn_add_take]; exact hq) (by intro Q E hq; simp only [↓eVar, ↓eC, ↓eBin, ↓eUn, ↓eB, ↓eTup, ↓eLst, ↓eAnd, ↓eOr, ↓eNot, ↓eIf, ↓eChain, ↓eSlice, ↓eM, ↓eStr1, ↓eIsi, ↓oNo, ↓oPart, ↓tst, ↓ftAnd, ↓ftOr, ↓ftNot, ↓ftYes, ↓args, ↓gI, ↓gI0, ↓gSubI, ↓gFdiv, ↓gMod, ↓gPow, ↓gLt, ↓gLe, ↓gGt, ↓gGe, ↓gAdd, ↓gMul, ↓gRep, ↓gIx, ↓gIsN, ↓gNotN, ↓gNeg, ↓gEqN, ↓gIn, ↓gInSeq, ↓gLen, ↓gSlice, ↓gList, ↓gTuple, ↓gMin2, ↓gMax2, ↓gStr, ↓gInt, ↓newL, ↓mAppend, ↓mInsert, ↓mPopAt, ↓mIndex, ↓gSplit, ↓gJoin, List.map_cons, List.map_nil, List.length_cons, List.length_nil, List.length_map, List.cons_append, List.nil_append, Nat.reduceAdd, Nat.reduceSub, List.getElem?_cons_zero, List.getElem?_cons_succ, List.getElem?_map, Option.map_some, List.set_cons_zero, List.set_cons_succ, isNon, seqOf, listOf, atI_nn, atI_0, atI_1, atI_2, atI_3, encNet, encSt, encRow, encR, encO, encP, nats, encT, Od.raw, if_true, if_false, ite_true, ite_false, Bool.false_eq_true, Bool.true_eq_false, Bool.not_true, Bool.not_false, decide_true, decide_false, reduceIte, eq_self, and_true, true_and, sn_set_put, sn_set_take, sn_set_add, sn_put_set, sn_put_take, sn_put_add, sn_take_set, sn_take_put, sn_take_add, sn_add_set, sn_add_put, sn_add_take]; exact hq) h0 rfl
    refine st_ret (ev_and1 (na b1 b2 (by rw [← nats_ints]; exact h1) ?_) (na b3 b4 h2 ?_)) hq
    · rw [List.length_map, g.pl]; unfold Net.W at *; omega
    · rw [g.bx]; unfold Net.W at *; omega
end DL
namespace DL
open PySem PySem.Spec PyProof.Rows L2

section
variable {f g e : FE} {ds : DS} {M M1 M2 : Sto} {d y : D} {xs ys : List D} {i : Nat} {z : Int}
/-- a comprehension over a sequence -/
theorem ev_lcm (he : Ev f ds M d M) (h : SeqT M d xs) (hl : xs.length = ys.length) (hs : xs.length ≤ 10000000) (hel : ∀ (k : Nat) (x y : D), xs[k]? = some x → ys[k]? = some y → Ev e ((ds.set i none).set i (some x)) M y M) : Ev (eLc false (iSeqD f) [i] (putNm i) ftYes e) ds M (.lst ys) M := by
  obtain ⟨ok, h1, h2⟩ := iv_seqT he h
  exact ev_lc (acc := ys) (M2 := M) h1 (million hs) (fun Q q => lc_get (h2 M h) xs ys [] hl hel q) (fun Q q => q)
theorem ev_tuple (he : Ev f ds M d M1) (h : SeqT M1 d xs) : Ev (eB gTuple [f]) ds M (.tup xs) M1 := by
  intro Q E q
  unfold eB args
  refine he _ _ ?_
  rcases h with h | h | ⟨n, h, e⟩ <;> subst h
  · simp only [↓eVar, ↓eC, ↓eBin, ↓eUn, ↓eB, ↓eTup, ↓eLst, ↓eAnd, ↓eOr, ↓eNot, ↓eIf, ↓eChain, ↓eSlice, ↓eM, ↓eStr1, ↓eIsi, ↓oNo, ↓oPart, ↓tst, ↓ftAnd, ↓ftOr, ↓ftNot, ↓ftYes, ↓args, ↓gI, ↓gI0, ↓gSubI, ↓gFdiv, ↓gMod, ↓gPow, ↓gLt, ↓gLe, ↓gGt, ↓gGe, ↓gAdd, ↓gMul, ↓gRep, ↓gIx, ↓gIsN, ↓gNotN, ↓gNeg, ↓gEqN, ↓gIn, ↓gInSeq, ↓gLen, ↓gSlice, ↓gList, ↓gTuple, ↓gMin2, ↓gMax2, ↓gStr, ↓gInt, ↓newL, ↓mAppend, ↓mInsert, ↓mPopAt, ↓mIndex, ↓gSplit, ↓gJoin, List.map_cons, List.map_nil, List.length_cons, List.length_nil, List.length_map, List.cons_append, List.nil_append, Nat.reduceAdd, Nat.reduceSub, List.getElem?_cons_zero, List.getElem?_cons_succ, List.getElem?_map, Option.map_some, List.set_cons_zero, List.set_cons_succ, isNon, seqOf, listOf, atI_nn, atI_0, atI_1, atI_2, atI_3, encNet, encSt, encRow, encR, encO, encP, nats, encT, Od.raw, if_true, if_false, ite_true, ite_false, Bool.false_eq_true, Bool.true_eq_false, Bool.not_true, Bool.not_false, decide_true, decide_false, reduceIte, eq_self, and_true, true_and, sn_set_put, sn_set_take, sn_set_add, sn_put_set, sn_put_take, sn_put_add, sn_take_set, sn_take_put, sn_take_add, sn_add_set, sn_add_put, sn_add_take]
    exact q
  · simp only [↓eVar, ↓eC, ↓eBin, ↓eUn, ↓eB, ↓eTup, ↓eLst, ↓eAnd, ↓eOr, ↓eNot, ↓eIf, ↓eChain, ↓eSlice, ↓eM, ↓eStr1, ↓eIsi, ↓oNo, ↓oPart, ↓tst, ↓ftAnd, ↓ftOr, ↓ftNot, ↓ftYes, ↓args, ↓gI, ↓gI0, ↓gSubI, ↓gFdiv, ↓gMod, ↓gPow, ↓gLt, ↓gLe, ↓gGt, ↓gGe, ↓gAdd, ↓gMul, ↓gRep, ↓gIx, ↓gIsN, ↓gNotN, ↓gNeg, ↓gEqN, ↓gIn, ↓gInSeq, ↓gLen, ↓gSlice, ↓gList, ↓gTuple, ↓gMin2, ↓gMax2, ↓gStr, ↓gInt, ↓newL, ↓mAppend, ↓mInsert, ↓mPopAt, ↓mIndex, ↓gSplit, ↓gJoin, List.map_cons, List.map_nil, List.length_cons, List.length_nil, List.length_map, List.cons_append, List.nil_append, Nat.reduceAdd, Nat.reduceSub, List.getElem?_cons_zero, List.getElem?_cons_succ, List.getElem?_map, Option.map_some, List.set_cons_zero, List.set_cons_succ, isNon, seqOf, listOf, atI_nn, atI_0, atI_1, atI_2, atI_3, encNet, encSt, encRow, encR, encO, encP, nats, encT, Od.raw, if_true, if_false, ite_true, ite_false, Bool.false_eq_true, Bool.true_eq_false, Bool.not_true, Bool.not_false, decide_true, decide_false, reduceIte, eq_self, and_true, true_and, sn_set_put, sn_set_take, sn_set_add, sn_put_set, sn_put_take, sn_put_add, sn_take_set, sn_take_put, sn_take_add, sn_add_set, sn_add_put, sn_add_take]
    exact q
  · simp only [↓eVar, ↓eC, ↓eBin, ↓eUn, ↓eB, ↓eTup, ↓eLst, ↓eAnd, ↓eOr, ↓eNot, ↓eIf, ↓eChain, ↓eSlice, ↓eM, ↓eStr1, ↓eIsi, ↓oNo, ↓oPart, ↓tst, ↓ftAnd, ↓ftOr, ↓ftNot, ↓ftYes, ↓args, ↓gI, ↓gI0, ↓gSubI, ↓gFdiv, ↓gMod, ↓gPow, ↓gLt, ↓gLe, ↓gGt, ↓gGe, ↓gAdd, ↓gMul, ↓gRep, ↓gIx, ↓gIsN, ↓gNotN, ↓gNeg, ↓gEqN, ↓gIn, ↓gInSeq, ↓gLen, ↓gSlice, ↓gList, ↓gTuple, ↓gMin2, ↓gMax2, ↓gStr, ↓gInt, ↓newL, ↓mAppend, ↓mInsert, ↓mPopAt, ↓mIndex, ↓gSplit, ↓gJoin, List.map_cons, List.map_nil, List.length_cons, List.length_nil, List.length_map, List.cons_append, List.nil_append, Nat.reduceAdd, Nat.reduceSub, List.getElem?_cons_zero, List.getElem?_cons_succ, List.getElem?_map, Option.map_some, List.set_cons_zero, List.set_cons_succ, isNon, seqOf, listOf, atI_nn, atI_0, atI_1, atI_2, atI_3, encNet, encSt, encRow, encR, encO, encP, nats, encT, Od.raw, if_true, if_false, ite_true, ite_false, Bool.false_eq_true, Bool.true_eq_false, Bool.not_true, Bool.not_false, decide_true, decide_false, reduceIte, eq_self, and_true, true_and, sn_set_put, sn_set_take, sn_set_add, sn_put_set, sn_put_take, sn_put_add, sn_take_set, sn_take_put, sn_take_add, sn_add_set, sn_add_put, sn_add_take, e]
    exact q
theorem ev_list (he : Ev f ds M d M1) (h : SeqT M1 d xs) : Ev (eB (gList false) [f]) ds M (.lst xs) M1 := by
  intro Q E q
  unfold eB args
  refine he _ _ ?_
  rcases h with h | h | ⟨n, h, e⟩ <;> subst h
  · simp only [↓eVar, ↓eC, ↓eBin, ↓eUn, ↓eB, ↓eTup, ↓eLst, ↓eAnd, ↓eOr, ↓eNot, ↓eIf, ↓eChain, ↓eSlice, ↓eM, ↓eStr1, ↓eIsi, ↓oNo, ↓oPart, ↓tst, ↓ftAnd, ↓ftOr, ↓ftNot, ↓ftYes, ↓args, ↓gI, ↓gI0, ↓gSubI, ↓gFdiv, ↓gMod, ↓gPow, ↓gLt, ↓gLe, ↓gGt, ↓gGe, ↓gAdd, ↓gMul, ↓gRep, ↓gIx, ↓gIsN, ↓gNotN, ↓gNeg, ↓gEqN, ↓gIn, ↓gInSeq, ↓gLen, ↓gSlice, ↓gList, ↓gTuple, ↓gMin2, ↓gMax2, ↓gStr, ↓gInt, ↓newL, ↓mAppend, ↓mInsert, ↓mPopAt, ↓mIndex, ↓gSplit, ↓gJoin, List.map_cons, List.map_nil, List.length_cons, List.length_nil, List.length_map, List.cons_append, List.nil_append, Nat.reduceAdd, Nat.reduceSub, List.getElem?_cons_zero, List.getElem?_cons_succ, List.getElem?_map, Option.map_some, List.set_cons_zero, List.set_cons_succ, isNon, seqOf, listOf, atI_nn, atI_0, atI_1, atI_2, atI_3, encNet, encSt, encRow, encR, encO, encP, nats, encT, Od.raw, if_true, if_false, ite_true, ite_false, Bool.false_eq_true, Bool.true_eq_false, Bool.not_true, Bool.not_false, decide_true, decide_false, reduceIte, eq_self, and_true, true_and, sn_set_put, sn_set_take, sn_set_add, sn_put_set, sn_put_take, sn_put_add, sn_take_set, sn_take_put, sn_take_add, sn_add_set, sn_add_put, sn_add_take, newL]
    exact q
  · simp only [↓eVar, ↓eC, ↓eBin, ↓eUn, ↓eB, ↓eTup, ↓eLst, ↓eAnd, ↓eOr, ↓eNot, ↓eIf, ↓eChain, ↓eSlice, ↓eM, ↓eStr1, ↓eIsi, ↓oNo, ↓oPart, ↓tst, ↓ftAnd, ↓ftOr, ↓ftNot, ↓ftYes, ↓args, ↓gI, ↓gI0, ↓gSubI, ↓gFdiv, ↓gMod, ↓gPow, ↓gLt, ↓gLe, ↓gGt, ↓gGe, ↓gAdd, ↓gMul, ↓gRep, ↓gIx, ↓gIsN, ↓gNotN, ↓gNeg, ↓gEqN, ↓gIn, ↓gInSeq, ↓gLen, ↓gSlice, ↓gList, ↓gTuple, ↓gMin2, ↓gMax2, ↓gStr, ↓gInt, ↓newL, ↓mAppend, ↓mInsert, ↓mPopAt, ↓mIndex, ↓gSplit, ↓gJoin, List.map_cons, List.map_nil, List.length_cons, List.length_nil, List.length_map, List.cons_append, List.nil_append, Nat.reduceAdd, Nat.reduceSub, List.getElem?_cons_zero, List.getElem?_cons_succ, List.getElem?_map, Option.map_some, List.set_cons_zero, List.set_cons_succ, isNon, seqOf, listOf, atI_nn, atI_0, atI_1, atI_2, atI_3, encNet, encSt, encRow, encR, encO, encP, nats, encT, Od.raw, if_true, if_false, ite_true, ite_false, Bool.false_eq_true, Bool.true_eq_false, Bool.not_true, Bool.not_false, decide_true, decide_false, reduceIte, eq_self, and_true, true_and, sn_set_put, sn_set_take, sn_set_add, sn_put_set, sn_put_take, sn_put_add, sn_take_set, sn_take_put, sn_take_add, sn_add_set, sn_add_put, sn_add_take, newL]
    exact q
  · simp only [↓eVar, ↓eC, ↓eBin, ↓eUn, ↓eB, ↓eTup, ↓eLst, ↓eAnd, ↓eOr, ↓eNot, ↓eIf, ↓eChain, ↓eSlice, ↓eM, ↓eStr1, ↓eIsi, ↓oNo, ↓oPart, ↓tst, ↓ftAnd, ↓ftOr, ↓ftNot, ↓ftYes, ↓args, ↓gI, ↓gI0, ↓gSubI, ↓gFdiv, ↓gMod, ↓gPow, ↓gLt, ↓gLe, ↓gGt, ↓gGe, ↓gAdd, ↓gMul, ↓gRep, ↓gIx, ↓gIsN, ↓gNotN, ↓gNeg, ↓gEqN, ↓gIn, ↓gInSeq, ↓gLen, ↓gSlice, ↓gList, ↓gTuple, ↓gMin2, ↓gMax2, ↓gStr, ↓gInt, ↓newL, ↓mAppend, ↓mInsert, ↓mPopAt, ↓mIndex, ↓gSplit, ↓gJoin, List.map_cons, List.map_nil, List.length_cons, List.length_nil, List.length_map, List.cons_append, List.nil_append, Nat.reduceAdd, Nat.reduceSub, List.getElem?_cons_zero, List.getElem?_cons_succ, List.getElem?_map, Option.map_some, List.set_cons_zero, List.set_cons_succ, isNon, seqOf, listOf, atI_nn, atI_0, atI_1, atI_2, atI_3, encNet, encSt, encRow, encR, encO, encP, nats, encT, Od.raw, if_true, if_false, ite_true, ite_false, Bool.false_eq_true, Bool.true_eq_false, Bool.not_true, Bool.not_false, decide_true, decide_false, reduceIte, eq_self, and_true, true_and, sn_set_put, sn_set_take, sn_set_add, sn_put_set, sn_put_take, sn_put_add, sn_take_set, sn_take_put, sn_take_add, sn_add_set, sn_add_put, sn_add_take, e, newL]
    exact q
theorem ev_tup2 (hf : Ev f ds M d M1) (hg : Ev g ds M1 y M2) : Ev (eTup [f, g]) ds M (.tup [d, y]) M2 := by
  intro Q E q
  unfold eTup args args args
  exact hf _ _ (hg _ _ q)
end
theorem rep_get {α : Type} {n k : Nat} {a b : α} (h : (List.replicate n a)[k]? = some b) : b = a := (List.mem_replicate.mp (List.mem_of_getElem? h)).2
def beg (N : Net) : Sta := ⟨List.replicate N.W 0, List.replicate N.W 0, List.replicate N.P [], List.replicate N.P []⟩
def G_begin : GS := fun ds M Q E => ∃ N, ds = [encNet N] ∧ NetOk N ∧ Q (encSt (beg N)) M
theorem sem_begin : ∀ ds M Q E, G_begin ds M Q E → f_begin (exits false M Q E) (startD 5 ds) M := by
  rintro ds M Q E ⟨N, rfl, ok, hq⟩
  unfold f_begin
  simp only [startD, List.map_cons, List.map_nil, List.length_cons, List.length_nil, List.replicate, List.cons_append, List.nil_append, Nat.reduceAdd, Nat.reduceSub]
  have hf := ok.fewP
  have hw := ok.few
  have z1 : nats (List.replicate N.W 0) = List.replicate N.W (.int 0) := by unfold nats; rw [List.map_replicate]; rfl
  have z2 : (List.replicate N.W (0 : Int)).map D.int = List.replicate N.W (.int 0) := by rw [List.map_replicate]
  have z3 : (List.replicate N.P ([] : List Int)).map encT = List.replicate N.P (.tup []) := by rw [List.map_replicate]; rfl
  refine st_set (M1 := M) (d := .tup (List.replicate N.W (.int 0))) (ev_tuple (M1 := M) (ev_lcm (d := .lst (N.rows.map encRow)) (xs := N.rows.map encRow) (ys := List.replicate N.W (.int 0)) (by intro Q E hq; simp only [↓eVar, ↓eC, ↓eBin, ↓eUn, ↓eB, ↓eTup, ↓eLst, ↓eAnd, ↓eOr, ↓eNot, ↓eIf, ↓eChain, ↓eSlice, ↓eM, ↓eStr1, ↓eIsi, ↓oNo, ↓oPart, ↓tst, ↓ftAnd, ↓ftOr, ↓ftNot, ↓ftYes, ↓args, ↓gI, ↓gI0, ↓gSubI, ↓gFdiv, ↓gMod, ↓gPow, ↓gLt, ↓gLe, ↓gGt, ↓gGe, ↓gAdd, ↓gMul, ↓gRep, ↓gIx, ↓gIsN, ↓gNotN, ↓gNeg, ↓gEqN, ↓gIn, ↓gInSeq, ↓gLen, ↓gSlice, ↓gList, ↓gTuple, ↓gMin2, ↓gMax2, ↓gStr, ↓gInt, ↓newL, ↓mAppend, ↓mInsert, ↓mPopAt, ↓mIndex, ↓gSplit, ↓gJoin, List.map_cons, List.map_nil, List.length_cons, List.length_nil, List.length_map, List.cons_append, List.nil_append, Nat.reduceAdd, Nat.reduceSub, List.getElem?_cons_zero, List.getElem?_cons_succ, List.getElem?_map, Option.map_some, List.set_cons_zero, List.set_cons_succ, isNon, seqOf, listOf, atI_nn, atI_0, atI_1, atI_2, atI_3, encNet, encSt, encRow, encR, encO, encP, nats, encT, Od.raw, if_true, if_false, ite_true, ite_false, Bool.false_eq_true, Bool.true_eq_false, Bool.not_true, Bool.not_false, decide_true, decide_false, reduceIte, eq_self, and_true, true_and, sn_set_put, sn_set_take, sn_set_add, sn_put_set, sn_put_take, sn_put_add, sn_take_set, sn_take_put, sn_take_add, sn_add_set, sn_add_put, sn_add_take]; exact hq) seqT_lst (by rw [List.length_map, List.length_replicate]; rfl) (by rw [List.length_map]; unfold Net.W at hw; omega) (fun k x y h1 h2 => ?_)) seqT_lst) ?_
  · rw [rep_get h2]
    exact (by intro Q E hq; simp only [↓eVar, ↓eC, ↓eBin, ↓eUn, ↓eB, ↓eTup, ↓eLst, ↓eAnd, ↓eOr, ↓eNot, ↓eIf, ↓eChain, ↓eSlice, ↓eM, ↓eStr1, ↓eIsi, ↓oNo, ↓oPart, ↓tst, ↓ftAnd, ↓ftOr, ↓ftNot, ↓ftYes, ↓args, ↓gI, ↓gI0, ↓gSubI, ↓gFdiv, ↓gMod, ↓gPow, ↓gLt, ↓gLe, ↓gGt, ↓gGe, ↓gAdd, ↓gMul, ↓gRep, ↓gIx, ↓gIsN, ↓gNotN, ↓gNeg, ↓gEqN, ↓gIn, ↓gInSeq, ↓gLen, ↓gSlice, ↓gList, ↓gTuple, ↓gMin2, ↓gMax2, ↓gStr, ↓gInt, ↓newL, ↓mAppend, ↓mInsert, ↓mPopAt, ↓mIndex, ↓gSplit, ↓gJoin, List.map_cons, List.map_nil, List.length_cons, List.length_nil, List.length_map, List.cons_append, List.nil_append, Nat.reduceAdd, Nat.reduceSub, List.getElem?_cons_zero, List.getElem?_cons_succ, List.getElem?_map, Option.map_some, List.set_cons_zero, List.set_cons_succ, isNon, seqOf, listOf, atI_nn, atI_0, atI_1, atI_2, atI_3, encNet, encSt, encRow, encR, encO, encP, nats, encT, Od.raw, if_true, if_false, ite_true, ite_false, Bool.false_eq_true, Bool.true_eq_false, Bool.not_true, Bool.not_false, decide_true, decide_false, reduceIte, eq_self, and_true, true_and, sn_set_put, sn_set_take, sn_set_add, sn_put_set, sn_put_take, sn_put_add, sn_take_set, sn_take_put, sn_take_add, sn_add_set, sn_add_put, sn_add_take]; exact hq)
  refine st_set (M1 := M) (d := .tup (List.replicate N.P (.tup []))) (ev_tuple (M1 := M) (ev_lcm (d := .lst (N.pipes.map encP)) (xs := N.pipes.map encP) (ys := List.replicate N.P (.tup [])) (by intro Q E hq; simp only [↓eVar, ↓eC, ↓eBin, ↓eUn, ↓eB, ↓eTup, ↓eLst, ↓eAnd, ↓eOr, ↓eNot, ↓eIf, ↓eChain, ↓eSlice, ↓eM, ↓eStr1, ↓eIsi, ↓oNo, ↓oPart, ↓tst, ↓ftAnd, ↓ftOr, ↓ftNot, ↓ftYes, ↓args, ↓gI, ↓gI0, ↓gSubI, ↓gFdiv, ↓gMod, ↓gPow, ↓gLt, ↓gLe, ↓gGt, ↓gGe, ↓gAdd, ↓gMul, ↓gRep, ↓gIx, ↓gIsN, ↓gNotN, ↓gNeg, ↓gEqN, ↓gIn, ↓gInSeq, ↓gLen, ↓gSlice, ↓gList, ↓gTuple, ↓gMin2, ↓gMax2, ↓gStr, ↓gInt, ↓newL, ↓mAppend, ↓mInsert, ↓mPopAt, ↓mIndex, ↓gSplit, ↓gJoin, List.map_cons, List.map_nil, List.length_cons, List.length_nil, List.length_map, List.cons_append, List.nil_append, Nat.reduceAdd, Nat.reduceSub, List.getElem?_cons_zero, List.getElem?_cons_succ, List.getElem?_map, Option.map_some, List.set_cons_zero, List.set_cons_succ, isNon, seqOf, listOf, atI_nn, atI_0, atI_1, atI_2, atI_3, encNet, encSt, encRow, encR, encO, encP, nats, encT, Od.raw, if_true, if_false, ite_true, ite_false, Bool.false_eq_true, Bool.true_eq_false, Bool.not_true, Bool.not_false, decide_true, decide_false, reduceIte, eq_self, and_true, true_and, sn_set_put, sn_set_take, sn_set_add, sn_put_set, sn_put_take, sn_put_add, sn_take_set, sn_take_put, sn_take_add, sn_add_set, sn_add_put, sn_add_take]; exact hq) seqT_lst (by rw [List.length_map, List.length_replicate]; rfl) (by rw [List.length_map]; unfold Net.P at hf; omega) (fun k x y h1 h2 => ?_)) seqT_lst) ?_
  · rw [rep_get h2]
    exact (by intro Q E hq; simp only [↓eVar, ↓eC, ↓eBin, ↓eUn, ↓eB, ↓eTup, ↓eLst, ↓eAnd, ↓eOr, ↓eNot, ↓eIf, ↓eChain, ↓eSlice, ↓eM, ↓eStr1, ↓eIsi, ↓oNo, ↓oPart, ↓tst, ↓ftAnd, ↓ftOr, ↓ftNot, ↓ftYes, ↓args, ↓gI, ↓gI0, ↓gSubI, ↓gFdiv, ↓gMod, ↓gPow, ↓gLt, ↓gLe, ↓gGt, ↓gGe, ↓gAdd, ↓gMul, ↓gRep, ↓gIx, ↓gIsN, ↓gNotN, ↓gNeg, ↓gEqN, ↓gIn, ↓gInSeq, ↓gLen, ↓gSlice, ↓gList, ↓gTuple, ↓gMin2, ↓gMax2, ↓gStr, ↓gInt, ↓newL, ↓mAppend, ↓mInsert, ↓mPopAt, ↓mIndex, ↓gSplit, ↓gJoin, List.map_cons, List.map_nil, List.length_cons, List.length_nil, List.length_map, List.cons_append, List.nil_append, Nat.reduceAdd, Nat.reduceSub, List.getElem?_cons_zero, List.getElem?_cons_succ, List.getElem?_map, Option.map_some, List.set_cons_zero, List.set_cons_succ, isNon, seqOf, listOf, atI_nn, atI_0, atI_1, atI_2, atI_3, encNet, encSt, encRow, encR, encO, encP, nats, encT, Od.raw, if_true, if_false, ite_true, ite_false, Bool.false_eq_true, Bool.true_eq_false, Bool.not_true, Bool.not_false, decide_true, decide_false, reduceIte, eq_self, and_true, true_and, sn_set_put, sn_set_take, sn_set_add, sn_put_set, sn_put_take, sn_put_add, sn_take_set, sn_take_put, sn_take_add, sn_add_set, sn_add_put, sn_add_take]; exact hq)
  refine st_ret (d := encSt (beg N)) (M1 := M) ?_ hq
  unfold encSt beg
  simp only [z1, z2, z3]
  exact (by intro Q E hq; simp only [↓eVar, ↓eC, ↓eBin, ↓eUn, ↓eB, ↓eTup, ↓eLst, ↓eAnd, ↓eOr, ↓eNot, ↓eIf, ↓eChain, ↓eSlice, ↓eM, ↓eStr1, ↓eIsi, ↓oNo, ↓oPart, ↓tst, ↓ftAnd, ↓ftOr, ↓ftNot, ↓ftYes, ↓args, ↓gI, ↓gI0, ↓gSubI, ↓gFdiv, ↓gMod, ↓gPow, ↓gLt, ↓gLe, ↓gGt, ↓gGe, ↓gAdd, ↓gMul, ↓gRep, ↓gIx, ↓gIsN, ↓gNotN, ↓gNeg, ↓gEqN, ↓gIn, ↓gInSeq, ↓gLen, ↓gSlice, ↓gList, ↓gTuple, ↓gMin2, ↓gMax2, ↓gStr, ↓gInt, ↓newL, ↓mAppend, ↓mInsert, ↓mPopAt, ↓mIndex, ↓gSplit, ↓gJoin, List.map_cons, List.map_nil, List.length_cons, List.length_nil, List.length_map, List.cons_append, List.nil_append, Nat.reduceAdd, Nat.reduceSub, List.getElem?_cons_zero, List.getElem?_cons_succ, List.getElem?_map, Option.map_some, List.set_cons_zero, List.set_cons_succ, isNon, seqOf, listOf, atI_nn, atI_0, atI_1, atI_2, atI_3, encNet, encSt, encRow, encR, encO, encP, nats, encT, Od.raw, if_true, if_false, ite_true, ite_false, Bool.false_eq_true, Bool.true_eq_false, Bool.not_true, Bool.not_false, decide_true, decide_false, reduceIte, eq_self, and_true, true_and, sn_set_put, sn_set_take, sn_set_add, sn_put_set, sn_put_take, sn_put_add, sn_take_set, sn_take_put, sn_take_add, sn_add_set, sn_add_put, sn_add_take]; exact hq)
theorem beg_shp {N : Net} : Shp N (beg N) := ⟨List.length_replicate, List.length_replicate, List.length_replicate, List.length_replicate⟩
theorem left_le {N : Net} {S : Sta} (ok : NetOk N) : left N S ≤ 1000 * N.W := by
  unfold left
  have h : ∀ n, n ≤ N.W → ((List.range n).map fun w => (N.row w).length - S.pl w).sum ≤ 1000 * n := by
    intro n
    induction n with
    | zero => intro _; exact Nat.le_refl _
    | succ n ih =>
      intro hn
      rw [List.range_succ, List.map_append, List.sum_append]
      have h1 := ih (by omega)
      have h2 := ok.short _ (row_mem (N := N) (w := n) (by omega))
      simp
      omega
  exact h _ (Nat.le_refl _)
theorem beg_good {N : Net} (md : Made N) : GoodL N (beg N) := by
  have ok := md.ok
  have hl := left_le (S := beg N) ok
  have hw := md.few
  refine ⟨⟨ok, beg_shp.pl, beg_shp.bx, beg_shp.hl, beg_shp.ps, fun xs h => ?_, fun xs h => ?_⟩, fun xs h => ?_⟩
  · rw [(List.mem_replicate.mp h).2]; exact Nat.zero_le _
  · rw [(List.mem_replicate.mp h).2]; exact Nat.zero_le _
  · rw [(List.mem_replicate.mp h).2]
    show 0 + left N (beg N) ≤ _
    omega
def encWho : Option Nat → D
  | none => .non
  | some w => .int (w : Nat)
def G_who_can : GS := fun ds M Q E => ∃ N S, ds = [encNet N, encSt S] ∧ Good N S ∧ Q (encWho (whoN N S)) M
theorem find_some_at {p : Nat → Bool} {n i : Nat} (hi : i < n) (h : p i = true) (h2 : ∀ j, j < i → p j = false) : (List.range n).find? p = some i := by
  rw [List.find?_eq_some_iff_getElem]
  refine ⟨h, i, by simpa using hi, by simp, fun j hj => ?_⟩
  rw [List.getElem_range, h2 j hj]
  rfl
theorem sem_who_can : ∀ ds M Q E, G_who_can ds M Q E → f_who_can G_can_step (exits false M Q E) (startD 3 ds) M := by
  rintro ds M Q E ⟨N, S, rfl, g, hq⟩
  unfold f_who_can
  simp only [startD, List.map_cons, List.map_nil, List.length_cons, List.length_nil, List.replicate, List.cons_append, List.nil_append, Nat.reduceAdd, Nat.reduceSub]
  have hw := g.ok.few
  have lw : (N.rows.map encRow).length = N.W := by rw [List.length_map]; rfl
  refine st_forI (iv_rng (j := N.W) (by rw [← lw]; exact ev_len (M1 := M) (d := .lst (N.rows.map encRow)) (by intro Q E hq; simp only [↓eVar, ↓eC, ↓eBin, ↓eUn, ↓eB, ↓eTup, ↓eLst, ↓eAnd, ↓eOr, ↓eNot, ↓eIf, ↓eChain, ↓eSlice, ↓eM, ↓eStr1, ↓eIsi, ↓oNo, ↓oPart, ↓tst, ↓ftAnd, ↓ftOr, ↓ftNot, ↓ftYes, ↓args, ↓gI, ↓gI0, ↓gSubI, ↓gFdiv, ↓gMod, ↓gPow, ↓gLt, ↓gLe, ↓gGt, ↓gGe, ↓gAdd, ↓gMul, ↓gRep, ↓gIx, ↓gIsN, ↓gNotN, ↓gNeg, ↓gEqN, ↓gIn, ↓gInSeq, ↓gLen, ↓gSlice, ↓gList, ↓gTuple, ↓gMin2, ↓gMax2, ↓gStr, ↓gInt, ↓newL, ↓mAppend, ↓mInsert, ↓mPopAt, ↓mIndex, ↓gSplit, ↓gJoin, List.map_cons, List.map_nil, List.length_cons, List.length_nil, List.length_map, List.cons_append, List.nil_append, Nat.reduceAdd, Nat.reduceSub, List.getElem?_cons_zero, List.getElem?_cons_succ, List.getElem?_map, Option.map_some, List.set_cons_zero, List.set_cons_succ, isNon, seqOf, listOf, atI_nn, atI_0, atI_1, atI_2, atI_3, encNet, encSt, encRow, encR, encO, encP, nats, encT, Od.raw, if_true, if_false, ite_true, ite_false, Bool.false_eq_true, Bool.true_eq_false, Bool.not_true, Bool.not_false, decide_true, decide_false, reduceIte, eq_self, and_true, true_and, sn_set_put, sn_set_take, sn_set_add, sn_put_set, sn_put_take, sn_put_add, sn_take_set, sn_take_put, sn_take_add, sn_add_set, sn_add_put, sn_add_take]; exact hq) seqT_lst) (by omega)) (fun i ds M' => ∃ x, M = M' ∧ ds = [some (encNet N), some (encSt S), x] ∧ ∀ j, j < i → canN N S j = false) ⟨none, rfl, rfl, fun j h => absurd h (Nat.not_lt_zero _)⟩ (fun _ _ _ _ _ => trivial) ?_ ?_
  · rintro i d _ _ nx hd ⟨x, rfl, rfl, hi⟩ k
    obtain ⟨hi2, rfl⟩ := rngD_at hd
    have c : Ev (eCall G_can_step [(eVar 0), (eVar 1), (eVar 2)]) [some (encNet N), some (encSt S), some (.int (i : Nat))] M (.bl (canN N S i)) M := ev_call (by intro Q E hq; simp only [↓eVar, ↓eC, ↓eBin, ↓eUn, ↓eB, ↓eTup, ↓eLst, ↓eAnd, ↓eOr, ↓eNot, ↓eIf, ↓eChain, ↓eSlice, ↓eM, ↓eStr1, ↓eIsi, ↓oNo, ↓oPart, ↓tst, ↓ftAnd, ↓ftOr, ↓ftNot, ↓ftYes, ↓args, ↓gI, ↓gI0, ↓gSubI, ↓gFdiv, ↓gMod, ↓gPow, ↓gLt, ↓gLe, ↓gGt, ↓gGe, ↓gAdd, ↓gMul, ↓gRep, ↓gIx, ↓gIsN, ↓gNotN, ↓gNeg, ↓gEqN, ↓gIn, ↓gInSeq, ↓gLen, ↓gSlice, ↓gList, ↓gTuple, ↓gMin2, ↓gMax2, ↓gStr, ↓gInt, ↓newL, ↓mAppend, ↓mInsert, ↓mPopAt, ↓mIndex, ↓gSplit, ↓gJoin, List.map_cons, List.map_nil, List.length_cons, List.length_nil, List.length_map, List.cons_append, List.nil_append, Nat.reduceAdd, Nat.reduceSub, List.getElem?_cons_zero, List.getElem?_cons_succ, List.getElem?_map, Option.map_some, List.set_cons_zero, List.set_cons_succ, isNon, seqOf, listOf, atI_nn, atI_0, atI_1, atI_2, atI_3, encNet, encSt, encRow, encR, encO, encP, nats, encT, Od.raw, if_true, if_false, ite_true, ite_false, Bool.false_eq_true, Bool.true_eq_false, Bool.not_true, Bool.not_false, decide_true, decide_false, reduceIte, eq_self, and_true, true_and, sn_set_put, sn_set_take, sn_set_add, sn_put_set, sn_put_take, sn_put_add, sn_take_set, sn_take_put, sn_take_add, sn_add_set, sn_add_put, sn_add_take]; exact hq) (cs_ok g hi2)
    unfold gNm
    cases hc : canN N S i with
    | true =>
      rw [hc] at c
      refine st_l1 (tv_of c) (st_ret (d := .int (i : Nat)) (M1 := M) (by intro Q E hq; simp only [↓eVar, ↓eC, ↓eBin, ↓eUn, ↓eB, ↓eTup, ↓eLst, ↓eAnd, ↓eOr, ↓eNot, ↓eIf, ↓eChain, ↓eSlice, ↓eM, ↓eStr1, ↓eIsi, ↓oNo, ↓oPart, ↓tst, ↓ftAnd, ↓ftOr, ↓ftNot, ↓ftYes, ↓args, ↓gI, ↓gI0, ↓gSubI, ↓gFdiv, ↓gMod, ↓gPow, ↓gLt, ↓gLe, ↓gGt, ↓gGe, ↓gAdd, ↓gMul, ↓gRep, ↓gIx, ↓gIsN, ↓gNotN, ↓gNeg, ↓gEqN, ↓gIn, ↓gInSeq, ↓gLen, ↓gSlice, ↓gList, ↓gTuple, ↓gMin2, ↓gMax2, ↓gStr, ↓gInt, ↓newL, ↓mAppend, ↓mInsert, ↓mPopAt, ↓mIndex, ↓gSplit, ↓gJoin, List.map_cons, List.map_nil, List.length_cons, List.length_nil, List.length_map, List.cons_append, List.nil_append, Nat.reduceAdd, Nat.reduceSub, List.getElem?_cons_zero, List.getElem?_cons_succ, List.getElem?_map, Option.map_some, List.set_cons_zero, List.set_cons_succ, isNon, seqOf, listOf, atI_nn, atI_0, atI_1, atI_2, atI_3, encNet, encSt, encRow, encR, encO, encP, nats, encT, Od.raw, if_true, if_false, ite_true, ite_false, Bool.false_eq_true, Bool.true_eq_false, Bool.not_true, Bool.not_false, decide_true, decide_false, reduceIte, eq_self, and_true, true_and, sn_set_put, sn_set_take, sn_set_add, sn_put_set, sn_put_take, sn_put_add, sn_take_set, sn_take_put, sn_take_add, sn_add_set, sn_add_put, sn_add_take]; exact hq) ?_)
      have : whoN N S = some i := find_some_at hi2 hc hi
      rw [this] at hq
      exact hq
    | false =>
      rw [hc] at c
      refine st_l0 (tv_of c) (k _ _ ⟨_, rfl, rfl, fun j hj => ?_⟩)
      by_cases e : j = i
      · subst e; exact hc
      · exact hi j (by omega)
  · rintro _ _ ⟨x, rfl, rfl, hi⟩
    rw [rngD_len] at hi
    have : whoN N S = none := by
      unfold whoN
      rw [List.find?_eq_none]
      intro w hw
      rw [hi w (List.mem_range.mp hw)]
      exact Bool.false_ne_true
    rw [this] at hq
    exact st_ret (by intro Q E hq; simp only [↓eVar, ↓eC, ↓eBin, ↓eUn, ↓eB, ↓eTup, ↓eLst, ↓eAnd, ↓eOr, ↓eNot, ↓eIf, ↓eChain, ↓eSlice, ↓eM, ↓eStr1, ↓eIsi, ↓oNo, ↓oPart, ↓tst, ↓ftAnd, ↓ftOr, ↓ftNot, ↓ftYes, ↓args, ↓gI, ↓gI0, ↓gSubI, ↓gFdiv, ↓gMod, ↓gPow, ↓gLt, ↓gLe, ↓gGt, ↓gGe, ↓gAdd, ↓gMul, ↓gRep, ↓gIx, ↓gIsN, ↓gNotN, ↓gNeg, ↓gEqN, ↓gIn, ↓gInSeq, ↓gLen, ↓gSlice, ↓gList, ↓gTuple, ↓gMin2, ↓gMax2, ↓gStr, ↓gInt, ↓newL, ↓mAppend, ↓mInsert, ↓mPopAt, ↓mIndex, ↓gSplit, ↓gJoin, List.map_cons, List.map_nil, List.length_cons, List.length_nil, List.length_map, List.cons_append, List.nil_append, Nat.reduceAdd, Nat.reduceSub, List.getElem?_cons_zero, List.getElem?_cons_succ, List.getElem?_map, Option.map_some, List.set_cons_zero, List.set_cons_succ, isNon, seqOf, listOf, atI_nn, atI_0, atI_1, atI_2, atI_3, encNet, encSt, encRow, encR, encO, encP, nats, encT, Od.raw, if_true, if_false, ite_true, ite_false, Bool.false_eq_true, Bool.true_eq_false, Bool.not_true, Bool.not_false, decide_true, decide_false, reduceIte, eq_self, and_true, true_and, sn_set_put, sn_set_take, sn_set_add, sn_put_set, sn_put_take, sn_put_add, sn_take_set, sn_take_put, sn_take_add, sn_add_set, sn_add_put, sn_add_take]; exact hq) hq
def G_settled : GS := fun ds M Q E => ∃ N S, ds = [encNet N, encSt S] ∧ GoodL N S ∧ Wf N ∧ ∀ T, Go N S T → Still N T → Q (encSt T) M
theorem settled_while {N : Net} {M : Sto} {D' : EndsD} (wf : Wf N) (n : Nat) : ∀ S, GoodL N S → left N S = n → (∀ T, Go N S T → Still N T → D'.nx [some (encNet N), some (encSt T), some .non] M) →
    ∃ k, whileN (tst (eBin gNotN (eVar 2) (eC .non))) (sSeq (sSet 1 (eCall G_step [(eVar 0), (eVar 1), (eVar 2)])) (sSet 2 (eCall G_who_can [(eVar 0), (eVar 1)]))) k D' [some (encNet N), some (encSt S), some (encWho (whoN N S))] M := by
  induction n using Nat.strongRecOn with
  | _ n ih =>
    intro S g hl hd
    cases e : whoN N S with
    | none =>
      refine ⟨1, ?_⟩
      exact (show Tv (tst (eBin gNotN (eVar 2) (eC .non))) [some (encNet N), some (encSt S), some (encWho none)] M false M from by intro Q E hq; simp only [↓eVar, ↓eC, ↓eBin, ↓eUn, ↓eB, ↓eTup, ↓eLst, ↓eAnd, ↓eOr, ↓eNot, ↓eIf, ↓eChain, ↓eSlice, ↓eM, ↓eStr1, ↓eIsi, ↓oNo, ↓oPart, ↓tst, ↓ftAnd, ↓ftOr, ↓ftNot, ↓ftYes, ↓args, ↓gI, ↓gI0, ↓gSubI, ↓gFdiv, ↓gMod, ↓gPow, ↓gLt, ↓gLe, ↓gGt, ↓gGe, ↓gAdd, ↓gMul, ↓gRep, ↓gIx, ↓gIsN, ↓gNotN, ↓gNeg, ↓gEqN, ↓gIn, ↓gInSeq, ↓gLen, ↓gSlice, ↓gList, ↓gTuple, ↓gMin2, ↓gMax2, ↓gStr, ↓gInt, ↓newL, ↓mAppend, ↓mInsert, ↓mPopAt, ↓mIndex, ↓gSplit, ↓gJoin, List.map_cons, List.map_nil, List.length_cons, List.length_nil, List.length_map, List.cons_append, List.nil_append, Nat.reduceAdd, Nat.reduceSub, List.getElem?_cons_zero, List.getElem?_cons_succ, List.getElem?_map, Option.map_some, List.set_cons_zero, List.set_cons_succ, isNon, seqOf, listOf, atI_nn, atI_0, atI_1, atI_2, atI_3, encNet, encSt, encRow, encR, encO, encP, nats, encT, Od.raw, if_true, if_false, ite_true, ite_false, Bool.false_eq_true, Bool.true_eq_false, Bool.not_true, Bool.not_false, decide_true, decide_false, reduceIte, eq_self, and_true, true_and, sn_set_put, sn_set_take, sn_set_add, sn_put_set, sn_put_take, sn_put_add, sn_take_set, sn_take_put, sn_take_add, sn_add_set, sn_add_put, sn_add_take, encWho]; exact hq) _ _ (hd S (.refl _) (who_none e))
    | some w =>
      have hw := who_some e
      have lw := can_lt hw
      have hl2 := left_step g.g.shp hw
      have g2 := g.step wf hw
      obtain ⟨k, hk⟩ := ih (left N (stepN N S w)) (by omega) (stepN N S w) g2 rfl fun T h1 h2 => hd T (.step w hw h1) h2
      refine ⟨k + 1, ?_⟩
      refine (show Tv (tst (eBin gNotN (eVar 2) (eC .non))) [some (encNet N), some (encSt S), some (encWho (some w))] M true M from by intro Q E hq; simp only [↓eVar, ↓eC, ↓eBin, ↓eUn, ↓eB, ↓eTup, ↓eLst, ↓eAnd, ↓eOr, ↓eNot, ↓eIf, ↓eChain, ↓eSlice, ↓eM, ↓eStr1, ↓eIsi, ↓oNo, ↓oPart, ↓tst, ↓ftAnd, ↓ftOr, ↓ftNot, ↓ftYes, ↓args, ↓gI, ↓gI0, ↓gSubI, ↓gFdiv, ↓gMod, ↓gPow, ↓gLt, ↓gLe, ↓gGt, ↓gGe, ↓gAdd, ↓gMul, ↓gRep, ↓gIx, ↓gIsN, ↓gNotN, ↓gNeg, ↓gEqN, ↓gIn, ↓gInSeq, ↓gLen, ↓gSlice, ↓gList, ↓gTuple, ↓gMin2, ↓gMax2, ↓gStr, ↓gInt, ↓newL, ↓mAppend, ↓mInsert, ↓mPopAt, ↓mIndex, ↓gSplit, ↓gJoin, List.map_cons, List.map_nil, List.length_cons, List.length_nil, List.length_map, List.cons_append, List.nil_append, Nat.reduceAdd, Nat.reduceSub, List.getElem?_cons_zero, List.getElem?_cons_succ, List.getElem?_map, Option.map_some, List.set_cons_zero, List.set_cons_succ, isNon, seqOf, listOf, atI_nn, atI_0, atI_1, atI_2, atI_3, encNet, encSt, encRow, encR, encO, encP, nats, encT, Od.raw, if_true, if_false, ite_true, ite_false, Bool.false_eq_true, Bool.true_eq_false, Bool.not_true, Bool.not_false, decide_true, decide_false, reduceIte, eq_self, and_true, true_and, sn_set_put, sn_set_take, sn_set_add, sn_put_set, sn_put_take, sn_put_add, sn_take_set, sn_take_put, sn_take_add, sn_add_set, sn_add_put, sn_add_take, encWho]; exact hq) _ _ ?_
      rw [if_pos rfl]
      have c : Ev (eCall G_step [(eVar 0), (eVar 1), (eVar 2)]) [some (encNet N), some (encSt S), some (.int (w : Nat))] M (encSt (stepN N S w)) M := ev_call (by intro Q E hq; simp only [↓eVar, ↓eC, ↓eBin, ↓eUn, ↓eB, ↓eTup, ↓eLst, ↓eAnd, ↓eOr, ↓eNot, ↓eIf, ↓eChain, ↓eSlice, ↓eM, ↓eStr1, ↓eIsi, ↓oNo, ↓oPart, ↓tst, ↓ftAnd, ↓ftOr, ↓ftNot, ↓ftYes, ↓args, ↓gI, ↓gI0, ↓gSubI, ↓gFdiv, ↓gMod, ↓gPow, ↓gLt, ↓gLe, ↓gGt, ↓gGe, ↓gAdd, ↓gMul, ↓gRep, ↓gIx, ↓gIsN, ↓gNotN, ↓gNeg, ↓gEqN, ↓gIn, ↓gInSeq, ↓gLen, ↓gSlice, ↓gList, ↓gTuple, ↓gMin2, ↓gMax2, ↓gStr, ↓gInt, ↓newL, ↓mAppend, ↓mInsert, ↓mPopAt, ↓mIndex, ↓gSplit, ↓gJoin, List.map_cons, List.map_nil, List.length_cons, List.length_nil, List.length_map, List.cons_append, List.nil_append, Nat.reduceAdd, Nat.reduceSub, List.getElem?_cons_zero, List.getElem?_cons_succ, List.getElem?_map, Option.map_some, List.set_cons_zero, List.set_cons_succ, isNon, seqOf, listOf, atI_nn, atI_0, atI_1, atI_2, atI_3, encNet, encSt, encRow, encR, encO, encP, nats, encT, Od.raw, if_true, if_false, ite_true, ite_false, Bool.false_eq_true, Bool.true_eq_false, Bool.not_true, Bool.not_false, decide_true, decide_false, reduceIte, eq_self, and_true, true_and, sn_set_put, sn_set_take, sn_set_add, sn_put_set, sn_put_take, sn_put_add, sn_take_set, sn_take_put, sn_take_add, sn_add_set, sn_add_put, sn_add_take]; exact hq) (st_ok g.g lw hw)
      refine st_set c ?_
      have c2 : Ev (eCall G_who_can [(eVar 0), (eVar 1)]) [some (encNet N), some (encSt (stepN N S w)), some (.int (w : Nat))] M (encWho (whoN N (stepN N S w))) M := ev_call (xs := [encNet N, encSt (stepN N S w)]) (M1 := M) (by intro Q E hq; simp only [↓eVar, ↓eC, ↓eBin, ↓eUn, ↓eB, ↓eTup, ↓eLst, ↓eAnd, ↓eOr, ↓eNot, ↓eIf, ↓eChain, ↓eSlice, ↓eM, ↓eStr1, ↓eIsi, ↓oNo, ↓oPart, ↓tst, ↓ftAnd, ↓ftOr, ↓ftNot, ↓ftYes, ↓args, ↓gI, ↓gI0, ↓gSubI, ↓gFdiv, ↓gMod, ↓gPow, ↓gLt, ↓gLe, ↓gGt, ↓gGe, ↓gAdd, ↓gMul, ↓gRep, ↓gIx, ↓gIsN, ↓gNotN, ↓gNeg, ↓gEqN, ↓gIn, ↓gInSeq, ↓gLen, ↓gSlice, ↓gList, ↓gTuple, ↓gMin2, ↓gMax2, ↓gStr, ↓gInt, ↓newL, ↓mAppend, ↓mInsert, ↓mPopAt, ↓mIndex, ↓gSplit, ↓gJoin, List.map_cons, List.map_nil, List.length_cons, List.length_nil, List.length_map, List.cons_append, List.nil_append, Nat.reduceAdd, Nat.reduceSub, List.getElem?_cons_zero, List.getElem?_cons_succ, List.getElem?_map, Option.map_some, List.set_cons_zero, List.set_cons_succ, isNon, seqOf, listOf, atI_nn, atI_0, atI_1, atI_2, atI_3, encNet, encSt, encRow, encR, encO, encP, nats, encT, Od.raw, if_true, if_false, ite_true, ite_false, Bool.false_eq_true, Bool.true_eq_false, Bool.not_true, Bool.not_false, decide_true, decide_false, reduceIte, eq_self, and_true, true_and, sn_set_put, sn_set_take, sn_set_add, sn_put_set, sn_put_take, sn_put_add, sn_take_set, sn_take_put, sn_take_add, sn_add_set, sn_add_put, sn_add_take]; exact hq) (fun Q E q => ⟨N, _, rfl, g2.g, q⟩)
      exact c2 _ _ hk
theorem sem_settled : ∀ ds M Q E, G_settled ds M Q E → f_settled G_step G_who_can (exits false M Q E) (startD 3 ds) M := by
  rintro ds M Q E ⟨N, S, rfl, g, wf, hq⟩
  unfold f_settled
  simp only [startD, List.map_cons, List.map_nil, List.length_cons, List.length_nil, List.replicate, List.cons_append, List.nil_append, Nat.reduceAdd, Nat.reduceSub]
  refine st_set (M1 := M) (d := encWho (whoN N S)) (ev_call (xs := [encNet N, encSt S]) (M1 := M) (by intro Q E hq; simp only [↓eVar, ↓eC, ↓eBin, ↓eUn, ↓eB, ↓eTup, ↓eLst, ↓eAnd, ↓eOr, ↓eNot, ↓eIf, ↓eChain, ↓eSlice, ↓eM, ↓eStr1, ↓eIsi, ↓oNo, ↓oPart, ↓tst, ↓ftAnd, ↓ftOr, ↓ftNot, ↓ftYes, ↓args, ↓gI, ↓gI0, ↓gSubI, ↓gFdiv, ↓gMod, ↓gPow, ↓gLt, ↓gLe, ↓gGt, ↓gGe, ↓gAdd, ↓gMul, ↓gRep, ↓gIx, ↓gIsN, ↓gNotN, ↓gNeg, ↓gEqN, ↓gIn, ↓gInSeq, ↓gLen, ↓gSlice, ↓gList, ↓gTuple, ↓gMin2, ↓gMax2, ↓gStr, ↓gInt, ↓newL, ↓mAppend, ↓mInsert, ↓mPopAt, ↓mIndex, ↓gSplit, ↓gJoin, List.map_cons, List.map_nil, List.length_cons, List.length_nil, List.length_map, List.cons_append, List.nil_append, Nat.reduceAdd, Nat.reduceSub, List.getElem?_cons_zero, List.getElem?_cons_succ, List.getElem?_map, Option.map_some, List.set_cons_zero, List.set_cons_succ, isNon, seqOf, listOf, atI_nn, atI_0, atI_1, atI_2, atI_3, encNet, encSt, encRow, encR, encO, encP, nats, encT, Od.raw, if_true, if_false, ite_true, ite_false, Bool.false_eq_true, Bool.true_eq_false, Bool.not_true, Bool.not_false, decide_true, decide_false, reduceIte, eq_self, and_true, true_and, sn_set_put, sn_set_take, sn_set_add, sn_put_set, sn_put_take, sn_put_add, sn_take_set, sn_take_put, sn_take_add, sn_add_set, sn_add_put, sn_add_take]; exact hq) (fun Q E q => ⟨N, _, rfl, g.g, q⟩)) ?_
  show ∃ k, _
  refine settled_while wf (left N S) S g rfl fun T h1 h2 => ?_
  show sRet (eVar 1) (exits false M Q E) [some (encNet N), some (encSt T), some .non] M
  exact st_ret (d := encSt T) (M1 := M) (by intro Q E hq; simp only [↓eVar, ↓eC, ↓eBin, ↓eUn, ↓eB, ↓eTup, ↓eLst, ↓eAnd, ↓eOr, ↓eNot, ↓eIf, ↓eChain, ↓eSlice, ↓eM, ↓eStr1, ↓eIsi, ↓oNo, ↓oPart, ↓tst, ↓ftAnd, ↓ftOr, ↓ftNot, ↓ftYes, ↓args, ↓gI, ↓gI0, ↓gSubI, ↓gFdiv, ↓gMod, ↓gPow, ↓gLt, ↓gLe, ↓gGt, ↓gGe, ↓gAdd, ↓gMul, ↓gRep, ↓gIx, ↓gIsN, ↓gNotN, ↓gNeg, ↓gEqN, ↓gIn, ↓gInSeq, ↓gLen, ↓gSlice, ↓gList, ↓gTuple, ↓gMin2, ↓gMax2, ↓gStr, ↓gInt, ↓newL, ↓mAppend, ↓mInsert, ↓mPopAt, ↓mIndex, ↓gSplit, ↓gJoin, List.map_cons, List.map_nil, List.length_cons, List.length_nil, List.length_map, List.cons_append, List.nil_append, Nat.reduceAdd, Nat.reduceSub, List.getElem?_cons_zero, List.getElem?_cons_succ, List.getElem?_map, Option.map_some, List.set_cons_zero, List.set_cons_succ, isNon, seqOf, listOf, atI_nn, atI_0, atI_1, atI_2, atI_3, encNet, encSt, encRow, encR, encO, encP, nats, encT, Od.raw, if_true, if_false, ite_true, ite_false, Bool.false_eq_true, Bool.true_eq_false, Bool.not_true, Bool.not_false, decide_true, decide_false, reduceIte, eq_self, and_true, true_and, sn_set_put, sn_set_take, sn_set_add, sn_put_set, sn_put_take, sn_put_add, sn_take_set, sn_take_put, sn_take_add, sn_add_set, sn_add_put, sn_add_take]; exact hq) (hq T h1 h2)
end DL
namespace DL
open PySem PySem.Spec PyProof.Rows L2

/-- no place is beyond its row -/
def PlOk (N : Net) (S : Sta) : Prop := ∀ w, w < N.W → S.pl w ≤ (N.row w).length
theorem Go.plOk {N : Net} {S T : Sta} (h : Go N S T) (hs : Shp N S) (p : PlOk N S) : PlOk N T := by
  induction h with
  | refl => exact p
  | step w h _ ih =>
    refine ih (shp_stepN hs) fun v hv => ?_
    unfold stepN
    rw [pl_step hs (can_lt h)]
    have h1 := (can_iff.mp h).1
    split
    · rename_i e; subst e; omega
    · exact p v hv
theorem beg_pl {N : Net} {w : Nat} : (beg N).pl w = 0 := by
  unfold Sta.pl beg
  rw [List.getD_eq_getElem?_getD, List.getElem?_replicate]
  split <;> rfl
theorem beg_plOk {N : Net} : PlOk N (beg N) := fun w _ => by rw [beg_pl]; exact Nat.zero_le _
/-- what the first checks of a state's form see -/
theorem form_head {M : Sto} {N : Net} {S : Sta} {t : FS} {D' : EndsD} {x3 x4 : Option D} (g : Good N S) (h : ∀ x2, t D' [some (encSt S), some (encNet N), x2, x3, x4] M) :
    sSeq (sIf (ftOr (ftNot (tst (eIsi "tuple" (eVar 0)))) (tst (eBin (gEqN true) (eB gLen [(eVar 0)]) (eC (.int 4))))) (sRet (eC (.bl false))) sNext)
    (sSeq (sFor (iRng1D [(eC (.int 4))]) (gNm 2) (sIf (ftOr (ftNot (tst (eIsi "tuple" (eBin gIx (eVar 0) (eVar 2))))) (tst (eBin (gEqN true) (eB gLen [(eBin gIx (eVar 0) (eVar 2))]) (eB gLen [(eBin gIx (eVar 1) (eBin gSubI (eC (.int 1)) (eBin gFdiv (eVar 2) (eC (.int 2)))))])))) (sRet (eC (.bl false))) sNext)) t) D' [some (encSt S), some (encNet N), none, x3, x4] M := by
  refine st_ifn (tv_or0 (tv_nn (tv_of (ev_isT (M1 := M) (xs := [.tup (nats S.places), .tup (S.boxes.map D.int), .tup (S.held.map encT), .tup (S.past.map encT)]) (by intro Q E hq; simp only [↓eVar, ↓eC, ↓eBin, ↓eUn, ↓eB, ↓eTup, ↓eLst, ↓eAnd, ↓eOr, ↓eNot, ↓eIf, ↓eChain, ↓eSlice, ↓eM, ↓eStr1, ↓eIsi, ↓oNo, ↓oPart, ↓tst, ↓ftAnd, ↓ftOr, ↓ftNot, ↓ftYes, ↓args, ↓gI, ↓gI0, ↓gSubI, ↓gFdiv, ↓gMod, ↓gPow, ↓gLt, ↓gLe, ↓gGt, ↓gGe, ↓gAdd, ↓gMul, ↓gRep, ↓gIx, ↓gIsN, ↓gNotN, ↓gNeg, ↓gEqN, ↓gIn, ↓gInSeq, ↓gLen, ↓gSlice, ↓gList, ↓gTuple, ↓gMin2, ↓gMax2, ↓gStr, ↓gInt, ↓newL, ↓mAppend, ↓mInsert, ↓mPopAt, ↓mIndex, ↓gSplit, ↓gJoin, List.map_cons, List.map_nil, List.length_cons, List.length_nil, List.length_map, List.cons_append, List.nil_append, Nat.reduceAdd, Nat.reduceSub, List.getElem?_cons_zero, List.getElem?_cons_succ, List.getElem?_map, Option.map_some, List.set_cons_zero, List.set_cons_succ, isNon, seqOf, listOf, atI_nn, atI_0, atI_1, atI_2, atI_3, encNet, encSt, encRow, encR, encO, encP, nats, encT, Od.raw, if_true, if_false, ite_true, ite_false, Bool.false_eq_true, Bool.true_eq_false, Bool.not_true, Bool.not_false, decide_true, decide_false, reduceIte, eq_self, and_true, true_and, sn_set_put, sn_set_take, sn_set_add, sn_put_set, sn_put_take, sn_put_add, sn_take_set, sn_take_put, sn_take_add, sn_add_set, sn_add_put, sn_add_take]; exact hq)))) (by intro Q E hq; simp only [↓eVar, ↓eC, ↓eBin, ↓eUn, ↓eB, ↓eTup, ↓eLst, ↓eAnd, ↓eOr, ↓eNot, ↓eIf, ↓eChain, ↓eSlice, ↓eM, ↓eStr1, ↓eIsi, ↓oNo, ↓oPart, ↓tst, ↓ftAnd, ↓ftOr, ↓ftNot, ↓ftYes, ↓args, ↓gI, ↓gI0, ↓gSubI, ↓gFdiv, ↓gMod, ↓gPow, ↓gLt, ↓gLe, ↓gGt, ↓gGe, ↓gAdd, ↓gMul, ↓gRep, ↓gIx, ↓gIsN, ↓gNotN, ↓gNeg, ↓gEqN, ↓gIn, ↓gInSeq, ↓gLen, ↓gSlice, ↓gList, ↓gTuple, ↓gMin2, ↓gMax2, ↓gStr, ↓gInt, ↓newL, ↓mAppend, ↓mInsert, ↓mPopAt, ↓mIndex, ↓gSplit, ↓gJoin, List.map_cons, List.map_nil, List.length_cons, List.length_nil, List.length_map, List.cons_append, List.nil_append, Nat.reduceAdd, Nat.reduceSub, List.getElem?_cons_zero, List.getElem?_cons_succ, List.getElem?_map, Option.map_some, List.set_cons_zero, List.set_cons_succ, isNon, seqOf, listOf, atI_nn, atI_0, atI_1, atI_2, atI_3, encNet, encSt, encRow, encR, encO, encP, nats, encT, Od.raw, if_true, if_false, ite_true, ite_false, Bool.false_eq_true, Bool.true_eq_false, Bool.not_true, Bool.not_false, decide_true, decide_false, reduceIte, eq_self, and_true, true_and, sn_set_put, sn_set_take, sn_set_add, sn_put_set, sn_put_take, sn_put_add, sn_take_set, sn_take_put, sn_take_add, sn_add_set, sn_add_put, sn_add_take]; exact hq)) ?_
  refine st_forI (iv_rng (j := 4) (M1 := M) (by intro Q E hq; simp only [↓eVar, ↓eC, ↓eBin, ↓eUn, ↓eB, ↓eTup, ↓eLst, ↓eAnd, ↓eOr, ↓eNot, ↓eIf, ↓eChain, ↓eSlice, ↓eM, ↓eStr1, ↓eIsi, ↓oNo, ↓oPart, ↓tst, ↓ftAnd, ↓ftOr, ↓ftNot, ↓ftYes, ↓args, ↓gI, ↓gI0, ↓gSubI, ↓gFdiv, ↓gMod, ↓gPow, ↓gLt, ↓gLe, ↓gGt, ↓gGe, ↓gAdd, ↓gMul, ↓gRep, ↓gIx, ↓gIsN, ↓gNotN, ↓gNeg, ↓gEqN, ↓gIn, ↓gInSeq, ↓gLen, ↓gSlice, ↓gList, ↓gTuple, ↓gMin2, ↓gMax2, ↓gStr, ↓gInt, ↓newL, ↓mAppend, ↓mInsert, ↓mPopAt, ↓mIndex, ↓gSplit, ↓gJoin, List.map_cons, List.map_nil, List.length_cons, List.length_nil, List.length_map, List.cons_append, List.nil_append, Nat.reduceAdd, Nat.reduceSub, List.getElem?_cons_zero, List.getElem?_cons_succ, List.getElem?_map, Option.map_some, List.set_cons_zero, List.set_cons_succ, isNon, seqOf, listOf, atI_nn, atI_0, atI_1, atI_2, atI_3, encNet, encSt, encRow, encR, encO, encP, nats, encT, Od.raw, if_true, if_false, ite_true, ite_false, Bool.false_eq_true, Bool.true_eq_false, Bool.not_true, Bool.not_false, decide_true, decide_false, reduceIte, eq_self, and_true, true_and, sn_set_put, sn_set_take, sn_set_add, sn_put_set, sn_put_take, sn_put_add, sn_take_set, sn_take_put, sn_take_add, sn_add_set, sn_add_put, sn_add_take]; exact hq) (by decide)) (fun i ds M' => ∃ x, M = M' ∧ ds = [some (encSt S), some (encNet N), x, x3, x4]) ⟨none, rfl, rfl⟩ (fun _ _ _ _ _ => trivial) ?_ ?_
  · rintro i d _ _ nx hd ⟨x, rfl, rfl⟩ k
    obtain ⟨hi, rfl⟩ := rngD_at hd
    have h1 : ((S.places.length : Nat) : Int) = (N.rows.length : Nat) := by rw [g.pl]; rfl
    have h2 : ((S.boxes.length : Nat) : Int) = (N.rows.length : Nat) := by rw [g.bx]; rfl
    have h3 : ((S.held.length : Nat) : Int) = (N.pipes.length : Nat) := by rw [g.hl]; rfl
    have h4 : ((S.past.length : Nat) : Int) = (N.pipes.length : Nat) := by rw [g.ps]; rfl
    unfold gNm
    refine st_l0 (M1 := M) ?_ (k _ _ ⟨_, rfl, rfl⟩)
    rcases (by omega : i = 0 ∨ i = 1 ∨ i = 2 ∨ i = 3) with e | e | e | e <;> subst e
    · exact (by intro Q E hq; simp only [↓eVar, ↓eC, ↓eBin, ↓eUn, ↓eB, ↓eTup, ↓eLst, ↓eAnd, ↓eOr, ↓eNot, ↓eIf, ↓eChain, ↓eSlice, ↓eM, ↓eStr1, ↓eIsi, ↓oNo, ↓oPart, ↓tst, ↓ftAnd, ↓ftOr, ↓ftNot, ↓ftYes, ↓args, ↓gI, ↓gI0, ↓gSubI, ↓gFdiv, ↓gMod, ↓gPow, ↓gLt, ↓gLe, ↓gGt, ↓gGe, ↓gAdd, ↓gMul, ↓gRep, ↓gIx, ↓gIsN, ↓gNotN, ↓gNeg, ↓gEqN, ↓gIn, ↓gInSeq, ↓gLen, ↓gSlice, ↓gList, ↓gTuple, ↓gMin2, ↓gMax2, ↓gStr, ↓gInt, ↓newL, ↓mAppend, ↓mInsert, ↓mPopAt, ↓mIndex, ↓gSplit, ↓gJoin, List.map_cons, List.map_nil, List.length_cons, List.length_nil, List.length_map, List.cons_append, List.nil_append, Nat.reduceAdd, Nat.reduceSub, List.getElem?_cons_zero, List.getElem?_cons_succ, List.getElem?_map, Option.map_some, List.set_cons_zero, List.set_cons_succ, isNon, seqOf, listOf, atI_nn, atI_0, atI_1, atI_2, atI_3, encNet, encSt, encRow, encR, encO, encP, nats, encT, Od.raw, if_true, if_false, ite_true, ite_false, Bool.false_eq_true, Bool.true_eq_false, Bool.not_true, Bool.not_false, decide_true, decide_false, reduceIte, eq_self, and_true, true_and, sn_set_put, sn_set_take, sn_set_add, sn_put_set, sn_put_take, sn_put_add, sn_take_set, sn_take_put, sn_take_add, sn_add_set, sn_add_put, sn_add_take, ↓eIsi, tyName, kb_tt, dv ((0 : Nat) : Int) (k := 2) (by decide) (by decide), show (1 : Int) - ((0 : Nat) : Int) / 2 = 1 by decide, h1]; exact hq)
    · exact (by intro Q E hq; simp only [↓eVar, ↓eC, ↓eBin, ↓eUn, ↓eB, ↓eTup, ↓eLst, ↓eAnd, ↓eOr, ↓eNot, ↓eIf, ↓eChain, ↓eSlice, ↓eM, ↓eStr1, ↓eIsi, ↓oNo, ↓oPart, ↓tst, ↓ftAnd, ↓ftOr, ↓ftNot, ↓ftYes, ↓args, ↓gI, ↓gI0, ↓gSubI, ↓gFdiv, ↓gMod, ↓gPow, ↓gLt, ↓gLe, ↓gGt, ↓gGe, ↓gAdd, ↓gMul, ↓gRep, ↓gIx, ↓gIsN, ↓gNotN, ↓gNeg, ↓gEqN, ↓gIn, ↓gInSeq, ↓gLen, ↓gSlice, ↓gList, ↓gTuple, ↓gMin2, ↓gMax2, ↓gStr, ↓gInt, ↓newL, ↓mAppend, ↓mInsert, ↓mPopAt, ↓mIndex, ↓gSplit, ↓gJoin, List.map_cons, List.map_nil, List.length_cons, List.length_nil, List.length_map, List.cons_append, List.nil_append, Nat.reduceAdd, Nat.reduceSub, List.getElem?_cons_zero, List.getElem?_cons_succ, List.getElem?_map, Option.map_some, List.set_cons_zero, List.set_cons_succ, isNon, seqOf, listOf, atI_nn, atI_0, atI_1, atI_2, atI_3, encNet, encSt, encRow, encR, encO, encP, nats, encT, Od.raw, if_true, if_false, ite_true, ite_false, Bool.false_eq_true, Bool.true_eq_false, Bool.not_true, Bool.not_false, decide_true, decide_false, reduceIte, eq_self, and_true, true_and, sn_set_put, sn_set_take, sn_set_add, sn_put_set, sn_put_take, sn_put_add, sn_take_set, sn_take_put, sn_take_add, sn_add_set, sn_add_put, sn_add_take, ↓eIsi, tyName, kb_tt, dv ((1 : Nat) : Int) (k := 2) (by decide) (by decide), show (1 : Int) - ((1 : Nat) : Int) / 2 = 1 by decide, h2]; exact hq)
    · exact (by intro Q E hq; simp only [↓eVar, ↓eC, ↓eBin, ↓eUn, ↓eB, ↓eTup, ↓eLst, ↓eAnd, ↓eOr, ↓eNot, ↓eIf, ↓eChain, ↓eSlice, ↓eM, ↓eStr1, ↓eIsi, ↓oNo, ↓oPart, ↓tst, ↓ftAnd, ↓ftOr, ↓ftNot, ↓ftYes, ↓args, ↓gI, ↓gI0, ↓gSubI, ↓gFdiv, ↓gMod, ↓gPow, ↓gLt, ↓gLe, ↓gGt, ↓gGe, ↓gAdd, ↓gMul, ↓gRep, ↓gIx, ↓gIsN, ↓gNotN, ↓gNeg, ↓gEqN, ↓gIn, ↓gInSeq, ↓gLen, ↓gSlice, ↓gList, ↓gTuple, ↓gMin2, ↓gMax2, ↓gStr, ↓gInt, ↓newL, ↓mAppend, ↓mInsert, ↓mPopAt, ↓mIndex, ↓gSplit, ↓gJoin, List.map_cons, List.map_nil, List.length_cons, List.length_nil, List.length_map, List.cons_append, List.nil_append, Nat.reduceAdd, Nat.reduceSub, List.getElem?_cons_zero, List.getElem?_cons_succ, List.getElem?_map, Option.map_some, List.set_cons_zero, List.set_cons_succ, isNon, seqOf, listOf, atI_nn, atI_0, atI_1, atI_2, atI_3, encNet, encSt, encRow, encR, encO, encP, nats, encT, Od.raw, if_true, if_false, ite_true, ite_false, Bool.false_eq_true, Bool.true_eq_false, Bool.not_true, Bool.not_false, decide_true, decide_false, reduceIte, eq_self, and_true, true_and, sn_set_put, sn_set_take, sn_set_add, sn_put_set, sn_put_take, sn_put_add, sn_take_set, sn_take_put, sn_take_add, sn_add_set, sn_add_put, sn_add_take, ↓eIsi, tyName, kb_tt, dv ((2 : Nat) : Int) (k := 2) (by decide) (by decide), show (1 : Int) - ((2 : Nat) : Int) / 2 = 0 by decide, h3]; exact hq)
    · exact (by intro Q E hq; simp only [↓eVar, ↓eC, ↓eBin, ↓eUn, ↓eB, ↓eTup, ↓eLst, ↓eAnd, ↓eOr, ↓eNot, ↓eIf, ↓eChain, ↓eSlice, ↓eM, ↓eStr1, ↓eIsi, ↓oNo, ↓oPart, ↓tst, ↓ftAnd, ↓ftOr, ↓ftNot, ↓ftYes, ↓args, ↓gI, ↓gI0, ↓gSubI, ↓gFdiv, ↓gMod, ↓gPow, ↓gLt, ↓gLe, ↓gGt, ↓gGe, ↓gAdd, ↓gMul, ↓gRep, ↓gIx, ↓gIsN, ↓gNotN, ↓gNeg, ↓gEqN, ↓gIn, ↓gInSeq, ↓gLen, ↓gSlice, ↓gList, ↓gTuple, ↓gMin2, ↓gMax2, ↓gStr, ↓gInt, ↓newL, ↓mAppend, ↓mInsert, ↓mPopAt, ↓mIndex, ↓gSplit, ↓gJoin, List.map_cons, List.map_nil, List.length_cons, List.length_nil, List.length_map, List.cons_append, List.nil_append, Nat.reduceAdd, Nat.reduceSub, List.getElem?_cons_zero, List.getElem?_cons_succ, List.getElem?_map, Option.map_some, List.set_cons_zero, List.set_cons_succ, isNon, seqOf, listOf, atI_nn, atI_0, atI_1, atI_2, atI_3, encNet, encSt, encRow, encR, encO, encP, nats, encT, Od.raw, if_true, if_false, ite_true, ite_false, Bool.false_eq_true, Bool.true_eq_false, Bool.not_true, Bool.not_false, decide_true, decide_false, reduceIte, eq_self, and_true, true_and, sn_set_put, sn_set_take, sn_set_add, sn_put_set, sn_put_take, sn_put_add, sn_take_set, sn_take_put, sn_take_add, sn_add_set, sn_add_put, sn_add_take, ↓eIsi, tyName, kb_tt, dv ((3 : Nat) : Int) (k := 2) (by decide) (by decide), show (1 : Int) - ((3 : Nat) : Int) / 2 = 0 by decide, h4]; exact hq)
  · rintro _ _ ⟨x, rfl, rfl⟩
    exact h x
theorem nats_at {xs : List Nat} {i : Nat} {x : D} (h : (nats xs)[i]? = some x) : i < xs.length ∧ x = .int ((xs.getD i 0 : Nat) : Int) := by
  obtain ⟨a, e, rfl⟩ := map_get h
  exact ⟨(List.getElem?_eq_some_iff.mp e).1, by rw [List.getD_eq_getElem?_getD, e]; rfl⟩
/-- what the checks of the places see -/
theorem form_places {M : Sto} {N : Net} {S : Sta} {t : FS} {D' : EndsD} {x2 x3 x4 : Option D} (g : Good N S) (hp : PlOk N S) (h : ∀ x2 x3, t D' [some (encSt S), some (encNet N), x2, x3, x4] M) :
    sSeq (sFor (iEnumTD [(eBin gIx (eVar 0) (eC (.int 0)))]) (gTp [2, 3]) (sIf (ftOr (ftNot (tst (eCall G_whole [(eVar 3)]))) (ftNot (tst (eChain gLe gLe (eC (.int 0)) (eVar 3) (eB gLen [(eBin gIx (eBin gIx (eVar 1) (eC (.int 1))) (eVar 2))]))))) (sRet (eC (.bl false))) sNext)) t D' [some (encSt S), some (encNet N), x2, x3, x4] M := by
  have e0 : ∀ {x2 x3 : Option D}, Ev (eBin gIx (eVar 0) (eC (.int 0))) [some (encSt S), some (encNet N), x2, x3, x4] M (.tup (nats S.places)) M := fun {x2 x3} => by intro Q E hq; simp only [↓eVar, ↓eC, ↓eBin, ↓eUn, ↓eB, ↓eTup, ↓eLst, ↓eAnd, ↓eOr, ↓eNot, ↓eIf, ↓eChain, ↓eSlice, ↓eM, ↓eStr1, ↓eIsi, ↓oNo, ↓oPart, ↓tst, ↓ftAnd, ↓ftOr, ↓ftNot, ↓ftYes, ↓args, ↓gI, ↓gI0, ↓gSubI, ↓gFdiv, ↓gMod, ↓gPow, ↓gLt, ↓gLe, ↓gGt, ↓gGe, ↓gAdd, ↓gMul, ↓gRep, ↓gIx, ↓gIsN, ↓gNotN, ↓gNeg, ↓gEqN, ↓gIn, ↓gInSeq, ↓gLen, ↓gSlice, ↓gList, ↓gTuple, ↓gMin2, ↓gMax2, ↓gStr, ↓gInt, ↓newL, ↓mAppend, ↓mInsert, ↓mPopAt, ↓mIndex, ↓gSplit, ↓gJoin, List.map_cons, List.map_nil, List.length_cons, List.length_nil, List.length_map, List.cons_append, List.nil_append, Nat.reduceAdd, Nat.reduceSub, List.getElem?_cons_zero, List.getElem?_cons_succ, List.getElem?_map, Option.map_some, List.set_cons_zero, List.set_cons_succ, isNon, seqOf, listOf, atI_nn, atI_0, atI_1, atI_2, atI_3, encNet, encSt, encRow, encR, encO, encP, nats, encT, Od.raw, if_true, if_false, ite_true, ite_false, Bool.false_eq_true, Bool.true_eq_false, Bool.not_true, Bool.not_false, decide_true, decide_false, reduceIte, eq_self, and_true, true_and, sn_set_put, sn_set_take, sn_set_add, sn_put_set, sn_put_take, sn_put_add, sn_take_set, sn_take_put, sn_take_add, sn_add_set, sn_add_put, sn_add_take]; exact hq
  refine st_forI (xs := pairs (nats S.places)) (ok := okAny) (M1 := M) (by intro R E q; unfold iEnumTD args args; exact e0 _ _ q) (fun i ds M' => ∃ x2 x3, M = M' ∧ ds = [some (encSt S), some (encNet N), x2, x3, x4]) ⟨_, _, rfl, rfl⟩ (fun _ _ _ _ _ => trivial) ?_ ?_
  · rintro i d _ _ nx hd ⟨y2, y3, rfl, rfl⟩ k
    obtain ⟨x, hx, rfl⟩ := pairs_get hd
    obtain ⟨hi, rfl⟩ := nats_at hx
    have hiW : i < N.W := by rw [← g.pl]; exact hi
    have hr := row_at hiW
    have hle : (((S.places.getD i 0 : Nat)) : Int) ≤ (((N.row i).length : Nat) : Int) := by
      have := hp i hiW
      unfold Sta.pl at this
      omega
    have h0 : (0 : Int) ≤ ((S.places.getD i 0 : Nat) : Int) := Int.natCast_nonneg _
    refine ⟨rfl, ?_⟩
    show sIf _ _ _ _ [some (encSt S), some (encNet N), some (.int (i : Nat)), some (.int ((S.places.getD i 0 : Nat) : Int)), x4] M
    refine st_l0 (M1 := M) (tv_or0 (tv_nn (tv_of (ev_whole (z := ((S.places.getD i 0 : Nat) : Int)) (M1 := M) (by intro Q E hq; simp only [↓eVar, ↓eC, ↓eBin, ↓eUn, ↓eB, ↓eTup, ↓eLst, ↓eAnd, ↓eOr, ↓eNot, ↓eIf, ↓eChain, ↓eSlice, ↓eM, ↓eStr1, ↓eIsi, ↓oNo, ↓oPart, ↓tst, ↓ftAnd, ↓ftOr, ↓ftNot, ↓ftYes, ↓args, ↓gI, ↓gI0, ↓gSubI, ↓gFdiv, ↓gMod, ↓gPow, ↓gLt, ↓gLe, ↓gGt, ↓gGe, ↓gAdd, ↓gMul, ↓gRep, ↓gIx, ↓gIsN, ↓gNotN, ↓gNeg, ↓gEqN, ↓gIn, ↓gInSeq, ↓gLen, ↓gSlice, ↓gList, ↓gTuple, ↓gMin2, ↓gMax2, ↓gStr, ↓gInt, ↓newL, ↓mAppend, ↓mInsert, ↓mPopAt, ↓mIndex, ↓gSplit, ↓gJoin, List.map_cons, List.map_nil, List.length_cons, List.length_nil, List.length_map, List.cons_append, List.nil_append, Nat.reduceAdd, Nat.reduceSub, List.getElem?_cons_zero, List.getElem?_cons_succ, List.getElem?_map, Option.map_some, List.set_cons_zero, List.set_cons_succ, isNon, seqOf, listOf, atI_nn, atI_0, atI_1, atI_2, atI_3, encNet, encSt, encRow, encR, encO, encP, nats, encT, Od.raw, if_true, if_false, ite_true, ite_false, Bool.false_eq_true, Bool.true_eq_false, Bool.not_true, Bool.not_false, decide_true, decide_false, reduceIte, eq_self, and_true, true_and, sn_set_put, sn_set_take, sn_set_add, sn_put_set, sn_put_take, sn_put_add, sn_take_set, sn_take_put, sn_take_add, sn_add_set, sn_add_put, sn_add_take]; exact hq)))) (tv_nn (tv_of ?_))) (k _ _ ⟨_, _, rfl, rfl⟩)
    exact (by intro Q E hq; simp only [↓eVar, ↓eC, ↓eBin, ↓eUn, ↓eB, ↓eTup, ↓eLst, ↓eAnd, ↓eOr, ↓eNot, ↓eIf, ↓eChain, ↓eSlice, ↓eM, ↓eStr1, ↓eIsi, ↓oNo, ↓oPart, ↓tst, ↓ftAnd, ↓ftOr, ↓ftNot, ↓ftYes, ↓args, ↓gI, ↓gI0, ↓gSubI, ↓gFdiv, ↓gMod, ↓gPow, ↓gLt, ↓gLe, ↓gGt, ↓gGe, ↓gAdd, ↓gMul, ↓gRep, ↓gIx, ↓gIsN, ↓gNotN, ↓gNeg, ↓gEqN, ↓gIn, ↓gInSeq, ↓gLen, ↓gSlice, ↓gList, ↓gTuple, ↓gMin2, ↓gMax2, ↓gStr, ↓gInt, ↓newL, ↓mAppend, ↓mInsert, ↓mPopAt, ↓mIndex, ↓gSplit, ↓gJoin, List.map_cons, List.map_nil, List.length_cons, List.length_nil, List.length_map, List.cons_append, List.nil_append, Nat.reduceAdd, Nat.reduceSub, List.getElem?_cons_zero, List.getElem?_cons_succ, List.getElem?_map, Option.map_some, List.set_cons_zero, List.set_cons_succ, isNon, seqOf, listOf, atI_nn, atI_0, atI_1, atI_2, atI_3, encNet, encSt, encRow, encR, encO, encP, nats, encT, Od.raw, if_true, if_false, ite_true, ite_false, Bool.false_eq_true, Bool.true_eq_false, Bool.not_true, Bool.not_false, decide_true, decide_false, reduceIte, eq_self, and_true, true_and, sn_set_put, sn_set_take, sn_set_add, sn_put_set, sn_put_take, sn_put_add, sn_take_set, sn_take_put, sn_take_add, sn_add_set, sn_add_put, sn_add_take, decide_eq_true h0, hr, decide_eq_true hle]; exact hq)
  · rintro _ _ ⟨y2, y3, rfl, rfl⟩
    exact h y2 y3
/-- what the checks of the pasts see -/
theorem form_rows {M : Sto} {N : Net} {S : Sta} {t : FS} {D' : EndsD} {x2 x3 x4 : Option D} {c : Int} {zz : List (List Int)} (hc : (c = 2 ∧ zz = S.held) ∨ (c = 3 ∧ zz = S.past)) (h : ∀ x4, t D' [some (encSt S), some (encNet N), x2, x3, x4] M) :
    sSeq (sFor (iSeqD (eBin gIx (eVar 0) (eC (.int c)))) (gNm 4) (sIf (ftNot (tst (eIsi "tuple" (eVar 4)))) (sRet (eC (.bl false))) sNext)) t D' [some (encSt S), some (encNet N), x2, x3, x4] M := by
  have e0 : ∀ {x4 : Option D}, Ev (eBin gIx (eVar 0) (eC (.int c))) [some (encSt S), some (encNet N), x2, x3, x4] M (.tup (zz.map encT)) M := fun {x4} => by
    rcases hc with ⟨rfl, rfl⟩ | ⟨rfl, rfl⟩
    · exact (by intro Q E hq; simp only [↓eVar, ↓eC, ↓eBin, ↓eUn, ↓eB, ↓eTup, ↓eLst, ↓eAnd, ↓eOr, ↓eNot, ↓eIf, ↓eChain, ↓eSlice, ↓eM, ↓eStr1, ↓eIsi, ↓oNo, ↓oPart, ↓tst, ↓ftAnd, ↓ftOr, ↓ftNot, ↓ftYes, ↓args, ↓gI, ↓gI0, ↓gSubI, ↓gFdiv, ↓gMod, ↓gPow, ↓gLt, ↓gLe, ↓gGt, ↓gGe, ↓gAdd, ↓gMul, ↓gRep, ↓gIx, ↓gIsN, ↓gNotN, ↓gNeg, ↓gEqN, ↓gIn, ↓gInSeq, ↓gLen, ↓gSlice, ↓gList, ↓gTuple, ↓gMin2, ↓gMax2, ↓gStr, ↓gInt, ↓newL, ↓mAppend, ↓mInsert, ↓mPopAt, ↓mIndex, ↓gSplit, ↓gJoin, List.map_cons, List.map_nil, List.length_cons, List.length_nil, List.length_map, List.cons_append, List.nil_append, Nat.reduceAdd, Nat.reduceSub, List.getElem?_cons_zero, List.getElem?_cons_succ, List.getElem?_map, Option.map_some, List.set_cons_zero, List.set_cons_succ, isNon, seqOf, listOf, atI_nn, atI_0, atI_1, atI_2, atI_3, encNet, encSt, encRow, encR, encO, encP, nats, encT, Od.raw, if_true, if_false, ite_true, ite_false, Bool.false_eq_true, Bool.true_eq_false, Bool.not_true, Bool.not_false, decide_true, decide_false, reduceIte, eq_self, and_true, true_and, sn_set_put, sn_set_take, sn_set_add, sn_put_set, sn_put_take, sn_put_add, sn_take_set, sn_take_put, sn_take_add, sn_add_set, sn_add_put, sn_add_take]; exact hq)
    · exact (by intro Q E hq; simp only [↓eVar, ↓eC, ↓eBin, ↓eUn, ↓eB, ↓eTup, ↓eLst, ↓eAnd, ↓eOr, ↓eNot, ↓eIf, ↓eChain, ↓eSlice, ↓eM, ↓eStr1, ↓eIsi, ↓oNo, ↓oPart, ↓tst, ↓ftAnd, ↓ftOr, ↓ftNot, ↓ftYes, ↓args, ↓gI, ↓gI0, ↓gSubI, ↓gFdiv, ↓gMod, ↓gPow, ↓gLt, ↓gLe, ↓gGt, ↓gGe, ↓gAdd, ↓gMul, ↓gRep, ↓gIx, ↓gIsN, ↓gNotN, ↓gNeg, ↓gEqN, ↓gIn, ↓gInSeq, ↓gLen, ↓gSlice, ↓gList, ↓gTuple, ↓gMin2, ↓gMax2, ↓gStr, ↓gInt, ↓newL, ↓mAppend, ↓mInsert, ↓mPopAt, ↓mIndex, ↓gSplit, ↓gJoin, List.map_cons, List.map_nil, List.length_cons, List.length_nil, List.length_map, List.cons_append, List.nil_append, Nat.reduceAdd, Nat.reduceSub, List.getElem?_cons_zero, List.getElem?_cons_succ, List.getElem?_map, Option.map_some, List.set_cons_zero, List.set_cons_succ, isNon, seqOf, listOf, atI_nn, atI_0, atI_1, atI_2, atI_3, encNet, encSt, encRow, encR, encO, encP, nats, encT, Od.raw, if_true, if_false, ite_true, ite_false, Bool.false_eq_true, Bool.true_eq_false, Bool.not_true, Bool.not_false, decide_true, decide_false, reduceIte, eq_self, and_true, true_and, sn_set_put, sn_set_take, sn_set_add, sn_put_set, sn_put_take, sn_put_add, sn_take_set, sn_take_put, sn_take_add, sn_add_set, sn_add_put, sn_add_take]; exact hq)
  refine st_forI (xs := zz.map encT) (ok := okAny) (M1 := M) (fun R E q => e0 _ _ q) (fun i ds M' => ∃ x4, M = M' ∧ ds = [some (encSt S), some (encNet N), x2, x3, x4]) ⟨_, rfl, rfl⟩ (fun _ _ _ _ _ => trivial) ?_ ?_
  · rintro i d _ _ nx hd ⟨y4, rfl, rfl⟩ k
    obtain ⟨l, hl, rfl⟩ := map_get hd
    unfold gNm
    exact st_l0 (tv_nn (tv_of (ev_isT (xs := intL l) (M1 := M) (by intro Q E hq; simp only [↓eVar, ↓eC, ↓eBin, ↓eUn, ↓eB, ↓eTup, ↓eLst, ↓eAnd, ↓eOr, ↓eNot, ↓eIf, ↓eChain, ↓eSlice, ↓eM, ↓eStr1, ↓eIsi, ↓oNo, ↓oPart, ↓tst, ↓ftAnd, ↓ftOr, ↓ftNot, ↓ftYes, ↓args, ↓gI, ↓gI0, ↓gSubI, ↓gFdiv, ↓gMod, ↓gPow, ↓gLt, ↓gLe, ↓gGt, ↓gGe, ↓gAdd, ↓gMul, ↓gRep, ↓gIx, ↓gIsN, ↓gNotN, ↓gNeg, ↓gEqN, ↓gIn, ↓gInSeq, ↓gLen, ↓gSlice, ↓gList, ↓gTuple, ↓gMin2, ↓gMax2, ↓gStr, ↓gInt, ↓newL, ↓mAppend, ↓mInsert, ↓mPopAt, ↓mIndex, ↓gSplit, ↓gJoin, List.map_cons, List.map_nil, List.length_cons, List.length_nil, List.length_map, List.cons_append, List.nil_append, Nat.reduceAdd, Nat.reduceSub, List.getElem?_cons_zero, List.getElem?_cons_succ, List.getElem?_map, Option.map_some, List.set_cons_zero, List.set_cons_succ, isNon, seqOf, listOf, atI_nn, atI_0, atI_1, atI_2, atI_3, encNet, encSt, encRow, encR, encO, encP, nats, encT, Od.raw, if_true, if_false, ite_true, ite_false, Bool.false_eq_true, Bool.true_eq_false, Bool.not_true, Bool.not_false, decide_true, decide_false, reduceIte, eq_self, and_true, true_and, sn_set_put, sn_set_take, sn_set_add, sn_put_set, sn_put_take, sn_put_add, sn_take_set, sn_take_put, sn_take_add, sn_add_set, sn_add_put, sn_add_take, intL]; exact hq)))) (k _ _ ⟨_, rfl, rfl⟩)
  · rintro _ _ ⟨y4, rfl, rfl⟩
    exact h y4
def G_formed_k12 : GS := fun ds M Q E => ∃ N S, ds = [encSt S, encNet N] ∧ Good N S ∧ PlOk N S ∧ Q (.bl true) M
theorem sem_formed_k12 : ∀ ds M Q E, G_formed_k12 ds M Q E → f_formed_k12 G_whole (exits false M Q E) (startD 5 ds) M := by
  rintro ds M Q E ⟨N, S, rfl, g, hp, hq⟩
  unfold f_formed_k12
  simp only [startD, List.map_cons, List.map_nil, List.length_cons, List.length_nil, List.replicate, List.cons_append, List.nil_append, Nat.reduceAdd, Nat.reduceSub]
  refine form_head g fun x2 => form_places g hp fun x2 x3 => form_rows (.inr ⟨rfl, rfl⟩) fun x4 => ?_
  exact st_ret (by intro Q E hq; simp only [↓eVar, ↓eC, ↓eBin, ↓eUn, ↓eB, ↓eTup, ↓eLst, ↓eAnd, ↓eOr, ↓eNot, ↓eIf, ↓eChain, ↓eSlice, ↓eM, ↓eStr1, ↓eIsi, ↓oNo, ↓oPart, ↓tst, ↓ftAnd, ↓ftOr, ↓ftNot, ↓ftYes, ↓args, ↓gI, ↓gI0, ↓gSubI, ↓gFdiv, ↓gMod, ↓gPow, ↓gLt, ↓gLe, ↓gGt, ↓gGe, ↓gAdd, ↓gMul, ↓gRep, ↓gIx, ↓gIsN, ↓gNotN, ↓gNeg, ↓gEqN, ↓gIn, ↓gInSeq, ↓gLen, ↓gSlice, ↓gList, ↓gTuple, ↓gMin2, ↓gMax2, ↓gStr, ↓gInt, ↓newL, ↓mAppend, ↓mInsert, ↓mPopAt, ↓mIndex, ↓gSplit, ↓gJoin, List.map_cons, List.map_nil, List.length_cons, List.length_nil, List.length_map, List.cons_append, List.nil_append, Nat.reduceAdd, Nat.reduceSub, List.getElem?_cons_zero, List.getElem?_cons_succ, List.getElem?_map, Option.map_some, List.set_cons_zero, List.set_cons_succ, isNon, seqOf, listOf, atI_nn, atI_0, atI_1, atI_2, atI_3, encNet, encSt, encRow, encR, encO, encP, nats, encT, Od.raw, if_true, if_false, ite_true, ite_false, Bool.false_eq_true, Bool.true_eq_false, Bool.not_true, Bool.not_false, decide_true, decide_false, reduceIte, eq_self, and_true, true_and, sn_set_put, sn_set_take, sn_set_add, sn_put_set, sn_put_take, sn_put_add, sn_take_set, sn_take_put, sn_take_add, sn_add_set, sn_add_put, sn_add_take]; exact hq) hq
theorem py_intsT {M : Sto} {n : Nat} {zs : List Int} : py M (n + 2) (.tup (intL zs)) = some (.tuple (zs.map .int)) := by
  unfold py intL
  simp only []
  rw [optAll_map2 (h := PyData.int) zs fun z _ => by unfold py; rfl]
  rfl
theorem canLay_intsT {zs : List Int} : (PyData.tuple (zs.map .int)).canLay0 = true := by
  rw [PyData.canLay0]
  exact canLay_all zs fun _ _ => by rw [PyData.canLay0]
/-- a slice's head -/
theorem ev_head {f g : FE} {ds : DS} {M : Sto} {xs : List D} {n : Nat} (he : Ev f ds M (.tup xs) M) (hg : Ev g ds M (.int (n : Nat)) M) (hn : n ≤ xs.length) : Ev (eSlice false f oNo (oPart g)) ds M (.tup (xs.take n)) M := by
  intro Q E q
  unfold eSlice oNo oPart
  refine he _ _ (hg _ _ ?_)
  show Q (.tup (cutD xs none (some (n : Int)))) M
  rw [cut_to hn]
  exact q
/-- what is handed in: a new net of the same -/
theorem ev_hand {ds : DS} {M : Sto} {N : Net} {f : FE} {i : Nat} (ok : NetOk N) (hi : i < ds.length) (hf : ∀ x, Ev f (ds.set i x) M (encNet N) M) (hf0 : Ev f ds M (encNet N) M) : Ev (eTup [(eB (gList false) [(eBin gIx f (eC (.int 0)))]), (eLc false (iSeqD (eBin gIx f (eC (.int 1)))) [i] (putNm i) ftYes (eB (gList false) [(eVar i)]))]) ds M (encNet N) M := by
  have hw := ok.few
  refine ev_tup2 (M1 := M) (ev_list (M1 := M) (xs := N.pipes.map encP) (ev_ix (i := 0) (M1 := M) (M2 := M) (xs := [.lst (N.pipes.map encP), .lst (N.rows.map encRow)]) hf0 (fun Q E q => q) seqT_tup rfl) seqT_lst) ?_
  refine ev_lcm (xs := N.rows.map encRow) (ev_ix (i := 1) (M1 := M) (M2 := M) (xs := [.lst (N.pipes.map encP), .lst (N.rows.map encRow)]) hf0 (fun Q E q => q) seqT_tup rfl) seqT_lst rfl (by rw [List.length_map]; unfold Net.W at hw; omega) (fun k x y h1 h2 => ?_)
  rw [h1] at h2
  cases h2
  obtain ⟨r, hr, rfl⟩ := map_get h1
  refine ev_list (M1 := M) (d := encRow r) (fun Q E q => ?_) seqT_lst
  unfold eVar
  rw [List.set_set, List.getElem?_set_self hi]
  exact q
theorem sem_law_k12 : ∀ ds M Q E, G_law ds M Q E → f_law_k12 G_widened G_begin G_settled G_cell_at G_net_by G_state_is G_formed_k12 (exits false M Q E) (startD 11 ds) M := by
  rintro ds M Q E ⟨ns, rfl, rfl, hc, hq⟩
  unfold f_law_k12
  simp only [startD, List.map_cons, List.map_nil, List.length_cons, List.length_nil, List.replicate, List.cons_append, List.nil_append, Nat.reduceAdd, Nat.reduceSub]
  show eCall _ _ _ _ _ _
  simp only [↓eVar, ↓eC, ↓eBin, ↓eUn, ↓eB, ↓eTup, ↓eLst, ↓eAnd, ↓eOr, ↓eNot, ↓eIf, ↓eChain, ↓eSlice, ↓eM, ↓eStr1, ↓eIsi, ↓oNo, ↓oPart, ↓tst, ↓ftAnd, ↓ftOr, ↓ftNot, ↓ftYes, ↓args, ↓gI, ↓gI0, ↓gSubI, ↓gFdiv, ↓gMod, ↓gPow, ↓gLt, ↓gLe, ↓gGt, ↓gGe, ↓gAdd, ↓gMul, ↓gRep, ↓gIx, ↓gIsN, ↓gNotN, ↓gNeg, ↓gEqN, ↓gIn, ↓gInSeq, ↓gLen, ↓gSlice, ↓gList, ↓gTuple, ↓gMin2, ↓gMax2, ↓gStr, ↓gInt, ↓newL, ↓mAppend, ↓mInsert, ↓mPopAt, ↓mIndex, ↓gSplit, ↓gJoin, List.map_cons, List.map_nil, List.length_cons, List.length_nil, List.length_map, List.cons_append, List.nil_append, Nat.reduceAdd, Nat.reduceSub, List.getElem?_cons_zero, List.getElem?_cons_succ, List.getElem?_map, Option.map_some, List.set_cons_zero, List.set_cons_succ, isNon, seqOf, listOf, atI_nn, atI_0, atI_1, atI_2, atI_3, encNet, encSt, encRow, encR, encO, encP, nats, encT, Od.raw, if_true, if_false, ite_true, ite_false, Bool.false_eq_true, Bool.true_eq_false, Bool.not_true, Bool.not_false, decide_true, decide_false, reduceIte, eq_self, and_true, true_and, sn_set_put, sn_set_take, sn_set_add, sn_put_set, sn_put_take, sn_put_add, sn_take_set, sn_take_put, sn_take_add, sn_add_set, sn_add_put, sn_add_take, ↓eCall]
  refine ⟨ns, 10, 2, rfl, rfl, hc, by decide, by decide, by decide, fun N md => ?_⟩
  show eBin _ _ _ _ _ _ _
  simp only [↓eVar, ↓eC, ↓eBin, ↓eUn, ↓eB, ↓eTup, ↓eLst, ↓eAnd, ↓eOr, ↓eNot, ↓eIf, ↓eChain, ↓eSlice, ↓eM, ↓eStr1, ↓eIsi, ↓oNo, ↓oPart, ↓tst, ↓ftAnd, ↓ftOr, ↓ftNot, ↓ftYes, ↓args, ↓gI, ↓gI0, ↓gSubI, ↓gFdiv, ↓gMod, ↓gPow, ↓gLt, ↓gLe, ↓gGt, ↓gGe, ↓gAdd, ↓gMul, ↓gRep, ↓gIx, ↓gIsN, ↓gNotN, ↓gNeg, ↓gEqN, ↓gIn, ↓gInSeq, ↓gLen, ↓gSlice, ↓gList, ↓gTuple, ↓gMin2, ↓gMax2, ↓gStr, ↓gInt, ↓newL, ↓mAppend, ↓mInsert, ↓mPopAt, ↓mIndex, ↓gSplit, ↓gJoin, List.map_cons, List.map_nil, List.length_cons, List.length_nil, List.length_map, List.cons_append, List.nil_append, Nat.reduceAdd, Nat.reduceSub, List.getElem?_cons_zero, List.getElem?_cons_succ, List.getElem?_map, Option.map_some, List.set_cons_zero, List.set_cons_succ, isNon, seqOf, listOf, atI_nn, atI_0, atI_1, atI_2, atI_3, encNet, encSt, encRow, encR, encO, encP, nats, encT, Od.raw, if_true, if_false, ite_true, ite_false, Bool.false_eq_true, Bool.true_eq_false, Bool.not_true, Bool.not_false, decide_true, decide_false, reduceIte, eq_self, and_true, true_and, sn_set_put, sn_set_take, sn_set_add, sn_put_set, sn_put_take, sn_put_add, sn_take_set, sn_take_put, sn_take_add, sn_add_set, sn_add_put, sn_add_take, ↓eCall]
  refine cell_ok hc (k := 9) fun z hz => ?_
  simp only [↓eVar, ↓eC, ↓eBin, ↓eUn, ↓eB, ↓eTup, ↓eLst, ↓eAnd, ↓eOr, ↓eNot, ↓eIf, ↓eChain, ↓eSlice, ↓eM, ↓eStr1, ↓eIsi, ↓oNo, ↓oPart, ↓tst, ↓ftAnd, ↓ftOr, ↓ftNot, ↓ftYes, ↓args, ↓gI, ↓gI0, ↓gSubI, ↓gFdiv, ↓gMod, ↓gPow, ↓gLt, ↓gLe, ↓gGt, ↓gGe, ↓gAdd, ↓gMul, ↓gRep, ↓gIx, ↓gIsN, ↓gNotN, ↓gNeg, ↓gEqN, ↓gIn, ↓gInSeq, ↓gLen, ↓gSlice, ↓gList, ↓gTuple, ↓gMin2, ↓gMax2, ↓gStr, ↓gInt, ↓newL, ↓mAppend, ↓mInsert, ↓mPopAt, ↓mIndex, ↓gSplit, ↓gJoin, List.map_cons, List.map_nil, List.length_cons, List.length_nil, List.length_map, List.cons_append, List.nil_append, Nat.reduceAdd, Nat.reduceSub, List.getElem?_cons_zero, List.getElem?_cons_succ, List.getElem?_map, Option.map_some, List.set_cons_zero, List.set_cons_succ, isNon, seqOf, listOf, atI_nn, atI_0, atI_1, atI_2, atI_3, encNet, encSt, encRow, encR, encO, encP, nats, encT, Od.raw, if_true, if_false, ite_true, ite_false, Bool.false_eq_true, Bool.true_eq_false, Bool.not_true, Bool.not_false, decide_true, decide_false, reduceIte, eq_self, and_true, true_and, sn_set_put, sn_set_take, sn_set_add, sn_put_set, sn_put_take, sn_put_add, sn_take_set, sn_take_put, sn_take_add, sn_add_set, sn_add_put, sn_add_take, show (0 : Int) < 4 by decide]
  refine seq_cut (fun ds M => ∃ m : Nat, M = [] ∧ ds = [some (.scr (intL ns)), some (encNet N), some (.int (m : Int)), none, none, none, none, none, none, none, none]) ?_ ?_
  · intro nx k
    show tst _ _ _ _ _
    simp only [↓eVar, ↓eC, ↓eBin, ↓eUn, ↓eB, ↓eTup, ↓eLst, ↓eAnd, ↓eOr, ↓eNot, ↓eIf, ↓eChain, ↓eSlice, ↓eM, ↓eStr1, ↓eIsi, ↓oNo, ↓oPart, ↓tst, ↓ftAnd, ↓ftOr, ↓ftNot, ↓ftYes, ↓args, ↓gI, ↓gI0, ↓gSubI, ↓gFdiv, ↓gMod, ↓gPow, ↓gLt, ↓gLe, ↓gGt, ↓gGe, ↓gAdd, ↓gMul, ↓gRep, ↓gIx, ↓gIsN, ↓gNotN, ↓gNeg, ↓gEqN, ↓gIn, ↓gInSeq, ↓gLen, ↓gSlice, ↓gList, ↓gTuple, ↓gMin2, ↓gMax2, ↓gStr, ↓gInt, ↓newL, ↓mAppend, ↓mInsert, ↓mPopAt, ↓mIndex, ↓gSplit, ↓gJoin, List.map_cons, List.map_nil, List.length_cons, List.length_nil, List.length_map, List.cons_append, List.nil_append, Nat.reduceAdd, Nat.reduceSub, List.getElem?_cons_zero, List.getElem?_cons_succ, List.getElem?_map, Option.map_some, List.set_cons_zero, List.set_cons_succ, isNon, seqOf, listOf, atI_nn, atI_0, atI_1, atI_2, atI_3, encNet, encSt, encRow, encR, encO, encP, nats, encT, Od.raw, if_true, if_false, ite_true, ite_false, Bool.false_eq_true, Bool.true_eq_false, Bool.not_true, Bool.not_false, decide_true, decide_false, reduceIte, eq_self, and_true, true_and, sn_set_put, sn_set_take, sn_set_add, sn_put_set, sn_put_take, sn_put_add, sn_take_set, sn_take_put, sn_take_add, sn_add_set, sn_add_put, sn_add_take, ↓eCall]
    refine cell_ok hc (k := 9) fun z2 hz2 => ?_
    simp only [↓eVar, ↓eC, ↓eBin, ↓eUn, ↓eB, ↓eTup, ↓eLst, ↓eAnd, ↓eOr, ↓eNot, ↓eIf, ↓eChain, ↓eSlice, ↓eM, ↓eStr1, ↓eIsi, ↓oNo, ↓oPart, ↓tst, ↓ftAnd, ↓ftOr, ↓ftNot, ↓ftYes, ↓args, ↓gI, ↓gI0, ↓gSubI, ↓gFdiv, ↓gMod, ↓gPow, ↓gLt, ↓gLe, ↓gGt, ↓gGe, ↓gAdd, ↓gMul, ↓gRep, ↓gIx, ↓gIsN, ↓gNotN, ↓gNeg, ↓gEqN, ↓gIn, ↓gInSeq, ↓gLen, ↓gSlice, ↓gList, ↓gTuple, ↓gMin2, ↓gMax2, ↓gStr, ↓gInt, ↓newL, ↓mAppend, ↓mInsert, ↓mPopAt, ↓mIndex, ↓gSplit, ↓gJoin, List.map_cons, List.map_nil, List.length_cons, List.length_nil, List.length_map, List.cons_append, List.nil_append, Nat.reduceAdd, Nat.reduceSub, List.getElem?_cons_zero, List.getElem?_cons_succ, List.getElem?_map, Option.map_some, List.set_cons_zero, List.set_cons_succ, isNon, seqOf, listOf, atI_nn, atI_0, atI_1, atI_2, atI_3, encNet, encSt, encRow, encR, encO, encP, nats, encT, Od.raw, if_true, if_false, ite_true, ite_false, Bool.false_eq_true, Bool.true_eq_false, Bool.not_true, Bool.not_false, decide_true, decide_false, reduceIte, eq_self, and_true, true_and, sn_set_put, sn_set_take, sn_set_add, sn_put_set, sn_put_take, sn_put_add, sn_take_set, sn_take_put, sn_take_add, sn_add_set, sn_add_put, sn_add_take, dv z2 (k := 4) (by decide) (by decide), show (0 : Int) < 3 by decide]
    by_cases e : z2 / 4 % 3 = 2
    · rw [if_pos (decide_eq_true e)]
      show eBin _ _ _ _ _ _ _
      simp only [↓eVar, ↓eC, ↓eBin, ↓eUn, ↓eB, ↓eTup, ↓eLst, ↓eAnd, ↓eOr, ↓eNot, ↓eIf, ↓eChain, ↓eSlice, ↓eM, ↓eStr1, ↓eIsi, ↓oNo, ↓oPart, ↓tst, ↓ftAnd, ↓ftOr, ↓ftNot, ↓ftYes, ↓args, ↓gI, ↓gI0, ↓gSubI, ↓gFdiv, ↓gMod, ↓gPow, ↓gLt, ↓gLe, ↓gGt, ↓gGe, ↓gAdd, ↓gMul, ↓gRep, ↓gIx, ↓gIsN, ↓gNotN, ↓gNeg, ↓gEqN, ↓gIn, ↓gInSeq, ↓gLen, ↓gSlice, ↓gList, ↓gTuple, ↓gMin2, ↓gMax2, ↓gStr, ↓gInt, ↓newL, ↓mAppend, ↓mInsert, ↓mPopAt, ↓mIndex, ↓gSplit, ↓gJoin, List.map_cons, List.map_nil, List.length_cons, List.length_nil, List.length_map, List.cons_append, List.nil_append, Nat.reduceAdd, Nat.reduceSub, List.getElem?_cons_zero, List.getElem?_cons_succ, List.getElem?_map, Option.map_some, List.set_cons_zero, List.set_cons_succ, isNon, seqOf, listOf, atI_nn, atI_0, atI_1, atI_2, atI_3, encNet, encSt, encRow, encR, encO, encP, nats, encT, Od.raw, if_true, if_false, ite_true, ite_false, Bool.false_eq_true, Bool.true_eq_false, Bool.not_true, Bool.not_false, decide_true, decide_false, reduceIte, eq_self, and_true, true_and, sn_set_put, sn_set_take, sn_set_add, sn_put_set, sn_put_take, sn_put_add, sn_take_set, sn_take_put, sn_take_add, sn_add_set, sn_add_put, sn_add_take, ↓eCall]
      refine cell_ok hc (k := 9) fun z3 hz3 => ?_
      obtain ⟨m, hm⟩ := mod_nat (a := z3 / 12) (b := 1201) (by decide)
      simp only [↓eVar, ↓eC, ↓eBin, ↓eUn, ↓eB, ↓eTup, ↓eLst, ↓eAnd, ↓eOr, ↓eNot, ↓eIf, ↓eChain, ↓eSlice, ↓eM, ↓eStr1, ↓eIsi, ↓oNo, ↓oPart, ↓tst, ↓ftAnd, ↓ftOr, ↓ftNot, ↓ftYes, ↓args, ↓gI, ↓gI0, ↓gSubI, ↓gFdiv, ↓gMod, ↓gPow, ↓gLt, ↓gLe, ↓gGt, ↓gGe, ↓gAdd, ↓gMul, ↓gRep, ↓gIx, ↓gIsN, ↓gNotN, ↓gNeg, ↓gEqN, ↓gIn, ↓gInSeq, ↓gLen, ↓gSlice, ↓gList, ↓gTuple, ↓gMin2, ↓gMax2, ↓gStr, ↓gInt, ↓newL, ↓mAppend, ↓mInsert, ↓mPopAt, ↓mIndex, ↓gSplit, ↓gJoin, List.map_cons, List.map_nil, List.length_cons, List.length_nil, List.length_map, List.cons_append, List.nil_append, Nat.reduceAdd, Nat.reduceSub, List.getElem?_cons_zero, List.getElem?_cons_succ, List.getElem?_map, Option.map_some, List.set_cons_zero, List.set_cons_succ, isNon, seqOf, listOf, atI_nn, atI_0, atI_1, atI_2, atI_3, encNet, encSt, encRow, encR, encO, encP, nats, encT, Od.raw, if_true, if_false, ite_true, ite_false, Bool.false_eq_true, Bool.true_eq_false, Bool.not_true, Bool.not_false, decide_true, decide_false, reduceIte, eq_self, and_true, true_and, sn_set_put, sn_set_take, sn_set_add, sn_put_set, sn_put_take, sn_put_add, sn_take_set, sn_take_put, sn_take_add, sn_add_set, sn_add_put, sn_add_take, dv z3 (k := 12) (by decide) (by decide), show (0 : Int) < 1201 by decide, hm]
      exact k _ _ ⟨m, rfl, rfl⟩
    · rw [if_neg (by rw [decide_eq_false e]; exact Bool.false_ne_true)]
      obtain ⟨m, hm⟩ := mod_nat (a := z) (b := 4) (by decide)
      refine k _ _ ⟨m, rfl, ?_⟩
      rw [hm]
      rfl
  rintro _ _ ⟨m, rfl, rfl⟩
  have ok := md.ok
  have mdw := wid_made (m := m) md
  refine st_set (M1 := []) (d := encNet N) (ev_hand ok (by simp) (fun x => by intro Q E hq; simp only [↓eVar, ↓eC, ↓eBin, ↓eUn, ↓eB, ↓eTup, ↓eLst, ↓eAnd, ↓eOr, ↓eNot, ↓eIf, ↓eChain, ↓eSlice, ↓eM, ↓eStr1, ↓eIsi, ↓oNo, ↓oPart, ↓tst, ↓ftAnd, ↓ftOr, ↓ftNot, ↓ftYes, ↓args, ↓gI, ↓gI0, ↓gSubI, ↓gFdiv, ↓gMod, ↓gPow, ↓gLt, ↓gLe, ↓gGt, ↓gGe, ↓gAdd, ↓gMul, ↓gRep, ↓gIx, ↓gIsN, ↓gNotN, ↓gNeg, ↓gEqN, ↓gIn, ↓gInSeq, ↓gLen, ↓gSlice, ↓gList, ↓gTuple, ↓gMin2, ↓gMax2, ↓gStr, ↓gInt, ↓newL, ↓mAppend, ↓mInsert, ↓mPopAt, ↓mIndex, ↓gSplit, ↓gJoin, List.map_cons, List.map_nil, List.length_cons, List.length_nil, List.length_map, List.cons_append, List.nil_append, Nat.reduceAdd, Nat.reduceSub, List.getElem?_cons_zero, List.getElem?_cons_succ, List.getElem?_map, Option.map_some, List.set_cons_zero, List.set_cons_succ, isNon, seqOf, listOf, atI_nn, atI_0, atI_1, atI_2, atI_3, encNet, encSt, encRow, encR, encO, encP, nats, encT, Od.raw, if_true, if_false, ite_true, ite_false, Bool.false_eq_true, Bool.true_eq_false, Bool.not_true, Bool.not_false, decide_true, decide_false, reduceIte, eq_self, and_true, true_and, sn_set_put, sn_set_take, sn_set_add, sn_put_set, sn_put_take, sn_put_add, sn_take_set, sn_take_put, sn_take_add, sn_add_set, sn_add_put, sn_add_take]; exact hq) (by intro Q E hq; simp only [↓eVar, ↓eC, ↓eBin, ↓eUn, ↓eB, ↓eTup, ↓eLst, ↓eAnd, ↓eOr, ↓eNot, ↓eIf, ↓eChain, ↓eSlice, ↓eM, ↓eStr1, ↓eIsi, ↓oNo, ↓oPart, ↓tst, ↓ftAnd, ↓ftOr, ↓ftNot, ↓ftYes, ↓args, ↓gI, ↓gI0, ↓gSubI, ↓gFdiv, ↓gMod, ↓gPow, ↓gLt, ↓gLe, ↓gGt, ↓gGe, ↓gAdd, ↓gMul, ↓gRep, ↓gIx, ↓gIsN, ↓gNotN, ↓gNeg, ↓gEqN, ↓gIn, ↓gInSeq, ↓gLen, ↓gSlice, ↓gList, ↓gTuple, ↓gMin2, ↓gMax2, ↓gStr, ↓gInt, ↓newL, ↓mAppend, ↓mInsert, ↓mPopAt, ↓mIndex, ↓gSplit, ↓gJoin, List.map_cons, List.map_nil, List.length_cons, List.length_nil, List.length_map, List.cons_append, List.nil_append, Nat.reduceAdd, Nat.reduceSub, List.getElem?_cons_zero, List.getElem?_cons_succ, List.getElem?_map, Option.map_some, List.set_cons_zero, List.set_cons_succ, isNon, seqOf, listOf, atI_nn, atI_0, atI_1, atI_2, atI_3, encNet, encSt, encRow, encR, encO, encP, nats, encT, Od.raw, if_true, if_false, ite_true, ite_false, Bool.false_eq_true, Bool.true_eq_false, Bool.not_true, Bool.not_false, decide_true, decide_false, reduceIte, eq_self, and_true, true_and, sn_set_put, sn_set_take, sn_set_add, sn_put_set, sn_put_take, sn_put_add, sn_take_set, sn_take_put, sn_take_add, sn_add_set, sn_add_put, sn_add_take]; exact hq)) ?_
  have wd : Ev (eCall G_widened [(eVar 4), (eVar 2)]) [some (.scr (intL ns)), some (encNet N), some (.int (m : Int)), none, some (encNet N), none, none, none, none, none, none] [] (encNet (widN m N)) [] := ev_call (xs := [encNet N, .int (m : Int)]) (M1 := []) (by intro Q E hq; simp only [↓eVar, ↓eC, ↓eBin, ↓eUn, ↓eB, ↓eTup, ↓eLst, ↓eAnd, ↓eOr, ↓eNot, ↓eIf, ↓eChain, ↓eSlice, ↓eM, ↓eStr1, ↓eIsi, ↓oNo, ↓oPart, ↓tst, ↓ftAnd, ↓ftOr, ↓ftNot, ↓ftYes, ↓args, ↓gI, ↓gI0, ↓gSubI, ↓gFdiv, ↓gMod, ↓gPow, ↓gLt, ↓gLe, ↓gGt, ↓gGe, ↓gAdd, ↓gMul, ↓gRep, ↓gIx, ↓gIsN, ↓gNotN, ↓gNeg, ↓gEqN, ↓gIn, ↓gInSeq, ↓gLen, ↓gSlice, ↓gList, ↓gTuple, ↓gMin2, ↓gMax2, ↓gStr, ↓gInt, ↓newL, ↓mAppend, ↓mInsert, ↓mPopAt, ↓mIndex, ↓gSplit, ↓gJoin, List.map_cons, List.map_nil, List.length_cons, List.length_nil, List.length_map, List.cons_append, List.nil_append, Nat.reduceAdd, Nat.reduceSub, List.getElem?_cons_zero, List.getElem?_cons_succ, List.getElem?_map, Option.map_some, List.set_cons_zero, List.set_cons_succ, isNon, seqOf, listOf, atI_nn, atI_0, atI_1, atI_2, atI_3, encNet, encSt, encRow, encR, encO, encP, nats, encT, Od.raw, if_true, if_false, ite_true, ite_false, Bool.false_eq_true, Bool.true_eq_false, Bool.not_true, Bool.not_false, decide_true, decide_false, reduceIte, eq_self, and_true, true_and, sn_set_put, sn_set_take, sn_set_add, sn_put_set, sn_put_take, sn_put_add, sn_take_set, sn_take_put, sn_take_add, sn_add_set, sn_add_put, sn_add_take]; exact hq) fun Q E q => ⟨N, m, rfl, ok, q⟩
  refine st_set (M1 := []) wd ?_
  show sSeq _ _ _ [some (.scr (intL ns)), some (encNet N), some (.int (m : Int)), none, some (encNet N), some (encNet (widN m N)), none, none, none, none, none] []
  refine st_ifn (M1 := []) (tv_of (ev_bin (M1 := []) (M2 := []) (M3 := []) (x := encNet (widN m N)) (y := .tup [.lst ((widN m N).pipes.map encP), .lst ((widN m N).rows.map encRow)]) (d := .bl false) (by intro Q E hq; simp only [↓eVar, ↓eC, ↓eBin, ↓eUn, ↓eB, ↓eTup, ↓eLst, ↓eAnd, ↓eOr, ↓eNot, ↓eIf, ↓eChain, ↓eSlice, ↓eM, ↓eStr1, ↓eIsi, ↓oNo, ↓oPart, ↓tst, ↓ftAnd, ↓ftOr, ↓ftNot, ↓ftYes, ↓args, ↓gI, ↓gI0, ↓gSubI, ↓gFdiv, ↓gMod, ↓gPow, ↓gLt, ↓gLe, ↓gGt, ↓gGe, ↓gAdd, ↓gMul, ↓gRep, ↓gIx, ↓gIsN, ↓gNotN, ↓gNeg, ↓gEqN, ↓gIn, ↓gInSeq, ↓gLen, ↓gSlice, ↓gList, ↓gTuple, ↓gMin2, ↓gMax2, ↓gStr, ↓gInt, ↓newL, ↓mAppend, ↓mInsert, ↓mPopAt, ↓mIndex, ↓gSplit, ↓gJoin, List.map_cons, List.map_nil, List.length_cons, List.length_nil, List.length_map, List.cons_append, List.nil_append, Nat.reduceAdd, Nat.reduceSub, List.getElem?_cons_zero, List.getElem?_cons_succ, List.getElem?_map, Option.map_some, List.set_cons_zero, List.set_cons_succ, isNon, seqOf, listOf, atI_nn, atI_0, atI_1, atI_2, atI_3, encNet, encSt, encRow, encR, encO, encP, nats, encT, Od.raw, if_true, if_false, ite_true, ite_false, Bool.false_eq_true, Bool.true_eq_false, Bool.not_true, Bool.not_false, decide_true, decide_false, reduceIte, eq_self, and_true, true_and, sn_set_put, sn_set_take, sn_set_add, sn_put_set, sn_put_take, sn_put_add, sn_take_set, sn_take_put, sn_take_add, sn_add_set, sn_add_put, sn_add_take]; exact hq) (ev_tup2 (M1 := []) ?_ (by intro Q E hq; simp only [↓eVar, ↓eC, ↓eBin, ↓eUn, ↓eB, ↓eTup, ↓eLst, ↓eAnd, ↓eOr, ↓eNot, ↓eIf, ↓eChain, ↓eSlice, ↓eM, ↓eStr1, ↓eIsi, ↓oNo, ↓oPart, ↓tst, ↓ftAnd, ↓ftOr, ↓ftNot, ↓ftYes, ↓args, ↓gI, ↓gI0, ↓gSubI, ↓gFdiv, ↓gMod, ↓gPow, ↓gLt, ↓gLe, ↓gGt, ↓gGe, ↓gAdd, ↓gMul, ↓gRep, ↓gIx, ↓gIsN, ↓gNotN, ↓gNeg, ↓gEqN, ↓gIn, ↓gInSeq, ↓gLen, ↓gSlice, ↓gList, ↓gTuple, ↓gMin2, ↓gMax2, ↓gStr, ↓gInt, ↓newL, ↓mAppend, ↓mInsert, ↓mPopAt, ↓mIndex, ↓gSplit, ↓gJoin, List.map_cons, List.map_nil, List.length_cons, List.length_nil, List.length_map, List.cons_append, List.nil_append, Nat.reduceAdd, Nat.reduceSub, List.getElem?_cons_zero, List.getElem?_cons_succ, List.getElem?_map, Option.map_some, List.set_cons_zero, List.set_cons_succ, isNon, seqOf, listOf, atI_nn, atI_0, atI_1, atI_2, atI_3, encNet, encSt, encRow, encR, encO, encP, nats, encT, Od.raw, if_true, if_false, ite_true, ite_false, Bool.false_eq_true, Bool.true_eq_false, Bool.not_true, Bool.not_false, decide_true, decide_false, reduceIte, eq_self, and_true, true_and, sn_set_put, sn_set_take, sn_set_add, sn_put_set, sn_put_take, sn_put_add, sn_take_set, sn_take_put, sn_take_add, sn_add_set, sn_add_put, sn_add_take, widN]; exact hq)) (fun Q q => eq_alike (neg := true) (py_net (n := 3) rowsIn_lst) (py_net (n := 3) rowsIn_lst) canLay_net q))) ?_
  · have hf := ok.fewP
    refine ev_lcm (d := .lst (N.pipes.map encP)) (xs := N.pipes.map encP) (by intro Q E hq; simp only [↓eVar, ↓eC, ↓eBin, ↓eUn, ↓eB, ↓eTup, ↓eLst, ↓eAnd, ↓eOr, ↓eNot, ↓eIf, ↓eChain, ↓eSlice, ↓eM, ↓eStr1, ↓eIsi, ↓oNo, ↓oPart, ↓tst, ↓ftAnd, ↓ftOr, ↓ftNot, ↓ftYes, ↓args, ↓gI, ↓gI0, ↓gSubI, ↓gFdiv, ↓gMod, ↓gPow, ↓gLt, ↓gLe, ↓gGt, ↓gGe, ↓gAdd, ↓gMul, ↓gRep, ↓gIx, ↓gIsN, ↓gNotN, ↓gNeg, ↓gEqN, ↓gIn, ↓gInSeq, ↓gLen, ↓gSlice, ↓gList, ↓gTuple, ↓gMin2, ↓gMax2, ↓gStr, ↓gInt, ↓newL, ↓mAppend, ↓mInsert, ↓mPopAt, ↓mIndex, ↓gSplit, ↓gJoin, List.map_cons, List.map_nil, List.length_cons, List.length_nil, List.length_map, List.cons_append, List.nil_append, Nat.reduceAdd, Nat.reduceSub, List.getElem?_cons_zero, List.getElem?_cons_succ, List.getElem?_map, Option.map_some, List.set_cons_zero, List.set_cons_succ, isNon, seqOf, listOf, atI_nn, atI_0, atI_1, atI_2, atI_3, encNet, encSt, encRow, encR, encO, encP, nats, encT, Od.raw, if_true, if_false, ite_true, ite_false, Bool.false_eq_true, Bool.true_eq_false, Bool.not_true, Bool.not_false, decide_true, decide_false, reduceIte, eq_self, and_true, true_and, sn_set_put, sn_set_take, sn_set_add, sn_put_set, sn_put_take, sn_put_add, sn_take_set, sn_take_put, sn_take_add, sn_add_set, sn_add_put, sn_add_take]; exact hq) seqT_lst (by simp [widN]) (by rw [List.length_map]; unfold Net.P at hf; omega) (fun k x y h1 h2 => ?_)
    obtain ⟨p, hp, rfl⟩ := map_get h1
    have hp2 : y = encP (widP m p) := by
      unfold widN at h2
      rw [List.getElem?_map, List.getElem?_map, hp] at h2
      cases h2
      rfl
    rw [hp2]
    unfold widP
    simp only [encP, ← min_1000]
    exact (by intro Q E hq; simp only [↓eVar, ↓eC, ↓eBin, ↓eUn, ↓eB, ↓eTup, ↓eLst, ↓eAnd, ↓eOr, ↓eNot, ↓eIf, ↓eChain, ↓eSlice, ↓eM, ↓eStr1, ↓eIsi, ↓oNo, ↓oPart, ↓tst, ↓ftAnd, ↓ftOr, ↓ftNot, ↓ftYes, ↓args, ↓gI, ↓gI0, ↓gSubI, ↓gFdiv, ↓gMod, ↓gPow, ↓gLt, ↓gLe, ↓gGt, ↓gGe, ↓gAdd, ↓gMul, ↓gRep, ↓gIx, ↓gIsN, ↓gNotN, ↓gNeg, ↓gEqN, ↓gIn, ↓gInSeq, ↓gLen, ↓gSlice, ↓gList, ↓gTuple, ↓gMin2, ↓gMax2, ↓gStr, ↓gInt, ↓newL, ↓mAppend, ↓mInsert, ↓mPopAt, ↓mIndex, ↓gSplit, ↓gJoin, List.map_cons, List.map_nil, List.length_cons, List.length_nil, List.length_map, List.cons_append, List.nil_append, Nat.reduceAdd, Nat.reduceSub, List.getElem?_cons_zero, List.getElem?_cons_succ, List.getElem?_map, Option.map_some, List.set_cons_zero, List.set_cons_succ, isNon, seqOf, listOf, atI_nn, atI_0, atI_1, atI_2, atI_3, encNet, encSt, encRow, encR, encO, encP, nats, encT, Od.raw, if_true, if_false, ite_true, ite_false, Bool.false_eq_true, Bool.true_eq_false, Bool.not_true, Bool.not_false, decide_true, decide_false, reduceIte, eq_self, and_true, true_and, sn_set_put, sn_set_take, sn_set_add, sn_put_set, sn_put_take, sn_put_add, sn_take_set, sn_take_put, sn_take_add, sn_add_set, sn_add_put, sn_add_take]; exact hq)
  have sett : ∀ {K : Net} {ds : DS} {f : FE}, Made K → (∀ M, Ev f ds M (encNet K) M) → ∀ (Q : KQ) (E : KE), (∀ T, Go K (beg K) T → Still K T → Q (encSt T) []) → eCall G_settled [f, (eCall G_begin [f])] ds [] Q E := by
    intro K ds f mk hf Q E q
    unfold eCall args args args args
    exact hf _ _ _ (hf _ _ _ ⟨K, rfl, mk.ok, ⟨K, beg K, rfl, beg_good mk, mk.wf, q⟩⟩)
  show eCall G_settled _ _ _ _ _
  refine sett md (fun M => by intro Q E hq; simp only [↓eVar, ↓eC, ↓eBin, ↓eUn, ↓eB, ↓eTup, ↓eLst, ↓eAnd, ↓eOr, ↓eNot, ↓eIf, ↓eChain, ↓eSlice, ↓eM, ↓eStr1, ↓eIsi, ↓oNo, ↓oPart, ↓tst, ↓ftAnd, ↓ftOr, ↓ftNot, ↓ftYes, ↓args, ↓gI, ↓gI0, ↓gSubI, ↓gFdiv, ↓gMod, ↓gPow, ↓gLt, ↓gLe, ↓gGt, ↓gGe, ↓gAdd, ↓gMul, ↓gRep, ↓gIx, ↓gIsN, ↓gNotN, ↓gNeg, ↓gEqN, ↓gIn, ↓gInSeq, ↓gLen, ↓gSlice, ↓gList, ↓gTuple, ↓gMin2, ↓gMax2, ↓gStr, ↓gInt, ↓newL, ↓mAppend, ↓mInsert, ↓mPopAt, ↓mIndex, ↓gSplit, ↓gJoin, List.map_cons, List.map_nil, List.length_cons, List.length_nil, List.length_map, List.cons_append, List.nil_append, Nat.reduceAdd, Nat.reduceSub, List.getElem?_cons_zero, List.getElem?_cons_succ, List.getElem?_map, Option.map_some, List.set_cons_zero, List.set_cons_succ, isNon, seqOf, listOf, atI_nn, atI_0, atI_1, atI_2, atI_3, encNet, encSt, encRow, encR, encO, encP, nats, encT, Od.raw, if_true, if_false, ite_true, ite_false, Bool.false_eq_true, Bool.true_eq_false, Bool.not_true, Bool.not_false, decide_true, decide_false, reduceIte, eq_self, and_true, true_and, sn_set_put, sn_set_take, sn_set_add, sn_put_set, sn_put_take, sn_put_add, sn_take_set, sn_take_put, sn_take_add, sn_add_set, sn_add_put, sn_add_take]; exact hq) _ _ fun T hT sT => ?_
  show eCall G_settled _ _ _ _ _
  refine sett mdw (fun M => by intro Q E hq; simp only [↓eVar, ↓eC, ↓eBin, ↓eUn, ↓eB, ↓eTup, ↓eLst, ↓eAnd, ↓eOr, ↓eNot, ↓eIf, ↓eChain, ↓eSlice, ↓eM, ↓eStr1, ↓eIsi, ↓oNo, ↓oPart, ↓tst, ↓ftAnd, ↓ftOr, ↓ftNot, ↓ftYes, ↓args, ↓gI, ↓gI0, ↓gSubI, ↓gFdiv, ↓gMod, ↓gPow, ↓gLt, ↓gLe, ↓gGt, ↓gGe, ↓gAdd, ↓gMul, ↓gRep, ↓gIx, ↓gIsN, ↓gNotN, ↓gNeg, ↓gEqN, ↓gIn, ↓gInSeq, ↓gLen, ↓gSlice, ↓gList, ↓gTuple, ↓gMin2, ↓gMax2, ↓gStr, ↓gInt, ↓newL, ↓mAppend, ↓mInsert, ↓mPopAt, ↓mIndex, ↓gSplit, ↓gJoin, List.map_cons, List.map_nil, List.length_cons, List.length_nil, List.length_map, List.cons_append, List.nil_append, Nat.reduceAdd, Nat.reduceSub, List.getElem?_cons_zero, List.getElem?_cons_succ, List.getElem?_map, Option.map_some, List.set_cons_zero, List.set_cons_succ, isNon, seqOf, listOf, atI_nn, atI_0, atI_1, atI_2, atI_3, encNet, encSt, encRow, encR, encO, encP, nats, encT, Od.raw, if_true, if_false, ite_true, ite_false, Bool.false_eq_true, Bool.true_eq_false, Bool.not_true, Bool.not_false, decide_true, decide_false, reduceIte, eq_self, and_true, true_and, sn_set_put, sn_set_take, sn_set_add, sn_put_set, sn_put_take, sn_put_add, sn_take_set, sn_take_put, sn_take_add, sn_add_set, sn_add_put, sn_add_take]; exact hq) _ _ fun U hU sU => ?_
  show sSeq _ _ _ [some (.scr (intL ns)), some (encNet N), some (.int (m : Int)), none, some (encNet N), some (encNet (widN m N)), none, some (encSt T), some (encSt U), none, none] []
  -- what is known of the two
  have e0 : beg (widN m N) = beg N := by unfold beg; rw [wid_P]; rfl
  rw [e0] at hU
  have gT := Go.good md.wf hT (beg_good md)
  have gU : GoodL (widN m N) U := Go.good mdw.wf hU (by rw [← e0]; exact beg_good mdw)
  have hs0 : Shp (widN m N) (beg N) := wid_shp beg_shp
  have hTU : Go (widN m N) T U := go_still mdw.wf hU hs0 sU (wid_go md hT)
  have sTw : Shp (widN m N) T := wid_shp gT.g.shp
  have plU : PlOk N U := fun w hw => Go.plOk hU hs0 (fun v hv => by rw [beg_pl]; exact Nat.zero_le _) w hw
  have plT : PlOk N T := Go.plOk hT beg_shp beg_plOk
  have gUN : Good N U := ⟨ok, gU.g.pl, gU.g.bx, by rw [← wid_P (m := m)]; exact gU.g.hl, by rw [← wid_P (m := m)]; exact gU.g.ps, gU.g.hs, gU.g.pz⟩
  have fm : ∀ {V : Sta} {i : Nat} {ds : DS}, Good N V → PlOk N V → Ev (eVar i) ds [] (encSt V) [] → Ev (eVar 1) ds [] (encNet N) [] → Ev (eCall G_formed_k12 [(eVar i), (eVar 1)]) ds [] (.bl true) [] := by
    intro V i ds gV pV h1 h2 Q E q
    unfold eCall args args args
    exact h1 _ _ (h2 _ _ ⟨N, V, rfl, gV, pV, q⟩)
  have f1 : Ev (eCall G_formed_k12 [(eVar 7), (eVar 1)]) [some (.scr (intL ns)), some (encNet N), some (.int (m : Int)), none, some (encNet N), some (encNet (widN m N)), none, some (encSt T), some (encSt U), none, none] [] (.bl true) [] := fm gT.g plT (by intro Q E hq; simp only [↓eVar, ↓eC, ↓eBin, ↓eUn, ↓eB, ↓eTup, ↓eLst, ↓eAnd, ↓eOr, ↓eNot, ↓eIf, ↓eChain, ↓eSlice, ↓eM, ↓eStr1, ↓eIsi, ↓oNo, ↓oPart, ↓tst, ↓ftAnd, ↓ftOr, ↓ftNot, ↓ftYes, ↓args, ↓gI, ↓gI0, ↓gSubI, ↓gFdiv, ↓gMod, ↓gPow, ↓gLt, ↓gLe, ↓gGt, ↓gGe, ↓gAdd, ↓gMul, ↓gRep, ↓gIx, ↓gIsN, ↓gNotN, ↓gNeg, ↓gEqN, ↓gIn, ↓gInSeq, ↓gLen, ↓gSlice, ↓gList, ↓gTuple, ↓gMin2, ↓gMax2, ↓gStr, ↓gInt, ↓newL, ↓mAppend, ↓mInsert, ↓mPopAt, ↓mIndex, ↓gSplit, ↓gJoin, List.map_cons, List.map_nil, List.length_cons, List.length_nil, List.length_map, List.cons_append, List.nil_append, Nat.reduceAdd, Nat.reduceSub, List.getElem?_cons_zero, List.getElem?_cons_succ, List.getElem?_map, Option.map_some, List.set_cons_zero, List.set_cons_succ, isNon, seqOf, listOf, atI_nn, atI_0, atI_1, atI_2, atI_3, encNet, encSt, encRow, encR, encO, encP, nats, encT, Od.raw, if_true, if_false, ite_true, ite_false, Bool.false_eq_true, Bool.true_eq_false, Bool.not_true, Bool.not_false, decide_true, decide_false, reduceIte, eq_self, and_true, true_and, sn_set_put, sn_set_take, sn_set_add, sn_put_set, sn_put_take, sn_put_add, sn_take_set, sn_take_put, sn_take_add, sn_add_set, sn_add_put, sn_add_take]; exact hq) (by intro Q E hq; simp only [↓eVar, ↓eC, ↓eBin, ↓eUn, ↓eB, ↓eTup, ↓eLst, ↓eAnd, ↓eOr, ↓eNot, ↓eIf, ↓eChain, ↓eSlice, ↓eM, ↓eStr1, ↓eIsi, ↓oNo, ↓oPart, ↓tst, ↓ftAnd, ↓ftOr, ↓ftNot, ↓ftYes, ↓args, ↓gI, ↓gI0, ↓gSubI, ↓gFdiv, ↓gMod, ↓gPow, ↓gLt, ↓gLe, ↓gGt, ↓gGe, ↓gAdd, ↓gMul, ↓gRep, ↓gIx, ↓gIsN, ↓gNotN, ↓gNeg, ↓gEqN, ↓gIn, ↓gInSeq, ↓gLen, ↓gSlice, ↓gList, ↓gTuple, ↓gMin2, ↓gMax2, ↓gStr, ↓gInt, ↓newL, ↓mAppend, ↓mInsert, ↓mPopAt, ↓mIndex, ↓gSplit, ↓gJoin, List.map_cons, List.map_nil, List.length_cons, List.length_nil, List.length_map, List.cons_append, List.nil_append, Nat.reduceAdd, Nat.reduceSub, List.getElem?_cons_zero, List.getElem?_cons_succ, List.getElem?_map, Option.map_some, List.set_cons_zero, List.set_cons_succ, isNon, seqOf, listOf, atI_nn, atI_0, atI_1, atI_2, atI_3, encNet, encSt, encRow, encR, encO, encP, nats, encT, Od.raw, if_true, if_false, ite_true, ite_false, Bool.false_eq_true, Bool.true_eq_false, Bool.not_true, Bool.not_false, decide_true, decide_false, reduceIte, eq_self, and_true, true_and, sn_set_put, sn_set_take, sn_set_add, sn_put_set, sn_put_take, sn_put_add, sn_take_set, sn_take_put, sn_take_add, sn_add_set, sn_add_put, sn_add_take]; exact hq)
  have f2 : Ev (eCall G_formed_k12 [(eVar 8), (eVar 1)]) [some (.scr (intL ns)), some (encNet N), some (.int (m : Int)), none, some (encNet N), some (encNet (widN m N)), none, some (encSt T), some (encSt U), none, none] [] (.bl true) [] := fm gUN plU (by intro Q E hq; simp only [↓eVar, ↓eC, ↓eBin, ↓eUn, ↓eB, ↓eTup, ↓eLst, ↓eAnd, ↓eOr, ↓eNot, ↓eIf, ↓eChain, ↓eSlice, ↓eM, ↓eStr1, ↓eIsi, ↓oNo, ↓oPart, ↓tst, ↓ftAnd, ↓ftOr, ↓ftNot, ↓ftYes, ↓args, ↓gI, ↓gI0, ↓gSubI, ↓gFdiv, ↓gMod, ↓gPow, ↓gLt, ↓gLe, ↓gGt, ↓gGe, ↓gAdd, ↓gMul, ↓gRep, ↓gIx, ↓gIsN, ↓gNotN, ↓gNeg, ↓gEqN, ↓gIn, ↓gInSeq, ↓gLen, ↓gSlice, ↓gList, ↓gTuple, ↓gMin2, ↓gMax2, ↓gStr, ↓gInt, ↓newL, ↓mAppend, ↓mInsert, ↓mPopAt, ↓mIndex, ↓gSplit, ↓gJoin, List.map_cons, List.map_nil, List.length_cons, List.length_nil, List.length_map, List.cons_append, List.nil_append, Nat.reduceAdd, Nat.reduceSub, List.getElem?_cons_zero, List.getElem?_cons_succ, List.getElem?_map, Option.map_some, List.set_cons_zero, List.set_cons_succ, isNon, seqOf, listOf, atI_nn, atI_0, atI_1, atI_2, atI_3, encNet, encSt, encRow, encR, encO, encP, nats, encT, Od.raw, if_true, if_false, ite_true, ite_false, Bool.false_eq_true, Bool.true_eq_false, Bool.not_true, Bool.not_false, decide_true, decide_false, reduceIte, eq_self, and_true, true_and, sn_set_put, sn_set_take, sn_set_add, sn_put_set, sn_put_take, sn_put_add, sn_take_set, sn_take_put, sn_take_add, sn_add_set, sn_add_put, sn_add_take]; exact hq) (by intro Q E hq; simp only [↓eVar, ↓eC, ↓eBin, ↓eUn, ↓eB, ↓eTup, ↓eLst, ↓eAnd, ↓eOr, ↓eNot, ↓eIf, ↓eChain, ↓eSlice, ↓eM, ↓eStr1, ↓eIsi, ↓oNo, ↓oPart, ↓tst, ↓ftAnd, ↓ftOr, ↓ftNot, ↓ftYes, ↓args, ↓gI, ↓gI0, ↓gSubI, ↓gFdiv, ↓gMod, ↓gPow, ↓gLt, ↓gLe, ↓gGt, ↓gGe, ↓gAdd, ↓gMul, ↓gRep, ↓gIx, ↓gIsN, ↓gNotN, ↓gNeg, ↓gEqN, ↓gIn, ↓gInSeq, ↓gLen, ↓gSlice, ↓gList, ↓gTuple, ↓gMin2, ↓gMax2, ↓gStr, ↓gInt, ↓newL, ↓mAppend, ↓mInsert, ↓mPopAt, ↓mIndex, ↓gSplit, ↓gJoin, List.map_cons, List.map_nil, List.length_cons, List.length_nil, List.length_map, List.cons_append, List.nil_append, Nat.reduceAdd, Nat.reduceSub, List.getElem?_cons_zero, List.getElem?_cons_succ, List.getElem?_map, Option.map_some, List.set_cons_zero, List.set_cons_succ, isNon, seqOf, listOf, atI_nn, atI_0, atI_1, atI_2, atI_3, encNet, encSt, encRow, encR, encO, encP, nats, encT, Od.raw, if_true, if_false, ite_true, ite_false, Bool.false_eq_true, Bool.true_eq_false, Bool.not_true, Bool.not_false, decide_true, decide_false, reduceIte, eq_self, and_true, true_and, sn_set_put, sn_set_take, sn_set_add, sn_put_set, sn_put_take, sn_put_add, sn_take_set, sn_take_put, sn_take_add, sn_add_set, sn_add_put, sn_add_take]; exact hq)
  have f3 : Ev (eBin (gEqN true) (eVar 4) (eVar 1)) [some (.scr (intL ns)), some (encNet N), some (.int (m : Int)), none, some (encNet N), some (encNet (widN m N)), none, some (encSt T), some (encSt U), none, none] [] (.bl false) [] := ev_bin (M1 := []) (M2 := []) (M3 := []) (x := encNet N) (y := encNet N) (by intro Q E hq; simp only [↓eVar, ↓eC, ↓eBin, ↓eUn, ↓eB, ↓eTup, ↓eLst, ↓eAnd, ↓eOr, ↓eNot, ↓eIf, ↓eChain, ↓eSlice, ↓eM, ↓eStr1, ↓eIsi, ↓oNo, ↓oPart, ↓tst, ↓ftAnd, ↓ftOr, ↓ftNot, ↓ftYes, ↓args, ↓gI, ↓gI0, ↓gSubI, ↓gFdiv, ↓gMod, ↓gPow, ↓gLt, ↓gLe, ↓gGt, ↓gGe, ↓gAdd, ↓gMul, ↓gRep, ↓gIx, ↓gIsN, ↓gNotN, ↓gNeg, ↓gEqN, ↓gIn, ↓gInSeq, ↓gLen, ↓gSlice, ↓gList, ↓gTuple, ↓gMin2, ↓gMax2, ↓gStr, ↓gInt, ↓newL, ↓mAppend, ↓mInsert, ↓mPopAt, ↓mIndex, ↓gSplit, ↓gJoin, List.map_cons, List.map_nil, List.length_cons, List.length_nil, List.length_map, List.cons_append, List.nil_append, Nat.reduceAdd, Nat.reduceSub, List.getElem?_cons_zero, List.getElem?_cons_succ, List.getElem?_map, Option.map_some, List.set_cons_zero, List.set_cons_succ, isNon, seqOf, listOf, atI_nn, atI_0, atI_1, atI_2, atI_3, encNet, encSt, encRow, encR, encO, encP, nats, encT, Od.raw, if_true, if_false, ite_true, ite_false, Bool.false_eq_true, Bool.true_eq_false, Bool.not_true, Bool.not_false, decide_true, decide_false, reduceIte, eq_self, and_true, true_and, sn_set_put, sn_set_take, sn_set_add, sn_put_set, sn_put_take, sn_put_add, sn_take_set, sn_take_put, sn_take_add, sn_add_set, sn_add_put, sn_add_take]; exact hq) (by intro Q E hq; simp only [↓eVar, ↓eC, ↓eBin, ↓eUn, ↓eB, ↓eTup, ↓eLst, ↓eAnd, ↓eOr, ↓eNot, ↓eIf, ↓eChain, ↓eSlice, ↓eM, ↓eStr1, ↓eIsi, ↓oNo, ↓oPart, ↓tst, ↓ftAnd, ↓ftOr, ↓ftNot, ↓ftYes, ↓args, ↓gI, ↓gI0, ↓gSubI, ↓gFdiv, ↓gMod, ↓gPow, ↓gLt, ↓gLe, ↓gGt, ↓gGe, ↓gAdd, ↓gMul, ↓gRep, ↓gIx, ↓gIsN, ↓gNotN, ↓gNeg, ↓gEqN, ↓gIn, ↓gInSeq, ↓gLen, ↓gSlice, ↓gList, ↓gTuple, ↓gMin2, ↓gMax2, ↓gStr, ↓gInt, ↓newL, ↓mAppend, ↓mInsert, ↓mPopAt, ↓mIndex, ↓gSplit, ↓gJoin, List.map_cons, List.map_nil, List.length_cons, List.length_nil, List.length_map, List.cons_append, List.nil_append, Nat.reduceAdd, Nat.reduceSub, List.getElem?_cons_zero, List.getElem?_cons_succ, List.getElem?_map, Option.map_some, List.set_cons_zero, List.set_cons_succ, isNon, seqOf, listOf, atI_nn, atI_0, atI_1, atI_2, atI_3, encNet, encSt, encRow, encR, encO, encP, nats, encT, Od.raw, if_true, if_false, ite_true, ite_false, Bool.false_eq_true, Bool.true_eq_false, Bool.not_true, Bool.not_false, decide_true, decide_false, reduceIte, eq_self, and_true, true_and, sn_set_put, sn_set_take, sn_set_add, sn_put_set, sn_put_take, sn_put_add, sn_take_set, sn_take_put, sn_take_add, sn_add_set, sn_add_put, sn_add_take]; exact hq) (fun Q q => eq_alike (neg := true) (py_net (n := 3) rowsIn_lst) (py_net (n := 3) rowsIn_lst) canLay_net q)
  refine st_ifn (tv_or0 (tv_nn (tv_of f1)) (tv_or0 (tv_nn (tv_of f2)) (tv_of f3))) ?_
  -- the places
  have hw := ok.few
  have lr : (N.rows.map encRow).length = N.W := by rw [List.length_map]; rfl
  refine st_forI (iv_rng (j := N.W) (by rw [← lr]; exact ev_len (M1 := []) (d := .lst (N.rows.map encRow)) (by intro Q E hq; simp only [↓eVar, ↓eC, ↓eBin, ↓eUn, ↓eB, ↓eTup, ↓eLst, ↓eAnd, ↓eOr, ↓eNot, ↓eIf, ↓eChain, ↓eSlice, ↓eM, ↓eStr1, ↓eIsi, ↓oNo, ↓oPart, ↓tst, ↓ftAnd, ↓ftOr, ↓ftNot, ↓ftYes, ↓args, ↓gI, ↓gI0, ↓gSubI, ↓gFdiv, ↓gMod, ↓gPow, ↓gLt, ↓gLe, ↓gGt, ↓gGe, ↓gAdd, ↓gMul, ↓gRep, ↓gIx, ↓gIsN, ↓gNotN, ↓gNeg, ↓gEqN, ↓gIn, ↓gInSeq, ↓gLen, ↓gSlice, ↓gList, ↓gTuple, ↓gMin2, ↓gMax2, ↓gStr, ↓gInt, ↓newL, ↓mAppend, ↓mInsert, ↓mPopAt, ↓mIndex, ↓gSplit, ↓gJoin, List.map_cons, List.map_nil, List.length_cons, List.length_nil, List.length_map, List.cons_append, List.nil_append, Nat.reduceAdd, Nat.reduceSub, List.getElem?_cons_zero, List.getElem?_cons_succ, List.getElem?_map, Option.map_some, List.set_cons_zero, List.set_cons_succ, isNon, seqOf, listOf, atI_nn, atI_0, atI_1, atI_2, atI_3, encNet, encSt, encRow, encR, encO, encP, nats, encT, Od.raw, if_true, if_false, ite_true, ite_false, Bool.false_eq_true, Bool.true_eq_false, Bool.not_true, Bool.not_false, decide_true, decide_false, reduceIte, eq_self, and_true, true_and, sn_set_put, sn_set_take, sn_set_add, sn_put_set, sn_put_take, sn_put_add, sn_take_set, sn_take_put, sn_take_add, sn_add_set, sn_add_put, sn_add_take]; exact hq) seqT_lst) (by omega)) (fun i ds M => ∃ x, M = [] ∧ ds = [some (.scr (intL ns)), some (encNet N), some (.int (m : Int)), none, some (encNet N), some (encNet (widN m N)), none, some (encSt T), some (encSt U), x, none]) ⟨none, rfl, rfl⟩ (fun _ _ _ _ _ => trivial) ?_ ?_
  · rintro i d _ _ nx hd ⟨x, rfl, rfl⟩ k
    obtain ⟨hi, rfl⟩ := rngD_at hd
    have h1 := pl_at gT.g hi
    have h2 := pl_at gUN hi
    have h3 : ¬ (((U.pl i : Nat) : Int) < ((T.pl i : Nat) : Int)) := by
      have := Go.pl hTU sTw i
      omega
    unfold gNm
    exact st_l0 (M1 := []) (by intro Q E hq; simp only [↓eVar, ↓eC, ↓eBin, ↓eUn, ↓eB, ↓eTup, ↓eLst, ↓eAnd, ↓eOr, ↓eNot, ↓eIf, ↓eChain, ↓eSlice, ↓eM, ↓eStr1, ↓eIsi, ↓oNo, ↓oPart, ↓tst, ↓ftAnd, ↓ftOr, ↓ftNot, ↓ftYes, ↓args, ↓gI, ↓gI0, ↓gSubI, ↓gFdiv, ↓gMod, ↓gPow, ↓gLt, ↓gLe, ↓gGt, ↓gGe, ↓gAdd, ↓gMul, ↓gRep, ↓gIx, ↓gIsN, ↓gNotN, ↓gNeg, ↓gEqN, ↓gIn, ↓gInSeq, ↓gLen, ↓gSlice, ↓gList, ↓gTuple, ↓gMin2, ↓gMax2, ↓gStr, ↓gInt, ↓newL, ↓mAppend, ↓mInsert, ↓mPopAt, ↓mIndex, ↓gSplit, ↓gJoin, List.map_cons, List.map_nil, List.length_cons, List.length_nil, List.length_map, List.cons_append, List.nil_append, Nat.reduceAdd, Nat.reduceSub, List.getElem?_cons_zero, List.getElem?_cons_succ, List.getElem?_map, Option.map_some, List.set_cons_zero, List.set_cons_succ, isNon, seqOf, listOf, atI_nn, atI_0, atI_1, atI_2, atI_3, encNet, encSt, encRow, encR, encO, encP, nats, encT, Od.raw, if_true, if_false, ite_true, ite_false, Bool.false_eq_true, Bool.true_eq_false, Bool.not_true, Bool.not_false, decide_true, decide_false, reduceIte, eq_self, and_true, true_and, sn_set_put, sn_set_take, sn_set_add, sn_put_set, sn_put_take, sn_put_add, sn_take_set, sn_take_put, sn_take_add, sn_add_set, sn_add_put, sn_add_take, h1, h2, decide_eq_false h3]; exact hq) (k _ _ ⟨_, rfl, rfl⟩)
  rintro _ _ ⟨x9, rfl, rfl⟩
  -- the pasts
  have hp := ok.fewP
  have lp : (N.pipes.map encP).length = N.P := by rw [List.length_map]; rfl
  refine st_forI (iv_rng (j := N.P) (by rw [← lp]; exact ev_len (M1 := []) (d := .lst (N.pipes.map encP)) (by intro Q E hq; simp only [↓eVar, ↓eC, ↓eBin, ↓eUn, ↓eB, ↓eTup, ↓eLst, ↓eAnd, ↓eOr, ↓eNot, ↓eIf, ↓eChain, ↓eSlice, ↓eM, ↓eStr1, ↓eIsi, ↓oNo, ↓oPart, ↓tst, ↓ftAnd, ↓ftOr, ↓ftNot, ↓ftYes, ↓args, ↓gI, ↓gI0, ↓gSubI, ↓gFdiv, ↓gMod, ↓gPow, ↓gLt, ↓gLe, ↓gGt, ↓gGe, ↓gAdd, ↓gMul, ↓gRep, ↓gIx, ↓gIsN, ↓gNotN, ↓gNeg, ↓gEqN, ↓gIn, ↓gInSeq, ↓gLen, ↓gSlice, ↓gList, ↓gTuple, ↓gMin2, ↓gMax2, ↓gStr, ↓gInt, ↓newL, ↓mAppend, ↓mInsert, ↓mPopAt, ↓mIndex, ↓gSplit, ↓gJoin, List.map_cons, List.map_nil, List.length_cons, List.length_nil, List.length_map, List.cons_append, List.nil_append, Nat.reduceAdd, Nat.reduceSub, List.getElem?_cons_zero, List.getElem?_cons_succ, List.getElem?_map, Option.map_some, List.set_cons_zero, List.set_cons_succ, isNon, seqOf, listOf, atI_nn, atI_0, atI_1, atI_2, atI_3, encNet, encSt, encRow, encR, encO, encP, nats, encT, Od.raw, if_true, if_false, ite_true, ite_false, Bool.false_eq_true, Bool.true_eq_false, Bool.not_true, Bool.not_false, decide_true, decide_false, reduceIte, eq_self, and_true, true_and, sn_set_put, sn_set_take, sn_set_add, sn_put_set, sn_put_take, sn_put_add, sn_take_set, sn_take_put, sn_take_add, sn_add_set, sn_add_put, sn_add_take]; exact hq) seqT_lst) (by omega)) (fun i ds M => ∃ x, M = [] ∧ ds = [some (.scr (intL ns)), some (encNet N), some (.int (m : Int)), none, some (encNet N), some (encNet (widN m N)), none, some (encSt T), some (encSt U), x9, x]) ⟨none, rfl, rfl⟩ (fun _ _ _ _ _ => trivial) ?_ ?_
  · rintro i d _ _ nx hd ⟨x, rfl, rfl⟩ k
    obtain ⟨hi, rfl⟩ := rngD_at hd
    have h1 := ps_at gT.g hi
    have h2 := ps_at gUN hi
    obtain ⟨more, hm⟩ := Go.ps mdw.wf hTU sTw i
    have a1 : ∀ {x : Option D}, Ev (eBin gIx (eBin gIx (eVar 7) (eC (.int 3))) (eVar 10)) [some (.scr (intL ns)), some (encNet N), some (.int (m : Int)), none, some (encNet N), some (encNet (widN m N)), none, some (encSt T), some (encSt U), x9, some (.int (i : Nat))] [] (.tup (intL (T.ps i))) [] := fun {x} => by intro Q E hq; simp only [↓eVar, ↓eC, ↓eBin, ↓eUn, ↓eB, ↓eTup, ↓eLst, ↓eAnd, ↓eOr, ↓eNot, ↓eIf, ↓eChain, ↓eSlice, ↓eM, ↓eStr1, ↓eIsi, ↓oNo, ↓oPart, ↓tst, ↓ftAnd, ↓ftOr, ↓ftNot, ↓ftYes, ↓args, ↓gI, ↓gI0, ↓gSubI, ↓gFdiv, ↓gMod, ↓gPow, ↓gLt, ↓gLe, ↓gGt, ↓gGe, ↓gAdd, ↓gMul, ↓gRep, ↓gIx, ↓gIsN, ↓gNotN, ↓gNeg, ↓gEqN, ↓gIn, ↓gInSeq, ↓gLen, ↓gSlice, ↓gList, ↓gTuple, ↓gMin2, ↓gMax2, ↓gStr, ↓gInt, ↓newL, ↓mAppend, ↓mInsert, ↓mPopAt, ↓mIndex, ↓gSplit, ↓gJoin, List.map_cons, List.map_nil, List.length_cons, List.length_nil, List.length_map, List.cons_append, List.nil_append, Nat.reduceAdd, Nat.reduceSub, List.getElem?_cons_zero, List.getElem?_cons_succ, List.getElem?_map, Option.map_some, List.set_cons_zero, List.set_cons_succ, isNon, seqOf, listOf, atI_nn, atI_0, atI_1, atI_2, atI_3, encNet, encSt, encRow, encR, encO, encP, nats, encT, Od.raw, if_true, if_false, ite_true, ite_false, Bool.false_eq_true, Bool.true_eq_false, Bool.not_true, Bool.not_false, decide_true, decide_false, reduceIte, eq_self, and_true, true_and, sn_set_put, sn_set_take, sn_set_add, sn_put_set, sn_put_take, sn_put_add, sn_take_set, sn_take_put, sn_take_add, sn_add_set, sn_add_put, sn_add_take, h1, intL]; exact hq
    have a2 : ∀ {x : Option D}, Ev (eBin gIx (eBin gIx (eVar 8) (eC (.int 3))) (eVar 10)) [some (.scr (intL ns)), some (encNet N), some (.int (m : Int)), none, some (encNet N), some (encNet (widN m N)), none, some (encSt T), some (encSt U), x9, some (.int (i : Nat))] [] (.tup (intL (U.ps i))) [] := fun {x} => by intro Q E hq; simp only [↓eVar, ↓eC, ↓eBin, ↓eUn, ↓eB, ↓eTup, ↓eLst, ↓eAnd, ↓eOr, ↓eNot, ↓eIf, ↓eChain, ↓eSlice, ↓eM, ↓eStr1, ↓eIsi, ↓oNo, ↓oPart, ↓tst, ↓ftAnd, ↓ftOr, ↓ftNot, ↓ftYes, ↓args, ↓gI, ↓gI0, ↓gSubI, ↓gFdiv, ↓gMod, ↓gPow, ↓gLt, ↓gLe, ↓gGt, ↓gGe, ↓gAdd, ↓gMul, ↓gRep, ↓gIx, ↓gIsN, ↓gNotN, ↓gNeg, ↓gEqN, ↓gIn, ↓gInSeq, ↓gLen, ↓gSlice, ↓gList, ↓gTuple, ↓gMin2, ↓gMax2, ↓gStr, ↓gInt, ↓newL, ↓mAppend, ↓mInsert, ↓mPopAt, ↓mIndex, ↓gSplit, ↓gJoin, List.map_cons, List.map_nil, List.length_cons, List.length_nil, List.length_map, List.cons_append, List.nil_append, Nat.reduceAdd, Nat.reduceSub, List.getElem?_cons_zero, List.getElem?_cons_succ, List.getElem?_map, Option.map_some, List.set_cons_zero, List.set_cons_succ, isNon, seqOf, listOf, atI_nn, atI_0, atI_1, atI_2, atI_3, encNet, encSt, encRow, encR, encO, encP, nats, encT, Od.raw, if_true, if_false, ite_true, ite_false, Bool.false_eq_true, Bool.true_eq_false, Bool.not_true, Bool.not_false, decide_true, decide_false, reduceIte, eq_self, and_true, true_and, sn_set_put, sn_set_take, sn_set_add, sn_put_set, sn_put_take, sn_put_add, sn_take_set, sn_take_put, sn_take_add, sn_add_set, sn_add_put, sn_add_take, h2, intL]; exact hq
    have hcut : (intL (U.ps i)).take (intL (T.ps i)).length = intL (T.ps i) := by
      rw [← hm]
      unfold intL
      rw [List.map_append]
      exact List.take_left
    unfold gNm
    refine st_l0 (M1 := []) (tv_of (ev_bin (M1 := []) (M2 := []) (M3 := []) (d := .bl false) (ev_head (a2 (x := none)) (ev_len (a1 (x := none)) seqT_tup) ?_) (a1 (x := none)) (fun Q q => ?_))) (k _ _ ⟨_, rfl, rfl⟩)
    · unfold intL
      rw [List.length_map, List.length_map, ← hm, List.length_append]
      omega
    · rw [hcut]
      exact eq_alike (neg := true) (py_intsT (n := 6)) (py_intsT (n := 6)) canLay_intsT q
  rintro _ _ ⟨x10, rfl, rfl⟩
  -- all through
  have lens : Ev (eLc false (iSeqD (eBin gIx (eVar 1) (eC (.int 1)))) [3] (putNm 3) ftYes (eB gLen [(eVar 3)])) [some (.scr (intL ns)), some (encNet N), some (.int (m : Int)), none, some (encNet N), some (encNet (widN m N)), none, some (encSt T), some (encSt U), x9, x10] [] (.lst (intL (N.rows.map fun r => (r.length : Int)))) [] := by
    refine ev_lcm (d := .lst (N.rows.map encRow)) (xs := N.rows.map encRow) (by intro Q E hq; simp only [↓eVar, ↓eC, ↓eBin, ↓eUn, ↓eB, ↓eTup, ↓eLst, ↓eAnd, ↓eOr, ↓eNot, ↓eIf, ↓eChain, ↓eSlice, ↓eM, ↓eStr1, ↓eIsi, ↓oNo, ↓oPart, ↓tst, ↓ftAnd, ↓ftOr, ↓ftNot, ↓ftYes, ↓args, ↓gI, ↓gI0, ↓gSubI, ↓gFdiv, ↓gMod, ↓gPow, ↓gLt, ↓gLe, ↓gGt, ↓gGe, ↓gAdd, ↓gMul, ↓gRep, ↓gIx, ↓gIsN, ↓gNotN, ↓gNeg, ↓gEqN, ↓gIn, ↓gInSeq, ↓gLen, ↓gSlice, ↓gList, ↓gTuple, ↓gMin2, ↓gMax2, ↓gStr, ↓gInt, ↓newL, ↓mAppend, ↓mInsert, ↓mPopAt, ↓mIndex, ↓gSplit, ↓gJoin, List.map_cons, List.map_nil, List.length_cons, List.length_nil, List.length_map, List.cons_append, List.nil_append, Nat.reduceAdd, Nat.reduceSub, List.getElem?_cons_zero, List.getElem?_cons_succ, List.getElem?_map, Option.map_some, List.set_cons_zero, List.set_cons_succ, isNon, seqOf, listOf, atI_nn, atI_0, atI_1, atI_2, atI_3, encNet, encSt, encRow, encR, encO, encP, nats, encT, Od.raw, if_true, if_false, ite_true, ite_false, Bool.false_eq_true, Bool.true_eq_false, Bool.not_true, Bool.not_false, decide_true, decide_false, reduceIte, eq_self, and_true, true_and, sn_set_put, sn_set_take, sn_set_add, sn_put_set, sn_put_take, sn_put_add, sn_take_set, sn_take_put, sn_take_add, sn_add_set, sn_add_put, sn_add_take]; exact hq) seqT_lst (by simp [intL]) (by rw [lr]; omega) (fun k x y h1 h2 => ?_)
    obtain ⟨r, hr, rfl⟩ := map_get h1
    rw [ints_at, List.getElem?_map, hr] at h2
    cases h2
    exact (by intro Q E hq; simp only [↓eVar, ↓eC, ↓eBin, ↓eUn, ↓eB, ↓eTup, ↓eLst, ↓eAnd, ↓eOr, ↓eNot, ↓eIf, ↓eChain, ↓eSlice, ↓eM, ↓eStr1, ↓eIsi, ↓oNo, ↓oPart, ↓tst, ↓ftAnd, ↓ftOr, ↓ftNot, ↓ftYes, ↓args, ↓gI, ↓gI0, ↓gSubI, ↓gFdiv, ↓gMod, ↓gPow, ↓gLt, ↓gLe, ↓gGt, ↓gGe, ↓gAdd, ↓gMul, ↓gRep, ↓gIx, ↓gIsN, ↓gNotN, ↓gNeg, ↓gEqN, ↓gIn, ↓gInSeq, ↓gLen, ↓gSlice, ↓gList, ↓gTuple, ↓gMin2, ↓gMax2, ↓gStr, ↓gInt, ↓newL, ↓mAppend, ↓mInsert, ↓mPopAt, ↓mIndex, ↓gSplit, ↓gJoin, List.map_cons, List.map_nil, List.length_cons, List.length_nil, List.length_map, List.cons_append, List.nil_append, Nat.reduceAdd, Nat.reduceSub, List.getElem?_cons_zero, List.getElem?_cons_succ, List.getElem?_map, Option.map_some, List.set_cons_zero, List.set_cons_succ, isNon, seqOf, listOf, atI_nn, atI_0, atI_1, atI_2, atI_3, encNet, encSt, encRow, encR, encO, encP, nats, encT, Od.raw, if_true, if_false, ite_true, ite_false, Bool.false_eq_true, Bool.true_eq_false, Bool.not_true, Bool.not_false, decide_true, decide_false, reduceIte, eq_self, and_true, true_and, sn_set_put, sn_set_take, sn_set_add, sn_put_set, sn_put_take, sn_put_add, sn_take_set, sn_take_put, sn_take_add, sn_add_set, sn_add_put, sn_add_take]; exact hq)
  have pls : Ev (eB (gList false) [(eBin gIx (eVar 7) (eC (.int 0)))]) [some (.scr (intL ns)), some (encNet N), some (.int (m : Int)), none, some (encNet N), some (encNet (widN m N)), none, some (encSt T), some (encSt U), x9, x10] [] (.lst (intL (T.places.map fun (n : Nat) => (n : Int)))) [] := by
    rw [← nats_ints]
    exact ev_list (M1 := []) (d := .tup (nats T.places)) (by intro Q E hq; simp only [↓eVar, ↓eC, ↓eBin, ↓eUn, ↓eB, ↓eTup, ↓eLst, ↓eAnd, ↓eOr, ↓eNot, ↓eIf, ↓eChain, ↓eSlice, ↓eM, ↓eStr1, ↓eIsi, ↓oNo, ↓oPart, ↓tst, ↓ftAnd, ↓ftOr, ↓ftNot, ↓ftYes, ↓args, ↓gI, ↓gI0, ↓gSubI, ↓gFdiv, ↓gMod, ↓gPow, ↓gLt, ↓gLe, ↓gGt, ↓gGe, ↓gAdd, ↓gMul, ↓gRep, ↓gIx, ↓gIsN, ↓gNotN, ↓gNeg, ↓gEqN, ↓gIn, ↓gInSeq, ↓gLen, ↓gSlice, ↓gList, ↓gTuple, ↓gMin2, ↓gMax2, ↓gStr, ↓gInt, ↓newL, ↓mAppend, ↓mInsert, ↓mPopAt, ↓mIndex, ↓gSplit, ↓gJoin, List.map_cons, List.map_nil, List.length_cons, List.length_nil, List.length_map, List.cons_append, List.nil_append, Nat.reduceAdd, Nat.reduceSub, List.getElem?_cons_zero, List.getElem?_cons_succ, List.getElem?_map, Option.map_some, List.set_cons_zero, List.set_cons_succ, isNon, seqOf, listOf, atI_nn, atI_0, atI_1, atI_2, atI_3, encNet, encSt, encRow, encR, encO, encP, nats, encT, Od.raw, if_true, if_false, ite_true, ite_false, Bool.false_eq_true, Bool.true_eq_false, Bool.not_true, Bool.not_false, decide_true, decide_false, reduceIte, eq_self, and_true, true_and, sn_set_put, sn_set_take, sn_set_add, sn_put_set, sn_put_take, sn_put_add, sn_take_set, sn_take_put, sn_take_add, sn_add_set, sn_add_put, sn_add_take]; exact hq) seqT_tup
  have cmp : Ev (eBin (gEqN false) (eLc false (iSeqD (eBin gIx (eVar 1) (eC (.int 1)))) [3] (putNm 3) ftYes (eB gLen [(eVar 3)])) (eB (gList false) [(eBin gIx (eVar 7) (eC (.int 0)))])) [some (.scr (intL ns)), some (encNet N), some (.int (m : Int)), none, some (encNet N), some (encNet (widN m N)), none, some (encSt T), some (encSt U), x9, x10] [] (.bl (decide ((N.rows.map fun r => (r.length : Int)) = T.places.map fun (n : Nat) => (n : Int)))) [] :=
    ev_bin (M3 := []) lens pls fun Q q => eq_ints (neg := false) (py_ints (n := 6)) (py_ints (n := 6)) q
  by_cases h : (N.rows.map fun r => (r.length : Int)) = T.places.map fun (n : Nat) => (n : Int)
  · rw [decide_eq_true h] at cmp
    refine st_if1 (tv_of cmp) ?_
    have all : AllT N T := by
      intro w hw
      have h1 : (N.rows.map fun r => (r.length : Int))[w]? = (T.places.map fun (n : Nat) => (n : Int))[w]? := by rw [h]
      rw [List.getElem?_map, List.getElem?_map, row_at hw, pl_at gT.g hw] at h1
      have h2 := Option.some.inj h1
      have h3 : ((N.row w).length : Int) = (T.pl w : Nat) := h2
      omega
    have hUT : U = T := still_go (fun w => by
      have := allT_still all w
      by_cases hw : canN (widN m N) T w = true
      · have h1 := (can_iff.mp hw).1
        have h0 := can_lt hw
        have h2 := all w h0
        have h3 : (widN m N).row w = N.row w := rfl
        rw [h3] at h1
        omega
      · simpa using hw) hTU
    subst hUT
    exact st_ret2 (M1 := []) (ev_call (xs := [encSt U, encSt U]) (M1 := []) (by intro Q E hq; simp only [↓eVar, ↓eC, ↓eBin, ↓eUn, ↓eB, ↓eTup, ↓eLst, ↓eAnd, ↓eOr, ↓eNot, ↓eIf, ↓eChain, ↓eSlice, ↓eM, ↓eStr1, ↓eIsi, ↓oNo, ↓oPart, ↓tst, ↓ftAnd, ↓ftOr, ↓ftNot, ↓ftYes, ↓args, ↓gI, ↓gI0, ↓gSubI, ↓gFdiv, ↓gMod, ↓gPow, ↓gLt, ↓gLe, ↓gGt, ↓gGe, ↓gAdd, ↓gMul, ↓gRep, ↓gIx, ↓gIsN, ↓gNotN, ↓gNeg, ↓gEqN, ↓gIn, ↓gInSeq, ↓gLen, ↓gSlice, ↓gList, ↓gTuple, ↓gMin2, ↓gMax2, ↓gStr, ↓gInt, ↓newL, ↓mAppend, ↓mInsert, ↓mPopAt, ↓mIndex, ↓gSplit, ↓gJoin, List.map_cons, List.map_nil, List.length_cons, List.length_nil, List.length_map, List.cons_append, List.nil_append, Nat.reduceAdd, Nat.reduceSub, List.getElem?_cons_zero, List.getElem?_cons_succ, List.getElem?_map, Option.map_some, List.set_cons_zero, List.set_cons_succ, isNon, seqOf, listOf, atI_nn, atI_0, atI_1, atI_2, atI_3, encNet, encSt, encRow, encR, encO, encP, nats, encT, Od.raw, if_true, if_false, ite_true, ite_false, Bool.false_eq_true, Bool.true_eq_false, Bool.not_true, Bool.not_false, decide_true, decide_false, reduceIte, eq_self, and_true, true_and, sn_set_put, sn_set_take, sn_set_add, sn_put_set, sn_put_take, sn_put_add, sn_take_set, sn_take_put, sn_take_add, sn_add_set, sn_add_put, sn_add_take]; exact hq) fun Q E q => ⟨N, U, encSt U, rfl, staIn_enc, gT.g, q⟩) (hq _)
  · rw [decide_eq_false h] at cmp
    exact st_ifn (tv_of cmp) (st_ret (by intro Q E hq; simp only [↓eVar, ↓eC, ↓eBin, ↓eUn, ↓eB, ↓eTup, ↓eLst, ↓eAnd, ↓eOr, ↓eNot, ↓eIf, ↓eChain, ↓eSlice, ↓eM, ↓eStr1, ↓eIsi, ↓oNo, ↓oPart, ↓tst, ↓ftAnd, ↓ftOr, ↓ftNot, ↓ftYes, ↓args, ↓gI, ↓gI0, ↓gSubI, ↓gFdiv, ↓gMod, ↓gPow, ↓gLt, ↓gLe, ↓gGt, ↓gGe, ↓gAdd, ↓gMul, ↓gRep, ↓gIx, ↓gIsN, ↓gNotN, ↓gNeg, ↓gEqN, ↓gIn, ↓gInSeq, ↓gLen, ↓gSlice, ↓gList, ↓gTuple, ↓gMin2, ↓gMax2, ↓gStr, ↓gInt, ↓newL, ↓mAppend, ↓mInsert, ↓mPopAt, ↓mIndex, ↓gSplit, ↓gJoin, List.map_cons, List.map_nil, List.length_cons, List.length_nil, List.length_map, List.cons_append, List.nil_append, Nat.reduceAdd, Nat.reduceSub, List.getElem?_cons_zero, List.getElem?_cons_succ, List.getElem?_map, Option.map_some, List.set_cons_zero, List.set_cons_succ, isNon, seqOf, listOf, atI_nn, atI_0, atI_1, atI_2, atI_3, encNet, encSt, encRow, encR, encO, encP, nats, encT, Od.raw, if_true, if_false, ite_true, ite_false, Bool.false_eq_true, Bool.true_eq_false, Bool.not_true, Bool.not_false, decide_true, decide_false, reduceIte, eq_self, and_true, true_and, sn_set_put, sn_set_take, sn_set_add, sn_put_set, sn_put_take, sn_put_add, sn_take_set, sn_take_put, sn_take_add, sn_add_set, sn_add_put, sn_add_take]; exact hq) (hq _))
end DL
namespace DL
open PySem PySem.Spec PyProof.Rows L2

/-! ### the text -/
def topS (i : Nat) : Stmt := PySem.Challenge.pw_pipelinecut_k12_whole_room_does_no_harm.main.body.getD i (.Pass ⟨0, 0, 0, 0⟩)
structure Tops (K : PySem.W.Frag) (mg : Str → Option Value) : Prop where
  k_MOST_ROOM : ∃ t, mg "MOST_ROOM" = some (.int 1000 t)
  e_HasToWait : ∃ C, ExcF K mg "HasToWait" C
  e_IsThrough : ∃ C, ExcF K mg "IsThrough" C
  e_NoWorker : ∃ C, ExcF K mg "NoWorker" C
  m_bool : mg "bool" = none
  m_enumerate : mg "enumerate" = none
  m_int : mg "int" = none
  m_isinstance : mg "isinstance" = none
  m_len : mg "len" = none
  m_list : mg "list" = none
  m_min : mg "min" = none
  m_range : mg "range" = none
  m_tuple : mg "tuple" = none

abbrev s_widened : Stmt := topS 7
abbrev n_widened : List Str := ["net", "more", "pipe", "pipes", "row"]
theorem sc_widened : FnScope ["net", "more", "pipe", "pipes", "row"] ["net", "more"] (defScope s_widened) := ⟨rfl, rfl, rfl, by decide +kernel, rfl, by decide +kernel, by decide +kernel⟩
theorem d_widened {P : Program} {w : World} {K : PySem.W.Frag} {mg : Str → Option Value} {base : Heap} {f : Addr} {cdv : Value} {A : Around} {outer : List Env} {s : Shared} {H : Hp} {E : XK} (T : Tops K mg)
    (hr : Room 0 (A.deeper (envOfC "widened" (defScope s_widened) s.heap.objs.size f cdv))) :
    ∃ ts, PSsd (cxOf (L2.CX P w) P w K mg base n_widened "widened" (defScope s_widened) f cdv A outer s H E) K mg (fun c d _ H' => E c d H') (defBody s_widened) ts (f_widened) := by
  have tk : Takes (cxOf (L2.CX P w) P w K mg base n_widened "widened" (defScope s_widened) f cdv A outer s H E) (fun c d _ H' => E c d H') := takes_of rfl rfl rfl rfl
  have hp := passes_of (X := cxOf (L2.CX P w) P w K mg base n_widened "widened" (defScope s_widened) f cdv A outer s H E) rfl
  exact ⟨_, (pssd_cons (psd_setLc [("pipe", 2)] rfl sc_widened.nd (pid_seq (ped_ix (ped_var 0) ped_int)) (blkOk_by (N := n_widened) (sc := defScope s_widened) (by decide +kernel)) (fun _ _ _ _ _ => pgc_name 2 sc_widened.nd) (fun _ _ _ _ _ => ptsd_nil) (fun _ _ _ _ _ => (ped_tup (pad_cons (ped_ix (ped_var 2) ped_int) (pad_cons (ped_ix (ped_var 2) ped_int) (pad_cons (ped_min2 rfl T.m_min (pad_cons (ped_gint rfl T.k_MOST_ROOM) (pad_cons (ped_add false (ped_ix (ped_var 2) ped_int) (ped_var 1)) pad_nil))) pad_nil))))))
      (pssd_one (psd_ret (ped_tup (pad_cons (ped_var 3) (pad_cons (ped_lc [("row", 4)] rfl sc_widened.nd (pid_seq (ped_ix (ped_var 0) ped_int)) (blkOk_by (N := n_widened) (sc := defScope s_widened) (by decide +kernel)) (fun _ _ _ _ _ => pgc_name 4 sc_widened.nd) (fun _ _ _ _ _ => ptsd_nil) (fun _ _ _ _ _ => (ped_list false T.m_list (pad_cons (ped_var 4) pad_nil)))) pad_nil))))))⟩

abbrev s_begin : Stmt := topS 9
abbrev n_begin : List Str := ["net", "row", "none", "pipe", "empty"]
theorem sc_begin : FnScope ["net", "row", "none", "pipe", "empty"] ["net"] (defScope s_begin) := ⟨rfl, rfl, rfl, by decide +kernel, rfl, by decide +kernel, by decide +kernel⟩
theorem d_begin {P : Program} {w : World} {K : PySem.W.Frag} {mg : Str → Option Value} {base : Heap} {f : Addr} {cdv : Value} {A : Around} {outer : List Env} {s : Shared} {H : Hp} {E : XK} (T : Tops K mg)
    (hr : Room 0 (A.deeper (envOfC "begin" (defScope s_begin) s.heap.objs.size f cdv))) :
    ∃ ts, PSsd (cxOf (L2.CX P w) P w K mg base n_begin "begin" (defScope s_begin) f cdv A outer s H E) K mg (fun c d _ H' => E c d H') (defBody s_begin) ts (f_begin) := by
  have tk : Takes (cxOf (L2.CX P w) P w K mg base n_begin "begin" (defScope s_begin) f cdv A outer s H E) (fun c d _ H' => E c d H') := takes_of rfl rfl rfl rfl
  have hp := passes_of (X := cxOf (L2.CX P w) P w K mg base n_begin "begin" (defScope s_begin) f cdv A outer s H E) rfl
  exact ⟨_, (pssd_cons (psd_set 2 sc_begin.nd (ped_tuple T.m_tuple (pad_cons (ped_lc [("row", 1)] rfl sc_begin.nd (pid_seq (ped_ix (ped_var 0) ped_int)) (blkOk_by (N := n_begin) (sc := defScope s_begin) (by decide +kernel)) (fun _ _ _ _ _ => pgc_name 1 sc_begin.nd) (fun _ _ _ _ _ => ptsd_nil) (fun _ _ _ _ _ => ped_int)) pad_nil)))
      (pssd_cons (psd_set 4 sc_begin.nd (ped_tuple T.m_tuple (pad_cons (ped_lc [("pipe", 3)] rfl sc_begin.nd (pid_seq (ped_ix (ped_var 0) ped_int)) (blkOk_by (N := n_begin) (sc := defScope s_begin) (by decide +kernel)) (fun _ _ _ _ _ => pgc_name 3 sc_begin.nd) (fun _ _ _ _ _ => ptsd_nil) (fun _ _ _ _ _ => (ped_tup pad_nil))) pad_nil)))
      (pssd_one (psd_ret (ped_tup (pad_cons (ped_var 2) (pad_cons (ped_var 2) (pad_cons (ped_var 4) (pad_cons (ped_var 4) pad_nil)))))))))⟩

abbrev s_need_worker : Stmt := topS 10
abbrev n_need_worker : List Str := ["net", "who"]
theorem sc_need_worker : FnScope ["net", "who"] ["net", "who"] (defScope s_need_worker) := ⟨rfl, rfl, rfl, by decide +kernel, rfl, by decide +kernel, by decide +kernel⟩
theorem d_need_worker {P : Program} {w : World} {K : PySem.W.Frag} {mg : Str → Option Value} {base : Heap} {f : Addr} {cdv : Value} {A : Around} {outer : List Env} {s : Shared} {H : Hp} {E : XK} (T : Tops K mg)
    (hr : Room 0 (A.deeper (envOfC "need_worker" (defScope s_need_worker) s.heap.objs.size f cdv))) :
    ∃ ts, PSsd (cxOf (L2.CX P w) P w K mg base n_need_worker "need_worker" (defScope s_need_worker) f cdv A outer s H E) K mg (fun c d _ H' => E c d H') (defBody s_need_worker) ts (f_need_worker) := by
  have tk : Takes (cxOf (L2.CX P w) P w K mg base n_need_worker "need_worker" (defScope s_need_worker) f cdv A outer s H E) (fun c d _ H' => E c d H') := takes_of rfl rfl rfl rfl
  have hp := passes_of (X := cxOf (L2.CX P w) P w K mg base n_need_worker "need_worker" (defScope s_need_worker) f cdv A outer s H E) rfl
  exact ⟨_, (pssd_one (psd_if (ptd_not (ptd_chain op_le op_lt (so_I0 fun _ _ _ _ => rfl) (so_I0 fun _ _ _ _ => rfl) ped_int (ped_var 1) (ped_len T.m_len (pad_cons (ped_ix (ped_var 0) ped_int) pad_nil)))) (pssd_one (psd_raise rfl tk T.e_NoWorker.choose_spec)) pssd_nil))⟩

abbrev s_is_through : Stmt := topS 11
abbrev n_is_through : List Str := ["net", "state", "who"]
theorem sc_is_through : FnScope ["net", "state", "who"] ["net", "state", "who"] (defScope s_is_through) := ⟨rfl, rfl, rfl, by decide +kernel, rfl, by decide +kernel, by decide +kernel⟩
theorem d_is_through {P : Program} {w : World} {K : PySem.W.Frag} {mg : Str → Option Value} {base : Heap} {f : Addr} {cdv : Value} {A : Around} {outer : List Env} {s : Shared} {H : Hp} {E : XK} (T : Tops K mg) {g_need_worker : GS} (c_need_worker : Callee P w K mg base "need_worker" 1 2 g_need_worker)
    (hr : Room 1 (A.deeper (envOfC "is_through" (defScope s_is_through) s.heap.objs.size f cdv))) :
    ∃ ts, PSsd (cxOf (L2.CX P w) P w K mg base n_is_through "is_through" (defScope s_is_through) f cdv A outer s H E) K mg (fun c d _ H' => E c d H') (defBody s_is_through) ts (f_is_through g_need_worker) := by
  have tk : Takes (cxOf (L2.CX P w) P w K mg base n_is_through "is_through" (defScope s_is_through) f cdv A outer s H E) (fun c d _ H' => E c d H') := takes_of rfl rfl rfl rfl
  have hp := passes_of (X := cxOf (L2.CX P w) P w K mg base n_is_through "is_through" (defScope s_is_through) f cdv A outer s H E) rfl
  exact ⟨_, (pssd_cons (psd_expr (ped_callC c_need_worker hr tk (pad_cons (ped_var 0) (pad_cons (ped_var 2) pad_nil))))
      (pssd_one (psd_ret (ped_ge (ped_ix (ped_ix (ped_var 1) ped_int) (ped_var 2)) (ped_len T.m_len (pad_cons (ped_ix (ped_ix (ped_var 0) ped_int) (ped_var 2)) pad_nil))))))⟩

abbrev s_wait_of : Stmt := topS 12
abbrev n_wait_of : List Str := ["net", "state", "who", "order", "pipe", "held"]
theorem sc_wait_of : FnScope ["net", "state", "who", "order", "pipe", "held"] ["net", "state", "who"] (defScope s_wait_of) := ⟨rfl, rfl, rfl, by decide +kernel, rfl, by decide +kernel, by decide +kernel⟩
theorem d_wait_of {P : Program} {w : World} {K : PySem.W.Frag} {mg : Str → Option Value} {base : Heap} {f : Addr} {cdv : Value} {A : Around} {outer : List Env} {s : Shared} {H : Hp} {E : XK} (T : Tops K mg) {g_is_through : GS} (c_is_through : Callee P w K mg base "is_through" 2 3 g_is_through)
    (hr : Room 2 (A.deeper (envOfC "wait_of" (defScope s_wait_of) s.heap.objs.size f cdv))) :
    ∃ ts, PSsd (cxOf (L2.CX P w) P w K mg base n_wait_of "wait_of" (defScope s_wait_of) f cdv A outer s H E) K mg (fun c d _ H' => E c d H') (defBody s_wait_of) ts (f_wait_of g_is_through) := by
  have tk : Takes (cxOf (L2.CX P w) P w K mg base n_wait_of "wait_of" (defScope s_wait_of) f cdv A outer s H E) (fun c d _ H' => E c d H') := takes_of rfl rfl rfl rfl
  have hp := passes_of (X := cxOf (L2.CX P w) P w K mg base n_wait_of "wait_of" (defScope s_wait_of) f cdv A outer s H E) rfl
  exact ⟨_, (pssd_cons (psd_if (ptd_val (ped_callC c_is_through hr tk (pad_cons (ped_var 0) (pad_cons (ped_var 1) (pad_cons (ped_var 2) pad_nil))))) (pssd_one (psd_ret ped_non)) pssd_nil)
      (pssd_cons (psd_set 3 sc_wait_of.nd (ped_ix (ped_ix (ped_ix (ped_var 0) ped_int) (ped_var 2)) (ped_ix (ped_ix (ped_var 1) ped_int) (ped_var 2))))
      (pssd_cons (psd_if (ptd_eq hr (ped_ix (ped_var 3) ped_int) ped_str) (pssd_one (psd_ret ped_non)) pssd_nil)
      (pssd_cons (psd_set 4 sc_wait_of.nd (ped_ix (ped_ix (ped_var 0) ped_int) (ped_ix (ped_var 3) ped_int)))
      (pssd_cons (psd_set 5 sc_wait_of.nd (ped_len T.m_len (pad_cons (ped_ix (ped_ix (ped_var 1) ped_int) (ped_ix (ped_var 3) ped_int)) pad_nil)))
      (pssd_cons (psd_if (PWd.pt (pwd_and (ptd_eq hr (ped_ix (ped_var 3) ped_int) ped_str) (pwd_and1 (ptd_ge (ped_var 5) (ped_ix (ped_var 4) ped_int))))) (pssd_one (psd_ret (ped_tup (pad_cons (ped_ix (ped_var 3) ped_int) (pad_cons (ped_ix (ped_var 4) ped_int) pad_nil))))) pssd_nil)
      (pssd_cons (psd_if (PWd.pt (pwd_and (ptd_ne hr (ped_ix (ped_var 3) ped_int) ped_str) (pwd_and1 (ptd_eq hr (ped_var 5) ped_int)))) (pssd_one (psd_ret (ped_tup (pad_cons (ped_ix (ped_var 3) ped_int) (pad_cons (ped_ix (ped_var 4) ped_int) pad_nil))))) pssd_nil)
      (pssd_one (psd_ret ped_non)))))))))⟩

abbrev s_can_step : Stmt := topS 13
abbrev n_can_step : List Str := ["net", "state", "who"]
theorem sc_can_step : FnScope ["net", "state", "who"] ["net", "state", "who"] (defScope s_can_step) := ⟨rfl, rfl, rfl, by decide +kernel, rfl, by decide +kernel, by decide +kernel⟩
theorem d_can_step {P : Program} {w : World} {K : PySem.W.Frag} {mg : Str → Option Value} {base : Heap} {f : Addr} {cdv : Value} {A : Around} {outer : List Env} {s : Shared} {H : Hp} {E : XK} (T : Tops K mg) {g_is_through g_wait_of : GS} (c_is_through : Callee P w K mg base "is_through" 2 3 g_is_through) (c_wait_of : Callee P w K mg base "wait_of" 3 3 g_wait_of)
    (hr : Room 3 (A.deeper (envOfC "can_step" (defScope s_can_step) s.heap.objs.size f cdv))) :
    ∃ ts, PSsd (cxOf (L2.CX P w) P w K mg base n_can_step "can_step" (defScope s_can_step) f cdv A outer s H E) K mg (fun c d _ H' => E c d H') (defBody s_can_step) ts (f_can_step g_is_through g_wait_of) := by
  have tk : Takes (cxOf (L2.CX P w) P w K mg base n_can_step "can_step" (defScope s_can_step) f cdv A outer s H E) (fun c d _ H' => E c d H') := takes_of rfl rfl rfl rfl
  have hp := passes_of (X := cxOf (L2.CX P w) P w K mg base n_can_step "can_step" (defScope s_can_step) f cdv A outer s H E) rfl
  exact ⟨_, (pssd_one (psd_ret (ped_and (ped_not (ped_callC c_is_through hr tk (pad_cons (ped_var 0) (pad_cons (ped_var 1) (pad_cons (ped_var 2) pad_nil))))) (ped_one (ped_isN (ped_callC c_wait_of hr tk (pad_cons (ped_var 0) (pad_cons (ped_var 1) (pad_cons (ped_var 2) pad_nil)))) ped_non)))))⟩

abbrev s_with_at : Stmt := topS 14
abbrev n_with_at : List Str := ["row", "at", "value"]
theorem sc_with_at : FnScope ["row", "at", "value"] ["row", "at", "value"] (defScope s_with_at) := ⟨rfl, rfl, rfl, by decide +kernel, rfl, by decide +kernel, by decide +kernel⟩
theorem d_with_at {P : Program} {w : World} {K : PySem.W.Frag} {mg : Str → Option Value} {base : Heap} {f : Addr} {cdv : Value} {A : Around} {outer : List Env} {s : Shared} {H : Hp} {E : XK} (T : Tops K mg)
    (hr : Room 0 (A.deeper (envOfC "with_at" (defScope s_with_at) s.heap.objs.size f cdv))) :
    ∃ ts, PSsd (cxOf (L2.CX P w) P w K mg base n_with_at "with_at" (defScope s_with_at) f cdv A outer s H E) K mg (fun c d _ H' => E c d H') (defBody s_with_at) ts (f_with_at) := by
  have tk : Takes (cxOf (L2.CX P w) P w K mg base n_with_at "with_at" (defScope s_with_at) f cdv A outer s H E) (fun c d _ H' => E c d H') := takes_of rfl rfl rfl rfl
  have hp := passes_of (X := cxOf (L2.CX P w) P w K mg base n_with_at "with_at" (defScope s_with_at) f cdv A outer s H E) rfl
  exact ⟨_, (pssd_one (psd_ret (ped_add false (ped_add false (ped_slice false (ped_var 0) pod_none (pod_some (ped_var 1))) (ped_tup (pad_cons (ped_var 2) pad_nil))) (ped_slice false (ped_var 0) (pod_some (ped_add false (ped_var 1) ped_int)) pod_none))))⟩

abbrev s_step : Stmt := topS 15
abbrev n_step : List Str := ["net", "state", "who", "order", "box", "held", "past", "came"]
theorem sc_step : FnScope ["net", "state", "who", "order", "box", "held", "past", "came"] ["net", "state", "who"] (defScope s_step) := ⟨rfl, rfl, rfl, by decide +kernel, rfl, by decide +kernel, by decide +kernel⟩
theorem d_step {P : Program} {w : World} {K : PySem.W.Frag} {mg : Str → Option Value} {base : Heap} {f : Addr} {cdv : Value} {A : Around} {outer : List Env} {s : Shared} {H : Hp} {E : XK} (T : Tops K mg) {g_is_through g_wait_of g_with_at : GS} (c_is_through : Callee P w K mg base "is_through" 2 3 g_is_through) (c_wait_of : Callee P w K mg base "wait_of" 3 3 g_wait_of) (c_with_at : Callee P w K mg base "with_at" 1 3 g_with_at)
    (hr : Room 3 (A.deeper (envOfC "step" (defScope s_step) s.heap.objs.size f cdv))) :
    ∃ ts, PSsd (cxOf (L2.CX P w) P w K mg base n_step "step" (defScope s_step) f cdv A outer s H E) K mg (fun c d _ H' => E c d H') (defBody s_step) ts (f_step g_is_through g_wait_of g_with_at) := by
  have tk : Takes (cxOf (L2.CX P w) P w K mg base n_step "step" (defScope s_step) f cdv A outer s H E) (fun c d _ H' => E c d H') := takes_of rfl rfl rfl rfl
  have hp := passes_of (X := cxOf (L2.CX P w) P w K mg base n_step "step" (defScope s_step) f cdv A outer s H E) rfl
  exact ⟨_, (pssd_cons (psd_if (ptd_val (ped_callC c_is_through hr tk (pad_cons (ped_var 0) (pad_cons (ped_var 1) (pad_cons (ped_var 2) pad_nil))))) (pssd_one (psd_raise rfl tk T.e_IsThrough.choose_spec)) pssd_nil)
      (pssd_cons (psd_if (ptd_notN (ped_callC c_wait_of hr tk (pad_cons (ped_var 0) (pad_cons (ped_var 1) (pad_cons (ped_var 2) pad_nil)))) ped_non) (pssd_one (psd_raise rfl tk T.e_HasToWait.choose_spec)) pssd_nil)
      (pssd_cons (psd_set 3 sc_step.nd (ped_ix (ped_ix (ped_ix (ped_var 0) ped_int) (ped_var 2)) (ped_ix (ped_ix (ped_var 1) ped_int) (ped_var 2))))
      (pssd_cons (psd_set 4 sc_step.nd (ped_ix (ped_ix (ped_var 1) ped_int) (ped_var 2)))
      (pssd_cons (psd_set 5 sc_step.nd (ped_ix (ped_var 1) ped_int))
      (pssd_cons (psd_set 6 sc_step.nd (ped_ix (ped_var 1) ped_int))
      (pssd_cons (psd_if (ptd_eq hr (ped_ix (ped_var 3) ped_int) ped_str) (pssd_one (psd_set 4 sc_step.nd (ped_ix (ped_var 3) ped_int))) (pssd_one (psd_if (ptd_eq hr (ped_ix (ped_var 3) ped_int) ped_str) (pssd_one (psd_set 5 sc_step.nd (ped_callC c_with_at hr tk (pad_cons (ped_var 5) (pad_cons (ped_ix (ped_var 3) ped_int) (pad_cons (ped_add false (ped_ix (ped_var 5) (ped_ix (ped_var 3) ped_int)) (ped_tup (pad_cons (ped_var 4) pad_nil))) pad_nil)))))) (pssd_cons (psd_set 7 sc_step.nd (ped_ix (ped_ix (ped_var 5) (ped_ix (ped_var 3) ped_int)) ped_int))
      (pssd_cons (psd_set 5 sc_step.nd (ped_callC c_with_at hr tk (pad_cons (ped_var 5) (pad_cons (ped_ix (ped_var 3) ped_int) (pad_cons (ped_slice false (ped_ix (ped_var 5) (ped_ix (ped_var 3) ped_int)) (pod_some ped_int) pod_none) pad_nil)))))
      (pssd_cons (psd_set 6 sc_step.nd (ped_callC c_with_at hr tk (pad_cons (ped_var 6) (pad_cons (ped_ix (ped_var 3) ped_int) (pad_cons (ped_add false (ped_ix (ped_var 6) (ped_ix (ped_var 3) ped_int)) (ped_tup (pad_cons (ped_var 7) pad_nil))) pad_nil)))))
      (pssd_one (psd_set 4 sc_step.nd (ped_ifx (ptd_eq hr (ped_ix (ped_var 3) ped_int) ped_str) (ped_var 7) (ped_add false (ped_var 4) (ped_var 7)))))))))))
      (pssd_one (psd_ret (ped_tup (pad_cons (ped_callC c_with_at hr tk (pad_cons (ped_ix (ped_var 1) ped_int) (pad_cons (ped_var 2) (pad_cons (ped_add false (ped_ix (ped_ix (ped_var 1) ped_int) (ped_var 2)) ped_int) pad_nil)))) (pad_cons (ped_callC c_with_at hr tk (pad_cons (ped_ix (ped_var 1) ped_int) (pad_cons (ped_var 2) (pad_cons (ped_var 4) pad_nil)))) (pad_cons (ped_var 5) (pad_cons (ped_var 6) pad_nil))))))))))))))⟩

abbrev s_who_can : Stmt := topS 17
abbrev n_who_can : List Str := ["net", "state", "who"]
theorem sc_who_can : FnScope ["net", "state", "who"] ["net", "state"] (defScope s_who_can) := ⟨rfl, rfl, rfl, by decide +kernel, rfl, by decide +kernel, by decide +kernel⟩
theorem d_who_can {P : Program} {w : World} {K : PySem.W.Frag} {mg : Str → Option Value} {base : Heap} {f : Addr} {cdv : Value} {A : Around} {outer : List Env} {s : Shared} {H : Hp} {E : XK} (T : Tops K mg) {g_can_step : GS} (c_can_step : Callee P w K mg base "can_step" 4 3 g_can_step)
    (hr : Room 4 (A.deeper (envOfC "who_can" (defScope s_who_can) s.heap.objs.size f cdv))) :
    ∃ ts, PSsd (cxOf (L2.CX P w) P w K mg base n_who_can "who_can" (defScope s_who_can) f cdv A outer s H E) K mg (fun c d _ H' => E c d H') (defBody s_who_can) ts (f_who_can g_can_step) := by
  have tk : Takes (cxOf (L2.CX P w) P w K mg base n_who_can "who_can" (defScope s_who_can) f cdv A outer s H E) (fun c d _ H' => E c d H') := takes_of rfl rfl rfl rfl
  have hp := passes_of (X := cxOf (L2.CX P w) P w K mg base n_who_can "who_can" (defScope s_who_can) f cdv A outer s H E) rfl
  exact ⟨_, (pssd_cons (psd_for hp rfl (pid_rng1 T.m_range (pad_cons (ped_len T.m_len (pad_cons (ped_ix (ped_var 0) ped_int) pad_nil)) pad_nil)) (pgd_name 2 sc_who_can.nd) (pssd_one (psd_if (ptd_val (ped_callC c_can_step hr tk (pad_cons (ped_var 0) (pad_cons (ped_var 1) (pad_cons (ped_var 2) pad_nil))))) (pssd_one (psd_ret (ped_var 2))) pssd_nil)))
      (pssd_one (psd_ret ped_non)))⟩

abbrev s_settled : Stmt := topS 18
abbrev n_settled : List Str := ["net", "state", "who"]
theorem sc_settled : FnScope ["net", "state", "who"] ["net", "state"] (defScope s_settled) := ⟨rfl, rfl, rfl, by decide +kernel, rfl, by decide +kernel, by decide +kernel⟩
theorem d_settled {P : Program} {w : World} {K : PySem.W.Frag} {mg : Str → Option Value} {base : Heap} {f : Addr} {cdv : Value} {A : Around} {outer : List Env} {s : Shared} {H : Hp} {E : XK} (T : Tops K mg) {g_step g_who_can : GS} (c_step : Callee P w K mg base "step" 4 3 g_step) (c_who_can : Callee P w K mg base "who_can" 5 2 g_who_can)
    (hr : Room 5 (A.deeper (envOfC "settled" (defScope s_settled) s.heap.objs.size f cdv))) :
    ∃ ts, PSsd (cxOf (L2.CX P w) P w K mg base n_settled "settled" (defScope s_settled) f cdv A outer s H E) K mg (fun c d _ H' => E c d H') (defBody s_settled) ts (f_settled g_step g_who_can) := by
  have tk : Takes (cxOf (L2.CX P w) P w K mg base n_settled "settled" (defScope s_settled) f cdv A outer s H E) (fun c d _ H' => E c d H') := takes_of rfl rfl rfl rfl
  have hp := passes_of (X := cxOf (L2.CX P w) P w K mg base n_settled "settled" (defScope s_settled) f cdv A outer s H E) rfl
  exact ⟨_, (pssd_cons (psd_set 2 sc_settled.nd (ped_callC c_who_can hr tk (pad_cons (ped_var 0) (pad_cons (ped_var 1) pad_nil))))
      (pssd_cons (psd_while hp (ptd_notN (ped_var 2) ped_non) (pssd_cons (psd_set 1 sc_settled.nd (ped_callC c_step hr tk (pad_cons (ped_var 0) (pad_cons (ped_var 1) (pad_cons (ped_var 2) pad_nil)))))
      (pssd_one (psd_set 2 sc_settled.nd (ped_callC c_who_can hr tk (pad_cons (ped_var 0) (pad_cons (ped_var 1) pad_nil)))))))
      (pssd_one (psd_ret (ped_var 1)))))⟩

abbrev s_whole : Stmt := topS 20
abbrev n_whole : List Str := ["_law_found"]
theorem sc_whole : FnScope ["_law_found"] ["_law_found"] (defScope s_whole) := ⟨rfl, rfl, rfl, by decide +kernel, rfl, by decide +kernel, by decide +kernel⟩
theorem d_whole {P : Program} {w : World} {K : PySem.W.Frag} {mg : Str → Option Value} {base : Heap} {f : Addr} {cdv : Value} {A : Around} {outer : List Env} {s : Shared} {H : Hp} {E : XK} (T : Tops K mg)
    (hr : Room 0 (A.deeper (envOfC "_law_whole" (defScope s_whole) s.heap.objs.size f cdv))) :
    ∃ ts, PSsd (cxOf (L2.CX P w) P w K mg base n_whole "_law_whole" (defScope s_whole) f cdv A outer s H E) K mg (fun c d _ H' => E c d H') (defBody s_whole) ts (f_whole) := by
  have tk : Takes (cxOf (L2.CX P w) P w K mg base n_whole "_law_whole" (defScope s_whole) f cdv A outer s H E) (fun c d _ H' => E c d H') := takes_of rfl rfl rfl rfl
  have hp := passes_of (X := cxOf (L2.CX P w) P w K mg base n_whole "_law_whole" (defScope s_whole) f cdv A outer s H E) rfl
  exact ⟨_, (pssd_one (psd_ret (ped_and (ped_isi T.m_isinstance T.m_int PyProof.Rows.boot_int (ped_var 0)) (ped_one (ped_not (ped_isi T.m_isinstance T.m_bool PyProof.Rows.boot_bool (ped_var 0)))))))⟩

abbrev s_cell_at : Stmt := topS 21
abbrev n_cell_at : List Str := ["_law_script", "_law_k"]
theorem sc_cell_at : FnScope ["_law_script", "_law_k"] ["_law_script", "_law_k"] (defScope s_cell_at) := ⟨rfl, rfl, rfl, by decide +kernel, rfl, by decide +kernel, by decide +kernel⟩
theorem d_cell_at {P : Program} {w : World} {K : PySem.W.Frag} {mg : Str → Option Value} {base : Heap} {f : Addr} {cdv : Value} {A : Around} {outer : List Env} {s : Shared} {H : Hp} {E : XK} (T : Tops K mg)
    (hr : Room 0 (A.deeper (envOfC "_law_cell_at" (defScope s_cell_at) s.heap.objs.size f cdv))) :
    ∃ ts, PSsd (cxOf (L2.CX P w) P w K mg base n_cell_at "_law_cell_at" (defScope s_cell_at) f cdv A outer s H E) K mg (fun c d _ H' => E c d H') (defBody s_cell_at) ts (f_cell_at) := by
  have tk : Takes (cxOf (L2.CX P w) P w K mg base n_cell_at "_law_cell_at" (defScope s_cell_at) f cdv A outer s H E) (fun c d _ H' => E c d H') := takes_of rfl rfl rfl rfl
  have hp := passes_of (X := cxOf (L2.CX P w) P w K mg base n_cell_at "_law_cell_at" (defScope s_cell_at) f cdv A outer s H E) rfl
  exact ⟨_, (pssd_cons (psd_if (ptd_lt (ped_var 1) (ped_len T.m_len (pad_cons (ped_var 0) pad_nil))) (pssd_one (psd_ret (ped_ix (ped_var 0) (ped_var 1)))) pssd_nil)
      (pssd_one (psd_ret ped_int)))⟩

abbrev s_number_by : Stmt := topS 22
abbrev n_number_by : List Str := ["_law_cell"]
theorem sc_number_by : FnScope ["_law_cell"] ["_law_cell"] (defScope s_number_by) := ⟨rfl, rfl, rfl, by decide +kernel, rfl, by decide +kernel, by decide +kernel⟩
theorem d_number_by {P : Program} {w : World} {K : PySem.W.Frag} {mg : Str → Option Value} {base : Heap} {f : Addr} {cdv : Value} {A : Around} {outer : List Env} {s : Shared} {H : Hp} {E : XK} (T : Tops K mg)
    (hr : Room 0 (A.deeper (envOfC "_law_number_by" (defScope s_number_by) s.heap.objs.size f cdv))) :
    ∃ ts, PSsd (cxOf (L2.CX P w) P w K mg base n_number_by "_law_number_by" (defScope s_number_by) f cdv A outer s H E) K mg (fun c d _ H' => E c d H') (defBody s_number_by) ts (f_number_by) := by
  have tk : Takes (cxOf (L2.CX P w) P w K mg base n_number_by "_law_number_by" (defScope s_number_by) f cdv A outer s H E) (fun c d _ H' => E c d H') := takes_of rfl rfl rfl rfl
  have hp := passes_of (X := cxOf (L2.CX P w) P w K mg base n_number_by "_law_number_by" (defScope s_number_by) f cdv A outer s H E) rfl
  exact ⟨_, (pssd_cons (psd_if (ptd_eq hr (ped_mod (ped_var 0) ped_int) ped_int) (pssd_one (psd_ret (ped_mul false (ped_mod (ped_mul false (ped_var 0) (ped_add false (ped_pow ped_int ped_int) ped_int)) (ped_pow ped_int ped_int)) (ped_sub ped_int (ped_mul false ped_int (ped_mod (ped_fdiv (ped_var 0) ped_int) ped_int)))))) pssd_nil)
      (pssd_cons (psd_if (ptd_eq hr (ped_mod (ped_var 0) ped_int) ped_int) (pssd_one (psd_ret (ped_mod (ped_fdiv (ped_var 0) ped_int) ped_int))) pssd_nil)
      (pssd_one (psd_ret (ped_sub (ped_mod (ped_mul false (ped_var 0) ped_int) ped_int) ped_int)))))⟩

abbrev s_pipe_by : Stmt := topS 23
abbrev n_pipe_by : List Str := ["_law_cell", "_law_many", "_law_rest", "_law_room"]
theorem sc_pipe_by : FnScope ["_law_cell", "_law_many", "_law_rest", "_law_room"] ["_law_cell", "_law_many"] (defScope s_pipe_by) := ⟨rfl, rfl, rfl, by decide +kernel, rfl, by decide +kernel, by decide +kernel⟩
theorem d_pipe_by {P : Program} {w : World} {K : PySem.W.Frag} {mg : Str → Option Value} {base : Heap} {f : Addr} {cdv : Value} {A : Around} {outer : List Env} {s : Shared} {H : Hp} {E : XK} (T : Tops K mg)
    (hr : Room 0 (A.deeper (envOfC "_law_pipe_by" (defScope s_pipe_by) s.heap.objs.size f cdv))) :
    ∃ ts, PSsd (cxOf (L2.CX P w) P w K mg base n_pipe_by "_law_pipe_by" (defScope s_pipe_by) f cdv A outer s H E) K mg (fun c d _ H' => E c d H') (defBody s_pipe_by) ts (f_pipe_by) := by
  have tk : Takes (cxOf (L2.CX P w) P w K mg base n_pipe_by "_law_pipe_by" (defScope s_pipe_by) f cdv A outer s H E) (fun c d _ H' => E c d H') := takes_of rfl rfl rfl rfl
  have hp := passes_of (X := cxOf (L2.CX P w) P w K mg base n_pipe_by "_law_pipe_by" (defScope s_pipe_by) f cdv A outer s H E) rfl
  exact ⟨_, (pssd_cons (psd_set 2 sc_pipe_by.nd (ped_fdiv (ped_var 0) (ped_var 1)))
      (pssd_cons (psd_set 3 sc_pipe_by.nd (ped_add false ped_int (ped_mod (ped_fdiv (ped_var 2) (ped_var 1)) ped_int)))
      (pssd_cons (psd_if (ptd_eq hr (ped_mod (ped_fdiv (ped_fdiv (ped_var 2) (ped_var 1)) ped_int) ped_int) ped_int) (pssd_one (psd_set 3 sc_pipe_by.nd (ped_add false ped_int (ped_mod (ped_fdiv (ped_fdiv (ped_var 2) (ped_var 1)) ped_int) ped_int)))) pssd_nil)
      (pssd_one (psd_ret (ped_tup (pad_cons (ped_mod (ped_var 0) (ped_var 1)) (pad_cons (ped_mod (ped_var 2) (ped_var 1)) (pad_cons (ped_var 3) pad_nil)))))))))⟩

abbrev s_put_in : Stmt := topS 24
abbrev n_put_in : List Str := ["_law_row", "_law_order", "_law_rest"]
theorem sc_put_in : FnScope ["_law_row", "_law_order", "_law_rest"] ["_law_row", "_law_order", "_law_rest"] (defScope s_put_in) := ⟨rfl, rfl, rfl, by decide +kernel, rfl, by decide +kernel, by decide +kernel⟩
theorem d_put_in {P : Program} {w : World} {K : PySem.W.Frag} {mg : Str → Option Value} {base : Heap} {f : Addr} {cdv : Value} {A : Around} {outer : List Env} {s : Shared} {H : Hp} {E : XK} (T : Tops K mg)
    (hr : Room 0 (A.deeper (envOfC "_law_put_in" (defScope s_put_in) s.heap.objs.size f cdv))) :
    ∃ ts, PSsd (cxOf (L2.CX P w) P w K mg base n_put_in "_law_put_in" (defScope s_put_in) f cdv A outer s H E) K mg (fun c d _ H' => E c d H') (defBody s_put_in) ts (f_put_in) := by
  have tk : Takes (cxOf (L2.CX P w) P w K mg base n_put_in "_law_put_in" (defScope s_put_in) f cdv A outer s H E) (fun c d _ H' => E c d H') := takes_of rfl rfl rfl rfl
  have hp := passes_of (X := cxOf (L2.CX P w) P w K mg base n_put_in "_law_put_in" (defScope s_put_in) f cdv A outer s H E) rfl
  exact ⟨_, (pssd_one (psd_if (ptd_eq hr (ped_mod (ped_var 2) ped_int) ped_int) (pssd_one (psd_expr (ped_insert (ped_var 0) (pad_cons (ped_mod (ped_fdiv (ped_var 2) ped_int) (ped_add false (ped_len T.m_len (pad_cons (ped_var 0) pad_nil)) ped_int)) (pad_cons (ped_var 1) pad_nil))))) (pssd_one (psd_expr (ped_append (ped_var 0) (pad_cons (ped_var 1) pad_nil))))))⟩

abbrev s_rows_by : Stmt := topS 25
abbrev n_rows_by : List Str := ["_law_cells", "_law_pipes", "_law_many", "_law_even", "_law_k", "_law_rows", "_law_cell", "_law_way", "_law_rest", "_law_at", "_law_maker", "_law_taker", "_law_turn"]
theorem sc_rows_by : FnScope ["_law_cells", "_law_pipes", "_law_many", "_law_even", "_law_k", "_law_rows", "_law_cell", "_law_way", "_law_rest", "_law_at", "_law_maker", "_law_taker", "_law_turn"] ["_law_cells", "_law_pipes", "_law_many", "_law_even"] (defScope s_rows_by) := ⟨rfl, rfl, rfl, by decide +kernel, rfl, by decide +kernel, by decide +kernel⟩
theorem d_rows_by {P : Program} {w : World} {K : PySem.W.Frag} {mg : Str → Option Value} {base : Heap} {f : Addr} {cdv : Value} {A : Around} {outer : List Env} {s : Shared} {H : Hp} {E : XK} (T : Tops K mg) {g_number_by g_put_in : GS} (c_number_by : Callee P w K mg base "_law_number_by" 1 1 g_number_by) (c_put_in : Callee P w K mg base "_law_put_in" 1 3 g_put_in)
    (hr : Room 1 (A.deeper (envOfC "_law_rows_by" (defScope s_rows_by) s.heap.objs.size f cdv))) :
    ∃ ts, PSsd (cxOf (L2.CX P w) P w K mg base n_rows_by "_law_rows_by" (defScope s_rows_by) f cdv A outer s H E) K mg (fun c d _ H' => E c d H') (defBody s_rows_by) ts (f_rows_by g_number_by g_put_in) := by
  have tk : Takes (cxOf (L2.CX P w) P w K mg base n_rows_by "_law_rows_by" (defScope s_rows_by) f cdv A outer s H E) (fun c d _ H' => E c d H') := takes_of rfl rfl rfl rfl
  have hp := passes_of (X := cxOf (L2.CX P w) P w K mg base n_rows_by "_law_rows_by" (defScope s_rows_by) f cdv A outer s H E) rfl
  exact ⟨_, (pssd_cons (psd_setLc [("_law_k", 4)] rfl sc_rows_by.nd (pid_rng1 T.m_range (pad_cons (ped_var 2) pad_nil)) (blkOk_by (N := n_rows_by) (sc := defScope s_rows_by) (by decide +kernel)) (fun _ _ _ _ _ => pgc_name 4 sc_rows_by.nd) (fun _ _ _ _ _ => ptsd_nil) (fun _ _ _ _ _ => (ped_lst true pad_nil)))
      (pssd_cons (psd_for hp rfl (pid_seq (ped_var 0)) (pgd_name 6 sc_rows_by.nd) (pssd_cons (psd_set 7 sc_rows_by.nd (ped_mod (ped_var 6) ped_int))
      (pssd_cons (psd_set 8 sc_rows_by.nd (ped_fdiv (ped_var 6) ped_int))
      (pssd_cons (psd_if (PWd.pt (pwd_or (ptd_eq hr (ped_var 7) ped_int) (pwd_or1 (ptd_eq hr (ped_len T.m_len (pad_cons (ped_var 1) pad_nil)) ped_int)))) (pssd_cons (psd_if (ptd_lt (ped_len T.m_len (pad_cons (ped_ix (ped_var 5) (ped_mod (ped_var 8) (ped_var 2))) pad_nil)) ped_int) (pssd_one (psd_expr (ped_append (ped_ix (ped_var 5) (ped_mod (ped_var 8) (ped_var 2))) (pad_cons (ped_tup (pad_cons ped_str (pad_cons (ped_callC c_number_by hr tk (pad_cons (ped_fdiv (ped_var 8) (ped_var 2)) pad_nil)) pad_nil))) pad_nil)))) pssd_nil)
      (pssd_one psd_cont)) pssd_nil)
      (pssd_cons (psd_set 9 sc_rows_by.nd (ped_mod (ped_var 8) (ped_len T.m_len (pad_cons (ped_var 1) pad_nil))))
      (pssd_cons (psd_set 8 sc_rows_by.nd (ped_fdiv (ped_var 8) (ped_len T.m_len (pad_cons (ped_var 1) pad_nil))))
      (pssd_cons (psd_set 10 sc_rows_by.nd (ped_ix (ped_var 5) (ped_ix (ped_ix (ped_var 1) (ped_var 9)) ped_int)))
      (pssd_cons (psd_set 11 sc_rows_by.nd (ped_ix (ped_var 5) (ped_ix (ped_ix (ped_var 1) (ped_var 9)) ped_int)))
      (pssd_one (psd_for hp rfl (pid_rng1 T.m_range (pad_cons (ped_ifx (ptd_eq hr (ped_var 7) ped_int) (ped_add false ped_int (ped_mod (ped_fdiv (ped_var 8) ped_int) ped_int)) ped_int) pad_nil)) (pgd_name 12 sc_rows_by.nd) (pssd_cons (psd_if (PWd.pt (pwd_and (ptd_lt (ped_len T.m_len (pad_cons (ped_var 10) pad_nil)) ped_int) (pwd_and (ptd_lt (ped_len T.m_len (pad_cons (ped_var 11) pad_nil)) ped_int) (pwd_and1 (PWd.pt (pwd_or (ptd_ne hr (ped_var 7) ped_int) (pwd_or1 (ptd_val (ped_var 3))))))))) (pssd_one (psd_expr (ped_callC c_put_in hr tk (pad_cons (ped_var 10) (pad_cons (ped_tup (pad_cons ped_str (pad_cons (ped_var 9) pad_nil))) (pad_cons (ped_fdiv (ped_var 8) ped_int) pad_nil)))))) pssd_nil)
      (pssd_one (psd_if (PWd.pt (pwd_and (ptd_lt (ped_len T.m_len (pad_cons (ped_var 10) pad_nil)) ped_int) (pwd_and (ptd_lt (ped_len T.m_len (pad_cons (ped_var 11) pad_nil)) ped_int) (pwd_and1 (PWd.pt (pwd_or (ptd_ne hr (ped_var 7) ped_int) (pwd_or1 (ptd_val (ped_var 3))))))))) (pssd_one (psd_expr (ped_callC c_put_in hr tk (pad_cons (ped_var 11) (pad_cons (ped_tup (pad_cons (ped_ix (ped_lst false (pad_cons ped_str (pad_cons ped_str pad_nil))) (ped_mod (ped_var 8) ped_int)) (pad_cons (ped_var 9) pad_nil))) (pad_cons (ped_fdiv (ped_var 8) ped_int) pad_nil)))))) pssd_nil)))))))))))))
      (pssd_one (psd_ret (ped_var 5)))))⟩

abbrev s_net_by : Stmt := topS 26
abbrev n_net_by : List Str := ["_law_script", "_law_begun", "_law_stride", "_law_head", "_law_many", "_law_amount", "_law_k", "_law_pipes", "_law_cells"]
theorem sc_net_by : FnScope ["_law_script", "_law_begun", "_law_stride", "_law_head", "_law_many", "_law_amount", "_law_k", "_law_pipes", "_law_cells"] ["_law_script", "_law_begun", "_law_stride"] (defScope s_net_by) := ⟨rfl, rfl, rfl, by decide +kernel, rfl, by decide +kernel, by decide +kernel⟩
theorem d_net_by {P : Program} {w : World} {K : PySem.W.Frag} {mg : Str → Option Value} {base : Heap} {f : Addr} {cdv : Value} {A : Around} {outer : List Env} {s : Shared} {H : Hp} {E : XK} (T : Tops K mg) {g_cell_at g_pipe_by g_rows_by : GS} (c_cell_at : Callee P w K mg base "_law_cell_at" 1 2 g_cell_at) (c_pipe_by : Callee P w K mg base "_law_pipe_by" 1 2 g_pipe_by) (c_rows_by : Callee P w K mg base "_law_rows_by" 2 4 g_rows_by)
    (hr : Room 2 (A.deeper (envOfC "_law_net_by" (defScope s_net_by) s.heap.objs.size f cdv))) :
    ∃ ts, PSsd (cxOf (L2.CX P w) P w K mg base n_net_by "_law_net_by" (defScope s_net_by) f cdv A outer s H E) K mg (fun c d _ H' => E c d H') (defBody s_net_by) ts (f_net_by g_cell_at g_pipe_by g_rows_by) := by
  have tk : Takes (cxOf (L2.CX P w) P w K mg base n_net_by "_law_net_by" (defScope s_net_by) f cdv A outer s H E) (fun c d _ H' => E c d H') := takes_of rfl rfl rfl rfl
  have hp := passes_of (X := cxOf (L2.CX P w) P w K mg base n_net_by "_law_net_by" (defScope s_net_by) f cdv A outer s H E) rfl
  exact ⟨_, (pssd_cons (psd_set 3 sc_net_by.nd (ped_callC c_cell_at hr tk (pad_cons (ped_var 0) (pad_cons ped_int pad_nil))))
      (pssd_cons (psd_set 4 sc_net_by.nd (ped_add false ped_int (ped_mod (ped_var 3) ped_int)))
      (pssd_cons (psd_if (ptd_eq hr (ped_mod (ped_fdiv (ped_var 3) ped_int) ped_int) ped_int) (pssd_one (psd_set 4 sc_net_by.nd (ped_sub ped_int (ped_mod (ped_fdiv (ped_var 3) ped_int) ped_int)))) pssd_nil)
      (pssd_cons (psd_set 5 sc_net_by.nd (ped_mod (ped_callC c_cell_at hr tk (pad_cons (ped_var 0) (pad_cons ped_int pad_nil))) ped_int))
      (pssd_cons (psd_if (ptd_eq hr (ped_mod (ped_fdiv (ped_callC c_cell_at hr tk (pad_cons (ped_var 0) (pad_cons ped_int pad_nil))) ped_int) ped_int) ped_int) (pssd_one (psd_set 5 sc_net_by.nd (ped_sub ped_int (ped_mod (ped_fdiv (ped_callC c_cell_at hr tk (pad_cons (ped_var 0) (pad_cons ped_int pad_nil))) ped_int) ped_int)))) pssd_nil)
      (pssd_cons (psd_setLc [("_law_k", 6)] rfl sc_net_by.nd (pid_rng1 T.m_range (pad_cons (ped_var 5) pad_nil)) (blkOk_by (N := n_net_by) (sc := defScope s_net_by) (by decide +kernel)) (fun _ _ _ _ _ => pgc_name 6 sc_net_by.nd) (fun _ _ _ _ _ => ptsd_nil) (fun _ _ _ _ _ => (by exact (ped_callC c_pipe_by hr takes0 (pad_cons (ped_add false (by exact (ped_callC c_cell_at hr takes0 (pad_cons (ped_var 0) (pad_cons (ped_add false ped_int (ped_mod (ped_var 6) ped_int)) pad_nil)))) (ped_mul false ped_int (ped_fdiv (ped_var 6) ped_int))) (pad_cons (ped_var 4) pad_nil))))))
      (pssd_cons (psd_setLc [("_law_k", 6)] rfl sc_net_by.nd (pid_rng3 T.m_range (pad_cons (ped_var 1) (pad_cons (ped_len T.m_len (pad_cons (ped_var 0) pad_nil)) (pad_cons (ped_var 2) pad_nil)))) (blkOk_by (N := n_net_by) (sc := defScope s_net_by) (by decide +kernel)) (fun _ _ _ _ _ => pgc_name 6 sc_net_by.nd) (fun _ _ _ _ _ => ptsd_nil) (fun _ _ _ _ _ => (ped_ix (ped_var 0) (ped_var 6))))
      (pssd_one (psd_ret (ped_tup (pad_cons (ped_var 7) (pad_cons (ped_callC c_rows_by hr tk (pad_cons (ped_var 8) (pad_cons (ped_var 7) (pad_cons (ped_var 4) (pad_cons (ped_ne hr (ped_mod (ped_var 3) ped_int) ped_int) pad_nil))))) pad_nil))))))))))))⟩

abbrev s_numbers_are : Stmt := topS 27
abbrev n_numbers_are : List Str := ["_law_found", "_law_due", "_law_k"]
theorem sc_numbers_are : FnScope ["_law_found", "_law_due", "_law_k"] ["_law_found", "_law_due"] (defScope s_numbers_are) := ⟨rfl, rfl, rfl, by decide +kernel, rfl, by decide +kernel, by decide +kernel⟩
theorem d_numbers_are {P : Program} {w : World} {K : PySem.W.Frag} {mg : Str → Option Value} {base : Heap} {f : Addr} {cdv : Value} {A : Around} {outer : List Env} {s : Shared} {H : Hp} {E : XK} (T : Tops K mg) {g_whole : GS} (c_whole : Callee P w K mg base "_law_whole" 1 1 g_whole)
    (hr : Room 1 (A.deeper (envOfC "_law_numbers_are" (defScope s_numbers_are) s.heap.objs.size f cdv))) :
    ∃ ts, PSsd (cxOf (L2.CX P w) P w K mg base n_numbers_are "_law_numbers_are" (defScope s_numbers_are) f cdv A outer s H E) K mg (fun c d _ H' => E c d H') (defBody s_numbers_are) ts (f_numbers_are g_whole) := by
  have tk : Takes (cxOf (L2.CX P w) P w K mg base n_numbers_are "_law_numbers_are" (defScope s_numbers_are) f cdv A outer s H E) (fun c d _ H' => E c d H') := takes_of rfl rfl rfl rfl
  have hp := passes_of (X := cxOf (L2.CX P w) P w K mg base n_numbers_are "_law_numbers_are" (defScope s_numbers_are) f cdv A outer s H E) rfl
  exact ⟨_, (pssd_cons (psd_if (PWd.pt (pwd_or (ptd_not (ptd_val (ped_isi T.m_isinstance T.m_tuple PyProof.Rows.boot_tuple (ped_var 0)))) (pwd_or1 (ptd_ne hr (ped_len T.m_len (pad_cons (ped_var 0) pad_nil)) (ped_len T.m_len (pad_cons (ped_var 1) pad_nil)))))) (pssd_one (psd_ret ped_bl)) pssd_nil)
      (pssd_cons (psd_for hp rfl (pid_rng1 T.m_range (pad_cons (ped_len T.m_len (pad_cons (ped_var 1) pad_nil)) pad_nil)) (pgd_name 2 sc_numbers_are.nd) (pssd_one (psd_if (PWd.pt (pwd_or (ptd_not (ptd_val (ped_callC c_whole hr tk (pad_cons (ped_ix (ped_var 0) (ped_var 2)) pad_nil)))) (pwd_or1 (ptd_ne hr (ped_ix (ped_var 0) (ped_var 2)) (ped_ix (ped_var 1) (ped_var 2)))))) (pssd_one (psd_ret ped_bl)) pssd_nil)))
      (pssd_one (psd_ret ped_bl))))⟩

abbrev s_state_is : Stmt := topS 28
abbrev n_state_is : List Str := ["_law_found", "_law_due", "_law_k", "_law_at"]
theorem sc_state_is : FnScope ["_law_found", "_law_due", "_law_k", "_law_at"] ["_law_found", "_law_due"] (defScope s_state_is) := ⟨rfl, rfl, rfl, by decide +kernel, rfl, by decide +kernel, by decide +kernel⟩
theorem d_state_is {P : Program} {w : World} {K : PySem.W.Frag} {mg : Str → Option Value} {base : Heap} {f : Addr} {cdv : Value} {A : Around} {outer : List Env} {s : Shared} {H : Hp} {E : XK} (T : Tops K mg) {g_numbers_are : GS} (c_numbers_are : Callee P w K mg base "_law_numbers_are" 2 2 g_numbers_are)
    (hr : Room 2 (A.deeper (envOfC "_law_state_is" (defScope s_state_is) s.heap.objs.size f cdv))) :
    ∃ ts, PSsd (cxOf (L2.CX P w) P w K mg base n_state_is "_law_state_is" (defScope s_state_is) f cdv A outer s H E) K mg (fun c d _ H' => E c d H') (defBody s_state_is) ts (f_state_is g_numbers_are) := by
  have tk : Takes (cxOf (L2.CX P w) P w K mg base n_state_is "_law_state_is" (defScope s_state_is) f cdv A outer s H E) (fun c d _ H' => E c d H') := takes_of rfl rfl rfl rfl
  have hp := passes_of (X := cxOf (L2.CX P w) P w K mg base n_state_is "_law_state_is" (defScope s_state_is) f cdv A outer s H E) rfl
  exact ⟨_, (pssd_cons (psd_if (PWd.pt (pwd_or (ptd_not (ptd_val (ped_isi T.m_isinstance T.m_tuple PyProof.Rows.boot_tuple (ped_var 0)))) (pwd_or1 (ptd_ne hr (ped_len T.m_len (pad_cons (ped_var 0) pad_nil)) ped_int)))) (pssd_one (psd_ret ped_bl)) pssd_nil)
      (pssd_cons (psd_for hp rfl (pid_seq (ped_tup (pad_cons ped_int (pad_cons ped_int pad_nil)))) (pgd_name 2 sc_state_is.nd) (pssd_cons (psd_if (PWd.pt (pwd_or (ptd_not (ptd_val (ped_isi T.m_isinstance T.m_tuple PyProof.Rows.boot_tuple (ped_ix (ped_var 0) (ped_var 2))))) (pwd_or1 (ptd_ne hr (ped_len T.m_len (pad_cons (ped_ix (ped_var 0) (ped_var 2)) pad_nil)) (ped_len T.m_len (pad_cons (ped_ix (ped_var 1) (ped_var 2)) pad_nil)))))) (pssd_one (psd_ret ped_bl)) pssd_nil)
      (pssd_one (psd_for hp rfl (pid_rng1 T.m_range (pad_cons (ped_len T.m_len (pad_cons (ped_ix (ped_var 1) (ped_var 2)) pad_nil)) pad_nil)) (pgd_name 3 sc_state_is.nd) (pssd_one (psd_if (ptd_not (ptd_val (ped_callC c_numbers_are hr tk (pad_cons (ped_ix (ped_ix (ped_var 0) (ped_var 2)) (ped_var 3)) (pad_cons (ped_ix (ped_ix (ped_var 1) (ped_var 2)) (ped_var 3)) pad_nil))))) (pssd_one (psd_ret ped_bl)) pssd_nil))))))
      (pssd_one (psd_ret (ped_and (ped_callC c_numbers_are hr tk (pad_cons (ped_ix (ped_var 0) ped_int) (pad_cons (ped_ix (ped_var 1) ped_int) pad_nil))) (ped_one (ped_callC c_numbers_are hr tk (pad_cons (ped_ix (ped_var 0) ped_int) (pad_cons (ped_ix (ped_var 1) ped_int) pad_nil)))))))))⟩

abbrev s_formed : Stmt := topS 29
abbrev n_formed : List Str := ["_law_state", "_law_net", "_law_k", "_law_place", "_law_row"]
theorem sc_formed : FnScope ["_law_state", "_law_net", "_law_k", "_law_place", "_law_row"] ["_law_state", "_law_net"] (defScope s_formed) := ⟨rfl, rfl, rfl, by decide +kernel, rfl, by decide +kernel, by decide +kernel⟩
theorem d_formed {P : Program} {w : World} {K : PySem.W.Frag} {mg : Str → Option Value} {base : Heap} {f : Addr} {cdv : Value} {A : Around} {outer : List Env} {s : Shared} {H : Hp} {E : XK} (T : Tops K mg) {g_whole : GS} (c_whole : Callee P w K mg base "_law_whole" 1 1 g_whole)
    (hr : Room 1 (A.deeper (envOfC "_law_formed" (defScope s_formed) s.heap.objs.size f cdv))) :
    ∃ ts, PSsd (cxOf (L2.CX P w) P w K mg base n_formed "_law_formed" (defScope s_formed) f cdv A outer s H E) K mg (fun c d _ H' => E c d H') (defBody s_formed) ts (f_formed_k12 g_whole) := by
  have tk : Takes (cxOf (L2.CX P w) P w K mg base n_formed "_law_formed" (defScope s_formed) f cdv A outer s H E) (fun c d _ H' => E c d H') := takes_of rfl rfl rfl rfl
  have hp := passes_of (X := cxOf (L2.CX P w) P w K mg base n_formed "_law_formed" (defScope s_formed) f cdv A outer s H E) rfl
  exact ⟨_, (pssd_cons (psd_if (PWd.pt (pwd_or (ptd_not (ptd_val (ped_isi T.m_isinstance T.m_tuple PyProof.Rows.boot_tuple (ped_var 0)))) (pwd_or1 (ptd_ne hr (ped_len T.m_len (pad_cons (ped_var 0) pad_nil)) ped_int)))) (pssd_one (psd_ret ped_bl)) pssd_nil)
      (pssd_cons (psd_for hp rfl (pid_rng1 T.m_range (pad_cons ped_int pad_nil)) (pgd_name 2 sc_formed.nd) (pssd_one (psd_if (PWd.pt (pwd_or (ptd_not (ptd_val (ped_isi T.m_isinstance T.m_tuple PyProof.Rows.boot_tuple (ped_ix (ped_var 0) (ped_var 2))))) (pwd_or1 (ptd_ne hr (ped_len T.m_len (pad_cons (ped_ix (ped_var 0) (ped_var 2)) pad_nil)) (ped_len T.m_len (pad_cons (ped_ix (ped_var 1) (ped_sub ped_int (ped_fdiv (ped_var 2) ped_int))) pad_nil)))))) (pssd_one (psd_ret ped_bl)) pssd_nil)))
      (pssd_cons (psd_for hp rfl (pid_enumT T.m_enumerate (pad_cons (ped_ix (ped_var 0) ped_int) pad_nil)) (pgd_tup rfl (pns_cons 2 sc_formed.nd (pns_cons 3 sc_formed.nd .nil))) (pssd_one (psd_if (PWd.pt (pwd_or (ptd_not (ptd_val (ped_callC c_whole hr tk (pad_cons (ped_var 3) pad_nil)))) (pwd_or1 (ptd_not (ptd_chain op_le op_le (so_I0 fun _ _ _ _ => rfl) (so_I0 fun _ _ _ _ => rfl) ped_int (ped_var 3) (ped_len T.m_len (pad_cons (ped_ix (ped_ix (ped_var 1) ped_int) (ped_var 2)) pad_nil))))))) (pssd_one (psd_ret ped_bl)) pssd_nil)))
      (pssd_cons (psd_for hp rfl (pid_seq (ped_ix (ped_var 0) ped_int)) (pgd_name 4 sc_formed.nd) (pssd_one (psd_if (ptd_not (ptd_val (ped_isi T.m_isinstance T.m_tuple PyProof.Rows.boot_tuple (ped_var 4)))) (pssd_one (psd_ret ped_bl)) pssd_nil)))
      (pssd_one (psd_ret ped_bl))))))⟩

abbrev s_law : Stmt := topS 30
abbrev n_law : List Str := ["_law_script", "_law_net", "_law_more", "_law_row", "_law_handed", "_law_wide", "_law_pipe", "_law_narrow", "_law_found", "_law_who", "_law_at"]
theorem sc_law : FnScope ["_law_script", "_law_net", "_law_more", "_law_row", "_law_handed", "_law_wide", "_law_pipe", "_law_narrow", "_law_found", "_law_who", "_law_at"] ["_law_script"] (defScope s_law) := ⟨rfl, rfl, rfl, by decide +kernel, rfl, by decide +kernel, by decide +kernel⟩
theorem d_law {P : Program} {w : World} {K : PySem.W.Frag} {mg : Str → Option Value} {base : Heap} {f : Addr} {cdv : Value} {A : Around} {outer : List Env} {s : Shared} {H : Hp} {E : XK} (T : Tops K mg) {g_widened g_begin g_settled g_cell_at g_net_by g_state_is g_formed : GS} (c_widened : Callee P w K mg base "widened" 1 2 g_widened) (c_begin : Callee P w K mg base "begin" 1 1 g_begin) (c_settled : Callee P w K mg base "settled" 6 2 g_settled) (c_cell_at : Callee P w K mg base "_law_cell_at" 1 2 g_cell_at) (c_net_by : Callee P w K mg base "_law_net_by" 3 3 g_net_by) (c_state_is : Callee P w K mg base "_law_state_is" 3 2 g_state_is) (c_formed : Callee P w K mg base "_law_formed" 2 2 g_formed)
    (hr : Room 6 (A.deeper (envOfC "law" (defScope s_law) s.heap.objs.size f cdv))) :
    ∃ ts, PSsd (cxOf (L2.CX P w) P w K mg base n_law "law" (defScope s_law) f cdv A outer s H E) K mg (fun c d _ H' => E c d H') (defBody s_law) ts (f_law_k12 g_widened g_begin g_settled g_cell_at g_net_by g_state_is g_formed) := by
  have tk : Takes (cxOf (L2.CX P w) P w K mg base n_law "law" (defScope s_law) f cdv A outer s H E) (fun c d _ H' => E c d H') := takes_of rfl rfl rfl rfl
  have hp := passes_of (X := cxOf (L2.CX P w) P w K mg base n_law "law" (defScope s_law) f cdv A outer s H E) rfl
  exact ⟨_, (pssd_cons (psd_set 1 sc_law.nd (ped_callC c_net_by hr tk (pad_cons (ped_var 0) (pad_cons ped_int (pad_cons ped_int pad_nil)))))
      (pssd_cons (psd_set 2 sc_law.nd (ped_mod (ped_callC c_cell_at hr tk (pad_cons (ped_var 0) (pad_cons ped_int pad_nil))) ped_int))
      (pssd_cons (psd_if (ptd_eq hr (ped_mod (ped_fdiv (ped_callC c_cell_at hr tk (pad_cons (ped_var 0) (pad_cons ped_int pad_nil))) ped_int) ped_int) ped_int) (pssd_one (psd_set 2 sc_law.nd (ped_mod (ped_fdiv (ped_callC c_cell_at hr tk (pad_cons (ped_var 0) (pad_cons ped_int pad_nil))) ped_int) ped_int))) pssd_nil)
      (pssd_cons (psd_set 4 sc_law.nd (ped_tup (pad_cons (ped_list false T.m_list (pad_cons (ped_ix (ped_var 1) ped_int) pad_nil)) (pad_cons (ped_lc [("_law_row", 3)] rfl sc_law.nd (pid_seq (ped_ix (ped_var 1) ped_int)) (blkOk_by (N := n_law) (sc := defScope s_law) (by decide +kernel)) (fun _ _ _ _ _ => pgc_name 3 sc_law.nd) (fun _ _ _ _ _ => ptsd_nil) (fun _ _ _ _ _ => (ped_list false T.m_list (pad_cons (ped_var 3) pad_nil)))) pad_nil))))
      (pssd_cons (psd_set 5 sc_law.nd (ped_callC c_widened hr tk (pad_cons (ped_var 4) (pad_cons (ped_var 2) pad_nil))))
      (pssd_cons (psd_if (ptd_ne hr (ped_var 5) (ped_tup (pad_cons (ped_lc [("_law_pipe", 6)] rfl sc_law.nd (pid_seq (ped_ix (ped_var 1) ped_int)) (blkOk_by (N := n_law) (sc := defScope s_law) (by decide +kernel)) (fun _ _ _ _ _ => pgc_name 6 sc_law.nd) (fun _ _ _ _ _ => ptsd_nil) (fun _ _ _ _ _ => (ped_tup (pad_cons (ped_ix (ped_var 6) ped_int) (pad_cons (ped_ix (ped_var 6) ped_int) (pad_cons (ped_min2 rfl T.m_min (pad_cons ped_int (pad_cons (ped_add false (ped_ix (ped_var 6) ped_int) (ped_var 2)) pad_nil))) pad_nil)))))) (pad_cons (ped_ix (ped_var 1) ped_int) pad_nil)))) (pssd_one (psd_ret ped_bl)) pssd_nil)
      (pssd_cons (psd_set 7 sc_law.nd (ped_callC c_settled hr tk (pad_cons (ped_var 4) (pad_cons (ped_callC c_begin hr tk (pad_cons (ped_var 4) pad_nil)) pad_nil))))
      (pssd_cons (psd_set 8 sc_law.nd (ped_callC c_settled hr tk (pad_cons (ped_var 5) (pad_cons (ped_callC c_begin hr tk (pad_cons (ped_var 5) pad_nil)) pad_nil))))
      (pssd_cons (psd_if (PWd.pt (pwd_or (ptd_not (ptd_val (ped_callC c_formed hr tk (pad_cons (ped_var 7) (pad_cons (ped_var 1) pad_nil))))) (pwd_or (ptd_not (ptd_val (ped_callC c_formed hr tk (pad_cons (ped_var 8) (pad_cons (ped_var 1) pad_nil))))) (pwd_or1 (ptd_ne hr (ped_var 4) (ped_var 1)))))) (pssd_one (psd_ret ped_bl)) pssd_nil)
      (pssd_cons (psd_for hp rfl (pid_rng1 T.m_range (pad_cons (ped_len T.m_len (pad_cons (ped_ix (ped_var 1) ped_int) pad_nil)) pad_nil)) (pgd_name 9 sc_law.nd) (pssd_one (psd_if (ptd_lt (ped_ix (ped_ix (ped_var 8) ped_int) (ped_var 9)) (ped_ix (ped_ix (ped_var 7) ped_int) (ped_var 9))) (pssd_one (psd_ret ped_bl)) pssd_nil)))
      (pssd_cons (psd_for hp rfl (pid_rng1 T.m_range (pad_cons (ped_len T.m_len (pad_cons (ped_ix (ped_var 1) ped_int) pad_nil)) pad_nil)) (pgd_name 10 sc_law.nd) (pssd_one (psd_if (ptd_ne hr (ped_slice false (ped_ix (ped_ix (ped_var 8) ped_int) (ped_var 10)) pod_none (pod_some (ped_len T.m_len (pad_cons (ped_ix (ped_ix (ped_var 7) ped_int) (ped_var 10)) pad_nil)))) (ped_ix (ped_ix (ped_var 7) ped_int) (ped_var 10))) (pssd_one (psd_ret ped_bl)) pssd_nil)))
      (pssd_cons (psd_if (ptd_eq hr (ped_lc [("_law_row", 3)] rfl sc_law.nd (pid_seq (ped_ix (ped_var 1) ped_int)) (blkOk_by (N := n_law) (sc := defScope s_law) (by decide +kernel)) (fun _ _ _ _ _ => pgc_name 3 sc_law.nd) (fun _ _ _ _ _ => ptsd_nil) (fun _ _ _ _ _ => (ped_len T.m_len (pad_cons (ped_var 3) pad_nil)))) (ped_list false T.m_list (pad_cons (ped_ix (ped_var 7) ped_int) pad_nil))) (pssd_one (psd_ret (ped_callC c_state_is hr tk (pad_cons (ped_var 8) (pad_cons (ped_var 7) pad_nil))))) pssd_nil)
      (pssd_one (psd_ret ped_bl))))))))))))))⟩

structure Defs (K : PySem.W.Frag) (mg : Str → Option Value) : Prop where
  F_widened : Def1 K mg "widened" s_widened ["net", "more"]
  F_begin : Def1 K mg "begin" s_begin ["net"]
  F_need_worker : Def1 K mg "need_worker" s_need_worker ["net", "who"]
  F_is_through : Def1 K mg "is_through" s_is_through ["net", "state", "who"]
  F_wait_of : Def1 K mg "wait_of" s_wait_of ["net", "state", "who"]
  F_can_step : Def1 K mg "can_step" s_can_step ["net", "state", "who"]
  F_with_at : Def1 K mg "with_at" s_with_at ["row", "at", "value"]
  F_step : Def1 K mg "step" s_step ["net", "state", "who"]
  F_who_can : Def1 K mg "who_can" s_who_can ["net", "state"]
  F_settled : Def1 K mg "settled" s_settled ["net", "state"]
  F_whole : Def1 K mg "_law_whole" s_whole ["_law_found"]
  F_cell_at : Def1 K mg "_law_cell_at" s_cell_at ["_law_script", "_law_k"]
  F_number_by : Def1 K mg "_law_number_by" s_number_by ["_law_cell"]
  F_pipe_by : Def1 K mg "_law_pipe_by" s_pipe_by ["_law_cell", "_law_many"]
  F_put_in : Def1 K mg "_law_put_in" s_put_in ["_law_row", "_law_order", "_law_rest"]
  F_rows_by : Def1 K mg "_law_rows_by" s_rows_by ["_law_cells", "_law_pipes", "_law_many", "_law_even"]
  F_net_by : Def1 K mg "_law_net_by" s_net_by ["_law_script", "_law_begun", "_law_stride"]
  F_numbers_are : Def1 K mg "_law_numbers_are" s_numbers_are ["_law_found", "_law_due"]
  F_state_is : Def1 K mg "_law_state_is" s_state_is ["_law_found", "_law_due"]
  F_formed : Def1 K mg "_law_formed" s_formed ["_law_state", "_law_net"]
theorem ok_law {P : Program} {w : World} {K : PySem.W.Frag} {mg : Str → Option Value} {base : Heap} (T : Tops K mg) (D : Defs K mg) {f : Addr} {fd : FuncData} (F : FunD K "law" "law" (defArgs s_law) (defBody s_law) (defScope s_law) [] [] f fd) :
    FnOk P w K mg base (L2.CX P w) 7 f fd ["_law_script"] (spD K mg 1 G_law) := by
  have c_widened : Callee P w K mg base "widened" 1 2 G_widened := okC false f_widened D.F_widened sc_widened rfl (fun f cdv A outer s H E hr => d_widened T hr) sem_widened
  have c_begin : Callee P w K mg base "begin" 1 1 G_begin := okC false f_begin D.F_begin sc_begin rfl (fun f cdv A outer s H E hr => d_begin T hr) sem_begin
  have c_need_worker : Callee P w K mg base "need_worker" 1 2 G_need_worker := okC false f_need_worker D.F_need_worker sc_need_worker rfl (fun f cdv A outer s H E hr => d_need_worker T hr) sem_need_worker
  have c_is_through : Callee P w K mg base "is_through" 2 3 G_is_through := okC false (f_is_through G_need_worker) D.F_is_through sc_is_through rfl (fun f cdv A outer s H E hr => d_is_through T c_need_worker hr) sem_is_through
  have c_wait_of : Callee P w K mg base "wait_of" 3 3 G_wait_of := okC false (f_wait_of G_is_through) D.F_wait_of sc_wait_of rfl (fun f cdv A outer s H E hr => d_wait_of T c_is_through hr) sem_wait_of
  have c_can_step : Callee P w K mg base "can_step" 4 3 G_can_step := okC false (f_can_step G_is_through G_wait_of) D.F_can_step sc_can_step rfl (fun f cdv A outer s H E hr => d_can_step T c_is_through c_wait_of hr) sem_can_step
  have c_with_at : Callee P w K mg base "with_at" 1 3 G_with_at := okC false f_with_at D.F_with_at sc_with_at rfl (fun f cdv A outer s H E hr => d_with_at T hr) sem_with_at
  have c_step : Callee P w K mg base "step" 4 3 G_step := okC false (f_step G_is_through G_wait_of G_with_at) D.F_step sc_step rfl (fun f cdv A outer s H E hr => d_step T c_is_through c_wait_of c_with_at hr) sem_step
  have c_who_can : Callee P w K mg base "who_can" 5 2 G_who_can := okC false (f_who_can G_can_step) D.F_who_can sc_who_can rfl (fun f cdv A outer s H E hr => d_who_can T c_can_step hr) sem_who_can
  have c_settled : Callee P w K mg base "settled" 6 2 G_settled := okC false (f_settled G_step G_who_can) D.F_settled sc_settled rfl (fun f cdv A outer s H E hr => d_settled T c_step c_who_can hr) sem_settled
  have c_whole : Callee P w K mg base "_law_whole" 1 1 G_whole := okC false f_whole D.F_whole sc_whole rfl (fun f cdv A outer s H E hr => d_whole T hr) sem_whole
  have c_cell_at : Callee P w K mg base "_law_cell_at" 1 2 G_cell_at := okC false f_cell_at D.F_cell_at sc_cell_at rfl (fun f cdv A outer s H E hr => d_cell_at T hr) sem_cell_at
  have c_number_by : Callee P w K mg base "_law_number_by" 1 1 G_number_by := okC false f_number_by D.F_number_by sc_number_by rfl (fun f cdv A outer s H E hr => d_number_by T hr) sem_number_by
  have c_pipe_by : Callee P w K mg base "_law_pipe_by" 1 2 G_pipe_by := okC false f_pipe_by D.F_pipe_by sc_pipe_by rfl (fun f cdv A outer s H E hr => d_pipe_by T hr) sem_pipe_by
  have c_put_in : Callee P w K mg base "_law_put_in" 1 3 G_put_in := okC false f_put_in D.F_put_in sc_put_in rfl (fun f cdv A outer s H E hr => d_put_in T hr) sem_put_in
  have c_rows_by : Callee P w K mg base "_law_rows_by" 2 4 G_rows_byF := okC true (f_rows_by G_number_by G_put_in) D.F_rows_by sc_rows_by rfl (fun f cdv A outer s H E hr => d_rows_by T c_number_by c_put_in hr) sem_rows_byF
  have c_net_by : Callee P w K mg base "_law_net_by" 3 3 G_net_by := okC false (f_net_by G_cell_at G_pipe_by G_rows_byF) D.F_net_by sc_net_by rfl (fun f cdv A outer s H E hr => d_net_by T c_cell_at c_pipe_by c_rows_by hr) sem_net_by
  have c_numbers_are : Callee P w K mg base "_law_numbers_are" 2 2 G_numbers_are := okC false (f_numbers_are G_whole) D.F_numbers_are sc_numbers_are rfl (fun f cdv A outer s H E hr => d_numbers_are T c_whole hr) sem_numbers_are
  have c_state_is : Callee P w K mg base "_law_state_is" 3 2 G_state_is := okC false (f_state_is G_numbers_are) D.F_state_is sc_state_is rfl (fun f cdv A outer s H E hr => d_state_is T c_numbers_are hr) sem_state_is
  have c_formed : Callee P w K mg base "_law_formed" 2 2 G_formed_k12 := okC false (f_formed_k12 G_whole) D.F_formed sc_formed rfl (fun f cdv A outer s H E hr => d_formed T c_whole hr) sem_formed_k12
  exact okD false (f_law_k12 G_widened G_begin G_settled G_cell_at G_net_by G_state_is G_formed_k12) F sc_law rfl (fun cdv A outer s H E hr => d_law T c_widened c_begin c_settled c_cell_at c_net_by c_state_is c_formed hr) sem_law_k12

/-! ### the head -/
def dd_widened : He.DefD := ⟨("widened", none), "widened", "widened", defArgs s_widened, defBody s_widened, defScope s_widened, [], []⟩
def dd_begin : He.DefD := ⟨("begin", none), "begin", "begin", defArgs s_begin, defBody s_begin, defScope s_begin, [], []⟩
def dd_need_worker : He.DefD := ⟨("need_worker", none), "need_worker", "need_worker", defArgs s_need_worker, defBody s_need_worker, defScope s_need_worker, [], []⟩
def dd_is_through : He.DefD := ⟨("is_through", none), "is_through", "is_through", defArgs s_is_through, defBody s_is_through, defScope s_is_through, [], []⟩
def dd_wait_of : He.DefD := ⟨("wait_of", none), "wait_of", "wait_of", defArgs s_wait_of, defBody s_wait_of, defScope s_wait_of, [], []⟩
def dd_can_step : He.DefD := ⟨("can_step", none), "can_step", "can_step", defArgs s_can_step, defBody s_can_step, defScope s_can_step, [], []⟩
def dd_with_at : He.DefD := ⟨("with_at", none), "with_at", "with_at", defArgs s_with_at, defBody s_with_at, defScope s_with_at, [], []⟩
def dd_step : He.DefD := ⟨("step", none), "step", "step", defArgs s_step, defBody s_step, defScope s_step, [], []⟩
def dd_who_can : He.DefD := ⟨("who_can", none), "who_can", "who_can", defArgs s_who_can, defBody s_who_can, defScope s_who_can, [], []⟩
def dd_settled : He.DefD := ⟨("settled", none), "settled", "settled", defArgs s_settled, defBody s_settled, defScope s_settled, [], []⟩
def dd_whole : He.DefD := ⟨("_law_whole", none), "_law_whole", "_law_whole", defArgs s_whole, defBody s_whole, defScope s_whole, [], []⟩
def dd_cell_at : He.DefD := ⟨("_law_cell_at", none), "_law_cell_at", "_law_cell_at", defArgs s_cell_at, defBody s_cell_at, defScope s_cell_at, [], []⟩
def dd_number_by : He.DefD := ⟨("_law_number_by", none), "_law_number_by", "_law_number_by", defArgs s_number_by, defBody s_number_by, defScope s_number_by, [], []⟩
def dd_pipe_by : He.DefD := ⟨("_law_pipe_by", none), "_law_pipe_by", "_law_pipe_by", defArgs s_pipe_by, defBody s_pipe_by, defScope s_pipe_by, [], []⟩
def dd_put_in : He.DefD := ⟨("_law_put_in", none), "_law_put_in", "_law_put_in", defArgs s_put_in, defBody s_put_in, defScope s_put_in, [], []⟩
def dd_rows_by : He.DefD := ⟨("_law_rows_by", none), "_law_rows_by", "_law_rows_by", defArgs s_rows_by, defBody s_rows_by, defScope s_rows_by, [], []⟩
def dd_net_by : He.DefD := ⟨("_law_net_by", none), "_law_net_by", "_law_net_by", defArgs s_net_by, defBody s_net_by, defScope s_net_by, [], []⟩
def dd_numbers_are : He.DefD := ⟨("_law_numbers_are", none), "_law_numbers_are", "_law_numbers_are", defArgs s_numbers_are, defBody s_numbers_are, defScope s_numbers_are, [], []⟩
def dd_state_is : He.DefD := ⟨("_law_state_is", none), "_law_state_is", "_law_state_is", defArgs s_state_is, defBody s_state_is, defScope s_state_is, [], []⟩
def dd_formed : He.DefD := ⟨("_law_formed", none), "_law_formed", "_law_formed", defArgs s_formed, defBody s_formed, defScope s_formed, [], []⟩
def dd_law : He.DefD := ⟨("law", none), "law", "law", defArgs s_law, defBody s_law, defScope s_law, [], []⟩
def fnL : List He.DefD := [dd_widened, dd_begin, dd_need_worker, dd_is_through, dd_wait_of, dd_can_step, dd_with_at, dd_step, dd_who_can, dd_settled, dd_whole, dd_cell_at, dd_number_by, dd_pipe_by, dd_put_in, dd_rows_by, dd_net_by, dd_numbers_are, dd_state_is, dd_formed, dd_law]
def faL : List He.Fa := [.glo "widened", .glo "begin", .glo "need_worker", .glo "is_through", .glo "wait_of", .glo "can_step", .glo "with_at", .glo "step", .glo "who_can", .glo "settled", .glo "_law_whole", .glo "_law_cell_at", .glo "_law_number_by", .glo "_law_pipe_by", .glo "_law_put_in", .glo "_law_rows_by", .glo "_law_net_by", .glo "_law_numbers_are", .glo "_law_state_is", .glo "_law_formed", .glo "law", .int "MOST_ROOM" 1000, .glo "HasToWait", .exc "HasToWait", .glo "IsThrough", .exc "IsThrough", .glo "NoWorker", .exc "NoWorker", .free "bool", .free "enumerate", .free "int", .free "isinstance", .free "len", .free "list", .free "min", .free "range", .free "tuple"]
abbrev R : PySem.W.OpenRow := PySem.W.OpenLaw.row PySem.Challenge.rw_pipelinecut_k12_whole_room_does_no_harm
abbrev hk : PySem.W.Hook := He.hookD 4 faL fnL
def ob (s : PySem.W.SharedT) : He.AlD := He.obsDG 4 faL fnL (HandSHeadRun.getT s)
theorem ob_eq (s : PySem.W.SharedT) : ob s = hk.obs s.abs := He.obsDG_eq (HandSHeadRun.getT_eq s)
def loose0 : List Str := ["NetError", "NoWorker", "IsThrough", "HasToWait", "MOST_ROOM", "widened", "begin", "need_worker", "is_through", "wait_of", "can_step", "with_at", "step", "who_can", "settled", "_law_whole", "_law_cell_at", "_law_number_by", "_law_pipe_by", "_law_put_in", "_law_rows_by", "_law_net_by", "_law_numbers_are", "_law_state_is", "_law_formed"]
abbrev looseL : List Str := loose0
set_option maxHeartbeats 0 in
theorem runL (w : World) : HandSHeadRun.RunEq R (PySem.W.view R.prog [30]) hk ob 2000 looseL w := by
  intro os
  kernel_rfl
theorem factsL {h : Heap} {K : PySem.W.Frag} {mg : Str → Option Value} (X : K.In h) (G : h.Ns mainGlobals mg) (c : He.SaysD faL fnL K) : Defs K mg ∧ Tops K mg := by
  constructor
  · constructor
    · obtain ⟨fd, F⟩ := c.def_ 0 (d := dd_widened) rfl
      exact ⟨⟨_, fd, F, He.glo_ok X G (c.fact 0 (f := .glo "widened") rfl), FunD.bindsN (ps := ["net", "more"]) F fun _ _ _ _ _ _ us hl => match us, hl with | [_, _], _ => rfl⟩⟩
    · obtain ⟨fd, F⟩ := c.def_ 1 (d := dd_begin) rfl
      exact ⟨⟨_, fd, F, He.glo_ok X G (c.fact 1 (f := .glo "begin") rfl), FunD.bindsN (ps := ["net"]) F fun _ _ _ _ _ _ us hl => match us, hl with | [_], _ => rfl⟩⟩
    · obtain ⟨fd, F⟩ := c.def_ 2 (d := dd_need_worker) rfl
      exact ⟨⟨_, fd, F, He.glo_ok X G (c.fact 2 (f := .glo "need_worker") rfl), FunD.bindsN (ps := ["net", "who"]) F fun _ _ _ _ _ _ us hl => match us, hl with | [_, _], _ => rfl⟩⟩
    · obtain ⟨fd, F⟩ := c.def_ 3 (d := dd_is_through) rfl
      exact ⟨⟨_, fd, F, He.glo_ok X G (c.fact 3 (f := .glo "is_through") rfl), FunD.bindsN (ps := ["net", "state", "who"]) F fun _ _ _ _ _ _ us hl => match us, hl with | [_, _, _], _ => rfl⟩⟩
    · obtain ⟨fd, F⟩ := c.def_ 4 (d := dd_wait_of) rfl
      exact ⟨⟨_, fd, F, He.glo_ok X G (c.fact 4 (f := .glo "wait_of") rfl), FunD.bindsN (ps := ["net", "state", "who"]) F fun _ _ _ _ _ _ us hl => match us, hl with | [_, _, _], _ => rfl⟩⟩
    · obtain ⟨fd, F⟩ := c.def_ 5 (d := dd_can_step) rfl
      exact ⟨⟨_, fd, F, He.glo_ok X G (c.fact 5 (f := .glo "can_step") rfl), FunD.bindsN (ps := ["net", "state", "who"]) F fun _ _ _ _ _ _ us hl => match us, hl with | [_, _, _], _ => rfl⟩⟩
    · obtain ⟨fd, F⟩ := c.def_ 6 (d := dd_with_at) rfl
      exact ⟨⟨_, fd, F, He.glo_ok X G (c.fact 6 (f := .glo "with_at") rfl), FunD.bindsN (ps := ["row", "at", "value"]) F fun _ _ _ _ _ _ us hl => match us, hl with | [_, _, _], _ => rfl⟩⟩
    · obtain ⟨fd, F⟩ := c.def_ 7 (d := dd_step) rfl
      exact ⟨⟨_, fd, F, He.glo_ok X G (c.fact 7 (f := .glo "step") rfl), FunD.bindsN (ps := ["net", "state", "who"]) F fun _ _ _ _ _ _ us hl => match us, hl with | [_, _, _], _ => rfl⟩⟩
    · obtain ⟨fd, F⟩ := c.def_ 8 (d := dd_who_can) rfl
      exact ⟨⟨_, fd, F, He.glo_ok X G (c.fact 8 (f := .glo "who_can") rfl), FunD.bindsN (ps := ["net", "state"]) F fun _ _ _ _ _ _ us hl => match us, hl with | [_, _], _ => rfl⟩⟩
    · obtain ⟨fd, F⟩ := c.def_ 9 (d := dd_settled) rfl
      exact ⟨⟨_, fd, F, He.glo_ok X G (c.fact 9 (f := .glo "settled") rfl), FunD.bindsN (ps := ["net", "state"]) F fun _ _ _ _ _ _ us hl => match us, hl with | [_, _], _ => rfl⟩⟩
    · obtain ⟨fd, F⟩ := c.def_ 10 (d := dd_whole) rfl
      exact ⟨⟨_, fd, F, He.glo_ok X G (c.fact 10 (f := .glo "_law_whole") rfl), FunD.bindsN (ps := ["_law_found"]) F fun _ _ _ _ _ _ us hl => match us, hl with | [_], _ => rfl⟩⟩
    · obtain ⟨fd, F⟩ := c.def_ 11 (d := dd_cell_at) rfl
      exact ⟨⟨_, fd, F, He.glo_ok X G (c.fact 11 (f := .glo "_law_cell_at") rfl), FunD.bindsN (ps := ["_law_script", "_law_k"]) F fun _ _ _ _ _ _ us hl => match us, hl with | [_, _], _ => rfl⟩⟩
    · obtain ⟨fd, F⟩ := c.def_ 12 (d := dd_number_by) rfl
      exact ⟨⟨_, fd, F, He.glo_ok X G (c.fact 12 (f := .glo "_law_number_by") rfl), FunD.bindsN (ps := ["_law_cell"]) F fun _ _ _ _ _ _ us hl => match us, hl with | [_], _ => rfl⟩⟩
    · obtain ⟨fd, F⟩ := c.def_ 13 (d := dd_pipe_by) rfl
      exact ⟨⟨_, fd, F, He.glo_ok X G (c.fact 13 (f := .glo "_law_pipe_by") rfl), FunD.bindsN (ps := ["_law_cell", "_law_many"]) F fun _ _ _ _ _ _ us hl => match us, hl with | [_, _], _ => rfl⟩⟩
    · obtain ⟨fd, F⟩ := c.def_ 14 (d := dd_put_in) rfl
      exact ⟨⟨_, fd, F, He.glo_ok X G (c.fact 14 (f := .glo "_law_put_in") rfl), FunD.bindsN (ps := ["_law_row", "_law_order", "_law_rest"]) F fun _ _ _ _ _ _ us hl => match us, hl with | [_, _, _], _ => rfl⟩⟩
    · obtain ⟨fd, F⟩ := c.def_ 15 (d := dd_rows_by) rfl
      exact ⟨⟨_, fd, F, He.glo_ok X G (c.fact 15 (f := .glo "_law_rows_by") rfl), FunD.bindsN (ps := ["_law_cells", "_law_pipes", "_law_many", "_law_even"]) F fun _ _ _ _ _ _ us hl => match us, hl with | [_, _, _, _], _ => rfl⟩⟩
    · obtain ⟨fd, F⟩ := c.def_ 16 (d := dd_net_by) rfl
      exact ⟨⟨_, fd, F, He.glo_ok X G (c.fact 16 (f := .glo "_law_net_by") rfl), FunD.bindsN (ps := ["_law_script", "_law_begun", "_law_stride"]) F fun _ _ _ _ _ _ us hl => match us, hl with | [_, _, _], _ => rfl⟩⟩
    · obtain ⟨fd, F⟩ := c.def_ 17 (d := dd_numbers_are) rfl
      exact ⟨⟨_, fd, F, He.glo_ok X G (c.fact 17 (f := .glo "_law_numbers_are") rfl), FunD.bindsN (ps := ["_law_found", "_law_due"]) F fun _ _ _ _ _ _ us hl => match us, hl with | [_, _], _ => rfl⟩⟩
    · obtain ⟨fd, F⟩ := c.def_ 18 (d := dd_state_is) rfl
      exact ⟨⟨_, fd, F, He.glo_ok X G (c.fact 18 (f := .glo "_law_state_is") rfl), FunD.bindsN (ps := ["_law_found", "_law_due"]) F fun _ _ _ _ _ _ us hl => match us, hl with | [_, _], _ => rfl⟩⟩
    · obtain ⟨fd, F⟩ := c.def_ 19 (d := dd_formed) rfl
      exact ⟨⟨_, fd, F, He.glo_ok X G (c.fact 19 (f := .glo "_law_formed") rfl), FunD.bindsN (ps := ["_law_state", "_law_net"]) F fun _ _ _ _ _ _ us hl => match us, hl with | [_, _], _ => rfl⟩⟩
  · constructor
    · exact He.int_ok X G (c.fact 21 (f := .int "MOST_ROOM" 1000) rfl)
    · obtain ⟨e1, e2, e3, e4⟩ := He.exc_ok (c.fact 23 (f := .exc "HasToWait") rfl)
      exact ⟨_, He.glo_ok X G (c.fact 22 (f := .glo "HasToWait") rfl), e1, e2, e3, e4⟩
    · obtain ⟨e1, e2, e3, e4⟩ := He.exc_ok (c.fact 25 (f := .exc "IsThrough") rfl)
      exact ⟨_, He.glo_ok X G (c.fact 24 (f := .glo "IsThrough") rfl), e1, e2, e3, e4⟩
    · obtain ⟨e1, e2, e3, e4⟩ := He.exc_ok (c.fact 27 (f := .exc "NoWorker") rfl)
      exact ⟨_, He.glo_ok X G (c.fact 26 (f := .glo "NoWorker") rfl), e1, e2, e3, e4⟩
    · exact He.free_ok X G (c.fact 28 (f := .free "bool") rfl)
    · exact He.free_ok X G (c.fact 29 (f := .free "enumerate") rfl)
    · exact He.free_ok X G (c.fact 30 (f := .free "int") rfl)
    · exact He.free_ok X G (c.fact 31 (f := .free "isinstance") rfl)
    · exact He.free_ok X G (c.fact 32 (f := .free "len") rfl)
    · exact He.free_ok X G (c.fact 33 (f := .free "list") rfl)
    · exact He.free_ok X G (c.fact 34 (f := .free "min") rfl)
    · exact He.free_ok X G (c.fact 35 (f := .free "range") rfl)
    · exact He.free_ok X G (c.fact 36 (f := .free "tuple") rfl)
theorem factsE {P : Program} {w : World} {K : PySem.W.Frag} {h : Heap} {mg : Str → Option Value} {f : Addr} (X : K.In h) (G : h.Ns mainGlobals mg) (hfa : mg ("law" : Str) = some (.ref f)) (c : He.SaysD faL fnL K) :
    ∃ fd : FuncData, (∀ (s : Shared) (v : Value), BindsTo s fd ⟨[v], []⟩ [("_law_script", v)]) ∧ ∀ base : Heap, K.In base → base.Ns mainGlobals mg → FnOk P w K mg base (L2.CX P w) 7 f fd ["_law_script"] (spD K mg 1 G_law) := by
  obtain ⟨fd, F⟩ := c.def_ 20 (d := dd_law) rfl
  have e := hfa.symm.trans (He.glo_ok X G (c.fact 20 (f := .glo "law") rfl))
  cases e
  obtain ⟨D, T⟩ := factsL X G c
  have b := FunD.bindsA (ps := ["_law_script"]) F fun _ _ _ _ _ _ us hl => match us, hl with | [_], _ => rfl
  exact ⟨fd, fun s v => b s [v] rfl, fun base _ _ => ok_law T D F⟩
end DL
open PySem PySem.W PySem.Calls PyProof.Rows
theorem PySem.Challenge.cw_pipelinecut_k12_whole_room_does_no_harm_holds : PySem.Challenge.rw_pipelinecut_k12_whole_room_does_no_harm.Holds := by
  w_on; o_law
  refine HandSHeadRun.head_any (r := DL.R) (q := view DL.R.prog [30]) (H := DL.hk) (ob := DL.ob) (M := 2000) (loose := DL.looseL) (d := HandSHeadRun.topDef DL.R.prog 30) (kwd := []) DL.ob_eq
    (by kernel_rfl) (fun s => by kernel_rfl) DL.runL (by kernel_rfl) (by kernel_rfl) (by kernel_rfl) (by rfl) (by first | assumption | decide +kernel) (by decide +kernel) ⟨rfl, rfl, rfl, rfl, rfl, by decide +kernel⟩ ?hw ?hc
  case hw => w_witness2
  case hc =>
    refine DL.walk_ofD (l := PySem.Challenge.rw_pipelinecut_k12_whole_room_does_no_harm) (k := 7) (x := "_law_script") rfl (by kernel_rfl) ⟨rfl, by decide, by decide⟩ ?F
    intro w mg fa h Y G hmg0
    obtain ⟨K, KX, c⟩ := Y
    have hmg : mg ("law" : PySem.Str) = some (.ref fa) := by
      have e : (HandSHeadRun.topDef DL.R.prog 30).name = ("law" : PySem.Str) := by kernel_rfl
      rw [← e]
      exact hmg0
    obtain ⟨fd, hb, hF⟩ := DL.factsE (P := (PySem.Challenge.rw_pipelinecut_k12_whole_room_does_no_harm).prog) (w := w) KX G hmg c
    exact ⟨K, fd, KX, hb, hF⟩
