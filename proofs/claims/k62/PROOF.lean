import PyProof.Rows.All
import Wide.All
import OpenK.AllK
import Wide.FinOn
import HandS.ForMost
import HandS.Wide
import HandS.Zip
import HandS.Walk
import HandS.DictComp
import HandS.IsInst
import HandS.Property
import HandS.TupAny
import HandS.More
import KE.GoesNew
import KE.GoesMore
import HandS.SortKw
import HandS.WordsExc
import HandS.TryMany
import HandS.Star
import HandS.MethStar
import HandS.TupMul
import PySem.Challenge.RW_flipchoice_k62_whole_chances_are_average
set_option Elab.async false
set_option linter.all false
set_option maxRecDepth 100000
set_option maxHeartbeats 4000000
set_option exponentiation.threshold 20000
namespace Fc
open PySem L2

/-! ## data without the heap; objects by address -/
inductive D where
  | non | bl (b : Bool) | int (i : Int) | str (s : Str) | tup (ds : List D) | ref (a : Addr) | ty (n : String)
inductive O where
  | lst (ds : List D) | dct (kvs : List (Key × D)) | ins (C dx : Addr) (fs : List (Str × D))
abbrev Hl := List (Addr × O)

mutual
inductive Im (K : PySem.W.Frag) (H : Hp) : V → D → Prop where
  | non : Im K H .non .non
  | bl (b : Bool) : Im K H (.bl b) (.bl b)
  | int (i : Int) : Im K H (.int i) (.int i)
  | str (x : Str) : Im K H (.str x) (.str x)
  | ty (n : String) : Im K H (.ty n) (.ty n)
  | ref (a : Addr) : Im K H (.ref a) (.ref a)
  | tup {a : Addr} {xs : List V} {ds : List D} : SqT K H a xs → ImL K H xs ds → Im K H (.ref a) (.tup ds)
inductive ImL (K : PySem.W.Frag) (H : Hp) : List V → List D → Prop where
  | nil : ImL K H [] []
  | cons {x : V} {xs : List V} {d : D} {ds : List D} : Im K H x d → ImL K H xs ds → ImL K H (x :: xs) (d :: ds)
end

/-- tuples stay -/
structure TX (H H' : Hp) : Prop where
  tup : ∀ a xs, H a = some (.tup xs) → H' a = some (.tup xs)
  frz : ∀ a o xs, H a = some (.frz o (.tup xs)) → H' a = some (.frz o (.tup xs))
theorem TX.refl (H : Hp) : TX H H := ⟨fun _ _ h => h, fun _ _ _ h => h⟩
theorem TX.trans {H H1 H2 : Hp} (a : TX H H1) (b : TX H1 H2) : TX H H2 := ⟨fun p xs h => b.tup p xs (a.tup p xs h), fun p o xs h => b.frz p o xs (a.frz p o xs h)⟩
theorem Same.tx {H H' : Hp} (e : Same H H') : TX H H' := ⟨fun _ _ h => e _ _ h, fun _ _ _ h => e _ _ h⟩
theorem Same.new {H : Hp} {p : Addr} {o : HO} (h : H p = none) : Same H (upd H p o) := fun a u e => by
  rw [upd_ne (ne_of_none e h)]
  exact e
theorem TX.upd {H : Hp} {a : Addr} {o u : HO} (h : H a = some o) (h1 : ∀ xs, o ≠ .tup xs) (h2 : ∀ z xs, o ≠ .frz z (.tup xs)) : TX H (upd H a u) :=
  ⟨fun p xs e => by rw [upd_ne (fun q => by subst q; rw [h] at e; exact h1 _ (Option.some.inj e))]; exact e,
   fun p z xs e => by rw [upd_ne (fun q => by subst q; rw [h] at e; exact h2 _ _ (Option.some.inj e))]; exact e⟩
theorem SqT.tx {K : PySem.W.Frag} {H H' : Hp} {a : Addr} {xs : List V} (t : TX H H') (h : SqT K H a xs) : SqT K H' a xs := by
  rcases h with (h | ⟨o, h⟩) | h
  · exact .inl (.inl (t.tup _ _ h))
  · exact .inl (.inr ⟨o, t.frz _ _ _ h⟩)
  · exact .inr h
mutual
theorem Im.tx {K : PySem.W.Frag} {H H' : Hp} (t : TX H H') : ∀ (d : D) (v : V), Im K H v d → Im K H' v d
  | .non, _, .non => .non
  | .bl _, _, .bl _ => .bl _
  | .int _, _, .int _ => .int _
  | .str _, _, .str _ => .str _
  | .ty _, _, .ty _ => .ty _
  | .ref _, _, .ref _ => .ref _
  | .tup ds, _, .tup h hl => .tup (SqT.tx t h) (ImL.tx t ds _ hl)
theorem ImL.tx {K : PySem.W.Frag} {H H' : Hp} (t : TX H H') : ∀ (ds : List D) (vs : List V), ImL K H vs ds → ImL K H' vs ds
  | [], _, .nil => .nil
  | d :: ds, _, .cons h hl => .cons (Im.tx t d _ h) (ImL.tx t ds _ hl)
end
section
variable {K : PySem.W.Frag} {H H' : Hp}
theorem ImL.length : ∀ {vs : List V} {ds : List D}, ImL K H vs ds → vs.length = ds.length
  | _, _, .nil => rfl
  | _, _, .cons _ t => by rw [List.length_cons, List.length_cons, ImL.length t]
theorem ImL.get : ∀ {vs : List V} {ds : List D}, ImL K H vs ds → ∀ {i : Nat} {v : V}, vs[i]? = some v → ∃ d, ds[i]? = some d ∧ Im K H v d
  | _, _, .nil, _, _, e => by simp at e
  | _, _, .cons r _, 0, _, e => ⟨_, rfl, by simp at e; subst e; exact r⟩
  | _, _, .cons _ t, i + 1, v, e => by
    obtain ⟨d, h1, h2⟩ := ImL.get t (i := i) (v := v) (by simpa using e)
    exact ⟨d, by simpa using h1, h2⟩
theorem ImL.getD : ∀ {vs : List V} {ds : List D}, ImL K H vs ds → ∀ {i : Nat} {d : D}, ds[i]? = some d → ∃ v, vs[i]? = some v ∧ Im K H v d
  | _, _, .nil, _, _, e => by simp at e
  | _, _, .cons r _, 0, _, e => ⟨_, rfl, by simp at e; subst e; exact r⟩
  | _, _, .cons _ t, i + 1, v, e => by
    obtain ⟨d, h1, h2⟩ := ImL.getD t (i := i) (d := v) (by simpa using e)
    exact ⟨d, by simpa using h1, h2⟩
theorem ImL.append : ∀ {vs ws : List V} {ds es : List D}, ImL K H vs ds → ImL K H ws es → ImL K H (vs ++ ws) (ds ++ es)
  | _, _, _, _, .nil, s => s
  | _, _, _, _, .cons r t, s => .cons r (ImL.append t s)
theorem ImL.take : ∀ {vs : List V} {ds : List D} (n : Nat), ImL K H vs ds → ImL K H (vs.take n) (ds.take n)
  | _, _, 0, _ => .nil
  | _, _, _ + 1, .nil => .nil
  | _, _, n + 1, .cons r t => .cons r (ImL.take n t)
theorem ImL.drop : ∀ {vs : List V} {ds : List D} (n : Nat), ImL K H vs ds → ImL K H (vs.drop n) (ds.drop n)
  | _, _, 0, r => r
  | _, _, _ + 1, .nil => .nil
  | _, _, n + 1, .cons _ t => ImL.drop n t
theorem ImL.set {x : V} {d : D} (r : Im K H x d) : ∀ {vs : List V} {ds : List D} (i : Nat), ImL K H vs ds → ImL K H (vs.set i x) (ds.set i d)
  | _, _, _, .nil => .nil
  | _, _, 0, .cons _ t => .cons r t
  | _, _, i + 1, .cons q t => .cons q (ImL.set r i t)
theorem ImL.snoc {x : V} {d : D} {vs : List V} {ds : List D} (t : ImL K H vs ds) (r : Im K H x d) : ImL K H (vs ++ [x]) (ds ++ [d]) := t.append (.cons r .nil)
theorem ImL.ints : ∀ {vs : List V} {ns : List Int}, ImL K H vs (ns.map D.int) → vs = ns.map V.int
  | _, [], .nil => rfl
  | _, n :: ns, .cons r t => by cases r; rw [ImL.ints t]; rfl
theorem ImL.of_ints : ∀ (ns : List Int), ImL K H (ns.map V.int) (ns.map D.int)
  | [] => .nil
  | n :: ns => .cons (.int n) (ImL.of_ints ns)
theorem ImL.bls : ∀ {vs : List V} {ns : List Bool}, ImL K H vs (ns.map D.bl) → vs = ns.map V.bl
  | _, [], .nil => rfl
  | _, n :: ns, .cons r t => by cases r; rw [ImL.bls t]; rfl
theorem ImL.refs : ∀ {vs : List V} {ns : List Addr}, ImL K H vs (ns.map D.ref) → vs = ns.map V.ref
  | _, [], .nil => rfl
  | _, n :: ns, .cons r t => by cases r; rw [ImL.refs t]; rfl
theorem ImL.of_refs : ∀ (ns : List Addr), ImL K H (ns.map V.ref) (ns.map D.ref)
  | [] => .nil
  | n :: ns => .cons (.ref n) (ImL.of_refs ns)
end

abbrev PrI {κ : Type} (K : PySem.W.Frag) (H : Hp) : κ × V → κ × D → Prop := fun p q => p.1 = q.1 ∧ Im K H p.2 q.2
/-- an object of the abstract heap and what is told of it -/
def Ob (K : PySem.W.Frag) (H : Hp) : HO → O → Prop
  | .lst xs, .lst ds => ImL K H xs ds
  | .dK kvs, .dct kds => Paired (PrI K H) kvs kds
  | .ins C dx fs, .ins C' dx' fd => C = C' ∧ dx = dx' ∧ Paired (PrI K H) fs fd
  | _, _ => False
theorem Paired.tx {κ : Type} {K : PySem.W.Frag} {H H' : Hp} (t : TX H H') {l : List (κ × V)} {m : List (κ × D)} (h : Paired (PrI K H) l m) : Paired (PrI K H') l m :=
  Paired.mapP h fun _ _ r => ⟨r.1, r.2.tx t⟩
theorem Ob.tx {K : PySem.W.Frag} {H H' : Hp} (t : TX H H') {u : HO} {o : O} (h : Ob K H u o) : Ob K H' u o := by
  cases u <;> cases o <;> first | exact h.elim | exact ImL.tx t _ _ h | exact Paired.tx t h | exact ⟨h.1, h.2.1, Paired.tx t h.2.2⟩
theorem Ob.notup {K : PySem.W.Frag} {H : Hp} {u : HO} {o : O} (h : Ob K H u o) : (∀ xs, u ≠ .tup xs) ∧ ∀ z xs, u ≠ .frz z (.tup xs) := by
  cases u <;> cases o <;> first | exact h.elim | exact ⟨fun _ e => (nomatch e), fun _ _ e => (nomatch e)⟩
def Hs (K : PySem.W.Frag) (H : Hp) (L : Hl) : Prop := ∀ p ∈ L, ∃ u, H p.1 = some u ∧ Ob K H u p.2
theorem Hs.same {K : PySem.W.Frag} {H H' : Hp} {L : Hl} (h : Hs K H L) (e : Same H H') : Hs K H' L := fun p hp => by
  obtain ⟨u, h1, h2⟩ := h p hp
  exact ⟨u, e _ _ h1, h2.tx (Same.tx e)⟩
theorem Hs.nil {K : PySem.W.Frag} {H : Hp} : Hs K H [] := fun _ h => nomatch h

/-- what may be read of an object -/
def Rdo (K : PySem.W.Frag) (H : Hp) (a : Addr) : O → Prop
  | .lst ds => ∃ xs, SqL K H a xs ∧ ImL K H xs ds
  | .dct kds => ∃ kvs, H a = some (.dK kvs) ∧ Paired (PrI K H) kvs kds
  | .ins C dx fd => ∃ fs, H a = some (.ins C dx fs) ∧ Paired (PrI K H) fs fd
theorem Rdo.same {K : PySem.W.Frag} {H H' : Hp} {a : Addr} {o : O} (h : Rdo K H a o) (e : Same H H') : Rdo K H' a o := by
  cases o with
  | lst ds =>
    obtain ⟨xs, h1, h2⟩ := h
    exact ⟨xs, e.seq h1, h2.tx (Same.tx e)⟩
  | dct kds =>
    obtain ⟨kvs, h1, h2⟩ := h
    exact ⟨kvs, e _ _ h1, Paired.tx (Same.tx e) h2⟩
  | ins C dx fd => obtain ⟨fs, h1, h2⟩ := h; exact ⟨fs, e _ _ h1, Paired.tx (Same.tx e) h2⟩
theorem Hs.rdo {K : PySem.W.Frag} {H : Hp} {L : Hl} (h : Hs K H L) {p : Addr × O} (hp : p ∈ L) : Rdo K H p.1 p.2 := by
  obtain ⟨u, h1, h2⟩ := h p hp
  obtain ⟨a, o⟩ := p
  cases o with
  | lst ds => cases u <;> first | exact h2.elim | exact ⟨_, .inl (.inl h1), h2⟩
  | dct ds => cases u <;> first | exact h2.elim | exact ⟨_, h1, h2⟩
  | ins C dx ds =>
    cases u <;> first | exact h2.elim | skip
    obtain ⟨rfl, rfl, h3⟩ := h2
    exact ⟨_, h1, h3⟩
def Rds (K : PySem.W.Frag) (H : Hp) (L : Hl) : Prop := ∀ p ∈ L, Rdo K H p.1 p.2

/-- the heap part of a state: H0 stands, the objects of L are there, made since H0 -/
structure HS (K : PySem.W.Frag) (H0 : Hp) (L : Hl) (H : Hp) : Prop where
  ext : Same H0 H
  own : Hs K H L
  nd : (L.map (·.1)).Nodup
  new : ∀ p ∈ L, H0 p.1 = none
abbrev Ga := List (Option D)
def Vr (K : PySem.W.Frag) (H : Hp) (G : Ga) (σ : St) : Prop := σ.length = G.length ∧ ∀ (i : Nat) d, G[i]? = some (some d) → ∃ v, σ[i]? = some (some v) ∧ Im K H v d
structure Stt (K : PySem.W.Frag) (H0 : Hp) (G : Ga) (L : Hl) (σ : St) (H : Hp) : Prop where
  hs : HS K H0 L H
  vr : Vr K H G σ

theorem ix_inj {α : Type} {l : List α} (hN : l.Nodup) {i j : Nat} {x : α} (a : l[i]? = some x) (b : l[j]? = some x) : i = j := by
  obtain ⟨h1, e1⟩ := List.getElem?_eq_some_iff.mp a
  obtain ⟨h2, e2⟩ := List.getElem?_eq_some_iff.mp b
  exact (List.getElem_inj hN).mp (e1.trans e2.symm)
section
variable {K : PySem.W.Frag} {H0 H H' : Hp} {G : Ga} {L L' : Hl} {σ : St}
theorem HS.same (h : HS K H0 L H) (e : Same H H') : HS K H0 L H' := ⟨h.ext.trans e, h.own.same e, h.nd, h.new⟩
theorem HS.tl {p : Addr × O} (h : HS K H0 (p :: L) H) : HS K H0 L H :=
  ⟨h.ext, fun q hq => h.own q (List.mem_cons_of_mem _ hq), (List.nodup_cons.mp h.nd).2, fun q hq => h.new q (List.mem_cons_of_mem _ hq)⟩
theorem HS.sub (h : HS K H0 L H) (s : List.Sublist L' L) : HS K H0 L' H :=
  ⟨h.ext, fun q hq => h.own q (s.mem hq), (s.map _).nodup h.nd, fun q hq => h.new q (s.mem hq)⟩
theorem Vr.tx (h : Vr K H G σ) (t : TX H H') : Vr K H' G σ := ⟨h.1, fun i d e => let ⟨v, a, b⟩ := h.2 i d e; ⟨v, a, b.tx t⟩⟩
theorem Vr.set {v : V} {d : D} (h : Vr K H G σ) (r : Im K H v d) (i : Nat) : Vr K H (G.set i (some d)) (σ.set i (some v)) := by
  refine ⟨by rw [List.length_set, List.length_set, h.1], fun j e hj => ?_⟩
  by_cases hi : i = j
  · subst hi
    rw [List.getElem?_set_self'] at hj
    cases hg : G[i]? with
    | none => rw [hg] at hj; cases hj
    | some z =>
      rw [hg] at hj
      have : d = e := Option.some.inj (Option.some.inj hj)
      subst this
      refine ⟨v, ?_, r⟩
      have : i < σ.length := by rw [h.1]; exact (List.getElem?_eq_some_iff.mp hg).1
      exact List.getElem?_set_self this
  · rw [List.getElem?_set_ne hi] at hj ⊢
    exact h.2 j e hj
theorem Vr.clr (h : Vr K H G σ) (i : Nat) (o : Option V) : Vr K H (G.set i none) (σ.set i o) := by
  refine ⟨by rw [List.length_set, List.length_set, h.1], fun j e hj => ?_⟩
  by_cases hi : i = j
  · subst hi
    rw [List.getElem?_set_self'] at hj
    cases hg : G[i]? with
    | none => rw [hg] at hj; cases hj
    | some z => rw [hg] at hj; cases Option.some.inj hj
  · rw [List.getElem?_set_ne hi] at hj ⊢
    exact h.2 j e hj
theorem Stt.same (h : Stt K H0 G L σ H) (e : Same H H') : Stt K H0 G L σ H' := ⟨h.hs.same e, h.vr.tx (Same.tx e)⟩
theorem Stt.tl {p : Addr × O} (h : Stt K H0 G (p :: L) σ H) : Stt K H0 G L σ H := ⟨h.hs.tl, h.vr⟩
theorem Stt.sub (h : Stt K H0 G L σ H) (s : List.Sublist L' L) : Stt K H0 G L' σ H := ⟨h.hs.sub s, h.vr⟩
theorem Stt.set {v : V} {d : D} (h : Stt K H0 G L σ H) (r : Im K H v d) (i : Nat) : Stt K H0 (G.set i (some d)) L (σ.set i (some v)) H := ⟨h.hs, h.vr.set r i⟩
/-- new objects -/
theorem HS.add {N : Hl} (h : HS K H0 L H) (e : Same H H') (hf : ∀ p ∈ N, H p.1 = none) (hn : (N.map (·.1)).Nodup) (ho : Hs K H' N) : HS K H0 (N ++ L) H' := by
  refine ⟨h.ext.trans e, fun p hp => ?_, ?_, fun p hp => ?_⟩
  · rcases List.mem_append.mp hp with hp | hp
    · exact ho p hp
    · exact h.own.same e p hp
  · rw [List.map_append, List.nodup_append]
    refine ⟨hn, h.nd, fun a ha b hb => ?_⟩
    obtain ⟨p, hp, rfl⟩ := List.mem_map.mp ha
    obtain ⟨q, hq, rfl⟩ := List.mem_map.mp hb
    obtain ⟨u, hu, _⟩ := h.own q hq
    exact fun z => ne_of_none hu (hf p hp) z.symm
  · rcases List.mem_append.mp hp with hp | hp
    · exact h.ext.free (hf p hp)
    · exact h.new p hp
theorem Stt.add {N : Hl} (h : Stt K H0 G L σ H) (e : Same H H') (hf : ∀ p ∈ N, H p.1 = none) (hn : (N.map (·.1)).Nodup) (ho : Hs K H' N) : Stt K H0 G (N ++ L) σ H' := ⟨h.hs.add e hf hn ho, h.vr.tx (Same.tx e)⟩
/-- an object written -/
theorem HS.put {k : Nat} {a : Addr} {o o' : O} {u' : HO} (h : HS K H0 L H) (hk : L[k]? = some (a, o)) (hu : Ob K H u' o') : HS K H0 (L.set k (a, o')) (upd H a u') ∧ TX H (upd H a u') := by
  have hm : (a, o) ∈ L := List.mem_of_getElem? hk
  obtain ⟨u, h1, h2⟩ := h.own _ hm
  have hx : TX H (upd H a u') := TX.upd h1 h2.notup.1 h2.notup.2
  have h0 : H0 a = none := h.new _ hm
  have hml : (L.set k (a, o')).map (·.1) = L.map (·.1) := by
    rw [List.map_set]
    have : (L.map (·.1))[k]? = some a := by rw [List.getElem?_map, hk]; rfl
    obtain ⟨hlt, hv⟩ := List.getElem?_eq_some_iff.mp this
    rw [← hv]
    exact List.set_getElem_self hlt
  refine ⟨⟨fun b z e => ?_, fun p hp => ?_, by rw [hml]; exact h.nd, fun p hp => ?_⟩, hx⟩
  · rw [upd_ne (ne_of_none e h0)]
    exact h.ext b z e
  · by_cases hpa : p.1 = a
    · have : p = (a, o') := by
          obtain ⟨j, hj⟩ := List.getElem?_of_mem hp
          by_cases hjk : k = j
          · subst hjk
            rw [List.getElem?_set_self (List.getElem?_eq_some_iff.mp hk).1] at hj
            exact (Option.some.inj hj).symm
          · rw [List.getElem?_set_ne hjk] at hj
            have a1 : (L.map (·.1))[j]? = some a := by rw [List.getElem?_map, hj]; exact congrArg some hpa
            have a2 : (L.map (·.1))[k]? = some a := by rw [List.getElem?_map, hk]; rfl
            exact absurd (ix_inj h.nd a2 a1) hjk
      subst this
      exact ⟨u', upd_same, hu.tx hx⟩
    · have hq : p ∈ L := by
        rcases List.mem_or_eq_of_mem_set hp with q | q
        · exact q
        · exact absurd (by rw [q]) hpa
      obtain ⟨z, z1, z2⟩ := h.own p hq
      exact ⟨z, by rw [upd_ne hpa]; exact z1, z2.tx hx⟩
  · have : p.1 ∈ L.map (·.1) := by rw [← hml]; exact List.mem_map_of_mem hp
    obtain ⟨q, hq, e⟩ := List.mem_map.mp this
    rw [← e]
    exact h.new q hq
end
end Fc

namespace Fc
open PySem L2

/-! ## what evaluates to what -/
section
variable (K : PySem.W.Frag) (H0 : Hp)
/-- a value, nothing written -/
def EvP (G : Ga) (L : Hl) (te : TE) (d : D) : Prop := ∀ σ H, Stt K H0 G L σ H → ∀ Q : VK, (∀ v H', Same H H' → Im K H' v d → Q v H') → te σ H Q
/-- a value and new objects -/
def EvN (G : Ga) (L : Hl) (te : TE) (P : D → Hl → Prop) : Prop := ∀ σ H, Stt K H0 G L σ H → ∀ Q : VK,
  (∀ v H' d N, P d N → Same H H' → (∀ p ∈ N, H p.1 = none) → (N.map (·.1)).Nodup → Hs K H' N → Im K H' v d → Q v H') → te σ H Q
/-- a value; the objects of L may have changed -/
def EvM (G : Ga) (L : Hl) (te : TE) (P : D → Hl → Prop) : Prop := ∀ σ H, Stt K H0 G L σ H → ∀ Q : VK,
  (∀ v H' d L', P d L' → TX H H' → Stt K H0 G L' σ H' → Im K H' v d → Q v H') → te σ H Q
def EvT (G : Ga) (L : Hl) (tt : TT) (b : Bool) : Prop := ∀ σ H, Stt K H0 G L σ H → ∀ Q : Bool → Hp → Prop, (∀ H', Same H H' → Q b H') → tt σ H Q
def EvA (G : Ga) (L : Hl) (ta : TA) (ds : List D) : Prop := ∀ σ H, Stt K H0 G L σ H → ∀ Q : List V → Hp → Prop, (∀ vs H', Same H H' → ImL K H' vs ds → Q vs H') → ta σ H Q
def EvAN (G : Ga) (L : Hl) (ta : TA) (P : List D → Hl → Prop) : Prop := ∀ σ H, Stt K H0 G L σ H → ∀ Q : List V → Hp → Prop,
  (∀ vs H' ds N, P ds N → Same H H' → (∀ p ∈ N, H p.1 = none) → (N.map (·.1)).Nodup → Hs K H' N → ImL K H' vs ds → Q vs H') → ta σ H Q
/-- two-place, one-place operations, calls, by values -/
def RvP (L : Hl) (r : R2) (x y z : D) : Prop := ∀ H u v, HS K H0 L H → Im K H u x → Im K H v y → ∀ Q : VK, (∀ w H', Same H H' → Im K H' w z → Q w H') → r u v H Q
def RcP (L : Hl) (r : List V → Hp → VK → Prop) (xs : List D) (z : D) : Prop := ∀ H us, HS K H0 L H → ImL K H us xs → ∀ Q : VK, (∀ w H', Same H H' → Im K H' w z → Q w H') → r us H Q
def RcN (L : Hl) (r : List V → Hp → VK → Prop) (xs : List D) (P : D → Hl → Prop) : Prop := ∀ H us, HS K H0 L H → ImL K H us xs → ∀ Q : VK,
  (∀ w H' d N, P d N → Same H H' → (∀ p ∈ N, H p.1 = none) → (N.map (·.1)).Nodup → Hs K H' N → Im K H' w d → Q w H') → r us H Q
/-- an object that may be read: one of L, or of the base -/
def Lk (L : Hl) (a : Addr) (o : O) : Prop := (a, o) ∈ L ∨ Rdo K H0 a o
end
abbrev New1 (o : O) : D → Hl → Prop := fun d N => ∃ a, d = .ref a ∧ N = [(a, o)]

section
variable {K : PySem.W.Frag} {H0 H H' : Hp} {G : Ga} {L L' : Hl} {σ : St} {te ta tb tc : TE} {tt tu : TT} {r : R2} {d x y z : D} {ds : List D} {b c : Bool}
theorem Lk.rdo {a : Addr} {o : O} (h : Lk K H0 L a o) (s : HS K H0 L H) : Rdo K H a o := by
  rcases h with h | h
  · exact s.own.rdo h
  · exact h.same s.ext
theorem EvP.nw {P : D → Hl → Prop} (h : EvP K H0 G L te d) (hp : P d []) : EvN K H0 G L te P := fun σ H s Q q => h σ H s Q fun v H' e i => q v H' d [] hp e (fun _ z => nomatch z) .nil Hs.nil i
theorem EvP.fr {p : Addr × O} (h : EvP K H0 G L te d) : EvP K H0 G (p :: L) te d := fun σ H s => h σ H s.tl
theorem EvT.fr {p : Addr × O} (h : EvT K H0 G L tt b) : EvT K H0 G (p :: L) tt b := fun σ H s => h σ H s.tl
theorem EvN.fr {p : Addr × O} {P : D → Hl → Prop} (h : EvN K H0 G L te P) : EvN K H0 G (p :: L) te P := fun σ H s => h σ H s.tl
theorem EvN.imp {P P' : D → Hl → Prop} (h : EvN K H0 G L te P) (i : ∀ d N, P d N → P' d N) : EvN K H0 G L te P' := fun σ H s Q q => h σ H s Q fun v H' d N p => q v H' d N (i d N p)
/-- new objects that nobody names -/
theorem EvN.ev (h : EvN K H0 G L te fun d' N => d' = d) : EvP K H0 G L te d := fun σ H s Q q => h σ H s Q fun v H' d' N p e _ _ _ i => by subst p; exact q v H' e i
theorem EvP.cast (h : EvP K H0 G L te d) (e : d = x) : EvP K H0 G L te x := e ▸ h
theorem EvT.cast (h : EvT K H0 G L tt b) (e : b = c) : EvT K H0 G L tt c := e ▸ h

/-! ### names, constants -/
theorem ev_var {i : Nat} (h : G[i]? = some (some d)) : EvP K H0 G L (tVar i) d := fun σ H s Q q => by
  obtain ⟨v, e, m⟩ := s.vr.2 i d h
  exact ⟨v, e, q v H (Same.refl H) m⟩
theorem ev_int {i : Int} : EvP K H0 G L (tC (.int i)) (.int i) := fun σ H s Q q => q _ H (Same.refl H) (.int i)
theorem ev_bl {i : Bool} : EvP K H0 G L (tC (.bl i)) (.bl i) := fun σ H s Q q => q _ H (Same.refl H) (.bl i)
theorem ev_non : EvP K H0 G L (tC .non) .non := fun σ H s Q q => q _ H (Same.refl H) .non
theorem ev_str {i : Str} : EvP K H0 G L (tC (.str i)) (.str i) := fun σ H s Q q => q _ H (Same.refl H) (.str i)
theorem ev_ty {i : String} : EvP K H0 G L (tC (.ty i)) (.ty i) := fun σ H s Q q => q _ H (Same.refl H) (.ty i)
/-- a constant of the module -/
theorem ev_k {v : V} (h : ∀ H, Im K H v d) : EvP K H0 G L (tC v) d := fun σ H s Q q => q v H (Same.refl H) (h H)

/-! ### operators -/
theorem ev_op (ha : EvP K H0 G L ta x) (hb : EvP K H0 G L tb y) (hr : RvP K H0 L r x y z) : EvP K H0 G L (tOp r ta tb) z := fun σ H s Q q =>
  ha σ H s _ fun u H1 e1 i1 => hb σ H1 (s.same e1) _ fun v H2 e2 i2 => hr H2 u v ((s.same e1).same e2).hs (i1.tx (Same.tx e2)) i2 Q fun w H3 e3 i3 => q w H3 ((e1.trans e2).trans e3) i3
theorem rv_I0 {g : Int → Int → V} {i j : Int} (h : ∀ H, Im K H (g i j) z) : RvP K H0 L (rI0 g) (.int i) (.int j) z := fun H u v s h1 h2 Q q => by
  cases h1; cases h2
  exact ⟨i, j, rfl, rfl, q _ H (Same.refl H) (h H)⟩
theorem rv_I {C : Int → Int → Prop} {g : Int → Int → V} {i j : Int} (hc : C i j) (h : ∀ H, Im K H (g i j) z) : RvP K H0 L (rI C g) (.int i) (.int j) z := fun H u v s h1 h2 Q q => by
  cases h1; cases h2
  exact ⟨i, j, rfl, rfl, hc, q _ H (Same.refl H) (h H)⟩
theorem rv_add {i j : Int} : RvP K H0 L (rI0 fun i j => .int (i + j)) (.int i) (.int j) (.int (i + j)) := rv_I0 fun _ => .int _
theorem rv_sub {i j : Int} : RvP K H0 L (rI0 fun i j => .int (i - j)) (.int i) (.int j) (.int (i - j)) := rv_I0 fun _ => .int _
theorem rv_lt {i j : Int} : RvP K H0 L (rI0 fun i j => .bl (decide (i < j))) (.int i) (.int j) (.bl (decide (i < j))) := rv_I0 fun _ => .bl _
theorem rv_le {i j : Int} : RvP K H0 L (rI0 fun i j => .bl (decide (i ≤ j))) (.int i) (.int j) (.bl (decide (i ≤ j))) := rv_I0 fun _ => .bl _
theorem rv_gt {i j : Int} : RvP K H0 L (rI0 fun i j => .bl (decide (j < i))) (.int i) (.int j) (.bl (decide (j < i))) := rv_I0 fun _ => .bl _
theorem rv_ge {i j : Int} : RvP K H0 L (rI0 fun i j => .bl (decide (j ≤ i))) (.int i) (.int j) (.bl (decide (j ≤ i))) := rv_I0 fun _ => .bl _
theorem rv_mulW {i j : Int} (h : CMulW i j) : RvP K H0 L (rI CMulW fun i j => .int (i * j)) (.int i) (.int j) (.int (i * j)) := rv_I h fun _ => .int _
theorem rv_mul {i j : Int} (h : CMul i j) : RvP K H0 L (rI CMul fun i j => .int (i * j)) (.int i) (.int j) (.int (i * j)) := rv_I h fun _ => .int _
theorem rv_fdivW {i j : Int} (h : CDivW i j) : RvP K H0 L (rI CDivW fun i j => .int (i / j)) (.int i) (.int j) (.int (i / j)) := rv_I h fun _ => .int _
theorem rv_fdiv {i j : Int} (h : CDiv i j) : RvP K H0 L (rI CDiv fun i j => .int (i / j)) (.int i) (.int j) (.int (i / j)) := rv_I h fun _ => .int _
theorem rv_mod {i j : Int} (h : 0 < j) : RvP K H0 L (rI (fun _ j => 0 < j) fun i j => .int (i % j)) (.int i) (.int j) (.int (i % j)) := rv_I h fun _ => .int _
/-- == of what == tells apart as data does -/
def sc : D → Option V
  | .non => some .non | .bl b => some (.bl b) | .int i => some (.int i) | .str s => some (.str s) | _ => none
theorem sc_im {d : D} {u v : V} (h : sc d = some u) (i : Im K H v d) : v = u := by
  cases i <;> simp [sc] at h <;> exact h
theorem rv_eq {u v : V} (h1 : sc x = some u) (h2 : sc y = some v) (hs : scal u v = true) : RvP K H0 L rEq x y (.bl (decide (u = v))) := fun H a b s i1 i2 Q q => by
  rw [sc_im h1 i1, sc_im h2 i2]
  exact ⟨hs, q _ H (Same.refl H) (.bl _)⟩
theorem rv_ne {u v : V} (h1 : sc x = some u) (h2 : sc y = some v) (hs : scal u v = true) : RvP K H0 L rNe x y (.bl (!decide (u = v))) := fun H a b s i1 i2 Q q => by
  rw [sc_im h1 i1, sc_im h2 i2]
  exact ⟨hs, q _ H (Same.refl H) (.bl _)⟩
theorem dI {i j : Int} : decide (V.int i = V.int j) = decide (i = j) := by
  by_cases h : i = j
  · subst h; simp
  · rw [decide_eq_false h, decide_eq_false (fun e => h (V.int.inj e))]
theorem rv_eqI {i j : Int} : RvP K H0 L rEq (.int i) (.int j) (.bl (decide (i = j))) := by rw [← dI]; exact rv_eq rfl rfl rfl
theorem rv_neI {i j : Int} : RvP K H0 L rNe (.int i) (.int j) (.bl (!decide (i = j))) := by rw [← dI]; exact rv_ne rfl rfl rfl
/-- items -/
theorem rv_ixT {i : Int} (h : atI ds i = some z) : RvP K H0 L (rIxT K) (.tup ds) (.int i) z := fun H u v s h1 h2 Q q => by
  cases h2
  cases h1 with
  | tup hq hl =>
    obtain ⟨j, hj, hz⟩ := Option.bind_eq_some_iff.mp h
    obtain ⟨w, hw, iw⟩ := hl.getD hz
    refine ⟨_, _, i, w, rfl, rfl, hq, ?_, q w H (Same.refl H) iw⟩
    unfold atI
    rw [hl.length, hj]
    exact hw
theorem rv_ixL {a : Addr} {i : Int} (hk : Lk K H0 L a (.lst ds)) (h : atI ds i = some z) : RvP K H0 L (rIxL K) (.ref a) (.int i) z := fun H u v s h1 h2 Q q => by
  cases h2
  cases h1
  obtain ⟨xs, hq, hl⟩ := hk.rdo s
  obtain ⟨j, hj, hz⟩ := Option.bind_eq_some_iff.mp h
  obtain ⟨w, hw, iw⟩ := hl.getD hz
  refine ⟨_, _, i, w, rfl, rfl, hq, ?_, q w H (Same.refl H) iw⟩
  unfold atI
  rw [hl.length, hj]
  exact hw
theorem atN {α : Type} {l : List α} {j : Nat} {v : α} (h : l[j]? = some v) : atI l (j : Int) = some v := atI_nat h
theorem atZ {α : Type} {l : List α} {i : Int} {v : α} (h0 : 0 ≤ i) (h : l[i.toNat]? = some v) : atI l i = some v := by
  have := atI_nat h
  rwa [Int.toNat_of_nonneg h0] at this
theorem atM {α : Type} {l : List α} {v : α} (h : l.getLast? = some v) : atI l (-1) = some v := by
  obtain ⟨r, rfl⟩ := List.getLast?_eq_some_iff.mp h
  exact atI_last r v
/-- in -/
def fl : D → Bool
  | .non => true | .bl _ => true | .int _ => true | .str _ => true | _ => false
theorem fl_v {d : D} {v : V} (i : Im K H v d) : flatV v = fl d := by cases i <;> rfl
theorem fl_all : ∀ {vs : List V} {ds : List D}, ImL K H vs ds → vs.all flatV = ds.all fl
  | _, _, .nil => rfl
  | _, _, .cons r t => by rw [List.all_cons, List.all_cons, fl_v r, fl_all t]
theorem inV_ints (k : Int) : ∀ ns : List Int, inV (.int k) (ns.map V.int) = decide (k ∈ ns)
  | [] => rfl
  | n :: ns => by
    have ih := inV_ints k ns
    unfold inV at ih ⊢
    rw [List.map_cons, List.any_cons, ih]
    show ((n == k) || decide (k ∈ ns)) = decide (k ∈ n :: ns)
    by_cases h : n = k
    · subst h; simp
    · have h' : ¬ k = n := fun e => h e.symm
      simp [h, h']
theorem flat_ints : ∀ ns : List Int, (ns.map V.int).all flatV = true
  | [] => rfl
  | n :: ns => by rw [List.map_cons, List.all_cons, flat_ints ns]; rfl
theorem rv_inL {a : Addr} {neg : Bool} {k : Int} {ns : List Int} (hk : Lk K H0 L a (.lst (ns.map D.int))) : RvP K H0 L (rIn K neg) (.int k) (.ref a) (.bl (if neg then !decide (k ∈ ns) else decide (k ∈ ns))) := fun H u v s h1 h2 Q q => by
  cases h1
  cases h2
  obtain ⟨xs, hq, hl⟩ := hk.rdo s
  have e := hl.ints
  subst e
  refine ⟨a, _, rfl, .inl hq, rfl, flat_ints ns, ?_⟩
  rw [inV_ints]
  exact q _ H (Same.refl H) (.bl _)
theorem rv_isL {a : Addr} {k : Int} {ns : List Int} (hk : Lk K H0 L a (.lst (ns.map D.int))) : RvP K H0 L (rIn K false) (.int k) (.ref a) (.bl (decide (k ∈ ns))) := rv_inL (neg := false) hk
theorem rv_niL {a : Addr} {k : Int} {ns : List Int} (hk : Lk K H0 L a (.lst (ns.map D.int))) : RvP K H0 L (rIn K true) (.int k) (.ref a) (.bl (!decide (k ∈ ns))) := rv_inL (neg := true) hk
/-- tuples joined, cut -/
theorem rv_cat {es : List D} (hz : ds.length + es.length ≤ 100000) : RvP K H0 L (rCatA K) (.tup ds) (.tup es) (.tup (ds ++ es)) := fun H u v s h1 h2 Q q => by
  cases h1 with
  | tup hq hl =>
    cases h2 with
    | tup hq' hl' =>
      refine ⟨_, _, _, _, rfl, rfl, hq, hq', ?_, fun e => ?_, fun _ e => ?_, fun _ _ p hp => ?_⟩
      · rw [hl.length, hl'.length]
        exact Nat.le_trans hz (by decide)
      · subst e
        cases hl
        exact q _ H (Same.refl H) (.tup hq' hl')
      · subst e
        cases hl'
        rw [List.append_nil] at q
        exact q _ H (Same.refl H) (.tup hq hl)
      · exact q _ _ (Same.new hp) (.tup (SqT.of upd_same) ((hl.append hl').tx (Same.tx (Same.new hp))))
def cutD (ds : List D) (lo hi : Option Int) : List D := (ds.drop (HT.sIx ds.length 0 lo)).take (HT.sIx ds.length ds.length hi - HT.sIx ds.length 0 lo)
def EvO (K : PySem.W.Frag) (H0 : Hp) (G : Ga) (L : Hl) (to : TO) (o : Option Int) : Prop := ∀ σ H, Stt K H0 G L σ H → ∀ Q : Option Int → Hp → Prop, (∀ H', Same H H' → Q o H') → to σ H Q
theorem eo_none : EvO K H0 G L tNoPart none := fun σ H s Q q => q H (Same.refl H)
theorem eo_some {i : Int} (h : EvP K H0 G L te (.int i)) : EvO K H0 G L (tPart te) (some i) := fun σ H s Q q => h σ H s _ fun v H' e m => by
  cases m
  exact ⟨i, rfl, q H' e⟩
theorem ev_slT {tl th : TO} {lo hi : Option Int} (h : EvP K H0 G L te (.tup ds)) (hl : EvO K H0 G L tl lo) (hh : EvO K H0 G L th hi) : EvP K H0 G L (tSl (rSlA K) te tl th) (.tup (cutD ds lo hi)) := fun σ H s Q q =>
  h σ H s _ fun v H1 e1 i1 => hl σ H1 (s.same e1) _ fun H2 e2 => hh σ H2 ((s.same e1).same e2) _ fun H3 e3 => by
    have i3 := (i1.tx (Same.tx e2)).tx (Same.tx e3)
    have e13 := (e1.trans e2).trans e3
    cases i3 with
    | @tup a xs _ hq il =>
      refine ⟨_, _, rfl, hq, fun hw => ?_, fun hw p hp => ?_⟩
      · have : cutD ds lo hi = ds := by
          unfold cutD
          rw [← il.length, hw.1, hw.2, List.drop_zero, Nat.sub_zero, il.length, List.take_length]
        rw [this] at q
        exact q _ _ e13 (.tup hq il)
      · refine q _ _ (e13.trans (Same.new hp)) (.tup (SqT.of upd_same) ?_)
        unfold cutV cutD
        rw [← il.length]
        exact ImL.take _ (ImL.drop _ (il.tx (Same.tx (Same.new hp))))

/-! ### tests -/
theorem et_test (h : EvP K H0 G L te (.bl b)) : EvT K H0 G L (tTest te) b := fun σ H s Q q => h σ H s _ fun v H' e i => by cases i; exact ⟨b, rfl, q H' e⟩
theorem et_B (h : EvP K H0 G L te (.bl b)) : EvT K H0 G L (tB te) b := fun σ H s Q q => h σ H s _ fun v H' e i => by cases i; exact ⟨b, rfl, q H' e⟩
theorem et_and (h1 : EvT K H0 G L tt b) (h2 : b = true → EvT K H0 G L tu c) : EvT K H0 G L (tAnd tt tu) (b && c) := fun σ H s Q q => h1 σ H s _ fun H1 e1 => by
  cases b with
  | true => exact iteT (h2 rfl σ H1 (s.same e1) Q fun H2 e2 => q H2 (e1.trans e2))
  | false => exact iteF (q H1 e1)
theorem et_or (h1 : EvT K H0 G L tt b) (h2 : b = false → EvT K H0 G L tu c) : EvT K H0 G L (tOr tt tu) (b || c) := fun σ H s Q q => h1 σ H s _ fun H1 e1 => by
  cases b with
  | true => exact iteT (q H1 e1)
  | false => exact iteF (h2 rfl σ H1 (s.same e1) Q fun H2 e2 => q H2 (e1.trans e2))
theorem et_not (h1 : EvT K H0 G L tt b) : EvT K H0 G L (tNot tt) (!b) := fun σ H s Q q => h1 σ H s _ fun H1 e1 => q H1 e1
theorem ev_andV (h1 : EvP K H0 G L ta (.bl b)) (h2 : b = true → EvP K H0 G L tb (.bl c)) : EvP K H0 G L (tAndV ta tb) (.bl (b && c)) := fun σ H s Q q => h1 σ H s _ fun v H1 e1 i => by
  cases i
  refine ⟨b, rfl, ?_⟩
  cases b with
  | true => exact iteT (h2 rfl σ H1 (s.same e1) Q fun v H2 e2 i2 => q v H2 (e1.trans e2) i2)
  | false => exact iteF (q _ H1 e1 (.bl _))
theorem ev_orV (h1 : EvP K H0 G L ta (.bl b)) (h2 : b = false → EvP K H0 G L tb (.bl c)) : EvP K H0 G L (tOrV ta tb) (.bl (b || c)) := fun σ H s Q q => h1 σ H s _ fun v H1 e1 i => by
  cases i
  refine ⟨b, rfl, ?_⟩
  cases b with
  | true => exact iteT (q _ H1 e1 (.bl _))
  | false => exact iteF (h2 rfl σ H1 (s.same e1) Q fun v H2 e2 i2 => q v H2 (e1.trans e2) i2)
theorem ev_notV (h1 : EvP K H0 G L ta (.bl b)) : EvP K H0 G L (tNotV ta) (.bl (!b)) := fun σ H s Q q => h1 σ H s _ fun v H1 e1 i => by
  cases i
  exact ⟨b, rfl, q _ H1 e1 (.bl _)⟩
theorem ev_if (h : EvT K H0 G L tt b) (h1 : b = true → EvP K H0 G L ta d) (h2 : b = false → EvP K H0 G L tb d) : EvP K H0 G L (tIf tt ta tb) d := fun σ H s Q q => h σ H s _ fun H1 e1 => by
  cases b with
  | true => exact iteT (h1 rfl σ H1 (s.same e1) Q fun v H2 e2 i2 => q v H2 (e1.trans e2) i2)
  | false => exact iteF (h2 rfl σ H1 (s.same e1) Q fun v H2 e2 i2 => q v H2 (e1.trans e2) i2)
theorem ev_chain {r' : R2} (ha : EvP K H0 G L ta x) (hb : EvP K H0 G L tb y) (hr : RvP K H0 L r x y (.bl b)) (hc : b = true → EvP K H0 G L tc z) (hr' : b = true → RvP K H0 L r' y z (.bl c)) :
    EvP K H0 G L (tChain r r' ta tb tc) (.bl (b && c)) := fun σ H s Q q =>
  ha σ H s _ fun u H1 e1 i1 => hb σ H1 (s.same e1) _ fun v H2 e2 i2 => hr H2 u v ((s.same e1).same e2).hs (i1.tx (Same.tx e2)) i2 _ fun w H3 e3 i3 => by
    cases i3
    refine ⟨b, rfl, ?_⟩
    cases b with
    | true =>
      refine iteT (hc rfl σ H3 (((s.same e1).same e2).same e3) _ fun t H4 e4 i4 => ?_)
      exact hr' rfl H4 v t ((((s.same e1).same e2).same e3).same e4).hs (i2.tx (Same.tx (e3.trans e4))) i4 Q fun w H5 e5 i5 => q w H5 ((((e1.trans e2).trans e3).trans e4).trans e5) i5
    | false => exact iteF (q _ H3 ((e1.trans e2).trans e3) (.bl _))

/-! ### arguments, displays -/
theorem ea_nil : EvA K H0 G L tNil [] := fun σ H s Q q => q [] H (Same.refl H) .nil
theorem ea_cons {tr : TA} (h : EvP K H0 G L te d) (hr : EvA K H0 G L tr ds) : EvA K H0 G L (tCons te tr) (d :: ds) := fun σ H s Q q =>
  h σ H s _ fun v H1 e1 i1 => hr σ H1 (s.same e1) _ fun vs H2 e2 i2 => q (v :: vs) H2 (e1.trans e2) (.cons (i1.tx (Same.tx e2)) i2)
theorem EvA.nw {ta : TA} {P : List D → Hl → Prop} (h : EvA K H0 G L ta ds) (hp : P ds []) : EvAN K H0 G L ta P := fun σ H s Q q => h σ H s Q fun v H' e i => q v H' ds [] hp e (fun _ z => nomatch z) .nil Hs.nil i
theorem ean_one {P : D → Hl → Prop} (h : EvN K H0 G L te P) : EvAN K H0 G L (tCons te tNil) (fun ds N => ∃ d, ds = [d] ∧ P d N) := fun σ H s Q q =>
  h σ H s _ fun v H1 d N p e hf hn ho i => q [v] H1 [d] N ⟨d, rfl, p⟩ e hf hn ho (.cons i .nil)
theorem ev_tup {ta : TA} (h : EvA K H0 G L ta ds) (hl : ds.length ≤ 100000) : EvP K H0 G L (tTup ta) (.tup ds) := fun σ H s Q q =>
  h σ H s _ fun vs H1 e1 i1 => ⟨by rw [i1.length]; exact Nat.le_trans hl (by decide), fun p hp => q _ _ (e1.trans (Same.new hp)) (.tup (SqT.of upd_same) (i1.tx (Same.tx (Same.new hp))))⟩
theorem new1 {o : O} {u : HO} {a : Addr} (hn : H a = none) (ho : Ob K H u o) : Same H (upd H a u) ∧ (∀ p ∈ [(a, o)], H p.1 = none) ∧ (([(a, o)] : Hl).map (·.1)).Nodup ∧ Hs K (upd H a u) [(a, o)] := by
  refine ⟨Same.new hn, fun p hp => ?_, by simp, fun p hp => ?_⟩
  · rw [List.mem_singleton.mp hp]; exact hn
  · rw [List.mem_singleton.mp hp]; exact ⟨u, upd_same, ho.tx (Same.tx (Same.new hn))⟩
theorem en_lst {ta : TA} (h : EvA K H0 G L ta ds) (hl : ds.length ≤ 100000) : EvN K H0 G L (tLst ta) (New1 (.lst ds)) := fun σ H s Q q =>
  h σ H s _ fun vs H1 e1 i1 => ⟨by rw [i1.length]; exact Nat.le_trans hl (by decide), fun p hp => by
    obtain ⟨a1, a2, a3, a4⟩ := new1 (K := K) (u := .lst vs) (o := .lst ds) hp i1
    exact q _ _ (.ref p) [(p, .lst ds)] ⟨p, rfl, rfl⟩ (e1.trans a1) (fun z hz => e1.free (a2 z hz)) a3 a4 (.ref p)⟩
theorem en_dnew : EvN K H0 G L tDNewK (New1 (.dct [])) := fun σ H s Q q p hp => by
  obtain ⟨a1, a2, a3, a4⟩ := new1 (K := K) (u := .dK []) (o := .dct []) hp .nil
  exact q _ _ (.ref p) [(p, .dct [])] ⟨p, rfl, rfl⟩ a1 a2 a3 a4 (.ref p)
end
end Fc

namespace Fc
open PySem L2

/-! ## statements -/
structure Po where
  nx : Ga → Hl → Prop
  rt : D → Hl → Prop
  bk : Ga → Hl → Prop := fun _ _ => False
  ct : Ga → Hl → Prop := fun _ _ => False
section
variable (K : PySem.W.Frag) (H0 : Hp)
structure Sat (T : Hp) (p : Po) (E : Ends) : Prop where
  nx : ∀ G L σ H, p.nx G L → TX T H → Stt K H0 G L σ H → E.nx σ H
  rt : ∀ d L v H, p.rt d L → TX T H → HS K H0 L H → Im K H v d → E.rt v H
  bk : ∀ G L σ H, p.bk G L → TX T H → Stt K H0 G L σ H → E.bk σ H
  ct : ∀ G L σ H, p.ct G L → TX T H → Stt K H0 G L σ H → E.ct σ H
def Go (G : Ga) (L : Hl) (ts : TS) (p : Po) : Prop := ∀ T σ H E, TX T H → Stt K H0 G L σ H → Sat K H0 T p E → ts E σ H
/-- an iterator that gives ds while W holds of the objects -/
structure ItD (T : Hp) (J : It) (ds : List D) (W : Hl → Prop) : Prop where
  go : ∀ i L H, TX T H → HS K H0 L H → W L → i < ds.length → J.go i H
  stop : ∀ L H, TX T H → HS K H0 L H → W L → J.stop ds.length H
  yld : ∀ i L H x H', TX T H → HS K H0 L H → W L → i < ds.length → J.yld i H x H' → Same H H' ∧ ∃ d, ds[i]? = some d ∧ Im K H' x d
def EvI (G : Ga) (L : Hl) (wi : TI) (P : List D → (Hl → Prop) → Hl → Prop) : Prop := ∀ σ H, Stt K H0 G L σ H → ∀ R : It → Hp → Prop,
  (∀ J H' ds W N, P ds W N → Same H H' → (∀ p ∈ N, H p.1 = none) → (N.map (·.1)).Nodup → Hs K H' N → ItD K H0 H' J ds W → R J H') → wi σ H R
/-- a target -/
def EvG (G : Ga) (d : D) (g : TG) (G' : Ga) : Prop := ∀ L σ H v, Stt K H0 G L σ H → Im K H v d → ∀ Q : St → Hp → Prop, (∀ σ', Stt K H0 G' L σ' H → Q σ' H) → g v σ H Q
end
abbrev It0 (ds : List D) (W : Hl → Prop) : List D → (Hl → Prop) → Hl → Prop := fun ds' W' N => ds' = ds ∧ W' = W ∧ N = []
section
variable {K : PySem.W.Frag} {H0 H H' : Hp} {G G' : Ga} {L L' N : Hl} {σ : St} {te ta tb tc : TE} {tt tu : TT} {ts us vs : TS} {d x y z : D} {ds : List D} {b c : Bool} {p : Po} {g : TG} {wi : TI} {P : D → Hl → Prop}
theorem Sat.seq {T : Hp} {M : Ga → Hl → Prop} {E : Ends} (s : Sat K H0 T p E) (h : ∀ G' L', M G' L' → Go K H0 G' L' us p) : Sat K H0 T { p with nx := M } { E with nx := us E } :=
  ⟨fun G L σ H m t st => h G L m T σ H E t st s, s.rt, s.bk, s.ct⟩
theorem go_seq (M : Ga → Hl → Prop) (h1 : Go K H0 G L ts { p with nx := M }) (h2 : ∀ G' L', M G' L' → Go K H0 G' L' us p) : Go K H0 G L (tSeq ts us) p := fun T σ H E t st s => h1 T σ H _ t st (s.seq h2)
theorem go_cut (M : Ga → Hl → Prop) (h1 : Go K H0 G L ts { p with nx := M }) (h2 : ∀ G' L', M G' L' → Go K H0 G' L' us p) : Go K H0 G L (tSeq ts us) p := go_seq M h1 h2
theorem go_sub (s : List.Sublist L' L) (h : Go K H0 G L' ts p) : Go K H0 G L ts p := fun T σ H E t st => h T σ H E t (st.sub s)
theorem go_imp {p' : Po} (h : Go K H0 G L ts p) (h1 : ∀ G L, p.nx G L → p'.nx G L) (h2 : ∀ d L, p.rt d L → p'.rt d L) (h3 : ∀ G L, p.bk G L → p'.bk G L) (h4 : ∀ G L, p.ct G L → p'.ct G L) : Go K H0 G L ts p' := fun T σ H E t st s =>
  h T σ H E t st ⟨fun G L σ H m => s.nx G L σ H (h1 G L m), fun d L v H m => s.rt d L v H (h2 d L m), fun G L σ H m => s.bk G L σ H (h3 G L m), fun G L σ H m => s.ct G L σ H (h4 G L m)⟩
theorem go_next (h : p.nx G L) : Go K H0 G L tNext p := fun T σ H E t st s => s.nx G L σ H h t st
theorem go_break (h : p.bk G L) : Go K H0 G L tBreak p := fun T σ H E t st s => s.bk G L σ H h t st
theorem go_cont (h : p.ct G L) : Go K H0 G L tCont p := fun T σ H E t st s => s.ct G L σ H h t st
theorem go_ret (h : EvN K H0 G L te P) (hp : ∀ d N, P d N → ∃ L', List.Sublist L' (N ++ L) ∧ p.rt d L') : Go K H0 G L (tRet te) p := fun T σ H E t st s =>
  h σ H st _ fun v H' d N m e hf hn ho i => by
    obtain ⟨L', hs, hr⟩ := hp d N m
    exact s.rt d L' v H' hr (t.trans (Same.tx e)) ((st.add e hf hn ho).hs.sub hs) i
theorem go_retP (h : EvP K H0 G L te d) (hp : p.rt d []) : Go K H0 G L (tRet te) p := fun T σ H E t st s => h σ H st _ fun v H' e i => s.rt d [] v H' hp (t.trans (Same.tx e)) ((st.same e).hs.sub (List.nil_sublist _)) i
theorem go_retM {P : D → Hl → Prop} (h : EvM K H0 G L te P) (hp : ∀ d L', P d L' → p.rt d L') : Go K H0 G L (tRet te) p := fun T σ H E t st s => h σ H st _ fun v H' d L' m t' st' i => s.rt d L' v H' (hp d L' m) (t.trans t') st'.hs i
theorem go_retN (hp : p.rt .non []) : Go K H0 G L tRetN p := fun T σ H E t st s => s.rt .non [] .non H hp t (st.hs.sub (List.nil_sublist _)) .non
theorem go_if (h : EvT K H0 G L tt b) (h1 : b = true → Go K H0 G L ts p) (h2 : b = false → Go K H0 G L us p) : Go K H0 G L (tIfS tt ts us) p := fun T σ H E t st s => h σ H st _ fun H' e => by
  cases b with
  | true => exact iteT (h1 rfl T σ H' E (t.trans (Same.tx e)) (st.same e) s)
  | false => exact iteF (h2 rfl T σ H' E (t.trans (Same.tx e)) (st.same e) s)
/-- an if whose first branch leaves -/
theorem gq_if (h : EvT K H0 G L tt b) (h1 : b = true → Go K H0 G L ts { p with nx := fun G' L' => G' = G ∧ L' = L }) (h3 : b = false → Go K H0 G L us { p with nx := fun G' L' => G' = G ∧ L' = L }) (h2 : Go K H0 G L vs p) : Go K H0 G L (tSeq (tIfS tt ts us) vs) p :=
  go_seq (fun G' L' => G' = G ∧ L' = L) (go_if h h1 h3) fun G' L' e => by obtain ⟨rfl, rfl⟩ := e; exact h2
theorem go_no : False → Go K H0 G L ts p := fun h => h.elim

/-! ### targets -/
theorem eg_name {i : Nat} : EvG K H0 G d (gName i) (G.set i (some d)) := fun L σ H v st im Q q => q _ (st.set im i)
theorem eg_two {i j : Nat} : EvG K H0 G (.tup [x, y]) (gTup K 2 (gCons (gName i) (gCons (gName j) gNil))) ((G.set i (some x)).set j (some y)) := fun L σ H v st im Q q => by
  cases im with
  | tup hq il =>
    cases il with
    | cons i1 il =>
      cases il with
      | cons i2 il =>
        cases il
        exact ⟨_, _, rfl, hq, rfl, _, _, rfl, _, _, rfl, rfl, q _ ((st.set i1 i).set i2 j)⟩
theorem eg_three {i j k : Nat} : EvG K H0 G (.tup [x, y, z]) (gTup K 3 (gCons (gName i) (gCons (gName j) (gCons (gName k) gNil)))) (((G.set i (some x)).set j (some y)).set k (some z)) := fun L σ H v st im Q q => by
  cases im with
  | tup hq il =>
    cases il with
    | cons i1 il =>
      cases il with
      | cons i2 il =>
        cases il with
        | cons i3 il =>
          cases il
          exact ⟨_, _, rfl, hq, rfl, _, _, rfl, _, _, rfl, _, _, rfl, rfl, q _ (((st.set i1 i).set i2 j).set i3 k)⟩

/-! ### assignments -/
theorem go_setN (h : EvN K H0 G L te P) (hk : ∀ d N, P d N → ∃ G', EvG K H0 G d g G' ∧ p.nx G' (N ++ L)) : Go K H0 G L (tAsg te g) p := fun T σ H E t st s =>
  h σ H st _ fun v H' d N m e hf hn ho i => by
    obtain ⟨G', hg, hn'⟩ := hk d N m
    exact hg (N ++ L) σ H' v (st.add e hf hn ho) i _ fun σ' st' => s.nx G' _ σ' H' hn' (t.trans (Same.tx e)) st'
theorem gq_setN (h : EvN K H0 G L te P) (hk : ∀ d N, P d N → ∃ G', EvG K H0 G d g G' ∧ Go K H0 G' (N ++ L) us p) : Go K H0 G L (tSeq (tAsg te g) us) p := fun T σ H E t st s =>
  h σ H st _ fun v H' d N m e hf hn ho i => by
    obtain ⟨G', hg, hn'⟩ := hk d N m
    exact hg (N ++ L) σ H' v (st.add e hf hn ho) i _ fun σ' st' => hn' T σ' H' E (t.trans (Same.tx e)) st' s
theorem gq_set {i : Nat} (h : EvP K H0 G L te d) (hk : Go K H0 (G.set i (some d)) L us p) : Go K H0 G L (tSeq (tAsg te (gName i)) us) p := fun T σ H E t st s =>
  h σ H st _ fun v H' e im => hk T _ H' E (t.trans (Same.tx e)) ((st.same e).set im i) s
theorem go_set {i : Nat} (h : EvP K H0 G L te d) (hk : p.nx (G.set i (some d)) L) : Go K H0 G L (tAsg te (gName i)) p := fun T σ H E t st s =>
  h σ H st _ fun v H' e im => s.nx _ _ _ H' hk (t.trans (Same.tx e)) ((st.same e).set im i)
theorem gq_new {i : Nat} {o : O} (h : EvN K H0 G L te (New1 o)) (hk : ∀ a, Go K H0 (G.set i (some (.ref a))) ((a, o) :: L) us p) : Go K H0 G L (tSeq (tAsg te (gName i)) us) p :=
  gq_setN h fun d N m => by obtain ⟨a, rfl, rfl⟩ := m; exact ⟨_, eg_name, hk a⟩
theorem gq_setM {i : Nat} {P : D → Hl → Prop} (h : EvM K H0 G L te P) (hk : ∀ d L', P d L' → Go K H0 (G.set i (some d)) L' us p) : Go K H0 G L (tSeq (tAsg te (gName i)) us) p := fun T σ H E t st s =>
  h σ H st _ fun v H' d L' m t' st' im => hk d L' m T _ H' E (t.trans t') (st'.set im i) s
theorem go_dropM {P : D → Hl → Prop} (h : EvM K H0 G L te P) (hk : ∀ d L', P d L' → p.nx G L') : Go K H0 G L (tDrop te) p := fun T σ H E t st s => h σ H st _ fun v H' d L' m t' st' im => s.nx _ _ _ H' (hk d L' m) (t.trans t') st'
theorem gq_dropM {P : D → Hl → Prop} (h : EvM K H0 G L te P) (hk : ∀ d L', P d L' → Go K H0 G L' us p) : Go K H0 G L (tSeq (tDrop te) us) p := fun T σ H E t st s => h σ H st _ fun v H' d L' m t' st' im => hk d L' m T _ H' E (t.trans t') st' s
theorem gq_drop (h : EvP K H0 G L te d) (hk : Go K H0 G L us p) : Go K H0 G L (tSeq (tDrop te) us) p := fun T σ H E t st s => h σ H st _ fun v H' e im => hk T _ H' E (t.trans (Same.tx e)) (st.same e) s
theorem go_drop (h : EvP K H0 G L te d) (hk : p.nx G L) : Go K H0 G L (tDrop te) p := fun T σ H E t st s => h σ H st _ fun v H' e im => s.nx _ _ _ H' hk (t.trans (Same.tx e)) (st.same e)
theorem gq_par {i j : Nat} {ta : TA} (h : EvA K H0 G L ta [x, y]) (hk : Go K H0 ((G.set i (some x)).set j (some y)) L us p) : Go K H0 G L (tSeq (tPar i j ta) us) p := fun T σ H E t st s => h σ H st _ fun vs H' e im => by
  cases im with
  | cons i1 im =>
    cases im with
    | cons i2 im =>
      cases im
      exact ⟨_, _, rfl, hk T _ H' E (t.trans (Same.tx e)) (((st.same e).set i1 i).set i2 j) s⟩
theorem go_par {i j : Nat} {ta : TA} (h : EvA K H0 G L ta [x, y]) (hk : p.nx ((G.set i (some x)).set j (some y)) L) : Go K H0 G L (tPar i j ta) p := fun T σ H E t st s => h σ H st _ fun vs H' e im => by
  cases im with
  | cons i1 im =>
    cases im with
    | cons i2 im =>
      cases im
      exact ⟨_, _, rfl, s.nx _ _ _ H' hk (t.trans (Same.tx e)) (((st.same e).set i1 i).set i2 j)⟩
theorem gq_parN {i j : Nat} {ta : TA} {P : List D → Hl → Prop} (h : EvAN K H0 G L ta P) (hk : ∀ ds N, P ds N → ∃ x y, ds = [x, y] ∧ Go K H0 ((G.set i (some x)).set j (some y)) (N ++ L) us p) : Go K H0 G L (tSeq (tPar i j ta) us) p := fun T σ H E t st s => h σ H st _ fun vs H' ds N m e hf hn ho im => by
  obtain ⟨x, y, rfl, hk⟩ := hk ds N m
  cases im with
  | cons i1 im =>
    cases im with
    | cons i2 im =>
      cases im
      exact ⟨_, _, rfl, hk T _ H' E (t.trans (Same.tx e)) (((st.add e hf hn ho).set i1 i).set i2 j) s⟩
theorem gq_aug {i : Nat} {f : Int → Int → Int} {a c : Int} (h0 : G[i]? = some (some (.int a))) (h : EvP K H0 G L te (.int c)) (hk : Go K H0 (G.set i (some (.int (f a c)))) L us p) : Go K H0 G L (tSeq (tAug i te (ipI f)) us) p := fun T σ H E t st s => by
  obtain ⟨v, hv, iv⟩ := st.vr.2 i _ h0
  cases iv
  refine ⟨_, hv, h σ H st _ fun w H' e im => ?_⟩
  cases im
  exact ⟨a, c, rfl, rfl, hk T _ H' E (t.trans (Same.tx e)) ((st.same e).set (.int _) i) s⟩
theorem go_aug {i : Nat} {f : Int → Int → Int} {a c : Int} (h0 : G[i]? = some (some (.int a))) (h : EvP K H0 G L te (.int c)) (hk : p.nx (G.set i (some (.int (f a c)))) L) : Go K H0 G L (tAug i te (ipI f)) p := fun T σ H E t st s => by
  obtain ⟨v, hv, iv⟩ := st.vr.2 i _ h0
  cases iv
  refine ⟨_, hv, h σ H st _ fun w H' e im => ?_⟩
  cases im
  exact ⟨a, c, rfl, rfl, s.nx _ _ _ H' hk (t.trans (Same.tx e)) ((st.same e).set (.int _) i)⟩

/-! ### stores -/
theorem Stt.put {k : Nat} {a : Addr} {o o' : O} {u' : HO} (h : Stt K H0 G L σ H) (hk : L[k]? = some (a, o)) (hu : Ob K H u' o') : Stt K H0 G (L.set k (a, o')) σ (upd H a u') :=
  let q := h.hs.put hk hu
  ⟨q.1, h.vr.tx q.2⟩
theorem HS.lst {a : Addr} (h : HS K H0 L H) (hm : (a, O.lst ds) ∈ L) : ∃ xs, H a = some (.lst xs) ∧ ImL K H xs ds := by
  obtain ⟨u, h1, h2⟩ := h.own _ hm
  cases u <;> first | exact h2.elim | exact ⟨_, h1, h2⟩
theorem HS.dct {a : Addr} {ks : List (Key × D)} (h : HS K H0 L H) (hm : (a, O.dct ks) ∈ L) : ∃ xs, H a = some (.dK xs) ∧ Paired (PrI K H) xs ks := by
  obtain ⟨u, h1, h2⟩ := h.own _ hm
  cases u <;> first | exact h2.elim | exact ⟨_, h1, h2⟩
theorem HS.ins {a C dx : Addr} {fs : List (Str × D)} (h : HS K H0 L H) (hm : (a, O.ins C dx fs) ∈ L) : ∃ xs, H a = some (.ins C dx xs) ∧ Paired (PrI K H) xs fs := by
  obtain ⟨u, h1, h2⟩ := h.own _ hm
  cases u <;> first | exact h2.elim | skip
  obtain ⟨rfl, rfl, h3⟩ := h2
  exact ⟨_, h1, h3⟩
/-- l.append(e) -/
theorem em_append {a : Addr} {k : Nat} (hk : L[k]? = some (a, .lst ds)) (ha : EvP K H0 G L ta (.ref a)) (h : EvP K H0 G L te d) (hz : ds.length < 100000) :
    EvM K H0 G L (tBM K "list" rAppend ta (tCons te tNil)) (fun r L' => r = .non ∧ L' = L.set k (a, .lst (ds ++ [d]))) := fun σ H st Q q =>
  ha σ H st _ fun v H1 e1 i1 => by
    cases i1
    have hm := List.mem_of_getElem? hk
    obtain ⟨xs, hx, il⟩ := (st.same e1).hs.lst hm
    refine ⟨.inl ⟨rfl, xs, SqL.of hx⟩, h σ H1 (st.same e1) _ fun w H2 e2 i2 => ?_⟩
    have il2 := il.tx (Same.tx e2)
    refine ⟨a, xs, w, rfl, rfl, e2 _ _ hx, by rw [il.length]; exact Nat.lt_of_lt_of_le hz (by decide), ?_⟩
    have pu := ((st.same e1).same e2).hs.put (u' := .lst (xs ++ [w])) (o' := .lst (ds ++ [d])) hk (il2.snoc i2)
    exact q .non _ .non _ ⟨rfl, rfl⟩ (((Same.tx e1).trans (Same.tx e2)).trans pu.2) (((st.same e1).same e2).put hk (il2.snoc i2)) .non
theorem gq_append {a : Addr} {k : Nat} (hk : L[k]? = some (a, .lst ds)) (ha : EvP K H0 G L ta (.ref a)) (h : EvP K H0 G L te d) (hz : ds.length < 100000) (hn : Go K H0 G (L.set k (a, .lst (ds ++ [d]))) us p) :
    Go K H0 G L (tSeq (tDrop (tBM K "list" rAppend ta (tCons te tNil))) us) p := gq_dropM (em_append hk ha h hz) fun _ _ e => by obtain ⟨_, rfl⟩ := e; exact hn
theorem go_append {a : Addr} {k : Nat} (hk : L[k]? = some (a, .lst ds)) (ha : EvP K H0 G L ta (.ref a)) (h : EvP K H0 G L te d) (hz : ds.length < 100000) (hn : p.nx G (L.set k (a, .lst (ds ++ [d])))) :
    Go K H0 G L (tDrop (tBM K "list" rAppend ta (tCons te tNil))) p := go_dropM (em_append hk ha h hz) fun _ _ e => by obtain ⟨_, rfl⟩ := e; exact hn
/-- l[i] = e -/
theorem ixN_of {n j : Nat} (h : j < n) : ixN n (j : Int) = some j := by
  unfold ixN
  rw [if_pos (by omega), if_pos (by omega), Int.toNat_natCast]
theorem go_setLN {a : Addr} {k : Nat} {i : Int} {j : Nat} (h : EvN K H0 G L te P) (hk : L[k]? = some (a, .lst ds)) (ho : EvP K H0 G L ta (.ref a)) (hi : EvP K H0 G L tb (.int i)) (hj : ixN ds.length i = some j)
    (hn : ∀ d N, P d N → p.nx G (N ++ L.set k (a, .lst (ds.set j d)))) : Go K H0 G L (tAsg te (gSub ta tb rSetL)) p := fun T σ H E t st s =>
  h σ H st _ fun v H1 d N m e1 hf hnd ho1 i1 => ho σ H1 (st.same e1) _ fun w H2 e2 i2 => hi σ H2 ((st.same e1).same e2) _ fun u H3 e3 i3 => by
    cases i2; cases i3
    have hm := List.mem_of_getElem? hk
    have s3 := ((st.same e1).same e2).same e3
    obtain ⟨xs, hx, il⟩ := s3.hs.lst hm
    refine ⟨a, xs, i, j, rfl, rfl, hx, by rw [il.length]; exact hj, ?_⟩
    have i1' := (i1.tx (Same.tx e2)).tx (Same.tx e3)
    have sadd := ((st.add e1 hf hnd ho1).same e2).same e3
    have hk' : (N ++ L)[N.length + k]? = some (a, .lst ds) := by rw [List.getElem?_append_right (by omega), Nat.add_sub_cancel_left]; exact hk
    have sp := sadd.put (u' := .lst (xs.set j v)) (o' := .lst (ds.set j d)) hk' (ImL.set i1' j il)
    rw [List.set_append_right _ _ (by omega), Nat.add_sub_cancel_left] at sp
    have pu := sadd.hs.put (u' := .lst (xs.set j v)) (o' := .lst (ds.set j d)) hk' (ImL.set i1' j il)
    exact s.nx _ _ _ _ (hn d N m) ((((t.trans (Same.tx e1)).trans (Same.tx e2)).trans (Same.tx e3)).trans pu.2) sp
theorem gq_setLN {a : Addr} {k : Nat} {i : Int} {j : Nat} (h : EvN K H0 G L te P) (hk : L[k]? = some (a, .lst ds)) (ho : EvP K H0 G L ta (.ref a)) (hi : EvP K H0 G L tb (.int i)) (hj : ixN ds.length i = some j)
    (hn : ∀ d N, P d N → Go K H0 G (N ++ L.set k (a, .lst (ds.set j d))) us p) : Go K H0 G L (tSeq (tAsg te (gSub ta tb rSetL)) us) p :=
  go_seq (fun G' L' => ∃ d N, P d N ∧ G' = G ∧ L' = N ++ L.set k (a, .lst (ds.set j d))) (go_setLN h hk ho hi hj fun d N m => ⟨d, N, m, rfl, rfl⟩) fun G' L' e => by obtain ⟨d, N, m, rfl, rfl⟩ := e; exact hn d N m
theorem gq_setL {a : Addr} {k : Nat} {i : Int} {j : Nat} (h : EvP K H0 G L te d) (hk : L[k]? = some (a, .lst ds)) (ho : EvP K H0 G L ta (.ref a)) (hi : EvP K H0 G L tb (.int i)) (hj : ixN ds.length i = some j)
    (hn : Go K H0 G (L.set k (a, .lst (ds.set j d))) us p) : Go K H0 G L (tSeq (tAsg te (gSub ta tb rSetL)) us) p :=
  gq_setLN (P := fun d' N => d' = d ∧ N = []) (h.nw ⟨rfl, rfl⟩) hk ho hi hj fun d N e => by obtain ⟨rfl, rfl⟩ := e; exact hn
theorem go_setL {a : Addr} {k : Nat} {i : Int} {j : Nat} (h : EvP K H0 G L te d) (hk : L[k]? = some (a, .lst ds)) (ho : EvP K H0 G L ta (.ref a)) (hi : EvP K H0 G L tb (.int i)) (hj : ixN ds.length i = some j)
    (hn : p.nx G (L.set k (a, .lst (ds.set j d)))) : Go K H0 G L (tAsg te (gSub ta tb rSetL)) p :=
  go_setLN (P := fun d' N => d' = d ∧ N = []) (h.nw ⟨rfl, rfl⟩) hk ho hi hj fun d N e => by obtain ⟨rfl, rfl⟩ := e; exact hn

/-! ### loops -/
theorem go_while {m0 : Nat} (W : Nat → Ga → Hl → Prop) (h0 : W m0 G L)
    (hs : ∀ m G L, W m G L → ∃ b, EvT K H0 G L tt b ∧ (b = true → Go K H0 G L ts { p with nx := fun G' L' => ∃ m', m' < m ∧ W m' G' L', ct := fun G' L' => ∃ m', m' < m ∧ W m' G' L', bk := p.nx }) ∧ (b = false → p.nx G L)) :
    Go K H0 G L (tWhile tt ts) p := fun T σ H E t st s => by
  refine ⟨fun m σ H => ∃ G L, W m G L ∧ TX T H ∧ Stt K H0 G L σ H, ⟨m0, G, L, h0, t, st⟩, ?_⟩
  rintro m σ H ⟨G, L, w, t, st⟩
  obtain ⟨b, hb, h1, h2⟩ := hs m G L w
  refine hb σ H st _ fun H' e => ?_
  have t' := t.trans (Same.tx e)
  cases b with
  | false => exact iteF (s.nx _ _ _ _ (h2 rfl) t' (st.same e))
  | true =>
    refine iteT ⟨fun σ' H' => ∃ m' G' L', m' < m ∧ W m' G' L' ∧ TX T H' ∧ Stt K H0 G' L' σ' H', fun σ' H' ⟨m', G', L', a, b, c⟩ => ⟨m', a, G', L', b, c⟩, ?_⟩
    exact h1 rfl T σ H' _ t' (st.same e) ⟨fun G L σ H ⟨m', a, b⟩ t st => ⟨m', G, L, a, b, t, st⟩, s.rt, s.nx, fun G L σ H ⟨m', a, b⟩ t st => ⟨m', G, L, a, b, t, st⟩⟩
theorem ItD.walk {T : Hp} {J : It} {W : Hl → Prop} (h : ItD K H0 T J ds W) : Walk J ds.length (fun H => ∃ L, TX T H ∧ HS K H0 L H ∧ W L) (fun i H v H' => Same H H' ∧ ∃ d, ds[i]? = some d ∧ Im K H' v d) :=
  ⟨fun i H hi ⟨L, t, a, b⟩ => h.go i L H t a b hi, fun H ⟨L, t, a, b⟩ => h.stop L H t a b, fun i H v H' hi ⟨L, t, a, b⟩ y => h.yld i L H v H' t a b hi y⟩
theorem go_for {P : List D → (Hl → Prop) → Hl → Prop} (hw : EvI K H0 G L wi P)
    (h : ∀ ds W N, P ds W N → ∃ I : Nat → Ga → Hl → Prop, I 0 G (N ++ L) ∧ (∀ i G L, I i G L → W L) ∧
      (∀ i d G L, ds[i]? = some d → I i G L → ∃ G', EvG K H0 G d g G' ∧ Go K H0 G' L ts { p with nx := I (i + 1), ct := I (i + 1), bk := p.nx }) ∧ ∀ G L, I ds.length G L → p.nx G L) :
    Go K H0 G L (tFor wi g ts) p := fun T σ H E t st s => by
  refine hw σ H st _ fun J H' ds W N m e hf hn ho it => ?_
  obtain ⟨I, h0, hW, hs, hd⟩ := h ds W N m
  have tt := t.trans (Same.tx e)
  refine for_it it.walk (fun i σ H => ∃ G L, I i G L ∧ TX H' H ∧ Stt K H0 G L σ H) ⟨_, _, h0, TX.refl _, st.add e hf hn ho⟩ (fun i σ H _ ⟨G, L, a, t, b⟩ => ⟨L, t, b.hs, hW i G L a⟩) ?_ (fun σ H ⟨G, L, a, t, b⟩ => s.nx _ _ _ _ (hd G L a) (tt.trans t) b)
  rintro i v σ1 H1 H2 hi ⟨G1, L1, a, t1, b⟩ ⟨e2, d, hd', im⟩
  obtain ⟨G', hg, hb⟩ := hs i d G1 L1 hd' a
  refine hg L1 σ1 H2 v (b.same e2) im _ fun σ3 st3 => ?_
  exact hb H' σ3 H2 _ (t1.trans (Same.tx e2)) st3 ⟨fun G L σ H a t b => ⟨G, L, a, t, b⟩, fun d L v H a t b i => s.rt d L v H a (tt.trans t) b i, fun G L σ H a t b => s.nx G L σ H a (tt.trans t) b, fun G L σ H a t b => ⟨G, L, a, t, b⟩⟩
/-- over what is known, nothing new -/
theorem go_for0 {W : Hl → Prop} (hw : EvI K H0 G L wi (It0 ds W)) (I : Nat → Ga → Hl → Prop) (h0 : I 0 G L) (hW : ∀ i G L, I i G L → W L)
    (hs : ∀ i d G L, ds[i]? = some d → I i G L → ∃ G', EvG K H0 G d g G' ∧ Go K H0 G' L ts { p with nx := I (i + 1), ct := I (i + 1), bk := p.nx }) (hd : ∀ G L, I ds.length G L → p.nx G L) : Go K H0 G L (tFor wi g ts) p :=
  go_for hw fun ds' W' N e => by obtain ⟨rfl, rfl, rfl⟩ := e; exact ⟨I, h0, hW, hs, hd⟩
theorem gq_for0 {W : Hl → Prop} (hw : EvI K H0 G L wi (It0 ds W)) (I : Nat → Ga → Hl → Prop) (h0 : I 0 G L) (hW : ∀ i G L, I i G L → W L)
    (hs : ∀ i d G L, ds[i]? = some d → I i G L → ∃ G', EvG K H0 G d g G' ∧ Go K H0 G' L ts { p with nx := I (i + 1), ct := I (i + 1), bk := I ds.length }) (hd : ∀ G L, I ds.length G L → Go K H0 G L us p) : Go K H0 G L (tSeq (tFor wi g ts) us) p :=
  go_seq (I ds.length) (go_for0 hw I h0 hW hs fun _ _ h => h) hd

/-! ### what is walked -/
theorem ei_list {a : Addr} (h : EvP K H0 G L te (.ref a)) (hk : Lk K H0 L a (.lst ds)) : EvI K H0 G L (iList K te) (It0 ds fun L => Lk K H0 L a (.lst ds)) := fun σ H st R q => h σ H st _ fun v H' e i => by
  cases i
  obtain ⟨xs, hx, _⟩ := hk.rdo (st.same e).hs
  refine ⟨a, rfl, ⟨xs, hx⟩, q _ H' ds _ [] ⟨rfl, rfl, rfl⟩ e (fun _ z => nomatch z) .nil Hs.nil ⟨fun i L H t s w hi => ?_, fun L H t s w => ?_, fun i L H x H' t s w hi y => ?_⟩⟩
  · obtain ⟨xs, hx, il⟩ := w.rdo s
    have : i < xs.length := by rw [il.length]; exact hi
    exact ⟨xs, xs[i], hx, List.getElem?_eq_getElem this⟩
  · obtain ⟨xs, hx, il⟩ := w.rdo s
    exact ⟨xs, hx, by rw [il.length]; exact Nat.le_refl _⟩
  · obtain ⟨xs, hx, il⟩ := w.rdo s
    obtain ⟨rfl, y⟩ := y
    obtain ⟨d, hd, im⟩ := il.get (y xs hx)
    exact ⟨Same.refl _, d, hd, im⟩
/-- over a new list -/
theorem ei_listN (h : EvN K H0 G L te (New1 (.lst ds))) : EvI K H0 G L (iList K te) (fun ds' W N => ds' = ds ∧ ∃ a, N = [(a, .lst ds)] ∧ W = fun L => Lk K H0 L a (.lst ds)) := fun σ H st R q => h σ H st _ fun v H' d N m e hf hn ho i => by
  obtain ⟨a, rfl, rfl⟩ := m
  cases i
  have hk : Lk K H0 ([(a, O.lst ds)] ++ L) a (.lst ds) := .inl (List.mem_cons_self)
  obtain ⟨xs, hx, _⟩ := hk.rdo (st.add e hf hn ho).hs
  refine ⟨a, rfl, ⟨xs, hx⟩, q _ H' ds _ _ ⟨rfl, a, rfl, rfl⟩ e hf hn ho ⟨fun i L H t s w hi => ?_, fun L H t s w => ?_, fun i L H x H' t s w hi y => ?_⟩⟩
  · obtain ⟨xs, hx, il⟩ := w.rdo s
    have : i < xs.length := by rw [il.length]; exact hi
    exact ⟨xs, xs[i], hx, List.getElem?_eq_getElem this⟩
  · obtain ⟨xs, hx, il⟩ := w.rdo s
    exact ⟨xs, hx, by rw [il.length]; exact Nat.le_refl _⟩
  · obtain ⟨xs, hx, il⟩ := w.rdo s
    obtain ⟨rfl, y⟩ := y
    obtain ⟨d, hd, im⟩ := il.get (y xs hx)
    exact ⟨Same.refl _, d, hd, im⟩
theorem ei_tup (h : EvP K H0 G L te (.tup ds)) : EvI K H0 G L (iTup K te) (It0 ds fun _ => True) := fun σ H st R q => h σ H st _ fun v H' e i => by
  cases i with
  | @tup a xs _ hx il =>
    refine ⟨a, rfl, ⟨xs, hx⟩, q _ H' ds _ [] ⟨rfl, rfl, rfl⟩ e (fun _ z => nomatch z) .nil Hs.nil ⟨fun i L H t s w hi => ?_, fun L H t s w => ?_, fun i L H x H' t s w hi y => ?_⟩⟩
    · have : i < xs.length := by rw [il.length]; exact hi
      exact ⟨xs, xs[i], SqT.tx t hx, List.getElem?_eq_getElem this⟩
    · exact ⟨xs, SqT.tx t hx, by rw [il.length]; exact Nat.le_refl _⟩
    · obtain ⟨rfl, y⟩ := y
      obtain ⟨d, hd, im⟩ := (il.tx t).get (y xs (SqT.tx t hx))
      exact ⟨Same.refl _, d, hd, im⟩
def rngD (lo : Int) (n : Nat) : List D := (List.range n).map fun (k : Nat) => D.int (lo + (k : Int))
theorem rngD_len (lo : Int) (n : Nat) : (rngD lo n).length = n := by unfold rngD; rw [List.length_map, List.length_range]
theorem rngD_get {lo : Int} {n i : Nat} (h : i < n) : (rngD lo n)[i]? = some (.int (lo + (i : Int))) := by
  unfold rngD
  rw [List.getElem?_map, List.getElem?_range h]
  rfl
theorem itr_ok {T : Hp} {lo : Int} {n : Nat} : ItD K H0 T (Itr lo n) (rngD lo n) fun _ => True :=
  ⟨fun i L H t s w hi => by rw [rngD_len] at hi; exact hi, fun L H t s w => by rw [rngD_len]; exact Nat.le_refl _, fun i L H x H' t s w hi y => by
    obtain ⟨rfl, rfl⟩ := y
    rw [rngD_len] at hi
    exact ⟨Same.refl _, _, rngD_get hi, .int _⟩⟩
theorem ei_rng1 {ta : TA} {n : Int} (h : EvA K H0 G L ta [.int n]) (h1 : -(2 ^ 62) ≤ n) (h2 : n < 2 ^ 62) : EvI K H0 G L (iRng1 ta) (It0 (rngD 0 n.toNat) fun _ => True) := fun σ H st R q => h σ H st _ fun vs H' e i => by
  cases i with
  | cons i1 i =>
    cases i; cases i1
    exact ⟨n, rfl, h1, h2, q _ H' _ _ [] ⟨rfl, rfl, rfl⟩ e (fun _ z => nomatch z) .nil Hs.nil itr_ok⟩
theorem ei_rng2 {ta : TA} {m n : Int} (h : EvA K H0 G L ta [.int m, .int n]) (h1 : -(2 ^ 62) ≤ m ∧ m < 2 ^ 62 ∧ -(2 ^ 62) ≤ n ∧ n < 2 ^ 62) : EvI K H0 G L (iRng2 ta) (It0 (rngD m (n - m).toNat) fun _ => True) := fun σ H st R q => h σ H st _ fun vs H' e i => by
  cases i with
  | cons i1 i =>
    cases i with
    | cons i2 i =>
      cases i; cases i1; cases i2
      exact ⟨m, n, rfl, h1, q _ H' _ _ [] ⟨rfl, rfl, rfl⟩ e (fun _ z => nomatch z) .nil Hs.nil itr_ok⟩
/-- range(a, b, -1) -/
def dwnD (hi : Int) (n : Nat) : List D := (List.range n).map fun (k : Nat) => D.int (hi + (k : Int) * -1)
theorem dwnD_len (lo : Int) (n : Nat) : (dwnD lo n).length = n := by unfold dwnD; rw [List.length_map, List.length_range]
theorem dwnD_get {lo : Int} {n i : Nat} (h : i < n) : (dwnD lo n)[i]? = some (.int (lo + (i : Int) * -1)) := by
  unfold dwnD
  rw [List.getElem?_map, List.getElem?_range h]
  rfl
theorem ei_rng3 {ta : TA} {m n : Int} (h : EvA K H0 G L ta [.int m, .int n, .int (-1)]) (h1 : -(2 ^ 62) ≤ m ∧ m < 2 ^ 62 ∧ -(2 ^ 62) ≤ n ∧ n < 2 ^ 62) : EvI K H0 G L (iRng3 ta) (It0 (dwnD m (m - n).toNat) fun _ => True) := fun σ H st R q => h σ H st _ fun vs H' e i => by
  cases i with
  | cons i1 i =>
    cases i with
    | cons i2 i =>
      cases i with
      | cons i3 i =>
        cases i; cases i1; cases i2; cases i3
        refine ⟨m, n, -1, (m - n).toNat, rfl, RgC.neg h1.1 h1.2.1 h1.2.2.1 h1.2.2.2, q _ H' _ _ [] ⟨rfl, rfl, rfl⟩ e (fun _ z => nomatch z) .nil Hs.nil ?_⟩
        exact ⟨fun i L H t s w hi => by rw [dwnD_len] at hi; exact hi, fun L H t s w => by rw [dwnD_len]; exact Nat.le_refl _, fun i L H x H' t s w hi y => by
          obtain ⟨rfl, rfl⟩ := y
          rw [dwnD_len] at hi
          exact ⟨Same.refl _, _, dwnD_get hi, .int _⟩⟩

/-! ### list comprehensions -/
theorem wipe1 (σ : St) (i : Nat) (v : V) : wipe ((wipe σ [i]).set i (some v)) [i] = wipe σ [i] := by
  show (((σ.set i none).set i (some v)).set i none) = σ.set i none
  rw [List.set_set, List.set_set]
theorem Vr.wipe1 {i : Nat} (h : Vr K H G σ) : Vr K H (G.set i none) (wipe σ [i]) := h.clr i none
/-- the end: the list so far is acc -/
theorem lc_main {P : List D → (Hl → Prop) → Hl → Prop} {vs : List Nat} (f : D → Bool) (v : D → D) (hw : EvI K H0 G L wi P)
    (hP : ∀ ds' W N, P ds' W N → ds' = ds ∧ (∀ Z, W (Z :: (N ++ L))) ∧ ∀ d ∈ ds, ∀ Z, ∃ G', (∀ σ H x, Stt K H0 G (Z :: (N ++ L)) σ H → Im K H x d → ∀ Q : St → Hp → Prop, (∀ σ', Stt K H0 G' (Z :: (N ++ L)) σ' H → wipe σ' vs = wipe σ vs → Q σ' H) → g x (wipe σ vs) H Q) ∧
      EvT K H0 G' (N ++ L) tt (f d) ∧ (f d = true → EvP K H0 G' (N ++ L) te (v d))) (hz : ds.length ≤ 100000) : EvN K H0 G L (tLc wi g tt te vs) (New1 (.lst ((ds.filter f).map v))) := fun σ H st Q q => by
  refine hw σ H st _ fun J H1 ds' W N m e hf hn ho it Dl hD => ?_
  obtain ⟨rfl, hW, hel⟩ := hP ds' W N m
  have st1 := st.add e hf hn ho
  refine lc_it it.walk (fun i H' => Same H1 (upd H' Dl (.lst [])) ∧ TX H1 H' ∧ Stt K H0 G ((Dl, .lst (((ds'.take i).filter f).map v)) :: (N ++ L)) σ H') ?_ ?_ ?_ ?_
  · have n1 := new1 (K := K) (u := .lst []) (o := .lst []) hD .nil
    have := st1.add n1.1 n1.2.1 n1.2.2.1 n1.2.2.2
    refine ⟨?_, Same.tx n1.1, this⟩
    rw [upd_upd]
    exact n1.1
  · exact fun i H' _ ⟨_, t, s⟩ => ⟨_, t, s.hs, hW _⟩
  · rintro i x H2 H3 hi ⟨e1, t, s⟩ ⟨e2, d, hd, im⟩
    obtain ⟨G', hg, ht, hv⟩ := hel d (List.mem_of_getElem? hd) (Dl, .lst (((ds'.take i).filter f).map v))
    have s3 := s.same e2
    have tk : ds'.take (i + 1) = ds'.take i ++ [d] := by rw [List.take_succ, hd]; rfl
    have ext : ∀ {Ha Hb : Hp}, Same H1 (upd Ha Dl (.lst [])) → Same Ha Hb → Ha Dl ≠ none → Same H1 (upd Hb Dl (.lst [])) := fun {Ha Hb} a b hne c o hc => by
      have := a c o hc
      by_cases hcd : c = Dl
      · subst hcd; rw [hD] at hc; cases hc
      · rw [upd_ne hcd] at this ⊢; exact b _ _ this
    have hne : ∀ {Hx : Hp}, Stt K H0 G ((Dl, .lst (((ds'.take i).filter f).map v)) :: (N ++ L)) σ Hx → Hx Dl ≠ none := fun {Hx} sx z => by
      obtain ⟨xs, hx, _⟩ := sx.hs.lst List.mem_cons_self
      rw [hx] at z; cases z
    refine hg σ H3 x s3 im _ fun σ' s4 hwp => ⟨hwp, ?_⟩
    refine ht.fr σ' H3 s4 _ fun H4 e4 => ?_
    cases hb : f d with
    | false =>
      refine iteF ⟨ext (ext e1 e2 (hne s)) e4 (hne s3), (t.trans (Same.tx e2)).trans (Same.tx e4), ?_⟩
      rw [tk, List.filter_append, List.filter_cons, hb]
      simp only [Bool.false_eq_true, if_false, List.filter_nil, List.append_nil]
      exact (s3.same e4)
    | true =>
      refine iteT ((hv hb).fr σ' H4 (s4.same e4) _ fun y H5 e5 i5 => ?_)
      have s5 := (s3.same e4).same e5
      obtain ⟨xs, hx, il⟩ := s5.hs.lst List.mem_cons_self
      have hlen : xs.length < sizeLine := by
        rw [il.length, List.length_map]
        have h1 := List.length_filter_le f (ds'.take i)
        have h2 := List.length_take_le i ds'
        have h3 : (ds'.take i).length ≤ i := by rw [List.length_take]; omega
        exact Nat.lt_of_lt_of_le (show _ < 100001 by omega) (by decide)
      refine ⟨xs, hx, hlen, ?_, ?_⟩
      · rw [upd_upd]
        exact ext (ext (ext e1 e2 (hne s)) e4 (hne s3)) e5 (hne (s3.same e4))
      · have pu := s5.hs.put (k := 0) (u' := .lst (xs ++ [y])) (o' := .lst (((ds'.take i).filter f).map v ++ [v d])) rfl (il.snoc i5)
        refine ⟨(((t.trans (Same.tx e2)).trans (Same.tx e4)).trans (Same.tx e5)).trans pu.2, ?_⟩
        rw [tk, List.filter_append, List.filter_cons, hb, List.map_append]
        exact ⟨pu.1, s5.vr.tx pu.2⟩
  · rintro H2 ⟨e1, t, s⟩
    rw [List.take_length] at s
    obtain ⟨u, hu, ob⟩ := s.hs.own _ List.mem_cons_self
    refine q (.ref Dl) H2 (.ref Dl) _ ⟨Dl, rfl, rfl⟩ (fun c o hc => ?_) (fun z hz => ?_) (by simp) (fun z hz => ?_) (.ref Dl)
    · have h1 := e c o hc
      have := e1 c o h1
      rw [upd_ne (ne_of_none h1 hD)] at this
      exact this
    · rw [List.mem_singleton.mp hz]; exact e.free hD
    · rw [List.mem_singleton.mp hz]; exact ⟨u, hu, ob⟩
theorem en_lc {i : Nat} {W : Hl → Prop} (f : D → Bool) (v : D → D) (hw : EvI K H0 G L wi (It0 ds W)) (hW : ∀ Z, W (Z :: L)) (ht : ∀ d ∈ ds, EvT K H0 (G.set i (some d)) L tt (f d)) (he : ∀ d ∈ ds, f d = true → EvP K H0 (G.set i (some d)) L te (v d)) (hz : ds.length ≤ 100000) :
    EvN K H0 G L (tLc wi (gName i) tt te [i]) (New1 (.lst ((ds.filter f).map v))) :=
  lc_main f v hw (fun ds' W' N m => by
    obtain ⟨rfl, rfl, rfl⟩ := m
    refine ⟨rfl, hW, fun d hd Z => ⟨G.set i (some d), fun σ H x st im Q q => q _ ?_ (wipe1 σ i x), ht d hd, he d hd⟩⟩
    show Stt K H0 (G.set i (some d)) (Z :: L) ((σ.set i none).set i (some x)) H
    rw [List.set_set]
    exact st.set im i) hz
theorem et_yes : EvT K H0 G L tYes true := fun σ H s Q q => q H (Same.refl H)
theorem en_lcY {i : Nat} {W : Hl → Prop} (v : D → D) (hw : EvI K H0 G L wi (It0 ds W)) (hW : ∀ Z, W (Z :: L)) (he : ∀ d ∈ ds, EvP K H0 (G.set i (some d)) L te (v d)) (hz : ds.length ≤ 100000) : EvN K H0 G L (tLc wi (gName i) tYes te [i]) (New1 (.lst (ds.map v))) := by
  have := en_lc (K := K) (H0 := H0) (G := G) (L := L) (i := i) (tt := tYes) (te := te) (fun _ => true) v hw hW (fun _ _ => et_yes) (fun d hd _ => he d hd) hz
  rwa [List.filter_eq_self.mpr (fun _ _ => rfl)] at this
theorem en_lcN {i : Nat} (f : D → Bool) (v : D → D) (hw : EvI K H0 G L wi (fun ds' W N => ds' = ds ∧ ∃ a, N = [(a, .lst ds)] ∧ W = fun L => Lk K H0 L a (.lst ds))) (ht : ∀ d ∈ ds, EvT K H0 (G.set i (some d)) L tt (f d)) (he : ∀ d ∈ ds, f d = true → EvP K H0 (G.set i (some d)) L te (v d)) (hz : ds.length ≤ 100000) :
    EvN K H0 G L (tLc wi (gName i) tt te [i]) (New1 (.lst ((ds.filter f).map v))) :=
  lc_main f v hw (fun ds' W' N m => by
    obtain ⟨rfl, a, rfl, rfl⟩ := m
    refine ⟨rfl, fun Z => .inl (List.mem_cons_of_mem _ List.mem_cons_self), fun d hd Z => ⟨G.set i (some d), fun σ H x st im Q q => q _ ?_ (wipe1 σ i x), (ht d hd).fr, fun hb => (he d hd hb).fr⟩⟩
    show Stt K H0 (G.set i (some d)) (Z :: ([(a, O.lst ds')] ++ L)) ((σ.set i none).set i (some x)) H
    rw [List.set_set]
    exact st.set im i) hz
end
end Fc

namespace Fc
open PySem L2

/-! ## what a def promises -/
abbrev FS := Hl → List D → (D → Hl → Prop) → Prop
abbrev Val (d : D) : D → Hl → Prop := fun d' _ => d' = d
/-- reads, writes nothing that stood -/
def spF (K : PySem.W.Frag) (S : FS) : Sp := fun vs H Q _ => ∃ Z ds R, Rds K H Z ∧ ImL K H vs ds ∧ S Z ds R ∧
  ∀ v H' d N, R d N → Same H H' → (∀ p ∈ N, H p.1 = none) → (N.map (·.1)).Nodup → Hs K H' N → Im K H' v d → Q v H'
/-- may write the objects of Y -/
abbrev FM := Hl → Hl → List D → (D → Hl → Prop) → Prop
def spM (K : PySem.W.Frag) (S : FM) : Sp := fun vs H Q _ => ∃ Y Z ds R, Hs K H Y ∧ (Y.map (·.1)).Nodup ∧ Rds K H Z ∧ (∀ p ∈ Z, p.1 ∉ Y.map (·.1)) ∧ ImL K H vs ds ∧ S Y Z ds R ∧
  ∀ v H' d N, R d N → (∀ a o, H a = some o → a ∉ Y.map (·.1) → H' a = some o) → TX H H' → (∀ p ∈ N, H p.1 = none ∨ p.1 ∈ Y.map (·.1)) → (N.map (·.1)).Nodup → Hs K H' N → Im K H' v d → Q v H'
abbrev args (N : List Str) (ds : List D) : Ga := ds.map some ++ List.replicate (N.length - ds.length) none
section
variable {K : PySem.W.Frag} {H0 H H' : Hp} {G G' : Ga} {L L' N : Hl} {σ : St} {te ta tb tc : TE} {tt tu : TT} {ts us vs : TS} {d x y z : D} {ds : List D} {b c : Bool} {p : Po} {g : TG} {wi : TI} {P R : D → Hl → Prop}
theorem start_vr {N : List Str} : ∀ {vs : List V} {ds : List D}, ImL K H vs ds → Vr K H (args N ds) (L2.start N vs) := fun {vs ds} h => by
  have hl := h.length
  refine ⟨by unfold L2.start args; simp [hl], fun i d e => ?_⟩
  unfold args at e
  unfold L2.start
  by_cases hi : i < ds.length
  · rw [List.getElem?_append_left (by simpa using hi), List.getElem?_map] at e
    rw [List.getElem?_append_left (by simpa [hl] using hi), List.getElem?_map]
    cases hd : ds[i]? with
    | none => rw [hd] at e; cases e
    | some z =>
      rw [hd] at e
      cases (Option.some.inj (Option.some.inj e))
      obtain ⟨v, hv, im⟩ := h.getD hd
      exact ⟨v, by rw [hv]; rfl, im⟩
  · rw [List.getElem?_append_right (by simpa using hi)] at e
    rw [List.getElem?_replicate] at e
    split at e <;> cases e
theorem body_go {S : FS} {N : List Str} {t : TS} (h : ∀ Z ds R H0, Rds K H0 Z → S Z ds R → Go K H0 (args N ds) [] t { nx := fun _ L => R .non L, rt := R }) {vs : List V} {Q : VK} {E : XK} (hs : spF K S vs H Q E) :
    t { nx := fun _ H' => Q .non H', rt := Q } (L2.start N vs) H := by
  obtain ⟨Z, ds, R, hz, im, s, q⟩ := hs
  refine h Z ds R H hz s H _ H _ (TX.refl H) ⟨⟨Same.refl H, Hs.nil, .nil, fun _ z => nomatch z⟩, start_vr im⟩ ⟨fun G L σ H' r t st => ?_, fun d L v H' r t st i => ?_, fun _ _ _ _ z => z.elim, fun _ _ _ _ z => z.elim⟩
  · exact q .non H' .non L r st.hs.ext st.hs.new st.hs.nd st.hs.own .non
  · exact q v H' d L r st.ext st.new st.nd st.own i
theorem body_goM {S : FM} {N : List Str} {t : TS} (h : ∀ Y Z ds R H0, (∀ p ∈ Y, H0 p.1 = none) → Rds K H0 Z → S Y Z ds R → Go K H0 (args N ds) Y t { nx := fun _ L => R .non L, rt := R }) {vs : List V} {Q : VK} {E : XK} (hs : spM K S vs H Q E) :
    t { nx := fun _ H' => Q .non H', rt := Q } (L2.start N vs) H := by
  obtain ⟨Y, Z, ds, R, hy, hn, hz, hzy, im, s, q⟩ := hs
  let H0 : Hp := fun a => if a ∈ Y.map (·.1) then none else H a
  have h0 : ∀ a, a ∉ Y.map (·.1) → H0 a = H a := fun a ha => if_neg ha
  have h1 : ∀ p ∈ Y, H0 p.1 = none := fun p hp => if_pos (List.mem_map_of_mem hp)
  have hsm : Same H0 H := fun a o e => by
    by_cases ha : a ∈ Y.map (·.1)
    · rw [show H0 a = none from if_pos ha] at e; cases e
    · rw [h0 a ha] at e; exact e
  have htup : ∀ a xs, H a = some (.tup xs) → a ∉ Y.map (·.1) := fun a xs e ha => by
    obtain ⟨p, hp, rfl⟩ := List.mem_map.mp ha
    obtain ⟨u, hu, ho⟩ := hy p hp
    rw [e] at hu; cases hu
    exact ho.notup.1 _ rfl
  have hfrz : ∀ a o u, H a = some (.frz o u) → a ∉ Y.map (·.1) := fun a o u e ha => by
    obtain ⟨p, hp, rfl⟩ := List.mem_map.mp ha
    obtain ⟨w, hw, ho⟩ := hy p hp
    rw [e] at hw; cases hw
    cases hpp : p.2 <;> rw [hpp] at ho <;> exact ho
  have htx : TX H H0 := ⟨fun a xs e => by rw [h0 a (htup a xs e)]; exact e, fun a o xs e => by rw [h0 a (hfrz a o _ e)]; exact e⟩
  have hz0 : Rds K H0 Z := fun p hp => by
    have r := hz p hp
    have hp1 := hzy p hp
    obtain ⟨a, o⟩ := p
    cases o with
    | lst es =>
      obtain ⟨xs, hx, il⟩ := r
      refine ⟨xs, ?_, il.tx htx⟩
      rcases hx with (hx | ⟨o, hx⟩) | hx
      · exact .inl (.inl (by rw [h0 a hp1]; exact hx))
      · exact .inl (.inr ⟨o, by rw [h0 a hp1]; exact hx⟩)
      · exact .inr hx
    | dct es =>
      obtain ⟨xs, hx, il⟩ := r
      exact ⟨xs, by rw [h0 a hp1]; exact hx, Paired.tx htx il⟩
    | ins C dx es =>
      obtain ⟨xs, hx, il⟩ := r
      exact ⟨xs, by rw [h0 a hp1]; exact hx, Paired.tx htx il⟩
  have fin : ∀ {v H' d L}, R d L → TX H H' → HS K H0 L H' → Im K H' v d → Q v H' := fun {v H' d L} r t st i =>
    q v H' d L r (fun a o e ha => st.ext a o (by rw [h0 a ha]; exact e)) t (fun p hp => by
      by_cases ha : p.1 ∈ Y.map (·.1)
      · exact .inr ha
      · exact .inl (by rw [← h0 _ ha]; exact st.new p hp)) st.nd st.own i
  exact h Y Z ds R H0 h1 hz0 s H _ H _ (TX.refl H) ⟨⟨hsm, hy, hn, h1⟩, start_vr im⟩ ⟨fun G L σ H' r t st => fin r t st.hs .non, fun d L v H' r t st i => fin r t st i, fun _ _ _ _ z => z.elim, fun _ _ _ _ z => z.elim⟩

/-! ### calls -/
theorem en_sp {S : FS} {Z : Hl} {E : XK} (hS : S Z ds R) (hr : ∀ p ∈ Z, Lk K H0 L p.1 p.2) {σ : St} {H : Hp} (st : Stt K H0 G L σ H) {vs : List V} (im : ImL K H vs ds) {Q : VK}
    (q : ∀ v H' d N, R d N → Same H H' → (∀ p ∈ N, H p.1 = none) → (N.map (·.1)).Nodup → Hs K H' N → Im K H' v d → Q v H') : spF K S vs H Q E :=
  ⟨Z, ds, R, fun p hp => (hr p hp).rdo st.hs, im, hS, q⟩
theorem en_call {S : FS} {Z : Hl} {E : XK} {ta : TA} (ha : EvA K H0 G L ta ds) (hS : S Z ds R) (hr : ∀ p ∈ Z, Lk K H0 L p.1 p.2) : EvN K H0 G L (tCall (spF K S) [] E ta) R := fun σ H st Q q =>
  ha σ H st _ fun vs H1 e1 i1 => by
    show spF K S (vs ++ []) H1 Q E
    rw [List.append_nil]
    exact en_sp hS hr (st.same e1) i1 fun v H' d N r e hf hn ho i => q v H' d N r (e1.trans e) (fun p hp => e1.free (hf p hp)) hn ho i
theorem noZ {φ : Addr × O → Prop} : ∀ p ∈ ([] : Hl), φ p := fun _ h => nomatch h
theorem ev_call {S : FS} {E : XK} {ta : TA} (ha : EvA K H0 G L ta ds) (hS : S [] ds (Val d)) : EvP K H0 G L (tCall (spF K S) [] E ta) d := (en_call ha hS noZ).ev
theorem ev_callR {S : FS} {Z : Hl} {E : XK} {ta : TA} (ha : EvA K H0 G L ta ds) (hS : S Z ds (Val d)) (hr : ∀ p ∈ Z, Lk K H0 L p.1 p.2) : EvP K H0 G L (tCall (spF K S) [] E ta) d := (en_call ha hS hr).ev
/-- a call with new objects among the arguments -/
theorem en_callN {S : FS} {Z : Hl} {E : XK} {ta : TA} {PA : List D → Hl → Prop} (ha : EvAN K H0 G L ta PA) (hS : ∀ ds N, PA ds N → S (N ++ Z) ds R) (hr : ∀ p ∈ Z, Lk K H0 L p.1 p.2) : EvN K H0 G L (tCall (spF K S) [] E ta) R := fun σ H st Q q =>
  ha σ H st _ fun vs H1 ds N m e1 hf hn ho i1 => by
    show spF K S (vs ++ []) H1 Q E
    rw [List.append_nil]
    refine ⟨N ++ Z, ds, R, fun p hp => ?_, i1, hS ds N m, fun v H' d N' r e hf' hn' ho' i => q v H' d N' r (e1.trans e) (fun p hp => e1.free (hf' p hp)) hn' ho' i⟩
    rcases List.mem_append.mp hp with hp | hp
    · exact ho.rdo hp
    · exact ((hr p hp).rdo st.hs).same e1
/-- o.m(..) that writes nothing -/
theorem en_meth {S : FS} {Z : Hl} {E : XK} {C a dx : Addr} {m : Str} {fs : List (Str × D)} {ta : TA} (ho : EvP K H0 G L te (.ref a)) (hk : Lk K H0 L a (.ins C dx fs)) (hm : ∀ xs : List (Str × V), xs.map (·.1) = fs.map (·.1) → xs.lookup m = none) (ha : EvA K H0 G L ta ds) (hS : S Z (.ref a :: ds) R) (hr : ∀ p ∈ Z, Lk K H0 L p.1 p.2) :
    EvN K H0 G L (tMeth C m (spF K S) [] E te ta) R := fun σ H st Q q => ho σ H st _ fun v H1 e1 i1 => by
  cases i1
  obtain ⟨xs, hx, hp⟩ := hk.rdo (st.same e1).hs
  have hkeys : xs.map (·.1) = fs.map (·.1) := by
    clear hx hm hk
    induction hp with
    | nil => rfl
    | cons r t ih => rw [List.map_cons, List.map_cons, ih, r.1]
  refine ⟨a, dx, xs, rfl, hx, hm xs hkeys, ha σ H1 (st.same e1) _ fun vs H2 e2 i2 => ?_⟩
  show spF K S (.ref a :: (vs ++ [])) H2 Q E
  rw [List.append_nil]
  exact en_sp hS hr ((st.same e1).same e2) (.cons (.ref a) i2) fun v H' d N r e hf hn ho i => q v H' d N r ((e1.trans e2).trans e) (fun p hp => (e1.trans e2).free (hf p hp)) hn ho i
theorem lookN {m : Str} {fs : List (Str × D)} (h : fs.lookup m = none) : ∀ xs : List (Str × V), xs.map (·.1) = fs.map (·.1) → xs.lookup m = none := by
  intro xs
  induction xs generalizing fs with
  | nil => intro _; rfl
  | cons q r ih =>
    intro e
    cases fs with
    | nil => cases e
    | cons q' r' =>
      rw [List.map_cons, List.map_cons] at e
      obtain ⟨e1, e2⟩ := List.cons.inj e
      obtain ⟨k, v⟩ := q
      obtain ⟨k', v'⟩ := q'
      rw [List.lookup_cons] at h ⊢
      have e1' : k = k' := e1
      subst e1'
      cases hb : (m == k) with
      | true => rw [hb] at h; cases h
      | false => rw [hb] at h; exact ih h e2
/-- o.m(..) that writes o -/
theorem em_meth {S : FM} {Z : Hl} {E : XK} {C a dx : Addr} {m : Str} {fs : List (Str × D)} {k : Nat} {ta : TA} (ho : EvP K H0 G L te (.ref a)) (hk : L[k]? = some (a, .ins C dx fs)) (hm : fs.lookup m = none) (ha : EvA K H0 G L ta ds)
    (hS : S [(a, .ins C dx fs)] Z (.ref a :: ds) R) (hr : ∀ p ∈ Z, Lk K H0 L p.1 p.2 ∧ p.1 ≠ a) (hR : ∀ d N, R d N → ∃ o' N', N = (a, o') :: N') : EvM K H0 G L (tMeth C m (spM K S) [] E te ta) (fun d L' => ∃ o' N', R d ((a, o') :: N') ∧ L' = N' ++ L.set k (a, o')) := fun σ H st Q q => ho σ H st _ fun v H1 e1 i1 => by
  cases i1
  have hmem := List.mem_of_getElem? hk
  obtain ⟨xs, hx, hp⟩ := (st.same e1).hs.ins hmem
  have hkeys : xs.map (·.1) = fs.map (·.1) := by
    clear hx hm hk hS hmem
    induction hp with
    | nil => rfl
    | cons r t ih => rw [List.map_cons, List.map_cons, ih, r.1]
  refine ⟨a, dx, xs, rfl, hx, lookN hm xs hkeys, ha σ H1 (st.same e1) _ fun vs H2 e2 i2 => ?_⟩
  show spM K S (.ref a :: (vs ++ [])) H2 Q E
  rw [List.append_nil]
  have s2 := (st.same e1).same e2
  refine ⟨_, Z, _, R, fun p hp => by rw [List.mem_singleton.mp hp]; exact s2.hs.own _ hmem, by simp, fun p hp => (hr p hp).1.rdo s2.hs, fun p hp => by simpa using (hr p hp).2, .cons (.ref a) i2, hS, fun v H' d N r e t hf hn hoN i => ?_⟩
  obtain ⟨o', N', rfl⟩ := hR d N r
  have ne : ∀ b, b ≠ a → b ∉ List.map (fun x => x.fst) [(a, O.ins C dx fs)] := fun b hb => by simpa using hb
  have a0 : H0 a = none := st.hs.new _ hmem
  have hlt : k < L.length := (List.getElem?_eq_some_iff.mp hk).1
  have hNa : ∀ p ∈ N', p.1 ≠ a := fun p hp z => by
    have := (List.nodup_cons.mp (by simpa using hn : (a :: N'.map (·.1)).Nodup)).1
    exact this (z ▸ List.mem_map_of_mem hp)
  have hNf : ∀ p ∈ N', H2 p.1 = none := fun p hp => by
    rcases hf p (List.mem_cons_of_mem _ hp) with z | z
    · exact z
    · exact absurd (by simpa using z) (hNa p hp)
  have hml : (L.set k (a, o')).map (·.1) = L.map (·.1) := by
    rw [List.map_set]
    have : (L.map (·.1))[k]? = some a := by rw [List.getElem?_map, hk]; rfl
    obtain ⟨hlt, hv⟩ := List.getElem?_eq_some_iff.mp this
    rw [← hv]
    exact List.set_getElem_self hlt
  have hnd' := (List.nodup_cons.mp (by simpa using hn : (a :: N'.map (·.1)).Nodup)).2
  refine q v H' d _ ⟨o', N', r, rfl⟩ (((Same.tx e1).trans (Same.tx e2)).trans t) ⟨⟨fun b u hb => ?_, fun p hp => ?_, ?_, fun p hp => ?_⟩, s2.vr.tx t⟩ i
  · exact e b u (s2.hs.ext b u hb) (ne b (ne_of_none hb a0))
  · rcases List.mem_append.mp hp with hp | hp
    · exact hoN p (List.mem_cons_of_mem _ hp)
    · rcases List.mem_or_eq_of_mem_set hp with hp | hp
      · by_cases hpa : p.1 = a
        · have : p.1 ∈ (L.set k (a, o')).map (·.1) := List.mem_map_of_mem ‹p ∈ L.set k (a, o')›
          obtain ⟨j, hj⟩ := List.getElem?_of_mem ‹p ∈ L.set k (a, o')›
          by_cases hjk : k = j
          · subst hjk
            rw [List.getElem?_set_self hlt] at hj
            cases hj
            exact hoN _ List.mem_cons_self
          · exfalso
            have a1 : ((L.set k (a, o')).map (·.1))[j]? = some a := by rw [List.getElem?_map, hj]; exact congrArg some hpa
            have a2 : ((L.set k (a, o')).map (·.1))[k]? = some a := by rw [List.getElem?_map, List.getElem?_set_self hlt]; rfl
            rw [hml] at a1 a2
            exact hjk (ix_inj s2.hs.nd a2 a1)
        · obtain ⟨u, hu, ob⟩ := s2.hs.own p hp
          exact ⟨u, e _ _ hu (ne _ hpa), ob.tx t⟩
      · subst hp
        exact hoN _ List.mem_cons_self
  · rw [List.map_append, List.nodup_append, hml]
    refine ⟨hnd', s2.hs.nd, fun b hb c hc => ?_⟩
    obtain ⟨p, hp, rfl⟩ := List.mem_map.mp hb
    obtain ⟨w, hw, rfl⟩ := List.mem_map.mp hc
    obtain ⟨u, hu, _⟩ := s2.hs.own w hw
    exact fun z => ne_of_none hu (hNf p hp) z.symm
  · rcases List.mem_append.mp hp with hp | hp
    · exact s2.hs.ext.free (hNf p hp)
    · have : p.1 ∈ L.map (·.1) := by rw [← hml]; exact List.mem_map_of_mem hp
      obtain ⟨w, hw, ew⟩ := List.mem_map.mp this
      rw [← ew]
      exact s2.hs.new w hw
/-- C(..) -/
theorem en_make {S : FM} {Z : Hl} {E : XK} {C : Addr} {ta : TA} (ha : EvA K H0 G L ta ds) (hS : ∀ x dx, ∃ R, S [(x, .ins C dx [])] Z (.ref x :: ds) R ∧ ∀ d N, R d N → d = .non ∧ ∃ o' N', N = (x, o') :: N' ∧ P (.ref x) N) (hr : ∀ p ∈ Z, Lk K H0 L p.1 p.2) (hZl : ∀ p ∈ Z, ∀ es, p.2 ≠ .lst es) :
    EvN K H0 G L (tMake C (spM K S) [] E ta) P := fun σ H st Q q => ha σ H st _ fun vs H1 e1 i1 x dx hx hdx hne => by
  show spM K S (.ref x :: (vs ++ [])) _ _ E
  rw [List.append_nil]
  obtain ⟨R, hS, hR⟩ := hS x dx
  have m1 : Same H1 (upd H1 dx (.own x)) := Same.new hdx
  have hx1 : (upd H1 dx (.own x)) x = none := by rw [upd_ne (Ne.symm hne)]; exact hx
  have m2 : Same H1 (upd (upd H1 dx (.own x)) x (.ins C dx [])) := m1.trans (Same.new hx1)
  have s2 := (st.same e1).same m2
  refine ⟨_, Z, _, R, fun p hp => ?_, by simp, fun p hp => (hr p hp).rdo s2.hs, fun p hp => ?_, .cons (.ref x) (i1.tx (Same.tx m2)), hS, fun v H' d N r e t hf hn ho i => ?_⟩
  · rw [List.mem_singleton.mp hp]; exact ⟨_, upd_same, rfl, rfl, .nil⟩
  · intro hm
    have hpx : p.1 = x := by simpa using hm
    have r := (hr p hp).rdo (st.same e1).hs
    rw [hpx] at r
    cases hpo : p.2 with
    | lst es => exact absurd hpo (hZl p hp es)
    | dct es =>
      rw [hpo] at r
      obtain ⟨xs, hq, _⟩ := r
      rw [hx] at hq; cases hq
    | ins C dx es =>
      rw [hpo] at r
      obtain ⟨xs, hq, _⟩ := r
      rw [hx] at hq; cases hq
  · obtain ⟨rfl, o', N', rfl, hP⟩ := hR d N r
    cases i
    have ne : ∀ b, b ≠ x → b ∉ List.map (fun z => z.fst) [(x, O.ins C dx [])] := fun b hb => by simpa using hb
    refine ⟨rfl, q (.ref x) H' (.ref x) _ hP (fun b u hb => ?_) (fun p hp => ?_) hn ho (.ref x)⟩
    · have h1 := e1 b u hb
      exact e b u (m2 b u h1) (ne b (ne_of_none h1 hx))
    · rcases hf p hp with z | z
      · exact (e1.trans m2).free z
      · rw [show p.1 = x by simpa using z]; exact e1.free hx
end
end Fc

namespace Fc
open PySem L2
section
variable {K : PySem.W.Frag} {H0 H H' : Hp} {G G' : Ga} {L L' N : Hl} {σ : St} {te ta tb tc td ty tx tv : TE} {tt tu : TT} {ts us vs : TS} {d x y z : D} {ds : List D} {b c : Bool} {p : Po} {g : TG} {wi : TI} {P R : D → Hl → Prop}

/-! ### built-ins -/
theorem ev_cb {r : List V → Hp → VK → Prop} {ta : TA} (ha : EvA K H0 G L ta ds) (hr : RcP K H0 L r ds z) : EvP K H0 G L (tCB r ta) z := fun σ H st Q q =>
  ha σ H st _ fun vs H1 e1 i1 => hr H1 vs (st.same e1).hs i1 Q fun w H2 e2 i2 => q w H2 (e1.trans e2) i2
theorem en_cb {r : List V → Hp → VK → Prop} {ta : TA} (ha : EvA K H0 G L ta ds) (hr : RcN K H0 L r ds P) : EvN K H0 G L (tCB r ta) P := fun σ H st Q q =>
  ha σ H st _ fun vs H1 e1 i1 => hr H1 vs (st.same e1).hs i1 Q fun w H2 d N p e2 hf hn ho i2 => q w H2 d N p (e1.trans e2) (fun z hz => e1.free (hf z hz)) hn ho i2
/-- of a new list -/
theorem ev_cbN {r : List V → Hp → VK → Prop} (ha : EvN K H0 G L te (New1 (.lst ds))) (hr : ∀ a, RcP K H0 ((a, O.lst ds) :: L) r [.ref a] z) : EvP K H0 G L (tCB r (tCons te tNil)) z := fun σ H st Q q =>
  ha σ H st _ fun v H1 d N m e1 hf hn ho i1 => by
    obtain ⟨a, rfl, rfl⟩ := m
    exact hr a H1 [v] (st.add e1 hf hn ho).hs (.cons i1 .nil) Q fun w H2 e2 i2 => q w H2 (e1.trans e2) i2
def rLen (K : PySem.W.Frag) : List V → Hp → VK → Prop := fun xs H Q => ∃ p ys, xs = [.ref p] ∧ (SqL K H p ys ∨ SqT K H p ys) ∧ Q (.int ys.length) H
theorem rc_lenT : RcP K H0 L (rLen K) [.tup ds] (.int (ds.length : Int)) := fun H us s i Q q => by
  cases i with
  | cons i1 i =>
    cases i
    cases i1 with
    | tup hq il => exact ⟨_, _, rfl, .inr hq, by rw [il.length]; exact q _ H (Same.refl H) (.int _)⟩
theorem rc_lenL {a : Addr} (hk : Lk K H0 L a (.lst ds)) : RcP K H0 L (rLen K) [.ref a] (.int (ds.length : Int)) := fun H us s i Q q => by
  cases i with
  | cons i1 i =>
    cases i
    cases i1
    obtain ⟨xs, hx, il⟩ := hk.rdo s
    exact ⟨_, _, rfl, .inl hx, by rw [il.length]; exact q _ H (Same.refl H) (.int _)⟩
theorem ev_lenN (ha : EvN K H0 G L te (New1 (.lst ds))) : EvP K H0 G L (tCB (rLen K) (tCons te tNil)) (.int (ds.length : Int)) := ev_cbN ha fun a => rc_lenL (.inl List.mem_cons_self)
def rTupOf (K : PySem.W.Frag) : List V → Hp → VK → Prop := fun xs H Q => ∃ p ys, xs = [.ref p] ∧ ((SqL K H p ys ∧ ∀ l, H l = none → Q (.ref l) (upd H l (.tup ys))) ∨ (SqT K H p ys ∧ Q (.ref p) H))
theorem rc_tupL {a : Addr} (hk : Lk K H0 L a (.lst ds)) : RcP K H0 L (rTupOf K) [.ref a] (.tup ds) := fun H us s i Q q => by
  cases i with
  | cons i1 i =>
    cases i
    cases i1
    obtain ⟨xs, hx, il⟩ := hk.rdo s
    exact ⟨_, _, rfl, .inl ⟨hx, fun l hl => q _ _ (Same.new hl) (.tup (SqT.of upd_same) (il.tx (Same.tx (Same.new hl))))⟩⟩
theorem ev_tupN (ha : EvN K H0 G L te (New1 (.lst ds))) : EvP K H0 G L (tCB (rTupOf K) (tCons te tNil)) (.tup ds) := ev_cbN ha fun a => rc_tupL (.inl List.mem_cons_self)
theorem rc_all {a : Addr} {bs : List Bool} (hk : Lk K H0 L a (.lst (bs.map D.bl))) : RcP K H0 L (rAll K) [.ref a] (.bl (bs.all id)) := fun H us s i Q q => by
  cases i with
  | cons i1 i =>
    cases i
    cases i1
    obtain ⟨xs, hx, il⟩ := hk.rdo s
    have e := il.bls
    subst e
    exact ⟨_, _, rfl, hx, q _ H (Same.refl H) (.bl _)⟩
theorem rc_any {a : Addr} {bs : List Bool} (hk : Lk K H0 L a (.lst (bs.map D.bl))) : RcP K H0 L (rAny K) [.ref a] (.bl (bs.any id)) := fun H us s i Q q => by
  cases i with
  | cons i1 i =>
    cases i
    cases i1
    obtain ⟨xs, hx, il⟩ := hk.rdo s
    have e := il.bls
    subst e
    exact ⟨_, _, rfl, hx, q _ H (Same.refl H) (.bl _)⟩
theorem rc_sum {a : Addr} {ns : List Int} (hk : Lk K H0 L a (.lst (ns.map D.int))) : RcP K H0 L (rSum K) [.ref a] (.int ns.sum) := fun H us s i Q q => by
  cases i with
  | cons i1 i =>
    cases i
    cases i1
    obtain ⟨xs, hx, il⟩ := hk.rdo s
    have e := il.ints
    subst e
    exact ⟨_, _, rfl, hx, q _ H (Same.refl H) (.int _)⟩
theorem ev_allN {f : D → Bool} {v : D → D} (ha : EvN K H0 G L te (New1 (.lst (ds.map v)))) (hv : ∀ d ∈ ds, v d = .bl (f d)) : EvP K H0 G L (tCB (rAll K) (tCons te tNil)) (.bl (ds.all f)) := by
  have e : ds.map v = (ds.map f).map D.bl := by rw [List.map_map]; exact List.map_congr_left fun d hd => hv d hd
  rw [e] at ha
  have := ev_cbN ha fun a => rc_all (K := K) (H0 := H0) (L := (a, O.lst ((ds.map f).map D.bl)) :: L) (.inl List.mem_cons_self)
  rwa [List.all_map] at this
theorem ev_anyN {f : D → Bool} {v : D → D} (ha : EvN K H0 G L te (New1 (.lst (ds.map v)))) (hv : ∀ d ∈ ds, v d = .bl (f d)) : EvP K H0 G L (tCB (rAny K) (tCons te tNil)) (.bl (ds.any f)) := by
  have e : ds.map v = (ds.map f).map D.bl := by rw [List.map_map]; exact List.map_congr_left fun d hd => hv d hd
  rw [e] at ha
  have := ev_cbN ha fun a => rc_any (K := K) (H0 := H0) (L := (a, O.lst ((ds.map f).map D.bl)) :: L) (.inl List.mem_cons_self)
  rwa [List.any_map] at this
def rAbs : List V → Hp → VK → Prop := fun xs H Q => ∃ i, xs = [.int i] ∧ Q (.int (if i < 0 then -i else i)) H
theorem rc_abs {i : Int} : RcP K H0 L rAbs [.int i] (.int (if i < 0 then -i else i)) := fun H us s im Q q => by
  cases im with
  | cons i1 im => cases im; cases i1; exact ⟨i, rfl, q _ H (Same.refl H) (.int _)⟩
def rInt1 : List V → Hp → VK → Prop := fun xs H Q => (∃ i, xs = [.int i] ∧ Q (.int i) H) ∨ ∃ k, xs = [.bl k] ∧ Q (.int (if k then 1 else 0)) H
theorem rc_intB : RcP K H0 L rInt1 [.bl b] (.int (if b then 1 else 0)) := fun H us s im Q q => by
  cases im with
  | cons i1 im => cases im; cases i1; exact .inr ⟨b, rfl, q _ H (Same.refl H) (.int _)⟩
/-- isinstance -/
def tyn : D → Option String
  | .non => some "NoneType" | .bl _ => some "bool" | .int _ => some "int" | .str _ => some "str" | .tup _ => some "tuple" | _ => none
theorem tyX_im {v : V} {n : String} (h : tyn d = some n) (i : Im K H v d) : TyX K H v (.type n) := by
  cases i with
  | non => cases h; exact .base .non
  | bl b => cases h; exact .base (.bl b)
  | int b => cases h; exact .base (.int b)
  | str b => cases h; exact .base (.str b)
  | ty n => cases h
  | ref a => cases h
  | tup hq il =>
    cases h
    rcases hq with (hq | ⟨o, hq⟩) | ⟨o, its, n, hk, hc, _⟩
    · exact .base (.tup hq)
    · exact .fTuple hq
    · exact .kTuple hk hc
theorem rc_isi {n m : String} (h : tyn d = some n) (hk : PySem.W.kitOne K (.type n) (.type m) = some b) : RcP K H0 L (rIsi K) [d, .ty m] (.bl b) := fun H us s im Q q => by
  cases im with
  | cons i1 im =>
    cases im with
    | cons i2 im =>
      cases im; cases i2
      exact ⟨_, _, _, _, b, rfl, .ty m, tyX_im h i1, hk, q _ H (Same.refl H) (.bl b)⟩

/-! ### instances -/
theorem Paired.look {κ : Type} [BEq κ] [LawfulBEq κ] {f : κ} : ∀ {l : List (κ × V)} {m : List (κ × D)}, Paired (PrI K H) l m → ∀ {d : D}, m.lookup f = some d → ∃ v, l.lookup f = some v ∧ Im K H v d
  | _, _, .nil, _, h => nomatch h
  | (k, v) :: l, (k', d') :: m, .cons r t, d, h => by
    obtain ⟨r1, r2⟩ := r
    have r1 : k = k' := r1
    subst r1
    rw [List.lookup_cons] at h ⊢
    cases hb : (f == k) with
    | true => rw [hb] at h; cases h; exact ⟨v, rfl, r2⟩
    | false => rw [hb] at h; exact Paired.look t h
theorem ev_fld {a C dx : Addr} {fs : List (Str × D)} {f : Str} (ho : EvP K H0 G L te (.ref a)) (hk : Lk K H0 L a (.ins C dx fs)) (c : Cls K C) (n : NoAttr K C f) (h : fs.lookup f = some d) : EvP K H0 G L (tFld K te f) d := fun σ H st Q q => ho σ H st _ fun v H1 e1 i1 => by
  cases i1
  obtain ⟨xs, hx, hp⟩ := hk.rdo (st.same e1).hs
  obtain ⟨v, hv, im⟩ := Paired.look hp h
  exact ⟨a, C, dx, xs, v, rfl, hx, c, n, hv, q v H1 e1 im⟩
def putFD (f : Str) (v : D) : List (Str × D) → List (Str × D)
  | [] => [(f, v)]
  | (g, x) :: r => if g = f then (g, v) :: r else (g, x) :: putFD f v r
theorem putF_rel {f : Str} {u : V} (i : Im K H u d) : ∀ {l : List (Str × V)} {m : List (Str × D)}, Paired (PrI K H) l m → Paired (PrI K H) (putF f u l) (putFD f d m)
  | _, _, .nil => .cons ⟨rfl, i⟩ .nil
  | (k, v) :: l, (k', d') :: m, .cons r t => by
    obtain ⟨r1, r2⟩ := r
    have r1 : k = k' := r1
    subst r1
    unfold putF putFD
    by_cases e : k = f
    · rw [if_pos e, if_pos e]; exact .cons ⟨rfl, i⟩ t
    · rw [if_neg e, if_neg e]; exact .cons ⟨rfl, r2⟩ (putF_rel i t)
theorem pr_len {κ : Type} : ∀ {l : List (κ × V)} {m : List (κ × D)}, Paired (PrI K H) l m → l.length = m.length
  | _, _, .nil => rfl
  | _, _, .cons _ t => by rw [List.length_cons, List.length_cons, pr_len t]
theorem gq_fldN {a C dx : Addr} {fs : List (Str × D)} {f : Str} {k : Nat} (hv : EvN K H0 G L tv P) (ho : EvP K H0 G L te (.ref a)) (hk : L[k]? = some (a, .ins C dx fs)) (c : Cls K C) (n : NoAttr K C f) (hl : fs.length < 1000)
    (hn : ∀ d N, P d N → Go K H0 G (N ++ L.set k (a, .ins C dx (putFD f d fs))) us p) : Go K H0 G L (tSeq (sFld K te tv f) us) p := fun T σ H E t st s => hv σ H st _ fun u H1 d N m e1 hf hnd hoN i1 => ho σ H1 (st.same e1) _ fun w H2 e2 i2 => by
  cases i2
  have s2 := (st.same e1).same e2
  obtain ⟨xs, hx, hp⟩ := s2.hs.ins (List.mem_of_getElem? hk)
  have hlen : xs.length = fs.length := pr_len hp
  refine ⟨a, C, dx, xs, rfl, hx, c, n, by rw [hlen]; exact hl, ?_⟩
  have sadd := (st.add e1 hf hnd hoN).same e2
  have hk' : (N ++ L)[N.length + k]? = some (a, .ins C dx fs) := by rw [List.getElem?_append_right (by omega), Nat.add_sub_cancel_left]; exact hk
  have ob : Ob K H2 (.ins C dx (putF f u xs)) (.ins C dx (putFD f d fs)) := ⟨rfl, rfl, putF_rel (i1.tx (Same.tx e2)) hp⟩
  have sp := sadd.put hk' ob
  have px := (sadd.hs.put hk' ob).2
  rw [List.set_append_right _ _ (by omega), Nat.add_sub_cancel_left] at sp
  exact hn d N m T _ _ E (((t.trans (Same.tx e1)).trans (Same.tx e2)).trans px) sp s
theorem gq_fld {a C dx : Addr} {fs : List (Str × D)} {f : Str} {k : Nat} (hv : EvP K H0 G L tv d) (ho : EvP K H0 G L te (.ref a)) (hk : L[k]? = some (a, .ins C dx fs)) (c : Cls K C) (n : NoAttr K C f) (hl : fs.length < 1000)
    (hn : Go K H0 G (L.set k (a, .ins C dx (putFD f d fs))) us p) : Go K H0 G L (tSeq (sFld K te tv f) us) p :=
  gq_fldN (P := fun d' N => d' = d ∧ N = []) (hv.nw ⟨rfl, rfl⟩) ho hk c n hl fun d N e => by obtain ⟨rfl, rfl⟩ := e; exact hn
theorem go_last (h : Go K H0 G L (tSeq ts tNext) p) : Go K H0 G L ts p := h
theorem go_last1 (h : p.nx G L) : Go K H0 G L tNext p := go_next h
/-- a property -/
theorem en_prop {S : FS} {Z : Hl} {E : XK} {C a dx : Addr} {fs : List (Str × D)} (ho : EvP K H0 G L te (.ref a)) (hk : Lk K H0 L a (.ins C dx fs)) (hS : S Z [.ref a] R) (hr : ∀ p ∈ Z, Lk K H0 L p.1 p.2) : EvN K H0 G L (tProp C (spF K S) [] E te) R := fun σ H st Q q => ho σ H st _ fun v H1 e1 i1 => by
  cases i1
  obtain ⟨xs, hx, hp⟩ := hk.rdo (st.same e1).hs
  exact ⟨a, dx, xs, rfl, hx, en_sp hS hr (st.same e1) (.cons (.ref a) .nil) fun v H' d N r e hf hn hoN i => q v H' d N r (e1.trans e) (fun p hp => e1.free (hf p hp)) hn hoN i⟩

/-! ### dicts -/
def valD (kvs : List (Key × D)) (k : Key) : Option D := (kvs.find? fun kv => decide (kv.1 = k)).map (·.2)
def putD (kvs : List (Key × D)) (k : Key) (v : D) : List (Key × D) :=
  if (kvs.any fun kv => decide (kv.1 = k)) = true then kvs.map (fun kv => if kv.1 = k then (kv.1, v) else kv) else kvs ++ [(k, v)]
def dropD (kvs : List (Key × D)) (k : Key) : List (Key × D) := kvs.filter fun kv => decide (kv.1 ≠ k)
theorem pr_val {k : Key} : ∀ {l : List (Key × V)} {m : List (Key × D)}, Paired (PrI K H) l m → (valV l k = none ∧ valD m k = none) ∨ ∃ v d, valV l k = some v ∧ valD m k = some d ∧ Im K H v d
  | _, _, .nil => .inl ⟨rfl, rfl⟩
  | (k1, v) :: l, (k2, d) :: m, .cons r t => by
    obtain ⟨r1, r2⟩ := r
    have r1 : k1 = k2 := r1
    subst r1
    by_cases e : k1 = k
    · refine .inr ⟨v, d, valV_pos e, ?_, r2⟩
      simp [valD, List.find?_cons, e]
    · have h1 : valV ((k1, v) :: l) k = valV l k := valV_neg e
      have h2 : valD ((k1, d) :: m) k = valD m k := by simp [valD, List.find?_cons, e]
      rw [h1, h2]
      exact pr_val t
theorem pr_any {k : Key} : ∀ {l : List (Key × V)} {m : List (Key × D)}, Paired (PrI K H) l m → (l.any fun kv => decide (kv.1 = k)) = m.any fun kv => decide (kv.1 = k)
  | _, _, .nil => rfl
  | _, _, .cons r t => by rw [List.any_cons, List.any_cons, pr_any t, r.1]
theorem pr_map {k : Key} {u : V} (i : Im K H u d) : ∀ {l : List (Key × V)} {m : List (Key × D)}, Paired (PrI K H) l m → Paired (PrI K H) (l.map fun kv => if kv.1 = k then (kv.1, u) else kv) (m.map fun kv => if kv.1 = k then (kv.1, d) else kv)
  | _, _, .nil => .nil
  | (k1, v) :: l, (k2, d2) :: m, .cons r t => by
    obtain ⟨r1, r2⟩ := r
    have r1 : k1 = k2 := r1
    subst r1
    rw [List.map_cons, List.map_cons]
    refine .cons ?_ (pr_map i t)
    by_cases e : k1 = k
    · rw [if_pos e, if_pos e]; exact ⟨rfl, i⟩
    · rw [if_neg e, if_neg e]; exact ⟨rfl, r2⟩
theorem pr_append {κ : Type} : ∀ {l l2 : List (κ × V)} {m m2 : List (κ × D)}, Paired (PrI K H) l m → Paired (PrI K H) l2 m2 → Paired (PrI K H) (l ++ l2) (m ++ m2)
  | _, _, _, _, .nil, s => s
  | _, _, _, _, .cons r t, s => .cons r (pr_append t s)
theorem pr_put {k : Key} {u : V} (i : Im K H u d) {l : List (Key × V)} {m : List (Key × D)} (h : Paired (PrI K H) l m) : Paired (PrI K H) (putK l k u) (putD m k d) := by
  unfold putK putD
  rw [pr_any h]
  split
  · exact pr_map i h
  · exact pr_append h (.cons ⟨rfl, i⟩ .nil)
theorem pr_drop {k : Key} : ∀ {l : List (Key × V)} {m : List (Key × D)}, Paired (PrI K H) l m → Paired (PrI K H) (dropK l k) (dropD m k)
  | _, _, .nil => .nil
  | (k1, v) :: l, (k2, d2) :: m, .cons r t => by
    obtain ⟨r1, r2⟩ := r
    have r1 : k1 = k2 := r1
    subst r1
    have ih := pr_drop (k := k) t
    unfold dropK dropD at ih ⊢
    rw [List.filter_cons, List.filter_cons]
    by_cases e : k1 = k
    · simpa [e] using ih
    · simp only [e, ne_eq, not_false_eq_true, decide_true, if_true]
      exact .cons ⟨rfl, r2⟩ ih
theorem ev_get2 {a : Addr} {ks : List (Key × D)} {i : Int} {o : D} (hd : EvP K H0 G L td (.ref a)) (hk : Lk K H0 L a (.dct ks)) (hy : EvP K H0 G L ty (.int i)) (hx : EvP K H0 G L tx d) (ho : (valD ks (.inl i)).getD d = o) : EvP K H0 G L (tDGet2 td ty tx) o := fun σ H st Q q => hd σ H st _ fun v H1 e1 i1 => by
  cases i1
  obtain ⟨kv, hkv, hp⟩ := hk.rdo (st.same e1).hs
  refine ⟨a, rfl, .inl ⟨kv, .inl hkv⟩, hy σ H1 (st.same e1) _ fun w H2 e2 i2 => hx σ H2 ((st.same e1).same e2) _ fun u H3 e3 i3 => ?_⟩
  cases i2
  obtain ⟨kv3, hkv3, hp3⟩ := hk.rdo (((st.same e1).same e2).same e3).hs
  refine ⟨_, .inl ⟨kv3, .inl i, .inl hkv3, rfl, rfl⟩, ?_⟩
  have e := (e1.trans e2).trans e3
  rcases pr_val (k := .inl i) hp3 with ⟨n1, n2⟩ | ⟨v, d', n1, n2, im⟩
  · rw [n1]; rw [n2] at ho; subst ho; exact q u H3 e i3
  · rw [n1]; rw [n2] at ho; subst ho; exact q v H3 e im
theorem ev_din {a : Addr} {ks : List (Key × D)} {i : Int} (hd : EvP K H0 G L td (.ref a)) (hk : Lk K H0 L a (.dct ks)) (hy : EvP K H0 G L ty (.int i)) : EvP K H0 G L (tDIn ty td) (.bl (valD ks (.inl i)).isSome) := fun σ H st Q q => hy σ H st _ fun w H1 e1 i1 => hd σ H1 (st.same e1) _ fun v H2 e2 i2 => by
  cases i1; cases i2
  obtain ⟨kv, hkv, hp⟩ := hk.rdo ((st.same e1).same e2).hs
  refine ⟨a, _, rfl, .inl ⟨kv, .inl i, .inl hkv, rfl, rfl⟩, ?_⟩
  have : (valV kv (.inl i)).isSome = (valD ks (.inl i)).isSome := by
    rcases pr_val (k := .inl i) hp with ⟨n1, n2⟩ | ⟨v, d', n1, n2, im⟩ <;> rw [n1, n2] <;> rfl
  rw [this]
  exact q _ H2 (e1.trans e2) (.bl _)
/-- d[k] = v -/
theorem gq_dput {a : Addr} {ks : List (Key × D)} {i : Int} {k : Nat} (hv : EvP K H0 G L tv d) (hd : EvP K H0 G L td (.ref a)) (hy : EvP K H0 G L ty (.int i)) (hk : L[k]? = some (a, .dct ks)) (hz : ks.length < 100000)
    (hn : Go K H0 G (L.set k (a, .dct (putD ks (.inl i) d))) us p) : Go K H0 G L (tSeq (sDPut td ty tv) us) p := fun T σ H E t st s => hv σ H st _ fun u H1 e1 i1 => hd σ H1 (st.same e1) _ fun w H2 e2 i2 => hy σ H2 ((st.same e1).same e2) _ fun r H3 e3 i3 => by
  cases i2; cases i3
  have s3 := ((st.same e1).same e2).same e3
  obtain ⟨xs, hx, hp⟩ := s3.hs.dct (List.mem_of_getElem? hk)
  refine ⟨a, _, rfl, .inl ⟨xs, .inl i, hx, rfl, by rw [pr_len hp]; exact Nat.lt_of_lt_of_le hz (by decide), rfl⟩, ?_⟩
  have ob : Ob K H3 (.dK (putK xs (.inl i) u)) (.dct (putD ks (.inl i) d)) := pr_put ((i1.tx (Same.tx e2)).tx (Same.tx e3)) hp
  exact hn T _ _ E ((((t.trans (Same.tx e1)).trans (Same.tx e2)).trans (Same.tx e3)).trans (s3.hs.put hk ob).2) (s3.put hk ob) s
/-- d.pop(k), there -/
theorem em_dpop {a : Addr} {ks : List (Key × D)} {i : Int} {k : Nat} (hd : EvP K H0 G L td (.ref a)) (hy : EvP K H0 G L ty (.int i)) (hk : L[k]? = some (a, .dct ks)) (hv : valD ks (.inl i) = some d) :
    EvM K H0 G L (tDPop1 td ty) (fun r L' => r = d ∧ L' = L.set k (a, .dct (dropD ks (.inl i)))) := fun σ H st Q q => hd σ H st _ fun w H1 e1 i1 => by
  cases i1
  have hm := List.mem_of_getElem? hk
  obtain ⟨x1, hx1, _⟩ := (st.same e1).hs.dct hm
  refine ⟨a, rfl, .inl ⟨x1, .inl hx1⟩, hy σ H1 (st.same e1) _ fun u H2 e2 i2 => ?_⟩
  cases i2
  have s2 := (st.same e1).same e2
  obtain ⟨xs, hx, hp⟩ := s2.hs.dct hm
  rcases pr_val (k := .inl i) hp with ⟨n1, n2⟩ | ⟨v, d', n1, n2, im⟩
  · rw [n2] at hv; cases hv
  · rw [n2] at hv; cases hv
    have ob : Ob K H2 (.dK (dropK xs (.inl i))) (.dct (dropD ks (.inl i))) := pr_drop hp
    have px := (s2.hs.put hk ob).2
    exact ⟨xs, .inl i, v, hx, rfl, n1, q v _ d _ ⟨rfl, rfl⟩ (((Same.tx e1).trans (Same.tx e2)).trans px) (s2.put hk ob) (im.tx px)⟩
/-- dict(d) -/
def rDictOf : List V → Hp → VK → Prop := fun xs H Q => ∃ (a : Addr) (kvs : List (Key × V)), xs = [.ref a] ∧ Rd H a (.dK kvs) ∧ ∀ p, H p = none → Q (.ref p) (upd H p (.dK kvs))
theorem rc_dict {a : Addr} {ks : List (Key × D)} (hk : Lk K H0 L a (.dct ks)) : RcN K H0 L rDictOf [.ref a] (New1 (.dct ks)) := fun H us s i Q q => by
  cases i with
  | cons i1 i =>
    cases i; cases i1
    obtain ⟨xs, hx, hp⟩ := hk.rdo s
    refine ⟨a, xs, rfl, .inl hx, fun p hpn => ?_⟩
    obtain ⟨a1, a2, a3, a4⟩ := new1 (K := K) (u := .dK xs) (o := .dct ks) hpn hp
    exact q _ _ (.ref p) [(p, .dct ks)] ⟨p, rfl, rfl⟩ a1 a2 a3 a4 (.ref p)
end
end Fc

/-! zip and enumerate over lists and tuples in any mix. -/
namespace Fc
open PySem PySem.Spec PyProof.Rows L2
/-- a list (true) or a tuple (false) -/
def SqB (k : Bool) (K : PySem.W.Frag) (H : Hp) (a : Addr) (xs : List V) : Prop := match k with | true => SqL K H a xs | false => SqT K H a xs
def ItB (k : Bool) (h : Heap) (it a : Addr) (i : Nat) : Prop := match k with | true => h.IsListIter it a i | false => h.IsTupleIter it a i
def HoB (k : Bool) (h : Heap) (a : Addr) (us : Array Value) : Prop := match k with | true => h.IsList a us | false => h.IsTuple a us
def obB (k : Bool) (a : Addr) : Obj := match k with | true => { cls := .type "list_iterator", data := .fields #[.ref a, .int 0 0] } | false => { cls := .type "tuple_iterator", data := .fields #[.ref a, .int 0 0] }
section
variable {X : Cx} {pins : List (Addr × Obj)} {σ : L2.St} {H : Hp} {s : Shared} {a it : Addr} {xs ys : List V} {k : Bool}
theorem sqB_at (I : Inv X pins σ H s) (h : SqB k X.K H a xs) : ∃ its : List Value, Vals xs its ∧ HoB k s.heap a its.toArray := by
  cases k with
  | true => obtain ⟨its, r, p, _⟩ := I.list h; exact ⟨its, r, p.isList⟩
  | false => obtain ⟨its, r, p, _⟩ := I.tuple h; exact ⟨its, r, p⟩
theorem sqB_inj (I : Inv X pins σ H s) (h : SqB k X.K H a xs) (h' : SqB k X.K H a ys) : xs = ys := by
  cases k with
  | true => exact I.list_inj h h'
  | false => exact I.tuple_inj h h'
theorem itB_obj {h : Heap} {i : Nat} (e : ItB k h it a i) : ∃ o, h.get? it = some o ∧ ∀ v, o.data ≠ .cell v := by
  cases k with
  | true => obtain ⟨o, ho, _, hd⟩ := e; exact ⟨o, ho, fun v q => by rw [hd] at q; cases q⟩
  | false => obtain ⟨o, ho, _, hd⟩ := e; exact ⟨o, ho, fun v q => by rw [hd] at q; cases q⟩
theorem itB_at {h h' : Heap} {i : Nat} (e : ItB k h it a i) (q : ∀ o, h.get? it = some o → h'.get? it = some o) : ItB k h' it a i := by
  cases k with
  | true => exact Heap.IsListIter.at e q
  | false => exact Heap.IsTupleIter.at e q
theorem hoB_lt {h : Heap} {us : Array Value} (e : HoB k h a us) : a < h.objs.size := by
  cases k with
  | true => obtain ⟨o, ho, _⟩ := e; exact Heap.lt_size ho
  | false => obtain ⟨o, ho, _⟩ := e; exact Heap.lt_size ho
theorem drawB {prog : Program} {w : World} {A : Around} (hh : A.handled = none) (hne : a ≠ it) (us : Array Value) :
    Draws prog w A it [it, a] us.size (fun i v => us[i]? = some v) (fun i h => ItB k h it a i ∧ HoB k h a us) := by
  cases k with
  | true => exact Draws.list hh it a hne us
  | false => exact Draws.tuple hh it a hne us
theorem beginB (us : Array Value) : Begins (.ref a) (obB k a) (fun h => HoB k h a us) := by
  cases k with
  | true => exact begins_list a us
  | false => exact begins_tuple a us
theorem startB {h : Heap} (e : h.get? it = some (obB k a)) : ItB k h it a 0 := by
  cases k with
  | true => exact ⟨_, e, rfl, rfl⟩
  | false => exact ⟨_, e, rfl, rfl⟩
end
theorem handled_in1 {A : Around} (h : A.handled = none) : A.in1.handled = none := h

/-! ### zip -/
def ItZ2 (K : PySem.W.Frag) (k l : Bool) (a b : Addr) : It where
  go := fun i H => ∃ (xs ys : List V) (x y : V), SqB k K H a xs ∧ SqB l K H b ys ∧ xs[i]? = some x ∧ ys[i]? = some y
  yld := fun i H v H' => ∃ T x y, v = .ref T ∧ H T = none ∧ H' = upd H T (.tup [x, y]) ∧ (∀ xs, SqB k K H a xs → xs[i]? = some x) ∧ ∀ ys, SqB l K H b ys → ys[i]? = some y
  stop := fun i H => ∃ xs ys : List V, SqB k K H a xs ∧ SqB l K H b ys ∧ min xs.length ys.length = i
/-- the state of a zip at turn i -/
def stZ (k l : Bool) (a b z TI TO i1 i2 : Addr) (i : Nat) (h : Heap) : Prop := IsZip h z TI TO .none ∧ IsTupOf2 h TI (.ref i1) (.ref i2) ∧ (∃ x y, IsTupOf2 h TO x y) ∧ ItB k h i1 a i ∧ ItB l h i2 b i
theorem four_of {z TI TO i1 i2 c : Addr} (h : c ∈ [z, TO, i1, i2]) : c ∈ [z, TI, TO, i1, i2] := by
  simp only [List.mem_cons, List.not_mem_nil, or_false] at h ⊢
  rcases h with h | h | h | h
  · exact .inl h
  · exact .inr (.inr (.inl h))
  · exact .inr (.inr (.inr (.inl h)))
  · exact .inr (.inr (.inr (.inr h)))
theorem turn_Z2 {P : Program} {w : World} {K : PySem.W.Frag} {elts : List Expr} {kk : Nat} {tpos : Pos} {k l : Bool} {a b z TI TO i1 i2 : Addr} (S : ZipSep2 z TI TO i1 i2 [i1, a] [i2, b]) (ha : a ≠ i1) (hb : b ≠ i2) :
    Turn P w K (.Tuple elts kk tpos) (ItZ2 K k l a b) [z, TI, TO, i1, i2] z (stZ k l a b z TI TO i1 i2) where
  mem := List.mem_cons_self
  obj := fun i h st c hc => by
    obtain ⟨hz, hTI, ⟨x, y, hTO⟩, h1, h2⟩ := st
    simp only [List.mem_cons, List.not_mem_nil, or_false] at hc
    rcases hc with rfl | rfl | rfl | rfl | rfl
    · exact ⟨_, hz, fun v q => nomatch q⟩
    · exact ⟨_, hTI, fun v q => nomatch q⟩
    · exact ⟨_, hTO, fun v q => nomatch q⟩
    · exact itB_obj h1
    · exact itB_obj h2
  keep := fun i h h' st q => by
    obtain ⟨hz, hTI, ⟨x, y, hTO⟩, h1, h2⟩ := st
    exact ⟨q z (by simp) _ hz, q TI (by simp) _ hTI, ⟨x, y, q TO (by simp) _ hTO⟩, itB_at h1 (q i1 (by simp)), itB_at h2 (q i2 (by simp))⟩
  item := by
    intro X hP hw hK hc i pins s σ H E I hf st hg
    subst hP hw hK
    obtain ⟨hz, hTI, hTO, h1, h2⟩ := st
    obtain ⟨xs, ys, x, y, hqx, hqy, hx, hy⟩ := hg
    obtain ⟨us, rx, px⟩ := sqB_at I hqx
    obtain ⟨vs, ry, py⟩ := sqB_at I hqy
    obtain ⟨u, hu, ru⟩ := rx.get hx
    obtain ⟨v, hv, rv⟩ := ry.get hy
    have hh := handled_in1 (I.ok.hd hc)
    have GO := GoesN.zip2 (prog := X.prog) (w := X.w) (A := X.A) (elts := elts) (x1 := kk) (pos := tpos) S (drawB (k := k) hh ha us.toArray) (drawB (k := l) hh hb vs.toArray)
    have hi1 : i < us.toArray.size := by rw [List.size_toArray]; exact (List.getElem?_eq_some_iff.mp hu).1
    have hi2 : i < vs.toArray.size := by rw [List.size_toArray]; exact (List.getElem?_eq_some_iff.mp hv).1
    refine wpAny_mono (GO.goes i s (fun u' s2 => ∃ x' H', Inv X pins σ H' s2 ∧ RelV x' u' ∧ (ItZ2 X.K k l a b).yld i H x' H' ∧ stZ k l a b z TI TO i1 i2 (i + 1) s2.heap ∧ ∀ c ∈ [z, TI, TO, i1, i2], H' c = none) E (by omega) ⟨hz, hTI, hTO, ⟨h1, px⟩, ⟨h2, py⟩⟩ fun v' h' tk hY st' hk htk => ?_) (fun r s1 q => q) fun _ _ q => q
    obtain ⟨T, u2, v2, rfl, hT, e1, e2, hTt⟩ := hY
    have e1' : u2 = u := by rw [List.getElem?_toArray, hu] at e1; exact (Option.some.inj e1).symm
    have e2' : v2 = v := by rw [List.getElem?_toArray, hv] at e2; exact (Option.some.inj e2).symm
    subst e1' e2'
    have new : ObjOk X.prog X.w (upd H T (.tup [x, y])) h' T (.tup [x, y]) := ⟨by show 2 ≤ sizeLine; decide, [u2, v2], .cons ru (.cons rv .nil), hTt⟩
    have hn : H T = none := I.hok.fresh hT
    have hlt : ∀ c ∈ [z, TI, TO, i1, i2], c < s.heap.objs.size := fun c hcm => by
      simp only [List.mem_cons, List.not_mem_nil, or_false] at hcm
      rcases hcm with rfl | rfl | rfl | rfl | rfl
      · exact Heap.lt_size hz
      · exact Heap.lt_size hTI
      · obtain ⟨_, _, q⟩ := hTO; exact Heap.lt_size q
      · obtain ⟨_, q, _⟩ := itB_obj h1; exact Heap.lt_size q
      · obtain ⟨_, q, _⟩ := itB_obj h2; exact Heap.lt_size q
    refine ⟨.ref T, _, I.turnedNew (t' := tk) (ch := [z, TO, i1, i2]) hk (fun c hcm => hf c (four_of hcm)) hT new, rfl, ⟨T, x, y, rfl, hn, rfl, fun zs hzs => by rw [sqB_inj I hzs hqx]; exact hx, fun zs hzs => by rw [sqB_inj I hzs hqy]; exact hy⟩, ⟨st'.1, st'.2.1, st'.2.2.1, st'.2.2.2.1.1, st'.2.2.2.2.1⟩, fun c hcm => ?_⟩
    rw [upd_ne (Nat.ne_of_lt (Nat.lt_of_lt_of_le (hlt c hcm) hT))]
    exact (hf c hcm).1
  done := by
    intro X hP hw hK hc i pins s σ H E I hf st hg
    subst hP hw hK
    obtain ⟨hz, hTI, hTO, h1, h2⟩ := st
    obtain ⟨xs, ys, hqx, hqy, hend⟩ := hg
    obtain ⟨us, rx, px⟩ := sqB_at I hqx
    obtain ⟨vs, ry, py⟩ := sqB_at I hqy
    have hh := handled_in1 (I.ok.hd hc)
    have GO := GoesN.zip2 (prog := X.prog) (w := X.w) (A := X.A) (elts := elts) (x1 := kk) (pos := tpos) S (drawB (k := k) hh ha us.toArray) (drawB (k := l) hh hb vs.toArray)
    have hn : min us.toArray.size vs.toArray.size = i := by rw [List.size_toArray, List.size_toArray, ← rx.length, ← ry.length]; exact hend
    refine GO.stops s (fun s1 => Inv X pins σ H s1) E (by rw [hn]; exact ⟨hz, hTI, hTO, ⟨h1, px⟩, ⟨h2, py⟩⟩) fun h' tk hk _ => ?_
    exact I.turnedL (t' := tk) (ch := [z, TO, i1, i2]) hk fun c hcm => hf c (four_of hcm)
  self := fun A i s Q E st h => wpAny_pyIter_zip st.1 h

def iZip2 (K : PySem.W.Frag) (ta : TA) : TI := fun σ H R => ta σ H fun vs H1 => ∃ k l a b xs ys, vs = [.ref a, .ref b] ∧ SqB k K H1 a xs ∧ SqB l K H1 b ys ∧ R (ItZ2 K k l a b) H1
theorem pi_zip2 {X : Cx} {e e2 : Expr} {ta : TA} {p pos tpos : Pos} {elts : List Expr} {kk : Nat} (hg : Gl X "zip") (hm : X.mg "zip" = none) (ha : PA X [e, e2] ta)
    (hs : starEach [e, e2] X.env = (false, eval e X.env) :: starEach [e2] X.env := by rfl) (hpl : (backTo pos (starEach [e2] X.env)).any (·.1) = false := by rfl) :
    PI X (.Tuple elts kk tpos) (.Call (.Name "zip" p) [e, e2] [] pos) (iZip2 X.K ta) := by
  refine ⟨fun pins s σ H R I h => ?_⟩
  refine Call_ (ld_blt I hg hm PyProof.Rows.boot_zip (PyProof.Rows.callWith_type1 (thn (ha.run pos pins s σ H _ I h) fun us s1 ⟨vs, H1, I1, r1, q1⟩ => ?_) hs hpl))
  obtain ⟨k, l, a, b, xs, ys, rfl, hqx, hqy, q⟩ := q1
  obtain ⟨u1, u2, rfl, ru1, ru2⟩ := vals2 r1
  cases ru1
  cases ru2
  obtain ⟨its, rv, p1⟩ := sqB_at I1 hqx
  obtain ⟨its2, rv2, p2⟩ := sqB_at I1 hqy
  have l1 := hoB_lt p1
  have l2 := hoB_lt p2
  refine zip_begins2 (beginB (k := k) its.toArray) (beginB (k := l) its2.toArray) p1 p2 fun h' hz hTI hTO h1 h2 hsz hk => wpAny_pyIter_zip hz ?_
  have I2 : Inv X pins σ H1 { s1 with heap := h' } := I1.kept (t' := s1.toks) hk
  generalize hn : s1.heap.objs.size = n at *
  have na : ∀ j, (n : Nat) + j ≠ a := fun j => Nat.ne_of_gt (Nat.lt_of_lt_of_le l1 (Nat.le_add_right _ _))
  have nb : ∀ j, (n : Nat) + j ≠ b := fun j => Nat.ne_of_gt (Nat.lt_of_lt_of_le l2 (Nat.le_add_right _ _))
  have ne : ∀ i j, i ≠ j → (n : Nat) + i ≠ n + j := fun i j h z => by omega
  have na0 : (n : Nat) ≠ a := Nat.ne_of_gt l1
  have nb0 : (n : Nat) ≠ b := Nat.ne_of_gt l2
  have ne0 : ∀ j, 0 < j → (n : Nat) + j ≠ n := fun j h z => by omega
  have S : ZipSep2 (n + 4) (n + 2) (n + 3) n (n + 1) [n, a] [n + 1, b] := by
    refine ⟨ne 2 4 (by decide), ne 3 4 (by decide), ne 2 3 (by decide), ne0 2 (by decide), List.mem_cons_self, ?_, ?_, ne 2 1 (by decide), List.mem_cons_self, ?_, ?_, ?_, ?_⟩
    · simp only [List.mem_cons, List.not_mem_nil, or_false, not_or]; exact ⟨ne0 4 (by decide), na 4⟩
    · simp only [List.mem_cons, List.not_mem_nil, or_false, not_or]; exact ⟨ne0 3 (by decide), na 3⟩
    · simp only [List.mem_cons, List.not_mem_nil, or_false, not_or]; exact ⟨ne 4 1 (by decide), nb 4⟩
    · simp only [List.mem_cons, List.not_mem_nil, or_false, not_or]; exact ⟨ne 3 1 (by decide), nb 3⟩
    · simp only [List.mem_cons, List.not_mem_nil, or_false, not_or]; exact ⟨(ne0 1 (by decide)).symm, nb0⟩
    · simp only [List.mem_cons, List.not_mem_nil, or_false, not_or]; exact ⟨ne0 1 (by decide), na 1⟩
  refine ⟨n + 4, [n + 4, n + 2, n + 3, n, n + 1], _, _, H1, rfl, I2, turn_Z2 S na0.symm (nb 1).symm, ⟨hz, hTI, ⟨_, _, hTO⟩, startB h1, startB h2⟩, fun c hcm => ?_, q⟩
  have hle : s1.heap.objs.size ≤ c := by
    rw [hn]
    simp only [List.mem_cons, List.not_mem_nil, or_false] at hcm
    rcases hcm with rfl | rfl | rfl | rfl | rfl
    · exact Nat.le_add_right _ _
    · exact Nat.le_add_right _ _
    · exact Nat.le_add_right _ _
    · exact Nat.le_refl _
    · exact Nat.le_add_right _ _
  exact I1.fpOk hle (I1.hok.fresh hle)
end Fc

namespace Fc
open PySem PySem.Spec PyProof.Rows L2
/-! ### enumerate -/
def ItE2 (K : PySem.W.Frag) (k : Bool) (a : Addr) : It where
  go := fun i H => ∃ (xs : List V) (x : V), SqB k K H a xs ∧ xs[i]? = some x
  yld := fun i H v H' => ∃ T x, v = .ref T ∧ H T = none ∧ H' = upd H T (.tup [.int (i : Int), x]) ∧ ∀ xs, SqB k K H a xs → xs[i]? = some x
  stop := fun i H => ∃ xs : List V, SqB k K H a xs ∧ xs.length = i
def stE (k : Bool) (a e it : Addr) (i : Nat) (h : Heap) : Prop := (∃ old, IsEnum h e it ((0 : Int) + (i : Int)) old) ∧ ItB k h it a i
theorem turn_E2 {P : Program} {w : World} {K : PySem.W.Frag} {elts : List Expr} {kk : Nat} {tpos : Pos} {k : Bool} {a e it : Addr} (hei : e ≠ it) (hea : e ≠ a) (hai : a ≠ it) :
    Turn P w K (.Tuple elts kk tpos) (ItE2 K k a) [e, it] e (stE k a e it) where
  mem := List.mem_cons_self
  obj := fun i h st c hc => by
    obtain ⟨⟨old, he⟩, hi⟩ := st
    simp only [List.mem_cons, List.not_mem_nil, or_false] at hc
    rcases hc with rfl | rfl
    · exact ⟨_, he, fun v q => nomatch q⟩
    · exact itB_obj hi
  keep := fun i h h' st q => let ⟨⟨old, he⟩, hi⟩ := st; ⟨⟨old, q e (by simp) _ he⟩, itB_at hi (q it (by simp))⟩
  item := by
    intro X hP hw hK hc i pins s σ H E I hf st hg
    subst hP hw hK
    obtain ⟨he, h1⟩ := st
    obtain ⟨xs, x, hqx, hx⟩ := hg
    obtain ⟨us, rx, px⟩ := sqB_at I hqx
    obtain ⟨u, hu, ru⟩ := rx.get hx
    have hh := handled_in1 (I.ok.hd hc)
    have GO := GoesN.enumFrom (prog := X.prog) (w := X.w) (A := X.A) (elts := elts) (x1 := kk) (pos := tpos) 0 (drawB (k := k) hh hai us.toArray) e hei (by simp only [List.mem_cons, List.not_mem_nil, or_false, not_or]; exact ⟨hei, hea⟩) List.mem_cons_self
    have hi1 : i < us.toArray.size := by rw [List.size_toArray]; exact (List.getElem?_eq_some_iff.mp hu).1
    refine wpAny_mono (GO.goes i s (fun u' s2 => ∃ x' H', Inv X pins σ H' s2 ∧ RelV x' u' ∧ (ItE2 X.K k a).yld i H x' H' ∧ stE k a e it (i + 1) s2.heap ∧ ∀ c ∈ [e, it], H' c = none) E hi1 ⟨he, h1, px⟩ fun v' h' tk hY st' hk htk => ?_) (fun r s1 q => q) fun _ _ q => q
    obtain ⟨T, t, u2, rfl, hT, e1, hTt⟩ := hY
    have e1' : u2 = u := by rw [List.getElem?_toArray, hu] at e1; exact (Option.some.inj e1).symm
    subst e1'
    have hz : (0 : Int) + (i : Int) = (i : Int) := Int.zero_add _
    rw [hz] at hTt
    have new : ObjOk X.prog X.w (upd H T (.tup [.int (i : Int), x])) h' T (.tup [.int (i : Int), x]) := ⟨by show 2 ≤ sizeLine; decide, [.int i t, u2], .cons ⟨_, rfl⟩ (.cons ru .nil), hTt⟩
    have hn : H T = none := I.hok.fresh hT
    have hlt : ∀ c ∈ [e, it], c < s.heap.objs.size := fun c hcm => by
      simp only [List.mem_cons, List.not_mem_nil, or_false] at hcm
      rcases hcm with rfl | rfl
      · obtain ⟨_, q⟩ := he; exact Heap.lt_size q
      · obtain ⟨_, q, _⟩ := itB_obj h1; exact Heap.lt_size q
    refine ⟨.ref T, _, I.turnedNew (t' := tk) (ch := [e, it]) hk hf hT new, rfl, ⟨T, x, rfl, hn, rfl, fun zs hzs => by rw [sqB_inj I hzs hqx]; exact hx⟩, ⟨st'.1, st'.2.1⟩, fun c hcm => ?_⟩
    rw [upd_ne (Nat.ne_of_lt (Nat.lt_of_lt_of_le (hlt c hcm) hT))]
    exact (hf c hcm).1
  done := by
    intro X hP hw hK hc i pins s σ H E I hf st hg
    subst hP hw hK
    obtain ⟨he, h1⟩ := st
    obtain ⟨xs, hqx, hend⟩ := hg
    obtain ⟨us, rx, px⟩ := sqB_at I hqx
    have hh := handled_in1 (I.ok.hd hc)
    have GO := GoesN.enumFrom (prog := X.prog) (w := X.w) (A := X.A) (elts := elts) (x1 := kk) (pos := tpos) 0 (drawB (k := k) hh hai us.toArray) e hei (by simp only [List.mem_cons, List.not_mem_nil, or_false, not_or]; exact ⟨hei, hea⟩) List.mem_cons_self
    have hn : us.toArray.size = i := by rw [List.size_toArray, ← rx.length]; exact hend
    refine GO.stops s (fun s1 => Inv X pins σ H s1) E (by rw [hn]; exact ⟨he, h1, px⟩) fun h' tk hk _ => ?_
    exact I.turnedL (t' := tk) (ch := [e, it]) hk hf
  self := fun A i s Q E st h => let ⟨⟨_, he⟩, _⟩ := st; wpAny_pyIter_enum he h
def iEnum2 (K : PySem.W.Frag) (ta : TA) : TI := fun σ H R => ta σ H fun vs H1 => ∃ k a xs, vs = [.ref a] ∧ SqB k K H1 a xs ∧ R (ItE2 K k a) H1
/-- enumerate(v) for whatever iter(v) makes -/
theorem meets_enum1 {v : Value} {ob : Obj} {W : Heap → Prop} (B : Begins v ob W) :
    Meets (Builtin.«enumerate.__new__» ⟨[.type "enumerate", v], []⟩) (fun _ R s1 => W s1.heap ∧
      R (.ok (.ret (.ref (s1.heap.push ob).objs.size))) { s1 with heap := (s1.heap.push ob).push { cls := .type "enumerate", data := .fields #[.none, .bool false, .ref s1.heap.objs.size, rawInt 0, .none, .none] } }) :=
  .of_wp fun prog w A R s1 hy => by
    obtain ⟨hp, gs, dr, tk, os⟩ := s1
    obtain ⟨hw, hy⟩ := hy
    have hsub := sub_enumerate
    have it1 : ∀ {A' : Around} {E' : Value → Shared → Prop} {Q : Value → Shared → Prop}, Q (.ref hp.objs.size) ⟨hp.push ob, gs, dr, tk, os⟩ → wpAny (model prog w) A' (pyIter v) Q E' ⟨hp, gs, dr, tk, os⟩ :=
      fun qq => B.iter prog w _ _ ⟨hp, gs, dr, tk, os⟩ _ hw qq
    wp_walk using it1
    refine wpAny_stack_any fun _ => wpAny_pure ?_
    split
    · rename_i c _ _ _ _ _
      cases (c == Value.type "enumerate")
      · wp_walk using it1
        exact ⟨_, rfl, hy⟩
      · wp_walk using it1
        exact ⟨_, rfl, hy⟩
    · wp_walk using it1
      exact ⟨_, rfl, hy⟩
theorem enumB_begins {prog : Program} {w : World} {A : Around} {E : Value → Shared → Prop} {s : Shared} {k : Bool} {a : Addr} {us : Array Value} {Q : Value → Shared → Prop} (p : HoB k s.heap a us)
    (h : ∀ h', IsEnum h' (s.heap.objs.size + 1) s.heap.objs.size 0 .none → h'.get? s.heap.objs.size = some (obB k a) → (∀ b o, s.heap.get? b = some o → h'.get? b = some o) → Q (.ref (s.heap.objs.size + 1)) { s with heap := h' }) :
    wpAny (model prog w) A (call (.type "enumerate") [.ref a]) Q E s := by
  have B := beginB (k := k) (a := a) us
  refine callType_new F.called_enumerate (by decide) (F.typeCall_enumerate_1 _) (F.newCall_enumerate_1 _) (fun obj => F.args_object_init_2 obj _) F.entry_enumerate_new (meets_enum1 B) ⟨p, ?_⟩
  have sz : (s.heap.push (obB k a)).objs.size = s.heap.objs.size + 1 := Heap.size_push ..
  have ie : IsEnum ((s.heap.push (obB k a)).push { cls := .type "enumerate", data := .fields #[.none, .bool false, .ref s.heap.objs.size, rawInt 0, .none, .none] }) (s.heap.objs.size + 1) s.heap.objs.size 0 .none := by
    have q := Heap.get?_push_size (s.heap.push (obB k a)) (o := { cls := .type "enumerate", data := .fields #[.none, .bool false, .ref s.heap.objs.size, rawInt 0, .none, .none] }) rfl
    rwa [sz] at q
  show _ ∧ _
  rw [sz]
  exact ⟨⟨_, ie, rfl⟩, h _ ie (Heap.get?_push_of_some _ (Heap.get?_push_size _ B.free)) fun b o x => Heap.get?_push_of_some _ (Heap.get?_push_of_some _ x)⟩
theorem pi_enum2 {X : Cx} {e : Expr} {ta : TA} {p pos tpos : Pos} {elts : List Expr} {kk : Nat} (hg : Gl X "enumerate") (hm : X.mg "enumerate" = none) (ha : PA X [e] ta) (hs : starEach [e] X.env = [(false, eval e X.env)] := by rfl) :
    PI X (.Tuple elts kk tpos) (.Call (.Name "enumerate" p) [e] [] pos) (iEnum2 X.K ta) := by
  refine ⟨fun pins s σ H R I h => ?_⟩
  refine Call_ (ld_blt I hg hm boot_enumerate (PyProof.Rows.callWith_type1 (thn (ha.run pos pins s σ H _ I h) fun us s1 ⟨vs, H1, I1, r1, q1⟩ => ?_) hs rfl))
  obtain ⟨k, a, xs, rfl, hqx, q⟩ := q1
  obtain ⟨u1, rfl, ru1⟩ := vals1 r1
  cases ru1
  obtain ⟨its, rv, p1⟩ := sqB_at I1 hqx
  have l1 := hoB_lt p1
  refine enumB_begins p1 fun h' he h1 hk => wpAny_pyIter_enum he ?_
  have I2 : Inv X pins σ H1 { s1 with heap := h' } := I1.kept (t' := s1.toks) hk
  generalize hn : s1.heap.objs.size = n at *
  have na : (n : Nat) + 1 ≠ a := Nat.ne_of_gt (Nat.lt_of_lt_of_le l1 (Nat.le_add_right _ _))
  refine ⟨n + 1, [n + 1, n], _, _, H1, rfl, I2, turn_E2 (Nat.succ_ne_self _) na (Nat.ne_of_lt l1), ⟨⟨.none, he⟩, startB h1⟩, fun c hcm => ?_, q⟩
  have hle : s1.heap.objs.size ≤ c := by
    rw [hn]
    simp only [List.mem_cons, List.not_mem_nil, or_false] at hcm
    rcases hcm with rfl | rfl
    · exact Nat.le_add_right _ _
    · exact Nat.le_refl _
  exact I1.fpOk hle (I1.hok.fresh hle)
end Fc

namespace Fc
open PySem L2
section
variable {K : PySem.W.Frag} {H0 H H' : Hp} {G G' : Ga} {L L' N : Hl} {σ : St} {te ta tb tc td ty tx tv tk : TE} {tt tu : TT} {ts us vs : TS} {d x y z : D} {ds es : List D} {b c : Bool} {p : Po} {g : TG} {wi : TI} {P R : D → Hl → Prop}

/-! ### zip, enumerate -/
/-- data that is walked: a tuple, or a list at an address -/
inductive Sq (K : PySem.W.Frag) (H0 : Hp) (L : Hl) : D → List D → Prop where
  | tup (ds : List D) : Sq K H0 L (.tup ds) ds
  | lst {a : Addr} {ds : List D} (h : Lk K H0 L a (.lst ds)) : Sq K H0 L (.ref a) ds
/-- it still stands -/
def SqW (K : PySem.W.Frag) (H0 : Hp) (d : D) (ds : List D) (L : Hl) : Prop := match d with
  | .ref a => Lk K H0 L a (.lst ds)
  | _ => True
theorem Sq.w (h : Sq K H0 L d ds) : SqW K H0 d ds L := by
  cases h with
  | tup => trivial
  | lst h => exact h
/-- at a heap -/
theorem sq_at {v : V} (h : Sq K H0 L d ds) (s : HS K H0 L H) (i : Im K H v d) : ∃ (k : Bool) (a : Addr) (xs : List V), v = .ref a ∧ SqB k K H a xs ∧ ImL K H xs ds ∧
    ∀ L' H', TX H H' → HS K H0 L' H' → SqW K H0 d ds L' → ∃ xs', SqB k K H' a xs' ∧ ImL K H' xs' ds := by
  cases h with
  | tup =>
    cases i with
    | tup hq il => exact ⟨false, _, _, rfl, hq, il, fun L' H' t _ _ => ⟨_, SqT.tx t hq, il.tx t⟩⟩
  | lst h =>
    cases i
    obtain ⟨xs, hx, il⟩ := h.rdo s
    exact ⟨true, _, _, rfl, hx, il, fun L' H' t s' w => by
      obtain ⟨xs', hx', il'⟩ := Lk.rdo (show Lk K H0 L' _ (.lst ds) from w) s'
      exact ⟨xs', hx', il'⟩⟩
def prs (ds es : List D) : List D := (ds.zip es).map fun q => .tup [q.1, q.2]
theorem prs_len : (prs ds es).length = min ds.length es.length := by unfold prs; rw [List.length_map, List.length_zip]
theorem prs_get {i : Nat} (h1 : ds[i]? = some x) (h2 : es[i]? = some y) : (prs ds es)[i]? = some (.tup [x, y]) := by
  unfold prs
  rw [List.getElem?_map, (List.getElem?_zip_eq_some (z := (x, y))).mpr ⟨h1, h2⟩]
  rfl
def nums (ds : List D) : List D := ds.zipIdx.map fun q => .tup [.int (q.2 : Int), q.1]
theorem nums_len : (nums ds).length = ds.length := by unfold nums; rw [List.length_map, List.length_zipIdx]
theorem nums_get {i : Nat} (h : ds[i]? = some x) : (nums ds)[i]? = some (.tup [.int (i : Int), x]) := by
  unfold nums
  rw [List.getElem?_map, List.getElem?_zipIdx, h]
  simp
theorem tup2 {T : Addr} {u v : V} (hT : H T = none) (i1 : Im K H u x) (i2 : Im K H v y) : Same H (upd H T (.tup [u, v])) ∧ Im K (upd H T (.tup [u, v])) (.ref T) (.tup [x, y]) :=
  ⟨Same.new hT, .tup (SqT.of upd_same) (.cons (i1.tx (Same.tx (Same.new hT))) (.cons (i2.tx (Same.tx (Same.new hT))) .nil))⟩
theorem ei_zip {ta : TA} (h : EvA K H0 G L ta [x, y]) (h1 : Sq K H0 L x ds) (h2 : Sq K H0 L y es) : EvI K H0 G L (iZip2 K ta) (It0 (prs ds es) fun L => SqW K H0 x ds L ∧ SqW K H0 y es L) := fun σ H st R q => h σ H st _ fun vs H' e i => by
  cases i with
  | cons i1 i =>
    cases i with
    | cons i2 i =>
      cases i
      have s1 := (st.same e).hs
      obtain ⟨k, a, xs, rfl, hx, ilx, sx⟩ := sq_at h1 s1 i1
      obtain ⟨l, b, ys, rfl, hy, ily, sy⟩ := sq_at h2 s1 i2
      refine ⟨k, l, a, b, xs, ys, rfl, hx, hy, q _ H' _ _ [] ⟨rfl, rfl, rfl⟩ e (fun _ z => nomatch z) .nil Hs.nil ⟨fun i L H t s w hi => ?_, fun L H t s w => ?_, fun i L H x H' t s w hi y => ?_⟩⟩
      · rw [prs_len] at hi
        obtain ⟨xs', hx', il'⟩ := sx L H t s w.1
        obtain ⟨ys', hy', jl'⟩ := sy L H t s w.2
        have a1 : i < xs'.length := by rw [il'.length]; omega
        have a2 : i < ys'.length := by rw [jl'.length]; omega
        exact ⟨xs', ys', _, _, hx', hy', List.getElem?_eq_getElem a1, List.getElem?_eq_getElem a2⟩
      · obtain ⟨xs', hx', il'⟩ := sx L H t s w.1
        obtain ⟨ys', hy', jl'⟩ := sy L H t s w.2
        exact ⟨xs', ys', hx', hy', by rw [prs_len, il'.length, jl'.length]⟩
      · obtain ⟨xs', hx', il'⟩ := sx L H t s w.1
        obtain ⟨ys', hy', jl'⟩ := sy L H t s w.2
        obtain ⟨T, u, v, rfl, hT, rfl, f1, f2⟩ := y
        obtain ⟨d1, hd1, m1⟩ := il'.get (f1 xs' hx')
        obtain ⟨d2, hd2, m2⟩ := jl'.get (f2 ys' hy')
        exact ⟨(tup2 hT m1 m2).1, _, prs_get hd1 hd2, (tup2 hT m1 m2).2⟩
theorem ei_enum {ta : TA} (h : EvA K H0 G L ta [x]) (h1 : Sq K H0 L x ds) : EvI K H0 G L (iEnum2 K ta) (It0 (nums ds) fun L => SqW K H0 x ds L) := fun σ H st R q => h σ H st _ fun vs H' e i => by
  cases i with
  | cons i1 i =>
    cases i
    have s1 := (st.same e).hs
    obtain ⟨k, a, xs, rfl, hx, ilx, sx⟩ := sq_at h1 s1 i1
    refine ⟨k, a, xs, rfl, hx, q _ H' _ _ [] ⟨rfl, rfl, rfl⟩ e (fun _ z => nomatch z) .nil Hs.nil ⟨fun i L H t s w hi => ?_, fun L H t s w => ?_, fun i L H x H' t s w hi y => ?_⟩⟩
    · rw [nums_len] at hi
      obtain ⟨xs', hx', il'⟩ := sx L H t s w
      have a1 : i < xs'.length := by rw [il'.length]; omega
      exact ⟨xs', _, hx', List.getElem?_eq_getElem a1⟩
    · obtain ⟨xs', hx', il'⟩ := sx L H t s w
      exact ⟨xs', hx', by rw [nums_len, il'.length]⟩
    · obtain ⟨xs', hx', il'⟩ := sx L H t s w
      obtain ⟨T, u, rfl, hT, rfl, f1⟩ := y
      obtain ⟨d1, hd1, m1⟩ := il'.get (f1 xs' hx')
      exact ⟨(tup2 hT (.int _) m1).1, _, nums_get hd1, (tup2 hT (.int _) m1).2⟩

/-! ### a comprehension whose target is a pair -/
theorem wipe2 (σ : St) (i j : Nat) (u v : V) (hij : i ≠ j) : wipe (((wipe σ [i, j]).set i (some u)).set j (some v)) [i, j] = wipe σ [i, j] := by
  show (((((σ.set j none).set i none).set i (some u)).set j (some v)).set j none).set i none = (σ.set j none).set i none
  rw [List.set_set, List.set_set, List.set_comm _ _ hij, List.set_set, List.set_set]
theorem eg_wipe2 {i j : Nat} (hij : i ≠ j) {Z : Hl} {σ : St} {v : V} (st : Stt K H0 G Z σ H) (im : Im K H v (.tup [x, y])) {Q : St → Hp → Prop} (q : ∀ σ', Stt K H0 ((G.set i (some x)).set j (some y)) Z σ' H → wipe σ' [i, j] = wipe σ [i, j] → Q σ' H) :
    gTup K 2 (gCons (gName i) (gCons (gName j) gNil)) v (wipe σ [i, j]) H Q := by
  cases im with
  | tup hq il =>
    cases il with
    | cons i1 il =>
      cases il with
      | cons i2 il =>
        cases il
        refine ⟨_, _, rfl, hq, rfl, _, _, rfl, _, _, rfl, rfl, q _ ?_ (wipe2 σ i j _ _ hij)⟩
        show Stt K H0 _ Z ((((σ.set j none).set i none).set i (some _)).set j (some _)) H
        rw [List.set_set, List.set_comm _ _ hij.symm, List.set_set]
        exact (st.set i1 i).set i2 j
theorem en_lc2 {i j : Nat} {W : Hl → Prop} (f : D → Bool) (v : D → D) (hij : i ≠ j) (hw : EvI K H0 G L wi (It0 ds W)) (hW : ∀ Z, W (Z :: L)) (hp : ∀ d ∈ ds, ∃ x y, d = .tup [x, y] ∧ EvT K H0 ((G.set i (some x)).set j (some y)) L tt (f d) ∧ (f d = true → EvP K H0 ((G.set i (some x)).set j (some y)) L te (v d))) (hz : ds.length ≤ 100000) :
    EvN K H0 G L (tLc wi (gTup K 2 (gCons (gName i) (gCons (gName j) gNil))) tt te [i, j]) (New1 (.lst ((ds.filter f).map v))) :=
  lc_main f v hw (fun ds' W' N m => by
    obtain ⟨rfl, rfl, rfl⟩ := m
    refine ⟨rfl, hW, fun d hd Z => ?_⟩
    obtain ⟨x, y, rfl, h1, h2⟩ := hp d hd
    exact ⟨_, fun σ H u st im Q q => eg_wipe2 hij st im q, h1, h2⟩) hz
theorem en_lc2Y {i j : Nat} {W : Hl → Prop} (v : D → D) (hij : i ≠ j) (hw : EvI K H0 G L wi (It0 ds W)) (hW : ∀ Z, W (Z :: L)) (hp : ∀ d ∈ ds, ∃ x y, d = .tup [x, y] ∧ EvP K H0 ((G.set i (some x)).set j (some y)) L te (v d)) (hz : ds.length ≤ 100000) :
    EvN K H0 G L (tLc wi (gTup K 2 (gCons (gName i) (gCons (gName j) gNil))) tYes te [i, j]) (New1 (.lst (ds.map v))) := by
  have := en_lc2 (K := K) (H0 := H0) (G := G) (L := L) (i := i) (j := j) (tt := tYes) (te := te) (fun _ => true) v hij hw hW (fun d hd => let ⟨x, y, e, h⟩ := hp d hd; ⟨x, y, e, et_yes, fun _ => h⟩) hz
  rwa [List.filter_eq_self.mpr (fun _ _ => rfl)] at this

/-! ### a dict that is walked -/
/-- the dict at a is locked, it holds ks -/
def Fz (K : PySem.W.Frag) (H0 : Hp) (a : Addr) (ks : List (Key × D)) : Prop := ∃ o kvs, H0 a = some (.frz o (.dK kvs)) ∧ Paired (PrI K H0) kvs ks
def kD : Key → D
  | .inl i => .int i
  | .inr s => .str s
def itms (ks : List (Key × D)) : List D := ks.map fun q => .tup [kD q.1, q.2]
theorem im_key (k : Key) : Im K H (kV k) (kD k) := by cases k with | inl i => exact .int i | inr s => exact .str s
theorem pr_get {κ : Type} : ∀ {l : List (κ × V)} {m : List (κ × D)}, Paired (PrI K H) l m → ∀ {i : Nat} {q : κ × V}, l[i]? = some q → ∃ r, m[i]? = some r ∧ PrI K H q r
  | _, _, .nil, _, _, e => by simp at e
  | _, _, .cons r _, 0, _, e => ⟨_, rfl, by simp at e; subst e; exact r⟩
  | _, _, .cons _ t, i + 1, v, e => by
    obtain ⟨d, h1, h2⟩ := pr_get t (i := i) (q := v) (by simpa using e)
    exact ⟨d, by simpa using h1, h2⟩
theorem ei_items {a : Addr} {ks : List (Key × D)} (h : EvP K H0 G L td (.ref a)) (hz : Fz K H0 a ks) : EvI K H0 G L (iItems td) (It0 (itms ks) fun _ => True) := fun σ H st R q => h σ H st _ fun v H' e i => by
  cases i
  obtain ⟨o, kvs, hk, hp⟩ := hz
  have at_ : ∀ {L H}, HS K H0 L H → H a = some (.frz o (.dK kvs)) ∧ Paired (PrI K H) kvs ks := fun {L H} s => ⟨s.ext _ _ hk, Paired.tx (Same.tx s.ext) hp⟩
  have hl : (itms ks).length = kvs.length := by unfold itms; rw [List.length_map, pr_len hp]
  refine ⟨a, o, kvs, rfl, (at_ (st.same e).hs).1, q _ H' _ _ [] ⟨rfl, rfl, rfl⟩ e (fun _ z => nomatch z) .nil Hs.nil ⟨fun i L H t s w hi => ⟨(at_ s).1, by rw [← hl]; exact hi⟩, fun L H t s w => ⟨(at_ s).1, by rw [hl]; exact Nat.le_refl _⟩, fun i L H x H' t s w hi y => ?_⟩⟩
  obtain ⟨T, k, v, hkv, rfl, hT, rfl⟩ := y
  obtain ⟨r, hr, e1, e2⟩ := pr_get (at_ s).2 hkv
  obtain ⟨k', d'⟩ := r
  have e1 : k = k' := e1
  subst e1
  have tp := tup2 hT (im_key (K := K) k) e2
  exact ⟨tp.1, _, by unfold itms; rw [List.getElem?_map, hr]; rfl, tp.2⟩
/-- a lock laid, taken away -/
theorem lock_on {a : Addr} {kvs : List (Key × V)} (od : Obj) (hx : H a = some (.dK kvs)) : TX H (upd H a (.frz od (.dK kvs))) := TX.upd hx (fun _ z => nomatch z) (fun _ _ z => nomatch z)
theorem lock_off {a : Addr} {kvs : List (Key × V)} {od : Obj} (hx : H a = some (.frz od (.dK kvs))) : TX H (upd H a (.dK kvs)) := TX.upd hx (fun _ z => nomatch z) (fun _ _ z => nomatch z)
theorem er_ne {a : Addr} {o : O} {k : Nat} (hn : (L.map (·.1)).Nodup) (hk : L[k]? = some (a, o)) {q : Addr × O} (hq : q ∈ L.eraseIdx k) : q.1 ≠ a := fun z => by
  obtain ⟨j, hj, hjk⟩ := List.mem_eraseIdx_iff_getElem?.mp hq
  have a1 : (L.map (·.1))[j]? = some a := by rw [List.getElem?_map, hjk]; exact congrArg some z
  have a2 : (L.map (·.1))[k]? = some a := by rw [List.getElem?_map, hk]; rfl
  exact hj (ix_inj hn a1 a2)
/-- the base with a put in, and all tuples that stand -/
def satu (H0 H : Hp) (a : Addr) (f : HO) : Hp := fun b => if b = a then some f else match H0 b with
  | some o => some o
  | none => match H b with
    | some (.tup xs) => some (.tup xs)
    | some (.frz o (.tup xs)) => some (.frz o (.tup xs))
    | _ => none
section
variable {a : Addr} {f : HO}
theorem satu_a : satu H0 H a f a = some f := if_pos rfl
theorem satu_keep {b : Addr} {o : HO} (hb : b ≠ a) (h : H0 b = some o) : satu H0 H a f b = some o := by unfold satu; rw [if_neg hb, h]
theorem satu_of {b : Addr} {o : HO} (hb : b ≠ a) (h : satu H0 H a f b = some o) : H0 b = some o ∨ H b = some o := by
  unfold satu at h
  rw [if_neg hb] at h
  cases h0 : H0 b with
  | some u => rw [h0] at h; exact .inl h
  | none =>
    rw [h0] at h
    right
    cases h1 : H b with
    | none => rw [h1] at h; cases h
    | some u =>
      rw [h1] at h
      cases u with
      | tup xs => exact h
      | frz z w => cases w with
        | tup xs => exact h
        | _ => cases h
      | _ => cases h
theorem satu_none {b : Addr} {u : HO} {o : O} (hb : b ≠ a) (h0 : H0 b = none) (hu : H b = some u) (ob : Ob K H u o) : satu H0 H a f b = none := by
  unfold satu
  rw [if_neg hb, h0, hu]
  cases u <;> first | rfl | (cases o <;> exact ob.elim)
theorem satu_old {b : Addr} (hb : b ≠ a) (h : satu H0 H a f b = none) : H0 b = none := by
  cases h0 : H0 b with
  | none => rfl
  | some o => rw [satu_keep hb h0] at h; cases h
theorem satu_tx (hs : Same H0 H) (ha : ∀ xs, H a ≠ some (.tup xs)) (ha2 : ∀ z xs, H a ≠ some (.frz z (.tup xs))) : TX H (satu H0 H a f) := by
  refine ⟨fun b xs e => ?_, fun b z xs e => ?_⟩
  · have hb : b ≠ a := fun q => ha xs (q ▸ e)
    unfold satu
    rw [if_neg hb]
    cases h0 : H0 b with
    | none => simp only [e]
    | some o => have := hs b o h0; rw [e] at this; cases this; rfl
  · have hb : b ≠ a := fun q => ha2 z xs (q ▸ e)
    unfold satu
    rw [if_neg hb]
    cases h0 : H0 b with
    | none => simp only [e]
    | some o => have := hs b o h0; rw [e] at this; cases this; rfl
end
structure Aft (H0 H0' : Hp) (a : Addr) : Prop where
  tx : TX H0 H0'
  at_ : ∀ b o, b ≠ a → H0 b = some o → H0' b = some o
theorem Rdo.aft {a b : Addr} {o : O} {H0' : Hp} (h : Rdo K H0 b o) (f : Aft H0 H0' a) (hb : b ≠ a) : Rdo K H0' b o := by
  cases o with
  | lst ds =>
    obtain ⟨xs, h1, h2⟩ := h
    exact ⟨xs, h1.elim (fun h1 => .inl (h1.elim (fun h1 => .inl (f.at_ b _ hb h1)) fun ⟨o, h1⟩ => .inr ⟨o, f.at_ b _ hb h1⟩)) .inr, h2.tx f.tx⟩
  | dct ks =>
    obtain ⟨xs, h1, h2⟩ := h
    exact ⟨xs, f.at_ b _ hb h1, Paired.tx f.tx h2⟩
  | ins C dx fs =>
    obtain ⟨xs, h1, h2⟩ := h
    exact ⟨xs, f.at_ b _ hb h1, Paired.tx f.tx h2⟩
theorem Lk.aft {a b : Addr} {o : O} {H0' : Hp} (h : Lk K H0 L b o) (f : Aft H0 H0' a) (hb : b ≠ a) : Lk K H0' L b o := h.elim .inl fun h => .inr (h.aft f hb)
section
variable {a : Addr} {ks : List (Key × D)} {kvs : List (Key × V)} {k : Nat}
theorem lock_aft (od : Obj) (hs : Same H0 H) (hx : H a = some (.dK kvs)) (hp : Paired (PrI K H) kvs ks) : Aft H0 (satu H0 H a (.frz od (.dK kvs))) a ∧ Fz K (satu H0 H a (.frz od (.dK kvs))) a ks := by
  have t : TX H (satu H0 H a (.frz od (.dK kvs))) := satu_tx hs (fun xs e => by rw [hx] at e; cases e) (fun z xs e => by rw [hx] at e; cases e)
  exact ⟨⟨(Same.tx hs).trans t, fun b o hb h => satu_keep hb h⟩, od, kvs, satu_a, Paired.tx t hp⟩
/-- the locked state -/
theorem lock_in (od : Obj) (hm : List.Sublist L' L) (hne : ∀ q ∈ L', q.1 ≠ a) (st : Stt K H0 G L σ H) (hx : H a = some (.dK kvs)) : Stt K (satu H0 H a (.frz od (.dK kvs))) G L' σ (upd H a (.frz od (.dK kvs))) := by
  have t := lock_on od hx
  refine ⟨⟨fun b o e => ?_, fun q hq => ?_, (hm.map _).nodup st.hs.nd, fun q hq => ?_⟩, st.vr.tx t⟩
  · by_cases hb : b = a
    · subst hb; rw [satu_a] at e; rw [upd_same]; exact e
    · rw [upd_ne hb]
      rcases satu_of hb e with e | e
      · exact st.hs.ext b o e
      · exact e
  · obtain ⟨u, hu, ob⟩ := st.hs.own q (hm.mem hq)
    exact ⟨u, by rw [upd_ne (hne q hq)]; exact hu, ob.tx t⟩
  · obtain ⟨u, hu, ob⟩ := st.hs.own q (hm.mem hq)
    exact satu_none (hne q hq) (st.hs.new q (hm.mem hq)) hu ob
/-- the lock taken away -/
theorem lock_ne {H1 : Hp} {od : Obj} (s : HS K (satu H0 H a (.frz od (.dK kvs))) L H1) : ∀ q ∈ L, q.1 ≠ a := fun q hq z => by have := s.new q hq; rw [z, satu_a] at this; cases this
theorem lock_outB {H1 : Hp} {od : Obj} (hx : H0 a = some (.dK kvs)) (s : HS K (satu H0 H a (.frz od (.dK kvs))) L H1) : H1 a = some (.frz od (.dK kvs)) ∧ HS K H0 L (upd H1 a (.dK kvs)) := by
  have ha := s.ext a _ satu_a
  have t := lock_off ha
  have hne := lock_ne s
  refine ⟨ha, ⟨fun b o e => ?_, fun q hq => ?_, s.nd, fun q hq => satu_old (hne q hq) (s.new q hq)⟩⟩
  · by_cases hb : b = a
    · subst hb; rw [upd_same]; rw [hx] at e; exact e
    · rw [upd_ne hb]; exact s.ext b o (satu_keep hb e)
  · obtain ⟨u, hu, ob⟩ := s.own q hq
    exact ⟨u, by rw [upd_ne (hne q hq)]; exact hu, ob.tx t⟩
theorem lock_outO {H1 : Hp} {od : Obj} (h0 : H0 a = none) (s : HS K (satu H0 H a (.frz od (.dK kvs))) L H1) (hp : Paired (PrI K H1) kvs ks) : H1 a = some (.frz od (.dK kvs)) ∧ HS K H0 ((a, .dct ks) :: L) (upd H1 a (.dK kvs)) := by
  have ha := s.ext a _ satu_a
  have t := lock_off ha
  have hne := lock_ne s
  refine ⟨ha, ⟨fun b o e => ?_, fun q hq => ?_, ?_, fun q hq => ?_⟩⟩
  · have hb : b ≠ a := ne_of_none e h0
    rw [upd_ne hb]; exact s.ext b o (satu_keep hb e)
  · rcases List.mem_cons.mp hq with rfl | hq
    · exact ⟨_, upd_same, Paired.tx t hp⟩
    · obtain ⟨u, hu, ob⟩ := s.own q hq
      exact ⟨u, by rw [upd_ne (hne q hq)]; exact hu, ob.tx t⟩
  · rw [List.map_cons, List.nodup_cons]
    refine ⟨fun hm => ?_, s.nd⟩
    obtain ⟨q, hq, e⟩ := List.mem_map.mp hm
    exact hne q hq e
  · rcases List.mem_cons.mp hq with rfl | hq
    · exact h0
    · exact satu_old (hne q hq) (s.new q hq)
end
abbrev Po.with_ (p : Po) (q : Addr × O) : Po := ⟨fun G' L' => p.nx G' (q :: L'), fun d L' => p.rt d (q :: L'), fun G' L' => p.bk G' (q :: L'), fun G' L' => p.ct G' (q :: L')⟩
theorem go_lockO {a : Addr} {ks : List (Key × D)} {k : Nat} (hk : L[k]? = some (a, .dct ks)) (h : ∀ H0', Aft H0 H0' a → Fz K H0' a ks → Go K H0' G (L.eraseIdx k) ts (p.with_ (a, .dct ks))) : Go K H0 G L (tLock ts) p := fun T σ H E t st s => by
  have hm := List.mem_of_getElem? hk
  obtain ⟨kvs, hx, hp⟩ := st.hs.dct hm
  have h0 := st.hs.new _ hm
  refine ⟨a, .dK kvs, hx, trivial, fun od => ?_⟩
  have tx := lock_on od hx
  have tt := t.trans tx
  have af := lock_aft od st.hs.ext hx hp
  refine h _ af.1 af.2 (upd H a (.frz od (.dK kvs))) σ _ _ (TX.refl _) (lock_in od (List.eraseIdx_sublist L k) (fun q hq => er_ne st.hs.nd hk hq) st hx) ⟨fun G1 L1 σ1 H1 r1 t1 s1 => ?_, fun d1 L1 v1 H1 r1 t1 s1 i1 => ?_, fun G1 L1 σ1 H1 r1 t1 s1 => ?_, fun G1 L1 σ1 H1 r1 t1 s1 => ?_⟩
  · have o := lock_outO h0 s1.hs (Paired.tx (tx.trans t1) hp)
    exact ⟨o.1, s.nx _ _ _ _ r1 ((tt.trans t1).trans (lock_off o.1)) ⟨o.2, s1.vr.tx (lock_off o.1)⟩⟩
  · have o := lock_outO h0 s1 (Paired.tx (tx.trans t1) hp)
    exact ⟨o.1, s.rt _ _ _ _ r1 ((tt.trans t1).trans (lock_off o.1)) o.2 (i1.tx (lock_off o.1))⟩
  · have o := lock_outO h0 s1.hs (Paired.tx (tx.trans t1) hp)
    exact ⟨o.1, s.bk _ _ _ _ r1 ((tt.trans t1).trans (lock_off o.1)) ⟨o.2, s1.vr.tx (lock_off o.1)⟩⟩
  · have o := lock_outO h0 s1.hs (Paired.tx (tx.trans t1) hp)
    exact ⟨o.1, s.ct _ _ _ _ r1 ((tt.trans t1).trans (lock_off o.1)) ⟨o.2, s1.vr.tx (lock_off o.1)⟩⟩
/-- a dict of the base -/
def BD (K : PySem.W.Frag) (H0 : Hp) (a : Addr) (ks : List (Key × D)) : Prop := ∃ kvs, H0 a = some (.dK kvs) ∧ Paired (PrI K H0) kvs ks
theorem go_lockB {a : Addr} {ks : List (Key × D)} (hk : BD K H0 a ks) (h : ∀ H0', Aft H0 H0' a → Fz K H0' a ks → Go K H0' G L ts p) : Go K H0 G L (tLock ts) p := fun T σ H E t st s => by
  obtain ⟨kvs, hx0, hp0⟩ := hk
  have hx := st.hs.ext _ _ hx0
  have hp := Paired.tx (Same.tx st.hs.ext) hp0
  refine ⟨a, .dK kvs, hx, trivial, fun od => ?_⟩
  have tx := lock_on od hx
  have tt := t.trans tx
  have af := lock_aft od st.hs.ext hx hp
  refine h _ af.1 af.2 (upd H a (.frz od (.dK kvs))) σ _ _ (TX.refl _) (lock_in od (List.Sublist.refl L) (fun q hq z => by have := st.hs.new q hq; rw [z, hx0] at this; cases this) st hx) ⟨fun G1 L1 σ1 H1 r1 t1 s1 => ?_, fun d1 L1 v1 H1 r1 t1 s1 i1 => ?_, fun G1 L1 σ1 H1 r1 t1 s1 => ?_, fun G1 L1 σ1 H1 r1 t1 s1 => ?_⟩
  · have o := lock_outB hx0 s1.hs
    exact ⟨o.1, s.nx _ _ _ _ r1 ((tt.trans t1).trans (lock_off o.1)) ⟨o.2, s1.vr.tx (lock_off o.1)⟩⟩
  · have o := lock_outB hx0 s1
    exact ⟨o.1, s.rt _ _ _ _ r1 ((tt.trans t1).trans (lock_off o.1)) o.2 (i1.tx (lock_off o.1))⟩
  · have o := lock_outB hx0 s1.hs
    exact ⟨o.1, s.bk _ _ _ _ r1 ((tt.trans t1).trans (lock_off o.1)) ⟨o.2, s1.vr.tx (lock_off o.1)⟩⟩
  · have o := lock_outB hx0 s1.hs
    exact ⟨o.1, s.ct _ _ _ _ r1 ((tt.trans t1).trans (lock_off o.1)) ⟨o.2, s1.vr.tx (lock_off o.1)⟩⟩
/-- an expression under a lock -/
theorem en_lockO {a : Addr} {ks : List (Key × D)} {k : Nat} (hk : L[k]? = some (a, .dct ks)) (h : ∀ H0', Aft H0 H0' a → Fz K H0' a ks → EvN K H0' G (L.eraseIdx k) te P) : EvN K H0 G L (tLockE te) P := fun σ H st Q q => by
  have hm := List.mem_of_getElem? hk
  obtain ⟨kvs, hx, hp⟩ := st.hs.dct hm
  refine ⟨a, .dK kvs, hx, trivial, fun od => ?_⟩
  have af := lock_aft od st.hs.ext hx hp
  refine h _ af.1 af.2 σ _ (lock_in od (List.eraseIdx_sublist L k) (fun q hq => er_ne st.hs.nd hk hq) st hx) _ fun v H1 d N m e hf hn ho i => ?_
  have ha := e a _ upd_same
  have t := lock_off ha
  have hfa : ∀ q ∈ N, q.1 ≠ a := fun q hq z => by have := hf q hq; rw [z, upd_same] at this; cases this
  refine ⟨ha, q v _ d N m (fun b o hb => ?_) (fun q hq => by have := hf q hq; rwa [upd_ne (hfa q hq)] at this) hn (fun q hq => ?_) (i.tx t)⟩
  · by_cases hba : b = a
    · subst hba; rw [upd_same, ← hx]; exact hb
    · rw [upd_ne hba]; exact e b o (by rw [upd_ne hba]; exact hb)
  · obtain ⟨u, hu, ob⟩ := ho q hq
    exact ⟨u, by rw [upd_ne (hfa q hq)]; exact hu, ob.tx t⟩

/-! ### dict comprehensions -/
theorem dc_main {P : List D → (Hl → Prop) → Hl → Prop} {vs : List Nat} (kf : D → Int) (v : D → D) (hw : EvI K H0 G L wi P)
    (hP : ∀ ds' W N, P ds' W N → ds' = ds ∧ (∀ Z, W (Z :: (N ++ L))) ∧ ∀ d ∈ ds, ∀ Z, ∃ G', (∀ σ H x, Stt K H0 G (Z :: (N ++ L)) σ H → Im K H x d → ∀ Q : St → Hp → Prop, (∀ σ', Stt K H0 G' (Z :: (N ++ L)) σ' H → wipe σ' vs = wipe σ vs → Q σ' H) → g x (wipe σ vs) H Q) ∧
      EvP K H0 G' (N ++ L) tk (.int (kf d)) ∧ EvP K H0 G' (N ++ L) tv (v d)) (hz : ds.length ≤ 100000) : EvN K H0 G L (tDc wi g tYes tk tv vs) (New1 (.dct (ds.foldl (fun acc d => putD acc (.inl (kf d)) (v d)) []))) := fun σ H st Q q => by
  refine hw σ H st _ fun J H1 ds' W N m e hf hn ho it Dl hD => ?_
  obtain ⟨rfl, hW, hel⟩ := hP ds' W N m
  have st1 := st.add e hf hn ho
  have hlen : ∀ (l : List D) (acc : List (Key × D)), (l.foldl (fun acc d => putD acc (.inl (kf d)) (v d)) acc).length ≤ acc.length + l.length := by
    intro l
    induction l with
    | nil => intro acc; simp
    | cons d r ih =>
      intro acc
      rw [List.foldl_cons, List.length_cons]
      have h1 := ih (putD acc (.inl (kf d)) (v d))
      have h2 : (putD acc (.inl (kf d)) (v d)).length ≤ acc.length + 1 := by
        unfold putD
        split
        · rw [List.length_map]; omega
        · rw [List.length_append]; simp
      omega
  refine ⟨fun i m H' => m = ds'.length - i ∧ i ≤ ds'.length ∧ Same H1 (upd H' Dl (.dK [])) ∧ TX H1 H' ∧ Stt K H0 G ((Dl, .dct ((ds'.take i).foldl (fun acc d => putD acc (.inl (kf d)) (v d)) [])) :: (N ++ L)) σ H', ⟨ds'.length, rfl, Nat.zero_le _, ?_⟩, ?_⟩
  · have n1 := new1 (K := K) (u := .dK []) (o := .dct []) hD .nil
    have := st1.add n1.1 n1.2.1 n1.2.2.1 n1.2.2.2
    refine ⟨?_, Same.tx n1.1, this⟩
    rw [upd_upd]
    exact n1.1
  rintro i mm H2 ⟨rfl, hi, e1, t, s⟩
  by_cases hlt : i < ds'.length
  · refine .inr ⟨it.go i _ H2 t s.hs (hW _) hlt, fun H' => Same H1 (upd H' Dl (.dK [])) ∧ TX H1 H' ∧ Stt K H0 G ((Dl, .dct ((ds'.take (i + 1)).foldl (fun acc d => putD acc (.inl (kf d)) (v d)) [])) :: (N ++ L)) σ H', fun H' p' => ⟨ds'.length - (i + 1), by omega, rfl, hlt, p'⟩, fun x H3 hy => ?_⟩
    obtain ⟨e2, d, hd, im⟩ := it.yld i _ H2 x H3 t s.hs (hW _) hlt hy
    obtain ⟨G', hg, hk, hv⟩ := hel d (List.mem_of_getElem? hd) (Dl, .dct ((ds'.take i).foldl (fun acc d => putD acc (.inl (kf d)) (v d)) []))
    have s3 := s.same e2
    have tk' : ds'.take (i + 1) = ds'.take i ++ [d] := by rw [List.take_succ, hd]; rfl
    have ext : ∀ {Ha Hb : Hp}, Same H1 (upd Ha Dl (.dK [])) → Same Ha Hb → Same H1 (upd Hb Dl (.dK [])) := fun {Ha Hb} a b c o hc => by
      have := a c o hc
      by_cases hcd : c = Dl
      · subst hcd; rw [hD] at hc; cases hc
      · rw [upd_ne hcd] at this ⊢; exact b _ _ this
    refine hg σ H3 x s3 im _ fun σ' s4 hwp => ⟨hwp, ?_⟩
    refine et_yes (K := K) (H0 := H0) (G := G') (L := []) σ' H3 (s4.sub (List.nil_sublist _)) _ fun H3b e3b => iteT (hk.fr σ' H3b (s4.same e3b) _ fun y H4 e4' i4 => hv.fr σ' H4 ((s4.same e3b).same e4') _ fun z H5 e5 i5 => ?_)
    have e4 := e3b.trans e4'
    cases i4
    have s5 := (s3.same e4).same e5
    obtain ⟨xs, hx, hp⟩ := s5.hs.dct List.mem_cons_self
    have hl : xs.length < sizeLine := by
      rw [pr_len hp]
      have h1 := hlen (ds'.take i) []
      have h3 : (ds'.take i).length ≤ i := by rw [List.length_take]; omega
      have h4 : ([] : List (Key × D)).length = 0 := rfl
      exact Nat.lt_of_lt_of_le (show _ < 100001 by omega) (by decide)
    refine ⟨xs, .inl (kf d), rfl, hx, hl, ?_, ?_⟩
    · rw [upd_upd]
      exact ext (ext (ext e1 e2) e4) e5
    · have pu := s5.hs.put (k := 0) (u' := .dK (putK xs (.inl (kf d)) z)) (o' := .dct (putD ((ds'.take i).foldl (fun acc d => putD acc (.inl (kf d)) (v d)) []) (.inl (kf d)) (v d))) rfl (pr_put i5 hp)
      refine ⟨(((t.trans (Same.tx e2)).trans (Same.tx e4)).trans (Same.tx e5)).trans pu.2, ?_⟩
      rw [tk', List.foldl_append]
      exact ⟨pu.1, s5.vr.tx pu.2⟩
  · have ei : i = ds'.length := by omega
    subst ei
    rw [List.take_length] at s
    refine .inl ⟨it.stop _ H2 t s.hs (hW _), ?_⟩
    obtain ⟨u, hu, ob⟩ := s.hs.own _ List.mem_cons_self
    refine q (.ref Dl) H2 (.ref Dl) _ ⟨Dl, rfl, rfl⟩ (fun c o hc => ?_) (fun z hz => ?_) (by simp) (fun z hz => ?_) (.ref Dl)
    · have h1 := e c o hc
      have := e1 c o h1
      rw [upd_ne (ne_of_none h1 hD)] at this
      exact this
    · rw [List.mem_singleton.mp hz]; exact e.free hD
    · rw [List.mem_singleton.mp hz]; exact ⟨u, hu, ob⟩
theorem en_dc2 {i j : Nat} {W : Hl → Prop} (kf : D → Int) (v : D → D) (hij : i ≠ j) (hw : EvI K H0 G L wi (It0 ds W)) (hW : ∀ Z, W (Z :: L)) (hp : ∀ d ∈ ds, ∃ x y, d = .tup [x, y] ∧ EvP K H0 ((G.set i (some x)).set j (some y)) L tk (.int (kf d)) ∧ EvP K H0 ((G.set i (some x)).set j (some y)) L tv (v d)) (hz : ds.length ≤ 100000) :
    EvN K H0 G L (tDc wi (gTup K 2 (gCons (gName i) (gCons (gName j) gNil))) tYes tk tv [i, j]) (New1 (.dct (ds.foldl (fun acc d => putD acc (.inl (kf d)) (v d)) []))) :=
  dc_main kf v hw (fun ds' W' N m => by
    obtain ⟨rfl, rfl, rfl⟩ := m
    refine ⟨rfl, hW, fun d hd Z => ?_⟩
    obtain ⟨x, y, rfl, h1, h2⟩ := hp d hd
    exact ⟨_, fun σ H u st im Q q => eg_wipe2 hij st im q, h1, h2⟩) hz
end
end Fc

namespace Fc
open PySem PySem.Spec PyProof.Rows L2
/-! ## defs of the text -/
/-- the module's name x holds the def st -/
structure FunG (K : PySem.W.Frag) (mg : Str → Option Value) (x : Str) (st : Stmt) : Prop where
  ex : ∃ f fd, Fun K x x st f fd ∧ mg x = some (.ref f)
/-- what may be called by the name x -/
structure Pf (P : Program) (w : World) (K : PySem.W.Frag) (mg : Str → Option Value) (base : Heap) (x : Str) (k : Nat) (S : FS) : Prop where
  ex : ∃ f fd ps, FnOk P w K mg base CX0 k f fd ps (spF K S) ∧ mg x = some (.ref f) ∧ PySem.W.keepIn K (.ref f) = true ∧ Binds K fd ps []
structure PfM (P : Program) (w : World) (K : PySem.W.Frag) (mg : Str → Option Value) (base : Heap) (x : Str) (k : Nat) (S : FM) : Prop where
  ex : ∃ f fd ps, FnOk P w K mg base CX0 k f fd ps (spM K S) ∧ mg x = some (.ref f) ∧ PySem.W.keepIn K (.ref f) = true ∧ Binds K fd ps []
abbrev BindH (x : Str) (st : Stmt) (n : Nat) (ps : List Str) : Prop := ∀ (kV doc pm : Value) (an : Option Addr) (cdv ct : Value) (us : List Value), us.length = ps.length → bindArgs (PySem.W.fnOf x x (defArgs st) (defBody st) (defScope st) .none kV doc pm an cdv ct) ⟨us, []⟩ = pure (ps.zip us)
section
variable {P : Program} {w : World} {K : PySem.W.Frag} {mg : Str → Option Value} {base : Heap}
/-- the walk of a def: its body's derivation, and what it does -/
theorem pf_mk {x : Str} {st : Stmt} {N ps : List Str} {k : Nat} {S : FS} (F : FunG K mg x st) (sc : FnScope N ps (defScope st)) (bh : BindH x st 0 ps) (len : ∀ Z ds R, S Z ds R → ds.length = ps.length)
    (hb : ∀ (f : Addr) (cdv : Value) (A : Around) (outer : List Env) (s : Shared) (H : Hp) (E : XK), Room k (A.deeper (envOfC x (defScope st) s.heap.objs.size f cdv)) →
      ∃ t, PSs (cxOf CX0 P w K mg base N x (defScope st) f cdv A outer s H E).nox (defBody st) t ∧ ∀ Z ds R H0, Rds K H0 Z → S Z ds R → Go K H0 (args N ds) [] t { nx := fun _ L => R .non L, rt := R }) : Pf P w K mg base x (k + 1) S := by
  obtain ⟨f, fd, F1, hm⟩ := F.ex
  refine ⟨f, fd, ps, F1.ok sc (fun vs H Q E h => ?_) (fun cdv A outer s H vs Q E hr h => ?_), hm, F1.kp, F1.binds bh⟩
  · obtain ⟨Z, ds, R, _, im, s, _⟩ := h
    rw [im.length]
    exact len Z ds R s
  · obtain ⟨t, ht, hg⟩ := hb f cdv A outer s H E hr
    exact ⟨t, ht, body_go hg h⟩
/-- .. as the kit's promise of a def object that is known -/
theorem fn_mkF {x : Str} {st : Stmt} {N ps : List Str} {k : Nat} {S : FS} {f : Addr} {fd : FuncData} (F1 : Fun K x x st f fd) (sc : FnScope N ps (defScope st)) (len : ∀ Z ds R, S Z ds R → ds.length = ps.length)
    (hb : ∀ (f : Addr) (cdv : Value) (A : Around) (outer : List Env) (s : Shared) (H : Hp) (E : XK), Room k (A.deeper (envOfC x (defScope st) s.heap.objs.size f cdv)) →
      ∃ t, PSs (cxOf CX0 P w K mg base N x (defScope st) f cdv A outer s H E).nox (defBody st) t ∧ ∀ Z ds R H0, Rds K H0 Z → S Z ds R → Go K H0 (args N ds) [] t { nx := fun _ L => R .non L, rt := R }) : FnOk P w K mg base CX0 (k + 1) f fd ps (spF K S) :=
  F1.ok sc (fun vs H Q E h => by
    obtain ⟨Z, ds, R, _, im, s, _⟩ := h
    rw [im.length]
    exact len Z ds R s) (fun cdv A outer s H vs Q E hr h => by
    obtain ⟨t, ht, hg⟩ := hb f cdv A outer s H E hr
    exact ⟨t, ht, body_go hg h⟩)
theorem pfM_mk {x : Str} {st : Stmt} {N ps : List Str} {k : Nat} {S : FM} (F : FunG K mg x st) (sc : FnScope N ps (defScope st)) (bh : BindH x st 0 ps) (len : ∀ Y Z ds R, S Y Z ds R → ds.length = ps.length)
    (hb : ∀ (f : Addr) (cdv : Value) (A : Around) (outer : List Env) (s : Shared) (H : Hp) (E : XK), Room k (A.deeper (envOfC x (defScope st) s.heap.objs.size f cdv)) →
      ∃ t, PSs (cxOf CX0 P w K mg base N x (defScope st) f cdv A outer s H E).nox (defBody st) t ∧ ∀ Y Z ds R H0, (∀ p ∈ Y, H0 p.1 = none) → Rds K H0 Z → S Y Z ds R → Go K H0 (args N ds) Y t { nx := fun _ L => R .non L, rt := R }) : PfM P w K mg base x (k + 1) S := by
  obtain ⟨f, fd, F1, hm⟩ := F.ex
  refine ⟨f, fd, ps, F1.ok sc (fun vs H Q E h => ?_) (fun cdv A outer s H vs Q E hr h => ?_), hm, F1.kp, F1.binds bh⟩
  · obtain ⟨Y, Z, ds, R, _, _, _, _, im, s, _⟩ := h
    rw [im.length]
    exact len Y Z ds R s
  · obtain ⟨t, ht, hg⟩ := hb f cdv A outer s H E hr
    exact ⟨t, ht, body_goM hg h⟩
end
section
variable {X : Cx} {x : Str} {p pos : Pos} {e : Expr} {es : List Expr} {t : TA} {k j : Nat} {P : Program} {w : World} {K : PySem.W.Frag} {mg : Str → Option Value} {base : Heap}
theorem pe_pf {S : FS} (F : Pf P w K mg base x k S) (hr : Room j X.A) (hj : k ≤ j) (hg : Gl X x) (ha : PA X (e :: es) t) (hP : X.prog = P := by rfl) (hw : X.w = w := by rfl) (hK : X.K = K := by rfl) (hm : X.mg = mg := by rfl) (hb : X.base = base := by rfl) (hdb : (x == ("__debug__" : Str)) = false := by decide)
    (he : starEach (e :: es) X.env = (false, eval e X.env) :: starEach es X.env := by rfl) (hpl : (backTo pos (starEach es X.env)).any (·.1) = false := by rfl) : PE X (.Call (.Name x p) (e :: es) [] pos) (tCall (spF K S) [] E0 t) := by
  subst hP hw hK hm hb
  obtain ⟨f, fd, ps, F1, hm, hk, hb⟩ := F.ex
  exact pe_call F1 (hr.mono hj) hg hm hk hb .nil pass0 ha hdb he hpl
theorem pe_pfM {S : FM} (F : PfM P w K mg base x k S) (hr : Room j X.A) (hj : k ≤ j) (hg : Gl X x) (ha : PA X (e :: es) t) (hP : X.prog = P := by rfl) (hw : X.w = w := by rfl) (hK : X.K = K := by rfl) (hm : X.mg = mg := by rfl) (hb : X.base = base := by rfl) (hdb : (x == ("__debug__" : Str)) = false := by decide)
    (he : starEach (e :: es) X.env = (false, eval e X.env) :: starEach es X.env := by rfl) (hpl : (backTo pos (starEach es X.env)).any (·.1) = false := by rfl) : PE X (.Call (.Name x p) (e :: es) [] pos) (tCall (spM K S) [] E0 t) := by
  subst hP hw hK hm hb
  obtain ⟨f, fd, ps, F1, hm, hk, hb⟩ := F.ex
  exact pe_call F1 (hr.mono hj) hg hm hk hb .nil pass0 ha hdb he hpl
end
/-! ### built-ins by name -/
theorem b_abs : bootBuiltins "abs" = some (.builtin "abs") := by decide +kernel
theorem b_len : bootBuiltins "len" = some (.builtin "len") := by decide +kernel
theorem b_all : bootBuiltins "all" = some (.builtin "all") := by decide +kernel
theorem b_any : bootBuiltins "any" = some (.builtin "any") := by decide +kernel
theorem b_sum : bootBuiltins "sum" = some (.builtin "sum") := by decide +kernel
theorem b_sorted : bootBuiltins "sorted" = some (.builtin "sorted") := by decide +kernel
theorem b_max : bootBuiltins "max" = some (.builtin "max") := by decide +kernel
theorem b_min : bootBuiltins "min" = some (.builtin "min") := by decide +kernel
theorem b_isi : bootBuiltins "isinstance" = some (.builtin "isinstance") := by decide +kernel
theorem b_tuple : bootBuiltins "tuple" = some (.type "tuple") := by decide +kernel
theorem b_list : bootBuiltins "list" = some (.type "list") := by decide +kernel
theorem b_dict : bootBuiltins "dict" = some (.type "dict") := by decide +kernel
theorem b_int : bootBuiltins "int" = some (.type "int") := by decide +kernel
theorem b_bool : bootBuiltins "bool" = some (.type "bool") := by decide +kernel
theorem b_str : bootBuiltins "str" = some (.type "str") := by decide +kernel
/-- the module has not bound these -/
structure Bl (mg : Str → Option Value) : Prop where
  abs : mg "abs" = none
  len : mg "len" = none
  all : mg "all" = none
  any : mg "any" = none
  isi : mg "isinstance" = none
  tuple : mg "tuple" = none
  dict : mg "dict" = none
  int : mg "int" = none
  bool : mg "bool" = none
  str : mg "str" = none
  range : mg "range" = none
  zip : mg "zip" = none
  enum : mg "enumerate" = none
  sum : mg "sum" = none
  sorted : mg "sorted" = none
  list : mg "list" = none
  max : mg "max" = none
  min : mg "min" = none
section
variable {X : Cx} {p pos : Pos} {e : Expr} {es : List Expr} {t : TA} {K : PySem.W.Frag} {mg : Str → Option Value}
theorem pe_len (hK : X.K = K) (hM : X.mg = mg) (B : Bl mg) (hg : Gl X "len") (ha : PA X (e :: es) t) (he : starEach (e :: es) X.env = (false, eval e X.env) :: starEach es X.env := by rfl) (hpl : (backTo pos (starEach es X.env)).any (·.1) = false := by rfl) : PE X (.Call (.Name "len" p) (e :: es) [] pos) (tCB (rLen K) t) := by
  subst hK hM
  exact pe_callB (r := (rLen X.K)) call_len_seq hg B.len b_len ha (he := he) (hpl := hpl)
theorem pe_abs (hK : X.K = K) (hM : X.mg = mg) (B : Bl mg) (hg : Gl X "abs") (ha : PA X (e :: es) t) (he : starEach (e :: es) X.env = (false, eval e X.env) :: starEach es X.env := by rfl) (hpl : (backTo pos (starEach es X.env)).any (·.1) = false := by rfl) : PE X (.Call (.Name "abs" p) (e :: es) [] pos) (tCB rAbs t) := by
  subst hK hM
  exact pe_callB (r := rAbs) call_abs hg B.abs b_abs ha (he := he) (hpl := hpl)
theorem pe_all (hK : X.K = K) (hM : X.mg = mg) (B : Bl mg) (hc : X.calm = true) (hg : Gl X "all") (ha : PA X (e :: es) t) (he : starEach (e :: es) X.env = (false, eval e X.env) :: starEach es X.env := by rfl) (hpl : (backTo pos (starEach es X.env)).any (·.1) = false := by rfl) : PE X (.Call (.Name "all" p) (e :: es) [] pos) (tCB (rAll K) t) := by
  subst hK hM
  exact pe_callB (r := (rAll X.K)) (cr_all hc) hg B.all b_all ha (he := he) (hpl := hpl)
theorem pe_any (hK : X.K = K) (hM : X.mg = mg) (B : Bl mg) (hc : X.calm = true) (hg : Gl X "any") (ha : PA X (e :: es) t) (he : starEach (e :: es) X.env = (false, eval e X.env) :: starEach es X.env := by rfl) (hpl : (backTo pos (starEach es X.env)).any (·.1) = false := by rfl) : PE X (.Call (.Name "any" p) (e :: es) [] pos) (tCB (rAny K) t) := by
  subst hK hM
  exact pe_callB (r := (rAny X.K)) (cr_any hc) hg B.any b_any ha (he := he) (hpl := hpl)
theorem pe_sum (hK : X.K = K) (hM : X.mg = mg) (B : Bl mg) (hc : X.calm = true) (hg : Gl X "sum") (ha : PA X (e :: es) t) (he : starEach (e :: es) X.env = (false, eval e X.env) :: starEach es X.env := by rfl) (hpl : (backTo pos (starEach es X.env)).any (·.1) = false := by rfl) : PE X (.Call (.Name "sum" p) (e :: es) [] pos) (tCB (rSum K) t) := by
  subst hK hM
  exact pe_callB (r := (rSum X.K)) (cr_sum hc) hg B.sum b_sum ha (he := he) (hpl := hpl)
theorem pe_isi (hK : X.K = K) (hM : X.mg = mg) (B : Bl mg) (hg : Gl X "isinstance") (ha : PA X (e :: es) t) (he : starEach (e :: es) X.env = (false, eval e X.env) :: starEach es X.env := by rfl) (hpl : (backTo pos (starEach es X.env)).any (·.1) = false := by rfl) : PE X (.Call (.Name "isinstance" p) (e :: es) [] pos) (tCB (rIsi K) t) := by
  subst hK hM
  exact pe_callB (r := (rIsi X.K)) call_isi hg B.isi b_isi ha (he := he) (hpl := hpl)
theorem pe_tuple (hK : X.K = K) (hM : X.mg = mg) (B : Bl mg) (hg : Gl X "tuple") (ha : PA X (e :: es) t) (he : starEach (e :: es) X.env = (false, eval e X.env) :: starEach es X.env := by rfl) (hpl : (backTo pos (starEach es X.env)).any (·.1) = false := by rfl) : PE X (.Call (.Name "tuple" p) (e :: es) [] pos) (tCB (rTupOf K) t) := by
  subst hK hM
  exact pe_callTy (r := (rTupOf X.K)) call_tuple_of hg B.tuple b_tuple ha (he := he) (hpl := hpl)
theorem pe_int1 (hK : X.K = K) (hM : X.mg = mg) (B : Bl mg) (hg : Gl X "int") (ha : PA X (e :: es) t) (he : starEach (e :: es) X.env = (false, eval e X.env) :: starEach es X.env := by rfl) (hpl : (backTo pos (starEach es X.env)).any (·.1) = false := by rfl) : PE X (.Call (.Name "int" p) (e :: es) [] pos) (tCB rInt1 t) := by
  subst hK hM
  exact pe_callTy (r := rInt1) call_int1 hg B.int b_int ha (he := he) (hpl := hpl)
theorem pe_dict (hK : X.K = K) (hM : X.mg = mg) (B : Bl mg) (hg : Gl X "dict") (ha : PA X (e :: es) t) (he : starEach (e :: es) X.env = (false, eval e X.env) :: starEach es X.env := by rfl) (hpl : (backTo pos (starEach es X.env)).any (·.1) = false := by rfl) : PE X (.Call (.Name "dict" p) (e :: es) [] pos) (tCB rDictOf t) := by
  subst hK hM
  exact pe_callTy (r := rDictOf) call_dictD hg B.dict b_dict ha (he := he) (hpl := hpl)
theorem pe_ixT {a b : Expr} {ta tb : TE} (hK : X.K = K) (ha : PE X a ta) (hb : PE X b tb) (hs : PlainIx b) : PE X (.Subscript a b pos) (tOp (rIxT K) ta tb) := by subst hK; exact pe_ix ix_tup ha hb hs
theorem pe_ixL {a b : Expr} {ta tb : TE} (hK : X.K = K) (ha : PE X a ta) (hb : PE X b tb) (hs : PlainIx b) : PE X (.Subscript a b pos) (tOp (rIxL K) ta tb) := by subst hK; exact pe_ix ix_list ha hb hs
theorem op_inK (hK : X.K = K) : OpR X (compareOp .In) (rIn K false) := by subst hK; exact op_in_seq
theorem op_niK (hK : X.K = K) : OpR X (compareOp .NotIn) (rIn K true) := by subst hK; exact op_notIn_seq
theorem op_catK (hK : X.K = K) : OpR X (binaryOp .Add) (rCatA K) := by subst hK; exact op_catA
theorem sl_tupK (hK : X.K = K) : SlR X (rSlA K) := by subst hK; exact sl_tupA
theorem sl_listK (hK : X.K = K) : SlR X (rSlL K) := by subst hK; exact sl_list
theorem op_eqK (hK : X.K = K) (hu : X.A.units + 64 < cLine) : OpR X (compareOp .Eq) (rEqD K) := by subst hK; exact op_eqD hu
theorem op_neK (hK : X.K = K) (hu : X.A.units + 64 < cLine) : OpR X (compareOp .NotEq) (rNeD K) := by subst hK; exact op_neD hu
theorem pi_listK {tg l : Expr} {tl : TE} (hK : X.K = K) (hl : PE X l tl) : PI X tg l (iList K tl) := by subst hK; exact pi_list hl
theorem pi_tupK {tg l : Expr} {tl : TE} (hK : X.K = K) (hl : PE X l tl) : PI X tg l (iTup K tl) := by subst hK; exact pi_tup hl
theorem pe_fldK {o : Expr} {f : Str} {ta : TE} (hK : X.K = K) (he : PE X o ta) (hb : attributeBase o f X.env (eval o X.env) = eval o X.env) : PE X (.Attribute o f pos) (tFld K ta f) := by subst hK; exact pe_fld he hb
theorem pg_tupK {es : List Expr} {k : Nat} {t : TGs} {n : Nat} (hK : X.K = K) (hc : X.calm = true) (h : PGs X es t) (hn : (assignEach es X.env).length = n := by rfl) (hst : (assignEach es X.env).findIdx? (·.1) = none := by rfl) : PG X (.Tuple es k pos) (gTup K n t) := by subst hK; exact pg_tup hc h hn hst
theorem ps_fldK {o value : Expr} {f : Str} {pos' : Pos} {ta tv : TE} (hK : X.K = K) (ha : PE X o ta) (hv : PE X value tv) (hs : swapsWith value (some (.Attribute o f pos')) pos.line X.env = pure false) : PS X (.Assign [.Attribute o f pos'] value pos) (sFld K ta tv f) := by subst hK; exact ps_fld ha hv hs
theorem pi_zipK {e2 : Expr} {ta : TA} {tpos : Pos} {elts : List Expr} {kk : Nat} (hK : X.K = K) (hM : X.mg = mg) (B : Bl mg) (hg : Gl X "zip") (ha : PA X [e, e2] ta)
    (hs : starEach [e, e2] X.env = (false, eval e X.env) :: starEach [e2] X.env := by rfl) (hpl : (backTo pos (starEach [e2] X.env)).any (·.1) = false := by rfl) : PI X (.Tuple elts kk tpos) (.Call (.Name "zip" p) [e, e2] [] pos) (iZip2 K ta) := by subst hK hM; exact pi_zip2 hg B.zip ha hs hpl
theorem pi_enumK {ta : TA} {tpos : Pos} {elts : List Expr} {kk : Nat} (hK : X.K = K) (hM : X.mg = mg) (B : Bl mg) (hg : Gl X "enumerate") (ha : PA X [e] ta) (hs : starEach [e] X.env = [(false, eval e X.env)] := by rfl) :
    PI X (.Tuple elts kk tpos) (.Call (.Name "enumerate" p) [e] [] pos) (iEnum2 K ta) := by subst hK hM; exact pi_enum2 hg B.enum ha hs
theorem pe_tyT (hM : X.mg = mg) (B : Bl mg) (hg : Gl X "tuple") : PE X (.Name "tuple" p) (tC (.ty "tuple")) := by subst hM; exact pe_bltn hg B.tuple b_tuple rfl
theorem pe_tyI (hM : X.mg = mg) (B : Bl mg) (hg : Gl X "int") : PE X (.Name "int" p) (tC (.ty "int")) := by subst hM; exact pe_bltn hg B.int b_int rfl
theorem pe_tyB (hM : X.mg = mg) (B : Bl mg) (hg : Gl X "bool") : PE X (.Name "bool" p) (tC (.ty "bool")) := by subst hM; exact pe_bltn hg B.bool b_bool rfl
theorem pe_tyS (hM : X.mg = mg) (B : Bl mg) (hg : Gl X "str") : PE X (.Name "str" p) (tC (.ty "str")) := by subst hM; exact pe_bltn hg B.str b_str rfl
end
section
variable {K : PySem.W.Frag} {H0 H H' : Hp} {G G' : Ga} {L L' N : Hl} {σ : L2.St} {te ta tb : TE} {tt tu : TT} {ts us vs : TS} {d x y z : D} {ds : List D} {b c : Bool} {p : Po} {g : TG} {wi : TI} {P : D → Hl → Prop}
/-! ### a statement, the rest -/
theorem gq_ret (h : EvN K H0 G L te P) (hp : ∀ d N, P d N → ∃ L', List.Sublist L' (N ++ L) ∧ p.rt d L') : Go K H0 G L (tSeq (tRet te) us) p := fun T σ H E t st s => go_ret (p := { p with nx := fun G L => Go K H0 G L us p }) h hp T σ H _ t st ⟨fun G L σ H m t st => m T σ H E t st s, s.rt, s.bk, s.ct⟩
theorem gq_retP (h : EvP K H0 G L te d) (hp : p.rt d []) : Go K H0 G L (tSeq (tRet te) us) p := fun T σ H E t st s => h σ H st _ fun v H' e i => s.rt d [] v H' hp (t.trans (Same.tx e)) ((st.same e).hs.sub (List.nil_sublist _)) i
theorem gq_retA (h : EvP K H0 G L te d) (hp : p.rt d L) : Go K H0 G L (tSeq (tRet te) us) p := fun T σ H E t st s => h σ H st _ fun v H' e i => s.rt d L v H' hp (t.trans (Same.tx e)) (st.same e).hs i
/-- if c: leaves -/
theorem gq_ifL (h : EvT K H0 G L tt b) (h1 : b = true → Go K H0 G L ts { p with nx := fun _ _ => False }) (h2 : b = false → Go K H0 G L us p) : Go K H0 G L (tSeq (tIfS tt ts tNext) us) p :=
  fun T σ H E t st s => h σ H st _ fun H' e => by
    cases b with
    | true => exact iteT (h1 rfl T σ H' _ (t.trans (Same.tx e)) (st.same e) ⟨fun _ _ _ _ z => z.elim, s.rt, s.bk, s.ct⟩)
    | false => exact iteF (h2 rfl T σ H' E (t.trans (Same.tx e)) (st.same e) s)
/-- an if whose way is known -/
theorem gq_if2 (h : EvT K H0 G L tt b) (h1 : b = true → Go K H0 G L (tSeq ts vs) p) (h2 : b = false → Go K H0 G L (tSeq us vs) p) : Go K H0 G L (tSeq (tIfS tt ts us) vs) p :=
  fun T σ H E t st s => h σ H st _ fun H' e => by
    cases b with
    | true => exact iteT (h1 rfl T σ H' E (t.trans (Same.tx e)) (st.same e) s)
    | false => exact iteF (h2 rfl T σ H' E (t.trans (Same.tx e)) (st.same e) s)
theorem gq_nil (h : Go K H0 G L us p) : Go K H0 G L (tSeq tNext us) p := h
theorem gq_assoc (h : Go K H0 G L (tSeq ts (tSeq us vs)) p) : Go K H0 G L (tSeq (tSeq ts us) vs) p := h
theorem gq_ifJ (M : Ga → Hl → Prop) (h : EvT K H0 G L tt b) (h1 : b = true → Go K H0 G L ts { p with nx := M }) (h2 : b = false → Go K H0 G L us { p with nx := M }) (h3 : ∀ G' L', M G' L' → Go K H0 G' L' vs p) : Go K H0 G L (tSeq (tIfS tt ts us) vs) p := go_seq M (go_if h h1 h2) h3
theorem gq_while {m0 : Nat} (W : Nat → Ga → Hl → Prop) (h0 : W m0 G L) (M : Ga → Hl → Prop)
    (hs : ∀ m G L, W m G L → ∃ b, EvT K H0 G L tt b ∧ (b = true → Go K H0 G L ts { p with nx := fun G' L' => ∃ m', m' < m ∧ W m' G' L', ct := fun G' L' => ∃ m', m' < m ∧ W m' G' L', bk := M }) ∧ (b = false → M G L)) (hd : ∀ G L, M G L → Go K H0 G L us p) : Go K H0 G L (tSeq (tWhile tt ts) us) p :=
  go_seq M (go_while W h0 hs) hd
theorem gq_for {P : List D → (Hl → Prop) → Hl → Prop} (M : Ga → Hl → Prop) (hw : EvI K H0 G L wi P)
    (h : ∀ ds W N, P ds W N → ∃ I : Nat → Ga → Hl → Prop, I 0 G (N ++ L) ∧ (∀ i G L, I i G L → W L) ∧
      (∀ i d G L, ds[i]? = some d → I i G L → ∃ G', EvG K H0 G d g G' ∧ Go K H0 G' L ts { p with nx := I (i + 1), ct := I (i + 1), bk := M }) ∧ ∀ G L, I ds.length G L → M G L) (hd : ∀ G L, M G L → Go K H0 G L us p) : Go K H0 G L (tSeq (tFor wi g ts) us) p := go_seq M (go_for hw h) hd
theorem gq_seqL (h : Go K H0 G L (tSeq ts us) p) : Go K H0 G L (tSeq ts us) p := h
/-- what is known of the addresses -/
theorem go_known {φ : Prop} (h : ∀ H, HS K H0 L H → φ) (k : φ → Go K H0 G L ts p) : Go K H0 G L ts p := fun T σ H E t st s => k (h H st.hs) T σ H E t st s
theorem go_nd (k : (L.map (·.1)).Nodup → Go K H0 G L ts p) : Go K H0 G L ts p := go_known (fun _ h => h.nd) k

theorem ev_un1 {i : Int} (h : EvP K H0 G L te (.int i)) : EvP K H0 G L (tUn (rU fun i => .int (-i)) te) (.int (-i)) := fun σ H st Q q => h σ H st _ fun v H' e im => by
  cases im
  exact ⟨i, rfl, q _ H' e (.int _)⟩
/-! ### isinstance, the four types asked -/
def isTup : D → Bool | .tup _ => true | _ => false
def isInt : D → Bool | .int _ => true | .bl _ => true | _ => false
def isBool : D → Bool | .bl _ => true | _ => false
def isStr : D → Bool | .str _ => true | _ => false
theorem rc_isTup (h : (tyn d).isSome = true) : RcP K H0 L (rIsi K) [d, .ty "tuple"] (.bl (isTup d)) := by
  cases d with
  | non => exact rc_isi (b := false) rfl (kit_ty (by decide +kernel))
  | bl k => exact rc_isi (b := false) rfl (kit_ty (by decide +kernel))
  | int k => exact rc_isi (b := false) rfl (kit_ty (by decide +kernel))
  | str k => exact rc_isi (b := false) rfl (kit_ty (by decide +kernel))
  | tup k => exact rc_isi (b := true) rfl (kit_ty (by decide +kernel))
  | ref a => cases h
  | ty n => cases h
theorem rc_isInt (h : (tyn d).isSome = true) : RcP K H0 L (rIsi K) [d, .ty "int"] (.bl (isInt d)) := by
  cases d with
  | non => exact rc_isi (b := false) rfl (kit_ty (by decide +kernel))
  | bl k => exact rc_isi (b := true) rfl (kit_ty (by decide +kernel))
  | int k => exact rc_isi (b := true) rfl (kit_ty (by decide +kernel))
  | str k => exact rc_isi (b := false) rfl (kit_ty (by decide +kernel))
  | tup k => exact rc_isi (b := false) rfl (kit_ty (by decide +kernel))
  | ref a => cases h
  | ty n => cases h
theorem rc_isBool (h : (tyn d).isSome = true) : RcP K H0 L (rIsi K) [d, .ty "bool"] (.bl (isBool d)) := by
  cases d with
  | non => exact rc_isi (b := false) rfl (kit_ty (by decide +kernel))
  | bl k => exact rc_isi (b := true) rfl (kit_ty (by decide +kernel))
  | int k => exact rc_isi (b := false) rfl (kit_ty (by decide +kernel))
  | str k => exact rc_isi (b := false) rfl (kit_ty (by decide +kernel))
  | tup k => exact rc_isi (b := false) rfl (kit_ty (by decide +kernel))
  | ref a => cases h
  | ty n => cases h
theorem rc_isStr (h : (tyn d).isSome = true) : RcP K H0 L (rIsi K) [d, .ty "str"] (.bl (isStr d)) := by
  cases d with
  | non => exact rc_isi (b := false) rfl (kit_ty (by decide +kernel))
  | bl k => exact rc_isi (b := false) rfl (kit_ty (by decide +kernel))
  | int k => exact rc_isi (b := false) rfl (kit_ty (by decide +kernel))
  | str k => exact rc_isi (b := true) rfl (kit_ty (by decide +kernel))
  | tup k => exact rc_isi (b := false) rfl (kit_ty (by decide +kernel))
  | ref a => cases h
  | ty n => cases h
theorem ev_isTup (he : EvP K H0 G L te d) (h : (tyn d).isSome = true) : EvP K H0 G L (tCB (rIsi K) (tCons te (tCons (tC (.ty "tuple")) tNil))) (.bl (isTup d)) := ev_cb (ea_cons he (ea_cons ev_ty ea_nil)) (rc_isTup h)
theorem ev_isTupB (he : EvP K H0 G L te d) (h : (tyn d).isSome = true) (hb : isTup d = b) : EvP K H0 G L (tCB (rIsi K) (tCons te (tCons (tC (.ty "tuple")) tNil))) (.bl b) := hb ▸ ev_isTup he h
theorem ev_isInt (he : EvP K H0 G L te d) (h : (tyn d).isSome = true) : EvP K H0 G L (tCB (rIsi K) (tCons te (tCons (tC (.ty "int")) tNil))) (.bl (isInt d)) := ev_cb (ea_cons he (ea_cons ev_ty ea_nil)) (rc_isInt h)
theorem ev_isBool (he : EvP K H0 G L te d) (h : (tyn d).isSome = true) : EvP K H0 G L (tCB (rIsi K) (tCons te (tCons (tC (.ty "bool")) tNil))) (.bl (isBool d)) := ev_cb (ea_cons he (ea_cons ev_ty ea_nil)) (rc_isBool h)
theorem ev_isStr (he : EvP K H0 G L te d) (h : (tyn d).isSome = true) : EvP K H0 G L (tCB (rIsi K) (tCons te (tCons (tC (.ty "str")) tNil))) (.bl (isStr d)) := ev_cb (ea_cons he (ea_cons ev_ty ea_nil)) (rc_isStr h)
end
end Fc

namespace Fc
open PySem L2
section
variable {K : PySem.W.Frag} {H0 H H' : Hp} {G G' : Ga} {L L' L1 N : Hl} {σ : St} {te ta tb tc td ty tx tv tk : TE} {tt tu : TT} {ts us vs : TS} {d x y z : D} {ds es : List D} {b c : Bool} {p : Po} {g : TG} {wi : TI} {P R : D → Hl → Prop}
theorem EvN.sub {P : D → Hl → Prop} (h : EvN K H0 G L te P) (s : List.Sublist L L') : EvN K H0 G L' te P := fun σ H st => h σ H (st.sub s)
theorem EvP.sub (h : EvP K H0 G L te d) (s : List.Sublist L L') : EvP K H0 G L' te d := fun σ H st => h σ H (st.sub s)
theorem ean_two {P Q : D → Hl → Prop} (h1 : EvN K H0 G L ta P) (h2 : EvN K H0 G L tb Q) : EvAN K H0 G L (tCons ta (tCons tb tNil)) (fun ds N => ∃ x y N1 N2, ds = [x, y] ∧ P x N1 ∧ Q y N2 ∧ N = N2 ++ N1) := fun σ H st R q =>
  h1 σ H st _ fun v H1 d N m e hf hn ho i => (h2.sub (List.sublist_append_right N L)) σ H1 (st.add e hf hn ho) _ fun v2 H2 d2 N2 m2 e2 hf2 hn2 ho2 i2 =>
    q [v, v2] H2 [d, d2] (N2 ++ N) ⟨d, d2, N, N2, rfl, m, m2, rfl⟩ (e.trans e2) (fun p hp => (List.mem_append.mp hp).elim (fun h => e.free (hf2 p h)) (hf p))
      (by
        rw [List.map_append, List.nodup_append]
        refine ⟨hn2, hn, fun a ha b hb z => ?_⟩
        obtain ⟨p, hp, rfl⟩ := List.mem_map.mp ha
        obtain ⟨p', hp', rfl⟩ := List.mem_map.mp hb
        obtain ⟨u, hu, _⟩ := ho p' hp'
        exact ne_of_none hu (hf2 p hp) z.symm)
      (fun p hp => (List.mem_append.mp hp).elim (ho2 p) (fun h => ho.same e2 p h)) (.cons (i.tx (Same.tx e2)) (.cons i2 .nil))
/-- len of a new list whose length is known -/
theorem ev_lenX {n : Int} (ha : EvN K H0 G L te P) (h : ∀ d N, P d N → ∃ a ds, d = .ref a ∧ N = [(a, .lst ds)] ∧ (ds.length : Int) = n) : EvP K H0 G L (tCB (rLen K) (tCons te tNil)) (.int n) := fun σ H st Q q =>
  ha σ H st _ fun v H1 d N m e1 hf hn ho i1 => by
    obtain ⟨a, ds, rfl, rfl, rfl⟩ := h d N m
    exact rc_lenL (.inl List.mem_cons_self) H1 [v] (st.add e1 hf hn ho).hs (.cons i1 .nil) Q fun w H2 e2 i2 => q w H2 (e1.trans e2) i2
/-- a call whose second argument writes -/
theorem em_call2 {S : FS} {E : XK} (hx : EvP K H0 G L tx x) (hy : EvM K H0 G L ty (fun d L' => d = y ∧ L' = L1)) (hS : S [] [x, y] (Val z)) : EvM K H0 G L (tCall (spF K S) [] E (tCons tx (tCons ty tNil))) (fun d L' => d = z ∧ L' = L1) := fun σ H st Q q =>
  hx σ H st _ fun v H1 e1 i1 => hy σ H1 (st.same e1) _ fun w H2 d L2 m t2 s2 i2 => by
    obtain ⟨rfl, rfl⟩ := m
    show spF K S ([v, w] ++ []) H2 Q E
    refine ⟨[], [x, d], Val z, fun _ h => (nomatch h), .cons (i1.tx t2) (.cons i2 .nil), hS, fun u H3 d3 N r e hf hn ho i => ?_⟩
    obtain rfl := r
    exact q u H3 _ _ ⟨rfl, rfl⟩ (((Same.tx e1).trans t2).trans (Same.tx e)) (s2.same e) i
/-! ### members of a heaplet -/
theorem hl_inj {a : Addr} {o o' : O} (hn : (L.map (·.1)).Nodup) (h1 : (a, o) ∈ L) (h2 : (a, o') ∈ L) : o = o' := by
  obtain ⟨i, hi⟩ := List.getElem?_of_mem h1
  obtain ⟨j, hj⟩ := List.getElem?_of_mem h2
  have a1 : (L.map (·.1))[i]? = some a := by rw [List.getElem?_map, hi]; rfl
  have a2 : (L.map (·.1))[j]? = some a := by rw [List.getElem?_map, hj]; rfl
  have := ix_inj hn a1 a2
  subst this
  rw [hi] at hj
  cases hj
  rfl
theorem hl_keep {a b : Addr} {o o' u : O} {k : Nat} (hk : L[k]? = some (a, o)) (h : (b, u) ∈ L) (hb : b ≠ a) : (b, u) ∈ L.set k (a, o') := by
  obtain ⟨j, hj⟩ := List.getElem?_of_mem h
  have : k ≠ j := fun e => by
    subst e
    rw [hk] at hj
    cases hj
    exact hb rfl
  exact List.mem_of_getElem? (by rw [List.getElem?_set_ne this]; exact hj)
theorem hl_put {a : Addr} {o o' : O} {k : Nat} (hk : L[k]? = some (a, o)) : (a, o') ∈ L.set k (a, o') :=
  List.mem_of_getElem? (List.getElem?_set_self (List.getElem?_eq_some_iff.mp hk).1)
theorem hl_new {a b : Addr} {o u : O} (hn : ((N ++ L).map (·.1)).Nodup) (h1 : (a, o) ∈ N) (h2 : (b, u) ∈ L) : a ≠ b := fun e => by
  subst e
  rw [List.map_append, List.nodup_append] at hn
  exact hn.2.2 a (List.mem_map.mpr ⟨_, h1, rfl⟩) a (List.mem_map.mpr ⟨_, h2, rfl⟩) rfl
theorem hl_fst {a : Addr} {o o' : O} {k : Nat} (hk : L[k]? = some (a, o)) : (L.set k (a, o')).map (·.1) = L.map (·.1) := by
  rw [List.map_set]
  have : (L.map (·.1))[k]? = some a := by rw [List.getElem?_map, hk]; rfl
  obtain ⟨hlt, hv⟩ := List.getElem?_eq_some_iff.mp this
  rw [← hv]
  exact List.set_getElem_self hlt
/-- a[i], b[i] = e -/
theorem gq_set2 {A B : Addr} {k l vA vB vi j : Nat} {i : Int} {dA dB : List D} (h : EvN K H0 G L te P) (hP : ∀ d N, P d N → ∃ x y, d = .tup [x, y] ∧ Go K H0 G (N ++ (L.set k (A, .lst (dA.set j x))).set l (B, .lst (dB.set j y))) us p)
    (hk : L[k]? = some (A, .lst dA)) (hl : L[l]? = some (B, .lst dB)) (hkl : k ≠ l) (ho : G[vA]? = some (some (.ref A))) (hi : G[vi]? = some (some (.int i))) (ho' : G[vB]? = some (some (.ref B))) (hj : ixN dA.length i = some j) (hj' : ixN dB.length i = some j) :
    Go K H0 G L (tSeq (tAsg te (gTup K 2 (gCons (gSub (tVar vA) (tVar vi) rSetL) (gCons (gSub (tVar vB) (tVar vi) rSetL) gNil)))) us) p := fun T σ H E t st s =>
  h σ H st _ fun v H1 d N m e1 hf hnd ho1 i1 => by
    obtain ⟨x, y, rfl, hg⟩ := hP d N m
    cases i1 with
    | tup hq il =>
      cases il with
      | cons ix il =>
        cases il with
        | cons iy il =>
          cases il
          have s1 := st.add e1 hf hnd ho1
          have kA : (N ++ L)[N.length + k]? = some (A, .lst dA) := by rw [List.getElem?_append_right (by omega), Nat.add_sub_cancel_left]; exact hk
          obtain ⟨xs, hx, ilA⟩ := s1.hs.lst (List.mem_of_getElem? kA)
          obtain ⟨wA, eA, iA⟩ := s1.vr.2 vA _ ho
          obtain ⟨wi, ei, ii⟩ := s1.vr.2 vi _ hi
          obtain ⟨wB, eB, iB⟩ := s1.vr.2 vB _ ho'
          cases iA; cases ii; cases iB
          have obA : ∀ u, Im K H1 u x → Ob K H1 (.lst (xs.set j u)) (.lst (dA.set j x)) := fun u iu => ImL.set iu j ilA
          have pA := s1.hs.put kA (obA _ ix)
          have sA := s1.put kA (obA _ ix)
          rw [List.set_append_right _ _ (by omega), Nat.add_sub_cancel_left] at sA
          have hlB : (L.set k (A, .lst (dA.set j x)))[l]? = some (B, .lst dB) := by rw [List.getElem?_set_ne hkl]; exact hl
          have kB : (N ++ L.set k (A, .lst (dA.set j x)))[N.length + l]? = some (B, .lst dB) := by rw [List.getElem?_append_right (by omega), Nat.add_sub_cancel_left]; exact hlB
          obtain ⟨ys, hy, ilB⟩ := sA.hs.lst (List.mem_of_getElem? kB)
          have obB := ImL.set (iy.tx pA.2) j ilB
          have pB := sA.hs.put (u' := .lst (ys.set j _)) (o' := .lst (dB.set j y)) kB obB
          have sB := sA.put (u' := .lst (ys.set j _)) (o' := .lst (dB.set j y)) kB obB
          rw [List.set_append_right _ _ (by omega), Nat.add_sub_cancel_left] at sB
          refine ⟨_, _, rfl, hq, rfl, _, _, rfl, ?_⟩
          refine ⟨_, eA, _, ei, A, xs, i, j, rfl, rfl, hx, by rw [ilA.length]; exact hj, _, _, rfl, ?_⟩
          refine ⟨_, eB, _, ei, B, ys, i, j, rfl, rfl, hy, by rw [ilB.length]; exact hj', rfl, ?_⟩
          exact hg T _ _ E (((t.trans (Same.tx e1)).trans pA.2).trans pB.2) sB s
end
end Fc

namespace Fc
open PySem PySem.Spec PyProof.Rows L2
/-! ## methods; own errors -/
inductive Xo where
  | ret (R : D → Hl → Prop) | exc (C : Addr)
def Xo.rt : Xo → D → Hl → Prop
  | .ret R => R
  | .exc _ => fun _ _ => False
abbrev FX := Hl → Hl → List D → Xo → Prop
abbrev Rest (Y : Hl) (H H' : Hp) : Prop := ∀ a o, H a = some o → a ∉ Y.map (·.1) → H' a = some o
def XoOk (K : PySem.W.Frag) (Y : Hl) (H : Hp) (Q : VK) (E : XK) : Xo → Prop
  | .ret R => ∀ v H' d N, R d N → Rest Y H H' → TX H H' → (∀ p ∈ N, H p.1 = none ∨ p.1 ∈ Y.map (·.1)) → (N.map (·.1)).Nodup → Hs K H' N → Im K H' v d → Q v H'
  | .exc C => ∀ H', Rest Y H H' → Hs K H' Y → E (.ref C) none H'
/-- hands back, or raises an error of the class at C with all as it was -/
def spX (K : PySem.W.Frag) (S : FX) : Sp := fun vs H Q E => ∃ Y Z ds o, Hs K H Y ∧ (Y.map (·.1)).Nodup ∧ Rds K H Z ∧ (∀ p ∈ Z, p.1 ∉ Y.map (·.1)) ∧ ImL K H vs ds ∧ S Y Z ds o ∧ XoOk K Y H Q E o
section
variable {K : PySem.W.Frag} {H0 H H' : Hp} {G G' : Ga} {L L' N Y : Hl} {σ : L2.St} {te ta tb tc : TE} {ts us vs : TS} {d x y z : D} {ds : List D} {p : Po} {P R : D → Hl → Prop}
theorem rest_tx (h : Hs K H Y) (r : Rest Y H H') : TX H H' := by
  have nt : ∀ a o, H a = some o → a ∈ Y.map (·.1) → (∀ xs, o ≠ .tup xs) ∧ ∀ z xs, o ≠ .frz z (.tup xs) := fun a o e hm => by
    obtain ⟨q, hq, rfl⟩ := List.mem_map.mp hm
    obtain ⟨u, hu, ho⟩ := h q hq
    rw [e] at hu; cases hu
    exact ho.notup
  exact ⟨fun a xs e => r a _ e fun hm => (nt a _ e hm).1 _ rfl, fun a o xs e => r a _ e fun hm => (nt a _ e hm).2 _ _ rfl⟩
theorem body_goX {S : FX} {N : List Str} {t : TS} {E : XK} (h : ∀ Y Z ds o H0, (∀ p ∈ Y, H0 p.1 = none) → Rds K H0 Z → S Y Z ds o → (∀ C, o = .exc C → ∀ L H, HS K H0 L H → List.Sublist Y L → E (.ref C) none H) → Go K H0 (args N ds) Y t { nx := fun _ L => o.rt .non L, rt := o.rt }) {vs : List V} {Q : VK} (hs : spX K S vs H Q E) :
    t { nx := fun _ H' => Q .non H', rt := Q } (L2.start N vs) H := by
  obtain ⟨Y, Z, ds, o, hy, hn, hz, hzy, im, s, q⟩ := hs
  let H0 : Hp := fun a => if a ∈ Y.map (·.1) then none else H a
  have h0 : ∀ a, a ∉ Y.map (·.1) → H0 a = H a := fun a ha => if_neg ha
  have h1 : ∀ p ∈ Y, H0 p.1 = none := fun p hp => if_pos (List.mem_map_of_mem hp)
  have hsm : Same H0 H := fun a o e => by
    by_cases ha : a ∈ Y.map (·.1)
    · rw [show H0 a = none from if_pos ha] at e; cases e
    · rw [h0 a ha] at e; exact e
  have htx : TX H H0 := rest_tx hy fun a o e ha => by rw [h0 a ha]; exact e
  have hz0 : Rds K H0 Z := fun p hp => by
    have r := hz p hp
    have hp1 := hzy p hp
    obtain ⟨a, o⟩ := p
    cases o with
    | lst es =>
      obtain ⟨xs, hx, il⟩ := r
      refine ⟨xs, ?_, il.tx htx⟩
      rcases hx with (hx | ⟨o, hx⟩) | hx
      · exact .inl (.inl (by rw [h0 a hp1]; exact hx))
      · exact .inl (.inr ⟨o, by rw [h0 a hp1]; exact hx⟩)
      · exact .inr hx
    | dct es =>
      obtain ⟨xs, hx, il⟩ := r
      exact ⟨xs, by rw [h0 a hp1]; exact hx, Paired.tx htx il⟩
    | ins C dx es =>
      obtain ⟨xs, hx, il⟩ := r
      exact ⟨xs, by rw [h0 a hp1]; exact hx, Paired.tx htx il⟩
  have fin : ∀ {v H' d L}, o.rt d L → TX H H' → HS K H0 L H' → Im K H' v d → Q v H' := fun {v H' d L} r t st i => by
    cases o with
    | exc C => exact r.elim
    | ret R =>
      exact q v H' d L r (fun a o e ha => st.ext a o (by rw [h0 a ha]; exact e)) t (fun p hp => by
        by_cases ha : p.1 ∈ Y.map (·.1)
        · exact .inr ha
        · exact .inl (by rw [← h0 _ ha]; exact st.new p hp)) st.nd st.own i
  refine h Y Z ds o H0 h1 hz0 s (fun C e L H' hs sub => ?_) H _ H _ (TX.refl H) ⟨⟨hsm, hy, hn, h1⟩, start_vr im⟩ ⟨fun G L σ H' r t st => fin r t st.hs .non, fun d L v H' r t st i => fin r t st i, fun _ _ _ _ z => z.elim, fun _ _ _ _ z => z.elim⟩
  subst e
  exact q H' (fun a o e ha => hs.ext a o (by rw [h0 a ha]; exact e)) fun p hp => hs.own p (sub.mem hp)
theorem spX_ofM {S : FX} {vs : List V} {Q : VK} {E : XK} (h : spM K (fun Y Z ds R => S Y Z ds (.ret R)) vs H Q E) : spX K S vs H Q E := by
  obtain ⟨Y, Z, ds, R, a, b, c, d, e, f, g⟩ := h
  exact ⟨Y, Z, ds, .ret R, a, b, c, d, e, f, g⟩
theorem spX_ofF {S : FX} {vs : List V} {Q : VK} {E : XK} (h : spF K (fun Z ds R => S [] Z ds (.ret R)) vs H Q E) : spX K S vs H Q E := by
  obtain ⟨Z, ds, R, a, b, c, d⟩ := h
  exact ⟨[], Z, ds, .ret R, Hs.nil, .nil, a, fun _ _ h => (nomatch h), b, c, fun v H' d' N r rest t hf hn ho i => d v H' d' N r (fun a o e => rest a o e fun h => nomatch h) (fun p hp => (hf p hp).resolve_right fun h => nomatch h) hn ho i⟩
theorem en_mx {S : FX} {Z : Hl} {E : XK} {C a dx : Addr} {m : Str} {fs : List (Str × D)} {ta : TA} (ho : EvP K H0 G L te (.ref a)) (hk : Lk K H0 L a (.ins C dx fs)) (hm : ∀ xs : List (Str × V), xs.map (·.1) = fs.map (·.1) → xs.lookup m = none) (ha : EvA K H0 G L ta ds) (hS : S [] Z (.ref a :: ds) (.ret R)) (hr : ∀ p ∈ Z, Lk K H0 L p.1 p.2) :
    EvN K H0 G L (tMeth C m (spX K S) [] E te ta) R := fun σ H st Q q => ho σ H st _ fun v H1 e1 i1 => by
  cases i1
  obtain ⟨xs, hx, hp⟩ := hk.rdo (st.same e1).hs
  have hkeys : xs.map (·.1) = fs.map (·.1) := by
    clear hx hm hk
    induction hp with
    | nil => rfl
    | cons r t ih => rw [List.map_cons, List.map_cons, ih, r.1]
  refine ⟨a, dx, xs, rfl, hx, hm xs hkeys, ha σ H1 (st.same e1) _ fun vs H2 e2 i2 => ?_⟩
  show spX K S (.ref a :: (vs ++ [])) H2 Q E
  rw [List.append_nil]
  exact spX_ofF (en_sp (S := fun Z ds R => S [] Z ds (.ret R)) hS hr ((st.same e1).same e2) (.cons (.ref a) i2) fun v H' d N r e hf hn ho i => q v H' d N r ((e1.trans e2).trans e) (fun p hp => (e1.trans e2).free (hf p hp)) hn ho i)

theorem em_mx {S : FX} {Z : Hl} {E : XK} {C a dx : Addr} {m : Str} {fs : List (Str × D)} {k : Nat} {ta : TA} (ho : EvP K H0 G L te (.ref a)) (hk : L[k]? = some (a, .ins C dx fs)) (hm : fs.lookup m = none) (ha : EvA K H0 G L ta ds)
    (hS : S [(a, .ins C dx fs)] Z (.ref a :: ds) (.ret R)) (hr : ∀ p ∈ Z, Lk K H0 L p.1 p.2 ∧ p.1 ≠ a) (hR : ∀ d N, R d N → ∃ o' N', N = (a, o') :: N') : EvM K H0 G L (tMeth C m (spX K S) [] E te ta) (fun d L' => ∃ o' N', R d ((a, o') :: N') ∧ L' = N' ++ L.set k (a, o')) := fun σ H st Q q => ho σ H st _ fun v H1 e1 i1 => by
  cases i1
  have hmem := List.mem_of_getElem? hk
  obtain ⟨xs, hx, hp⟩ := (st.same e1).hs.ins hmem
  have hkeys : xs.map (·.1) = fs.map (·.1) := by
    clear hx hm hk hS hmem
    induction hp with
    | nil => rfl
    | cons r t ih => rw [List.map_cons, List.map_cons, ih, r.1]
  refine ⟨a, dx, xs, rfl, hx, lookN hm xs hkeys, ha σ H1 (st.same e1) _ fun vs H2 e2 i2 => ?_⟩
  show spX K S (.ref a :: (vs ++ [])) H2 Q E
  rw [List.append_nil]
  have s2 := (st.same e1).same e2
  refine spX_ofM ⟨_, Z, _, R, fun p hp => by rw [List.mem_singleton.mp hp]; exact s2.hs.own _ hmem, by simp, fun p hp => (hr p hp).1.rdo s2.hs, fun p hp => by simpa using (hr p hp).2, .cons (.ref a) i2, hS, fun v H' d N r e t hf hn hoN i => ?_⟩
  obtain ⟨o', N', rfl⟩ := hR d N r
  have ne : ∀ b, b ≠ a → b ∉ List.map (fun x => x.fst) [(a, O.ins C dx fs)] := fun b hb => by simpa using hb
  have a0 : H0 a = none := st.hs.new _ hmem
  have hlt : k < L.length := (List.getElem?_eq_some_iff.mp hk).1
  have hNa : ∀ p ∈ N', p.1 ≠ a := fun p hp z => by
    have := (List.nodup_cons.mp (by simpa using hn : (a :: N'.map (·.1)).Nodup)).1
    exact this (z ▸ List.mem_map_of_mem hp)
  have hNf : ∀ p ∈ N', H2 p.1 = none := fun p hp => by
    rcases hf p (List.mem_cons_of_mem _ hp) with z | z
    · exact z
    · exact absurd (by simpa using z) (hNa p hp)
  have hml : (L.set k (a, o')).map (·.1) = L.map (·.1) := by
    rw [List.map_set]
    have : (L.map (·.1))[k]? = some a := by rw [List.getElem?_map, hk]; rfl
    obtain ⟨hlt, hv⟩ := List.getElem?_eq_some_iff.mp this
    rw [← hv]
    exact List.set_getElem_self hlt
  have hnd' := (List.nodup_cons.mp (by simpa using hn : (a :: N'.map (·.1)).Nodup)).2
  refine q v H' d _ ⟨o', N', r, rfl⟩ (((Same.tx e1).trans (Same.tx e2)).trans t) ⟨⟨fun b u hb => ?_, fun p hp => ?_, ?_, fun p hp => ?_⟩, s2.vr.tx t⟩ i
  · exact e b u (s2.hs.ext b u hb) (ne b (ne_of_none hb a0))
  · rcases List.mem_append.mp hp with hp | hp
    · exact hoN p (List.mem_cons_of_mem _ hp)
    · rcases List.mem_or_eq_of_mem_set hp with hp | hp
      · by_cases hpa : p.1 = a
        · have : p.1 ∈ (L.set k (a, o')).map (·.1) := List.mem_map_of_mem ‹p ∈ L.set k (a, o')›
          obtain ⟨j, hj⟩ := List.getElem?_of_mem ‹p ∈ L.set k (a, o')›
          by_cases hjk : k = j
          · subst hjk
            rw [List.getElem?_set_self hlt] at hj
            cases hj
            exact hoN _ List.mem_cons_self
          · exfalso
            have a1 : ((L.set k (a, o')).map (·.1))[j]? = some a := by rw [List.getElem?_map, hj]; exact congrArg some hpa
            have a2 : ((L.set k (a, o')).map (·.1))[k]? = some a := by rw [List.getElem?_map, List.getElem?_set_self hlt]; rfl
            rw [hml] at a1 a2
            exact hjk (ix_inj s2.hs.nd a2 a1)
        · obtain ⟨u, hu, ob⟩ := s2.hs.own p hp
          exact ⟨u, e _ _ hu (ne _ hpa), ob.tx t⟩
      · subst hp
        exact hoN _ List.mem_cons_self
  · rw [List.map_append, List.nodup_append, hml]
    refine ⟨hnd', s2.hs.nd, fun b hb c hc => ?_⟩
    obtain ⟨p, hp, rfl⟩ := List.mem_map.mp hb
    obtain ⟨w, hw, rfl⟩ := List.mem_map.mp hc
    obtain ⟨u, hu, _⟩ := s2.hs.own w hw
    exact fun z => ne_of_none hu (hNf p hp) z.symm
  · rcases List.mem_append.mp hp with hp | hp
    · exact s2.hs.ext.free (hNf p hp)
    · have : p.1 ∈ L.map (·.1) := by rw [← hml]; exact List.mem_map_of_mem hp
      obtain ⟨w, hw, ew⟩ := List.mem_map.mp this
      rw [← ew]
      exact s2.hs.new w hw

theorem en_makeX {S : FX} {Z : Hl} {E : XK} {C : Addr} {ta : TA} (ha : EvA K H0 G L ta ds) (hS : ∀ x dx, ∃ R, S [(x, .ins C dx [])] Z (.ref x :: ds) (.ret R) ∧ ∀ d N, R d N → d = .non ∧ ∃ o' N', N = (x, o') :: N' ∧ P (.ref x) N) (hr : ∀ p ∈ Z, Lk K H0 L p.1 p.2) (hZl : ∀ p ∈ Z, ∀ es, p.2 ≠ .lst es) :
    EvN K H0 G L (StX.tMakeR C (spX K S) E ta) P := fun σ H st Q q => ha σ H st _ fun vs H1 e1 i1 x dx hx hdx hne => by
  show spX K S (.ref x :: vs) _ _ E
  obtain ⟨R, hS, hR⟩ := hS x dx
  have m1 : Same H1 (upd H1 dx (.own x)) := Same.new hdx
  have hx1 : (upd H1 dx (.own x)) x = none := by rw [upd_ne (Ne.symm hne)]; exact hx
  have m2 : Same H1 (upd (upd H1 dx (.own x)) x (.ins C dx [])) := m1.trans (Same.new hx1)
  have s2 := (st.same e1).same m2
  refine spX_ofM ⟨_, Z, _, R, fun p hp => ?_, by simp, fun p hp => (hr p hp).rdo s2.hs, fun p hp => ?_, .cons (.ref x) (i1.tx (Same.tx m2)), hS, fun v H' d N r e t hf hn ho i => ?_⟩
  · rw [List.mem_singleton.mp hp]; exact ⟨_, upd_same, rfl, rfl, .nil⟩
  · intro hm
    have hpx : p.1 = x := by simpa using hm
    have r := (hr p hp).rdo (st.same e1).hs
    rw [hpx] at r
    cases hpo : p.2 with
    | lst es => exact absurd hpo (hZl p hp es)
    | dct es =>
      rw [hpo] at r
      obtain ⟨xs, hq, _⟩ := r
      rw [hx] at hq; cases hq
    | ins C dx es =>
      rw [hpo] at r
      obtain ⟨xs, hq, _⟩ := r
      rw [hx] at hq; cases hq
  · obtain ⟨rfl, o', N', rfl, hP⟩ := hR d N r
    cases i
    have ne : ∀ b, b ≠ x → b ∉ List.map (fun z => z.fst) [(x, O.ins C dx [])] := fun b hb => by simpa using hb
    refine ⟨rfl, q (.ref x) H' (.ref x) _ hP (fun b u hb => ?_) (fun p hp => ?_) hn ho (.ref x)⟩
    · have h1 := e1 b u hb
      exact e b u (m2 b u h1) (ne b (ne_of_none h1 hx))
    · rcases hf p hp with z | z
      · exact (e1.trans m2).free z
      · rw [show p.1 = x by simpa using z]; exact e1.free hx

/-- raises -/
theorem evx_mx {S : FX} {Z : Hl} {E : XK} {C a dx X : Addr} {m : Str} {fs : List (Str × D)} {ta : TA} (ho : EvP K H0 G L te (.ref a)) (hk : Lk K H0 L a (.ins C dx fs)) (hm : fs.lookup m = none) (ha : EvA K H0 G L ta ds) (hS : S Y Z (.ref a :: ds) (.exc X)) (hY : ∀ p ∈ Y, p ∈ L) (hn : (Y.map (·.1)).Nodup) (hr : ∀ p ∈ Z, Lk K H0 L p.1 p.2 ∧ p.1 ∉ Y.map (·.1))
    {σ : L2.St} {H : Hp} (st : Stt K H0 G L σ H) (hE : ∀ H', TX H H' → HS K H0 L H' → E (.ref X) none H') (Q : VK) : tMeth C m (spX K S) [] E te ta σ H Q := ho σ H st _ fun v H1 e1 i1 => by
  cases i1
  obtain ⟨xs, hx, hp⟩ := hk.rdo (st.same e1).hs
  have hkeys : xs.map (·.1) = fs.map (·.1) := by
    clear hx hm hk hS
    induction hp with
    | nil => rfl
    | cons r t ih => rw [List.map_cons, List.map_cons, ih, r.1]
  refine ⟨a, dx, xs, rfl, hx, lookN hm xs hkeys, ha σ H1 (st.same e1) _ fun vs H2 e2 i2 => ?_⟩
  show spX K S (.ref a :: (vs ++ [])) H2 Q E
  rw [List.append_nil]
  have s2 := (st.same e1).same e2
  have hYs : Hs K H2 Y := fun p hp => s2.hs.own p (hY p hp)
  refine ⟨Y, Z, _, .exc X, hYs, hn, fun p hp => (hr p hp).1.rdo s2.hs, fun p hp => (hr p hp).2, .cons (.ref a) i2, hS, fun H' rest ow => ?_⟩
  have tx := rest_tx hYs rest
  refine hE H' (((Same.tx e1).trans (Same.tx e2)).trans tx) ⟨fun b o e => ?_, fun p hp => ?_, s2.hs.nd, s2.hs.new⟩
  · refine rest b o (s2.hs.ext b o e) fun hm => ?_
    obtain ⟨q, hq, rfl⟩ := List.mem_map.mp hm
    have := s2.hs.new q (hY q hq)
    rw [this] at e; cases e
  · by_cases hm : p.1 ∈ Y.map (·.1)
    · obtain ⟨q, hq, e⟩ := List.mem_map.mp hm
      have : q = p := by
        obtain ⟨q1, q2⟩ := q
        obtain ⟨p1, p2⟩ := p
        have e : q1 = p1 := e
        subst e
        rw [hl_inj s2.hs.nd (hY _ hq) hp]
      subst this
      exact ow q hq
    · obtain ⟨u, hu, ho⟩ := s2.hs.own p hp
      exact ⟨u, rest _ _ hu hm, ho.tx tx⟩
/-- a property -/
theorem en_propX {S : FX} {Z : Hl} {E : XK} {C a dx : Addr} {fs : List (Str × D)} (ho : EvP K H0 G L te (.ref a)) (hk : Lk K H0 L a (.ins C dx fs)) (hS : S [] Z [.ref a] (.ret R)) (hr : ∀ p ∈ Z, Lk K H0 L p.1 p.2) : EvN K H0 G L (tProp C (spX K S) [] E te) R := fun σ H st Q q => ho σ H st _ fun v H1 e1 i1 => by
  cases i1
  obtain ⟨xs, hx, hp⟩ := hk.rdo (st.same e1).hs
  exact ⟨a, dx, xs, rfl, hx, spX_ofF (en_sp (S := fun Z ds R => S [] Z ds (.ret R)) hS hr (st.same e1) (.cons (.ref a) .nil) fun v H' d N r e hf hn hoN i => q v H' d N r (e1.trans e) (fun p hp => e1.free (hf p hp)) hn hoN i)⟩
end
/-! ### bundles -/
structure MethG (K : PySem.W.Frag) (C : Addr) (m qual : Str) (st : Stmt) : Prop where
  ex : ∃ f fd, Fun K m qual st f fd ∧ Meth K C m f
structure Px (P : Program) (w : World) (K : PySem.W.Frag) (mg : Str → Option Value) (base : Heap) (C : Addr) (m : Str) (k : Nat) (S : FX) : Prop where
  ex : ∃ f, Meth K C m f ∧ FnR P w K mg base (L2.CX P w) k f (spX K S)
structure MakeG (K : PySem.W.Frag) (mg : Str → Option Value) (x : Str) (C : Addr) (qual : Str) (st : Stmt) : Prop where
  ex : ∃ f fd, Fun K "__init__" qual st f fd ∧ Mk K C f ∧ mg x = some (.ref C)
structure Pk (P : Program) (w : World) (K : PySem.W.Frag) (mg : Str → Option Value) (base : Heap) (x : Str) (C : Addr) (k : Nat) (S : FX) : Prop where
  ex : ∃ f, Mk K C f ∧ FnR P w K mg base (L2.CX P w) k f (spX K S) ∧ mg x = some (.ref C)
structure PropG (K : PySem.W.Frag) (C : Addr) (m qual : Str) (st : Stmt) : Prop where
  ex : ∃ p f fd, Fun K m qual st f fd ∧ PropOf K C m p f
structure Pp (P : Program) (w : World) (K : PySem.W.Frag) (mg : Str → Option Value) (base : Heap) (C : Addr) (m : Str) (k : Nat) (S : FX) : Prop where
  ex : ∃ p f fd ps, PropOf K C m p f ∧ FnOk P w K mg base (L2.CX P w) k f fd ps (spX K S) ∧ Binds K fd ps []
/-- an own error's class -/
structure ErrG (K : PySem.W.Frag) (mg : Str → Option Value) (x : Str) (C : Addr) : Prop where
  gC : mg x = some (.ref C)
  exc : PySem.W.excIn K C [.type "ValueError", .type "Exception", .type "BaseException", .type "object"] "ValueError.__new__" = true
  kC : PySem.W.keepIn K (.ref C) = true
  sub : PySem.W.subIn K (.ref C) (.type "BaseException") = some true
  ty : PySem.W.typeIn K (.ref C) = some (.type "type")
abbrev BindM (x qual : Str) (st : Stmt) (ps : List Str) : Prop := ∀ (kV doc pm : Value) (an : Option Addr) (cdv ct : Value) (us : List Value), us.length = ps.length → bindArgs (PySem.W.fnOf x qual (defArgs st) (defBody st) (defScope st) .none kV doc pm an cdv ct) ⟨us, []⟩ = pure (ps.zip us)
section
variable {P : Program} {w : World} {K : PySem.W.Frag} {mg : Str → Option Value} {base : Heap} {C : Addr}
abbrev BodyX (P : Program) (w : World) (K : PySem.W.Frag) (mg : Str → Option Value) (base : Heap) (qual : Str) (st : Stmt) (N : List Str) (k : Nat) (S : FX) : Prop :=
  ∀ (f : Addr) (cdv : Value) (A : Around) (outer : List Env) (s : Shared) (H : Hp) (E : XK), Room k (A.deeper (envOfC qual (defScope st) s.heap.objs.size f cdv)) →
      ∃ t, PSs (cxOf (L2.CX P w) P w K mg base N qual (defScope st) f cdv A outer s H E) (defBody st) t ∧ ∀ Y Z ds o H0, (∀ p ∈ Y, H0 p.1 = none) → Rds K H0 Z → S Y Z ds o → (∀ C, o = .exc C → ∀ L H, HS K H0 L H → List.Sublist Y L → E (.ref C) none H) → Go K H0 (args N ds) Y t { nx := fun _ L => o.rt .non L, rt := o.rt }
theorem fn_mkX {x qual : Str} {st : Stmt} {f : Addr} {fd : FuncData} {N ps : List Str} {k : Nat} {S : FX} (F1 : Fun K x qual st f fd) (sc : FnScope N ps (defScope st)) (len : ∀ Y Z ds o, S Y Z ds o → ds.length = ps.length) (hb : BodyX P w K mg base qual st N k S) :
    FnOk P w K mg base (L2.CX P w) (k + 1) f fd ps (spX K S) :=
  F1.okX sc (fun vs H Q E h => by
    obtain ⟨Y, Z, ds, o, _, _, _, _, im, s, _⟩ := h
    rw [im.length]
    exact len Y Z ds o s) (fun cdv A outer s H vs Q E hr h => by
    obtain ⟨t, ht, hg⟩ := hb f cdv A outer s H E hr
    exact ⟨t, ht, body_goX hg h⟩)
theorem px_mk {m qual : Str} {st : Stmt} {N ps : List Str} {k : Nat} {S : FX} (F : MethG K C m qual st) (sc : FnScope N ps (defScope st)) (bh : BindM m qual st ps) (len : ∀ Y Z ds o, S Y Z ds o → ds.length = ps.length) (hb : BodyX P w K mg base qual st N k S) : Px P w K mg base C m (k + 1) S := by
  obtain ⟨f, fd, F1, hm⟩ := F.ex
  have r := (fn_mkX F1 sc len hb).raw (F1.binds bh) (ds := []) (dvs := []) .nil
  exact ⟨f, hm, r.imp fun vs H Q E h => by rw [List.append_nil]; exact h⟩
theorem pk_mk {x qual : Str} {st : Stmt} {N ps : List Str} {k : Nat} {S : FX} (F : MakeG K mg x C qual st) (sc : FnScope N ps (defScope st)) (bh : BindM "__init__" qual st ps) (len : ∀ Y Z ds o, S Y Z ds o → ds.length = ps.length) (hb : BodyX P w K mg base qual st N k S) : Pk P w K mg base x C (k + 1) S := by
  obtain ⟨f, fd, F1, hm, hg⟩ := F.ex
  have r := (fn_mkX F1 sc len hb).raw (F1.binds bh) (ds := []) (dvs := []) .nil
  exact ⟨f, hm, r.imp fun vs H Q E h => by rw [List.append_nil]; exact h, hg⟩
theorem pp_mk {m qual : Str} {st : Stmt} {N ps : List Str} {k : Nat} {S : FX} (F : PropG K C m qual st) (sc : FnScope N ps (defScope st)) (bh : BindM m qual st ps) (len : ∀ Y Z ds o, S Y Z ds o → ds.length = ps.length) (hb : BodyX P w K mg base qual st N k S) : Pp P w K mg base C m (k + 1) S := by
  obtain ⟨p, f, fd, F1, hm⟩ := F.ex
  exact ⟨p, f, fd, ps, hm, fn_mkX F1 sc len hb, F1.binds bh⟩
/-- def m(self, *v) -/
theorem px_star {m qual pv : Str} {st : Stmt} {N : List Str} {k : Nat} {S S' : FX} (F : MethG K C m qual st) (sc : FnScope N ["self", pv] (defScope st))
    (bh : ∀ (kV doc pm : Value) (an : Option Addr) (cdv ct : Value) (us rest : List Value), us.length = 1 → bindArgs (PySem.W.fnOf m qual (defArgs st) (defBody st) (defScope st) .none kV doc pm an cdv ct) ⟨us ++ rest, []⟩ = (newTuple rest >>= fun t => pure ((["self"] : List Str).zip us ++ [(pv, t)])))
    (hS : ∀ Y Z d ds o, S Y Z (d :: ds) o → S' Y Z [d, .tup ds] o ∧ ds.length ≤ 100000) (h1 : ∀ Y Z ds o, S Y Z ds o → ds ≠ []) (hb : BodyX P w K mg base qual st N k S') : Px P w K mg base C m (k + 1) S := by
  obtain ⟨f, fd, F1, hm⟩ := F.ex
  obtain ⟨oc, od, kV, doc, pm, an, cdv, ct, osl, rfl, lk, hcd⟩ := F1.ex
  refine ⟨f, hm, FnR.imp (StX.fn_star (ps := ["self"]) (pv := pv) (sp := spX K S') lk hcd sc StX.cxUp (bh kV doc pm an cdv ct) fun A outer s H vs Q E hr h => ?_) fun vs H Q E h => ?_⟩
  · obtain ⟨t, ht, hg⟩ := hb f cdv A outer s H E hr
    exact ⟨t, ht, body_goX hg h⟩
  · obtain ⟨Y, Z, ds, o, hy, hn, hz, hzy, im, s, q⟩ := h
    cases im with
    | nil => exact absurd rfl (h1 _ _ _ _ s)
    | @cons v vs d ds i1 im =>
      obtain ⟨s', hl⟩ := hS _ _ _ _ _ s
      refine ⟨[v], vs, rfl, rfl, by rw [im.length]; exact Nat.le_trans hl (by decide), fun p hp => ?_⟩
      have sm : Same H (upd H p (.tup vs)) := Same.new hp
      refine ⟨Y, Z, [d, .tup ds], o, hy.same sm, hn, fun q hq => (hz q hq).same sm, hzy, .cons (i1.tx (Same.tx sm)) (.cons (.tup (SqT.of upd_same) (im.tx (Same.tx sm))) .nil), s', ?_⟩
      cases o with
      | ret R => exact fun v H' d N r rest t hf hnN hoN i => q v H' d N r (fun a o e => rest a o (sm a o e)) ((Same.tx sm).trans t) (fun z hz => (hf z hz).imp (fun h => sm.free h) id) hnN hoN i
      | exc X => exact fun H' rest ow => q H' (fun a o e => rest a o (sm a o e)) ow
end
section
variable {X : Cx} {x m : Str} {p pos apos : Pos} {o e : Expr} {es : List Expr} {te : TE} {t : TA} {k j : Nat} {P : Program} {w : World} {K : PySem.W.Frag} {mg : Str → Option Value} {base : Heap} {C : Addr} {S : FX} {E : XK}
theorem pe_mx {pl : Sem Bool} (F : Px P w K mg base C m k S) (c : Cls K C) (hr : Room j X.A) (hj : k ≤ j) (hx : Passes (L2.CX P w) X E) (he : PE X o te) (ha : PA X (e :: es) t) (hP : X.prog = P := by rfl) (hw : X.w = w := by rfl) (hK : X.K = K := by rfl) (hm : X.mg = mg := by rfl) (hb : X.base = base := by rfl)
    (hst : starEach (e :: es) X.env = (false, eval e X.env) :: starEach es X.env := by rfl) (hpl : (backTo pos (starEach es X.env)).any (·.1) = false := by rfl)
    (ht : eval (.Call (.Attribute o m apos) (e :: es) [] pos) X.env = (do
      let ov ← eval o X.env
      standAt apos.atName
      let (f, first) ← holding [ov] (getMethod ov m pl)
      callWith pos f first (backTo pos (starEach (e :: es) X.env)) (backToKw pos (keywordEach [] X.env))) := by rfl) : PE X (.Call (.Attribute o m apos) (e :: es) [] pos) (tMeth C m (spX K S) [] E te t) := by
  subst hP hw hK hm hb
  obtain ⟨f, hm, F1⟩ := F.ex
  refine ⟨fun pins s σ H Q I h => ?_⟩
  refine PySem.W.methodCall_KW (pl := pl) (thn (he.run pins s σ H _ I h) fun u s1 ⟨x, H1, I1, rx, a, dx, fs, ex, ea, l, q⟩ => ?_) ht
  subst ex
  obtain rfl : u = Value.ref a := rx
  refine getmeth_ok I1 ea c hm l ?_
  refine PySem.W.callWith_K (first := [.ref a]) (h₀ := X.base) I.ok.mod.kin hm.kp (thn (ha.run pos pins s1 σ H1 _ I1 q) fun us s2 ⟨vs, H2, I2, r, q2⟩ => ⟨I2.kIn, ?_⟩) hst hpl
  have q2 : spX X.K S (V.ref a :: (vs ++ [])) H2 Q E := q2
  rw [List.append_nil] at q2
  exact wpAny_call (run_fnR (us := .ref a :: us) (vs := .ref a :: vs) (F1.mono hj) hr hx I2 (.cons rfl r) q2)
theorem pe_mx0 {pl : Sem Bool} (F : Px P w K mg base C m k S) (c : Cls K C) (hr : Room j X.A) (hj : k ≤ j) (hx : Passes (L2.CX P w) X E) (he : PE X o te) (hP : X.prog = P := by rfl) (hw : X.w = w := by rfl) (hK : X.K = K := by rfl) (hm : X.mg = mg := by rfl) (hb : X.base = base := by rfl)
    (ht : eval (.Call (.Attribute o m apos) [] [] pos) X.env = (do
      let ov ← eval o X.env
      standAt apos.atName
      let (f, first) ← holding [ov] (getMethod ov m pl)
      callWith pos f first (backTo pos (starEach [] X.env)) (backToKw pos (keywordEach [] X.env))) := by rfl) : PE X (.Call (.Attribute o m apos) [] [] pos) (tMeth C m (spX K S) [] E te tNil) := by
  subst hP hw hK hm hb
  obtain ⟨f, hm, F1⟩ := F.ex
  refine ⟨fun pins s σ H Q I h => ?_⟩
  refine PySem.W.methodCall_KW (pl := pl) (thn (he.run pins s σ H _ I h) fun u s1 ⟨x, H1, I1, rx, a, dx, fs, ex, ea, l, q⟩ => ?_) ht
  subst ex
  obtain rfl : u = Value.ref a := rx
  refine getmeth_ok I1 ea c hm l ?_
  exact PySem.W.callWith_K0 (first := [.ref a]) I1.kIn hm.kp (wpAny_call (run_fnR (us := [.ref a]) (vs := [.ref a]) (F1.mono hj) hr hx I1 (.cons rfl .nil) q))
theorem pe_mk (F : Pk P w K mg base x C k S) (hr : Room j X.A) (hj : k + 1 ≤ j) (hx : Passes (L2.CX P w) X E) (hg : Gl X x) (ha : PA X (e :: es) t) (hP : X.prog = P := by rfl) (hw : X.w = w := by rfl) (hK : X.K = K := by rfl) (hm : X.mg = mg := by rfl) (hb : X.base = base := by rfl) (hdb : (x == ("__debug__" : Str)) = false := by decide)
    (he : starEach (e :: es) X.env = (false, eval e X.env) :: starEach es X.env := by rfl) (hpl : (backTo pos (starEach es X.env)).any (·.1) = false := by rfl) : PE X (.Call (.Name x p) (e :: es) [] pos) (StX.tMakeR C (spX K S) E t) := by
  subst hP hw hK hm hb
  obtain ⟨f, M, F1, hC⟩ := F.ex
  exact StX.pe_makeR M F1 (hr.mono hj) hg hC hx ha hdb he hpl
theorem pe_pp {f : Str} (F : Pp P w K mg base C f k S) (c : Cls K C) (hr : Room j X.A) (hj : k + 1 ≤ j) (hx : Passes (L2.CX P w) X.nox E) (he : PE X e te) (hP : X.prog = P := by rfl) (hw : X.w = w := by rfl) (hK : X.K = K := by rfl) (hm : X.mg = mg := by rfl) (hb : X.base = base := by rfl) (hab : attributeBase e f X.env (eval e X.env) = eval e X.env := by rfl) : PE X (.Attribute e f pos) (tProp C (spX K S) [] E te) := by
  subst hP hw hK hm hb
  obtain ⟨q, f', fd, ps, hp, F1, hb⟩ := F.ex
  exact pe_prop he c hp F1 (hr.mono hj) hb .nil hx hab
theorem pmk_err {n : Nat} {p2 : Pos} {z : Str} (G : ErrG K mg x C) (hg : Gl X x) (hK : X.K = K := by rfl) (hm : X.mg = mg := by rfl) (hdb : (x == ("__debug__" : Str)) = false := by decide) : PMk X (.Call (.Name x p) [.Constant (.str z) n p2] [] pos) (fun _ H Q => Q (.ref C) none H) := by
  subst hK hm
  exact pmk_own F.excBase_ValueError G.exc G.gC G.kC (raises_own G.sub G.ty) hg hdb
end
/-- raise X('..') -/
def tRz (C : Addr) (W : WX) : TS := fun _ σ H => W (.ref C) none σ H
theorem ps_rz {X : Cx} {W : WX} {e : Expr} {C : Addr} {pos : Pos} (hc : X.calm = true) (tk : Takes X W) (he : PMk X e (fun _ H Q => Q (.ref C) none H)) : PS X (.Raise (some e) none pos) (tRz C W) := ps_raise hc tk he
theorem go_rz {K : PySem.W.Frag} {H0 : Hp} {G : Ga} {L : Hl} {C : Addr} {E : XK} {us : TS} {p : Po} (hE : ∀ H, HS K H0 L H → E (.ref C) none H) : Go K H0 G L (tSeq (tRz C fun cls d _ H => E cls d H) us) p := fun T σ H D t st s => hE H st.hs
theorem gq_asg {K : PySem.W.Frag} {H0 : Hp} {G G' : Ga} {L : Hl} {te : TE} {d : D} {g : TG} {us : TS} {p : Po} (h : EvP K H0 G L te d) (hg : EvG K H0 G d g G') (hk : Go K H0 G' L us p) : Go K H0 G L (tSeq (tAsg te g) us) p :=
  gq_setN (P := fun d' N => d' = d ∧ N = []) (h.nw ⟨rfl, rfl⟩) fun d N e => by obtain ⟨rfl, rfl⟩ := e; exact ⟨G', hg, hk⟩
/-- what raises -/
def EvX (K : PySem.W.Frag) (H0 : Hp) (G : Ga) (L : Hl) (te : TE) : Prop := ∀ σ H, Stt K H0 G L σ H → ∀ Q : VK, te σ H Q
section
variable {K : PySem.W.Frag} {H0 : Hp} {G : Ga} {L : Hl} {te ta tb : TE} {x : D} {p : Po} {us : TS} {r : R2} {g : TG}
theorem evx_op2 (ha : EvP K H0 G L ta x) (hb : EvX K H0 G L tb) : EvX K H0 G L (tOp r ta tb) := fun σ H s Q => ha σ H s _ fun u H1 e1 i1 => hb σ H1 (s.same e1) _
theorem evx_op1 (ha : EvX K H0 G L ta) : EvX K H0 G L (tOp r ta tb) := fun σ H s Q => ha σ H s _
theorem evx_sl {rs : V → Option Int → Option Int → Hp → VK → Prop} {tl th : TO} (ha : EvX K H0 G L ta) : EvX K H0 G L (tSl rs ta tl th) := fun σ H s Q => ha σ H s _
theorem gqx_drop (h : EvX K H0 G L te) : Go K H0 G L (tSeq (tDrop te) us) p := fun T σ H E t st s => h σ H st _
theorem gqx_ret (h : EvX K H0 G L te) : Go K H0 G L (tSeq (tRet te) us) p := fun T σ H E t st s => h σ H st _
theorem gqx_fld {f : Str} (h : EvX K H0 G L te) : Go K H0 G L (tSeq (sFld K ta te f) us) p := fun T σ H E t st s => h σ H st _
theorem evx_m {S : FX} {Y Z : Hl} {E : XK} {C a dx X : Addr} {m : Str} {fs : List (Str × D)} {ta : TA} {ds : List D} (ho : EvP K H0 G L te (.ref a)) (hk : Lk K H0 L a (.ins C dx fs)) (hm : fs.lookup m = none) (ha : EvA K H0 G L ta ds) (hS : S Y Z (.ref a :: ds) (.exc X)) (hY : ∀ p ∈ Y, p ∈ L) (hn : (Y.map (·.1)).Nodup) (hr : ∀ p ∈ Z, Lk K H0 L p.1 p.2 ∧ p.1 ∉ Y.map (·.1))
    (hE : ∀ H', HS K H0 L H' → E (.ref X) none H') : EvX K H0 G L (tMeth C m (spX K S) [] E te ta) := fun σ H st Q => evx_mx ho hk hm ha hS hY hn hr st (fun H' _ h => hE H' h) Q
end
end Fc

namespace Fc
open PySem PySem.Spec PyProof.Rows L2
section
variable {K : PySem.W.Frag} {H0 H H' : Hp} {G G' : Ga} {L L' N : Hl} {σ : L2.St} {te ta tb tc : TE} {d x y z : D} {ds xs ys : List D} {P R : D → Hl → Prop}
/-- a list, new or of L -/
def EvL (K : PySem.W.Frag) (H0 : Hp) (G : Ga) (L : Hl) (te : TE) (ds : List D) : Prop := EvN K H0 G L te (fun d N => ∃ a, d = .ref a ∧ ((a, O.lst ds) ∈ N ∨ (a, O.lst ds) ∈ L))
theorem el_new (h : EvN K H0 G L te (New1 (.lst ds))) : EvL K H0 G L te ds := h.imp fun d N ⟨a, e, m⟩ => ⟨a, e, .inl (by rw [m]; exact List.mem_cons_self)⟩
theorem el_old {a : Addr} (h : EvP K H0 G L te (.ref a)) (hk : (a, O.lst ds) ∈ L) : EvL K H0 G L te ds := h.nw ⟨a, rfl, .inr hk⟩
theorem en_cat (ha : EvL K H0 G L ta xs) (hb : EvL K H0 G L tb ys) (hz : xs.length + ys.length ≤ 100000) : EvN K H0 G L (tOp rCat ta tb) (New1 (.lst (xs ++ ys))) := fun σ H st Q q =>
  ha σ H st _ fun u H1 d1 N1 ⟨a, e1', m1⟩ e1 hf1 hn1 ho1 i1 => by
    subst e1'
    refine hb.sub (List.sublist_append_right N1 L) σ H1 (st.add e1 hf1 hn1 ho1) _ fun v H2 d2 N2 ⟨b, e2', m2⟩ e2 hf2 hn2 ho2 i2 => ?_
    subst e2'
    cases i1; cases i2
    have s2 := ((st.add e1 hf1 hn1 ho1).add e2 hf2 hn2 ho2).hs
    obtain ⟨us, hu, il⟩ := s2.lst (List.mem_append_right N2 (m1.elim (List.mem_append_left L) (List.mem_append_right N1)))
    obtain ⟨vs, hv, jl⟩ := s2.lst (m2.elim (fun h => List.mem_append_left (N1 ++ L) h) (fun h => List.mem_append_right N2 (List.mem_append_right N1 h)))
    refine ⟨a, b, us, vs, rfl, rfl, hu, hv, by rw [il.length, jl.length]; exact Nat.le_trans hz (by decide), fun p hp => ?_⟩
    obtain ⟨a1, a2, a3, a4⟩ := new1 (K := K) (u := .lst (us ++ vs)) (o := .lst (xs ++ ys)) hp (il.append jl)
    exact q _ _ (.ref p) [(p, .lst (xs ++ ys))] ⟨p, rfl, rfl⟩ ((e1.trans e2).trans a1) (fun z hz => (e1.trans e2).free (a2 z hz)) a3 a4 (.ref p)
theorem en_rep {k : Nat} (ha : EvL K H0 G L ta xs) (hk : EvP K H0 G L tb (.int (k : Int))) (hz : xs.length * k ≤ 100000) (hk2 : k ≤ 100000) : EvN K H0 G L (tOp rRep ta tb) (New1 (.lst (List.replicate k xs).flatten)) := fun σ H st Q q =>
  ha σ H st _ fun u H1 d1 N1 ⟨a, e1', m1⟩ e1 hf1 hn1 ho1 i1 => by
    subst e1'
    refine hk.sub (List.sublist_append_right N1 L) σ H1 (st.add e1 hf1 hn1 ho1) _ fun v H2 e2 i2 => ?_
    cases i1; cases i2
    have s2 := ((st.add e1 hf1 hn1 ho1).same e2).hs
    obtain ⟨us, hu, il⟩ := s2.lst (m1.elim (List.mem_append_left L) (List.mem_append_right N1))
    refine ⟨a, (k : Int), us, rfl, rfl, hu, by omega, by omega, by rw [il.length, Int.toNat_natCast]; exact Nat.le_trans hz (by decide), fun p hp => ?_⟩
    rw [Int.toNat_natCast]
    have fl : ∀ k, ImL K H2 (List.replicate k us).flatten (List.replicate k xs).flatten := fun k => by
      induction k with
      | zero => exact .nil
      | succ k ih => rw [List.replicate_succ, List.replicate_succ, List.flatten_cons, List.flatten_cons]; exact il.append ih
    obtain ⟨a1, a2, a3, a4⟩ := new1 (K := K) (u := .lst (List.replicate k us).flatten) (o := .lst (List.replicate k xs).flatten) hp (fl k)
    exact q _ _ (.ref p) [(p, .lst _)] ⟨p, rfl, rfl⟩ ((e1.trans e2).trans a1) (fun z hz => (e1.trans e2).free (a2 z hz)) a3 a4 (.ref p)
theorem en_slL {a : Addr} {tl th : TO} {lo hi : Option Int} (h : EvP K H0 G L te (.ref a)) (hk : Lk K H0 L a (.lst ds)) (hl : EvO K H0 G L tl lo) (hh : EvO K H0 G L th hi) : EvN K H0 G L (tSl (rSlL K) te tl th) (New1 (.lst (cutD ds lo hi))) := fun σ H s Q q =>
  h σ H s _ fun v H1 e1 i1 => hl σ H1 (s.same e1) _ fun H2 e2 => hh σ H2 ((s.same e1).same e2) _ fun H3 e3 => by
    cases i1
    obtain ⟨us, hu, il⟩ := hk.rdo (((s.same e1).same e2).same e3).hs
    refine ⟨a, us, rfl, hu, fun p hp => ?_⟩
    have cl : ImL K H3 (cutV us lo hi) (cutD ds lo hi) := by
      unfold cutV cutD
      rw [← il.length]
      exact ImL.take _ (ImL.drop _ il)
    obtain ⟨a1, a2, a3, a4⟩ := new1 (K := K) (u := .lst (cutV us lo hi)) (o := .lst (cutD ds lo hi)) hp cl
    have e13 := (e1.trans e2).trans e3
    exact q _ _ (.ref p) [(p, .lst _)] ⟨p, rfl, rfl⟩ (e13.trans a1) (fun z hz => e13.free (a2 z hz)) a3 a4 (.ref p)
/-- arguments: a value, then a new object -/
theorem ean_pn {P : D → Hl → Prop} (h1 : EvP K H0 G L ta x) (h2 : EvN K H0 G L tb P) : EvAN K H0 G L (tCons ta (tCons tb tNil)) (fun ds N => ∃ y, ds = [x, y] ∧ P y N) := fun σ H st R q =>
  h1 σ H st _ fun v H1 e i => h2 σ H1 (st.same e) _ fun v2 H2 d2 N2 m2 e2 hf2 hn2 ho2 i2 =>
    q [v, v2] H2 [x, d2] N2 ⟨d2, rfl, m2⟩ (e.trans e2) (fun p hp => e.free (hf2 p hp)) hn2 ho2 (.cons (i.tx (Same.tx e2)) (.cons i2 .nil))
theorem rv_pow {i j : Int} (h : CPow i j) : RvP K H0 L (rI CPow fun i j => .int (i ^ j.toNat)) (.int i) (.int j) (.int (i ^ j.toNat)) := rv_I h fun _ => .int _
end
end Fc

namespace Fc
open PySem PySem.Spec PyProof.Rows L2
section
variable {K : PySem.W.Frag} {H0 H H' : Hp} {G G' : Ga} {L L' N : Hl} {σ : L2.St} {te ta tb tc : TE} {d x y z : D} {ds xs ys : List D} {P R : D → Hl → Prop}
theorem em_callM {S : FM} {Z : Hl} {E : XK} {C a dx : Addr} {fs : List (Str × D)} {k : Nat} {ta : TA} (hk : L[k]? = some (a, .ins C dx fs)) (ha : EvA K H0 G L ta ds)
    (hS : S [(a, .ins C dx fs)] Z ds R) (hr : ∀ p ∈ Z, Lk K H0 L p.1 p.2 ∧ p.1 ≠ a) (hR : ∀ d N, R d N → ∃ o' N', N = (a, o') :: N') : EvM K H0 G L (tCall (spM K S) [] E ta) (fun d L' => ∃ o' N', R d ((a, o') :: N') ∧ L' = N' ++ L.set k (a, o')) := fun σ H st Q q => ha σ H st _ fun vs H2 e2 i2 => by
  have e1 : Same H H := Same.refl H
  have hmem := List.mem_of_getElem? hk
  show spM K S (vs ++ []) H2 Q E
  rw [List.append_nil]
  have s2 := (st.same e1).same e2
  refine ⟨_, Z, _, R, fun p hp => by rw [List.mem_singleton.mp hp]; exact s2.hs.own _ hmem, by simp, fun p hp => (hr p hp).1.rdo s2.hs, fun p hp => by simpa using (hr p hp).2, i2, hS, fun v H' d N r e t hf hn hoN i => ?_⟩
  obtain ⟨o', N', rfl⟩ := hR d N r
  have ne : ∀ b, b ≠ a → b ∉ List.map (fun x => x.fst) [(a, O.ins C dx fs)] := fun b hb => by simpa using hb
  have a0 : H0 a = none := st.hs.new _ hmem
  have hlt : k < L.length := (List.getElem?_eq_some_iff.mp hk).1
  have hNa : ∀ p ∈ N', p.1 ≠ a := fun p hp z => by
    have := (List.nodup_cons.mp (by simpa using hn : (a :: N'.map (·.1)).Nodup)).1
    exact this (z ▸ List.mem_map_of_mem hp)
  have hNf : ∀ p ∈ N', H2 p.1 = none := fun p hp => by
    rcases hf p (List.mem_cons_of_mem _ hp) with z | z
    · exact z
    · exact absurd (by simpa using z) (hNa p hp)
  have hml : (L.set k (a, o')).map (·.1) = L.map (·.1) := by
    rw [List.map_set]
    have : (L.map (·.1))[k]? = some a := by rw [List.getElem?_map, hk]; rfl
    obtain ⟨hlt, hv⟩ := List.getElem?_eq_some_iff.mp this
    rw [← hv]
    exact List.set_getElem_self hlt
  have hnd' := (List.nodup_cons.mp (by simpa using hn : (a :: N'.map (·.1)).Nodup)).2
  refine q v H' d _ ⟨o', N', r, rfl⟩ (((Same.tx e1).trans (Same.tx e2)).trans t) ⟨⟨fun b u hb => ?_, fun p hp => ?_, ?_, fun p hp => ?_⟩, s2.vr.tx t⟩ i
  · exact e b u (s2.hs.ext b u hb) (ne b (ne_of_none hb a0))
  · rcases List.mem_append.mp hp with hp | hp
    · exact hoN p (List.mem_cons_of_mem _ hp)
    · rcases List.mem_or_eq_of_mem_set hp with hp | hp
      · by_cases hpa : p.1 = a
        · have : p.1 ∈ (L.set k (a, o')).map (·.1) := List.mem_map_of_mem ‹p ∈ L.set k (a, o')›
          obtain ⟨j, hj⟩ := List.getElem?_of_mem ‹p ∈ L.set k (a, o')›
          by_cases hjk : k = j
          · subst hjk
            rw [List.getElem?_set_self hlt] at hj
            cases hj
            exact hoN _ List.mem_cons_self
          · exfalso
            have a1 : ((L.set k (a, o')).map (·.1))[j]? = some a := by rw [List.getElem?_map, hj]; exact congrArg some hpa
            have a2 : ((L.set k (a, o')).map (·.1))[k]? = some a := by rw [List.getElem?_map, List.getElem?_set_self hlt]; rfl
            rw [hml] at a1 a2
            exact hjk (ix_inj s2.hs.nd a2 a1)
        · obtain ⟨u, hu, ob⟩ := s2.hs.own p hp
          exact ⟨u, e _ _ hu (ne _ hpa), ob.tx t⟩
      · subst hp
        exact hoN _ List.mem_cons_self
  · rw [List.map_append, List.nodup_append, hml]
    refine ⟨hnd', s2.hs.nd, fun b hb c hc => ?_⟩
    obtain ⟨p, hp, rfl⟩ := List.mem_map.mp hb
    obtain ⟨w, hw, rfl⟩ := List.mem_map.mp hc
    obtain ⟨u, hu, _⟩ := s2.hs.own w hw
    exact fun z => ne_of_none hu (hNf p hp) z.symm
  · rcases List.mem_append.mp hp with hp | hp
    · exact s2.hs.ext.free (hNf p hp)
    · have : p.1 ∈ L.map (·.1) := by rw [← hml]; exact List.mem_map_of_mem hp
      obtain ⟨w, hw, ew⟩ := List.mem_map.mp this
      rw [← ew]
      exact s2.hs.new w hw

/-- an item of a new list -/
theorem ev_ixN {i : Int} (ha : EvN K H0 G L ta (New1 (.lst ds))) (hb : EvP K H0 G L tb (.int i)) (h : atI ds i = some z) : EvP K H0 G L (tOp (rIxL K) ta tb) z := fun σ H st Q q =>
  ha σ H st _ fun u H1 d1 N1 m e1 hf hn ho i1 => by
    obtain ⟨a, rfl, rfl⟩ := m
    have s1 := st.add e1 hf hn ho
    refine (hb.sub (List.sublist_append_right [(a, O.lst ds)] L)) σ H1 s1 _ fun v H2 e2 i2 => ?_
    exact rv_ixL (K := K) (H0 := H0) (L := [(a, O.lst ds)] ++ L) (.inl List.mem_cons_self) h H2 u v (s1.same e2).hs (i1.tx (Same.tx e2)) i2 Q fun w H3 e3 i3 => q w H3 ((e1.trans e2).trans e3) i3
end
end Fc

namespace Fc
/-! ## sums and determinants over the rationals, plain -/
def sm : Nat → (Nat → Rat) → Rat
  | 0, _ => 0
  | n + 1, f => sm n f + f n
theorem sm_congr {n : Nat} {f g : Nat → Rat} (h : ∀ i, i < n → f i = g i) : sm n f = sm n g := by
  induction n with
  | zero => rfl
  | succ n ih => rw [sm, sm, ih (fun i hi => h i (by omega)), h n (by omega)]
theorem sm_zero {n : Nat} {f : Nat → Rat} (h : ∀ i, i < n → f i = 0) : sm n f = 0 := by
  induction n with
  | zero => rfl
  | succ n ih => rw [sm, ih (fun i hi => h i (by omega)), h n (by omega)]; exact Rat.add_zero 0
theorem sm_add (n : Nat) (f g : Nat → Rat) : sm n (fun i => f i + g i) = sm n f + sm n g := by
  induction n with
  | zero => exact (Rat.add_zero 0).symm
  | succ n ih => rw [sm, sm, sm, ih]; grind
theorem sm_mul (n : Nat) (a : Rat) (f : Nat → Rat) : sm n (fun i => a * f i) = a * sm n f := by
  induction n with
  | zero => exact (Rat.mul_zero a).symm
  | succ n ih => rw [sm, sm, ih]; grind
theorem sm_le {n : Nat} {f g : Nat → Rat} (h : ∀ i, i < n → f i ≤ g i) : sm n f ≤ sm n g := by
  induction n with
  | zero => exact Rat.le_refl
  | succ n ih =>
    rw [sm, sm]
    have h1 := ih (fun i hi => h i (by omega))
    have h2 := h n (by omega)
    grind
theorem sm_nonneg {n : Nat} {f : Nat → Rat} (h : ∀ i, i < n → 0 ≤ f i) : 0 ≤ sm n f := by
  have := sm_le (f := fun _ => 0) (g := f) h
  rwa [sm_zero (fun _ _ => rfl)] at this
/-- one place apart -/
theorem sm_at {n k : Nat} {f : Nat → Rat} (hk : k < n) (h : ∀ i, i < n → i ≠ k → f i = 0) : sm n f = f k := by
  induction n with
  | zero => omega
  | succ n ih =>
    rw [sm]
    by_cases e : k = n
    · subst e
      rw [sm_zero (fun i hi => h i (by omega) (by omega))]; exact Rat.zero_add _
    · rw [ih (by omega) (fun i hi => h i (by omega)), h n (by omega) (by omega)]; exact Rat.add_zero _
theorem sm_two {n k : Nat} {f : Nat → Rat} (hk : k + 1 < n) (h : ∀ i, i < n → i ≠ k → i ≠ k + 1 → f i = 0) (e : f k + f (k + 1) = 0) : sm n f = 0 := by
  induction n with
  | zero => omega
  | succ n ih =>
    rw [sm]
    by_cases q : k + 1 = n
    · subst q
      rw [sm_at (k := k) (by omega) (fun i hi hne => h i (by omega) hne (by omega)), e]
    · rw [ih (by omega) (fun i hi => h i (by omega)), h n (by omega) (by omega) (by omega)]; exact Rat.add_zero 0
theorem sm_swap (n m : Nat) (f : Nat → Nat → Rat) : sm n (fun i => sm m (f i)) = sm m (fun j => sm n (fun i => f i j)) := by
  induction n with
  | zero => rw [sm]; exact (sm_zero (fun _ _ => rfl)).symm
  | succ n ih => rw [sm, ih, ← sm_add]; rfl
theorem sm_mul_right (n : Nat) (a : Rat) (f : Nat → Rat) : sm n (fun i => f i * a) = sm n f * a := by
  rw [Rat.mul_comm, ← sm_mul]; exact sm_congr fun i _ => Rat.mul_comm _ _

abbrev Mx := Nat → Nat → Rat
def sg : Nat → Rat
  | 0 => 1
  | n + 1 => - sg n
def mnr (B : Mx) (j : Nat) : Mx := fun r c => B (r + 1) (if c < j then c else c + 1)
def det : Nat → Mx → Rat
  | 0, _ => 1
  | k + 1, B => sm (k + 1) fun j => sg j * B 0 j * det k (mnr B j)
def setC (B : Mx) (t : Nat) (v : Nat → Rat) : Mx := fun r c => if c = t then v r else B r c
theorem det_congr : ∀ {k : Nat} {B C : Mx}, (∀ r c, r < k → c < k → B r c = C r c) → det k B = det k C
  | 0, _, _, _ => rfl
  | k + 1, B, C, h => by
    unfold det
    refine sm_congr fun j hj => ?_
    rw [h 0 j (by omega) hj, det_congr (C := mnr C j) fun r c hr hc => by unfold mnr; exact h _ _ (by omega) (by split <;> omega)]
theorem mnr_setC_self (B : Mx) (t : Nat) (v : Nat → Rat) : mnr (setC B t v) t = mnr B t := by
  funext r c
  unfold mnr setC
  rw [if_neg (by split <;> omega)]
theorem mnr_setC_ne (B : Mx) (t j : Nat) (v : Nat → Rat) (h : j ≠ t) : mnr (setC B t v) j = setC (mnr B j) (if t < j then t else t - 1) (fun r => v (r + 1)) := by
  funext r c
  unfold mnr setC
  by_cases hc : c < j
  · rw [if_pos hc]
    by_cases e : c = t
    · subst e; rw [if_pos rfl, if_pos hc, if_pos rfl]
    · rw [if_neg e, if_neg (by split <;> omega)]
      show _ = B (r + 1) (if c < j then c else c + 1)
      rw [if_pos hc]
  · rw [if_neg hc]
    by_cases e : c + 1 = t
    · rw [if_pos e, if_neg (show ¬ t < j by omega), if_pos (by omega)]
    · rw [if_neg e, if_neg (by split <;> omega)]
      show _ = B (r + 1) (if c < j then c else c + 1)
      rw [if_neg hc]
theorem det_lin : ∀ {k : Nat} (B : Mx) {t : Nat} (a : Rat) (u v : Nat → Rat), t < k → det k (setC B t fun r => a * u r + v r) = a * det k (setC B t u) + det k (setC B t v)
  | 0, _, _, _, _, _, h => by omega
  | k + 1, B, t, a, u, v, h => by
    unfold det
    rw [← sm_mul, ← sm_add]
    refine sm_congr fun j hj => ?_
    by_cases e : j = t
    · subst e
      rw [mnr_setC_self, mnr_setC_self, mnr_setC_self]
      have h1 : ∀ w : Nat → Rat, setC B j w 0 j = w 0 := fun w => if_pos rfl
      rw [h1, h1, h1]
      grind
    · rw [mnr_setC_ne _ _ _ _ e, mnr_setC_ne _ _ _ _ e, mnr_setC_ne _ _ _ _ e]
      have h1 : ∀ w : Nat → Rat, setC B t w 0 j = B 0 j := fun w => if_neg e
      rw [h1, h1, h1]
      rw [det_lin (mnr B j) a (fun r => u (r + 1)) (fun r => v (r + 1)) (by split <;> omega)]
      grind
theorem det_adj : ∀ {k : Nat} {B : Mx} {t : Nat}, t + 1 < k → (∀ r, B r t = B r (t + 1)) → det k B = 0
  | 0, _, _, h, _ => by omega
  | k + 1, B, t, h, e => by
    unfold det
    refine sm_two h (fun j hj h1 h2 => ?_) ?_
    · have : det k (mnr B j) = 0 := by
        by_cases hjt : j < t
        · refine det_adj (t := t - 1) (by omega) fun r => ?_
          unfold mnr
          rw [if_neg (by omega), if_neg (by omega), show t - 1 + 1 = t by omega]
          exact e _
        · refine det_adj (t := t) (by omega) fun r => ?_
          unfold mnr
          rw [if_pos (by omega), if_pos (by omega)]
          exact e _
      rw [this, Rat.mul_zero]
    · have : mnr B t = mnr B (t + 1) := by
        funext r c
        unfold mnr
        by_cases h1 : c < t
        · rw [if_pos h1, if_pos (by omega)]
        · by_cases h2 : c = t
          · subst h2; rw [if_neg h1, if_pos (by omega)]; exact (e _).symm
          · rw [if_neg h1, if_neg (by omega)]
      rw [this, e 0]
      show sg t * _ * _ + (- sg t) * _ * _ = 0
      grind
theorem setC_id (B : Mx) (t : Nat) : setC B t (fun r => B r t) = B := by
  funext r c
  unfold setC
  split
  · rename_i h; rw [h]
  · rfl
theorem setC_comm (B : Mx) {s t : Nat} (u v : Nat → Rat) (h : s ≠ t) : setC (setC B s u) t v = setC (setC B t v) s u := by
  funext r c
  unfold setC
  by_cases h1 : c = t
  · rw [if_pos h1, if_neg (by omega), if_pos h1]
  · rw [if_neg h1]
    by_cases h2 : c = s
    · rw [if_pos h2, if_pos h2]
    · rw [if_neg h2, if_neg h2, if_neg h1]
theorem det_lin0 {k : Nat} (B : Mx) {t : Nat} (u v : Nat → Rat) (h : t < k) : det k (setC B t fun r => u r + v r) = det k (setC B t u) + det k (setC B t v) := by
  have := det_lin B 1 u v h
  rw [Rat.one_mul] at this
  rw [← this]
  congr 1
  funext r c
  unfold setC
  simp only [Rat.one_mul]
/-- neighbouring columns changed about -/
theorem det_swap {k : Nat} (B : Mx) {t : Nat} (h : t + 1 < k) : det k (setC (setC B t fun r => B r (t + 1)) (t + 1) fun r => B r t) = - det k B := by
  let C := fun (u v : Nat → Rat) => setC (setC B t u) (t + 1) v
  have z : ∀ u, det k (C u u) = 0 := fun u => det_adj h fun r => by
    show setC (setC B t u) (t + 1) u r t = setC (setC B t u) (t + 1) u r (t + 1)
    unfold setC
    rw [if_neg (by omega), if_pos rfl, if_pos rfl]
  have l1 : ∀ u u' v, det k (C (fun r => u r + u' r) v) = det k (C u v) + det k (C u' v) := fun u u' v => by
    show det k (setC (setC B t _) (t + 1) v) = _
    rw [setC_comm _ _ _ (by omega), det_lin0 _ _ _ (by omega)]
    rw [setC_comm B v u (by omega), setC_comm B v u' (by omega)]
  have l2 : ∀ u v v', det k (C u (fun r => v r + v' r)) = det k (C u v) + det k (C u v') := fun u v v' => det_lin0 _ _ _ h
  let p := fun r => B r t
  let q := fun r => B r (t + 1)
  have e0 := z (fun r => p r + q r)
  rw [l1, l2, l2, z p, z q] at e0
  have eB : C p q = B := by
    funext r c
    show setC (setC B t p) (t + 1) q r c = B r c
    unfold setC
    by_cases h1 : c = t + 1
    · subst h1; rw [if_pos rfl]
    · rw [if_neg h1]
      by_cases h2 : c = t
      · subst h2; rw [if_pos rfl]
      · rw [if_neg h2]
  rw [eB] at e0
  show det k (C q p) = - det k B
  grind
/-- two equal columns -/
theorem det_eq : ∀ (d : Nat) {k : Nat} {B : Mx} {i j : Nat}, j = i + d + 1 → j < k → (∀ r, B r i = B r j) → det k B = 0
  | 0, k, B, i, j, hd, hj, e => det_adj (t := i) (by omega) (fun r => by rw [e, hd])
  | d + 1, k, B, i, j, hd, hj, e => by
    have sw := det_swap B (t := i + d + 1) (k := k) (by omega)
    have z : det k (setC (setC B (i + d + 1) fun r => B r (i + d + 1 + 1)) (i + d + 1 + 1) fun r => B r (i + d + 1)) = 0 :=
      det_eq d (i := i) (j := i + d + 1) rfl (by omega) fun r => by
        unfold setC
        rw [if_neg (by omega), if_neg (by omega), if_neg (by omega), if_pos rfl, e, hd]
        rfl
    rw [z] at sw
    grind
theorem det_eq2 {k : Nat} {B : Mx} {i j : Nat} (h : i ≠ j) (hi : i < k) (hj : j < k) (e : ∀ r, B r i = B r j) : det k B = 0 := by
  by_cases q : i < j
  · exact det_eq (j - i - 1) (by omega) hj e
  · exact det_eq (i - j - 1) (i := j) (j := i) (by omega) hi fun r => (e r).symm
/-- a sum of columns put in the place of t -/
theorem det_comb {k : Nat} (B : Mx) {t : Nat} (h : t < k) (y : Nat → Rat) (v : Nat → Rat) : ∀ m, m ≤ k → det k (setC B t fun r => sm m (fun e => y e * B r e) + v r) = (if t < m then y t * det k B else 0) + det k (setC B t v)
  | 0, _ => by
    rw [if_neg (by omega), Rat.zero_add]
    congr 1
    funext r c
    unfold setC sm
    simp only [Rat.zero_add]
  | m + 1, hm => by
    have ih := det_comb B h y v m (by omega)
    have e1 : (setC B t fun r => sm (m + 1) (fun e => y e * B r e) + v r) = setC B t fun r => y m * B r m + (sm m (fun e => y e * B r e) + v r) := by
      congr 1
      funext r
      rw [sm]
      grind
    rw [e1, det_lin B _ _ _ h, ih]
    by_cases q : m = t
    · subst q
      rw [setC_id, if_neg (by omega), if_pos (by omega)]
      grind
    · have z : det k (setC B t fun r => B r m) = 0 := det_eq2 (i := m) (j := t) q (by omega) h fun r => by
        unfold setC
        rw [if_neg q, if_pos rfl]
      rw [z]
      by_cases q2 : t < m
      · rw [if_pos q2, if_pos (by omega)]; grind
      · rw [if_neg q2, if_neg (by omega)]; grind
/-- Cramer -/
theorem cramer {k : Nat} {B : Mx} {y b : Nat → Rat} (h : ∀ r, r < k → sm k (fun e => B r e * y e) = b r) {t : Nat} (ht : t < k) : det k B * y t = det k (setC B t b) := by
  have c := det_comb B ht y (fun _ => 0) k (Nat.le_refl _)
  rw [if_pos ht] at c
  have z : det k (setC B t fun _ => 0) = 0 := by
    have := det_lin B (-1) (fun _ => 0) (fun _ => 0) ht
    have e : (fun (_ : Nat) => (-1 : Rat) * 0 + 0) = fun _ => 0 := by funext _; grind
    rw [e] at this
    grind
  rw [z, Rat.add_zero] at c
  rw [Rat.mul_comm, ← c]
  refine det_congr fun r cc hr hc => ?_
  unfold setC
  split
  · simp only [Rat.add_zero]
    rw [← h r hr]
    exact sm_congr fun i _ => Rat.mul_comm _ _
  · rfl
/-- the last column has one entry -/
theorem det_last : ∀ {k : Nat} {B : Mx}, (∀ r, r < k → B r k = 0) → det (k + 1) B = B k k * det k B
  | 0, B, h => by
    show 0 + 1 * B 0 0 * 1 = B 0 0 * 1
    grind
  | k + 1, B, h => by
    have e : det (k + 2) B = sm (k + 2) fun j => sg j * B 0 j * det (k + 1) (mnr B j) := rfl
    rw [e, sm, h 0 (by omega)]
    have z : sm (k + 1) (fun j => sg j * B 0 j * det (k + 1) (mnr B j)) = sm (k + 1) fun j => B (k + 1) (k + 1) * (sg j * B 0 j * det k (mnr B j)) := by
      refine sm_congr fun j hj => ?_
      rw [det_last (B := mnr B j) fun r hr => by
        unfold mnr
        rw [if_neg (by omega)]
        exact h _ (by omega)]
      have : mnr B j k k = B (k + 1) (k + 1) := by unfold mnr; rw [if_neg (by omega)]
      rw [this]
      grind
    rw [z, sm_mul]
    show B (k + 1) (k + 1) * det (k + 1) B + _ = _
    grind
/-- column t plus others -/
theorem det_addcol {k : Nat} (B : Mx) {t : Nat} (h : t < k) (y v : Nat → Rat) (hv : ∀ r, r < k → v r = B r t + sm k (fun e => if e = t then 0 else y e * B r e)) : det k (setC B t v) = det k B := by
  have c := det_comb B h (fun e => if e = t then 0 else y e) (fun r => B r t) k (Nat.le_refl _)
  simp only [if_pos h, if_true] at c
  rw [setC_id] at c
  have e : det k (setC B t v) = det k (setC B t fun r => sm k (fun e => (if e = t then 0 else y e) * B r e) + B r t) := det_congr fun r cc hr hc => by
    unfold setC
    split
    · rw [hv r hr, Rat.add_comm]
      congr 1
      refine sm_congr fun i _ => ?_
      split
      · exact (Rat.zero_mul _).symm
      · rfl
    · rfl
  rw [e, c]
  grind
end Fc

namespace Fc
/-! ## whole numbers and their size -/
def Iz (r : Rat) (b : Nat) : Prop := ∃ z : Int, r = (z : Rat) ∧ z.natAbs ≤ b
theorem Iz.mono {r : Rat} {a b : Nat} (h : Iz r a) (hb : a ≤ b) : Iz r b := let ⟨z, e, q⟩ := h; ⟨z, e, by omega⟩
theorem Iz.add {r q : Rat} {a b : Nat} (h : Iz r a) (g : Iz q b) : Iz (r + q) (a + b) := by
  obtain ⟨z, rfl, hz⟩ := h
  obtain ⟨y, rfl, hy⟩ := g
  exact ⟨z + y, (Rat.intCast_add z y).symm, by have := Int.natAbs_add_le z y; omega⟩
theorem Iz.neg {r : Rat} {a : Nat} (h : Iz r a) : Iz (-r) a := by
  obtain ⟨z, rfl, hz⟩ := h
  exact ⟨-z, (Rat.intCast_neg z).symm, by omega⟩
theorem Iz.mul {r q : Rat} {a b : Nat} (h : Iz r a) (g : Iz q b) : Iz (r * q) (a * b) := by
  obtain ⟨z, rfl, hz⟩ := h
  obtain ⟨y, rfl, hy⟩ := g
  exact ⟨z * y, (Rat.intCast_mul z y).symm, by rw [Int.natAbs_mul]; exact Nat.mul_le_mul hz hy⟩
theorem Iz.zero (b : Nat) : Iz 0 b := ⟨0, rfl, Nat.zero_le _⟩
theorem Iz.sm {b : Nat} {f : Nat → Rat} : ∀ {n : Nat}, (∀ i, i < n → Iz (f i) b) → Iz (sm n f) (n * b)
  | 0, _ => Iz.zero _
  | n + 1, h => by
    rw [Fc.sm, Nat.succ_mul]
    exact (Iz.sm fun i hi => h i (by omega)).add (h n (by omega))
def fc : Nat → Nat
  | 0 => 1
  | k + 1 => (k + 1) * fc k
theorem sg_iz : ∀ n, Iz (sg n) 1
  | 0 => ⟨1, rfl, by decide⟩
  | n + 1 => (sg_iz n).neg
theorem det_iz {m : Nat} : ∀ {k : Nat} {B : Mx}, (∀ r c, r < k → c < k → Iz (B r c) m) → Iz (det k B) (fc k * m ^ k)
  | 0, _, _ => ⟨1, rfl, by simp [fc]⟩
  | k + 1, B, h => by
    unfold det
    have := Iz.sm (b := 1 * m * (fc k * m ^ k)) (n := k + 1) (f := fun j => sg j * B 0 j * det k (mnr B j)) fun j hj =>
      ((sg_iz j).mul (h 0 j (by omega) hj)).mul (det_iz fun r c hr hc => by unfold mnr; exact h _ _ (by omega) (by split <;> omega))
    refine this.mono (Nat.le_of_eq ?_)
    rw [fc, Nat.pow_succ]
    grind
/-- a fraction by a multiple that is whole -/
theorem size_of {r e : Rat} {a b : Nat} (he : e ≠ 0) (h1 : Iz e a) (h2 : Iz (r * e) b) : r.num.natAbs ≤ b ∧ r.den ≤ a := by
  obtain ⟨y, rfl, hy⟩ := h1
  obtain ⟨z, hz, hzb⟩ := h2
  have hy0 : y ≠ 0 := fun q => he (by rw [q]; rfl)
  -- r.num * y = z * r.den
  have key : r.num * y = z * (r.den : Int) := by
    have hd : (r.den : Rat) ≠ 0 := fun q => r.den_nz (Rat.natCast_eq_zero_iff.mp q)
    have hr : r * (r.den : Rat) = (r.num : Rat) := by
      have q : r = (r.num : Rat) / (r.den : Rat) := by rw [← Rat.mkRat_eq_div, Rat.mkRat_self]
      conv => lhs; lhs; rw [q]
      exact Rat.div_mul_cancel hd
    have e1 : (r.num : Rat) * (y : Rat) = (z : Rat) * ((r.den : Int) : Rat) := by
      rw [← hr, ← hz, Rat.intCast_natCast]
      grind
    rw [← Rat.intCast_mul, ← Rat.intCast_mul] at e1
    exact Rat.intCast_inj.mp e1
  have cop : Nat.Coprime r.num.natAbs r.den := r.reduced
  have kn : r.num.natAbs * y.natAbs = z.natAbs * r.den := by
    have := congrArg Int.natAbs key
    rwa [Int.natAbs_mul, Int.natAbs_mul, Int.natAbs_natCast] at this
  have hden : r.den ∣ y.natAbs := by
    have : r.den ∣ r.num.natAbs * y.natAbs := ⟨z.natAbs, by rw [kn, Nat.mul_comm]⟩
    exact (Nat.Coprime.dvd_of_dvd_mul_left cop.symm this)
  have hnum : r.num.natAbs ∣ z.natAbs := by
    have : r.num.natAbs ∣ z.natAbs * r.den := ⟨y.natAbs, kn.symm⟩
    exact (Nat.Coprime.dvd_of_dvd_mul_right cop this)
  refine ⟨?_, Nat.le_trans (Nat.le_of_dvd (by omega) hden) hy⟩
  by_cases h0 : z = 0
  · subst h0
    have hn : r.num = 0 := by
      rw [Int.zero_mul] at key
      rcases Int.mul_eq_zero.mp key with q | q
      · exact q
      · exact absurd q hy0
    rw [hn]; exact Nat.zero_le _
  · exact Nat.le_trans (Nat.le_of_dvd (by omega) hnum) hzb

/-! ## the elimination -/
def dl (i c : Nat) : Rat := if i = c then 1 else 0
def nrm (p : Nat) (M : Mx) (c : Nat) : Rat := if c = p then 0 else M p c / (1 - M p p)
def stp (p : Nat) (M : Mx) : Mx := fun i c => if i = p then nrm p M c else if i < p then (if c = p then 0 else M i c + M i p * nrm p M c) else M i c
def el (n : Nat) (M : Mx) : Nat → Mx
  | 0 => M
  | k + 1 => stp (n - 1 - k) (el n M k)
/-- what is asked of the rows: nothing negative, strictly below a positive h -/
structure Sup (n : Nat) (M : Mx) (h : Nat → Rat) : Prop where
  nn : ∀ i c, 0 ≤ M i c
  pos : ∀ i, i < n → 0 < h i
  lt : ∀ i, i < n → sm n (fun c => M i c * h c) < h i
structure EI (n k : Nat) (M0 M : Mx) (h : Nat → Rat) : Prop where
  nn : ∀ i c, 0 ≤ M i c
  row : ∀ i, i < n - k → ∃ y : Nat → Rat, ∀ c, dl i c - M i c = (dl i c - M0 i c) + sm k (fun t => y t * (dl (n - 1 - t) c - M0 (n - 1 - t) c))
  zero : ∀ i, i < n - k → ∀ c, n - k ≤ c → c < n → M i c = 0
  lt : ∀ i, i < n - k → sm (n - k) (fun c => M i c * h c) < h i
  low : ∀ i, n - k ≤ i → i < n → ∀ c, i ≤ c → c < n → M i c = 0
theorem sm_pick {n p : Nat} {f : Nat → Rat} (hp : p < n) : sm n f = f p + sm n (fun c => if c = p then 0 else f c) := by
  have : sm n f = sm n (fun c => (if c = p then f p else 0) + (if c = p then 0 else f c)) := sm_congr fun i _ => by
    split
    · rename_i e; rw [e, Rat.add_zero]
    · rw [Rat.zero_add]
  rw [this, sm_add, sm_at (k := p) hp (fun i _ hi => if_neg hi), if_pos rfl]
theorem EI.piv {n k : Nat} {M0 M : Mx} {h : Nat → Rat} (E : EI n k M0 M h) (hp : ∀ i, i < n → 0 < h i) (hk : k < n) : M (n - 1 - k) (n - 1 - k) < 1 := by
  have hlt := E.lt (n - 1 - k) (by omega)
  have hh := hp (n - 1 - k) (by omega)
  rw [sm_pick (p := n - 1 - k) (by omega)] at hlt
  have h2 : 0 ≤ sm (n - k) (fun c => if c = n - 1 - k then 0 else M (n - 1 - k) c * h c) := sm_nonneg fun i hi => by
    split
    · exact Rat.le_refl
    · exact Rat.mul_nonneg (E.nn _ _) (Rat.le_of_lt (hp i (by omega)))
  have h3 : M (n - 1 - k) (n - 1 - k) * h (n - 1 - k) < 1 * h (n - 1 - k) := by grind
  exact Rat.lt_of_mul_lt_mul_right h3 (Rat.le_of_lt hh)
theorem EI.start {n : Nat} {M : Mx} {h : Nat → Rat} (s : Sup n M h) : EI n 0 M M h where
  nn := s.nn
  row := fun i _ => ⟨fun _ => 0, fun c => by rw [sm]; exact (Rat.add_zero _).symm⟩
  zero := fun i hi c h1 h2 => by omega
  lt := fun i hi => s.lt i (by omega)
  low := fun i h1 h2 => by omega
theorem EI.step {n k : Nat} {M0 M : Mx} {h : Nat → Rat} (E : EI n k M0 M h) (hp : ∀ i, i < n → 0 < h i) (hk : k < n) : EI n (k + 1) M0 (stp (n - 1 - k) M) h := by
  have pv := E.piv hp hk
  generalize hpp : n - 1 - k = p at *
  have hpn : p < n := by omega
  have hnk : n - k = p + 1 := by omega
  have hnk1 : n - (k + 1) = p := by omega
  have d0 : (1 : Rat) - M p p ≠ 0 := by grind
  have dp : (0 : Rat) < 1 - M p p := by grind
  have nn : ∀ c, 0 ≤ nrm p M c := fun c => by
    unfold nrm
    split
    · exact Rat.le_refl
    · rw [Rat.div_def]; exact Rat.mul_nonneg (E.nn _ _) (Rat.le_of_lt (Rat.inv_pos.mpr dp))
  have hst : ∀ i c, i < p → stp p M i c = if c = p then 0 else M i c + M i p * nrm p M c := fun i c hi => by
    unfold stp; rw [if_neg (by omega), if_pos hi]
  have hsum : sm p (fun c => nrm p M c * h c) < h p := by
    have hl := E.lt p (by omega)
    rw [hnk, sm] at hl
    have e : sm p (fun c => nrm p M c * h c) = sm p (fun c => M p c * h c) / (1 - M p p) := by
      rw [Rat.div_def, ← sm_mul_right]
      refine sm_congr fun c hc => ?_
      unfold nrm
      rw [if_neg (by omega), Rat.div_def]
      grind
    rw [e, Rat.div_lt_iff dp]
    grind
  refine ⟨fun i c => ?_, fun i hi => ?_, fun i hi c h1 h2 => ?_, fun i hi => ?_, fun i h1 h2 c h3 h4 => ?_⟩
  · unfold stp
    split
    · exact nn c
    · split
      · split
        · exact Rat.le_refl
        · exact Rat.add_nonneg (E.nn _ _) (Rat.mul_nonneg (E.nn _ _) (nn c))
      · exact E.nn _ _
  · rw [hnk1] at hi
    obtain ⟨y, hy⟩ := E.row i (by omega)
    obtain ⟨z, hz⟩ := E.row p (by omega)
    -- new row: old + f * row p
    refine ⟨fun t => if t = k then M i p / (1 - M p p) else y t + M i p / (1 - M p p) * z t, fun c => ?_⟩
    have e1 : dl i c - stp p M i c = (dl i c - M i c) + M i p / (1 - M p p) * (dl p c - M p c) := by
      rw [hst i c hi]
      by_cases hc : c = p
      · subst hc
        have e2 : dl c c = 1 := if_pos rfl
        have e3 : dl i c = 0 := if_neg (by omega)
        rw [if_pos rfl, e2, e3]
        have : M i c / (1 - M c c) * (1 - M c c) = M i c := Rat.div_mul_cancel d0
        grind
      · have e2 : dl p c = 0 := if_neg (by omega)
        rw [if_neg hc, e2]
        unfold nrm
        rw [if_neg hc, Rat.div_def, Rat.div_def]
        grind
    have e4 : sm (k + 1) (fun t => (if t = k then M i p / (1 - M p p) else y t + M i p / (1 - M p p) * z t) * (dl (n - 1 - t) c - M0 (n - 1 - t) c)) =
        sm k (fun t => y t * (dl (n - 1 - t) c - M0 (n - 1 - t) c)) + M i p / (1 - M p p) * sm k (fun t => z t * (dl (n - 1 - t) c - M0 (n - 1 - t) c)) + M i p / (1 - M p p) * (dl p c - M0 p c) := by
      rw [sm, ← sm_mul, ← sm_add, if_pos rfl, hpp]
      congr 1
      refine sm_congr fun t ht => ?_
      rw [if_neg (by omega)]
      grind
    rw [e1, hy c, hz c, e4]
    grind
  · rw [hnk1] at hi h1
    rw [hst i c hi]
    by_cases hc : c = p
    · rw [if_pos hc]
    · rw [if_neg hc, E.zero i (by omega) c (by omega) h2]
      unfold nrm
      rw [if_neg hc, E.zero p (by omega) c (by omega) h2, Rat.div_def]
      grind
  · rw [hnk1] at hi ⊢
    have hl := E.lt i (by omega)
    rw [hnk, sm] at hl
    have e : sm p (fun c => stp p M i c * h c) = sm p (fun c => M i c * h c) + M i p * sm p (fun c => nrm p M c * h c) := by
      rw [← sm_mul, ← sm_add]
      refine sm_congr fun c hc => ?_
      rw [hst i c hi, if_neg (by omega)]
      grind
    rw [e]
    have := Rat.mul_le_mul_of_nonneg_left (Rat.le_of_lt hsum) (E.nn i p)
    grind
  · rw [hnk1] at h1
    unfold stp
    by_cases hip : i = p
    · rw [if_pos hip]
      unfold nrm
      by_cases hc : c = p
      · rw [if_pos hc]
      · rw [if_neg hc, E.zero p (by omega) c (by omega) h4, Rat.div_def]; grind
    · rw [if_neg hip, if_neg (by omega)]
      exact E.low i (by omega) h2 c h3 h4
theorem el_ei {n : Nat} {M : Mx} {h : Nat → Rat} (s : Sup n M h) : ∀ k, k ≤ n → EI n k M (el n M k) h
  | 0, _ => EI.start s
  | k + 1, hk => (el_ei s k (by omega)).step s.pos (by omega)
/-- row p stays as it was made -/
theorem el_keep (n : Nat) (M : Mx) : ∀ {k : Nat} {i : Nat}, n - k ≤ i → k ≤ n → ∀ j, k ≤ j → j ≤ n → el n M j i = el n M k i
  | k, i, hi, hk, j, h1, h2 => by
    induction j with
    | zero => rw [show k = 0 by omega]
    | succ j ih =>
      by_cases e : k = j + 1
      · rw [e]
      · rw [← ih (by omega) (by omega)]
        funext c
        show stp (n - 1 - j) (el n M j) i c = el n M j i c
        unfold stp
        rw [if_neg (by omega), if_neg (by omega)]
theorem el_row (n : Nat) (M : Mx) {k : Nat} (hk : k < n) : el n M n (n - 1 - k) = nrm (n - 1 - k) (el n M k) := by
  rw [el_keep n M (k := k + 1) (i := n - 1 - k) (by omega) (by omega) n (by omega) (Nat.le_refl _)]
  funext c
  show stp (n - 1 - k) (el n M k) (n - 1 - k) c = _
  unfold stp
  rw [if_pos rfl]
end Fc

namespace Fc
/-! ## the size of what the elimination meets -/
structure Fit (n s : Nat) (M : Mx) : Prop where
  iz : ∀ i c, i < n → Iz ((s : Rat) * M i c) s
  s0 : 0 < s
def BM (n s : Nat) (M : Mx) : Mx := fun r t => (s : Rat) * (dl (n - 1 - t) (n - 1 - r) - M (n - 1 - t) (n - 1 - r))
theorem iz_dl (s i c : Nat) : Iz ((s : Rat) * dl i c) s := by
  unfold dl
  split
  · exact ⟨s, by rw [Rat.mul_one, Rat.intCast_natCast], by simp⟩
  · rw [Rat.mul_zero]; exact Iz.zero _
theorem Fit.row {n s : Nat} {M : Mx} (f : Fit n s M) {i : Nat} (hi : i < n) (c : Nat) : Iz ((s : Rat) * (dl i c - M i c)) (2 * s) := by
  have := (iz_dl s i c).add (f.iz i c hi).neg
  have e : (s : Rat) * (dl i c - M i c) = (s : Rat) * dl i c + -((s : Rat) * M i c) := by grind
  rw [e]
  exact this.mono (by omega)
theorem Fit.bm {n s : Nat} {M : Mx} (f : Fit n s M) {r t : Nat} (ht : t < n) : Iz (BM n s M r t) (2 * s) := f.row (by omega) _
theorem s_ne {n s : Nat} {M : Mx} (f : Fit n s M) : (s : Rat) ≠ 0 := fun e => by have := f.s0; rw [Rat.natCast_eq_zero_iff] at e; omega
section
variable {n s : Nat} {M : Mx} {h : Nat → Rat}
theorem det_ne (f : Fit n s M) (u : Sup n M h) : ∀ k, k ≤ n → det k (BM n s M) ≠ 0
  | 0, _ => by show (1 : Rat) ≠ 0; decide
  | k + 1, hk => by
    have E := el_ei u k (by omega)
    have pv := E.piv u.pos (by omega)
    have hs := s_ne f
    obtain ⟨y, hy⟩ := E.row (n - 1 - k) (by omega)
    let v : Nat → Rat := fun r => (s : Rat) * (dl (n - 1 - k) (n - 1 - r) - el n M k (n - 1 - k) (n - 1 - r))
    have e1 : det (k + 1) (setC (BM n s M) k v) = det (k + 1) (BM n s M) := det_addcol _ (by omega) y v fun r hr => by
      show (s : Rat) * _ = _
      rw [hy, sm, if_pos rfl, Rat.add_zero, Rat.mul_add, ← sm_mul]
      show BM n s M r k + _ = _
      congr 1
      refine sm_congr fun t ht => ?_
      rw [if_neg (by omega)]
      show _ = y t * ((s : Rat) * _)
      grind
    have e2 := det_last (k := k) (B := setC (BM n s M) k v) fun r hr => by
      unfold setC
      rw [if_pos rfl]
      show (s : Rat) * _ = 0
      rw [E.zero _ (by omega) _ (by omega) (by omega)]
      unfold dl
      rw [if_neg (by omega)]
      grind
    have e3 : det k (setC (BM n s M) k v) = det k (BM n s M) := det_congr fun r c hr hc => if_neg (by omega)
    rw [← e1, e2, e3]
    have e4 : setC (BM n s M) k v k k = (s : Rat) * (1 - el n M k (n - 1 - k) (n - 1 - k)) := by
      unfold setC
      rw [if_pos rfl]
      show (s : Rat) * (dl _ _ - _) = _
      unfold dl
      rw [if_pos rfl]
    rw [e4]
    intro q
    have ih := det_ne f u k (by omega)
    rcases Rat.mul_eq_zero.mp q with q | q
    · rcases Rat.mul_eq_zero.mp q with q | q
      · exact hs q
      · grind
    · exact ih q
abbrev bd (s k : Nat) : Nat := fc k * (2 * s) ^ k
/-- s D times a row -/
theorem row_iz (f : Fit n s M) (u : Sup n M h) {k : Nat} (hk : k ≤ n) {i : Nat} (hi : i < n - k) (c : Nat) : Iz ((s : Rat) * det k (BM n s M) * (dl i c - el n M k i c)) ((k + 1) * (bd s k * (2 * s))) := by
  have E := el_ei u k hk
  obtain ⟨y, hy⟩ := E.row i hi
  have cr : ∀ t, t < k → Iz (det k (BM n s M) * y t) (bd s k) := fun t ht => by
    rw [cramer (b := fun r => - ((s : Rat) * (dl i (n - 1 - r) - M i (n - 1 - r)))) (fun r hr => ?_) ht]
    · refine det_iz fun r c hr hc => ?_
      unfold setC
      split
      · exact (f.row (by omega) _).neg
      · exact f.bm (by omega)
    · have q := hy (n - 1 - r)
      rw [E.zero i hi _ (by omega) (by omega)] at q
      have z : dl i (n - 1 - r) = 0 := if_neg (by omega)
      have e : sm k (fun e => BM n s M r e * y e) = (s : Rat) * sm k (fun t => y t * (dl (n - 1 - t) (n - 1 - r) - M (n - 1 - t) (n - 1 - r))) := by
        rw [← sm_mul]
        refine sm_congr fun t _ => ?_
        show (s : Rat) * _ * _ = _
        grind
      rw [e]
      rw [z] at q ⊢
      have q2 : sm k (fun t => y t * (dl (n - 1 - t) (n - 1 - r) - M (n - 1 - t) (n - 1 - r))) = M i (n - 1 - r) := by grind
      rw [q2]
      grind
  have e : (s : Rat) * det k (BM n s M) * (dl i c - el n M k i c) = det k (BM n s M) * ((s : Rat) * (dl i c - M i c)) + sm k (fun t => (det k (BM n s M) * y t) * ((s : Rat) * (dl (n - 1 - t) c - M (n - 1 - t) c))) := by
    rw [hy c]
    have : sm k (fun t => (det k (BM n s M) * y t) * ((s : Rat) * (dl (n - 1 - t) c - M (n - 1 - t) c))) = (s : Rat) * det k (BM n s M) * sm k (fun t => y t * (dl (n - 1 - t) c - M (n - 1 - t) c)) := by
      rw [← sm_mul]
      exact sm_congr fun t _ => by grind
    rw [this]
    grind
  rw [e]
  have a := (det_iz (k := k) (B := BM n s M) (m := 2 * s) fun r c hr hc => f.bm (by omega)).mul (f.row (show i < n by omega) c)
  have b := Iz.sm (n := k) (b := bd s k * (2 * s)) (f := fun t => (det k (BM n s M) * y t) * ((s : Rat) * (dl (n - 1 - t) c - M (n - 1 - t) c))) fun t ht => (cr t ht).mul (f.row (by omega) c)
  refine (a.add b).mono ?_
  show bd s k * (2 * s) + k * (bd s k * (2 * s)) ≤ _
  generalize bd s k * (2 * s) = Q
  have e2 : (k + 1) * Q = k * Q + Q := Nat.succ_mul _ _
  omega
theorem sd_iz (f : Fit n s M) {k : Nat} (hk : k ≤ n) : Iz ((s : Rat) * det k (BM n s M)) (s * bd s k) :=
  (show Iz (s : Rat) s from ⟨s, by rw [Rat.intCast_natCast], by simp⟩).mul (det_iz fun r c hr hc => f.bm (by omega))
theorem sd_ne (f : Fit n s M) (u : Sup n M h) {k : Nat} (hk : k ≤ n) : (s : Rat) * det k (BM n s M) ≠ 0 := fun e => (Rat.mul_eq_zero.mp e).elim (s_ne f) (det_ne f u k hk)
/-- s D times an entry -/
theorem ent_iz (f : Fit n s M) (u : Sup n M h) {k : Nat} (hk : k ≤ n) {i : Nat} (hi : i < n - k) (c : Nat) : Iz (el n M k i c * ((s : Rat) * det k (BM n s M))) ((k + 2) * (bd s k * (2 * s))) := by
  have e : el n M k i c * ((s : Rat) * det k (BM n s M)) = ((s : Rat) * dl i c) * det k (BM n s M) + -((s : Rat) * det k (BM n s M) * (dl i c - el n M k i c)) := by grind
  rw [e]
  have a := (iz_dl s i c).mul (det_iz (k := k) (B := BM n s M) (m := 2 * s) fun r c hr hc => f.bm (by omega))
  refine (a.add (row_iz f u hk hi c).neg).mono ?_
  have : s * bd s k ≤ bd s k * (2 * s) := by rw [Nat.mul_comm s]; exact Nat.mul_le_mul_left _ (by omega)
  generalize bd s k * (2 * s) = Q at *
  have e2 : (k + 2) * Q = (k + 1) * Q + Q := Nat.succ_mul _ _
  have e3 : s * (fc k * (2 * s) ^ k) = s * bd s k := rfl
  rw [e2, e3]
  omega
/-- the same of a row that was made -/
def ep (n s : Nat) (M : Mx) (k : Nat) : Rat := (s : Rat) * det k (BM n s M) * (1 - el n M k (n - 1 - k) (n - 1 - k))
theorem ep_ne (f : Fit n s M) (u : Sup n M h) {k : Nat} (hk : k < n) : ep n s M k ≠ 0 := fun e => by
  have pv := (el_ei u k (by omega)).piv u.pos hk
  rcases Rat.mul_eq_zero.mp e with e | e
  · exact sd_ne f u (by omega) e
  · grind
theorem ep_iz (f : Fit n s M) (u : Sup n M h) {k : Nat} (hk : k < n) : Iz (ep n s M k) ((k + 1) * (bd s k * (2 * s))) := by
  have := row_iz f u (k := k) (by omega) (i := n - 1 - k) (by omega) (n - 1 - k)
  unfold dl at this
  rw [if_pos rfl] at this
  exact this
theorem nrm_iz (f : Fit n s M) (u : Sup n M h) {k : Nat} (hk : k < n) (c : Nat) : Iz (nrm (n - 1 - k) (el n M k) c * ep n s M k) ((k + 2) * (bd s k * (2 * s))) := by
  have pv := (el_ei u k (by omega)).piv u.pos hk
  unfold nrm
  split
  · rw [Rat.zero_mul]; exact Iz.zero _
  · have e : el n M k (n - 1 - k) c / (1 - el n M k (n - 1 - k) (n - 1 - k)) * ep n s M k = el n M k (n - 1 - k) c * ((s : Rat) * det k (BM n s M)) := by
      have d : (1 : Rat) - el n M k (n - 1 - k) (n - 1 - k) ≠ 0 := by grind
      unfold ep
      rw [Rat.div_def]
      have := Rat.inv_mul_cancel _ d
      grind
    rw [e]
    exact ent_iz f u (by omega) (by omega) c

/-! ## the solution -/
/-- the first p values -/
def sol (n : Nat) (R : Mx) (o : Nat) : Nat → Nat → Rat
  | 0 => fun _ => 0
  | p + 1 => fun j => if j = p then R p (n + o) + sm p (fun c => R p c * sol n R o p c) else sol n R o p j
theorem sol_keep (n : Nat) (R : Mx) (o : Nat) {j : Nat} : ∀ {p q : Nat}, j < p → p ≤ q → sol n R o q j = sol n R o p j := by
  intro p q hj hq
  induction q with
  | zero => omega
  | succ q ih =>
    by_cases e : p = q + 1
    · rw [e]
    · rw [← ih (by omega)]
      show (if j = q then _ else _) = _
      rw [if_neg (by omega)]
def X (n : Nat) (M : Mx) (o j : Nat) : Rat := sol n (el n M n) o n j
theorem X_eq (n : Nat) (M : Mx) (o : Nat) {p : Nat} (hp : p < n) : X n M o p = el n M n p (n + o) + sm p (fun c => el n M n p c * X n M o c) := by
  unfold X
  rw [sol_keep n _ o (p := p + 1) (by omega) (by omega)]
  show (if p = p then _ else _) = _
  rw [if_pos rfl]
  congr 1
  exact sm_congr fun c hc => by rw [sol_keep n _ o (p := p) (q := n) hc (by omega)]
/-- it solves each stage -/
theorem X_stage (u : Sup n M h) (o : Nat) : ∀ d k, k + d = n → ∀ i, i < n - k → X n M o i = sm (n - k) (fun c => el n M k i c * X n M o c) + el n M k i (n + o)
  | 0, k, hd, i, hi => by omega
  | d + 1, k, hd, i, hi => by
    have ih := X_stage u o d (k + 1) (by omega)
    have E := el_ei u k (by omega)
    have pv := E.piv u.pos (by omega)
    have xr := X_eq n M o (p := n - 1 - k) (by omega)
    rw [el_row n M (by omega)] at xr
    generalize hpp : n - 1 - k = p at *
    rw [show n - (k + 1) = p by omega] at ih
    rw [show n - k = p + 1 by omega, sm]
    have d0 : (1 : Rat) - el n M k p p ≠ 0 := by grind
    have hnp : n + o ≠ p := by omega
    by_cases e : i = p
    · subst e
      have q1 : sm i (fun c => nrm i (el n M k) c * X n M o c) = sm i (fun c => el n M k i c * X n M o c) / (1 - el n M k i i) := by
        rw [Rat.div_def, ← sm_mul_right]
        refine sm_congr fun c hc => ?_
        unfold nrm
        rw [if_neg (by omega), Rat.div_def]
        grind
      have q2 : nrm i (el n M k) (n + o) = el n M k i (n + o) / (1 - el n M k i i) := if_neg hnp
      rw [q1, q2] at xr
      have : X n M o i * (1 - el n M k i i) = el n M k i (n + o) + sm i (fun c => el n M k i c * X n M o c) := by
        rw [xr, Rat.add_mul, Rat.div_mul_cancel d0, Rat.div_mul_cancel d0]
      grind
    · have q := ih i (by omega)
      have st : ∀ c, el n M (k + 1) i c = if c = p then 0 else el n M k i c + el n M k i p * nrm p (el n M k) c := fun c => by
        show stp (n - 1 - k) (el n M k) i c = _
        rw [hpp]
        unfold stp
        rw [if_neg e, if_pos (by omega)]
      rw [st, if_neg hnp] at q
      have q1 : sm p (fun c => el n M (k + 1) i c * X n M o c) = sm p (fun c => el n M k i c * X n M o c) + el n M k i p * sm p (fun c => nrm p (el n M k) c * X n M o c) := by
        rw [← sm_mul, ← sm_add]
        refine sm_congr fun c hc => ?_
        rw [st, if_neg (by omega)]
        grind
      rw [q1] at q
      rw [q, xr]
      grind
theorem X_solves (u : Sup n M h) (o : Nat) {i : Nat} (hi : i < n) : X n M o i = sm n (fun c => M i c * X n M o c) + M i (n + o) := X_stage u o n 0 (by omega) i (by omega)
/-- a common multiple of all values -/
theorem X_iz (f : Fit n s M) (u : Sup n M h) (o : Nat) : ∀ p, p < n → Iz (X n M o p * ((s : Rat) * det n (BM n s M))) (n * (bd s n * (2 * s))) := by
  let Xc : Mx := fun p c => if c < n then 0 else X n M (c - n) p
  have key : ∀ m p, p < m → p < n → ∃ w : Nat → Rat, ∀ c, dl p c - Xc p c = sm n (fun t => w t * (dl (n - 1 - t) c - M (n - 1 - t) c)) := by
    intro m
    induction m with
    | zero => intro p hp; omega
    | succ m ih =>
      intro p hp hpn
      obtain ⟨k, hk⟩ : ∃ k, n - 1 - k = p ∧ k < n := ⟨n - 1 - p, by omega, by omega⟩
      obtain ⟨hkp, hkn⟩ := hk
      have E := el_ei u k (by omega)
      have En := el_ei u n (Nat.le_refl _)
      have pv := E.piv u.pos hkn
      obtain ⟨y, hy⟩ := E.row (n - 1 - k) (by omega)
      have rw1 := el_row n M hkn
      rw [hkp] at pv hy rw1
      have d0 : (1 : Rat) - el n M k p p ≠ 0 := by grind
      have W : ∃ W : Nat → Nat → Rat, ∀ j, j < p → ∀ c, dl j c - Xc j c = sm n (fun t => W j t * (dl (n - 1 - t) c - M (n - 1 - t) c)) := by
        refine ⟨fun j => if hj : j < p then Classical.choose (ih j (by omega) (by omega)) else fun _ => 0, fun j hj c => ?_⟩
        simp only [dif_pos hj]
        exact Classical.choose_spec (ih j (by omega) (by omega)) c
      obtain ⟨W, hW⟩ := W
      refine ⟨fun t => (if t < k then y t else if t = k then 1 else 0) * (1 - el n M k p p)⁻¹ + sm p (fun j => el n M n p j * W j t), fun c => ?_⟩
      -- the row that was made
      have e1 : dl p c - el n M n p c = (1 - el n M k p p)⁻¹ * (dl p c - el n M k p c) := by
        rw [rw1]
        unfold nrm
        by_cases hc : c = p
        · subst hc
          rw [if_pos rfl]
          have : dl c c = 1 := if_pos rfl
          rw [this, Rat.inv_mul_cancel _ d0]
          grind
        · rw [if_neg hc, Rat.div_def]
          have : dl p c = 0 := if_neg (by omega)
          rw [this]
          grind
      have e2 : dl p c - Xc p c = (dl p c - el n M n p c) + sm p (fun j => el n M n p j * (dl j c - Xc j c)) := by
        show dl p c - (if c < n then 0 else X n M (c - n) p) = _
        by_cases hc : c < n
        · rw [if_pos hc]
          have : sm p (fun j => el n M n p j * (dl j c - Xc j c)) = sm p (fun j => el n M n p j * dl j c) := sm_congr fun j _ => by
            show _ * (_ - (if c < n then 0 else _)) = _
            rw [if_pos hc]
            grind
          rw [this]
          by_cases hcp : c < p
          · rw [sm_at (k := c) hcp (fun j _ hj => by
              have : dl j c = 0 := if_neg hj
              rw [this, Rat.mul_zero])]
            have : dl c c = 1 := if_pos rfl
            rw [this]
            grind
          · rw [sm_zero (fun j hj => by
              have : dl j c = 0 := if_neg (by omega)
              rw [this, Rat.mul_zero]), En.low p (by omega) hpn c (by omega) hc]
            grind
        · rw [if_neg hc]
          have xq := X_eq n M (c - n) hpn
          rw [show n + (c - n) = c by omega] at xq
          rw [xq]
          have : sm p (fun j => el n M n p j * (dl j c - Xc j c)) = sm p (fun j => (-1) * (el n M n p j * X n M (c - n) j)) := sm_congr fun j hj => by
            show _ * (_ - (if c < n then 0 else _)) = _
            rw [if_neg hc]
            have : dl j c = 0 := if_neg (by omega)
            rw [this]
            grind
          rw [this, sm_mul]
          grind
      have e3 : sm p (fun j => el n M n p j * (dl j c - Xc j c)) = sm n (fun t => sm p (fun j => el n M n p j * W j t) * (dl (n - 1 - t) c - M (n - 1 - t) c)) := by
        have : sm p (fun j => el n M n p j * (dl j c - Xc j c)) = sm p (fun j => sm n (fun t => el n M n p j * W j t * (dl (n - 1 - t) c - M (n - 1 - t) c))) := sm_congr fun j hj => by
          rw [hW j hj c, ← sm_mul]
          exact sm_congr fun t _ => by grind
        rw [this, sm_swap]
        exact sm_congr fun t _ => by rw [sm_mul_right]
      have e4 : dl p c - el n M k p c = sm n (fun t => (if t < k then y t else if t = k then 1 else 0) * (dl (n - 1 - t) c - M (n - 1 - t) c)) := by
        rw [hy c]
        have sp : ∀ d, sm (k + 1 + d) (fun t => (if t < k then y t else if t = k then 1 else 0) * (dl (n - 1 - t) c - M (n - 1 - t) c)) = sm (k + 1) (fun t => (if t < k then y t else if t = k then 1 else 0) * (dl (n - 1 - t) c - M (n - 1 - t) c)) := by
          intro d
          induction d with
          | zero => rfl
          | succ d ih =>
            show sm (k + 1 + d) _ + _ = _
            rw [ih]
            show _ + (if k + 1 + d < k then y (k + 1 + d) else if k + 1 + d = k then 1 else 0) * _ = _
            rw [if_neg (by omega), if_neg (by omega)]
            grind
        have := sp (n - (k + 1))
        rw [show k + 1 + (n - (k + 1)) = n by omega] at this
        rw [this, sm, if_neg (by omega), if_pos rfl, hkp]
        have : sm k (fun t => (if t < k then y t else if t = k then 1 else 0) * (dl (n - 1 - t) c - M (n - 1 - t) c)) = sm k (fun t => y t * (dl (n - 1 - t) c - M (n - 1 - t) c)) := sm_congr fun t ht => by rw [if_pos ht]
        rw [this]
        grind
      rw [e2, e1, e3, e4, ← sm_mul, ← sm_add]
      exact sm_congr fun t _ => by grind
  intro p hp
  obtain ⟨w, hw⟩ := key (p + 1) p (by omega) hp
  have cr : ∀ t, t < n → Iz (det n (BM n s M) * w t) (bd s n) := fun t ht => by
    rw [cramer (b := fun r => (s : Rat) * dl p (n - 1 - r)) (fun r hr => ?_) ht]
    · refine det_iz fun r c hr hc => ?_
      unfold setC
      split
      · exact (iz_dl s _ _).mono (by omega)
      · exact f.bm (by omega)
    · have q := hw (n - 1 - r)
      have z : Xc p (n - 1 - r) = 0 := if_pos (by omega)
      rw [z] at q
      have e : sm n (fun e => BM n s M r e * w e) = (s : Rat) * sm n (fun t => w t * (dl (n - 1 - t) (n - 1 - r) - M (n - 1 - t) (n - 1 - r))) := by
        rw [← sm_mul]
        refine sm_congr fun t _ => ?_
        show (s : Rat) * _ * _ = _
        grind
      rw [e, ← q]
      grind
  have q := hw (n + o)
  have z : Xc p (n + o) = X n M o p := by
    show (if n + o < n then 0 else X n M (n + o - n) p) = _
    rw [if_neg (by omega), show n + o - n = o by omega]
  have z2 : dl p (n + o) = 0 := if_neg (by omega)
  rw [z, z2] at q
  have e : X n M o p * ((s : Rat) * det n (BM n s M)) = - sm n (fun t => (det n (BM n s M) * w t) * ((s : Rat) * (dl (n - 1 - t) (n + o) - M (n - 1 - t) (n + o)))) := by
    have : sm n (fun t => (det n (BM n s M) * w t) * ((s : Rat) * (dl (n - 1 - t) (n + o) - M (n - 1 - t) (n + o)))) = (s : Rat) * det n (BM n s M) * sm n (fun t => w t * (dl (n - 1 - t) (n + o) - M (n - 1 - t) (n + o))) := by
      rw [← sm_mul]
      exact sm_congr fun t _ => by grind
    rw [this, ← q]
    grind
  rw [e]
  exact (Iz.sm fun t ht => (cr t ht).mul (f.row (by omega) _)).neg
end
end Fc

namespace Fc
/-! ## tables, their matrix -/
inductive Rw where
  | fin (o : Nat) | go (l : List Nat)
def S2 (r : Rat) : Prop := r.num.natAbs < 2 ^ 2000 ∧ r.den < 2 ^ 2000
theorem fc_mono {a b : Nat} (h : a ≤ b) : fc a ≤ fc b := by
  induction b with
  | zero => rw [show a = 0 by omega]; exact Nat.le_refl _
  | succ b ih =>
    by_cases e : a = b + 1
    · rw [e]; exact Nat.le_refl _
    · exact Nat.le_trans (ih (by omega)) (by show fc b ≤ (b + 1) * fc b; exact Nat.le_mul_of_pos_left _ (by omega))
theorem fc_pos (a : Nat) : 0 < fc a := by
  induction a with
  | zero => decide
  | succ a ih => exact Nat.mul_pos (by omega) ih
theorem big : fc 100 * 12 ^ 100 < 2 ^ 885 := by decide +kernel
theorem bd_lt {s k : Nat} (hs : s ≤ 6) (hk : k ≤ 100) : bd s k < 2 ^ 885 := by
  refine Nat.lt_of_le_of_lt ?_ big
  refine Nat.mul_le_mul (fc_mono hk) ?_
  exact Nat.le_trans (Nat.pow_le_pow_left (by omega) k) (Nat.pow_le_pow_right (by omega) hk)
theorem bq_lt {s k : Nat} (hs : s ≤ 6) (hk : k ≤ 100) : (k + 2) * (bd s k * (2 * s)) < 2 ^ 896 := by
  have h := bd_lt hs hk
  have h1 : bd s k * (2 * s) ≤ 2 ^ 885 * 12 := Nat.mul_le_mul (by omega) (by omega)
  have h2 : (k + 2) * (bd s k * (2 * s)) ≤ 102 * (2 ^ 885 * 12) := Nat.mul_le_mul (by omega) h1
  exact Nat.lt_of_le_of_lt h2 (by decide +kernel)
theorem bq_lt1 {s k : Nat} (hs : s ≤ 6) (hk : k ≤ 100) : (k + 1) * (bd s k * (2 * s)) < 2 ^ 896 := Nat.lt_of_le_of_lt (Nat.mul_le_mul_right _ (by omega)) (bq_lt hs hk)
theorem sb_lt {s k : Nat} (hs : s ≤ 6) (hk : k ≤ 100) : s * bd s k < 2 ^ 896 := by
  have h := bd_lt hs hk
  exact Nat.lt_of_le_of_lt (Nat.mul_le_mul hs (Nat.le_of_lt h)) (by decide +kernel)
theorem p896 : (2 : Nat) ^ 896 < 2 ^ 2000 := by decide +kernel
theorem s2_of {r e : Rat} {a b : Nat} (he : e ≠ 0) (h1 : Iz e a) (h2 : Iz (r * e) b) (ha : a < 2 ^ 896) (hb : b < 2 ^ 896) : S2 r := by
  have := size_of he h1 h2
  have p := p896
  exact ⟨by omega, by omega⟩
section
variable {n s : Nat} {M : Mx} {h : Nat → Rat}
theorem ent_s2 (f : Fit n s M) (u : Sup n M h) (hs : s ≤ 6) (hn : n ≤ 100) {k i : Nat} (hi : i < n - k) (c : Nat) : S2 (el n M k i c) :=
  s2_of (sd_ne f u (by omega)) (sd_iz f (by omega)) (ent_iz f u (by omega) hi c) (sb_lt hs (by omega)) (bq_lt hs (by omega))
theorem rest_s2 (f : Fit n s M) (u : Sup n M h) (hs : s ≤ 6) (hn : n ≤ 100) {k : Nat} (hk : k < n) : S2 (1 - el n M k (n - 1 - k) (n - 1 - k)) := by
  have r := row_iz f u (k := k) (by omega) (i := n - 1 - k) (by omega) (n - 1 - k)
  have e : dl (n - 1 - k) (n - 1 - k) = 1 := if_pos rfl
  rw [e, Rat.mul_comm] at r
  exact s2_of (sd_ne f u (by omega)) (sd_iz f (by omega)) r (sb_lt hs (by omega)) (bq_lt1 hs (by omega))
theorem nrm_s2 (f : Fit n s M) (u : Sup n M h) (hs : s ≤ 6) (hn : n ≤ 100) {k : Nat} (hk : k < n) (c : Nat) : S2 (nrm (n - 1 - k) (el n M k) c) :=
  s2_of (ep_ne f u hk) (ep_iz f u hk) (nrm_iz f u hk c) (bq_lt1 hs (by omega)) (bq_lt hs (by omega))
theorem fin_s2 (f : Fit n s M) (u : Sup n M h) (hs : s ≤ 6) (hn : n ≤ 100) {p : Nat} (hp : p < n) (c : Nat) : S2 (el n M n p c) := by
  have := nrm_s2 f u hs hn (k := n - 1 - p) (by omega) c
  rw [show n - 1 - (n - 1 - p) = p by omega] at this
  have e := el_row n M (k := n - 1 - p) (by omega)
  rw [show n - 1 - (n - 1 - p) = p by omega] at e
  rwa [e]
theorem X_s2 (f : Fit n s M) (u : Sup n M h) (hs : s ≤ 6) (hn : n ≤ 100) (o : Nat) {p : Nat} (hp : p < n) : S2 (X n M o p) := by
  refine s2_of (sd_ne f u (Nat.le_refl n)) (sd_iz f (Nat.le_refl n)) (X_iz f u o p hp) (sb_lt hs hn) ?_
  exact Nat.lt_of_le_of_lt (Nat.mul_le_mul_right _ (by omega)) (bq_lt hs hn)
/-- a value on the way -/
def part (n : Nat) (M : Mx) (o p : Nat) (b : Nat → Bool) : Rat := el n M n p (n + o) + sm p (fun c => if b c = true then el n M n p c * X n M o c else 0)
theorem part_sz (f : Fit n s M) (u : Sup n M h) (hs : s ≤ 6) (hn : n ≤ 100) (o : Nat) {p : Nat} (hp : p < n) (b : Nat → Bool) : (part n M o p b).num.natAbs < 2 ^ 4000 ∧ (part n M o p b).den < 2 ^ 4000 := by
  let k := n - 1 - p
  have hk : k < n := by omega
  have hkp : n - 1 - k = p := by omega
  have e := el_row n M hk
  rw [hkp] at e
  have nz : ep n s M k * ((s : Rat) * det n (BM n s M)) ≠ 0 := fun q => (Rat.mul_eq_zero.mp q).elim (ep_ne f u hk) (sd_ne f u (Nat.le_refl n))
  have i1 := (ep_iz f u hk).mul (sd_iz (s := s) f (Nat.le_refl n))
  have q1 := (nrm_iz f u hk (n + o)).mul (sd_iz (s := s) f (Nat.le_refl n))
  have A : ∀ c, c < p → Iz ((if b c = true then el n M n p c * X n M o c else 0) * (ep n s M k * ((s : Rat) * det n (BM n s M)))) (((k + 2) * (bd s k * (2 * s))) * (n * (bd s n * (2 * s)))) := fun c hc => by
    split
    · have := (nrm_iz f u hk c).mul (X_iz f u o c (by omega))
      rw [hkp] at this
      rw [e]
      have e2 : nrm p (el n M k) c * X n M o c * (ep n s M k * ((s : Rat) * det n (BM n s M))) = nrm p (el n M k) c * ep n s M k * (X n M o c * ((s : Rat) * det n (BM n s M))) := by grind
      rw [e2]
      exact this
    · rw [Rat.zero_mul]; exact Iz.zero _
  have q2 := Iz.sm A
  rw [sm_mul_right] at q2
  rw [hkp] at q1
  have q := q1.add q2
  have e3 : nrm p (el n M k) (n + o) * ep n s M k * ((s : Rat) * det n (BM n s M)) + sm p (fun c => if b c = true then el n M n p c * X n M o c else 0) * (ep n s M k * ((s : Rat) * det n (BM n s M))) = part n M o p b * (ep n s M k * ((s : Rat) * det n (BM n s M))) := by
    unfold part
    rw [e]
    grind
  rw [e3] at q
  have sz := size_of nz i1 q
  have b1 := bq_lt (s := s) (k := k) hs (by omega)
  have b2 := bq_lt1 (s := s) (k := k) hs (by omega)
  have b3 := sb_lt (s := s) (k := n) hs hn
  have b4 : n * (bd s n * (2 * s)) < 2 ^ 896 := Nat.lt_of_le_of_lt (Nat.mul_le_mul_right _ (by omega)) (bq_lt hs hn)
  have c1 := Nat.mul_le_mul (Nat.le_of_lt b2) (Nat.le_of_lt b3)
  have c2 := Nat.mul_le_mul (Nat.le_of_lt b1) (Nat.le_of_lt b3)
  have c3 := Nat.mul_le_mul (show p ≤ 100 by omega) (Nat.mul_le_mul (Nat.le_of_lt b1) (Nat.le_of_lt b4))
  have p1 : (2 : Nat) ^ 896 * 2 ^ 896 < 2 ^ 4000 := by decide +kernel
  have p2 : (2 : Nat) ^ 896 * 2 ^ 896 + 100 * (2 ^ 896 * 2 ^ 896) < 2 ^ 4000 := by decide +kernel
  exact ⟨Nat.lt_of_le_of_lt sz.1 (Nat.lt_of_le_of_lt (Nat.add_le_add c2 c3) p2), Nat.lt_of_le_of_lt sz.2 (Nat.lt_of_le_of_lt c1 p1)⟩
end

/-! ### the matrix of a table -/
def cnt (l : List Nat) (c : Nat) : Nat := l.count c
def rowM (n s many : Nat) : Rw → Nat → Rat
  | .fin o, c => if c = n + o then 1 else 0
  | .go l, c => if c < n then (cnt l c : Rat) / (s : Rat) else if c = n + many then 1 else 0
def tabM (s many : Nat) (t : List Rw) : Mx := fun i c => match t[i]? with
  | some r => rowM t.length s many r c
  | none => 0
structure Tb (s many : Nat) (t : List Rw) : Prop where
  n1 : 1 ≤ t.length
  n2 : t.length ≤ 100
  s1 : 2 ≤ s
  s2 : s ≤ 6
  m1 : 1 ≤ many
  m2 : many ≤ 6
  fin : ∀ (i o : Nat), t[i]? = some (Rw.fin o) → o < many
  go : ∀ (i : Nat) (l : List Nat), t[i]? = some (Rw.go l) → l.length = s ∧ ∀ x ∈ l, x < t.length
/-- a rank that falls towards the ends -/
def Rk (t : List Rw) (d : Nat → Nat) : Prop := ∀ i l, t[i]? = some (.go l) → ∃ x ∈ l, d x < d i
def lsum (l : List Nat) (h : Nat → Rat) : Rat := l.foldr (fun x a => h x + a) 0
theorem cnt_sum (n : Nat) (h : Nat → Rat) : ∀ l : List Nat, (∀ x ∈ l, x < n) → sm n (fun c => (cnt l c : Rat) * h c) = lsum l h
  | [], _ => by
    rw [sm_zero (fun i _ => by
      show ((cnt [] i : Nat) : Rat) * h i = 0
      unfold cnt
      rw [List.count_nil]
      show (0 : Rat) * h i = 0
      rw [Rat.zero_mul])]
    rfl
  | x :: l, hl => by
    have ih := cnt_sum n h l (fun y hy => hl y (List.mem_cons_of_mem _ hy))
    have : sm n (fun c => (cnt (x :: l) c : Rat) * h c) = sm n (fun c => (if c = x then h x else 0) + (cnt l c : Rat) * h c) := sm_congr fun c _ => by
      unfold cnt
      rw [List.count_cons]
      by_cases e : x = c
      · subst e
        simp only [beq_self_eq_true, if_true, Rat.natCast_add]
        show ((List.count x l : Nat) + (1 : Rat)) * h x = _
        grind
      · have e2 : ¬ c = x := fun q => e q.symm
        have e3 : (x == c) = false := by simpa using e
        rw [e3, if_neg e2]
        simp only [Bool.false_eq_true, if_false, Nat.add_zero, Rat.zero_add]
    rw [this, sm_add, ih, sm_at (k := x) (hl x List.mem_cons_self) (fun i _ hi => if_neg hi), if_pos rfl]
    rfl
theorem lsum_le {l : List Nat} {h g : Nat → Rat} (e : ∀ x ∈ l, h x ≤ g x) : lsum l h ≤ lsum l g := by
  induction l with
  | nil => exact Rat.le_refl
  | cons x l ih =>
    show h x + lsum l h ≤ g x + lsum l g
    have h1 := ih fun y hy => e y (List.mem_cons_of_mem _ hy)
    have h2 := e x List.mem_cons_self
    grind
theorem lsum_const (l : List Nat) (a : Rat) : lsum l (fun _ => a) = (l.length : Rat) * a := by
  induction l with
  | nil => exact (Rat.zero_mul a).symm
  | cons x l ih =>
    show a + lsum l (fun _ => a) = _
    rw [ih, List.length_cons, Rat.natCast_add]
    show _ = ((l.length : Rat) + 1) * a
    grind
/-- one of them is lower -/
theorem lsum_lt {l : List Nat} {h : Nat → Rat} {a b : Rat} (e : ∀ x ∈ l, h x ≤ a) (x : Nat) (hx : x ∈ l) (hb : h x ≤ a - b) : lsum l h ≤ (l.length : Rat) * a - b := by
  induction l with
  | nil => cases hx
  | cons y l ih =>
    show h y + lsum l h ≤ _
    have hy := e y List.mem_cons_self
    have el : (((y :: l).length : Nat) : Rat) * a = (l.length : Rat) * a + a := by
      rw [List.length_cons, Rat.natCast_add]
      show ((l.length : Rat) + 1) * a = _
      grind
    rw [el]
    rcases List.mem_cons.mp hx with q | q
    · subst q
      have h1 := lsum_le (l := l) (h := h) (g := fun _ => a) fun z hz => e z (List.mem_cons_of_mem _ hz)
      rw [lsum_const] at h1
      grind
    · have h1 := ih (fun z hz => e z (List.mem_cons_of_mem _ hz)) q
      grind
def hgt (d : Nat → Nat) (i : Nat) : Rat := 2 - (1 / 8 : Rat) ^ (d i)
theorem e8_pos (k : Nat) : (0 : Rat) < (1 / 8 : Rat) ^ k := Rat.pow_pos (by grind)
theorem e8_le1 (k : Nat) : (1 / 8 : Rat) ^ k ≤ 1 := by
  induction k with
  | zero => rw [Rat.pow_zero]; exact Rat.le_refl
  | succ k ih =>
    rw [Rat.pow_succ]
    have := e8_pos k
    have : (1 / 8 : Rat) ^ k * (1 / 8) ≤ 1 * (1 / 8) := Rat.mul_le_mul_of_nonneg_right ih (by grind)
    grind
theorem e8_anti {a b : Nat} (h : a ≤ b) : (1 / 8 : Rat) ^ b ≤ (1 / 8 : Rat) ^ a := by
  induction b with
  | zero => rw [show a = 0 by omega]; exact Rat.le_refl
  | succ b ih =>
    by_cases e : a = b + 1
    · rw [e]; exact Rat.le_refl
    · have h1 := ih (by omega)
      rw [Rat.pow_succ]
      have := e8_pos b
      grind
theorem tab_go {s many : Nat} {t : List Rw} {i : Nat} {l : List Nat} (e : t[i]? = some (.go l)) {c : Nat} (hc : c < t.length) : tabM s many t i c = (cnt l c : Rat) / (s : Rat) := by
  unfold tabM
  rw [e]
  show (if c < t.length then _ else _) = _
  rw [if_pos hc]
theorem go_sum {s many : Nat} {t : List Rw} {i : Nat} {l : List Nat} (e : t[i]? = some (.go l)) (hl : ∀ x ∈ l, x < t.length) (h : Nat → Rat) : sm t.length (fun c => tabM s many t i c * h c) = lsum l h / (s : Rat) := by
  rw [← cnt_sum t.length h l hl, Rat.div_def, ← sm_mul_right]
  refine sm_congr fun c hc => ?_
  rw [tab_go e hc, Rat.div_def]
  grind
theorem Tb.fit {s many : Nat} {t : List Rw} (T : Tb s many t) : Fit t.length s (tabM s many t) := by
  have s0 : 0 < s := by have := T.s1; omega
  refine ⟨fun i c hi => ?_, s0⟩
  unfold tabM
  cases e : t[i]? with
  | none => rw [List.getElem?_eq_none_iff] at e; omega
  | some r =>
    cases r with
    | fin o =>
      show Iz ((s : Rat) * (if c = t.length + o then 1 else 0)) s
      split
      · exact ⟨s, by rw [Rat.mul_one, Rat.intCast_natCast], by simp⟩
      · rw [Rat.mul_zero]; exact Iz.zero _
    | go l =>
      show Iz ((s : Rat) * (if c < t.length then (cnt l c : Rat) / (s : Rat) else if c = t.length + many then 1 else 0)) s
      have hs : (s : Rat) ≠ 0 := fun q => by rw [Rat.natCast_eq_zero_iff] at q; omega
      split
      · have e2 : (s : Rat) * ((cnt l c : Rat) / (s : Rat)) = (cnt l c : Rat) := by rw [Rat.mul_comm, Rat.div_mul_cancel hs]
        rw [e2]
        refine ⟨cnt l c, by rw [Rat.intCast_natCast], ?_⟩
        have := List.count_le_length (a := c) (l := l)
        have h2 := (T.go i l e).1
        unfold cnt
        simp only [Int.natAbs_natCast]
        omega
      · split
        · exact ⟨s, by rw [Rat.mul_one, Rat.intCast_natCast], by simp⟩
        · rw [Rat.mul_zero]; exact Iz.zero _
theorem Tb.sup {s many : Nat} {t : List Rw} (T : Tb s many t) {d : Nat → Nat} (r : Rk t d) : Sup t.length (tabM s many t) (hgt d) := by
  have s0 : (0 : Rat) < (s : Rat) := Rat.natCast_pos.mpr (by have := T.s1; omega)
  have hp : ∀ i, 0 < hgt d i := fun i => by
    unfold hgt
    have := e8_le1 (d i)
    grind
  refine ⟨fun i c => ?_, fun i _ => hp i, fun i hi => ?_⟩
  · unfold tabM
    cases e : t[i]? with
    | none => exact Rat.le_refl
    | some r =>
      cases r with
      | fin o => show (0 : Rat) ≤ (if _ then 1 else 0); split <;> grind
      | go l =>
        show (0 : Rat) ≤ (if _ then _ else _)
        split
        · rw [Rat.div_def]; exact Rat.mul_nonneg Rat.natCast_nonneg (Rat.le_of_lt (Rat.inv_pos.mpr s0))
        · split <;> grind
  · cases e : t[i]? with
    | none => rw [List.getElem?_eq_none_iff] at e; omega
    | some q =>
      cases q with
      | fin o =>
        rw [sm_zero (fun c hc => by
          have : tabM s many t i c = 0 := by
            unfold tabM
            rw [e]
            show (if c = t.length + o then (1 : Rat) else 0) = 0
            rw [if_neg (by omega)]
          rw [this, Rat.zero_mul])]
        exact hp i
      | go l =>
        obtain ⟨hlen, hlt⟩ := T.go i l e
        rw [go_sum e hlt, Rat.div_lt_iff s0]
        obtain ⟨x, hx, hd⟩ := r i l e
        have h1 := lsum_lt (l := l) (h := hgt d) (a := 2) (b := (1 / 8 : Rat) ^ (d i - 1)) (fun y _ => by unfold hgt; have := e8_pos (d y); grind) x hx (by
          unfold hgt
          have := e8_anti (show d x ≤ d i - 1 by omega)
          grind)
        rw [hlen] at h1
        unfold hgt at h1 ⊢
        have h2 : (1 / 8 : Rat) ^ (d i) = (1 / 8 : Rat) ^ (d i - 1) * (1 / 8) := by rw [← Rat.pow_succ, show d i - 1 + 1 = d i by omega]
        have h3 := e8_pos (d i - 1)
        have h4 : (s : Rat) ≤ 6 := by have := Rat.natCast_le_natCast.mpr T.s2; exact this
        have h5 : (1 / 8 : Rat) ^ (d i - 1) * (s : Rat) ≤ (1 / 8 : Rat) ^ (d i - 1) * 6 := Rat.mul_le_mul_of_nonneg_left h4 (Rat.le_of_lt h3)
        rw [h2]
        grind
end Fc

namespace Fc
theorem div_le_i {a b c : Rat} (h : 0 < b) : a / b ≤ c ↔ a ≤ c * b := by
  have := Rat.lt_div_iff (a := c) (b := a) h
  rw [← Rat.not_lt, this, Rat.not_lt]
theorem le_div_i {a b c : Rat} (h : 0 < b) : c ≤ a / b ↔ c * b ≤ a := by
  have := Rat.div_lt_iff (a := a) (c := c) h
  rw [← Rat.not_lt, this, Rat.not_lt]
/-! ## the solution is the only one; nothing in it is negative; chances add up to 1 -/
theorem max_at (f : Nat → Rat) : ∀ n, 0 < n → ∃ i, i < n ∧ ∀ j, j < n → f j ≤ f i
  | 0, h => by omega
  | 1, _ => ⟨0, by omega, fun j hj => by rw [show j = 0 by omega]; exact Rat.le_refl⟩
  | n + 2, _ => by
    obtain ⟨i, hi, h⟩ := max_at f (n + 1) (by omega)
    rcases (Rat.le_total : f (n + 1) ≤ f i ∨ _) with e | e
    · refine ⟨i, by omega, fun j hj => ?_⟩
      by_cases q : j = n + 1
      · rw [q]; exact e
      · exact h j (by omega)
    · refine ⟨n + 1, by omega, fun j hj => ?_⟩
      by_cases q : j = n + 1
      · rw [q]; exact Rat.le_refl
      · exact Rat.le_trans (h j (by omega)) e
section
variable {n s m : Nat} {M : Mx} {h : Nat → Rat}
/-- what is below its own mean is not positive -/
theorem sup_le (u : Sup n M h) {z : Nat → Rat} (hz : ∀ i, i < n → z i ≤ sm n fun c => M i c * z c) {i : Nat} (hi : i < n) : z i ≤ 0 := by
  obtain ⟨k, hk, hm⟩ := max_at (fun j => z j / h j) n (by omega)
  have hpk := u.pos k hk
  have step : ∀ j, j < n → z j ≤ z k / h k * h j := fun j hj => by
    have := hm j hj
    have hj0 := u.pos j hj
    rw [div_le_i hj0] at this
    exact this
  have main : z k ≤ 0 := by
    rcases (Rat.le_total : z k ≤ 0 ∨ _) with e | e
    · exact e
    · have mu : 0 ≤ z k / h k := by rw [Rat.div_def]; exact Rat.mul_nonneg e (Rat.le_of_lt (Rat.inv_pos.mpr hpk))
      have h1 : sm n (fun c => M k c * z c) ≤ sm n fun c => z k / h k * (M k c * h c) := sm_le fun c hc => by
        have := Rat.mul_le_mul_of_nonneg_left (step c hc) (u.nn k c)
        grind
      rw [sm_mul] at h1
      have h2 := u.lt k hk
      have h3 := Rat.le_trans (hz k hk) h1
      have e2 : z k / h k * h k = z k := Rat.div_mul_cancel (by grind)
      by_cases q : z k / h k = 0
      · rw [q] at e2; grind
      · have mp : 0 < z k / h k := by grind
        have : z k / h k * sm n (fun c => M k c * h c) < z k / h k * h k := Rat.mul_lt_mul_of_pos_left h2 mp
        grind
  have := step i hi
  have h4 : z k / h k * h i ≤ 0 := by
    have mu : z k / h k ≤ 0 := by rw [div_le_i hpk]; grind
    have := Rat.mul_le_mul_of_nonneg_right mu (Rat.le_of_lt (u.pos i hi))
    grind
  exact Rat.le_trans this h4
theorem sm_neg (n : Nat) (f : Nat → Rat) : sm n (fun i => - f i) = - sm n f := by
  have := sm_mul n (-1) f
  have e : (fun i => (-1 : Rat) * f i) = fun i => - f i := by funext i; grind
  rw [e] at this
  rw [this]; grind
theorem sm_sub (n : Nat) (f g : Nat → Rat) : sm n (fun i => f i - g i) = sm n f - sm n g := by
  have e : (fun i => f i - g i) = fun i => f i + - g i := by funext i; grind
  rw [e, sm_add, sm_neg]; grind
/-- comparison -/
theorem X_le (u : Sup n M h) (o : Nat) {y : Nat → Rat} (hy : ∀ i, i < n → (sm n fun c => M i c * y c) + M i (n + o) ≤ y i) {i : Nat} (hi : i < n) : X n M o i ≤ y i := by
  have := sup_le u (z := fun i => X n M o i - y i) (fun i hi => by
    have e : sm n (fun c => M i c * (X n M o c - y c)) = sm n (fun c => M i c * X n M o c) - sm n (fun c => M i c * y c) := by
      rw [← sm_sub]; exact sm_congr fun c _ => by grind
    have h1 := X_solves u o hi
    have h2 := hy i hi
    show X n M o i - y i ≤ _
    rw [e]
    grind) hi
  grind
theorem X_ge (u : Sup n M h) (o : Nat) {y : Nat → Rat} (hy : ∀ i, i < n → y i ≤ (sm n fun c => M i c * y c) + M i (n + o)) {i : Nat} (hi : i < n) : y i ≤ X n M o i := by
  have := sup_le u (z := fun i => y i - X n M o i) (fun i hi => by
    have e : sm n (fun c => M i c * (y c - X n M o c)) = sm n (fun c => M i c * y c) - sm n (fun c => M i c * X n M o c) := by
      rw [← sm_sub]; exact sm_congr fun c _ => by grind
    have h1 := X_solves u o hi
    have h2 := hy i hi
    show y i - X n M o i ≤ _
    rw [e]
    grind) hi
  grind
theorem X_uni (u : Sup n M h) (o : Nat) {y : Nat → Rat} (hy : ∀ i, i < n → y i = (sm n fun c => M i c * y c) + M i (n + o)) {i : Nat} (hi : i < n) : X n M o i = y i :=
  Rat.le_antisymm (X_le u o (fun i hi => by rw [← hy i hi]; exact Rat.le_refl) hi) (X_ge u o (fun i hi => by rw [← hy i hi]; exact Rat.le_refl) hi)
theorem X_nn (u : Sup n M h) (o : Nat) {i : Nat} (hi : i < n) : 0 ≤ X n M o i :=
  X_ge u o (y := fun _ => 0) (fun i hi => by
    rw [sm_zero fun c _ => Rat.mul_zero _]
    have := u.nn i (n + o)
    grind) hi
end
section
variable {s m : Nat} {t : List Rw} {d : Nat → Nat}
/-- at an inner state -/
theorem X_go (T : Tb s m t) (r : Rk t d) {i : Nat} {l : List Nat} (e : t[i]? = some (.go l)) {o : Nat} (ho : o < m) : X t.length (tabM s m t) o i = lsum l (X t.length (tabM s m t) o) / (s : Rat) := by
  have hi : i < t.length := (List.getElem?_eq_some_iff.mp e).1
  have h1 := X_solves (T.sup r) o hi
  rw [go_sum e (T.go i l e).2] at h1
  have h2 : tabM s m t i (t.length + o) = 0 := by
    unfold tabM
    rw [e]
    show (if t.length + o < t.length then _ else if t.length + o = t.length + m then (1 : Rat) else 0) = 0
    rw [if_neg (by omega), if_neg (by omega)]
  rw [h2, Rat.add_zero] at h1
  exact h1
/-- the throws at an inner state -/
theorem X_goT (T : Tb s m t) (r : Rk t d) {i : Nat} {l : List Nat} (e : t[i]? = some (.go l)) : X t.length (tabM s m t) m i = lsum l (X t.length (tabM s m t) m) / (s : Rat) + 1 := by
  have hi : i < t.length := (List.getElem?_eq_some_iff.mp e).1
  have h1 := X_solves (T.sup r) m hi
  rw [go_sum e (T.go i l e).2] at h1
  have h2 : tabM s m t i (t.length + m) = 1 := by
    unfold tabM
    rw [e]
    show (if t.length + m < t.length then _ else if t.length + m = t.length + m then (1 : Rat) else 0) = 1
    rw [if_neg (by omega), if_pos rfl]
  rw [h2] at h1
  exact h1
/-- at a final state -/
theorem X_fin (T : Tb s m t) (r : Rk t d) {i a : Nat} (e : t[i]? = some (.fin a)) (o : Nat) : X t.length (tabM s m t) o i = if o = a then 1 else 0 := by
  have hi : i < t.length := (List.getElem?_eq_some_iff.mp e).1
  have h1 := X_solves (T.sup r) o hi
  have h2 : ∀ c, tabM s m t i c = if c = t.length + a then 1 else 0 := fun c => by
    unfold tabM
    rw [e]
    rfl
  rw [sm_zero (fun c hc => by rw [h2, if_neg (by omega), Rat.zero_mul]), h2, Rat.zero_add] at h1
  rw [h1]
  by_cases q : o = a
  · rw [if_pos q, if_pos (by omega)]
  · rw [if_neg q, if_neg (by omega)]
theorem lsum_at : ∀ (l : List Nat) (f : Nat → Rat), lsum l f = sm l.length fun j => f (l.getD j 0)
  | [], _ => rfl
  | x :: l, f => by
    have ih := lsum_at l f
    show f x + lsum l f = sm (l.length + 1) _
    have : ∀ n, sm (n + 1) (fun j => f ((x :: l).getD j 0)) = f x + sm n (fun j => f (l.getD j 0)) := fun n => by
      induction n with
      | zero => show (0 : Rat) + f x = f x + 0; grind
      | succ n ih => rw [sm, ih, sm]; show _ + sm n _ + f (l.getD n 0) = _; grind
    rw [this, ih]
theorem lsum_sm (l : List Nat) (m : Nat) (f : Nat → Nat → Rat) : sm m (fun o => lsum l (f o)) = lsum l (fun x => sm m fun o => f o x) := by
  induction l with
  | nil => exact sm_zero fun _ _ => rfl
  | cons x l ih =>
    show sm m (fun o => f o x + lsum l (f o)) = _
    rw [sm_add, ih]
    rfl
/-- uniqueness for a function given at the states -/
theorem tab_uni (T : Tb s m t) (r : Rk t d) {y : Nat → Rat} (hf : ∀ i a, t[i]? = some (.fin a) → y i = 0) (hg : ∀ i l, t[i]? = some (.go l) → y i = lsum l y / (s : Rat)) {i : Nat} (hi : i < t.length) : y i = 0 := by
  have key : ∀ z : Nat → Rat, (∀ i a, t[i]? = some (.fin a) → z i = 0) → (∀ i l, t[i]? = some (.go l) → z i = lsum l z / (s : Rat)) → z i ≤ 0 := fun z hf hg =>
    sup_le (T.sup r) (z := z) (fun i hi => by
      cases e : t[i] with
      | fin a =>
        have e' : t[i]? = some (.fin a) := by rw [List.getElem?_eq_getElem hi, e]
        have h2 : ∀ c, tabM s m t i c = if c = t.length + a then 1 else 0 := fun c => by unfold tabM; rw [e']; rfl
        rw [hf i a e', sm_zero (fun c hc => by rw [h2, if_neg (by omega), Rat.zero_mul])]
        exact Rat.le_refl
      | go l =>
        have e' : t[i]? = some (.go l) := by rw [List.getElem?_eq_getElem hi, e]
        rw [go_sum e' (T.go i l e').2, ← hg i l e']
        exact Rat.le_refl) hi
  have h1 := key y hf hg
  have h2 := key (fun i => - y i) (fun i a e => by rw [hf i a e]; grind) (fun i l e => by
    have : lsum l (fun i => - y i) = - lsum l y := by
      clear e
      induction l with
      | nil => show (0 : Rat) = -0; grind
      | cons x l ih => show - y x + lsum l (fun i => - y i) = - (y x + lsum l y); rw [ih]; grind
    rw [this, hg i l e, Rat.div_def, Rat.div_def]; grind)
  grind
theorem X_sum (T : Tb s m t) (r : Rk t d) {i : Nat} (hi : i < t.length) : sm m (fun o => X t.length (tabM s m t) o i) = 1 := by
  have s0 : (s : Rat) ≠ 0 := fun q => by rw [Rat.natCast_eq_zero_iff] at q; have := T.s1; omega
  have := tab_uni T r (y := fun i => sm m (fun o => X t.length (tabM s m t) o i) - 1) (fun i a e => by
    have ha := T.fin i a e
    have : sm m (fun o => X t.length (tabM s m t) o i) = 1 := by
      rw [sm_congr (fun o _ => X_fin T r e o), sm_at (k := a) ha (fun o _ ho => if_neg ho), if_pos rfl]
    show sm m (fun o => X t.length (tabM s m t) o i) - 1 = 0
    rw [this]; grind) (fun i l e => by
    have h1 : sm m (fun o => X t.length (tabM s m t) o i) = lsum l (fun x => sm m fun o => X t.length (tabM s m t) o x) / (s : Rat) := by
      rw [sm_congr (fun o ho => X_go T r e ho), Rat.div_def, ← lsum_sm, ← sm_mul_right]
      exact sm_congr fun o _ => Rat.div_def _ _
    have h2 : lsum l (fun x => sm m (fun o => X t.length (tabM s m t) o x) - 1) = lsum l (fun x => sm m fun o => X t.length (tabM s m t) o x) - (l.length : Rat) := by
      clear e h1
      induction l with
      | nil => show (0 : Rat) = 0 - ((0 : Nat) : Rat); grind
      | cons x l ih =>
        show sm m (fun o => X t.length (tabM s m t) o x) - 1 + lsum l _ = sm m (fun o => X t.length (tabM s m t) o x) + lsum l _ - (((l.length + 1 : Nat)) : Rat)
        rw [ih, Rat.natCast_add]
        show _ = _ - ((l.length : Rat) + 1)
        grind
    have h3 := Rat.mul_inv_cancel _ s0
    rw [h1, h2, (T.go i l e).1, Rat.div_def, Rat.div_def]
    grind) hi
  grind
end
end Fc

namespace Fc
/-! ## fractions: plain facts -/
theorem natgcd_step (a b : Nat) (h : 0 < b) : Nat.gcd b (a % b) = Nat.gcd a b := by rw [Nat.gcd_comm b, ← Nat.gcd_rec, Nat.gcd_comm]
theorem gcd_le_right (a b : Int) (h : 0 < b) : (Int.gcd a b : Int) ≤ b := by
  have := Int.gcd_dvd_right (a := a) (b := b)
  exact Int.le_of_dvd h this
theorem gcd_pos (a b : Int) (h : 0 < b) : (0 : Int) < (Int.gcd a b : Int) := by
  have : 0 < Int.gcd a b := Int.gcd_pos_of_ne_zero_right a (by omega)
  omega
theorem num_mk (a b : Int) (h : 0 < b) : (mkRat a b.toNat).num = a / (Int.gcd a b : Int) := by
  rw [Rat.num_mkRat, if_neg (by omega), Nat.gcd_comm]
  unfold Int.gcd
  rw [show b.natAbs = b.toNat by omega]
theorem den_mk (a b : Int) (h : 0 < b) : ((mkRat a b.toNat).den : Int) = b / (Int.gcd a b : Int) := by
  rw [Rat.den_mkRat, if_neg (by omega), Nat.gcd_comm]
  unfold Int.gcd
  rw [show b.natAbs = b.toNat by omega]
  rw [Int.natCast_ediv, Int.toNat_of_nonneg (by omega)]
theorem add_mk (r q : Rat) : mkRat (r.num * (q.den : Int) + q.num * (r.den : Int)) ((r.den : Int) * (q.den : Int)).toNat = r + q := by
  rw [Rat.add_def', show ((r.den : Int) * (q.den : Int)).toNat = r.den * q.den by rw [← Int.natCast_mul, Int.toNat_natCast]]
theorem sub_mk (r q : Rat) : mkRat (r.num * (q.den : Int) - q.num * (r.den : Int)) ((r.den : Int) * (q.den : Int)).toNat = r - q := by
  rw [Rat.sub_def', show ((r.den : Int) * (q.den : Int)).toNat = r.den * q.den by rw [← Int.natCast_mul, Int.toNat_natCast]]
theorem mul_mk (r q : Rat) : mkRat (r.num * q.num) ((r.den : Int) * (q.den : Int)).toNat = r * q := by
  rw [Rat.mul_def', show ((r.den : Int) * (q.den : Int)).toNat = r.den * q.den by rw [← Int.natCast_mul, Int.toNat_natCast]]
theorem div_mk (r q : Rat) (h : 0 < q) : mkRat (r.num * (q.den : Int)) ((r.den : Int) * q.num).toNat = r / q := by
  have hq : 0 < q.num := by have := (Rat.num_nonneg (q := q)).mpr (Rat.le_of_lt h); have h2 : q.num ≠ 0 := fun e => by rw [Rat.num_eq_zero] at e; subst e; exact Rat.lt_irrefl h
                            omega
  have hr : 0 < (r.den : Int) := by have := r.den_pos; omega
  have hb : 0 < (r.den : Int) * q.num := Int.mul_pos hr hq
  rw [Rat.mkRat_eq_div, ← Rat.intCast_natCast, Int.toNat_of_nonneg (by omega), ← Rat.divInt_eq_div]
  rw [Rat.div_def, Rat.inv_def]
  conv => rhs; rw [← Rat.num_divInt_den r]
  rw [Rat.divInt_mul_divInt]
end Fc

namespace Fc
open PySem PySem.Spec PyProof.Rows L2
def top (i : Nat) : Stmt := PySem.Challenge.pw_flipchoice_k62_whole_chances_are_average.main.body.getD i (.Pass ⟨0, 0, 0, 0⟩)
abbrev s_is_integer : Stmt := top 15
theorem sc_is_integer : FnScope ["value"] ["value"] (defScope s_is_integer) := ⟨rfl, rfl, rfl, by decide +kernel, rfl, by decide +kernel, by decide +kernel⟩
abbrev s_is_between : Stmt := top 16
theorem sc_is_between : FnScope ["value", "low", "high"] ["value", "low", "high"] (defScope s_is_between) := ⟨rfl, rfl, rfl, by decide +kernel, rfl, by decide +kernel, by decide +kernel⟩
abbrev s_greatest_divisor : Stmt := top 17
theorem sc_greatest_divisor : FnScope ["one", "other"] ["one", "other"] (defScope s_greatest_divisor) := ⟨rfl, rfl, rfl, by decide +kernel, rfl, by decide +kernel, by decide +kernel⟩
abbrev s_ratio : Stmt := top 18
theorem sc_ratio : FnScope ["top", "bottom", "divisor"] ["top", "bottom"] (defScope s_ratio) := ⟨rfl, rfl, rfl, by decide +kernel, rfl, by decide +kernel, by decide +kernel⟩
abbrev s_plus : Stmt := top 19
theorem sc_plus : FnScope ["one", "other"] ["one", "other"] (defScope s_plus) := ⟨rfl, rfl, rfl, by decide +kernel, rfl, by decide +kernel, by decide +kernel⟩
abbrev s_minus : Stmt := top 20
theorem sc_minus : FnScope ["one", "other"] ["one", "other"] (defScope s_minus) := ⟨rfl, rfl, rfl, by decide +kernel, rfl, by decide +kernel, by decide +kernel⟩
abbrev s_times : Stmt := top 21
theorem sc_times : FnScope ["one", "other"] ["one", "other"] (defScope s_times) := ⟨rfl, rfl, rfl, by decide +kernel, rfl, by decide +kernel, by decide +kernel⟩
abbrev s_over : Stmt := top 22
theorem sc_over : FnScope ["one", "other"] ["one", "other"] (defScope s_over) := ⟨rfl, rfl, rfl, by decide +kernel, rfl, by decide +kernel, by decide +kernel⟩
abbrev s_power : Stmt := top 23
theorem sc_power : FnScope ["base", "exponent", "result", "turn"] ["base", "exponent"] (defScope s_power) := ⟨rfl, rfl, rfl, by decide +kernel, rfl, by decide +kernel, by decide +kernel⟩

def fr (r : Rat) : D := .tup [.int r.num, .int r.den]
def Sm (r : Rat) : Prop := r.num.natAbs < 2 ^ 4400 ∧ r.den < 2 ^ 4400
theorem Sm.den {r : Rat} (h : Sm r) : ((r.den : Int)).natAbs < 2 ^ 4400 := by simpa using h.2
def S_isint : FS := fun _ ds R => ∃ d, ds = [d] ∧ (tyn d).isSome = true ∧ R = Val (.bl (isInt d && !isBool d))
def S_between : FS := fun _ ds R => ∃ x lo hi : Int, ds = [.int x, .int lo, .int hi] ∧ R = Val (.bl (decide (lo ≤ x ∧ x ≤ hi)))
def S_gcd : FS := fun _ ds R => ∃ a b : Int, ds = [.int a, .int b] ∧ R = Val (.int (Int.gcd a b))
def S_ratio : FS := fun _ ds R => ∃ a b : Int, ds = [.int a, .int b] ∧ 0 < b ∧ b < 2 ^ 9000 ∧ R = Val (fr (mkRat a b.toNat))
def S_plus : FS := fun _ ds R => ∃ r q : Rat, ds = [fr r, fr q] ∧ Sm r ∧ Sm q ∧ R = Val (fr (r + q))
def S_minus : FS := fun _ ds R => ∃ r q : Rat, ds = [fr r, fr q] ∧ Sm r ∧ Sm q ∧ R = Val (fr (r - q))
def S_times : FS := fun _ ds R => ∃ r q : Rat, ds = [fr r, fr q] ∧ Sm r ∧ Sm q ∧ R = Val (fr (r * q))
def S_over : FS := fun _ ds R => ∃ r q : Rat, ds = [fr r, fr q] ∧ Sm r ∧ Sm q ∧ 0 < q ∧ R = Val (fr (r / q))
section
variable {P : Program} {w : World} {K : PySem.W.Frag} {mg : Str → Option Value} {base : Heap}
theorem ok_greatest_divisor (B : Bl mg) (F : FunG K mg "greatest_divisor" s_greatest_divisor)  : Pf P w K mg base "greatest_divisor" 1 S_gcd := by
  refine pf_mk F sc_greatest_divisor (fun _ _ _ _ _ _ us hl => match us, hl with | [_, _], _ => rfl) (fun Z ds R h => by obtain ⟨a, b, rfl, _⟩ := h; rfl) (fun f cdv A outer s H E hr => ⟨_, (pss_cons (ps_par (i := 0) (j := 1) rfl sc_greatest_divisor.nd rfl rfl (by decide) rfl rfl (pa_cons (pe_abs (K := K) rfl rfl B rfl (pa_cons (pv 0) pa_nil)) (pa_cons (pe_abs (K := K) rfl rfl B rfl (pa_cons (pv 1) pa_nil)) pa_nil)) (by rfl)) (pss_cons (ps_while PassesOwn.never (pt_cmpR op_gt (pv 1) pe_int (nomark _)) (pss_cons (ps_par (i := 0) (j := 1) rfl sc_greatest_divisor.nd rfl rfl (by decide) rfl rfl (pa_cons (pv 1) (pa_cons (pe_op op_mod (pv 0) (pv 1)) pa_nil)) (by rfl)) pss_nil)) (pss_cons (ps_ret (pv 0)) pss_nil))), fun Z ds R H0 hz hS => ?_⟩)
  obtain ⟨a, b, rfl, rfl⟩ := hS
  refine gq_par (ea_cons (ev_cb (ea_cons (ev_var rfl) ea_nil) rc_abs) (ea_cons (ev_cb (ea_cons (ev_var rfl) ea_nil) rc_abs) ea_nil)) ?_
  refine gq_while (m0 := b.natAbs) (fun y G L => ∃ x : Nat, G = [some (.int (x : Int)), some (.int (y : Int))] ∧ Nat.gcd x y = Int.gcd a b ∧ L = []) ⟨a.natAbs, ?_, rfl, rfl⟩
    (fun G L => G = [some (.int (Int.gcd a b)), some (.int 0)] ∧ L = []) (fun y G L hW => ?_) (fun G L hM => ?_)
  · show [some (D.int (if a < 0 then -a else a)), some (D.int (if b < 0 then -b else b))] = _
    rw [show (if a < 0 then -a else a) = (a.natAbs : Int) by split <;> omega, show (if b < 0 then -b else b) = (b.natAbs : Int) by split <;> omega]
  · obtain ⟨x, rfl, hg, rfl⟩ := hW
    refine ⟨_, et_test (ev_op (ev_var rfl) ev_int rv_gt), fun hb => ?_, fun hb => ?_⟩
    · have hy : 0 < y := by have := of_decide_eq_true hb; omega
      refine gq_par (ea_cons (ev_var rfl) (ea_cons (ev_op (ev_var rfl) (ev_var rfl) (rv_mod (by omega))) ea_nil)) (go_next ?_)
      refine ⟨x % y, Nat.mod_lt _ hy, y, ?_, ?_, rfl⟩
      · show [some (D.int (y : Int)), some (D.int ((x : Int) % (y : Int)))] = _
        rw [← Int.natCast_emod]
      · rw [natgcd_step x y hy, hg]
    · have hy : y = 0 := by have := of_decide_eq_false hb; omega
      subst hy
      rw [← hg, Nat.gcd_zero_right]
      exact ⟨rfl, rfl⟩
  · obtain ⟨rfl, rfl⟩ := hM
    exact gq_retP (ev_var rfl) rfl
theorem ok_ratio (B : Bl mg) (F : FunG K mg "ratio" s_ratio) (hG : Pf P w K mg base "greatest_divisor" 1 S_gcd) : Pf P w K mg base "ratio" 2 S_ratio := by
  refine pf_mk F sc_ratio (fun _ _ _ _ _ _ us hl => match us, hl with | [_, _], _ => rfl) (fun Z ds R h => by obtain ⟨a, b, rfl, _⟩ := h; rfl) (fun f cdv A outer s H E hr => ⟨_, (pss_cons (ps_set (i := 2) sc_ratio.nd rfl (.inl rfl) (pe_pf hG hr (by decide) rfl (pa_cons (pv 0) (pa_cons (pv 1) pa_nil)))) (pss_cons (ps_ret (pe_tup (pa_cons (pe_op op_fdivW (pv 0) (pv 2)) (pa_cons (pe_op op_fdivW (pv 1) (pv 2)) pa_nil)))) pss_nil)), fun Z ds R H0 hz hS => ?_⟩)
  obtain ⟨a, b, rfl, h0, h9, rfl⟩ := hS
  have hp := gcd_pos a b h0
  have hle := gcd_le_right a b h0
  refine gq_set (ev_call (ea_cons (ev_var rfl) (ea_cons (ev_var rfl) ea_nil)) ⟨a, b, rfl, rfl⟩) ?_
  have hw : ∀ i : Int, CDivW i (Int.gcd a b : Int) := fun i => wide_div (b := 9000) hp (by have : (Int.gcd a b : Int).natAbs ≤ b.natAbs := by omega
                                                                                           omega) (by decide) (by decide)
  refine gq_retP (ev_tup (ea_cons (ev_op (ev_var rfl) (ev_var rfl) (rv_fdivW (hw _))) (ea_cons (ev_op (ev_var rfl) (ev_var rfl) (rv_fdivW (hw _))) ea_nil)) (by show 2 ≤ 100000; decide)) ?_
  show D.tup _ = fr _
  unfold fr
  rw [num_mk a b h0, den_mk a b h0]
theorem wmul {i j : Int} (h1 : i.natAbs < 2 ^ 4400) (h2 : j.natAbs < 2 ^ 4400) : CMulW i j := wide_mul (a := 4400) (b := 4400) h1 h2 (by decide) (by decide) (by decide)
theorem den_pos' (r : Rat) : 0 < (r.den : Int) := by have := r.den_pos; omega
theorem denmul {r q : Rat} (h1 : Sm r) (h2 : Sm q) : 0 < (r.den : Int) * (q.den : Int) ∧ (r.den : Int) * (q.den : Int) < 2 ^ 9000 := by
  refine ⟨Int.mul_pos (den_pos' r) (den_pos' q), ?_⟩
  have := wide_lt h1.den h2.den
  have p : (0 : Int) < (r.den : Int) * (q.den : Int) := Int.mul_pos (den_pos' r) (den_pos' q)
  have e : (2 : Nat) ^ (4400 + 4400) < 2 ^ 9000 := Nat.pow_lt_pow_right (by decide) (by decide)
  have e2 : ((r.den : Int) * (q.den : Int)).natAbs < 2 ^ 9000 := Nat.lt_trans this e
  have e3 : (((r.den : Int) * (q.den : Int)).natAbs : Int) < ((2 ^ 9000 : Nat) : Int) := Int.ofNat_lt.mpr e2
  rw [Int.natCast_pow] at e3
  have e4 : (((r.den : Int) * (q.den : Int)).natAbs : Int) = (r.den : Int) * (q.den : Int) := Int.natAbs_of_nonneg (Int.le_of_lt p)
  rw [e4] at e3
  exact e3
theorem ix0 {x y : D} : atI [x, y] 0 = some x := rfl
theorem ix1 {x y : D} : atI [x, y] 1 = some y := rfl
theorem ev_i0 {H0 : Hp} {G : Ga} {L : Hl} {i : Nat} {r : Rat} (h : G[i]? = some (some (fr r))) : EvP K H0 G L (tOp (rIxT K) (tVar i) (tC (.int 0))) (.int r.num) := ev_op (ev_var h) ev_int (rv_ixT ix0)
theorem ev_i1 {H0 : Hp} {G : Ga} {L : Hl} {i : Nat} {r : Rat} (h : G[i]? = some (some (fr r))) : EvP K H0 G L (tOp (rIxT K) (tVar i) (tC (.int 1))) (.int r.den) := ev_op (ev_var h) ev_int (rv_ixT ix1)
theorem ok_plus (B : Bl mg) (F : FunG K mg "plus" s_plus) (hR : Pf P w K mg base "ratio" 2 S_ratio) : Pf P w K mg base "plus" 3 S_plus := by
  refine pf_mk F sc_plus (fun _ _ _ _ _ _ us hl => match us, hl with | [_, _], _ => rfl) (fun Z ds R h => by obtain ⟨a, b, rfl, _⟩ := h; rfl) (fun f cdv A outer s H E hr => ⟨_, (pss_cons (ps_ret (pe_pf hR hr (by decide) rfl (pa_cons (pe_op op_add (pe_op op_mulW (pe_ixT (K := K) rfl (pv 0) pe_int (fun _ _ => rfl)) (pe_ixT (K := K) rfl (pv 1) pe_int (fun _ _ => rfl))) (pe_op op_mulW (pe_ixT (K := K) rfl (pv 1) pe_int (fun _ _ => rfl)) (pe_ixT (K := K) rfl (pv 0) pe_int (fun _ _ => rfl)))) (pa_cons (pe_op op_mulW (pe_ixT (K := K) rfl (pv 0) pe_int (fun _ _ => rfl)) (pe_ixT (K := K) rfl (pv 1) pe_int (fun _ _ => rfl))) pa_nil)))) pss_nil), fun Z ds R H0 hz hS => ?_⟩)
  obtain ⟨r, q, rfl, h1, h2, rfl⟩ := hS
  have hd := denmul h1 h2
  rw [← add_mk r q]
  exact gq_retP (ev_call (ea_cons (ev_op (ev_op (ev_i0 rfl) (ev_i1 rfl) (rv_mulW (wmul h1.1 h2.den))) (ev_op (ev_i0 rfl) (ev_i1 rfl) (rv_mulW (wmul h2.1 h1.den))) rv_add) (ea_cons (ev_op (ev_i1 rfl) (ev_i1 rfl) (rv_mulW (wmul h1.den h2.den))) ea_nil)) ⟨_, _, rfl, hd.1, hd.2, rfl⟩) rfl
theorem ok_minus (B : Bl mg) (F : FunG K mg "minus" s_minus) (hR : Pf P w K mg base "ratio" 2 S_ratio) : Pf P w K mg base "minus" 3 S_minus := by
  refine pf_mk F sc_minus (fun _ _ _ _ _ _ us hl => match us, hl with | [_, _], _ => rfl) (fun Z ds R h => by obtain ⟨a, b, rfl, _⟩ := h; rfl) (fun f cdv A outer s H E hr => ⟨_, (pss_cons (ps_ret (pe_pf hR hr (by decide) rfl (pa_cons (pe_op op_sub (pe_op op_mulW (pe_ixT (K := K) rfl (pv 0) pe_int (fun _ _ => rfl)) (pe_ixT (K := K) rfl (pv 1) pe_int (fun _ _ => rfl))) (pe_op op_mulW (pe_ixT (K := K) rfl (pv 1) pe_int (fun _ _ => rfl)) (pe_ixT (K := K) rfl (pv 0) pe_int (fun _ _ => rfl)))) (pa_cons (pe_op op_mulW (pe_ixT (K := K) rfl (pv 0) pe_int (fun _ _ => rfl)) (pe_ixT (K := K) rfl (pv 1) pe_int (fun _ _ => rfl))) pa_nil)))) pss_nil), fun Z ds R H0 hz hS => ?_⟩)
  obtain ⟨r, q, rfl, h1, h2, rfl⟩ := hS
  have hd := denmul h1 h2
  rw [← sub_mk r q]
  exact gq_retP (ev_call (ea_cons (ev_op (ev_op (ev_i0 rfl) (ev_i1 rfl) (rv_mulW (wmul h1.1 h2.den))) (ev_op (ev_i0 rfl) (ev_i1 rfl) (rv_mulW (wmul h2.1 h1.den))) rv_sub) (ea_cons (ev_op (ev_i1 rfl) (ev_i1 rfl) (rv_mulW (wmul h1.den h2.den))) ea_nil)) ⟨_, _, rfl, hd.1, hd.2, rfl⟩) rfl
theorem ok_times (B : Bl mg) (F : FunG K mg "times" s_times) (hR : Pf P w K mg base "ratio" 2 S_ratio) : Pf P w K mg base "times" 3 S_times := by
  refine pf_mk F sc_times (fun _ _ _ _ _ _ us hl => match us, hl with | [_, _], _ => rfl) (fun Z ds R h => by obtain ⟨a, b, rfl, _⟩ := h; rfl) (fun f cdv A outer s H E hr => ⟨_, (pss_cons (ps_ret (pe_pf hR hr (by decide) rfl (pa_cons (pe_op op_mulW (pe_ixT (K := K) rfl (pv 0) pe_int (fun _ _ => rfl)) (pe_ixT (K := K) rfl (pv 1) pe_int (fun _ _ => rfl))) (pa_cons (pe_op op_mulW (pe_ixT (K := K) rfl (pv 0) pe_int (fun _ _ => rfl)) (pe_ixT (K := K) rfl (pv 1) pe_int (fun _ _ => rfl))) pa_nil)))) pss_nil), fun Z ds R H0 hz hS => ?_⟩)
  obtain ⟨r, q, rfl, h1, h2, rfl⟩ := hS
  have hd := denmul h1 h2
  rw [← mul_mk r q]
  exact gq_retP (ev_call (ea_cons (ev_op (ev_i0 rfl) (ev_i0 rfl) (rv_mulW (wmul h1.1 h2.1))) (ea_cons (ev_op (ev_i1 rfl) (ev_i1 rfl) (rv_mulW (wmul h1.den h2.den))) ea_nil)) ⟨_, _, rfl, hd.1, hd.2, rfl⟩) rfl
theorem ok_over (B : Bl mg) (F : FunG K mg "over" s_over) (hR : Pf P w K mg base "ratio" 2 S_ratio) : Pf P w K mg base "over" 3 S_over := by
  refine pf_mk F sc_over (fun _ _ _ _ _ _ us hl => match us, hl with | [_, _], _ => rfl) (fun Z ds R h => by obtain ⟨a, b, rfl, _⟩ := h; rfl) (fun f cdv A outer s H E hr => ⟨_, (pss_cons (ps_ret (pe_pf hR hr (by decide) rfl (pa_cons (pe_op op_mulW (pe_ixT (K := K) rfl (pv 0) pe_int (fun _ _ => rfl)) (pe_ixT (K := K) rfl (pv 1) pe_int (fun _ _ => rfl))) (pa_cons (pe_op op_mulW (pe_ixT (K := K) rfl (pv 0) pe_int (fun _ _ => rfl)) (pe_ixT (K := K) rfl (pv 1) pe_int (fun _ _ => rfl))) pa_nil)))) pss_nil), fun Z ds R H0 hz hS => ?_⟩)
  obtain ⟨r, q, rfl, h1, h2, h0, rfl⟩ := hS
  have hq : 0 < q.num := by
    have h3 := (Rat.num_nonneg (q := q)).mpr (Rat.le_of_lt h0)
    have h4 : q.num ≠ 0 := fun e => by rw [Rat.num_eq_zero] at e; subst e; exact Rat.lt_irrefl h0
    omega
  have hp : 0 < (r.den : Int) * q.num := Int.mul_pos (den_pos' r) hq
  have hlt : (r.den : Int) * q.num < 2 ^ 9000 := by
    have := wide_lt h1.den h2.1
    have e : (2 : Nat) ^ (4400 + 4400) < 2 ^ 9000 := Nat.pow_lt_pow_right (by decide) (by decide)
    have e3 : (((r.den : Int) * q.num).natAbs : Int) < ((2 ^ 9000 : Nat) : Int) := Int.ofNat_lt.mpr (Nat.lt_trans this e)
    rw [Int.natCast_pow, Int.natAbs_of_nonneg (Int.le_of_lt hp)] at e3
    exact e3
  rw [← div_mk r q h0]
  exact gq_retP (ev_call (ea_cons (ev_op (ev_i0 rfl) (ev_i1 rfl) (rv_mulW (wmul h1.1 h2.den))) (ea_cons (ev_op (ev_i1 rfl) (ev_i0 rfl) (rv_mulW (wmul h1.den h2.1))) ea_nil)) ⟨_, _, rfl, hp, hlt, rfl⟩) rfl
theorem ok_is_integer (B : Bl mg) (F : FunG K mg "is_integer" s_is_integer)  : Pf P w K mg base "is_integer" 1 S_isint := by
  refine pf_mk F sc_is_integer (fun _ _ _ _ _ _ us hl => match us, hl with | [_], _ => rfl) (fun Z ds R h => by obtain ⟨a, rfl, _⟩ := h; rfl) (fun f cdv A outer s H E hr => ⟨_, (pss_cons (ps_ret (pe_and (pe_isi (K := K) rfl rfl B rfl (pa_cons (pv 0) (pa_cons (pe_tyI rfl B rfl) pa_nil))) (pe_one (pe_not (pe_isi (K := K) rfl rfl B rfl (pa_cons (pv 0) (pa_cons (pe_tyB rfl B rfl) pa_nil))))))) pss_nil), fun Z ds R H0 hz hS => ?_⟩)
  obtain ⟨d, rfl, ht, rfl⟩ := hS
  exact gq_retP (ev_andV (ev_isInt (ev_var rfl) ht) (fun _ => ev_notV (ev_isBool (ev_var rfl) ht))) rfl
theorem ok_is_between (B : Bl mg) (F : FunG K mg "is_between" s_is_between) (hI : Pf P w K mg base "is_integer" 1 S_isint) : Pf P w K mg base "is_between" 2 S_between := by
  refine pf_mk F sc_is_between (fun _ _ _ _ _ _ us hl => match us, hl with | [_, _, _], _ => rfl) (fun Z ds R h => by obtain ⟨a, b, c, rfl, _⟩ := h; rfl) (fun f cdv A outer s H E hr => ⟨_, (pss_cons (ps_ret (pe_and (pe_pf hI hr (by decide) rfl (pa_cons (pv 0) pa_nil)) (pe_one (pe_chain op_le op_le (pv 1) (pv 0) (pv 2))))) pss_nil), fun Z ds R H0 hz hS => ?_⟩)
  obtain ⟨x, lo, hi, rfl, rfl⟩ := hS
  refine gq_retP (ev_andV (b := true) (c := decide (lo ≤ x) && decide (x ≤ hi)) (ev_call (ea_cons (ev_var rfl) ea_nil) ⟨.int x, rfl, rfl, rfl⟩) (fun _ => ev_chain (z := .int hi) (ev_var rfl) (ev_var rfl) rv_le (fun _ => ev_var rfl) (fun _ => rv_le))) ?_
  show D.bl _ = D.bl _
  rw [Bool.true_and, Bool.decide_and]
def S_power : FS := fun _ ds R => ∃ (b : Int) (n : Nat), ds = [.int b, .int (n : Int)] ∧ b.natAbs < 2 ^ 60 ∧ n ≤ 200 ∧ R = Val (.int (b ^ n))
theorem pow_small {b : Int} (h : b.natAbs < 2 ^ 60) : ∀ n : Nat, (b ^ n).natAbs < 2 ^ (60 * n + 1)
  | 0 => by simp
  | n + 1 => by
    have ih := pow_small h n
    rw [Int.pow_succ, Int.natAbs_mul]
    have : (b ^ n).natAbs * b.natAbs < 2 ^ (60 * n + 1) * 2 ^ 60 := Nat.mul_lt_mul'' ih h
    rw [← Nat.pow_add] at this
    exact this
theorem ok_power (B : Bl mg) (F : FunG K mg "power" s_power)  : Pf P w K mg base "power" 1 S_power := by
  refine pf_mk F sc_power (fun _ _ _ _ _ _ us hl => match us, hl with | [_, _], _ => rfl) (fun Z ds R h => by obtain ⟨a, b, rfl, _⟩ := h; rfl) (fun f cdv A outer s H E hr => ⟨_, (pss_cons (ps_set (i := 2) sc_power.nd rfl (.inl rfl) pe_int) (pss_cons (ps_for PassesOwn.never rfl (pi_range1 rfl B.range (pa_cons (pv 1) pa_nil)) (pg_name (i := 3) sc_power.nd rfl (.inl rfl)) (pss_cons (ps_set (i := 2) sc_power.nd rfl (.inl rfl) (pe_op op_mulW (pv 2) (pv 0))) pss_nil)) (pss_cons (ps_ret (pv 2)) pss_nil))), fun Z ds R H0 hz hS => ?_⟩)
  obtain ⟨b, n, rfl, hb, hn, rfl⟩ := hS
  refine gq_set ev_int ?_
  refine gq_for0 (ei_rng1 (ea_cons (ev_var rfl) ea_nil) (by omega) (by omega)) (fun i G L => ∃ o, G = [some (.int b), some (.int (n : Int)), some (.int (b ^ i)), o] ∧ L = [] ∧ i ≤ n) ⟨none, by rw [Int.pow_zero]; rfl, rfl, Nat.zero_le _⟩ (fun _ _ _ _ => trivial) (fun i d G L hd hI => ?_) (fun G L hI => ?_)
  · obtain ⟨o, rfl, rfl, hi⟩ := hI
    have hlt : i < n := by
      have := (List.getElem?_eq_some_iff.mp hd).1
      rw [rngD_len] at this; omega
    refine ⟨_, eg_name, gq_set (ev_op (ev_var rfl) (ev_var rfl) (rv_mulW (wide_mul (pow_small hb i) hb (by omega) (by decide) (by omega)))) (go_next ⟨some d, ?_, rfl, hlt⟩)⟩
    rw [Int.pow_succ]
    rfl
  · obtain ⟨o, rfl, rfl, _⟩ := hI
    refine gq_retP (ev_var rfl) ?_
    rw [rngD_len]
    show D.int (b ^ (Int.toNat (n : Int))) = _
    rw [Int.toNat_natCast]
end
end Fc

namespace Fc
open PySem PySem.Spec PyProof.Rows L2
abbrev s_check_sides : Stmt := top 32
theorem sc_check_sides : FnScope ["value"] ["value"] (defScope s_check_sides) := ⟨rfl, rfl, rfl, by decide +kernel, rfl, by decide +kernel, by decide +kernel⟩
abbrev s_check_many : Stmt := top 36
theorem sc_check_many : FnScope ["value"] ["value"] (defScope s_check_many) := ⟨rfl, rfl, rfl, by decide +kernel, rfl, by decide +kernel, by decide +kernel⟩
abbrev s_is_state : Stmt := top 37
theorem sc_is_state : FnScope ["sides", "many", "size", "value", "later"] ["sides", "many", "size", "value"] (defScope s_is_state) := ⟨rfl, rfl, rfl, by decide +kernel, rfl, by decide +kernel, by decide +kernel⟩
abbrev s_reached_from : Stmt := top 38
theorem sc_reached_from : FnScope ["table", "start", "result", "done", "state", "later"] ["table", "start"] (defScope s_reached_from) := ⟨rfl, rfl, rfl, by decide +kernel, rfl, by decide +kernel, by decide +kernel⟩
abbrev s_deciding : Stmt := top 39
theorem sc_deciding : FnScope ["table", "result", "before", "place", "state", "later"] ["table"] (defScope s_deciding) := ⟨rfl, rfl, rfl, by decide +kernel, rfl, by decide +kernel, by decide +kernel⟩
abbrev s_is_table_by : Stmt := top 40
theorem sc_is_table_by : FnScope ["sides", "many", "value", "state"] ["sides", "many", "value"] (defScope s_is_table_by) := ⟨rfl, rfl, rfl, by decide +kernel, rfl, by decide +kernel, by decide +kernel⟩

/-- the module's constants -/
structure Cs (K : PySem.W.Frag) (mg : Str → Option Value) : Prop where
  ls : ∃ u, mg "LEAST_SIDES" = some u ∧ RelV (.int 2) u
  ms : ∃ u, mg "MOST_SIDES" = some u ∧ RelV (.int 6) u
  mo : ∃ u, mg "MOST_OUTCOMES" = some u ∧ RelV (.int 6) u
  mst : ∃ u, mg "MOST_STATES" = some u ∧ RelV (.int 100) u
  zero : ∃ a, mg "ZERO" = some (.ref a) ∧ ∀ H, Im K H (.ref a) (fr 0)
  one : ∃ a, mg "ONE" = some (.ref a) ∧ ∀ H, Im K H (.ref a) (fr 1)
theorem pe_cst {X : Cx} {x : Str} {v : V} {pos : Pos} (h : ∃ u, X.mg x = some u ∧ RelV v u) (hg : Gl X x) (hd : (x == ("__debug__" : Str)) = false := by decide) : PE X (.Name x pos) (tC v) := by
  obtain ⟨u, h1, h2⟩ := h
  exact pe_glob hg h1 h2 hd
theorem pe_cref {X : Cx} {x : Str} {a : Addr} {pos : Pos} (h : X.mg x = some (.ref a)) (hg : Gl X x) (hd : (x == ("__debug__" : Str)) = false := by decide) : PE X (.Name x pos) (tC (.ref a)) := pe_glob hg h rfl hd
def rwD : Rw → D
  | .fin o => .int (o : Int)
  | .go l => .tup (l.map fun (x : Nat) => D.int (x : Int))
def tbD (t : List Rw) : D := .tup (t.map rwD)
theorem tyn_rw (r : Rw) : (tyn (rwD r)).isSome = true := by cases r <;> rfl
def nD (l : List Nat) : List D := l.map fun (x : Nat) => D.int (x : Int)
theorem nD_ints (l : List Nat) : nD l = (l.map fun (x : Nat) => (x : Int)).map D.int := by unfold nD; rw [List.map_map]; rfl
theorem tb_get {t : List Rw} {i : Nat} {r : Rw} (h : t[i]? = some r) : (t.map rwD)[i]? = some (rwD r) := by rw [List.getElem?_map, h]; rfl
theorem tb_of {t : List Rw} {i : Nat} {d : D} (h : (t.map rwD)[i]? = some d) : ∃ r, t[i]? = some r ∧ d = rwD r := by
  rw [List.getElem?_map] at h
  cases e : t[i]? with
  | none => rw [e] at h; cases h
  | some r => rw [e] at h; exact ⟨r, rfl, (Option.some.inj h).symm⟩
theorem nD_of {l : List Nat} {i : Nat} {d : D} (h : (nD l)[i]? = some d) : ∃ x : Nat, l[i]? = some x ∧ d = .int (x : Int) := by
  unfold nD at h
  rw [List.getElem?_map] at h
  cases e : l[i]? with
  | none => rw [e] at h; cases h
  | some r => rw [e] at h; exact ⟨r, rfl, (Option.some.inj h).symm⟩
theorem mem_cast {l : List Nat} {x : Nat} : ((x : Int) ∈ l.map fun (y : Nat) => (y : Int)) ↔ x ∈ l := by
  rw [List.mem_map]
  exact ⟨fun ⟨y, hy, e⟩ => by have : y = x := by omega
                              rw [← this]; exact hy, fun h => ⟨x, h, rfl⟩⟩
def succ (t : List Rw) (i : Nat) : List Nat := match t[i]? with
  | some (.go l) => l
  | _ => []
/-- what reached_from hands back: the start is in it, it is closed -/
structure Rch (t : List Rw) (st : Nat) (r : List Nat) : Prop where
  nd : r.Nodup
  lt : ∀ x ∈ r, x < t.length
  st : st ∈ r
  cl : ∀ x ∈ r, ∀ y ∈ succ t x, y ∈ r
structure Dcd (t : List Rw) (r : List Nat) : Prop where
  nd : r.Nodup
  lt : ∀ x ∈ r, x < t.length
  fin : ∀ (i o : Nat), t[i]? = some (Rw.fin o) → i ∈ r
  cl : ∀ (i : Nat) (l : List Nat), t[i]? = some (Rw.go l) → (∃ y ∈ l, y ∈ r) → i ∈ r
def S_sides : FS := fun _ ds R => ∃ s : Int, ds = [.int s] ∧ 2 ≤ s ∧ s ≤ 6 ∧ R = Val .non
def S_many : FS := fun _ ds R => ∃ s : Int, ds = [.int s] ∧ 1 ≤ s ∧ s ≤ 6 ∧ R = Val .non
def S_state : FS := fun _ ds R => ∃ (s m n : Nat) (r : Rw), ds = [.int (s : Int), .int (m : Int), .int (n : Int), rwD r] ∧ (match r with | .fin o => o < m | .go l => l.length = s ∧ (∀ x ∈ l, x < n) ∧ l.length ≤ 100) ∧ R = Val (.bl true)
def S_reach : FS := fun _ ds R => ∃ (s many : Nat) (t : List Rw) (st : Nat), ds = [tbD t, .int (st : Int)] ∧ Tb s many t ∧ st < t.length ∧ R = fun d N => ∃ r, Rch t st r ∧ New1 (.lst (nD r)) d N
def S_decid : FS := fun _ ds R => ∃ (s many : Nat) (t : List Rw), ds = [tbD t] ∧ Tb s many t ∧ R = fun d N => ∃ r, Dcd t r ∧ New1 (.lst (nD r)) d N
section
variable {P : Program} {w : World} {K : PySem.W.Frag} {mg : Str → Option Value} {base : Heap}
theorem ok_check_sides (B : Bl mg) (F : FunG K mg "check_sides" s_check_sides) (C : Cs K mg) (hB : Pf P w K mg base "is_between" 2 S_between) : Pf P w K mg base "check_sides" 3 S_sides := by
  refine pf_mk F sc_check_sides (fun _ _ _ _ _ _ us hl => match us, hl with | [_], _ => rfl) (fun Z ds R h => by obtain ⟨s, rfl, _⟩ := h; rfl) (fun f cdv A outer s H E hr => ⟨_, (pss_cons (ps_if (pt_not (pt_val (pe_pf hB hr (by decide) rfl (pa_cons (pv 0) (pa_cons (pe_cst C.ls rfl) (pa_cons (pe_cst C.ms rfl) pa_nil)))))) pss_never pss_nil) pss_nil), fun Z ds R H0 hz hS => ?_⟩)
  obtain ⟨s, rfl, h1, h2, rfl⟩ := hS
  refine gq_ifL (b := false) (EvT.cast (et_not (tt := tB _) (et_B (ev_call (ea_cons (ev_var rfl) (ea_cons ev_int (ea_cons ev_int ea_nil))) ⟨s, 2, 6, rfl, rfl⟩))) ?_) (fun h => by cases h) (fun _ => go_next rfl)
  rw [decide_eq_true ⟨h1, h2⟩]
  rfl
theorem ok_check_many (B : Bl mg) (F : FunG K mg "check_many" s_check_many) (C : Cs K mg) (hB : Pf P w K mg base "is_between" 2 S_between) : Pf P w K mg base "check_many" 3 S_many := by
  refine pf_mk F sc_check_many (fun _ _ _ _ _ _ us hl => match us, hl with | [_], _ => rfl) (fun Z ds R h => by obtain ⟨s, rfl, _⟩ := h; rfl) (fun f cdv A outer s H E hr => ⟨_, (pss_cons (ps_if (pt_not (pt_val (pe_pf hB hr (by decide) rfl (pa_cons (pv 0) (pa_cons pe_int (pa_cons (pe_cst C.mo rfl) pa_nil)))))) pss_never pss_nil) pss_nil), fun Z ds R H0 hz hS => ?_⟩)
  obtain ⟨s, rfl, h1, h2, rfl⟩ := hS
  refine gq_ifL (b := false) (EvT.cast (et_not (tt := tB _) (et_B (ev_call (ea_cons (ev_var rfl) (ea_cons ev_int (ea_cons ev_int ea_nil))) ⟨s, 1, 6, rfl, rfl⟩))) ?_) (fun h => by cases h) (fun _ => go_next rfl)
  rw [decide_eq_true ⟨h1, h2⟩]
  rfl
theorem ok_is_state (B : Bl mg) (F : FunG K mg "is_state" s_is_state) (hB : Pf P w K mg base "is_between" 2 S_between) : Pf P w K mg base "is_state" 3 S_state := by
  refine pf_mk F sc_is_state (fun _ _ _ _ _ _ us hl => match us, hl with | [_, _, _, _], _ => rfl) (fun Z ds R h => by obtain ⟨s, m, n, r, rfl, _⟩ := h; rfl) (fun f cdv A outer s H E hr => ⟨_, (pss_cons (ps_if (pt_not (pt_val (pe_isi (K := K) rfl rfl B rfl (pa_cons (pv 3) (pa_cons (pe_tyT rfl B rfl) pa_nil))))) (pss_cons (ps_ret (pe_pf hB hr (by decide) rfl (pa_cons (pv 3) (pa_cons pe_int (pa_cons (pe_op op_sub (pv 1) pe_int) pa_nil))))) pss_nil) pss_nil) (pss_cons (ps_ret (pe_and (pe_cmpR op_eq (pe_len (K := K) rfl rfl B rfl (pa_cons (pv 3) pa_nil)) (pv 0) (nomark _)) (pe_one (pe_all (K := K) rfl rfl B rfl rfl (pa_cons (pe_lc (own := [("later", 4)]) (g := gName 4) rfl sc_is_state.nd (pi_tupK (K := K) rfl (pv 3)) (blkOk_by (own := [("later", 4)]) (N := ["sides", "many", "size", "value", "later"]) (sc := defScope (s_is_state)) (by decide +kernel)) (fun _ _ _ _ _ => (pg_name (i := 4) sc_is_state.nd rfl (.inl rfl))) (fun _ _ _ _ _ => pts_nil) (fun _ _ _ _ _ => (pe_pf hB hr (by decide) rfl (pa_cons (pv 4) (pa_cons pe_int (pa_cons (pe_op op_sub (pv 2) pe_int) pa_nil)))))) pa_nil))))) pss_nil)), fun Z ds R H0 hz hS => ?_⟩)
  obtain ⟨s, m, n, r, rfl, hr2, rfl⟩ := hS
  cases r with
  | fin o =>
    have ho : o < m := hr2
    refine gq_ifL (b := true) (et_not (tt := tB _) (et_B (b := false) (ev_isTupB (ev_var rfl) rfl rfl))) (fun _ => ?_) (fun h => by cases h)
    refine gq_retP (EvP.cast (ev_call (ea_cons (ev_var rfl) (ea_cons ev_int (ea_cons (ev_op (ev_var rfl) ev_int rv_sub) ea_nil))) ⟨(o : Int), 0, (m : Int) - 1, rfl, rfl⟩) ?_) rfl
    rw [decide_eq_true ⟨by omega, by omega⟩]
  | go l =>
    obtain ⟨h1, h2, h3⟩ := hr2
    refine gq_ifL (b := false) (et_not (tt := tB _) (et_B (b := true) (ev_isTupB (ev_var rfl) rfl rfl))) (fun h => by cases h) (fun _ => ?_)
    refine gq_retP (EvP.cast (ev_andV (b := true) (c := true) (EvP.cast (ev_op (ev_cb (ea_cons (ev_var rfl) ea_nil) rc_lenT) (ev_var rfl) rv_eqI) ?_) (fun _ => EvP.cast (ev_allN (f := fun _ => true) (v := fun _ => .bl true) (en_lcY (v := fun _ => .bl true) (ei_tup (ev_var rfl)) (fun _ => trivial) (fun d hd => ?_) (by rw [List.length_map]; omega)) (fun _ _ => rfl)) ?_)) rfl) rfl
    · rw [List.length_map, h1, decide_eq_true rfl]
    · obtain ⟨x, hx, rfl⟩ := List.mem_map.mp hd
      have := h2 x hx
      refine EvP.cast (ev_call (ea_cons (ev_var rfl) (ea_cons ev_int (ea_cons (ev_op (ev_var rfl) ev_int rv_sub) ea_nil))) ⟨(x : Int), 0, (n : Int) - 1, rfl, rfl⟩) ?_
      rw [decide_eq_true ⟨by omega, by omega⟩]
    · congr 1
      exact List.all_eq_true.mpr fun _ _ => rfl
theorem nodup_len {r : List Nat} {n : Nat} (h : r.Nodup) (hl : ∀ x ∈ r, x < n) : r.length ≤ n := by
  have := List.Nodup.length_le_of_subset (l₁ := r) (l₂ := List.range n) h fun x hx => List.mem_range.mpr (hl x hx)
  simpa using this
theorem nodup_snoc {r : List Nat} {x : Nat} (h : r.Nodup) (hx : x ∉ r) : (r ++ [x]).Nodup := by
  rw [List.nodup_append]
  refine ⟨h, by simp, fun a ha b hb e => ?_⟩
  rw [List.mem_singleton.mp hb] at e
  exact hx (e ▸ ha)
theorem nD_snoc (r : List Nat) (x : Nat) : nD r ++ [D.int (x : Int)] = nD (r ++ [x]) := by unfold nD; rw [List.map_append]; rfl
theorem nD_len (r : List Nat) : (nD r).length = r.length := by unfold nD; rw [List.length_map]
theorem nD_get {r : List Nat} {i x : Nat} (h : r[i]? = some x) : (nD r)[i]? = some (.int (x : Int)) := by unfold nD; rw [List.getElem?_map, h]; rfl
theorem ok_reached_from (B : Bl mg) (F : FunG K mg "reached_from" s_reached_from)  : Pf P w K mg base "reached_from" 1 S_reach := by
  refine pf_mk F sc_reached_from (fun _ _ _ _ _ _ us hl => match us, hl with | [_, _], _ => rfl) (fun Z ds R h => by obtain ⟨s, m, n, r, rfl, _⟩ := h; rfl) (fun f cdv A outer s H E hr => ⟨_, (pss_cons (ps_set (i := 2) sc_reached_from.nd rfl (.inl rfl) (pe_lst (pa_cons (pv 1) pa_nil))) (pss_cons (ps_set (i := 3) sc_reached_from.nd rfl (.inl rfl) pe_int) (pss_cons (ps_while PassesOwn.never (pt_cmpR op_lt (pv 3) (pe_len (K := K) rfl rfl B rfl (pa_cons (pv 2) pa_nil)) (nomark _)) (pss_cons (ps_set (i := 4) sc_reached_from.nd rfl (.inl rfl) (pe_ixT (K := K) rfl (pv 0) (pe_ixL (K := K) rfl (pv 2) (pv 3) (fun _ _ => rfl)) (fun _ _ => rfl))) (pss_cons (ps_for PassesOwn.never rfl (pi_tupK (K := K) rfl (pe_ifExp (pt_val (pe_isi (K := K) rfl rfl B rfl (pa_cons (pv 4) (pa_cons (pe_tyT rfl B rfl) pa_nil)))) (pv 4) (pe_tup pa_nil))) (pg_name (i := 5) sc_reached_from.nd rfl (.inl rfl)) (pss_cons (ps_if (pt_cmpR (op_niK (K := K) rfl) (pv 5) (pv 2) rfl) (pss_cons (ps_expr (pe_bm PySem.F.plainAttrs_list PySem.F.slot_list_append PySem.F.type_list_append mt_append (pv 2) (pa_cons (pv 5) pa_nil))) pss_nil) pss_nil) pss_nil)) (pss_cons (ps_aug (i := 3) sc_reached_from.nd rfl (.inl rfl) pe_int ip_add) pss_nil)))) (pss_cons (ps_ret (pv 2)) pss_nil)))), fun Z ds R H0 hz hS => ?_⟩)
  obtain ⟨s, many, t, st, rfl, T, hst, rfl⟩ := hS
  refine gq_new (en_lst (ea_cons (ev_var rfl) ea_nil) (by show 1 ≤ 100000; decide)) fun a => ?_
  refine gq_set ev_int ?_
  -- places below done are closed
  let I : List Nat → Nat → Prop := fun r k => r.Nodup ∧ (∀ x ∈ r, x < t.length) ∧ st ∈ r ∧ k ≤ r.length ∧ ∀ i x, i < k → r[i]? = some x → ∀ y ∈ succ t x, y ∈ r
  refine gq_while (m0 := t.length) (fun m G L => ∃ (r : List Nat) (k : Nat) (v1 v2 : Option D), G = [some (tbD t), some (.int (st : Int)), some (.ref a), some (.int (k : Int)), v1, v2] ∧ L = [(a, .lst (nD r))] ∧ I r k ∧ m = t.length - k)
    ⟨[st], 0, none, none, rfl, rfl, ⟨by simp, fun x hx => by rw [List.mem_singleton.mp hx]; exact hst, List.mem_singleton.mpr rfl, Nat.zero_le _, fun i x hi => by omega⟩, rfl⟩
    (fun G L => ∃ (r : List Nat) (v1 v2 v3 : Option D), G = [some (tbD t), some (.int (st : Int)), some (.ref a), v1, v2, v3] ∧ L = [(a, .lst (nD r))] ∧ Rch t st r) (fun m G L hW => ?_) (fun G L hM => ?_)
  · obtain ⟨r, k, v1, v2, rfl, rfl, ⟨i1, i2, i3, i4, i5⟩, rfl⟩ := hW
    have hrl := nodup_len i1 i2
    refine ⟨_, et_test (ev_op (ev_var rfl) (ev_cb (ea_cons (ev_var rfl) ea_nil) (rc_lenL (.inl List.mem_cons_self))) rv_lt), fun hb => ?_, fun hb => ?_⟩
    · have hk : k < r.length := by have := of_decide_eq_true hb; rw [nD_len] at this; omega
      obtain ⟨x, hx⟩ : ∃ x, r[k]? = some x := ⟨r[k], List.getElem?_eq_getElem hk⟩
      have hxl := i2 x (List.mem_of_getElem? hx)
      obtain ⟨q, hq⟩ : ∃ q, t[x]? = some q := ⟨t[x], List.getElem?_eq_getElem hxl⟩
      refine gq_set (d := rwD q) (ev_op (ev_var rfl) (ev_op (ev_var rfl) (ev_var rfl) (rv_ixL (.inl List.mem_cons_self) (atN (nD_get hx)))) (rv_ixT (atN (tb_get hq)))) ?_
      -- the successors
      have hsd : ∃ l, (match q with | .go l => l | .fin _ => []) = l ∧ succ t x = l ∧ (∀ y ∈ l, y < t.length) ∧ l.length ≤ 6 := by
        cases q with
        | fin o => exact ⟨[], rfl, by unfold succ; rw [hq], fun y hy => (nomatch hy), by simp⟩
        | go l => exact ⟨l, rfl, by unfold succ; rw [hq], (T.go x l hq).2, by rw [(T.go x l hq).1]; exact T.s2⟩
      obtain ⟨l, hl1, hl2, hl3, hl4⟩ := hsd
      refine gq_for0 (ds := nD l) (W := fun _ => True) (ei_tup ?_) (fun i G L => ∃ (r' : List Nat) (v2 : Option D), G = [some (tbD t), some (.int (st : Int)), some (.ref a), some (.int (k : Int)), some (rwD q), v2] ∧ L = [(a, .lst (nD r'))] ∧ (∀ x ∈ r, x ∈ r') ∧ r'.take r.length = r ∧ r'.Nodup ∧ (∀ x ∈ r', x < t.length) ∧ ∀ j y, j < i → l[j]? = some y → y ∈ r')
        ⟨r, v2, rfl, rfl, fun _ h => h, List.take_length, i1, i2, fun j y hj => by omega⟩ (fun _ _ _ _ => trivial) (fun i d G L hd hI => ?_) (fun G L hI => ?_)
      · cases q with
        | fin o =>
          have : l = [] := hl1.symm
          subst this
          exact ev_if (b := false) (et_B (ev_isTupB (ev_var rfl) rfl rfl)) (fun h => by cases h) (fun _ => ev_tup ea_nil (by show 0 ≤ 100000; decide))
        | go l' =>
          have : l = l' := hl1.symm
          subst this
          exact ev_if (b := true) (et_B (ev_isTupB (ev_var rfl) rfl rfl)) (fun _ => ev_var rfl) (fun h => by cases h)
      · obtain ⟨r', v2, rfl, rfl, j0, jt, j1, j2, j3⟩ := hI
        obtain ⟨y, hy, rfl⟩ := nD_of hd
        have hyl := hl3 y (List.mem_of_getElem? hy)
        have hrl' := nodup_len j1 j2
        refine ⟨_, eg_name, ?_⟩
        refine gq_if2 (b := !decide ((y : Int) ∈ r'.map fun (z : Nat) => (z : Int))) (et_test (ev_op (ev_var rfl) (ev_var rfl) (rv_niL (.inl (by rw [← nD_ints]; exact List.mem_cons_self))))) (fun hb => ?_) (fun hb => ?_)
        · have hn : y ∉ r' := fun h => by rw [decide_eq_true (mem_cast.mpr h)] at hb; cases hb
          refine gq_assoc (gq_append (k := 0) rfl (ev_var rfl) (ev_var rfl) (by rw [nD_len]; have := T.n2; omega) (gq_nil (go_next ?_)))
          rw [nD_snoc]
          refine ⟨r' ++ [y], _, rfl, rfl, fun x hx => List.mem_append_left _ (j0 x hx), ?_, nodup_snoc j1 hn, fun x hx => ?_, fun j z hj hz => ?_⟩
          · have hlen : r.length ≤ r'.length := by rw [← jt, List.length_take]; omega
            rw [List.take_append_of_le_length hlen, jt]
          · rcases List.mem_append.mp hx with hx | hx
            · exact j2 x hx
            · rw [List.mem_singleton.mp hx]; exact hyl
          · by_cases e : j = i
            · subst e; rw [hy] at hz; cases hz; exact List.mem_append_right _ (List.mem_singleton.mpr rfl)
            · exact List.mem_append_left _ (j3 j z (by omega) hz)
        · have hn : y ∈ r' := by
            by_cases h : y ∈ r'
            · exact h
            · rw [decide_eq_false (fun z => h (mem_cast.mp z))] at hb; cases hb
          refine gq_nil (go_next ⟨r', _, rfl, rfl, j0, jt, j1, j2, fun j z hj hz => ?_⟩)
          by_cases e : j = i
          · subst e; rw [hy] at hz; cases hz; exact hn
          · exact j3 j z (by omega) hz
      · obtain ⟨r', v2, rfl, rfl, j0, jt, j1, j2, j3⟩ := hI
        have hlen : r.length ≤ r'.length := by rw [← jt, List.length_take]; omega
        have hrl' := nodup_len j1 j2
        have pre : ∀ i, i < r.length → r'[i]? = r[i]? := fun i hi => by rw [← List.getElem?_take_of_lt hi (l := r'), jt]
        refine gq_aug (a := (k : Int)) (c := 1) rfl ev_int (go_next ⟨t.length - (k + 1), by omega, r', k + 1, _, _, rfl, rfl, ⟨j1, j2, j0 _ i3, by omega, fun i z hi hz => ?_⟩, rfl⟩)
        by_cases e : i = k
        · subst e
          rw [pre _ hk, hx] at hz
          cases hz
          rw [hl2]
          intro y hy
          obtain ⟨j, hj⟩ := List.getElem?_of_mem hy
          exact j3 j y (by rw [nD_len]; exact (List.getElem?_eq_some_iff.mp hj).1) hj
        · rw [pre i (by omega)] at hz
          exact fun y hy => j0 y (i5 i z (by omega) hz y hy)
    · have hk : k = r.length := by have := of_decide_eq_false hb; rw [nD_len] at this; omega
      refine ⟨r, _, _, _, rfl, rfl, i1, i2, i3, fun x hx => ?_⟩
      obtain ⟨j, hj⟩ := List.getElem?_of_mem hx
      exact i5 j x (by rw [hk]; exact (List.getElem?_eq_some_iff.mp hj).1) hj
  · obtain ⟨r, v1, v2, v3, rfl, rfl, hr⟩ := hM
    exact gq_retA (ev_var rfl) ⟨r, hr, a, rfl, rfl⟩
/-- the final places among the first i -/
def fins (t : List Rw) (i : Nat) : List Nat := (List.range i).filter fun k => match t[k]? with | some (.fin _) => true | _ => false
def numT (t : List Rw) : List D := nums (t.map rwD)
theorem numT_get {t : List Rw} {i : Nat} {d : D} (h : (numT t)[i]? = some d) : ∃ r, t[i]? = some r ∧ d = .tup [.int (i : Int), rwD r] := by
  have hi : i < t.length := by have := (List.getElem?_eq_some_iff.mp h).1; unfold numT at this; rwa [nums_len, List.length_map] at this
  obtain ⟨r, hr⟩ : ∃ r, t[i]? = some r := ⟨t[i], List.getElem?_eq_getElem hi⟩
  have := nums_get (tb_get hr)
  unfold numT at h
  rw [this] at h
  exact ⟨r, hr, (Option.some.inj h).symm⟩
theorem numT_fins (t : List Rw) : ((numT t).filter fun d => match d with | .tup [_, .int _] => true | _ => false).map (fun d => match d with | .tup [x, _] => x | _ => .non) = nD (fins t t.length) := by
  have key : ∀ i, i ≤ t.length → (((numT t).take i).filter fun d => match d with | .tup [_, .int _] => true | _ => false).map (fun d => match d with | .tup [x, _] => x | _ => .non) = nD (fins t i) := by
    intro i
    induction i with
    | zero => intro _; rfl
    | succ i ih =>
      intro hi
      obtain ⟨r, hr⟩ : ∃ r, t[i]? = some r := ⟨t[i], List.getElem?_eq_getElem (by omega)⟩
      have hn : (numT t)[i]? = some (.tup [.int (i : Int), rwD r]) := nums_get (tb_get hr)
      rw [List.take_succ, hn, List.filter_append, List.map_append, ih (by omega)]
      unfold fins
      rw [List.range_succ, List.filter_append]
      cases r with
      | fin o =>
        simp only [Option.toList_some, rwD, List.filter_cons, List.filter_nil, if_true, List.map_cons, List.map_nil, hr]
        exact nD_snoc _ i
      | go l =>
        simp only [Option.toList_some, rwD, List.filter_cons, List.filter_nil, Bool.false_eq_true, if_false, List.map_nil, List.append_nil, hr]
  have := key t.length (Nat.le_refl _)
  rwa [List.take_of_length_le (by unfold numT; rw [nums_len, List.length_map]; exact Nat.le_refl _)] at this
theorem fins_nd (t : List Rw) (i : Nat) : (fins t i).Nodup := List.nodup_range.filter _
theorem fins_lt (t : List Rw) (i : Nat) : ∀ x ∈ fins t i, x < i := fun x hx => List.mem_range.mp (List.mem_filter.mp hx).1
theorem fins_mem {t : List Rw} {i x o : Nat} (h : t[x]? = some (.fin o)) (hx : x < i) : x ∈ fins t i := List.mem_filter.mpr ⟨List.mem_range.mpr hx, by rw [h]⟩
theorem ok_deciding (B : Bl mg) (F : FunG K mg "deciding" s_deciding)  : Pf P w K mg base "deciding" 1 S_decid := by
  refine pf_mk F sc_deciding (fun _ _ _ _ _ _ us hl => match us, hl with | [_], _ => rfl) (fun Z ds R h => by obtain ⟨s, m, n, rfl, _⟩ := h; rfl) (fun f cdv A outer s H E hr => ⟨_, (pss_cons (ps_set (i := 1) sc_deciding.nd rfl (.inr rfl) (pe_lc (own := [("place", 3), ("state", 4)]) (g := gTup K 2 (gCons (gName 3) (gCons (gName 4) gNil))) rfl sc_deciding.nd (pi_enumK (K := K) rfl rfl B rfl (pa_cons (pv 0) pa_nil)) (blkOk_by (own := [("place", 3), ("state", 4)]) (N := ["table", "result", "before", "place", "state", "later"]) (sc := defScope (s_deciding)) (by decide +kernel)) (fun _ _ _ _ _ => (pg_tupK (K := K) rfl rfl (pgs_cons (pg_name (i := 3) sc_deciding.nd rfl (.inl rfl)) (pgs_cons (pg_name (i := 4) sc_deciding.nd rfl (.inl rfl)) pgs_nil)))) (fun _ _ _ _ _ => pts_one (pt_not (pt_val (pe_isi (K := K) rfl rfl B rfl (pa_cons (pv 4) (pa_cons (pe_tyT rfl B rfl) pa_nil)))))) (fun _ _ _ _ _ => (pv 3)))) (pss_cons (ps_set (i := 2) sc_deciding.nd rfl (.inl rfl) (pe_un un_neg pe_int)) (pss_cons (ps_while PassesOwn.never (pt_cmpR op_ne (pv 2) (pe_len (K := K) rfl rfl B rfl (pa_cons (pv 1) pa_nil)) (nomark _)) (pss_cons (ps_set (i := 2) sc_deciding.nd rfl (.inl rfl) (pe_len (K := K) rfl rfl B rfl (pa_cons (pv 1) pa_nil))) (pss_cons (ps_for PassesOwn.never rfl (pi_enumK (K := K) rfl rfl B rfl (pa_cons (pv 0) pa_nil)) (pg_tupK (K := K) rfl rfl (pgs_cons (pg_name (i := 3) sc_deciding.nd rfl (.inl rfl)) (pgs_cons (pg_name (i := 4) sc_deciding.nd rfl (.inl rfl)) pgs_nil))) (pss_cons (ps_if (PW.pt (pw_and (pt_cmpR (op_niK (K := K) rfl) (pv 3) (pv 1) rfl) (pw_and1 (pt_val (pe_any (K := K) rfl rfl B rfl rfl (pa_cons (pe_lc (own := [("later", 5)]) (g := gName 5) rfl sc_deciding.nd (pi_tupK (K := K) rfl (pv 4)) (blkOk_by (own := [("later", 5)]) (N := ["table", "result", "before", "place", "state", "later"]) (sc := defScope (s_deciding)) (by decide +kernel)) (fun _ _ _ _ _ => (pg_name (i := 5) sc_deciding.nd rfl (.inl rfl))) (fun _ _ _ _ _ => pts_nil) (fun _ _ _ _ _ => (pe_cmpR (op_inK (K := K) rfl) (pv 5) (pv 1) rfl))) pa_nil)))))) (pss_cons (ps_expr (pe_bm PySem.F.plainAttrs_list PySem.F.slot_list_append PySem.F.type_list_append mt_append (pv 1) (pa_cons (pv 3) pa_nil))) pss_nil) pss_nil) pss_nil)) pss_nil))) (pss_cons (ps_ret (pv 1)) pss_nil)))), fun Z ds R H0 hz hS => ?_⟩)
  obtain ⟨s, many, t, rfl, T, rfl⟩ := hS
  have hlen : (numT t).length = t.length := by unfold numT; rw [nums_len, List.length_map]
  refine gq_new (en_lc2 (ds := numT t) (fun d => match d with | .tup [_, .int _] => true | _ => false) (fun d => match d with | .tup [x, _] => x | _ => .non) (by decide) (ei_enum (ea_cons (ev_var rfl) ea_nil) (.tup _)) (fun _ => trivial) (fun d hd => ?_) (by rw [hlen]; have := T.n2; omega)) fun a => ?_
  · obtain ⟨i, hi⟩ := List.getElem?_of_mem hd
    obtain ⟨r, hr, rfl⟩ := numT_get hi
    refine ⟨_, _, rfl, ?_, fun _ => ev_var rfl⟩
    cases r with
    | fin o => exact et_not (tt := tB _) (et_B (b := false) (ev_isTupB (ev_var rfl) rfl rfl))
    | go l => exact et_not (tt := tB _) (et_B (b := true) (ev_isTupB (ev_var rfl) rfl rfl))
  rw [numT_fins t]
  refine gq_set (ev_un1 ev_int) ?_
  let I : List Nat → Prop := fun r => r.Nodup ∧ (∀ x ∈ r, x < t.length) ∧ ∀ (i o : Nat), t[i]? = some (Rw.fin o) → i ∈ r
  refine gq_while (m0 := t.length + 1) (fun m G L => ∃ (r : List Nat) (bf : Int) (v1 v2 v3 : Option D), G = [some (tbD t), some (.ref a), some (.int bf), v1, v2, v3] ∧ L = [(a, .lst (nD r))] ∧ I r ∧ bf ≤ r.length ∧ -1 ≤ bf ∧ (m : Int) = t.length - bf ∧ (bf = r.length → Dcd t r))
    ⟨fins t t.length, -1, none, none, none, rfl, rfl, ⟨fins_nd _ _, fins_lt _ _, fun i o h => fins_mem h (List.getElem?_eq_some_iff.mp h).1⟩, by omega, by omega, by omega, fun h => by omega⟩
    (fun G L => ∃ (r : List Nat) (v1 v2 v3 v4 : Option D), G = [some (tbD t), some (.ref a), v1, v2, v3, v4] ∧ L = [(a, .lst (nD r))] ∧ Dcd t r) (fun m G L hW => ?_) (fun G L hM => ?_)
  · obtain ⟨r, bf, v1, v2, v3, rfl, rfl, ⟨i1, i2, i3⟩, hb1, hb2, hm, hc⟩ := hW
    have hrl := nodup_len i1 i2
    refine ⟨_, et_test (ev_op (ev_var rfl) (ev_cb (ea_cons (ev_var rfl) ea_nil) (rc_lenL (.inl List.mem_cons_self))) rv_neI), fun hb => ?_, fun hb => ?_⟩
    · have hne : bf ≠ r.length := by rw [nD_len] at hb; intro e; rw [decide_eq_true e] at hb; cases hb
      refine gq_set (ev_cb (ea_cons (ev_var rfl) ea_nil) (rc_lenL (.inl List.mem_cons_self))) ?_
      rw [nD_len]
      refine gq_for0 (ds := numT t) (ei_enum (ea_cons (ev_var rfl) ea_nil) (.tup _)) (fun i G L => ∃ (r' : List Nat) (v1 v2 v3 : Option D), G = [some (tbD t), some (.ref a), some (.int (r.length : Int)), v1, v2, v3] ∧ L = [(a, .lst (nD r'))] ∧ I r' ∧ r.length ≤ r'.length ∧ (∀ x ∈ r, x ∈ r') ∧
          (r'.length = r.length → r' = r ∧ ∀ j l, j < i → t[j]? = some (Rw.go l) → (∃ y ∈ l, y ∈ r) → j ∈ r))
        ⟨r, _, _, _, rfl, rfl, ⟨i1, i2, i3⟩, Nat.le_refl _, fun _ h => h, fun _ => ⟨rfl, fun j l hj => by omega⟩⟩ (fun _ _ _ _ => trivial) (fun i d G L hd hI => ?_) (fun G L hI => ?_)
      · obtain ⟨r', v1, v2, v3, rfl, rfl, ⟨j1, j2, j3⟩, j4, j5, j6⟩ := hI
        obtain ⟨q, hq, rfl⟩ := numT_get hd
        have hiq := (List.getElem?_eq_some_iff.mp hq).1
        have hrl' := nodup_len j1 j2
        refine ⟨_, eg_two, ?_⟩
        -- the test
        have tst : ∃ b, EvT K H0 [some (tbD t), some (.ref a), some (.int (r.length : Int)), some (.int (i : Int)), some (rwD q), v3] [(a, .lst (nD r'))] (tAnd (tTest (tOp (rIn K true) (tVar 3) (tVar 1))) (tB (tCB (rAny K) (tCons (tLc (iTup K (tVar 4)) (gName 5) tYes (tOp (rIn K false) (tVar 5) (tVar 1)) [5]) tNil)))) b ∧
            (b = true → i ∉ r') ∧ (b = false → i ∈ r' ∨ ∃ l, q = .go l ∧ ∀ y ∈ l, y ∉ r') := by
          have t1 : EvT K H0 [some (tbD t), some (.ref a), some (.int (r.length : Int)), some (.int (i : Int)), some (rwD q), v3] [(a, .lst (nD r'))] (tTest (tOp (rIn K true) (tVar 3) (tVar 1))) (!decide ((i : Int) ∈ r'.map fun (z : Nat) => (z : Int))) :=
            et_test (ev_op (ev_var rfl) (ev_var rfl) (rv_niL (.inl (by rw [← nD_ints]; exact List.mem_cons_self))))
          by_cases hin : i ∈ r'
          · rw [decide_eq_true (mem_cast.mpr hin)] at t1
            exact ⟨_, et_and (c := true) t1 (fun h => by cases h), fun h => (by cases h), fun _ => .inl hin⟩
          · rw [decide_eq_false (fun z => hin (mem_cast.mp z))] at t1
            cases q with
            | fin o => exact absurd (j3 i o hq) hin
            | go l =>
              have h5 := (T.go i l hq).1
              have h6 := T.s2
              refine ⟨_, et_and t1 (fun _ => et_B (ev_anyN (ds := nD l) (f := fun d => match d with | .int k => decide (k ∈ r'.map fun (z : Nat) => (z : Int)) | _ => false) (v := fun d => .bl (match d with | .int k => decide (k ∈ r'.map fun (z : Nat) => (z : Int)) | _ => false)) (en_lcY _ (ei_tup (ev_var rfl)) (fun _ => trivial) (fun d hd => ?_) (by rw [nD_len]; omega)) (fun _ _ => rfl))), fun _ => hin, fun hb => .inr ⟨l, rfl, fun y hy hyr => ?_⟩⟩
              · obtain ⟨k, hk⟩ := List.getElem?_of_mem hd
                obtain ⟨y, hy, rfl⟩ := nD_of hk
                exact ev_op (ev_var rfl) (ev_var rfl) (rv_isL (.inl (by rw [← nD_ints]; exact List.mem_cons_self)))
              · have : ((nD l).any fun d => match d with | .int k => decide (k ∈ r'.map fun (z : Nat) => (z : Int)) | _ => false) = true := by
                  rw [List.any_eq_true]
                  exact ⟨.int (y : Int), List.mem_map.mpr ⟨y, hy, rfl⟩, decide_eq_true (mem_cast.mpr hyr)⟩
                rw [this] at hb
                cases hb
        obtain ⟨b, tb, tt1, tt2⟩ := tst
        refine gq_if2 tb (fun hb => ?_) (fun hb => ?_)
        · have hn := tt1 hb
          refine gq_assoc (gq_append (k := 0) rfl (ev_var rfl) (ev_var rfl) (by rw [nD_len]; have := T.n2; omega) (gq_nil (go_next ?_)))
          rw [nD_snoc]
          refine ⟨r' ++ [i], _, _, _, rfl, rfl, ⟨nodup_snoc j1 hn, fun x hx => ?_, fun k o hk => List.mem_append_left _ (j3 k o hk)⟩, by rw [List.length_append]; omega, fun x hx => List.mem_append_left _ (j5 x hx), fun he => ?_⟩
          · rcases List.mem_append.mp hx with hx | hx
            · exact j2 x hx
            · rw [List.mem_singleton.mp hx]; exact hiq
          · rw [List.length_append, List.length_singleton] at he; omega
        · refine gq_nil (go_next ⟨r', _, _, _, rfl, rfl, ⟨j1, j2, j3⟩, j4, j5, fun he => ⟨(j6 he).1, fun j l hj hjl hy => ?_⟩⟩)
          by_cases e : j = i
          · subst e
            rw [hjl] at hq
            cases hq
            rcases tt2 hb with h | ⟨l', hl', hno⟩
            · rw [← (j6 he).1]; exact h
            · cases hl'
              obtain ⟨y, hy1, hy2⟩ := hy
              exact absurd (j5 y hy2) (hno y hy1)
          · exact (j6 he).2 j l (by omega) hjl hy
      · obtain ⟨r', v1, v2, v3, rfl, rfl, ⟨j1, j2, j3⟩, j4, j5, j6⟩ := hI
        have hrl' := nodup_len j1 j2
        refine go_next ⟨t.length - r.length, by omega, r', (r.length : Int), _, _, _, rfl, rfl, ⟨j1, j2, j3⟩, by omega, by omega, by omega, fun he => ?_⟩
        have he' : r'.length = r.length := by omega
        obtain ⟨e1, e2⟩ := j6 he'
        subst e1
        exact ⟨j1, j2, j3, fun i l hi hy => e2 i l (by rw [hlen]; exact (List.getElem?_eq_some_iff.mp hi).1) hi hy⟩
    · have he : bf = r.length := by
        rw [nD_len] at hb
        by_cases h : bf = r.length
        · exact h
        · rw [decide_eq_false h] at hb; cases hb
      exact ⟨r, _, _, _, _, rfl, rfl, hc he⟩
  · obtain ⟨r, v1, v2, v3, v4, rfl, rfl, hr⟩ := hM
    exact gq_retA (ev_var rfl) ⟨r, hr, a, rfl, rfl⟩
end
inductive Ra (t : List Rw) (st : Nat) : Nat → Prop where
  | st : Ra t st st
  | step {x y : Nat} : Ra t st x → y ∈ succ t x → Ra t st y
theorem Rch.all {t : List Rw} {st : Nat} {r : List Nat} (h : Rch t st r) {x : Nat} (a : Ra t st x) : x ∈ r := by
  induction a with
  | st => exact h.st
  | step _ hy ih => exact h.cl _ ih _ hy
theorem len_all {r : List Nat} {n : Nat} (h : r.Nodup) (hl : ∀ x ∈ r, x < n) (ha : ∀ x, x < n → x ∈ r) : r.length = n := by
  refine Nat.le_antisymm (nodup_len h hl) ?_
  have := List.Nodup.length_le_of_subset (l₁ := List.range n) (l₂ := r) List.nodup_range fun x hx => ha x (List.mem_range.mp hx)
  simpa using this
theorem Dcd.all {s many : Nat} {t : List Rw} {r : List Nat} {d : Nat → Nat} (T : Tb s many t) (h : Dcd t r) (k : Rk t d) : ∀ n i, d i < n → i < t.length → i ∈ r := by
  intro n
  induction n with
  | zero => intro i hi; omega
  | succ n ih =>
    intro i hi hl
    obtain ⟨q, hq⟩ : ∃ q, t[i]? = some q := ⟨t[i], List.getElem?_eq_getElem hl⟩
    cases q with
    | fin o => exact h.fin i o hq
    | go l =>
      obtain ⟨x, hx, hd⟩ := k i l hq
      exact h.cl i l hq ⟨x, hx, ih x (by omega) ((T.go i l hq).2 x hx)⟩
def S_istab : FS := fun _ ds R => ∃ (s m : Nat) (t : List Rw) (d : Nat → Nat), ds = [.int (s : Int), .int (m : Int), tbD t] ∧ Tb s m t ∧ Rk t d ∧ (∀ i, i < t.length → Ra t 0 i) ∧ R = Val (.bl true)
section
variable {P : Program} {w : World} {K : PySem.W.Frag} {mg : Str → Option Value} {base : Heap}
theorem ok_is_table_by (B : Bl mg) (F : FunG K mg "is_table_by" s_is_table_by) (C : Cs K mg) (hS1 : Pf P w K mg base "is_state" 3 S_state) (hRF : Pf P w K mg base "reached_from" 1 S_reach) (hDE : Pf P w K mg base "deciding" 1 S_decid) : Pf P w K mg base "is_table_by" 4 S_istab := by
  refine pf_mk F sc_is_table_by (fun _ _ _ _ _ _ us hl => match us, hl with | [_, _, _], _ => rfl) (fun Z ds R h => by obtain ⟨s, m, t, d, rfl, _⟩ := h; rfl) (fun f cdv A outer s H E hr => ⟨_, (pss_cons (ps_if (PW.pt (pw_or (pt_not (pt_val (pe_isi (K := K) rfl rfl B rfl (pa_cons (pv 2) (pa_cons (pe_tyT rfl B rfl) pa_nil))))) (pw_or1 (pt_not (pt_chain op_le op_le pe_int (pe_len (K := K) rfl rfl B rfl (pa_cons (pv 2) pa_nil)) (pe_cst C.mst rfl)))))) (pss_cons (ps_ret pe_bl) pss_nil) pss_nil) (pss_cons (ps_if (pt_not (pt_val (pe_all (K := K) rfl rfl B rfl rfl (pa_cons (pe_lc (own := [("state", 3)]) (g := gName 3) rfl sc_is_table_by.nd (pi_tupK (K := K) rfl (pv 2)) (blkOk_by (own := [("state", 3)]) (N := ["sides", "many", "value", "state"]) (sc := defScope (s_is_table_by)) (by decide +kernel)) (fun _ _ _ _ _ => (pg_name (i := 3) sc_is_table_by.nd rfl (.inl rfl))) (fun _ _ _ _ _ => pts_nil) (fun _ _ _ _ _ => (pe_pf hS1 hr (by decide) rfl (pa_cons (pv 0) (pa_cons (pv 1) (pa_cons (pe_len (K := K) rfl rfl B rfl (pa_cons (pv 2) pa_nil)) (pa_cons (pv 3) pa_nil))))))) pa_nil)))) (pss_cons (ps_ret pe_bl) pss_nil) pss_nil) (pss_cons (ps_ret (pe_and (pe_cmpR op_eq (pe_len (K := K) rfl rfl B rfl (pa_cons (pe_pf hRF hr (by decide) rfl (pa_cons (pv 2) (pa_cons pe_int pa_nil))) pa_nil)) (pe_len (K := K) rfl rfl B rfl (pa_cons (pv 2) pa_nil)) (nomark _)) (pe_one (pe_cmpR op_eq (pe_len (K := K) rfl rfl B rfl (pa_cons (pe_pf hDE hr (by decide) rfl (pa_cons (pv 2) pa_nil)) pa_nil)) (pe_len (K := K) rfl rfl B rfl (pa_cons (pv 2) pa_nil)) (nomark _))))) pss_nil))), fun Z ds R H0 hz hS => ?_⟩)
  obtain ⟨s, m, t, d, rfl, T, hk, hra, rfl⟩ := hS
  have hl : (t.map rwD).length = t.length := List.length_map ..
  have n1 := T.n1
  have n2 := T.n2
  refine gq_ifL (b := false) (et_or (b := false) (c := false) (et_not (tt := tB _) (et_B (b := true) (ev_isTupB (ev_var rfl) rfl rfl))) (fun _ => et_not (b := true) (EvT.cast (et_test (ev_chain ev_int (ev_cb (ea_cons (ev_var rfl) ea_nil) rc_lenT) rv_le (fun _ => ev_int) (fun _ => rv_le))) ?_))) (fun h => by cases h) (fun _ => ?_)
  · rw [hl, decide_eq_true (by omega), decide_eq_true (by omega)]; rfl
  refine gq_ifL (b := false) (et_not (tt := tB _) (et_B (b := true) (EvP.cast (ev_allN (f := fun _ => true) (v := fun _ => .bl true) (en_lcY (v := fun _ => .bl true) (ei_tup (ev_var rfl)) (fun _ => trivial) (fun x hx => ?_) (by rw [hl]; omega)) (fun _ _ => rfl)) ?_))) (fun h => by cases h) (fun _ => ?_)
  · obtain ⟨i, hi⟩ := List.getElem?_of_mem hx
    obtain ⟨q, hq, rfl⟩ := tb_of hi
    refine ev_call (ea_cons (ev_var rfl) (ea_cons (ev_var rfl) (ea_cons (ev_cb (ea_cons (ev_var rfl) ea_nil) rc_lenT) (ea_cons (ev_var rfl) ea_nil)))) ⟨s, m, t.length, q, by rw [hl], ?_, rfl⟩
    cases q with
    | fin o => exact T.fin i o hq
    | go l => exact ⟨(T.go i l hq).1, (T.go i l hq).2, by rw [(T.go i l hq).1]; have := T.s2; omega⟩
  · congr 1
    exact List.all_eq_true.mpr fun _ _ => rfl
  refine gq_retP (EvP.cast (ev_andV (b := true) (c := true) (EvP.cast (ev_op (ev_lenX (n := t.length) (en_call (ea_cons (ev_var rfl) (ea_cons ev_int ea_nil)) ⟨s, m, t, 0, rfl, T, n1, rfl⟩ noZ) ?_) (ev_cb (ea_cons (ev_var rfl) ea_nil) rc_lenT) rv_eqI) ?_) (fun _ => EvP.cast (ev_op (ev_lenX (n := t.length) (en_call (ea_cons (ev_var rfl) ea_nil) ⟨s, m, t, rfl, T, rfl⟩ noZ) ?_) (ev_cb (ea_cons (ev_var rfl) ea_nil) rc_lenT) rv_eqI) ?_)) rfl) rfl
  · rintro d N ⟨r, hr, a, rfl, rfl⟩
    exact ⟨a, _, rfl, rfl, by rw [nD_len, len_all hr.nd hr.lt fun x hx => hr.all (hra x hx)]⟩
  · rw [hl, decide_eq_true rfl]
  · rintro d' N ⟨r, hr, a, rfl, rfl⟩
    exact ⟨a, _, rfl, rfl, by rw [nD_len, len_all hr.nd hr.lt fun x hx => hr.all T hk (d x + 1) x (by omega) hx]⟩
  · rw [hl, decide_eq_true rfl]
end
end Fc

namespace Fc
open PySem PySem.Spec PyProof.Rows L2
/-! ## dicts of shares -/
def enc (kl : List (Nat × Rat)) : List (Key × D) := kl.map fun q => ((.inl (q.1 : Int) : Key), fr q.2)
def unfr : D → Rat
  | .tup [.int a, .int b] => mkRat a b.toNat
  | _ => 0
theorem unfr_fr (r : Rat) : unfr (fr r) = r := by
  show mkRat r.num ((r.den : Int)).toNat = r
  rw [Int.toNat_natCast]
  exact Rat.mkRat_self r
structure DR (b n : Nat) (ks : List (Key × D)) (f : Nat → Rat) : Prop where
  ex : ∃ kl : List (Nat × Rat), ks = enc kl ∧ (kl.map (·.1)).Nodup ∧ (∀ q ∈ kl, q.1 < b ∧ q.2 = f q.1) ∧ ∀ c, c < n → c ∉ kl.map (·.1) → f c = 0
theorem enc_in {f : Nat → Rat} {c : Nat} : ∀ {kl : List (Nat × Rat)}, (∀ q ∈ kl, q.2 = f q.1) → c ∈ kl.map (·.1) → valD (enc kl) (.inl (c : Int)) = some (fr (f c))
  | [], _, h => nomatch h
  | q :: r, h, hc => by
    by_cases e : q.1 = c
    · have := h q List.mem_cons_self
      rw [← e, ← this]
      simp [valD, enc, List.find?_cons]
    · have ih := enc_in (kl := r) (fun x hx => h x (List.mem_cons_of_mem _ hx)) ((List.mem_cons.mp hc).resolve_left fun z => e z.symm)
      have e2 : valD (enc (q :: r)) (.inl (c : Int)) = valD (enc r) (.inl (c : Int)) := by
        have ne : ¬ ((Sum.inl (q.1 : Int) : Key) = Sum.inl (c : Int)) := fun z => e (by have := Sum.inl.inj z; omega)
        simp only [valD, enc, List.map_cons, List.find?_cons, ne, decide_false]
      rw [e2, ih]
theorem enc_out {c : Nat} : ∀ {kl : List (Nat × Rat)}, c ∉ kl.map (·.1) → valD (enc kl) (.inl (c : Int)) = none
  | [], _ => rfl
  | q :: r, hc => by
    rw [List.map_cons, List.mem_cons, not_or] at hc
    have e : ¬ q.1 = c := fun z => hc.1 z.symm
    have ih := enc_out (kl := r) hc.2
    have ne : ¬ ((Sum.inl (q.1 : Int) : Key) = Sum.inl (c : Int)) := fun z => e (by have := Sum.inl.inj z; omega)
    have e2 : valD (enc (q :: r)) (.inl (c : Int)) = valD (enc r) (.inl (c : Int)) := by
      simp only [valD, enc, List.map_cons, List.find?_cons, ne, decide_false]
    rw [e2, ih]
theorem enc_any {c : Nat} (kl : List (Nat × Rat)) : ((enc kl).any fun kv => decide (kv.1 = .inl (c : Int))) = decide (c ∈ kl.map (·.1)) := by
  induction kl with
  | nil => rfl
  | cons q r ih =>
    unfold enc at ih ⊢
    rw [List.map_cons, List.any_cons, ih, List.map_cons]
    by_cases e : q.1 = c
    · subst e; simp
    · have ne : ¬ ((Sum.inl (q.1 : Int) : Key) = Sum.inl (c : Int)) := fun z => e (by have := Sum.inl.inj z; omega)
      have e' : ¬ c = q.1 := fun z => e z.symm
      rw [decide_eq_false ne, Bool.false_or]
      simp only [List.mem_cons, e', false_or]
section
variable {b n : Nat} {ks : List (Key × D)} {f g : Nat → Rat}
theorem DR.nil (h : ∀ c, c < n → f c = 0) : DR b n [] f := ⟨[], rfl, .nil, fun _ h => (nomatch h), fun c hc _ => h c hc⟩
theorem DR.get (h : DR b n ks f) {c : Nat} (hc : c < n) : (valD ks (.inl (c : Int))).getD (fr 0) = fr (f c) := by
  obtain ⟨kl, rfl, h1, h2, h3⟩ := h
  by_cases hm : c ∈ kl.map (·.1)
  · rw [enc_in (fun q hq => (h2 q hq).2) hm]; rfl
  · rw [enc_out hm, h3 c hc hm]; rfl
theorem DR.some (h : DR b n ks f) {c : Nat} (hs : (valD ks (.inl (c : Int))).isSome = true) : valD ks (.inl (c : Int)) = .some (fr (f c)) := by
  obtain ⟨kl, rfl, h1, h2, h3⟩ := h
  by_cases hm : c ∈ kl.map (·.1)
  · exact enc_in (fun q hq => (h2 q hq).2) hm
  · rw [enc_out hm] at hs; cases hs
theorem DR.none (h : DR b n ks f) {c : Nat} (hc : c < n) (hs : (valD ks (.inl (c : Int))).isSome = false) : f c = 0 := by
  obtain ⟨kl, rfl, h1, h2, h3⟩ := h
  by_cases hm : c ∈ kl.map (·.1)
  · rw [enc_in (fun q hq => (h2 q hq).2) hm] at hs; cases hs
  · exact h3 c hc hm
theorem DR.shrink (h : DR (b + 1) n ks f) (hs : (valD ks (.inl (b : Int))).isSome = false) : DR b n ks f := by
  obtain ⟨kl, rfl, h1, h2, h3⟩ := h
  refine ⟨kl, rfl, h1, fun q hq => ⟨?_, (h2 q hq).2⟩, h3⟩
  have h4 := (h2 q hq).1
  by_cases e : q.1 = b
  · have hm : b ∈ kl.map (·.1) := List.mem_map.mpr ⟨q, hq, e⟩
    rw [enc_in (fun q hq => (h2 q hq).2) hm] at hs; cases hs
  · omega
theorem DR.congr (h : DR b n ks f) (hb : b ≤ n) (e : ∀ c, c < n → f c = g c) : DR b n ks g := by
  obtain ⟨kl, rfl, h1, h2, h3⟩ := h
  exact ⟨kl, rfl, h1, fun q hq => ⟨(h2 q hq).1, by rw [← e q.1 (by have := (h2 q hq).1; omega)]; exact (h2 q hq).2⟩, fun c hc hm => by rw [← e c hc]; exact h3 c hc hm⟩
theorem DR.len (h : DR b n ks f) : ks.length ≤ b := by
  obtain ⟨kl, rfl, h1, h2, h3⟩ := h
  have := nodup_len h1 (n := b) fun x hx => by obtain ⟨q, hq, rfl⟩ := List.mem_map.mp hx; exact (h2 q hq).1
  unfold enc
  rw [List.length_map] at this ⊢
  exact this
theorem put_in' {c : Nat} {v : Rat} {kl : List (Nat × Rat)} (hm : c ∈ kl.map (·.1)) : putD (enc kl) (.inl (c : Int)) (fr v) = enc (kl.map fun q => if q.1 = c then (c, v) else q) := by
  unfold putD
  rw [enc_any, decide_eq_true hm, if_pos rfl]
  unfold enc
  rw [List.map_map, List.map_map]
  refine List.map_congr_left fun q hq => ?_
  show (if (Sum.inl (q.1 : Int) : Key) = .inl (c : Int) then ((.inl (q.1 : Int) : Key), fr v) else ((.inl (q.1 : Int) : Key), fr q.2)) = _
  by_cases e : q.1 = c
  · show _ = ((.inl (((if q.1 = c then (c, v) else q).1 : Nat) : Int) : Key), fr (if q.1 = c then (c, v) else q).2)
    rw [if_pos e, if_pos (by rw [e]), e]
  · show _ = ((.inl (((if q.1 = c then (c, v) else q).1 : Nat) : Int) : Key), fr (if q.1 = c then (c, v) else q).2)
    rw [if_neg e, if_neg fun z => e (by have := Sum.inl.inj z; omega)]
theorem put_out' {c : Nat} {v : Rat} {kl : List (Nat × Rat)} (hm : c ∉ kl.map (·.1)) : putD (enc kl) (.inl (c : Int)) (fr v) = enc (kl ++ [(c, v)]) := by
  unfold putD
  rw [enc_any, decide_eq_false hm, if_neg Bool.false_ne_true]
  unfold enc
  rw [List.map_append]
  rfl
theorem DR.put (h : DR b n ks f) {c : Nat} (hc : c < b) (v : Rat) : DR b n (putD ks (.inl (c : Int)) (fr v)) (fun x => if x = c then v else f x) := by
  obtain ⟨kl, rfl, h1, h2, h3⟩ := h
  by_cases hm : c ∈ kl.map (·.1)
  · rw [put_in' hm]
    have hk : (kl.map fun q => if q.1 = c then (c, v) else q).map (·.1) = kl.map (·.1) := by
      rw [List.map_map]
      refine List.map_congr_left fun q hq => ?_
      show (if q.1 = c then (c, v) else q).1 = q.1
      split
      · rename_i e; exact e.symm
      · rfl
    refine ⟨_, rfl, by rw [hk]; exact h1, fun q hq => ?_, fun x hx hxm => ?_⟩
    · obtain ⟨r, hr, rfl⟩ := List.mem_map.mp hq
      by_cases e : r.1 = c
      · rw [if_pos e]; exact ⟨hc, (if_pos rfl).symm⟩
      · rw [if_neg e]; exact ⟨(h2 r hr).1, by rw [(h2 r hr).2, if_neg e]⟩
    · rw [hk] at hxm
      have hxc : x ≠ c := fun e => hxm (by rw [e]; exact hm)
      rw [if_neg hxc]
      exact h3 x hx hxm
  · rw [put_out' hm]
    refine ⟨_, rfl, ?_, fun q hq => ?_, fun x hx hxm => ?_⟩
    · rw [List.map_append]; exact nodup_snoc h1 hm
    · rcases List.mem_append.mp hq with hq | hq
      · have : q.1 ≠ c := fun e => hm (by rw [← e]; exact List.mem_map_of_mem hq)
        exact ⟨(h2 q hq).1, by rw [(h2 q hq).2, if_neg this]⟩
      · rw [List.mem_singleton.mp hq]; exact ⟨hc, (if_pos rfl).symm⟩
    · rw [List.map_append, List.mem_append, not_or] at hxm
      have : x ≠ c := fun e => hxm.2 (by rw [e]; exact List.mem_singleton.mpr rfl)
      rw [if_neg this]
      exact h3 x hx hxm.1
theorem drop_enc {c : Nat} (kl : List (Nat × Rat)) : dropD (enc kl) (.inl (c : Int)) = enc (kl.filter fun q => decide (q.1 ≠ c)) := by
  unfold dropD enc
  rw [List.filter_map]
  congr 1
  refine List.filter_congr fun q _ => ?_
  show decide ((Sum.inl (q.1 : Int) : Key) ≠ .inl (c : Int)) = decide (q.1 ≠ c)
  by_cases e : q.1 = c
  · rw [e]; simp
  · have ne : ¬ ((Sum.inl (q.1 : Int) : Key) = .inl (c : Int)) := fun z => e (by have := Sum.inl.inj z; omega)
    simp only [ne_eq, ne, e, not_false_eq_true, decide_true]
theorem DR.drop (h : DR (b + 1) n ks f) : DR b n (dropD ks (.inl (b : Int))) (fun x => if x = b then 0 else f x) := by
  obtain ⟨kl, rfl, h1, h2, h3⟩ := h
  rw [drop_enc]
  refine ⟨_, rfl, ?_, fun q hq => ?_, fun x hx hxm => ?_⟩
  · exact ((List.filter_sublist).map _).nodup h1
  · obtain ⟨h4, h5⟩ := List.mem_filter.mp hq
    have : q.1 ≠ b := of_decide_eq_true h5
    exact ⟨by have := (h2 q h4).1; omega, by rw [(h2 q h4).2, if_neg this]⟩
  · by_cases e : x = b
    · rw [if_pos e]
    · rw [if_neg e]
      refine h3 x hx fun hm => hxm ?_
      obtain ⟨q, hq, rfl⟩ := List.mem_map.mp hm
      exact List.mem_map.mpr ⟨q, List.mem_filter.mpr ⟨hq, decide_eq_true e⟩, rfl⟩
end
theorem fold_enc (g : Rat → Rat) : ∀ (kl acc : List (Nat × Rat)), ((acc ++ kl).map (·.1)).Nodup → kl.foldl (fun a q => putD a (.inl (q.1 : Int)) (fr (g q.2))) (enc acc) = enc (acc ++ kl.map fun q => (q.1, g q.2))
  | [], acc, _ => by rw [List.map_nil, List.append_nil]; rfl
  | q :: r, acc, h => by
    rw [List.foldl_cons]
    have hq : q.1 ∉ acc.map (·.1) := fun hm => by
      rw [List.map_append, List.nodup_append] at h
      exact h.2.2 q.1 hm q.1 (by rw [List.map_cons]; exact List.mem_cons_self) rfl
    rw [put_out' hq, fold_enc g r (acc ++ [(q.1, g q.2)]) (by simpa using h), List.append_assoc]
    rfl
def kpD : D → Int
  | .tup [.int c, _] => c
  | _ => 0
def vpD (g : Rat → Rat) : D → D
  | .tup [_, x] => fr (g (unfr x))
  | _ => .non
theorem itms_enc (kl : List (Nat × Rat)) : itms (enc kl) = kl.map fun q => D.tup [.int (q.1 : Int), fr q.2] := by
  unfold itms enc
  rw [List.map_map]
  rfl
theorem itms_of {kl : List (Nat × Rat)} {i : Nat} {d : D} (h : (itms (enc kl))[i]? = some d) : ∃ q, kl[i]? = some q ∧ d = .tup [.int (q.1 : Int), fr q.2] := by
  rw [itms_enc, List.getElem?_map] at h
  cases e : kl[i]? with
  | none => rw [e] at h; cases h
  | some q => rw [e] at h; exact ⟨q, rfl, (Option.some.inj h).symm⟩
theorem DR.over {b n : Nat} {ks : List (Key × D)} {f : Nat → Rat} (h : DR b n ks f) (r : Rat) : DR b n ((itms ks).foldl (fun acc d => putD acc (.inl (kpD d)) (vpD (· / r) d)) []) (fun c => f c / r) := by
  obtain ⟨kl, rfl, h1, h2, h3⟩ := h
  rw [itms_enc, List.foldl_map]
  have := fold_enc (· / r) kl [] (by simpa using h1)
  rw [List.nil_append] at this
  have e : kl.foldl (fun x y => putD x (.inl (kpD (.tup [.int (y.1 : Int), fr y.2]))) (vpD (· / r) (.tup [.int (y.1 : Int), fr y.2]))) [] = kl.foldl (fun a q => putD a (.inl (q.1 : Int)) (fr (q.2 / r))) (enc []) := by
    show _ = kl.foldl _ []
    congr 1
    funext a q
    show putD a (.inl (q.1 : Int)) (fr (unfr (fr q.2) / r)) = _
    rw [unfr_fr]
  rw [e]
  refine ⟨_, this, ?_, fun q hq => ?_, fun c hc hm => ?_⟩
  · rw [List.map_map]; exact h1
  · obtain ⟨q', hq', rfl⟩ := List.mem_map.mp hq
    exact ⟨(h2 q' hq').1, by show q'.2 / r = _; rw [(h2 q' hq').2]⟩
  · rw [h3 c hc (by rw [List.map_map] at hm; exact hm), Rat.div_def, Rat.zero_mul]

/-! ## the constants of a row -/
def kn (n m : Nat) (f : Nat → Rat) : List D := (List.range (m + 1)).map fun o => fr (f (n + o))
theorem kn_len {n m : Nat} {f : Nat → Rat} : (kn n m f).length = m + 1 := by unfold kn; rw [List.length_map, List.length_range]
theorem kn_get {n m o : Nat} {f : Nat → Rat} (h : o < m + 1) : (kn n m f)[o]? = some (fr (f (n + o))) := by
  unfold kn
  rw [List.getElem?_map, List.getElem?_range h]
  rfl
theorem kn_of {n m : Nat} {f : Nat → Rat} {d : D} (h : d ∈ kn n m f) : ∃ o, o < m + 1 ∧ d = fr (f (n + o)) := by
  obtain ⟨o, ho, rfl⟩ := List.mem_map.mp h
  exact ⟨o, List.mem_range.mp ho, rfl⟩
theorem kn_map {n m : Nat} {f g : Nat → Rat} {v : D → D} (h : ∀ o, o < m + 1 → v (fr (f (n + o))) = fr (g (n + o))) : (kn n m f).map v = kn n m g := by
  unfold kn
  rw [List.map_map]
  exact List.map_congr_left fun o ho => h o (List.mem_range.mp ho)
theorem kn_congr {n m : Nat} {f g : Nat → Rat} (h : ∀ o, o < m + 1 → f (n + o) = g (n + o)) : kn n m f = kn n m g := by
  unfold kn
  exact List.map_congr_left fun o ho => by rw [h o (List.mem_range.mp ho)]
theorem kn_prs {n m : Nat} {f g h : Nat → Rat} {v : D → D} (e : ∀ o, o < m + 1 → v (.tup [fr (f (n + o)), fr (g (n + o))]) = fr (h (n + o))) : (prs (kn n m f) (kn n m g)).map v = kn n m h := by
  unfold prs kn
  rw [List.zip_map', List.map_map, List.map_map]
  exact List.map_congr_left fun o ho => e o (List.mem_range.mp ho)
theorem prs_of {xs ys : List D} {d : D} (h : d ∈ prs xs ys) : ∃ x y, x ∈ xs ∧ y ∈ ys ∧ d = .tup [x, y] := by
  obtain ⟨q, hq, rfl⟩ := List.mem_map.mp h
  exact ⟨q.1, q.2, (List.of_mem_zip (a := q.1) (b := q.2) hq).1, (List.of_mem_zip (a := q.1) (b := q.2) hq).2, rfl⟩
theorem kn_prs_of {n m : Nat} {f g : Nat → Rat} {d : D} (h : d ∈ prs (kn n m f) (kn n m g)) : ∃ o, o < m + 1 ∧ d = .tup [fr (f (n + o)), fr (g (n + o))] := by
  unfold prs kn at h
  rw [List.zip_map', List.map_map] at h
  obtain ⟨o, ho, rfl⟩ := List.mem_map.mp h
  exact ⟨o, List.mem_range.mp ho, rfl⟩
def plD (s : Rat) : D → D
  | .tup [x, y] => fr (unfr x + s * unfr y)
  | _ => .non
theorem rep_set {n m o : Nat} (ho : o < m + 1) {f : Nat → Rat} (h : ∀ x, x < m + 1 → f (n + x) = if x = o then 1 else 0) : (List.replicate (m + 1) (fr 0)).set o (fr 1) = kn n m f := by
  refine List.ext_getElem? fun i => ?_
  by_cases hi : i < m + 1
  · rw [kn_get hi, h i hi]
    by_cases e : i = o
    · subst e; rw [List.getElem?_set_self (by rw [List.length_replicate]; exact hi), if_pos rfl]
    · rw [List.getElem?_set_ne fun z => e z.symm, List.getElem?_replicate, if_pos hi, if_neg e]
  · rw [List.getElem?_eq_none (by rw [List.length_set, List.length_replicate]; omega), List.getElem?_eq_none (by rw [kn_len]; omega)]

/-! ## the rows in the heap -/
abbrev rfs (as : List Addr) : List D := as.map D.ref
structure RowsW (n m q : Nat) (bd : Nat → Nat) (M : Mx) (A B : Addr) (as bs : List Addr) (L : Hl) : Prop where
  la : as.length = q
  lb : bs.length = q
  nd : as.Nodup
  mA : (A, .lst (rfs as)) ∈ L
  mB : (B, .lst (rfs bs)) ∈ L
  ab : A ≠ B
  ra : ∀ (i : Nat) (a : Addr), as[i]? = some a → ∃ ks, (a, .dct ks) ∈ L ∧ DR (bd i) n ks (M i)
  rb : ∀ (i : Nat) (b : Addr), bs[i]? = some b → b ≠ A ∧ b ≠ B ∧ (b, .lst (kn n m (M i))) ∈ L
theorem rfs_get {as : List Addr} {i : Nat} {a : Addr} (h : as[i]? = some a) : (rfs as)[i]? = some (.ref a) := by rw [List.getElem?_map, h]; rfl
theorem RowsW.keep {n m q : Nat} {bd : Nat → Nat} {M : Mx} {A B : Addr} {as bs : List Addr} {L L' : Hl} (h : RowsW n m q bd M A B as bs L) (k : ∀ p ∈ L, p ∈ L') : RowsW n m q bd M A B as bs L' :=
  ⟨h.la, h.lb, h.nd, k _ h.mA, k _ h.mB, h.ab, fun i a e => let ⟨ks, h1, h2⟩ := h.ra i a e; ⟨ks, k _ h1, h2⟩, fun i b e => let ⟨h1, h2, h3⟩ := h.rb i b e; ⟨h1, h2, k _ h3⟩⟩
theorem RowsW.congr {n m q : Nat} {bd bd' : Nat → Nat} {M M' : Mx} {A B : Addr} {as bs : List Addr} {L : Hl} (h : RowsW n m q bd M A B as bs L) (e1 : ∀ i, i < q → bd i = bd' i) (e2 : ∀ i, i < q → bd i ≤ n ∧ ∀ c, c < n + m + 1 → M i c = M' i c) : RowsW n m q bd' M' A B as bs L :=
  ⟨h.la, h.lb, h.nd, h.mA, h.mB, h.ab, fun i a e => by
    have hi : i < q := by rw [← h.la]; exact (List.getElem?_eq_some_iff.mp e).1
    obtain ⟨ks, h1, h2⟩ := h.ra i a e
    rw [e1 i hi] at h2
    exact ⟨ks, h1, h2.congr (by rw [← e1 i hi]; exact (e2 i hi).1) fun c hc => (e2 i hi).2 c (by omega)⟩, fun i b e => by
    have hi : i < q := by rw [← h.lb]; exact (List.getElem?_eq_some_iff.mp e).1
    obtain ⟨h1, h2, h3⟩ := h.rb i b e
    exact ⟨h1, h2, by rw [← kn_congr (f := M i) (g := M' i) fun o ho => (e2 i hi).2 (n + o) (by omega)]; exact h3⟩⟩
/-- a row written anew -/
theorem RowsW.set {n m q p : Nat} {bd bd' : Nat → Nat} {M M' : Mx} {A B a b a0 : Addr} {as bs : List Addr} {L L' : Hl} {ks : List (Key × D)} (h : RowsW n m q bd M A B as bs L) (hnd : (L.map (·.1)).Nodup) (ha0 : as[p]? = some a0) (ha : a ∉ as) (hb : b ≠ A ∧ b ≠ B)
    (mA : (A, .lst (rfs (as.set p a))) ∈ L') (mB : (B, .lst (rfs (bs.set p b))) ∈ L') (ma : (a, .dct ks) ∈ L') (dr : DR (bd' p) n ks (M' p)) (mb : (b, .lst (kn n m (M' p))) ∈ L')
    (k : ∀ c u, (c, u) ∈ L → c ≠ A → c ≠ B → c ≠ a0 → (c, u) ∈ L') (e1 : ∀ i, i ≠ p → bd i = bd' i ∧ M i = M' i) : RowsW n m q bd' M' A B (as.set p a) (bs.set p b) L' := by
  have hp : p < as.length := (List.getElem?_eq_some_iff.mp ha0).1
  refine ⟨by rw [List.length_set]; exact h.la, by rw [List.length_set]; exact h.lb, ?_, mA, mB, h.ab, fun i x e => ?_, fun i x e => ?_⟩
  · refine List.pairwise_iff_getElem.mpr fun i j hi hj hij z => ?_
    have zz : (as.set p a)[i]? = (as.set p a)[j]? := by rw [List.getElem?_eq_getElem hi, List.getElem?_eq_getElem hj, z]
    rw [List.length_set] at hi hj
    have ne : ∀ r, as[r]? ≠ some a := fun r z => ha (List.mem_of_getElem? z)
    by_cases e : p = i
    · subst e
      rw [List.getElem?_set_self hp, List.getElem?_set_ne (by omega)] at zz
      exact ne j zz.symm
    · by_cases e' : p = j
      · subst e'
        rw [List.getElem?_set_self hp, List.getElem?_set_ne e] at zz
        exact ne i zz
      · rw [List.getElem?_set_ne e, List.getElem?_set_ne e'] at zz
        obtain ⟨x, hx⟩ : ∃ x, as[i]? = some x := ⟨as[i], List.getElem?_eq_getElem hi⟩
        have := ix_inj h.nd hx (zz ▸ hx)
        omega
  · by_cases e' : p = i
    · subst e'
      rw [List.getElem?_set_self hp] at e
      cases e
      exact ⟨ks, ma, dr⟩
    · rw [List.getElem?_set_ne e'] at e
      obtain ⟨ks', h1, h2⟩ := h.ra i x e
      refine ⟨ks', k x _ h1 (fun z => ?_) (fun z => ?_) (fun z => ?_), ?_⟩
      · subst z; have := hl_inj hnd h1 h.mA; cases this
      · subst z; have := hl_inj hnd h1 h.mB; cases this
      · subst z; exact e' (ix_inj h.nd ha0 e)
      · rw [← (e1 i (Ne.symm e')).1, ← (e1 i (Ne.symm e')).2]; exact h2
  · by_cases e' : p = i
    · subst e'
      rw [List.getElem?_set_self (by rw [h.lb, ← h.la]; exact hp)] at e
      cases e
      exact ⟨hb.1, hb.2, mb⟩
    · rw [List.getElem?_set_ne e'] at e
      obtain ⟨h1, h2, h3⟩ := h.rb i x e
      refine ⟨h1, h2, ?_⟩
      rw [← (e1 i (Ne.symm e')).2]
      refine k x _ h3 h1 h2 fun z => ?_
      subst z
      obtain ⟨ks', h4, _⟩ := h.ra p x ha0
      have := hl_inj hnd h3 h4
      cases this
/-- a row more -/
theorem RowsW.snoc {n m q : Nat} {bd : Nat → Nat} {M : Mx} {A B a b : Addr} {as bs : List Addr} {L L' : Hl} {ks : List (Key × D)} (h : RowsW n m q bd M A B as bs L) (hnd : (L.map (·.1)).Nodup) (ha : a ∉ as) (hb : b ≠ A ∧ b ≠ B)
    (mA : (A, .lst (rfs (as ++ [a]))) ∈ L') (mB : (B, .lst (rfs (bs ++ [b]))) ∈ L') (ma : (a, .dct ks) ∈ L') (dr : DR (bd q) n ks (M q)) (mb : (b, .lst (kn n m (M q))) ∈ L')
    (k : ∀ c u, (c, u) ∈ L → c ≠ A → c ≠ B → (c, u) ∈ L') : RowsW n m (q + 1) bd M A B (as ++ [a]) (bs ++ [b]) L' := by
  have sn : ∀ {l : List Addr} {x y : Addr} {i : Nat}, (l ++ [x])[i]? = some y → l[i]? = some y ∨ (i = l.length ∧ x = y) := fun {l x y i} e => by
    by_cases hi : i < l.length
    · rw [List.getElem?_append_left hi] at e; exact .inl e
    · rw [List.getElem?_append_right (by omega)] at e
      by_cases h0 : i - l.length = 0
      · rw [h0] at e; exact .inr ⟨by omega, Option.some.inj e⟩
      · rw [List.getElem?_eq_none (by simp; omega)] at e; cases e
  refine ⟨by rw [List.length_append, h.la]; rfl, by rw [List.length_append, h.lb]; rfl, ?_, mA, mB, h.ab, fun i x e => ?_, fun i x e => ?_⟩
  · rw [List.nodup_append]
    refine ⟨h.nd, by simp, fun x hx y hy z => ?_⟩
    rw [List.mem_singleton.mp hy] at z
    exact ha (z ▸ hx)
  · rcases sn e with e | ⟨e9, rfl⟩
    · obtain ⟨ks', h1, h2⟩ := h.ra i x e
      refine ⟨ks', k x _ h1 (fun z => ?_) (fun z => ?_), h2⟩
      · subst z; have := hl_inj hnd h1 h.mA; cases this
      · subst z; have := hl_inj hnd h1 h.mB; cases this
    · rw [e9, h.la]; exact ⟨ks, ma, dr⟩
  · rcases sn e with e | ⟨e9, rfl⟩
    · obtain ⟨h1, h2, h3⟩ := h.rb i x e
      exact ⟨h1, h2, k x _ h3 h1 h2⟩
    · rw [e9, h.lb]; exact ⟨hb.1, hb.2, mb⟩
end Fc

namespace Fc
open PySem PySem.Spec PyProof.Rows L2
abbrev s_equations : Stmt := top 41
theorem sc_equations : FnScope ["sides", "many", "table", "state", "shares", "constants", "own", "known", "later", "outcome"] ["sides", "many", "table"] (defScope s_equations) := ⟨rfl, rfl, rfl, by decide +kernel, rfl, by decide +kernel, by decide +kernel⟩
abbrev s_put_in : Stmt := top 42
theorem sc_put_in : FnScope ["shares", "constants", "place", "other", "own", "share", "known", "later", "part", "mine", "its"] ["shares", "constants", "place", "other"] (defScope s_put_in) := ⟨rfl, rfl, rfl, by decide +kernel, rfl, by decide +kernel, by decide +kernel⟩
abbrev s_solved : Stmt := top 43
theorem sc_solved : FnScope ["sides", "many", "table", "place", "result", "shares", "constants", "own", "before", "known", "rest", "later", "part", "mine", "its"] ["sides", "many", "table"] (defScope s_solved) := ⟨rfl, rfl, rfl, by decide +kernel, rfl, by decide +kernel, by decide +kernel⟩

theorem S2.sm {r : Rat} (h : S2 r) : Sm r := ⟨Nat.lt_of_lt_of_le h.1 (Nat.pow_le_pow_right (by decide) (by decide)), Nat.lt_of_lt_of_le h.2 (Nat.pow_le_pow_right (by decide) (by decide))⟩
theorem S4.sm {r : Rat} (h : r.num.natAbs < 2 ^ 4000 ∧ r.den < 2 ^ 4000) : Sm r := ⟨Nat.lt_of_lt_of_le h.1 (Nat.pow_le_pow_right (by decide) (by decide)), Nat.lt_of_lt_of_le h.2 (Nat.pow_le_pow_right (by decide) (by decide))⟩
theorem s2_zero : S2 0 := ⟨Nat.pos_of_ne_zero (by simp), by show 1 < 2 ^ 2000; exact Nat.one_lt_two_pow (by decide)⟩
theorem s2_one : S2 1 := ⟨by show 1 < 2 ^ 2000; exact Nat.one_lt_two_pow (by decide), by show 1 < 2 ^ 2000; exact Nat.one_lt_two_pow (by decide)⟩
theorem mul_den (r : Rat) : r * (r.den : Rat) = (r.num : Rat) := by
  have hd : (r.den : Rat) ≠ 0 := fun q => r.den_nz (Rat.natCast_eq_zero_iff.mp q)
  have q : r = (r.num : Rat) / (r.den : Rat) := by rw [← Rat.mkRat_eq_div, Rat.mkRat_self]
  conv => lhs; lhs; rw [q]
  exact Rat.div_mul_cancel hd
theorem s2_mul {r q : Rat} (h : S2 r) (g : S2 q) : Sm (r * q) := by
  have p : (2 : Nat) ^ 2000 * 2 ^ 2000 = 2 ^ 4000 := by rw [← Nat.pow_add]
  have e1 : Iz ((r.den * q.den : Nat) : Rat) (r.den * q.den) := ⟨(r.den * q.den : Nat), by rfl, by rw [Int.natAbs_natCast]; exact Nat.le_refl _⟩
  have e2 : r * q * ((r.den * q.den : Nat) : Rat) = ((r.num * q.num : Int) : Rat) := by
    have h1 := mul_den r
    have h2 := mul_den q
    rw [Rat.natCast_mul, Rat.intCast_mul, ← h1, ← h2]
    grind
  have sz := size_of (r := r * q) (e := ((r.den * q.den : Nat) : Rat)) (fun z => by
    rw [Rat.natCast_eq_zero_iff] at z
    have a1 := r.den_pos
    have a2 := q.den_pos
    have := Nat.mul_pos a1 a2
    omega) e1 ⟨_, e2, Nat.le_of_eq (Int.natAbs_mul _ _)⟩
  have b1 : r.num.natAbs * q.num.natAbs < 2 ^ 4000 := by rw [← p]; exact Nat.mul_lt_mul'' h.1 g.1
  have b2 : r.den * q.den < 2 ^ 4000 := by rw [← p]; exact Nat.mul_lt_mul'' h.2 g.2
  exact S4.sm ⟨Nat.lt_of_le_of_lt sz.1 b1, Nat.lt_of_le_of_lt sz.2 b2⟩
def S_equ : FS := fun _ ds R => ∃ (s m : Nat) (t : List Rw), ds = [.int (s : Int), .int (m : Int), tbD t] ∧ Tb s m t ∧ R = fun d N => ∃ A B as bs, d = .tup [.ref A, .ref B] ∧ RowsW t.length m t.length (fun _ => t.length) (tabM s m t) A B as bs N
theorem cnt_take {l : List Nat} {j x c : Nat} (h : l[j]? = some x) : cnt (l.take (j + 1)) c = cnt (l.take j) c + if c = x then 1 else 0 := by
  unfold cnt
  rw [List.take_succ, h, List.count_append]
  show _ + List.count c [x] = _
  rw [List.count_singleton]
  by_cases e : c = x
  · subst e; simp
  · have : ¬ x = c := fun z => e z.symm
    simp [e, this]
theorem s2_cnt {s n : Nat} (h1 : 2 ≤ s) (h2 : s ≤ 6) (hn : n ≤ 100) : S2 ((n : Rat) / (s : Rat)) := by
  have hs : (s : Rat) ≠ 0 := fun e => by rw [Rat.natCast_eq_zero_iff] at e; omega
  refine s2_of (e := (s : Rat)) (a := s) (b := n) hs ⟨(s : Int), rfl, by rw [Int.natAbs_natCast]; exact Nat.le_refl _⟩ ⟨(n : Int), by rw [Rat.div_mul_cancel hs]; rfl, by rw [Int.natAbs_natCast]; exact Nat.le_refl _⟩ (Nat.lt_of_le_of_lt h2 (Nat.lt_of_lt_of_le (by decide) (Nat.pow_le_pow_right (n := 2) (by decide) (show 8 ≤ 896 by decide)))) (Nat.lt_of_le_of_lt hn (Nat.lt_of_lt_of_le (by decide) (Nat.pow_le_pow_right (n := 2) (by decide) (show 8 ≤ 896 by decide))))
theorem mk1_s {s : Nat} : mkRat 1 ((s : Int)).toNat = 1 / (s : Rat) := by
  rw [Int.toNat_natCast, Rat.mkRat_eq_div]
  rfl
section
variable {P : Program} {w : World} {K : PySem.W.Frag} {mg : Str → Option Value} {base : Heap}
theorem ok_equations (B : Bl mg) (F : FunG K mg "equations" s_equations) (C : Cs K mg) (hP : Pf P w K mg base "plus" 3 S_plus) (hR : Pf P w K mg base "ratio" 2 S_ratio) : Pf P w K mg base "equations" 4 S_equ := by
  obtain ⟨z0, hZ, iZ⟩ := C.zero
  obtain ⟨z1, hO, iO⟩ := C.one
  refine pf_mk F sc_equations (fun _ _ _ _ _ _ us hl => match us, hl with | [_, _, _], _ => rfl) (fun Z ds R h => by obtain ⟨s, m, t, rfl, _⟩ := h; rfl) (fun f cdv A outer s H E hr => ⟨_, (pss_cons (ps_par (i := 4) (j := 5) rfl sc_equations.nd rfl rfl (by decide) rfl rfl (pa_cons (pe_lst pa_nil) (pa_cons (pe_lst pa_nil) pa_nil)) (by rfl)) (pss_cons (ps_for PassesOwn.never rfl (pi_tupK (K := K) rfl (pv 2)) (pg_name (i := 3) sc_equations.nd rfl (.inl rfl)) (pss_cons (ps_set (i := 6) sc_equations.nd rfl (.inl rfl) pe_dnewK) (pss_cons (ps_setLc (i := 7) (own := [("outcome", 9)]) (g := gName 9) rfl sc_equations.nd rfl rfl (sw_true rfl rfl rfl (by decide +kernel)) (pi_range1 rfl B.range (pa_cons (pe_op op_add (pv 1) pe_int) pa_nil)) (blkOk_by (own := [("outcome", 9)]) (N := ["sides", "many", "table", "state", "shares", "constants", "own", "known", "later", "outcome"]) (sc := defScope (s_equations)) (by decide +kernel)) (fun _ _ _ _ _ => (pg_name (i := 9) sc_equations.nd rfl (.inl rfl))) (fun _ _ _ _ _ => pts_nil) (fun _ _ _ _ _ => (pe_cref hZ rfl))) (pss_cons (ps_if (pt_val (pe_isi (K := K) rfl rfl B rfl (pa_cons (pv 3) (pa_cons (pe_tyT rfl B rfl) pa_nil)))) (pss_cons (ps_asg (pe_cref hO rfl) (pg_sub (pv 7) (pv 1) set_list)) (pss_cons (ps_for PassesOwn.never rfl (pi_tupK (K := K) rfl (pv 3)) (pg_name (i := 8) sc_equations.nd rfl (.inl rfl)) (pss_cons (ps_dput (hu_of hr) (pv 6) (pv 8) (pe_pf hP hr (by decide) rfl (pa_cons (pe_dget2 (hu_of hr) (pv 6) (pv 8) (pe_cref hZ rfl) ⟨rfl, rfl, rfl, rfl⟩) (pa_cons (pe_pf hR hr (by decide) rfl (pa_cons pe_int (pa_cons (pv 0) pa_nil))) pa_nil))) rfl) pss_nil)) pss_nil)) (pss_cons (ps_asg (pe_cref hO rfl) (pg_sub (pv 7) (pv 3) set_list)) pss_nil)) (pss_cons (ps_expr (pe_bm PySem.F.plainAttrs_list PySem.F.slot_list_append PySem.F.type_list_append mt_append (pv 4) (pa_cons (pv 6) pa_nil))) (pss_cons (ps_expr (pe_bm PySem.F.plainAttrs_list PySem.F.slot_list_append PySem.F.type_list_append mt_append (pv 5) (pa_cons (pv 7) pa_nil))) pss_nil)))))) (pss_cons (ps_ret (pe_tup (pa_cons (pv 4) (pa_cons (pv 5) pa_nil)))) pss_nil))), fun Z ds R H0 hz hS => ?_⟩)
  obtain ⟨s, m, t, rfl, T, rfl⟩ := hS
  have n1 := T.n1
  have n2 := T.n2
  have m2 := T.m2
  refine gq_parN (ean_two (en_lst ea_nil (by decide)) (en_lst ea_nil (by decide))) fun ds N hN => ?_
  obtain ⟨_, _, N1, N2, rfl, ⟨A, rfl, rfl⟩, ⟨Bd, rfl, rfl⟩, rfl⟩ := hN
  refine ⟨_, _, rfl, go_nd fun hAB => ?_⟩
  have hne : A ≠ Bd := fun e => by subst e; simp at hAB
  refine gq_for0 (ds := t.map rwD) (ei_tup (ev_var rfl)) (fun i G L => ∃ (v3 v6 v7 v8 v9 : Option D) (as bs : List Addr), G = [some (.int (s : Int)), some (.int (m : Int)), some (tbD t), v3, some (.ref A), some (.ref Bd), v6, v7, v8, v9] ∧ RowsW t.length m i (fun _ => t.length) (tabM s m t) A Bd as bs L)
    ⟨none, none, none, none, none, [], [], rfl, rfl, rfl, .nil, by simp, by simp, hne, fun i a e => by simp at e, fun i a e => by simp at e⟩ (fun _ _ _ _ => trivial) (fun i d G L hd hI => ?_) (fun G L hI => ?_)
  · obtain ⟨v3, v6, v7, v8, v9, as, bs, rfl, W⟩ := hI
    obtain ⟨r, hr, rfl⟩ := tb_of hd
    have hi : i < t.length := (List.getElem?_eq_some_iff.mp hr).1
    refine ⟨_, eg_name, ?_⟩
    refine gq_new en_dnew fun a => ?_
    refine gq_new (en_lcY (v := fun _ => fr 0) (ei_rng1 (n := (m : Int) + 1) (ea_cons (ev_op (ev_var rfl) ev_int rv_add) ea_nil) (by omega) (by omega)) (fun _ => trivial) (fun _ _ => ev_k iZ) (by rw [rngD_len]; omega)) fun b => ?_
    have e0 : (rngD 0 ((m : Int) + 1).toNat).map (fun _ => fr 0) = List.replicate (m + 1) (fr 0) := by
      rw [show ((m : Int) + 1).toNat = m + 1 by omega, List.map_const', rngD_len]
    rw [e0]
    refine go_nd fun hnd => ?_
    have hnd' := (List.nodup_cons.mp hnd).2
    have hndL := (List.nodup_cons.mp hnd').2
    have hfa : ∀ c u, (c, u) ∈ L → c ≠ a := fun c u hm z => (List.nodup_cons.mp hnd').1 (List.mem_map.mpr ⟨(c, u), hm, z⟩)
    have hfb : ∀ c u, (c, u) ∈ L → c ≠ b := fun c u hm z => (List.nodup_cons.mp hnd).1 (List.mem_map.mpr ⟨(c, u), List.mem_cons_of_mem _ hm, z⟩)
    -- the two objects filled
    refine gq_ifJ (fun G' L' => ∃ (v8 v9 : Option D) (ks : List (Key × D)), G' = [some (.int (s : Int)), some (.int (m : Int)), some (tbD t), some (rwD r), some (.ref A), some (.ref Bd), some (.ref a), some (.ref b), v8, v9] ∧ L' = (b, .lst (kn t.length m (tabM s m t i))) :: (a, .dct ks) :: L ∧ DR t.length t.length ks (tabM s m t i)) (b := isTup (rwD r)) (et_B (ev_isTup (ev_var rfl) (tyn_rw r))) (fun hb => ?_) (fun hb => ?_) (fun G' L' hM => ?_)
    · cases r with
      | fin o => cases hb
      | go l =>
        obtain ⟨g1, g2⟩ := T.go i l hr
        have hrow : ∀ c, c < t.length → tabM s m t i c = (cnt l c : Rat) / (s : Rat) := fun c hc => tab_go hr hc
        refine gq_setL (k := 0) (i := (m : Int)) (j := m) (ev_k iO) rfl (ev_var rfl) (ev_var rfl) (ixN_of (by rw [List.length_replicate]; omega)) ?_
        have ek : (List.replicate (m + 1) (fr 0)).set m (fr 1) = kn t.length m (tabM s m t i) := rep_set (by omega) fun x hx => by
          unfold tabM
          rw [hr]
          show (if t.length + x < t.length then _ else if t.length + x = t.length + m then (1 : Rat) else 0) = _
          rw [if_neg (by omega)]
          by_cases e : x = m
          · rw [if_pos (by omega), if_pos e]
          · rw [if_neg (by omega), if_neg e]
        show Go K H0 _ ((b, .lst ((List.replicate (m + 1) (fr 0)).set m (fr 1))) :: (a, .dct []) :: L) _ _
        rw [ek]
        refine go_last ?_
        refine gq_for0 (ds := nD l) (ei_tup (ev_var rfl)) (fun j G' L' => ∃ (v8 v9 : Option D) (ks : List (Key × D)), G' = [some (.int (s : Int)), some (.int (m : Int)), some (tbD t), some (rwD (.go l)), some (.ref A), some (.ref Bd), some (.ref a), some (.ref b), v8, v9] ∧ L' = (b, .lst (kn t.length m (tabM s m t i))) :: (a, .dct ks) :: L ∧ DR t.length t.length ks (fun c => (cnt (l.take j) c : Rat) / (s : Rat)))
          ⟨_, _, [], rfl, rfl, DR.nil fun c hc => by rw [List.take_zero]; show ((0 : Nat) : Rat) / _ = 0; rw [Rat.div_def]; exact Rat.zero_mul _⟩ (fun _ _ _ _ => trivial) (fun j d G' L' hd hI => ?_) (fun G' L' hI => ?_)
        · obtain ⟨v8, v9, ks, rfl, rfl, dr⟩ := hI
          obtain ⟨x, hx, rfl⟩ := nD_of hd
          have hxl := g2 x (List.mem_of_getElem? hx)
          have hc1 : cnt (l.take j) x ≤ 100 := by
            have h1 : cnt (l.take j) x ≤ (l.take j).length := List.count_le_length
            rw [List.length_take] at h1
            have := T.s2
            omega
          refine ⟨_, eg_name, ?_⟩
          refine go_last (gq_dput (i := (x : Int)) (k := 1) (ev_call (ea_cons (ev_get2 (i := (x : Int)) (ev_var rfl) (.inl (List.mem_cons_of_mem _ List.mem_cons_self)) (ev_var rfl) (ev_k iZ) (dr.get hxl)) (ea_cons (ev_call (ea_cons ev_int (ea_cons (ev_var rfl) ea_nil)) ⟨1, (s : Int), rfl, by have := T.s1; omega, Int.lt_of_le_of_lt (show (s : Int) ≤ 6 by have := T.s2; omega) (by decide +kernel), rfl⟩) ea_nil)) ⟨(cnt (l.take j) x : Rat) / (s : Rat), 1 / (s : Rat), by rw [mk1_s], (s2_cnt T.s1 T.s2 hc1).sm, by have := (s2_cnt (n := 1) T.s1 T.s2 (by decide)).sm; exact this, rfl⟩) (ev_var rfl) (ev_var rfl) rfl (by have := dr.len; omega) (go_next ⟨_, _, _, rfl, rfl, ?_⟩))
          refine (dr.put hxl _).congr (Nat.le_refl _) fun c hc => ?_
          rw [cnt_take hx]
          by_cases e : c = x
          · subst e
            rw [if_pos rfl, if_pos rfl, Rat.natCast_add, Rat.div_def, Rat.div_def, Rat.div_def, Rat.add_mul]
            rfl
          · rw [if_neg e, if_neg e, Nat.add_zero]
        · obtain ⟨v8, v9, ks, rfl, rfl, dr⟩ := hI
          refine go_next ⟨_, _, ks, rfl, rfl, dr.congr (Nat.le_refl _) fun c hc => ?_⟩
          rw [nD_len, List.take_length, hrow c hc]
    · cases r with
      | go l => cases hb
      | fin q =>
        have hq := T.fin i q hr
        refine go_last (gq_setL (k := 0) (i := (q : Int)) (j := q) (ev_k iO) rfl (ev_var rfl) (ev_var rfl) (ixN_of (by rw [List.length_replicate]; omega)) (go_next ⟨_, _, [], rfl, ?_, DR.nil fun c hc => ?_⟩))
        · show (b, O.lst ((List.replicate (m + 1) (fr 0)).set q (fr 1))) :: (a, .dct []) :: L = _
          rw [rep_set (f := tabM s m t i) (n := t.length) (by omega) fun x hx => ?_]
          unfold tabM
          rw [hr]
          show (if t.length + x = t.length + q then (1 : Rat) else 0) = _
          by_cases e : x = q
          · rw [if_pos (by omega), if_pos e]
          · rw [if_neg (by omega), if_neg e]
        · unfold tabM
          rw [hr]
          show (if c = t.length + q then (1 : Rat) else 0) = 0
          rw [if_neg (by omega)]
    · obtain ⟨v8, v9, ks, rfl, rfl, dr⟩ := hM
      obtain ⟨k1, hk1⟩ := List.getElem?_of_mem (List.mem_cons_of_mem (b, O.lst (kn t.length m (tabM s m t i))) (List.mem_cons_of_mem (a, O.dct ks) W.mA))
      refine gq_append hk1 (ev_var rfl) (ev_var rfl) (by rw [List.length_map, W.la]; omega) ?_
      have mB1 := hl_keep (o' := .lst (rfs as ++ [.ref a])) hk1 (List.mem_cons_of_mem (b, O.lst (kn t.length m (tabM s m t i))) (List.mem_cons_of_mem (a, O.dct ks) W.mB)) W.ab.symm
      obtain ⟨k2, hk2⟩ := List.getElem?_of_mem mB1
      refine go_last (gq_append hk2 (ev_var rfl) (ev_var rfl) (by rw [List.length_map, W.lb]; omega) (go_next ⟨_, _, _, _, _, as ++ [a], bs ++ [b], rfl, ?_⟩))
      have aA : A ≠ a := hfa _ _ W.mA
      have aB : Bd ≠ a := hfa _ _ W.mB
      have bA : A ≠ b := hfb _ _ W.mA
      have bB : Bd ≠ b := hfb _ _ W.mB
      refine RowsW.snoc W hndL (fun hm => ?_) ⟨bA.symm, bB.symm⟩ (hl_keep hk2 ?_ W.ab) ?_ (hl_keep hk2 (hl_keep hk1 (List.mem_cons_of_mem _ List.mem_cons_self) aA.symm) aB.symm) dr (hl_keep hk2 (hl_keep hk1 List.mem_cons_self bA.symm) bB.symm) fun c u hm h1 h2 => hl_keep hk2 (hl_keep hk1 (List.mem_cons_of_mem _ (List.mem_cons_of_mem _ hm)) h1) h2
      · obtain ⟨j, hj⟩ := List.getElem?_of_mem hm
        obtain ⟨ks', h1, _⟩ := W.ra j a hj
        exact hfa _ _ h1 rfl
      · have := hl_put (o' := .lst (rfs as ++ [.ref a])) hk1
        unfold rfs at this ⊢
        rw [List.map_append]
        exact this
      · have := hl_put (o' := .lst (rfs bs ++ [.ref b])) hk2
        unfold rfs at this ⊢
        rw [List.map_append]
        exact this
  · obtain ⟨v3, v6, v7, v8, v9, as, bs, rfl, W⟩ := hI
    rw [List.length_map] at W
    exact gq_retA (ev_tup (ea_cons (ev_var rfl) (ea_cons (ev_var rfl) ea_nil)) (by show 2 ≤ 100000; decide)) ⟨A, Bd, as, bs, rfl, W⟩
end
def putH (p : Nat) (f g : Nat → Rat) (c : Nat) : Rat := if c = p then 0 else f c + f p * g c
def S_put : FS := fun Z ds R => ∃ (A B : Addr) (dA dB : List D) (i p n m : Nat) (ai ap bi bp : Addr) (ki kp : List (Key × D)) (f g : Nat → Rat), ds = [.ref A, .ref B, .int (i : Int), .int (p : Int)] ∧
  Z = [(A, .lst dA), (B, .lst dB), (ai, .dct ki), (ap, .dct kp), (bi, .lst (kn n m f)), (bp, .lst (kn n m g))] ∧ dA[i]? = some (.ref ai) ∧ dA[p]? = some (.ref ap) ∧ dB[i]? = some (.ref bi) ∧ dB[p]? = some (.ref bp) ∧
  DR (p + 1) n ki f ∧ DR p n kp g ∧ (valD ki (.inl (p : Int))).isSome = true ∧ p < n ∧ n ≤ 100 ∧ m ≤ 6 ∧ A ≠ ap ∧ (∀ c, c < n + m + 1 → S2 (f c) ∧ S2 (g c)) ∧
  R = fun d N => ∃ a b ks, d = .tup [.ref a, .ref b] ∧ N = [(b, .lst (kn n m (putH p f g))), (a, .dct ks)] ∧ DR p n ks (putH p f g)
section
variable {P : Program} {w : World} {K : PySem.W.Frag} {mg : Str → Option Value} {base : Heap}
theorem ok_put_in (B : Bl mg) (F : FunG K mg "put_in" s_put_in) (C : Cs K mg) (hP : Pf P w K mg base "plus" 3 S_plus) (hT : Pf P w K mg base "times" 3 S_times) : Pf P w K mg base "put_in" 4 S_put := by
  obtain ⟨z0, hZ, iZ⟩ := C.zero
  obtain ⟨z1, hO, iO⟩ := C.one
  refine pf_mk F sc_put_in (fun _ _ _ _ _ _ us hl => match us, hl with | [_, _, _, _], _ => rfl) (fun Z ds R h => by obtain ⟨A, B, dA, dB, i, p, n, m, ai, ap, bi, bp, ki, kp, f, g, rfl, _⟩ := h; rfl) (fun f cdv A outer s H E hr => ⟨_, (pss_cons (ps_set (i := 4) sc_put_in.nd rfl (.inl rfl) (pe_dict (K := K) rfl rfl B rfl (pa_cons (pe_ixL (K := K) rfl (pv 0) (pv 2) (fun _ _ => rfl)) pa_nil))) (pss_cons (ps_set (i := 5) sc_put_in.nd rfl (.inr rfl) (pe_dpop1 (pv 4) (pv 3) ⟨rfl, rfl, rfl, rfl⟩)) (pss_cons (ps_lock (ps_for PassesOwn.never rfl (pi_items (pe_ixL (K := K) rfl (pv 0) (pv 3) (fun _ _ => rfl))) (pg_tupK (K := K) rfl rfl (pgs_cons (pg_name (i := 7) sc_put_in.nd rfl (.inl rfl)) (pgs_cons (pg_name (i := 8) sc_put_in.nd rfl (.inl rfl)) pgs_nil))) (pss_cons (ps_dput (hu_of hr) (pv 4) (pv 7) (pe_pf hP hr (by decide) rfl (pa_cons (pe_dget2 (hu_of hr) (pv 4) (pv 7) (pe_cref hZ rfl) ⟨rfl, rfl, rfl, rfl⟩) (pa_cons (pe_pf hT hr (by decide) rfl (pa_cons (pv 5) (pa_cons (pv 8) pa_nil))) pa_nil))) rfl) pss_nil))) (pss_cons (ps_setLc (i := 6) (own := [("mine", 9), ("its", 10)]) (g := gTup K 2 (gCons (gName 9) (gCons (gName 10) gNil))) rfl sc_put_in.nd rfl rfl (sw_true rfl rfl rfl (by decide +kernel)) (pi_zipK (K := K) rfl rfl B rfl (pa_cons (pe_ixL (K := K) rfl (pv 1) (pv 2) (fun _ _ => rfl)) (pa_cons (pe_ixL (K := K) rfl (pv 1) (pv 3) (fun _ _ => rfl)) pa_nil))) (blkOk_by (own := [("mine", 9), ("its", 10)]) (N := ["shares", "constants", "place", "other", "own", "share", "known", "later", "part", "mine", "its"]) (sc := defScope (s_put_in)) (by decide +kernel)) (fun _ _ _ _ _ => (pg_tupK (K := K) rfl rfl (pgs_cons (pg_name (i := 9) sc_put_in.nd rfl (.inl rfl)) (pgs_cons (pg_name (i := 10) sc_put_in.nd rfl (.inl rfl)) pgs_nil)))) (fun _ _ _ _ _ => pts_nil) (fun _ _ _ _ _ => (pe_pf hP hr (by decide) rfl (pa_cons (pv 9) (pa_cons (pe_pf hT hr (by decide) rfl (pa_cons (pv 5) (pa_cons (pv 10) pa_nil))) pa_nil))))) (pss_cons (ps_ret (pe_tup (pa_cons (pv 4) (pa_cons (pv 6) pa_nil)))) pss_nil))))), fun Z ds R H0 hz hS => ?_⟩)
  obtain ⟨A, Bd, dA, dB, i, p, n, m, ai, ap, bi, bp, ki, kp, f, g, rfl, rfl, hai, hap, hbi, hbp, dri, drp, hs, hpn, hn, hm, hAap, sz, rfl⟩ := hS
  have rA := hz _ (List.mem_cons_self)
  have rB := hz _ (List.mem_cons_of_mem _ List.mem_cons_self)
  have rai := hz _ (List.mem_cons_of_mem _ (List.mem_cons_of_mem _ List.mem_cons_self))
  have rap := hz _ (List.mem_cons_of_mem _ (List.mem_cons_of_mem _ (List.mem_cons_of_mem _ List.mem_cons_self)))
  have rbi := hz _ (List.mem_cons_of_mem _ (List.mem_cons_of_mem _ (List.mem_cons_of_mem _ (List.mem_cons_of_mem _ List.mem_cons_self))))
  have rbp := hz _ (List.mem_cons_of_mem _ (List.mem_cons_of_mem _ (List.mem_cons_of_mem _ (List.mem_cons_of_mem _ (List.mem_cons_of_mem _ List.mem_cons_self)))))
  refine gq_new (en_cb (ea_cons (ev_op (ev_var rfl) (ev_var rfl) (rv_ixL (.inr rA) (atN hai))) ea_nil) (rc_dict (.inr rai))) fun a => ?_
  refine gq_setM (em_dpop (ev_var rfl) (ev_var rfl) (k := 0) rfl (dri.some hs)) fun d L' e => ?_
  obtain ⟨rfl, rfl⟩ := e
  have szp := (sz p (by omega)).1
  obtain ⟨kl, rfl, kn1, kn2, kn3⟩ := drp
  let fj : Nat → Nat → Rat := fun j c => (if c = p then 0 else f c) + f p * (if c ∈ (kl.take j).map (·.1) then g c else 0)
  refine go_seq (fun G' L' => ∃ (v7 v8 : Option D) (ks : List (Key × D)), G' = [some (.ref A), some (.ref Bd), some (.int (i : Int)), some (.int (p : Int)), some (.ref a), some (fr (f p)), none, v7, v8, none, none] ∧ L' = [(a, .dct ks)] ∧ DR p n ks (putH p f g)) (go_lockB (ks := enc kl) rap fun H0' af fz => ?_) fun G' L' hM => ?_
  · refine go_for0 (ei_items (ev_op (ev_var rfl) (ev_var rfl) (rv_ixL (.inr (Rdo.aft rA af hAap)) (atN hap))) fz) (fun j G' L' => ∃ (v7 v8 : Option D) (ks : List (Key × D)), G' = [some (.ref A), some (.ref Bd), some (.int (i : Int)), some (.int (p : Int)), some (.ref a), some (fr (f p)), none, v7, v8, none, none] ∧ L' = [(a, .dct ks)] ∧ DR p n ks (fj j))
      ⟨none, none, _, rfl, rfl, dri.drop.congr (by omega) fun c hc => ?_⟩ (fun _ _ _ _ => trivial) (fun j d G' L' hd hI => ?_) (fun G' L' hI => ?_)
    · show _ = (if c = p then 0 else f c) + f p * (if c ∈ ([] : List (Nat × Rat)).map (·.1) then g c else 0)
      have e0 : (if c ∈ ([] : List (Nat × Rat)).map (·.1) then g c else 0) = (0 : Rat) := if_neg (fun h => nomatch h)
      rw [e0, Rat.mul_zero, Rat.add_zero]
    · obtain ⟨v7, v8, ks, rfl, rfl, dr⟩ := hI
      obtain ⟨q, hq, rfl⟩ := itms_of hd
      have hqm := List.mem_of_getElem? hq
      obtain ⟨hqp, hqg⟩ := kn2 q hqm
      have hnot : q.1 ∉ (kl.take j).map (·.1) := fun hm => by
        have h2 : (kl.map (·.1))[j]? = some q.1 := by rw [List.getElem?_map, hq]; rfl
        rw [List.map_take] at hm
        obtain ⟨x, hx⟩ := List.getElem?_of_mem hm
        rw [List.getElem?_take] at hx
        split at hx
        · rename_i hlt
          have := ix_inj kn1 hx h2
          omega
        · cases hx
      have hfj : fj j q.1 = f q.1 := by
        show (if q.1 = p then 0 else f q.1) + f p * (if q.1 ∈ (kl.take j).map (·.1) then g q.1 else 0) = _
        rw [if_neg (by omega), if_neg hnot, Rat.mul_zero, Rat.add_zero]
      have szq := sz q.1 (by omega)
      refine ⟨_, eg_two, ?_⟩
      refine go_last (gq_dput (i := (q.1 : Int)) (k := 0) (ev_call (ea_cons (ev_get2 (i := (q.1 : Int)) (ev_var rfl) (.inl List.mem_cons_self) (ev_var rfl) (ev_k iZ) (dr.get (by omega))) (ea_cons (ev_call (ea_cons (ev_var rfl) (ea_cons (ev_var rfl) ea_nil)) ⟨f p, q.2, rfl, szp.sm, by rw [hqg]; exact szq.2.sm, rfl⟩) ea_nil)) ⟨fj j q.1, f p * q.2, rfl, by rw [hfj]; exact szq.1.sm, by rw [hqg]; exact s2_mul szp szq.2, rfl⟩) (ev_var rfl) (ev_var rfl) rfl (by have := dr.len; omega) (go_next ⟨_, _, _, rfl, rfl, ?_⟩))
      refine (dr.put hqp _).congr (by omega) fun c hc => ?_
      have ht : kl.take (j + 1) = kl.take j ++ [q] := by rw [List.take_succ, hq]; rfl
      show (if c = q.1 then fj j q.1 + f p * q.2 else fj j c) = (if c = p then 0 else f c) + f p * (if c ∈ (kl.take (j + 1)).map (·.1) then g c else 0)
      rw [ht, List.map_append]
      by_cases e : c = q.1
      · subst e
        have e0 : q.1 ∈ (kl.take j).map (·.1) ++ [q].map (·.1) := List.mem_append_right _ (List.mem_singleton.mpr rfl)
        rw [if_pos rfl, hfj, if_neg (by omega), if_pos e0, hqg]
      · rw [if_neg e]
        have : (c ∈ (kl.take j).map (·.1) ++ [q].map (·.1)) ↔ c ∈ (kl.take j).map (·.1) := by
          rw [List.mem_append]
          exact ⟨fun h => h.elim id fun h => absurd (List.mem_singleton.mp h) e, .inl⟩
        simp only [this]
        rfl
    · obtain ⟨v7, v8, ks, rfl, rfl, dr⟩ := hI
      refine ⟨_, _, ks, rfl, rfl, dr.congr (by omega) fun c hc => ?_⟩
      have hl : (itms (enc kl)).length = kl.length := by rw [itms_enc, List.length_map]
      show (if c = p then 0 else f c) + f p * (if c ∈ (kl.take (itms (enc kl)).length).map (·.1) then g c else 0) = putH p f g c
      rw [hl, List.take_length]
      unfold putH
      by_cases e : c = p
      · rw [if_pos e, if_pos e, if_neg (fun hm => ?_), Rat.mul_zero, Rat.add_zero]
        obtain ⟨q, hq, hqc⟩ := List.mem_map.mp hm
        have := (kn2 q hq).1
        omega
      · rw [if_neg e, if_neg e]
        by_cases hm : c ∈ kl.map (·.1)
        · rw [if_pos hm]
        · rw [if_neg hm, kn3 c hc hm]
  · obtain ⟨v7, v8, ks, rfl, rfl, dr⟩ := hM
    refine gq_new (en_lc2Y (v := plD (f p)) (by decide) (ei_zip (ea_cons (ev_op (ev_var rfl) (ev_var rfl) (rv_ixL (.inr rB) (atN hbi))) (ea_cons (ev_op (ev_var rfl) (ev_var rfl) (rv_ixL (.inr rB) (atN hbp))) ea_nil)) (.lst (.inr rbi)) (.lst (.inr rbp))) (fun _ => ⟨.inr rbi, .inr rbp⟩) (fun d hd => ?_) (by rw [prs_len, kn_len, kn_len]; omega)) fun b => ?_
    · obtain ⟨o, ho, rfl⟩ := kn_prs_of hd
      have s1 := sz (n + o) (by omega)
      refine ⟨_, _, rfl, EvP.cast (ev_call (ea_cons (ev_var rfl) (ea_cons (ev_call (ea_cons (ev_var rfl) (ea_cons (ev_var rfl) ea_nil)) ⟨f p, g (n + o), rfl, szp.sm, s1.2.sm, rfl⟩) ea_nil)) ⟨f (n + o), f p * g (n + o), rfl, s1.1.sm, s2_mul szp s1.2, rfl⟩) ?_⟩
      show _ = fr (unfr (fr (f (n + o))) + f p * unfr (fr (g (n + o))))
      rw [unfr_fr, unfr_fr]
    · rw [kn_prs (h := putH p f g) fun o ho => ?_]
      · exact gq_retA (ev_tup (ea_cons (ev_var rfl) (ea_cons (ev_var rfl) ea_nil)) (by show 2 ≤ 100000; decide)) ⟨a, b, ks, rfl, rfl, dr⟩
      · show fr (unfr (fr (f (n + o))) + f p * unfr (fr (g (n + o)))) = _
        rw [unfr_fr, unfr_fr]
        unfold putH
        rw [if_neg (by omega)]
end
theorem hl_er {L : Hl} {a b : Addr} {o u : O} {k : Nat} (hk : L[k]? = some (a, o)) (h : (b, u) ∈ L) (hb : b ≠ a) : (b, u) ∈ L.eraseIdx k := by
  obtain ⟨j, hj⟩ := List.getElem?_of_mem h
  refine List.mem_eraseIdx_iff_getElem?.mpr ⟨j, fun e => ?_, hj⟩
  subst e
  rw [hk] at hj
  cases hj
  exact hb rfl
theorem RowsW.row {n m q p : Nat} {bd bd' : Nat → Nat} {M M' : Mx} {A B a0 : Addr} {as bs : List Addr} {L : Hl} {ks0 : List (Key × D)} (h : RowsW n m q bd M A B as bs L) (ha0 : as[p]? = some a0) (h0 : (a0, .dct ks0) ∈ L) (dr : DR (bd' p) n ks0 (M' p)) (hk : kn n m (M p) = kn n m (M' p))
    (e1 : ∀ i, i ≠ p → bd i = bd' i ∧ M i = M' i) : RowsW n m q bd' M' A B as bs L :=
  ⟨h.la, h.lb, h.nd, h.mA, h.mB, h.ab, fun i a e => by
    by_cases hi : i = p
    · subst hi
      rw [ha0] at e
      cases e
      exact ⟨ks0, h0, dr⟩
    · obtain ⟨ks, h1, h2⟩ := h.ra i a e
      rw [(e1 i hi).1, (e1 i hi).2] at h2
      exact ⟨ks, h1, h2⟩, fun i b e => by
    obtain ⟨h1, h2, h3⟩ := h.rb i b e
    refine ⟨h1, h2, ?_⟩
    by_cases hi : i = p
    · subst hi; rw [← hk]; exact h3
    · rw [← (e1 i hi).2]; exact h3⟩
theorem part_step {b b' : Nat → Bool} {n : Nat} {M : Mx} {o p c : Nat} (hc : c < p) (hb : b c = false) (hb' : ∀ x, b' x = (b x || decide (x = c))) : part n M o p b' = part n M o p b + el n M n p c * X n M o c := by
  unfold part
  have e : sm p (fun x => if b' x = true then el n M n p x * X n M o x else 0) = sm p (fun x => (if b x = true then el n M n p x * X n M o x else 0) + (if x = c then el n M n p x * X n M o x else 0)) := sm_congr fun x _ => by
    rw [hb' x]
    by_cases hx : x = c
    · subst hx; rw [hb, if_pos (by simp), if_neg (by simp), if_pos rfl, Rat.zero_add]
    · cases hbx : b x with
      | true => rw [if_pos (by simp), if_pos rfl, if_neg hx, Rat.add_zero]
      | false => rw [if_neg (by simp [hx]), if_neg (by simp), if_neg hx, Rat.add_zero]
  rw [e, sm_add, sm_at (k := c) hc fun i _ hi => if_neg hi, if_pos rfl, Rat.add_assoc]
def Xf (n : Nat) (M : Mx) (i x : Nat) : Rat := X n M (x - n) i
def resD (n m : Nat) (M : Mx) (j : Nat) : List D := (List.range j).map fun i => .tup (kn n m (Xf n M i))
theorem resD_get {n m j i : Nat} {M : Mx} (h : i < j) : (resD n m M j)[i]? = some (.tup (kn n m (Xf n M i))) := by unfold resD; rw [List.getElem?_map, List.getElem?_range h]; rfl
theorem resD_len {n m j : Nat} {M : Mx} : (resD n m M j).length = j := by unfold resD; rw [List.length_map, List.length_range]
theorem resD_succ {n m j : Nat} {M : Mx} : resD n m M j ++ [.tup (kn n m (Xf n M j))] = resD n m M (j + 1) := by unfold resD; rw [List.range_succ, List.map_append]; rfl
/-- the answers of a table -/
def ansD (s m : Nat) (t : List Rw) : List D := resD t.length m (tabM s m t) t.length
def S_solved : FS := fun _ ds R => ∃ (s m : Nat) (t : List Rw) (d : Nat → Nat), ds = [.int (s : Int), .int (m : Int), tbD t] ∧ Tb s m t ∧ Rk t d ∧ R = New1 (.lst (ansD s m t))
def bdk (n k : Nat) (r : Nat) : Nat := if r < n - k then n - k else r
def bd2 (n k p i : Nat) (r : Nat) : Nat := if r = p ∨ r < i then p else bdk n k r
def Mi (p i : Nat) (E : Mx) : Mx := fun r c => if r = p then nrm p E c else if r < i then stp p E r c else E r c
abbrev Gs (s m : Nat) (t : List Rw) (v3 v4 : Option D) (A B : Addr) (v7 v8 v9 v10 v11 v12 : Option D) : Ga := [some (.int (s : Int)), some (.int (m : Int)), some (tbD t), v3, v4, some (.ref A), some (.ref B), v7, v8, v9, v10, v11, v12, none, none]
section
variable {P : Program} {w : World} {K : PySem.W.Frag} {mg : Str → Option Value} {base : Heap}
theorem ok_solved (B : Bl mg) (F : FunG K mg "solved" s_solved) (C : Cs K mg) (hP : Pf P w K mg base "plus" 3 S_plus) (hM : Pf P w K mg base "minus" 3 S_minus) (hT : Pf P w K mg base "times" 3 S_times) (hV : Pf P w K mg base "over" 3 S_over) (hE : Pf P w K mg base "equations" 4 S_equ) (hPI : Pf P w K mg base "put_in" 4 S_put) : Pf P w K mg base "solved" 5 S_solved := by
  obtain ⟨z0, hZ, iZ⟩ := C.zero
  obtain ⟨z1, hO, iO⟩ := C.one
  refine pf_mk F sc_solved (fun _ _ _ _ _ _ us hl => match us, hl with | [_, _, _], _ => rfl) (fun Z ds R h => by obtain ⟨s, m, t, d, rfl, _⟩ := h; rfl) (fun f cdv A outer s H E hr => ⟨_, (pss_cons (ps_asg (pe_pf hE hr (by decide) rfl (pa_cons (pv 0) (pa_cons (pv 1) (pa_cons (pv 2) pa_nil)))) (pg_tupK (K := K) rfl rfl (pgs_cons (pg_name (i := 5) sc_solved.nd rfl (.inl rfl)) (pgs_cons (pg_name (i := 6) sc_solved.nd rfl (.inl rfl)) pgs_nil)))) (pss_cons (ps_for PassesOwn.never rfl (pi_range3 rfl B.range (pa_cons (pe_op op_sub (pe_len (K := K) rfl rfl B rfl (pa_cons (pv 2) pa_nil)) pe_int) (pa_cons (pe_un un_neg pe_int) (pa_cons (pe_un un_neg pe_int) pa_nil)))) (pg_name (i := 3) sc_solved.nd rfl (.inl rfl)) (pss_cons (ps_set (i := 7) sc_solved.nd rfl (.inl rfl) (pe_ixL (K := K) rfl (pv 5) (pv 3) (fun _ _ => rfl))) (pss_cons (ps_if (pt_cmp (pc_din (hu_of hr) (pv 3) (pv 7))) (pss_cons (ps_set (i := 10) sc_solved.nd rfl (.inr rfl) (pe_pf hM hr (by decide) rfl (pa_cons (pe_cref hO rfl) (pa_cons (pe_dpop1 (pv 7) (pv 3) ⟨rfl, rfl, rfl, rfl⟩) pa_nil)))) (pss_cons (ps_asg (pe_lock (pe_dc (own := [("later", 11), ("part", 12)]) (g := gTup K 2 (gCons (gName 11) (gCons (gName 12) gNil))) rfl sc_solved.nd (pi_items (pv 7)) (blkOk_by (own := [("later", 11), ("part", 12)]) (N := ["sides", "many", "table", "place", "result", "shares", "constants", "own", "before", "known", "rest", "later", "part", "mine", "its"]) (sc := defScope (s_solved)) (by decide +kernel)) (fun _ _ _ _ _ => (pg_tupK (K := K) rfl rfl (pgs_cons (pg_name (i := 11) sc_solved.nd rfl (.inl rfl)) (pgs_cons (pg_name (i := 12) sc_solved.nd rfl (.inl rfl)) pgs_nil)))) (fun _ _ _ _ _ => pts_nil) (fun _ _ _ _ _ => (pv 11)) (fun _ _ _ _ _ => (pe_pf hV hr (by decide) rfl (pa_cons (pv 12) (pa_cons (pv 10) pa_nil)))))) (pg_sub (pv 5) (pv 3) set_list)) (pss_cons (ps_asg (pe_lc (own := [("part", 12)]) (g := gName 12) rfl sc_solved.nd (pi_listK (K := K) rfl (pe_ixL (K := K) rfl (pv 6) (pv 3) (fun _ _ => rfl))) (blkOk_by (own := [("part", 12)]) (N := ["sides", "many", "table", "place", "result", "shares", "constants", "own", "before", "known", "rest", "later", "part", "mine", "its"]) (sc := defScope (s_solved)) (by decide +kernel)) (fun _ _ _ _ _ => (pg_name (i := 12) sc_solved.nd rfl (.inl rfl))) (fun _ _ _ _ _ => pts_nil) (fun _ _ _ _ _ => (pe_pf hV hr (by decide) rfl (pa_cons (pv 12) (pa_cons (pv 10) pa_nil))))) (pg_sub (pv 6) (pv 3) set_list)) pss_nil))) pss_nil) (pss_cons (ps_for PassesOwn.never rfl (pi_range1 rfl B.range (pa_cons (pv 3) pa_nil)) (pg_name (i := 8) sc_solved.nd rfl (.inl rfl)) (pss_cons (ps_if (pt_cmp (pc_din (hu_of hr) (pv 3) (pe_ixL (K := K) rfl (pv 5) (pv 8) (fun _ _ => rfl)))) (pss_cons (ps_asg (pe_pf hPI hr (by decide) rfl (pa_cons (pv 5) (pa_cons (pv 6) (pa_cons (pv 8) (pa_cons (pv 3) pa_nil))))) (pg_tupK (K := K) rfl rfl (pgs_cons (pg_sub (pv 5) (pv 8) set_list) (pgs_cons (pg_sub (pv 6) (pv 8) set_list) pgs_nil)))) pss_nil) pss_nil) pss_nil)) pss_nil)))) (pss_cons (ps_set (i := 4) sc_solved.nd rfl (.inl rfl) (pe_lst pa_nil)) (pss_cons (ps_for PassesOwn.never rfl (pi_range1 rfl B.range (pa_cons (pe_len (K := K) rfl rfl B rfl (pa_cons (pv 2) pa_nil)) pa_nil)) (pg_name (i := 3) sc_solved.nd rfl (.inl rfl)) (pss_cons (ps_set (i := 9) sc_solved.nd rfl (.inl rfl) (pe_ixL (K := K) rfl (pv 6) (pv 3) (fun _ _ => rfl))) (pss_cons (ps_lock (ps_for PassesOwn.never rfl (pi_items (pe_ixL (K := K) rfl (pv 5) (pv 3) (fun _ _ => rfl))) (pg_tupK (K := K) rfl rfl (pgs_cons (pg_name (i := 11) sc_solved.nd rfl (.inl rfl)) (pgs_cons (pg_name (i := 12) sc_solved.nd rfl (.inr rfl)) pgs_nil))) (pss_cons (ps_setLc (i := 9) (own := [("mine", 13), ("its", 14)]) (g := gTup K 2 (gCons (gName 13) (gCons (gName 14) gNil))) rfl sc_solved.nd rfl rfl (sw_true rfl rfl rfl (by decide +kernel)) (pi_zipK (K := K) rfl rfl B rfl (pa_cons (pv 9) (pa_cons (pe_ixL (K := K) rfl (pv 4) (pv 11) (fun _ _ => rfl)) pa_nil))) (blkOk_by (own := [("mine", 13), ("its", 14)]) (N := ["sides", "many", "table", "place", "result", "shares", "constants", "own", "before", "known", "rest", "later", "part", "mine", "its"]) (sc := defScope (s_solved)) (by decide +kernel)) (fun _ _ _ _ _ => (pg_tupK (K := K) rfl rfl (pgs_cons (pg_name (i := 13) sc_solved.nd rfl (.inl rfl)) (pgs_cons (pg_name (i := 14) sc_solved.nd rfl (.inl rfl)) pgs_nil)))) (fun _ _ _ _ _ => pts_nil) (fun _ _ _ _ _ => (pe_pf hP hr (by decide) rfl (pa_cons (pv 13) (pa_cons (pe_pf hT hr (by decide) rfl (pa_cons (pv 12) (pa_cons (pv 14) pa_nil))) pa_nil))))) pss_nil))) (pss_cons (ps_expr (pe_bm PySem.F.plainAttrs_list PySem.F.slot_list_append PySem.F.type_list_append mt_append (pv 4) (pa_cons (pe_tuple (K := K) rfl rfl B rfl (pa_cons (pv 9) pa_nil)) pa_nil))) pss_nil)))) (pss_cons (ps_ret (pv 4)) pss_nil))))), fun Z ds R H0 hz hS => ?_⟩)
  obtain ⟨s, m, t, dd, rfl, T, rk, rfl⟩ := hS
  have n1 := T.n1
  have n2 := T.n2
  have m1 := T.m1
  have m2 := T.m2
  have hs6 := T.s2
  have ft := T.fit
  have su := T.sup rk
  have hlt : (t.map rwD).length = t.length := List.length_map ..
  unfold ansD
  generalize hM0 : tabM s m t = M at *
  generalize hnn : t.length = n at *
  refine gq_setN (en_call (ea_cons (ev_var rfl) (ea_cons (ev_var rfl) (ea_cons (ev_var rfl) ea_nil))) ⟨s, m, t, rfl, T, rfl⟩ noZ) fun d N hN => ?_
  obtain ⟨A, Bd, as, bs, rfl, W0⟩ := hN
  rw [hM0, hnn] at W0
  refine ⟨_, eg_two, ?_⟩
  rw [List.append_nil]
  -- the elimination
  refine gq_for0 (ei_rng3 (m := ((t.map rwD).length : Int) - 1) (n := -1) (ea_cons (ev_op (ev_cb (ea_cons (ev_var rfl) ea_nil) rc_lenT) ev_int rv_sub) (ea_cons (ev_un1 ev_int) (ea_cons (ev_un1 ev_int) ea_nil))) (by rw [hlt]; omega)) (fun k G' L' => ∃ (v3 v7 v8 v10 : Option D) (as bs : List Addr), G' = Gs s m t v3 none A Bd v7 v8 none v10 none none ∧ RowsW n m n (bdk n k) (el n M k) A Bd as bs L')
    ⟨none, none, none, none, as, bs, rfl, W0.congr (fun i hi => by unfold bdk; rw [if_pos (by omega)]; rfl) (fun i hi => ⟨Nat.le_refl _, fun c hc => rfl⟩)⟩ (fun _ _ _ _ => trivial) (fun k d G' L' hd hI => ?_) (fun G' L' hI => ?_)
  · obtain ⟨v3, v7, v8, v10, as, bs, rfl, W⟩ := hI
    have hk : k < n := by
      have h1 := (List.getElem?_eq_some_iff.mp hd).1
      rw [dwnD_len, hlt] at h1
      omega
    obtain ⟨p, hp⟩ : ∃ p, n - 1 - k = p := ⟨_, rfl⟩
    have hpn : p < n := by omega
    have hnk : n - k = p + 1 := by omega
    have hdp : d = .int (p : Int) := by
      have h2 := dwnD_get (lo := ((t.map rwD).length : Int) - 1) (n := (((t.map rwD).length : Int) - 1 - -1).toNat) (i := k) (by rw [hlt]; omega)
      rw [h2] at hd
      rw [← Option.some.inj hd, hlt]
      congr 1
      omega
    subst hdp
    obtain ⟨E, hE0⟩ : ∃ E, el n M k = E := ⟨_, rfl⟩
    rw [hE0] at W
    have ei := el_ei su k (by omega)
    rw [hE0] at ei
    have entS : ∀ i c, i < n - k → S2 (E i c) := fun i c hi => by rw [← hE0]; exact ent_s2 ft su hs6 n2 hi c
    have nrmS : ∀ c, S2 (nrm p E c) := fun c => by rw [← hE0, ← hp]; exact nrm_s2 ft su hs6 n2 hk c
    have restS : S2 (1 - E p p) := by rw [← hE0, ← hp]; exact rest_s2 ft su hs6 n2 hk
    have piv : E p p < 1 := by have := ei.piv su.pos hk; rwa [hp] at this
    have hstp : el n M (k + 1) = stp p E := by rw [← hE0, ← hp]; rfl
    refine ⟨_, eg_name, go_nd fun hnd => ?_⟩
    obtain ⟨a0, ha0⟩ : ∃ a, as[p]? = some a := ⟨as[p]'(by rw [W.la]; exact hpn), List.getElem?_eq_getElem _⟩
    obtain ⟨b0, hb0⟩ : ∃ b, bs[p]? = some b := ⟨bs[p]'(by rw [W.lb]; exact hpn), List.getElem?_eq_getElem _⟩
    obtain ⟨ks0, m0, dr0⟩ := W.ra p a0 ha0
    obtain ⟨b0A, b0B, mb0⟩ := W.rb p b0 hb0
    have hbd : bdk n k p = p + 1 := by unfold bdk; rw [if_pos (by omega)]; exact hnk
    rw [hbd] at dr0
    refine gq_set (d := .ref a0) (ev_op (ev_var rfl) (ev_var rfl) (rv_ixL (.inl W.mA) (atN (rfs_get ha0)))) ?_
    refine gq_ifJ (fun G' L' => ∃ (v7 v8 v10 : Option D) (as bs : List Addr), G' = Gs s m t (some (.int (p : Int))) none A Bd v7 v8 none v10 none none ∧ RowsW n m n (bd2 n k p 0) (Mi p 0 E) A Bd as bs L') (et_B (ev_din (ev_var rfl) (.inl m0) (ev_var rfl))) (fun hb => ?_) (fun hb => ?_) (fun G' L' hMid => ?_)
    · obtain ⟨k0, hk0⟩ := List.getElem?_of_mem m0
      refine gq_setM (em_call2 (ev_k iO) (em_dpop (ev_var rfl) (ev_var rfl) hk0 (dr0.some hb)) ⟨1, E p p, rfl, s2_one.sm, (entS p p (by omega)).sm, rfl⟩) fun d L2 e => ?_
      obtain ⟨rfl, rfl⟩ := e
      have dr1 := dr0.drop
      have a0A : A ≠ a0 := fun z => by subst z; have := hl_inj hnd W.mA m0; cases this
      obtain ⟨kl, hkl, kl1, kl2, kl3⟩ := dr1
      have kll : kl.length ≤ 100000 := by
        have h3 := nodup_len kl1 (n := p) fun x hx => by
          obtain ⟨q, hq, rfl⟩ := List.mem_map.mp hx
          exact (kl2 q hq).1
        rw [List.length_map] at h3
        omega
      have hrp : 0 < 1 - E p p := by have := (Rat.lt_iff_sub_pos (E p p) 1).mp piv; exact this
      have lk1 : (L'.set k0 (a0, O.dct (dropD ks0 (.inl (p : Int)))))[k0]? = some (a0, .dct (dropD ks0 (.inl (p : Int)))) := List.getElem?_set_self (List.getElem?_eq_some_iff.mp hk0).1
      obtain ⟨kA, hkA⟩ := List.getElem?_of_mem (hl_keep (o' := .dct (dropD ks0 (.inl (p : Int)))) hk0 W.mA a0A)
      have f1 : (L'.set k0 (a0, O.dct (dropD ks0 (.inl (p : Int))))).map (·.1) = L'.map (·.1) := hl_fst hk0
      refine gq_setLN (P := New1 (.dct ((itms (dropD ks0 (.inl (p : Int)))).foldl (fun acc d => putD acc (.inl (kpD d)) (vpD (· / (1 - E p p)) d)) []))) (en_lockO lk1 fun H0' af fz => en_dc2 (i := 11) (j := 12) (kf := kpD) (v := vpD (· / (1 - E p p))) (by decide) (ei_items (ev_var rfl) fz) (fun _ => trivial) (fun d hd => ?_) (by rw [hkl, itms_enc, List.length_map]; exact kll)) hkA (ev_var rfl) (ev_var rfl) (ixN_of (by rw [List.length_map, W.la]; exact hpn)) fun d N hN => ?_
      · obtain ⟨i, hi⟩ := List.getElem?_of_mem hd
        rw [hkl] at hi
        obtain ⟨q, hq, rfl⟩ := itms_of hi
        obtain ⟨q1, q2⟩ := kl2 q (List.mem_of_getElem? hq)
        rw [if_neg (by omega)] at q2
        refine ⟨_, _, rfl, ev_var rfl, EvP.cast (ev_call (ea_cons (ev_var rfl) (ea_cons (ev_var rfl) ea_nil)) ⟨q.2, 1 - E p p, rfl, by rw [q2]; exact (entS p q.1 (by omega)).sm, restS.sm, hrp, rfl⟩) ?_⟩
        show _ = fr (unfr (fr q.2) / (1 - E p p))
        rw [unfr_fr]
      · obtain ⟨a, rfl, rfl⟩ := hN
        refine go_nd fun hnd2 => ?_
        rw [List.singleton_append, List.map_cons, hl_fst hkA, f1] at hnd2
        have aL : ∀ c u, (c, u) ∈ L' → c ≠ a := fun c u hm z => (List.nodup_cons.mp hnd2).1 (List.mem_map.mpr ⟨(c, u), hm, z⟩)
        have kp2 : ∀ c u, (c, u) ∈ L' → c ≠ A → c ≠ a0 → (c, u) ∈ (a, O.dct ((itms (dropD ks0 (.inl (p : Int)))).foldl (fun acc d => putD acc (.inl (kpD d)) (vpD (· / (1 - E p p)) d)) [])) :: (L'.set k0 (a0, O.dct (dropD ks0 (.inl (p : Int))))).set kA (A, .lst ((rfs as).set p (.ref a))) := fun c u hm h1 h2 => List.mem_cons_of_mem _ (hl_keep hkA (hl_keep hk0 hm h2) h1)
        have b0a0 : b0 ≠ a0 := fun z => by subst z; have := hl_inj hnd mb0 m0; cases this
        have mB2 := kp2 _ _ W.mB W.ab.symm (fun z => by subst z; have := hl_inj hnd W.mB m0; cases this)
        have mb2 := kp2 _ _ mb0 b0A b0a0
        obtain ⟨kB, hkB⟩ := List.getElem?_of_mem mB2
        refine go_last (gq_setLN (P := New1 (.lst ((kn n m (E p)).map fun x => fr (unfr x / (1 - E p p))))) (en_lcY (v := fun x => fr (unfr x / (1 - E p p))) (ei_list (ev_op (ev_var rfl) (ev_var rfl) (rv_ixL (.inl mB2) (atN (rfs_get hb0)))) (.inl mb2)) (fun _ => .inl (List.mem_cons_of_mem _ mb2)) (fun d hd => ?_) (by rw [kn_len]; omega)) hkB (ev_var rfl) (ev_var rfl) (ixN_of (by rw [List.length_map, W.lb]; exact hpn)) fun d N hN => ?_)
        · obtain ⟨o, ho, rfl⟩ := kn_of hd
          refine EvP.cast (ev_call (ea_cons (ev_var rfl) (ea_cons (ev_var rfl) ea_nil)) ⟨E p (n + o), 1 - E p p, rfl, (entS p (n + o) (by omega)).sm, restS.sm, hrp, rfl⟩) ?_
          rw [unfr_fr]
        · obtain ⟨b, rfl, rfl⟩ := hN
          refine go_nd fun hnd3 => go_next ⟨_, _, _, as.set p a, bs.set p b, rfl, ?_⟩
          simp only [List.singleton_append] at hnd3
          rw [List.map_cons, hl_fst hkB, List.map_cons, hl_fst hkA, f1] at hnd3
          have bL : ∀ c u, (c, u) ∈ L' → c ≠ b := fun c u hm z => (List.nodup_cons.mp hnd3).1 (List.mem_cons_of_mem _ (List.mem_map.mpr ⟨(c, u), hm, z⟩))
          refine RowsW.set W hnd ha0 (fun hm => ?_) ⟨(bL _ _ W.mA).symm, (bL _ _ W.mB).symm⟩ (List.mem_cons_of_mem _ (hl_keep hkB (List.mem_cons_of_mem _ ?_) W.ab)) (List.mem_cons_of_mem _ ?_) (List.mem_cons_of_mem _ (hl_keep hkB List.mem_cons_self (aL _ _ W.mB).symm)) ?_ (List.mem_cons.mpr (.inl ?_)) (fun c u hm h1 h2 h3 => List.mem_cons_of_mem _ (hl_keep hkB (kp2 c u hm h1 h3) h2)) fun i hi => ⟨by unfold bd2; rw [if_neg (by omega)], by unfold Mi; funext c; rw [if_neg hi, if_neg (by omega)]⟩
          · obtain ⟨j, hj⟩ := List.getElem?_of_mem hm
            obtain ⟨ks', h1, _⟩ := W.ra j a hj
            exact aL _ _ h1 rfl
          · have := hl_put (o' := .lst ((rfs as).set p (.ref a))) hkA
            unfold rfs at this ⊢
            rw [List.map_set]
            exact this
          · have := hl_put (o' := .lst ((rfs bs).set p (.ref b))) hkB
            unfold rfs at this ⊢
            rw [List.map_set]
            exact this
          · have := (DR.mk ⟨kl, hkl, kl1, kl2, kl3⟩ : DR p n (dropD ks0 (.inl (p : Int))) (fun x => if x = p then 0 else E p x)).over (1 - E p p)
            unfold bd2
            rw [if_pos (.inl rfl)]
            refine this.congr (by omega) fun c hc => ?_
            unfold Mi nrm
            rw [if_pos rfl]
            by_cases e : c = p
            · rw [if_pos e, if_pos e, Rat.div_def, Rat.zero_mul]
            · rw [if_neg e, if_neg e]
          · congr 2
            rw [kn_map (g := Mi p 0 E p) fun o ho => ?_]
            rw [unfr_fr]
            unfold Mi nrm
            rw [if_pos rfl, if_neg (by omega)]
    · have z0 : E p p = 0 := dr0.none hpn hb
      refine go_next ⟨_, _, _, as, bs, rfl, W.row ha0 m0 ?_ ?_ fun i hi => ⟨by unfold bd2; rw [if_neg (by omega)], by unfold Mi; funext c; rw [if_neg hi, if_neg (by omega)]⟩⟩
      · unfold bd2
        rw [if_pos (.inl rfl)]
        refine (dr0.shrink hb).congr (by omega) fun c hc => ?_
        unfold Mi nrm
        rw [if_pos rfl, z0]
        by_cases e : c = p
        · rw [if_pos e, e, z0]
        · rw [if_neg e]; grind
      · refine kn_congr fun o ho => ?_
        unfold Mi nrm
        rw [if_pos rfl, if_neg (by omega), z0]
        grind
    · obtain ⟨v7, v8, v10, as, bs, rfl, W⟩ := hMid
      refine go_last (gq_for0 (ei_rng1 (n := (p : Int)) (ea_cons (ev_var rfl) ea_nil) (by omega) (by omega)) (fun i G' L' => ∃ (v8 : Option D) (as bs : List Addr), G' = Gs s m t (some (.int (p : Int))) none A Bd v7 v8 none v10 none none ∧ RowsW n m n (bd2 n k p i) (Mi p i E) A Bd as bs L') ⟨v8, as, bs, rfl, W⟩ (fun _ _ _ _ => trivial) (fun i d G' L' hd hI => ?_) (fun G' L' hI => ?_))
      · obtain ⟨v8, as, bs, rfl, W⟩ := hI
        have hip : i < p := by have h1 := (List.getElem?_eq_some_iff.mp hd).1; rw [rngD_len] at h1; omega
        rw [rngD_get (by omega)] at hd
        have hdi : d = .int (i : Int) := by rw [← Option.some.inj hd, Int.zero_add]
        subst hdi
        refine ⟨_, eg_name, ?_⟩
        refine go_nd fun hnd => ?_
        obtain ⟨ai, hai⟩ : ∃ a, as[i]? = some a := ⟨as[i]'(by rw [W.la]; omega), List.getElem?_eq_getElem _⟩
        obtain ⟨bi, hbi⟩ : ∃ b, bs[i]? = some b := ⟨bs[i]'(by rw [W.lb]; omega), List.getElem?_eq_getElem _⟩
        obtain ⟨ap, hap⟩ : ∃ a, as[p]? = some a := ⟨as[p]'(by rw [W.la]; exact hpn), List.getElem?_eq_getElem _⟩
        obtain ⟨bp, hbp⟩ : ∃ b, bs[p]? = some b := ⟨bs[p]'(by rw [W.lb]; exact hpn), List.getElem?_eq_getElem _⟩
        obtain ⟨ki, mi, dri⟩ := W.ra i ai hai
        obtain ⟨kp, mp, drp⟩ := W.ra p ap hap
        obtain ⟨biA, biB, mbi⟩ := W.rb i bi hbi
        obtain ⟨bpA, bpB, mbp⟩ := W.rb p bp hbp
        have e1 : bd2 n k p i i = p + 1 := by unfold bd2 bdk; rw [if_neg (by omega), if_pos (by omega)]; exact hnk
        have e2 : bd2 n k p i p = p := by unfold bd2; rw [if_pos (.inl rfl)]
        have e3 : Mi p i E i = E i := by funext c; unfold Mi; rw [if_neg (by omega), if_neg (by omega)]
        have e4 : Mi p i E p = nrm p E := by funext c; unfold Mi; rw [if_pos rfl]
        have e5 : bd2 n k p (i + 1) i = p := by unfold bd2; rw [if_pos (.inr (by omega))]
        have e6 : Mi p (i + 1) E i = putH p (E i) (nrm p E) := by
          funext c
          unfold Mi stp putH
          rw [if_neg (by omega), if_pos (by omega), if_neg (by omega), if_pos (by omega)]
        rw [e1, e3] at dri
        rw [e2, e4] at drp
        rw [e3] at mbi
        rw [e4] at mbp
        have oth : ∀ r, r ≠ i → bd2 n k p i r = bd2 n k p (i + 1) r ∧ Mi p i E r = Mi p (i + 1) E r := fun r hr => by
          constructor
          · unfold bd2
            by_cases h : r = p ∨ r < i
            · rw [if_pos h, if_pos (by omega)]
            · rw [if_neg h, if_neg (by omega)]
          · funext c
            unfold Mi
            by_cases h : r = p
            · rw [if_pos h, if_pos h]
            · rw [if_neg h, if_neg h]
              by_cases h : r < i
              · rw [if_pos h, if_pos (by omega)]
              · rw [if_neg h, if_neg (by omega)]
        refine gq_if2 (et_B (ev_din (ev_op (ev_var rfl) (ev_var rfl) (rv_ixL (.inl W.mA) (atN (rfs_get hai)))) (.inl mi) (ev_var rfl))) (fun hb => ?_) (fun hb => ?_)
        · obtain ⟨kA, hkA⟩ := List.getElem?_of_mem W.mA
          obtain ⟨kB, hkB⟩ := List.getElem?_of_mem W.mB
          have kAB : kA ≠ kB := fun z => by subst z; rw [hkA] at hkB; exact W.ab (congrArg Prod.fst (Option.some.inj hkB))
          refine gq_assoc (gq_set2 (en_call (ea_cons (ev_var rfl) (ea_cons (ev_var rfl) (ea_cons (ev_var rfl) (ea_cons (ev_var rfl) ea_nil)))) ⟨A, Bd, rfs as, rfs bs, i, p, n, m, ai, ap, bi, bp, ki, kp, E i, nrm p E, rfl, rfl, rfs_get hai, rfs_get hap, rfs_get hbi, rfs_get hbp, dri, drp, hb, hpn, n2, m2, (fun z => by subst z; have := hl_inj hnd W.mA mp; cases this), fun c _ => ⟨entS i c (by omega), nrmS c⟩, rfl⟩ fun q hq => ?_) (fun d N hN => ?_) hkA hkB kAB rfl rfl rfl (ixN_of (by rw [List.length_map, W.la]; omega)) (ixN_of (by rw [List.length_map, W.lb]; omega)))
          · simp only [List.mem_cons, List.not_mem_nil, or_false] at hq
            rcases hq with rfl | rfl | rfl | rfl | rfl | rfl
            · exact .inl W.mA
            · exact .inl W.mB
            · exact .inl mi
            · exact .inl mp
            · exact .inl mbi
            · exact .inl mbp
          · obtain ⟨a, b, ks, rfl, rfl, dr⟩ := hN
            refine ⟨_, _, rfl, gq_nil (go_nd fun hnd3 => go_next ⟨_, as.set i a, bs.set i b, rfl, ?_⟩)⟩
            have hkB' : (L'.set kA (A, .lst ((rfs as).set i (.ref a))))[kB]? = some (Bd, .lst (rfs bs)) := by rw [List.getElem?_set_ne kAB]; exact hkB
            have f3 : (((L'.set kA (A, .lst ((rfs as).set i (.ref a)))).set kB (Bd, .lst ((rfs bs).set i (.ref b)))).map (·.1)) = L'.map (·.1) := by rw [hl_fst hkB', hl_fst hkA]
            rw [List.map_append, f3] at hnd3
            have hnd4 : (b :: a :: L'.map (·.1)).Nodup := hnd3
            have bL : ∀ c u, (c, u) ∈ L' → c ≠ b := fun c u hm z => (List.nodup_cons.mp hnd4).1 (List.mem_cons_of_mem _ (List.mem_map.mpr ⟨(c, u), hm, z⟩))
            have aL : ∀ c u, (c, u) ∈ L' → c ≠ a := fun c u hm z => (List.nodup_cons.mp (List.nodup_cons.mp hnd4).2).1 (List.mem_map.mpr ⟨(c, u), hm, z⟩)
            refine RowsW.set W hnd hai (fun hm => ?_) ⟨(bL _ _ W.mA).symm, (bL _ _ W.mB).symm⟩ (List.mem_append_right _ (hl_keep hkB' ?_ W.ab)) (List.mem_append_right _ ?_) (List.mem_append_left _ (List.mem_cons_of_mem _ List.mem_cons_self)) (by rw [e5, e6]; exact dr) (List.mem_append_left _ (by rw [e6]; exact List.mem_cons_self)) (fun c u hm h1 h2 h3 => List.mem_append_right _ (hl_keep hkB' (hl_keep hkA hm h1) h2)) fun r hr => oth r hr
            · obtain ⟨j, hj⟩ := List.getElem?_of_mem hm
              obtain ⟨ks', h1, _⟩ := W.ra j a hj
              exact aL _ _ h1 rfl
            · have := hl_put (o' := .lst ((rfs as).set i (.ref a))) hkA
              unfold rfs at this ⊢
              rw [List.map_set]
              exact this
            · have := hl_put (o' := .lst ((rfs bs).set i (.ref b))) hkB'
              unfold rfs at this ⊢
              rw [List.map_set]
              exact this
        · have z0 : E i p = 0 := dri.none hpn hb
          refine gq_nil (gq_nil (go_next ⟨_, as, bs, rfl, W.row hai mi ?_ ?_ fun r hr => oth r hr⟩))
          · rw [e5, e6]
            refine (dri.shrink hb).congr (by omega) fun c hc => ?_
            unfold putH
            rw [z0, Rat.zero_mul, Rat.add_zero]
            by_cases e : c = p
            · rw [if_pos e, e, z0]
            · rw [if_neg e]
          · rw [e3, e6]
            refine kn_congr fun o ho => ?_
            unfold putH
            rw [if_neg (by omega), z0, Rat.zero_mul, Rat.add_zero]
      · obtain ⟨v8, as, bs, rfl, W⟩ := hI
        rw [rngD_len] at W
        refine go_next ⟨_, _, _, _, as, bs, rfl, W.congr (fun r hr => ?_) (fun r hr => ⟨?_, fun c hc => ?_⟩)⟩
        · unfold bd2 bdk
          by_cases h : r = p ∨ r < (p : Int).toNat
          · rw [if_pos h]
            by_cases h2 : r = p
            · rw [if_neg (by omega), h2]
            · rw [if_pos (by omega)]; omega
          · rw [if_neg h, if_neg (by omega), if_neg (by omega)]
        · unfold bd2 bdk
          split
          · omega
          · split <;> omega
        · rw [hstp]
          unfold Mi stp
          by_cases h : r = p
          · rw [if_pos h, if_pos h]
          · rw [if_neg h, if_neg h]
            by_cases h2 : r < p
            · rw [if_pos (by omega)]
            · rw [if_neg (by omega), if_neg h2]
  · obtain ⟨v3, v7, v8, v10, as, bs, rfl, W⟩ := hI
    have hend : (((t.map rwD).length : Int) - 1 - -1).toNat = n := by rw [hlt]; omega
    rw [dwnD_len, hend] at W
    refine gq_new (en_lst ea_nil (by decide)) fun Rr => go_nd fun hnd => ?_
    have hR : ∀ q ∈ L', q.1 ≠ Rr := fun q hq z => (List.nodup_cons.mp hnd).1 (List.mem_map.mpr ⟨q, hq, z⟩)
    have hndL := (List.nodup_cons.mp hnd).2
    refine gq_for0 (ei_rng1 (n := ((t.map rwD).length : Int)) (ea_cons (ev_cb (ea_cons (ev_var rfl) ea_nil) rc_lenT) ea_nil) (by omega) (by omega)) (fun j G2 L2 => ∃ (v3 v7 v8 v9 v10 v11 v12 : Option D), G2 = Gs s m t v3 (some (.ref Rr)) A Bd v7 v8 v9 v10 v11 v12 ∧ (Rr, .lst (resD n m M j)) ∈ L2 ∧ ∀ q ∈ L', q ∈ L2)
      ⟨v3, v7, v8, none, v10, none, none, rfl, List.mem_cons_self, fun q hq => List.mem_cons_of_mem _ hq⟩ (fun _ _ _ _ => trivial) (fun p d G2 L2 hd hI => ?_) (fun G2 L2 hI => ?_)
    · obtain ⟨v3, v7, v8, v9, v10, v11, v12, rfl, mR, hL⟩ := hI
      have hpn : p < n := by have h1 := (List.getElem?_eq_some_iff.mp hd).1; rw [rngD_len, hlt] at h1; omega
      rw [rngD_get (by rw [hlt]; omega)] at hd
      have hdi : d = .int (p : Int) := by rw [← Option.some.inj hd, Int.zero_add]
      subst hdi
      have W2 := W.keep hL
      obtain ⟨a0, ha0⟩ : ∃ a, as[p]? = some a := ⟨as[p]'(by rw [W.la]; exact hpn), List.getElem?_eq_getElem _⟩
      obtain ⟨b0, hb0⟩ : ∃ b, bs[p]? = some b := ⟨bs[p]'(by rw [W.lb]; exact hpn), List.getElem?_eq_getElem _⟩
      obtain ⟨ks0, m0, dr0⟩ := W2.ra p a0 ha0
      obtain ⟨b0A, b0B, mb0⟩ := W2.rb p b0 hb0
      have hbd : bdk n n p = p := by unfold bdk; rw [if_neg (by omega)]
      rw [hbd] at dr0
      obtain ⟨kl, rfl, kl1, kl2, kl3⟩ := dr0
      refine ⟨_, eg_name, go_nd fun hnd2 => ?_⟩
      obtain ⟨k0, hk0⟩ := List.getElem?_of_mem m0
      have nl : ∀ c ds, (c, O.lst ds) ∈ L2 → c ≠ a0 := fun c ds hm z => by subst z; have := hl_inj hnd2 hm m0; cases this
      let F : Nat → Nat → Rat := fun i x => part n M (x - n) p (fun c => decide (c ∈ (kl.take i).map (·.1)))
      have hF : ∀ i o, F i (n + o) = part n M o p (fun c => decide (c ∈ (kl.take i).map (·.1))) := fun i o => by show part n M (n + o - n) p _ = _; rw [Nat.add_sub_cancel_left]
      have hX : ∀ i o, Xf n M i (n + o) = X n M o i := fun i o => by unfold Xf; rw [Nat.add_sub_cancel_left]
      refine gq_set (d := .ref b0) (ev_op (ev_var rfl) (ev_var rfl) (rv_ixL (.inl W2.mB) (atN (rfs_get hb0)))) ?_
      refine go_seq (fun G3 L3 => ∃ (v11 v12 : Option D) (b : Addr), G3 = Gs s m t (some (.int (p : Int))) (some (.ref Rr)) A Bd v7 v8 (some (.ref b)) v10 v11 v12 ∧ (b, .lst (kn n m (Xf n M p))) ∈ L3 ∧ ∀ q ∈ L2, q ∈ L3) (go_lockO hk0 fun H0' af fz => ?_) fun G3 L3 hM3 => ?_
      · refine go_for0 (ei_items (ev_op (ev_var rfl) (ev_var rfl) (rv_ixL (.inl (hl_er hk0 W2.mA (nl _ _ W2.mA))) (atN (rfs_get ha0)))) fz) (fun i G3 L3 => ∃ (v11 v12 : Option D) (b : Addr), G3 = Gs s m t (some (.int (p : Int))) (some (.ref Rr)) A Bd v7 v8 (some (.ref b)) v10 v11 v12 ∧ (b, .lst (kn n m (F i))) ∈ L3 ∧ ∀ q ∈ L2.eraseIdx k0, q ∈ L3)
          ⟨v11, v12, b0, rfl, ?_, fun q hq => hq⟩ (fun _ _ _ _ => trivial) (fun i d G3 L3 hd hI => ?_) (fun G3 L3 hI => ?_)
        · rw [kn_congr (f := F 0) (g := el n M n p) fun o ho => ?_]
          · exact hl_er hk0 mb0 (nl _ _ mb0)
          · rw [hF]
            unfold part
            rw [sm_zero fun c _ => if_neg (by simp), Rat.add_zero]
        · obtain ⟨v11, v12, b, rfl, mb, hL3⟩ := hI
          obtain ⟨q, hq, rfl⟩ := itms_of hd
          have hqm := List.mem_of_getElem? hq
          obtain ⟨hqp, hqg⟩ := kl2 q hqm
          have hnot : q.1 ∉ (kl.take i).map (·.1) := fun hm => by
            have h2 : (kl.map (·.1))[i]? = some q.1 := by rw [List.getElem?_map, hq]; rfl
            rw [List.map_take] at hm
            obtain ⟨x, hx⟩ := List.getElem?_of_mem hm
            rw [List.getElem?_take] at hx
            split at hx
            · rename_i hlt
              have := ix_inj kl1 hx h2
              omega
            · cases hx
          have mR3 := hL3 _ (hl_er hk0 mR (nl _ _ mR))
          have sq := fin_s2 ft su hs6 n2 hpn q.1
          refine ⟨_, eg_two, ?_⟩
          refine go_last (gq_new (en_lc2Y (i := 13) (j := 14) (v := plD q.2) (by decide) (ei_zip (ea_cons (ev_var rfl) (ea_cons (ev_op (ev_var rfl) (ev_var rfl) (rv_ixL (.inl mR3) (atN (resD_get hqp)))) ea_nil)) (.lst (.inl mb)) (.tup _)) (fun _ => ⟨.inl (List.mem_cons_of_mem _ mb), trivial⟩) (fun d hd => ?_) (by rw [prs_len, kn_len, kn_len]; omega)) fun b' => ?_)
          · obtain ⟨o, ho, rfl⟩ := kn_prs_of hd
            have s1 : Sm (F i (n + o)) := by rw [hF]; exact S4.sm (part_sz ft su hs6 n2 o hpn _)
            have s2 : S2 (Xf n M q.1 (n + o)) := by rw [hX]; exact X_s2 ft su hs6 n2 o (by omega)
            refine ⟨_, _, rfl, EvP.cast (ev_call (ea_cons (ev_var rfl) (ea_cons (ev_call (ea_cons (ev_var rfl) (ea_cons (ev_var rfl) ea_nil)) ⟨q.2, Xf n M q.1 (n + o), rfl, by rw [hqg]; exact sq.sm, s2.sm, rfl⟩) ea_nil)) ⟨F i (n + o), q.2 * Xf n M q.1 (n + o), rfl, s1, by rw [hqg]; exact s2_mul sq s2, rfl⟩) ?_⟩
            show _ = fr (unfr (fr (F i (n + o))) + q.2 * unfr (fr (Xf n M q.1 (n + o))))
            rw [unfr_fr, unfr_fr]
          · rw [kn_prs (h := F (i + 1)) fun o ho => ?_]
            · exact go_next ⟨_, _, b', rfl, List.mem_cons_self, fun q hq => List.mem_cons_of_mem _ (hL3 q hq)⟩
            · show fr (unfr (fr (F i (n + o))) + q.2 * unfr (fr (Xf n M q.1 (n + o)))) = _
              have st := part_step (b := fun c => decide (c ∈ (kl.take i).map (·.1))) (b' := fun c => decide (c ∈ (kl.take (i + 1)).map (·.1))) (n := n) (M := M) (o := o) hqp (decide_eq_false hnot) fun x => by
                have ht : kl.take (i + 1) = kl.take i ++ [q] := by rw [List.take_succ, hq]; rfl
                rw [ht, List.map_append, Bool.eq_iff_iff]
                simp only [List.mem_append, Bool.or_eq_true, decide_eq_true_iff]
                exact or_congr Iff.rfl ⟨fun h => List.mem_singleton.mp h, fun h => List.mem_singleton.mpr h⟩
              rw [unfr_fr, unfr_fr, hF, hF, hX, hqg, st]
        · obtain ⟨v11, v12, b, rfl, mb, hL3⟩ := hI
          have hl : (itms (enc kl)).length = kl.length := by rw [itms_enc, List.length_map]
          refine ⟨_, _, b, rfl, List.mem_cons_of_mem _ ?_, fun q hq => ?_⟩
          · rw [kn_congr (f := Xf n M p) (g := F (itms (enc kl)).length) fun o ho => ?_]
            · exact mb
            · rw [hX, hF, hl, List.take_length, X_eq n M o hpn]
              unfold part
              congr 1
              refine sm_congr fun c hc => ?_
              by_cases h : c ∈ kl.map (·.1)
              · rw [if_pos (decide_eq_true h)]
              · rw [if_neg (show ¬ decide (c ∈ kl.map (·.1)) = true by rw [decide_eq_false h]; exact Bool.false_ne_true), kl3 c (by omega) h, Rat.zero_mul]
          · by_cases hqa : q.1 = a0
            · have : q.2 = .dct (enc kl) := hl_inj hnd2 (show (a0, q.2) ∈ L2 by rw [← hqa]; exact hq) m0
              rw [← hqa, ← this]
              exact List.mem_cons_self
            · exact List.mem_cons_of_mem _ (hL3 q (hl_er (u := q.2) hk0 hq hqa))
      · obtain ⟨v11, v12, b, rfl, mb, hL3⟩ := hM3
        obtain ⟨kR, hkR⟩ := List.getElem?_of_mem (hL3 _ mR)
        refine go_last (gq_append hkR (ev_var rfl) (ev_cb (ea_cons (ev_var rfl) ea_nil) (rc_tupL (.inl mb))) (by rw [resD_len]; omega) ?_)
        rw [resD_succ]
        exact go_next ⟨_, _, _, _, _, _, _, rfl, hl_put hkR, fun q hq => hl_keep (u := q.2) hkR (hL3 q (hL q hq)) (hR q hq)⟩
    · obtain ⟨v3, v7, v8, v9, v10, v11, v12, rfl, mR, hL⟩ := hI
      rw [rngD_len, hlt, Int.toNat_natCast] at mR
      exact gq_ret (P := fun d N => d = .ref Rr ∧ N = []) ((ev_var rfl).nw ⟨rfl, rfl⟩) fun d N e => by
        obtain ⟨rfl, rfl⟩ := e
        exact ⟨[(Rr, .lst (resD n m M n))], List.singleton_sublist.mpr mR, Rr, rfl, rfl⟩
end
end Fc

namespace Fc
open PySem PySem.Spec PyProof.Rows L2
/-! ## words -/
def stepT (t : List Rw) (x s : Nat) : Nat := match t[x]? with
  | some (.go l) => l.getD s 0
  | _ => x
def isGo (t : List Rw) (x : Nat) : Bool := match t[x]? with
  | some (.go _) => true
  | _ => false
def wk (t : List Rw) (x : Nat) (w : List Nat) : Nat := w.foldl (stepT t) x
def wlen (t : List Rw) (x : Nat) (w : List Nat) : Nat := match w with
  | [] => 0
  | s :: r => (if isGo t x then 1 else 0) + wlen t (stepT t x s) r
def pths (t : List Rw) : Nat → List Nat → List Nat
  | x, [] => [x]
  | x, s :: r => x :: pths t (stepT t x s) r
def decd (t : List Rw) : Nat → List Nat → Bool
  | _, [] => false
  | x, s :: r => if isGo t x then decd t (stepT t x s) r else true
theorem wk_append (t : List Rw) (x : Nat) (w v : List Nat) : wk t x (w ++ v) = wk t (wk t x w) v := by unfold wk; rw [List.foldl_append]
theorem wk_snoc (t : List Rw) (x : Nat) (w : List Nat) (s : Nat) : wk t x (w ++ [s]) = stepT t (wk t x w) s := by rw [wk_append]; rfl
theorem wlen_snoc (t : List Rw) : ∀ (w : List Nat) (x s : Nat), wlen t x (w ++ [s]) = wlen t x w + if isGo t (wk t x w) then 1 else 0
  | [], x, s => by show (if isGo t x then 1 else 0) + 0 = 0 + _; rw [Nat.add_zero, Nat.zero_add]; rfl
  | a :: r, x, s => by
    show (if isGo t x then 1 else 0) + wlen t (stepT t x a) (r ++ [s]) = (if isGo t x then 1 else 0) + wlen t (stepT t x a) r + _
    rw [wlen_snoc t r (stepT t x a) s, Nat.add_assoc]
    rfl
theorem pths_snoc (t : List Rw) : ∀ (w : List Nat) (x s : Nat), pths t x (w ++ [s]) = pths t x w ++ [stepT t (wk t x w) s]
  | [], x, s => rfl
  | a :: r, x, s => by
    show x :: pths t (stepT t x a) (r ++ [s]) = x :: (pths t (stepT t x a) r ++ _)
    rw [pths_snoc t r (stepT t x a) s]
    rfl
theorem pths_len (t : List Rw) : ∀ (w : List Nat) (x : Nat), (pths t x w).length = w.length + 1
  | [], x => rfl
  | a :: r, x => by show (pths t (stepT t x a) r).length + 1 = _; rw [pths_len t r]; rfl
theorem pths_last (t : List Rw) (x : Nat) (w : List Nat) : (pths t x w).getLast? = some (wk t x w) := by
  rcases List.eq_nil_or_concat w with rfl | ⟨r, s, rfl⟩
  · rfl
  · rw [List.concat_eq_append, pths_snoc, List.getLast?_concat, wk_snoc]
theorem decd_append (t : List Rw) : ∀ (w v : List Nat) (x : Nat), decd t x (w ++ v) = (decd t x w || decd t (wk t x w) v)
  | [], v, x => by show decd t x v = (false || decd t x v); rw [Bool.false_or]
  | a :: r, v, x => by
    show (if isGo t x then decd t (stepT t x a) (r ++ v) else true) = ((if isGo t x then decd t (stepT t x a) r else true) || decd t (wk t (stepT t x a) r) v)
    cases isGo t x with
    | true => exact decd_append t r v (stepT t x a)
    | false => rfl
theorem step_lt {s many : Nat} {t : List Rw} (T : Tb s many t) {x y : Nat} (h : x < t.length) : stepT t x y < t.length := by
  unfold stepT
  cases e : t[x]? with
  | none => exact h
  | some r =>
    cases r with
    | fin o => exact h
    | go l =>
      show l.getD y 0 < t.length
      rw [List.getD_eq_getElem?_getD]
      cases hy : l[y]? with
      | none => exact T.n1
      | some z => exact (T.go x l e).2 z (List.mem_of_getElem? hy)
theorem wk_lt {s many : Nat} {t : List Rw} (T : Tb s many t) : ∀ {w : List Nat} {x : Nat}, x < t.length → wk t x w < t.length
  | [], _, h => h
  | _ :: r, _, h => wk_lt T (w := r) (step_lt T h)
theorem row_at {t : List Rw} {x : Nat} (h : x < t.length) : ∃ r, t[x]? = some r := ⟨t[x], List.getElem?_eq_getElem h⟩
theorem isGo_eq {t : List Rw} {x : Nat} {r : Rw} (h : t[x]? = some r) : isGo t x = isTup (rwD r) := by
  unfold isGo
  rw [h]
  cases r <;> rfl
theorem nD_last {l : List Nat} {x : Nat} (h : l.getLast? = some x) : (nD l).getLast? = some (.int (x : Int)) := by unfold nD; rw [List.getLast?_map, h]; rfl
theorem nD_app (a b : List Nat) : nD a ++ nD b = nD (a ++ b) := by unfold nD; rw [List.map_append]
theorem Stt.perm {K : PySem.W.Frag} {H0 H : Hp} {G : Ga} {L L' : Hl} {σ : L2.St} (h : Stt K H0 G L σ H) (p : L.Perm L') : Stt K H0 G L' σ H :=
  ⟨⟨h.hs.ext, fun q hq => h.hs.own q (p.mem_iff.mpr hq), (p.map _).nodup_iff.mp h.hs.nd, fun q hq => h.hs.new q (p.mem_iff.mpr hq)⟩, h.vr⟩
theorem go_perm {K : PySem.W.Frag} {H0 : Hp} {G : Ga} {L L' : Hl} {ts : TS} {p : Po} (q : L.Perm L') (h : Go K H0 G L' ts p) : Go K H0 G L ts p := fun T σ H E t st s => h T σ H E t (st.perm q) s
theorem cut_last (ds : List D) (x : D) : cutD (ds ++ [x]) none (some (-1)) = ds := by
  have e : HT.sIx (ds ++ [x]).length (ds ++ [x]).length (some (-1)) = ds.length := by
    rw [List.length_append, List.length_singleton]
    show (if (-1 : Int) < 0 then ((-1 : Int) + ((ds.length + 1 : Nat) : Int)).toNat else min (-1 : Int).toNat (ds.length + 1)) = ds.length
    rw [if_pos (by decide)]
    omega
  unfold cutD
  rw [e]
  show ((ds ++ [x]).drop 0).take (ds.length - 0) = ds
  rw [List.drop_zero, Nat.sub_zero, List.take_left]
theorem eqv_nil (w : List Nat) : PyData.eqv (.tuple (w.map fun (x : Nat) => PyData.int (x : Int))) (.tuple []) = decide (w = []) := by
  cases w with
  | nil => simp [PyData.eqv, PyData.eqvAll]
  | cons a r => simp [PyData.eqv, PyData.eqvAll]
theorem shaped_ints (w : List Nat) : SeqAt.shaped (.tuple (w.map fun (x : Nat) => PyData.int (x : Int))) = true := by
  have h1 : PyData.canLayAll0 (w.map fun (x : Nat) => PyData.int (x : Int)) = true := by
    induction w with
    | nil => rfl
    | cons a r ih => simp [PyData.canLayAll0, PyData.canLay0, ih]
  have h2 : PyData.depthAll (w.map fun (x : Nat) => PyData.int (x : Int)) ≤ 60 := by
    induction w with
    | nil => simp [PyData.depthAll]
    | cons a r ih => simp [PyData.depthAll, PyData.depth, ih (by simpa [PyData.canLayAll0, PyData.canLay0] using h1)]
  unfold SeqAt.shaped
  rw [Bool.and_eq_true]
  exact ⟨by simpa [PyData.canLay0] using h1, by simp [PyData.depth]; omega⟩
theorem dp_ints {K : PySem.W.Frag} {H : Hp} : ∀ {w : List Nat} {vs : List V}, ImL K H vs (nD w) → DpAll K H vs (w.map fun (x : Nat) => PyData.int (x : Int))
  | [], _, .nil => .nil
  | _ :: _, _, .cons r t => by cases r; exact .cons (.int _) (dp_ints t)
theorem rv_eqE {K : PySem.W.Frag} {H0 : Hp} {L : Hl} (w : List Nat) : RvP K H0 L (rEqD K) (.tup (nD w)) (.tup []) (.bl (decide (w = []))) := fun H u v s h1 h2 Q q => by
  cases h1 with
  | tup a1 i1 =>
    cases h2 with
    | tup a2 i2 =>
      cases i2
      refine ⟨_, .tuple [], .tup a1 (dp_ints i1), .tup a2 .nil, shaped_ints w, shaped_ints [], ?_⟩
      rw [eqv_nil]
      exact q _ H (Same.refl H) (.bl _)
theorem rv_neE {K : PySem.W.Frag} {H0 : Hp} {L : Hl} (w : List Nat) : RvP K H0 L (rNeD K) (.tup (nD w)) (.tup []) (.bl (!decide (w = []))) := fun H u v s h1 h2 Q q => by
  cases h1 with
  | tup a1 i1 =>
    cases h2 with
    | tup a2 i2 =>
      cases i2
      refine ⟨_, .tuple [], .tup a1 (dp_ints i1), .tup a2 .nil, shaped_ints w, shaped_ints [], ?_⟩
      rw [eqv_nil]
      exact q _ H (Same.refl H) (.bl _)
def isNon : D → Bool | .non => true | _ => false
theorem im_non {K : PySem.W.Frag} {H : Hp} {v : V} {d : D} (i : Im K H v d) : decide (v = .non) = isNon d := by
  cases i <;> first | exact decide_eq_true rfl | exact decide_eq_false (fun h => nomatch h)
theorem ev_isN {K : PySem.W.Frag} {H0 : Hp} {G : Ga} {L : Hl} {te : TE} {d : D} (h : EvP K H0 G L te d) : EvP K H0 G L (tIsN te) (.bl (isNon d)) := fun σ H st Q q => h σ H st _ fun v H' e i => by
  rw [im_non i]
  exact q _ H' e (.bl _)
theorem ev_notN {K : PySem.W.Frag} {H0 : Hp} {G : Ga} {L : Hl} {te : TE} {d : D} (h : EvP K H0 G L te d) : EvP K H0 G L (tNotN te) (.bl (!isNon d)) := fun σ H st Q q => h σ H st _ fun v H' e i => by
  rw [im_non i]
  exact q _ H' e (.bl _)
/-! ## the objects -/
abbrev chF (s m : Nat) (t : List Rw) (ans : Addr) : List (Str × D) := [("side_count", .int (s : Int)), ("outcome_count", .int (m : Int)), ("rows", tbD t), ("answers", .ref ans)]
abbrev fzF (s : Nat) (t : List Rw) (ans : Addr) : List (Str × D) := [("side_count", .int (s : Int)), ("rows", tbD t), ("answers", .ref ans)]
abbrev hdF (t : List Rw) (fz : Addr) (w : List Nat) : List (Str × D) := [("course", .ref fz), ("line", .tup (nD w)), ("path", .tup (nD (pths t 0 w)))]
/-- the chances behind state i -/
def chs (s m : Nat) (t : List Rw) (i : Nat) : D := .tup (cutD (kn t.length m (Xf t.length (tabM s m t) i)) none (some (-1)))
structure ClsA (K : PySem.W.Frag) (C : Addr) (fs : List Str) : Prop where
  cls : Cls K C
  no : ∀ f ∈ fs, NoAttr K C f
/-- the classes -/
structure Kl (K : PySem.W.Frag) (CC CF CH : Addr) : Prop where
  ch : ClsA K CC ["side_count", "outcome_count", "rows", "answers"]
  fz : ClsA K CF ["side_count", "rows", "answers"]
  hd : ClsA K CH ["course", "line", "path"]
end Fc

namespace Fc
open PySem PySem.Spec PyProof.Rows L2
abbrev s_is_word : Stmt := top 53
theorem sc_is_word : FnScope ["sides", "value", "side"] ["sides", "value"] (defScope s_is_word) := ⟨rfl, rfl, rfl, by decide +kernel, rfl, by decide +kernel, by decide +kernel⟩
abbrev s_Chooser_set_rows : Stmt := inClass (top 55) 2
theorem sc_Chooser_set_rows : FnScope ["self", "sides", "many", "table"] ["self", "sides", "many", "table"] (defScope s_Chooser_set_rows) := ⟨rfl, rfl, rfl, by decide +kernel, rfl, by decide +kernel, by decide +kernel⟩
abbrev s_Chooseru_initu : Stmt := inClass (top 55) 1
theorem sc_Chooseru_initu : FnScope ["self", "sides", "many", "table"] ["self", "sides", "many", "table"] (defScope s_Chooseru_initu) := ⟨rfl, rfl, rfl, by decide +kernel, rfl, by decide +kernel, by decide +kernel⟩
abbrev s_Chooser_walked : Stmt := inClass (top 55) 9
theorem sc_Chooser_walked : FnScope ["self", "word", "side", "state", "length"] ["self", "word"] (defScope s_Chooser_walked) := ⟨rfl, rfl, rfl, by decide +kernel, rfl, by decide +kernel, by decide +kernel⟩
abbrev s_Chooser_after : Stmt := inClass (top 55) 11
theorem sc_Chooser_after : FnScope ["self", "word"] ["self", "word"] (defScope s_Chooser_after) := ⟨rfl, rfl, rfl, by decide +kernel, rfl, by decide +kernel, by decide +kernel⟩

def S_isword : FS := fun _ ds R => ∃ (s : Nat) (w : List Nat), ds = [.int (s : Int), .tup (nD w)] ∧ (∀ x ∈ w, x < s) ∧ w.length ≤ 1000 ∧ R = Val (.bl true)
def S_setrows (CC : Addr) : FX := fun Y Z ds o => ∃ (x C dx : Addr) (s m : Nat) (t : List Rw) (d : Nat → Nat), ds = [.ref x, .int (s : Int), .int (m : Int), tbD t] ∧ Y = [(x, .ins C dx [])] ∧ C = CC ∧ Tb s m t ∧ Rk t d ∧ o = .ret (fun r N => r = .non ∧ ∃ ans, N = [(x, .ins C dx (chF s m t ans)), (ans, .lst (ansD s m t))])
def S_chinit (CC : Addr) : FX := fun Y Z ds o => ∃ (x C dx : Addr) (s m : Nat) (t : List Rw) (d : Nat → Nat), ds = [.ref x, .int (s : Int), .int (m : Int), tbD t] ∧ Y = [(x, .ins C dx [])] ∧ C = CC ∧ Tb s m t ∧ Rk t d ∧ (∀ i, i < t.length → Ra t 0 i) ∧ o = .ret (fun r N => r = .non ∧ ∃ ans, N = [(x, .ins C dx (chF s m t ans)), (ans, .lst (ansD s m t))])
def S_walked (CC : Addr) : FX := fun Y Z ds o => ∃ (c dx ans : Addr) (s m : Nat) (t : List Rw) (w : List Nat), ds = [.ref c, .tup (nD w)] ∧ Y = [] ∧ Z = [(c, .ins CC dx (chF s m t ans))] ∧ Tb s m t ∧ (∀ x ∈ w, x < s) ∧ w.length ≤ 1000 ∧ o = .ret (Val (.tup [.int (wk t 0 w : Int), .int (wlen t 0 w : Int)]))
def S_after (CC : Addr) : FX := fun Y Z ds o => ∃ (c dx ans : Addr) (s m : Nat) (t : List Rw) (w : List Nat), ds = [.ref c, .tup (nD w)] ∧ Y = [] ∧ Z = [(c, .ins CC dx (chF s m t ans)), (ans, .lst (ansD s m t))] ∧ Tb s m t ∧ (∀ x ∈ w, x < s) ∧ w.length ≤ 1000 ∧ o = .ret (Val (chs s m t (wk t 0 w)))
theorem nD_mem {l : List Nat} {d : D} (h : d ∈ nD l) : ∃ x ∈ l, d = .int (x : Int) := by
  obtain ⟨x, hx, rfl⟩ := List.mem_map.mp h
  exact ⟨x, hx, rfl⟩
theorem ans_get {s m : Nat} {t : List Rw} {i : Nat} (h : i < t.length) : (ansD s m t)[i]? = some (.tup (kn t.length m (Xf t.length (tabM s m t) i))) := resD_get h
section
variable {P : Program} {w : World} {K : PySem.W.Frag} {mg : Str → Option Value} {base : Heap} {CC CF CH SE DE NE : Addr}
theorem ok_is_word (B : Bl mg) (F : FunG K mg "is_word" s_is_word) (hB : Pf P w K mg base "is_between" 2 S_between) : Pf P w K mg base "is_word" 3 S_isword := by
  refine pf_mk F sc_is_word (fun _ _ _ _ _ _ us hl => match us, hl with | [_, _], _ => rfl) (fun Z ds R h => by obtain ⟨s, w, rfl, _⟩ := h; rfl) (fun f cdv A outer s H E hr => ⟨_, (pss_cons (ps_ret (pe_and (pe_isi (K := K) rfl rfl B rfl (pa_cons (pv 1) (pa_cons (pe_tyT rfl B rfl) pa_nil))) (pe_one (pe_all (K := K) rfl rfl B rfl rfl (pa_cons (pe_lc (own := [("side", 2)]) (g := gName 2) rfl sc_is_word.nd (pi_tupK (K := K) rfl (pv 1)) (blkOk_by (own := [("side", 2)]) (N := ["sides", "value", "side"]) (sc := defScope (s_is_word)) (by decide +kernel)) (fun _ _ _ _ _ => (pg_name (i := 2) sc_is_word.nd rfl (.inl rfl))) (fun _ _ _ _ _ => pts_nil) (fun _ _ _ _ _ => (pe_pf hB hr (by decide) rfl (pa_cons (pv 2) (pa_cons pe_int (pa_cons (pe_op op_sub (pv 0) pe_int) pa_nil)))))) pa_nil))))) pss_nil), fun Z ds R H0 hz hS => ?_⟩)
  obtain ⟨s, w, rfl, hw, hl, rfl⟩ := hS
  refine gq_retP (EvP.cast (ev_andV (b := true) (c := true) (ev_isTupB (ev_var rfl) rfl rfl) (fun _ => EvP.cast (ev_allN (f := fun _ => true) (v := fun _ => .bl true) (en_lcY (v := fun _ => .bl true) (ei_tup (ev_var rfl)) (fun _ => trivial) (fun d hd => ?_) (by rw [nD_len]; omega)) (fun _ _ => rfl)) ?_)) rfl) rfl
  · obtain ⟨x, hx, rfl⟩ := nD_mem hd
    have := hw x hx
    refine EvP.cast (ev_call (ea_cons (ev_var rfl) (ea_cons ev_int (ea_cons (ev_op (ev_var rfl) ev_int rv_sub) ea_nil))) ⟨(x : Int), 0, (s : Int) - 1, rfl, rfl⟩) ?_
    rw [decide_eq_true ⟨by omega, by omega⟩]
  · congr 1
    exact List.all_eq_true.mpr fun _ _ => rfl
theorem ok_Chooser_set_rows (B : Bl mg) (F : MethG K CC "set_rows" "Chooser.set_rows" s_Chooser_set_rows) (Kc : Kl K CC CF CH) (hSo : Pf P w K mg base "solved" 5 S_solved) : Px P w K mg base CC "set_rows" 6 (S_setrows CC) := by
  refine px_mk F sc_Chooser_set_rows (fun _ _ _ _ _ _ us hl => match us, hl with | [_, _, _, _], _ => rfl) (fun Y Z ds o h => by obtain ⟨x, C, dx, s, m, t, d, rfl, _⟩ := h; rfl) (fun f cdv A outer s H E hr => ⟨_, (pss_cons (ps_fldK (K := K) rfl (pv 0) (pv 1) rfl) (pss_cons (ps_fldK (K := K) rfl (pv 0) (pv 2) rfl) (pss_cons (ps_fldK (K := K) rfl (pv 0) (pv 3) rfl) (pss_cons (ps_fldK (K := K) rfl (pv 0) (pe_pf hSo hr (by decide) rfl (pa_cons (pv 1) (pa_cons (pv 2) (pa_cons (pv 3) pa_nil)))) rfl) pss_nil)))), fun Y Z ds o H0 hY hz hS hE => ?_⟩)
  obtain ⟨x, C, dx, s, m, t, d, rfl, rfl, rfl, T, rk, rfl⟩ := hS
  have no := Kc.ch.no
  refine gq_fld (k := 0) (ev_var rfl) (ev_var rfl) rfl Kc.ch.cls (no _ (by simp)) (by decide) ?_
  refine gq_fld (k := 0) (ev_var rfl) (ev_var rfl) rfl Kc.ch.cls (no _ (by simp)) (by show 1 < 1000; decide) ?_
  refine gq_fld (k := 0) (ev_var rfl) (ev_var rfl) rfl Kc.ch.cls (no _ (by simp)) (by show 2 < 1000; decide) ?_
  refine gq_fldN (k := 0) (en_call (ea_cons (ev_var rfl) (ea_cons (ev_var rfl) (ea_cons (ev_var rfl) ea_nil))) ⟨s, m, t, d, rfl, T, rk, rfl⟩ noZ) (ev_var rfl) rfl Kc.ch.cls (no _ (by simp)) (by show 3 < 1000; decide) fun e N hN => ?_
  obtain ⟨ans, rfl, rfl⟩ := hN
  exact go_perm (List.Perm.swap _ _ _) (go_next ⟨rfl, ans, rfl⟩)
theorem ok_Chooseru_initu (B : Bl mg) (F : MakeG K mg "Chooser" CC "Chooser.__init__" s_Chooseru_initu) (Kc : Kl K CC CF CH) (hCs : Pf P w K mg base "check_sides" 3 S_sides) (hCm : Pf P w K mg base "check_many" 3 S_many) (hIt : Pf P w K mg base "is_table_by" 4 S_istab) (hSr : Px P w K mg base CC "set_rows" 6 (S_setrows CC)) : Pk P w K mg base "Chooser" CC 7 (S_chinit CC) := by
  refine pk_mk F sc_Chooseru_initu (fun _ _ _ _ _ _ us hl => match us, hl with | [_, _, _, _], _ => rfl) (fun Y Z ds o h => by obtain ⟨x, C, dx, s, m, t, d, rfl, _⟩ := h; rfl) (fun f cdv A outer s H E hr => ⟨_, (pss_cons (ps_expr (pe_pf hCs hr (by decide) rfl (pa_cons (pv 1) pa_nil))) (pss_cons (ps_expr (pe_pf hCm hr (by decide) rfl (pa_cons (pv 2) pa_nil))) (pss_cons (ps_if (pt_not (pt_val (pe_pf hIt hr (by decide) rfl (pa_cons (pv 1) (pa_cons (pv 2) (pa_cons (pv 3) pa_nil)))))) pss_never pss_nil) (pss_cons (ps_expr (pe_mx hSr Kc.ch.cls hr (by decide) passL (pv 0) (pa_cons (pv 1) (pa_cons (pv 2) (pa_cons (pv 3) pa_nil))))) pss_nil)))), fun Y Z ds o H0 hY hz hS hE => ?_⟩)
  obtain ⟨x, C, dx, s, m, t, d, rfl, rfl, rfl, T, rk, ra, rfl⟩ := hS
  have s1 := T.s1
  have s2 := T.s2
  have m1 := T.m1
  have m2 := T.m2
  refine gq_drop (ev_call (ea_cons (ev_var rfl) ea_nil) ⟨(s : Int), rfl, by omega, by omega, rfl⟩) ?_
  refine gq_drop (ev_call (ea_cons (ev_var rfl) ea_nil) ⟨(m : Int), rfl, by omega, by omega, rfl⟩) ?_
  refine gq_ifL (b := false) (et_not (tt := tB _) (et_B (b := true) (ev_call (ea_cons (ev_var rfl) (ea_cons (ev_var rfl) (ea_cons (ev_var rfl) ea_nil))) ⟨s, m, t, d, rfl, T, rk, ra, rfl⟩))) (fun h => by cases h) (fun _ => ?_)
  refine gq_dropM (em_mx (k := 0) (ev_var rfl) rfl rfl (ea_cons (ev_var rfl) (ea_cons (ev_var rfl) (ea_cons (ev_var rfl) ea_nil))) ⟨x, C, dx, s, m, t, d, rfl, rfl, rfl, T, rk, rfl⟩ noZ (fun d N h => by obtain ⟨_, ans, rfl⟩ := h; exact ⟨_, _, rfl⟩)) fun e L' hL => ?_
  obtain ⟨o', N', ⟨_, ans, h⟩, rfl⟩ := hL
  cases h
  exact go_perm (List.Perm.swap _ _ _) (go_next ⟨rfl, ans, rfl⟩)
theorem ok_Chooser_walked (B : Bl mg) (F : MethG K CC "walked" "Chooser.walked" s_Chooser_walked) (Kc : Kl K CC CF CH) : Px P w K mg base CC "walked" 1 (S_walked CC) := by
  refine px_mk F sc_Chooser_walked (fun _ _ _ _ _ _ us hl => match us, hl with | [_, _], _ => rfl) (fun Y Z ds o h => by obtain ⟨c, dx, ans, s, m, t, w, rfl, _⟩ := h; rfl) (fun f cdv A outer s H E hr => ⟨_, (pss_cons (ps_asg (pe_tup (pa_cons pe_int (pa_cons pe_int pa_nil))) (pg_tupK (K := K) rfl rfl (pgs_cons (pg_name (i := 3) sc_Chooser_walked.nd rfl (.inl rfl)) (pgs_cons (pg_name (i := 4) sc_Chooser_walked.nd rfl (.inl rfl)) pgs_nil)))) (pss_cons (ps_for (passes_of rfl) rfl (pi_tupK (K := K) rfl (pv 1)) (pg_name (i := 2) sc_Chooser_walked.nd rfl (.inl rfl)) (pss_cons (ps_if (pt_val (pe_isi (K := K) rfl rfl B rfl (pa_cons (pe_ixT (K := K) rfl (pe_fldK (K := K) rfl (pv 0) rfl) (pv 3) (fun _ _ => rfl)) (pa_cons (pe_tyT rfl B rfl) pa_nil)))) (pss_cons (ps_set (i := 3) sc_Chooser_walked.nd rfl (.inl rfl) (pe_ixT (K := K) rfl (pe_ixT (K := K) rfl (pe_fldK (K := K) rfl (pv 0) rfl) (pv 3) (fun _ _ => rfl)) (pv 2) (fun _ _ => rfl))) (pss_cons (ps_aug (i := 4) sc_Chooser_walked.nd rfl (.inl rfl) pe_int ip_add) pss_nil)) pss_nil) pss_nil)) (pss_cons (ps_ret (pe_tup (pa_cons (pv 3) (pa_cons (pv 4) pa_nil)))) pss_nil))), fun Y Z ds o H0 hY hz hS hE => ?_⟩)
  obtain ⟨c, dx, ans, s, m, t, w, rfl, rfl, rfl, T, hw, hl, rfl⟩ := hS
  have lk : ∀ L, Lk K H0 L c (.ins CC dx (chF s m t ans)) := fun L => .inr (hz _ List.mem_cons_self)
  have rows : ∀ {G : Ga} {L : Hl}, G[0]? = some (some (.ref c)) → EvP K H0 G L (tFld K (tVar 0) "rows") (tbD t) := fun h => ev_fld (ev_var h) (lk _) Kc.ch.cls (Kc.ch.no _ (by simp)) rfl
  refine gq_asg (ev_tup (ea_cons ev_int (ea_cons ev_int ea_nil)) (by show 2 ≤ 100000; decide)) eg_two ?_
  refine gq_for0 (ds := nD w) (ei_tup (ev_var rfl)) (fun i G L => ∃ v, G = [some (.ref c), some (.tup (nD w)), v, some (.int (wk t 0 (w.take i) : Int)), some (.int (wlen t 0 (w.take i) : Int))] ∧ L = []) ⟨none, rfl, rfl⟩ (fun _ _ _ _ => trivial) (fun i d G L hd hI => ?_) (fun G L hI => ?_)
  · obtain ⟨v, rfl, rfl⟩ := hI
    obtain ⟨x, hx, rfl⟩ := nD_of hd
    have hlt : wk t 0 (w.take i) < t.length := wk_lt T T.n1
    obtain ⟨r, hr'⟩ := row_at hlt
    have e1 : w.take (i + 1) = w.take i ++ [x] := by rw [List.take_succ, hx]; rfl
    have e2 := wk_snoc t 0 (w.take i) x
    have e3 := wlen_snoc t (w.take i) 0 x
    rw [isGo_eq hr'] at e3
    refine ⟨_, eg_name, ?_⟩
    refine gq_if2 (et_B (ev_isTup (ev_op (rows rfl) (ev_var rfl) (rv_ixT (atN (tb_get hr')))) (tyn_rw r))) (fun hb => ?_) (fun hb => ?_)
    · cases r with
      | fin o => cases hb
      | go l =>
        have hxl : x < l.length := by rw [(T.go _ l hr').1]; exact hw x (List.mem_of_getElem? hx)
        have hst : stepT t (wk t 0 (w.take i)) x = l[x] := by
          unfold stepT
          rw [hr']
          show l.getD x 0 = _
          rw [List.getD_eq_getElem?_getD, List.getElem?_eq_getElem hxl]
          rfl
        refine gq_assoc (gq_set (d := .int ((wk t 0 (w.take (i + 1)) : Nat) : Int)) (ev_op (ev_op (rows rfl) (ev_var rfl) (rv_ixT (atN (tb_get hr')))) (ev_var rfl) (rv_ixT (atN (by rw [e1, e2, hst]; exact nD_get (List.getElem?_eq_getElem hxl))))) ?_)
        refine gq_assoc (gq_aug (a := (wlen t 0 (w.take i) : Int)) (c := 1) rfl ev_int (gq_nil (gq_nil (go_next ⟨some (.int (x : Int)), ?_, rfl⟩))))
        rw [e1, e3]
        rfl
    · cases r with
      | go l => cases hb
      | fin o =>
        have hst : stepT t (wk t 0 (w.take i)) x = wk t 0 (w.take i) := by unfold stepT; rw [hr']
        refine gq_nil (gq_nil (go_next ⟨some (.int (x : Int)), ?_, rfl⟩))
        rw [e1, e2, e3, hst]
        rfl
  · obtain ⟨v, rfl, rfl⟩ := hI
    rw [nD_len, List.take_length]
    exact gq_retP (ev_tup (ea_cons (ev_var rfl) (ea_cons (ev_var rfl) ea_nil)) (by show 2 ≤ 100000; decide)) rfl
theorem ok_Chooser_after (B : Bl mg) (F : MethG K CC "after" "Chooser.after" s_Chooser_after) (Kc : Kl K CC CF CH) (hIw : Pf P w K mg base "is_word" 3 S_isword) (hWa : Px P w K mg base CC "walked" 1 (S_walked CC)) : Px P w K mg base CC "after" 4 (S_after CC) := by
  refine px_mk F sc_Chooser_after (fun _ _ _ _ _ _ us hl => match us, hl with | [_, _], _ => rfl) (fun Y Z ds o h => by obtain ⟨c, dx, ans, s, m, t, w, rfl, _⟩ := h; rfl) (fun f cdv A outer s H E hr => ⟨_, (pss_cons (ps_if (pt_not (pt_val (pe_pf hIw hr (by decide) rfl (pa_cons (pe_fldK (K := K) rfl (pv 0) rfl) (pa_cons (pv 1) pa_nil))))) pss_never pss_nil) (pss_cons (ps_ret (pe_slice (sl_tupK (K := K) rfl) (pe_ixL (K := K) rfl (pe_fldK (K := K) rfl (pv 0) rfl) (pe_ixT (K := K) rfl (pe_mx hWa Kc.ch.cls hr (by decide) passL (pv 0) (pa_cons (pv 1) pa_nil)) pe_int (fun _ _ => rfl)) (fun _ _ => rfl)) po_none (po_some (pe_un un_neg pe_int)))) pss_nil)), fun Y Z ds o H0 hY hz hS hE => ?_⟩)
  obtain ⟨c, dx, ans, s, m, t, w, rfl, rfl, rfl, T, hw, hl, rfl⟩ := hS
  have lk : ∀ L, Lk K H0 L c (.ins CC dx (chF s m t ans)) := fun L => .inr (hz _ List.mem_cons_self)
  have la : ∀ L, Lk K H0 L ans (.lst (ansD s m t)) := fun L => .inr (hz _ (List.mem_cons_of_mem _ List.mem_cons_self))
  refine gq_ifL (b := false) (et_not (tt := tB _) (et_B (b := true) (ev_call (ea_cons (ev_fld (ev_var rfl) (lk _) Kc.ch.cls (Kc.ch.no _ (by simp)) rfl) (ea_cons (ev_var rfl) ea_nil)) ⟨s, w, rfl, hw, hl, rfl⟩))) (fun h => by cases h) (fun _ => ?_)
  refine gq_retP (ev_slT (lo := none) (hi := some (-1)) (ev_op (ev_fld (ev_var rfl) (lk _) Kc.ch.cls (Kc.ch.no _ (by simp)) rfl) (ev_op (EvN.ev (en_mx (ev_var rfl) (lk _) (lookN rfl) (ea_cons (ev_var rfl) ea_nil) ⟨c, dx, ans, s, m, t, w, rfl, rfl, rfl, T, hw, hl, rfl⟩ (fun p hp => by rw [List.mem_singleton.mp hp]; exact lk _))) ev_int (rv_ixT (i := 0) rfl)) (rv_ixL (la _) (atN (ans_get (wk_lt T T.n1))))) eo_none (eo_some (ev_un1 ev_int))) rfl
end
abbrev s_Frozenu_initu : Stmt := inClass (top 25) 0
theorem sc_Frozenu_initu : FnScope ["self", "chooser"] ["self", "chooser"] (defScope s_Frozenu_initu) := ⟨rfl, rfl, rfl, by decide +kernel, rfl, by decide +kernel, by decide +kernel⟩
section
variable {P : Program} {w : World} {K : PySem.W.Frag} {mg : Str → Option Value} {base : Heap} {CC CF CH SE DE NE : Addr}
end
abbrev s_Handu_initu : Stmt := inClass (top 26) 0
theorem sc_Handu_initu : FnScope ["self", "chooser"] ["self", "chooser"] (defScope s_Handu_initu) := ⟨rfl, rfl, rfl, by decide +kernel, rfl, by decide +kernel, by decide +kernel⟩
section
variable {P : Program} {w : World} {K : PySem.W.Frag} {mg : Str → Option Value} {base : Heap} {CC CF CH SE DE NE : Addr}
end
abbrev s_Hand_word : Stmt := inClass (top 26) 1
theorem sc_Hand_word : FnScope ["self"] ["self"] (defScope s_Hand_word) := ⟨rfl, rfl, rfl, by decide +kernel, rfl, by decide +kernel, by decide +kernel⟩
section
variable {P : Program} {w : World} {K : PySem.W.Frag} {mg : Str → Option Value} {base : Heap} {CC CF CH SE DE NE : Addr}
end
abbrev s_Hand_state : Stmt := inClass (top 26) 2
theorem sc_Hand_state : FnScope ["self"] ["self"] (defScope s_Hand_state) := ⟨rfl, rfl, rfl, by decide +kernel, rfl, by decide +kernel, by decide +kernel⟩
section
variable {P : Program} {w : World} {K : PySem.W.Frag} {mg : Str → Option Value} {base : Heap} {CC CF CH SE DE NE : Addr}
end
abbrev s_Hand_outcome : Stmt := inClass (top 26) 3
theorem sc_Hand_outcome : FnScope ["self", "state"] ["self"] (defScope s_Hand_outcome) := ⟨rfl, rfl, rfl, by decide +kernel, rfl, by decide +kernel, by decide +kernel⟩
section
variable {P : Program} {w : World} {K : PySem.W.Frag} {mg : Str → Option Value} {base : Heap} {CC CF CH SE DE NE : Addr}
end
abbrev s_Hand_path_after : Stmt := inClass (top 26) 5
theorem sc_Hand_path_after : FnScope ["self", "word", "path", "side", "state"] ["self", "word"] (defScope s_Hand_path_after) := ⟨rfl, rfl, rfl, by decide +kernel, rfl, by decide +kernel, by decide +kernel⟩
section
variable {P : Program} {w : World} {K : PySem.W.Frag} {mg : Str → Option Value} {base : Heap} {CC CF CH SE DE NE : Addr}
end
abbrev s_Hand_throw : Stmt := inClass (top 26) 6
theorem sc_Hand_throw : FnScope ["self", "side"] ["self", "side"] (defScope s_Hand_throw) := ⟨rfl, rfl, rfl, by decide +kernel, rfl, by decide +kernel, by decide +kernel⟩
section
variable {P : Program} {w : World} {K : PySem.W.Frag} {mg : Str → Option Value} {base : Heap} {CC CF CH SE DE NE : Addr}
end
abbrev s_Hand_throw_all : Stmt := inClass (top 26) 7
theorem sc_Hand_throw_all : FnScope ["self", "word"] ["self", "word"] (defScope s_Hand_throw_all) := ⟨rfl, rfl, rfl, by decide +kernel, rfl, by decide +kernel, by decide +kernel⟩
section
variable {P : Program} {w : World} {K : PySem.W.Frag} {mg : Str → Option Value} {base : Heap} {CC CF CH SE DE NE : Addr}
end
abbrev s_Hand_undo : Stmt := inClass (top 26) 8
theorem sc_Hand_undo : FnScope ["self"] ["self"] (defScope s_Hand_undo) := ⟨rfl, rfl, rfl, by decide +kernel, rfl, by decide +kernel, by decide +kernel⟩
section
variable {P : Program} {w : World} {K : PySem.W.Frag} {mg : Str → Option Value} {base : Heap} {CC CF CH SE DE NE : Addr}
end
abbrev s_Hand_tried : Stmt := inClass (top 26) 9
theorem sc_Hand_tried : FnScope ["self", "word"] ["self", "word"] (defScope s_Hand_tried) := ⟨rfl, rfl, rfl, by decide +kernel, rfl, by decide +kernel, by decide +kernel⟩
section
variable {P : Program} {w : World} {K : PySem.W.Frag} {mg : Str → Option Value} {base : Heap} {CC CF CH SE DE NE : Addr}
end
def ocD (t : List Rw) (x : Nat) : D := match t[x]? with
  | some (.fin o) => .int (o : Int)
  | _ => .non
def duo (s : Nat) (t : List Rw) (w v : List Nat) (SE DE : Addr) (R : D → Hl → Prop) : Xo := if v.all (fun x => decide (x < s)) = true then (if decd t (wk t 0 w) v = true then .exc DE else .ret R) else .exc SE
def S_frinit (CC CF : Addr) : FX := fun Y Z ds o => ∃ (x C dx c cdx ans : Addr) (s m : Nat) (t : List Rw), ds = [.ref x, .ref c] ∧ Y = [(x, .ins C dx [])] ∧ C = CF ∧ Z = [(c, .ins CC cdx (chF s m t ans))] ∧ o = .ret (fun r N => r = .non ∧ N = [(x, .ins CF dx (fzF s t ans))])
def S_hdinit (CC CF CH : Addr) : FX := fun Y Z ds o => ∃ (x C dx c cdx ans : Addr) (s m : Nat) (t : List Rw), ds = [.ref x, .ref c] ∧ Y = [(x, .ins C dx [])] ∧ C = CH ∧ Z = [(c, .ins CC cdx (chF s m t ans))] ∧ o = .ret (fun r N => r = .non ∧ ∃ fz dz, N = [(x, .ins CH dx (hdF t fz [])), (fz, .ins CF dz (fzF s t ans))])
/-- a hand and what it holds -/
abbrev hdZ (CF CH h dx fz dz ans : Addr) (s : Nat) (t : List Rw) (w : List Nat) : Hl := [(h, .ins CH dx (hdF t fz w)), (fz, .ins CF dz (fzF s t ans))]
def S_hdget (CF CH : Addr) (g : List Rw → List Nat → D) : FX := fun Y Z ds o => ∃ (h dx fz dz ans : Addr) (s m : Nat) (t : List Rw) (w : List Nat), ds = [.ref h] ∧ Y = [] ∧ Z = hdZ CF CH h dx fz dz ans s t w ∧ Tb s m t ∧ o = .ret (Val (g t w))
def S_pa (CF CH SE DE : Addr) : FX := fun Y Z ds o => ∃ (h dx fz dz ans : Addr) (s m : Nat) (t : List Rw) (w v : List Nat), ds = [.ref h, .tup (nD v)] ∧ Y = [] ∧ Z = hdZ CF CH h dx fz dz ans s t w ∧ Tb s m t ∧ w.length + v.length ≤ 1000 ∧ o = duo s t w v SE DE (Val (.tup (nD (pths t 0 (w ++ v)))))
def S_ta' (CF CH SE DE : Addr) : FX := fun Y Z ds o => ∃ (h dx fz dz ans : Addr) (s m : Nat) (t : List Rw) (w v : List Nat), ds = [.ref h, .tup (nD v)] ∧ Y = [(h, .ins CH dx (hdF t fz w))] ∧ Z = [(fz, .ins CF dz (fzF s t ans))] ∧ Tb s m t ∧ w.length + v.length ≤ 1000 ∧ o = duo s t w v SE DE (fun d N => d = .non ∧ N = [(h, .ins CH dx (hdF t fz (w ++ v)))])
def S_ta (CF CH SE DE : Addr) : FX := fun Y Z ds o => ∃ (h dx fz dz ans : Addr) (s m : Nat) (t : List Rw) (w v : List Nat), ds = .ref h :: nD v ∧ Y = [(h, .ins CH dx (hdF t fz w))] ∧ Z = [(fz, .ins CF dz (fzF s t ans))] ∧ Tb s m t ∧ w.length + v.length ≤ 1000 ∧ o = duo s t w v SE DE (fun d N => d = .non ∧ N = [(h, .ins CH dx (hdF t fz (w ++ v)))])
def S_th (CF CH SE DE : Addr) : FX := fun Y Z ds o => ∃ (h dx fz dz ans : Addr) (s m : Nat) (t : List Rw) (w : List Nat) (x : Nat), ds = [.ref h, .int (x : Int)] ∧ Y = [(h, .ins CH dx (hdF t fz w))] ∧ Z = [(fz, .ins CF dz (fzF s t ans))] ∧ Tb s m t ∧ w.length + 1 ≤ 1000 ∧ o = duo s t w [x] SE DE (fun d N => d = .non ∧ N = [(h, .ins CH dx (hdF t fz (w ++ [x])))])
def S_un (CF CH NE : Addr) : FX := fun Y Z ds o => ∃ (h dx fz : Addr) (t : List Rw) (w : List Nat), ds = [.ref h] ∧ Y = [(h, .ins CH dx (hdF t fz w))] ∧ w.length ≤ 1000 ∧ o = (if w = [] then .exc NE else .ret (fun d N => d = .non ∧ N = [(h, .ins CH dx (hdF t fz w.dropLast))]))
def S_tr (CF CH SE DE : Addr) : FX := fun Y Z ds o => ∃ (h dx fz dz ans : Addr) (s m : Nat) (t : List Rw) (w v : List Nat), ds = [.ref h, .tup (nD v)] ∧ Y = [] ∧ Z = hdZ CF CH h dx fz dz ans s t w ++ [(ans, .lst (ansD s m t))] ∧ Tb s m t ∧ w.length + v.length ≤ 1000 ∧ o = duo s t w v SE DE (Val (chs s m t (wk t 0 (w ++ v))))
theorem oc_row {t : List Rw} {x : Nat} {r : Rw} (h : t[x]? = some r) : ocD t x = if isTup (rwD r) then .non else rwD r := by
  unfold ocD
  rw [h]
  cases r <;> rfl
theorem duo_pass {s : Nat} {t : List Rw} {w v : List Nat} {SE DE : Addr} {R : D → Hl → Prop} {X : Addr} (R' : D → Hl → Prop) (h : duo s t w v SE DE R = .exc X) : duo s t w v SE DE R' = .exc X := by
  unfold duo at h ⊢
  split at h
  · rename_i h1
    rw [if_pos h1]
    split at h
    · rename_i h2
      rw [if_pos h2]
      exact h
    · cases h
  · rename_i h1
    rw [if_neg h1]
    exact h
theorem duo_ret {s : Nat} {t : List Rw} {w v : List Nat} {SE DE : Addr} {R R0 : D → Hl → Prop} (R' : D → Hl → Prop) (h : duo s t w v SE DE R = .ret R0) : R = R0 ∧ duo s t w v SE DE R' = .ret R' := by
  unfold duo at h ⊢
  split at h
  · rename_i h1
    rw [if_pos h1]
    split at h
    · cases h
    · rename_i h2
      rw [if_neg h2]
      exact ⟨Xo.ret.inj h, rfl⟩
  · cases h
section
variable {P : Program} {w : World} {K : PySem.W.Frag} {mg : Str → Option Value} {base : Heap} {CC CF CH SE DE NE : Addr}
theorem ok_Frozenu_initu (B : Bl mg) (F : MakeG K mg "Frozen" CF "Frozen.__init__" s_Frozenu_initu) (Kc : Kl K CC CF CH) : Pk P w K mg base "Frozen" CF 1 (S_frinit CC CF) := by
  refine pk_mk F sc_Frozenu_initu (fun _ _ _ _ _ _ us hl => match us, hl with | [_, _], _ => rfl) (fun Y Z ds o h => by obtain ⟨x, C, dx, c, cdx, ans, s, m, t, rfl, _⟩ := h; rfl) (fun f cdv A outer s H E hr => ⟨_, (pss_cons (ps_fldK (K := K) rfl (pv 0) (pe_fldK (K := K) rfl (pv 1) rfl) rfl) (pss_cons (ps_fldK (K := K) rfl (pv 0) (pe_fldK (K := K) rfl (pv 1) rfl) rfl) (pss_cons (ps_fldK (K := K) rfl (pv 0) (pe_fldK (K := K) rfl (pv 1) rfl) rfl) pss_nil))), fun Y Z ds o H0 hY hz hS hE => ?_⟩)
  obtain ⟨x, C, dx, c, cdx, ans, s, m, t, rfl, rfl, rfl, rfl, rfl⟩ := hS
  have lk : ∀ L, Lk K H0 L c (.ins CC cdx (chF s m t ans)) := fun L => .inr (hz _ List.mem_cons_self)
  have no := Kc.fz.no
  refine gq_fld (k := 0) (ev_fld (ev_var rfl) (lk _) Kc.ch.cls (Kc.ch.no _ (by simp)) rfl) (ev_var rfl) rfl Kc.fz.cls (no _ (by simp)) (by decide) ?_
  refine gq_fld (k := 0) (ev_fld (ev_var rfl) (lk _) Kc.ch.cls (Kc.ch.no _ (by simp)) rfl) (ev_var rfl) rfl Kc.fz.cls (no _ (by simp)) (by show 1 < 1000; decide) ?_
  refine gq_fld (k := 0) (ev_fld (ev_var rfl) (lk _) Kc.ch.cls (Kc.ch.no _ (by simp)) rfl) (ev_var rfl) rfl Kc.fz.cls (no _ (by simp)) (by show 2 < 1000; decide) ?_
  exact go_next ⟨rfl, rfl⟩
theorem ok_Handu_initu (B : Bl mg) (F : MakeG K mg "Hand" CH "Hand.__init__" s_Handu_initu) (Kc : Kl K CC CF CH) (hFz : Pk P w K mg base "Frozen" CF 1 (S_frinit CC CF)) : Pk P w K mg base "Hand" CH 3 (S_hdinit CC CF CH) := by
  refine pk_mk F sc_Handu_initu (fun _ _ _ _ _ _ us hl => match us, hl with | [_, _], _ => rfl) (fun Y Z ds o h => by obtain ⟨x, C, dx, c, cdx, ans, s, m, t, rfl, _⟩ := h; rfl) (fun f cdv A outer s H E hr => ⟨_, (pss_cons (ps_fldK (K := K) rfl (pv 0) (pe_mk hFz hr (by decide) passL rfl (pa_cons (pv 1) pa_nil)) rfl) (pss_cons (ps_fldK (K := K) rfl (pv 0) (pe_tup pa_nil) rfl) (pss_cons (ps_fldK (K := K) rfl (pv 0) (pe_tup (pa_cons pe_int pa_nil)) rfl) pss_nil))), fun Y Z ds o H0 hY hz hS hE => ?_⟩)
  obtain ⟨x, C, dx, c, cdx, ans, s, m, t, rfl, rfl, rfl, rfl, rfl⟩ := hS
  have lk : ∀ L, Lk K H0 L c (.ins CC cdx (chF s m t ans)) := fun L => .inr (hz _ List.mem_cons_self)
  have no := Kc.hd.no
  refine gq_fldN (k := 0) (P := fun d N => ∃ fz dz, d = .ref fz ∧ N = [(fz, .ins CF dz (fzF s t ans))]) (en_makeX (ea_cons (ev_var rfl) ea_nil) (fun y dy => ⟨_, ⟨y, CF, dy, c, cdx, ans, s, m, t, rfl, rfl, rfl, rfl, rfl⟩, fun d N h => by obtain ⟨rfl, rfl⟩ := h; exact ⟨rfl, _, [], rfl, y, dy, rfl, rfl⟩⟩) (fun p hp => by rw [List.mem_singleton.mp hp]; exact lk _) (fun p hp es e => by rw [List.mem_singleton.mp hp] at e; cases e)) (ev_var rfl) rfl Kc.hd.cls (no _ (by simp)) (by decide) fun e N hN => ?_
  obtain ⟨fz, dz, rfl, rfl⟩ := hN
  refine gq_fld (k := 1) (ev_tup ea_nil (by show 0 ≤ 100000; decide)) (ev_var rfl) rfl Kc.hd.cls (no _ (by simp)) (by show 1 < 1000; decide) ?_
  refine gq_fld (k := 1) (ev_tup (ea_cons ev_int ea_nil) (by show 1 ≤ 100000; decide)) (ev_var rfl) rfl Kc.hd.cls (no _ (by simp)) (by show 2 < 1000; decide) ?_
  exact go_perm (List.Perm.swap _ _ _) (go_next ⟨rfl, fz, dz, rfl⟩)
theorem ok_Hand_word (B : Bl mg) (F : PropG K CH "word" "Hand.word" s_Hand_word) (Kc : Kl K CC CF CH) : Pp P w K mg base CH "word" 1 (S_hdget CF CH fun t w => .tup (nD w)) := by
  refine pp_mk F sc_Hand_word (fun _ _ _ _ _ _ us hl => match us, hl with | [_], _ => rfl) (fun Y Z ds o h => by obtain ⟨h, dx, fz, dz, ans, s, m, t, w, rfl, _⟩ := h; rfl) (fun f cdv A outer s H E hr => ⟨_, (pss_cons (ps_ret (pe_fldK (K := K) rfl (pv 0) rfl)) pss_nil), fun Y Z ds o H0 hY hz hS hE => ?_⟩)
  obtain ⟨h, dx, fz, dz, ans, s, m, t, w, rfl, rfl, rfl, T, rfl⟩ := hS
  have lh : ∀ L, Lk K H0 L h (.ins CH dx (hdF t fz w)) := fun L => .inr (hz _ List.mem_cons_self)
  have lf : ∀ L, Lk K H0 L fz (.ins CF dz (fzF s t ans)) := fun L => .inr (hz _ (List.mem_cons_of_mem _ List.mem_cons_self))
  exact gq_retP (ev_fld (ev_var rfl) (lh _) Kc.hd.cls (Kc.hd.no _ (by simp)) rfl) rfl
theorem ok_Hand_state (B : Bl mg) (F : PropG K CH "state" "Hand.state" s_Hand_state) (Kc : Kl K CC CF CH) : Pp P w K mg base CH "state" 1 (S_hdget CF CH fun t w => .int (wk t 0 w : Int)) := by
  refine pp_mk F sc_Hand_state (fun _ _ _ _ _ _ us hl => match us, hl with | [_], _ => rfl) (fun Y Z ds o h => by obtain ⟨h, dx, fz, dz, ans, s, m, t, w, rfl, _⟩ := h; rfl) (fun f cdv A outer s H E hr => ⟨_, (pss_cons (ps_ret (pe_ixT (K := K) rfl (pe_fldK (K := K) rfl (pv 0) rfl) (pe_un un_neg pe_int) (fun _ _ => rfl))) pss_nil), fun Y Z ds o H0 hY hz hS hE => ?_⟩)
  obtain ⟨h, dx, fz, dz, ans, s, m, t, w, rfl, rfl, rfl, T, rfl⟩ := hS
  have lh : ∀ L, Lk K H0 L h (.ins CH dx (hdF t fz w)) := fun L => .inr (hz _ List.mem_cons_self)
  have lf : ∀ L, Lk K H0 L fz (.ins CF dz (fzF s t ans)) := fun L => .inr (hz _ (List.mem_cons_of_mem _ List.mem_cons_self))
  exact gq_retP (ev_op (ev_fld (ev_var rfl) (lh _) Kc.hd.cls (Kc.hd.no _ (by simp)) rfl) (ev_un1 ev_int) (rv_ixT (atM (nD_last (pths_last t 0 w))))) rfl
theorem ok_Hand_outcome (B : Bl mg) (F : PropG K CH "outcome" "Hand.outcome" s_Hand_outcome) (Kc : Kl K CC CF CH) : Pp P w K mg base CH "outcome" 1 (S_hdget CF CH fun t w => ocD t (wk t 0 w)) := by
  refine pp_mk F sc_Hand_outcome (fun _ _ _ _ _ _ us hl => match us, hl with | [_], _ => rfl) (fun Y Z ds o h => by obtain ⟨h, dx, fz, dz, ans, s, m, t, w, rfl, _⟩ := h; rfl) (fun f cdv A outer s H E hr => ⟨_, (pss_cons (ps_set (i := 1) sc_Hand_outcome.nd rfl (.inl rfl) (pe_ixT (K := K) rfl (pe_fldK (K := K) rfl (pe_fldK (K := K) rfl (pv 0) rfl) rfl) (pe_ixT (K := K) rfl (pe_fldK (K := K) rfl (pv 0) rfl) (pe_un un_neg pe_int) (fun _ _ => rfl)) (fun _ _ => rfl))) (pss_cons (ps_ret (pe_ifExp (pt_val (pe_isi (K := K) rfl rfl B rfl (pa_cons (pv 1) (pa_cons (pe_tyT rfl B rfl) pa_nil)))) pe_non (pv 1))) pss_nil)), fun Y Z ds o H0 hY hz hS hE => ?_⟩)
  obtain ⟨h, dx, fz, dz, ans, s, m, t, w, rfl, rfl, rfl, T, rfl⟩ := hS
  have lh : ∀ L, Lk K H0 L h (.ins CH dx (hdF t fz w)) := fun L => .inr (hz _ List.mem_cons_self)
  have lf : ∀ L, Lk K H0 L fz (.ins CF dz (fzF s t ans)) := fun L => .inr (hz _ (List.mem_cons_of_mem _ List.mem_cons_self))
  obtain ⟨r, hr'⟩ := row_at (wk_lt T (w := w) T.n1)
  refine gq_set (d := rwD r) (ev_op (ev_fld (ev_fld (ev_var rfl) (lh _) Kc.hd.cls (Kc.hd.no _ (by simp)) rfl) (lf _) Kc.fz.cls (Kc.fz.no _ (by simp)) rfl) (ev_op (ev_fld (ev_var rfl) (lh _) Kc.hd.cls (Kc.hd.no _ (by simp)) rfl) (ev_un1 ev_int) (rv_ixT (atM (nD_last (pths_last t 0 w))))) (rv_ixT (atN (tb_get hr')))) ?_
  refine gq_retP (d := ocD t (wk t 0 w)) (ev_if (et_B (ev_isTup (ev_var rfl) (tyn_rw r))) (fun hb => ?_) (fun hb => ?_)) rfl
  · rw [oc_row hr', if_pos hb]; exact ev_non
  · rw [oc_row hr', if_neg (by rw [hb]; exact Bool.false_ne_true)]; exact ev_var rfl
theorem ok_Hand_path_after (B : Bl mg) (F : MethG K CH "path_after" "Hand.path_after" s_Hand_path_after) (Kc : Kl K CC CF CH) (gSideError : ErrG K mg "SideError" SE) (gDecidedError : ErrG K mg "DecidedError" DE) (hB : Pf P w K mg base "is_between" 2 S_between) : Px P w K mg base CH "path_after" 3 (S_pa CF CH SE DE) := by
  refine px_mk F sc_Hand_path_after (fun _ _ _ _ _ _ us hl => match us, hl with | [_, _], _ => rfl) (fun Y Z ds o h => by obtain ⟨h, dx, fz, dz, ans, s, m, t, w, v, rfl, _⟩ := h; rfl) (fun f cdv A outer s H E hr => ⟨_, (pss_cons (ps_if (pt_not (pt_val (pe_all (K := K) rfl rfl B rfl rfl (pa_cons (pe_lc (own := [("side", 3)]) (g := gName 3) rfl sc_Hand_path_after.nd (pi_tupK (K := K) rfl (pv 1)) (blkOk_by (own := [("side", 3)]) (N := ["self", "word", "path", "side", "state"]) (sc := defScope (s_Hand_path_after)) (by decide +kernel)) (fun _ _ _ _ _ => (pg_name (i := 3) sc_Hand_path_after.nd rfl (.inl rfl))) (fun _ _ _ _ _ => pts_nil) (fun _ _ _ _ _ => (pe_pf hB hr (by decide) rfl (pa_cons (pv 3) (pa_cons pe_int (pa_cons (pe_op op_sub (pe_fldK (K := K) rfl (pe_fldK (K := K) rfl (pv 0) rfl) rfl) pe_int) pa_nil)))))) pa_nil)))) (pss_cons (ps_rz rfl (takes_of rfl rfl rfl rfl) (pmk_err gSideError rfl)) pss_nil) pss_nil) (pss_cons (ps_set (i := 2) sc_Hand_path_after.nd rfl (.inl rfl) (pe_fldK (K := K) rfl (pv 0) rfl)) (pss_cons (ps_for (passes_of rfl) rfl (pi_tupK (K := K) rfl (pv 1)) (pg_name (i := 3) sc_Hand_path_after.nd rfl (.inl rfl)) (pss_cons (ps_set (i := 4) sc_Hand_path_after.nd rfl (.inl rfl) (pe_ixT (K := K) rfl (pe_fldK (K := K) rfl (pe_fldK (K := K) rfl (pv 0) rfl) rfl) (pe_ixT (K := K) rfl (pv 2) (pe_un un_neg pe_int) (fun _ _ => rfl)) (fun _ _ => rfl))) (pss_cons (ps_if (pt_not (pt_val (pe_isi (K := K) rfl rfl B rfl (pa_cons (pv 4) (pa_cons (pe_tyT rfl B rfl) pa_nil))))) (pss_cons (ps_rz rfl (takes_of rfl rfl rfl rfl) (pmk_err gDecidedError rfl)) pss_nil) pss_nil) (pss_cons (ps_set (i := 2) sc_Hand_path_after.nd rfl (.inl rfl) (pe_op (op_catK (K := K) rfl) (pv 2) (pe_tup (pa_cons (pe_ixT (K := K) rfl (pv 4) (pv 3) (fun _ _ => rfl)) pa_nil)))) pss_nil)))) (pss_cons (ps_ret (pv 2)) pss_nil)))), fun Y Z ds o H0 hY hz hS hE => ?_⟩)
  obtain ⟨h, dx, fz, dz, ans, s, m, t, w, v, rfl, rfl, rfl, T, hl, rfl⟩ := hS
  have lh : ∀ L, Lk K H0 L h (.ins CH dx (hdF t fz w)) := fun L => .inr (hz _ List.mem_cons_self)
  have lf : ∀ L, Lk K H0 L fz (.ins CF dz (fzF s t ans)) := fun L => .inr (hz _ (List.mem_cons_of_mem _ List.mem_cons_self))
  refine gq_if2 (b := !v.all (fun x => decide (x < s))) (et_not (tt := tB _) (et_B (EvP.cast (ev_allN (f := fun d => match d with | .int k => decide (0 ≤ k ∧ k ≤ (s : Int) - 1) | _ => false) (v := fun d => .bl (match d with | .int k => decide (0 ≤ k ∧ k ≤ (s : Int) - 1) | _ => false)) (en_lcY _ (ei_tup (ev_var rfl)) (fun _ => trivial) (fun d hd => ?_) (by rw [nD_len]; omega)) (fun _ _ => rfl)) ?_))) (fun hb => ?_) (fun hb => ?_)
  · obtain ⟨x, hx, rfl⟩ := nD_mem hd
    exact ev_call (ea_cons (ev_var rfl) (ea_cons ev_int (ea_cons (ev_op (ev_fld (ev_fld (ev_var rfl) (lh _) Kc.hd.cls (Kc.hd.no _ (by simp)) rfl) (lf _) Kc.fz.cls (Kc.fz.no _ (by simp)) rfl) ev_int rv_sub) ea_nil))) ⟨(x : Int), 0, (s : Int) - 1, rfl, rfl⟩
  · congr 1
    unfold nD
    rw [List.all_map]
    congr 1
    funext x
    show decide (0 ≤ (x : Int) ∧ (x : Int) ≤ (s : Int) - 1) = decide (x < s)
    by_cases hx : x < s
    · rw [decide_eq_true hx, decide_eq_true ⟨by omega, by omega⟩]
    · rw [decide_eq_false hx, decide_eq_false fun z => hx (by omega)]
  · have hv : v.all (fun x => decide (x < s)) = false := by cases e : v.all (fun x => decide (x < s)) with | true => rw [e] at hb; cases hb | false => rfl
    exact gq_assoc (go_rz fun H1 h1 => hE SE (by unfold duo; rw [if_neg (by rw [hv]; exact Bool.false_ne_true)]) _ H1 h1 (List.nil_sublist _))
  · have hv : v.all (fun x => decide (x < s)) = true := by cases e : v.all (fun x => decide (x < s)) with | true => rfl | false => rw [e] at hb; cases hb
    have hvs : ∀ x ∈ v, x < s := fun x hx => of_decide_eq_true (List.all_eq_true.mp hv x hx)
    refine gq_nil (gq_set (ev_fld (ev_var rfl) (lh _) Kc.hd.cls (Kc.hd.no _ (by simp)) rfl) ?_)
    refine gq_for0 (ds := nD v) (ei_tup (ev_var rfl)) (fun i G L => ∃ v3 v4, G = [some (.ref h), some (.tup (nD v)), some (.tup (nD (pths t 0 (w ++ v.take i)))), v3, v4] ∧ L = [] ∧ decd t (wk t 0 w) (v.take i) = false) ⟨none, none, by rw [List.take_zero, List.append_nil]; rfl, rfl, rfl⟩ (fun _ _ _ _ => trivial) (fun i d G L hd hI => ?_) (fun G L hI => ?_)
    · obtain ⟨v3, v4, rfl, rfl, hdc⟩ := hI
      obtain ⟨x, hx, rfl⟩ := nD_of hd
      have hlt : wk t 0 (w ++ v.take i) < t.length := wk_lt T T.n1
      obtain ⟨r, hr'⟩ := row_at hlt
      have e1 : v.take (i + 1) = v.take i ++ [x] := by rw [List.take_succ, hx]; rfl
      have e2 : v = v.take (i + 1) ++ v.drop (i + 1) := (List.take_append_drop _ _).symm
      have e3 : decd t (wk t 0 w) (v.take (i + 1)) = !isTup (rwD r) := by
        rw [e1, decd_append, hdc, Bool.false_or, ← wk_append, ← isGo_eq hr']
        show (if isGo t (wk t 0 (w ++ v.take i)) then false else true) = _
        cases isGo t (wk t 0 (w ++ v.take i)) <;> rfl
      refine ⟨_, eg_name, ?_⟩
      refine gq_set (d := rwD r) (ev_op (ev_fld (ev_fld (ev_var rfl) (lh _) Kc.hd.cls (Kc.hd.no _ (by simp)) rfl) (lf _) Kc.fz.cls (Kc.fz.no _ (by simp)) rfl) (ev_op (ev_var rfl) (ev_un1 ev_int) (rv_ixT (atM (nD_last (pths_last t 0 (w ++ v.take i)))))) (rv_ixT (atN (tb_get hr')))) ?_
      refine gq_if2 (et_not (tt := tB _) (et_B (ev_isTup (ev_var rfl) (tyn_rw r)))) (fun hb => ?_) (fun hb => ?_)
      · refine gq_assoc (go_rz fun H1 h1 => hE DE ?_ _ H1 h1 (List.nil_sublist _))
        unfold duo
        rw [if_pos hv, if_pos]
        rw [e2, decd_append, e3, hb, Bool.true_or]
      · cases r with
        | fin o => cases hb
        | go l =>
          have hxl : x < l.length := by rw [(T.go _ l hr').1]; exact hvs x (List.mem_of_getElem? hx)
          have hst : stepT t (wk t 0 (w ++ v.take i)) x = l[x] := by
            unfold stepT
            rw [hr']
            show l.getD x 0 = _
            rw [List.getD_eq_getElem?_getD, List.getElem?_eq_getElem hxl]
            rfl
          have hlen : (nD (pths t 0 (w ++ v.take i))).length ≤ 1001 := by
            rw [nD_len, pths_len, List.length_append]
            have : (v.take i).length ≤ v.length := by rw [List.length_take]; omega
            omega
          refine gq_nil (gq_set (d := .tup (nD (pths t 0 (w ++ v.take (i + 1))))) (EvP.cast (ev_op (ev_var rfl) (ev_tup (ea_cons (ev_op (ev_var rfl) (ev_var rfl) (rv_ixT (atN (nD_get (List.getElem?_eq_getElem hxl))))) ea_nil) (by show 1 ≤ 100000; decide)) (rv_cat (by show _ + 1 ≤ 100000; omega))) ?_) (go_next ⟨_, _, rfl, rfl, by rw [e3]; rfl⟩))
          rw [e1, ← List.append_assoc, pths_snoc, hst, ← nD_app]
          rfl
    · obtain ⟨v3, v4, rfl, rfl, hdc⟩ := hI
      rw [nD_len, List.take_length] at hdc ⊢
      unfold duo
      rw [if_pos hv, if_neg (by rw [hdc]; exact Bool.false_ne_true)]
      exact gq_retP (ev_var rfl) rfl
theorem ok_Hand_tried (B : Bl mg) (F : MethG K CH "tried" "Hand.tried" s_Hand_tried) (Kc : Kl K CC CF CH) (hPa : Px P w K mg base CH "path_after" 3 (S_pa CF CH SE DE)) : Px P w K mg base CH "tried" 4 (S_tr CF CH SE DE) := by
  refine px_mk F sc_Hand_tried (fun _ _ _ _ _ _ us hl => match us, hl with | [_, _], _ => rfl) (fun Y Z ds o h => by obtain ⟨h, dx, fz, dz, ans, s, m, t, w, v, rfl, _⟩ := h; rfl) (fun f cdv A outer s H E hr => ⟨_, (pss_cons (ps_if (pt_not (pt_val (pe_isi (K := K) rfl rfl B rfl (pa_cons (pv 1) (pa_cons (pe_tyT rfl B rfl) pa_nil))))) pss_never pss_nil) (pss_cons (ps_ret (pe_slice (sl_tupK (K := K) rfl) (pe_ixL (K := K) rfl (pe_fldK (K := K) rfl (pe_fldK (K := K) rfl (pv 0) rfl) rfl) (pe_ixT (K := K) rfl (pe_mx hPa Kc.hd.cls hr (by decide) (passes_call (takes_of rfl rfl rfl rfl) (fun _ _ _ _ h => h)) (pv 0) (pa_cons (pv 1) pa_nil)) (pe_un un_neg pe_int) (fun _ _ => rfl)) (fun _ _ => rfl)) po_none (po_some (pe_un un_neg pe_int)))) pss_nil)), fun Y Z ds o H0 hY hz hS hE => ?_⟩)
  obtain ⟨h, dx, fz, dz, ans, s, m, t, w, v, rfl, rfl, rfl, T, hl, rfl⟩ := hS
  have lh : ∀ L, Lk K H0 L h (.ins CH dx (hdF t fz w)) := fun L => .inr (hz _ List.mem_cons_self)
  have lf : ∀ L, Lk K H0 L fz (.ins CF dz (fzF s t ans)) := fun L => .inr (hz _ (List.mem_cons_of_mem _ List.mem_cons_self))
  have la : ∀ L, Lk K H0 L ans (.lst (ansD s m t)) := fun L => .inr (hz _ (List.mem_cons_of_mem _ (List.mem_cons_of_mem _ List.mem_cons_self)))
  have lz : ∀ L, ∀ p ∈ hdZ CF CH h dx fz dz ans s t w, Lk K H0 L p.1 p.2 := fun L p hp => .inr (hz p (List.mem_append_left _ hp))
  refine gq_ifL (b := false) (et_not (tt := tB _) (et_B (b := true) (ev_isTupB (ev_var rfl) rfl rfl))) (fun h => by cases h) (fun _ => ?_)
  have an : ∀ {G : Ga} {L : Hl}, G[0]? = some (some (.ref h)) → EvP K H0 G L (tFld K (tFld K (tVar 0) "course") "answers") (.ref ans) := fun hg => ev_fld (ev_fld (ev_var hg) (lh _) Kc.hd.cls (Kc.hd.no _ (by simp)) rfl) (lf _) Kc.fz.cls (Kc.fz.no _ (by simp)) rfl
  cases ho : duo s t w v SE DE (Val (chs s m t (wk t 0 (w ++ v)))) with
  | exc X =>
    exact gqx_ret (evx_sl (evx_op2 (an rfl) (evx_op1 (evx_m (Y := []) (ev_var rfl) (lh _) rfl (ea_cons (ev_var rfl) ea_nil) ⟨h, dx, fz, dz, ans, s, m, t, w, v, rfl, rfl, rfl, T, hl, (duo_pass _ ho).symm⟩ (fun _ h => nomatch h) .nil (fun p hp => ⟨lz _ p hp, fun h => nomatch h⟩) fun H1 h1 => hE X ho _ H1 h1 (List.nil_sublist _)))))
  | ret R0 =>
    obtain ⟨rfl, h2⟩ := duo_ret (Val (.tup (nD (pths t 0 (w ++ v))))) ho
    exact gq_retP (ev_slT (lo := none) (hi := some (-1)) (ev_op (an rfl) (ev_op (EvN.ev (en_mx (ev_var rfl) (lh _) (lookN rfl) (ea_cons (ev_var rfl) ea_nil) ⟨h, dx, fz, dz, ans, s, m, t, w, v, rfl, rfl, rfl, T, hl, h2.symm⟩ (lz _))) (ev_un1 ev_int) (rv_ixT (atM (nD_last (pths_last t 0 (w ++ v)))))) (rv_ixL (la _) (atN (ans_get (wk_lt T T.n1))))) eo_none (eo_some (ev_un1 ev_int))) rfl
theorem ok_Hand_throw_all (B : Bl mg) (F : MethG K CH "throw_all" "Hand.throw_all" s_Hand_throw_all) (Kc : Kl K CC CF CH) (hPa : Px P w K mg base CH "path_after" 3 (S_pa CF CH SE DE)) : Px P w K mg base CH "throw_all" 4 (S_ta CF CH SE DE) := by
  refine px_star (S' := S_ta' CF CH SE DE) F sc_Hand_throw_all (fun _ _ _ _ _ _ us rest hl => match us, rest, hl with | [_], [], _ => rfl | [_], _ :: _, _ => rfl) (fun Y Z d ds o h => ?_) (fun Y Z ds o h => ?_) (fun f cdv A outer s H E hr => ⟨_, (pss_cons (ps_fldK (K := K) rfl (pv 0) (pe_mx hPa Kc.hd.cls hr (by decide) (passes_call (takes_of rfl rfl rfl rfl) (fun _ _ _ _ h => h)) (pv 0) (pa_cons (pv 1) pa_nil)) rfl) (pss_cons (ps_fldK (K := K) rfl (pv 0) (pe_op (op_catK (K := K) rfl) (pe_fldK (K := K) rfl (pv 0) rfl) (pv 1)) rfl) pss_nil)), fun Y Z ds o H0 hY hz hS hE => ?_⟩)
  · obtain ⟨h, dx, fz, dz, ans, s, m, t, w, v, e, rfl, rfl, T, hl, rfl⟩ := h
    cases e
    exact ⟨⟨h, dx, fz, dz, ans, s, m, t, w, v, rfl, rfl, rfl, T, hl, rfl⟩, by rw [nD_len]; omega⟩
  · obtain ⟨h, dx, fz, dz, ans, s, m, t, w, v, rfl, _⟩ := h
    exact fun z => nomatch z
  obtain ⟨h, dx, fz, dz, ans, s, m, t, w, v, rfl, rfl, rfl, T, hl, rfl⟩ := hS
  have no := Kc.hd.no
  have lf : ∀ L, Lk K H0 L fz (.ins CF dz (fzF s t ans)) := fun L => .inr (hz _ List.mem_cons_self)
  have mh : (h, O.ins CH dx (hdF t fz w)) ∈ [(h, O.ins CH dx (hdF t fz w))] := List.mem_cons_self
  have lz : ∀ p ∈ hdZ CF CH h dx fz dz ans s t w, Lk K H0 [(h, O.ins CH dx (hdF t fz w))] p.1 p.2 := fun p hp => by
    rcases List.mem_cons.mp hp with rfl | hp
    · exact .inl mh
    · rw [List.mem_singleton.mp hp]; exact lf _
  cases ho : duo s t w v SE DE (fun d N => d = .non ∧ N = [(h, .ins CH dx (hdF t fz (w ++ v)))]) with
  | exc X =>
    exact gqx_fld (evx_m (Y := []) (ev_var rfl) (.inl mh) rfl (ea_cons (ev_var rfl) ea_nil) ⟨h, dx, fz, dz, ans, s, m, t, w, v, rfl, rfl, rfl, T, hl, (duo_pass _ ho).symm⟩ (fun _ h => nomatch h) .nil (fun p hp => ⟨lz p hp, fun h => nomatch h⟩) fun H1 h1 => hE X ho _ H1 h1 (List.Sublist.refl _))
  | ret R0 =>
    obtain ⟨rfl, h2⟩ := duo_ret (Val (.tup (nD (pths t 0 (w ++ v))))) ho
    refine gq_fld (k := 0) (EvN.ev (en_mx (ev_var rfl) (.inl mh) (lookN rfl) (ea_cons (ev_var rfl) ea_nil) ⟨h, dx, fz, dz, ans, s, m, t, w, v, rfl, rfl, rfl, T, hl, h2.symm⟩ lz)) (ev_var rfl) rfl Kc.hd.cls (no _ (by simp)) (by show 3 < 1000; decide) ?_
    refine gq_fld (k := 0) (ev_op (ev_fld (ev_var rfl) (.inl List.mem_cons_self) Kc.hd.cls (no _ (by simp)) rfl) (ev_var rfl) (rv_cat (by rw [nD_len, nD_len]; omega))) (ev_var rfl) rfl Kc.hd.cls (no _ (by simp)) (by show 3 < 1000; decide) ?_
    refine go_next ⟨rfl, ?_⟩
    show [(h, O.ins CH dx [("course", .ref fz), ("line", .tup (nD w ++ nD v)), ("path", .tup (nD (pths t 0 (w ++ v))))])] = _
    rw [nD_app]
theorem ok_Hand_throw (B : Bl mg) (F : MethG K CH "throw" "Hand.throw" s_Hand_throw) (Kc : Kl K CC CF CH) (hTa : Px P w K mg base CH "throw_all" 4 (S_ta CF CH SE DE)) : Px P w K mg base CH "throw" 5 (S_th CF CH SE DE) := by
  refine px_mk F sc_Hand_throw (fun _ _ _ _ _ _ us hl => match us, hl with | [_, _], _ => rfl) (fun Y Z ds o h => by obtain ⟨h, dx, fz, dz, ans, s, m, t, w, x, rfl, _⟩ := h; rfl) (fun f cdv A outer s H E hr => ⟨_, (pss_cons (ps_expr (pe_mx hTa Kc.hd.cls hr (by decide) (passes_call (takes_of rfl rfl rfl rfl) (fun _ _ _ _ h => h)) (pv 0) (pa_cons (pv 1) pa_nil))) pss_nil), fun Y Z ds o H0 hY hz hS hE => ?_⟩)
  obtain ⟨h, dx, fz, dz, ans, s, m, t, w, x, rfl, rfl, rfl, T, hl, rfl⟩ := hS
  have lf : ∀ L, Lk K H0 L fz (.ins CF dz (fzF s t ans)) := fun L => .inr (hz _ List.mem_cons_self)
  have mh : (h, O.ins CH dx (hdF t fz w)) ∈ [(h, O.ins CH dx (hdF t fz w))] := List.mem_cons_self
  have rf := hz _ List.mem_cons_self
  have hh : H0 h = none := hY _ List.mem_cons_self
  have hne : fz ≠ h := fun e => by
    obtain ⟨xs, hx, _⟩ := rf
    subst e
    rw [hh] at hx; cases hx
  cases ho : duo s t w [x] SE DE (fun d N => d = .non ∧ N = [(h, .ins CH dx (hdF t fz (w ++ [x])))]) with
  | exc X =>
    exact gqx_drop (evx_m (Y := [(h, .ins CH dx (hdF t fz w))]) (Z := [(fz, .ins CF dz (fzF s t ans))]) (ev_var rfl) (.inl mh) rfl (ea_cons (ev_var rfl) ea_nil) ⟨h, dx, fz, dz, ans, s, m, t, w, [x], rfl, rfl, rfl, T, hl, ho.symm⟩ (fun _ h => h) (by simp) (fun p hp => by rw [List.mem_singleton.mp hp]; exact ⟨lf _, by simpa using hne⟩) fun H1 h1 => hE X ho _ H1 h1 (List.Sublist.refl _))
  | ret R0 =>
    obtain ⟨rfl, h2⟩ := duo_ret (fun d N => d = .non ∧ N = [(h, .ins CH dx (hdF t fz (w ++ [x])))]) ho
    refine gq_dropM (em_mx (k := 0) (Z := [(fz, .ins CF dz (fzF s t ans))]) (ev_var rfl) rfl rfl (ea_cons (ev_var rfl) ea_nil) ⟨h, dx, fz, dz, ans, s, m, t, w, [x], rfl, rfl, rfl, T, hl, h2.symm⟩ (fun p hp => by rw [List.mem_singleton.mp hp]; exact ⟨lf _, hne⟩) (fun d N h => ⟨_, [], h.2⟩)) fun e L' hL => ?_
    obtain ⟨o', N', ⟨_, h3⟩, rfl⟩ := hL
    cases h3
    exact go_next ⟨rfl, rfl⟩
theorem ok_Hand_undo (B : Bl mg) (F : MethG K CH "undo" "Hand.undo" s_Hand_undo) (Kc : Kl K CC CF CH) (gNothingThrownError : ErrG K mg "NothingThrownError" NE) : Px P w K mg base CH "undo" 2 (S_un CF CH NE) := by
  refine px_mk F sc_Hand_undo (fun _ _ _ _ _ _ us hl => match us, hl with | [_], _ => rfl) (fun Y Z ds o h => by obtain ⟨h, dx, fz, t, w, rfl, _⟩ := h; rfl) (fun f cdv A outer s H E hr => ⟨_, (pss_cons (ps_if (pt_cmpR (op_eqK (K := K) rfl hr.units) (pe_fldK (K := K) rfl (pv 0) rfl) (pe_tup pa_nil) (nomark _)) (pss_cons (ps_rz rfl (takes_of rfl rfl rfl rfl) (pmk_err gNothingThrownError rfl)) pss_nil) pss_nil) (pss_cons (ps_fldK (K := K) rfl (pv 0) (pe_slice (sl_tupK (K := K) rfl) (pe_fldK (K := K) rfl (pv 0) rfl) po_none (po_some (pe_un un_neg pe_int))) rfl) (pss_cons (ps_fldK (K := K) rfl (pv 0) (pe_slice (sl_tupK (K := K) rfl) (pe_fldK (K := K) rfl (pv 0) rfl) po_none (po_some (pe_un un_neg pe_int))) rfl) pss_nil))), fun Y Z ds o H0 hY hz hS hE => ?_⟩)
  obtain ⟨h, dx, fz, t, w, rfl, rfl, hl, rfl⟩ := hS
  have no := Kc.hd.no
  have mh : (h, O.ins CH dx (hdF t fz w)) ∈ [(h, O.ins CH dx (hdF t fz w))] := List.mem_cons_self
  refine gq_if2 (et_test (ev_op (ev_fld (ev_var rfl) (.inl mh) Kc.hd.cls (no _ (by simp)) rfl) (ev_tup ea_nil (by show 0 ≤ 100000; decide)) (rv_eqE w))) (fun hb => ?_) (fun hb => ?_)
  · have hw := of_decide_eq_true hb
    exact gq_assoc (go_rz fun H1 h1 => hE NE (if_pos hw) _ H1 h1 (List.Sublist.refl _))
  · have hw := of_decide_eq_false hb
    rw [if_neg hw]
    obtain ⟨r, x, rfl⟩ : ∃ r x, w = r ++ [x] := by
      rcases List.eq_nil_or_concat w with rfl | ⟨r, x, rfl⟩
      · exact absurd rfl hw
      · exact ⟨r, x, List.concat_eq_append⟩
    refine gq_nil (gq_fld (k := 0) (ev_slT (lo := none) (hi := some (-1)) (ev_fld (ev_var rfl) (.inl mh) Kc.hd.cls (no _ (by simp)) rfl) eo_none (eo_some (ev_un1 ev_int))) (ev_var rfl) rfl Kc.hd.cls (no _ (by simp)) (by show 3 < 1000; decide) ?_)
    refine gq_fld (k := 0) (ev_slT (lo := none) (hi := some (-1)) (ev_fld (ev_var rfl) (.inl List.mem_cons_self) Kc.hd.cls (no _ (by simp)) rfl) eo_none (eo_some (ev_un1 ev_int))) (ev_var rfl) rfl Kc.hd.cls (no _ (by simp)) (by show 3 < 1000; decide) (go_next ⟨rfl, ?_⟩)
    show [(h, O.ins CH dx [("course", .ref fz), ("line", .tup (cutD (nD (r ++ [x])) none (some (-1)))), ("path", .tup (cutD (nD (pths t 0 (r ++ [x]))) none (some (-1))))])] = _
    rw [pths_snoc, ← nD_snoc, ← nD_snoc, cut_last, cut_last, List.dropLast_concat]
end
end Fc

namespace Fc
open PySem PySem.Spec PyProof.Rows L2
abbrev s__law_cell : Stmt := top 57
theorem sc__law_cell : FnScope ["_law_script", "_law_k"] ["_law_script", "_law_k"] (defScope s__law_cell) := ⟨rfl, rfl, rfl, by decide +kernel, rfl, by decide +kernel, by decide +kernel⟩
abbrev s__law_is_same : Stmt := top 60
theorem sc__law_is_same : FnScope ["_law_actual", "_law_expected", "_law_k"] ["_law_actual", "_law_expected"] (defScope s__law_is_same) := ⟨rfl, rfl, rfl, by decide +kernel, rfl, by decide +kernel, by decide +kernel⟩
abbrev s__law_draws : Stmt := top 58
theorem sc__law_draws : FnScope ["_law_cell_here", "_law_sizes", "_law_found", "_law_k", "_law_left", "_law_size", "_law_mixed"] ["_law_cell_here", "_law_sizes"] (defScope s__law_draws) := ⟨rfl, rfl, rfl, by decide +kernel, rfl, by decide +kernel, by decide +kernel⟩

def S_cell : FS := fun Z ds R => ∃ (l : Addr) (ns : List Int) (k : Nat), ds = [.ref l, .int (k : Int)] ∧ Z = [(l, .lst (ns.map D.int))] ∧ R = Val (.int (ns.getD k 0))
def S_walk : FS := fun _ ds R => ∃ (s m : Nat) (t : List Rw) (w : List Nat), ds = [tbD t, .tup (nD w)] ∧ Tb s m t ∧ (∀ x ∈ w, x < s) ∧ w.length ≤ 1000 ∧ R = Val (.tup [.int (wk t 0 w : Int), .int (wlen t 0 w : Int)])
/-- plain data of small depth -/
def pln : Nat → D → Bool
  | _, .non => true
  | _, .int _ => true
  | _, .str _ => true
  | n + 1, .tup ds => ds.all (pln n) && decide (ds.length ≤ 2000)
  | _, _ => false
def S_same (n : Nat) : FS := fun _ ds R => ∃ x, ds = [x, x] ∧ pln n x = true ∧ R = Val (.bl true)
def duS (s : Nat) (t : List Rw) (w v : List Nat) : String := if v.all (fun x => decide (x < s)) = true then (if decd t (wk t 0 w) v = true then "decided" else "") else "side"
def S_due : FS := fun _ ds R => ∃ (s m : Nat) (t : List Rw) (w v : List Nat), ds = [tbD t, .tup (nD w), .tup (nD v), .int (s : Int)] ∧ Tb s m t ∧ (∀ x ∈ w, x < s) ∧ w.length + v.length ≤ 1000 ∧ R = Val (.str (Str.ofString (duS s t w v)))
section
variable {P : Program} {w : World} {K : PySem.W.Frag} {mg : Str → Option Value} {base : Heap}
theorem ok__law_cell (B : Bl mg) (F : FunG K mg "_law_cell" s__law_cell)  : Pf P w K mg base "_law_cell" 1 S_cell := by
  refine pf_mk F sc__law_cell (fun _ _ _ _ _ _ us hl => match us, hl with | [_, _], _ => rfl) (fun Z ds R h => by obtain ⟨l, ns, k, rfl, _⟩ := h; rfl) (fun f cdv A outer s H E hr => ⟨_, (pss_cons (ps_if (pt_cmpR op_lt (pv 1) (pe_len (K := K) rfl rfl B rfl (pa_cons (pv 0) pa_nil)) (nomark _)) (pss_cons (ps_ret (pe_ixL (K := K) rfl (pv 0) (pv 1) (fun _ _ => rfl))) pss_nil) pss_nil) (pss_cons (ps_ret pe_int) pss_nil)), fun Z ds R H0 hz hS => ?_⟩)
  obtain ⟨l, ns, k, rfl, rfl, rfl⟩ := hS
  have lk : ∀ L, Lk K H0 L l (.lst (ns.map D.int)) := fun L => .inr (hz _ List.mem_cons_self)
  refine gq_ifL (et_test (ev_op (ev_var rfl) (ev_cb (ea_cons (ev_var rfl) ea_nil) (rc_lenL (lk _))) rv_lt)) (fun hb => ?_) (fun hb => ?_)
  · have hk := of_decide_eq_true hb
    rw [List.length_map] at hk
    have hk' : k < ns.length := by omega
    refine gq_retP (d := .int (ns.getD k 0)) (ev_op (ev_var rfl) (ev_var rfl) (rv_ixL (lk _) (atN ?_))) rfl
    rw [List.getElem?_map, List.getElem?_eq_getElem hk', List.getD_eq_getElem?_getD, List.getElem?_eq_getElem hk']
    rfl
  · have hk := of_decide_eq_false hb
    rw [List.length_map] at hk
    have hk' : ns.getD k 0 = 0 := by rw [List.getD_eq_getElem?_getD, List.getElem?_eq_none (by omega)]; rfl
    rw [hk']
    exact gq_retP ev_int rfl
theorem pf_none {x : Str} {st : Stmt} {N ps : List Str} (F : FunG K mg x st) (sc : FnScope N ps (defScope st)) (bh : BindH x st 0 ps) : Pf P w K mg base x 0 (fun _ _ _ => False) := by
  obtain ⟨f, fd, F1, hm⟩ := F.ex
  exact ⟨f, fd, ps, ⟨fun vs H Q E h => by obtain ⟨_, _, _, _, _, h, _⟩ := h; exact h.elim, fun A outer s H args us vs Q E _ _ _ _ h => by obtain ⟨_, _, _, _, _, h, _⟩ := h; exact h.elim⟩, hm, F1.kp, F1.binds bh⟩
theorem ok_same0 (B : Bl mg) (F : FunG K mg "_law_is_same" s__law_is_same) (n : Nat) (hn : n = 0) (hRec : Pf P w K mg base "_law_is_same" 0 (fun _ _ _ => False)) : Pf P w K mg base "_law_is_same" 1 (S_same 0) := by
  refine pf_mk F sc__law_is_same (fun _ _ _ _ _ _ us hl => match us, hl with | [_, _], _ => rfl) (fun Z ds R h => by obtain ⟨x, rfl, _⟩ := h; rfl) (fun f cdv A outer s H E hr => ⟨_, (pss_cons (ps_if (pt_val (pe_isi (K := K) rfl rfl B rfl (pa_cons (pv 1) (pa_cons (pe_tyT rfl B rfl) pa_nil)))) (pss_cons (ps_if (PW.pt (pw_or (pt_not (pt_val (pe_isi (K := K) rfl rfl B rfl (pa_cons (pv 0) (pa_cons (pe_tyT rfl B rfl) pa_nil))))) (pw_or1 (pt_cmpR op_ne (pe_len (K := K) rfl rfl B rfl (pa_cons (pv 0) pa_nil)) (pe_len (K := K) rfl rfl B rfl (pa_cons (pv 1) pa_nil)) (nomark _))))) (pss_cons (ps_ret pe_bl) pss_nil) pss_nil) (pss_cons (ps_ret (pe_all (K := K) rfl rfl B rfl rfl (pa_cons (pe_lc (own := [("_law_k", 2)]) (g := gName 2) rfl sc__law_is_same.nd (pi_range1 rfl B.range (pa_cons (pe_len (K := K) rfl rfl B rfl (pa_cons (pv 1) pa_nil)) pa_nil)) (blkOk_by (own := [("_law_k", 2)]) (N := ["_law_actual", "_law_expected", "_law_k"]) (sc := defScope (s__law_is_same)) (by decide +kernel)) (fun _ _ _ _ _ => (pg_name (i := 2) sc__law_is_same.nd rfl (.inl rfl))) (fun _ _ _ _ _ => pts_nil) (fun _ _ _ _ _ => (pe_pf hRec hr (by omega) rfl (pa_cons (pe_ixT (K := K) rfl (pv 0) (pv 2) (fun _ _ => rfl)) (pa_cons (pe_ixT (K := K) rfl (pv 1) (pv 2) (fun _ _ => rfl)) pa_nil))))) pa_nil))) pss_nil)) pss_nil) (pss_cons (ps_if (pt_cmp (pc_isN (pv 1))) (pss_cons (ps_ret (pe_cmp (pc_isN (pv 0)))) pss_nil) pss_nil) (pss_cons (ps_if (pt_val (pe_isi (K := K) rfl rfl B rfl (pa_cons (pv 1) (pa_cons (pe_tyS rfl B rfl) pa_nil)))) (pss_cons (ps_ret (pe_and (pe_isi (K := K) rfl rfl B rfl (pa_cons (pv 0) (pa_cons (pe_tyS rfl B rfl) pa_nil))) (pe_one (pe_cmpR op_eq (pv 0) (pv 1) (nomark _))))) pss_nil) pss_nil) (pss_cons (ps_if (PW.pt (pw_or (pt_not (pt_val (pe_isi (K := K) rfl rfl B rfl (pa_cons (pv 0) (pa_cons (pe_tyI rfl B rfl) pa_nil))))) (pw_or1 (pt_cmpR op_ne (pe_isi (K := K) rfl rfl B rfl (pa_cons (pv 0) (pa_cons (pe_tyB rfl B rfl) pa_nil))) (pe_isi (K := K) rfl rfl B rfl (pa_cons (pv 1) (pa_cons (pe_tyB rfl B rfl) pa_nil))) (nomark _))))) (pss_cons (ps_ret pe_bl) pss_nil) pss_nil) (pss_cons (ps_ret (pe_cmpR op_eq (pv 0) (pv 1) (nomark _))) pss_nil))))), fun Z ds R H0 hz hS => ?_⟩)
  obtain ⟨x, rfl, hp, rfl⟩ := hS
  cases x with
  | tup ds =>
    cases hp
  | non =>
    refine gq_ifL (b := false) (et_B (ev_isTupB (ev_var rfl) rfl rfl)) (fun h => by cases h) (fun _ => ?_)
    refine gq_ifL (b := true) (et_B (EvP.cast (ev_isN (d := .non) (ev_var rfl)) rfl)) (fun _ => ?_) (fun h => by cases h)
    exact gq_retP (EvP.cast (ev_isN (d := .non) (ev_var rfl)) rfl) rfl
  | int i =>
    refine gq_ifL (b := false) (et_B (ev_isTupB (ev_var rfl) rfl rfl)) (fun h => by cases h) (fun _ => ?_)
    refine gq_ifL (b := false) (et_B (EvP.cast (ev_isN (d := .int i) (ev_var rfl)) rfl)) (fun h => by cases h) (fun _ => ?_)
    refine gq_ifL (b := false) (et_B (EvP.cast (ev_isStr (ev_var rfl) rfl) rfl)) (fun h => by cases h) (fun _ => ?_)
    refine gq_ifL (b := false) (et_or (b := false) (c := false) (et_not (tt := tB _) (et_B (b := true) (EvP.cast (ev_isInt (ev_var rfl) rfl) rfl))) (fun _ => et_test (EvP.cast (ev_op (ev_isBool (ev_var rfl) rfl) (ev_isBool (ev_var rfl) rfl) (rv_ne (u := .bl false) (v := .bl false) rfl rfl rfl)) rfl))) (fun h => by cases h) (fun _ => ?_)
    refine gq_retP (EvP.cast (ev_op (ev_var rfl) (ev_var rfl) rv_eqI) ?_) rfl
    rw [decide_eq_true rfl]
  | str i =>
    refine gq_ifL (b := false) (et_B (ev_isTupB (ev_var rfl) rfl rfl)) (fun h => by cases h) (fun _ => ?_)
    refine gq_ifL (b := false) (et_B (EvP.cast (ev_isN (d := .str i) (ev_var rfl)) rfl)) (fun h => by cases h) (fun _ => ?_)
    refine gq_ifL (b := true) (et_B (EvP.cast (ev_isStr (ev_var rfl) rfl) rfl)) (fun _ => ?_) (fun h => by cases h)
    refine gq_retP (EvP.cast (ev_andV (b := true) (c := true) (EvP.cast (ev_isStr (ev_var rfl) rfl) rfl) (fun _ => EvP.cast (ev_op (ev_var rfl) (ev_var rfl) (rv_eq (u := .str i) (v := .str i) rfl rfl rfl)) (by rw [decide_eq_true rfl]))) rfl) rfl
  | bl b => cases n <;> cases hp
  | ref b => cases n <;> cases hp
  | ty b => cases n <;> cases hp
theorem ok_sameS (B : Bl mg) (F : FunG K mg "_law_is_same" s__law_is_same) (n : Nat) (hRec : Pf P w K mg base "_law_is_same" (n + 1) (S_same n)) : Pf P w K mg base "_law_is_same" (n + 2) (S_same (n + 1)) := by
  refine pf_mk F sc__law_is_same (fun _ _ _ _ _ _ us hl => match us, hl with | [_, _], _ => rfl) (fun Z ds R h => by obtain ⟨x, rfl, _⟩ := h; rfl) (fun f cdv A outer s H E hr => ⟨_, (pss_cons (ps_if (pt_val (pe_isi (K := K) rfl rfl B rfl (pa_cons (pv 1) (pa_cons (pe_tyT rfl B rfl) pa_nil)))) (pss_cons (ps_if (PW.pt (pw_or (pt_not (pt_val (pe_isi (K := K) rfl rfl B rfl (pa_cons (pv 0) (pa_cons (pe_tyT rfl B rfl) pa_nil))))) (pw_or1 (pt_cmpR op_ne (pe_len (K := K) rfl rfl B rfl (pa_cons (pv 0) pa_nil)) (pe_len (K := K) rfl rfl B rfl (pa_cons (pv 1) pa_nil)) (nomark _))))) (pss_cons (ps_ret pe_bl) pss_nil) pss_nil) (pss_cons (ps_ret (pe_all (K := K) rfl rfl B rfl rfl (pa_cons (pe_lc (own := [("_law_k", 2)]) (g := gName 2) rfl sc__law_is_same.nd (pi_range1 rfl B.range (pa_cons (pe_len (K := K) rfl rfl B rfl (pa_cons (pv 1) pa_nil)) pa_nil)) (blkOk_by (own := [("_law_k", 2)]) (N := ["_law_actual", "_law_expected", "_law_k"]) (sc := defScope (s__law_is_same)) (by decide +kernel)) (fun _ _ _ _ _ => (pg_name (i := 2) sc__law_is_same.nd rfl (.inl rfl))) (fun _ _ _ _ _ => pts_nil) (fun _ _ _ _ _ => (pe_pf hRec hr (by omega) rfl (pa_cons (pe_ixT (K := K) rfl (pv 0) (pv 2) (fun _ _ => rfl)) (pa_cons (pe_ixT (K := K) rfl (pv 1) (pv 2) (fun _ _ => rfl)) pa_nil))))) pa_nil))) pss_nil)) pss_nil) (pss_cons (ps_if (pt_cmp (pc_isN (pv 1))) (pss_cons (ps_ret (pe_cmp (pc_isN (pv 0)))) pss_nil) pss_nil) (pss_cons (ps_if (pt_val (pe_isi (K := K) rfl rfl B rfl (pa_cons (pv 1) (pa_cons (pe_tyS rfl B rfl) pa_nil)))) (pss_cons (ps_ret (pe_and (pe_isi (K := K) rfl rfl B rfl (pa_cons (pv 0) (pa_cons (pe_tyS rfl B rfl) pa_nil))) (pe_one (pe_cmpR op_eq (pv 0) (pv 1) (nomark _))))) pss_nil) pss_nil) (pss_cons (ps_if (PW.pt (pw_or (pt_not (pt_val (pe_isi (K := K) rfl rfl B rfl (pa_cons (pv 0) (pa_cons (pe_tyI rfl B rfl) pa_nil))))) (pw_or1 (pt_cmpR op_ne (pe_isi (K := K) rfl rfl B rfl (pa_cons (pv 0) (pa_cons (pe_tyB rfl B rfl) pa_nil))) (pe_isi (K := K) rfl rfl B rfl (pa_cons (pv 1) (pa_cons (pe_tyB rfl B rfl) pa_nil))) (nomark _))))) (pss_cons (ps_ret pe_bl) pss_nil) pss_nil) (pss_cons (ps_ret (pe_cmpR op_eq (pv 0) (pv 1) (nomark _))) pss_nil))))), fun Z ds R H0 hz hS => ?_⟩)
  obtain ⟨x, rfl, hp, rfl⟩ := hS
  cases x with
  | tup ds =>
    have hp2 : (ds.all (pln n) && decide (ds.length ≤ 2000)) = true := hp
    rw [Bool.and_eq_true] at hp2
    have hl := of_decide_eq_true hp2.2
    refine gq_ifL (b := true) (et_B (ev_isTupB (ev_var rfl) rfl rfl)) (fun _ => ?_) (fun h => by cases h)
    refine gq_ifL (b := false) (et_or (b := false) (c := false) (et_not (tt := tB _) (et_B (b := true) (ev_isTupB (ev_var rfl) rfl rfl))) (fun _ => EvT.cast (et_test (ev_op (ev_cb (ea_cons (ev_var rfl) ea_nil) rc_lenT) (ev_cb (ea_cons (ev_var rfl) ea_nil) rc_lenT) rv_neI)) (by rw [decide_eq_true rfl]; rfl))) (fun h => by cases h) (fun _ => ?_)
    refine gq_retP (EvP.cast (ev_allN (f := fun _ => true) (v := fun _ => .bl true) (en_lcY (v := fun _ => .bl true) (ei_rng1 (n := (ds.length : Int)) (ea_cons (ev_cb (ea_cons (ev_var rfl) ea_nil) rc_lenT) ea_nil) (by omega) (by omega)) (fun _ => trivial) (fun d hd => ?_) (by rw [rngD_len]; omega)) (fun _ _ => rfl)) ?_) rfl
    · obtain ⟨i, hi⟩ := List.getElem?_of_mem hd
      have hil : i < ds.length := by have h1 := (List.getElem?_eq_some_iff.mp hi).1; rw [rngD_len] at h1; omega
      rw [rngD_get (by omega)] at hi
      have hdi : d = .int (i : Int) := by rw [← Option.some.inj hi, Int.zero_add]
      subst hdi
      have hx : ds[i]? = some ds[i] := List.getElem?_eq_getElem hil
      exact ev_call (ea_cons (ev_op (ev_var rfl) (ev_var rfl) (rv_ixT (atN hx))) (ea_cons (ev_op (ev_var rfl) (ev_var rfl) (rv_ixT (atN hx))) ea_nil)) ⟨ds[i], rfl, List.all_eq_true.mp hp2.1 _ (List.getElem_mem hil), rfl⟩
    · congr 1
      exact List.all_eq_true.mpr fun _ _ => rfl
  | non =>
    refine gq_ifL (b := false) (et_B (ev_isTupB (ev_var rfl) rfl rfl)) (fun h => by cases h) (fun _ => ?_)
    refine gq_ifL (b := true) (et_B (EvP.cast (ev_isN (d := .non) (ev_var rfl)) rfl)) (fun _ => ?_) (fun h => by cases h)
    exact gq_retP (EvP.cast (ev_isN (d := .non) (ev_var rfl)) rfl) rfl
  | int i =>
    refine gq_ifL (b := false) (et_B (ev_isTupB (ev_var rfl) rfl rfl)) (fun h => by cases h) (fun _ => ?_)
    refine gq_ifL (b := false) (et_B (EvP.cast (ev_isN (d := .int i) (ev_var rfl)) rfl)) (fun h => by cases h) (fun _ => ?_)
    refine gq_ifL (b := false) (et_B (EvP.cast (ev_isStr (ev_var rfl) rfl) rfl)) (fun h => by cases h) (fun _ => ?_)
    refine gq_ifL (b := false) (et_or (b := false) (c := false) (et_not (tt := tB _) (et_B (b := true) (EvP.cast (ev_isInt (ev_var rfl) rfl) rfl))) (fun _ => et_test (EvP.cast (ev_op (ev_isBool (ev_var rfl) rfl) (ev_isBool (ev_var rfl) rfl) (rv_ne (u := .bl false) (v := .bl false) rfl rfl rfl)) rfl))) (fun h => by cases h) (fun _ => ?_)
    refine gq_retP (EvP.cast (ev_op (ev_var rfl) (ev_var rfl) rv_eqI) ?_) rfl
    rw [decide_eq_true rfl]
  | str i =>
    refine gq_ifL (b := false) (et_B (ev_isTupB (ev_var rfl) rfl rfl)) (fun h => by cases h) (fun _ => ?_)
    refine gq_ifL (b := false) (et_B (EvP.cast (ev_isN (d := .str i) (ev_var rfl)) rfl)) (fun h => by cases h) (fun _ => ?_)
    refine gq_ifL (b := true) (et_B (EvP.cast (ev_isStr (ev_var rfl) rfl) rfl)) (fun _ => ?_) (fun h => by cases h)
    refine gq_retP (EvP.cast (ev_andV (b := true) (c := true) (EvP.cast (ev_isStr (ev_var rfl) rfl) rfl) (fun _ => EvP.cast (ev_op (ev_var rfl) (ev_var rfl) (rv_eq (u := .str i) (v := .str i) rfl rfl rfl)) (by rw [decide_eq_true rfl]))) rfl) rfl
  | bl b => cases n <;> cases hp
  | ref b => cases n <;> cases hp
  | ty b => cases n <;> cases hp
end
structure Dws (zs ns : List Nat) : Prop where
  len : ns.length = zs.length
  lt : ∀ (i n z : Nat), ns[i]? = some n → zs[i]? = some z → n < z
def S_draws : FS := fun Z ds R => ∃ (c : Int) (sz : Addr) (zs : List Nat), ds = [.int c, .ref sz] ∧ Z = [(sz, .lst (nD zs))] ∧ (∀ z ∈ zs, 1 ≤ z ∧ z ≤ 1000) ∧ zs.length ≤ 1000 ∧ R = fun d N => ∃ ns, Dws zs ns ∧ New1 (.lst (nD ns)) d N
theorem dws_snoc {zs ns : List Nat} {i n z : Nat} (hz : zs[i]? = some z) (h : Dws (zs.take i) ns) (hn : n < z) : Dws (zs.take (i + 1)) (ns ++ [n]) := by
  have hi := (List.getElem?_eq_some_iff.mp hz).1
  have hl : (zs.take i).length = i := by rw [List.length_take]; omega
  have e : zs.take (i + 1) = zs.take i ++ [z] := by rw [List.take_succ, hz]; rfl
  rw [e]
  refine ⟨by rw [List.length_append, List.length_append, h.len]; rfl, fun j a b ha hb => ?_⟩
  by_cases hj : j < i
  · rw [List.getElem?_append_left (by rw [h.len]; omega)] at ha
    rw [List.getElem?_append_left (by omega)] at hb
    exact h.lt j a b ha hb
  · rw [List.getElem?_append_right (by omega)] at hb
    have hji : j - (zs.take i).length = 0 := by have := (List.getElem?_eq_some_iff.mp hb).1; rw [List.length_singleton] at this; omega
    rw [hji] at hb
    rw [List.getElem?_append_right (by rw [h.len]; omega), h.len, hji] at ha
    cases ha
    cases hb
    exact hn
theorem mod_nat {c : Int} {z : Nat} (h : 1 ≤ z) : ∃ n : Nat, n < z ∧ c % (z : Int) = (n : Int) := by
  have h1 := Int.emod_nonneg c (show (z : Int) ≠ 0 by omega)
  have h2 := Int.emod_lt_of_pos c (show (0 : Int) < (z : Int) by omega)
  exact ⟨(c % (z : Int)).toNat, by omega, by omega⟩
section
variable {P : Program} {w : World} {K : PySem.W.Frag} {mg : Str → Option Value} {base : Heap}
theorem ok__law_draws (B : Bl mg) (F : FunG K mg "_law_draws" s__law_draws)  : Pf P w K mg base "_law_draws" 1 S_draws := by
  refine pf_mk F sc__law_draws (fun _ _ _ _ _ _ us hl => match us, hl with | [_, _], _ => rfl) (fun Z ds R h => by obtain ⟨c, sz, zs, rfl, _⟩ := h; rfl) (fun f cdv A outer s H E hr => ⟨_, (pss_cons (ps_set (i := 2) sc__law_draws.nd rfl (.inl rfl) (pe_lst pa_nil)) (pss_cons (ps_if (pt_cmpR op_ge (pv 0) (pe_op op_pow pe_int pe_int) (nomark _)) (pss_cons (ps_set (i := 4) sc__law_draws.nd rfl (.inl rfl) (pe_op op_sub (pv 0) (pe_op op_pow pe_int pe_int))) (pss_cons (ps_for PassesOwn.never rfl (pi_listK (K := K) rfl (pv 1)) (pg_name (i := 5) sc__law_draws.nd rfl (.inl rfl)) (pss_cons (ps_expr (pe_bm PySem.F.plainAttrs_list PySem.F.slot_list_append PySem.F.type_list_append mt_append (pv 2) (pa_cons (pe_op op_mod (pv 4) (pv 5)) pa_nil))) (pss_cons (ps_set (i := 4) sc__law_draws.nd rfl (.inl rfl) (pe_op op_fdivW (pv 4) (pv 5))) pss_nil))) (pss_cons (ps_ret (pv 2)) pss_nil))) pss_nil) (pss_cons (ps_for PassesOwn.never rfl (pi_range1 rfl B.range (pa_cons (pe_len (K := K) rfl rfl B rfl (pa_cons (pv 1) pa_nil)) pa_nil)) (pg_name (i := 3) sc__law_draws.nd rfl (.inl rfl)) (pss_cons (ps_set (i := 6) sc__law_draws.nd rfl (.inl rfl) (pe_op op_mod (pe_op op_add (pe_op op_add (pe_op op_mul (pv 0) pe_int) (pe_op op_mul (pv 3) pe_int)) pe_int) pe_int)) (pss_cons (ps_set (i := 6) sc__law_draws.nd rfl (.inl rfl) (pe_op op_mod (pe_op op_add (pe_op op_mul (pv 6) pe_int) (pv 3)) pe_int)) (pss_cons (ps_expr (pe_bm PySem.F.plainAttrs_list PySem.F.slot_list_append PySem.F.type_list_append mt_append (pv 2) (pa_cons (pe_op op_mod (pv 6) (pe_ixL (K := K) rfl (pv 1) (pv 3) (fun _ _ => rfl))) pa_nil))) pss_nil)))) (pss_cons (ps_ret (pv 2)) pss_nil)))), fun Z ds R H0 hz hS => ?_⟩)
  obtain ⟨c, sz, zs, rfl, rfl, hzs, hlen, rfl⟩ := hS
  have lk : ∀ L, Lk K H0 L sz (.lst (nD zs)) := fun L => .inr (hz _ List.mem_cons_self)
  refine gq_new (en_lst ea_nil (by decide)) fun a => ?_
  have p18 : EvP K H0 [some (.int c), some (.ref sz), some (.ref a), none, none, none, none] [(a, .lst [])] (tOp (rI CPow fun i j => .int (i ^ j.toNat)) (tC (.int 10)) (tC (.int 18))) (.int (10 ^ 18)) := ev_op ev_int ev_int (rv_pow ⟨by decide, by decide, by decide⟩)
  refine gq_ifL (et_test (ev_op (ev_var rfl) p18 rv_ge)) (fun hb => ?_) (fun hb => ?_)
  · refine gq_set (ev_op (ev_var rfl) p18 rv_sub) ?_
    refine gq_for0 (ei_list (ev_var rfl) (lk _)) (fun i G L => ∃ (v4 : Int) (v5 : Option D) (ns : List Nat), G = [some (.int c), some (.ref sz), some (.ref a), none, some (.int v4), v5, none] ∧ L = [(a, .lst (nD ns))] ∧ Dws (zs.take i) ns) ⟨_, none, [], rfl, rfl, ⟨rfl, fun i n z h => nomatch h⟩⟩ (fun _ _ _ _ => lk _) (fun i d G L hd hI => ?_) (fun G L hI => ?_)
    · obtain ⟨v4, v5, ns, rfl, rfl, dw⟩ := hI
      obtain ⟨z, hz', rfl⟩ := nD_of hd
      have hzz := hzs z (List.mem_of_getElem? hz')
      obtain ⟨n, hn, hn2⟩ := mod_nat (c := v4) hzz.1
      have hnl : ns.length ≤ 1000 := by rw [dw.len, List.length_take]; omega
      refine ⟨_, eg_name, ?_⟩
      refine gq_append (k := 0) (d := .int (n : Int)) rfl (ev_var rfl) (EvP.cast (ev_op (ev_var rfl) (ev_var rfl) (rv_mod (by omega))) (by rw [hn2])) (by rw [nD_len]; omega) ?_
      refine gq_set (ev_op (ev_var rfl) (ev_var rfl) (rv_fdivW (wide_div (b := 60) (by omega) (by omega) (by decide) (by decide)))) (go_next ⟨_, _, ns ++ [n], rfl, ?_, dws_snoc hz' dw hn⟩)
      rw [← nD_snoc]
      rfl
    · obtain ⟨v4, v5, ns, rfl, rfl, dw⟩ := hI
      rw [nD_len, List.take_length] at dw
      exact gq_retA (ev_var rfl) ⟨ns, dw, a, rfl, rfl⟩
  · refine gq_for0 (ei_rng1 (n := (zs.length : Int)) (ea_cons (EvP.cast (ev_cb (ea_cons (ev_var rfl) ea_nil) (rc_lenL (lk _))) (by rw [nD_len])) ea_nil) (by omega) (by omega)) (fun i G L => ∃ (v3 v6 : Option D) (ns : List Nat), G = [some (.int c), some (.ref sz), some (.ref a), v3, none, none, v6] ∧ L = [(a, .lst (nD ns))] ∧ Dws (zs.take i) ns) ⟨none, none, [], rfl, rfl, ⟨rfl, fun i n z h => nomatch h⟩⟩ (fun _ _ _ _ => trivial) (fun i d G L hd hI => ?_) (fun G L hI => ?_)
    · obtain ⟨v3, v6, ns, rfl, rfl, dw⟩ := hI
      have hiz : i < zs.length := by have h1 := (List.getElem?_eq_some_iff.mp hd).1; rw [rngD_len] at h1; omega
      rw [rngD_get (by omega)] at hd
      have hdi : d = .int (i : Int) := by rw [← Option.some.inj hd, Int.zero_add]
      subst hdi
      have hz' : zs[i]? = some zs[i] := List.getElem?_eq_getElem hiz
      have hzz := hzs _ (List.mem_of_getElem? hz')
      have hnl : ns.length ≤ 1000 := by rw [dw.len, List.length_take]; omega
      refine ⟨_, eg_name, ?_⟩
      refine gq_set (ev_op (ev_op (ev_op (ev_op (ev_var rfl) ev_int (rv_mul (.inr ⟨by decide, by decide⟩))) (ev_op (ev_var rfl) ev_int (rv_mul (.inr ⟨by decide, by decide⟩))) rv_add) ev_int rv_add) ev_int (rv_mod (by decide))) ?_
      refine gq_set (ev_op (ev_op (ev_op (ev_var rfl) ev_int (rv_mul (.inr ⟨by decide, by decide⟩))) (ev_var rfl) rv_add) ev_int (rv_mod (by decide))) ?_
      generalize ((((c * 48271 + (i : Int) * 69621 + 11) % 2147483647) * 16807 + (i : Int)) % 998244353) = y
      obtain ⟨n, hn, hn2⟩ := mod_nat (c := y) hzz.1
      refine gq_append (k := 0) (d := .int (n : Int)) rfl (ev_var rfl) (EvP.cast (ev_op (ev_var rfl) (ev_op (ev_var rfl) (ev_var rfl) (rv_ixL (lk _) (atN (nD_get hz')))) (rv_mod (by omega))) (by rw [hn2])) (by rw [nD_len]; omega) (go_next ⟨_, _, ns ++ [n], rfl, ?_, dws_snoc hz' dw hn⟩)
      rw [← nD_snoc]
      rfl
    · obtain ⟨v3, v6, ns, rfl, rfl, dw⟩ := hI
      rw [rngD_len, Int.toNat_natCast, List.take_length] at dw
      exact gq_retA (ev_var rfl) ⟨ns, dw, a, rfl, rfl⟩
end
end Fc

namespace Fc
open PySem PySem.Spec PyProof.Rows L2
abbrev s__law_table : Stmt := top 61
theorem sc__law_table : FnScope ["_law_cell_here", "_law_sides", "_law_many", "_law_draws_here", "_law_inner", "_law_ends", "_law_size", "_law_rows", "_law_state", "_law_row", "_law_turn", "_law_side", "_law_k"] ["_law_cell_here", "_law_sides", "_law_many"] (defScope s__law_table) := ⟨rfl, rfl, rfl, by decide +kernel, rfl, by decide +kernel, by decide +kernel⟩

theorem cut_from {l : List Nat} {k : Nat} (h : k ≤ l.length) : cutD (nD l) (some (k : Int)) none = nD (l.drop k) := by
  have e : HT.sIx (nD l).length 0 (some (k : Int)) = k := by
    show (if (k : Int) < 0 then ((k : Int) + ((nD l).length : Int)).toNat else min (k : Int).toNat (nD l).length) = k
    rw [if_neg (by omega), nD_len]
    omega
  unfold cutD
  rw [e]
  show ((nD l).drop k).take ((nD l).length - k) = _
  rw [List.take_of_length_le (by rw [List.length_drop]; exact Nat.le_refl _)]
  unfold nD
  rw [List.map_drop]
theorem cut_to {l : List Nat} {k : Nat} (h : k ≤ l.length) : cutD (nD l) none (some (k : Int)) = nD (l.take k) := by
  have e : HT.sIx (nD l).length (nD l).length (some (k : Int)) = k := by
    show (if (k : Int) < 0 then ((k : Int) + ((nD l).length : Int)).toNat else min (k : Int).toNat (nD l).length) = k
    rw [if_neg (by omega), nD_len]
    omega
  unfold cutD
  rw [e]
  show ((nD l).drop 0).take (k - 0) = _
  rw [List.drop_zero, Nat.sub_zero]
  unfold nD
  rw [List.map_take]
theorem nD_set (l : List Nat) (j x : Nat) : (nD l).set j (.int (x : Int)) = nD (l.set j x) := by unfold nD; rw [List.map_set]
/-- a row of the table that is drawn -/
structure GdR (s inner ends st : Nat) (l : List Nat) : Prop where
  len : l.length = s
  lt : ∀ x ∈ l, x < inner + ends
  nxt : st + 1 < inner → st + 1 ∈ l
  fin : st < ends → inner + st ∈ l
  lst : st + 1 = inner → ∃ x ∈ l, inner ≤ x
theorem GdR.rot {s inner ends st : Nat} {l : List Nat} (h : GdR s inner ends st l) (k : Nat) : GdR s inner ends st (l.drop k ++ l.take k) := by
  have mem : ∀ x, x ∈ l.drop k ++ l.take k ↔ x ∈ l := fun x => by
    have e : x ∈ l ↔ x ∈ l.take k ++ l.drop k := by rw [List.take_append_drop]
    rw [e, List.mem_append, List.mem_append]
    exact or_comm
  refine ⟨?_, fun x hx => h.lt x ((mem x).mp hx), fun a => (mem _).mpr (h.nxt a), fun a => (mem _).mpr (h.fin a), fun a => ?_⟩
  · rw [List.length_append, List.length_drop, List.length_take, ← h.len]; omega
  · obtain ⟨x, hx, h2⟩ := h.lst a
    exact ⟨x, (mem x).mpr hx, h2⟩
/-- the table: inner rows, final states -/
def tab (ls : List (List Nat)) (fs : List Nat) : List Rw := ls.map Rw.go ++ fs.map Rw.fin
theorem tab_go_at {ls : List (List Nat)} {fs : List Nat} {i : Nat} {l : List Nat} (h : (tab ls fs)[i]? = some (.go l)) : ls[i]? = some l := by
  unfold tab at h
  by_cases hi : i < ls.length
  · rw [List.getElem?_append_left (by rw [List.length_map]; exact hi), List.getElem?_map] at h
    cases e : ls[i]? with
    | none => rw [e] at h; cases h
    | some z => rw [e] at h; cases h; rfl
  · rw [List.getElem?_append_right (by rw [List.length_map]; omega), List.getElem?_map] at h
    cases e : fs[i - (ls.map Rw.go).length]? with
    | none => rw [e] at h; cases h
    | some z => rw [e] at h; cases h
theorem tab_fin_at {ls : List (List Nat)} {fs : List Nat} {i o : Nat} (h : (tab ls fs)[i]? = some (.fin o)) : o ∈ fs := by
  unfold tab at h
  by_cases hi : i < ls.length
  · rw [List.getElem?_append_left (by rw [List.length_map]; exact hi), List.getElem?_map] at h
    cases e : ls[i]? with
    | none => rw [e] at h; cases h
    | some z => rw [e] at h; cases h
  · rw [List.getElem?_append_right (by rw [List.length_map]; omega), List.getElem?_map] at h
    cases e : fs[i - (ls.map Rw.go).length]? with
    | none => rw [e] at h; cases h
    | some z => rw [e] at h; cases h; exact List.mem_of_getElem? e
structure GdT (s m : Nat) (t : List Rw) (d : Nat → Nat) : Prop where
  tb : Tb s m t
  rk : Rk t d
  ra : ∀ i, i < t.length → Ra t 0 i
  sz : t.length ≤ 20
theorem tab_good {s m inner : Nat} {ls : List (List Nat)} {fs : List Nat} (hs1 : 2 ≤ s) (hs2 : s ≤ 6) (hm1 : 1 ≤ m) (hm2 : m ≤ 6) (hl : ls.length = inner) (hi1 : 1 ≤ inner) (hi : inner ≤ 6) (hf1 : 1 ≤ fs.length) (hf : fs.length ≤ inner) (hg : ∀ i l, ls[i]? = some l → GdR s inner fs.length i l) (hfm : ∀ x ∈ fs, x < m) : GdT s m (tab ls fs) (fun i => inner - i) := by
  have hlen : (tab ls fs).length = inner + fs.length := by unfold tab; rw [List.length_append, List.length_map, List.length_map, hl]
  have at_ : ∀ i, i < inner → ∃ l, ls[i]? = some l ∧ (tab ls fs)[i]? = some (.go l) := fun i h => by
    obtain ⟨l, hl'⟩ : ∃ l, ls[i]? = some l := ⟨ls[i]'(by omega), List.getElem?_eq_getElem _⟩
    refine ⟨l, hl', ?_⟩
    unfold tab
    rw [List.getElem?_append_left (by rw [List.length_map]; omega), List.getElem?_map, hl']
    rfl
  have sc : ∀ i l x, (tab ls fs)[i]? = some (.go l) → x ∈ l → x ∈ succ (tab ls fs) i := fun i l x h hx => by unfold succ; rw [h]; exact hx
  refine ⟨⟨by omega, by omega, hs1, hs2, hm1, hm2, fun i o h => hfm o (tab_fin_at h), fun i l h => ?_⟩, fun i l h => ?_, fun i hi' => ?_, by omega⟩
  · have g := hg i l (tab_go_at h)
    exact ⟨g.len, fun x hx => by rw [hlen]; exact g.lt x hx⟩
  · have h1 := tab_go_at h
    have g := hg i l h1
    have hii : i < inner := by rw [← hl]; exact (List.getElem?_eq_some_iff.mp h1).1
    by_cases hn : i + 1 < inner
    · exact ⟨i + 1, g.nxt hn, by show inner - (i + 1) < inner - i; omega⟩
    · obtain ⟨x, hx, hxi⟩ := g.lst (by omega)
      exact ⟨x, hx, by show inner - x < inner - i; omega⟩
  · have chain : ∀ k, k < inner → Ra (tab ls fs) 0 k := fun k => by
      induction k with
      | zero => intro _; exact .st
      | succ k ih =>
        intro hk
        obtain ⟨l, e1, e2⟩ := at_ k (by omega)
        exact .step (ih (by omega)) (sc k l _ e2 ((hg k l e1).nxt hk))
    by_cases h : i < inner
    · exact chain i h
    · obtain ⟨l, e1, e2⟩ := at_ (i - inner) (by omega)
      have := (hg _ l e1).fin (by omega)
      rw [show inner + (i - inner) = i by omega] at this
      exact .step (chain _ (by omega)) (sc _ l _ e2 this)
def S_table : FS := fun _ ds R => ∃ (c : Int) (s m : Nat), ds = [.int c, .int (s : Int), .int (m : Int)] ∧ 2 ≤ s ∧ s ≤ 6 ∧ 1 ≤ m ∧ m ≤ 6 ∧ R = fun d N => N = [] ∧ ∃ t dd, d = tbD t ∧ GdT s m t dd
def zsz : List Nat := [6, 6, 7, 7, 7, 7, 7, 7] ++ List.replicate 48 60
theorem cmod {a b : Nat} : ((a : Int) % (b : Int)) = ((a % b : Nat) : Int) := (Int.natCast_emod a b).symm
section
variable {P : Program} {w : World} {K : PySem.W.Frag} {mg : Str → Option Value} {base : Heap}
theorem ok__law_table (B : Bl mg) (F : FunG K mg "_law_table" s__law_table) (hDr : Pf P w K mg base "_law_draws" 1 S_draws) : Pf P w K mg base "_law_table" 2 S_table := by
  refine pf_mk F sc__law_table (fun _ _ _ _ _ _ us hl => match us, hl with | [_, _, _], _ => rfl) (fun Z ds R h => by obtain ⟨c, s, m, rfl, _⟩ := h; rfl) (fun f cdv A outer s H E hr => ⟨_, (pss_cons (ps_set (i := 3) sc__law_table.nd rfl (.inr rfl) (pe_pf hDr hr (by decide) rfl (pa_cons (pv 0) (pa_cons (pe_op op_cat (pe_lst (pa_cons pe_int (pa_cons pe_int (pa_cons pe_int (pa_cons pe_int (pa_cons pe_int (pa_cons pe_int (pa_cons pe_int (pa_cons pe_int pa_nil))))))))) (pe_op op_rep (pe_lst (pa_cons pe_int pa_nil)) pe_int)) pa_nil)))) (pss_cons (ps_set (i := 4) sc__law_table.nd rfl (.inl rfl) (pe_ixL (K := K) rfl (pv 3) pe_int (fun _ _ => rfl))) (pss_cons (ps_if (pt_cmpR op_eq (pv 4) pe_int (nomark _)) (pss_cons (ps_ret (pe_tup (pa_cons (pe_op op_mod (pe_ixL (K := K) rfl (pv 3) pe_int (fun _ _ => rfl)) (pv 2)) pa_nil))) pss_nil) pss_nil) (pss_cons (ps_set (i := 5) sc__law_table.nd rfl (.inl rfl) (pe_op op_add pe_int (pe_op op_mod (pe_ixL (K := K) rfl (pv 3) pe_int (fun _ _ => rfl)) (pv 4)))) (pss_cons (ps_set (i := 6) sc__law_table.nd rfl (.inr rfl) (pe_op op_add (pv 4) (pv 5))) (pss_cons (ps_set (i := 7) sc__law_table.nd rfl (.inl rfl) (pe_lst pa_nil)) (pss_cons (ps_for PassesOwn.never rfl (pi_range1 rfl B.range (pa_cons (pv 4) pa_nil)) (pg_name (i := 8) sc__law_table.nd rfl (.inr rfl)) (pss_cons (ps_setLc (i := 9) (own := [("_law_side", 11)]) (g := gName 11) rfl sc__law_table.nd rfl rfl (sw_true rfl rfl rfl (by decide +kernel)) (pi_range1 rfl B.range (pa_cons (pv 1) pa_nil)) (blkOk_by (own := [("_law_side", 11)]) (N := ["_law_cell_here", "_law_sides", "_law_many", "_law_draws_here", "_law_inner", "_law_ends", "_law_size", "_law_rows", "_law_state", "_law_row", "_law_turn", "_law_side", "_law_k"]) (sc := defScope (s__law_table)) (by decide +kernel)) (fun _ _ _ _ _ => (pg_name (i := 11) sc__law_table.nd rfl (.inl rfl))) (fun _ _ _ _ _ => pts_nil) (fun _ _ _ _ _ => (pe_op op_mod (pe_ixL (K := K) rfl (pv 3) (pe_op op_add pe_int (pe_op op_mod (pe_op op_add (pe_op op_mul (pv 8) (pv 1)) (pv 11)) pe_int)) (fun _ _ => rfl)) (pv 6)))) (pss_cons (ps_if (pt_cmpR op_lt (pv 8) (pe_op op_sub (pv 4) pe_int) (nomark _)) (pss_cons (ps_asg (pe_op op_add (pv 8) pe_int) (pg_sub (pv 9) pe_int set_list)) pss_nil) pss_nil) (pss_cons (ps_if (pt_cmpR op_lt (pv 8) (pv 5) (nomark _)) (pss_cons (ps_asg (pe_op op_add (pv 4) (pv 8)) (pg_sub (pv 9) (pe_op op_sub (pv 1) pe_int) set_list)) pss_nil) (pss_cons (ps_if (pt_cmpR op_eq (pv 8) (pe_op op_sub (pv 4) pe_int) (nomark _)) (pss_cons (ps_asg (pv 4) (pg_sub (pv 9) (pe_op op_sub (pv 1) pe_int) set_list)) pss_nil) pss_nil) pss_nil)) (pss_cons (ps_set (i := 10) sc__law_table.nd rfl (.inl rfl) (pe_op op_mod (pe_ixL (K := K) rfl (pv 3) (pe_op op_add pe_int (pv 8)) (fun _ _ => rfl)) (pv 1))) (pss_cons (ps_expr (pe_bm PySem.F.plainAttrs_list PySem.F.slot_list_append PySem.F.type_list_append mt_append (pv 7) (pa_cons (pe_tuple (K := K) rfl rfl B rfl (pa_cons (pe_op op_cat (pe_slice (sl_listK (K := K) rfl) (pv 9) (po_some (pv 10)) po_none) (pe_slice (sl_listK (K := K) rfl) (pv 9) po_none (po_some (pv 10)))) pa_nil)) pa_nil))) pss_nil)))))) (pss_cons (ps_ret (pe_tuple (K := K) rfl rfl B rfl (pa_cons (pe_op op_cat (pv 7) (pe_lc (own := [("_law_k", 12)]) (g := gName 12) rfl sc__law_table.nd (pi_range1 rfl B.range (pa_cons (pv 5) pa_nil)) (blkOk_by (own := [("_law_k", 12)]) (N := ["_law_cell_here", "_law_sides", "_law_many", "_law_draws_here", "_law_inner", "_law_ends", "_law_size", "_law_rows", "_law_state", "_law_row", "_law_turn", "_law_side", "_law_k"]) (sc := defScope (s__law_table)) (by decide +kernel)) (fun _ _ _ _ _ => (pg_name (i := 12) sc__law_table.nd rfl (.inl rfl))) (fun _ _ _ _ _ => pts_nil) (fun _ _ _ _ _ => (pe_op op_mod (pe_ixL (K := K) rfl (pv 3) (pe_op op_add pe_int (pv 12)) (fun _ _ => rfl)) (pv 2))))) pa_nil))) pss_nil)))))))), fun Z ds R H0 hz hS => ?_⟩)
  obtain ⟨c, s, m, rfl, hs1, hs2, hm1, hm2, rfl⟩ := hS
  refine gq_setN (en_callN (Z := []) (R := fun d N => ∃ ns, Dws zsz ns ∧ New1 (.lst (nD ns)) d N) (ean_pn (ev_var rfl) (en_cat (el_new (en_lst (ea_cons ev_int (ea_cons ev_int (ea_cons ev_int (ea_cons ev_int (ea_cons ev_int (ea_cons ev_int (ea_cons ev_int (ea_cons ev_int ea_nil)))))))) (by show 8 ≤ 100000; decide))) (el_new (en_rep (k := 48) (el_new (en_lst (ea_cons ev_int ea_nil) (by show 1 ≤ 100000; decide))) ev_int (by show 1 * 48 ≤ 100000; decide) (by decide))) (by show 8 + 48 ≤ 100000; decide))) (fun ds N h => ?_) noZ) fun d N hN => ?_
  · obtain ⟨y, rfl, a, rfl, rfl⟩ := h
    refine ⟨c, a, zsz, rfl, rfl, fun z hz => ?_, by show 56 ≤ 1000; decide, rfl⟩
    have : z = 6 ∨ z = 7 ∨ z = 60 := by
      rcases List.mem_append.mp hz with h | h
      · simp only [List.mem_cons, List.not_mem_nil, or_false] at h; omega
      · exact .inr (.inr (List.eq_of_mem_replicate h))
    omega
  obtain ⟨ns, dw, dr, rfl, rfl⟩ := hN
  refine ⟨_, eg_name, ?_⟩
  have nl : ns.length = 56 := dw.len
  have nat_ : ∀ i, i < 56 → ns[i]? = some (ns.getD i 0) := fun i h => by
    rw [List.getElem?_eq_getElem (by omega), List.getD_eq_getElem?_getD, List.getElem?_eq_getElem (by omega)]
    rfl
  have md : (dr, O.lst (nD ns)) ∈ [(dr, O.lst (nD ns))] := List.mem_cons_self
  have dat : ∀ {G : Ga} {L : Hl} {te : TE} {i : Nat}, G[3]? = some (some (.ref dr)) → (dr, O.lst (nD ns)) ∈ L → i < 56 → EvP K H0 G L te (.int (i : Int)) → EvP K H0 G L (tOp (rIxL K) (tVar 3) te) (.int (ns.getD i 0 : Int)) := fun hg hm hi he => ev_op (ev_var hg) he (rv_ixL (.inl hm) (atN (nD_get (nat_ _ hi))))
  have hin : ns.getD 0 0 < 6 := dw.lt 0 _ 6 (nat_ 0 (by decide)) rfl
  generalize hinn : ns.getD 0 0 = inner at hin
  refine gq_set (d := .int (inner : Int)) (by rw [← hinn]; exact dat (i := 0) rfl md (by decide) ev_int) ?_
  refine gq_ifL (et_test (ev_op (ev_var rfl) ev_int rv_eqI)) (fun hb => ?_) (fun hb => ?_)
  · refine gq_retP (ev_tup (ea_cons (ev_op (dat (i := 1) rfl md (by decide) ev_int) (ev_var rfl) (rv_mod (by omega))) ea_nil) (by show 1 ≤ 100000; decide)) ⟨rfl, [.fin (ns.getD 1 0 % m)], fun _ => 0, ?_, ?_⟩
    · show D.tup [D.int ((ns.getD 1 0 : Int) % (m : Int))] = _
      rw [cmod]
      rfl
    · refine ⟨⟨Nat.le_refl 1, by show 1 ≤ 100; decide, hs1, hs2, hm1, hm2, fun i o h => ?_, fun i l h => ?_⟩, fun i l h => ?_, fun i h => ?_, by show 1 ≤ 20; decide⟩
      · cases i with
        | zero => cases h; exact Nat.mod_lt _ (by omega)
        | succ i => cases h
      · cases i <;> cases h
      · cases i <;> cases h
      · have : i = 0 := by have : i < 1 := h; omega
        subst this
        exact .st
  · have hi1 : 1 ≤ inner := by have := of_decide_eq_false hb; omega
    generalize hee : 1 + ns.getD 1 0 % inner = ends
    have he1 : 1 ≤ ends := by omega
    have he2 : ends ≤ inner := by have := Nat.mod_lt (ns.getD 1 0) (show inner > 0 by omega); omega
    refine gq_set (d := .int (ends : Int)) (EvP.cast (ev_op ev_int (ev_op (dat (i := 1) rfl md (by decide) ev_int) (ev_var rfl) (rv_mod (by omega))) rv_add) (by rw [cmod, ← hee]; rfl)) ?_
    refine gq_set (d := .int ((inner + ends : Nat) : Int)) (ev_op (ev_var rfl) (ev_var rfl) rv_add) ?_
    refine gq_new (en_lst ea_nil (by decide)) fun rr => go_nd fun hnd0 => ?_
    have rdn : dr ≠ rr := fun e => (List.nodup_cons.mp hnd0).1 (List.mem_map.mpr ⟨_, List.mem_cons_self, e⟩)
    refine gq_for0 (ei_rng1 (n := (inner : Int)) (ea_cons (ev_var rfl) ea_nil) (by omega) (by omega)) (fun i G L => ∃ (v8 v9 v10 : Option D) (ls : List (List Nat)), G = [some (.int c), some (.int (s : Int)), some (.int (m : Int)), some (.ref dr), some (.int (inner : Int)), some (.int (ends : Int)), some (.int ((inner + ends : Nat) : Int)), some (.ref rr), v8, v9, v10, none, none] ∧ (dr, .lst (nD ns)) ∈ L ∧ (rr, .lst (ls.map fun l => rwD (.go l))) ∈ L ∧ ls.length = i ∧ ∀ j l, ls[j]? = some l → GdR s inner ends j l)
      ⟨none, none, none, [], rfl, List.mem_cons_of_mem _ md, List.mem_cons_self, rfl, fun j l h => nomatch h⟩ (fun _ _ _ _ => trivial) (fun st d G L hd hI => ?_) (fun G L hI => ?_)
    · obtain ⟨v8, v9, v10, ls, rfl, mD, mR, hls, hg⟩ := hI
      have hst : st < inner := by have h1 := (List.getElem?_eq_some_iff.mp hd).1; rw [rngD_len] at h1; omega
      rw [rngD_get (by omega)] at hd
      have hdi : d = .int (st : Int) := by rw [← Option.some.inj hd, Int.zero_add]
      subst hdi
      refine ⟨_, eg_name, ?_⟩
      let l0 : List Nat := (List.range s).map fun k => ns.getD (8 + (st * s + k) % 48) 0 % (inner + ends)
      refine gq_new (en_lcY (v := fun d => match d with | .int k => .int ((ns.getD (8 + (st * s + k.toNat) % 48) 0 % (inner + ends) : Nat) : Int) | _ => .non) (ei_rng1 (n := (s : Int)) (ea_cons (ev_var rfl) ea_nil) (by omega) (by omega)) (fun _ => trivial) (fun d hd => ?_) (by rw [rngD_len]; omega)) fun r => ?_
      · obtain ⟨k, hk⟩ := List.getElem?_of_mem hd
        have hks : k < s := by have h1 := (List.getElem?_eq_some_iff.mp hk).1; rw [rngD_len] at h1; omega
        rw [rngD_get (by omega)] at hk
        have hdk : d = .int (k : Int) := by rw [← Option.some.inj hk, Int.zero_add]
        subst hdk
        have hsm : st * s ≤ 36 := Nat.mul_le_mul (show st ≤ 6 by omega) hs2
        refine EvP.cast (ev_op (dat (i := 8 + (st * s + k) % 48) rfl mD (by omega) (EvP.cast (ev_op ev_int (ev_op (ev_op (ev_op (ev_var rfl) (ev_var rfl) (rv_mul (.inl ⟨by omega, by omega⟩))) (ev_var rfl) rv_add) ev_int (rv_mod (by decide))) rv_add) ?_)) (ev_var rfl) (rv_mod (by omega))) ?_
        · rfl
        · rw [cmod]
          rfl
      · have el0 : (rngD 0 (s : Int).toNat).map (fun d => match d with | .int k => D.int ((ns.getD (8 + (st * s + k.toNat) % 48) 0 % (inner + ends) : Nat) : Int) | _ => .non) = nD l0 := by
          unfold rngD nD
          rw [Int.toNat_natCast, List.map_map, List.map_map]
          refine List.map_congr_left fun k _ => ?_
          show D.int ((ns.getD (8 + (st * s + ((0 : Int) + (k : Int)).toNat) % 48) 0 % (inner + ends) : Nat) : Int) = D.int ((ns.getD (8 + (st * s + k) % 48) 0 % (inner + ends) : Nat) : Int)
          rw [Int.zero_add, Int.toNat_natCast]
        rw [el0]
        have l0l : l0.length = s := by show ((List.range s).map _).length = s; rw [List.length_map, List.length_range]
        have l0b : ∀ x ∈ l0, x < inner + ends := fun x hx => by obtain ⟨k, _, rfl⟩ := List.mem_map.mp hx; exact Nat.mod_lt _ (by omega)
        have sb : ∀ {l : List Nat} {j x : Nat}, (∀ y ∈ l, y < inner + ends) → x < inner + ends → ∀ y ∈ l.set j x, y < inner + ends := fun h hx y hy => (List.mem_or_eq_of_mem_set hy).elim (h y) fun e => e ▸ hx
        refine go_nd fun hnd => ?_
        have rne : rr ≠ r := fun e => (List.nodup_cons.mp hnd).1 (List.mem_map.mpr ⟨_, mR, e⟩)
        let Gx : Ga := [some (.int c), some (.int (s : Int)), some (.int (m : Int)), some (.ref dr), some (.int (inner : Int)), some (.int (ends : Int)), some (.int ((inner + ends : Nat) : Int)), some (.ref rr), some (.int (st : Int)), some (.ref r), v10, none, none]
        refine gq_ifJ (fun G' L' => ∃ l1 : List Nat, G' = Gx ∧ L' = (r, .lst (nD l1)) :: L ∧ l1.length = s ∧ (∀ x ∈ l1, x < inner + ends) ∧ (st + 1 < inner → l1[0]? = some (st + 1))) (et_test (ev_op (ev_var rfl) (ev_op (ev_var rfl) ev_int rv_sub) rv_lt)) (fun hb => ?_) (fun hb => ?_) (fun G' L' hM => ?_)
        · have hb' := of_decide_eq_true hb
          refine go_last (gq_setL (k := 0) (d := .int ((st + 1 : Nat) : Int)) (i := 0) (j := 0) (ev_op (ev_var rfl) ev_int rv_add) rfl (ev_var rfl) ev_int (ixN_of (j := 0) (by rw [nD_len]; omega)) (go_next ⟨l0.set 0 (st + 1), rfl, ?_, by rw [List.length_set]; exact l0l, sb l0b (by omega), fun _ => List.getElem?_set_self (by omega)⟩))
          rw [← nD_set]
          rfl
        · have hb' := of_decide_eq_false hb
          exact go_next ⟨l0, rfl, rfl, l0l, l0b, fun h => by omega⟩
        obtain ⟨l1, rfl, rfl, l1l, l1b, l1n⟩ := hM
        have ixs : ixN (nD l1).length (((s - 1 : Nat)) : Int) = some (s - 1) := ixN_of (by rw [nD_len]; omega)
        have es1 : ∀ {L : Hl}, EvP K H0 Gx L (tOp (rI0 fun i j => .int (i - j)) (tVar 1) (tC (.int 1))) (.int ((s - 1 : Nat) : Int)) := fun {L} => EvP.cast (ev_op (ev_var rfl) ev_int rv_sub) (by congr 1; omega)
        have keep0 : ∀ {x : Nat}, (st + 1 < inner → st + 1 ∈ l1.set (s - 1) x) := fun {x} h => by
          have := l1n h
          exact List.mem_of_getElem? (i := 0) (by rw [List.getElem?_set_ne (by omega)]; exact this)
        have put1 : ∀ {x : Nat}, x ∈ l1.set (s - 1) x := fun {x} => List.mem_of_getElem? (List.getElem?_set_self (by omega))
        refine gq_ifJ (fun G' L' => ∃ l2 : List Nat, G' = Gx ∧ L' = (r, .lst (nD l2)) :: L ∧ GdR s inner ends st l2) (et_test (ev_op (ev_var rfl) (ev_var rfl) rv_lt)) (fun hb => ?_) (fun hb => ?_) (fun G' L' hM => ?_)
        · have hb' := of_decide_eq_true hb
          refine go_last (gq_setL (k := 0) (d := .int ((inner + st : Nat) : Int)) (ev_op (ev_var rfl) (ev_var rfl) rv_add) rfl (ev_var rfl) es1 ixs (go_next ⟨l1.set (s - 1) (inner + st), rfl, ?_, ⟨by rw [List.length_set]; exact l1l, sb l1b (by omega), keep0, fun _ => put1, fun _ => ⟨_, put1, by omega⟩⟩⟩))
          rw [← nD_set]
          rfl
        · have hb' := of_decide_eq_false hb
          refine go_last (gq_if2 (et_test (ev_op (ev_var rfl) (ev_op (ev_var rfl) ev_int rv_sub) rv_eqI)) (fun hc => ?_) (fun hc => ?_))
          · have hc' := of_decide_eq_true hc
            refine gq_assoc (gq_setL (k := 0) (d := .int (inner : Int)) (ev_var rfl) rfl (ev_var rfl) es1 ixs (gq_nil (go_next ⟨l1.set (s - 1) inner, rfl, ?_, ⟨by rw [List.length_set]; exact l1l, sb l1b (by omega), keep0, fun h => by omega, fun _ => ⟨_, put1, Nat.le_refl _⟩⟩⟩)))
            rw [← nD_set]
            rfl
          · have hc' := of_decide_eq_false hc
            exact gq_nil (go_next ⟨l1, rfl, rfl, ⟨l1l, l1b, fun h => List.mem_of_getElem? (l1n h), fun h => by omega, fun h => by omega⟩⟩)
        obtain ⟨l2, rfl, rfl, g2⟩ := hM
        generalize hkk : ns.getD (2 + st) 0 % s = k
        have hk : k < s := by rw [← hkk]; exact Nat.mod_lt _ (by omega)
        refine gq_set (d := .int (k : Int)) (EvP.cast (ev_op (dat (i := 2 + st) rfl (List.mem_cons_of_mem _ mD) (by omega) (ev_op ev_int (ev_var rfl) rv_add)) (ev_var rfl) (rv_mod (by omega))) (by rw [cmod, hkk])) ?_
        obtain ⟨kR, hkR⟩ := List.getElem?_of_mem (List.mem_cons_of_mem (r, O.lst (nD l2)) mR)
        have mr2 : (r, O.lst (nD l2)) ∈ (r, O.lst (nD l2)) :: L := List.mem_cons_self
        refine go_last (gq_append (d := rwD (.go (l2.drop k ++ l2.take k))) hkR (ev_var rfl) (EvP.cast (ev_tupN (en_cat (el_new (en_slL (lo := some (k : Int)) (hi := none) (ev_var rfl) (.inl mr2) (eo_some (ev_var rfl)) eo_none)) (el_new (en_slL (lo := none) (hi := some (k : Int)) (ev_var rfl) (.inl mr2) eo_none (eo_some (ev_var rfl)))) ?_)) ?_) (by rw [List.length_map]; omega) (go_next ⟨_, _, _, ls ++ [l2.drop k ++ l2.take k], rfl, ?_, ?_, by rw [List.length_append, hls]; rfl, fun j l h => ?_⟩))
        · rw [cut_from (by rw [g2.len]; omega), cut_to (by rw [g2.len]; omega), nD_len, nD_len, List.length_drop, List.length_take, g2.len]; omega
        · rw [cut_from (by rw [g2.len]; omega), cut_to (by rw [g2.len]; omega), nD_app]
          rfl
        · exact hl_keep hkR (List.mem_cons_of_mem _ mD) rdn
        · have := hl_put (o' := .lst ((ls.map fun l => rwD (.go l)) ++ [rwD (.go (l2.drop k ++ l2.take k))])) hkR
          rw [List.map_append]
          exact this
        · by_cases hj : j < ls.length
          · rw [List.getElem?_append_left hj] at h
            exact hg j l h
          · rw [List.getElem?_append_right (by omega)] at h
            have hj0 : j - ls.length = 0 := by have := (List.getElem?_eq_some_iff.mp h).1; rw [List.length_singleton] at this; omega
            rw [hj0] at h
            cases h
            have : j = st := by omega
            subst this
            exact g2.rot k
    · obtain ⟨v8, v9, v10, ls, rfl, mD, mR, hls, hg⟩ := hI
      rw [rngD_len, Int.toNat_natCast] at hls
      let fs : List Nat := (List.range ends).map fun k => ns.getD (8 + k) 0 % m
      have fsl : fs.length = ends := by show ((List.range ends).map _).length = ends; rw [List.length_map, List.length_range]
      refine gq_retP (d := tbD (tab ls fs)) (EvP.cast (ev_tupN (en_cat (ys := (rngD 0 (ends : Int).toNat).map (fun d => match d with | .int k => D.int ((ns.getD (8 + k.toNat) 0 % m : Nat) : Int) | _ => .non)) (el_old (ev_var rfl) mR) (el_new (en_lcY _ (ei_rng1 (n := (ends : Int)) (ea_cons (ev_var rfl) ea_nil) (by omega) (by omega)) (fun _ => trivial) (fun d hd => ?_) (by rw [rngD_len]; omega))) ?_)) ?_) ⟨rfl, tab ls fs, _, rfl, tab_good hs1 hs2 hm1 hm2 hls hi1 (by omega) (by omega) (by omega) (by rw [fsl]; exact hg) (fun x hx => by obtain ⟨k, _, rfl⟩ := List.mem_map.mp hx; exact Nat.mod_lt _ (by omega))⟩
      · obtain ⟨k, hk⟩ := List.getElem?_of_mem hd
        have hks : k < ends := by have h1 := (List.getElem?_eq_some_iff.mp hk).1; rw [rngD_len] at h1; omega
        rw [rngD_get (by omega)] at hk
        have hdk : d = .int (k : Int) := by rw [← Option.some.inj hk, Int.zero_add]
        subst hdk
        refine EvP.cast (ev_op (dat (i := 8 + k) rfl mD (by omega) (ev_op ev_int (ev_var rfl) rv_add)) (ev_var rfl) (rv_mod (by omega))) ?_
        rw [cmod]
        rfl
      · rw [List.length_map, List.length_map, rngD_len]; omega
      · unfold tbD tab rngD
        rw [List.map_append, List.map_map, List.map_map, List.map_map, Int.toNat_natCast, List.map_map]
        congr 2
        refine List.map_congr_left fun k _ => ?_
        show D.int ((ns.getD (8 + ((0 : Int) + (k : Int)).toNat) 0 % m : Nat) : Int) = D.int ((ns.getD (8 + k) 0 % m : Nat) : Int)
        rw [Int.zero_add, Int.toNat_natCast]
end
end Fc

namespace Fc
open PySem PySem.Spec PyProof.Rows L2
/-! ## == of data made of ints, None and tuples -/
mutual
def pd : D → PyData
  | .non => .none
  | .bl b => .bool b
  | .int i => .int i
  | .str x => .str x
  | .tup ds => .tuple (pdl ds)
  | .ref _ => .none
  | .ty _ => .none
def pdl : List D → List PyData
  | [] => []
  | d :: ds => pd d :: pdl ds
end
mutual
def pok : Nat → D → Bool
  | _, .non => true
  | _, .int _ => true
  | n + 1, .tup ds => pokl n ds
  | _, _ => false
def pokl : Nat → List D → Bool
  | _, [] => true
  | n, d :: ds => pok n d && pokl n ds
end
theorem pokl_mem {n : Nat} : ∀ {ds : List D}, (∀ d ∈ ds, pok n d = true) → pokl n ds = true
  | [], _ => by rw [pokl]
  | d :: ds, h => by rw [pokl, h d List.mem_cons_self, pokl_mem fun x hx => h x (List.mem_cons_of_mem _ hx)]; rfl
theorem pok_tup {n : Nat} {ds : List D} (h : ∀ d ∈ ds, pok n d = true) : pok (n + 1) (.tup ds) = true := by rw [pok]; exact pokl_mem h
mutual
theorem pok_lay : ∀ (d : D) (n : Nat), pok n d = true → (pd d).canLay0 = true ∧ (pd d).depth ≤ n + 1
  | .non, n, _ => by simp [pd, PyData.canLay0, PyData.depth]
  | .int i, n, _ => by simp [pd, PyData.canLay0, PyData.depth]
  | .tup ds, 0, h => by simp [pok] at h
  | .tup ds, n + 1, h => by
    rw [pok] at h
    have := pokl_lay ds n h
    simp only [pd, PyData.canLay0, PyData.depth]
    exact ⟨this.1, by omega⟩
  | .bl b, n, h => by cases n <;> simp [pok] at h
  | .str b, n, h => by cases n <;> simp [pok] at h
  | .ref b, n, h => by cases n <;> simp [pok] at h
  | .ty b, n, h => by cases n <;> simp [pok] at h
theorem pokl_lay : ∀ (ds : List D) (n : Nat), pokl n ds = true → PyData.canLayAll0 (pdl ds) = true ∧ PyData.depthAll (pdl ds) ≤ n + 1
  | [], n, _ => by simp [pdl, PyData.canLayAll0, PyData.depthAll]
  | d :: ds, n, h => by
    rw [pokl, Bool.and_eq_true] at h
    have h1 := pok_lay d n h.1
    have h2 := pokl_lay ds n h.2
    simp only [pdl, PyData.canLayAll0, PyData.depthAll, Bool.and_eq_true]
    exact ⟨⟨h1.1, h2.1⟩, by omega⟩
end
mutual
theorem eqv_pd : ∀ (x y : D) (n m : Nat), pok n x = true → pok m y = true → (PyData.eqv (pd x) (pd y) = true ↔ x = y)
  | .non, y, n, m, _, hy => by cases y <;> cases m <;> simp [pd, PyData.eqv, pok] at hy ⊢
  | .int i, y, n, m, _, hy => by cases y <;> cases m <;> simp [pd, PyData.eqv, pok] at hy ⊢
  | .tup ds, y, 0, m, hx, _ => by simp [pok] at hx
  | .tup ds, y, n + 1, m, hx, hy => by
    cases y with
    | tup es =>
      cases m with
      | zero => simp [pok] at hy
      | succ m =>
        rw [pok] at hx hy
        have := eqvl_pd ds es n m hx hy
        simp only [pd, PyData.eqv]
        rw [this]
        exact ⟨fun h => by rw [h], fun h => D.tup.inj h⟩
    | _ => cases m <;> simp [pd, PyData.eqv, pok] at hy ⊢
  | .bl b, _, n, _, h, _ => by cases n <;> simp [pok] at h
  | .str b, _, n, _, h, _ => by cases n <;> simp [pok] at h
  | .ref b, _, n, _, h, _ => by cases n <;> simp [pok] at h
  | .ty b, _, n, _, h, _ => by cases n <;> simp [pok] at h
theorem eqvl_pd : ∀ (xs ys : List D) (n m : Nat), pokl n xs = true → pokl m ys = true → (PyData.eqvAll (pdl xs) (pdl ys) = true ↔ xs = ys)
  | [], ys, n, m, _, _ => by cases ys <;> simp [pdl, PyData.eqvAll]
  | x :: xs, [], n, m, _, _ => by simp [pdl, PyData.eqvAll]
  | x :: xs, y :: ys, n, m, hx, hy => by
    rw [pokl, Bool.and_eq_true] at hx hy
    have h1 := eqv_pd x y n m hx.1 hy.1
    have h2 := eqvl_pd xs ys n m hx.2 hy.2
    simp only [pdl, PyData.eqvAll, Bool.and_eq_true]
    rw [h1, h2]
    exact ⟨fun h => by rw [h.1, h.2], fun h => ⟨(List.cons.inj h).1, (List.cons.inj h).2⟩⟩
end
mutual
theorem dp_of {K : PySem.W.Frag} {H : Hp} : ∀ (d : D) (v : V) (n : Nat), pok n d = true → Im K H v d → Dp K H v (pd d)
  | .non, _, n, _, i => by cases i; exact .non
  | .int z, _, n, _, i => by cases i; exact .int z
  | .tup ds, _, 0, h, _ => by simp [pok] at h
  | .tup ds, _, n + 1, h, i => by
    rw [pok] at h
    cases i with
    | tup hq il => rw [pd]; exact .tup hq (dpl_of ds _ n h il)
  | .bl b, _, n, h, _ => by cases n <;> simp [pok] at h
  | .str b, _, n, h, _ => by cases n <;> simp [pok] at h
  | .ref b, _, n, h, _ => by cases n <;> simp [pok] at h
  | .ty b, _, n, h, _ => by cases n <;> simp [pok] at h
theorem dpl_of {K : PySem.W.Frag} {H : Hp} : ∀ (ds : List D) (vs : List V) (n : Nat), pokl n ds = true → ImL K H vs ds → DpAll K H vs (pdl ds)
  | [], _, n, _, i => by cases i; rw [pdl]; exact .nil
  | d :: ds, _, n, h, i => by
    rw [pokl, Bool.and_eq_true] at h
    cases i with
    | cons i1 i2 => rw [pdl]; exact .cons (dp_of d _ n h.1 i1) (dpl_of ds _ n h.2 i2)
end
theorem pok_sh {n : Nat} {d : D} (h : pok n d = true) (hn : n ≤ 60) : SeqAt.shaped (pd d) = true := by
  have := pok_lay d n h
  unfold SeqAt.shaped
  rw [Bool.and_eq_true]
  exact ⟨this.1, decide_eq_true (by omega)⟩
section
variable {K : PySem.W.Frag} {H0 : Hp} {L : Hl} {x y : D} {n m : Nat} {b : Bool}
theorem bool_of {b c : Bool} {p : Prop} (h : b = true ↔ p) (h' : c = true ↔ p) : b = c := by
  cases b <;> cases c <;> simp_all
theorem rv_eqD (hx : pok n x = true) (hy : pok m y = true) (hn : n ≤ 60) (hm : m ≤ 60) (hb : b = true ↔ x = y) : RvP K H0 L (rEqD K) x y (.bl b) := fun H u v s h1 h2 Q q => by
  refine ⟨_, _, dp_of x u n hx h1, dp_of y v m hy h2, pok_sh hx hn, pok_sh hy hm, ?_⟩
  rw [bool_of (eqv_pd x y n m hx hy) hb]
  exact q _ H (Same.refl H) (.bl _)
theorem rv_neD (hx : pok n x = true) (hy : pok m y = true) (hn : n ≤ 60) (hm : m ≤ 60) (hb : b = true ↔ x = y) : RvP K H0 L (rNeD K) x y (.bl (!b)) := fun H u v s h1 h2 Q q => by
  refine ⟨_, _, dp_of x u n hx h1, dp_of y v m hy h2, pok_sh hx hn, pok_sh hy hm, ?_⟩
  rw [bool_of (eqv_pd x y n m hx hy) hb]
  exact q _ H (Same.refl H) (.bl _)
end
end Fc

namespace Fc
open PySem PySem.Spec PyProof.Rows L2
section
variable {K : PySem.W.Frag} {H0 H H' : Hp} {G G' : Ga} {L L' N : Hl} {σ : L2.St} {te ta tb tc : TE} {d x y z : D} {ds xs ys : List D} {P R : D → Hl → Prop}
/-- tuple(..) of a new list of which something is known -/
theorem en_tupN2 {P : List D → Prop} (ha : EvN K H0 G L te R) (h : ∀ d N, R d N → ∃ a ds, d = .ref a ∧ N = [(a, O.lst ds)] ∧ P ds) : EvN K H0 G L (tCB (rTupOf K) (tCons te tNil)) (fun d N => ∃ ds, d = .tup ds ∧ N = [] ∧ P ds) := fun σ H st Q q =>
  ha σ H st _ fun v H1 d N m e1 hf hn ho i1 => by
    obtain ⟨a, ds, rfl, rfl, hp⟩ := h d N m
    exact rc_tupL (K := K) (H0 := H0) (L := (a, O.lst ds) :: L) (.inl List.mem_cons_self) H1 [v] (st.add e1 hf hn ho).hs (.cons i1 .nil) _ fun w H2 e2 i2 => q w H2 _ [] ⟨ds, rfl, rfl, hp⟩ (e1.trans e2) (fun _ z => nomatch z) .nil Hs.nil i2
/-- a tuple, of which something is known, walked -/
theorem ei_tupN {P : List D → Prop} (h : EvN K H0 G L te R) (hR : ∀ d N, R d N → ∃ ds, d = .tup ds ∧ N = [] ∧ P ds) : EvI K H0 G L (iTup K te) (fun ds W N => P ds ∧ W = (fun _ => True) ∧ N = []) := fun σ H st R q => h σ H st _ fun v H' d N m e hf hn ho i => by
  obtain ⟨ds, rfl, rfl, hp⟩ := hR d N m
  cases i with
  | @tup a xs _ hx il =>
    refine ⟨a, rfl, ⟨xs, hx⟩, q _ H' ds _ [] ⟨hp, rfl, rfl⟩ e (fun _ z => nomatch z) .nil Hs.nil ⟨fun i L H t s w hi => ?_, fun L H t s w => ?_, fun i L H x H' t s w hi y => ?_⟩⟩
    · have : i < xs.length := by rw [il.length]; exact hi
      exact ⟨xs, xs[i], SqT.tx t hx, List.getElem?_eq_getElem this⟩
    · exact ⟨xs, SqT.tx t hx, by rw [il.length]; exact Nat.le_refl _⟩
    · obtain ⟨rfl, y⟩ := y
      obtain ⟨d, hd, im⟩ := (il.tx t).get (y xs (SqT.tx t hx))
      exact ⟨Same.refl _, d, hd, im⟩
end
end Fc

namespace Fc
open PySem PySem.Spec PyProof.Rows L2
abbrev s__law_fraction : Stmt := top 59
theorem sc__law_fraction : FnScope ["_law_top", "_law_bottom", "_law_one", "_law_other", "_law_rest"] ["_law_top", "_law_bottom"] (defScope s__law_fraction) := ⟨rfl, rfl, rfl, by decide +kernel, rfl, by decide +kernel, by decide +kernel⟩
abbrev s__law_word : Stmt := top 62
theorem sc__law_word : FnScope ["_law_cell_here", "_law_sides", "_law_most"] ["_law_cell_here", "_law_sides", "_law_most"] (defScope s__law_word) := ⟨rfl, rfl, rfl, by decide +kernel, rfl, by decide +kernel, by decide +kernel⟩
abbrev s__law_is_average : Stmt := top 63
theorem sc__law_is_average : FnScope ["_law_value", "_law_later", "_law_outcome", "_law_left", "_law_other", "_law_one"] ["_law_value", "_law_later"] (defScope s__law_is_average) := ⟨rfl, rfl, rfl, by decide +kernel, rfl, by decide +kernel, by decide +kernel⟩
abbrev s__law_unit : Stmt := top 64
theorem sc__law_unit : FnScope ["_law_outcome", "_law_many", "_law_k"] ["_law_outcome", "_law_many"] (defScope s__law_unit) := ⟨rfl, rfl, rfl, by decide +kernel, rfl, by decide +kernel, by decide +kernel⟩
abbrev s__law_are_fractions : Stmt := top 65
theorem sc__law_are_fractions : FnScope ["_law_value", "_law_many", "_law_one", "_law_part"] ["_law_value", "_law_many"] (defScope s__law_are_fractions) := ⟨rfl, rfl, rfl, by decide +kernel, rfl, by decide +kernel, by decide +kernel⟩
abbrev s__law_is_one : Stmt := top 66
theorem sc__law_is_one : FnScope ["_law_value", "_law_top", "_law_bottom", "_law_one"] ["_law_value"] (defScope s__law_is_one) := ⟨rfl, rfl, rfl, by decide +kernel, rfl, by decide +kernel, by decide +kernel⟩
abbrev s_Chooser_chances : Stmt := inClass (top 55) 7
theorem sc_Chooser_chances : FnScope ["self"] ["self"] (defScope s_Chooser_chances) := ⟨rfl, rfl, rfl, by decide +kernel, rfl, by decide +kernel, by decide +kernel⟩
abbrev s_Hand_chances : Stmt := inClass (top 26) 4
theorem sc_Hand_chances : FnScope ["self"] ["self"] (defScope s_Hand_chances) := ⟨rfl, rfl, rfl, by decide +kernel, rfl, by decide +kernel, by decide +kernel⟩

def S_frac : FS := fun _ ds R => ∃ a b : Int, ds = [.int a, .int b] ∧ 0 < b ∧ b < 2 ^ 9000 ∧ R = Val (fr (mkRat a b.toNat))
def S_word : FS := fun _ ds R => ∃ (c : Int) (s k : Nat), ds = [.int c, .int (s : Int), .int (k : Int)] ∧ 2 ≤ s ∧ s ≤ 6 ∧ k ≤ 100 ∧ R = fun d N => ∃ w : List Nat, d = .tup (nD w) ∧ N = [] ∧ (∀ x ∈ w, x < s) ∧ w.length ≤ k
def S_unit : FS := fun _ ds R => ∃ (a m : Nat), ds = [.int (a : Int), .int (m : Int)] ∧ m ≤ 6 ∧ R = Val (.tup ((List.range m).map fun k => fr (if k = a then 1 else 0)))
/-- a row of fractions -/
abbrev frs (m : Nat) (f : Nat → Rat) : D := .tup ((List.range m).map fun o => fr (f o))
def S_arefr : FS := fun _ ds R => ∃ (m : Nat) (f : Nat → Rat), ds = [frs m f, .int (m : Int)] ∧ m ≤ 6 ∧ (∀ o, o < m → (f o).den < 2 ^ 4400) ∧ R = Val (.bl true)
def S_isone : FS := fun _ ds R => ∃ (m : Nat) (f : Nat → Rat), ds = [frs m f] ∧ m ≤ 6 ∧ (∀ o, o < m → S2 (f o)) ∧ sm m f = 1 ∧ R = Val (.bl true)
/-- rows whose common multiple is small -/
def S_aver : FS := fun Z ds R => ∃ (m s : Nat) (f : Nat → Rat) (g : Nat → Nat → Rat) (l : Addr) (e : Rat), ds = [frs m f, .ref l] ∧ Z = [(l, .lst ((List.range s).map fun j => frs m (g j)))] ∧ m ≤ 6 ∧ 1 ≤ s ∧ s ≤ 6 ∧ e ≠ 0 ∧ Iz e (2 ^ 896) ∧ (∀ j o, j < s → o < m → Iz (g j o * e) (2 ^ 896)) ∧ (∀ o, o < m → f o = sm s (fun j => g j o) / (s : Rat)) ∧ R = Val (.bl true)
def S_chch (CC : Addr) : FX := fun Y Z ds o => ∃ (c dx ans : Addr) (s m : Nat) (t : List Rw), ds = [.ref c] ∧ Y = [] ∧ Z = [(c, .ins CC dx (chF s m t ans)), (ans, .lst (ansD s m t))] ∧ Tb s m t ∧ o = .ret (Val (chs s m t 0))
def S_hdch (CF CH : Addr) : FX := fun Y Z ds o => ∃ (h dx fz dz ans : Addr) (s m : Nat) (t : List Rw) (w : List Nat), ds = [.ref h] ∧ Y = [] ∧ Z = hdZ CF CH h dx fz dz ans s t w ++ [(ans, .lst (ansD s m t))] ∧ Tb s m t ∧ o = .ret (Val (chs s m t (wk t 0 w)))
theorem fr_mk (r : Rat) : mkRat r.num ((r.den : Int)).toNat = r := by rw [Int.toNat_natCast, Rat.mkRat_self]
theorem pok_fr (r : Rat) : pok 1 (fr r) = true := rfl
theorem fr_inj {r q : Rat} (h : fr r = fr q) : r = q := by
  have h1 := D.tup.inj h
  have h2 := (List.cons.inj h1).1
  have h3 := (List.cons.inj (List.cons.inj h1).2).1
  exact Rat.ext (D.int.inj h2) (Int.natCast_inj.mp (D.int.inj h3))
theorem frs_get {m o : Nat} {f : Nat → Rat} (h : o < m) : ((List.range m).map fun o => fr (f o))[o]? = some (fr (f o)) := by
  rw [List.getElem?_map, List.getElem?_range h]
  rfl
theorem frs_of {m : Nat} {f : Nat → Rat} {i : Nat} {d : D} (h : ((List.range m).map fun o => fr (f o))[i]? = some d) : i < m ∧ d = fr (f i) := by
  have hi : i < m := by have := (List.getElem?_eq_some_iff.mp h).1; simpa using this
  rw [frs_get hi] at h
  exact ⟨hi, (Option.some.inj h).symm⟩
theorem frs_len {m : Nat} {f : Nat → Rat} : ((List.range m).map fun o => fr (f o)).length = m := by rw [List.length_map, List.length_range]
theorem frs_congr {m : Nat} {f g : Nat → Rat} (h : ∀ o, o < m → f o = g o) : frs m f = frs m g := by
  show D.tup _ = D.tup _
  congr 1
  refine List.map_congr_left fun o ho => ?_
  rw [h o (List.mem_range.mp ho)]
theorem chs_eq {s m : Nat} {t : List Rw} {i : Nat} : chs s m t i = frs m (fun o => X t.length (tabM s m t) o i) := by
  have e : kn t.length m (Xf t.length (tabM s m t) i) = ((List.range m).map fun o => fr (X t.length (tabM s m t) o i)) ++ [fr (X t.length (tabM s m t) m i)] := by
    have hX : ∀ o, Xf t.length (tabM s m t) i (t.length + o) = X t.length (tabM s m t) o i := fun o => by unfold Xf; rw [Nat.add_sub_cancel_left]
    unfold kn
    rw [List.range_succ, List.map_append]
    congr 1
    · exact List.map_congr_left fun o _ => by rw [hX]
    · show [fr (Xf t.length (tabM s m t) i (t.length + m))] = _
      rw [hX]
  unfold chs
  rw [e, cut_last]
theorem X_z {s m : Nat} {t : List Rw} {d : Nat → Nat} (T : Tb s m t) (r : Rk t d) : ∃ e : Rat, e ≠ 0 ∧ Iz e (2 ^ 896) ∧ ∀ o i, i < t.length → Iz (X t.length (tabM s m t) o i * e) (2 ^ 896) :=
  ⟨_, sd_ne T.fit (T.sup r) (Nat.le_refl _), (sd_iz T.fit (Nat.le_refl _)).mono (Nat.le_of_lt (sb_lt T.s2 T.n2)), fun o i hi => (X_iz T.fit (T.sup r) o i hi).mono (Nat.le_of_lt (Nat.lt_of_le_of_lt (Nat.mul_le_mul_right _ (by omega)) (bq_lt T.s2 T.n2)))⟩
/-- a fraction whose multiple by e is whole -/
theorem iz_sz {r e : Rat} {b : Nat} (he : e ≠ 0) (h1 : Iz e (2 ^ 896)) (h2 : Iz (r * e) b) : r.num.natAbs ≤ b ∧ r.den ≤ 2 ^ 896 := size_of he h1 h2
section
variable {P : Program} {w : World} {K : PySem.W.Frag} {mg : Str → Option Value} {base : Heap} {CC CF CH SE DE NE : Addr}
theorem ok__law_fraction (B : Bl mg) (F : FunG K mg "_law_fraction" s__law_fraction)  : Pf P w K mg base "_law_fraction" 1 S_frac := by
  refine pf_mk F sc__law_fraction (fun _ _ _ _ _ _ us hl => match us, hl with | [_, _], _ => rfl) (fun Z ds R h => by obtain ⟨a, b, rfl, _⟩ := h; rfl) (fun f cdv A outer s H E hr => ⟨_, (pss_cons (ps_set (i := 2) sc__law_fraction.nd rfl (.inl rfl) (pe_abs (K := K) rfl rfl B rfl (pa_cons (pv 0) pa_nil))) (pss_cons (ps_set (i := 3) sc__law_fraction.nd rfl (.inl rfl) (pv 1)) (pss_cons (ps_while PassesOwn.never (pt_cmpR op_gt (pv 3) pe_int (nomark _)) (pss_cons (ps_set (i := 4) sc__law_fraction.nd rfl (.inl rfl) (pe_op op_mod (pv 2) (pv 3))) (pss_cons (ps_set (i := 2) sc__law_fraction.nd rfl (.inl rfl) (pv 3)) (pss_cons (ps_set (i := 3) sc__law_fraction.nd rfl (.inl rfl) (pv 4)) pss_nil)))) (pss_cons (ps_ret (pe_tup (pa_cons (pe_op op_fdivW (pv 0) (pv 2)) (pa_cons (pe_op op_fdivW (pv 1) (pv 2)) pa_nil)))) pss_nil)))), fun Z ds R H0 hz hS => ?_⟩)
  obtain ⟨a, b, rfl, hb0, hb, rfl⟩ := hS
  refine gq_set (d := .int (a.natAbs : Int)) (EvP.cast (ev_cb (ea_cons (ev_var rfl) ea_nil) rc_abs) (by congr 1; split <;> omega)) (gq_set (ev_var rfl) ?_)
  refine gq_while (m0 := b.toNat) (fun y G L => ∃ (x : Nat) (v : Option D), G = [some (.int a), some (.int b), some (.int (x : Int)), some (.int (y : Int)), v] ∧ Nat.gcd x y = Int.gcd a b ∧ L = []) ⟨a.natAbs, none, ?_, ?_, rfl⟩
    (fun G L => ∃ v, G = [some (.int a), some (.int b), some (.int (Int.gcd a b)), some (.int 0), v] ∧ L = []) (fun y G L hW => ?_) (fun G L hM => ?_)
  · show [some (D.int a), some (D.int b), some (D.int (a.natAbs : Int)), some (D.int b), none] = _
    rw [show ((b.toNat : Nat) : Int) = b by omega]
  · rw [show b.toNat = b.natAbs by omega]; rfl
  · obtain ⟨x, v, rfl, hg, rfl⟩ := hW
    refine ⟨_, et_test (ev_op (ev_var rfl) ev_int rv_gt), fun hb => ?_, fun hb => ?_⟩
    · have hy : 0 < y := by have := of_decide_eq_true hb; omega
      refine gq_set (ev_op (ev_var rfl) (ev_var rfl) (rv_mod (by omega))) (gq_set (ev_var rfl) (gq_set (ev_var rfl) (gq_nil (go_next ?_))))
      refine ⟨x % y, Nat.mod_lt _ hy, y, some (.int ((x : Int) % (y : Int))), ?_, ?_, rfl⟩
      · show [some (D.int a), some (D.int b), some (D.int (y : Int)), some (D.int ((x : Int) % (y : Int))), some (D.int ((x : Int) % (y : Int)))] = _
        rw [← Int.natCast_emod]
      · rw [natgcd_step x y hy, hg]
    · have hy : y = 0 := by have := of_decide_eq_false hb; omega
      subst hy
      rw [← hg, Nat.gcd_zero_right]
      exact ⟨v, rfl, rfl⟩
  · obtain ⟨v, rfl, rfl⟩ := hM
    have g1 := gcd_pos a b hb0
    have g2 := gcd_le_right a b hb0
    have dv : ∀ i, CDivW i (Int.gcd a b : Int) := fun i => by
      refine wide_div (b := 9000) (by omega) ?_ (by decide) (by decide)
      have : (2 : Int) ^ 9000 = ((2 ^ 9000 : Nat) : Int) := by norm_cast
      omega
    refine gq_retP (EvP.cast (ev_tup (ea_cons (ev_op (ev_var rfl) (ev_var rfl) (rv_fdivW (dv _))) (ea_cons (ev_op (ev_var rfl) (ev_var rfl) (rv_fdivW (dv _))) ea_nil)) (by show 2 ≤ 100000; decide)) ?_) rfl
    unfold fr
    rw [num_mk a b hb0, den_mk a b hb0]
theorem ok__law_word (B : Bl mg) (F : FunG K mg "_law_word" s__law_word) (hDr : Pf P w K mg base "_law_draws" 1 S_draws) : Pf P w K mg base "_law_word" 2 S_word := by
  refine pf_mk F sc__law_word (fun _ _ _ _ _ _ us hl => match us, hl with | [_, _, _], _ => rfl) (fun Z ds R h => by obtain ⟨c, s, k, rfl, _⟩ := h; rfl) (fun f cdv A outer s H E hr => ⟨_, (pss_cons (ps_ret (pe_tuple (K := K) rfl rfl B rfl (pa_cons (pe_pf hDr hr (by decide) rfl (pa_cons (pe_op op_fdivW (pv 0) (pe_op op_add (pv 2) pe_int)) (pa_cons (pe_op op_rep (pe_lst (pa_cons (pv 1) pa_nil)) (pe_op op_mod (pv 0) (pe_op op_add (pv 2) pe_int))) pa_nil))) pa_nil))) pss_nil), fun Z ds R H0 hz hS => ?_⟩)
  obtain ⟨c, s, k, rfl, hs1, hs2, hk, rfl⟩ := hS
  obtain ⟨n, hn, en⟩ := mod_nat (c := c) (z := k + 1) (by omega)
  have ek : ((k : Int) + 1) = ((k + 1 : Nat) : Int) := by omega
  have m1 : EvP K H0 [some (D.int c), some (.int (s : Int)), some (.int (k : Int))] [] (tOp (rI0 fun i j => .int (i + j)) (tVar 2) (tC (.int 1))) (.int ((k + 1 : Nat) : Int)) := EvP.cast (ev_op (ev_var rfl) ev_int rv_add) (by rw [ek])
  refine go_last ?_
  refine gq_ret (en_tupN2 (P := fun ds => ∃ w : List Nat, ds = nD w ∧ (∀ x ∈ w, x < s) ∧ w.length ≤ k) (en_callN (Z := []) (R := fun d N => ∃ ns, Dws (List.replicate n s) ns ∧ New1 (.lst (nD ns)) d N) (ean_pn (ev_op (ev_var rfl) m1 (rv_fdivW (wide_div (b := 60) (by omega) (by omega) (by decide) (by decide)))) (en_rep (k := n) (xs := nD [s]) (el_new (en_lst (ea_cons (ev_var rfl) ea_nil) (by show 1 ≤ 100000; decide))) (EvP.cast (ev_op (ev_var rfl) m1 (rv_mod (by omega))) (by rw [en])) (by rw [nD_len]; show 1 * n ≤ 100000; omega) (by omega))) (fun ds N h => ?_) noZ) fun d N h => ?_) fun d N h => ?_
  · obtain ⟨y, rfl, a, rfl, rfl⟩ := h
    refine ⟨_, a, List.replicate n s, rfl, ?_, fun z hz => ?_, by rw [List.length_replicate]; omega, rfl⟩
    · have : (List.replicate n (nD [s])).flatten = nD (List.replicate n s) := by
        clear en hn
        induction n with
        | zero => rfl
        | succ n ih => rw [List.replicate_succ, List.flatten_cons, ih, List.replicate_succ]; rfl
      rw [this]
      rfl
    · rw [List.eq_of_mem_replicate hz]; omega
  · obtain ⟨ns, dw, a, rfl, rfl⟩ := h
    have hl : ns.length = n := by rw [dw.len, List.length_replicate]
    refine ⟨a, nD ns, rfl, rfl, ns, rfl, fun x hx => ?_, by omega⟩
    obtain ⟨i, hi⟩ := List.getElem?_of_mem hx
    have hin : i < n := by have := (List.getElem?_eq_some_iff.mp hi).1; omega
    exact dw.lt i x s hi (by rw [List.getElem?_replicate, if_pos hin])
  · obtain ⟨_, rfl, rfl, w, rfl, h1, h2⟩ := h
    exact ⟨[], List.nil_sublist _, w, rfl, rfl, h1, h2⟩
theorem ok__law_unit (B : Bl mg) (F : FunG K mg "_law_unit" s__law_unit)  : Pf P w K mg base "_law_unit" 1 S_unit := by
  refine pf_mk F sc__law_unit (fun _ _ _ _ _ _ us hl => match us, hl with | [_, _], _ => rfl) (fun Z ds R h => by obtain ⟨a, m, rfl, _⟩ := h; rfl) (fun f cdv A outer s H E hr => ⟨_, (pss_cons (ps_ret (pe_tuple (K := K) rfl rfl B rfl (pa_cons (pe_lc (own := [("_law_k", 2)]) (g := gName 2) rfl sc__law_unit.nd (pi_range1 rfl B.range (pa_cons (pv 1) pa_nil)) (blkOk_by (own := [("_law_k", 2)]) (N := ["_law_outcome", "_law_many", "_law_k"]) (sc := defScope (s__law_unit)) (by decide +kernel)) (fun _ _ _ _ _ => (pg_name (i := 2) sc__law_unit.nd rfl (.inl rfl))) (fun _ _ _ _ _ => pts_nil) (fun _ _ _ _ _ => (pe_tup (pa_cons (pe_int1 (K := K) rfl rfl B rfl (pa_cons (pe_cmpR op_eq (pv 2) (pv 0) (nomark _)) pa_nil)) (pa_cons pe_int pa_nil))))) pa_nil))) pss_nil), fun Z ds R H0 hz hS => ?_⟩)
  obtain ⟨a, m, rfl, hm, rfl⟩ := hS
  refine gq_retP (EvP.cast (ev_tupN (en_lcY (v := fun d => match d with | .int k => fr (if k.toNat = a then 1 else 0) | _ => .non) (ei_rng1 (n := (m : Int)) (ea_cons (ev_var rfl) ea_nil) (by omega) (by omega)) (fun _ => trivial) (fun d hd => ?_) (by rw [rngD_len]; omega))) ?_) rfl
  · obtain ⟨k, hk⟩ := List.getElem?_of_mem hd
    have hks : k < m := by have h1 := (List.getElem?_eq_some_iff.mp hk).1; rw [rngD_len] at h1; omega
    rw [rngD_get (by omega)] at hk
    have hdk : d = .int (k : Int) := by rw [← Option.some.inj hk, Int.zero_add]
    subst hdk
    refine EvP.cast (ev_tup (ea_cons (ev_cb (ea_cons (ev_op (ev_var rfl) (ev_var rfl) rv_eqI) ea_nil) rc_intB) (ea_cons ev_int ea_nil)) (by show 2 ≤ 100000; decide)) ?_
    show D.tup [.int (if decide ((k : Int) = (a : Int)) = true then 1 else 0), .int 1] = fr (if ((k : Int)).toNat = a then 1 else 0)
    rw [Int.toNat_natCast]
    by_cases e : k = a
    · rw [if_pos e, if_pos (decide_eq_true (by omega))]; rfl
    · rw [if_neg e, if_neg (by rw [decide_eq_false (by omega)]; exact Bool.false_ne_true)]; rfl
  · unfold rngD
    rw [Int.toNat_natCast, List.map_map]
    congr 1
    refine List.map_congr_left fun k _ => ?_
    show fr (if ((0 : Int) + (k : Int)).toNat = a then 1 else 0) = _
    rw [Int.zero_add, Int.toNat_natCast]
theorem ok__law_are_fractions (B : Bl mg) (F : FunG K mg "_law_are_fractions" s__law_are_fractions) (hFr : Pf P w K mg base "_law_fraction" 1 S_frac) : Pf P w K mg base "_law_are_fractions" 2 S_arefr := by
  refine pf_mk F sc__law_are_fractions (fun _ _ _ _ _ _ us hl => match us, hl with | [_, _], _ => rfl) (fun Z ds R h => by obtain ⟨m, f, rfl, _⟩ := h; rfl) (fun f cdv A outer s H E hr => ⟨_, (pss_cons (ps_if (PW.pt (pw_or (pt_not (pt_val (pe_isi (K := K) rfl rfl B rfl (pa_cons (pv 0) (pa_cons (pe_tyT rfl B rfl) pa_nil))))) (pw_or1 (pt_cmpR op_ne (pe_len (K := K) rfl rfl B rfl (pa_cons (pv 0) pa_nil)) (pv 1) (nomark _))))) (pss_cons (ps_ret pe_bl) pss_nil) pss_nil) (pss_cons (ps_for PassesOwn.never rfl (pi_tupK (K := K) rfl (pv 0)) (pg_name (i := 2) sc__law_are_fractions.nd rfl (.inl rfl)) (pss_cons (ps_if (PW.pt (pw_or (pt_not (pt_val (pe_isi (K := K) rfl rfl B rfl (pa_cons (pv 2) (pa_cons (pe_tyT rfl B rfl) pa_nil))))) (pw_or1 (pt_cmpR op_ne (pe_len (K := K) rfl rfl B rfl (pa_cons (pv 2) pa_nil)) pe_int (nomark _))))) (pss_cons (ps_ret pe_bl) pss_nil) pss_nil) (pss_cons (ps_for PassesOwn.never rfl (pi_tupK (K := K) rfl (pv 2)) (pg_name (i := 3) sc__law_are_fractions.nd rfl (.inl rfl)) (pss_cons (ps_if (PW.pt (pw_or (pt_not (pt_val (pe_isi (K := K) rfl rfl B rfl (pa_cons (pv 3) (pa_cons (pe_tyI rfl B rfl) pa_nil))))) (pw_or1 (pt_val (pe_isi (K := K) rfl rfl B rfl (pa_cons (pv 3) (pa_cons (pe_tyB rfl B rfl) pa_nil))))))) (pss_cons (ps_ret pe_bl) pss_nil) pss_nil) pss_nil)) (pss_cons (ps_if (PW.pt (pw_or (pt_cmpR op_lt (pe_ixT (K := K) rfl (pv 2) pe_int (fun _ _ => rfl)) pe_int (nomark _)) (pw_or1 (pt_cmpR (op_neK (K := K) rfl hr.units) (pe_pf hFr hr (by decide) rfl (pa_cons (pe_ixT (K := K) rfl (pv 2) pe_int (fun _ _ => rfl)) (pa_cons (pe_ixT (K := K) rfl (pv 2) pe_int (fun _ _ => rfl)) pa_nil))) (pv 2) (nomark _))))) (pss_cons (ps_ret pe_bl) pss_nil) pss_nil) pss_nil)))) (pss_cons (ps_ret pe_bl) pss_nil))), fun Z ds R H0 hz hS => ?_⟩)
  obtain ⟨m, f, rfl, hm, hf, rfl⟩ := hS
  refine gq_ifL (b := false) (et_or (b := false) (c := false) (et_not (tt := tB _) (et_B (b := true) (ev_isTupB (ev_var rfl) rfl rfl))) (fun _ => EvT.cast (et_test (ev_op (ev_cb (ea_cons (ev_var rfl) ea_nil) rc_lenT) (ev_var rfl) rv_neI)) (by rw [frs_len, decide_eq_true rfl]; rfl))) (fun h => by cases h) (fun _ => ?_)
  refine gq_for0 (ei_tup (ev_var rfl)) (fun i G L => ∃ v2 v3, G = [some (frs m f), some (.int (m : Int)), v2, v3] ∧ L = []) ⟨none, none, rfl, rfl⟩ (fun _ _ _ _ => trivial) (fun i d G L hd hI => ?_) (fun G L hI => ?_)
  · obtain ⟨v2, v3, rfl, rfl⟩ := hI
    obtain ⟨him, rfl⟩ := frs_of hd
    have hr' := hf i him
    generalize f i = r at hr'
    refine ⟨_, eg_name, ?_⟩
    refine gq_ifL (b := false) (et_or (b := false) (c := false) (et_not (tt := tB _) (et_B (b := true) (ev_isTupB (ev_var rfl) rfl rfl))) (fun _ => EvT.cast (et_test (ev_op (ev_cb (ea_cons (ev_var rfl) ea_nil) rc_lenT) ev_int rv_neI)) rfl)) (fun h => by cases h) (fun _ => ?_)
    refine gq_for0 (ei_tup (ds := [.int r.num, .int r.den]) (ev_var rfl)) (fun j G L => ∃ v3, G = [some (frs m f), some (.int (m : Int)), some (fr r), v3] ∧ L = []) ⟨v3, rfl, rfl⟩ (fun _ _ _ _ => trivial) (fun j d G L hd hI => ?_) (fun G L hI => ?_)
    · obtain ⟨v3, rfl, rfl⟩ := hI
      refine ⟨_, eg_name, ?_⟩
      obtain ⟨z, rfl⟩ : ∃ z : Int, d = .int z := by
        have := List.mem_of_getElem? hd
        simp only [List.mem_cons, List.not_mem_nil, or_false] at this
        rcases this with e | e <;> exact ⟨_, e⟩
      exact go_last (gq_ifL (b := false) (et_or (b := false) (c := false) (et_not (tt := tB _) (et_B (b := true) (EvP.cast (ev_isInt (d := .int z) (ev_var rfl) rfl) rfl))) (fun _ => et_B (EvP.cast (ev_isBool (d := .int z) (ev_var rfl) rfl) rfl))) (fun h => by cases h) (fun _ => go_next ⟨_, rfl, rfl⟩))
    · obtain ⟨v3, rfl, rfl⟩ := hI
      have d0 : 1 ≤ r.den := Nat.pos_of_ne_zero r.den_nz
      have p9 : (r.den : Int) < 2 ^ 9000 := by
        have h1 : r.den < 2 ^ 9000 := Nat.lt_of_lt_of_le hr' (Nat.pow_le_pow_right (by omega) (by omega))
        have : (2 : Int) ^ 9000 = ((2 ^ 9000 : Nat) : Int) := by norm_cast
        omega
      refine go_last (gq_ifL (b := false) (et_or (b := false) (c := false) (EvT.cast (et_test (ev_op (ev_op (ev_var rfl) ev_int (rv_ixT (z := .int (r.den : Int)) rfl)) ev_int rv_lt)) (decide_eq_false (by omega))) (fun _ => EvT.cast (et_test (ev_op (ev_call (ea_cons (ev_op (ev_var rfl) ev_int (rv_ixT (z := .int r.num) rfl)) (ea_cons (ev_op (ev_var rfl) ev_int (rv_ixT (z := .int (r.den : Int)) rfl)) ea_nil)) ⟨r.num, (r.den : Int), rfl, by omega, p9, rfl⟩) (ev_var rfl) (rv_neD (b := true) (pok_fr _) (pok_fr r) (by decide) (by decide) ⟨fun _ => by rw [fr_mk], fun _ => rfl⟩))) rfl)) (fun h => by cases h) (fun _ => go_next ⟨_, _, rfl, rfl⟩))
  · exact gq_retP ev_bl rfl
theorem sz_step {top bot p q : Int} {i : Nat} (h1 : top.natAbs < 2 ^ (2001 * (i + 1))) (h2 : bot.natAbs < 2 ^ (2001 * (i + 1))) (hp : p.natAbs < 2 ^ 2000) (hq : q.natAbs < 2 ^ 2000) : (top * q + p * bot).natAbs < 2 ^ (2001 * (i + 1 + 1)) ∧ (bot * q).natAbs < 2 ^ (2001 * (i + 1 + 1)) := by
  have e : 2001 * (i + 1 + 1) = 2001 * (i + 1) + 2000 + 1 := by omega
  rw [e, Nat.pow_succ, Nat.pow_add]
  have a1 : (top * q).natAbs < 2 ^ (2001 * (i + 1)) * 2 ^ 2000 := by rw [Int.natAbs_mul]; exact Nat.mul_lt_mul'' h1 hq
  have a2 : (p * bot).natAbs < 2 ^ (2001 * (i + 1)) * 2 ^ 2000 := by rw [Int.natAbs_mul, Nat.mul_comm]; exact Nat.mul_lt_mul'' h2 hp
  have a3 : (bot * q).natAbs < 2 ^ (2001 * (i + 1)) * 2 ^ 2000 := by rw [Int.natAbs_mul]; exact Nat.mul_lt_mul'' h2 hq
  have a4 := Int.natAbs_add_le (top * q) (p * bot)
  generalize 2 ^ (2001 * (i + 1)) * 2 ^ 2000 = B at *
  omega
theorem ok__law_is_one (B : Bl mg) (F : FunG K mg "_law_is_one" s__law_is_one)  : Pf P w K mg base "_law_is_one" 1 S_isone := by
  refine pf_mk F sc__law_is_one (fun _ _ _ _ _ _ us hl => match us, hl with | [_], _ => rfl) (fun Z ds R h => by obtain ⟨m, f, rfl, _⟩ := h; rfl) (fun f cdv A outer s H E hr => ⟨_, (pss_cons (ps_set (i := 1) sc__law_is_one.nd rfl (.inl rfl) pe_int) (pss_cons (ps_set (i := 2) sc__law_is_one.nd rfl (.inl rfl) pe_int) (pss_cons (ps_for PassesOwn.never rfl (pi_tupK (K := K) rfl (pv 0)) (pg_name (i := 3) sc__law_is_one.nd rfl (.inl rfl)) (pss_cons (ps_set (i := 1) sc__law_is_one.nd rfl (.inl rfl) (pe_op op_add (pe_op op_mulW (pv 1) (pe_ixT (K := K) rfl (pv 3) pe_int (fun _ _ => rfl))) (pe_op op_mulW (pe_ixT (K := K) rfl (pv 3) pe_int (fun _ _ => rfl)) (pv 2)))) (pss_cons (ps_set (i := 2) sc__law_is_one.nd rfl (.inl rfl) (pe_op op_mulW (pv 2) (pe_ixT (K := K) rfl (pv 3) pe_int (fun _ _ => rfl)))) pss_nil))) (pss_cons (ps_ret (pe_cmpR op_eq (pv 1) (pv 2) (nomark _))) pss_nil)))), fun Z ds R H0 hz hS => ?_⟩)
  obtain ⟨m, f, rfl, hm, hf, h1, rfl⟩ := hS
  refine gq_set ev_int (gq_set ev_int ?_)
  refine gq_for0 (ei_tup (ev_var rfl)) (fun i G L => ∃ (top bot : Int) (v3 : Option D), G = [some (frs m f), some (.int top), some (.int bot), v3] ∧ L = [] ∧ 0 < bot ∧ (top : Rat) = sm i f * (bot : Rat) ∧ top.natAbs < 2 ^ (2001 * (i + 1)) ∧ bot.natAbs < 2 ^ (2001 * (i + 1))) ⟨0, 1, none, rfl, rfl, by decide, by show (0 : Rat) = 0 * 1; grind, by rw [Int.natAbs_zero]; exact Nat.pow_pos (by decide), by show 1 < 2 ^ (2001 * 1); exact Nat.one_lt_two_pow (by decide)⟩ (fun _ _ _ _ => trivial) (fun i d G L hd hI => ?_) (fun G L hI => ?_)
  · obtain ⟨top, bot, v3, rfl, rfl, hb0, he, s1, s2⟩ := hI
    obtain ⟨him, rfl⟩ := frs_of hd
    obtain ⟨q1, q2⟩ := hf i him
    have hsm : sm (i + 1) f = sm i f + f i := rfl
    generalize f i = r at q1 q2 hsm
    have q2' : ((r.den : Int)).natAbs < 2 ^ 2000 := by simpa using q2
    have cm : ∀ x y : Int, x.natAbs < 2 ^ (2001 * (i + 1)) → y.natAbs < 2 ^ 2000 → CMulW x y := fun x y hx hy => wide_mul hx hy (by omega) (by decide) (by omega)
    have cm2 : ∀ x y : Int, x.natAbs < 2 ^ 2000 → y.natAbs < 2 ^ (2001 * (i + 1)) → CMulW x y := fun x y hx hy => wide_mul hx hy (by decide) (by omega) (by omega)
    refine ⟨_, eg_name, ?_⟩
    refine gq_set (d := .int (top * (r.den : Int) + r.num * bot)) (ev_op (ev_op (ev_var rfl) (ev_op (ev_var rfl) ev_int (rv_ixT (z := .int (r.den : Int)) rfl)) (rv_mulW (cm _ _ s1 q2'))) (ev_op (ev_op (ev_var rfl) ev_int (rv_ixT (z := .int r.num) rfl)) (ev_var rfl) (rv_mulW (cm2 _ _ q1 s2))) rv_add) ?_
    have ss := sz_step s1 s2 q1 q2'
    refine go_last (gq_set (d := .int (bot * (r.den : Int))) (ev_op (ev_var rfl) (ev_op (ev_var rfl) ev_int (rv_ixT (z := .int (r.den : Int)) rfl)) (rv_mulW (cm _ _ s2 q2'))) (go_next ⟨_, _, _, rfl, rfl, Int.mul_pos hb0 (by have := r.den_nz; omega), ?_, ss.1, ss.2⟩))
    have hr : r * (r.den : Rat) = (r.num : Rat) := mul_den r
    rw [hsm, Rat.intCast_add, Rat.intCast_mul, Rat.intCast_mul, Rat.intCast_mul, he, ← hr, Rat.intCast_natCast]
    grind
  · obtain ⟨top, bot, v3, rfl, rfl, hb0, he, s1, s2⟩ := hI
    rw [frs_len, h1, Rat.one_mul] at he
    have : top = bot := Rat.intCast_inj.mp he
    refine gq_retP (EvP.cast (ev_op (ev_var rfl) (ev_var rfl) rv_eqI) ?_) rfl
    rw [decide_eq_true this]
theorem p2_lt {a b : Nat} (h : a ≤ 2 ^ b) : a < 2 ^ (b + 1) := Nat.lt_of_le_of_lt h (by rw [Nat.pow_succ]; have := Nat.pow_pos (n := b) (show 0 < 2 by decide); omega)
theorem cast_p (n : Nat) : ((2 ^ n : Nat) : Int) = (2 : Int) ^ n := by norm_cast
theorem rows_get {m s j : Nat} {g : Nat → Nat → Rat} (h : j < s) : ((List.range s).map fun j => frs m (g j))[j]? = some (frs m (g j)) := by
  rw [List.getElem?_map, List.getElem?_range h]
  rfl
theorem ok__law_is_average (B : Bl mg) (F : FunG K mg "_law_is_average" s__law_is_average) (hFr : Pf P w K mg base "_law_fraction" 1 S_frac) : Pf P w K mg base "_law_is_average" 2 S_aver := by
  refine pf_mk F sc__law_is_average (fun _ _ _ _ _ _ us hl => match us, hl with | [_, _], _ => rfl) (fun Z ds R h => by obtain ⟨m, s, f, g, l, e, rfl, _⟩ := h; rfl) (fun f cdv A outer s H E hr => ⟨_, (pss_cons (ps_for PassesOwn.never rfl (pi_range1 rfl B.range (pa_cons (pe_len (K := K) rfl rfl B rfl (pa_cons (pv 0) pa_nil)) pa_nil)) (pg_name (i := 2) sc__law_is_average.nd rfl (.inl rfl)) (pss_cons (ps_set (i := 3) sc__law_is_average.nd rfl (.inl rfl) (pe_tup (pa_cons pe_int (pa_cons pe_int pa_nil)))) (pss_cons (ps_for PassesOwn.never rfl (pi_listK (K := K) rfl (pv 1)) (pg_name (i := 4) sc__law_is_average.nd rfl (.inl rfl)) (pss_cons (ps_set (i := 5) sc__law_is_average.nd rfl (.inl rfl) (pe_ixT (K := K) rfl (pv 4) (pv 2) (fun _ _ => rfl))) (pss_cons (ps_set (i := 3) sc__law_is_average.nd rfl (.inl rfl) (pe_pf hFr hr (by decide) rfl (pa_cons (pe_op op_add (pe_op op_mulW (pe_ixT (K := K) rfl (pv 3) pe_int (fun _ _ => rfl)) (pe_ixT (K := K) rfl (pv 5) pe_int (fun _ _ => rfl))) (pe_op op_mulW (pe_ixT (K := K) rfl (pv 5) pe_int (fun _ _ => rfl)) (pe_ixT (K := K) rfl (pv 3) pe_int (fun _ _ => rfl)))) (pa_cons (pe_op op_mulW (pe_ixT (K := K) rfl (pv 3) pe_int (fun _ _ => rfl)) (pe_ixT (K := K) rfl (pv 5) pe_int (fun _ _ => rfl))) pa_nil)))) pss_nil))) (pss_cons (ps_if (pt_cmpR (op_neK (K := K) rfl hr.units) (pe_pf hFr hr (by decide) rfl (pa_cons (pe_ixT (K := K) rfl (pv 3) pe_int (fun _ _ => rfl)) (pa_cons (pe_op op_mulW (pe_ixT (K := K) rfl (pv 3) pe_int (fun _ _ => rfl)) (pe_len (K := K) rfl rfl B rfl (pa_cons (pv 1) pa_nil))) pa_nil))) (pe_ixT (K := K) rfl (pv 0) (pv 2) (fun _ _ => rfl)) (nomark _)) (pss_cons (ps_ret pe_bl) pss_nil) pss_nil) pss_nil)))) (pss_cons (ps_ret pe_bl) pss_nil)), fun Z ds R H0 hz hS => ?_⟩)
  obtain ⟨m, s, f, g, l, e, rfl, rfl, hm, hs1, hs, he0, hez, hg, hfg, rfl⟩ := hS
  have lk : ∀ L, Lk K H0 L l (.lst ((List.range s).map fun j => frs m (g j))) := fun L => .inr (hz _ List.mem_cons_self)
  have part : ∀ o, o < m → ∀ j, j ≤ s → (sm j fun j => g j o).num.natAbs ≤ 6 * 2 ^ 896 ∧ (sm j fun j => g j o).den ≤ 2 ^ 896 := fun o ho j hj => by
    have h1 : Iz ((sm j fun j => g j o) * e) (j * 2 ^ 896) := by
      rw [← sm_mul_right]
      exact Iz.sm fun i hi => hg i o (by omega) ho
    have := size_of he0 hez (h1.mono (Nat.mul_le_mul_right (2 ^ 896) (show j ≤ 6 by omega)))
    exact this
  have one : ∀ o, o < m → ∀ j, j < s → (g j o).num.natAbs ≤ 2 ^ 896 ∧ (g j o).den ≤ 2 ^ 896 := fun o ho j hj => size_of he0 hez (hg j o hj ho)
  have pp : (6 : Nat) * 2 ^ 896 < 2 ^ 899 := by decide +kernel
  have p9 : (2 : Nat) ^ 896 * 2 ^ 896 < 2 ^ 9000 := by rw [← Nat.pow_add]; exact Nat.pow_lt_pow_right (by decide) (by decide)
  have e9 : (2 : Int) ^ 9000 = ((2 ^ 9000 : Nat) : Int) := (cast_p 9000).symm
  refine gq_for0 (ei_rng1 (n := (m : Int)) (ea_cons (EvP.cast (ev_cb (ea_cons (ev_var rfl) ea_nil) rc_lenT) (by rw [frs_len])) ea_nil) (by omega) (by omega)) (fun i G L => ∃ v2 v3 v4 v5, G = [some (frs m f), some (.ref l), v2, v3, v4, v5] ∧ L = []) ⟨none, none, none, none, rfl, rfl⟩ (fun _ _ _ _ => trivial) (fun o d G L hd hI => ?_) (fun G L hI => ?_)
  · obtain ⟨v2, v3, v4, v5, rfl, rfl⟩ := hI
    have ho : o < m := by have h1 := (List.getElem?_eq_some_iff.mp hd).1; rw [rngD_len] at h1; omega
    rw [rngD_get (by omega)] at hd
    have hdi : d = .int (o : Int) := by rw [← Option.some.inj hd, Int.zero_add]
    subst hdi
    refine ⟨_, eg_name, ?_⟩
    refine gq_set (d := fr 0) (ev_tup (ea_cons ev_int (ea_cons ev_int ea_nil)) (by show 2 ≤ 100000; decide)) ?_
    refine gq_for0 (ei_list (ev_var rfl) (lk _)) (fun j G L => ∃ v4 v5, G = [some (frs m f), some (.ref l), some (.int (o : Int)), some (fr (sm j fun j => g j o)), v4, v5] ∧ L = []) ⟨v4, v5, rfl, rfl⟩ (fun _ _ _ _ => lk _) (fun j d G L hd hI => ?_) (fun G L hI => ?_)
    · obtain ⟨v4, v5, rfl, rfl⟩ := hI
      have hj : j < s := by have h1 := (List.getElem?_eq_some_iff.mp hd).1; rw [List.length_map, List.length_range] at h1; omega
      rw [rows_get hj] at hd
      cases hd
      have a1 := part o ho j (by omega)
      have a2 := one o ho j hj
      have hsm : sm (j + 1) (fun j => g j o) = (sm j fun j => g j o) + g j o := rfl
      generalize hq : (sm j fun j => g j o) = q at a1 hsm
      have gg : (List.map (fun o => fr (g j o)) (List.range m))[o]? = some (fr (g j o)) := frs_get ho
      generalize g j o = r at a2 hsm gg
      have b1 : q.num.natAbs < 2 ^ 899 := Nat.lt_of_le_of_lt a1.1 pp
      have b2 : ((q.den : Int)).natAbs < 2 ^ 899 := by simpa using Nat.lt_of_le_of_lt a1.2 (Nat.pow_lt_pow_right (by decide) (by decide) : (2 : Nat) ^ 896 < 2 ^ 899)
      have b3 : r.num.natAbs < 2 ^ 899 := Nat.lt_of_le_of_lt a2.1 (Nat.pow_lt_pow_right (by decide) (by decide) : (2 : Nat) ^ 896 < 2 ^ 899)
      have b4 : ((r.den : Int)).natAbs < 2 ^ 899 := by simpa using Nat.lt_of_le_of_lt a2.2 (Nat.pow_lt_pow_right (by decide) (by decide) : (2 : Nat) ^ 896 < 2 ^ 899)
      have cm : ∀ x y : Int, x.natAbs < 2 ^ 899 → y.natAbs < 2 ^ 899 → CMulW x y := fun x y hx hy => wide_mul hx hy (by decide) (by decide) (by decide)
      have d1 : 0 < (q.den : Int) := by have := q.den_nz; omega
      have d2 : 0 < (r.den : Int) := by have := r.den_nz; omega
      have dd : (q.den : Int) * (r.den : Int) < 2 ^ 9000 := by
        rw [e9]
        have h1 : q.den * r.den < 2 ^ 9000 := Nat.lt_of_le_of_lt (Nat.mul_le_mul a1.2 a2.2) p9
        have h2 : (q.den : Int) * (r.den : Int) = ((q.den * r.den : Nat) : Int) := (Int.natCast_mul _ _).symm
        rw [h2]
        exact Int.ofNat_lt.mpr h1
      refine ⟨_, eg_name, ?_⟩
      refine gq_set (d := fr r) (ev_op (ev_var rfl) (ev_var rfl) (rv_ixT (atN gg))) ?_
      refine go_last (gq_set (d := fr (q + r)) (EvP.cast (ev_call (ea_cons (ev_op (ev_op (ev_op (ev_var rfl) ev_int (rv_ixT (z := .int q.num) rfl)) (ev_op (ev_var rfl) ev_int (rv_ixT (z := .int (r.den : Int)) rfl)) (rv_mulW (cm _ _ b1 b4))) (ev_op (ev_op (ev_var rfl) ev_int (rv_ixT (z := .int r.num) rfl)) (ev_op (ev_var rfl) ev_int (rv_ixT (z := .int (q.den : Int)) rfl)) (rv_mulW (cm _ _ b3 b2))) rv_add) (ea_cons (ev_op (ev_op (ev_var rfl) ev_int (rv_ixT (z := .int (q.den : Int)) rfl)) (ev_op (ev_var rfl) ev_int (rv_ixT (z := .int (r.den : Int)) rfl)) (rv_mulW (cm _ _ b2 b4))) ea_nil)) ⟨_, _, rfl, Int.mul_pos d1 d2, dd, rfl⟩) (by rw [add_mk])) (go_next ⟨some (frs m (g j)), some (fr r), ?_, rfl⟩))
      rw [hsm]
      rfl
    · obtain ⟨v4, v5, rfl, rfl⟩ := hI
      rw [List.length_map, List.length_range]
      have a1 := part o ho s (Nat.le_refl _)
      have hf' := hfg o ho
      generalize hq : (sm s fun j => g j o) = q at a1 hf'
      have b2 : ((q.den : Int)).natAbs < 2 ^ 899 := by simpa using Nat.lt_of_le_of_lt a1.2 (Nat.pow_lt_pow_right (by decide) (by decide) : (2 : Nat) ^ 896 < 2 ^ 899)
      have d1 : 0 < (q.den : Int) := by have := q.den_nz; omega
      have ds : (q.den : Int) * (s : Int) < 2 ^ 9000 := by
        rw [e9]
        have h1 : q.den * s < 2 ^ 9000 := Nat.lt_of_le_of_lt (Nat.mul_le_mul a1.2 (show s ≤ 2 ^ 896 from Nat.le_trans hs (by decide +kernel))) p9
        have h2 : (q.den : Int) * (s : Int) = ((q.den * s : Nat) : Int) := (Int.natCast_mul _ _).symm
        rw [h2]
        exact Int.ofNat_lt.mpr h1
      have ff : (List.map (fun o => fr (f o)) (List.range m))[o]? = some (fr (f o)) := frs_get ho
      have ev : mkRat q.num ((q.den : Int) * (s : Int)).toNat = f o := by
        have h2 : ((q.den : Int) * (s : Int)).toNat = q.den * s := by rw [← Int.natCast_mul, Int.toNat_natCast]
        rw [h2, hf', Rat.mkRat_eq_div, Rat.natCast_mul, Rat.div_def, Rat.div_def, Rat.inv_mul_rev]
        have hr : q * (q.den : Rat) = (q.num : Rat) := mul_den q
        have hd : (q.den : Rat) ≠ 0 := fun z => q.den_nz (Rat.natCast_eq_zero_iff.mp z)
        rw [← hr]
        have := Rat.mul_inv_cancel _ hd
        grind
      refine go_last (gq_ifL (b := false) (EvT.cast (et_test (ev_op (ev_call (ea_cons (ev_op (ev_var rfl) ev_int (rv_ixT (z := .int q.num) rfl)) (ea_cons (ev_op (ev_op (ev_var rfl) ev_int (rv_ixT (z := .int (q.den : Int)) rfl)) (EvP.cast (ev_cb (ea_cons (ev_var rfl) ea_nil) (rc_lenL (lk _))) (by rw [List.length_map, List.length_range])) (rv_mulW (wide_mul b2 (show ((s : Int)).natAbs < 2 ^ 10 by omega) (by decide) (by decide) (by decide)))) ea_nil)) ⟨_, _, rfl, Int.mul_pos d1 (by omega), ds, rfl⟩) (ev_op (ev_var rfl) (ev_var rfl) (rv_ixT (atN ff))) (rv_neD (b := true) (pok_fr _) (pok_fr _) (by decide) (by decide) ⟨fun _ => by rw [ev], fun _ => rfl⟩))) rfl) (fun h => by cases h) (fun _ => go_next ⟨_, _, _, _, rfl, rfl⟩))
  · obtain ⟨v2, v3, v4, v5, rfl, rfl⟩ := hI
    exact gq_retP ev_bl rfl
theorem ok_Chooser_chances (B : Bl mg) (F : PropG K CC "chances" "Chooser.chances" s_Chooser_chances) (Kc : Kl K CC CF CH) : Pp P w K mg base CC "chances" 1 (S_chch CC) := by
  refine pp_mk F sc_Chooser_chances (fun _ _ _ _ _ _ us hl => match us, hl with | [_], _ => rfl) (fun Y Z ds o h => by obtain ⟨c, dx, ans, s, m, t, rfl, _⟩ := h; rfl) (fun f cdv A outer s H E hr => ⟨_, (pss_cons (ps_ret (pe_slice (sl_tupK (K := K) rfl) (pe_ixL (K := K) rfl (pe_fldK (K := K) rfl (pv 0) rfl) pe_int (fun _ _ => rfl)) po_none (po_some (pe_un un_neg pe_int)))) pss_nil), fun Y Z ds o H0 hY hz hS hE => ?_⟩)
  obtain ⟨c, dx, ans, s, m, t, rfl, rfl, rfl, T, rfl⟩ := hS
  have lk : ∀ L, Lk K H0 L c (.ins CC dx (chF s m t ans)) := fun L => .inr (hz _ List.mem_cons_self)
  have la : ∀ L, Lk K H0 L ans (.lst (ansD s m t)) := fun L => .inr (hz _ (List.mem_cons_of_mem _ List.mem_cons_self))
  exact gq_retP (ev_slT (lo := none) (hi := some (-1)) (ev_op (ev_fld (ev_var rfl) (lk _) Kc.ch.cls (Kc.ch.no _ (by simp)) rfl) ev_int (rv_ixL (la _) (atN (j := 0) (ans_get T.n1)))) eo_none (eo_some (ev_un1 ev_int))) rfl
theorem ok_Hand_chances (B : Bl mg) (F : PropG K CH "chances" "Hand.chances" s_Hand_chances) (Kc : Kl K CC CF CH) : Pp P w K mg base CH "chances" 1 (S_hdch CF CH) := by
  refine pp_mk F sc_Hand_chances (fun _ _ _ _ _ _ us hl => match us, hl with | [_], _ => rfl) (fun Y Z ds o h => by obtain ⟨h, dx, fz, dz, ans, s, m, t, w, rfl, _⟩ := h; rfl) (fun f cdv A outer s H E hr => ⟨_, (pss_cons (ps_ret (pe_slice (sl_tupK (K := K) rfl) (pe_ixL (K := K) rfl (pe_fldK (K := K) rfl (pe_fldK (K := K) rfl (pv 0) rfl) rfl) (pe_ixT (K := K) rfl (pe_fldK (K := K) rfl (pv 0) rfl) (pe_un un_neg pe_int) (fun _ _ => rfl)) (fun _ _ => rfl)) po_none (po_some (pe_un un_neg pe_int)))) pss_nil), fun Y Z ds o H0 hY hz hS hE => ?_⟩)
  obtain ⟨h, dx, fz, dz, ans, s, m, t, w, rfl, rfl, rfl, T, rfl⟩ := hS
  have lh : ∀ L, Lk K H0 L h (.ins CH dx (hdF t fz w)) := fun L => .inr (hz _ List.mem_cons_self)
  have lf : ∀ L, Lk K H0 L fz (.ins CF dz (fzF s t ans)) := fun L => .inr (hz _ (List.mem_cons_of_mem _ List.mem_cons_self))
  have la : ∀ L, Lk K H0 L ans (.lst (ansD s m t)) := fun L => .inr (hz _ (List.mem_cons_of_mem _ (List.mem_cons_of_mem _ List.mem_cons_self)))
  exact gq_retP (ev_slT (lo := none) (hi := some (-1)) (ev_op (ev_fld (ev_fld (ev_var rfl) (lh _) Kc.hd.cls (Kc.hd.no _ (by simp)) rfl) (lf _) Kc.fz.cls (Kc.fz.no _ (by simp)) rfl) (ev_op (ev_fld (ev_var rfl) (lh _) Kc.hd.cls (Kc.hd.no _ (by simp)) rfl) (ev_un1 ev_int) (rv_ixT (atM (nD_last (pths_last t 0 w))))) (rv_ixL (la _) (atN (ans_get (wk_lt T (w := w) T.n1))))) eo_none (eo_some (ev_un1 ev_int))) rfl
end
end Fc

namespace Fc
open PySem PySem.Spec PyProof.Rows L2
abbrev s_law : Stmt := top 67
theorem sc_law : FnScope ["_law_script", "_law_sides", "_law_many", "_law_table_here", "_law_chooser", "_law_made", "_law_side", "_law_k", "_law_later", "_law_other", "_law_value"] ["_law_script"] (defScope s_law) := ⟨rfl, rfl, rfl, by decide +kernel, rfl, by decide +kernel, by decide +kernel⟩

theorem pln_frs {m n : Nat} {f : Nat → Rat} (hm : m ≤ 6) : pln (n + 2) (frs m f) = true := by
  show (((List.range m).map fun o => fr (f o)).all (pln (n + 1)) && decide (((List.range m).map fun o => fr (f o)).length ≤ 2000)) = true
  rw [Bool.and_eq_true]
  refine ⟨List.all_eq_true.mpr fun d hd => ?_, decide_eq_true (by rw [frs_len]; omega)⟩
  obtain ⟨o, _, rfl⟩ := List.mem_map.mp hd
  cases n <;> rfl
def S_law : FS := fun Z ds R => ∃ (l : Addr) (ns : List Int), ds = [.ref l] ∧ Z = [(l, .lst (ns.map D.int))] ∧ ns.length ≤ 63 ∧ R = Val (.bl true)
theorem pok_frs {m : Nat} {f : Nat → Rat} : pok 2 (frs m f) = true := pok_tup fun d hd => by
  obtain ⟨o, _, rfl⟩ := List.mem_map.mp hd
  rfl
section
variable {P : Program} {w : World} {K : PySem.W.Frag} {mg : Str → Option Value} {base : Heap} {CC CF CH SE DE NE : Addr}
theorem ok_law (B : Bl mg) {f : Addr} {fd : FuncData} (F : Fun K "law" "law" s_law f fd) (Kc : Kl K CC CF CH) (hLc : Pf P w K mg base "_law_cell" 1 S_cell) (hTb : Pf P w K mg base "_law_table" 2 S_table) (hSm : Pf P w K mg base "_law_is_same" 4 (S_same 3)) (hWo : Pf P w K mg base "_law_word" 2 S_word) (hAr : Pf P w K mg base "_law_are_fractions" 2 S_arefr) (hIo : Pf P w K mg base "_law_is_one" 1 S_isone) (hAv : Pf P w K mg base "_law_is_average" 2 S_aver) (hUt : Pf P w K mg base "_law_unit" 1 S_unit) (hCi : Pk P w K mg base "Chooser" CC 7 (S_chinit CC)) (hHi : Pk P w K mg base "Hand" CH 3 (S_hdinit CC CF CH)) (hCc : Pp P w K mg base CC "chances" 1 (S_chch CC)) (hHc : Pp P w K mg base CH "chances" 1 (S_hdch CF CH)) (hWd : Pp P w K mg base CH "word" 1 (S_hdget CF CH fun t w => .tup (nD w))) (hOc : Pp P w K mg base CH "outcome" 1 (S_hdget CF CH fun t w => ocD t (wk t 0 w))) (hTr : Px P w K mg base CH "tried" 4 (S_tr CF CH SE DE)) (hTh : Px P w K mg base CH "throw" 5 (S_th CF CH SE DE)) (hUn : Px P w K mg base CH "undo" 2 (S_un CF CH NE)) : FnOk P w K mg base CX0 9 f fd ["_law_script"] (spF K S_law) := by
  refine fn_mkF F sc_law (fun Z ds R h => by obtain ⟨l, ns, rfl, _⟩ := h; rfl) (fun f cdv A outer s H E hr => ⟨_, (pss_cons (ps_set (i := 1) sc_law.nd rfl (.inl rfl) (pe_op op_add pe_int (pe_op op_mod (pe_pf hLc hr (by decide) rfl (pa_cons (pv 0) (pa_cons pe_int pa_nil))) pe_int))) (pss_cons (ps_set (i := 2) sc_law.nd rfl (.inr rfl) (pe_op op_add pe_int (pe_op op_mod (pe_op op_fdiv (pe_pf hLc hr (by decide) rfl (pa_cons (pv 0) (pa_cons pe_int pa_nil))) pe_int) pe_int))) (pss_cons (ps_set (i := 3) sc_law.nd rfl (.inl rfl) (pe_pf hTb hr (by decide) rfl (pa_cons (pe_pf hLc hr (by decide) rfl (pa_cons (pv 0) (pa_cons pe_int pa_nil))) (pa_cons (pv 1) (pa_cons (pv 2) pa_nil))))) (pss_cons (ps_set (i := 4) sc_law.nd rfl (.inl rfl) (pe_mk hCi hr (by decide) passL rfl (pa_cons (pv 1) (pa_cons (pv 2) (pa_cons (pv 3) pa_nil))))) (pss_cons (ps_set (i := 5) sc_law.nd rfl (.inr rfl) (pe_mk hHi hr (by decide) passL rfl (pa_cons (pv 4) pa_nil))) (pss_cons (ps_for PassesOwn.never rfl (pi_tupK (K := K) rfl (pe_pf hWo hr (by decide) rfl (pa_cons (pe_pf hLc hr (by decide) rfl (pa_cons (pv 0) (pa_cons pe_int pa_nil))) (pa_cons (pv 1) (pa_cons pe_int pa_nil))))) (pg_name (i := 6) sc_law.nd rfl (.inl rfl)) (pss_cons (ps_if (PW.pt (pw_or (pt_not (pt_val (pe_pf hAr hr (by decide) rfl (pa_cons (pe_pp hHc Kc.hd.cls hr (by decide) passL (pv 5)) (pa_cons (pv 2) pa_nil))))) (pw_or1 (pt_not (pt_val (pe_pf hIo hr (by decide) rfl (pa_cons (pe_pp hHc Kc.hd.cls hr (by decide) passL (pv 5)) pa_nil))))))) (pss_cons (ps_ret pe_bl) pss_nil) pss_nil) (pss_cons (ps_if (pt_cmp (pc_isN (pe_pp hOc Kc.hd.cls hr (by decide) passL (pv 5)))) (pss_cons (ps_setLc (i := 8) (own := [("_law_other", 9)]) (g := gName 9) rfl sc_law.nd rfl rfl (sw_true rfl rfl rfl (by decide +kernel)) (pi_range1 rfl B.range (pa_cons (pv 1) pa_nil)) (blkOk_by (own := [("_law_other", 9)]) (N := ["_law_script", "_law_sides", "_law_many", "_law_table_here", "_law_chooser", "_law_made", "_law_side", "_law_k", "_law_later", "_law_other", "_law_value"]) (sc := defScope (s_law)) (by decide +kernel)) (fun _ _ _ _ _ => (pg_name (i := 9) sc_law.nd rfl (.inl rfl))) (fun _ _ _ _ _ => pts_nil) (fun _ _ _ _ _ => (pe_mx hTr Kc.hd.cls hr (by decide) passL (pv 5) (pa_cons (pe_tup (pa_cons (pv 9) pa_nil)) pa_nil)))) (pss_cons (ps_if (pt_not (pt_val (pe_all (K := K) rfl rfl B rfl rfl (pa_cons (pe_lc (own := [("_law_value", 10)]) (g := gName 10) rfl sc_law.nd (pi_listK (K := K) rfl (pv 8)) (blkOk_by (own := [("_law_value", 10)]) (N := ["_law_script", "_law_sides", "_law_many", "_law_table_here", "_law_chooser", "_law_made", "_law_side", "_law_k", "_law_later", "_law_other", "_law_value"]) (sc := defScope (s_law)) (by decide +kernel)) (fun _ _ _ _ _ => (pg_name (i := 10) sc_law.nd rfl (.inl rfl))) (fun _ _ _ _ _ => pts_nil) (fun _ _ _ _ _ => (pe_pf hAr hr (by decide) rfl (pa_cons (pv 10) (pa_cons (pv 2) pa_nil))))) pa_nil)))) (pss_cons (ps_ret pe_bl) pss_nil) pss_nil) (pss_cons (ps_if (pt_not (pt_val (pe_pf hAv hr (by decide) rfl (pa_cons (pe_pp hHc Kc.hd.cls hr (by decide) passL (pv 5)) (pa_cons (pv 8) pa_nil))))) (pss_cons (ps_ret pe_bl) pss_nil) pss_nil) (pss_cons (ps_expr (pe_mx hTh Kc.hd.cls hr (by decide) passL (pv 5) (pa_cons (pv 6) pa_nil))) (pss_cons (ps_if (pt_not (pt_val (pe_pf hSm hr (by decide) rfl (pa_cons (pe_pp hHc Kc.hd.cls hr (by decide) passL (pv 5)) (pa_cons (pe_ixL (K := K) rfl (pv 8) (pv 6) (fun _ _ => rfl)) pa_nil))))) (pss_cons (ps_ret pe_bl) pss_nil) pss_nil) pss_nil))))) pss_nil) pss_nil))) (pss_cons (ps_if (PW.pt (pw_and (pt_cmp (pc_notN (pe_pp hOc Kc.hd.cls hr (by decide) passL (pv 5)))) (pw_and1 (pt_cmpR (op_neK (K := K) rfl hr.units) (pe_pp hHc Kc.hd.cls hr (by decide) passL (pv 5)) (pe_pf hUt hr (by decide) rfl (pa_cons (pe_pp hOc Kc.hd.cls hr (by decide) passL (pv 5)) (pa_cons (pv 2) pa_nil))) (nomark _))))) (pss_cons (ps_ret pe_bl) pss_nil) pss_nil) (pss_cons (ps_for PassesOwn.never rfl (pi_range1 rfl B.range (pa_cons (pe_len (K := K) rfl rfl B rfl (pa_cons (pe_pp hWd Kc.hd.cls hr (by decide) passL (pv 5)) pa_nil)) pa_nil)) (pg_name (i := 7) sc_law.nd rfl (.inl rfl)) (pss_cons (ps_expr (pe_mx0 hUn Kc.hd.cls hr (by decide) passL (pv 5))) pss_nil)) (pss_cons (ps_ret (pe_pf hSm hr (by decide) rfl (pa_cons (pe_pp hHc Kc.hd.cls hr (by decide) passL (pv 5)) (pa_cons (pe_pp hCc Kc.ch.cls hr (by decide) passL (pv 4)) pa_nil)))) pss_nil))))))))), fun Z ds R H0 hz hS => ?_⟩)
  obtain ⟨l, ns, rfl, rfl, hnl, rfl⟩ := hS
  have lk : ∀ L, Lk K H0 L l (.lst (ns.map D.int)) := fun L => .inr (hz _ List.mem_cons_self)
  have cell : ∀ {G : Ga} {L : Hl} {te : TE} (k : Nat), G[0]? = some (some (.ref l)) → EvP K H0 G L te (.int (k : Int)) → EvP K H0 G L (tCall (spF K S_cell) [] E0 (tCons (tVar 0) (tCons te tNil))) (.int (ns.getD k 0)) := fun k hg he => ev_callR (Z := [(l, .lst (ns.map D.int))]) (ea_cons (ev_var hg) (ea_cons he ea_nil)) ⟨l, ns, k, rfl, rfl, rfl⟩ (fun p hp => by rw [List.mem_singleton.mp hp]; exact lk _)
  obtain ⟨r1, hr1, er1⟩ := mod_nat (c := ns.getD 0 0) (z := 5) (by decide)
  obtain ⟨r2, hr2, er2⟩ := mod_nat (c := ns.getD 0 0 / 5) (z := 6) (by decide)
  generalize hss : 2 + r1 = s
  generalize hmm : 1 + r2 = m
  refine gq_set (d := .int (s : Int)) (EvP.cast (ev_op ev_int (ev_op (cell 0 rfl ev_int) ev_int (rv_mod (by decide))) rv_add) (by rw [← hss]; congr 1; omega)) ?_
  refine gq_set (d := .int (m : Int)) (EvP.cast (ev_op ev_int (ev_op (ev_op (cell 0 rfl ev_int) ev_int (rv_fdiv ⟨by decide, by decide⟩)) ev_int (rv_mod (by decide))) rv_add) (by rw [← hmm]; congr 1; omega)) ?_
  refine gq_setN (en_call (ea_cons (cell 1 rfl ev_int) (ea_cons (ev_var rfl) (ea_cons (ev_var rfl) ea_nil))) ⟨ns.getD 1 0, s, m, rfl, by omega, by omega, by omega, by omega, rfl⟩ noZ) fun d N hN => ?_
  obtain ⟨rfl, t, dd, rfl, gt⟩ := hN
  have TT := gt.tb
  have RK := gt.rk
  refine ⟨_, eg_name, ?_⟩
  refine gq_setN (P := fun d N => ∃ c cdx ans, d = .ref c ∧ N = [(c, .ins CC cdx (chF s m t ans)), (ans, .lst (ansD s m t))]) (en_makeX (Z := []) (ea_cons (ev_var rfl) (ea_cons (ev_var rfl) (ea_cons (ev_var rfl) ea_nil))) (fun x dx => ⟨_, ⟨x, CC, dx, s, m, t, dd, rfl, rfl, rfl, TT, gt.rk, gt.ra, rfl⟩, fun d N h => by obtain ⟨rfl, ans, rfl⟩ := h; exact ⟨rfl, _, _, rfl, x, dx, ans, rfl, rfl⟩⟩) noZ (fun p hp => nomatch hp)) fun d N hN => ?_
  obtain ⟨c, cdx, ans, rfl, rfl⟩ := hN
  refine ⟨_, eg_name, ?_⟩
  have mc : (c, O.ins CC cdx (chF s m t ans)) ∈ [(c, O.ins CC cdx (chF s m t ans)), (ans, O.lst (ansD s m t))] := List.mem_cons_self
  refine gq_setN (P := fun d N => ∃ h hdx fz dz, d = .ref h ∧ N = [(h, .ins CH hdx (hdF t fz [])), (fz, .ins CF dz (fzF s t ans))]) (en_makeX (Z := [(c, .ins CC cdx (chF s m t ans))]) (ea_cons (ev_var rfl) ea_nil) (fun x dx => ⟨_, ⟨x, CH, dx, c, cdx, ans, s, m, t, rfl, rfl, rfl, rfl, rfl⟩, fun d N h => by obtain ⟨rfl, fz, dz, rfl⟩ := h; exact ⟨rfl, _, _, rfl, x, dx, fz, dz, rfl, rfl⟩⟩) (fun p hp => by rw [List.mem_singleton.mp hp]; exact .inl mc) (fun p hp es e => by rw [List.mem_singleton.mp hp] at e; cases e)) fun d N hN => ?_
  obtain ⟨h, hdx, fz, dz, rfl, rfl⟩ := hN
  refine ⟨_, eg_name, ?_⟩
  have ft := TT.fit
  have su := TT.sup RK
  have cs2 : ∀ (w : List Nat) (o : Nat), S2 (X t.length (tabM s m t) o (wk t 0 w)) := fun w o => X_s2 ft su TT.s2 TT.n2 o (wk_lt TT TT.n1)
  have p44 : (2 : Nat) ^ 2000 < 2 ^ 4400 := Nat.pow_lt_pow_right (by decide) (by decide)
  -- what is asked of a hand at hand
  have ask : ∀ {L : Hl} {w : List Nat}, (h, .ins CH hdx (hdF t fz w)) ∈ L → (fz, .ins CF dz (fzF s t ans)) ∈ L → (ans, .lst (ansD s m t)) ∈ L → ∀ p ∈ hdZ CF CH h hdx fz dz ans s t w ++ [(ans, .lst (ansD s m t))], Lk K H0 L p.1 p.2 := fun mh mf ma p hp => by
    simp only [List.mem_append, List.mem_cons, List.not_mem_nil, or_false] at hp
    rcases hp with (rfl | rfl) | rfl
    · exact .inl mh
    · exact .inl mf
    · exact .inl ma
  have pch : ∀ {G : Ga} {L : Hl} {w : List Nat}, G[5]? = some (some (.ref h)) → (h, .ins CH hdx (hdF t fz w)) ∈ L → (fz, .ins CF dz (fzF s t ans)) ∈ L → (ans, .lst (ansD s m t)) ∈ L → EvP K H0 G L (tProp CH (spX K (S_hdch CF CH)) [] E0 (tVar 5)) (chs s m t (wk t 0 w)) := fun hg mh mf ma => EvN.ev (en_propX (ev_var hg) (.inl mh) ⟨h, hdx, fz, dz, ans, s, m, t, _, rfl, rfl, rfl, TT, rfl⟩ (ask mh mf ma))
  have pwd : ∀ {G : Ga} {L : Hl} {w : List Nat}, G[5]? = some (some (.ref h)) → (h, .ins CH hdx (hdF t fz w)) ∈ L → (fz, .ins CF dz (fzF s t ans)) ∈ L → (ans, .lst (ansD s m t)) ∈ L → EvP K H0 G L (tProp CH (spX K (S_hdget CF CH fun t w => .tup (nD w))) [] E0 (tVar 5)) (.tup (nD w)) := fun hg mh mf ma => EvN.ev (en_propX (ev_var hg) (.inl mh) ⟨h, hdx, fz, dz, ans, s, m, t, _, rfl, rfl, rfl, TT, rfl⟩ fun p hp => ask mh mf ma p (List.mem_append_left _ hp))
  have poc : ∀ {G : Ga} {L : Hl} {w : List Nat}, G[5]? = some (some (.ref h)) → (h, .ins CH hdx (hdF t fz w)) ∈ L → (fz, .ins CF dz (fzF s t ans)) ∈ L → (ans, .lst (ansD s m t)) ∈ L → EvP K H0 G L (tProp CH (spX K (S_hdget CF CH fun t w => ocD t (wk t 0 w))) [] E0 (tVar 5)) (ocD t (wk t 0 w)) := fun hg mh mf ma => EvN.ev (en_propX (ev_var hg) (.inl mh) ⟨h, hdx, fz, dz, ans, s, m, t, _, rfl, rfl, rfl, TT, rfl⟩ fun p hp => ask mh mf ma p (List.mem_append_left _ hp))
  have arf : ∀ {G : Ga} {L : Hl} {te : TE} {w : List Nat}, EvP K H0 G L te (chs s m t (wk t 0 w)) → G[2]? = some (some (.int (m : Int))) → EvP K H0 G L (tCall (spF K S_arefr) [] E0 (tCons te (tCons (tVar 2) tNil))) (.bl true) := fun {G L te w} he hm => ev_call (ea_cons (EvP.cast he chs_eq) (ea_cons (ev_var hm) ea_nil)) ⟨m, _, rfl, TT.m2, fun o _ => Nat.lt_trans (cs2 w o).2 p44, rfl⟩
  have same : ∀ {G : Ga} {L : Hl} {te tf : TE} {i : Nat}, EvP K H0 G L te (chs s m t i) → EvP K H0 G L tf (chs s m t i) → EvP K H0 G L (tCall (spF K (S_same 3)) [] E0 (tCons te (tCons tf tNil))) (.bl true) := fun h1 h2 => ev_call (ea_cons h1 (ea_cons h2 ea_nil)) ⟨_, rfl, by rw [chs_eq]; exact pln_frs TT.m2, rfl⟩
  refine gq_for (fun G L => ∃ (v6 v7 v8 v9 v10 : Option D) (w : List Nat), G = [some (.ref l), some (.int (s : Int)), some (.int (m : Int)), some (tbD t), some (.ref c), some (.ref h), v6, v7, v8, v9, v10] ∧ (h, .ins CH hdx (hdF t fz w)) ∈ L ∧ (fz, .ins CF dz (fzF s t ans)) ∈ L ∧ (c, .ins CC cdx (chF s m t ans)) ∈ L ∧ (ans, .lst (ansD s m t)) ∈ L ∧ (∀ x ∈ w, x < s) ∧ w.length ≤ 8)
    (ei_tupN (P := fun ds => ∃ w : List Nat, ds = nD w ∧ (∀ x ∈ w, x < s) ∧ w.length ≤ 8) (en_call (ea_cons (cell 2 rfl ev_int) (ea_cons (ev_var rfl) (ea_cons ev_int ea_nil))) ⟨ns.getD 2 0, s, 8, rfl, by omega, by omega, by omega, rfl⟩ noZ) (fun d N h => by obtain ⟨w, rfl, rfl, h1, h2⟩ := h; exact ⟨_, rfl, rfl, w, rfl, h1, h2⟩)) (fun ds' W N hP => ?_) fun G L hM => ?_
  · obtain ⟨⟨tw, rfl, htw, htl⟩, rfl, rfl⟩ := hP
    refine ⟨fun i G L => i ≤ tw.length ∧ ∃ (v6 v7 v8 v9 v10 : Option D) (w : List Nat), G = [some (.ref l), some (.int (s : Int)), some (.int (m : Int)), some (tbD t), some (.ref c), some (.ref h), v6, v7, v8, v9, v10] ∧ (h, .ins CH hdx (hdF t fz w)) ∈ L ∧ (fz, .ins CF dz (fzF s t ans)) ∈ L ∧ (c, .ins CC cdx (chF s m t ans)) ∈ L ∧ (ans, .lst (ansD s m t)) ∈ L ∧ (∀ x ∈ w, x < s) ∧ w.length ≤ i,
      ⟨Nat.zero_le _, none, none, none, none, none, [], rfl, by simp, by simp, by simp, by simp, fun x hx => (nomatch hx), Nat.le_refl _⟩, fun _ _ _ _ => trivial, fun i d G L hd hI => ?_, fun G L hI => ?_⟩
    · obtain ⟨_, v6, v7, v8, v9, v10, w, rfl, mh, mf, mc, ma, hw, hwl⟩ := hI
      obtain ⟨x, hx, rfl⟩ := nD_of hd
      have hi : i < tw.length := (List.getElem?_eq_some_iff.mp hx).1
      have hxs : x < s := htw x (List.mem_of_getElem? hx)
      have hlt : wk t 0 w < t.length := wk_lt TT TT.n1
      obtain ⟨row, hrow⟩ := row_at hlt
      refine ⟨_, eg_name, ?_⟩
      refine gq_ifL (b := false) (et_or (b := false) (c := false) (et_not (tt := tB _) (et_B (arf (pch rfl mh mf ma) rfl))) (fun _ => et_not (b := true) (tt := tB _) (et_B (ev_call (ea_cons (EvP.cast (pch rfl mh mf ma) chs_eq) ea_nil) ⟨m, _, rfl, TT.m2, fun o _ => cs2 w o, X_sum TT RK hlt, rfl⟩)))) (fun h => by cases h) (fun _ => ?_)
      refine go_last (gq_if2 (et_B (ev_isN (poc rfl mh mf ma))) (fun hb => ?_) (fun hb => ?_))
      · -- nothing is decided
        obtain ⟨lr, hlr⟩ : ∃ lr, t[wk t 0 w]? = some (.go lr) := by
          cases row with
          | go lr => exact ⟨lr, hrow⟩
          | fin a => rw [oc_row hrow] at hb; cases hb
        obtain ⟨ll, llt⟩ := TT.go _ lr hlr
        have hgo : isGo t (wk t 0 w) = true := isGo_eq hlr
        have hst : ∀ k, k < s → wk t 0 (w ++ [k]) = lr.getD k 0 := fun k hk => by
          rw [wk_snoc]
          unfold stepT
          rw [hlr]
        have hdu : ∀ k, k < s → ∀ R : D → Hl → Prop, duo s t w [k] SE DE R = .ret R := fun k hk R => by
          unfold duo
          rw [if_pos (by simpa using hk), if_neg]
          show ¬ ((if isGo t (wk t 0 w) then decd t (stepT t (wk t 0 w) k) [] else true) = true)
          rw [if_pos hgo]
          exact Bool.false_ne_true
        refine gq_assoc (gq_new (o := .lst ((List.range s).map fun j => chs s m t (wk t 0 (w ++ [j])))) (EvN.imp (en_lcY (v := fun d => match d with | .int k => chs s m t (wk t 0 (w ++ [k.toNat])) | _ => .non) (ei_rng1 (n := (s : Int)) (ea_cons (ev_var rfl) ea_nil) (by omega) (by omega)) (fun _ => trivial) (fun d hd => ?_) (by rw [rngD_len]; omega)) fun d N h => ?_) fun la => ?_)
        · obtain ⟨k, hk⟩ := List.getElem?_of_mem hd
          have hks : k < s := by have h1 := (List.getElem?_eq_some_iff.mp hk).1; rw [rngD_len] at h1; omega
          rw [rngD_get (by omega)] at hk
          have hdk : d = .int (k : Int) := by rw [← Option.some.inj hk, Int.zero_add]
          subst hdk
          exact EvN.ev (en_mx (ev_var rfl) (.inl mh) (lookN rfl) (ea_cons (ev_tup (ds := nD [k]) (ea_cons (ev_var rfl) ea_nil) (by show 1 ≤ 100000; decide)) ea_nil) ⟨h, hdx, fz, dz, ans, s, m, t, w, [k], rfl, rfl, rfl, TT, by show w.length + 1 ≤ 1000; omega, (hdu k hks _).symm⟩ (ask mh mf ma))
        · obtain ⟨a, rfl, rfl⟩ := h
          refine ⟨a, rfl, ?_⟩
          unfold rngD
          rw [Int.toNat_natCast, List.map_map]
          congr 3
          refine List.map_congr_left fun k _ => ?_
          show chs s m t (wk t 0 (w ++ [((0 : Int) + (k : Int)).toNat])) = _
          rw [Int.zero_add, Int.toNat_natCast]
        have ml : (la, O.lst ((List.range s).map fun j => chs s m t (wk t 0 (w ++ [j])))) ∈ (la, O.lst ((List.range s).map fun j => chs s m t (wk t 0 (w ++ [j])))) :: L := List.mem_cons_self
        have mh' := List.mem_cons_of_mem (la, O.lst ((List.range s).map fun j => chs s m t (wk t 0 (w ++ [j])))) mh
        have mf' := List.mem_cons_of_mem (la, O.lst ((List.range s).map fun j => chs s m t (wk t 0 (w ++ [j])))) mf
        have mc' := List.mem_cons_of_mem (la, O.lst ((List.range s).map fun j => chs s m t (wk t 0 (w ++ [j])))) mc
        have ma' := List.mem_cons_of_mem (la, O.lst ((List.range s).map fun j => chs s m t (wk t 0 (w ++ [j])))) ma
        have lget : ∀ k, k < s → ((List.range s).map fun j => chs s m t (wk t 0 (w ++ [j])))[k]? = some (chs s m t (wk t 0 (w ++ [k]))) := fun k hk => by rw [List.getElem?_map, List.getElem?_range hk]; rfl
        refine gq_assoc (gq_ifL (b := false) (et_not (tt := tB _) (et_B (b := true) (EvP.cast (ev_allN (f := fun _ => true) (v := fun _ => .bl true) (en_lcY (v := fun _ => .bl true) (ei_list (ev_var rfl) (.inl ml)) (fun Z => .inl (List.mem_cons_of_mem _ ml)) (fun d hd => ?_) (by rw [List.length_map, List.length_range]; omega)) (fun _ _ => rfl)) ?_))) (fun h => by cases h) (fun _ => ?_))
        · obtain ⟨k, _, rfl⟩ := List.mem_map.mp hd
          exact arf (ev_var rfl) rfl
        · congr 1
          exact List.all_eq_true.mpr fun _ _ => rfl
        obtain ⟨e, he0, hez, hex⟩ := X_z TT RK
        have zl : ([(la, O.lst ((List.range s).map fun j => chs s m t (wk t 0 (w ++ [j]))))] : Hl) = [(la, .lst ((List.range s).map fun j => frs m fun o => X t.length (tabM s m t) o (wk t 0 (w ++ [j]))))] := by
          congr 3
          exact List.map_congr_left fun j _ => chs_eq
        have av : ∀ o, o < m → X t.length (tabM s m t) o (wk t 0 w) = (sm s fun j => X t.length (tabM s m t) o (wk t 0 (w ++ [j]))) / (s : Rat) := fun o ho => by
          rw [X_go TT RK hlr ho, lsum_at, ll]
          congr 1
          exact sm_congr fun j hj => by rw [hst j hj]
        refine gq_assoc (gq_ifL (b := false) (et_not (tt := tB _) (et_B (b := true) (ev_callR (Z := [(la, .lst ((List.range s).map fun j => chs s m t (wk t 0 (w ++ [j]))))]) (ea_cons (EvP.cast (pch rfl mh' mf' ma') chs_eq) (ea_cons (ev_var rfl) ea_nil)) ⟨m, s, _, fun j o => X t.length (tabM s m t) o (wk t 0 (w ++ [j])), la, e, rfl, zl, TT.m2, by omega, TT.s2, he0, hez, fun j o hj ho => hex o _ (wk_lt TT TT.n1), av, rfl⟩ (fun p hp => by rw [List.mem_singleton.mp hp]; exact .inl ml)))) (fun h => by cases h) (fun _ => ?_))
        obtain ⟨kh, hkh⟩ := List.getElem?_of_mem mh'
        refine go_nd fun hnd => ?_
        have fh : fz ≠ h := fun e => by
          subst e
          have := congrArg (fun o => match o with | O.ins _ _ ((_, D.ref _) :: _) => true | _ => false) (hl_inj hnd mf' mh')
          cases this
        have ch : c ≠ h := fun e => by
          subst e
          have := congrArg (fun o => match o with | O.ins _ _ ((_, D.ref _) :: _) => true | _ => false) (hl_inj hnd mc' mh')
          cases this
        have ah : ans ≠ h := fun e => by subst e; have := hl_inj hnd ma' mh'; cases this
        have lh : la ≠ h := fun e => by subst e; have := hl_inj hnd ml mh'; cases this
        refine gq_assoc (gq_dropM (em_mx (Z := [(fz, .ins CF dz (fzF s t ans))]) (ev_var rfl) hkh rfl (ea_cons (ev_var rfl) ea_nil) ⟨h, hdx, fz, dz, ans, s, m, t, w, x, rfl, rfl, rfl, TT, by omega, (hdu x hxs _).symm⟩ (fun p hp => by rw [List.mem_singleton.mp hp]; exact ⟨.inl mf', fh⟩) (fun d N h => ⟨_, [], h.2⟩)) fun e L' hL => ?_)
        obtain ⟨o', N', ⟨_, hN⟩, rfl⟩ := hL
        cases hN
        rw [List.nil_append]
        have mh2 : (h, O.ins CH hdx (hdF t fz (w ++ [x]))) ∈ _ := hl_put hkh
        have mf2 := hl_keep (o' := .ins CH hdx (hdF t fz (w ++ [x]))) hkh mf' fh
        have mc2 := hl_keep (o' := .ins CH hdx (hdF t fz (w ++ [x]))) hkh mc' ch
        have ma2 := hl_keep (o' := .ins CH hdx (hdF t fz (w ++ [x]))) hkh ma' ah
        have ml2 := hl_keep (o' := .ins CH hdx (hdF t fz (w ++ [x]))) hkh ml lh
        refine gq_assoc (gq_ifL (b := false) (et_not (tt := tB _) (et_B (same (pch rfl mh2 mf2 ma2) (ev_op (ev_var rfl) (ev_var rfl) (rv_ixL (.inl ml2) (atN (lget x hxs))))))) (fun h => by cases h) (fun _ => gq_nil (gq_nil (go_next ⟨hi, _, _, _, _, _, w ++ [x], rfl, mh2, mf2, mc2, ma2, fun y hy => (List.mem_append.mp hy).elim (hw y) fun z => by rw [List.mem_singleton.mp z]; exact hxs, by rw [List.length_append]; show w.length + 1 ≤ i + 1; omega⟩))))
      · exact gq_nil (gq_nil (go_next ⟨hi, _, _, _, _, _, w, rfl, mh, mf, mc, ma, hw, by omega⟩))
    · obtain ⟨hi, v6, v7, v8, v9, v10, w, rfl, mh, mf, mc, ma, hw, hwl⟩ := hI
      exact ⟨v6, v7, v8, v9, v10, w, rfl, mh, mf, mc, ma, hw, by rw [nD_len] at hwl; omega⟩
  obtain ⟨v6, v7, v8, v9, v10, w, rfl, mh, mf, mc, ma, hw, hwl⟩ := hM
  have hlt : wk t 0 w < t.length := wk_lt TT TT.n1
  obtain ⟨row, hrow⟩ := row_at hlt
  refine gq_ifL (b := false) ?_ (fun h => by cases h) (fun _ => ?_)
  · cases row with
    | go lr =>
      exact et_and (b := false) (c := false) (et_B (EvP.cast (ev_notN (poc rfl mh mf ma)) (by rw [oc_row hrow]; rfl))) (fun h => by cases h)
    | fin a =>
      have eo : ocD t (wk t 0 w) = .int (a : Int) := by rw [oc_row hrow]; rfl
      refine et_and (b := true) (c := false) (et_B (EvP.cast (ev_notN (poc rfl mh mf ma)) (by rw [eo]; rfl))) (fun _ => EvT.cast (et_test (ev_op (EvP.cast (pch rfl mh mf ma) chs_eq) (ev_call (ea_cons (EvP.cast (poc rfl mh mf ma) eo) (ea_cons (ev_var rfl) ea_nil)) ⟨a, m, rfl, TT.m2, rfl⟩) (rv_neD (b := true) pok_frs pok_frs (by decide) (by decide) ⟨fun _ => frs_congr fun o _ => X_fin TT RK hrow o, fun _ => rfl⟩))) rfl)
  refine gq_for0 (ei_rng1 (n := (w.length : Int)) (ea_cons (EvP.cast (ev_cb (ea_cons (pwd rfl mh mf ma) ea_nil) rc_lenT) (by rw [nD_len])) ea_nil) (by omega) (by omega)) (fun i G L => ∃ (v6 v7 v8 v9 v10 : Option D), G = [some (.ref l), some (.int (s : Int)), some (.int (m : Int)), some (tbD t), some (.ref c), some (.ref h), v6, v7, v8, v9, v10] ∧ (h, .ins CH hdx (hdF t fz (w.take (w.length - i)))) ∈ L ∧ (fz, .ins CF dz (fzF s t ans)) ∈ L ∧ (c, .ins CC cdx (chF s m t ans)) ∈ L ∧ (ans, .lst (ansD s m t)) ∈ L) ⟨v6, v7, v8, v9, v10, rfl, by rw [Nat.sub_zero, List.take_length]; exact mh, mf, mc, ma⟩ (fun _ _ _ _ => trivial) (fun i d G L hd hI => ?_) (fun G L hI => ?_)
  · obtain ⟨v6, v7, v8, v9, v10, rfl, mh, mf, mc, ma⟩ := hI
    have hi : i < w.length := by have h1 := (List.getElem?_eq_some_iff.mp hd).1; rw [rngD_len] at h1; omega
    refine ⟨_, eg_name, ?_⟩
    obtain ⟨kh, hkh⟩ := List.getElem?_of_mem mh
    refine go_nd fun hnd => ?_
    have fh : fz ≠ h := fun e => by
      subst e
      have := congrArg (fun o => match o with | O.ins _ _ ((_, D.ref _) :: _) => true | _ => false) (hl_inj hnd mf mh)
      cases this
    have ch : c ≠ h := fun e => by
      subst e
      have := congrArg (fun o => match o with | O.ins _ _ ((_, D.ref _) :: _) => true | _ => false) (hl_inj hnd mc mh)
      cases this
    have ah : ans ≠ h := fun e => by subst e; have := hl_inj hnd ma mh; cases this
    have hne : w.take (w.length - i) ≠ [] := fun z => by have := congrArg List.length z; rw [List.length_take] at this; simp at this; omega
    have hdl : (w.take (w.length - i)).dropLast = w.take (w.length - (i + 1)) := by
      rw [List.dropLast_eq_take, List.length_take, List.take_take]
      congr 1
      omega
    refine go_last (gq_dropM (em_mx (Z := []) (ev_var rfl) hkh rfl ea_nil ⟨h, hdx, fz, t, _, rfl, rfl, by rw [List.length_take]; omega, (if_neg hne).symm⟩ noZ (fun d N h => ⟨_, [], h.2⟩)) fun e L' hL => ?_)
    obtain ⟨o', N', ⟨_, hN⟩, rfl⟩ := hL
    cases hN
    rw [List.nil_append, hdl]
    exact go_next ⟨v6, _, v8, v9, v10, rfl, hl_put hkh, hl_keep hkh mf fh, hl_keep hkh mc ch, hl_keep hkh ma ah⟩
  · obtain ⟨v6, v7, v8, v9, v10, rfl, mh, mf, mc, ma⟩ := hI
    rw [rngD_len, Int.toNat_natCast, Nat.sub_self, List.take_zero] at mh
    exact gq_retP (same (i := 0) (pch (w := []) rfl mh mf ma) (EvN.ev (en_propX (ev_var rfl) (.inl mc) ⟨c, cdx, ans, s, m, t, rfl, rfl, rfl, TT, rfl⟩ (fun p hp => by
      rcases List.mem_cons.mp hp with rfl | hp
      · exact .inl mc
      · rw [List.mem_singleton.mp hp]; exact .inl ma)))) rfl
end
end Fc

namespace Fc
open PySem PySem.Spec PyProof.Rows L2
theorem im_pair {K : PySem.W.Frag} {a : Addr} {i j : Int} {ta tb : Tok} {n : Nat} {od : Option Addr} {sl : Array (Option Value)} (h : K.lookup a = some ⟨.type "tuple", od, .seq #[.int i ta, .int j tb] n, sl⟩) (H : Hp) : Im K H (.ref a) (.tup [.int i, .int j]) :=
  .tup (xs := [V.int i, V.int j]) (.inr ⟨_, _, n, h, rfl, rfl, by show 2 ≤ sizeLine; decide, .cons ⟨_, rfl⟩ (.cons ⟨_, rfl⟩ .nil)⟩) (.cons (.int i) (.cons (.int j) .nil))
theorem all_mk {l : PySem.W.OpenLaw} {w : World} {K : PySem.W.Frag} {h : Heap} {mg : Str → Option Value} {fa : Addr} {fq0 : Addr} {ocq0 kVq0 dcq0 pmq0 cdq0 ctq0 : Value} {odq0 anq0 : Option Addr} {slq0 : Array (Option Value)}
  {fq1 : Addr} {ocq1 kVq1 dcq1 pmq1 cdq1 ctq1 : Value} {odq1 anq1 : Option Addr} {slq1 : Array (Option Value)}
  {fq2 : Addr} {ocq2 kVq2 dcq2 pmq2 cdq2 ctq2 : Value} {odq2 anq2 : Option Addr} {slq2 : Array (Option Value)}
  {fq3 : Addr} {ocq3 kVq3 dcq3 pmq3 cdq3 ctq3 : Value} {odq3 anq3 : Option Addr} {slq3 : Array (Option Value)}
  {fq4 : Addr} {ocq4 kVq4 dcq4 pmq4 cdq4 ctq4 : Value} {odq4 anq4 : Option Addr} {slq4 : Array (Option Value)}
  {fq5 : Addr} {ocq5 kVq5 dcq5 pmq5 cdq5 ctq5 : Value} {odq5 anq5 : Option Addr} {slq5 : Array (Option Value)}
  {fq6 : Addr} {ocq6 kVq6 dcq6 pmq6 cdq6 ctq6 : Value} {odq6 anq6 : Option Addr} {slq6 : Array (Option Value)}
  {fq7 : Addr} {ocq7 kVq7 dcq7 pmq7 cdq7 ctq7 : Value} {odq7 anq7 : Option Addr} {slq7 : Array (Option Value)}
  {fq8 : Addr} {ocq8 kVq8 dcq8 pmq8 cdq8 ctq8 : Value} {odq8 anq8 : Option Addr} {slq8 : Array (Option Value)}
  {fq9 : Addr} {ocq9 kVq9 dcq9 pmq9 cdq9 ctq9 : Value} {odq9 anq9 : Option Addr} {slq9 : Array (Option Value)}
  {fq10 : Addr} {ocq10 kVq10 dcq10 pmq10 cdq10 ctq10 : Value} {odq10 anq10 : Option Addr} {slq10 : Array (Option Value)}
  {fq11 : Addr} {ocq11 kVq11 dcq11 pmq11 cdq11 ctq11 : Value} {odq11 anq11 : Option Addr} {slq11 : Array (Option Value)}
  {fq12 : Addr} {ocq12 kVq12 dcq12 pmq12 cdq12 ctq12 : Value} {odq12 anq12 : Option Addr} {slq12 : Array (Option Value)}
  {fq13 : Addr} {ocq13 kVq13 dcq13 pmq13 cdq13 ctq13 : Value} {odq13 anq13 : Option Addr} {slq13 : Array (Option Value)}
  {fq14 : Addr} {ocq14 kVq14 dcq14 pmq14 cdq14 ctq14 : Value} {odq14 anq14 : Option Addr} {slq14 : Array (Option Value)}
  {fq15 : Addr} {ocq15 kVq15 dcq15 pmq15 cdq15 ctq15 : Value} {odq15 anq15 : Option Addr} {slq15 : Array (Option Value)}
  {fq16 : Addr} {ocq16 kVq16 dcq16 pmq16 cdq16 ctq16 : Value} {odq16 anq16 : Option Addr} {slq16 : Array (Option Value)}
  {fq17 : Addr} {ocq17 kVq17 dcq17 pmq17 cdq17 ctq17 : Value} {odq17 anq17 : Option Addr} {slq17 : Array (Option Value)}
  {fq18 : Addr} {ocq18 kVq18 dcq18 pmq18 cdq18 ctq18 : Value} {odq18 anq18 : Option Addr} {slq18 : Array (Option Value)}
  {fq19 : Addr} {ocq19 kVq19 dcq19 pmq19 cdq19 ctq19 : Value} {odq19 anq19 : Option Addr} {slq19 : Array (Option Value)}
  {fq20 : Addr} {ocq20 kVq20 dcq20 pmq20 cdq20 ctq20 : Value} {odq20 anq20 : Option Addr} {slq20 : Array (Option Value)}
  {fq21 : Addr} {ocq21 kVq21 dcq21 pmq21 cdq21 ctq21 : Value} {odq21 anq21 : Option Addr} {slq21 : Array (Option Value)}
  {fq22 : Addr} {ocq22 kVq22 dcq22 pmq22 cdq22 ctq22 : Value} {odq22 anq22 : Option Addr} {slq22 : Array (Option Value)}
  {fq23 : Addr} {ocq23 kVq23 dcq23 pmq23 cdq23 ctq23 : Value} {odq23 anq23 : Option Addr} {slq23 : Array (Option Value)}
  {fq24 : Addr} {ocq24 kVq24 dcq24 pmq24 cdq24 ctq24 : Value} {odq24 anq24 : Option Addr} {slq24 : Array (Option Value)}
  {fq25 : Addr} {ocq25 kVq25 dcq25 pmq25 cdq25 ctq25 : Value} {odq25 anq25 : Option Addr} {slq25 : Array (Option Value)}
  {fq26 : Addr} {ocq26 kVq26 dcq26 pmq26 cdq26 ctq26 : Value} {odq26 anq26 : Option Addr} {slq26 : Array (Option Value)}
  {fq27 : Addr} {ocq27 kVq27 dcq27 pmq27 cdq27 ctq27 : Value} {odq27 anq27 : Option Addr} {slq27 : Array (Option Value)}
  {fm28 : Addr} {ocm28 kVm28 dcm28 pmm28 cdm28 ctm28 : Value} {odm28 anm28 : Option Addr} {slm28 : Array (Option Value)}
  {fm29 : Addr} {ocm29 kVm29 dcm29 pmm29 cdm29 ctm29 : Value} {odm29 anm29 : Option Addr} {slm29 : Array (Option Value)}
  {fm30 : Addr} {ocm30 kVm30 dcm30 pmm30 cdm30 ctm30 : Value} {odm30 anm30 : Option Addr} {slm30 : Array (Option Value)}
  {fm31 : Addr} {ocm31 kVm31 dcm31 pmm31 cdm31 ctm31 : Value} {odm31 anm31 : Option Addr} {slm31 : Array (Option Value)}
  {fm32 : Addr} {ocm32 kVm32 dcm32 pmm32 cdm32 ctm32 : Value} {odm32 anm32 : Option Addr} {slm32 : Array (Option Value)}
  {fm33 : Addr} {ocm33 kVm33 dcm33 pmm33 cdm33 ctm33 : Value} {odm33 anm33 : Option Addr} {slm33 : Array (Option Value)}
  {fm34 : Addr} {ocm34 kVm34 dcm34 pmm34 cdm34 ctm34 : Value} {odm34 anm34 : Option Addr} {slm34 : Array (Option Value)}
  {fm35 : Addr} {ocm35 kVm35 dcm35 pmm35 cdm35 ctm35 : Value} {odm35 anm35 : Option Addr} {slm35 : Array (Option Value)}
  {fm36 : Addr} {ocm36 kVm36 dcm36 pmm36 cdm36 ctm36 : Value} {odm36 anm36 : Option Addr} {slm36 : Array (Option Value)}
  {pp37 : Addr} {rep37 : List Value}
  {fp37 : Addr} {ocp37 kVp37 dcp37 pmp37 cdp37 ctp37 : Value} {odp37 anp37 : Option Addr} {slp37 : Array (Option Value)}
  {pp38 : Addr} {rep38 : List Value}
  {fp38 : Addr} {ocp38 kVp38 dcp38 pmp38 cdp38 ctp38 : Value} {odp38 anp38 : Option Addr} {slp38 : Array (Option Value)}
  {pp39 : Addr} {rep39 : List Value}
  {fp39 : Addr} {ocp39 kVp39 dcp39 pmp39 cdp39 ctp39 : Value} {odp39 anp39 : Option Addr} {slp39 : Array (Option Value)}
  {pp40 : Addr} {rep40 : List Value}
  {fp40 : Addr} {ocp40 kVp40 dcp40 pmp40 cdp40 ctp40 : Value} {odp40 anp40 : Option Addr} {slp40 : Array (Option Value)}
  {CC : Addr}
  {CF : Addr}
  {CH : Addr}
  {SE : Addr}
  {DE : Addr}
  {NE : Addr}
  {tols : Tok}
  {toms : Tok}
  {tomo : Tok}
  {tomst : Tok}
  {zzero : Addr} {tazero tbzero : Tok} {nzzero : Nat} {ozzero : Option Addr} {szzero : Array (Option Value)}
  {zone : Addr} {taone tbone : Tok} {nzone : Nat} {ozone : Option Addr} {szone : Array (Option Value)} (X : K.In h) (G : h.Ns mainGlobals mg) (hfa : mg "law" = some (.ref fa))
    (aq0 : PySem.W.nsIn K mainGlobals "is_integer" = some (some (.ref fq0)))
    (lq0 : K.lookup fq0 = some ⟨ocq0, odq0, .func (PySem.W.fnOf "is_integer" "is_integer" (defArgs s_is_integer) (defBody s_is_integer) (defScope s_is_integer) .none kVq0 dcq0 pmq0 anq0 cdq0 ctq0), slq0⟩)
    (cq0 : PySem.W.codeIn K cdq0 "is_integer" = true)
    (kq0 : PySem.W.keepIn K (.ref fq0) = true)
    (aq1 : PySem.W.nsIn K mainGlobals "is_between" = some (some (.ref fq1)))
    (lq1 : K.lookup fq1 = some ⟨ocq1, odq1, .func (PySem.W.fnOf "is_between" "is_between" (defArgs s_is_between) (defBody s_is_between) (defScope s_is_between) .none kVq1 dcq1 pmq1 anq1 cdq1 ctq1), slq1⟩)
    (cq1 : PySem.W.codeIn K cdq1 "is_between" = true)
    (kq1 : PySem.W.keepIn K (.ref fq1) = true)
    (aq2 : PySem.W.nsIn K mainGlobals "greatest_divisor" = some (some (.ref fq2)))
    (lq2 : K.lookup fq2 = some ⟨ocq2, odq2, .func (PySem.W.fnOf "greatest_divisor" "greatest_divisor" (defArgs s_greatest_divisor) (defBody s_greatest_divisor) (defScope s_greatest_divisor) .none kVq2 dcq2 pmq2 anq2 cdq2 ctq2), slq2⟩)
    (cq2 : PySem.W.codeIn K cdq2 "greatest_divisor" = true)
    (kq2 : PySem.W.keepIn K (.ref fq2) = true)
    (aq3 : PySem.W.nsIn K mainGlobals "ratio" = some (some (.ref fq3)))
    (lq3 : K.lookup fq3 = some ⟨ocq3, odq3, .func (PySem.W.fnOf "ratio" "ratio" (defArgs s_ratio) (defBody s_ratio) (defScope s_ratio) .none kVq3 dcq3 pmq3 anq3 cdq3 ctq3), slq3⟩)
    (cq3 : PySem.W.codeIn K cdq3 "ratio" = true)
    (kq3 : PySem.W.keepIn K (.ref fq3) = true)
    (aq4 : PySem.W.nsIn K mainGlobals "plus" = some (some (.ref fq4)))
    (lq4 : K.lookup fq4 = some ⟨ocq4, odq4, .func (PySem.W.fnOf "plus" "plus" (defArgs s_plus) (defBody s_plus) (defScope s_plus) .none kVq4 dcq4 pmq4 anq4 cdq4 ctq4), slq4⟩)
    (cq4 : PySem.W.codeIn K cdq4 "plus" = true)
    (kq4 : PySem.W.keepIn K (.ref fq4) = true)
    (aq5 : PySem.W.nsIn K mainGlobals "minus" = some (some (.ref fq5)))
    (lq5 : K.lookup fq5 = some ⟨ocq5, odq5, .func (PySem.W.fnOf "minus" "minus" (defArgs s_minus) (defBody s_minus) (defScope s_minus) .none kVq5 dcq5 pmq5 anq5 cdq5 ctq5), slq5⟩)
    (cq5 : PySem.W.codeIn K cdq5 "minus" = true)
    (kq5 : PySem.W.keepIn K (.ref fq5) = true)
    (aq6 : PySem.W.nsIn K mainGlobals "times" = some (some (.ref fq6)))
    (lq6 : K.lookup fq6 = some ⟨ocq6, odq6, .func (PySem.W.fnOf "times" "times" (defArgs s_times) (defBody s_times) (defScope s_times) .none kVq6 dcq6 pmq6 anq6 cdq6 ctq6), slq6⟩)
    (cq6 : PySem.W.codeIn K cdq6 "times" = true)
    (kq6 : PySem.W.keepIn K (.ref fq6) = true)
    (aq7 : PySem.W.nsIn K mainGlobals "over" = some (some (.ref fq7)))
    (lq7 : K.lookup fq7 = some ⟨ocq7, odq7, .func (PySem.W.fnOf "over" "over" (defArgs s_over) (defBody s_over) (defScope s_over) .none kVq7 dcq7 pmq7 anq7 cdq7 ctq7), slq7⟩)
    (cq7 : PySem.W.codeIn K cdq7 "over" = true)
    (kq7 : PySem.W.keepIn K (.ref fq7) = true)
    (aq8 : PySem.W.nsIn K mainGlobals "check_sides" = some (some (.ref fq8)))
    (lq8 : K.lookup fq8 = some ⟨ocq8, odq8, .func (PySem.W.fnOf "check_sides" "check_sides" (defArgs s_check_sides) (defBody s_check_sides) (defScope s_check_sides) .none kVq8 dcq8 pmq8 anq8 cdq8 ctq8), slq8⟩)
    (cq8 : PySem.W.codeIn K cdq8 "check_sides" = true)
    (kq8 : PySem.W.keepIn K (.ref fq8) = true)
    (aq9 : PySem.W.nsIn K mainGlobals "check_many" = some (some (.ref fq9)))
    (lq9 : K.lookup fq9 = some ⟨ocq9, odq9, .func (PySem.W.fnOf "check_many" "check_many" (defArgs s_check_many) (defBody s_check_many) (defScope s_check_many) .none kVq9 dcq9 pmq9 anq9 cdq9 ctq9), slq9⟩)
    (cq9 : PySem.W.codeIn K cdq9 "check_many" = true)
    (kq9 : PySem.W.keepIn K (.ref fq9) = true)
    (aq10 : PySem.W.nsIn K mainGlobals "is_state" = some (some (.ref fq10)))
    (lq10 : K.lookup fq10 = some ⟨ocq10, odq10, .func (PySem.W.fnOf "is_state" "is_state" (defArgs s_is_state) (defBody s_is_state) (defScope s_is_state) .none kVq10 dcq10 pmq10 anq10 cdq10 ctq10), slq10⟩)
    (cq10 : PySem.W.codeIn K cdq10 "is_state" = true)
    (kq10 : PySem.W.keepIn K (.ref fq10) = true)
    (aq11 : PySem.W.nsIn K mainGlobals "reached_from" = some (some (.ref fq11)))
    (lq11 : K.lookup fq11 = some ⟨ocq11, odq11, .func (PySem.W.fnOf "reached_from" "reached_from" (defArgs s_reached_from) (defBody s_reached_from) (defScope s_reached_from) .none kVq11 dcq11 pmq11 anq11 cdq11 ctq11), slq11⟩)
    (cq11 : PySem.W.codeIn K cdq11 "reached_from" = true)
    (kq11 : PySem.W.keepIn K (.ref fq11) = true)
    (aq12 : PySem.W.nsIn K mainGlobals "deciding" = some (some (.ref fq12)))
    (lq12 : K.lookup fq12 = some ⟨ocq12, odq12, .func (PySem.W.fnOf "deciding" "deciding" (defArgs s_deciding) (defBody s_deciding) (defScope s_deciding) .none kVq12 dcq12 pmq12 anq12 cdq12 ctq12), slq12⟩)
    (cq12 : PySem.W.codeIn K cdq12 "deciding" = true)
    (kq12 : PySem.W.keepIn K (.ref fq12) = true)
    (aq13 : PySem.W.nsIn K mainGlobals "is_table_by" = some (some (.ref fq13)))
    (lq13 : K.lookup fq13 = some ⟨ocq13, odq13, .func (PySem.W.fnOf "is_table_by" "is_table_by" (defArgs s_is_table_by) (defBody s_is_table_by) (defScope s_is_table_by) .none kVq13 dcq13 pmq13 anq13 cdq13 ctq13), slq13⟩)
    (cq13 : PySem.W.codeIn K cdq13 "is_table_by" = true)
    (kq13 : PySem.W.keepIn K (.ref fq13) = true)
    (aq14 : PySem.W.nsIn K mainGlobals "equations" = some (some (.ref fq14)))
    (lq14 : K.lookup fq14 = some ⟨ocq14, odq14, .func (PySem.W.fnOf "equations" "equations" (defArgs s_equations) (defBody s_equations) (defScope s_equations) .none kVq14 dcq14 pmq14 anq14 cdq14 ctq14), slq14⟩)
    (cq14 : PySem.W.codeIn K cdq14 "equations" = true)
    (kq14 : PySem.W.keepIn K (.ref fq14) = true)
    (aq15 : PySem.W.nsIn K mainGlobals "put_in" = some (some (.ref fq15)))
    (lq15 : K.lookup fq15 = some ⟨ocq15, odq15, .func (PySem.W.fnOf "put_in" "put_in" (defArgs s_put_in) (defBody s_put_in) (defScope s_put_in) .none kVq15 dcq15 pmq15 anq15 cdq15 ctq15), slq15⟩)
    (cq15 : PySem.W.codeIn K cdq15 "put_in" = true)
    (kq15 : PySem.W.keepIn K (.ref fq15) = true)
    (aq16 : PySem.W.nsIn K mainGlobals "solved" = some (some (.ref fq16)))
    (lq16 : K.lookup fq16 = some ⟨ocq16, odq16, .func (PySem.W.fnOf "solved" "solved" (defArgs s_solved) (defBody s_solved) (defScope s_solved) .none kVq16 dcq16 pmq16 anq16 cdq16 ctq16), slq16⟩)
    (cq16 : PySem.W.codeIn K cdq16 "solved" = true)
    (kq16 : PySem.W.keepIn K (.ref fq16) = true)
    (aq17 : PySem.W.nsIn K mainGlobals "_law_cell" = some (some (.ref fq17)))
    (lq17 : K.lookup fq17 = some ⟨ocq17, odq17, .func (PySem.W.fnOf "_law_cell" "_law_cell" (defArgs s__law_cell) (defBody s__law_cell) (defScope s__law_cell) .none kVq17 dcq17 pmq17 anq17 cdq17 ctq17), slq17⟩)
    (cq17 : PySem.W.codeIn K cdq17 "_law_cell" = true)
    (kq17 : PySem.W.keepIn K (.ref fq17) = true)
    (aq18 : PySem.W.nsIn K mainGlobals "_law_is_same" = some (some (.ref fq18)))
    (lq18 : K.lookup fq18 = some ⟨ocq18, odq18, .func (PySem.W.fnOf "_law_is_same" "_law_is_same" (defArgs s__law_is_same) (defBody s__law_is_same) (defScope s__law_is_same) .none kVq18 dcq18 pmq18 anq18 cdq18 ctq18), slq18⟩)
    (cq18 : PySem.W.codeIn K cdq18 "_law_is_same" = true)
    (kq18 : PySem.W.keepIn K (.ref fq18) = true)
    (aq19 : PySem.W.nsIn K mainGlobals "_law_draws" = some (some (.ref fq19)))
    (lq19 : K.lookup fq19 = some ⟨ocq19, odq19, .func (PySem.W.fnOf "_law_draws" "_law_draws" (defArgs s__law_draws) (defBody s__law_draws) (defScope s__law_draws) .none kVq19 dcq19 pmq19 anq19 cdq19 ctq19), slq19⟩)
    (cq19 : PySem.W.codeIn K cdq19 "_law_draws" = true)
    (kq19 : PySem.W.keepIn K (.ref fq19) = true)
    (aq20 : PySem.W.nsIn K mainGlobals "_law_table" = some (some (.ref fq20)))
    (lq20 : K.lookup fq20 = some ⟨ocq20, odq20, .func (PySem.W.fnOf "_law_table" "_law_table" (defArgs s__law_table) (defBody s__law_table) (defScope s__law_table) .none kVq20 dcq20 pmq20 anq20 cdq20 ctq20), slq20⟩)
    (cq20 : PySem.W.codeIn K cdq20 "_law_table" = true)
    (kq20 : PySem.W.keepIn K (.ref fq20) = true)
    (aq21 : PySem.W.nsIn K mainGlobals "_law_fraction" = some (some (.ref fq21)))
    (lq21 : K.lookup fq21 = some ⟨ocq21, odq21, .func (PySem.W.fnOf "_law_fraction" "_law_fraction" (defArgs s__law_fraction) (defBody s__law_fraction) (defScope s__law_fraction) .none kVq21 dcq21 pmq21 anq21 cdq21 ctq21), slq21⟩)
    (cq21 : PySem.W.codeIn K cdq21 "_law_fraction" = true)
    (kq21 : PySem.W.keepIn K (.ref fq21) = true)
    (aq22 : PySem.W.nsIn K mainGlobals "_law_word" = some (some (.ref fq22)))
    (lq22 : K.lookup fq22 = some ⟨ocq22, odq22, .func (PySem.W.fnOf "_law_word" "_law_word" (defArgs s__law_word) (defBody s__law_word) (defScope s__law_word) .none kVq22 dcq22 pmq22 anq22 cdq22 ctq22), slq22⟩)
    (cq22 : PySem.W.codeIn K cdq22 "_law_word" = true)
    (kq22 : PySem.W.keepIn K (.ref fq22) = true)
    (aq23 : PySem.W.nsIn K mainGlobals "_law_is_average" = some (some (.ref fq23)))
    (lq23 : K.lookup fq23 = some ⟨ocq23, odq23, .func (PySem.W.fnOf "_law_is_average" "_law_is_average" (defArgs s__law_is_average) (defBody s__law_is_average) (defScope s__law_is_average) .none kVq23 dcq23 pmq23 anq23 cdq23 ctq23), slq23⟩)
    (cq23 : PySem.W.codeIn K cdq23 "_law_is_average" = true)
    (kq23 : PySem.W.keepIn K (.ref fq23) = true)
    (aq24 : PySem.W.nsIn K mainGlobals "_law_unit" = some (some (.ref fq24)))
    (lq24 : K.lookup fq24 = some ⟨ocq24, odq24, .func (PySem.W.fnOf "_law_unit" "_law_unit" (defArgs s__law_unit) (defBody s__law_unit) (defScope s__law_unit) .none kVq24 dcq24 pmq24 anq24 cdq24 ctq24), slq24⟩)
    (cq24 : PySem.W.codeIn K cdq24 "_law_unit" = true)
    (kq24 : PySem.W.keepIn K (.ref fq24) = true)
    (aq25 : PySem.W.nsIn K mainGlobals "_law_are_fractions" = some (some (.ref fq25)))
    (lq25 : K.lookup fq25 = some ⟨ocq25, odq25, .func (PySem.W.fnOf "_law_are_fractions" "_law_are_fractions" (defArgs s__law_are_fractions) (defBody s__law_are_fractions) (defScope s__law_are_fractions) .none kVq25 dcq25 pmq25 anq25 cdq25 ctq25), slq25⟩)
    (cq25 : PySem.W.codeIn K cdq25 "_law_are_fractions" = true)
    (kq25 : PySem.W.keepIn K (.ref fq25) = true)
    (aq26 : PySem.W.nsIn K mainGlobals "_law_is_one" = some (some (.ref fq26)))
    (lq26 : K.lookup fq26 = some ⟨ocq26, odq26, .func (PySem.W.fnOf "_law_is_one" "_law_is_one" (defArgs s__law_is_one) (defBody s__law_is_one) (defScope s__law_is_one) .none kVq26 dcq26 pmq26 anq26 cdq26 ctq26), slq26⟩)
    (cq26 : PySem.W.codeIn K cdq26 "_law_is_one" = true)
    (kq26 : PySem.W.keepIn K (.ref fq26) = true)
    (aq27 : PySem.W.nsIn K mainGlobals "law" = some (some (.ref fq27)))
    (lq27 : K.lookup fq27 = some ⟨ocq27, odq27, .func (PySem.W.fnOf "law" "law" (defArgs s_law) (defBody s_law) (defScope s_law) .none kVq27 dcq27 pmq27 anq27 cdq27 ctq27), slq27⟩)
    (cq27 : PySem.W.codeIn K cdq27 "law" = true)
    (kq27 : PySem.W.keepIn K (.ref fq27) = true)
    (am28 : PySem.W.findIn K (.ref CC) "__init__" = some (some (.ref fm28)))
    (im28 : PySem.W.isFn K (.ref fm28) = true)
    (lm28 : K.lookup fm28 = some ⟨ocm28, odm28, .func (PySem.W.fnOf "__init__" "Chooser.__init__" (defArgs s_Chooseru_initu) (defBody s_Chooseru_initu) (defScope s_Chooseru_initu) .none kVm28 dcm28 pmm28 anm28 cdm28 ctm28), slm28⟩)
    (cm28 : PySem.W.codeIn K cdm28 "Chooser.__init__" = true)
    (km28 : PySem.W.keepIn K (.ref fm28) = true)
    (am29 : PySem.W.findIn K (.ref CC) "set_rows" = some (some (.ref fm29)))
    (im29 : PySem.W.isFn K (.ref fm29) = true)
    (lm29 : K.lookup fm29 = some ⟨ocm29, odm29, .func (PySem.W.fnOf "set_rows" "Chooser.set_rows" (defArgs s_Chooser_set_rows) (defBody s_Chooser_set_rows) (defScope s_Chooser_set_rows) .none kVm29 dcm29 pmm29 anm29 cdm29 ctm29), slm29⟩)
    (cm29 : PySem.W.codeIn K cdm29 "Chooser.set_rows" = true)
    (km29 : PySem.W.keepIn K (.ref fm29) = true)
    (am30 : PySem.W.findIn K (.ref CF) "__init__" = some (some (.ref fm30)))
    (im30 : PySem.W.isFn K (.ref fm30) = true)
    (lm30 : K.lookup fm30 = some ⟨ocm30, odm30, .func (PySem.W.fnOf "__init__" "Frozen.__init__" (defArgs s_Frozenu_initu) (defBody s_Frozenu_initu) (defScope s_Frozenu_initu) .none kVm30 dcm30 pmm30 anm30 cdm30 ctm30), slm30⟩)
    (cm30 : PySem.W.codeIn K cdm30 "Frozen.__init__" = true)
    (km30 : PySem.W.keepIn K (.ref fm30) = true)
    (am31 : PySem.W.findIn K (.ref CH) "__init__" = some (some (.ref fm31)))
    (im31 : PySem.W.isFn K (.ref fm31) = true)
    (lm31 : K.lookup fm31 = some ⟨ocm31, odm31, .func (PySem.W.fnOf "__init__" "Hand.__init__" (defArgs s_Handu_initu) (defBody s_Handu_initu) (defScope s_Handu_initu) .none kVm31 dcm31 pmm31 anm31 cdm31 ctm31), slm31⟩)
    (cm31 : PySem.W.codeIn K cdm31 "Hand.__init__" = true)
    (km31 : PySem.W.keepIn K (.ref fm31) = true)
    (am32 : PySem.W.findIn K (.ref CH) "path_after" = some (some (.ref fm32)))
    (im32 : PySem.W.isFn K (.ref fm32) = true)
    (lm32 : K.lookup fm32 = some ⟨ocm32, odm32, .func (PySem.W.fnOf "path_after" "Hand.path_after" (defArgs s_Hand_path_after) (defBody s_Hand_path_after) (defScope s_Hand_path_after) .none kVm32 dcm32 pmm32 anm32 cdm32 ctm32), slm32⟩)
    (cm32 : PySem.W.codeIn K cdm32 "Hand.path_after" = true)
    (km32 : PySem.W.keepIn K (.ref fm32) = true)
    (am33 : PySem.W.findIn K (.ref CH) "throw" = some (some (.ref fm33)))
    (im33 : PySem.W.isFn K (.ref fm33) = true)
    (lm33 : K.lookup fm33 = some ⟨ocm33, odm33, .func (PySem.W.fnOf "throw" "Hand.throw" (defArgs s_Hand_throw) (defBody s_Hand_throw) (defScope s_Hand_throw) .none kVm33 dcm33 pmm33 anm33 cdm33 ctm33), slm33⟩)
    (cm33 : PySem.W.codeIn K cdm33 "Hand.throw" = true)
    (km33 : PySem.W.keepIn K (.ref fm33) = true)
    (am34 : PySem.W.findIn K (.ref CH) "throw_all" = some (some (.ref fm34)))
    (im34 : PySem.W.isFn K (.ref fm34) = true)
    (lm34 : K.lookup fm34 = some ⟨ocm34, odm34, .func (PySem.W.fnOf "throw_all" "Hand.throw_all" (defArgs s_Hand_throw_all) (defBody s_Hand_throw_all) (defScope s_Hand_throw_all) .none kVm34 dcm34 pmm34 anm34 cdm34 ctm34), slm34⟩)
    (cm34 : PySem.W.codeIn K cdm34 "Hand.throw_all" = true)
    (km34 : PySem.W.keepIn K (.ref fm34) = true)
    (am35 : PySem.W.findIn K (.ref CH) "undo" = some (some (.ref fm35)))
    (im35 : PySem.W.isFn K (.ref fm35) = true)
    (lm35 : K.lookup fm35 = some ⟨ocm35, odm35, .func (PySem.W.fnOf "undo" "Hand.undo" (defArgs s_Hand_undo) (defBody s_Hand_undo) (defScope s_Hand_undo) .none kVm35 dcm35 pmm35 anm35 cdm35 ctm35), slm35⟩)
    (cm35 : PySem.W.codeIn K cdm35 "Hand.undo" = true)
    (km35 : PySem.W.keepIn K (.ref fm35) = true)
    (am36 : PySem.W.findIn K (.ref CH) "tried" = some (some (.ref fm36)))
    (im36 : PySem.W.isFn K (.ref fm36) = true)
    (lm36 : K.lookup fm36 = some ⟨ocm36, odm36, .func (PySem.W.fnOf "tried" "Hand.tried" (defArgs s_Hand_tried) (defBody s_Hand_tried) (defScope s_Hand_tried) .none kVm36 dcm36 pmm36 anm36 cdm36 ctm36), slm36⟩)
    (cm36 : PySem.W.codeIn K cdm36 "Hand.tried" = true)
    (km36 : PySem.W.keepIn K (.ref fm36) = true)
    (ap37 : PySem.W.findIn K (.ref CH) "word" = some (some (.ref pp37)))
    (gp37 : PySem.W.specialIn K (.ref pp37) "__get__" = some (some (.builtin "property.__get__")))
    (tp37 : PySem.W.takesIn K (.ref pp37) = some true)
    (rp37 : PySem.W.recIn K pp37 "property" = some (.ref fp37 :: rep37))
    (lp37 : K.lookup fp37 = some ⟨ocp37, odp37, .func (PySem.W.fnOf "word" "Hand.word" (defArgs s_Hand_word) (defBody s_Hand_word) (defScope s_Hand_word) .none kVp37 dcp37 pmp37 anp37 cdp37 ctp37), slp37⟩)
    (cp37 : PySem.W.codeIn K cdp37 "Hand.word" = true)
    (kp37 : PySem.W.keepIn K (.ref fp37) = true)
    (ap38 : PySem.W.findIn K (.ref CH) "outcome" = some (some (.ref pp38)))
    (gp38 : PySem.W.specialIn K (.ref pp38) "__get__" = some (some (.builtin "property.__get__")))
    (tp38 : PySem.W.takesIn K (.ref pp38) = some true)
    (rp38 : PySem.W.recIn K pp38 "property" = some (.ref fp38 :: rep38))
    (lp38 : K.lookup fp38 = some ⟨ocp38, odp38, .func (PySem.W.fnOf "outcome" "Hand.outcome" (defArgs s_Hand_outcome) (defBody s_Hand_outcome) (defScope s_Hand_outcome) .none kVp38 dcp38 pmp38 anp38 cdp38 ctp38), slp38⟩)
    (cp38 : PySem.W.codeIn K cdp38 "Hand.outcome" = true)
    (kp38 : PySem.W.keepIn K (.ref fp38) = true)
    (ap39 : PySem.W.findIn K (.ref CH) "chances" = some (some (.ref pp39)))
    (gp39 : PySem.W.specialIn K (.ref pp39) "__get__" = some (some (.builtin "property.__get__")))
    (tp39 : PySem.W.takesIn K (.ref pp39) = some true)
    (rp39 : PySem.W.recIn K pp39 "property" = some (.ref fp39 :: rep39))
    (lp39 : K.lookup fp39 = some ⟨ocp39, odp39, .func (PySem.W.fnOf "chances" "Hand.chances" (defArgs s_Hand_chances) (defBody s_Hand_chances) (defScope s_Hand_chances) .none kVp39 dcp39 pmp39 anp39 cdp39 ctp39), slp39⟩)
    (cp39 : PySem.W.codeIn K cdp39 "Hand.chances" = true)
    (kp39 : PySem.W.keepIn K (.ref fp39) = true)
    (ap40 : PySem.W.findIn K (.ref CC) "chances" = some (some (.ref pp40)))
    (gp40 : PySem.W.specialIn K (.ref pp40) "__get__" = some (some (.builtin "property.__get__")))
    (tp40 : PySem.W.takesIn K (.ref pp40) = some true)
    (rp40 : PySem.W.recIn K pp40 "property" = some (.ref fp40 :: rep40))
    (lp40 : K.lookup fp40 = some ⟨ocp40, odp40, .func (PySem.W.fnOf "chances" "Chooser.chances" (defArgs s_Chooser_chances) (defBody s_Chooser_chances) (defScope s_Chooser_chances) .none kVp40 dcp40 pmp40 anp40 cdp40 ctp40), slp40⟩)
    (cp40 : PySem.W.codeIn K cdp40 "Chooser.chances" = true)
    (kp40 : PySem.W.keepIn K (.ref fp40) = true)
    (gCC : PySem.W.nsIn K mainGlobals "Chooser" = some (some (.ref CC)))
    (pgCC : PySem.W.plainGet K CC Str.empty = true)
    (hdCC : PySem.W.hasDictIn K CC = true)
    (poCC : PySem.W.plainOver K CC = true)
    (saCC : PySem.W.findIn K (.ref CC) "__setattr__" = some (some (.builtin "object.__setattr__")))
    (mkCC : PySem.W.makesIn K CC = true)
    (kcCC : PySem.W.keepIn K (.ref CC) = true)
    (noCCsidecount : PySem.W.findIn K (.ref CC) "side_count" = some none)
    (noCCoutcomecount : PySem.W.findIn K (.ref CC) "outcome_count" = some none)
    (noCCrows : PySem.W.findIn K (.ref CC) "rows" = some none)
    (noCCanswers : PySem.W.findIn K (.ref CC) "answers" = some none)
    (gCF : PySem.W.nsIn K mainGlobals "Frozen" = some (some (.ref CF)))
    (pgCF : PySem.W.plainGet K CF Str.empty = true)
    (hdCF : PySem.W.hasDictIn K CF = true)
    (poCF : PySem.W.plainOver K CF = true)
    (saCF : PySem.W.findIn K (.ref CF) "__setattr__" = some (some (.builtin "object.__setattr__")))
    (mkCF : PySem.W.makesIn K CF = true)
    (kcCF : PySem.W.keepIn K (.ref CF) = true)
    (noCFsidecount : PySem.W.findIn K (.ref CF) "side_count" = some none)
    (noCFrows : PySem.W.findIn K (.ref CF) "rows" = some none)
    (noCFanswers : PySem.W.findIn K (.ref CF) "answers" = some none)
    (gCH : PySem.W.nsIn K mainGlobals "Hand" = some (some (.ref CH)))
    (pgCH : PySem.W.plainGet K CH Str.empty = true)
    (hdCH : PySem.W.hasDictIn K CH = true)
    (poCH : PySem.W.plainOver K CH = true)
    (saCH : PySem.W.findIn K (.ref CH) "__setattr__" = some (some (.builtin "object.__setattr__")))
    (mkCH : PySem.W.makesIn K CH = true)
    (kcCH : PySem.W.keepIn K (.ref CH) = true)
    (noCHcourse : PySem.W.findIn K (.ref CH) "course" = some none)
    (noCHline : PySem.W.findIn K (.ref CH) "line" = some none)
    (noCHpath : PySem.W.findIn K (.ref CH) "path" = some none)
    (gSE : PySem.W.nsIn K mainGlobals "SideError" = some (some (.ref SE)))
    (exSE : PySem.W.excIn K SE [.type "ValueError", .type "Exception", .type "BaseException", .type "object"] "ValueError.__new__" = true)
    (kcSE : PySem.W.keepIn K (.ref SE) = true)
    (sbSE : PySem.W.subIn K (.ref SE) (.type "BaseException") = some true)
    (tySE : PySem.W.typeIn K (.ref SE) = some (.type "type"))
    (gDE : PySem.W.nsIn K mainGlobals "DecidedError" = some (some (.ref DE)))
    (exDE : PySem.W.excIn K DE [.type "ValueError", .type "Exception", .type "BaseException", .type "object"] "ValueError.__new__" = true)
    (kcDE : PySem.W.keepIn K (.ref DE) = true)
    (sbDE : PySem.W.subIn K (.ref DE) (.type "BaseException") = some true)
    (tyDE : PySem.W.typeIn K (.ref DE) = some (.type "type"))
    (gNE : PySem.W.nsIn K mainGlobals "NothingThrownError" = some (some (.ref NE)))
    (exNE : PySem.W.excIn K NE [.type "ValueError", .type "Exception", .type "BaseException", .type "object"] "ValueError.__new__" = true)
    (kcNE : PySem.W.keepIn K (.ref NE) = true)
    (sbNE : PySem.W.subIn K (.ref NE) (.type "BaseException") = some true)
    (tyNE : PySem.W.typeIn K (.ref NE) = some (.type "type"))
    (cols : PySem.W.nsIn K mainGlobals "LEAST_SIDES" = some (some (.int (2) tols)))
    (coms : PySem.W.nsIn K mainGlobals "MOST_SIDES" = some (some (.int (6) toms)))
    (como : PySem.W.nsIn K mainGlobals "MOST_OUTCOMES" = some (some (.int (6) tomo)))
    (comst : PySem.W.nsIn K mainGlobals "MOST_STATES" = some (some (.int (100) tomst)))
    (gzero : PySem.W.nsIn K mainGlobals "ZERO" = some (some (.ref zzero)))
    (lzero : K.lookup zzero = some ⟨.type "tuple", ozzero, .seq #[.int 0 tazero, .int 1 tbzero] nzzero, szzero⟩)
    (gone : PySem.W.nsIn K mainGlobals "ONE" = some (some (.ref zone)))
    (lone : K.lookup zone = some ⟨.type "tuple", ozone, .seq #[.int 1 taone, .int 1 tbone] nzone, szone⟩)
    (zabs : PySem.W.nsIn K mainGlobals "abs" = some none)
    (zlen : PySem.W.nsIn K mainGlobals "len" = some none)
    (zall : PySem.W.nsIn K mainGlobals "all" = some none)
    (zany : PySem.W.nsIn K mainGlobals "any" = some none)
    (zisi : PySem.W.nsIn K mainGlobals "isinstance" = some none)
    (ztuple : PySem.W.nsIn K mainGlobals "tuple" = some none)
    (zdict : PySem.W.nsIn K mainGlobals "dict" = some none)
    (zint : PySem.W.nsIn K mainGlobals "int" = some none)
    (zbool : PySem.W.nsIn K mainGlobals "bool" = some none)
    (zstr : PySem.W.nsIn K mainGlobals "str" = some none)
    (zrange : PySem.W.nsIn K mainGlobals "range" = some none)
    (zzip : PySem.W.nsIn K mainGlobals "zip" = some none)
    (zenum : PySem.W.nsIn K mainGlobals "enumerate" = some none)
    (zsum : PySem.W.nsIn K mainGlobals "sum" = some none)
    (zsorted : PySem.W.nsIn K mainGlobals "sorted" = some none)
    (zlist : PySem.W.nsIn K mainGlobals "list" = some none)
    (zmax : PySem.W.nsIn K mainGlobals "max" = some none)
    (zmin : PySem.W.nsIn K mainGlobals "min" = some none) :
    ∃ fd : FuncData, (∀ (s : Shared) (v : Value), BindsTo s fd ⟨[v], []⟩ [("_law_script", v)]) ∧ ∀ base : Heap, K.In base → base.Ns mainGlobals mg → FnOk l.prog w K mg base CX0 9 fa fd ["_law_script"] (spF K S_law) := by
  have e := hfa.symm.trans (PySem.W.mg_of X G aq27)
  cases e
  have B : Bl mg := ⟨PySem.W.mg_none_of X G zabs, PySem.W.mg_none_of X G zlen, PySem.W.mg_none_of X G zall, PySem.W.mg_none_of X G zany, PySem.W.mg_none_of X G zisi, PySem.W.mg_none_of X G ztuple, PySem.W.mg_none_of X G zdict, PySem.W.mg_none_of X G zint, PySem.W.mg_none_of X G zbool, PySem.W.mg_none_of X G zstr, PySem.W.mg_none_of X G zrange, PySem.W.mg_none_of X G zzip, PySem.W.mg_none_of X G zenum, PySem.W.mg_none_of X G zsum, PySem.W.mg_none_of X G zsorted, PySem.W.mg_none_of X G zlist, PySem.W.mg_none_of X G zmax, PySem.W.mg_none_of X G zmin⟩
  have C : Cs K mg := ⟨⟨_, PySem.W.mg_of X G cols, ⟨_, rfl⟩⟩, ⟨_, PySem.W.mg_of X G coms, ⟨_, rfl⟩⟩, ⟨_, PySem.W.mg_of X G como, ⟨_, rfl⟩⟩, ⟨_, PySem.W.mg_of X G comst, ⟨_, rfl⟩⟩, ⟨_, PySem.W.mg_of X G gzero, im_pair lzero⟩, ⟨_, PySem.W.mg_of X G gone, im_pair lone⟩⟩
  have Kc : Kl K CC CF CH := ⟨⟨⟨pgCC, hdCC, poCC, saCC⟩, (fun f hf => by simp only [List.mem_cons, List.not_mem_nil, or_false] at hf; rcases hf with rfl | rfl | rfl | rfl <;> assumption)⟩, ⟨⟨pgCF, hdCF, poCF, saCF⟩, (fun f hf => by simp only [List.mem_cons, List.not_mem_nil, or_false] at hf; rcases hf with rfl | rfl | rfl <;> assumption)⟩, ⟨⟨pgCH, hdCH, poCH, saCH⟩, (fun f hf => by simp only [List.mem_cons, List.not_mem_nil, or_false] at hf; rcases hf with rfl | rfl | rfl <;> assumption)⟩⟩
  have gSideError : ErrG K mg "SideError" SE := ⟨PySem.W.mg_of X G gSE, exSE, kcSE, sbSE, tySE⟩
  have gDecidedError : ErrG K mg "DecidedError" DE := ⟨PySem.W.mg_of X G gDE, exDE, kcDE, sbDE, tyDE⟩
  have gNothingThrownError : ErrG K mg "NothingThrownError" NE := ⟨PySem.W.mg_of X G gNE, exNE, kcNE, sbNE, tyNE⟩
  have F_is_integer : FunG K mg "is_integer" s_is_integer := ⟨⟨fq0, _, fun_mk (st := s_is_integer) lq0 cq0 kq0, PySem.W.mg_of X G aq0⟩⟩
  have F_is_between : FunG K mg "is_between" s_is_between := ⟨⟨fq1, _, fun_mk (st := s_is_between) lq1 cq1 kq1, PySem.W.mg_of X G aq1⟩⟩
  have F_greatest_divisor : FunG K mg "greatest_divisor" s_greatest_divisor := ⟨⟨fq2, _, fun_mk (st := s_greatest_divisor) lq2 cq2 kq2, PySem.W.mg_of X G aq2⟩⟩
  have F_ratio : FunG K mg "ratio" s_ratio := ⟨⟨fq3, _, fun_mk (st := s_ratio) lq3 cq3 kq3, PySem.W.mg_of X G aq3⟩⟩
  have F_plus : FunG K mg "plus" s_plus := ⟨⟨fq4, _, fun_mk (st := s_plus) lq4 cq4 kq4, PySem.W.mg_of X G aq4⟩⟩
  have F_minus : FunG K mg "minus" s_minus := ⟨⟨fq5, _, fun_mk (st := s_minus) lq5 cq5 kq5, PySem.W.mg_of X G aq5⟩⟩
  have F_times : FunG K mg "times" s_times := ⟨⟨fq6, _, fun_mk (st := s_times) lq6 cq6 kq6, PySem.W.mg_of X G aq6⟩⟩
  have F_over : FunG K mg "over" s_over := ⟨⟨fq7, _, fun_mk (st := s_over) lq7 cq7 kq7, PySem.W.mg_of X G aq7⟩⟩
  have F_check_sides : FunG K mg "check_sides" s_check_sides := ⟨⟨fq8, _, fun_mk (st := s_check_sides) lq8 cq8 kq8, PySem.W.mg_of X G aq8⟩⟩
  have F_check_many : FunG K mg "check_many" s_check_many := ⟨⟨fq9, _, fun_mk (st := s_check_many) lq9 cq9 kq9, PySem.W.mg_of X G aq9⟩⟩
  have F_is_state : FunG K mg "is_state" s_is_state := ⟨⟨fq10, _, fun_mk (st := s_is_state) lq10 cq10 kq10, PySem.W.mg_of X G aq10⟩⟩
  have F_reached_from : FunG K mg "reached_from" s_reached_from := ⟨⟨fq11, _, fun_mk (st := s_reached_from) lq11 cq11 kq11, PySem.W.mg_of X G aq11⟩⟩
  have F_deciding : FunG K mg "deciding" s_deciding := ⟨⟨fq12, _, fun_mk (st := s_deciding) lq12 cq12 kq12, PySem.W.mg_of X G aq12⟩⟩
  have F_is_table_by : FunG K mg "is_table_by" s_is_table_by := ⟨⟨fq13, _, fun_mk (st := s_is_table_by) lq13 cq13 kq13, PySem.W.mg_of X G aq13⟩⟩
  have F_equations : FunG K mg "equations" s_equations := ⟨⟨fq14, _, fun_mk (st := s_equations) lq14 cq14 kq14, PySem.W.mg_of X G aq14⟩⟩
  have F_put_in : FunG K mg "put_in" s_put_in := ⟨⟨fq15, _, fun_mk (st := s_put_in) lq15 cq15 kq15, PySem.W.mg_of X G aq15⟩⟩
  have F_solved : FunG K mg "solved" s_solved := ⟨⟨fq16, _, fun_mk (st := s_solved) lq16 cq16 kq16, PySem.W.mg_of X G aq16⟩⟩
  have F__law_cell : FunG K mg "_law_cell" s__law_cell := ⟨⟨fq17, _, fun_mk (st := s__law_cell) lq17 cq17 kq17, PySem.W.mg_of X G aq17⟩⟩
  have F__law_is_same : FunG K mg "_law_is_same" s__law_is_same := ⟨⟨fq18, _, fun_mk (st := s__law_is_same) lq18 cq18 kq18, PySem.W.mg_of X G aq18⟩⟩
  have F__law_draws : FunG K mg "_law_draws" s__law_draws := ⟨⟨fq19, _, fun_mk (st := s__law_draws) lq19 cq19 kq19, PySem.W.mg_of X G aq19⟩⟩
  have F__law_table : FunG K mg "_law_table" s__law_table := ⟨⟨fq20, _, fun_mk (st := s__law_table) lq20 cq20 kq20, PySem.W.mg_of X G aq20⟩⟩
  have F__law_fraction : FunG K mg "_law_fraction" s__law_fraction := ⟨⟨fq21, _, fun_mk (st := s__law_fraction) lq21 cq21 kq21, PySem.W.mg_of X G aq21⟩⟩
  have F__law_word : FunG K mg "_law_word" s__law_word := ⟨⟨fq22, _, fun_mk (st := s__law_word) lq22 cq22 kq22, PySem.W.mg_of X G aq22⟩⟩
  have F__law_is_average : FunG K mg "_law_is_average" s__law_is_average := ⟨⟨fq23, _, fun_mk (st := s__law_is_average) lq23 cq23 kq23, PySem.W.mg_of X G aq23⟩⟩
  have F__law_unit : FunG K mg "_law_unit" s__law_unit := ⟨⟨fq24, _, fun_mk (st := s__law_unit) lq24 cq24 kq24, PySem.W.mg_of X G aq24⟩⟩
  have F__law_are_fractions : FunG K mg "_law_are_fractions" s__law_are_fractions := ⟨⟨fq25, _, fun_mk (st := s__law_are_fractions) lq25 cq25 kq25, PySem.W.mg_of X G aq25⟩⟩
  have F__law_is_one : FunG K mg "_law_is_one" s__law_is_one := ⟨⟨fq26, _, fun_mk (st := s__law_is_one) lq26 cq26 kq26, PySem.W.mg_of X G aq26⟩⟩
  have F_law : FunG K mg "law" s_law := ⟨⟨fa, _, fun_mk (st := s_law) lq27 cq27 kq27, hfa⟩⟩
  have F_Chooser___init__ : MakeG K mg "Chooser" CC "Chooser.__init__" s_Chooseru_initu := ⟨⟨fm28, _, fun_mk (st := s_Chooseru_initu) lm28 cm28 km28, ⟨mkCC, am28, im28, kcCC⟩, PySem.W.mg_of X G gCC⟩⟩
  have F_Chooser_set_rows : MethG K CC "set_rows" "Chooser.set_rows" s_Chooser_set_rows := ⟨⟨fm29, _, fun_mk (st := s_Chooser_set_rows) lm29 cm29 km29, ⟨am29, im29, km29⟩⟩⟩
  have F_Frozen___init__ : MakeG K mg "Frozen" CF "Frozen.__init__" s_Frozenu_initu := ⟨⟨fm30, _, fun_mk (st := s_Frozenu_initu) lm30 cm30 km30, ⟨mkCF, am30, im30, kcCF⟩, PySem.W.mg_of X G gCF⟩⟩
  have F_Hand___init__ : MakeG K mg "Hand" CH "Hand.__init__" s_Handu_initu := ⟨⟨fm31, _, fun_mk (st := s_Handu_initu) lm31 cm31 km31, ⟨mkCH, am31, im31, kcCH⟩, PySem.W.mg_of X G gCH⟩⟩
  have F_Hand_path_after : MethG K CH "path_after" "Hand.path_after" s_Hand_path_after := ⟨⟨fm32, _, fun_mk (st := s_Hand_path_after) lm32 cm32 km32, ⟨am32, im32, km32⟩⟩⟩
  have F_Hand_throw : MethG K CH "throw" "Hand.throw" s_Hand_throw := ⟨⟨fm33, _, fun_mk (st := s_Hand_throw) lm33 cm33 km33, ⟨am33, im33, km33⟩⟩⟩
  have F_Hand_throw_all : MethG K CH "throw_all" "Hand.throw_all" s_Hand_throw_all := ⟨⟨fm34, _, fun_mk (st := s_Hand_throw_all) lm34 cm34 km34, ⟨am34, im34, km34⟩⟩⟩
  have F_Hand_undo : MethG K CH "undo" "Hand.undo" s_Hand_undo := ⟨⟨fm35, _, fun_mk (st := s_Hand_undo) lm35 cm35 km35, ⟨am35, im35, km35⟩⟩⟩
  have F_Hand_tried : MethG K CH "tried" "Hand.tried" s_Hand_tried := ⟨⟨fm36, _, fun_mk (st := s_Hand_tried) lm36 cm36 km36, ⟨am36, im36, km36⟩⟩⟩
  have F_Hand_word : PropG K CH "word" "Hand.word" s_Hand_word := ⟨⟨pp37, fp37, _, fun_mk (st := s_Hand_word) lp37 cp37 kp37, ⟨ap37, gp37, tp37, _, rp37⟩⟩⟩
  have F_Hand_outcome : PropG K CH "outcome" "Hand.outcome" s_Hand_outcome := ⟨⟨pp38, fp38, _, fun_mk (st := s_Hand_outcome) lp38 cp38 kp38, ⟨ap38, gp38, tp38, _, rp38⟩⟩⟩
  have F_Hand_chances : PropG K CH "chances" "Hand.chances" s_Hand_chances := ⟨⟨pp39, fp39, _, fun_mk (st := s_Hand_chances) lp39 cp39 kp39, ⟨ap39, gp39, tp39, _, rp39⟩⟩⟩
  have F_Chooser_chances : PropG K CC "chances" "Chooser.chances" s_Chooser_chances := ⟨⟨pp40, fp40, _, fun_mk (st := s_Chooser_chances) lp40 cp40 kp40, ⟨ap40, gp40, tp40, _, rp40⟩⟩⟩
  refine ⟨PySem.W.fnOf "law" "law" (defArgs s_law) (defBody s_law) (defScope s_law) .none kVq27 dcq27 pmq27 anq27 cdq27 ctq27, fun s v => .of_eq rfl, fun base _ _ => ?_⟩
  have hI := ok_is_integer (P := l.prog) (w := w) (base := base) B F_is_integer
  have hB := ok_is_between (P := l.prog) (w := w) (base := base) B F_is_between hI
  have hG := ok_greatest_divisor (P := l.prog) (w := w) (base := base) B F_greatest_divisor
  have hR := ok_ratio B F_ratio hG
  have hP := ok_plus B F_plus hR
  have hM := ok_minus B F_minus hR
  have hT := ok_times B F_times hR
  have hV := ok_over B F_over hR
  have hCs := ok_check_sides B F_check_sides C hB
  have hCm := ok_check_many B F_check_many C hB
  have hS1 := ok_is_state B F_is_state hB
  have hRF := ok_reached_from (P := l.prog) (w := w) (base := base) B F_reached_from
  have hDE := ok_deciding (P := l.prog) (w := w) (base := base) B F_deciding
  have hIt := ok_is_table_by B F_is_table_by C hS1 hRF hDE
  have hE := ok_equations B F_equations C hP hR
  have hPI := ok_put_in B F_put_in C hP hT
  have hSo := ok_solved B F_solved C hP hM hT hV hE hPI
  have hSr := ok_Chooser_set_rows B F_Chooser_set_rows Kc hSo
  have hCi := ok_Chooseru_initu B F_Chooser___init__ Kc hCs hCm hIt hSr
  have hFz := ok_Frozenu_initu (P := l.prog) (w := w) (base := base) B F_Frozen___init__ Kc
  have hHi := ok_Handu_initu B F_Hand___init__ Kc hFz
  have hWd := ok_Hand_word (P := l.prog) (w := w) (base := base) B F_Hand_word Kc
  have hOc := ok_Hand_outcome (P := l.prog) (w := w) (base := base) B F_Hand_outcome Kc
  have hHc := ok_Hand_chances (P := l.prog) (w := w) (base := base) B F_Hand_chances Kc
  have hCc := ok_Chooser_chances (P := l.prog) (w := w) (base := base) B F_Chooser_chances Kc
  have hPa := ok_Hand_path_after B F_Hand_path_after Kc gSideError gDecidedError hB
  have hTa := ok_Hand_throw_all B F_Hand_throw_all Kc hPa
  have hTh := ok_Hand_throw B F_Hand_throw Kc hTa
  have hUn := ok_Hand_undo (P := l.prog) (w := w) (base := base) B F_Hand_undo Kc gNothingThrownError
  have hTr := ok_Hand_tried B F_Hand_tried Kc hPa
  have hLc := ok__law_cell (P := l.prog) (w := w) (base := base) B F__law_cell
  have hDr := ok__law_draws (P := l.prog) (w := w) (base := base) B F__law_draws
  have hTb := ok__law_table B F__law_table hDr
  have hN0 := pf_none (P := l.prog) (w := w) (base := base) F__law_is_same sc__law_is_same (fun _ _ _ _ _ _ us hl => match us, hl with | [_, _], _ => rfl)
  have hS0 := ok_same0 B F__law_is_same 0 rfl hN0
  have hSm1 := ok_sameS B F__law_is_same 0 hS0
  have hSm2 := ok_sameS B F__law_is_same 1 hSm1
  have hSm := ok_sameS B F__law_is_same 2 hSm2
  have hFr := ok__law_fraction (P := l.prog) (w := w) (base := base) B F__law_fraction
  have hWo := ok__law_word B F__law_word hDr
  have hAr := ok__law_are_fractions B F__law_are_fractions hFr
  have hIo := ok__law_is_one (P := l.prog) (w := w) (base := base) B F__law_is_one
  have hAv := ok__law_is_average B F__law_is_average hFr
  have hUt := ok__law_unit (P := l.prog) (w := w) (base := base) B F__law_unit
  exact ok_law B (fun_mk (st := s_law) lq27 cq27 kq27) Kc hLc hTb hSm hWo hAr hIo hAv hUt hCi hHi hCc hHc hWd hOc hTr hTh hUn
theorem walk {l : PySem.W.OpenLaw} {q : Program} {loose : List Str} {XP : (Str → Option Value) → Heap → Prop} {YP : World → Heap → Prop} {d : DefRec} {K : Params → PySem.W.Frag} (hn : l.most = some 63) (hdf : d.params.defaults = [])
    (hY : ∀ (w : World) (h : Heap), YP w h → (K w.params).In h)
    (F : ∀ (w : World) (mg : Str → Option Value) (fa : Addr) (h : Heap), (K w.params).In h → h.Ns mainGlobals mg → mg d.name = some (.ref fa) →
      ∃ fd : FuncData, (∀ (s : Shared) (u : Value), BindsTo s fd ⟨[u], []⟩ [("_law_script", u)]) ∧ ∀ base : Heap, (K w.params).In base → base.Ns mainGlobals mg → FnOk l.prog w (K w.params) mg base CX0 9 fa fd ["_law_script"] (spF (K w.params) S_law)) :
    PySem.W.WalkO q loose XP YP l.row.toRowW d [] (fun f vs => PySem.call f vs) :=
  L2.walk_ofK (n := 63) (k := 9) (x := "_law_script") (CX := CX0) (sp := fun K => spF K S_law) hn (by decide) hdf ⟨rfl, by decide, by decide⟩ hY F (fun K H a ns hl _ hS => ⟨[(a, .lst (ns.map D.int))], [.ref a], Val (.bl true), fun p hp => by rw [List.mem_singleton.mp hp]; exact ⟨_, hS, ImL.of_ints ns⟩, .cons (.ref a) .nil, ⟨a, ns, rfl, rfl, hl, rfl⟩, fun v H' d N r _ _ _ _ i => by cases r; cases i; rfl⟩) fun _ _ _ _ z => z
end Fc
open PySem PySem.W PyProof.Rows in
set_option maxRecDepth 100000 in
set_option maxHeartbeats 0 in
theorem PySem.Challenge.cw_flipchoice_k62_whole_chances_are_average_holds : PySem.Challenge.rw_flipchoice_k62_whole_chances_are_average.Holds := by
  w_on; o_law; k_head; (case hw => w_witness2)
  k_fill
  refine Fc.walk (l := PySem.Challenge.rw_flipchoice_k62_whole_chances_are_average) rfl rfl (fun w h Y => PySem.W.kIn_of Y) ?F
  case F =>
    intro w mg fa h KX G hmg
    refine' Fc.all_mk KX G hmg ?aq0 ?lq0 ?cq0 ?kq0 ?aq1 ?lq1 ?cq1 ?kq1 ?aq2 ?lq2 ?cq2 ?kq2 ?aq3 ?lq3 ?cq3 ?kq3 ?aq4 ?lq4 ?cq4 ?kq4 ?aq5 ?lq5 ?cq5 ?kq5 ?aq6 ?lq6 ?cq6 ?kq6 ?aq7 ?lq7 ?cq7 ?kq7 ?aq8 ?lq8 ?cq8 ?kq8 ?aq9 ?lq9 ?cq9 ?kq9 ?aq10 ?lq10 ?cq10 ?kq10 ?aq11 ?lq11 ?cq11 ?kq11 ?aq12 ?lq12 ?cq12 ?kq12 ?aq13 ?lq13 ?cq13 ?kq13 ?aq14 ?lq14 ?cq14 ?kq14 ?aq15 ?lq15 ?cq15 ?kq15 ?aq16 ?lq16 ?cq16 ?kq16 ?aq17 ?lq17 ?cq17 ?kq17 ?aq18 ?lq18 ?cq18 ?kq18 ?aq19 ?lq19 ?cq19 ?kq19 ?aq20 ?lq20 ?cq20 ?kq20 ?aq21 ?lq21 ?cq21 ?kq21 ?aq22 ?lq22 ?cq22 ?kq22 ?aq23 ?lq23 ?cq23 ?kq23 ?aq24 ?lq24 ?cq24 ?kq24 ?aq25 ?lq25 ?cq25 ?kq25 ?aq26 ?lq26 ?cq26 ?kq26 ?aq27 ?lq27 ?cq27 ?kq27 ?am28 ?im28 ?lm28 ?cm28 ?km28 ?am29 ?im29 ?lm29 ?cm29 ?km29 ?am30 ?im30 ?lm30 ?cm30 ?km30 ?am31 ?im31 ?lm31 ?cm31 ?km31 ?am32 ?im32 ?lm32 ?cm32 ?km32 ?am33 ?im33 ?lm33 ?cm33 ?km33 ?am34 ?im34 ?lm34 ?cm34 ?km34 ?am35 ?im35 ?lm35 ?cm35 ?km35 ?am36 ?im36 ?lm36 ?cm36 ?km36 ?ap37 ?gp37 ?tp37 ?rp37 ?lp37 ?cp37 ?kp37 ?ap38 ?gp38 ?tp38 ?rp38 ?lp38 ?cp38 ?kp38 ?ap39 ?gp39 ?tp39 ?rp39 ?lp39 ?cp39 ?kp39 ?ap40 ?gp40 ?tp40 ?rp40 ?lp40 ?cp40 ?kp40 ?gCC ?pgCC ?hdCC ?poCC ?saCC ?mkCC ?kcCC ?noCCsidecount ?noCCoutcomecount ?noCCrows ?noCCanswers ?gCF ?pgCF ?hdCF ?poCF ?saCF ?mkCF ?kcCF ?noCFsidecount ?noCFrows ?noCFanswers ?gCH ?pgCH ?hdCH ?poCH ?saCH ?mkCH ?kcCH ?noCHcourse ?noCHline ?noCHpath ?gSE ?exSE ?kcSE ?sbSE ?tySE ?gDE ?exDE ?kcDE ?sbDE ?tyDE ?gNE ?exNE ?kcNE ?sbNE ?tyNE ?cols ?coms ?como ?comst ?gzero ?lzero ?gone ?lone ?zabs ?zlen ?zall ?zany ?zisi ?ztuple ?zdict ?zint ?zbool ?zstr ?zrange ?zzip ?zenum ?zsum ?zsorted ?zlist ?zmax ?zmin
    (case gCC => k_is)
    (case gCF => k_is)
    (case gCH => k_is)
    (case gSE => k_is)
    (case gDE => k_is)
    (case gNE => k_is)
    (case aq0 => k_is)
    (case lq0 => k_is)
    (case cq0 => k_is)
    (case kq0 => k_is)
    (case aq1 => k_is)
    (case lq1 => k_is)
    (case cq1 => k_is)
    (case kq1 => k_is)
    (case aq2 => k_is)
    (case lq2 => k_is)
    (case cq2 => k_is)
    (case kq2 => k_is)
    (case aq3 => k_is)
    (case lq3 => k_is)
    (case cq3 => k_is)
    (case kq3 => k_is)
    (case aq4 => k_is)
    (case lq4 => k_is)
    (case cq4 => k_is)
    (case kq4 => k_is)
    (case aq5 => k_is)
    (case lq5 => k_is)
    (case cq5 => k_is)
    (case kq5 => k_is)
    (case aq6 => k_is)
    (case lq6 => k_is)
    (case cq6 => k_is)
    (case kq6 => k_is)
    (case aq7 => k_is)
    (case lq7 => k_is)
    (case cq7 => k_is)
    (case kq7 => k_is)
    (case aq8 => k_is)
    (case lq8 => k_is)
    (case cq8 => k_is)
    (case kq8 => k_is)
    (case aq9 => k_is)
    (case lq9 => k_is)
    (case cq9 => k_is)
    (case kq9 => k_is)
    (case aq10 => k_is)
    (case lq10 => k_is)
    (case cq10 => k_is)
    (case kq10 => k_is)
    (case aq11 => k_is)
    (case lq11 => k_is)
    (case cq11 => k_is)
    (case kq11 => k_is)
    (case aq12 => k_is)
    (case lq12 => k_is)
    (case cq12 => k_is)
    (case kq12 => k_is)
    (case aq13 => k_is)
    (case lq13 => k_is)
    (case cq13 => k_is)
    (case kq13 => k_is)
    (case aq14 => k_is)
    (case lq14 => k_is)
    (case cq14 => k_is)
    (case kq14 => k_is)
    (case aq15 => k_is)
    (case lq15 => k_is)
    (case cq15 => k_is)
    (case kq15 => k_is)
    (case aq16 => k_is)
    (case lq16 => k_is)
    (case cq16 => k_is)
    (case kq16 => k_is)
    (case aq17 => k_is)
    (case lq17 => k_is)
    (case cq17 => k_is)
    (case kq17 => k_is)
    (case aq18 => k_is)
    (case lq18 => k_is)
    (case cq18 => k_is)
    (case kq18 => k_is)
    (case aq19 => k_is)
    (case lq19 => k_is)
    (case cq19 => k_is)
    (case kq19 => k_is)
    (case aq20 => k_is)
    (case lq20 => k_is)
    (case cq20 => k_is)
    (case kq20 => k_is)
    (case aq21 => k_is)
    (case lq21 => k_is)
    (case cq21 => k_is)
    (case kq21 => k_is)
    (case aq22 => k_is)
    (case lq22 => k_is)
    (case cq22 => k_is)
    (case kq22 => k_is)
    (case aq23 => k_is)
    (case lq23 => k_is)
    (case cq23 => k_is)
    (case kq23 => k_is)
    (case aq24 => k_is)
    (case lq24 => k_is)
    (case cq24 => k_is)
    (case kq24 => k_is)
    (case aq25 => k_is)
    (case lq25 => k_is)
    (case cq25 => k_is)
    (case kq25 => k_is)
    (case aq26 => k_is)
    (case lq26 => k_is)
    (case cq26 => k_is)
    (case kq26 => k_is)
    (case aq27 => k_is)
    (case lq27 => k_is)
    (case cq27 => k_is)
    (case kq27 => k_is)
    (case am28 => k_is)
    (case im28 => k_is)
    (case lm28 => k_is)
    (case cm28 => k_is)
    (case km28 => k_is)
    (case am29 => k_is)
    (case im29 => k_is)
    (case lm29 => k_is)
    (case cm29 => k_is)
    (case km29 => k_is)
    (case am30 => k_is)
    (case im30 => k_is)
    (case lm30 => k_is)
    (case cm30 => k_is)
    (case km30 => k_is)
    (case am31 => k_is)
    (case im31 => k_is)
    (case lm31 => k_is)
    (case cm31 => k_is)
    (case km31 => k_is)
    (case am32 => k_is)
    (case im32 => k_is)
    (case lm32 => k_is)
    (case cm32 => k_is)
    (case km32 => k_is)
    (case am33 => k_is)
    (case im33 => k_is)
    (case lm33 => k_is)
    (case cm33 => k_is)
    (case km33 => k_is)
    (case am34 => k_is)
    (case im34 => k_is)
    (case lm34 => k_is)
    (case cm34 => k_is)
    (case km34 => k_is)
    (case am35 => k_is)
    (case im35 => k_is)
    (case lm35 => k_is)
    (case cm35 => k_is)
    (case km35 => k_is)
    (case am36 => k_is)
    (case im36 => k_is)
    (case lm36 => k_is)
    (case cm36 => k_is)
    (case km36 => k_is)
    (case ap37 => k_is)
    (case gp37 => k_is)
    (case tp37 => k_is)
    (case rp37 => k_is)
    (case lp37 => k_is)
    (case cp37 => k_is)
    (case kp37 => k_is)
    (case ap38 => k_is)
    (case gp38 => k_is)
    (case tp38 => k_is)
    (case rp38 => k_is)
    (case lp38 => k_is)
    (case cp38 => k_is)
    (case kp38 => k_is)
    (case ap39 => k_is)
    (case gp39 => k_is)
    (case tp39 => k_is)
    (case rp39 => k_is)
    (case lp39 => k_is)
    (case cp39 => k_is)
    (case kp39 => k_is)
    (case ap40 => k_is)
    (case gp40 => k_is)
    (case tp40 => k_is)
    (case rp40 => k_is)
    (case lp40 => k_is)
    (case cp40 => k_is)
    (case kp40 => k_is)
    (case pgCC => k_is)
    (case hdCC => k_is)
    (case poCC => k_is)
    (case saCC => k_is)
    (case mkCC => k_is)
    (case kcCC => k_is)
    (case noCCsidecount => k_is)
    (case noCCoutcomecount => k_is)
    (case noCCrows => k_is)
    (case noCCanswers => k_is)
    (case pgCF => k_is)
    (case hdCF => k_is)
    (case poCF => k_is)
    (case saCF => k_is)
    (case mkCF => k_is)
    (case kcCF => k_is)
    (case noCFsidecount => k_is)
    (case noCFrows => k_is)
    (case noCFanswers => k_is)
    (case pgCH => k_is)
    (case hdCH => k_is)
    (case poCH => k_is)
    (case saCH => k_is)
    (case mkCH => k_is)
    (case kcCH => k_is)
    (case noCHcourse => k_is)
    (case noCHline => k_is)
    (case noCHpath => k_is)
    (case exSE => k_exc)
    (case kcSE => k_is)
    (case sbSE => k_is)
    (case tySE => k_is)
    (case exDE => k_exc)
    (case kcDE => k_is)
    (case sbDE => k_is)
    (case tyDE => k_is)
    (case exNE => k_exc)
    (case kcNE => k_is)
    (case sbNE => k_is)
    (case tyNE => k_is)
    (case cols => k_is)
    (case coms => k_is)
    (case como => k_is)
    (case comst => k_is)
    (case gzero => k_is)
    (case lzero => k_is)
    (case gone => k_is)
    (case lone => k_is)
    (case zabs => k_is)
    (case zlen => k_is)
    (case zall => k_is)
    (case zany => k_is)
    (case zisi => k_is)
    (case ztuple => k_is)
    (case zdict => k_is)
    (case zint => k_is)
    (case zbool => k_is)
    (case zstr => k_is)
    (case zrange => k_is)
    (case zzip => k_is)
    (case zenum => k_is)
    (case zsum => k_is)
    (case zsorted => k_is)
    (case zlist => k_is)
    (case zmax => k_is)
    (case zmin => k_is)
